/-
 Products and what is left of them.
-/
import Derived.Test.YtidodcilgldjoaaGreatMA
import Derived.Test.YtidodcilgldjoaaGreatPlA
set_option linter.unusedVariables false
set_option linter.unusedSimpArgs false
namespace Go.Pl
open Go Go.Den
theorem PI {x y o c:Nat}(hx:x<18446744073709551616)(hy:y<18446744073709551616)(ho:o<18446744073709551616)(hc:c<18446744073709551616):
  ∃h l s c1 t c2 n:Nat,bits_Mul64 (x:Int) (y:Int)=some ((h:Int),(l:Int))∧bM (l:Int) (o:Int) 0=some ((s:Int),(c1:Int))∧bM (s:Int) (c:Int) 0=some ((t:Int),(c2:Int))∧
   IntKind.u64.wrap (IntKind.u64.wrap ((h:Int)+(c1:Int))+(c2:Int))=(n:Int)∧t<18446744073709551616∧n<18446744073709551616∧x*y+o+c=n*18446744073709551616+t:=by
 obtain⟨h,l,e1,e2,e3,e4⟩:=Tm hx hy
 obtain⟨s,c1,f1,f2,f3,f4⟩:=Ia e3 ho
 obtain⟨t,c2,g1,g2,g3,g4⟩:=Ia f3 hc
 have hm:x*y≤18446744073709551615*18446744073709551615:=Nat.mul_le_mul (by omega) (by omega)
 have hn:h+c1+c2<18446744073709551616:=by omega
 refine⟨h,l,s,c1,t,c2,h+c1+c2,e1,f1,g1,?_,g3,hn,by omega⟩
 simp(disch:=omega) only[CC,zQ]
theorem Rs {x y0 y1 y2 y3 o0 o1 o2 o3:Nat}(hx:x<18446744073709551616)(hy0:y0<18446744073709551616)(hy1:y1<18446744073709551616)(hy2:y2<18446744073709551616)(hy3:y3<18446744073709551616)
  (ho0:o0<18446744073709551616) (ho1:o1<18446744073709551616) (ho2:o2<18446744073709551616) (ho3:o3<18446744073709551616):
  ∃h0 l0 s0 c0 t0 d0 n0 h1 l1 s1 c1 t1 d1 n1 h2 l2 s2 c2 t2 d2 n2 h3 l3 s3 c3 t3 d3 n3:Nat,
   bits_Mul64 (x:Int) (y0:Int)=some ((h0:Int),(l0:Int))∧bM (l0:Int) (o0:Int) 0=some ((s0:Int),(c0:Int))∧bM (s0:Int) 0 0=some ((t0:Int),(d0:Int))∧IntKind.u64.wrap (IntKind.u64.wrap ((h0:Int)+(c0:Int))+(d0:Int))=(n0:Int)∧
   bits_Mul64 (x:Int) (y1:Int)=some ((h1:Int),(l1:Int))∧bM (l1:Int) (o1:Int) 0=some ((s1:Int),(c1:Int))∧bM (s1:Int) (n0:Int) 0=some ((t1:Int),(d1:Int))∧IntKind.u64.wrap (IntKind.u64.wrap ((h1:Int)+(c1:Int))+(d1:Int))=(n1:Int)∧
   bits_Mul64 (x:Int) (y2:Int)=some ((h2:Int),(l2:Int))∧bM (l2:Int) (o2:Int) 0=some ((s2:Int),(c2:Int))∧bM (s2:Int) (n1:Int) 0=some ((t2:Int),(d2:Int))∧IntKind.u64.wrap (IntKind.u64.wrap ((h2:Int)+(c2:Int))+(d2:Int))=(n2:Int)∧
   bits_Mul64 (x:Int) (y3:Int)=some ((h3:Int),(l3:Int))∧bM (l3:Int) (o3:Int) 0=some ((s3:Int),(c3:Int))∧bM (s3:Int) (n2:Int) 0=some ((t3:Int),(d3:Int))∧IntKind.u64.wrap (IntKind.u64.wrap ((h3:Int)+(c3:Int))+(d3:Int))=(n3:Int)∧
   t0<18446744073709551616∧t1<18446744073709551616∧t2<18446744073709551616∧t3<18446744073709551616∧n3<18446744073709551616∧
   x*(y0+y1*18446744073709551616+y2*340282366920938463463374607431768211456+y3*6277101735386680763835789423207666416102355444464034512896)+(o0+o1*18446744073709551616+o2*340282366920938463463374607431768211456+o3*6277101735386680763835789423207666416102355444464034512896)=
    t0+t1*18446744073709551616+t2*340282366920938463463374607431768211456+t3*6277101735386680763835789423207666416102355444464034512896+n3*115792089237316195423570985008687907853269984665640564039457584007913129639936:=by
 obtain⟨h0,l0,s0,c0,t0,d0,n0,p0,q0,r0,w0,bt0,bn0,e0⟩:=PI (c:=0) hx hy0 ho0 (by decide)
 obtain⟨h1,l1,s1,c1,t1,d1,n1,p1,q1,r1,w1,bt1,bn1,e1⟩:=PI hx hy1 ho1 bn0
 obtain⟨h2,l2,s2,c2,t2,d2,n2,p2,q2,r2,w2,bt2,bn2,e2⟩:=PI hx hy2 ho2 bn1
 obtain⟨h3,l3,s3,c3,t3,d3,n3,p3,q3,r3,w3,bt3,bn3,e3⟩:=PI hx hy3 ho3 bn2
 refine⟨h0,l0,s0,c0,t0,d0,n0,h1,l1,s1,c1,t1,d1,n1,h2,l2,s2,c2,t2,d2,n2,h3,l3,s3,c3,t3,d3,n3,p0,q0,r0,w0,p1,q1,r1,w1,p2,q2,r2,w2,p3,q3,r3,w3,bt0,bt1,bt2,bt3,bn3,?_⟩
 clear p0 q0 r0 w0 p1 q1 r1 w1 p2 q2 r2 w2 p3 q3 r3 w3 bt0 bt1 bt2 bt3 bn3 bn0 bn1 bn2 hx hy0 hy1 hy2 hy3 ho0 ho1 ho2 ho3
 simp only[Nat.mul_add,←Nat.mul_assoc]
 generalize x*y0=P0 at*
 generalize x*y1=P1 at*
 generalize x*y2=P2 at*
 generalize x*y3=P3 at*
 omega
theorem ah4 {P0 P1 P2 P3 t00 t01 t02 t03 t10 t11 t12 t13 t20 t21 t22 t23 t30 t31 t32 t33 n03 n13 n23 n33:Nat}
  (E0:P0+(0+0*18446744073709551616+0*340282366920938463463374607431768211456+0*6277101735386680763835789423207666416102355444464034512896)=t00+t01*18446744073709551616+t02*340282366920938463463374607431768211456+t03*6277101735386680763835789423207666416102355444464034512896+n03*115792089237316195423570985008687907853269984665640564039457584007913129639936)
  (E1:P1+(t01+t02*18446744073709551616+t03*340282366920938463463374607431768211456+n03*6277101735386680763835789423207666416102355444464034512896)=t10+t11*18446744073709551616+t12*340282366920938463463374607431768211456+t13*6277101735386680763835789423207666416102355444464034512896+n13*115792089237316195423570985008687907853269984665640564039457584007913129639936)
  (E2:P2+(t11+t12*18446744073709551616+t13*340282366920938463463374607431768211456+n13*6277101735386680763835789423207666416102355444464034512896)=t20+t21*18446744073709551616+t22*340282366920938463463374607431768211456+t23*6277101735386680763835789423207666416102355444464034512896+n23*115792089237316195423570985008687907853269984665640564039457584007913129639936)
  (E3:P3+(t21+t22*18446744073709551616+t23*340282366920938463463374607431768211456+n23*6277101735386680763835789423207666416102355444464034512896)=t30+t31*18446744073709551616+t32*340282366920938463463374607431768211456+t33*6277101735386680763835789423207666416102355444464034512896+n33*115792089237316195423570985008687907853269984665640564039457584007913129639936)
  :P0+P1*18446744073709551616+P2*340282366920938463463374607431768211456+P3*6277101735386680763835789423207666416102355444464034512896=(t00+t10*18446744073709551616+t20*340282366920938463463374607431768211456+t30*6277101735386680763835789423207666416102355444464034512896)+(t31+t32*18446744073709551616+t33*340282366920938463463374607431768211456+n33*6277101735386680763835789423207666416102355444464034512896)*2^256:=by
 simp only[Nat.reducePow]
 have G0:P0=t00+(t01+t02*18446744073709551616+t03*340282366920938463463374607431768211456+n03*6277101735386680763835789423207666416102355444464034512896)*18446744073709551616:=by clear E1 E2 E3; omega
 have G1:P1+(t01+t02*18446744073709551616+t03*340282366920938463463374607431768211456+n03*6277101735386680763835789423207666416102355444464034512896)=t10+(t11+t12*18446744073709551616+t13*340282366920938463463374607431768211456+n13*6277101735386680763835789423207666416102355444464034512896)*18446744073709551616:=by clear E0 E2 E3 G0; omega
 have G2:P2+(t11+t12*18446744073709551616+t13*340282366920938463463374607431768211456+n13*6277101735386680763835789423207666416102355444464034512896)=t20+(t21+t22*18446744073709551616+t23*340282366920938463463374607431768211456+n23*6277101735386680763835789423207666416102355444464034512896)*18446744073709551616:=by clear E0 E1 E3 G0 G1; omega
 have G3:P3+(t21+t22*18446744073709551616+t23*340282366920938463463374607431768211456+n23*6277101735386680763835789423207666416102355444464034512896)=t30+(t31+t32*18446744073709551616+t33*340282366920938463463374607431768211456+n33*6277101735386680763835789423207666416102355444464034512896)*18446744073709551616:=by clear E0 E1 E2 G0 G1 G2; omega
 clear E0 E1 E2 E3
 generalize t01+t02*18446744073709551616+t03*340282366920938463463374607431768211456+n03*6277101735386680763835789423207666416102355444464034512896=A1 at*
 generalize t11+t12*18446744073709551616+t13*340282366920938463463374607431768211456+n13*6277101735386680763835789423207666416102355444464034512896=A2 at*
 generalize t21+t22*18446744073709551616+t23*340282366920938463463374607431768211456+n23*6277101735386680763835789423207666416102355444464034512896=A3 at*
 generalize t31+t32*18446744073709551616+t33*340282366920938463463374607431768211456+n33*6277101735386680763835789423207666416102355444464034512896=A4 at*
 omega
theorem Jo {a b:Nat→Int} {n m:Nat}(ha:IsN a n)(hb:IsN b m): ∃lo hi,Cm a b=some (lo,hi)∧IsN lo (n*m%2^256)∧IsN hi (n*m/2^256):=by
 rw[NZ]; unfold Hg
 obtain⟨x0,x1,x2,x3,e0,e1,e2,e3,h0,h1,h2,h3,hn⟩:=ha.get
 obtain⟨y0,y1,y2,y3,f0,f1,f2,f3,g0,g1,g2,g3,hm⟩:=hb.get
 simp only[e0,e1,e2,e3,f0,f1,f2,f3]
 rw[←hm.symm]at hb
 obtain⟨h00,l00,s00,c00,t00,d00,n00,h01,l01,s01,c01,t01,d01,n01,h02,l02,s02,c02,t02,d02,n02,h03,l03,s03,c03,t03,d03,n03,p00,q00,r00,w00,p01,q01,r01,w01,p02,q02,r02,w02,p03,q03,r03,w03,b00,b01,b02,b03,bn0,E0⟩:=Rs (o0:=0) (o1:=0) (o2:=0) (o3:=0) h0 g0 g1 g2 g3 (by decide) (by decide) (by decide) (by decide)
 simp only[Int.ofNat_zero]at q00 q01 q02 q03
 simp only[p00,q00,r00,w00,p01,q01,r01,w01,p02,q02,r02,w02,p03,q03,r03,w03]
 clear p00 q00 r00 w00 p01 q01 r01 w01 p02 q02 r02 w02 p03 q03 r03 w03
 obtain⟨h10,l10,s10,c10,t10,d10,n10,h11,l11,s11,c11,t11,d11,n11,h12,l12,s12,c12,t12,d12,n12,h13,l13,s13,c13,t13,d13,n13,p10,q10,r10,w10,p11,q11,r11,w11,p12,q12,r12,w12,p13,q13,r13,w13,b10,b11,b12,b13,bn1,E1⟩:=Rs h1 g0 g1 g2 g3 b01 b02 b03 bn0
 simp only[p10,q10,r10,w10,p11,q11,r11,w11,p12,q12,r12,w12,p13,q13,r13,w13]
 clear p10 q10 r10 w10 p11 q11 r11 w11 p12 q12 r12 w12 p13 q13 r13 w13
 obtain⟨h20,l20,s20,c20,t20,d20,n20,h21,l21,s21,c21,t21,d21,n21,h22,l22,s22,c22,t22,d22,n22,h23,l23,s23,c23,t23,d23,n23,p20,q20,r20,w20,p21,q21,r21,w21,p22,q22,r22,w22,p23,q23,r23,w23,b20,b21,b22,b23,bn2,E2⟩:=Rs h2 g0 g1 g2 g3 b11 b12 b13 bn1
 simp only[p20,q20,r20,w20,p21,q21,r21,w21,p22,q22,r22,w22,p23,q23,r23,w23]
 clear p20 q20 r20 w20 p21 q21 r21 w21 p22 q22 r22 w22 p23 q23 r23 w23
 obtain⟨h30,l30,s30,c30,t30,d30,n30,h31,l31,s31,c31,t31,d31,n31,h32,l32,s32,c32,t32,d32,n32,h33,l33,s33,c33,t33,d33,n33,p30,q30,r30,w30,p31,q31,r31,w31,p32,q32,r32,w32,p33,q33,r33,w33,b30,b31,b32,b33,bn3,E3⟩:=Rs h3 g0 g1 g2 g3 b21 b22 b23 bn2
 simp only[p30,q30,r30,w30,p31,q31,r31,w31,p32,q32,r32,w32,p33,q33,r33,w33]
 clear p30 q30 r30 w30 p31 q31 r31 w31 p32 q32 r32 w32 p33 q33 r33 w33
 have hlo:=(ah2 (f:=fun _=>0) b00 b10 b20 b30).1
 have hnm:n*m=(t00+t10*18446744073709551616+t20*340282366920938463463374607431768211456+t30*6277101735386680763835789423207666416102355444464034512896)+(t31+t32*18446744073709551616+t33*340282366920938463463374607431768211456+n33*6277101735386680763835789423207666416102355444464034512896)*2^256:=by
  rw[←ah4 (P0:=x0*m) (P1:=x1*m) (P2:=x2*m) (P3:=x3*m) (by rw[hm]; exact E0) (by rw[hm]; exact E1) (by rw[hm]; exact E2) (by rw[hm]; exact E3),hn]
  simp only[Nat.add_mul,Nat.mul_right_comm _ _ m]
 refine⟨_,_,rfl,(IsN.mk (x0:=t00) (x1:=t10) (x2:=t20) (x3:=t30) rfl rfl rfl rfl b00 b10 b20 b30).of_eq ?_,(IsN.mk (x0:=t31) (x1:=t32) (x2:=t33) (x3:=n33) rfl rfl rfl rfl b31 b32 b33 bn3).of_eq ?_⟩
 ·rw[hnm,Nat.add_mul_mod_self_right,Nat.mod_eq_of_lt hlo]
 ·rw[hnm,Nat.add_mul_div_right _ _ (by decide),Nat.div_eq_of_lt hlo,Nat.zero_add]
end Go.Pl
namespace Go.Pl
open Go Go.Den
theorem Nb {B l a m:Nat}(hm:0<m): ∀u,((l*B+a)*B+u)/m=(l*B+a)/m*B+((l*B+a)%m*B+u)/m∧((l*B+a)*B+u)%m=((l*B+a)%m*B+u)%m:=by
 intro u
 have h1:=Nat.div_add_mod (l*B+a) m
 generalize l*B+a=U at*
 have h2:U*B+u=(U%m*B+u)+m*(U/m*B):=by
  conv=>lhs; rw[←h1]
  rw[Nat.add_mul,Nat.mul_assoc]; omega
 rw[h2,Nat.add_mul_div_left _ _ hm,Nat.add_mul_mod_self_left]
 exact⟨Nat.add_comm .., rfl⟩
theorem LZ {r x m:Nat}(hr:r<m)(hx:x<18446744073709551616):(r*18446744073709551616+x)/m<18446744073709551616:=by
 rw[Nat.div_lt_iff_lt_mul (by omega)]
 have:(r+1)*18446744073709551616≤m*18446744073709551616:=Nat.mul_le_mul_right _ hr
 rw[Nat.mul_comm _ m]; omega
theorem OV {a:Nat→Int} {n l m:Nat}(ha:IsN a n)(hm:m<18446744073709551616)(hl:l<m):
  ∃q r,Dw a (l:Int) (m:Int)=some (q,r)∧IsN q ((l*2^256+n)/m)∧IsN r ((l*2^256+n)%m):=by
 rw[IU]; unfold Az
 obtain⟨x0,x1,x2,x3,e0,e1,e2,e3,h0,h1,h2,h3,hn⟩:=ha.get
 have hm0:0<m:=by omega
 simp only[e0,e1,e2,e3]
 have lt3:=Nat.mod_lt (l*18446744073709551616+x3) hm0
 have lt2:=Nat.mod_lt ((l*18446744073709551616+x3)%m*18446744073709551616+x2) hm0
 have lt1:=Nat.mod_lt (((l*18446744073709551616+x3)%m*18446744073709551616+x2)%m*18446744073709551616+x1) hm0
 rw[qV hm hl h3]
 simp only[]
 rw[qV hm lt3 h2]
 simp only[]
 rw[qV hm lt2 h1]
 simp only[]
 rw[qV hm lt1 h0]
 simp only[]
 have E:l*2^256+n=(((l*18446744073709551616+x3)*18446744073709551616+x2)*18446744073709551616+x1)*18446744073709551616+x0:=by
  simp only[Nat.reducePow]; omega
 have d2:=Nb (B:=18446744073709551616) (l:=l) (a:=x3) hm0 x2
 have d1:=Nb (B:=18446744073709551616) (l:=l*18446744073709551616+x3) (a:=x2) hm0 x1
 have d0:=Nb (B:=18446744073709551616) (l:=(l*18446744073709551616+x3)*18446744073709551616+x2) (a:=x1) hm0 x0
 refine⟨_,_,rfl,?_,?_⟩
 ·refine IsN.of_eq (IsN.mk rfl rfl rfl rfl (LZ lt1 h0) (LZ lt2 h1) (LZ lt3 h2) (LZ hl h3)) ?_
  rw[E,d0.1,d1.1,d2.1,d1.2,d2.2]
  omega
 ·refine(IsN.small (Nat.lt_trans (Nat.mod_lt _ hm0) hm)).of_eq ?_
  rw[E,d0.2,d1.2,d2.2]
theorem IsN.setbit {a:Nat→Int} {v k:Nat}(h:IsN a v)(hk:k<256): ∃w:Nat,a (k/64)=(w:Int)∧w<18446744073709551616∧IsN (upd a (k/64) ((w||| 2^(k%64):Nat):Int)) (v||| 2^k):=by
 obtain⟨w,h1,h2,h3⟩:=h.bit (i:=k/64) (by omega)
 refine⟨w,h1,h2,IsN.ofBits (Nat.or_lt_two_pow h.1 (Nat.pow_lt_pow_right (by decide) hk)) fun i hi=>?_⟩
 by_cases e:i=k/64
 ·subst e
  refine⟨_,upd_same _ _ _,Nat.or_lt_two_pow (n:=64) h2 (Nat.pow_lt_pow_right (by decide) (by omega)),fun j hj=>?_⟩
  rw[Nat.testBit_or,Nat.testBit_or,h3 j hj,Nat.testBit_two_pow,Nat.testBit_two_pow]
  congr 1; rw[decide_eq_decide]; omega
 ·obtain⟨u,g1,g2,g3⟩:=h.bit hi
  refine⟨u,by rw[upd_ne e,g1],g2,fun j hj=>?_⟩
  rw[g3 j hj,Nat.testBit_or,Nat.testBit_two_pow,decide_eq_false (show¬k=64*i+j by omega),Bool.or_false]
theorem IsN.orlow {a:Nat→Int} {v b:Nat}(h:IsN a v)(hv:v%2=0)(hb:b≤1): ∃w:Nat,a 0=(w:Int)∧w<18446744073709551616∧IsN (upd a 0 ((w||| b:Nat):Int)) (v+b):=by
 have hbb:b=0∨b=1:=by omega
 obtain⟨w,h1,h2,h3⟩:=h.setbit (k:=0) (by decide)
 refine⟨w,h1,h2,?_⟩
 rcases hbb with rfl|rfl
 ·rw[Nat.or_zero]
  have:upd a 0 (w:Int)=a:=by
   funext i; unfold upd; split
   ·rename_i e; rw[e]; exact h1.symm
   ·rfl
  rw[this]; exact h
 ·refine h3.of_eq ?_
  have:=Nat.two_pow_add_eq_or_of_lt (i:=1) (b:=1) (by decide) (v/2)
  rw[show 2^1*(v/2)=v by omega]at this
  exact this.symm
theorem testBit_toNat {n k:Nat} :(if n.testBit k then 1 else 0:Nat)=n/2^k%2:=by
 rw[Nat.testBit_eq_decide_div_mod_eq]
 have:n/2^k%2=0∨n/2^k%2=1:=by omega
 rcases this with h|h<;>simp[h]
theorem a3a {A Q M L b:Nat}(h:A=Q*M+L)(hL:L<M):(¬2*L+b<M→b≤1→2*A+b=(2*Q+1)*M+(2*L+b-M)∧2*L+b-M<M)∧(2*L+b<M→2*A+b=(2*Q)*M+(2*L+b)):=by
 refine⟨fun h1 h2=>⟨?_,by omega⟩,fun h1=>?_⟩
 ·rw[h,Nat.add_mul,Nat.one_mul,Nat.mul_add,Nat.mul_assoc]; omega
 ·rw[h,Nat.mul_add,Nat.mul_assoc]; omega
theorem aan {A Q M L:Nat}(h:A=Q*M+L)(hL:L<M):A/M=Q∧A%M=L:=by
 subst h
 rw[Nat.add_comm,Nat.add_mul_div_right _ _ (by omega),Nat.add_mul_mod_self_right,Nat.div_eq_of_lt hL,Nat.mod_eq_of_lt hL]
 exact⟨Nat.zero_add _,rfl⟩
theorem vK {a left m:Nat→Int} {n l M:Nat}(ha:IsN a n)(hl:IsN left l)(hm:IsN m M)(hlt:l<M):
  ∃q r,rV a left m=some (q,r)∧IsN q ((l*2^256+n)/M)∧IsN r ((l*2^256+n)%M):=by
 rw[FC]; unfold yD
 obtain⟨c1,c2,x0,c3,c4⟩:=hm.low
 rw[c1]
 by_cases hM:M<18446744073709551616
 ·rw[c2 hM,hl.low.2.1 (by omega)]
  obtain⟨q,r,h1,h2,h3⟩:=OV ha hM hlt
  simp(disch:=omega) only[WW,h1]
  exact⟨q,r,rfl,h2,h3⟩
 ·simp(disch:=omega) only[WW]
  generalize ho:aj dZ _=o
  have hMlt:=hm.1
  obtain⟨⟨lf,q⟩,hy,L,Q,hQ⟩:=aR (R:=dZ) (fun t (s:(Nat→Int)×(Nat→Int))=>OT (t:Int) a s.1 m (fun _=>0) (fun _=>0) s.2) (fun s=>KL s.1 (fun _=>0) (fun _=>0) s.2)
   (fun t s=> ∃L Q:Nat,IsN s.1 L∧L<M∧l*2^t+n/2^(256-t)=Q*M+L∧IsN s.2 (2^(256-t)*Q)) 256
   (fun t ht s hP=>by
    obtain⟨lf,q⟩:=s
    obtain⟨L,Q,p1,p2,p3,p4⟩:=hP
    simp only at p1 p4
    have hk:256-t=(255-t)+1:=by omega
    have hbit:=MZ n (255-t)
    rw[testBit_toNat,←hk]at hbit
    have hb1:n/2^(255-t)%2≤1:=by omega
    have s1:=LY p1 255
    have s2:=LY ha ((255-t:Nat):Int)
    obtain⟨u,u1,u2⟩:=OB p1 1
    obtain⟨w,w1,w2,w3⟩:=u2.orlow (b:=n/2^(255-t)%2) (by simp only[Int.toNat_one]; omega) hb1
    have s2':Ay a ((255-t:Nat):Int)=some ((n/2^(255-t)%2:Nat):Int):=by
     rw[s2,←testBit_toNat]
     simp only[Int.toNat_natCast,Int.natCast_nonneg,true_and]
     split<;>rfl
    have hA:l*2^(t+1)+n/2^(256-(t+1))=2*(l*2^t+n/2^(256-t))+n/2^(255-t)%2:=by
     rw[show 256-(t+1)=255-t by omega,hbit,Nat.pow_succ,←Nat.mul_assoc]; omega
    have hst:=a3a (b:=n/2^(255-t)%2) p3 p2
    have hQ2:2^(256-t)*Q=2^(256-(t+1))*(2*Q):=by
     rw[hk,Nat.pow_succ,show 256-(t+1)=255-t by omega,Nat.mul_assoc]
    generalize n/2^(255-t)%2=b at*
    have hbit2:IsN q (2^(256-t)*Q)→ ∃w:Nat,q ((255-t)/64)=(w:Int)∧w<18446744073709551616∧IsN (upd q ((255-t)/64) ((w||| 2^((255-t)%64):Nat):Int)) (2^(256-(t+1))*(2*Q+1)):=by
     intro h
     obtain⟨v,v1,v2,v3⟩:=h.setbit (k:=255-t) (by omega)
     refine⟨v,v1,v2,v3.of_eq ?_⟩
     rw[←Nat.two_pow_add_eq_or_of_lt (Nat.pow_lt_pow_right (by decide) (by omega)),hQ2,Nat.mul_add,Nat.mul_one,show 256-(t+1)=255-t by omega]
    have hpw:2^((255-t)%64)<2^64:=Nat.pow_lt_pow_right (by decide) (by omega)
    obtain⟨v,v1,v2,v3⟩:=hbit2 p4
    have hL256:=p1.1
    simp only[Int.toNat_one,Nat.pow_one]at w3
    by_cases hov:L.testBit 255
    ·have s1':Ay lf 255=some 1:=by rw[s1,if_pos ⟨by decide,hov⟩]
     have hge:2^255≤L:=Nat.ge_two_pow_of_testBit hov
     have hnl: ¬2*L+b<M:=by omega
     obtain⟨g1,g2⟩:=hst.1 hnl hb1
     obtain⟨d,d1,d2⟩:=uF w3 hm
     refine⟨(d,upd q ((255-t)/64) ((v||| 2^((255-t)%64):Nat):Int)),?_,2*L+b-M,2*Q+1,d2.of_eq (by omega),g2,by rw[hA]; exact g1,v3⟩
     unfold dZ
     simp(disch:=omega) only[CC,WW,s1',u1,s2',w1,orU,d1,v1,a1p,show(255:Int).toNat=255 from rfl,hov,true_and,and_self,if_true]
    ·have s1':Ay lf 255=some 0:=by rw[s1,if_neg (fun h=>hov h.2)]
     obtain⟨d,d1,d2⟩:=uF w3 hm
     have hnge:L<2^255:=by
      apply Classical.byContradiction
      intro hc
      have h6:=MZ L 255
      rw[Nat.div_eq_of_lt (show L<2^(255+1)from hL256),if_neg hov,Nat.zero_mul,Nat.add_zero,Nat.div_eq_zero_iff]at h6
      rcases h6 with h6|h6
      ·revert h6; decide
      ·exact hc h6
     have w3':=w3.of_eq (show L*2%2^256+b=2*L+b by omega)
     by_cases hnl:2*L+b<M
     ·refine⟨(upd u 0 ((w||| b:Nat):Int),q),?_,2*L+b,2*Q,w3',hnl,by rw[hA]; exact hst.2 hnl,by rw[←hQ2]; exact p4⟩
      unfold dZ
      simp(disch:=omega) only[CC,WW,s1',u1,s2',w1,orU,d1,v1,a1p,show(255:Int).toNat=255 from rfl,hov,and_false,if_false,gI w3' hm,N8,if_pos hnl]
     ·obtain⟨g1,g2⟩:=hst.1 hnl hb1
      refine⟨(d,upd q ((255-t)/64) ((v||| 2^((255-t)%64):Nat):Int)),?_,2*L+b-M,2*Q+1,d2.of_eq (by omega),g2,by rw[hA]; exact g1,v3⟩
      have hc:(0:Int)≤if M<2*L+b then 1 else 0:=by split<;>decide
      unfold dZ
      simp(disch:=omega) only[CC,WW,s1',u1,s2',w1,orU,d1,v1,a1p,show(255:Int).toNat=255 from rfl,hov,and_false,if_false,gI w3' hm,N8,if_neg hnl])
   (fun s hP=>by
    unfold dZ
    simp(disch:=omega) only[CC,WW]) (left,fun _=>0) ⟨l,0,hl,hlt,by rw[Nat.pow_zero,Nat.mul_one,Nat.zero_mul,Nat.sub_zero,Nat.div_eq_of_lt ha.1]; omega,by rw[Nat.mul_zero]; exact IsN.zero⟩
  obtain rfl:=ho.symm.trans hy
  obtain⟨p1,p2,p3,p4⟩:=hQ
  have hq:=aan p3 p2
  rw[Nat.sub_self,Nat.pow_zero,Nat.div_one]at hq
  refine⟨q,lf,rfl,?_,?_⟩
  ·rw[hq.1]; simpa using p4
  ·rw[hq.2]; exact p1
theorem IsN.isZero {a:Nat→Int} {n:Nat}(h:IsN a n):eqF (.arr 4 (.int .u64)) a (fun _=>0)=decide (n=0):=h.eqb IsN.zero
theorem BO {lo hi m:Nat→Int} {L H M:Nat}(hl:IsN lo L)(hh:IsN hi H)(hm:IsN m M)(h0:0<M):
  ∃r,sZ lo hi m=some (r,0)∧IsN r ((H*2^256+L)%M):=by
 rw[O0]; unfold Hl
 obtain⟨q1,r1,a1,a2,a3⟩:=vK hh IsN.zero hm h0
 obtain⟨q2,r2,b1,b2,b3⟩:=vK hl a3 hm (Nat.mod_lt _ h0)
 simp(disch:=omega) only[hm.isZero,WW,a1,b1]
 refine⟨r2,rfl,b3.of_eq ?_⟩
 rw[Nat.zero_mul,Nat.zero_add,Nat.add_mod,Nat.mul_mod,Nat.mod_mod,←Nat.mul_mod,←Nat.add_mod]
theorem zU {a m:Nat→Int} {n M:Nat}(ha:IsN a n)(hm:IsN m M)(h0:0<M):
  ∃r,sZ a (fun _=>0) m=some (r,0)∧IsN r (n%M):=by
 obtain⟨r,h1,h2⟩:=BO ha IsN.zero hm h0
 exact⟨r,h1,h2.of_eq (by rw[Nat.zero_mul,Nat.zero_add])⟩
theorem Jp {a b:Nat→Int} {n m:Nat}(ha:IsN a n)(hb:IsN b m)(h0:0<m):
  ∃q r,Cn a b=some (q,r,0)∧IsN q (n/m)∧IsN r (n%m):=by
 rw[O1]; unfold Ho
 obtain⟨q,r,a1,a2,a3⟩:=vK ha IsN.zero hb h0
 simp(disch:=omega) only[hb.isZero,WW,a1]
 exact⟨q,r,rfl,a2.of_eq (by rw[Nat.zero_mul,Nat.zero_add]),a3.of_eq (by rw[Nat.zero_mul,Nat.zero_add])⟩
theorem Nc {a b m:Nat→Int} {x y M:Nat}(ha:IsN a x)(hb:IsN b y)(hm:IsN m M)(h0:0<M):
  ∃r,AA a b m=some (r,0)∧IsN r ((x*y)%M):=by
 rw[FD]; unfold yE
 obtain⟨lo,hi,s1,s2,s3⟩:=Jo ha hb
 obtain⟨r,r1,r2⟩:=BO s2 s3 hm h0
 simp only[s1,r1]
 refine⟨r,rfl,r2.of_eq ?_⟩
 rw[Nat.mul_comm _ (2^256),Nat.div_add_mod]
theorem Nf {a b m:Nat→Int} {x y M:Nat}(ha:IsN a x)(hb:IsN b y)(hm:IsN m M)(h0:0<M):
  ∃r,oN a b m=some (r,0)∧IsN r ((x+(M-y%M))%M):=by
 rw[FE]; unfold yF
 obtain⟨r,r1,r2⟩:=zU ha hm h0
 obtain⟨s,s1,s2⟩:=zU hb hm h0
 obtain⟨d,d1,d2⟩:=uF r2 s2
 obtain⟨e,e1,e2⟩:=Vs d2 hm
 have hM:=hm.1
 have h3:=Nat.mod_lt x h0
 have h4:=Nat.mod_lt y h0
 have key:(x+(M-y%M))%M=(x%M+(M-y%M))%M:=(Nat.mod_add_mod x M (M-y%M)).symm
 rw[key]
 generalize x%M=u at*
 generalize y%M=v at*
 by_cases h:u<v
 ·simp(disch:=omega) only[WW,r1,s1,d1,if_pos h,e1]
  refine⟨e,rfl,e2.of_eq ?_⟩
  rw[Nat.mod_eq_of_lt (show u+(M-v)<M by omega)]
  omega
 ·simp(disch:=omega) only[WW,r1,s1,d1,if_neg h]
  refine⟨d,rfl,d2.of_eq ?_⟩
  rw[show u+(M-v)=(u-v)+M by omega,Nat.add_mod_right,Nat.mod_eq_of_lt (show u-v<M by omega)]
  omega
theorem Tn {a b:Nat→Int} {x y:Nat}(ha:IsN a x)(hb:IsN b y): ∃g,zw a b=some g∧IsN g (Nat.gcd x y):=by
 rw[O3]; unfold Hq
 generalize ho:aj jc _=o
 have key: ∀n a b x y,y≤n→IsN a x→IsN b y→ ∃g,aj jc (KM a b (fun _=>0))=some (QE g (fun _=>0))∧IsN g (Nat.gcd x y):=by
  intro n
  induction n with
  |zero=>
   intro a b x y h ha hb
   obtain rfl:y=0:=by omega
   refine⟨a,gu ?_,ha.of_eq (Nat.gcd_zero_right x).symm⟩
   unfold jc
   simp(disch:=omega) only[WW,hb.isZero]
  |succ n ih=>
   intro a b x y h ha hb
   by_cases h0:y=0
   ·subst h0
    refine⟨a,gu ?_,ha.of_eq (Nat.gcd_zero_right x).symm⟩
    unfold jc
    simp(disch:=omega) only[WW,hb.isZero]
   ·obtain⟨q,r,d1,d2,d3⟩:=Jp ha hb (by omega)
    obtain⟨g,g1,g2⟩:=ih b r y (x%y) (by have:=Nat.mod_lt x (show 0<y by omega); omega) hb d3
    refine⟨g,?_,g2.of_eq ?_⟩
    ·rw[zn (x':=KM b r (fun _=>0))]
     ·exact g1
     ·unfold jc
      simp(disch:=omega) only[WW,hb.isZero,d1]
    ·rw[Nat.gcd_comm x y,Nat.gcd_rec y x,Nat.gcd_comm]
 obtain⟨g,g1,g2⟩:=key y a b x y (Nat.le_refl _) ha hb
 obtain rfl:=ho.symm.trans g1
 exact⟨g,rfl,g2⟩
end Go.Pl
namespace Go.Num
end Go.Num
namespace Go.Pl
open Go Go.Den Go.Num
end Go.Pl
namespace Go.Pl
open Go Go.Den
def a1t(f:Nat→Nat):Nat→Nat
 |0=>0
 |k+1=>a1t f k+f k*65536^k
theorem a9f {f:Nat→Nat} : ∀ {k:Nat},(∀j,j<k→f j<65536)→a1t f k<65536^k:=by
 intro k
 induction k with
 |zero=>intro _; exact Nat.one_pos
 |succ k ih=>
  intro h
  have h1:=ih fun j hj=>h j (by omega)
  have h2:(f k+1)*65536^k≤65536*65536^k:=Nat.mul_le_mul_right _ (h k (by omega))
  rw[a1t,Nat.pow_succ,Nat.mul_comm (65536^k)]
  rw[Nat.add_mul,Nat.one_mul]at h2
  omega
def IsD(d:Nat→Int)(v:Nat):Prop:= ∃f:Nat→Nat,(∀k,k<32→d k=(f k:Int)∧f k<65536)∧a1t f 32=v
theorem aq3:(65536:Nat)^32=2^256*2^256:=rfl
theorem IsD.lt {d:Nat→Int} {v:Nat}(h:IsD d v):v<2^256*2^256:=by
 obtain⟨f,h1,rfl⟩:=h
 have:=a9f (f:=f) (k:=32) fun j hj=>(h1 j hj).2
 rwa [aq3]at this
theorem IsD.zero:IsD (fun _=>0) 0:=⟨fun _=>0,fun k _=>⟨rfl,(by decide:0<65536)⟩,by decide⟩
end Go.Pl
namespace Go.Pl
open Go Go.Den
end Go.Pl
namespace Go.Pl
open Go Go.Den Go.Num
end Go.Pl
namespace Go.Pl
open Go Go.Den Go.Num
end Go.Pl
