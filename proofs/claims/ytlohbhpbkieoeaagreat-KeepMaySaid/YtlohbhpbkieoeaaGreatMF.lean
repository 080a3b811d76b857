/-
 Bytes, and their digests.
-/
import Derived.Test.YtlohbhpbkieoeaaGreatMA
import Derived.Test.YtlohbhpbkieoeaaGreatPlB
import Derived.Test.YtlohbhpbkieoeaaGreatMD
set_option linter.unusedVariables false
set_option linter.unusedSimpArgs false
set_option maxRecDepth 4000
set_option maxRecDepth 100000
namespace Go.Pl
open Go Go.Den Go.Num
abbrev a1w:Type:=(Int×Int)×(ByteArray×((SlV (SlV (Nat->Int)))×((SlV (Nat->Int))×Int)))
abbrev VtT:Type:=Int×((Int×Int)×ByteArray)
abbrev a9W:Type:=a1w×(a1w×(a1w×(Int×Int)))
abbrev a3C:Type:=ByteArray×(a1w×((SlV VtT)×((SlV VtT)×(SlV a9W))))
def a1x:Ty:=.pair (.pair (.int .i64) (.int .i64)) (.pair .str (.pair (.sl (.sl (.arr 4 (.int .u64)))) (.pair (.sl (.arr 4 (.int .u64))) (.int .i64))))
def R5:Ty:=.pair (.int .i64) (.pair (.pair (.int .i64) (.int .i64)) .str)
def Vo:Ty:=.pair a1x (.pair a1x (.pair a1x (.pair (.int .i64) (.int .i64))))
def a1y:Ty:=.pair .str (.pair a1x (.pair (.sl R5) (.pair (.sl R5) (.sl Vo))))
theorem jT {t:Ty}{x:SlV t.den}(h:Go.Den.Good (.sl t) x)(d:t.den):x.isMs=false/\x.len<9223372036854775808/\ ∀i,i<x.len->Go.Den.Good t (SlV.fn d x i):=by
 cases x with
 |nil=>exact⟨rfl,by simp[SlV.len],λi hi=>absurd hi (awO _)⟩
 |fz n f=>exact⟨rfl,by have:=h.1;simp only[SlV.len];omega,λi hi=>h.2 i hi⟩
 |ms _ _ _ _=>exact h.elim
structure Oa(x:a1w):Prop where
 m:x.2.2.1.isMs=false
 y:x.2.2.2.1.isMs=false
 n:x.2.2.1.len<9223372036854775808
 k:x.2.2.2.1.len<9223372036854775808
 r: ∀i,i<x.2.2.1.len->(SlV.fn .nil x.2.2.1 i).isMs=false
theorem Ie {x:a1w}(h:Go.Den.Good a1x x):Oa x:=by obtain⟨_,_,h1,h2,_⟩:=h;obtain⟨a,b,c⟩:=jT (t:=.sl (.arr 4 (.int .u64))) h1 .nil;obtain⟨a',b',_⟩:=jT (t:=.arr 4 (.int .u64)) h2 (λ_=>(0:Int));exact⟨a,a',b,b',λi hi=>(jT (t:=.arr 4 (.int .u64)) (c i hi) (λ_=>(0:Int))).1⟩
abbrev KH:a9W:=((((0,0),(ByteArray.empty,(.nil,(.nil,0)))),(((0,0),(ByteArray.empty,(.nil,(.nil,0)))),(((0,0),(ByteArray.empty,(.nil,(.nil,0)))),(0,0)))))
structure a9X(r:a3C):Prop where
 g:Oa r.2.1
 e:r.2.2.1.isMs=false
 d:r.2.2.2.1.isMs=false
 c:r.2.2.2.2.isMs=false
 en:r.2.2.1.len<9223372036854775808
 dn:r.2.2.2.1.len<9223372036854775808
 cn:r.2.2.2.2.len<9223372036854775808
 t: ∀k,k<r.2.2.2.2.len->Oa (SlV.fn KH r.2.2.2.2 k).1/\Oa (SlV.fn KH r.2.2.2.2 k).2.1/\Oa (SlV.fn KH r.2.2.2.2 k).2.2.1
theorem a9Y {r:a3C}(h:Go.Den.Good a1y r):a9X r:=by obtain⟨_,h0,h1,h2,h3⟩:=h;obtain⟨a,b,_⟩:=jT (t:=R5) h1 (0,((0,0),ByteArray.empty));obtain⟨a',b',_⟩:=jT (t:=R5) h2 (0,((0,0),ByteArray.empty));obtain⟨a2,b2,c2⟩:=jT (t:=Vo) h3 KH;exact⟨Ie h0,a,a',a2,b,b',b2,λk hk=>⟨Ie (c2 k hk).1,Ie (c2 k hk).2.1,Ie (c2 k hk).2.2.1⟩⟩
theorem a1z(n:Nat)(m:Nat->SlV (Nat->Int))(hn:n<9223372036854775808)(hm: ∀i,i<n->(m i).isMs=false): ∃b,RY n m 4=some b:=by
 obtain⟨y,h1,h2⟩:=bH (R:=lD) (S:=Unit) (λi _=>wW n m 4 (i:Int)) (λ_ _=>True) (λy=>y=WL false\/y=WM n m 4) (min n 4)
  (λi hi _ _=>by
   have hms:=hm i (by omega);by_cases hs:(((SlV.len (m i)):Nat):Int)>8
   ·refine .inr ⟨_,?_,.inl rfl⟩;simp(disch:=omega) only[lD,wW,WW,CC,hms,aG hs]
   ·refine .inl ⟨(),?_,trivial⟩;simp(disch:=omega) only[lD,wW,WW,CC,hms,ak hs])
  (λ_ _=>by
   refine⟨_,?_,.inr rfl⟩;by_cases h:n<=4
   ·rw[ay5 h];simp(disch:=omega) only[lD,wW,WW]
   ·rw[Nat.min_eq_right (by omega)];simp(disch:=omega) only[lD,wW,WW]) () trivial
 have h1':au lD (((n,m),(4,(0,()))),())=some y:=h1;rw[Ut,Us,h1'];rcases h2 with rfl|rfl
 ·exact⟨_,rfl⟩
 ·exact⟨_,rfl⟩
theorem yV(x:a1w)(h:Oa x): ∃b,lT (x.1,(x.2.1,(((SlV.len x.2.2.1),(SlV.fn (.nil:(SlV (Nat->Int))) x.2.2.1)),(((SlV.len x.2.2.2.1),(SlV.fn ((λ_=>0):Nat->Int) x.2.2.2.1)),x.2.2.2.2))))=some b/\(b=true->x.2.1.size<=40/\x.2.2.2.1.len<=6):=by
 obtain⟨b,hb⟩:=a1z x.2.2.1.len (SlV.fn .nil x.2.2.1) h.n h.r;rw[F4];unfold BU;simp only[hb];by_cases c:((x.2.1.size:Nat):Int)<=40
 ·rw[aG c];cases b
  ·exact⟨_,rfl,λh=>Bool.noConfusion h⟩
  ·exact⟨_,rfl,λh=>⟨by omega,by have:=az4 h;omega⟩⟩
 ·rw[ak c];exact⟨_,rfl,λh=>Bool.noConfusion h⟩
def Ob(x:a1w):Prop:=x.2.1.size<=40/\x.2.2.2.1.len<=6
section
variable (i x1 x2 x3:Int) (nx:Nat) (x4:Nat->Int) (nx1:Nat) (x5:Nat->a3C) (r:ByteArray) (r1:Int×Int) (r2:ByteArray) (nr:Nat) (r3:Nat->SlV (Nat->Int)) (nr1:Nat) (r4:Nat->(Nat->Int)) (r5:Int) (nr2:Nat) (r6:Nat->VtT) (nr3:Nat) (r7:Nat->VtT) (nr4:Nat) (r8:Nat->a9W)
theorem awh(h:nr2<9223372036854775808): ∃y,au oN (wY i 0 x1 x2 x3 nx x4 nx1 x5 r r1 r2 nr r3 nr1 r4 r5 nr2 r6 nr3 r7 nr4 r8)=some y/\(y=Kk false\/y=wG i x1 x2 x3 nx x4 nx1 x5 r r1 r2 nr r3 nr1 r4 r5 nr2 r6 nr3 r7 nr4 r8/\ ∀k,k<nr2->(r6 k).2.2.size<=40):=by
 exact bH (R:=oN) (S:=Unit) (λk _=>wY i (k:Int) x1 x2 x3 nx x4 nx1 x5 r r1 r2 nr r3 nr1 r4 r5 nr2 r6 nr3 r7 nr4 r8) (λj _=> ∀k,k<j->(r6 k).2.2.size<=40) _ nr2
  (λk hk _ hp=>by
   by_cases hs:(((r6 k).2.2.size:Nat):Int)>40
   ·refine .inr ⟨_,?_,.inl rfl⟩;simp(disch:=omega) only[oN,wY,WW,CC,aG hs]
   ·refine .inl ⟨(),?_,λj hj=>?_⟩
    ·simp(disch:=omega) only[oN,wY,WW,CC,ak hs]
    ·by_cases e:j=k
     ·subst e;omega
     ·exact hp j (by omega))
  (λ_ hp=>⟨_,by simp(disch:=omega) only[oN,wY,WW],.inr ⟨rfl,hp⟩⟩) () (λk hk=>absurd hk (awO _))
theorem awi(h:nr3<9223372036854775808): ∃y,au oO (wZ i 0 x1 x2 x3 nx x4 nx1 x5 r r1 r2 nr r3 nr1 r4 r5 nr2 r6 nr3 r7 nr4 r8)=some y/\(y=Kl false\/y=BX i x1 x2 x3 nx x4 nx1 x5 r r1 r2 nr r3 nr1 r4 r5 nr2 r6 nr3 r7 nr4 r8/\ ∀k,k<nr3->(r7 k).2.2.size<=40):=by
 exact bH (R:=oO) (S:=Unit) (λk _=>wZ i (k:Int) x1 x2 x3 nx x4 nx1 x5 r r1 r2 nr r3 nr1 r4 r5 nr2 r6 nr3 r7 nr4 r8) (λj _=> ∀k,k<j->(r7 k).2.2.size<=40) _ nr3
  (λk hk _ hp=>by
   by_cases hs:(((r7 k).2.2.size:Nat):Int)>40
   ·refine .inr ⟨_,?_,.inl rfl⟩;simp(disch:=omega) only[oO,wZ,WW,CC,aG hs]
   ·refine .inl ⟨(),?_,λj hj=>?_⟩
    ·simp(disch:=omega) only[oO,wZ,WW,CC,ak hs]
    ·by_cases e:j=k
     ·subst e;omega
     ·exact hp j (by omega))
  (λ_ hp=>⟨_,by simp(disch:=omega) only[oO,wZ,WW],.inr ⟨rfl,hp⟩⟩) () (λk hk=>absurd hk (awO _))
theorem awj(h:nr4<9223372036854775808)(hg: ∀k,k<nr4->Oa (r8 k).1/\Oa (r8 k).2.1/\Oa (r8 k).2.2.1): ∃y,au jO (oP i 0 x1 x2 x3 nx x4 nx1 x5 r r1 r2 nr r3 nr1 r4 r5 nr2 r6 nr3 r7 nr4 r8)=some y/\(y=Km false\/y=Kn i x1 x2 x3 nx x4 nx1 x5/\ ∀k,k<nr4->Ob (r8 k).1/\Ob (r8 k).2.1/\Ob (r8 k).2.2.1):=by
 exact bH (R:=jO) (S:=Unit) (λk _=>oP i (k:Int) x1 x2 x3 nx x4 nx1 x5 r r1 r2 nr r3 nr1 r4 r5 nr2 r6 nr3 r7 nr4 r8) (λj _=> ∀k,k<j->Ob (r8 k).1/\Ob (r8 k).2.1/\Ob (r8 k).2.2.1) _ nr4
  (λk hk _ hp=>by
   obtain⟨g1,g2,g3⟩:=hg k hk;obtain⟨b1,e1,q1⟩:=yV _ g1;obtain⟨b2,e2,q2⟩:=yV _ g2;obtain⟨b3,e3,q3⟩:=yV _ g3;have m1:=g1.m;have m2:=g1.y;have m3:=g2.m;have m4:=g2.y;have m5:=g3.m;have m6:=g3.y;cases b1
   ·refine .inr ⟨_,?_,.inl rfl⟩;simp(disch:=omega) only[jO,oP,WW,CC,m1,m2,e1]
   cases b2
   ·refine .inr ⟨_,?_,.inl rfl⟩;simp(disch:=omega) only[jO,oP,WW,CC,m1,m2,e1,m3,m4,e2]
   cases b3
   ·refine .inr ⟨_,?_,.inl rfl⟩;simp(disch:=omega) only[jO,oP,WW,CC,m1,m2,e1,m3,m4,e2,m5,m6,e3]
   ·refine .inl ⟨(),?_,λj hj=>?_⟩
    ·simp(disch:=omega) only[jO,oP,WW,CC,m1,m2,e1,m3,m4,e2,m5,m6,e3]
    ·by_cases e:j=k
     ·subst e;exact⟨q1 rfl,q2 rfl,q3 rfl⟩
     ·exact hp j (by omega))
  (λ_ hp=>⟨_,by simp(disch:=omega) only[jO,oP,WW],.inr ⟨rfl,hp⟩⟩) () (λk hk=>absurd hk (awO _))
end
structure Vp(r:a3C):Prop where
 k:r.1.size<=20
 e:r.2.2.1.len<=20
 d:r.2.2.2.1.len<=20
 c:r.2.2.2.2.len<=5
 g:Ob r.2.1
 e1: ∀k,k<r.2.2.1.len->(SlV.fn (0,((0,0),ByteArray.empty)) r.2.2.1 k).2.2.size<=40
 d1: ∀k,k<r.2.2.2.1.len->(SlV.fn (0,((0,0),ByteArray.empty)) r.2.2.2.1 k).2.2.size<=40
 c1: ∀k,k<r.2.2.2.2.len->Ob (SlV.fn KH r.2.2.2.2 k).1/\Ob (SlV.fn KH r.2.2.2.2 k).2.1/\Ob (SlV.fn KH r.2.2.2.2 k).2.2.1
theorem awk(x1 x2 x3:Int)(nx:Nat)(x4:Nat->Int)(n:Nat)(x5:Nat->a3C)(hn:n<9223372036854775808)(hr: ∀k,k<n->a9X (x5 k)):
  ∃y,au dz (fH 0 x1 x2 x3 nx x4 n x5)=some y/\(y=WQ false\/y=WR/\ ∀k,k<n->Vp (x5 k)):=by
 exact bH (R:=dz) (S:=Unit) (λk _=>fH (k:Int) x1 x2 x3 nx x4 n x5) (λj _=> ∀k,k<j->Vp (x5 k)) _ n
  (λk hk _ hp=>by
   have h:=hr k hk;have m1:=h.g.m;have m2:=h.g.y;have m3:=h.e;have m4:=h.d;have m5:=h.c;by_cases c1:(((x5 k).1.size:Nat):Int)>20
   ·refine .inr ⟨_,?_,.inl rfl⟩;simp(disch:=omega) only[dz,fH,WW,CC,m1,m2,m3,m4,m5,aG c1]
   by_cases c2:(((SlV.len (x5 k).2.2.1):Nat):Int)>20
   ·refine .inr ⟨_,?_,.inl rfl⟩;simp(disch:=omega) only[dz,fH,WW,CC,m1,m2,m3,m4,m5,ak c1,aG c2]
   by_cases c3:(((SlV.len (x5 k).2.2.2.1):Nat):Int)>20
   ·refine .inr ⟨_,?_,.inl rfl⟩;simp(disch:=omega) only[dz,fH,WW,CC,m1,m2,m3,m4,m5,ak c1,ak c2,aG c3]
   by_cases c4:(((SlV.len (x5 k).2.2.2.2):Nat):Int)>5
   ·refine .inr ⟨_,?_,.inl rfl⟩;simp(disch:=omega) only[dz,fH,WW,CC,m1,m2,m3,m4,m5,ak c1,ak c2,ak c3,aG c4]
   obtain⟨b,e,q⟩:=yV _ h.g;cases b
   ·refine .inr ⟨_,?_,.inl rfl⟩;simp(disch:=omega) only[dz,fH,WW,CC,m1,m2,m3,m4,m5,ak c1,ak c2,ak c3,ak c4,e]
   obtain⟨y2,e2,d2⟩:=awh (k:Int) x1 x2 x3 nx x4 n x5 (x5 k).1 (x5 k).2.1.1 (x5 k).2.1.2.1 (SlV.len (x5 k).2.1.2.2.1) (SlV.fn .nil (x5 k).2.1.2.2.1) (SlV.len (x5 k).2.1.2.2.2.1) (SlV.fn (λ_=>0) (x5 k).2.1.2.2.2.1) (x5 k).2.1.2.2.2.2
    (SlV.len (x5 k).2.2.1) (SlV.fn (0,((0,0),ByteArray.empty)) (x5 k).2.2.1) (SlV.len (x5 k).2.2.2.1) (SlV.fn (0,((0,0),ByteArray.empty)) (x5 k).2.2.2.1) (SlV.len (x5 k).2.2.2.2) (SlV.fn KH (x5 k).2.2.2.2) h.en
   obtain⟨y4,e4,d4⟩:=awi (k:Int) x1 x2 x3 nx x4 n x5 (x5 k).1 (x5 k).2.1.1 (x5 k).2.1.2.1 (SlV.len (x5 k).2.1.2.2.1) (SlV.fn .nil (x5 k).2.1.2.2.1) (SlV.len (x5 k).2.1.2.2.2.1) (SlV.fn (λ_=>0) (x5 k).2.1.2.2.2.1) (x5 k).2.1.2.2.2.2
    (SlV.len (x5 k).2.2.1) (SlV.fn (0,((0,0),ByteArray.empty)) (x5 k).2.2.1) (SlV.len (x5 k).2.2.2.1) (SlV.fn (0,((0,0),ByteArray.empty)) (x5 k).2.2.2.1) (SlV.len (x5 k).2.2.2.2) (SlV.fn KH (x5 k).2.2.2.2) h.dn
   obtain⟨y6,e6,d6⟩:=awj (k:Int) x1 x2 x3 nx x4 n x5 (x5 k).1 (x5 k).2.1.1 (x5 k).2.1.2.1 (SlV.len (x5 k).2.1.2.2.1) (SlV.fn .nil (x5 k).2.1.2.2.1) (SlV.len (x5 k).2.1.2.2.2.1) (SlV.fn (λ_=>0) (x5 k).2.1.2.2.2.1) (x5 k).2.1.2.2.2.2
    (SlV.len (x5 k).2.2.1) (SlV.fn (0,((0,0),ByteArray.empty)) (x5 k).2.2.1) (SlV.len (x5 k).2.2.2.1) (SlV.fn (0,((0,0),ByteArray.empty)) (x5 k).2.2.2.1) (SlV.len (x5 k).2.2.2.2) (SlV.fn KH (x5 k).2.2.2.2) h.cn h.t
   rcases d2 with rfl|⟨rfl,p2⟩
   ·refine .inr ⟨_,?_,.inl rfl⟩;simp(disch:=omega) only[dz,fH,WW,CC,m1,m2,m3,m4,m5,ak c1,ak c2,ak c3,ak c4,e,e2,Kk]
   rcases d4 with rfl|⟨rfl,p4⟩
   ·refine .inr ⟨_,?_,.inl rfl⟩;simp(disch:=omega) only[dz,fH,WW,CC,m1,m2,m3,m4,m5,ak c1,ak c2,ak c3,ak c4,e,e2,wG,e4,Kl]
   rcases d6 with rfl|⟨rfl,p6⟩
   ·refine .inr ⟨_,?_,.inl rfl⟩;simp(disch:=omega) only[dz,fH,WW,CC,m1,m2,m3,m4,m5,ak c1,ak c2,ak c3,ak c4,e,e2,wG,e4,BX,e6,Km]
   ·refine .inl ⟨(),?_,λj hj=>?_⟩
    ·simp(disch:=omega) only[dz,fH,WW,CC,m1,m2,m3,m4,m5,ak c1,ak c2,ak c3,ak c4,e,e2,wG,e4,BX,e6,Kn]
    ·by_cases e:j=k
     ·subst e;exact⟨by omega,by omega,by omega,by omega,q rfl,p2,p4,p6⟩
     ·exact hp j (by omega))
  (λ_ hp=>⟨_,by simp(disch:=omega) only[dz,fH,WW],.inr ⟨rfl,hp⟩⟩) () (λk hk=>absurd hk (awO _))
theorem Zo(x1 x2 x3:Int)(nx:Nat)(x4:Nat->Int)(n:Nat)(x5:Nat->a3C)(hn:n<9223372036854775808)(hr: ∀k,k<n->a9X (x5 k)):
  ∃b,RZ (x1,(x2,(x3,((nx,x4),(n,x5)))))=some b/\(b=true->nx<=12/\n<=3/\ ∀k,k<n->Vp (x5 k)):=by
 obtain⟨y,h1,h2⟩:=awk x1 x2 x3 nx x4 n x5 hn hr;rw[UD];unfold UC;simp only[h1];by_cases c1:((nx:Nat):Int)>12
 ·rw[aG c1];exact⟨_,rfl,λh=>Bool.noConfusion h⟩
 by_cases c2:((n:Nat):Int)>3
 ·rw[ak c1,aG c2];exact⟨_,rfl,λh=>Bool.noConfusion h⟩
 rw[ak c1,ak c2];rcases h2 with rfl|⟨rfl,h3⟩
 ·exact⟨_,rfl,λh=>Bool.noConfusion h⟩
 ·exact⟨_,rfl,λ_=>⟨by omega,by omega,h3⟩⟩
theorem Vq(a1 a2 a3:Int)(n:Nat)(u v:Nat->Int)(q p:Nat->a3C)(hn:n<9223372036854775808)(h: ∀k,k<n->u k=v k):
  jQ (a1,(a2,(a3,((n,u),(0,q))))) (a1,(a2,(a3,((n,v),(0,p)))))=some true:=by
 obtain⟨_,h1,_⟩:=aL (R:=ig) (S:=Unit) (λk _=>jP (k:Int) a1 a2 a3 n u 0 q a1 a2 a3 n v 0 p) (λ_=>tZ a1 a2 a3 n u 0 q a1 a2 a3 n v 0 p) (λ_ _=>True) n
  (λk hk _ _=>⟨(),by
   have e:=h k hk;have e2:(v k !=v k)=false:=by simp
   simp(disch:=omega) only[ig,jP,WW,CC,e,e2],trivial⟩)
  (λ_ _=>by simp(disch:=omega) only[ig,jP,WW]) () trivial
 have h2:au iU (lV 0 a1 a2 a3 n u 0 q a1 a2 a3 n v 0 p)=some zQ:=fZ (by simp(disch:=omega) only[iU,lV,WW]);have h1':au ig (((),((),(0,()))),((a1,(a2,(a3,((n,u),(0,q))))),((a1,(a2,(a3,((n,v),(0,p))))),())))=some _:=h1;have h2':au iU (((),((),(0,()))),((a1,(a2,(a3,((n,u),(0,q))))),((a1,(a2,(a3,((n,v),(0,p))))),())))=some _:=h2;rw[H9];unfold J5;have e: ∀z:Int,(z !=z)=false:=λz=>by simp
 simp only[e,aM,h1',tZ,h2',zQ]
open Go Go.Den
abbrev bl(s:ByteArray):List UInt8:=s.data.toList
theorem iI(s:ByteArray):s.size=(bl s).length:=rfl
theorem Cg {s t:ByteArray}(h:bl s=bl t):s=t:=by cases s;cases t;simp only[bl]at h;rw[ayt h]
theorem a3D(s:ByteArray)(a b:Nat):bl (s.extract a b)=((bl s).drop a).take (b-a):=by simp only[bl,ByteArray.data_extract,Array.toList_extract,List.extract_eq_take_drop]
theorem a4z(s:ByteArray)(n:Nat):bl (s.extract n s.size)=(bl s).drop n:=by rw[a3D,axq];rw[axZ,iI];exact ax2 _
theorem Vr(s:ByteArray):sEq s s=true:=by simp[sEq]
theorem a9Z {s t:ByteArray}(h:bl s=bl t):sEq s t=true:=by rw[Cg h];exact Vr t
theorem vV(n:Nat)(f:Nat->Int):bl (bytesOf n f)=(List.range n).map λi=>UInt8.ofNat (f i).toNat:=rfl
theorem a5P {l:List UInt8}{k:Nat}(h:k<l.length):l.take (k+1)=l.take k++[l.getD k 0]:=by rw[List.take_add_one,awy h,awC,awy h];rfl
theorem sM(n:Nat):IntKind.u32.wrap (n:Int)=((n%4294967296:Nat):Int):=by rw[wrap_u32'];rfl
theorem Vs(n:Nat):IntKind.u8.wrap (n:Int)=((n%256:Nat):Int):=by rw[wrap_u8'];rfl
theorem nA(a:Nat):(BitVec.ofInt 32 (a:Int)).toNat=a%4294967296:=by simp[BitVec.toNat_ofInt]
theorem awl {a b:Nat}(ha:a<4294967296)(hb:b<4294967296):ay .and .u32 (a:Int) (b:Int)=((a&&& b:Nat):Int):=by have:ay .and .u32 (a:Int) (b:Int)=IntKind.u32.wrap ((BitVec.ofInt 32 a&&& BitVec.ofInt 32 b).toNat:Int):=rfl;rw[this,BitVec.toNat_and,nA,nA,awD ha,awD hb,sM,awD];exact awV ayd ha
theorem orW {a b:Nat}(ha:a<4294967296)(hb:b<4294967296):ay .or .u32 (a:Int) (b:Int)=((a||| b:Nat):Int):=by have:ay .or .u32 (a:Int) (b:Int)=IntKind.u32.wrap ((BitVec.ofInt 32 a||| BitVec.ofInt 32 b).toNat:Int):=rfl;rw[this,BitVec.toNat_or,nA,nA,awD ha,awD hb,sM,awD];exact axp (n:=32) ha hb
theorem arZ {a b:Nat}(ha:a<4294967296)(hb:b<4294967296):ay .xor .u32 (a:Int) (b:Int)=((a^^^ b:Nat):Int):=by have:ay .xor .u32 (a:Int) (b:Int)=IntKind.u32.wrap ((BitVec.ofInt 32 a^^^ BitVec.ofInt 32 b).toNat:Int):=rfl;rw[this,BitVec.toNat_xor,nA,nA,awD ha,awD hb,sM,awD];exact Nat.xor_lt_two_pow (n:=32) ha hb
theorem aip {a b:Nat}(ha:a<9223372036854775808)(hb:b<9223372036854775808):ay .xor .i64 (a:Int) (b:Int)=((a^^^ b:Nat):Int):=by have:ay .xor .i64 (a:Int) (b:Int)=IntKind.i64.wrap ((BitVec.ofInt 64 a^^^ BitVec.ofInt 64 b).toNat:Int):=rfl;have hlt:a^^^ b<9223372036854775808:=Nat.xor_lt_two_pow (n:=63) ha hb;rw[this,BitVec.toNat_xor,dS,dS,awD (by omega),awD (by omega),wrap_i64];omega
theorem as0 {a s:Nat}(h:a<4294967296):bO .u32 (a:Int) (s:Int)=((a/2^s:Nat):Int):=V5 (k:=.u32) h
theorem ab9 {a s:Nat}(hs:s<=32):iE .u32 (a:Int) (s:Int)=((a*2^s%4294967296:Nat):Int):=by unfold iE;rw[awz,show((a:Int)*2^min s IntKind.u32.bits)=((a*2^min s 32:Nat):Int)by simp[IntKind.bits],sM,ay5 hs]
theorem a4A {a s:Nat}(hs:s<63)(h:a*2^s<9223372036854775808):iE .i64 (a:Int) (s:Int)=((a*2^s:Nat):Int):=by unfold iE;rw[awz,show min s IntKind.i64.bits=s from ay5 (by show s<=64;omega),show((a:Int)*2^s)=((a*2^s:Nat):Int)by simp,wrap_i64];omega
def M0(x n:Nat):Nat:=x/2^n||| x*2^(32-n)%4294967296
theorem eP {x n:Nat}(h:x<4294967296):M0 x n<4294967296:=
 axp (n:=32) (awV (axe _ _) h) (awZ _ (by decide))
theorem RG {x n:Nat}(h:x<4294967296)(h1:0<n)(h2:n<32):eY (x:Int) (n:Int)=some (M0 x n:Int):=by
 have e1:IntKind.i64.wrap (0-(n:Int))= -(n:Int):=by rw[wrap_i64 (by omega)];omega
 have e2:IntKind.u64.wrap (-(n:Int))=((18446744073709551616-n:Nat):Int):=by rw[J8];omega
 have e3:ay .and .u64 ((18446744073709551616-n:Nat):Int) 31=((32-n:Nat):Int):=by
  rw[show(31:Int)=((31:Nat):Int)from rfl,ab4 (by omega) (by decide),show(31:Nat)=2^5-1 from rfl,axj]
  congr 1;omega
 have e4:(32:Int)-((32-n:Nat):Int)=((n:Nat):Int):=by omega
 rw[JW,Gv,wR,rD];rw[e1,e2,e3,e4,Cb (by omega),ak (by omega),ak (by omega),ab9 (by omega),as0 h];simp only[awW];rw[orW (awZ _ (by decide)) (awV (axe _ _) h),Nat.or_comm];rfl
theorem Xa {x n:Nat}(h:x<4294967296)(h1:2<=n)(h2:n<32):jN (x:Int) (n:Int)=some (M0 x n:Int):=by
 have hp:(2:Nat)^(32-n)<=2^30:=ax1 (by decide) (by omega);have hm:x*2^(32-n)<=4294967295*2^30:=ayL (by omega) hp;have e4:(32:Int)-(n:Int)=((32-n:Nat):Int):=by omega
 have hd:x/2^n<4294967296:=awV (axe _ _) h;have ho:(x/2^n||| x*2^(32-n))<9223372036854775808:=axp (n:=63) (by omega) (by omega);rw[QD,Ph,ak (by omega),e4,eF (by omega),ak (by omega),Zd (by omega),a4A (by omega) (by omega),orS (by omega) (by omega)];simp only[awW];rw[show(4294967295:Int)=((4294967295:Nat):Int)from rfl,a18 ho (by decide),show(4294967295:Nat)=2^32-1 from rfl,axj,Nat.or_mod_two_pow,awD (show x/2^n<2^32 from hd)];rfl
theorem Oc {x:Nat}(h:x<4294967296)(n:Nat)(h1:0<(OfNat.ofNat n:Nat))(h2:(OfNat.ofNat n:Nat)<32):eY (x:Int) (no_index (OfNat.ofNat n:Int))=some (M0 x (OfNat.ofNat n):Int):=RG h h1 h2
theorem Vt {x:Nat}(h:x<4294967296)(n:Nat)(h1:2<=(OfNat.ofNat n:Nat))(h2:(OfNat.ofNat n:Nat)<32):jN (x:Int) (no_index (OfNat.ofNat n:Int))=some (M0 x (OfNat.ofNat n):Int):=Xa h h1 h2
theorem aa0 {a:Nat}(n:Nat)(h:a<4294967296):bO .u32 (a:Int) (no_index (OfNat.ofNat n:Int))=((a/2^(OfNat.ofNat n:Nat):Nat):Int):=as0 (s:=OfNat.ofNat n) h
theorem aa1 {a:Nat}(n:Nat)(h:a<9223372036854775808):bO .i64 (a:Int) (no_index (OfNat.ofNat n:Int))=((a/2^(OfNat.ofNat n:Nat):Nat):Int):=Zd (s:=OfNat.ofNat n) h
def chN(e f g:Nat):Nat:=g^^^(e&&&(f^^^ g))
def abb(a b c:Nat):Nat:=(a&&& b)|||(c&&&(a||| b))
theorem abd {e f g:Nat}(he:e<4294967296)(hg:g<4294967296):(e&&& f)^^^((4294967295^^^ e)&&& g)=chN e f g:=by
 apply ay7;intro i;simp only[chN,Nat.testBit_xor,Nat.testBit_and];by_cases hi:i<32
 ·rw[show(4294967295:Nat)=2^32-1 from rfl,Nat.testBit_two_pow_sub_one,awv hi];cases e.testBit i<;>cases f.testBit i<;>cases g.testBit i<;>rfl
 ·have hp:2^32<=2^i:=ax1 (by decide) (by omega);have hp:(4294967296:Nat)<=2^i:=hp;rw[axl (awU he hp),axl (awU hg hp)];simp
theorem aa2(a b c:Nat):((a&&& b)^^^(a&&& c))^^^(b&&& c)=abb a b c:=by apply ay7;intro i;simp only[abb,Nat.testBit_xor,Nat.testBit_and,ayq];cases a.testBit i<;>cases b.testBit i<;>cases c.testBit i<;>rfl
theorem kI {a b:Nat}(ha:a<4294967296)(hb:b<4294967296):a^^^ b<4294967296:=Nat.xor_lt_two_pow (n:=32) ha hb
def S1N(e:Nat):Nat:=M0 e 6^^^ M0 e 11^^^ M0 e 25
def S0N(a:Nat):Nat:=M0 a 2^^^ M0 a 13^^^ M0 a 22
def s0N(x:Nat):Nat:=M0 x 7^^^ M0 x 18^^^ x/2^3
def s1N(x:Nat):Nat:=M0 x 17^^^ M0 x 19^^^ x/2^10
theorem aiq {x:Nat}(h:x<4294967296):s0N x<4294967296:=kI (kI (eP h) (eP h)) (awV (axe _ _) h)
theorem air {x:Nat}(h:x<4294967296):s1N x<4294967296:=kI (kI (eP h) (eP h)) (awV (axe _ _) h)
def a3E(f:Nat->Nat)(i v:Nat):Nat->Nat:=λj=>if j=i then v else f j
def XV(w:Nat->Nat)(k:Nat):Nat:=(w (k-16)+s0N (w (k-15))+w (k-7)+s1N (w (k-2)))%4294967296
def Es(b:Nat->Nat)(t:Nat):Nat:=b (4*t)*16777216+b (4*t+1)*65536+b (4*t+2)*256+b (4*t+3)
def Ch(b:Nat->Nat):Nat->Nat->Nat|0=>Es b|k+1=>a3E (Ch b k) (16+k) (XV (Ch b k) (16+k))
def Bo(k w:Nat)(x:Nat->Nat):Nat->Nat|0=>(x 7+S1N (x 4)+chN (x 4) (x 5) (x 6)+k+w+(S0N (x 0)+abb (x 0) (x 1) (x 2)))%4294967296|1=>x 0|2=>x 1|3=>x 2|4=>(x 3+(x 7+S1N (x 4)+chN (x 4) (x 5) (x 6)+k+w))%4294967296|5=>x 4|6=>x 5|_=>x 6
def aa3(k w:Nat->Nat)(v:Nat->Nat):Nat->Nat->Nat|0=>v|t+1=>Bo (k t) (w t) (aa3 k w v t)
def kN:Nat->Nat:=λi=>[1116352408,1899447441,3049323471,3921009573,961987163,1508970993,2453635748,2870763221,3624381080,310598401,607225278,1426881987,1925078388,2162078206,2614888103,3248222580,3835390401,4022224774,264347078,604807628,770255983,1249150122,1555081692,1996064986,2554220882,2821834349,2952996808,3210313671,3336571891,3584528711,113926993,338241895,666307205,773529912,1294757372,1396182291,1695183700,1986661051,2177026350,2456956037,2730485921,2820302411,3259730800,3345764771,3516065817,3600352804,4094571909,275423344,430227734,506948616,659060556,883997877,958139571,1322822218,1537002063,1747873779,1955562222,2024104815,2227730452,2361852424,2428436474,2756734187,3204031479,3329325298].getD i 0
def PL(v b:Nat->Nat):Nat->Nat:=λi=>(aa3 kN (Ch b 48) v 64 i+v i)%4294967296
def Ws(n:Nat)(x:Nat->Int)(y:Nat->Nat):Prop:= ∀i,i<n->x i=(y i:Int)/\y i<4294967296
def Bs(n:Nat)(x:Nat->Int)(y:Nat->Nat):Prop:= ∀i,i<n->x i=(y i:Int)/\y i<256
theorem a1A: ∃r,qI=some r/\Ws 64 r kN:=by
 refine⟨_,by rw[vC];rfl,?_⟩;intro i hi;have: ∀i,i<64->kN i<4294967296:=by decide
 refine⟨?_,this i hi⟩;have h2: ∀i:Fin 64,(upd (upd (upd (upd (upd (upd (upd (upd (upd (upd (upd (upd (upd (upd (upd (upd (upd (upd (upd (upd (upd (upd (upd (upd (upd (upd (upd (upd (upd (upd (upd (upd (upd (upd (upd (upd (upd (upd (upd (upd (upd (upd (upd (upd (upd (upd (upd (upd (upd (upd (upd (upd (upd (upd (upd (upd (upd (upd (upd (upd (upd (upd (upd (upd (λ_=>0) 0 1116352408) 1 1899447441) 2 3049323471) 3 3921009573) 4 961987163) 5 1508970993) 6 2453635748) 7 2870763221) 8 3624381080) 9 310598401) 10 607225278) 11 1426881987) 12 1925078388) 13 2162078206) 14 2614888103) 15 3248222580) 16 3835390401) 17 4022224774) 18 264347078) 19 604807628) 20 770255983) 21 1249150122) 22 1555081692) 23 1996064986) 24 2554220882) 25 2821834349) 26 2952996808) 27 3210313671) 28 3336571891) 29 3584528711) 30 113926993) 31 338241895) 32 666307205) 33 773529912) 34 1294757372) 35 1396182291) 36 1695183700) 37 1986661051) 38 2177026350) 39 2456956037) 40 2730485921) 41 2820302411) 42 3259730800) 43 3345764771) 44 3516065817) 45 3600352804) 46 4094571909) 47 275423344) 48 430227734) 49 506948616) 50 659060556) 51 883997877) 52 958139571) 53 1322822218) 54 1537002063) 55 1747873779) 56 1955562222) 57 2024104815) 58 2227730452) 59 2361852424) 60 2428436474) 61 2756734187) 62 3204031479) 63 3329325298:Nat->Int) i.val=(kN i.val:Int):=by decide
 exact h2 ⟨i,hi⟩
theorem M4:wE=qI:=by rw[Dc,vC];rfl
theorem Ws.upd {n:Nat}{x:Nat->Int}{y:Nat->Nat}(h:Ws n x y){v:Nat}(hv:v<4294967296)(k:Nat):Ws n (upd x k (v:Int)) (a3E y k v):=by
 intro i hi;by_cases hk:i=k
 ·subst hk;simp only[Den.upd,a3E,axV];exact⟨trivial,hv⟩
 ·simp only[Den.upd,a3E,awG hk];exact h i hi
theorem Ws.push {n:Nat}{x:Nat->Int}{y:Nat->Nat}(h:Ws n x y){v:Nat}(hv:v<4294967296):Ws (n+1) (Den.upd x n (v:Int)) (a3E y n v):=by
 intro i hi;by_cases hk:i=n
 ·subst hk;simp only[Den.upd,a3E,axV];exact⟨trivial,hv⟩
 ·simp only[Den.upd,a3E,awG hk];exact h i (by omega)
theorem a1B {w:Nat->Nat}{k:Nat} :XV w k<4294967296:=awZ _ (by decide)
theorem a4B {a b c d:Nat}(ha:a<256)(hb:b<256)(hc:c<256)(hd:d<256):(((a*2^24||| b*2^16)||| c*2^8)||| d)=a*16777216+b*65536+c*256+d:=by
 have h1:a*2^24||| b*2^16=(a*256+b)*2^16:=by have:=axK (i:=24) (b:=b*2^16) (by omega) a;rw[awT a,<-this];omega
 have h2:(a*256+b)*2^16||| c*2^8=((a*256+b)*256+c)*2^8:=by have:=axK (i:=16) (b:=c*2^8) (by omega) (a*256+b);rw[awT (a*256+b),<-this];omega
 have h3:((a*256+b)*256+c)*2^8||| d=a*16777216+b*65536+c*256+d:=by have:=axK (i:=8) (b:=d) (by omega) ((a*256+b)*256+c);rw[awT _ (2^8),<-this];omega
 rw[h1,h2,h3]
theorem XW {b:Nat->Nat}{t:Nat}(h0:b (4*t)<256)(h1:b (4*t+1)<256)(h2:b (4*t+2)<256)(h3:b (4*t+3)<256):Es b t<4294967296:=by unfold Es;omega
theorem a1C {b w t1:Nat->Int}{B:Nat->Nat}(hb:Bs 64 b B)(t:Nat)(ht:t<16):
  gD (gB (t:Int) b t1 w)=some (.inl (gB ((t+1:Nat):Int) b t1 (upd w t (Es B t:Int)))):=by
 obtain⟨e0,l0⟩:=hb (4*t) (by omega);obtain⟨e1,l1⟩:=hb (4*t+1) (by omega);obtain⟨e2,l2⟩:=hb (4*t+2) (by omega);obtain⟨e3,l3⟩:=hb (4*t+3) (by omega);have w24: ∀ {x:Nat},x<256->iE .u32 (x:Int) 24=((x*2^24:Nat):Int):=λ{x} hx=>by rw[show(24:Int)=((24:Nat):Int)from rfl,ab9 (by decide),awD (by omega)]
 have w16: ∀ {x:Nat},x<256->iE .u32 (x:Int) 16=((x*2^16:Nat):Int):=λ{x} hx=>by rw[show(16:Int)=((16:Nat):Int)from rfl,ab9 (by decide),awD (by omega)]
 have w8: ∀ {x:Nat},x<256->iE .u32 (x:Int) 8=((x*2^8:Nat):Int):=λ{x} hx=>by rw[show(8:Int)=((8:Nat):Int)from rfl,ab9 (by decide),awD (by omega)]
 have o1:B (4*t)*2^24||| B (4*t+1)*2^16<4294967296:=axp (n:=32) (by omega) (by omega);have o2:(B (4*t)*2^24||| B (4*t+1)*2^16)||| B (4*t+2)*2^8<4294967296:=axp (n:=32) o1 (by omega);simp(disch:=omega) only[gD,gB,WW,CC,e0,e1,e2,e3,sM,awD,w24,w16,w8,orW,o1,o2];rw[a4B l0 l1 l2 l3];rfl
theorem a1D {w t1:Nat->Int}{W:Nat->Nat}(k:Nat)(hk:k<48)(hw:Ws (16+k) w W):
  gG (gF ((16+k:Nat):Int) t1 w)=some (.inl (gF ((16+(k+1):Nat):Int) t1 (upd w (16+k) (XV W (16+k):Int)))):=by
 obtain⟨e0,l0⟩:=hw (16+k-15) (by omega);obtain⟨e1,l1⟩:=hw (16+k-2) (by omega);obtain⟨e2,l2⟩:=hw (16+k-16) (by omega);obtain⟨e3,l3⟩:=hw (16+k-7) (by omega);have b0:=aiq l0;have b1:=air l1;have r1:= @eP (W (16+k-15)) 7 l0;have r2:= @eP (W (16+k-15)) 18 l0;have r3:= @eP (W (16+k-2)) 17 l1;have r4:= @eP (W (16+k-2)) 19 l1;have x1:=kI r1 r2;have x2:=kI r3 r4;have d1:W (16+k-15)/2^3<4294967296:=awV (axe _ _) l0;have d2:W (16+k-2)/2^10<4294967296:=awV (axe _ _) l1;have c1:((16+k:Nat):Int)-15=((16+k-15:Nat):Int):=by omega
 have c2:((16+k:Nat):Int)-2=((16+k-2:Nat):Int):=by omega
 have c3:((16+k:Nat):Int)-16=((16+k-16:Nat):Int):=by omega
 have c4:((16+k:Nat):Int)-7=((16+k-7:Nat):Int):=by omega
 have c5:((16+k:Nat):Int)+1=((16+(k+1):Nat):Int):=by omega
 simp(disch:=omega) only[gG,gF,c1,c2,c3,c4,c5,WW,e0,e1,e2,e3,Oc,aa0,arZ,O1,sM];simp only[XV,s0N,s1N,Nat.mod_add_mod]
theorem Od {b:Nat->Int}{B:Nat->Nat}(hb:Bs 64 b B): ∃w,yM b=some w/\Ws 64 w (Ch B 48):=by
 have s0lt: ∀t,t<16->Es B t<4294967296:=λt ht=>XW (hb _ (by omega)).2 (hb _ (by omega)).2 (hb _ (by omega)).2 (hb _ (by omega)).2
 obtain⟨w1,h1,h2⟩:=aL (R:=gD) (λk (w:Nat->Int)=>gB (k:Int) b (λ_=>0) w) (λw=>rF (λ_=>0) w)
  (λk w=>Ws k w (Es B)) 16
  (λk hk w hw=>⟨_,a1C hb k hk,λi hi=>by
   by_cases hik:i=k
   ·subst hik;simp only[upd,axV];exact⟨trivial,s0lt _ hk⟩
   ·simp only[upd,awG hik];exact hw i (by omega)⟩)
  (λw hw=>by simp(disch:=omega) only[gD,gB,WW]) (λ_=>0) (λi hi=>by omega)
 obtain⟨w2,h3,h4⟩:=aL (R:=gG) (λk (w:Nat->Int)=>gF ((16+k:Nat):Int) (λ_=>0) w) (λw=>rG (λ_=>0) w)
  (λk w=>Ws (16+k) w (Ch B k)) 48
  (λk hk w hw=>⟨_,a1D k hk hw,by exact Ws.push hw a1B⟩)
  (λw hw=>by simp(disch:=omega) only[gG,gF,WW]) w1 h2
 refine⟨w2,?_,h4⟩;have e1:au gD (gB 0 b (λ_=>0) (λ_=>0))=some (rF (λ_=>0) w1):=h1;have e2:au gG (gF 16 (λ_=>0) w1)=some (rG (λ_=>0) w2):=h3;rw[ER,BL];simp only[gB,rF]at e1;simp only[gF,rG]at e2;rw[e1];simp only;rw[e2]
theorem a1E {k w:Nat}{x:Nat->Nat}(h: ∀i,i<8->x i<4294967296): ∀i,i<8->Bo k w x i<4294967296:=by
 intro i hi;have h0:=h 0 (by omega);have h1:=h 1 (by omega);have h2:=h 2 (by omega);have h4:=h 4 (by omega);have h5:=h 5 (by omega);have h6:=h 6 (by omega)
 match i,hi with
 |0,_=>exact awZ _ (by decide)
 |1,_=>exact h0
 |2,_=>exact h1
 |3,_=>exact h2
 |4,_=>exact awZ _ (by decide)
 |5,_=>exact h4
 |6,_=>exact h5
 |7,_=>exact h6
theorem a3F {v t1 k w x:Nat->Int}{K W X:Nat->Nat}(hk:Ws 64 k K)(hw:Ws 64 w W)(t:Nat)(ht:t<64)(hx:Ws 8 x X):
  ∃y,ku (kr (t:Int) v t1 k w x)=some (.inl (kr ((t+1:Nat):Int) v t1 k w y))/\Ws 8 y (Bo (K t) (W t) X):=by
 obtain⟨e0,l0⟩:=hx 0 (by omega);obtain⟨e1,l1⟩:=hx 1 (by omega);obtain⟨e2,l2⟩:=hx 2 (by omega);obtain⟨e3,l3⟩:=hx 3 (by omega);obtain⟨e4,l4⟩:=hx 4 (by omega);obtain⟨e5,l5⟩:=hx 5 (by omega);obtain⟨e6,l6⟩:=hx 6 (by omega);obtain⟨e7,l7⟩:=hx 7 (by omega);obtain⟨ek,lk⟩:=hk t ht;obtain⟨ew,lw⟩:=hw t ht;have r1:= @eP (X 4) 6 l4;have r2:= @eP (X 4) 11 l4;have r3:= @eP (X 4) 25 l4;have r4:= @eP (X 0) 2 l0;have r5:= @eP (X 0) 13 l0;have r6:= @eP (X 0) 22 l0;have x1:=kI r1 r2;have x2:=kI r4 r5;have x3:=kI l5 l6;have x4:X 4&&&(X 5^^^ X 6)<4294967296:=awV ayd l4;have x5:X 0||| X 1<4294967296:=axp (n:=32) l0 l1;have x6:X 0&&& X 1<4294967296:=awV ayd l0;have x7:X 2&&&(X 0||| X 1)<4294967296:=awV ayd l2;refine⟨_,by
  simp(disch:=omega) only[ku,kr,WW,e0,e1,e2,e3,e4,e5,e6,e7,ek,ew,Oc,arZ,awl,orW,O1,V6,sM];rfl,?_⟩
 have hl:=a1E (k:=K t) (w:=W t) (x:=X) (λi hi=>(hx i hi).2);intro i hi;refine⟨?_,hl i hi⟩
 match i,hi with
 |0,_=>
  simp only[upd,axV,Bo,S1N,S0N,chN,abb]
  congr 1;omega
 |4,_=>
  simp only[upd,axV,awG (show¬(4=0)by decide),Bo,S1N,chN]
  congr 1;omega
 |1,_=>exact e0
 |2,_=>exact e1
 |3,_=>exact e2
 |5,_=>exact e4
 |6,_=>exact e5
 |7,_=>exact e6
theorem Vu {v b:Nat->Int}{V B:Nat->Nat}(hv:Ws 8 v V)(hb:Bs 64 b B): ∃r,CW v b=some r/\Ws 8 r (PL V B):=by
 obtain⟨k,hk1,hk2⟩:=a1A;obtain⟨w,hw1,hw2⟩:=Od hb;obtain⟨x,h1,h2⟩:=aL (R:=ku) (λt (x:Nat->Int)=>kr (t:Int) v (λ_=>0) k w x) (λx=>xJ v (λ_=>0) x)
  (λt x=>Ws 8 x (aa3 kN (Ch B 48) V t)) 64 (λt ht x hx=>a3F hk2 hw2 t ht hx)
  (λx hx=>by simp(disch:=omega) only[ku,kr,WW]) v hv
 obtain⟨y,h3,h4⟩:=aL (R:=mX) (λt (x:Nat->Int)=>qJ (t:Int) v (λ_=>0) x) (λx=>xK (λ_=>0) x)
  (λt x=> ∀i,i<8->(i<t->x i=(PL V B i:Int))/\(t<=i->x i=(aa3 kN (Ch B 48) V 64 i:Int))) 8
  (λt ht z hz=>by
   obtain⟨ev,lv⟩:=hv t ht;have ez:=(hz t ht).2 (ax2 _);have lm:=(h2 t ht).2;refine⟨_,by
    simp(disch:=omega) only[mX,qJ,WW,ev,ez,O1,V6,sM];rfl,?_⟩
   intro i hi;by_cases hit:i=t
   ·subst hit;refine⟨λ_=>by simp only[upd,axV];rfl,λh=>by omega⟩
   ·simp only[upd,awG hit];exact⟨λh=>(hz i hi).1 (by omega),λh=>(hz i hi).2 (by omega)⟩)
  (λx hx=>by simp(disch:=omega) only[mX,qJ,WW]) x (λi hi=>⟨λh=>by omega,λ_=>(h2 i hi).1⟩)
 refine⟨y,?_,λi hi=>⟨(h4 i hi).1 hi,awZ _ (by decide)⟩⟩;have e1:au ku (kr 0 v (λ_=>0) k w v)=some (xJ v (λ_=>0) x):=h1;have e2:au mX (qJ 0 v (λ_=>0) x)=some (xK (λ_=>0) y):=h3;rw[Nn,Ls,hk1,hw1];simp only[kr,xJ]at e1;simp only[qJ,xK]at e2;simp only;rw[e1];simp only;rw[e2]
theorem Et {s t:ByteArray} :sEq s t=true↔bl s=bl t:=by
 constructor
 ·intro h;have h2:s.toList=t.toList:=eq_of_beq h;rw[aym,aym]at h2;exact h2
 ·exact a9Z
theorem Jd {s:ByteArray} :sEq s (ByteArray.mk #[])=decide (s.size=0):=by
 by_cases h:s.size=0
 ·rw[awv h,Et];exact aya.1 h
 ·rw[aww h];cases hb:sEq s (ByteArray.mk #[])
  ·rfl
  ·rw[Et]at hb;exact absurd (by rw[iI,hb];rfl) h
def bN(l:List UInt8)(k:Nat):Nat->Nat:=λi=>if i<64 then(l.getD (64*k+i) 0).toNat else 0
def aa4:Nat->Nat:=λi=>[1779033703,3144134277,1013904242,2773480762,1359893119,2600822924,528734635,1541459225].getD i 0
def kQ(l:List UInt8):Nat->Nat->Nat|0=>aa4|k+1=>PL (kQ l k) (bN l k)
theorem vW {l s:List UInt8}{i:Nat}(h:i<l.length):(l++s).getD i 0=l.getD i 0:=by rw[awC,awC,awY h]
theorem Bp {l s:List UInt8}{i:Nat}(h:l.length<=i):(l++s).getD i 0=s.getD (i-l.length) 0:=by rw[awC,awC,axw h]
theorem a5Q {l s:List UInt8}{k:Nat}(h:64*k+64<=l.length):bN (l++s) k=bN l k:=by
 funext i
 unfold bN;split
 ·rw[vW (by omega)]
 ·rfl
theorem Aa {l s:List UInt8} : ∀ {k:Nat},64*k<=l.length->kQ (l++s) k=kQ l k
 |0,_=>rfl
 |k+1,h=>by rw[kQ,kQ,Aa (k:=k) (by omega),a5Q (by omega)]
theorem XY: ∃r,CS=some r/\Ws 8 r aa4:=by
 refine⟨_,by rw[DY];rfl,?_⟩;intro i hi
 match i,hi with
 |0,_=>exact⟨rfl,by decide⟩
 |1,_=>exact⟨rfl,by decide⟩
 |2,_=>exact⟨rfl,by decide⟩
 |3,_=>exact⟨rfl,by decide⟩
 |4,_=>exact⟨rfl,by decide⟩
 |5,_=>exact⟨rfl,by decide⟩
 |6,_=>exact⟨rfl,by decide⟩
 |7,_=>exact⟨rfl,by decide⟩
abbrev R6:=Bool×((Nat->Int)×((Nat->Int)×Int))
structure Ab(h:R6)(l:List UInt8):Prop where
 given:h.1=true
 n:h.2.2.2=(l.length:Int)
 words:Ws 8 h.2.1 (kQ l (l.length/64))
 rest: ∀j,j<l.length%64->h.2.2.1 j=((l.getD (64*(l.length/64)+j) 0).toNat:Int)
theorem Xb {h:R6}{l:List UInt8}{s:ByteArray}(hh:Ab h l)(hs:0<s.size)(hb:l.length+s.size<2^60):
  ∃h' m,0<m/\m<=s.size/\dx (dw s h)=some (.inl (dw (s.extract m s.size) h'))/\Ab h' (l++(bl s).take m):=by
 obtain⟨g,w,r,n⟩:=h;obtain⟨h1,h2,h3,h4⟩:=hh;simp only at h1 h2 h3 h4;subst h2;have hmod:l.length%64<64:=awZ _ (by decide);have e64:64-(l.length%64)≠0:=by omega
 generalize hm:min s.size (64-l.length%64)=m;have hm1:0<m:=by omega
 have hm2:m<=s.size:=by omega
 have hm3:l.length%64+m<=64:=by omega
 have hsz:(bl s).length=s.size:=(iI s).symm;have c1:Nat.ble (64-l.length%64) 0=false:=by
  cases hb:Nat.ble (64-l.length%64) 0
  ·rfl
  ·exact absurd (awN hb) (by omega)
 have c2:Nat.ble s.size 0=false:=by
  cases hb:Nat.ble s.size 0
  ·rfl
  ·exact absurd (awN hb) (by omega)
 have hlen:(l++(bl s).take m).length=l.length+m:=by rw[awS,az5];omega
 have hget: ∀j,j<l.length%64+m->sO r (l.length%64) m (λi=>(((s.data.toList.getD i 0).toNat:Nat):Int)) j=(((l++(bl s).take m).getD (64*(l.length/64)+j) 0).toNat:Int):=by
  intro j hj;unfold sO;by_cases hjl:l.length%64<=j
  ·rw[awQ ⟨hjl,hj⟩,Bp (by omega),show 64*(l.length/64)+j-l.length=j-l.length%64 by omega];show(((s.data.toList.getD (j-l.length%64) 0).toNat:Nat):Int)=_;rw[awC,awC,awX (by omega)]
  ·rw[awG (by omega),vW (by omega)];exact h4 j (by omega)
 by_cases hfull:l.length%64+m=64
 ·obtain⟨r',hr1,hr2⟩:=Vu (b:=sO r (l.length%64) m (λi=>(((s.data.toList.getD i 0).toNat:Nat):Int))) (B:=bN (l++(bl s).take m) (l.length/64)) h3 (by
   intro i hi;refine⟨?_,?_⟩
   ·rw[hget i (by omega)];unfold bN;rw[awQ hi]
   ·unfold bN;rw[awQ hi];exact UInt8.toNat_lt _)
  refine⟨(g,(r',(sO r (l.length%64) m (λi=>(((s.data.toList.getD i 0).toNat:Nat):Int)),((l.length+m:Nat):Int)))),m,hm1,hm2,?_,?_⟩
  ·simp(disch:=omega) only[dx,dw,Jd,WW,CC,c1,c2,ayA,hm,ayJ,ax4,hr1]
  ·have hq:(l.length+m)/64=l.length/64+1:=by omega
   refine⟨h1,by simp only;rw[hlen],?_,?_⟩
   ·simp only;rw[hlen,hq,kQ,Aa (by omega)];exact hr2
   ·intro j hj;rw[hlen]at hj;omega
 ·refine⟨(g,(w,(sO r (l.length%64) m (λi=>(((s.data.toList.getD i 0).toNat:Nat):Int)),((l.length+m:Nat):Int)))),m,hm1,hm2,?_,?_⟩
  ·simp(disch:=omega) only[dx,dw,Jd,WW,CC,c1,c2,ayA,hm,ayJ,ax4]
  ·have hq:(l.length+m)/64=l.length/64:=by omega
   refine⟨h1,by simp only;rw[hlen],?_,?_⟩
   ·simp only;rw[hlen,hq,Aa (by omega)];exact h3
   ·intro j hj;rw[hlen]at hj;simp only;rw[hlen,hq];exact hget j (by omega)
theorem Zp: ∀(n:Nat) {h:R6} {l:List UInt8} {s:ByteArray},s.size<=n->Ab h l->l.length+s.size<2^60->
  ∃h',au dx (dw s h)=some (wU h')/\Ab h' (l++bl s):=by
 intro n
 induction n with
 |zero=>
  intro h l s hn hh hb;have h0:bl s=[]:=aya.1 (by rw[<-iI];omega);refine⟨h,fZ ?_,by rw[h0,ayr];exact hh⟩;simp(disch:=omega) only[dx,dw,Jd,WW]
 |succ n ih=>
  intro h l s hn hh hb;by_cases h0:s.size=0
  ·have h0':bl s=[]:=aya.1 (by rw[<-iI];omega);refine⟨h,fZ ?_,by rw[h0',ayr];exact hh⟩;simp(disch:=omega) only[dx,dw,Jd,WW]
  ·obtain⟨h',m,hm1,hm2,hr,hh'⟩:=Xb hh (Nat.pos_of_ne_zero h0) hb;have hsz:(s.extract m s.size).size=s.size-m:=by rw[iI,a4z,axZ,iI]
   have hlt:(bl s).length=s.size:=(iI s).symm;obtain⟨h'',h1,h2⟩:=ih (h:=h') (l:=l++(bl s).take m) (s:=s.extract m s.size) (by omega) hh' (by rw[awS,az5];omega);refine⟨h'',by rw[zn hr];exact h1,?_⟩;rw[a4z,axx,axT]at h2;exact h2
theorem yX {h:R6}{l:List UInt8}{s:ByteArray}(hh:Ab h l)(hb:l.length+s.size<2^60):
  ∃h',jq s h=some (rH h')/\Ab h' (l++bl s):=by
 obtain⟨h',h1,h2⟩:=Zp s.size (ax2 _) hh hb;refine⟨h',?_,h2⟩;simp only[dw,wU]at h1;rw[AR,xL,hh.given,h1];rfl
def p8(n:Nat):Nat:=(119-n%64)%64
theorem PN(n:Nat):(n+1+p8 n)%64=56:=by unfold p8;omega
theorem KI {n k:Nat}(h:k<p8 n):(n+1+k)%64≠56:=by unfold p8 at h;omega
def Zq(n:Nat):List UInt8:=(List.range 8).map λk=>UInt8.ofNat (8*n/2^(56-8*k)%256)
def Xc(l:List UInt8):List UInt8:=l++[128]++List.replicate (p8 l.length) 0++Zq l.length
theorem a1F(l:List UInt8):(Xc l).length=l.length+1+p8 l.length+8:=by simp[Xc,Zq];omega
theorem aa5(l:List UInt8):(Xc l).length%64=0:=by rw[a1F];have:=PN l.length;omega
def PS(v:Nat->Nat)(j:Nat):Nat:=v (j/4)/2^(24-8*(j%4))%256
def Zr(v:Nat->Nat):ByteArray:=⟨((List.range 32).map λj=>UInt8.ofNat (PS v j)).toArray⟩
def Ju(l:List UInt8):ByteArray:=Zr (kQ (Xc l) ((Xc l).length/64))
theorem R7 {out:Nat->Int}{v:Nat->Nat}(h: ∀j,j<32->out j=(PS v j:Int)):bytesOf 32 (λj=>out (0+j))=Zr v:=by
 unfold bytesOf Zr
 congr 1;congr 1
 apply ayf;intro j hj;simp only[awR,h j (ayo.1 hj),awz]
theorem a5R {h0 c:R6}{l:List UInt8}(hc:Ab c (l++[128]))(hb:l.length<2^59):
  ∃c',au jg (kU h0 c)=some (rJ h0 c')/\Ab c' (l++[128]++List.replicate (p8 l.length) 0):=by
 have hz:p8 l.length<64:=awZ _ (by decide);have hlen: ∀k,(l++[128]++List.replicate k (0:UInt8)).length=l.length+1+k:=by intro k;simp;omega
 refine aL (R:=jg) (λk (c:R6)=>kU h0 c) (λc=>rJ h0 c) (λk c=>Ab c (l++[128]++List.replicate k 0)) (p8 l.length) ?_ ?_ c (by simpa using hc)
 ·intro k hk c hc;obtain⟨c',h1,h2⟩:=yX (s:=ByteArray.mk #[0]) hc (by rw[hlen];show _+1<_;omega);have hn:=hc.n;rw[hlen]at hn;have hb2:=KI hk;refine⟨c',?_,?_⟩
  ·simp(disch:=omega) only[jg,kU,hn,WW,CC,h1]
  ·rw[List.replicate_succ',<-axx];exact h2
 ·intro c hc;have hn:=hc.n;rw[hlen]at hn;have hb2:=PN l.length;simp(disch:=omega) only[jg,kU,hn,WW,CC]
theorem aa6 {h0 c:R6}{l:List UInt8}(h0n:h0.2.2.2=(l.length:Int))(hb:l.length<2^59):
  ∃last,au jh (kV h0 0 c (λ_=>0))=some (rM c last)/\ ∀k,k<8->last k=((8*l.length/2^(56-8*k)%256:Nat):Int):=by
 refine aL (R:=jh) (λk (f:Nat->Int)=>kV h0 (k:Int) c f) (λf=>rM c f) (λk f=> ∀i,i<k->f i=((8*l.length/2^(56-8*i)%256:Nat):Int)) 8 ?_ ?_ (λ_=>0) (λi hi=>by omega)
 ·intro k hk f hf;refine⟨_,by
   simp(disch:=omega) only[jh,kV,h0n,WW,CC,Zd,Vs];rfl,?_⟩
  intro i hi;by_cases hik:i=k
  ·subst hik;simp only[upd,axV]
  ·simp only[upd,awG hik];exact hf i (by omega)
 ·intro f hf;simp(disch:=omega) only[jh,kV,WW,CC]
theorem abe {w:Nat->Int}{v:Nat->Nat}(hw:Ws 8 w v):
  ∃out,au ji (kW 0 (λ_=>0) w 0)=some (rO 32 out)/\ ∀j,j<32->out j=(PS v j:Int):=by
 refine aL (R:=ji) (λk (f:Nat->Int)=>kW (4*k) f w (k:Int)) (λf=>rO 32 f) (λk f=> ∀i,i<4*k->f i=(PS v i:Int)) 8 ?_ ?_ (λ_=>0) (λi hi=>by omega)
 ·intro k hk f hf;obtain⟨e,lt⟩:=hw k hk;have b1:Nat.ble ((4*k+4)*1) 140737488355328=true:=awF (by omega);have b2:Nat.ble (4*k+4) 9223372036854775807=true:=awF (by omega);refine⟨_,by
   simp(disch:=omega) only[ji,kW,e,WW,CC,aa0,Vs,b1,b2,ayJ];rfl,?_⟩
  intro i hi;unfold glue;by_cases hik:i<4*k
  ·rw[show Nat.blt i (4*k)=true from awF hik,awL];exact hf i hik
  ·rw[show Nat.blt i (4*k)=false by
    cases hb:Nat.blt i (4*k)
    ·rfl
    ·exact absurd (awN hb) hik,awW]
   have hd:i/4=k:=by omega
   have h4:i-4*k=0\/i-4*k=1\/i-4*k=2\/i-4*k=3:=by omega
   rcases h4 with h4|h4|h4|h4
   ·have hm:i%4=0:=by omega
    rw[h4,PS,hd,hm];rfl
   ·have hm:i%4=1:=by omega
    rw[h4,PS,hd,hm];rfl
   ·have hm:i%4=2:=by omega
    rw[h4,PS,hd,hm];rfl
   ·have hm:i%4=3:=by omega
    rw[h4,PS,hd,hm,ay8,az8];rfl
 ·intro f hf;simp(disch:=omega) only[ji,kW,WW,CC]
theorem a3G {h0:R6}{l:List UInt8}(hh:Ab h0 l)(hb:l.length<2^59):yN (some h0)=some (Ju l):=by
 obtain⟨c1,h1,k1⟩:=yX (s:=ByteArray.mk #[128]) hh (by show _+1<_;omega);obtain⟨c2,h2,k2⟩:=a5R (h0:=h0) k1 hb;obtain⟨last,h3,k3⟩:=aa6 (c:=c2) hh.n hb;have hz:p8 l.length<64:=awZ _ (by decide);obtain⟨c3,h4,k4⟩:=yX (s:=bytesOf 8 (λj=>last (0+j))) k2 (by rw[show(bytesOf 8 (λj=>last (0+j))).size=8 by simp[bytesOf,ByteArray.size]];simp;omega);have e5:l++[128]++List.replicate (p8 l.length) 0++bl (bytesOf 8 (λj=>last (0+j)))=Xc l:=by
  unfold Xc Zq
  congr 1
  rw[vV];apply ayf;intro j hj;simp only[awR,k3 j (ayo.1 hj),awz]
 rw[e5]at k4;obtain⟨out,h6,k6⟩:=abe k4.words;simp only[kU,rJ]at h2;simp only[kV,rM]at h3;simp only[kW,rO]at h6;rw[ES,wu];simp only[hh.given,axc,awW,h1,rH,h2,h3,h4,h6];rw[R7 k6];rfl
theorem Eu {s:ByteArray}(hb:s.size<2^59):wz s=some (Ju (bl s)):=by obtain⟨f,h1,k1⟩:=XY;have hh:Ab (true,(f,((λ_=>0),0))) []:=⟨rfl,rfl,k1,λj hj=>by simp at hj⟩;obtain⟨h',h2,k2⟩:=yX (s:=s) hh (by simp;omega);rw[ayZ]at k2;have h3:=a3G k2 (by rw[<-iI];exact hb);rw[Uj,Ui,Nl,Lr,h1];simp only[h2,rH,h3]
def Ag(n:Nat)(b:Nat->Int)(l:List UInt8):Prop:=n=l.length/\ ∀j,j<n->b j=((l.getD j 0).toNat:Int)
theorem Ag.push {n:Nat}{b:Nat->Int}{l:List UInt8}(h:Ag n b l){v:Int}{x:UInt8}(hv:v=(x.toNat:Int)):Ag (n+1) (glue n b (λj=>upd (λ_=>0) 0 v (0+j))) (l++[x]):=by
 obtain⟨h1,h2⟩:=h;refine⟨by simp;omega,?_⟩;intro j hj;unfold glue;by_cases hc:j<n
 ·rw[show Nat.blt j n=true from awF hc,awL,vW (by omega)];exact h2 j hc
 ·obtain rfl:j=n:=by omega
  rw[show Nat.blt j j=false by
   cases hb:Nat.blt j j
   ·rfl
   ·exact absurd (awN hb) (by omega),awW,Bp (by omega),h1,axX]
  exact hv
theorem a5S {s:ByteArray}{l:List UInt8}{b:Nat->Int}(hl:l.length<2^40)(h:Ag (l.length+1) b (l++[128])):
  ∃n b',au kX (oK s (l.length+1) b)=some (vH s n b')/\Ag n b' (l++[128]++List.replicate (p8 l.length) 0):=by
 have hz:p8 l.length<64:=awZ _ (by decide);obtain⟨f,h1,h2⟩:=aL (R:=kX) (λk (f:Nat->Int)=>oK s (l.length+1+k) f) (λf=>vH s (l.length+1+p8 l.length) f)
  (λk f=>Ag (l.length+1+k) f (l++[128]++List.replicate k 0)) (p8 l.length)
  (λk hk f hf=>by
   have hb2:=KI hk;have c1:Nat.ble ((l.length+1+k+1)*1) 140737488355328=true:=awF (by omega);have c2:Nat.ble (l.length+1+k+1) 9223372036854775807=true:=awF (by omega);refine⟨_,by
    simp(disch:=omega) only[kX,oK,WW,Zf,c1,c2,ayJ];rfl,?_⟩
   rw[List.replicate_succ',<-axx];exact hf.push rfl)
  (λf hf=>by have hb2:=PN l.length;simp(disch:=omega) only[kX,oK,WW,Zf]) b (by simpa using h)
 exact⟨_,f,h1,h2⟩
theorem abf {s:ByteArray}{l m:List UInt8}{n:Nat}{b:Nat->Int}(hsl:s.size=l.length)(hl:l.length<2^40)(hm:m.length<2^41)(h:Ag n b m):
  ∃n' b',au kY (oL s n b 7)=some (vI n' b')/\Ag n' b' (m++Zq l.length):=by
 have hn:n=m.length:=h.1;obtain⟨f,h1,h2⟩:=aL (R:=kY) (λk (f:Nat->Int)=>oL s (n+k) f (7-(k:Int))) (λf=>vI (n+8) f)
  (λk f=>Ag (n+k) f (m++(Zq l.length).take k)) 8
  (λk hk f hf=>by
   have c1:Nat.ble ((n+k+1)*1) 140737488355328=true:=awF (by omega);have c2:Nat.ble (n+k+1) 9223372036854775807=true:=awF (by omega);have e1:IntKind.i64.wrap (8*(7-(k:Int)))=((56-8*k:Nat):Int):=by rw[wrap_i64 (by omega)];omega
   have e2:IntKind.i64.wrap (8*(s.size:Int))=((8*l.length:Nat):Int):=by rw[wrap_i64 (by omega)];omega
   have e3:IntKind.i64.wrap (7-(k:Int)-1)=7-((k+1:Nat):Int):=by rw[wrap_i64 (by omega)];omega
   have hd:8*l.length/2^(56-8*k)<9223372036854775808:=awV (axe _ _) (by omega);have e4:ay .and .i64 ((8*l.length/2^(56-8*k):Nat):Int) 255=((8*l.length/2^(56-8*k)%256:Nat):Int):=by rw[show(255:Int)=((255:Nat):Int)from rfl,a18 hd (by decide),show(255:Nat)=2^8-1 from rfl,axj]
   have hlt:8*l.length/2^(56-8*k)%256<256:=awZ _ (by decide);refine⟨_,by
    simp(disch:=omega) only[kY,oL,WW,e1,e2,e3,Zd,e4,c1,c2,ayJ];rfl,?_⟩
   have hll:(Zq l.length).length=8:=by simp[Zq]
   rw[a5P (by omega),<-axx];refine hf.push ?_;rw[a9H (by omega)];unfold Zq;rw[awC,axk,ayn hk];simp only[ay6,Option.getD_some,UInt8.toNat_ofNat'];rw[Nat.mod_mod])
  (λf hf=>by simp(disch:=omega) only[kY,oL,WW]) b (by simpa using h)
 refine⟨_,f,h1,?_⟩;rw[axq (by simp[Zq])]at h2;exact h2
theorem RH {s:ByteArray}(hs:s.size<2^40): ∃n b,E9 s=some (n,b)/\Ag n b (Xc (bl s)):=by
 have hsz:=iI s;have h0:Ag s.size (λi=>((((s).data.toList.getD i 0).toNat:Nat):Int)) (bl s):=⟨hsz,λj hj=>rfl⟩;have h1:=h0.push (v:=128) (x:=128) rfl;obtain⟨n1,b1,z1,z2⟩:=a5S (s:=s) (l:=bl s) (by omega) (b:=glue s.size (λi=>((((s).data.toList.getD i 0).toNat:Nat):Int)) (λj=>upd (λ_=>0) 0 128 (0+j))) (by rw[<-hsz];exact h1);have hz:p8 (bl s).length<64:=awZ _ (by decide);obtain⟨n2,b2,y1,y2⟩:=abf (s:=s) (l:=bl s) hsz (by omega) (by rw[awS,awS,List.length_replicate];show _+1+_<_;omega) z2;have c1:Nat.ble s.size 9223372036854775807=true:=awF (by omega);have c2:Nat.ble ((s.size+1)*1) 140737488355328=true:=awF (by omega);have c3:Nat.ble (s.size+1) 9223372036854775807=true:=awF (by omega);rw[<-hsz]at z1;simp only[oK,vH]at z1;simp only[oL,vI]at y1;refine⟨n2,λj=>b2 (0+j),?_,?_⟩
 ·rw[K6,Gz];simp only[c1,c2,c3,ayJ,awL,z1,y1]
 ·have e0:(λj=>b2 (0+j))=b2:=by funext j;rw[awR]
  rw[e0];exact y2
theorem RI {nb:Nat}{b w t1:Nat->Int}{B:Nat->Nat}(hnb:64<=nb)(hnb2:nb<2^60)(hb:Bs 64 b B)(t:Nat)(ht:t<16):
  gL (gK nb b (t:Int) t1 w)=some (.inl (gK nb b ((t+1:Nat):Int) t1 (upd w t (Es B t:Int)))):=by
 obtain⟨e0,l0⟩:=hb (4*t) (by omega);obtain⟨e1,l1⟩:=hb (4*t+1) (by omega);obtain⟨e2,l2⟩:=hb (4*t+2) (by omega);obtain⟨e3,l3⟩:=hb (4*t+3) (by omega);have w24: ∀ {x:Nat},x<256->iE .i64 (x:Int) 24=((x*2^24:Nat):Int):=λ{x} hx=>a4A (s:=24) (by decide) (by omega)
 have w16: ∀ {x:Nat},x<256->iE .i64 (x:Int) 16=((x*2^16:Nat):Int):=λ{x} hx=>a4A (s:=16) (by decide) (by omega)
 have w8: ∀ {x:Nat},x<256->iE .i64 (x:Int) 8=((x*2^8:Nat):Int):=λ{x} hx=>a4A (s:=8) (by decide) (by omega)
 have o1:B (4*t)*2^24||| B (4*t+1)*2^16<4294967296:=axp (n:=32) (by omega) (by omega);have o2:(B (4*t)*2^24||| B (4*t+1)*2^16)||| B (4*t+2)*2^8<4294967296:=axp (n:=32) o1 (by omega);simp(disch:=omega) only[gL,gK,WW,CC,e0,e1,e2,e3,w24,w16,w8,orS];rw[a4B l0 l1 l2 l3];rfl
theorem a3H {x:Nat}(h:x<9223372036854775808):ay .and .i64 (x:Int) 4294967295=((x%4294967296:Nat):Int):=by rw[show(4294967295:Int)=((4294967295:Nat):Int)from rfl,a18 h (by decide),show(4294967295:Nat)=2^32-1 from rfl,axj]
theorem RJ {w t1:Nat->Int}{W:Nat->Nat}(k:Nat)(hk:k<48)(hw:Ws (16+k) w W):
  gN (gM ((16+k:Nat):Int) t1 w)=some (.inl (gM ((16+(k+1):Nat):Int) t1 (upd w (16+k) (XV W (16+k):Int)))):=by
 obtain⟨e0,l0⟩:=hw (16+k-15) (by omega);obtain⟨e1,l1⟩:=hw (16+k-2) (by omega);obtain⟨e2,l2⟩:=hw (16+k-16) (by omega);obtain⟨e3,l3⟩:=hw (16+k-7) (by omega);have r1:= @eP (W (16+k-15)) 7 l0;have r2:= @eP (W (16+k-15)) 18 l0;have r3:= @eP (W (16+k-2)) 17 l1;have r4:= @eP (W (16+k-2)) 19 l1;have x1:=kI r1 r2;have x2:=kI r3 r4;have d1:W (16+k-15)/2^3<4294967296:=awV (axe _ _) l0;have d2:W (16+k-2)/2^10<4294967296:=awV (axe _ _) l1;have x3:=kI x1 d1;have x4:=kI x2 d2;have c1:((16+k:Nat):Int)-15=((16+k-15:Nat):Int):=by omega
 have c2:((16+k:Nat):Int)-2=((16+k-2:Nat):Int):=by omega
 have c3:((16+k:Nat):Int)-16=((16+k-16:Nat):Int):=by omega
 have c4:((16+k:Nat):Int)-7=((16+k-7:Nat):Int):=by omega
 have c5:((16+k:Nat):Int)+1=((16+(k+1):Nat):Int):=by omega
 simp(disch:=omega) only[gN,gM,c1,c2,c3,c4,c5,WW,e0,e1,e2,e3,Vt,aa1,aip,O1,a3H];have hv: ∀a b c d:Nat,(a+b+c+d)%4294967296=(d+c+b+a)%4294967296:=λa b c d=>by congr 1;omega
 simp only[XV,s0N,s1N];rw[hv]
theorem Oe {nb:Nat}{b:Nat->Int}{B:Nat->Nat}(hnb:64<=nb)(hnb2:nb<2^60)(hb:Bs 64 b B): ∃w,yQ nb b=some w/\Ws 64 w (Ch B 48):=by
 have s0lt: ∀t,t<16->Es B t<4294967296:=λt ht=>XW (hb _ (by omega)).2 (hb _ (by omega)).2 (hb _ (by omega)).2 (hb _ (by omega)).2
 obtain⟨w1,h1,h2⟩:=aL (R:=gL) (λk (w:Nat->Int)=>gK nb b (k:Int) (λ_=>0) w) (λw=>rQ (λ_=>0) w)
  (λk w=>Ws k w (Es B)) 16
  (λk hk w hw=>⟨_,RI hnb hnb2 hb k hk,λi hi=>by
   by_cases hik:i=k
   ·subst hik;simp only[upd,axV];exact⟨trivial,s0lt _ hk⟩
   ·simp only[upd,awG hik];exact hw i (by omega)⟩)
  (λw hw=>by simp(disch:=omega) only[gL,gK,WW]) (λ_=>0) (λi hi=>by omega)
 obtain⟨w2,h3,h4⟩:=aL (R:=gN) (λk (w:Nat->Int)=>gM ((16+k:Nat):Int) (λ_=>0) w) (λw=>rR (λ_=>0) w)
  (λk w=>Ws (16+k) w (Ch B k)) 48
  (λk hk w hw=>⟨_,RJ k hk hw,by exact Ws.push hw a1B⟩)
  (λw hw=>by simp(disch:=omega) only[gN,gM,WW]) w1 h2
 refine⟨w2,?_,h4⟩;have e1:au gL (gK nb b 0 (λ_=>0) (λ_=>0))=some (rQ (λ_=>0) w1):=h1;have e2:au gN (gM 16 (λ_=>0) w1)=some (rR (λ_=>0) w2):=h3;rw[EY,BP];simp only[gK,rQ]at e1;simp only[gM,rR]at e2;rw[e1];simp only;rw[e2]
theorem Vv {v t1 k w x:Nat->Int}{K W X:Nat->Nat}(hk:Ws 64 k K)(hw:Ws 64 w W)(t:Nat)(ht:t<64)(hx:Ws 8 x X):
  ∃y,kD (kC (t:Int) v t1 w k x)=some (.inl (kC ((t+1:Nat):Int) v t1 w k y))/\Ws 8 y (Bo (K t) (W t) X):=by
 obtain⟨e0,l0⟩:=hx 0 (by omega);obtain⟨e1,l1⟩:=hx 1 (by omega);obtain⟨e2,l2⟩:=hx 2 (by omega);obtain⟨e3,l3⟩:=hx 3 (by omega);obtain⟨e4,l4⟩:=hx 4 (by omega);obtain⟨e5,l5⟩:=hx 5 (by omega);obtain⟨e6,l6⟩:=hx 6 (by omega);obtain⟨e7,l7⟩:=hx 7 (by omega);obtain⟨ek,lk⟩:=hk t ht;obtain⟨ew,lw⟩:=hw t ht;have r1:= @eP (X 4) 6 l4;have r2:= @eP (X 4) 11 l4;have r3:= @eP (X 4) 25 l4;have r4:= @eP (X 0) 2 l0;have r5:= @eP (X 0) 13 l0;have r6:= @eP (X 0) 22 l0;have x1:=kI r1 r2;have x2:=kI r4 r5;have x3:=kI x1 r3;have x4:=kI x2 r6;have nx:4294967295^^^ X 4<4294967296:=kI (by decide) l4;have nn:ay .xor .i64 4294967295 (X 4:Int)=((4294967295^^^ X 4:Nat):Int):=by rw[show(4294967295:Int)=((4294967295:Nat):Int)from rfl,aip (by decide) (by omega)]
 have a1:X 4&&& X 5<4294967296:=awV ayd l4;have a2:(4294967295^^^ X 4)&&& X 6<4294967296:=awV ayd nx;have a3:X 0&&& X 1<4294967296:=awV ayd l0;have a4:X 0&&& X 2<4294967296:=awV ayd l0;have a5:X 1&&& X 2<4294967296:=awV ayd l1;have a6:=kI a1 a2;have a7:=kI a3 a4;have a8:=kI a7 a5;refine⟨_,by
  simp(disch:=omega) only[kD,kC,WW,e0,e1,e2,e3,e4,e5,e6,e7,ek,ew,Vt,nn,aip,a18,O1,V6,a3H];rfl,?_⟩
 have hl:=a1E (k:=K t) (w:=W t) (x:=X) (λi hi=>(hx i hi).2);have hch:=abd (f:=X 5) l4 l6;have hmj:=aa2 (X 0) (X 1) (X 2);intro i hi;refine⟨?_,hl i hi⟩
 match i,hi with
 |0,_=>
  simp only[upd,awG (show¬(0=1)by decide),awG (show¬(0=2)by decide),awG (show¬(0=3)by decide),awG (show¬(0=4)by decide),awG (show¬(0=5)by decide),awG (show¬(0=6)by decide),awG (show¬(0=7)by decide),axV,Bo,S1N,S0N];rw[hch,hmj]
  congr 2;omega
 |4,_=>
  simp only[upd,awG (show¬(4=5)by decide),awG (show¬(4=6)by decide),awG (show¬(4=7)by decide),axV,Bo,S1N];rw[hch]
 |1,_=>simp only[upd,awG (show¬(1=2)by decide),awG (show¬(1=3)by decide),awG (show¬(1=4)by decide),awG (show¬(1=5)by decide),awG (show¬(1=6)by decide),awG (show¬(1=7)by decide),axV,Bo]
 |2,_=>simp only[upd,awG (show¬(2=3)by decide),awG (show¬(2=4)by decide),awG (show¬(2=5)by decide),awG (show¬(2=6)by decide),awG (show¬(2=7)by decide),axV,Bo]
 |3,_=>simp only[upd,awG (show¬(3=4)by decide),awG (show¬(3=5)by decide),awG (show¬(3=6)by decide),awG (show¬(3=7)by decide),axV,Bo]
 |5,_=>simp only[upd,awG (show¬(5=6)by decide),awG (show¬(5=7)by decide),axV,Bo]
 |6,_=>simp only[upd,awG (show¬(6=7)by decide),axV,Bo]
 |7,_=>simp only[upd,axV,Bo]
theorem Vw {v b:Nat->Int}{V B:Nat->Nat}{nb:Nat}(hnb:64<=nb)(hnb2:nb<2^60)(hv:Ws 8 v V)(hb:Bs 64 b B): ∃r,IZ v nb b=some r/\Ws 8 r (PL V B):=by
 obtain⟨k,hk1,hk2⟩:=a1A;obtain⟨w,hw1,hw2⟩:=Oe hnb hnb2 hb;obtain⟨x,h1,h2⟩:=aL (R:=kD) (λt (x:Nat->Int)=>kC (t:Int) v (λ_=>0) w k x) (λx=>xO v (λ_=>0) x)
  (λt x=>Ws 8 x (aa3 kN (Ch B 48) V t)) 64 (λt ht x hx=>Vv hk2 hw2 t ht hx)
  (λx hx=>by simp(disch:=omega) only[kD,kC,WW]) v hv
 obtain⟨y,h3,h4⟩:=aL (R:=mZ) (λt (o:Nat->Int)=>qK (t:Int) v (λ_=>0) x o) (λo=>xP (λ_=>0) o)
  (λt o=> ∀i,i<t->o i=(PL V B i:Int)) 8
  (λt ht z hz=>by
   obtain⟨ev,lv⟩:=hv t ht;obtain⟨ex,lx⟩:=h2 t ht;refine⟨_,by
    simp(disch:=omega) only[mZ,qK,WW,ev,ex,O1,V6,a3H];rfl,?_⟩
   intro i hi;by_cases hit:i=t
   ·subst hit;simp only[upd,axV,PL];rw[axP]
   ·simp only[upd,awG hit];exact hz i (by omega))
  (λx hx=>by simp(disch:=omega) only[mZ,qK,WW]) (λ_=>0) (λi hi=>by omega)
 refine⟨y,?_,λi hi=>⟨h4 i hi,awZ _ (by decide)⟩⟩;have e1:au kD (kC 0 v (λ_=>0) w k v)=some (xO v (λ_=>0) x):=h1;have e2:au mZ (qK 0 v (λ_=>0) x (λ_=>0))=some (xP (λ_=>0) y):=h3;rw[Ns,LA,hw1,M4,hk1];simp only[kC,xO]at e1;simp only[qK,xP]at e2;simp only;rw[e1];simp only;rw[e2]
theorem Vx:IY=CS:=by rw[Nr,DY];rfl
theorem Og {s:ByteArray}(hs:s.size<2^40):yR s=some (Ju (bl s)):=by
 obtain⟨nb,b,p1,p2,p3⟩:=RH hs;obtain⟨f,f1,f2⟩:=XY;have hlen:=a1F (bl s);have hmod:=aa5 (bl s);have hz:p8 (bl s).length<64:=awZ _ (by decide);have hsz:=iI s;have hnb:nb=64*((Xc (bl s)).length/64):=by omega
 generalize hP:Xc (bl s)=P at*;generalize hM:P.length/64=M at*;obtain⟨v,v1,v2⟩:=aL (R:=sD) (λk (v:Nat->Int)=>GH nb b ((64*k:Nat):Int) v) (λv=>K9 v) (λk v=>Ws 8 v (kQ P k)) M
  (λk hk v hv=>by
   obtain⟨r,r1,r2⟩:=Vw (nb:=64*k+64-64*k) (b:=λj=>b (64*k+j)) (B:=bN P k) (by omega) (by omega) hv (by intro i hi;unfold bN;rw[awQ hi];exact⟨p3 _ (by omega),UInt8.toNat_lt _⟩);refine⟨r,?_,r2⟩;have e1:((64*k:Nat):Int)+64=((64*k+64:Nat):Int):=by omega
   simp(disch:=omega) only[sD,GH,WW,e1,ayJ,r1];rfl)
  (λv hv=>by simp(disch:=omega) only[sD,GH,WW]) f f2
 obtain⟨out,o1,o2⟩:=aL (R:=sF) (λk (g:Nat->Int)=>GJ (4*k) g (k:Int) v) (λg=>Ka 32 g) (λk g=> ∀i,i<4*k->g i=(PS (kQ P M) i:Int)) 8
  (λk hk g hg=>by
   obtain⟨e,lt⟩:=v2 k hk;have c1:Nat.ble ((4*k+1)*1) 140737488355328=true:=awF (by omega);have c2:Nat.ble (4*k+1) 9223372036854775807=true:=awF (by omega);have c3:Nat.ble ((4*k+1+1)*1) 140737488355328=true:=awF (by omega);have c4:Nat.ble (4*k+1+1) 9223372036854775807=true:=awF (by omega);have c5:Nat.ble ((4*k+1+1+1)*1) 140737488355328=true:=awF (by omega);have c6:Nat.ble (4*k+1+1+1) 9223372036854775807=true:=awF (by omega);have c7:Nat.ble ((4*k+1+1+1+1)*1) 140737488355328=true:=awF (by omega);have c8:Nat.ble (4*k+1+1+1+1) 9223372036854775807=true:=awF (by omega);have hd: ∀s:Nat,kQ P M k/2^s<9223372036854775808:=λs=>awV (axe _ _) (by omega)
   have e255: ∀s:Nat,ay .and .i64 ((kQ P M k/2^s:Nat):Int) 255=((kQ P M k/2^s%256:Nat):Int):=λs=>by rw[show(255:Int)=((255:Nat):Int)from rfl,a18 (hd s) (by decide),show(255:Nat)=2^8-1 from rfl,axj]
   have e0:bO .i64 ((kQ P M k:Nat):Int) 0=((kQ P M k/2^0:Nat):Int):=Zd (s:=0) (by omega);refine⟨_,by
    simp(disch:=omega) only[sF,GJ,e,WW,CC,e0,aa1,e255,Vs,Nat.mod_mod,c1,c2,c3,c4,c5,c6,c7,c8,ayJ];rfl,?_⟩
   have ltb: ∀a b:Nat,a<b->Nat.blt a b=true:=λa b h=>awF h
   have geb: ∀a b:Nat,¬a<b->Nat.blt a b=false:=λa b h=>by
    cases hb:Nat.blt a b
    ·rfl
    ·exact absurd (awN hb) h
   intro i hi;unfold glue;by_cases hik:i<4*k
   ·rw[ltb i _ (by omega),ltb i _ (by omega),ltb i _ (by omega),ltb i _ hik];exact hg i hik
   ·have hdv:i/4=k:=by omega
    have h4:i=4*k\/i=4*k+1\/i=4*k+2\/i=4*k+3:=by omega
    rcases h4 with h4|h4|h4|h4
    ·have hm:i%4=0:=by omega
     rw[ltb i _ (by omega),ltb i _ (by omega),ltb i _ (by omega),geb i _ (by omega),PS,hdv,hm,h4];simp only[awL,awW,axX];rfl
    ·have hm:i%4=1:=by omega
     rw[ltb i _ (by omega),ltb i _ (by omega),geb i _ (by omega),PS,hdv,hm,h4];simp only[awL,awW,axX];rfl
    ·have hm:i%4=2:=by omega
     rw[ltb i _ (by omega),geb i _ (by omega),PS,hdv,hm,h4];simp only[awL,awW,axX];rfl
    ·have hm:i%4=3:=by omega
     rw[geb i _ (by omega),PS,hdv,hm,h4];simp only[awW,axX];rfl)
  (λg hg=>by simp(disch:=omega) only[sF,GJ,WW]) (λ_=>0) (λi hi=>by omega)
 have v1':au sD (((nb,b),((),(0,()))),(f,()))=some (K9 v):=v1;have o1':au sF (((),((0,(λ_=>0)),(0,()))),(v,()))=some (Ka 32 out):=o1;rw[Un,Um,p1,Vx,f1];simp only[v1',o1'];rw[R7 (v:=kQ P M) (λj hj=>o2 j (by omega))];unfold Ju;rw[hP,hM]
def vcn(p:Nat->Bool):Nat->Nat|0=>0|n+1=>vcn p n+(if p n then 1 else 0)
abbrev fM:=Int×Int
abbrev a4C:=fM×ByteArray
abbrev qU:=Nat->Nat->Nat->a4C
def Ev(s:fM):Prop:=1<=s.1/\s.1<=1099511627776/\1<=s.2/\s.2<=4
instance (s:fM):Decidable (Ev s):=by unfold Ev;infer_instance
theorem Ig(s:fM):vN s=some (decide (Ev s)):=by
 rw[NP];unfold LQ;rw[F7];unfold C8 Ev;by_cases h1:s.1>=1
 ·by_cases h2:s.1<=1099511627776
  ·by_cases h3:s.2>=1<;>simp[h1,h2,h3]
  ·simp[h1,h2]
 ·simp[h1]
theorem qc(s:fM):NG s=some (decide (Ev s)):=by
 rw[UA];unfold Uz Ev;by_cases h1:s.1>=1
 ·by_cases h2:s.1<=1099511627776
  ·by_cases h3:s.2>=1<;>simp[h1,h2,h3]
  ·simp[h1,h2]
 ·simp[h1]
theorem Je(x:Int):ay .and .i64 x 1=x%2:=a4r (k:=1) (by decide)
def hit(c:a4C)(s:fM)(d:ByteArray):Bool:=eqF (.pair (.int .i64) (.int .i64)) c.1 s&&sEq c.2 d
def okV(N:Nat)(F:qU)(srv:Int)(s:fM):Prop:=Ev s/\1<=srv/\srv<=(N:Int)/\(F (srv-1).toNat (s.2-1).toNat (s.1%2).toNat).1.1<s.1
instance (N:Nat) (F:qU) (srv:Int) (s:fM):Decidable (okV N F srv s):=by unfold okV;infer_instance
def Zt(F:qU)(srv:Int)(s:fM)(d:ByteArray):qU:=λa b c=>if a=(srv-1).toNat/\b=(s.2-1).toNat/\c=(s.1%2).toNat then(s,d)else F a b c
theorem abg(F:qU)(srv:Int)(s:fM)(d:ByteArray)(i j k:Nat)(hi:i=(srv-1).toNat)(hj:j=(s.2-1).toNat)(hk:k=(s.1%2).toNat):upd F i (upd (F i) j (upd (F i j) k (s,d)))=Zt F srv s d:=by
 funext a b c
 simp only[Zt,<-hi,<-hj,<-hk];by_cases h1:a=i
 ·subst h1;rw[upd_same];by_cases h2:b=j
  ·subst h2;rw[upd_same];by_cases h3:c=k
   ·subst h3;rw[upd_same,awQ ⟨rfl,rfl,rfl⟩]
   ·rw[upd_ne h3,awG λh=>h3 h.2.2]
  ·rw[upd_ne h2,awG λh=>h2 h.2.1]
 ·rw[upd_ne h1,awG λh=>h1 h.1]
theorem PU {N:Nat}(hN:N<=7)(F:qU)(srv:Int)(hs:srv<9223372036854775808)(s:fM)(d:ByteArray):
  nN srv s d ((N:Int),F)=some ((decide (okV N F srv s),()),(((N:Int),if okV N F srv s then Zt F srv s d else F),())):=by
 rw[xk];unfold rU;simp only[Ig,Je];by_cases h1:Ev s
 ·obtain⟨m1,m2,m3,m4⟩:=id h1;by_cases h2:1<=srv
  ·by_cases h3:srv<=(N:Int)
   ·have e1:IntKind.i64.wrap (srv-1)=srv-1:=wrap_i64 (by omega);have e2:IntKind.i64.wrap (s.2-1)=s.2-1:=wrap_i64 (by omega);rw[e1,e2];by_cases h4:(F (srv-1).toNat (s.2-1).toNat (s.1%2).toNat).1.1<s.1
    ·have ho:okV N F srv s:=⟨h1,h2,h3,h4⟩;simp(disch:=omega) only[WW,h1,ho,abg F srv s d _ _ _ rfl rfl rfl,awQ];rfl
    ·have ho: ¬okV N F srv s:=λh=>h4 h.2.2.2
     simp(disch:=omega) only[WW,h1,ho,ay4]
     try rfl
   ·have ho: ¬okV N F srv s:=λh=>h3 h.2.2.1
    simp(disch:=omega) only[WW,h1,ho,ay4]
  ·have ho: ¬okV N F srv s:=λh=>h2 h.2.1
   simp(disch:=omega) only[WW,h1,ho,ay4]
 ·have ho: ¬okV N F srv s:=λh=>h1 h.1
  simp(disch:=omega) only[WW,h1,ho,ay4]
def as1(N:Nat)(F:qU)(s:fM)(d:ByteArray):Nat:=if Ev s then vcn (λk=>hit (F k (s.2-1).toNat (s.1%2).toNat) s d) N else 0
def atT(N:Nat)(F:qU)(srv cl odd:Int):a4C:=if 1<=srv/\srv<=(N:Int)/\1<=cl/\cl<=4/\0<=odd/\odd<=1 then F (srv-1).toNat (cl-1).toNat odd.toNat else((0,0),ByteArray.mk #[])
theorem Xd {N:Nat}(hN:N<=7)(F:qU)(srv cl odd:Int):jw (some ((N:Int),F)) srv cl odd=some (atT N F srv cl odd):=by
 rw[Bh];unfold rz atT;by_cases h1:1<=srv
 ·by_cases h2:srv<=(N:Int)
  ·by_cases h3:1<=cl
   ·by_cases h4:cl<=4
    ·by_cases h5:0<=odd
     ·by_cases h6:odd<=1
      ·have e1:IntKind.i64.wrap (srv-1)=srv-1:=wrap_i64 (by omega);have e2:IntKind.i64.wrap (cl-1)=cl-1:=wrap_i64 (by omega);rw[awQ ⟨h1,h2,h3,h4,h5,h6⟩];simp(disch:=omega) only[WW,e1,e2]
      ·rw[awG (by omega)];simp(disch:=omega) only[WW]
     ·rw[awG (by omega)];simp(disch:=omega) only[WW]
    ·rw[awG (by omega)];simp(disch:=omega) only[WW]
   ·rw[awG (by omega)];simp(disch:=omega) only[WW]
  ·rw[awG (by omega)];simp(disch:=omega) only[WW]
 ·rw[awG (by omega)];simp(disch:=omega) only[WW]
open Go Go.Den Go.Num
def pkV(v:VO):Nat:=8*(v.1-1).toNat+2*(v.2.1.2-1).toNat+(v.2.1.1%2).toNat
def Jv(N:Nat)(v:VO):Prop:=(1<=v.1/\v.1<=(N:Int))/\Ev v.2.1/\v.2.2.size=32
theorem Jv.pk {N:Nat}{v:VO}(h:Jv N v):pkV v<8*N/\pkV v/8=(v.1-1).toNat/\pkV v/2%4=(v.2.1.2-1).toNat/\pkV v%2=(v.2.1.1%2).toNat:=by
 obtain⟨h1,⟨_,_,h2,h3⟩,_⟩:=h;unfold pkV;have h4:(v.2.1.1%2).toNat<2:=by omega
 have h5:(v.2.1.2-1).toNat<4:=by omega
 omega
def uP(F:qU)(k:Nat):a4C:=F (k/8) (k/2%4) (k%2)
def tl(F:qU):Nat->List VO|0=>[]|k+1=>tl F k++if 0<(uP F k).1.1 then [(((k/8+1:Nat):Int),(uP F k).1,(uP F k).2)]else []
def jD(N:Nat):List VO->Bool×qU->Bool×qU| [],s=>s|v::l,s=>jD N l (if s.1=true/\v.2.2.size=32 then(decide (okV N s.2 v.1 v.2.1),if okV N s.2 v.1 v.2.1 then Zt s.2 v.1 v.2.1 v.2.2 else s.2)else(false,s.2))
def zT0:qU:=λ_ _ _=>((0,0),ByteArray.empty)
def XZ(N:Nat)(F:qU):Prop:= ∀a b c,0<(F a b c).1.1->Jv N (((a+1:Nat):Int),F a b c)/\pkV (((a+1:Nat):Int),F a b c)=8*a+2*b+c/\b<4/\c<2
theorem ais(N:Nat):XZ N zT0:=λa b c h=>absurd h (by show¬((0:Int)<0);decide)
theorem abh {N:Nat}{F:qU}{v:VO}(h:okV N F v.1 v.2.1)(hd:v.2.2.size=32):Jv N v:=⟨⟨h.2.1,h.2.2.1⟩,h.1,hd⟩
theorem a5T {N:Nat}{F:qU}(hF:XZ N F){v:VO}(h:Jv N v):XZ N (Zt F v.1 v.2.1 v.2.2):=λa b c h0=>by
 unfold Zt at h0⊢;split at h0
 ·rename_i hc;rw[awQ hc];obtain⟨e1,e2,e3⟩:=hc;have hv:(((a+1:Nat):Int),(v.2.1,v.2.2))=v:=by have:=h.1;exact Prod.ext (by show((a+1:Nat):Int)=v.1;omega) rfl
  have hm:=h.2.1;unfold Ev at hm;refine⟨by rw[hv];exact h,by rw[hv];unfold pkV;rw[<-e1,<-e2,<-e3],by omega,by omega⟩
 ·rename_i hc;rw[awG hc];exact hF a b c h0
theorem Ih(N:Nat): ∀(l:List VO) (F:qU),(jD N l (false,F)).1=false
 | [],F=>rfl
 |v::l,F=>by rw[jD,awG (λh=>Bool.noConfusion (show false=true from h.1))];exact Ih N l F
theorem a1G(N:Nat): ∀(l:List VO) (F:qU),XZ N F->(jD N l (true,F)).1=true->(∀v∈l,Jv N v)/\XZ N (jD N l (true,F)).2
 | [],F,hF,_=>⟨λv h=>absurd h (by simp),hF⟩
 |v::l,F,hF,h=>by
  rw[jD]at h⊢;by_cases hd:v.2.2.size=32
  ·rw[awQ ⟨rfl,hd⟩]at h⊢;by_cases ho:okV N F v.1 v.2.1
   ·simp only[ho,aza,axV]at h⊢;have h1:=abh ho hd;obtain⟨h2,h3⟩:=a1G N l _ (a5T hF h1) h;exact⟨λx hx=>(axL.1 hx).elim (λe=>by rw[e];exact h1) (h2 x),h3⟩
   ·simp only[ho,decide_false]at h;rw[Ih]at h;cases h
  ·rw[awG (λh=>hd h.2)]at h;rw[Ih]at h;cases h
theorem adt {N:Nat}{F:qU}(hF:XZ N F): ∀k,(tl F k).Pairwise (λa b=>pkV a<pkV b)/\ ∀v∈tl F k,Jv N v/\pkV v<k
 |0=>⟨List.Pairwise.nil,λv h=>absurd h (by simp[tl])⟩
 |k+1=>by
  obtain⟨h1,h2⟩:=adt hF k;rw[tl];split
  ·rename_i h0;obtain⟨g1,g2,g3,g4⟩:=hF (k/8) (k/2%4) (k%2) h0;have hk:pkV (((k/8+1:Nat):Int),(uP F k).1,(uP F k).2)=k:=by refine Eq.trans (show _=8*(k/8)+2*(k/2%4)+k%2 from g2) (by omega)
   refine⟨List.pairwise_append.2 ⟨h1,List.pairwise_singleton _ _,λa ha b hb=>?_⟩,λv hv=>?_⟩
   ·rw[axI.1 hb,hk];exact(h2 a ha).2
   ·rcases axo.1 hv with hv|hv
    ·exact⟨(h2 v hv).1,Nat.lt_succ_of_lt (h2 v hv).2⟩
    ·rw[axI.1 hv];exact⟨g1,by rw[hk];exact az6 k⟩
  ·rw[ayr];exact⟨h1,λv hv=>⟨(h2 v hv).1,Nat.lt_succ_of_lt (h2 v hv).2⟩⟩
theorem Y0(N:Nat): ∀(l:List VO) (F:qU),(∀v∈l,Jv N v)->l.Pairwise (λa b=>pkV a<pkV b)->(∀v∈l,∀k,pkV v<=k->(uP F k).1.1<=0)->
  (jD N l (true,F)).1=true/\ ∀k,uP (jD N l (true,F)).2 k=match l.find? (λv=>pkV v==k)with|some v=>v.2|none=>uP F k
 | [],F,_,_,_=>⟨rfl,λk=>rfl⟩
 |v::l,F,ho,hp,hz=>by
  have hv:=ho v (by simp);obtain⟨k1,k2,k3,k4⟩:=hv.pk;have hok:okV N F v.1 v.2.1:=by refine⟨hv.2.1,hv.1.1,hv.1.2,?_⟩;have:=hz v (by simp) (pkV v) (ax2 _);unfold uP at this;rw[k2,k3,k4]at this;have:=hv.2.1.1;omega
  have hpc:=List.pairwise_cons.1 hp;rw[jD,awQ ⟨rfl,hv.2.2⟩];simp only[hok,aza,axV];have hcell: ∀k,k<8*N\/True->uP (Zt F v.1 v.2.1 v.2.2) k=if k=pkV v then v.2 else uP F k:=λk _=>by
   unfold uP Zt;by_cases hk:k=pkV v
   ·subst hk;rw[awQ rfl,awQ ⟨k2,k3,k4⟩]
   ·rw[awG hk,awG];rintro ⟨e1,e2,e3⟩;apply hk;unfold pkV;rw[<-e1,<-e2,<-e3];omega
  obtain⟨h1,h2⟩:=Y0 N l (Zt F v.1 v.2.1 v.2.2) (λx hx=>ho x (by simp[hx])) hpc.2 (λx hx k hk=>by rw[hcell k (.inr trivial)];have:=hpc.1 x hx;rw[awG (by omega)];exact hz v (by simp) k (by omega));refine⟨h1,λk=>?_⟩;rw[h2 k,hcell k (.inr trivial),List.find?_cons];by_cases hk:k=pkV v
  ·subst hk;have hn:l.find? (λx=>pkV x==pkV v)=none:=by rw[List.find?_eq_none];intro x hx;have:=hpc.1 x hx;simp;omega
   rw[hn];simp
  ·rw[awG hk];have:(pkV v==k)=false:=by simp;omega
   rw[this]
theorem a1H {l:List VO}(hp:l.Pairwise (λa b=>pkV a<pkV b))(k:Nat):l.filter (λv=>decide (pkV v<k+1))=l.filter (λv=>decide (pkV v<k))++(match l.find? (λv=>pkV v==k)with|some v=>[v]|none=>[]):=by
 induction l with
 |nil=>rfl
 |cons v l ih=>
  have hpc:=List.pairwise_cons.1 hp;have ih:=ih hpc.2;rw[List.find?_cons];by_cases h1:pkV v<k
  ·rw[List.filter_cons_of_pos (by simp;omega),List.filter_cons_of_pos (by simp;omega),ih];have:(pkV v==k)=false:=by simp;omega
   rw[this];rfl
  ·have hno: ∀m,m<=pkV v+1->l.filter (λv=>decide (pkV v<m))=[]:=λm hm=>by rw[List.filter_eq_nil_iff];intro x hx;have:=hpc.1 x hx;simp;omega
   by_cases h2:pkV v=k
   ·have:(pkV v==k)=true:=by simp[h2]
    rw[this,List.filter_cons_of_pos (by simp;omega),List.filter_cons_of_neg (by simp;omega),hno k (by omega),hno (k+1) (by omega)];rfl
   ·have:(pkV v==k)=false:=by simp;omega
    rw[this,List.filter_cons_of_neg (by simp;omega),List.filter_cons_of_neg (by simp;omega),ih]
theorem abj {l:List VO}{k:Nat}{v:VO}(h:l.find? (λv=>pkV v==k)=some v):v∈l/\pkV v=k:=⟨List.mem_of_find?_eq_some h,by have:=List.find?_some h;simpa using this⟩
theorem a4D {N:Nat}{l:List VO}(ho: ∀v∈l,Jv N v)(hp:l.Pairwise (λa b=>pkV a<pkV b)){F:qU}(hF: ∀k,uP F k=match l.find? (λv=>pkV v==k)with|some v=>v.2|none=>((0,0),ByteArray.empty)):
  ∀k,tl F k=l.filter (λv=>decide (pkV v<k))
 |0=>by simp[tl]
 |k+1=>by
  rw[tl,a4D ho hp hF k,a1H hp,hF k];cases hf:l.find? (λv=>pkV v==k)with
  |none=>
   simp only;rw[awG (by show¬((0:Int)<0);decide)]
  |some v=>
   obtain⟨h1,h2⟩:=abj hf;have hv:=ho v h1;have hm:=hv.2.1.1;simp only;rw[awQ (by show 0<v.2.1.1;omega)];have:=hv.pk.2.1;have h3:=hv.1.1
   congr 2
   exact Prod.ext (by show((k/8+1:Nat):Int)=v.1;rw[h2]at this;omega) rfl
def jU(N:Nat)(l:List VO):Prop:=(∀v∈l,Jv N v)/\l.Pairwise (λa b=>pkV a<pkV b)
theorem Y1(N:Nat)(l:List VO):((jD N l (true,zT0)).1=true/\tl (jD N l (true,zT0)).2 (8*N)=l)↔jU N l:=by
 constructor
 ·rintro ⟨h1,h2⟩;obtain⟨g1,g2⟩:=a1G N l zT0 (ais N) h1;have:=(adt g2 (8*N)).1;rw[h2]at this;exact⟨g1,this⟩
 ·rintro ⟨h1,h2⟩;obtain⟨g1,g2⟩:=Y0 N l zT0 h1 h2 (λ_ _ _ _=>Int.le_refl 0);refine⟨g1,?_⟩;rw[a4D h1 h2 (F:=(jD N l (true,zT0)).2) (λk=>g2 k) (8*N)];rw[List.filter_eq_self];intro v hv;simpa using(h1 v hv).pk.1
def Ac(a b:ByteArray):Bool:=Op.bytesLess (bl a) (bl b)
theorem a1I: ∀l:List UInt8,Op.bytesLess l l=false
 | []=>rfl
 |a::l=>by have: ¬a<a:=UInt8.lt_irrefl a;simp[Op.bytesLess,a1I l]
theorem a4E: ∀ {a b c:List UInt8},Op.bytesLess a b=true->Op.bytesLess b c=true->Op.bytesLess a c=true
 |_,[],_,h,_=>by cases‹List UInt8› <;>simp[Op.bytesLess]at h
 |_,_::_,[],_,h=>by simp[Op.bytesLess]at h
 | [],_::_,_::_,_,_=>rfl
 |x::a,y::b,z::c,h1,h2=>by
  simp only[Op.bytesLess,axU,awu,awI,ayD]at h1 h2⊢;rcases h1 with h1|⟨rfl,h1⟩
  ·rcases h2 with h2|⟨rfl,h2⟩
   ·exact .inl (UInt8.lt_trans h1 h2)
   ·exact .inl h1
  ·rcases h2 with h2|⟨rfl,h2⟩
   ·exact .inl h2
   ·exact .inr ⟨rfl,a4E h1 h2⟩
theorem Y2(a:ByteArray):Ac a a=false:=a1I _
theorem aa7 {a b c:ByteArray}(h1:Ac a b=true)(h2:Ac b c=true):Ac a c=true:=a4E h1 h2
theorem Bq(a b:ByteArray):Op.bytesLess (ByteArray.toList a) (ByteArray.toList b)=Ac a b:=by rw[aym,aym];rfl
theorem Zu(a b:ByteArray):sEq a b=true↔a=b:=by refine⟨λh=>?_,λh=>h▸Vr _⟩;simp only[sEq,aym,ayD]at h;exact Cg h
def cnt {α:Type}(p:α->Bool)(f:Nat->α):Nat->Nat|0=>0|n+1=>cnt p f n+if p (f n)then 1 else 0
def Jf(n:Nat)(f:Nat->ByteArray):Prop:= ∀i j,i<j->j<n->Ac (f i) (f j)=true
def before(n:Nat)(f:Nat->ByteArray)(x:ByteArray):Nat:=cnt (λy=>Ac y x) f n
def there(n:Nat)(f:Nat->ByteArray)(x:ByteArray):Bool:=decide (0<cnt (λy=>sEq y x) f n)
abbrev mf(l:List (Int×Int))(x:Int):Int:=Option.getD (nH (.int .i64) (.int .i64) l x) (0:Int)
theorem Ad(e:Int×Int)(l:List (Int×Int))(x:Int):nH (.int .i64) (.int .i64) (e::l) x=if x=e.1 then some e.2 else nH (.int .i64) (.int .i64) l x:=by
 show(bif (x==e.1)then some e.2 else nH (.int .i64) (.int .i64) l x)=_;by_cases h:x=e.1
 ·rw[I7 h,awQ h];rfl
 ·rw[O0 h,awG h];rfl
theorem a5U(e:Int×Int)(l:List (Int×Int))(x y:Int):M8 (.int .i64) (.int .i64) (e::l) x y=if x=e.1 then(x,y)::l else e::M8 (.int .i64) (.int .i64) l x y:=by
 show(bif (x==e.1)then(x,y)::l else e::M8 (.int .i64) (.int .i64) l x y)=_;by_cases h:x=e.1
 ·rw[I7 h,awQ h];rfl
 ·rw[O0 h,awG h];rfl
theorem a3I(l:List (Int×Int))(x y z:Int):nH (.int .i64) (.int .i64) (M8 (.int .i64) (.int .i64) l x y) z=if z=x then some y else nH (.int .i64) (.int .i64) l z:=by
 induction l with
 |nil=>exact Ad (x,y) [] z
 |cons e l ih=>
  rw[a5U];by_cases h1:x=e.1
  ·rw[awQ h1,Ad,Ad];by_cases h2:z=x
   ·rw[awQ h2,awQ h2]
   ·rw[awG h2,awG h2,awG (λh=>h2 (h.trans h1.symm))]
  ·rw[awG h1,Ad,Ad,ih];by_cases h2:z=e.1
   ·rw[awQ h2,awG (λh=>h1 (h.symm.trans h2)),awQ h2]
   ·rw[awG h2,awG h2]
theorem abk(l:List (Int×Int))(x y z:Int):mf (M8 (.int .i64) (.int .i64) l x y) z=if z=x then y else mf l z:=by simp only[mf,a3I];split<;>rfl
theorem aa8(s:ByteArray):Hg s=some (decide (1<=s.size/\s.size<=8)):=by
 rw[QV,Pn];by_cases h:1<=s.size
 ·rw[aG (by omega),aN]
  congr 1
  rw[axD];omega
 ·rw[ak (by omega),aM,ak (by omega)]
abbrev R22:Type:=(Int×(Int×((Nat×(Nat->ByteArray))×(Nat×(Nat->Int)))))
theorem a1J(s:R22)(e:Int)(h:1<=s.1/\s.1<=7/\1<=s.2.1/\s.2.1<=4):J4 s e=some (iR s.1 s.2.1 e):=by
 obtain⟨a,b,⟨n,f⟩,n1,g⟩:=s;simp only at h⊢;have hw:IntKind.i64.wrap (a+b)=a+b:=wrap_i64 (by omega);rw[NH,LJ,iR];simp only[hw];by_cases h1:e<1
 ·rw[ak (by omega),aM,ak (by omega),aM,awQ (.inl h1)]
 ·rw[aG (by omega),aN];by_cases h2:e<=a
  ·rw[aG h2,aN,awG (by omega),awQ h2]
  ·rw[ak h2,aM,aG (by omega),aN];by_cases h3:e<=a+b
   ·rw[aG h3,aN,awG (by omega),awG h2]
   ·rw[ak h3,aM,awQ (.inr (by omega))]
structure Agree(a b:Int)(n:Nat)(f:Nat->ByteArray)(u:List (Int×Int))(s:R22):Prop where
 e1:s.1=a
 e2:s.2.1=b
 sz:1<=a/\a<=7/\1<=b/\b<=4
 len:s.2.2.1.1=n
 len2:s.2.2.2.1=n
 sorted:Jf n f
 same: ∀p:ByteArray->Bool,cnt p s.2.2.1.2 n=cnt p f n
 uses: ∀e,mf u e=((cnt (λy=>y==e) s.2.2.2.2 n:Nat):Int)
theorem Agree.before {a b:Int}{n:Nat}{f:Nat->ByteArray}{u:List (Int×Int)}{s:R22}(h:Agree a b n f u s)(x:ByteArray):Pl.before n s.2.2.1.2 x=Pl.before n f x:=h.same _
theorem Agree.there {a b:Int}{n:Nat}{f:Nat->ByteArray}{u:List (Int×Int)}{s:R22}(h:Agree a b n f u s)(x:ByteArray):Pl.there n s.2.2.1.2 x=Pl.there n f x:=by unfold Pl.there;rw[h.same]
theorem aa9 {a b:Int}(h:1<=a/\a<=7/\1<=b/\b<=4):oQ a b=some (xR 0 a b 0 (λ_=>ByteArray.empty) []):=by rw[zS,yT,ak (by omega),aM,ak (by omega),aM,ak (by omega),aM,ak (by omega),aM]
theorem a4F {a b:Int}(h: ¬(1<=a/\a<=7/\1<=b/\b<=4)):oQ a b=some (F6 1):=by
 rw[zS,yT];by_cases h1:a<1
 ·rw[aG h1];rfl
 ·rw[ak h1,aM];by_cases h2:a>7
  ·rw[aG h2];rfl
  ·rw[ak h2,aM];by_cases h3:b<1
   ·rw[aG h3];rfl
   ·rw[ak h3,aM,aG (by omega)];rfl
def kA:ByteArray:=ByteArray.mk #[97]
def kB:ByteArray:=ByteArray.mk #[98]
def f0:Nat->ByteArray:=λ_=>ByteArray.empty
def f1:Nat->ByteArray:=aiM f0 0 kB
def f2:Nat->ByteArray:=aiM f1 0 kA
def u1:List (Int×Int):=[(5,1)]
def u2:List (Int×Int):=[(5,2)]
theorem q5:iR 4 2 5=4:=by decide+kernel
theorem q1:iR 4 2 1=32:=by decide+kernel
def as2(c:Nat->Int):Nat->Int|0=>0|n+1=>as2 c n+c n
def ev(c:Nat->Int)(n:Nat)(x:Int):Int:=as2 (λi=>c i*x^i) n
theorem as3 {α:Type}{n:Nat}{f g:Nat->α}{j:Nat}(h:j<n):glue n f g j=f j:=by have:Nat.blt j n=true:=iQ.2 h;simp[glue,this]
theorem as4 {α:Type}{n:Nat}{f g:Nat->α} :glue n f g n=g 0:=by
 have:Nat.blt n n=false:=by
  cases hb:Nat.blt n n with
  |false=>rfl
  |true=>exact absurd (iQ.1 hb) (Nat.lt_irrefl _)
 simp[glue,this]
theorem aac {n:Nat}{f:Nat->(Nat->Int)}{A:Nat->Nat}{z:Nat->Int}(hf: ∀i,i<n->IsN (f i) (A i))(hz:IsN z (A n)): ∀i,i<n+1->IsN (glue n f (λj=>upd (λ_=>λ_=>0) 0 z (0+j)) i) (A i):=by
 intro i hi;by_cases e:i=n
 ·subst e;rw[as4,axE,upd_same];exact hz
 ·rw[as3 (by omega)];exact hf i (by omega)
structure Y3(Q n:Nat)(f:Nat->(Nat->Int))(c:Nat->Nat):Prop where
 is: ∀i,i<n->IsN (f i) (c i)
 zero: ∀k,n<=k->c k=0
 lt: ∀k,c k<Q
 top:n=0\/c (n-1)≠0
theorem Y3.size {Q n m:Nat}{f h:Nat->(Nat->Int)}{c:Nat->Nat}(a:Y3 Q n f c)(b:Y3 Q m h c):n=m:=by
 rcases Nat.lt_trichotomy n m with h1|h1|h1
 ·rcases b.top with h2|h2
  ·omega
  ·exact absurd (a.zero _ (by omega)) h2
 ·exact h1
 ·rcases a.top with h2|h2
  ·omega
  ·exact absurd (b.zero _ (by omega)) h2
theorem Y3.congr {Q n:Nat}{f:Nat->(Nat->Int)}{c d:Nat->Nat}(a:Y3 Q n f c)(h: ∀k,c k=d k):Y3 Q n f d:=by have:c=d:=funext h;exact this▸a
section
variable {g:mh} {P Q G:Nat}
end
open Go Go.Den Go.Num
def InP(P Q x:Nat):Prop:=x≠0/\x<P/\x^Q%P=1
instance (P Q x:Nat):Decidable (InP P Q x):=by unfold InP;infer_instance
def Ah(P Q n:Nat)(c:Nat->Nat):Prop:=1<=n/\n<=7/\ ∀j,j<n->InP P Q (c j)
def atN(P n:Nat)(c:Nat->Nat)(i:Nat):Nat:=jf (λj=>c j^i^j) n%P
theorem abl {i j:Nat}(hi:i<=7)(hj:j<=7):i^j<=823543:=ayF (Nat.pow_le_pow_left hi j) (ayF (ax1 (by decide) hj) (by decide))
section
variable {g:mh} {P Q G:Nat}
open Classical in
theorem Fu(h:dZ g P Q G){n:Nat}{f:Nat->(Nat->Int)}{c:Nat->Nat}(hf: ∀j,j<n->IsN (f j) (c j)):vD (some g) n f=some (decide (Ah P Q n c)):=by
 rw[JZ];unfold AV;by_cases h1:1<=n
 ·by_cases h2:n<=7
  ·obtain⟨y,y1,y2⟩:=bH (R:=eZ) (S:=Unit) (λk _=>nL n f (n:Int) (k:Int) g) (λk _=> ∀j,j<k->InP P Q (c j))
    (λy=>(∃(t:Nat) (z:Nat->Int),y=qy (t:Int) g z/\ ¬Ah P Q n c)\/(y=qz g/\Ah P Q n c)) n
    (λk hk _ hP=>by
     have hI:=X8 h (hf k hk);by_cases hin:c k≠0/\c k<P/\c k^Q%P=1
     ·rw[aG hin]at hI;refine .inl ⟨(),?_,λj hj=>?_⟩
      ·simp(disch:=omega) only[eZ,nL,WW,CC,hI]
      ·by_cases e:j=k
       ·subst e;exact hin
       ·exact hP j (by omega)
     ·rw[ak hin]at hI;refine .inr ⟨qy (k:Int) g (f k),?_,.inl ⟨k,f k,rfl,λhm=>hin (hm.2.2 k hk)⟩⟩;simp(disch:=omega) only[eZ,nL,WW,CC,hI])
    (λ_ hP=>by refine⟨qz g,?_,.inr ⟨rfl,h1,h2,hP⟩⟩;simp(disch:=omega) only[eZ,nL,WW,CC]) () (λj hj=>absurd hj (awO _))
   have y1':au eZ (((n,f),((),((n:Int),(0,())))),(g,()))=some y:=y1;rcases y2 with⟨t,z,rfl,hm⟩|⟨rfl,hm⟩
   ·simp(disch:=omega) only[WW,y1',ak hm,qy]
   ·simp(disch:=omega) only[WW,y1',aG hm,qz]
  ·have hm: ¬Ah P Q n c:=λhm=>h2 hm.2.1
   simp(disch:=omega) only[WW,ak hm]
 ·have hm: ¬Ah P Q n c:=λhm=>h1 hm.1
  simp(disch:=omega) only[WW,ak hm]
theorem Vy(h:dZ g P Q G){n:Nat}(hn:n<=7){f:Nat->(Nat->Int)}{c:Nat->Nat}(hf: ∀j,j<n->IsN (f j) (c j)){i:Nat}(hi:i<=7):
  ∃z,D5 (some g) n f (i:Int)=some z/\IsN z (atN P n c i):=by
 rw[Np];unfold DZ;obtain⟨e,y1,y2⟩:=aL (R:=mY) (S:=Nat->(Nat->Int)) (λk e=>BM g n f (i:Int) k e ((i^k:Nat):Int) (n:Int) (k:Int) (λ_=>0)) (λe=>xM g n f n e (λ_=>0))
  (λk e=> ∀j,j<k->IsN (e j) (i^j)) n
  (λk hk e hP=>by
   have hp:=abl hi (j:=k) (by omega);have hp1:=abl hi (j:=k+1) (by omega);obtain⟨z,z1,z2⟩:=oZ (n:=((i^k:Nat):Int)) (by omega);rw[awz]at z2;refine⟨glue k e (λj=>upd (λ_=>λ_=>0) 0 z (0+j)),?_,aac (A:=λj=>i^j) hP z2⟩;have hble: ∀a b:Nat,a<=b->Nat.ble a b=true:=λa b h=>awF h
   have hpm:i^k*i=i^(k+1):=rfl;simp(disch:=omega) only[mY,BM,WW,CC,z1,hble,ayJ,hpm])
  (λe _=>by simp(disch:=omega) only[mY,BM,WW,CC]) (λ_=>λ_=>0) (λj hj=>absurd hj (awO _))
 have y1':au mY ((g,((n,f),((i:Int),((),((0,(λ_=>(λ_=>0))),(1,((n:Int),(0,())))))))),((λ_=>0),()))=some (xM g n f n e (λ_=>0)):=by have:=y1;simp only[ay8]at this;exact this
 obtain⟨z,z1,z2⟩:=PK h (n:=n) (by omega) hf (exps:=λj=>e (0+j)) (E:=λj=>i^j) (λj hj=>by rw[awR];exact y2 j hj);simp(disch:=omega) only[WW,y1',xM,z1];exact⟨z,rfl,z2⟩
end
structure abm(x:SlV (Nat->Int)×(Int×(Nat->Int)))(n:Nat)(c:Nat->Nat)(i:Int)(y:Nat):Prop where
 ms:SlV.isMs x.1=false
 len:SlV.len x.1=n
 nats: ∀j,j<n->IsN (SlV.fn (λ_=>0) x.1 j) (c j)
 ii:x.2.1=i
 yy:IsN x.2.2 y
structure Cl where
 n:Nat->Nat
 c:Nat->Nat->Nat
 i:Nat->Int
 y:Nat->Nat
def Cl.Is(C:Cl)(m:Nat)(l:Nat->SlV (Nat->Int)×(Int×(Nat->Int))):Prop:= ∀k,k<m->abm (l k) (C.n k) (C.c k) (C.i k) (C.y k)
def Cl.from(C:Cl)(a:Nat):Cl:=⟨λk=>C.n (a+k),λk=>C.c (a+k),λk=>C.i (a+k),λk=>C.y (a+k)⟩
theorem Cl.Is.from {C:Cl}{m a b:Nat}{l:Nat->SlV (Nat->Int)×(Int×(Nat->Int))}(h:C.Is m l)(hb:b<=m):(C.from a).Is (b-a) (λj=>l (a+j)):=λk hk=>h (a+k) (by omega)
section
variable {g:mh} {P Q G:Nat}
open Classical in
open Classical in
end
open Go Go.Den Go.Num
section
variable {P Q G:Nat}
open Classical in
theorem Oh(hP:1<P)(p62:P<4611686018427387904)(q62:Q<4611686018427387904){n:Nat}(hn:n<9223372036854775808){f:Nat->(Nat->Int)}{c:Nat->Nat}(hf: ∀j,j<n->IsN (f j) (c j)):
  Nt ((P:Int),(Q:Int),(G:Int)) n f=some (decide (Ah P Q n c)):=by
 rw[Uq];unfold Uo;obtain⟨y,y1,y2⟩:=bH (R:=oM) (S:=Unit) (λk _=>Ba n f (k:Int) ((P:Int),(Q:Int),(G:Int))) (λk _=> ∀j,j<k->InP P Q (c j))
  (λy=>(y=WK false/\ ¬Ah P Q n c)\/(y=Kc n f/\ ∀j,j<n->InP P Q (c j))) n
  (λk hk _ hP2=>by
   have hI:=a1v (P:=P) (Q:=Q) (G:=G) (hf k hk) (by omega) (by omega) (by omega);by_cases hin:c k≠0/\c k<P/\c k^Q%P=1
   ·rw[aG hin]at hI;refine .inl ⟨(),?_,λj hj=>?_⟩
    ·simp(disch:=omega) only[oM,Ba,WW,CC,hI]
    ·by_cases e:j=k
     ·subst e;exact hin
     ·exact hP2 j (by omega)
   ·rw[ak hin]at hI;refine .inr ⟨_,?_,.inl ⟨rfl,λhm=>hin (hm.2.2 k hk)⟩⟩;simp(disch:=omega) only[oM,Ba,WW,CC,hI])
  (λ_ hP2=>by refine⟨_,?_,.inr ⟨rfl,hP2⟩⟩;simp(disch:=omega) only[oM,Ba,WW,CC]) () (λj hj=>absurd hj (awO _))
 have y1':au oM (((n,f),((),(0,()))),(((P:Int),(Q:Int),(G:Int)),()))=some y:=y1;simp only[y1'];rcases y2 with⟨rfl,hm⟩|⟨rfl,hm⟩
 ·rw[ak hm]
 ·simp only[Kc];by_cases h1:1<=n
  ·by_cases h2:n<=7
   ·rw[aG (p:=Ah P Q n c) ⟨h1,h2,hm⟩];simp(disch:=omega) only[WW]
   ·rw[ak (p:=Ah P Q n c) (λh=>h2 h.2.1)];simp(disch:=omega) only[WW]
  ·rw[ak (p:=Ah P Q n c) (λh=>h1 h.1)];simp(disch:=omega) only[WW]
theorem a1K(hP:1<P)(p62:P<4611686018427387904){n:Nat}(hn:n<=7){f:Nat->(Nat->Int)}{c:Nat->Nat}(hf: ∀j,j<n->IsN (f j) (c j)){i:Nat}(hi:i<=7):
  Z9 ((P:Int),(Q:Int),(G:Int)) n f (i:Int)=some ((atN P n c i:Nat):Int):=by
 rw[XM];unfold Z8;obtain⟨_,y1,rfl⟩:=aL (R:=vJ) (S:=Unit) (λk _=>LB n f (i:Int) ((jf (λj=>c j^i^j) k%P:Nat):Int) ((i^k:Nat):Int) (k:Int) ((P:Int),(Q:Int),(G:Int)))
  (λ_=>Ea ((jf (λj=>c j^i^j) n%P:Nat):Int)) (λk s=>s=()) n
  (λk hk _ _=>by
   have hp:=abl hi (j:=k) (by omega);have hp1:=abl hi (j:=k+1) (by omega);have b1:=a1t (hf k hk) (q:=P) (by omega) (by omega);obtain⟨z,z1,z2⟩:=El (n:=((i^k:Nat):Int)) (by omega);rw[awz]at z2;have e1:=Er (P:=P) (Q:=Q) (G:=G) (a:=c k%P) z2 (by omega) (by omega);have m1:=Zn (P:=P) (Q:=Q) (G:=G) (a:=jf (λj=>c j^i^j) k%P) (b:=(c k%P)^i^k%P) (by omega) (by omega);refine⟨(),?_,rfl⟩;have hpm:i^k*i=i^(k+1):=rfl;have hpp:jf (λj=>c j^i^j) k%P*((c k%P)^i^k%P)%P=jf (λj=>c j^i^j) (k+1)%P:=by rw[<-Nat.pow_mod,<-ayx];rfl
   rw[hpp]at m1;simp(disch:=omega) only[vJ,LB,WW,CC,b1,z1,e1,m1,hpm])
  (λ_ _=>by simp(disch:=omega) only[vJ,LB,WW,CC]) () rfl
 have y1':au vJ (((n,f),((i:Int),((),(1,(1,(0,())))))),(((P:Int),(Q:Int),(G:Int)),()))=some (Ea ((jf (λj=>c j^i^j) n%P:Nat):Int)):=by have:=y1;simp only[ay8,jf,awD hP]at this;exact this
 simp only[y1',Ea,atN]
open Classical in
open Classical in
end
open Go Go.Den
def a3J(p q:fM):Prop:=q.1<p.1\/(q.1=p.1/\q.2<p.2)
instance (p q:fM):Decidable (a3J p q):=by unfold a3J;infer_instance
abbrev a3K:=Nat×(Nat->OU)
def app(o:a3K)(x:OU):a3K:=(o.1+1,glue o.1 o.2 (λj=>(upd (λ_=>zOU) 0 x) (0+j)))
def apps(o:a3K)(l:List OU):a3K:=l.foldl app o
structure Rc where
 v:VA
 e:qU
 r:qU
 c:Nat->CL
structure Fr where
 T:Nat
 I:Nat
 N:Nat
 key:ByteArray
structure Fx where
 g:GR
 b:BG×Nat
 sp:SP
structure Fr.Ok(f:Fr):Prop where
 T:1<=f.T/\f.T<=2
 N:f.N=3*f.T+1
 I:1<=f.I/\f.I<=f.N
@[reducible] def Fr.so (f:Fr) (z:Fx) (o:a3K):SO:=(z.g,((f.T:Int),((f.I:Int),((f.N:Int),((3:Int),((),(z.b,o)))))))
@[reducible] def Fr.rc (f:Fr) (x:Rc):RC:=(x.v,(f.key,((),((),x.c))))
@[reducible] def Fr.mk' (f:Fr) (z:Fx) (x:Rc) (o:a3K):SR:=(f.so z o,(f.rc x,(((f.N:Int),x.e),(((f.N:Int),x.r),(z.sp,())))))
section
variable {f:Fr} {z:Fx}
def aad(p q:fM):Prop:=IntKind.i64.wrap (p.1-1)<=q.1
instance (p q:fM):Decidable (aad p q):=by unfold aad;infer_instance
end
open Go Go.Den
abbrev RcW:=Rc×List OU
abbrev ait:=fM->ByteArray->Rc->RcW
def as5(q:PR)(p:fM):Prop:=0<q.2/\ ¬a3J q.1.1 p
instance (q:PR) (p:fM):Decidable (as5 q p):=by unfold as5;infer_instance
def a4G(f:Fr)(p:fM)(d:ByteArray)(x:Rc):Prop:=2*f.T<as1 f.N x.e p d\/f.T<as1 f.N x.r p d
instance (f:Fr) (p:fM) (d:ByteArray) (x:Rc):Decidable (a4G f p d x):=by unfold a4G;infer_instance
def goP(q:PR)(p:fM):Prop:=0<q.2/\aad q.1.1 p
instance (q:PR) (p:fM):Decidable (goP q p):=by unfold goP;infer_instance
def WFc(c:Nat->CL):Prop:= ∀i,i<3->0<(c i).2.1.2->Ev (c i).2.1.1.1
def act(c:Nat->CL):Nat:=vcn (λi=>decide (0<(c i).2.1.2)) 3
def Lw(c c':Nat->CL):Prop:= ∀i,i<3->(c' i).2.1=(c i).2.1\/(c' i).2.1.2<=0
theorem Lw.refl(c:Nat->CL):Lw c c:=λ_ _=>.inl rfl
theorem Lw.trans {a b c:Nat->CL}(h:Lw a b)(g:Lw b c):Lw a c:=λi hi=>by
 rcases g i hi with e|e
 ·rcases h i hi with e1|e1
  ·exact .inl (e.trans e1)
  ·exact .inr (by rw[e];exact e1)
 ·exact .inr e
theorem Lw.wf {a b:Nat->CL}(h:Lw a b)(w:WFc a):WFc b:=λi hi hp=>by
 rcases h i hi with e|e
 ·rw[e]at hp⊢;exact w i hi hp
 ·omega
theorem a1L {p q:Nat->Bool} : ∀ {n},(∀k,k<n->p k=true->q k=true)->vcn p n<=vcn q n
 |0,_=>ax2 _
 |n+1,h=>by
  have:=a1L (n:=n) λk hk=>h k (by omega)
  have hn:=h n (by omega);simp only[vcn];cases hp:p n
  ·simp only[axi,ay4];omega
  ·rw[hn hp];simp only[axV];omega
theorem Lw.act {a b:Nat->CL}(h:Lw a b):act b<=act a:=a1L λi hi hp=>by
 simp only[awI]at hp⊢;rcases h i hi with e|e
 ·rw[e]at hp;exact hp
 ·omega
def HB:Nat->Nat|0=>0|n+1=>54+3*HB n
structure Rec(f:Fr)(n:Nat)(rec_:fM->ByteArray->SR->Option (Unit×SR))(rec:ait):Prop where
 run: ∀z p d x o,Ev p->WFc x.c->act x.c<n->o.1+HB n<1000000000->rec_ p d (f.mk' z x o)=some ((),f.mk' z (rec p d x).1 (apps o (rec p d x).2))
 len: ∀p d x,(rec p d x).2.length<=HB n
 lw: ∀p d x,Lw x.c (rec p d x).1.c
section
variable {f:Fr} {z:Fx}
variable {n:Nat} {rec_:fM->ByteArray->SR->Option (Unit×SR)} {rec:ait}
end
open Go Go.Den
section
variable {f:Fr} {z:Fx} {n:Nat} {rec_:fM->ByteArray->SR->Option (Unit×SR)} {rec:ait}
@[reducible] def Fr.lp (f:Fr) (z:Fx) (p:fM) (x:Rc) (o:a3K):SO×(RC×(VT×(VT×(SP×(Unit×(Unit×(fM×Unit))))))):=(f.so z o,(f.rc x,(((f.N:Int),x.e),(((f.N:Int),x.r),(z.sp,((),((),(p,()))))))))
end
open Go Go.Den
def Ae(used:Nat->Int):Nat->Nat|0=>0|n+1=>Ae used n+(used n).toNat
def uOk(a b:Int)(used:Nat->Int)(n:Nat):Prop:= ∀j,j<n->0<=used j/\used j<=iR a b ((j+1:Nat):Int)
def kOk(keys:Nat->ByteArray)(n:Nat):Prop:= ∀i,i<n->(1<=(keys i).size/\(keys i).size<=8)/\(i=0\/Ac (keys (i-1)) (keys i)=true)
def Ci(used:Nat->Int)(n:Nat)(e:Int):Int:=if 1<=e/\e<=(n:Int)then used (e-1).toNat else 0
theorem a1M(used:Nat->Int)(n:Nat)(e:Int):Ci used (n+1) e=if e=((n+1:Nat):Int)then used n else Ci used n e:=by
 unfold Ci;by_cases h:e=((n+1:Nat):Int)
 ·rw[awQ h,awQ (by omega)];congr 1;omega
 ·rw[awG h];by_cases h2:1<=e/\e<=(n:Int)
  ·rw[awQ h2,awQ (by omega)]
  ·rw[awG h2,awG (by omega)]
theorem a1N {a b:Int}{used:Nat->Int}{n:Nat} :uOk a b used (n+1)↔uOk a b used n/\0<=used n/\used n<=iR a b ((n+1:Nat):Int):=by
 constructor
 ·intro h;exact⟨λj hj=>h j (by omega),h n (by omega)⟩
 ·rintro ⟨h1,h2⟩ j hj;by_cases e:j=n
  ·subst e;exact h2
  ·exact h1 j (by omega)
theorem Vz {keys:Nat->ByteArray} : ∀ {n},kOk keys n->Jf n keys:=by
 intro n h i j hij hj
 induction j with
 |zero=>omega
 |succ j ih=>
  have h1:Ac (keys j) (keys (j+1))=true:=by
   rcases(h (j+1) hj).2 with h|h
   ·omega
   ·exact h
  by_cases e:i=j
  ·subst e;exact h1
  ·exact aa7 (ih (by omega) (by omega)) h1
theorem VB {a b:Int}(h:1<=a/\a<=7/\1<=b/\b<=4)(e:Int):0<=iR a b e/\iR a b e<=112:=by
 have hp:1<=b*a/\b*a<=28:=by have:1*1<=b*a:=Int.mul_le_mul (by omega) (by omega) (by omega) (by omega);have:b*a<=4*7:=Int.mul_le_mul (by omega) (by omega) (by omega) (by omega);omega
 unfold iR;split
 ·omega
 ·split
  ·generalize b*a=p at*;rw[wrap_i64 (x:=p) (by omega),wrap_i64 (by omega)];omega
  ·omega
theorem abn {a b:Int}(hz:1<=a/\a<=7/\1<=b/\b<=4)(nk:Nat)(keys:Nat->ByteArray)(nu:Nat)(used:Nat->Int)(hn:nu<=12):
  ∃y,au cO (iH nk keys 0 nu used (nu:Int) 0 a b 0 (λ_=>ByteArray.empty) [])=some y/\
   ((y=Jq 1/\ ¬uOk a b used nu)\/(uOk a b used nu/\ ∃u,y=yj nk keys ((Ae used nu:Nat):Int) a b 0 (λ_=>ByteArray.empty) u/\ ∀e,mf u e=Ci used nu e)):=by
 refine bH (R:=cO) (S:=List (Int×Int)) (λk u=>iH nk keys ((Ae used k:Nat):Int) nu used (nu:Int) (k:Int) a b 0 (λ_=>ByteArray.empty) u)
  (λk u=>uOk a b used k/\Ae used k<=112*k/\ ∀e,mf u e=Ci used k e) _ nu
  (λk hk u hu=>?_) (λu hu=>?_) [] ⟨λj hj=>absurd hj (awO _),az9 _,λe=>by unfold Ci;rw[awG (by omega)];rfl⟩
 ·obtain⟨h1,h2,h3⟩:=hu;have hq:=VB hz ((k+1:Nat):Int);by_cases g1:used k<0
  ·refine .inr ⟨_,?_,.inl ⟨rfl,λh=>by have:=h k hk;omega⟩⟩;simp(disch:=omega) only[cO,iH,WW,CC]
  ·by_cases g2:used k>iR a b ((k+1:Nat):Int)
   ·refine .inr ⟨_,?_,.inl ⟨rfl,λh=>by have:=h k hk;omega⟩⟩;simp(disch:=omega) only[cO,iH,WW,CC]
   ·obtain⟨v,hv⟩: ∃v:Nat,used k=(v:Int):=⟨(used k).toNat,by omega⟩;refine .inl ⟨M8 (.int .i64) (.int .i64) u ((k+1:Nat):Int) (used k),?_,a1N.2 ⟨h1,by omega,by omega⟩,by simp only[Ae];omega,λe=>?_⟩
    ·have g1': ¬((v:Nat):Int)<0:=by omega
     have g2': ¬((v:Nat):Int)>iR a b ((k+1:Nat):Int):=by omega
     have hs:Ae used (k+1)=Ae used k+v:=by simp only[Ae,hv,awz]
     simp(disch:=omega) only[cO,iH,hv,WW,CC,hs]
    ·rw[abk,a1M,h3]
 ·obtain⟨h1,h2,h3⟩:=hu;refine⟨_,?_,.inr ⟨h1,u,rfl,h3⟩⟩;simp(disch:=omega) only[cO,iH,WW,CC]
theorem abo(a b:Int)(nk:Nat)(keys:Nat->ByteArray)(hn:nk<=20)(sum:Int)(u:List (Int×Int)):
  ∃y,au bU (fA nk keys sum nk keys (nk:Int) 0 a b 0 (λ_=>ByteArray.empty) u)=some y/\
   ((y=Jr 1/\ ¬kOk keys nk)\/(kOk keys nk/\y=yt nk keys sum a b 0 (λ_=>ByteArray.empty) u)):=by
 refine bH (R:=bU) (S:=Unit) (λk _=>fA nk keys sum nk keys (nk:Int) (k:Int) a b 0 (λ_=>ByteArray.empty) u)
  (λk _=>kOk keys k) _ nk
  (λk hk _ hu=>?_) (λ_ hu=>?_) () (λj hj=>absurd hj (awO _))
 ·have hks:=aa8 (keys k);by_cases g1:1<=(keys k).size/\(keys k).size<=8
  ·rw[aG g1]at hks;have step:(k=0\/Ac (keys (k-1)) (keys k)=true)->kOk keys (k+1):=λh i hi=>by
    by_cases e:i=k
    ·subst e;exact⟨g1,h⟩
    ·exact hu i (by omega)
   by_cases g2:k=0
   ·refine .inl ⟨(),?_,step (.inl g2)⟩;subst g2;simp(disch:=omega) only[bU,fA,WW,CC,hks]
   ·cases g3:Ac (keys (k-1)) (keys k)with
    |true=>
     refine .inl ⟨(),?_,step (.inr g3)⟩;simp(disch:=omega) only[bU,fA,WW,CC,hks,Bq,g3]
    |false=>
     refine .inr ⟨_,?_,.inl ⟨rfl,λh=>?_⟩⟩
     ·simp(disch:=omega) only[bU,fA,WW,CC,hks,Bq,g3]
     ·rcases(h k hk).2 with h|h
      ·exact g2 h
      ·rw[g3]at h;exact absurd h (by decide)
  ·rw[ak g1]at hks;refine .inr ⟨_,?_,.inl ⟨rfl,λh=>g1 (h k hk).1⟩⟩;simp(disch:=omega) only[bU,fA,WW,CC,hks]
 ·refine⟨_,?_,.inr ⟨hu,rfl⟩⟩;simp(disch:=omega) only[bU,fA,WW,CC]
def Y4(a b:Int)(nk:Nat)(keys:Nat->ByteArray)(nu:Nat)(used:Nat->Int):Prop:=
 (1<=a/\a<=7/\1<=b/\b<=4)/\(nu:Int)=a+b/\uOk a b used nu/\kOk keys nk/\Ae used nu=nk
theorem a5V(a b:Int)(nk:Nat)(keys:Nat->ByteArray)(nu:Nat)(used:Nat->Int)(hk:nk<=20)(hn:nu<=12):
  (¬Y4 a b nk keys nu used/\zU a b nk keys nu used=some (Ht 1))\/
  (Y4 a b nk keys nu used/\ ∃u,zU a b nk keys nu used=some (Hu 0 a b nk keys u)/\ ∀e,mf u e=Ci used nu e):=by
 have e0:((0:Int) !=0)=false:=rfl;have e1:((1:Int) !=0)=true:=rfl;rw[Kw,Hw];by_cases hz:1<=a/\a<=7/\1<=b/\b<=4
 ·rw[aa9 hz,wrap_i64 (x:=a+b) (by omega)];simp only[xR,e0,aM];by_cases h1:(nu:Int)=a+b
  ·rw[nT h1];simp only[aM];obtain⟨y,l1,l2⟩:=abn hz nk keys nu used hn;have l1':au cO (((nk,keys),((),(0,((nu,used),((nu:Int),(0,())))))),((a,(b,((0,(λ_=>ByteArray.empty)),[]))),()))=some y:=l1;rw[l1'];rcases l2 with⟨rfl,l3⟩|⟨l3,u,rfl,l4⟩
   ·exact .inl ⟨λh=>l3 h.2.2.1,rfl⟩
   ·simp only[yj];obtain⟨y2,m1,m2⟩:=abo a b nk keys hk ((Ae used nu:Nat):Int) u;have m1':au bU (((nk,keys),((),(((Ae used nu:Nat):Int),((nk,keys),((nk:Int),(0,())))))),((a,(b,((0,(λ_=>ByteArray.empty)),u))),()))=some y2:=m1;rw[m1'];rcases m2 with⟨rfl,m3⟩|⟨m3,rfl⟩
    ·exact .inl ⟨λh=>m3 h.2.2.2.1,rfl⟩
    ·simp only[yt];by_cases hs:Ae used nu=nk
     ·rw[hs,nT rfl];refine .inr ⟨⟨hz,h1,l3,m3,hs⟩,u,?_,l4⟩;rw[awF (by omega)];rfl
     ·rw[uw (by omega)];exact .inl ⟨λh=>hs h.2.2.2.2,rfl⟩
  ·rw[uw h1];exact .inl ⟨λh=>h1 h.2.1,rfl⟩
 ·rw[a4F hz];exact .inl ⟨λh=>hz h.1,rfl⟩
end Go.Pl
