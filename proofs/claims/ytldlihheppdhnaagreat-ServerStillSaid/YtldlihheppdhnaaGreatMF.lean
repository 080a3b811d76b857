/-
 Bytes, and their digests.
-/
import Derived.Test.YtldlihheppdhnaaGreatMD
import Derived.Test.YtldlihheppdhnaaGreatPlB
import Derived.Test.YtldlihheppdhnaaGreatMA
set_option linter.unusedVariables false
set_option linter.unusedSimpArgs false
set_option maxRecDepth 4000
namespace Go.Pl
open Go Go.Den Go.Num
def arP(c:Nat→Int):Nat→Int
 |0=>0
 |n+1=>arP c n+c n
def ev(c:Nat→Int)(n:Nat)(x:Int):Int:=arP (fun i=>c i*x^i) n
theorem acU {α:Type} {n:Nat} {f g:Nat→α} {j:Nat}(h:j<n):glue n f g j=f j:=by
 have:Nat.blt j n=true:=kS.2 h
 simp[glue,this]
theorem acV {α:Type} {n:Nat} {f g:Nat→α} :glue n f g n=g 0:=by
 have:Nat.blt n n=false:=by
  cases hb:Nat.blt n n with
  |false=>rfl
  |true=>exact absurd (kS.1 hb) (Nat.lt_irrefl _)
 simp[glue,this]
theorem a9M {n:Nat} {f:Nat→(Nat→Int)} {A:Nat→Nat} {z:Nat→Int}(hf: ∀i,i<n→IsN (f i) (A i))(hz:IsN z (A n)): ∀i,i<n+1→IsN (glue n f (fun j=>upd (fun _=>fun _=>0) 0 z (0+j)) i) (A i):=by
 intro i hi
 by_cases e:i=n
 ·subst e; rw[acV,ay0,upd_same]; exact hz
 ·rw[acU (by omega)]; exact hf i (by omega)
structure a4x(Q n:Nat)(f:Nat→(Nat→Int))(c:Nat→Nat):Prop where
 is: ∀i,i<n→IsN (f i) (c i)
 zero: ∀k,n≤k→c k=0
 lt: ∀k,c k<Q
 top:n=0∨c (n-1)≠0
theorem a4x.size {Q n m:Nat} {f h:Nat→(Nat→Int)} {c:Nat→Nat}(a:a4x Q n f c)(b:a4x Q m h c):n=m:=by
 rcases Nat.lt_trichotomy n m with h1|h1|h1
 ·rcases b.top with h2|h2
  ·omega
  ·exact absurd (a.zero _ (by omega)) h2
 ·exact h1
 ·rcases a.top with h2|h2
  ·omega
  ·exact absurd (b.zero _ (by omega)) h2
section
variable {g:rA} {P Q G:Nat}
end
open Go Go.Den Go.Num
def Cg(Q:Nat)(a b:Int):Prop:=(Q:Int)∣a-b
theorem Cg.trans {Q:Nat} {a b c:Int}(h:Cg Q a b)(h':Cg Q b c):Cg Q a c:=by
 have:=Int.dvd_add h h'
 unfold Cg
 rwa [show a-c=a-b+(b-c)by omega]
def cI(c:Nat→Nat):Nat→Int:=fun k=>(c k:Int)
def E(c:Nat→Nat)(x:Int):Int:=ev (cI c) 1000 x
section
variable {g:rA} {P Q G:Nat}
end
open Go Go.Den Go.Num
def acW(X:Nat→Nat)(x:Int):Nat→Int
 |0=>1
 |k+1=>acW X x k*(x-X k)
section
variable {g:rA} {P Q G:Nat}
structure Thr(Q:Nat)(X Y:Nat→Nat)(k nout:Nat)(out:Nat→(Nat→Int))(nn:Nat)(none_:Nat→(Nat→Int))(c d:Nat→Nat):Prop where
 pol:a4x Q nout out c
 size:nout≤k
 is: ∀i,i<nn→IsN (none_ i) (d i)
 zero: ∀i,nn≤i→d i=0
 size2:nn≤k+1
 at': ∀j,j<k→Cg Q (E c (X j)) (Y j)
 none': ∀x,Cg Q (E d x) (acW X x k)
 apart: ∀i j,i<j→j<k→ ¬Cg Q (X j) (X i)
end
open Go Go.Den Go.Num
section
variable {g:rA} {P Q G:Nat}
end
open Go Go.Den Go.Num
def IsR(n:Nat)(f:Nat→Int)(c:Nat→Nat):Prop:= ∀i,i<n→f i=(c i:Int)
theorem a5U {n:Nat} {f:Nat→Int} {c:Nat→Nat} {z:Int}(hf:IsR n f c)(hz:z=(c n:Int)):IsR (n+1) (glue n f (fun j=>upd (fun _=>0) 0 z (0+j))) c:=by
 intro i hi
 by_cases e:i=n
 ·subst e; rw[acV,ay0,upd_same]; exact hz
 ·rw[acU (by omega)]; exact hf i (by omega)
structure awH(n:Nat)(f:Nat→Int)(c:Nat→Nat):Prop where
 is:IsR n f c
 zero: ∀k,n≤k→c k=0
 top:n=0∨c (n-1)≠0
theorem Zu {n:Nat}(hn:n≤100000) {l:Nat→(Nat→Int)} {A:Nat→Nat}(hl: ∀i,i<n→IsN (l i) (A i)) {q:Nat}(hq:0<q)(hq2:q<9223372036854775808): ∃f,wm n l (q:Int)=some (n,f)∧IsR n f (fun i=>A i%q):=by
 rw[Ub]; unfold Ua
 obtain⟨z,hy,hP⟩:=aO (R:=rP) (fun i (out:Nat→Int)=>a0D n l (q:Int) i out (i:Int)) (fun out=>JJ n out) (fun i out=>IsR i out (fun i=>A i%q)) n
  (fun i hi out hP=>by
   have b1:Nat.ble ((i+1)*8) 140737488355328=true:=ax2 (by omega)
   have b2:Nat.ble (i+1) 9223372036854775807=true:=ax2 (by omega)
   refine⟨_,?_,a5U hP rfl⟩
   unfold rP
   simp(disch:=omega) only[CC,WW,a1h (hl i hi) hq hq2,b1,b2,Bool.and_self])
  (fun out hP=>by
   unfold rP
   simp(disch:=omega) only[CC,WW]) (fun _=>0) (fun i hi=>absurd hi (axv i))
 have hy':aB rP (((n,l),((q:Int),((0,fun _=>0),(0,())))),())=some (JJ n z):=hy
 exact⟨fun j=>z (0+j),by simp only[hy'],fun i hi=>by have:=hP i hi; simpa only[axc]using this⟩
section
variable {q:Nat}
theorem WY(hq:1<q)(hq2:q<2147483648) {n:Nat}(hn:n≤100000) {f:Nat→Int} {c:Nat→Nat}(hf:IsR n f c) {X:Nat} :bq n f (X:Int) (q:Int)=some ((Df c (fun i=>X^i) n%q:Nat):Int):=by
 rw[Qy]; unfold OE
 obtain⟨z,hy,hP⟩:=aO (R:=oz) (fun i (s:Nat×Nat)=>Z4 n f (X:Int) (q:Int) (s.1:Int) (s.2:Int) (i:Int)) (fun s=>GU (s.1:Int)) (fun i s=>s.1=Df c (fun i=>X^i) i%q∧s.2=X^i%q) n
  (fun i hi s hP=>by
   obtain⟨h1,h2⟩:=hP
   have l1:s.1<q:=by rw[h1]; exact axh _ (by omega)
   have l2:c i*s.2%q<q:=axh _ (by omega)
   refine⟨((s.1+c i*s.2%q)%q,s.2*X%q),?_,?_,?_⟩
   ·unfold oz
    simp(disch:=omega) only[CC,WW,hf i hi,Zr (show 0<q by omega) (show q<9223372036854775808 by omega),Zq (show 0<q by omega) (show s.1<4611686018427387904 by omega) (show c i*s.2%q<4611686018427387904 by omega)]
   ·simp only[Df]
    rw[h1,h2,azf (Df c (fun i=>X^i) i),ayF (c i) (X^i),ayF (c i) (X^i%q),azy]
   ·simp only
    rw[h2,ays,ayF,azy,←ayF])
  (fun s hP=>by
   unfold oz
   simp(disch:=omega) only[CC,WW]) (0,1) ⟨by simp only[Df,Nat.zero_mod],by rw[ayt,awX hq]⟩
 have hy':aB oz (((n,f),((X:Int),((q:Int),(0,(1,(0,())))))),())=some (GU (z.1:Int)):=hy
 simp only[hy',hP.1]
end
open Go Go.Den Go.Num
def InP(P Q x:Nat):Prop:=x≠0∧x<P∧x^Q%P=1
instance (P Q x:Nat):Decidable (InP P Q x):=by unfold InP; infer_instance
def Pb(P Q n:Nat)(c:Nat→Nat):Prop:=1≤n∧n≤7∧ ∀j,j<n→InP P Q (c j)
def atN(P n:Nat)(c:Nat→Nat)(i:Nat):Nat:=iY (fun j=>c j^i^j) n%P
theorem arQ {i j:Nat}(hi:i≤7)(hj:j≤7):i^j≤823543:=ayG (Nat.pow_le_pow_left hi j) (ayG (axo (by decide) hj) (by decide))
section
variable {g:rA} {P Q G:Nat}
open Classical in
theorem Fa(h:dF g P Q G) {n:Nat} {f:Nat→(Nat→Int)} {c:Nat→Nat}(hf: ∀j,j<n→IsN (f j) (c j)):vg (some g) n f=some (decide (Pb P Q n c)):=by
 rw[JW]; unfold AQ
 by_cases h1:1≤n
 ·by_cases h2:n≤7
  ·obtain⟨y,y1,y2⟩:=kH (R:=fD) (S:=Unit) (fun k _=>mK n f (n:Int) (k:Int) g) (fun k _=> ∀j,j<k→InP P Q (c j))
    (fun y=>(∃(t:Nat) (z:Nat→Int),y=p8 (t:Int) g z∧ ¬Pb P Q n c)∨(y=p9 g∧Pb P Q n c)) n
    (fun k hk _ hP=>by
     have hI:=WX h (hf k hk)
     by_cases hin:c k≠0∧c k<P∧c k^Q%P=1
     ·rw[dM hin]at hI
      refine .inl ⟨(),?_,fun j hj=>?_⟩
      ·simp(disch:=omega) only[fD,mK,WW,CC,hI]
      ·by_cases e:j=k
       ·subst e; exact hin
       ·exact hP j (by omega)
     ·rw[bG hin]at hI
      refine .inr ⟨p8 (k:Int) g (f k),?_,.inl ⟨k,f k,rfl,fun hm=>hin (hm.2.2 k hk)⟩⟩
      simp(disch:=omega) only[fD,mK,WW,CC,hI])
    (fun _ hP=>by
     refine⟨p9 g,?_,.inr ⟨rfl,h1,h2,hP⟩⟩
     simp(disch:=omega) only[fD,mK,WW,CC]) () (fun j hj=>absurd hj (axv _))
   have y1':aB fD (((n,f),((),((n:Int),(0,())))),(g,()))=some y:=y1
   rcases y2 with⟨t,z,rfl,hm⟩|⟨rfl,hm⟩
   ·simp(disch:=omega) only[WW,y1',bG hm,p8]
   ·simp(disch:=omega) only[WW,y1',dM hm,p9]
  ·have hm: ¬Pb P Q n c:=fun hm=>h2 hm.2.1
   simp(disch:=omega) only[WW,bG hm]
 ·have hm: ¬Pb P Q n c:=fun hm=>h1 hm.1
  simp(disch:=omega) only[WW,bG hm]
theorem V7(h:dF g P Q G) {n:Nat}(hn:n≤7) {f:Nat→(Nat→Int)} {c:Nat→Nat}(hf: ∀j,j<n→IsN (f j) (c j)) {i:Nat}(hi:i≤7):
  ∃z,CP (some g) n f (i:Int)=some z∧IsN z (atN P n c i):=by
 rw[Nk]; unfold Ec
 obtain⟨e,y1,y2⟩:=aO (R:=mg) (S:=Nat→(Nat→Int)) (fun k e=>BN g n f (i:Int) k e ((i^k:Nat):Int) (n:Int) (k:Int) (fun _=>0)) (fun e=>xK g n f n e (fun _=>0))
  (fun k e=> ∀j,j<k→IsN (e j) (i^j)) n
  (fun k hk e hP=>by
   have hp:=arQ hi (j:=k) (by omega)
   have hp1:=arQ hi (j:=k+1) (by omega)
   obtain⟨z,z1,z2⟩:=nQ (n:=((i^k:Nat):Int)) (by omega)
   rw[axd]at z2
   refine⟨glue k e (fun j=>upd (fun _=>fun _=>0) 0 z (0+j)),?_,a9M (A:=fun j=>i^j) hP z2⟩
   have hble: ∀a b:Nat,a≤b→Nat.ble a b=true:=fun a b h=>ax2 h
   have hpm:i^k*i=i^(k+1):=rfl
   simp(disch:=omega) only[mg,BN,WW,CC,z1,hble,az4,hpm])
  (fun e _=>by simp(disch:=omega) only[mg,BN,WW,CC]) (fun _=>fun _=>0) (fun j hj=>absurd hj (axv _))
 have y1':aB mg ((g,((n,f),((i:Int),((),((0,(fun _=>(fun _=>0))),(1,((n:Int),(0,())))))))),((fun _=>0),()))=some (xK g n f n e (fun _=>0)):=by
  have:=y1; simp only[ayt]at this; exact this
 obtain⟨z,z1,z2⟩:=P9 h (n:=n) (by omega) hf (exps:=fun j=>e (0+j)) (E:=fun j=>i^j) (fun j hj=>by rw[axc]; exact y2 j hj)
 simp(disch:=omega) only[WW,y1',xK,z1]
 exact⟨z,rfl,z2⟩
end
structure as9(x:SlV (Nat→Int)×(Int×(Nat→Int)))(n:Nat)(c:Nat→Nat)(i:Int)(y:Nat):Prop where
 ms:SlV.isMs x.1=false
 len:SlV.len x.1=n
 nats: ∀j,j<n→IsN (SlV.fn (fun _=>0) x.1 j) (c j)
 ii:x.2.1=i
 yy:IsN x.2.2 y
structure Cl where
 n:Nat→Nat
 c:Nat→Nat→Nat
 i:Nat→Int
 y:Nat→Nat
section
variable {g:rA} {P Q G:Nat}
open Classical in
open Classical in
end
open Go Go.Den
abbrev bl(s:ByteArray):List UInt8:=s.data.toList
theorem oJ(s:ByteArray):s.size=(bl s).length:=rfl
theorem Lh {s t:ByteArray}(h:bl s=bl t):s=t:=by
 cases s; cases t
 simp only[bl]at h
 rw[ayY h]
theorem a3w(s:ByteArray)(a b:Nat):bl (s.extract a b)=((bl s).drop a).take (b-a):=by
 simp only[bl,ByteArray.data_extract,Array.toList_extract,List.extract_eq_take_drop]
theorem a4y(s:ByteArray)(n:Nat):bl (s.extract n s.size)=(bl s).drop n:=by
 rw[a3w,axS]
 rw[ayb,oJ]; exact ax5 _
theorem V8(s:ByteArray):sEq s s=true:=by simp[sEq]
theorem aiB {s t:ByteArray}(h:bl s=bl t):sEq s t=true:=by rw[Lh h]; exact V8 t
theorem vL(n:Nat)(f:Nat→Int):bl (bytesOf n f)=(List.range n).map fun i=>UInt8.ofNat (f i).toNat:=rfl
def arR:List UInt8→Nat
 | []=>0
 |b::l=>b.toNat+256*arR l
def awI(l:List UInt8):Nat:=arR l.reverse
theorem a5V {l:List UInt8} {k:Nat}(h:k<l.length):l.take (k+1)=l.take k++[l.getD k 0]:=by
 rw[List.take_add_one,awZ h,axf,awZ h]; rfl
theorem rX(n:Nat):IntKind.u32.wrap (n:Int)=((n%4294967296:Nat):Int):=by rw[wrap_u32']; rfl
theorem V9(n:Nat):IntKind.u8.wrap (n:Int)=((n%256:Nat):Int):=by rw[wrap_u8']; rfl
theorem mq(a:Nat):(BitVec.ofInt 32 (a:Int)).toNat=a%4294967296:=by simp[BitVec.toNat_ofInt]
theorem awJ {a b:Nat}(ha:a<4294967296)(hb:b<4294967296):ak .and .u32 (a:Int) (b:Int)=((a&&& b:Nat):Int):=by
 have:ak .and .u32 (a:Int) (b:Int)=IntKind.u32.wrap ((BitVec.ofInt 32 a&&& BitVec.ofInt 32 b).toNat:Int):=rfl
 rw[this,BitVec.toNat_and,mq,mq,awX ha,awX hb,rX,awX]
 exact axb ayJ ha
theorem orW {a b:Nat}(ha:a<4294967296)(hb:b<4294967296):ak .or .u32 (a:Int) (b:Int)=((a||| b:Nat):Int):=by
 have:ak .or .u32 (a:Int) (b:Int)=IntKind.u32.wrap ((BitVec.ofInt 32 a||| BitVec.ofInt 32 b).toNat:Int):=rfl
 rw[this,BitVec.toNat_or,mq,mq,awX ha,awX hb,rX,awX]
 exact axR (n:=32) ha hb
theorem arS {a b:Nat}(ha:a<4294967296)(hb:b<4294967296):ak .xor .u32 (a:Int) (b:Int)=((a^^^ b:Nat):Int):=by
 have:ak .xor .u32 (a:Int) (b:Int)=IntKind.u32.wrap ((BitVec.ofInt 32 a^^^ BitVec.ofInt 32 b).toNat:Int):=rfl
 rw[this,BitVec.toNat_xor,mq,mq,awX ha,awX hb,rX,awX]
 exact Nat.xor_lt_two_pow (n:=32) ha hb
theorem aiC {a b:Nat}(ha:a<9223372036854775808)(hb:b<9223372036854775808):ak .xor .i64 (a:Int) (b:Int)=((a^^^ b:Nat):Int):=by
 have:ak .xor .i64 (a:Int) (b:Int)=IntKind.i64.wrap ((BitVec.ofInt 64 a^^^ BitVec.ofInt 64 b).toNat:Int):=rfl
 have hlt:a^^^ b<9223372036854775808:=Nat.xor_lt_two_pow (n:=63) ha hb
 rw[this,BitVec.toNat_xor,dX,dX,awX (by omega),awX (by omega),wrap_i64]
 omega
theorem arT {a s:Nat}(h:a<4294967296):bH .u32 (a:Int) (s:Int)=((a/2^s:Nat):Int):=UF (k:=.u32) h
theorem ab2 {a s:Nat}(hs:s≤32):ig .u32 (a:Int) (s:Int)=((a*2^s%4294967296:Nat):Int):=by
 unfold ig
 rw[axd,show((a:Int)*2^min s IntKind.u32.bits)=((a*2^min s 32:Nat):Int)by simp[IntKind.bits],rX,ayw hs]
theorem a4z {a s:Nat}(hs:s<63)(h:a*2^s<9223372036854775808):ig .i64 (a:Int) (s:Int)=((a*2^s:Nat):Int):=by
 unfold ig
 rw[axd,show min s IntKind.i64.bits=s from ayw (by show s≤64; omega),show((a:Int)*2^s)=((a*2^s:Nat):Int)by simp,wrap_i64]
 omega
def Li(x n:Nat):Nat:=x/2^n||| x*2^(32-n)%4294967296
theorem eY {x n:Nat}(h:x<4294967296):Li x n<4294967296:=
 axR (n:=32) (axb (axE _ _) h) (axh _ (by decide))
theorem Rp {x n:Nat}(h:x<4294967296)(h1:0<n)(h2:n<32):fE (x:Int) (n:Int)=some (Li x n:Int):=by
 have e1:IntKind.i64.wrap (0-(n:Int))= -(n:Int):=by rw[wrap_i64 (by omega)]; omega
 have e2:IntKind.u64.wrap (-(n:Int))=((18446744073709551616-n:Nat):Int):=by rw[II]; omega
 have e3:ak .and .u64 ((18446744073709551616-n:Nat):Int) 31=((32-n:Nat):Int):=by
  rw[show(31:Int)=((31:Nat):Int)from rfl,aaX (by omega) (by decide),show(31:Nat)=2^5-1 from rfl,axK]
  congr 1; omega
 have e4:(32:Int)-((32-n:Nat):Int)=((n:Nat):Int):=by omega
 rw[JY,H8,wS,qK]
 rw[e1,e2,e3,e4,BZ (by omega),bG (by omega),bG (by omega),ab2 (by omega),arT h]
 simp only[axn]
 rw[orW (axh _ (by decide)) (axb (axE _ _) h),Nat.or_comm]
 rfl
theorem WZ {x n:Nat}(h:x<4294967296)(h1:2≤n)(h2:n<32):jq (x:Int) (n:Int)=some (Li x n:Int):=by
 have hp:(2:Nat)^(32-n)≤2^30:=axo (by decide) (by omega)
 have hm:x*2^(32-n)≤4294967295*2^30:=azg (by omega) hp
 have e4:(32:Int)-(n:Int)=((32-n:Nat):Int):=by omega
 have hd:x/2^n<4294967296:=axb (axE _ _) h
 have ho:(x/2^n||| x*2^(32-n))<9223372036854775808:=axR (n:=63) (by omega) (by omega)
 rw[Qv,OD,bG (by omega),e4,eU (by omega),bG (by omega),Zf (by omega),a4z (by omega) (by omega),orS (by omega) (by omega)]
 simp only[axn]
 rw[show(4294967295:Int)=((4294967295:Nat):Int)from rfl,a0T ho (by decide),show(4294967295:Nat)=2^32-1 from rfl,axK,Nat.or_mod_two_pow,awX (show x/2^n<2^32 from hd)]
 rfl
theorem NH {x:Nat}(h:x<4294967296)(n:Nat)(h1:0<(OfNat.ofNat n:Nat))(h2:(OfNat.ofNat n:Nat)<32):fE (x:Int) (no_index (OfNat.ofNat n:Int))=some (Li x (OfNat.ofNat n):Int):=Rp h h1 h2
theorem Va {x:Nat}(h:x<4294967296)(n:Nat)(h1:2≤(OfNat.ofNat n:Nat))(h2:(OfNat.ofNat n:Nat)<32):jq (x:Int) (no_index (OfNat.ofNat n:Int))=some (Li x (OfNat.ofNat n):Int):=WZ h h1 h2
theorem a9N {a:Nat}(n:Nat)(h:a<4294967296):bH .u32 (a:Int) (no_index (OfNat.ofNat n:Int))=((a/2^(OfNat.ofNat n:Nat):Nat):Int):=arT (s:=OfNat.ofNat n) h
theorem a9O {a:Nat}(n:Nat)(h:a<9223372036854775808):bH .i64 (a:Int) (no_index (OfNat.ofNat n:Int))=((a/2^(OfNat.ofNat n:Nat):Nat):Int):=Zf (s:=OfNat.ofNat n) h
def chN(e f g:Nat):Nat:=g^^^(e&&&(f^^^ g))
def ab3(a b c:Nat):Nat:=(a&&& b)|||(c&&&(a||| b))
theorem ab4 {e f g:Nat}(he:e<4294967296)(hg:g<4294967296):(e&&& f)^^^((4294967295^^^ e)&&& g)=chN e f g:=by
 apply ayy
 intro i
 simp only[chN,Nat.testBit_xor,Nat.testBit_and]
 by_cases hi:i<32
 ·rw[show(4294967295:Nat)=2^32-1 from rfl,Nat.testBit_two_pow_sub_one,ax6 hi]
  cases e.testBit i<;>cases f.testBit i<;>cases g.testBit i<;>rfl
 ·have hp:2^32≤2^i:=axo (by decide) (by omega)
  have hp:(4294967296:Nat)≤2^i:=hp
  rw[axM (axl he hp),axM (axl hg hp)]
  simp
theorem a9P(a b c:Nat):((a&&& b)^^^(a&&& c))^^^(b&&& c)=ab3 a b c:=by
 apply ayy
 intro i
 simp only[ab3,Nat.testBit_xor,Nat.testBit_and,ayW]
 cases a.testBit i<;>cases b.testBit i<;>cases c.testBit i<;>rfl
theorem jO {a b:Nat}(ha:a<4294967296)(hb:b<4294967296):a^^^ b<4294967296:=Nat.xor_lt_two_pow (n:=32) ha hb
def S1N(e:Nat):Nat:=Li e 6^^^ Li e 11^^^ Li e 25
def S0N(a:Nat):Nat:=Li a 2^^^ Li a 13^^^ Li a 22
def s0N(x:Nat):Nat:=Li x 7^^^ Li x 18^^^ x/2^3
def s1N(x:Nat):Nat:=Li x 17^^^ Li x 19^^^ x/2^10
theorem aiD {x:Nat}(h:x<4294967296):s0N x<4294967296:=jO (jO (eY h) (eY h)) (axb (axE _ _) h)
theorem aiE {x:Nat}(h:x<4294967296):s1N x<4294967296:=jO (jO (eY h) (eY h)) (axb (axE _ _) h)
def ab5(f:Nat→Nat)(i v:Nat):Nat→Nat:=fun j=>if j=i then v else f j
def XP(w:Nat→Nat)(k:Nat):Nat:=(w (k-16)+s0N (w (k-15))+w (k-7)+s1N (w (k-2)))%4294967296
def Eo(b:Nat→Nat)(t:Nat):Nat:=b (4*t)*16777216+b (4*t+1)*65536+b (4*t+2)*256+b (4*t+3)
def Ca(b:Nat→Nat):Nat→Nat→Nat
 |0=>Eo b
 |k+1=>ab5 (Ca b k) (16+k) (XP (Ca b k) (16+k))
def Bf(k w:Nat)(x:Nat→Nat):Nat→Nat
 |0=>(x 7+S1N (x 4)+chN (x 4) (x 5) (x 6)+k+w+(S0N (x 0)+ab3 (x 0) (x 1) (x 2)))%4294967296
 |1=>x 0
 |2=>x 1
 |3=>x 2
 |4=>(x 3+(x 7+S1N (x 4)+chN (x 4) (x 5) (x 6)+k+w))%4294967296
 |5=>x 4
 |6=>x 5
 |_=>x 6
def a9Q(k w:Nat→Nat)(v:Nat→Nat):Nat→Nat→Nat
 |0=>v
 |t+1=>Bf (k t) (w t) (a9Q k w v t)
def kN:Nat→Nat:=fun i=>[1116352408,1899447441,3049323471,3921009573,961987163,1508970993,2453635748,2870763221,3624381080,310598401,607225278,1426881987,1925078388,2162078206,2614888103,3248222580,3835390401,4022224774,264347078,604807628,770255983,1249150122,1555081692,1996064986,2554220882,2821834349,2952996808,3210313671,3336571891,3584528711,113926993,338241895,666307205,773529912,1294757372,1396182291,1695183700,1986661051,2177026350,2456956037,2730485921,2820302411,3259730800,3345764771,3516065817,3600352804,4094571909,275423344,430227734,506948616,659060556,883997877,958139571,1322822218,1537002063,1747873779,1955562222,2024104815,2227730452,2361852424,2428436474,2756734187,3204031479,3329325298].getD i 0
def Pd(v b:Nat→Nat):Nat→Nat:=fun i=>(a9Q kN (Ca b 48) v 64 i+v i)%4294967296
def Ws(n:Nat)(x:Nat→Int)(y:Nat→Nat):Prop:= ∀i,i<n→x i=(y i:Int)∧y i<4294967296
def Bs(n:Nat)(x:Nat→Int)(y:Nat→Nat):Prop:= ∀i,i<n→x i=(y i:Int)∧y i<256
theorem a1j: ∃r,qg=some r∧Ws 64 r kN:=by
 refine⟨_,by rw[vk]; rfl,?_⟩
 intro i hi
 have: ∀i,i<64→kN i<4294967296:=by decide
 refine⟨?_,this i hi⟩
 have h2: ∀i:Fin 64,(upd (upd (upd (upd (upd (upd (upd (upd (upd (upd (upd (upd (upd (upd (upd (upd (upd (upd (upd (upd (upd (upd (upd (upd (upd (upd (upd (upd (upd (upd (upd (upd (upd (upd (upd (upd (upd (upd (upd (upd (upd (upd (upd (upd (upd (upd (upd (upd (upd (upd (upd (upd (upd (upd (upd (upd (upd (upd (upd (upd (upd (upd (upd (upd (fun _=>0) 0 1116352408) 1 1899447441) 2 3049323471) 3 3921009573) 4 961987163) 5 1508970993) 6 2453635748) 7 2870763221) 8 3624381080) 9 310598401) 10 607225278) 11 1426881987) 12 1925078388) 13 2162078206) 14 2614888103) 15 3248222580) 16 3835390401) 17 4022224774) 18 264347078) 19 604807628) 20 770255983) 21 1249150122) 22 1555081692) 23 1996064986) 24 2554220882) 25 2821834349) 26 2952996808) 27 3210313671) 28 3336571891) 29 3584528711) 30 113926993) 31 338241895) 32 666307205) 33 773529912) 34 1294757372) 35 1396182291) 36 1695183700) 37 1986661051) 38 2177026350) 39 2456956037) 40 2730485921) 41 2820302411) 42 3259730800) 43 3345764771) 44 3516065817) 45 3600352804) 46 4094571909) 47 275423344) 48 430227734) 49 506948616) 50 659060556) 51 883997877) 52 958139571) 53 1322822218) 54 1537002063) 55 1747873779) 56 1955562222) 57 2024104815) 58 2227730452) 59 2361852424) 60 2428436474) 61 2756734187) 62 3204031479) 63 3329325298:Nat→Int) i.val=(kN i.val:Int):=by decide
 exact h2 ⟨i,hi⟩
theorem Lj:wo=qg:=by rw[CJ,vk]; rfl
theorem Ws.push {n:Nat} {x:Nat→Int} {y:Nat→Nat}(h:Ws n x y) {v:Nat}(hv:v<4294967296):Ws (n+1) (Den.upd x n (v:Int)) (ab5 y n v):=by
 intro i hi
 by_cases hk:i=n
 ·subst hk; simp only[Den.upd,ab5,ayj]; exact⟨trivial,hv⟩
 ·simp only[Den.upd,ab5,awU hk]; exact h i (by omega)
theorem a1k {w:Nat→Nat} {k:Nat} :XP w k<4294967296:=axh _ (by decide)
theorem a4A {a b c d:Nat}(ha:a<256)(hb:b<256)(hc:c<256)(hd:d<256):(((a*2^24||| b*2^16)||| c*2^8)||| d)=a*16777216+b*65536+c*256+d:=by
 have h1:a*2^24||| b*2^16=(a*256+b)*2^16:=by
  have:=ayh (i:=24) (b:=b*2^16) (by omega) a
  rw[axi a,←this]; omega
 have h2:(a*256+b)*2^16||| c*2^8=((a*256+b)*256+c)*2^8:=by
  have:=ayh (i:=16) (b:=c*2^8) (by omega) (a*256+b)
  rw[axi (a*256+b),←this]; omega
 have h3:((a*256+b)*256+c)*2^8||| d=a*16777216+b*65536+c*256+d:=by
  have:=ayh (i:=8) (b:=d) (by omega) ((a*256+b)*256+c)
  rw[axi _ (2^8),←this]; omega
 rw[h1,h2,h3]
theorem XQ {b:Nat→Nat} {t:Nat}(h0:b (4*t)<256)(h1:b (4*t+1)<256)(h2:b (4*t+2)<256)(h3:b (4*t+3)<256):Eo b t<4294967296:=by
 unfold Eo; omega
theorem a1l {b w t1:Nat→Int} {B:Nat→Nat}(hb:Bs 64 b B)(t:Nat)(ht:t<16):
  gM (gL (t:Int) b t1 w)=some (.inl (gL ((t+1:Nat):Int) b t1 (upd w t (Eo B t:Int)))):=by
 obtain⟨e0,l0⟩:=hb (4*t) (by omega)
 obtain⟨e1,l1⟩:=hb (4*t+1) (by omega)
 obtain⟨e2,l2⟩:=hb (4*t+2) (by omega)
 obtain⟨e3,l3⟩:=hb (4*t+3) (by omega)
 have w24: ∀ {x:Nat},x<256→ig .u32 (x:Int) 24=((x*2^24:Nat):Int):=fun {x} hx=>by rw[show(24:Int)=((24:Nat):Int)from rfl,ab2 (by decide),awX (by omega)]
 have w16: ∀ {x:Nat},x<256→ig .u32 (x:Int) 16=((x*2^16:Nat):Int):=fun {x} hx=>by rw[show(16:Int)=((16:Nat):Int)from rfl,ab2 (by decide),awX (by omega)]
 have w8: ∀ {x:Nat},x<256→ig .u32 (x:Int) 8=((x*2^8:Nat):Int):=fun {x} hx=>by rw[show(8:Int)=((8:Nat):Int)from rfl,ab2 (by decide),awX (by omega)]
 have o1:B (4*t)*2^24||| B (4*t+1)*2^16<4294967296:=axR (n:=32) (by omega) (by omega)
 have o2:(B (4*t)*2^24||| B (4*t+1)*2^16)||| B (4*t+2)*2^8<4294967296:=axR (n:=32) o1 (by omega)
 simp(disch:=omega) only[gM,gL,WW,CC,e0,e1,e2,e3,rX,awX,w24,w16,w8,orW,o1,o2]
 rw[a4A l0 l1 l2 l3]
 rfl
theorem a1m {w t1:Nat→Int} {W:Nat→Nat}(k:Nat)(hk:k<48)(hw:Ws (16+k) w W):
  gQ (gN ((16+k:Nat):Int) t1 w)=some (.inl (gN ((16+(k+1):Nat):Int) t1 (upd w (16+k) (XP W (16+k):Int)))):=by
 obtain⟨e0,l0⟩:=hw (16+k-15) (by omega)
 obtain⟨e1,l1⟩:=hw (16+k-2) (by omega)
 obtain⟨e2,l2⟩:=hw (16+k-16) (by omega)
 obtain⟨e3,l3⟩:=hw (16+k-7) (by omega)
 have b0:=aiD l0
 have b1:=aiE l1
 have r1:= @eY (W (16+k-15)) 7 l0
 have r2:= @eY (W (16+k-15)) 18 l0
 have r3:= @eY (W (16+k-2)) 17 l1
 have r4:= @eY (W (16+k-2)) 19 l1
 have x1:=jO r1 r2
 have x2:=jO r3 r4
 have d1:W (16+k-15)/2^3<4294967296:=axb (axE _ _) l0
 have d2:W (16+k-2)/2^10<4294967296:=axb (axE _ _) l1
 have c1:((16+k:Nat):Int)-15=((16+k-15:Nat):Int):=by omega
 have c2:((16+k:Nat):Int)-2=((16+k-2:Nat):Int):=by omega
 have c3:((16+k:Nat):Int)-16=((16+k-16:Nat):Int):=by omega
 have c4:((16+k:Nat):Int)-7=((16+k-7:Nat):Int):=by omega
 have c5:((16+k:Nat):Int)+1=((16+(k+1):Nat):Int):=by omega
 simp(disch:=omega) only[gQ,gN,c1,c2,c3,c4,c5,WW,e0,e1,e2,e3,NH,a9N,arS,Nu,rX]
 simp only[XP,s0N,s1N,Nat.mod_add_mod]
theorem NJ {b:Nat→Int} {B:Nat→Nat}(hb:Bs 64 b B): ∃w,yP b=some w∧Ws 64 w (Ca B 48):=by
 have s0lt: ∀t,t<16→Eo B t<4294967296:=fun t ht=>XQ (hb _ (by omega)).2 (hb _ (by omega)).2 (hb _ (by omega)).2 (hb _ (by omega)).2
 obtain⟨w1,h1,h2⟩:=aO (R:=gM) (fun k (w:Nat→Int)=>gL (k:Int) b (fun _=>0) w) (fun w=>qQ (fun _=>0) w)
  (fun k w=>Ws k w (Eo B)) 16
  (fun k hk w hw=>⟨_,a1l hb k hk,fun i hi=>by
   by_cases hik:i=k
   ·subst hik; simp only[upd,ayj]; exact⟨trivial,s0lt _ hk⟩
   ·simp only[upd,awU hik]; exact hw i (by omega)⟩)
  (fun w hw=>by simp(disch:=omega) only[gM,gL,WW]) (fun _=>0) (fun i hi=>by omega)
 obtain⟨w2,h3,h4⟩:=aO (R:=gQ) (fun k (w:Nat→Int)=>gN ((16+k:Nat):Int) (fun _=>0) w) (fun w=>qR (fun _=>0) w)
  (fun k w=>Ws (16+k) w (Ca B k)) 48
  (fun k hk w hw=>⟨_,a1m k hk hw,by exact Ws.push hw a1k⟩)
  (fun w hw=>by simp(disch:=omega) only[gQ,gN,WW]) w1 h2
 refine⟨w2,?_,h4⟩
 have e1:aB gM (gL 0 b (fun _=>0) (fun _=>0))=some (qQ (fun _=>0) w1):=h1
 have e2:aB gQ (gN 16 (fun _=>0) w1)=some (qR (fun _=>0) w2):=h3
 rw[ER,BO]
 simp only[gL,qQ]at e1
 simp only[gN,qR]at e2
 rw[e1]
 simp only
 rw[e2]
theorem a1n {k w:Nat} {x:Nat→Nat}(h: ∀i,i<8→x i<4294967296): ∀i,i<8→Bf k w x i<4294967296:=by
 intro i hi
 have h0:=h 0 (by omega); have h1:=h 1 (by omega); have h2:=h 2 (by omega)
 have h4:=h 4 (by omega); have h5:=h 5 (by omega); have h6:=h 6 (by omega)
 match i,hi with
 |0,_=>exact axh _ (by decide)
 |1,_=>exact h0
 |2,_=>exact h1
 |3,_=>exact h2
 |4,_=>exact axh _ (by decide)
 |5,_=>exact h4
 |6,_=>exact h5
 |7,_=>exact h6
theorem a3x {v t1 k w x:Nat→Int} {K W X:Nat→Nat}(hk:Ws 64 k K)(hw:Ws 64 w W)(t:Nat)(ht:t<64)(hx:Ws 8 x X):
  ∃y,jK (jJ (t:Int) v t1 k w x)=some (.inl (jJ ((t+1:Nat):Int) v t1 k w y))∧Ws 8 y (Bf (K t) (W t) X):=by
 obtain⟨e0,l0⟩:=hx 0 (by omega)
 obtain⟨e1,l1⟩:=hx 1 (by omega)
 obtain⟨e2,l2⟩:=hx 2 (by omega)
 obtain⟨e3,l3⟩:=hx 3 (by omega)
 obtain⟨e4,l4⟩:=hx 4 (by omega)
 obtain⟨e5,l5⟩:=hx 5 (by omega)
 obtain⟨e6,l6⟩:=hx 6 (by omega)
 obtain⟨e7,l7⟩:=hx 7 (by omega)
 obtain⟨ek,lk⟩:=hk t ht
 obtain⟨ew,lw⟩:=hw t ht
 have r1:= @eY (X 4) 6 l4
 have r2:= @eY (X 4) 11 l4
 have r3:= @eY (X 4) 25 l4
 have r4:= @eY (X 0) 2 l0
 have r5:= @eY (X 0) 13 l0
 have r6:= @eY (X 0) 22 l0
 have x1:=jO r1 r2
 have x2:=jO r4 r5
 have x3:=jO l5 l6
 have x4:X 4&&&(X 5^^^ X 6)<4294967296:=axb ayJ l4
 have x5:X 0||| X 1<4294967296:=axR (n:=32) l0 l1
 have x6:X 0&&& X 1<4294967296:=axb ayJ l0
 have x7:X 2&&&(X 0||| X 1)<4294967296:=axb ayJ l2
 refine⟨_,by
  simp(disch:=omega) only[jK,jJ,WW,e0,e1,e2,e3,e4,e5,e6,e7,ek,ew,NH,arS,awJ,orW,Nu,UG,rX]
  rfl,?_⟩
 have hl:=a1n (k:=K t) (w:=W t) (x:=X) (fun i hi=>(hx i hi).2)
 intro i hi
 refine⟨?_,hl i hi⟩
 match i,hi with
 |0,_=>
  simp only[upd,ayj,Bf,S1N,S0N,chN,ab3]
  congr 1; omega
 |4,_=>
  simp only[upd,ayj,awU (show¬(4=0)by decide),Bf,S1N,chN]
  congr 1; omega
 |1,_=>exact e0
 |2,_=>exact e1
 |3,_=>exact e2
 |5,_=>exact e4
 |6,_=>exact e5
 |7,_=>exact e6
theorem Vb {v b:Nat→Int} {V B:Nat→Nat}(hv:Ws 8 v V)(hb:Bs 64 b B): ∃r,CV v b=some r∧Ws 8 r (Pd V B):=by
 obtain⟨k,hk1,hk2⟩:=a1j
 obtain⟨w,hw1,hw2⟩:=NJ hb
 obtain⟨x,h1,h2⟩:=aO (R:=jK) (fun t (x:Nat→Int)=>jJ (t:Int) v (fun _=>0) k w x) (fun x=>xL v (fun _=>0) x)
  (fun t x=>Ws 8 x (a9Q kN (Ca B 48) V t)) 64 (fun t ht x hx=>a3x hk2 hw2 t ht hx)
  (fun x hx=>by simp(disch:=omega) only[jK,jJ,WW]) v hv
 obtain⟨y,h3,h4⟩:=aO (R:=mh) (fun t (x:Nat→Int)=>qh (t:Int) v (fun _=>0) x) (fun x=>xM (fun _=>0) x)
  (fun t x=> ∀i,i<8→(i<t→x i=(Pd V B i:Int))∧(t≤i→x i=(a9Q kN (Ca B 48) V 64 i:Int))) 8
  (fun t ht z hz=>by
   obtain⟨ev,lv⟩:=hv t ht
   have ez:=(hz t ht).2 (ax5 _)
   have lm:=(h2 t ht).2
   refine⟨_,by
    simp(disch:=omega) only[mh,qh,WW,ev,ez,Nu,UG,rX]
    rfl,?_⟩
   intro i hi
   by_cases hit:i=t
   ·subst hit
    refine⟨fun _=>by simp only[upd,ayj]; rfl,fun h=>by omega⟩
   ·simp only[upd,awU hit]
    exact⟨fun h=>(hz i hi).1 (by omega),fun h=>(hz i hi).2 (by omega)⟩)
  (fun x hx=>by simp(disch:=omega) only[mh,qh,WW]) x (fun i hi=>⟨fun h=>by omega,fun _=>(h2 i hi).1⟩)
 refine⟨y,?_,fun i hi=>⟨(h4 i hi).1 hi,axh _ (by decide)⟩⟩
 have e1:aB jK (jJ 0 v (fun _=>0) k w v)=some (xL v (fun _=>0) x):=h1
 have e2:aB mh (qh 0 v (fun _=>0) x)=some (xM (fun _=>0) y):=h3
 rw[Nn,KZ,hk1,hw1]
 simp only[jJ,xL]at e1
 simp only[qh,xM]at e2
 simp only
 rw[e1]
 simp only
 rw[e2]
theorem Vd {s t:ByteArray} :sEq s t=true↔bl s=bl t:=by
 constructor
 ·intro h
  have h2:s.toList=t.toList:=eq_of_beq h
  rw[azp,azp]at h2
  exact h2
 ·exact aiB
theorem IV {s:ByteArray} :sEq s (ByteArray.mk #[])=decide (s.size=0):=by
 by_cases h:s.size=0
 ·rw[ax6 h,Vd]
  exact ayO.1 h
 ·rw[ax9 h]
  cases hb:sEq s (ByteArray.mk #[])
  ·rfl
  ·rw[Vd]at hb
   exact absurd (by rw[oJ,hb]; rfl) h
def bN(l:List UInt8)(k:Nat):Nat→Nat:=fun i=>if i<64 then(l.getD (64*k+i) 0).toNat else 0
def a9R:Nat→Nat:=fun i=>[1779033703,3144134277,1013904242,2773480762,1359893119,2600822924,528734635,1541459225].getD i 0
def jW(l:List UInt8):Nat→Nat→Nat
 |0=>a9R
 |k+1=>Pd (jW l k) (bN l k)
theorem vM {l s:List UInt8} {i:Nat}(h:i<l.length):(l++s).getD i 0=l.getD i 0:=by
 rw[axf,axf,axj h]
theorem Bg {l s:List UInt8} {i:Nat}(h:l.length≤i):(l++s).getD i 0=s.getD (i-l.length) 0:=by
 rw[axf,axf,ay7 h]
theorem a5W {l s:List UInt8} {k:Nat}(h:64*k+64≤l.length):bN (l++s) k=bN l k:=by
 funext i
 unfold bN
 split
 ·rw[vM (by omega)]
 ·rfl
theorem A9 {l s:List UInt8} : ∀ {k:Nat},64*k≤l.length→jW (l++s) k=jW l k
 |0,_=>rfl
 |k+1,h=>by
  rw[jW,jW,A9 (k:=k) (by omega),a5W (by omega)]
theorem XR: ∃r,CQ=some r∧Ws 8 r a9R:=by
 refine⟨_,by rw[Ed]; rfl,?_⟩
 intro i hi
 match i,hi with
 |0,_=>exact⟨rfl,by decide⟩
 |1,_=>exact⟨rfl,by decide⟩
 |2,_=>exact⟨rfl,by decide⟩
 |3,_=>exact⟨rfl,by decide⟩
 |4,_=>exact⟨rfl,by decide⟩
 |5,_=>exact⟨rfl,by decide⟩
 |6,_=>exact⟨rfl,by decide⟩
 |7,_=>exact⟨rfl,by decide⟩
abbrev QM:=Bool×((Nat→Int)×((Nat→Int)×Int))
structure Aa(h:QM)(l:List UInt8):Prop where
 given:h.1=true
 n:h.2.2.2=(l.length:Int)
 words:Ws 8 h.2.1 (jW l (l.length/64))
 rest: ∀j,j<l.length%64→h.2.2.1 j=((l.getD (64*(l.length/64)+j) 0).toNat:Int)
theorem X0 {h:QM} {l:List UInt8} {s:ByteArray}(hh:Aa h l)(hs:0<s.size)(hb:l.length+s.size<2^60):
  ∃h' m,0<m∧m≤s.size∧dK (dJ s h)=some (.inl (dJ (s.extract m s.size) h'))∧Aa h' (l++(bl s).take m):=by
 obtain⟨g,w,r,n⟩:=h
 obtain⟨h1,h2,h3,h4⟩:=hh
 simp only at h1 h2 h3 h4
 subst h2
 have hmod:l.length%64<64:=axh _ (by decide)
 have e64:64-(l.length%64)≠0:=by omega
 generalize hm:min s.size (64-l.length%64)=m
 have hm1:0<m:=by omega
 have hm2:m≤s.size:=by omega
 have hm3:l.length%64+m≤64:=by omega
 have hsz:(bl s).length=s.size:=(oJ s).symm
 have c1:Nat.ble (64-l.length%64) 0=false:=by
  cases hb:Nat.ble (64-l.length%64) 0
  ·rfl
  ·exact absurd (ax7 hb) (by omega)
 have c2:Nat.ble s.size 0=false:=by
  cases hb:Nat.ble s.size 0
  ·rfl
  ·exact absurd (ax7 hb) (by omega)
 have hlen:(l++(bl s).take m).length=l.length+m:=by rw[axa,azA]; omega
 have hget: ∀j,j<l.length%64+m→sj r (l.length%64) m (fun i=>(((s.data.toList.getD i 0).toNat:Nat):Int)) j=(((l++(bl s).take m).getD (64*(l.length/64)+j) 0).toNat:Int):=by
  intro j hj
  unfold sj
  by_cases hjl:l.length%64≤j
  ·rw[ax1 ⟨hjl,hj⟩,Bg (by omega),show 64*(l.length/64)+j-l.length=j-l.length%64 by omega]
   show(((s.data.toList.getD (j-l.length%64) 0).toNat:Nat):Int)=_
   rw[axf,axf,axk (by omega)]
  ·rw[awU (by omega),vM (by omega)]
   exact h4 j (by omega)
 by_cases hfull:l.length%64+m=64
 ·obtain⟨r',hr1,hr2⟩:=Vb (b:=sj r (l.length%64) m (fun i=>(((s.data.toList.getD i 0).toNat:Nat):Int))) (B:=bN (l++(bl s).take m) (l.length/64)) h3 (by
   intro i hi
   refine⟨?_,?_⟩
   ·rw[hget i (by omega)]; unfold bN; rw[ax1 hi]
   ·unfold bN; rw[ax1 hi]; exact UInt8.toNat_lt _)
  refine⟨(g,(r',(sj r (l.length%64) m (fun i=>(((s.data.toList.getD i 0).toNat:Nat):Int)),((l.length+m:Nat):Int)))),m,hm1,hm2,?_,?_⟩
  ·simp(disch:=omega) only[dK,dJ,IV,WW,CC,c1,c2,ayV,hm,az4,axy,hr1]
  ·have hq:(l.length+m)/64=l.length/64+1:=by omega
   refine⟨h1,by simp only; rw[hlen],?_,?_⟩
   ·simp only
    rw[hlen,hq,jW,A9 (by omega)]
    exact hr2
   ·intro j hj; rw[hlen]at hj; omega
 ·refine⟨(g,(w,(sj r (l.length%64) m (fun i=>(((s.data.toList.getD i 0).toNat:Nat):Int)),((l.length+m:Nat):Int)))),m,hm1,hm2,?_,?_⟩
  ·simp(disch:=omega) only[dK,dJ,IV,WW,CC,c1,c2,ayV,hm,az4,axy]
  ·have hq:(l.length+m)/64=l.length/64:=by omega
   refine⟨h1,by simp only; rw[hlen],?_,?_⟩
   ·simp only
    rw[hlen,hq,A9 (by omega)]
    exact h3
   ·intro j hj
    rw[hlen]at hj
    simp only
    rw[hlen,hq]
    exact hget j (by omega)
theorem Zv: ∀(n:Nat) {h:QM} {l:List UInt8} {s:ByteArray},s.size≤n→Aa h l→l.length+s.size<2^60→
  ∃h',aB dK (dJ s h)=some (wX h')∧Aa h' (l++bl s):=by
 intro n
 induction n with
 |zero=>
  intro h l s hn hh hb
  have h0:bl s=[]:=ayO.1 (by rw[←oJ]; omega)
  refine⟨h,dI ?_,by rw[h0,aye]; exact hh⟩
  simp(disch:=omega) only[dK,dJ,IV,WW]
 |succ n ih=>
  intro h l s hn hh hb
  by_cases h0:s.size=0
  ·have h0':bl s=[]:=ayO.1 (by rw[←oJ]; omega)
   refine⟨h,dI ?_,by rw[h0',aye]; exact hh⟩
   simp(disch:=omega) only[dK,dJ,IV,WW]
  ·obtain⟨h',m,hm1,hm2,hr,hh'⟩:=X0 hh (Nat.pos_of_ne_zero h0) hb
   have hsz:(s.extract m s.size).size=s.size-m:=by rw[oJ,a4y,ayb,oJ]
   have hlt:(bl s).length=s.size:=(oJ s).symm
   obtain⟨h'',h1,h2⟩:=ih (h:=h') (l:=l++(bl s).take m) (s:=s.extract m s.size) (by omega) hh' (by rw[axa,azA]; omega)
   refine⟨h'',by rw[mZ hr]; exact h1,?_⟩
   rw[a4y,axL,aya]at h2
   exact h2
theorem yU {h:QM} {l:List UInt8} {s:ByteArray}(hh:Aa h l)(hb:l.length+s.size<2^60):
  ∃h',iV s h=some (qU h')∧Aa h' (l++bl s):=by
 obtain⟨h',h1,h2⟩:=Zv s.size (ax5 _) hh hb
 refine⟨h',?_,h2⟩
 simp only[dJ,wX]at h1
 rw[AR,xO,hh.given,h1]
 rfl
def nR(n:Nat):Nat:=(119-n%64)%64
theorem Pe(n:Nat):(n+1+nR n)%64=56:=by unfold nR; omega
theorem Kh {n k:Nat}(h:k<nR n):(n+1+k)%64≠56:=by unfold nR at h; omega
def Zw(n:Nat):List UInt8:=(List.range 8).map fun k=>UInt8.ofNat (8*n/2^(56-8*k)%256)
def X3(l:List UInt8):List UInt8:=l++[128]++List.replicate (nR l.length) 0++Zw l.length
theorem a1o(l:List UInt8):(X3 l).length=l.length+1+nR l.length+8:=by simp[X3,Zw]; omega
theorem a9S(l:List UInt8):(X3 l).length%64=0:=by rw[a1o]; have:=Pe l.length; omega
def Pf(v:Nat→Nat)(j:Nat):Nat:=v (j/4)/2^(24-8*(j%4))%256
def RQ(v:Nat→Nat):ByteArray:=⟨((List.range 32).map fun j=>UInt8.ofNat (Pf v j)).toArray⟩
def yV(l:List UInt8):ByteArray:=RQ (jW (X3 l) ((X3 l).length/64))
theorem XT(l:List UInt8):(yV l).size=32:=by simp[yV,RQ,ByteArray.size]
theorem QN {out:Nat→Int} {v:Nat→Nat}(h: ∀j,j<32→out j=(Pf v j:Int)):bytesOf 32 (fun j=>out (0+j))=RQ v:=by
 unfold bytesOf RQ
 congr 1; congr 1
 apply ayL
 intro j hj
 simp only[axc,h j (az7.1 hj),axd]
theorem a5X {h0 c:QM} {l:List UInt8}(hc:Aa c (l++[128]))(hb:l.length<2^59):
  ∃c',aB iP (ko h0 c)=some (qV h0 c')∧Aa c' (l++[128]++List.replicate (nR l.length) 0):=by
 have hz:nR l.length<64:=axh _ (by decide)
 have hlen: ∀k,(l++[128]++List.replicate k (0:UInt8)).length=l.length+1+k:=by intro k; simp; omega
 refine aO (R:=iP) (fun k (c:QM)=>ko h0 c) (fun c=>qV h0 c) (fun k c=>Aa c (l++[128]++List.replicate k 0)) (nR l.length) ?_ ?_ c (by simpa using hc)
 ·intro k hk c hc
  obtain⟨c',h1,h2⟩:=yU (s:=ByteArray.mk #[0]) hc (by rw[hlen]; show _+1<_; omega)
  have hn:=hc.n
  rw[hlen]at hn
  have hb2:=Kh hk
  refine⟨c',?_,?_⟩
  ·simp(disch:=omega) only[iP,ko,hn,WW,CC,h1]
  ·rw[List.replicate_succ',←axL]; exact h2
 ·intro c hc
  have hn:=hc.n
  rw[hlen]at hn
  have hb2:=Pe l.length
  simp(disch:=omega) only[iP,ko,hn,WW,CC]
theorem a9T {h0 c:QM} {l:List UInt8}(h0n:h0.2.2.2=(l.length:Int))(hb:l.length<2^59):
  ∃last,aB iQ (kr h0 0 c (fun _=>0))=some (qW c last)∧ ∀k,k<8→last k=((8*l.length/2^(56-8*k)%256:Nat):Int):=by
 refine aO (R:=iQ) (fun k (f:Nat→Int)=>kr h0 (k:Int) c f) (fun f=>qW c f) (fun k f=> ∀i,i<k→f i=((8*l.length/2^(56-8*i)%256:Nat):Int)) 8 ?_ ?_ (fun _=>0) (fun i hi=>by omega)
 ·intro k hk f hf
  refine⟨_,by
   simp(disch:=omega) only[iQ,kr,h0n,WW,CC,Zf,V9]
   rfl,?_⟩
  intro i hi
  by_cases hik:i=k
  ·subst hik; simp only[upd,ayj]
  ·simp only[upd,awU hik]; exact hf i (by omega)
 ·intro f hf
  simp(disch:=omega) only[iQ,kr,WW,CC]
theorem ab6 {w:Nat→Int} {v:Nat→Nat}(hw:Ws 8 w v):
  ∃out,aB iR (ku 0 (fun _=>0) w 0)=some (qX 32 out)∧ ∀j,j<32→out j=(Pf v j:Int):=by
 refine aO (R:=iR) (fun k (f:Nat→Int)=>ku (4*k) f w (k:Int)) (fun f=>qX 32 f) (fun k f=> ∀i,i<4*k→f i=(Pf v i:Int)) 8 ?_ ?_ (fun _=>0) (fun i hi=>by omega)
 ·intro k hk f hf
  obtain⟨e,lt⟩:=hw k hk
  have b1:Nat.ble ((4*k+4)*1) 140737488355328=true:=ax2 (by omega)
  have b2:Nat.ble (4*k+4) 9223372036854775807=true:=ax2 (by omega)
  refine⟨_,by
   simp(disch:=omega) only[iR,ku,e,WW,CC,a9N,V9,b1,b2,az4]
   rfl,?_⟩
  intro i hi
  unfold glue
  by_cases hik:i<4*k
  ·rw[show Nat.blt i (4*k)=true from ax2 hik,ax8]
   exact hf i hik
  ·rw[show Nat.blt i (4*k)=false by
    cases hb:Nat.blt i (4*k)
    ·rfl
    ·exact absurd (ax7 hb) hik,axn]
   have hd:i/4=k:=by omega
   have h4:i-4*k=0∨i-4*k=1∨i-4*k=2∨i-4*k=3:=by omega
   rcases h4 with h4|h4|h4|h4
   ·have hm:i%4=0:=by omega
    rw[h4,Pf,hd,hm]; rfl
   ·have hm:i%4=1:=by omega
    rw[h4,Pf,hd,hm]; rfl
   ·have hm:i%4=2:=by omega
    rw[h4,Pf,hd,hm]; rfl
   ·have hm:i%4=3:=by omega
    rw[h4,Pf,hd,hm,ayt,azC]; rfl
 ·intro f hf
  simp(disch:=omega) only[iR,ku,WW,CC]
theorem a3y {h0:QM} {l:List UInt8}(hh:Aa h0 l)(hb:l.length<2^59):yQ (some h0)=some (yV l):=by
 obtain⟨c1,h1,k1⟩:=yU (s:=ByteArray.mk #[128]) hh (by show _+1<_; omega)
 obtain⟨c2,h2,k2⟩:=a5X (h0:=h0) k1 hb
 obtain⟨last,h3,k3⟩:=a9T (c:=c2) hh.n hb
 have hz:nR l.length<64:=axh _ (by decide)
 obtain⟨c3,h4,k4⟩:=yU (s:=bytesOf 8 (fun j=>last (0+j))) k2 (by
  rw[show(bytesOf 8 (fun j=>last (0+j))).size=8 by simp[bytesOf,ByteArray.size]]
  simp; omega)
 have e5:l++[128]++List.replicate (nR l.length) 0++bl (bytesOf 8 (fun j=>last (0+j)))=X3 l:=by
  unfold X3 Zw
  congr 1
  rw[vL]
  apply ayL
  intro j hj
  simp only[axc,k3 j (az7.1 hj),axd]
 rw[e5]at k4
 obtain⟨out,h6,k6⟩:=ab6 k4.words
 simp only[ko,qV]at h2
 simp only[kr,qW]at h3
 simp only[ku,qX]at h6
 rw[ES,wE]
 simp only[hh.given,ay1,axn,h1,qU,h2,h3,h4,h6]
 rw[QN k6]
 rfl
theorem Zx {s:ByteArray}(hb:s.size<2^59):Np s=some (yV (bl s)):=by
 obtain⟨f,h1,k1⟩:=XR
 have hh:Aa (true,(f,((fun _=>0),0))) []:=⟨rfl,rfl,k1,fun j hj=>by simp at hj⟩
 obtain⟨h',h2,k2⟩:=yU (s:=s) hh (by simp; omega)
 rw[ayN]at k2
 have h3:=a3y k2 (by rw[←oJ]; exact hb)
 rw[Uz,Uy,Nl,KY,h1]
 simp only[h2,qU,h3]
def Ah(n:Nat)(b:Nat→Int)(l:List UInt8):Prop:=n=l.length∧ ∀j,j<n→b j=((l.getD j 0).toNat:Int)
theorem Ah.push {n:Nat} {b:Nat→Int} {l:List UInt8}(h:Ah n b l) {v:Int} {x:UInt8}(hv:v=(x.toNat:Int)):Ah (n+1) (glue n b (fun j=>upd (fun _=>0) 0 v (0+j))) (l++[x]):=by
 obtain⟨h1,h2⟩:=h
 refine⟨by simp; omega,?_⟩
 intro j hj
 unfold glue
 by_cases hc:j<n
 ·rw[show Nat.blt j n=true from ax2 hc,ax8,vM (by omega)]
  exact h2 j hc
 ·obtain rfl:j=n:=by omega
  rw[show Nat.blt j j=false by
   cases hb:Nat.blt j j
   ·rfl
   ·exact absurd (ax7 hb) (by omega),axn,Bg (by omega),h1,ayx]
  exact hv
theorem a5Y {s:ByteArray} {l:List UInt8} {b:Nat→Int}(hl:l.length<2^40)(h:Ah (l.length+1) b (l++[128])):
  ∃n b',aB jZ (nI s (l.length+1) b)=some (uV s n b')∧Ah n b' (l++[128]++List.replicate (nR l.length) 0):=by
 have hz:nR l.length<64:=axh _ (by decide)
 obtain⟨f,h1,h2⟩:=aO (R:=jZ) (fun k (f:Nat→Int)=>nI s (l.length+1+k) f) (fun f=>uV s (l.length+1+nR l.length) f)
  (fun k f=>Ah (l.length+1+k) f (l++[128]++List.replicate k 0)) (nR l.length)
  (fun k hk f hf=>by
   have hb2:=Kh hk
   have c1:Nat.ble ((l.length+1+k+1)*1) 140737488355328=true:=ax2 (by omega)
   have c2:Nat.ble (l.length+1+k+1) 9223372036854775807=true:=ax2 (by omega)
   refine⟨_,by
    simp(disch:=omega) only[jZ,nI,WW,Zh,c1,c2,az4]
    rfl,?_⟩
   rw[List.replicate_succ',←axL]
   exact hf.push rfl)
  (fun f hf=>by
   have hb2:=Pe l.length
   simp(disch:=omega) only[jZ,nI,WW,Zh]) b (by simpa using h)
 exact⟨_,f,h1,h2⟩
theorem ab7 {s:ByteArray} {l m:List UInt8} {n:Nat} {b:Nat→Int}(hsl:s.size=l.length)(hl:l.length<2^40)(hm:m.length<2^41)(h:Ah n b m):
  ∃n' b',aB kg (nJ s n b 7)=some (uW n' b')∧Ah n' b' (m++Zw l.length):=by
 have hn:n=m.length:=h.1
 obtain⟨f,h1,h2⟩:=aO (R:=kg) (fun k (f:Nat→Int)=>nJ s (n+k) f (7-(k:Int))) (fun f=>uW (n+8) f)
  (fun k f=>Ah (n+k) f (m++(Zw l.length).take k)) 8
  (fun k hk f hf=>by
   have c1:Nat.ble ((n+k+1)*1) 140737488355328=true:=ax2 (by omega)
   have c2:Nat.ble (n+k+1) 9223372036854775807=true:=ax2 (by omega)
   have e1:IntKind.i64.wrap (8*(7-(k:Int)))=((56-8*k:Nat):Int):=by rw[wrap_i64 (by omega)]; omega
   have e2:IntKind.i64.wrap (8*(s.size:Int))=((8*l.length:Nat):Int):=by rw[wrap_i64 (by omega)]; omega
   have e3:IntKind.i64.wrap (7-(k:Int)-1)=7-((k+1:Nat):Int):=by rw[wrap_i64 (by omega)]; omega
   have hd:8*l.length/2^(56-8*k)<9223372036854775808:=axb (axE _ _) (by omega)
   have e4:ak .and .i64 ((8*l.length/2^(56-8*k):Nat):Int) 255=((8*l.length/2^(56-8*k)%256:Nat):Int):=by
    rw[show(255:Int)=((255:Nat):Int)from rfl,a0T hd (by decide),show(255:Nat)=2^8-1 from rfl,axK]
   have hlt:8*l.length/2^(56-8*k)%256<256:=axh _ (by decide)
   refine⟨_,by
    simp(disch:=omega) only[kg,nJ,WW,e1,e2,e3,Zf,e4,c1,c2,az4]
    rfl,?_⟩
   have hll:(Zw l.length).length=8:=by simp[Zw]
   rw[a5V (by omega),←axL]
   refine hf.push ?_
   rw[a9y (by omega)]
   unfold Zw
   rw[axf,axz,ayr hk]
   simp only[axZ,Option.getD_some,UInt8.toNat_ofNat']
   rw[azy])
  (fun f hf=>by
   simp(disch:=omega) only[kg,nJ,WW]) b (by simpa using h)
 refine⟨_,f,h1,?_⟩
 rw[axS (by simp[Zw])]at h2
 exact h2
theorem Rq {s:ByteArray}(hs:s.size<2^40): ∃n b,DX s=some (n,b)∧Ah n b (X3 (bl s)):=by
 have hsz:=oJ s
 have h0:Ah s.size (fun i=>((((s).data.toList.getD i 0).toNat:Nat):Int)) (bl s):=⟨hsz,fun j hj=>rfl⟩
 have h1:=h0.push (v:=128) (x:=128) rfl
 obtain⟨n1,b1,z1,z2⟩:=a5Y (s:=s) (l:=bl s) (by omega) (b:=glue s.size (fun i=>((((s).data.toList.getD i 0).toNat:Nat):Int)) (fun j=>upd (fun _=>0) 0 128 (0+j))) (by rw[←hsz]; exact h1)
 have hz:nR (bl s).length<64:=axh _ (by decide)
 obtain⟨n2,b2,y1,y2⟩:=ab7 (s:=s) (l:=bl s) hsz (by omega) (by rw[axa,axa,List.length_replicate]; show _+1+_<_; omega) z2
 have c1:Nat.ble s.size 9223372036854775807=true:=ax2 (by omega)
 have c2:Nat.ble ((s.size+1)*1) 140737488355328=true:=ax2 (by omega)
 have c3:Nat.ble (s.size+1) 9223372036854775807=true:=ax2 (by omega)
 rw[←hsz]at z1
 simp only[nI,uV]at z1
 simp only[nJ,uW]at y1
 refine⟨n2,fun j=>b2 (0+j),?_,?_⟩
 ·rw[JK,GK]
  simp only[c1,c2,c3,az4,ax8,z1,y1]
 ·have e0:(fun j=>b2 (0+j))=b2:=by funext j; rw[axc]
  rw[e0]; exact y2
theorem Rs {nb:Nat} {b w t1:Nat→Int} {B:Nat→Nat}(hnb:64≤nb)(hnb2:nb<2^60)(hb:Bs 64 b B)(t:Nat)(ht:t<16):
  gI (gH nb b (t:Int) t1 w)=some (.inl (gH nb b ((t+1:Nat):Int) t1 (upd w t (Eo B t:Int)))):=by
 obtain⟨e0,l0⟩:=hb (4*t) (by omega)
 obtain⟨e1,l1⟩:=hb (4*t+1) (by omega)
 obtain⟨e2,l2⟩:=hb (4*t+2) (by omega)
 obtain⟨e3,l3⟩:=hb (4*t+3) (by omega)
 have w24: ∀ {x:Nat},x<256→ig .i64 (x:Int) 24=((x*2^24:Nat):Int):=fun {x} hx=>a4z (s:=24) (by decide) (by omega)
 have w16: ∀ {x:Nat},x<256→ig .i64 (x:Int) 16=((x*2^16:Nat):Int):=fun {x} hx=>a4z (s:=16) (by decide) (by omega)
 have w8: ∀ {x:Nat},x<256→ig .i64 (x:Int) 8=((x*2^8:Nat):Int):=fun {x} hx=>a4z (s:=8) (by decide) (by omega)
 have o1:B (4*t)*2^24||| B (4*t+1)*2^16<4294967296:=axR (n:=32) (by omega) (by omega)
 have o2:(B (4*t)*2^24||| B (4*t+1)*2^16)||| B (4*t+2)*2^8<4294967296:=axR (n:=32) o1 (by omega)
 simp(disch:=omega) only[gI,gH,WW,CC,e0,e1,e2,e3,w24,w16,w8,orS]
 rw[a4A l0 l1 l2 l3]
 rfl
theorem a3z {x:Nat}(h:x<9223372036854775808):ak .and .i64 (x:Int) 4294967295=((x%4294967296:Nat):Int):=by
 rw[show(4294967295:Int)=((4294967295:Nat):Int)from rfl,a0T h (by decide),show(4294967295:Nat)=2^32-1 from rfl,axK]
theorem Rt {w t1:Nat→Int} {W:Nat→Nat}(k:Nat)(hk:k<48)(hw:Ws (16+k) w W):
  gK (gJ ((16+k:Nat):Int) t1 w)=some (.inl (gJ ((16+(k+1):Nat):Int) t1 (upd w (16+k) (XP W (16+k):Int)))):=by
 obtain⟨e0,l0⟩:=hw (16+k-15) (by omega)
 obtain⟨e1,l1⟩:=hw (16+k-2) (by omega)
 obtain⟨e2,l2⟩:=hw (16+k-16) (by omega)
 obtain⟨e3,l3⟩:=hw (16+k-7) (by omega)
 have r1:= @eY (W (16+k-15)) 7 l0
 have r2:= @eY (W (16+k-15)) 18 l0
 have r3:= @eY (W (16+k-2)) 17 l1
 have r4:= @eY (W (16+k-2)) 19 l1
 have x1:=jO r1 r2
 have x2:=jO r3 r4
 have d1:W (16+k-15)/2^3<4294967296:=axb (axE _ _) l0
 have d2:W (16+k-2)/2^10<4294967296:=axb (axE _ _) l1
 have x3:=jO x1 d1
 have x4:=jO x2 d2
 have c1:((16+k:Nat):Int)-15=((16+k-15:Nat):Int):=by omega
 have c2:((16+k:Nat):Int)-2=((16+k-2:Nat):Int):=by omega
 have c3:((16+k:Nat):Int)-16=((16+k-16:Nat):Int):=by omega
 have c4:((16+k:Nat):Int)-7=((16+k-7:Nat):Int):=by omega
 have c5:((16+k:Nat):Int)+1=((16+(k+1):Nat):Int):=by omega
 simp(disch:=omega) only[gK,gJ,c1,c2,c3,c4,c5,WW,e0,e1,e2,e3,Va,a9O,aiC,Nu,a3z]
 have hv: ∀a b c d:Nat,(a+b+c+d)%4294967296=(d+c+b+a)%4294967296:=fun a b c d=>by congr 1; omega
 simp only[XP,s0N,s1N]
 rw[hv]
theorem NK {nb:Nat} {b:Nat→Int} {B:Nat→Nat}(hnb:64≤nb)(hnb2:nb<2^60)(hb:Bs 64 b B): ∃w,yM nb b=some w∧Ws 64 w (Ca B 48):=by
 have s0lt: ∀t,t<16→Eo B t<4294967296:=fun t ht=>XQ (hb _ (by omega)).2 (hb _ (by omega)).2 (hb _ (by omega)).2 (hb _ (by omega)).2
 obtain⟨w1,h1,h2⟩:=aO (R:=gI) (fun k (w:Nat→Int)=>gH nb b (k:Int) (fun _=>0) w) (fun w=>qM (fun _=>0) w)
  (fun k w=>Ws k w (Eo B)) 16
  (fun k hk w hw=>⟨_,Rs hnb hnb2 hb k hk,fun i hi=>by
   by_cases hik:i=k
   ·subst hik; simp only[upd,ayj]; exact⟨trivial,s0lt _ hk⟩
   ·simp only[upd,awU hik]; exact hw i (by omega)⟩)
  (fun w hw=>by simp(disch:=omega) only[gI,gH,WW]) (fun _=>0) (fun i hi=>by omega)
 obtain⟨w2,h3,h4⟩:=aO (R:=gK) (fun k (w:Nat→Int)=>gJ ((16+k:Nat):Int) (fun _=>0) w) (fun w=>qN (fun _=>0) w)
  (fun k w=>Ws (16+k) w (Ca B k)) 48
  (fun k hk w hw=>⟨_,Rt k hk hw,by exact Ws.push hw a1k⟩)
  (fun w hw=>by simp(disch:=omega) only[gK,gJ,WW]) w1 h2
 refine⟨w2,?_,h4⟩
 have e1:aB gI (gH nb b 0 (fun _=>0) (fun _=>0))=some (qM (fun _=>0) w1):=h1
 have e2:aB gK (gJ 16 (fun _=>0) w1)=some (qN (fun _=>0) w2):=h3
 rw[EL,BJ]
 simp only[gH,qM]at e1
 simp only[gJ,qN]at e2
 rw[e1]
 simp only
 rw[e2]
theorem Ve {v t1 k w x:Nat→Int} {K W X:Nat→Nat}(hk:Ws 64 k K)(hw:Ws 64 w W)(t:Nat)(ht:t<64)(hx:Ws 8 x X):
  ∃y,jH (jG (t:Int) v t1 w k x)=some (.inl (jG ((t+1:Nat):Int) v t1 w k y))∧Ws 8 y (Bf (K t) (W t) X):=by
 obtain⟨e0,l0⟩:=hx 0 (by omega)
 obtain⟨e1,l1⟩:=hx 1 (by omega)
 obtain⟨e2,l2⟩:=hx 2 (by omega)
 obtain⟨e3,l3⟩:=hx 3 (by omega)
 obtain⟨e4,l4⟩:=hx 4 (by omega)
 obtain⟨e5,l5⟩:=hx 5 (by omega)
 obtain⟨e6,l6⟩:=hx 6 (by omega)
 obtain⟨e7,l7⟩:=hx 7 (by omega)
 obtain⟨ek,lk⟩:=hk t ht
 obtain⟨ew,lw⟩:=hw t ht
 have r1:= @eY (X 4) 6 l4
 have r2:= @eY (X 4) 11 l4
 have r3:= @eY (X 4) 25 l4
 have r4:= @eY (X 0) 2 l0
 have r5:= @eY (X 0) 13 l0
 have r6:= @eY (X 0) 22 l0
 have x1:=jO r1 r2
 have x2:=jO r4 r5
 have x3:=jO x1 r3
 have x4:=jO x2 r6
 have nx:4294967295^^^ X 4<4294967296:=jO (by decide) l4
 have nn:ak .xor .i64 4294967295 (X 4:Int)=((4294967295^^^ X 4:Nat):Int):=by
  rw[show(4294967295:Int)=((4294967295:Nat):Int)from rfl,aiC (by decide) (by omega)]
 have a1:X 4&&& X 5<4294967296:=axb ayJ l4
 have a2:(4294967295^^^ X 4)&&& X 6<4294967296:=axb ayJ nx
 have a3:X 0&&& X 1<4294967296:=axb ayJ l0
 have a4:X 0&&& X 2<4294967296:=axb ayJ l0
 have a5:X 1&&& X 2<4294967296:=axb ayJ l1
 have a6:=jO a1 a2
 have a7:=jO a3 a4
 have a8:=jO a7 a5
 refine⟨_,by
  simp(disch:=omega) only[jH,jG,WW,e0,e1,e2,e3,e4,e5,e6,e7,ek,ew,Va,nn,aiC,a0T,Nu,UG,a3z]
  rfl,?_⟩
 have hl:=a1n (k:=K t) (w:=W t) (x:=X) (fun i hi=>(hx i hi).2)
 have hch:=ab4 (f:=X 5) l4 l6
 have hmj:=a9P (X 0) (X 1) (X 2)
 intro i hi
 refine⟨?_,hl i hi⟩
 match i,hi with
 |0,_=>
  simp only[upd,awU (show¬(0=1)by decide),awU (show¬(0=2)by decide),awU (show¬(0=3)by decide),awU (show¬(0=4)by decide),awU (show¬(0=5)by decide),awU (show¬(0=6)by decide),awU (show¬(0=7)by decide),ayj,Bf,S1N,S0N]
  rw[hch,hmj]
  congr 2; omega
 |4,_=>
  simp only[upd,awU (show¬(4=5)by decide),awU (show¬(4=6)by decide),awU (show¬(4=7)by decide),ayj,Bf,S1N]
  rw[hch]
 |1,_=>simp only[upd,awU (show¬(1=2)by decide),awU (show¬(1=3)by decide),awU (show¬(1=4)by decide),awU (show¬(1=5)by decide),awU (show¬(1=6)by decide),awU (show¬(1=7)by decide),ayj,Bf]
 |2,_=>simp only[upd,awU (show¬(2=3)by decide),awU (show¬(2=4)by decide),awU (show¬(2=5)by decide),awU (show¬(2=6)by decide),awU (show¬(2=7)by decide),ayj,Bf]
 |3,_=>simp only[upd,awU (show¬(3=4)by decide),awU (show¬(3=5)by decide),awU (show¬(3=6)by decide),awU (show¬(3=7)by decide),ayj,Bf]
 |5,_=>simp only[upd,awU (show¬(5=6)by decide),awU (show¬(5=7)by decide),ayj,Bf]
 |6,_=>simp only[upd,awU (show¬(6=7)by decide),ayj,Bf]
 |7,_=>simp only[upd,ayj,Bf]
theorem Vf {v b:Nat→Int} {V B:Nat→Nat} {nb:Nat}(hnb:64≤nb)(hnb2:nb<2^60)(hv:Ws 8 v V)(hb:Bs 64 b B): ∃r,IE v nb b=some r∧Ws 8 r (Pd V B):=by
 obtain⟨k,hk1,hk2⟩:=a1j
 obtain⟨w,hw1,hw2⟩:=NK hnb hnb2 hb
 obtain⟨x,h1,h2⟩:=aO (R:=jH) (fun t (x:Nat→Int)=>jG (t:Int) v (fun _=>0) w k x) (fun x=>xI v (fun _=>0) x)
  (fun t x=>Ws 8 x (a9Q kN (Ca B 48) V t)) 64 (fun t ht x hx=>Ve hk2 hw2 t ht hx)
  (fun x hx=>by simp(disch:=omega) only[jH,jG,WW]) v hv
 obtain⟨y,h3,h4⟩:=aO (R:=lY) (fun t (o:Nat→Int)=>qd (t:Int) v (fun _=>0) x o) (fun o=>xJ (fun _=>0) o)
  (fun t o=> ∀i,i<t→o i=(Pd V B i:Int)) 8
  (fun t ht z hz=>by
   obtain⟨ev,lv⟩:=hv t ht
   obtain⟨ex,lx⟩:=h2 t ht
   refine⟨_,by
    simp(disch:=omega) only[lY,qd,WW,ev,ex,Nu,UG,a3z]
    rfl,?_⟩
   intro i hi
   by_cases hit:i=t
   ·subst hit
    simp only[upd,ayj,Pd]
    rw[aym]
   ·simp only[upd,awU hit]
    exact hz i (by omega))
  (fun x hx=>by simp(disch:=omega) only[lY,qd,WW]) (fun _=>0) (fun i hi=>by omega)
 refine⟨y,?_,fun i hi=>⟨h4 i hi,axh _ (by decide)⟩⟩
 have e1:aB jH (jG 0 v (fun _=>0) w k v)=some (xI v (fun _=>0) x):=h1
 have e2:aB lY (qd 0 v (fun _=>0) x (fun _=>0))=some (xJ (fun _=>0) y):=h3
 rw[N8,KU,hw1,Lj,hk1]
 simp only[jG,xI]at e1
 simp only[qd,xJ]at e2
 simp only
 rw[e1]
 simp only
 rw[e2]
theorem Vg:IC=CQ:=by rw[N7,Ed]; rfl
theorem Zy {s:ByteArray}(hs:s.size<2^40):N9 s=some (yV (bl s)):=by
 obtain⟨nb,b,p1,p2,p3⟩:=Rq hs
 obtain⟨f,f1,f2⟩:=XR
 have hlen:=a1o (bl s)
 have hmod:=a9S (bl s)
 have hz:nR (bl s).length<64:=axh _ (by decide)
 have hsz:=oJ s
 have hnb:nb=64*((X3 (bl s)).length/64):=by omega
 generalize hP:X3 (bl s)=P at*
 generalize hM:P.length/64=M at*
 obtain⟨v,v1,v2⟩:=aO (R:=rQ) (fun k (v:Nat→Int)=>GN nb b ((64*k:Nat):Int) v) (fun v=>JN v) (fun k v=>Ws 8 v (jW P k)) M
  (fun k hk v hv=>by
   obtain⟨r,r1,r2⟩:=Vf (nb:=64*k+64-64*k) (b:=fun j=>b (64*k+j)) (B:=bN P k) (by omega) (by omega) hv (by
    intro i hi
    unfold bN
    rw[ax1 hi]
    exact⟨p3 _ (by omega),UInt8.toNat_lt _⟩)
   refine⟨r,?_,r2⟩
   have e1:((64*k:Nat):Int)+64=((64*k+64:Nat):Int):=by omega
   simp(disch:=omega) only[rQ,GN,WW,e1,az4,r1]
   rfl)
  (fun v hv=>by
   simp(disch:=omega) only[rQ,GN,WW]) f f2
 obtain⟨out,o1,o2⟩:=aO (R:=rR) (fun k (g:Nat→Int)=>GQ (4*k) g (k:Int) v) (fun g=>JO 32 g) (fun k g=> ∀i,i<4*k→g i=(Pf (jW P M) i:Int)) 8
  (fun k hk g hg=>by
   obtain⟨e,lt⟩:=v2 k hk
   have c1:Nat.ble ((4*k+1)*1) 140737488355328=true:=ax2 (by omega)
   have c2:Nat.ble (4*k+1) 9223372036854775807=true:=ax2 (by omega)
   have c3:Nat.ble ((4*k+1+1)*1) 140737488355328=true:=ax2 (by omega)
   have c4:Nat.ble (4*k+1+1) 9223372036854775807=true:=ax2 (by omega)
   have c5:Nat.ble ((4*k+1+1+1)*1) 140737488355328=true:=ax2 (by omega)
   have c6:Nat.ble (4*k+1+1+1) 9223372036854775807=true:=ax2 (by omega)
   have c7:Nat.ble ((4*k+1+1+1+1)*1) 140737488355328=true:=ax2 (by omega)
   have c8:Nat.ble (4*k+1+1+1+1) 9223372036854775807=true:=ax2 (by omega)
   have hd: ∀s:Nat,jW P M k/2^s<9223372036854775808:=fun s=>axb (axE _ _) (by omega)
   have e255: ∀s:Nat,ak .and .i64 ((jW P M k/2^s:Nat):Int) 255=((jW P M k/2^s%256:Nat):Int):=fun s=>by
    rw[show(255:Int)=((255:Nat):Int)from rfl,a0T (hd s) (by decide),show(255:Nat)=2^8-1 from rfl,axK]
   have e0:bH .i64 ((jW P M k:Nat):Int) 0=((jW P M k/2^0:Nat):Int):=Zf (s:=0) (by omega)
   refine⟨_,by
    simp(disch:=omega) only[rR,GQ,e,WW,CC,e0,a9O,e255,V9,azy,c1,c2,c3,c4,c5,c6,c7,c8,az4]
    rfl,?_⟩
   have ltb: ∀a b:Nat,a<b→Nat.blt a b=true:=fun a b h=>ax2 h
   have geb: ∀a b:Nat,¬a<b→Nat.blt a b=false:=fun a b h=>by
    cases hb:Nat.blt a b
    ·rfl
    ·exact absurd (ax7 hb) h
   intro i hi
   unfold glue
   by_cases hik:i<4*k
   ·rw[ltb i _ (by omega),ltb i _ (by omega),ltb i _ (by omega),ltb i _ hik]
    exact hg i hik
   ·have hdv:i/4=k:=by omega
    have h4:i=4*k∨i=4*k+1∨i=4*k+2∨i=4*k+3:=by omega
    rcases h4 with h4|h4|h4|h4
    ·have hm:i%4=0:=by omega
     rw[ltb i _ (by omega),ltb i _ (by omega),ltb i _ (by omega),geb i _ (by omega),Pf,hdv,hm,h4]
     simp only[ax8,axn,ayx]; rfl
    ·have hm:i%4=1:=by omega
     rw[ltb i _ (by omega),ltb i _ (by omega),geb i _ (by omega),Pf,hdv,hm,h4]
     simp only[ax8,axn,ayx]; rfl
    ·have hm:i%4=2:=by omega
     rw[ltb i _ (by omega),geb i _ (by omega),Pf,hdv,hm,h4]
     simp only[ax8,axn,ayx]; rfl
    ·have hm:i%4=3:=by omega
     rw[geb i _ (by omega),Pf,hdv,hm,h4]
     simp only[axn,ayx]; rfl)
  (fun g hg=>by
   simp(disch:=omega) only[rR,GQ,WW]) (fun _=>0) (fun i hi=>by omega)
 have v1':aB rQ (((nb,b),((),(0,()))),(f,()))=some (JN v):=v1
 have o1':aB rR (((),((0,(fun _=>0)),(0,()))),(v,()))=some (JO 32 out):=o1
 rw[Un,Um,p1,Vg,f1]
 simp only[v1',o1']
 rw[QN (v:=jW P M) (fun j hj=>o2 j (by omega))]
 unfold yV
 rw[hP,hM]
open Go Go.Den Go.Num
section
variable {P Q G:Nat}
open Classical in
open Classical in
open Classical in
end
open Go Go.Den
def vcn(p:Nat→Bool):Nat→Nat
 |0=>0
 |n+1=>vcn p n+(if p n then 1 else 0)
theorem a3A(p:Nat→Bool): ∀n,vcn p n≤n
 |0=>ax5 _
 |n+1=>by have:=a3A p n; simp only[vcn]; split<;>omega
theorem Pg {p q:Nat→Bool} : ∀ {n:Nat},(∀k,k<n→p k=q k)→vcn p n=vcn q n
 |0,_=>rfl
 |n+1,h=>by rw[vcn,vcn,Pg (n:=n) fun k hk=>h k (by omega),h n (by omega)]
theorem a4B {p q:Nat→Bool} {j:Nat}(h: ∀k,k≠j→q k=p k): ∀ {n:Nat},j<n→vcn q n+(if p j then 1 else 0)=vcn p n+(if q j then 1 else 0)
 |0,hj=>by omega
 |n+1,hj=>by
  simp only[vcn]
  by_cases e:j=n
  ·subst e
   rw[Pg (p:=q) (q:=p) fun k hk=>h k (by omega)]
   omega
  ·have:=a4B h (n:=n) (by omega)
   rw[h n (Ne.symm e)]
   omega
abbrev aF:=Int×Int
abbrev QO:=aF×ByteArray
abbrev FC:=Nat→Nat→Nat→QO
def lU(s:aF):Prop:=1≤s.1∧s.1≤1099511627776∧1≤s.2∧s.2≤4
instance (s:aF):Decidable (lU s):=by unfold lU; infer_instance
theorem HY(s:aF):vE s=some (decide (lU s)):=by
 rw[Nq]; unfold L9
 rw[F4]; unfold BU lU
 by_cases h1:s.1≥1
 ·by_cases h2:s.1≤1099511627776
  ·by_cases h3:s.2≥1<;>simp[h1,h2,h3]
  ·simp[h1,h2]
 ·simp[h1]
theorem NM(x:Int):ak .and .i64 x 1=x%2:=IJ (k:=1) (by decide)
def hit(c:QO)(s:aF)(d:ByteArray):Bool:=eqF (.pair (.int .i64) (.int .i64)) c.1 s&&sEq c.2 d
theorem a1p(s:aF)(d:ByteArray):hit (s,d) s d=true:=by simp[hit,eqF,sEq]
theorem a5Z(s:aF):eqF (.pair (.int .i64) (.int .i64)) s s=true:=by simp[eqF]
def okV(N:Nat)(F:FC)(srv:Int)(s:aF):Prop:=lU s∧1≤srv∧srv≤(N:Int)∧(F (srv-1).toNat (s.2-1).toNat (s.1%2).toNat).1.1<s.1
instance (N:Nat) (F:FC) (srv:Int) (s:aF):Decidable (okV N F srv s):=by unfold okV; infer_instance
def oK(F:FC)(srv:Int)(s:aF)(d:ByteArray):FC:=fun a b c=>if a=(srv-1).toNat∧b=(s.2-1).toNat∧c=(s.1%2).toNat then(s,d)else F a b c
theorem ab8(F:FC)(srv:Int)(s:aF)(d:ByteArray)(i j k:Nat)(hi:i=(srv-1).toNat)(hj:j=(s.2-1).toNat)(hk:k=(s.1%2).toNat):upd F i (upd (F i) j (upd (F i j) k (s,d)))=oK F srv s d:=by
 funext a b c
 simp only[oK,←hi,←hj,←hk]
 by_cases h1:a=i
 ·subst h1
  rw[upd_same]
  by_cases h2:b=j
  ·subst h2
   rw[upd_same]
   by_cases h3:c=k
   ·subst h3; rw[upd_same,ax1 ⟨rfl,rfl,rfl⟩]
   ·rw[upd_ne h3,awU fun h=>h3 h.2.2]
  ·rw[upd_ne h2,awU fun h=>h2 h.2.1]
 ·rw[upd_ne h1,awU fun h=>h1 h.1]
theorem oL {N:Nat}(hN:N≤7)(F:FC)(srv:Int)(hs:srv<9223372036854775808)(s:aF)(d:ByteArray):
  fF srv s d ((N:Int),F)=some ((decide (okV N F srv s),()),(((N:Int),if okV N F srv s then oK F srv s d else F),())):=by
 rw[x9]; unfold qZ
 simp only[HY,NM]
 by_cases h1:lU s
 ·obtain⟨m1,m2,m3,m4⟩:=id h1
  by_cases h2:1≤srv
  ·by_cases h3:srv≤(N:Int)
   ·have e1:IntKind.i64.wrap (srv-1)=srv-1:=wrap_i64 (by omega)
    have e2:IntKind.i64.wrap (s.2-1)=s.2-1:=wrap_i64 (by omega)
    rw[e1,e2]
    by_cases h4:(F (srv-1).toNat (s.2-1).toNat (s.1%2).toNat).1.1<s.1
    ·have ho:okV N F srv s:=⟨h1,h2,h3,h4⟩
     simp(disch:=omega) only[WW,h1,ho,ab8 F srv s d _ _ _ rfl rfl rfl,ax1]
     rfl
    ·have ho: ¬okV N F srv s:=fun h=>h4 h.2.2.2
     simp(disch:=omega) only[WW,h1,ho,ayi]
     try rfl
   ·have ho: ¬okV N F srv s:=fun h=>h3 h.2.2.1
    simp(disch:=omega) only[WW,h1,ho,ayi]
  ·have ho: ¬okV N F srv s:=fun h=>h2 h.2.1
   simp(disch:=omega) only[WW,h1,ho,ayi]
 ·have ho: ¬okV N F srv s:=fun h=>h1 h.1
  simp(disch:=omega) only[WW,h1,ho,ayi]
def xV(N:Nat)(F:FC)(s:aF)(d:ByteArray):Nat:=if lU s then vcn (fun k=>hit (F k (s.2-1).toNat (s.1%2).toNat) s d) N else 0
theorem Dg {N:Nat}(hN:N≤7)(F:FC)(s:aF)(d:ByteArray):iy (some ((N:Int),F)) s d=some ((xV N F s d:Nat):Int):=by
 rw[xg]; unfold lF
 simp only[HY]
 unfold xV
 by_cases h1:lU s
 ·obtain⟨m1,m2,m3,m4⟩:=id h1
  have e2:IntKind.i64.wrap (s.2-1)=s.2-1:=wrap_i64 (by omega)
  obtain⟨z,hy,hQ⟩:=aO (R:=dx) (fun k (n:Nat)=>Fq ((N:Int),F) d (n:Int) (N:Int) (k:Int) s) (fun n=>rT (n:Int))
   (fun k n=>n=vcn (fun k=>hit (F k (s.2-1).toNat (s.1%2).toNat) s d) k) N
   (fun k hk n hP=>by
    subst hP
    have hle:=a3A (fun k=>hit (F k (s.2-1).toNat (s.1%2).toNat) s d) k
    have e:eqF (.pair (.pair (.int .i64) (.int .i64)) .str) (F k (s.2-1).toNat (s.1%2).toNat) (s,d)=hit (F k (s.2-1).toNat (s.1%2).toNat) s d:=rfl
    cases hh:hit (F k (s.2-1).toNat (s.1%2).toNat) s d
    ·refine⟨_,?_,rfl⟩
     unfold dx
     simp(disch:=omega) only[CC,WW,NM,e2,e,hh,vcn,ay0,axA,ayi]
    ·refine⟨_,?_,rfl⟩
     unfold dx
     simp(disch:=omega) only[CC,WW,NM,e2,e,hh,vcn,ayj])
   (fun n hP=>by
    unfold dx
    simp(disch:=omega) only[CC,WW]) 0 rfl
  have hy':aB dx ((((N:Int),F),(d,((),(0,((N:Int),(0,())))))),(s,()))=some (rT (z:Int)):=hy
  simp only[h1,azE,ay1,axn,hy',ayj,hQ]
 ·simp only[h1,decide_false,ayA,ax8,ayi]
  rfl
def atT(N:Nat)(F:FC)(srv cl odd:Int):QO:=if 1≤srv∧srv≤(N:Int)∧1≤cl∧cl≤4∧0≤odd∧odd≤1 then F (srv-1).toNat (cl-1).toNat odd.toNat else((0,0),ByteArray.mk #[])
theorem wI {N:Nat}(hN:N≤7)(F:FC)(srv cl odd:Int):iX (some ((N:Int),F)) srv cl odd=some (atT N F srv cl odd):=by
 rw[Ba]; unfold qH atT
 by_cases h1:1≤srv
 ·by_cases h2:srv≤(N:Int)
  ·by_cases h3:1≤cl
   ·by_cases h4:cl≤4
    ·by_cases h5:0≤odd
     ·by_cases h6:odd≤1
      ·have e1:IntKind.i64.wrap (srv-1)=srv-1:=wrap_i64 (by omega)
       have e2:IntKind.i64.wrap (cl-1)=cl-1:=wrap_i64 (by omega)
       rw[ax1 ⟨h1,h2,h3,h4,h5,h6⟩]
       simp(disch:=omega) only[WW,e1,e2]
      ·rw[awU (by omega)]
       simp(disch:=omega) only[WW]
     ·rw[awU (by omega)]
      simp(disch:=omega) only[WW]
    ·rw[awU (by omega)]
     simp(disch:=omega) only[WW]
   ·rw[awU (by omega)]
    simp(disch:=omega) only[WW]
  ·rw[awU (by omega)]
   simp(disch:=omega) only[WW]
 ·rw[awU (by omega)]
  simp(disch:=omega) only[WW]
def nS(p q:aF):Prop:=q.1<p.1∨(q.1=p.1∧q.2<p.2)
instance (p q:aF):Decidable (nS p q):=by unfold nS; infer_instance
def aiF(x y:Int):Int:=if x<y then-1 else if y<x then 1 else 0
theorem Ph(x y:Int):kC x y=some (aiF x y):=by
 rw[yj]; unfold tK
 rw[AY]; unfold xP aiF
 by_cases h1:x<y
 ·simp[h1]
 ·by_cases h2:y<x<;>simp[h1,h2]
theorem a1q(a b:Int):AZ 2 (fun j=>(upd (upd (fun _=>0) 0 a) 1 b) (0+j))=some (if a≠0 then a else b):=by
 rw[Hg]; unfold Eh
 have step: ∀i:Nat,i<2→eD (iE 0 2 (fun j=>(upd (upd (fun _=>0) 0 a) 1 b) (0+j)) 2 (i:Int))=
   some (if(if i=0 then a else b)≠0 then .inr (mM (if i=0 then a else b))else .inl (iE 0 2 (fun j=>(upd (upd (fun _=>0) 0 a) 1 b) (0+j)) 2 ((i+1:Nat):Int))):=by
  intro i hi
  have hv:(upd (upd (fun _=>(0:Int)) 0 a) 1 b) (0+i)=if i=0 then a else b:=by
   rcases(by omega:i=0∨i=1)with rfl|rfl<;>rfl
  by_cases h:(if i=0 then a else b)=0
  ·simp(disch:=omega) only[eD,iE,WW,CC,hv,h,ayl,ne_eq,axW,ayi]
  ·simp(disch:=omega) only[eD,iE,WW,CC,hv,h,ne_eq,not_false_eq_true,ayj,XI h]
 have e:eD (iE 0 2 (fun j=>(upd (upd (fun _=>0) 0 a) 1 b) (0+j)) 2 ((2:Nat):Int))=some (.inr (tL 0)):=by
  simp(disch:=omega) only[eD,iE,WW,CC]
 have L:aB eD (iE 0 2 (fun j=>(upd (upd (fun _=>0) 0 a) 1 b) (0+j)) 2 0)=some (if a≠0 then mM a else if b≠0 then mM b else tL 0):=by
  have s0:=step 0 (by omega)
  have s1:=step 1 (by omega)
  rw[ax1 rfl]at s0
  rw[awU (show¬(1=0)by decide)]at s1
  by_cases ha:a≠0
  ·rw[ax1 ha]at s0⊢; exact dI s0
  ·rw[awU ha]at s0⊢
   refine(mZ s0).trans ?_
   by_cases hb:b≠0
   ·rw[ax1 hb]at s1⊢; exact dI s1
   ·rw[awU hb]at s1⊢
    exact(mZ s1).trans (dI e)
 have L':aB eD ((0,((2,(fun j=>(upd (upd (fun _=>0) 0 a) 1 b) (0+j))),((((2:Nat):Int)),(0,())))),())=_:=L
 rw[L']
 by_cases ha:a=0<;>by_cases hb:b=0<;>simp[ha,hb,mM,tL]
theorem Ll(p q:aF): ∃r,wG p q=some r∧(r>0↔nS p q):=by
 rw[D8]; unfold zM
 refine⟨_,by simp only[Ph,a1q]; rfl,?_⟩
 unfold aiF nS
 by_cases h1:p.1<q.1
 ·simp[h1]; omega
 ·by_cases h2:q.1<p.1
  ·simp[h1,h2]
  ·have h3:p.1=q.1:=by omega
   by_cases h4:p.2<q.2
   ·simp[h1,h2,h3,h4]; omega
   ·by_cases h5:q.2<p.2<;>simp[h1,h2,h3,h4,h5]
abbrev iF:=Nat×(Nat→OU)
def app(o:iF)(x:OU):iF:=(o.1+1,glue o.1 o.2 (fun j=>(upd (fun _=>zOU) 0 x) (0+j)))
def apps(o:iF)(l:List OU):iF:=l.foldl app o
theorem dY(o:iF):apps o []=o:=rfl
theorem HZ(o:iF)(x:OU):app o x=apps o [x]:=rfl
theorem iZ(o:iF)(l m:List OU):apps (apps o l) m=apps o (l++m):=by simp[apps,List.foldl_append]
theorem gq: ∀(l:List OU) (o:iF),(apps o l).1=o.1+l.length
 | [],o=>rfl
 |x::l,o=>by
  show(apps (app o x) l).1=_
  rw[gq l]; simp[app]; omega
structure Rc where
 v:VA
 e:FC
 r:FC
 c:Nat→CL
structure Fr where
 T:Nat
 I:Nat
 N:Nat
 key:ByteArray
structure Fx where
 g:GR
 b:BG×Nat
 sp:SP
structure Fr.Ok(f:Fr):Prop where
 T:1≤f.T∧f.T≤2
 N:f.N=3*f.T+1
 I:1≤f.I∧f.I≤f.N
theorem Fr.Ok.n7 {f:Fr}(h:f.Ok):f.N≤7:=by have:=h.T; have:=h.N; omega
@[reducible] def Fr.so (f:Fr) (z:Fx) (o:iF):SO:=(z.g,((f.T:Int),((f.I:Int),((f.N:Int),((3:Int),((),(z.b,o)))))))
@[reducible] def Fr.rc (f:Fr) (x:Rc):RC:=(x.v,(f.key,((),((),x.c))))
@[reducible] def Fr.mk' (f:Fr) (z:Fx) (x:Rc) (o:iF):SR:=(f.so z o,(f.rc x,(((f.N:Int),x.e),(((f.N:Int),x.r),(z.sp,())))))
section
variable {f:Fr} {z:Fx}
theorem rC(hf:f.Ok)(x:Rc)(o:iF)(ho:o.1<1000000000)(to_ k op:Int)(key:ByteArray)(st:aF)(dg:ByteArray)(nm:Nat)(m:Nat→SlV (Nat→Int))(ny:Nat)(y:Nat→(Nat→Int)):
  bI to_ k op key st dg nm m ny y (f.mk' z x o)=some ((),f.mk' z x (app o (to_,(k,(op,(key,(st,(dg,((.fz nm m),(.fz ny y)))))))))):=by
 rw[ql]; unfold lH
 have h1:Nat.ble ((o.1+1)*120) 140737488355328=true:=ax2 (by omega)
 have h2:Nat.ble (o.1+1) 9223372036854775807=true:=ax2 (by omega)
 simp only[Fr.mk',Fr.so,h1,h2,Bool.and_self,ax8]
 rfl
def stP(f:Fr)(x:Rc)(c:Nat):OU:=(((f.N+(c+1):Nat):Int),(3,((x.c c).2.2.1,(f.key,(x.v.1,(x.v.2.1,((.fz x.v.2.2.1.1 x.v.2.2.1.2),(.fz x.v.2.2.2.1 x.v.2.2.2.2))))))))
def NN(f:Fr)(x:Rc)(c:Nat):List OU:=if 0<(x.c c).2.2.1 then [stP f x c]else []
def Zz(f:Fr)(x:Rc):Nat→List OU
 |0=>[]
 |n+1=>Zz f x n++NN f x n
def Ru(f:Fr)(x:Rc):List OU:=Zz f x 3
theorem XU(x:Rc)(c:Nat):(NN f x c).length≤1:=by unfold NN; split<;>simp
theorem xA(x:Rc): ∀n,(Zz f x n).length≤n
 |0=>ax5 _
 |n+1=>by have:=xA x n; have:=XU (f:=f) x n; rw[Zz,axa]; omega
theorem Vh(hf:f.Ok)(x:Rc)(o:iF)(ho:o.1+3<1000000000):dw (f.mk' z x o)=some ((),f.mk' z x (apps o (Ru f x))):=by
 rw[tT]; unfold nN
 have hn:=hf.n7
 obtain⟨s,h1,rfl⟩:=aO (R:=bQ) (S:=iF)
  (fun i s=>fH 3 (i:Int) (f.so z s,(f.rc x,(((f.N:Int),x.e),(((f.N:Int),x.r),(z.sp,((),((),()))))))))
  (fun s=>xR (f.so z s,(f.rc x,(((f.N:Int),x.e),(((f.N:Int),x.r),(z.sp,((),((),()))))))))
  (fun i s=>s=apps o (Zz f x i)) 3
  (fun i hi s hs=>by
   subst hs
   have hl:(apps o (Zz f x i)).1<1000000000:=by rw[gq]; have:=xA (f:=f) x i; omega
   refine⟨_,?_,rfl⟩
   have hs:=rC (z:=z) hf x (apps o (Zz f x i)) hl (((f.N+(i+1):Nat):Int)) 3 (x.c i).2.2.1 f.key x.v.1 x.v.2.1 x.v.2.2.1.1 x.v.2.2.1.2 x.v.2.2.2.1 x.v.2.2.2.2
   simp only[Fr.mk']at hs
   simp only[Zz,NN]
   by_cases hop:0<(x.c i).2.2.1
   ·rw[ax1 hop,←iZ,←HZ]
    simp(disch:=omega) only[bQ,fH,WW,CC,hs,stP]
   ·rw[awU hop,aye]
    simp(disch:=omega) only[bQ,fH,WW,CC])
  (fun s hs=>by simp(disch:=omega) only[bQ,fH,WW,CC]) o rfl
 have h1':aB bQ (((),((),((3:Int),(0,())))),(f.so z o,(f.rc x,(((f.N:Int),x.e),(((f.N:Int),x.r),(z.sp,((),((),()))))))))=_:=h1
 simp only[Fr.mk',h1']
 rfl
def voP(f:Fr)(k:Int)(p:aF)(d:ByteArray)(i:Nat):OU:=(((i+1:Nat):Int),(k,(0,(f.key,(p,(d,((.fz 0 (fun _=>.nil)),(.fz 0 zNN))))))))
def ZA(f:Fr)(k:Int)(p:aF)(d:ByteArray):Nat→List OU
 |0=>[]
 |n+1=>ZA f k p d n++if n+1=f.I then []else [voP f k p d n]
def Ep(f:Fr)(k:Int)(p:aF)(d:ByteArray):List OU:=ZA f k p d f.N
theorem Vi(k:Int)(p:aF)(d:ByteArray): ∀n,(ZA f k p d n).length≤n
 |0=>ax5 _
 |n+1=>by
  have:=Vi k p d n
  rw[ZA,axa]
  split<;>simp<;>omega
theorem Er(hf:f.Ok)(x:Rc)(o:iF)(ho:o.1+7<1000000000)(k:Int)(p:aF)(d:ByteArray):bD k p d (f.mk' z x o)=some ((),f.mk' z x (apps o (Ep f k p d))):=by
 rw[nO]; unfold jL
 have hn:=hf.n7
 obtain⟨s,h1,rfl⟩:=aO (R:=bK) (S:=iF)
  (fun i s=>eX k d (f.N:Int) (i:Int) (f.so z s,(f.rc x,(((f.N:Int),x.e),(((f.N:Int),x.r),(z.sp,(p,())))))))
  (fun s=>xq (f.mk' z x s))
  (fun i s=>s=apps o (ZA f k p d i)) f.N
  (fun i hi s hs=>by
   subst hs
   have hl:(apps o (ZA f k p d i)).1<1000000000:=by rw[gq]; have:=Vi (f:=f) k p d i; omega
   refine⟨_,?_,rfl⟩
   have hs:=rC (z:=z) hf x (apps o (ZA f k p d i)) hl (((i+1:Nat):Int)) k 0 f.key p d 0 (fun _=>.nil) 0 zNN
   simp only[Fr.mk']at hs
   simp only[ZA]
   by_cases hop:i+1=f.I
   ·rw[ax1 hop,aye]
    have e:(((i+1:Nat):Int) !=(f.I:Int))=false:=a0S (by omega)
    simp(disch:=omega) only[bK,eX,WW,CC,e]
   ·rw[awU hop,←iZ,←HZ]
    have e:(((i+1:Nat):Int) !=(f.I:Int))=true:=XI (by omega)
    simp(disch:=omega) only[bK,eX,WW,CC,e,hs,voP])
  (fun s hs=>by simp(disch:=omega) only[bK,eX,WW,CC]) o rfl
 have h1':aB bK (((),(k,((),(d,((),((f.N:Int),(0,()))))))),(f.so z o,(f.rc x,(((f.N:Int),x.e),(((f.N:Int),x.r),(z.sp,(p,())))))))=_:=h1
 simp only[Fr.mk',h1']
 rfl
theorem nT(p:aF)(o:CR):bX p o=some ((decide (nS p o.1.1.1),()),o):=by
 rw[qm]; unfold lI
 obtain⟨r,h1,h2⟩:=Ll p o.1.1.1
 simp only[h1,h2]
def NP(p q:aF):Prop:=IntKind.i64.wrap (p.1-1)≤q.1
instance (p q:aF):Decidable (NP p q):=by unfold NP; infer_instance
theorem Pj(p:aF)(o:CR):gY p o=some ((decide (NP p o.1.1.1),()),o):=by
 rw[rU]; rfl
end
open Go Go.Den
abbrev RcW:=Rc×List OU
def gu(a:RcW)(F:Rc→RcW):RcW:=((F a.1).1,a.2++(F a.1).2)
abbrev FD:=aF→ByteArray→Rc→RcW
def I4(f:Fr)(i:Nat)(q:PR):OU:=(((f.N+(i+1):Nat):Int),(7,(q.2,(f.key,(q.1.1,(ByteArray.empty,((.fz 0 (fun _=>.nil)),(.fz 0 zNN))))))))
def a1r(q:PR)(p:aF):Prop:=0<q.2∧ ¬nS q.1.1 p
instance (q:PR) (p:aF):Decidable (a1r q p):=by unfold a1r; infer_instance
def FE(f:Fr)(i:Nat)(x:Rc):RcW:=if a1r ((x.c i).1 0) x.v.1 then({ x with c:=upd x.c i ((upd (x.c i).1 0 (((x.c i).1 0).1,0)),(x.c i).2) },[I4 f i ((x.c i).1 0)])else(x,[])
def FH(f:Fr)(i:Nat)(x:Rc):RcW:=if a1r ((x.c i).1 1) x.v.1 then({ x with c:=upd x.c i ((upd (x.c i).1 1 (((x.c i).1 1).1,0)),(x.c i).2) },[I4 f i ((x.c i).1 1)])else(x,[])
def I5(f:Fr)(i:Nat)(x:Rc):RcW:=if a1r (x.c i).2.1 x.v.1 then({ x with c:=upd x.c i ((x.c i).1,(((x.c i).2.1.1,0),(x.c i).2.2)) },[I4 f i (x.c i).2.1])else(x,[])
def Pk(f:Fr)(i:Nat)(x:Rc):RcW:=gu (gu (FE f i x) (FH f i)) (I5 f i)
def Bh(f:Fr)(x:Rc):Nat→RcW
 |0=>(x,[])
 |n+1=>gu (Bh f x n) (Pk f n)
def takeC(x:Rc)(p:PR):Nat→CL:=
 if((x.c (p.1.1.2-1).toNat).1 (p.1.1.1%2).toNat).1.1.1<p.1.1.1 then upd x.c (p.1.1.2-1).toNat ((upd (x.c (p.1.1.2-1).toNat).1 (p.1.1.1%2).toNat p),(x.c (p.1.1.2-1).toNat).2)else x.c
def u6(f:Fr)(p:aF)(d:ByteArray)(x:Rc):Prop:=2*f.T<xV f.N x.e p d∨f.T<xV f.N x.r p d
instance (f:Fr) (p:aF) (d:ByteArray) (x:Rc):Decidable (u6 f p d x):=by unfold u6; infer_instance
def pQ(f:Fr)(p:aF)(d:ByteArray)(x:Rc):RcW:=if u6 f p d x∧okV f.N x.r f.I p then({ x with r:=oK x.r f.I p d },Ep f 6 p d)else(x,[])
def endP(f:Fr)(rec:FD)(p:aF)(d:ByteArray)(x:Rc):RcW:=if 2*f.T<xV f.N x.r p d∧nS p x.v.1 then rec p d x else(x,[])
def jP(f:Fr)(rec:FD)(p:aF)(d:ByteArray)(x:Rc):RcW:=gu (pQ f p d x) (endP f rec p d)
def pR(f:Fr)(rec:FD)(p:PR)(x:Rc):RcW:=
 if okV f.N x.e f.I p.1.1 then gu ({ x with c:=takeC x p,e:=oK x.e f.I p.1.1 p.1.2.1 },Ep f 5 p.1.1 p.1.2.1) (jP f rec p.1.1 p.1.2.1)else({ x with c:=takeC x p },[])
def goP(q:PR)(p:aF):Prop:=0<q.2∧NP q.1.1 p
instance (q:PR) (p:aF):Decidable (goP q p):=by unfold goP; infer_instance
def Vj(c:Nat→CL)(i:Nat):Nat→CL:=upd c i ((c i).1,(zPR,(c i).2.2))
def vO(f:Fr)(rec:FD)(i:Nat)(x:Rc):RcW:=if goP (x.c i).2.1 x.v.1 then pR f rec (x.c i).2.1 { x with c:=Vj x.c i } else(x,[])
def vP(f:Fr)(rec:FD)(x:Rc):Nat→RcW
 |0=>(x,[])
 |n+1=>gu (vP f rec x n) (vO f rec n)
def Ab(v:VA)(p:aF)(d:ByteArray):Bool:=hit (v.1,v.2.1) p d
def Bj(c:CL)(p:aF)(d:ByteArray):VA:=
 if Ab (c.1 0).1 p d then(c.1 0).1 else if Ab (c.1 1).1 p d then(c.1 1).1 else if Ab c.2.1.1 p d then c.2.1.1 else(p,(d,((0,zSN),(0,zNN))))
def vQ(f:Fr)(rec:FD)(p:aF)(d:ByteArray)(x:Rc):RcW:=
 gu (gu ({ x with v:=Bj (x.c (p.2-1).toNat) p d },Ru f { x with v:=Bj (x.c (p.2-1).toNat) p d }) fun y=>Bh f y 3) fun y=>vP f rec y 3
def eH(f:Fr):Nat→FD
 |0=>fun _ _ x=>(x,[])
 |n+1=>vQ f (eH f n)
def WFc(c:Nat→CL):Prop:= ∀i,i<3→0<(c i).2.1.2→lU (c i).2.1.1.1
def act(c:Nat→CL):Nat:=vcn (fun i=>decide (0<(c i).2.1.2)) 3
def Lw(c c':Nat→CL):Prop:= ∀i,i<3→(c' i).2.1=(c i).2.1∨(c' i).2.1.2≤0
theorem Lw.refl(c:Nat→CL):Lw c c:=fun _ _=>.inl rfl
theorem Lw.trans {a b c:Nat→CL}(h:Lw a b)(g:Lw b c):Lw a c:=fun i hi=>by
 rcases g i hi with e|e
 ·rcases h i hi with e1|e1
  ·exact .inl (e.trans e1)
  ·exact .inr (by rw[e]; exact e1)
 ·exact .inr e
theorem Lw.wf {a b:Nat→CL}(h:Lw a b)(w:WFc a):WFc b:=fun i hi hp=>by
 rcases h i hi with e|e
 ·rw[e]at hp⊢; exact w i hi hp
 ·omega
theorem a1s {p q:Nat→Bool} : ∀ {n},(∀k,k<n→p k=true→q k=true)→vcn p n≤vcn q n
 |0,_=>ax5 _
 |n+1,h=>by
  have:=a1s (n:=n) fun k hk=>h k (by omega)
  have hn:=h n (by omega)
  simp only[vcn]
  cases hp:p n
  ·simp only[axA,ayi]; omega
  ·rw[hn hp]; simp only[ayj]; omega
theorem Lw.act {a b:Nat→CL}(h:Lw a b):act b≤act a:=a1s fun i hi hp=>by
 simp only[axm]at hp⊢
 rcases h i hi with e|e
 ·rw[e]at hp; exact hp
 ·omega
theorem Vk {c:Nat→CL} {i:Nat} {z:CL}(h:z.2.1=(c i).2.1∨z.2.1.2≤0):Lw c (upd c i z):=fun k hk=>by
 by_cases e:k=i
 ·subst e; rw[upd_same]; exact h
 ·rw[upd_ne e]; exact .inl rfl
theorem a9U(c:Nat→CL)(i:Nat):Lw c (Vj c i):=Vk (.inr (Int.le_refl _))
theorem ab9 {c:Nat→CL} {i:Nat}(hi:i<3)(h:0<(c i).2.1.2):act (Vj c i)+1=act c:=by
 have hu:=a4B (p:=fun k=>decide (0<(c k).2.1.2)) (q:=fun k=>decide (0<(Vj c i k).2.1.2)) (j:=i) (fun k hk=>by simp only[Vj,upd_ne hk]) hi
 have e:Vj c i i=((c i).1,(zPR,(c i).2.2)):=upd_same _ _ _
 simp only[e,h,azE,ayj]at hu
 simpa [act]using hu
def HB:Nat→Nat
 |0=>0
 |n+1=>54+3*HB n
structure Rec(f:Fr)(n:Nat)(rec_:aF→ByteArray→SR→Option (Unit×SR))(rec:FD):Prop where
 run: ∀z p d x o,lU p→WFc x.c→act x.c<n→o.1+HB n<1000000000→rec_ p d (f.mk' z x o)=some ((),f.mk' z (rec p d x).1 (apps o (rec p d x).2))
 len: ∀p d x,(rec p d x).2.length≤HB n
 lw: ∀p d x,Lw x.c (rec p d x).1.c
theorem vR(a:RcW)(F:Rc→RcW):(gu a F).2.length=a.2.length+(F a.1).2.length:=axa
section
variable {f:Fr} {z:Fx}
theorem a4C(i:Nat)(x:Rc):Lw x.c (FE f i x).1.c∧(FE f i x).2.length≤1:=by
 unfold FE; split
 ·exact⟨Vk (.inl rfl),ax5 _⟩
 ·exact⟨Lw.refl _,ay5 _⟩
theorem ZB(i:Nat)(x:Rc):Lw x.c (FH f i x).1.c∧(FH f i x).2.length≤1:=by
 unfold FH; split
 ·exact⟨Vk (.inl rfl),ax5 _⟩
 ·exact⟨Lw.refl _,ay5 _⟩
theorem a4D(i:Nat)(x:Rc):Lw x.c (I5 f i x).1.c∧(I5 f i x).2.length≤1:=by
 unfold I5; split
 ·exact⟨Vk (.inr (Int.le_refl _)),ax5 _⟩
 ·exact⟨Lw.refl _,ay5 _⟩
theorem abb(i:Nat)(x:Rc):Lw x.c (Pk f i x).1.c∧(Pk f i x).2.length≤3:=by
 have h0:=a4C (f:=f) i x
 have h1:=ZB (f:=f) i (FE f i x).1
 have h2:=a4D (f:=f) i (FH f i (FE f i x).1).1
 refine⟨(h0.1.trans h1.1).trans h2.1,?_⟩
 simp only[Pk,gu,axa]
 omega
theorem NQ(x:Rc): ∀n,Lw x.c (Bh f x n).1.c∧(Bh f x n).2.length≤3*n
 |0=>⟨Lw.refl _,ax5 _⟩
 |n+1=>by
  have h:=NQ x n
  have g:=abb (f:=f) n (Bh f x n).1
  exact⟨h.1.trans g.1,by rw[Bh,vR]; omega⟩
theorem Vl(x:Rc)(p:PR):Lw x.c (takeC x p):=by
 unfold takeC; split
 ·exact Vk (.inl rfl)
 ·exact Lw.refl _
variable {n:Nat} {rec_:aF→ByteArray→SR→Option (Unit×SR)} {rec:FD}
theorem NR(hf:f.Ok)(k:Int)(p:aF)(d:ByteArray):(Ep f k p d).length≤7:=ayG (Vi k p d _) hf.n7
theorem XV(hf:f.Ok)(p:aF)(d:ByteArray)(x:Rc):(pQ f p d x).1.c=x.c∧(pQ f p d x).1.v=x.v∧(pQ f p d x).1.e=x.e∧(pQ f p d x).2.length≤7:=by
 unfold pQ; split
 ·exact⟨rfl,rfl,rfl,NR hf _ _ _⟩
 ·exact⟨rfl,rfl,rfl,ay5 _⟩
theorem abd(hr:Rec f n rec_ rec)(p:aF)(d:ByteArray)(x:Rc):Lw x.c (endP f rec p d x).1.c∧(endP f rec p d x).2.length≤HB n:=by
 unfold endP; split
 ·exact⟨hr.lw _ _ _,hr.len _ _ _⟩
 ·exact⟨Lw.refl _,ay5 _⟩
theorem Pm(hf:f.Ok)(hr:Rec f n rec_ rec)(p:aF)(d:ByteArray)(x:Rc):Lw x.c (jP f rec p d x).1.c∧(jP f rec p d x).2.length≤7+HB n:=by
 have h:=XV hf p d x
 have g:=abd hr p d (pQ f p d x).1
 rw[h.1]at g
 exact⟨g.1,by rw[jP,vR]; omega⟩
theorem XW(hf:f.Ok)(hr:Rec f n rec_ rec)(p:PR)(x:Rc):Lw x.c (pR f rec p x).1.c∧(pR f rec p x).2.length≤14+HB n:=by
 have h:=Pm hf hr p.1.1 p.1.2.1 { x with c:=takeC x p,e:=oK x.e f.I p.1.1 p.1.2.1 }
 have hs:=NR hf 5 p.1.1 p.1.2.1
 unfold pR; split
 ·refine⟨(Vl x p).trans h.1,?_⟩
  simp only[gu,axa]; omega
 ·exact⟨Vl x p,ay5 _⟩
theorem a6a(hf:f.Ok)(hr:Rec f n rec_ rec)(i:Nat)(x:Rc):Lw x.c (vO f rec i x).1.c∧(vO f rec i x).2.length≤14+HB n:=by
 have h:=XW hf hr (x.c i).2.1 { x with c:=Vj x.c i }
 unfold vO; split
 ·exact⟨(a9U x.c i).trans h.1,h.2⟩
 ·exact⟨Lw.refl _,ay5 _⟩
theorem Pn(hf:f.Ok)(hr:Rec f n rec_ rec)(x:Rc): ∀k,Lw x.c (vP f rec x k).1.c∧(vP f rec x k).2.length≤k*(14+HB n)
 |0=>⟨Lw.refl _,ay5 _⟩
 |k+1=>by
  have h:=Pn hf hr x k
  have g:=a6a hf hr k (vP f rec x k).1
  exact⟨h.1.trans g.1,by rw[vP,vR,Nat.succ_mul]; omega⟩
theorem XY(hf:f.Ok)(hr:Rec f n rec_ rec)(p:aF)(d:ByteArray)(x:Rc):Lw x.c (vQ f rec p d x).1.c∧(vQ f rec p d x).2.length≤HB (n+1):=by
 have h:=NQ (f:=f) { x with v:=Bj (x.c (p.2-1).toNat) p d } 3
 have g:=Pn hf hr (Bh f { x with v:=Bj (x.c (p.2-1).toNat) p d } 3).1 3
 have ha:(Ru f { x with v:=Bj (x.c (p.2-1).toNat) p d }).length≤3:=xA _ 3
 refine⟨h.1.trans g.1,?_⟩
 simp only[vQ,gu,axa,HB]
 omega
theorem Lm(hf:f.Ok)(hr:Rec f n rec_ rec)(p:aF)(d:ByteArray)(x:Rc)(o:iF)(hw:WFc x.c)(ha:act x.c<n)(ho:o.1+(7+HB n)<1000000000):
  dS rec_ p d (f.mk' z x o)=some ((),f.mk' z (jP f rec p d x).1 (apps o (jP f rec p d x).2)):=by
 rw[qo]; unfold iK
 have hn:=hf.n7
 have hT:=hf.T
 extract_lets-underBinder k
 have hk: ∀b:Bool,b=decide (u6 f p d x)→k ((b,()),())=some ((),f.mk' z (jP f rec p d x).1 (apps o (jP f rec p d x).2)):=by
  intro b hb
  unfold k
  extract_lets-underBinder enough k2
  have hk2: ∀y q,y.c=x.c→q.1+HB n<1000000000→k2 ((),f.mk' z y q)=some ((),f.mk' z (endP f rec p d y).1 (apps q (endP f rec p d y).2)):=by
   intro y q hy hq
   unfold k2
   simp only[Dg hn,nT]
   by_cases h1:2*f.T<xV f.N y.r p d
   ·have hm:lU p:=by
     apply axp
     intro hm
     rw[xV,awU hm]at h1; omega
    by_cases h2:nS p y.v.1
    ·have e:endP f rec p d y=rec p d y:=ax1 ⟨h1,h2⟩
     have hrun:=hr.run z p d y q hm (by rw[hy]; exact hw) (by rw[hy]; exact ha) hq
     simp(disch:=omega) only[WW,CC,h2,e,hrun]
    ·have e:endP f rec p d y=(y,[]):=awU fun h=>h2 h.2
     simp(disch:=omega) only[WW,CC,h2,e,dY]
   ·have e:endP f rec p d y=(y,[]):=awU fun h=>h1 h.1
    simp(disch:=omega) only[WW,CC,e,dY]
  have hput:=oL hn x.r (f.I:Int) (by have:=hf.I; omega) p d
  have hrl:=XV hf p d x
  clear_value k2
  subst hb
  show(bif decide (u6 f p d x)then _ else _)=_
  have hfin: ∀y l,pQ f p d x=(y,l)→k2 ((),f.mk' z y (apps o l))=some ((),f.mk' z (jP f rec p d x).1 (apps o (jP f rec p d x).2)):=by
   intro y l e
   rw[e]at hrl
   rw[hk2 y (apps o l) hrl.1 (by rw[gq]; have:=hrl.2.2.2; simp only at this; omega),iZ]
   simp only[jP,gu,e]
  by_cases h1:u6 f p d x
  ·by_cases h2:okV f.N x.r f.I p
   ·have hs:=Er (z:=z) hf { x with r:=oK x.r f.I p d } o (by omega) 6 p d
    simp only[Fr.mk',Fr.so,Fr.rc]at hs
    rw[ax1 h2]at hput
    simp(disch:=omega) only[WW,h1,h2,hput,hs]
    exact hfin { x with r:=oK x.r f.I p d } (Ep f 6 p d) (ax1 ⟨h1,h2⟩)
   ·rw[awU h2]at hput
    simp(disch:=omega) only[WW,h1,h2,hput]
    exact hfin x [] (awU fun h=>h2 h.2)
  ·simp(disch:=omega) only[WW,h1]
   exact hfin x [] (awU fun h=>h1 h.1)
 clear_value k
 simp only[Dg hn]
 by_cases h1:2*f.T<xV f.N x.e p d
 ·simp(disch:=omega) only[WW,CC]
  exact hk true (by rw[dM (p:=u6 f p d x) (.inl h1)])
 ·by_cases h2:f.T<xV f.N x.r p d
  ·simp(disch:=omega) only[WW,CC]
   exact hk true (by rw[dM (p:=u6 f p d x) (.inr h2)])
  ·simp(disch:=omega) only[WW,CC]
   exact hk false (by rw[bG (p:=u6 f p d x) (fun h=>h.elim h1 h2)])
theorem Vm(hf:f.Ok)(hr:Rec f n rec_ rec)(p:PR)(hp:lU p.1.1)(x:Rc)(o:iF)(hw:WFc x.c)(ha:act x.c<n)(ho:o.1+(14+HB n)<1000000000):
  fU rec_ p (f.mk' z x o)=some ((),f.mk' z (pR f rec p x).1 (apps o (pR f rec p x).2)):=by
 rw[qp]; unfold iL
 have hn:=hf.n7
 obtain⟨p1,p2,p3,p4⟩:=id hp
 have e2:IntKind.i64.wrap (p.1.1.2-1)=p.1.1.2-1:=wrap_i64 (by omega)
 rw[e2,NM,K7 (by omega),K7 (by omega),bB,bB]
 extract_lets-underBinder k t
 have hl:=Vl x p
 have hk:k ((),(f.rc { x with c:=takeC x p },()))=some ((),f.mk' z (pR f rec p x).1 (apps o (pR f rec p x).2)):=by
  unfold k
  have hput:=oL hn x.e (f.I:Int) (by have:=hf.I; omega) p.1.1 p.1.2.1
  by_cases h2:okV f.N x.e f.I p.1.1
  ·have hs:=Er (z:=z) hf { x with c:=takeC x p,e:=oK x.e f.I p.1.1 p.1.2.1 } o (by omega) 5 p.1.1 p.1.2.1
   have hlk:=Lm (z:=z) hf hr p.1.1 p.1.2.1 { x with c:=takeC x p,e:=oK x.e f.I p.1.1 p.1.2.1 } (apps o (Ep f 5 p.1.1 p.1.2.1)) (hl.wf hw) (axb hl.act ha) (by rw[gq]; have:=NR hf 5 p.1.1 p.1.2.1; omega)
   have e:pR f rec p x=gu ({ x with c:=takeC x p,e:=oK x.e f.I p.1.1 p.1.2.1 },Ep f 5 p.1.1 p.1.2.1) (jP f rec p.1.1 p.1.2.1):=ax1 h2
   simp only[Fr.mk',Fr.so,Fr.rc]at hs hlk
   rw[ax1 h2]at hput
   simp(disch:=omega) only[WW,h2,hput,hs,hlk,e,gu,iZ]
  ·have e:pR f rec p x=({ x with c:=takeC x p },[]):=awU h2
   rw[awU h2]at hput
   simp(disch:=omega) only[WW,h2,hput,e,dY]
 clear_value k
 show(bif t then _ else _)=_
 by_cases h:((x.c (p.1.1.2-1).toNat).1 (p.1.1.1%2).toNat).1.1.1<p.1.1.1
 ·have ht:t=true:=ax6 h
  rw[ht]
  have ec:takeC x p=upd x.c (p.1.1.2-1).toNat ((upd (x.c (p.1.1.2-1).toNat).1 (p.1.1.1%2).toNat p),(x.c (p.1.1.2-1).toNat).2):=ax1 h
  simp only[ec]at hk
  exact hk
 ·have ht:t=false:=ax9 h
  rw[ht]
  have ec:takeC x p=x.c:=awU h
  rw[ec]at hk
  exact hk
end
open Go Go.Den
section
variable {f:Fr} {z:Fx} {n:Nat} {rec_:aF→ByteArray→SR→Option (Unit×SR)} {rec:FD}
@[reducible] def Fr.lp (f:Fr) (z:Fx) (p:aF) (x:Rc) (o:iF):SO×(RC×(VT×(VT×(SP×(Unit×(Unit×(aF×Unit))))))):=(f.so z o,(f.rc x,(((f.N:Int),x.e),(((f.N:Int),x.r),(z.sp,((),((),(p,()))))))))
theorem a3B(hf:f.Ok)(p:aF)(x:Rc)(o:iF)(ho:o.1+3<1000000000) {i:Nat}(hi:i<3):
  aR rec_ (aQ 3 (i:Int) (f.lp z p x o))=some (.inl (aQ 3 ((i+1:Nat):Int) (f.lp z p (Pk f i x).1 (apps o (Pk f i x).2)))):=by
 have hn:=hf.n7
 have ei:IntKind.i64.wrap ((i:Int)+1)=((i+1:Nat):Int):=wrap_i64 (by omega)
 have eN:IntKind.i64.wrap ((f.N:Int)+((i+1:Nat):Int))=((f.N+(i+1):Nat):Int):=wrap_i64 (by omega)
 have b0:=a4C (f:=f) i x
 have b1:=ZB (f:=f) i (FE f i x).1
 have b2:=a4D (f:=f) i (FH f i (FE f i x).1).1
 dsimp-zeta only[aR,aQ,Fr.lp,Fr.so,Fr.rc]
 extract_lets-underBinder t t1 k1 k
 rw[show decide (t1<t)=true from ax6 (show(i:Int)<3 by omega),show inb t1 4=true from K7 (by show(0:Int)≤i∧(i:Int)<((4:Nat):Int); omega),bB,bB]
 have hk1: ∀y q,q.1+2<1000000000→k1 ((),f.mk' z y q)=some (.inl (aQ 3 ((i+1:Nat):Int) (f.lp z p (I5 f i (FH f i y).1).1 (apps (apps q (FH f i y).2) (I5 f i (FH f i y).1).2)))):=by
  intro y q hq
  unfold k1
  extract_lets-underBinder k3 k2
  have hk3: ∀y q,q.1+1<1000000000→k3 ((),f.mk' z y q)=some (.inl (aQ 3 ((i+1:Nat):Int) (f.lp z p (I5 f i y).1 (apps q (I5 f i y).2)))):=by
   intro y q hq
   unfold k3
   have hs:=rC (z:=z) hf y q (by omega) ((f.N+(i+1):Nat):Int) 7 (y.c i).2.1.2 f.key (y.c i).2.1.1.1 ByteArray.empty 0 (fun _=>.nil) 0 zNN
   simp only[Fr.mk',Fr.so,Fr.rc]at hs
   by_cases h1:0<(y.c i).2.1.2
   ·by_cases h2:nS (y.c i).2.1.1.1 y.v.1
    ·have e:I5 f i y=(y,[]):=awU fun h=>h.2 h2
     simp(disch:=omega) only[t,t1,ei,eN,WW,h1,h2,e,nT,dY,aQ]
    ·have e:I5 f i y=_:=ax1 (show a1r (y.c i).2.1 y.v.1 from⟨h1,h2⟩)
     simp(disch:=omega) only[t,t1,ei,eN,WW,h1,h2,e,nT,hs,aQ,←HZ,I4]
   ·have e:I5 f i y=(y,[]):=awU fun h=>h1 h.1
    simp(disch:=omega) only[t,t1,ei,eN,WW,h1,e,dY,aQ]
  have hl:=ZB (f:=f) i y
  have hs:=rC (z:=z) hf y q (by omega) ((f.N+(i+1):Nat):Int) 7 ((y.c i).1 1).2 f.key ((y.c i).1 1).1.1 ByteArray.empty 0 (fun _=>.nil) 0 zNN
  simp only[Fr.mk',Fr.so,Fr.rc]at hs
  clear_value k3
  unfold k2
  by_cases h1:0<((y.c i).1 1).2
  ·by_cases h2:nS ((y.c i).1 1).1.1 y.v.1
   ·have e:FH f i y=(y,[]):=awU fun h=>h.2 h2
    simp(disch:=omega) only[t,t1,ei,eN,WW,h1,h2,e,nT,dY]
    exact hk3 y q (by omega)
   ·have e:FH f i y=_:=ax1 (show a1r ((y.c i).1 1) y.v.1 from⟨h1,h2⟩)
    simp(disch:=omega) only[t,t1,ei,eN,WW,h1,h2,e,nT,hs]
    exact hk3 { y with c:=upd y.c i ((upd (y.c i).1 1 (((y.c i).1 1).1,0)),(y.c i).2) } (apps q [I4 f i ((y.c i).1 1)]) (by rw[gq]; simp; omega)
  ·have e:FH f i y=(y,[]):=awU fun h=>h1 h.1
   simp(disch:=omega) only[t,t1,ei,eN,WW,h1,e,dY]
   exact hk3 y q (by omega)
 have hs:=rC (z:=z) hf x o (by omega) ((f.N+(i+1):Nat):Int) 7 ((x.c i).1 0).2 f.key ((x.c i).1 0).1.1 ByteArray.empty 0 (fun _=>.nil) 0 zNN
 simp only[Fr.mk',Fr.so,Fr.rc]at hs
 clear_value k1
 unfold k
 have hfin: ∀y l,FE f i x=(y,l)→k1 ((),f.mk' z y (apps o l))=some (.inl (aQ 3 ((i+1:Nat):Int) (f.lp z p (Pk f i x).1 (apps o (Pk f i x).2)))):=by
  intro y l e
  rw[e]at b0
  rw[hk1 y (apps o l) (by rw[gq]; have:=b0.2; simp only at this; omega),iZ,iZ]
  simp only[Pk,gu,e,axL]
 show(bif decide (((x.c i).1 0).2>0)then _ else _)=_
 by_cases h1:0<((x.c i).1 0).2
 ·by_cases h2:nS ((x.c i).1 0).1.1 x.v.1
  ·have e:FE f i x=(x,[]):=awU fun h=>h.2 h2
   simp(disch:=omega) only[t,t1,ei,eN,WW,h1,h2,nT]
   exact hfin x [] e
  ·have e:FE f i x=_:=ax1 (show a1r ((x.c i).1 0) x.v.1 from⟨h1,h2⟩)
   simp(disch:=omega) only[t,t1,ei,eN,WW,h1,h2,nT]
   simp only[hs]
   exact hfin _ _ e
 ·have e:FE f i x=(x,[]):=awU fun h=>h1 h.1
  simp(disch:=omega) only[t,t1,ei,eN,WW,h1]
  exact hfin x [] e
theorem a1t(hf:f.Ok)(hr:Rec f n rec_ rec)(p:aF)(x:Rc)(o:iF)(hw:WFc x.c)(ha:act x.c≤n)(ho:o.1+(14+HB n)<1000000000) {i:Nat}(hi:i<3):
  aL rec_ (bW 3 (i:Int) (f.lp z p x o))=some (.inl (bW 3 ((i+1:Nat):Int) (f.lp z p (vO f rec i x).1 (apps o (vO f rec i x).2)))):=by
 have ei:IntKind.i64.wrap ((i:Int)+1)=((i+1:Nat):Int):=wrap_i64 (by omega)
 dsimp-zeta only[aL,bW,Fr.lp,Fr.so,Fr.rc]
 extract_lets-underBinder t t1 k
 rw[show decide (t1<t)=true from ax6 (show(i:Int)<3 by omega),show inb t1 4=true from K7 (by show(0:Int)≤i∧(i:Int)<((4:Nat):Int); omega),bB,bB]
 unfold k
 by_cases h1:0<(x.c i).2.1.2
 ·by_cases h2:NP (x.c i).2.1.1.1 x.v.1
  ·have e:vO f rec i x=pR f rec (x.c i).2.1 { x with c:=Vj x.c i } :=ax1 ⟨h1,h2⟩
   have hc:=ab9 hi h1
   have ht:=Vm (z:=z) hf hr (x.c i).2.1 (hw i hi h1) { x with c:=Vj x.c i } o ((a9U x.c i).wf hw) (by simp only; omega) ho
   simp only[Fr.mk',Fr.so,Fr.rc,Vj]at ht
   simp(disch:=omega) only[t,t1,ei,WW,h1,h2,e,Pj,ht,Vj]
  ·have e:vO f rec i x=(x,[]):=awU fun h=>h2 h.2
   simp(disch:=omega) only[t,t1,ei,WW,h1,h2,e,Pj,dY]
 ·have e:vO f rec i x=(x,[]):=awU fun h=>h1 h.1
  simp(disch:=omega) only[t,t1,ei,WW,h1,e,dY]
theorem QS(v:VA)(p:aF)(d:ByteArray):fG v p d=some (Ab v p d):=by
 rw[xk]; unfold rz Ab hit
 cases eqF (.pair (.int .i64) (.int .i64)) v.1 p<;>rfl
theorem a1u(hf:f.Ok)(hr:Rec f n rec_ rec)(p:aF)(d:ByteArray)(x:Rc)(o:iF)(hp:lU p)(hw:WFc x.c)(ha:act x.c<n+1)(ho:o.1+HB (n+1)<1000000000):
  fI rec_ p d (f.mk' z x o)=some ((),f.mk' z (vQ f rec p d x).1 (apps o (vQ f rec p d x).2)):=by
 obtain⟨p1,p2,p3,p4⟩:=id hp
 unfold fI
 have e2:IntKind.i64.wrap (p.2-1)=p.2-1:=wrap_i64 (by omega)
 rw[e2,K7 (by omega),bB]
 extract_lets-underBinder k t
 have fin: ∀v,v=Bj (x.c (p.2-1).toNat) p d→
   (match dw (f.so z o,(f.rc { x with v:=v },(((f.N:Int),x.e),(((f.N:Int),x.r),(z.sp,())))))with
   |none=>none
   |some y=>match aB (aR rec_) (((),((),(y.2.1.2.2.2.2.1,(0,())))),(y.2.1,(y.2.2.1,(y.2.2.2.1,(y.2.2.2.2.1,(y.2.2.2.2.2.1,((),((),(p,())))))))))with
    |none=>none
    |some y1=>match aB (aL rec_) (((),((),(y1.2.1.2.2.2.2.1,(0,())))),y1.2)with
     |none=>none
     |some y2=>some ((),(y2.2.1,(y2.2.2.1,(y2.2.2.2.1,(y2.2.2.2.2.1,(y2.2.2.2.2.2.1,())))))))=some ((),f.mk' z (vQ f rec p d x).1 (apps o (vQ f rec p d x).2)):=by
  intro v hv
  have hB:HB (n+1)=54+3*HB n:=rfl
  let x1:Rc:= { x with v:=v }
  have hal:(Ru f x1).length≤3:=xA _ 3
  have hak:=NQ (f:=f) x1 3
  have h1:=Vh (z:=z) hf x1 o (by omega)
  obtain⟨s,h2,rfl⟩:=aO (R:=aR rec_) (S:=RcW) (fun i s=>aQ 3 (i:Int) (f.lp z p s.1 (apps o s.2)))
   (fun s=>((),f.lp z p s.1 (apps o s.2))) (fun i s=>s=gu (x1,Ru f x1) fun y=>Bh f y i) 3
   (fun i hi s hs=>by
    have hl:=NQ (f:=f) x1 i
    refine⟨_,?_,rfl⟩
    rw[a3B hf p s.1 (apps o s.2) (by rw[gq,hs,vR]; simp only; omega) hi,hs]
    simp only[gu,Bh,iZ,axL])
   (fun s hs=>by simp(disch:=omega) only[aR,aQ,WW,CC]) (x1,Ru f x1)
   (by simp only[gu,Bh,aye])
  generalize hy:(gu (x1,Ru f x1) fun y=>Bh f y 3)=y at*
  have hyl:y.2.length≤12:=by rw[←hy,vR]; simp only; omega
  have hyc:Lw x.c y.1.c:=by rw[←hy]; exact hak.1
  obtain⟨s,h3,rfl⟩:=aO (R:=aL rec_) (S:=RcW) (fun i s=>bW 3 (i:Int) (f.lp z p s.1 (apps o s.2)))
   (fun s=>((),f.lp z p s.1 (apps o s.2))) (fun i s=>s=gu y fun z=>vP f rec z i) 3
   (fun i hi s hs=>by
    have hl:=Pn hf hr y.1 i
    have hc:Lw x.c s.1.c:=by rw[hs]; exact hyc.trans hl.1
    have hm:i*(14+HB n)≤2*(14+HB n):=axg _ (by omega)
    refine⟨_,?_,rfl⟩
    rw[a1t hf hr p s.1 (apps o s.2) (hc.wf hw) (ayG hc.act (by omega)) (by rw[gq,hs,vR]; omega) hi,hs]
    simp only[gu,vP,iZ,axL])
   (fun s hs=>by simp(disch:=omega) only[aL,bW,WW,CC]) y
   (by simp only[gu,vP,aye])
  have h2':aB (aR rec_) (((),((),((3:Int),(0,())))),f.lp z p x1 (apps o (Ru f x1)))=some ((),f.lp z p y.1 (apps o y.2)):=h2
  have h3':aB (aL rec_) (((),((),((3:Int),(0,())))),f.lp z p y.1 (apps o y.2))=_:=h3
  have e:vQ f rec p d x=gu y fun z=>vP f rec z 3:=by
   rw[←hy]; simp only[vQ,x1,hv]
  simp only[Fr.mk',x1,Fr.so,Fr.rc,Fr.lp]at h1 h2' h3'
  simp only[Fr.so,Fr.rc,h1,h2',h3',e]
 unfold k
 simp only[QS]
 have c0:Bj (x.c (p.2-1).toNat) p d=if Ab ((x.c (p.2-1).toNat).1 0).1 p d then((x.c (p.2-1).toNat).1 0).1 else if Ab ((x.c (p.2-1).toNat).1 1).1 p d then((x.c (p.2-1).toNat).1 1).1 else if Ab (x.c (p.2-1).toNat).2.1.1 p d then(x.c (p.2-1).toNat).2.1.1 else(p,(d,((0,zSN),(0,zNN)))):=rfl
 simp only[Fr.so,Fr.rc]at fin
 cases hc:Ab (x.c (p.2-1).toNat).2.1.1 p d<;>cases hb:Ab ((x.c (p.2-1).toNat).1 1).1 p d<;>cases ha0:Ab ((x.c (p.2-1).toNat).1 0).1 p d<;>
  simp only[ha0,hb,hc,ayj,ayi,axA]at c0<;>
  simp only[t,ha0,hb,hc,bB,bF]<;>exact fin _ c0.symm
theorem Dh(hf:f.Ok): ∀n,Rec f n (aC n) (eH f n)
 |0=>⟨fun _ _ _ _ _ _ _ h=>absurd h (axv _),fun _ _ _=>ax5 _,fun _ _ _=>Lw.refl _⟩
 |n+1=>by
  have ih:=Dh hf n
  refine⟨fun z p d x o hp hw ha ho=>?_,fun p d x=>(XY hf ih p d x).2,fun p d x=>(XY hf ih p d x).1⟩
  rw[nP]
  exact a1u hf ih p d x o hp hw ha ho
end
open Go Go.Den
def oV(a b:ByteArray):Bool:=Op.bytesLess (bl a) (bl b)
theorem a1v: ∀l:List UInt8,Op.bytesLess l l=false
 | []=>rfl
 |a::l=>by
  have: ¬a<a:=UInt8.lt_irrefl a
  simp[Op.bytesLess,a1v l]
theorem a4E: ∀ {a b c:List UInt8},Op.bytesLess a b=true→Op.bytesLess b c=true→Op.bytesLess a c=true
 |_,[],_,h,_=>by cases‹List UInt8› <;>simp[Op.bytesLess]at h
 |_,_::_,[],_,h=>by simp[Op.bytesLess]at h
 | [],_::_,_::_,_,_=>rfl
 |x::a,y::b,z::c,h1,h2=>by
  simp only[Op.bytesLess,ayp,awV,axm,azw]at h1 h2⊢
  rcases h1 with h1|⟨rfl,h1⟩
  ·rcases h2 with h2|⟨rfl,h2⟩
   ·exact .inl (UInt8.lt_trans h1 h2)
   ·exact .inl h1
  ·rcases h2 with h2|⟨rfl,h2⟩
   ·exact .inl h2
   ·exact .inr ⟨rfl,a4E h1 h2⟩
theorem a1w: ∀(a b:List UInt8),(Lib.compareBytes a b<0↔Op.bytesLess a b=true)∧(Lib.compareBytes a b=0↔a=b)
 | [],[]=>by simp[Lib.compareBytes,Op.bytesLess]
 | [],_::_=>by simp[Lib.compareBytes,Op.bytesLess]
 |_::_,[]=>by simp[Lib.compareBytes,Op.bytesLess]
 |x::a,y::b=>by
  obtain⟨h1,h2⟩:=a1w a b
  simp only[Lib.compareBytes,Op.bytesLess,ayp,awV,axm,azw,List.cons.injEq]
  by_cases hxy:x<y
  ·have hne:x≠y:=fun e=>UInt8.lt_irrefl y (e▸hxy)
   simp[hxy,hne]
  ·by_cases hyx:y<x
   ·have hne:x≠y:=fun e=>UInt8.lt_irrefl y (e▸hyx)
    simp[hxy,hyx,hne]
   ·have:x=y:=UInt8.le_antisymm (UInt8.not_lt.1 hyx) (UInt8.not_lt.1 hxy)
    subst this
    simp[hxy,h1,h2]
theorem a9V {a b:List UInt8}(h:Op.bytesLess a b=false)(hne:a≠b):Op.bytesLess b a=true:=by
 induction a generalizing b with
 |nil=>cases b with
  |nil=>exact absurd rfl hne
  |cons y b=>simp[Op.bytesLess]at h
 |cons x a ih=>cases b with
  |nil=>rfl
  |cons y b=>
   simp only[Op.bytesLess,Bool.or_eq_false_iff,Bool.and_eq_false_iff,decide_eq_false_iff_not,beq_eq_false_iff_ne]at h
   simp only[Op.bytesLess,ayp,awV,axm,azw]
   by_cases hyx:y<x
   ·exact .inl hyx
   ·have:x=y:=UInt8.le_antisymm (UInt8.not_lt.1 hyx) (UInt8.not_lt.1 h.1)
    subst this
    rcases h.2 with h|h
    ·exact absurd rfl h
    ·exact .inr ⟨rfl,ih h (fun e=>hne (e▸rfl))⟩
theorem XZ(a:ByteArray):oV a a=false:=a1v _
theorem Vn {a b c:ByteArray}(h1:oV a b=true)(h2:oV b c=true):oV a c=true:=a4E h1 h2
theorem a6b {a b:ByteArray}(h:oV a b=false)(hne:a≠b):oV b a=true:=a9V h (fun e=>hne (Lh e))
theorem u7(a b:ByteArray):sEq a b=true↔a=b:=by
 refine⟨fun h=>?_,fun h=>h▸V8 _⟩
 simp only[sEq,azp,azw]at h
 exact Lh h
theorem Vo(a b:ByteArray): ∃r,iW a b=some r∧(r<0↔oV a b=true)∧(r=0↔a=b):=by
 obtain⟨h1,h2⟩:=a1w (bl a) (bl b)
 refine⟨Lib.compareBytes (bl a) (bl b),by rw[uo,pE,Ju]; rfl,h1,h2.trans ⟨Lh,fun e=>e▸rfl⟩⟩
def cnt {α:Type}(p:α→Bool)(f:Nat→α):Nat→Nat
 |0=>0
 |n+1=>cnt p f n+if p (f n)then 1 else 0
theorem ZC {α:Type}(p:α→Bool)(f:Nat→α): ∀n,cnt p f n≤n
 |0=>ax5 _
 |n+1=>by have:=ZC p f n; simp only[cnt]; split<;>omega
theorem IW {α:Type} {p:α→Bool} {f:Nat→α} {k:Nat} : ∀ {n},k≤n→(∀i,i<k→p (f i)=true)→(∀i,k≤i→i<n→p (f i)=false)→cnt p f n=k
 |0,h,_,_=>by simp only[cnt]; omega
 |n+1,h,h1,h2=>by
  simp only[cnt]
  by_cases hk:k≤n
  ·rw[IW (n:=n) hk h1 (fun i a b=>h2 i a (by omega)),h2 n hk (by omega)]; rfl
  ·obtain rfl:k=n+1:=by omega
   rw[IW (n:=n) (k:=n) (ax5 _) (fun i a=>h1 i (by omega)) (fun i a b=>by omega),h1 n (by omega)]; rfl
theorem a4F {α:Type} {p:α→Bool} {f:Nat→α} : ∀ {n},0<cnt p f n↔ ∃i,i<n∧p (f i)=true
 |0=>by simp[cnt]
 |n+1=>by
  simp only[cnt]
  have ih:=a4F (p:=p) (f:=f) (n:=n)
  constructor
  ·intro h
   by_cases hn:p (f n)=true
   ·exact⟨n,by omega,hn⟩
   ·rw[awU hn]at h
    obtain⟨i,h1,h2⟩:=ih.1 (by omega)
    exact⟨i,by omega,h2⟩
  ·rintro ⟨i,h1,h2⟩
   by_cases hi:i=n
   ·subst hi; rw[ax1 h2]; omega
   ·have:=ih.2 ⟨i,by omega,h2⟩; omega
theorem ZE(f:Nat→ByteArray)(i:Nat)(x:ByteArray)(j:Nat):Af f i x j=if j<i then f j else if j=i then x else f (j-1):=by
 unfold Af
 by_cases h1:j<i
 ·have:Nat.blt j i=true:=ax2 h1
  rw[this,ax1 h1]; rfl
 ·have:Nat.blt j i=false:=by
   cases hb:Nat.blt j i with
   |false=>rfl
   |true=>exact absurd (ax7 hb) h1
  rw[this,awU h1]
  by_cases h2:j=i
  ·have:Nat.beq j i=true:=by rw[h2]; exact Nat.beq_refl i
   rw[this,ax1 h2]; rfl
  ·have:Nat.beq j i=false:=by
    cases hb:Nat.beq j i with
    |false=>rfl
    |true=>exact absurd (axq hb) h2
   rw[this,awU h2]; rfl
def qI(n:Nat)(f:Nat→ByteArray):Prop:= ∀i j,i<j→j<n→oV (f i) (f j)=true
def before(n:Nat)(f:Nat→ByteArray)(x:ByteArray):Nat:=cnt (fun y=>oV y x) f n
def there(n:Nat)(f:Nat→ByteArray)(x:ByteArray):Bool:=decide (0<cnt (fun y=>sEq y x) f n)
theorem Po {n:Nat} {f:Nat→ByteArray} {x:ByteArray} :there n f x=true↔ ∃i,i<n∧f i=x:=by
 simp only[there,axm,a4F,u7]
theorem a3C {X Y:Type} {R:X→Option (X⊕Y)} {P:X→Prop} {Q:Y→Prop}(m:X→Nat)
  (h: ∀x,P x→(∃x',R x=some (.inl x')∧P x'∧m x'<m x)∨ ∃y,R x=some (.inr y)∧Q y): ∀x,P x→ ∃y,aB R x=some y∧Q y:=by
 have key: ∀n x,m x≤n→P x→ ∃y,aB R x=some y∧Q y:=by
  intro n
  induction n with
  |zero=>
   intro x hm hp
   rcases h x hp with⟨x',_,_,h3⟩|⟨y,h1,h2⟩
   ·omega
   ·exact⟨y,dI h1,h2⟩
  |succ n ih=>
   intro x hm hp
   rcases h x hp with⟨x',h1,h2,h3⟩|⟨y,h1,h2⟩
   ·rw[mZ h1]; exact ih x' (by omega) h2
   ·exact⟨y,dI h1,h2⟩
 exact fun x hp=>key _ x (ax5 _) hp
theorem ZF {n:Nat} {f:Nat→ByteArray}(hs:qI n f)(hn:n<1000000)(x:ByteArray):
  bn n f x=some (((before n f x:Nat):Int),there n f x):=by
 obtain⟨y,h1,i,rfl,h2,h3,h4⟩:=a3C (R:=aI)
  (P:=fun s=> ∃i j:Nat,s=aH n f x (n:Int) (i:Int) (j:Int)∧i≤j∧j≤n∧(∀t,t<i→oV (f t) x=true)∧ ∀t,j≤t→t<n→oV (f t) x=false)
  (Q:=fun y=> ∃i:Nat,y=aT n f x (n:Int) (i:Int)∧i≤n∧(∀t,t<i→oV (f t) x=true)∧ ∀t,i≤t→t<n→oV (f t) x=false)
  (fun s=>(s.1.2.2.2.2.2.1-s.1.2.2.2.2.1).toNat) (by
   rintro s ⟨i,j,rfl,h1,h2,h3,h4⟩
   by_cases hij:i<j
   ·obtain⟨r,r1,r2,r3⟩:=Vo (f ((i+j)/2)) x
    have hw:bH .u64 ((i+j:Nat):Int) 1=(((i+j)/2:Nat):Int):=OQ (s:=1) (by omega)
    refine .inl ?_
    by_cases hr:r<0
    ·refine⟨aH n f x (n:Int) (((i+j)/2+1:Nat):Int) (j:Int),?_,⟨_,_,rfl,by omega,h2,?_,h4⟩,?_⟩
     ·simp(disch:=omega) only[aI,aH,hw,WW,CC,r1]
     ·intro t ht
      by_cases htm:t=(i+j)/2
      ·subst htm; exact r2.1 hr
      ·exact Vn (hs t ((i+j)/2) (by omega) (by omega)) (r2.1 hr)
     ·show(((j:Int)-(((i+j)/2+1:Nat):Int)).toNat)<((j:Int)-(i:Int)).toNat
      omega
    ·refine⟨aH n f x (n:Int) (i:Int) (((i+j)/2:Nat):Int),?_,⟨_,_,rfl,by omega,by omega,h3,?_⟩,?_⟩
     ·simp(disch:=omega) only[aI,aH,hw,WW,CC,r1]
     ·intro t ht htn
      have hm:oV (f ((i+j)/2)) x=false:=by
       cases hb:oV (f ((i+j)/2)) x with
       |false=>rfl
       |true=>exact absurd (r2.2 hb) hr
      by_cases htm:t=(i+j)/2
      ·subst htm; exact hm
      ·cases hb:oV (f t) x with
       |false=>rfl
       |true=>rw[Vn (hs ((i+j)/2) t (by omega) htn) hb]at hm; exact absurd hm (by decide)
     ·show(((((i+j)/2:Nat):Int)-(i:Int)).toNat)<((j:Int)-(i:Int)).toNat
      omega
   ·obtain rfl:i=j:=by omega
    refine .inr ⟨aT n f x (n:Int) (i:Int),?_,i,rfl,h2,h3,h4⟩
    simp(disch:=omega) only[aI,aH,WW])
  (aH n f x (n:Int) ((0:Nat):Int) (n:Int)) ⟨0,n,rfl,ay5 _,ax5 _,fun t ht=>absurd ht (axv _),fun t a b=>by omega⟩
 have hb:before n f x=i:=IW h2 h3 h4
 have h1':aB aI (((n,f),(x,((),((n:Int),(0,((n:Int),())))))),())=some (aT n f x (n:Int) (i:Int)):=h1
 rw[dL,bE,h1',hb]
 by_cases hin:i<n
 ·obtain⟨r,r1,r2,r3⟩:=Vo (f i) x
  simp(disch:=omega) only[aT,WW,r1]
  congr 2
  rw[ayI,Po,azw,r3]
  refine⟨fun h=>⟨i,hin,h⟩,?_⟩
  rintro ⟨j,hj,e⟩
  by_cases hji:j=i
  ·rw[←hji]; exact e
  ·by_cases hlt:j<i
   ·have:=h3 j hlt
    rw[e,XZ]at this; exact absurd this (by decide)
   ·have:=hs i j (by omega) hj
    rw[e,h4 i (ax5 _) hin]at this; exact absurd this (by decide)
 ·simp(disch:=omega) only[aT,WW]
  congr 2
  symm
  cases hb:there n f x with
  |false=>rfl
  |true=>
   obtain⟨j,hj,e⟩:=Po.1 hb
   have:=h3 j (by omega)
   rw[e,XZ]at this; exact absurd this (by decide)
abbrev mf(l:List (Int×Int))(x:Int):Int:=Option.getD (pW (.int .i64) (.int .i64) l x) (0:Int)
theorem a1x(s:ByteArray):bM s=some (decide (1≤s.size∧s.size≤8)):=by
 rw[QD,OM]
 by_cases h:1≤s.size
 ·rw[dM (by omega),bB]
  congr 1
  rw[ay6]; omega
 ·rw[bG (by omega),bF,bG (by omega)]
theorem a1y {n:Nat} {f:Nat→ByteArray}(hs:qI n f)(hn:n<1000000)(x:ByteArray)(a b:Int)(u:List (Int×Int)):
  lu x a b n f u=some (((((before n f x:Nat):Int),(there n f x,())),((a,(b,((n,f),u))),()))):=by
 have e:(fun j=>f (0+j))=f:=funext fun j=>by rw[axc]
 rw[uq,pF,e,ZF hs hn]
abbrev R22:Type:=(Int×(Int×((Nat×(Nat→ByteArray))×(Nat×(Nat→Int)))))
theorem a6c {n:Nat} {f:Nat→ByteArray}(hs:qI n f)(x:ByteArray): ∀i,i<n→(i<before n f x↔oV (f i) x=true):=by
 intro i hi
 have key: ∃k,k≤n∧(∀t,t<k→oV (f t) x=true)∧(∀t,k≤t→t<n→oV (f t) x=false):=by
  clear hi i
  induction n with
  |zero=>exact⟨0,ax5 _,fun t h=>absurd h (axv _),fun t a b=>absurd b (axv _)⟩
  |succ n ih=>
   obtain⟨k,h1,h2,h3⟩:=ih fun i j a b=>hs i j a (by omega)
   cases hb:oV (f n) x with
   |true=>
    refine⟨n+1,ax5 _,fun t ht=>?_,fun t a b=>by omega⟩
    by_cases htn:t=n
    ·rw[htn]; exact hb
    ·exact Vn (hs t n (by omega) (by omega)) hb
   |false=>
    refine⟨k,by omega,h2,fun t a b=>?_⟩
    by_cases htn:t=n
    ·rw[htn]; exact hb
    ·exact h3 t a (by omega)
 obtain⟨k,h1,h2,h3⟩:=key
 have hb:before n f x=k:=IW h1 h2 h3
 rw[hb]
 refine⟨fun h=>h2 i h,fun h=>?_⟩
 apply axp
 intro hc
 rw[h3 i (by omega) hi]at h
 exact absurd h (by decide)
theorem a3D {n:Nat} {f:Nat→ByteArray}(hs:qI n f) {x:ByteArray}(hx:there n f x=false):qI (n+1) (Af f (before n f x) x):=by
 have hle:before n f x≤n:=ZC _ _ _
 have hlt:=a6c hs x
 have hne: ∀i,i<n→f i≠x:=fun i hi e=>by
  rw[Po.2 ⟨i,hi,e⟩]at hx; exact absurd hx (by decide)
 have hgt: ∀i,i<n→before n f x≤i→oV x (f i)=true:=fun i hi h=>by
  cases hb:oV (f i) x with
  |false=>exact a6b hb (hne i hi)
  |true=>have:=(hlt i hi).2 hb; omega
 intro i j hij hj
 rw[ZE,ZE]
 generalize before n f x=k at*
 by_cases h1:j<k
 ·rw[ax1 h1,ax1 (by omega)]; exact hs i j hij (by omega)
 ·rw[awU h1]
  by_cases h2:j=k
  ·subst h2
   rw[ax1 rfl,ax1 hij]
   exact(hlt i (by omega)).1 hij
  ·rw[awU h2]
   by_cases h3:i<k
   ·rw[ax1 h3]
    exact hs i (j-1) (by omega) (by omega)
   ·rw[awU h3]
    by_cases h4:i=k
    ·rw[ax1 h4]; exact hgt (j-1) (by omega) (by omega)
    ·rw[awU h4]; exact hs (i-1) (j-1) (by omega) (by omega)
structure Agree(a b:Int)(n:Nat)(f:Nat→ByteArray)(u:List (Int×Int))(s:R22):Prop where
 e1:s.1=a
 e2:s.2.1=b
 sz:1≤a∧a≤7∧1≤b∧b≤4
 len:s.2.2.1.1=n
 len2:s.2.2.2.1=n
 sorted:qI n f
 same: ∀p:ByteArray→Bool,cnt p s.2.2.1.2 n=cnt p f n
 uses: ∀e,mf u e=((cnt (fun y=>y==e) s.2.2.2.2 n:Nat):Int)
theorem Agree.before {a b:Int} {n:Nat} {f:Nat→ByteArray} {u:List (Int×Int)} {s:R22}(h:Agree a b n f u s)(x:ByteArray):Pl.before n s.2.2.1.2 x=Pl.before n f x:=h.same _
theorem Y0 {n:Nat} {f g:Nat→ByteArray}(hn:n<1000000)(h: ∀i,i<n→f i=g i):wW n f n g=some true:=by
 obtain⟨q,h1,rfl⟩:=aO (R:=oF) (S:=Unit) (fun k _=>Ea n f n g (k:Int))
  (fun _=>GZ) (fun k s=>s=()) n
  (fun k hk _ _=>by
   refine⟨(),?_,rfl⟩
   have e:sEq (f k) (g k)=true:=by rw[h k hk]; exact V8 _
   simp(disch:=omega) only[oF,Ea,WW,CC,e])
  (fun _ _=>by simp(disch:=omega) only[oF,Ea,WW]) () rfl
 have h1':aB oF (((n,f),((n,g),(0,()))),())=some GZ:=h1
 rw[QB,OI,a0S rfl,bF,h1']
def uD(x:ByteArray)(e a b:Int)(n:Nat)(f:Nat→ByteArray)(u:List (Int×Int)):(Int×(Bool×(Int×Unit)))×((Int×(Int×((Nat×(Nat→ByteArray))×(List (Int×Int)))))×Unit):=
 if¬(1≤x.size∧x.size≤8)∨kW a b e=0 then((0,(false,(1,()))),((a,(b,((n,f),u))),()))
 else if there n f x then((((before n f x:Nat):Int),(false,(0,()))),((a,(b,((n,f),u))),()))
 else if mf u e≥kW a b e then((0,(false,(7,()))),((a,(b,((n,f),u))),()))
 else((((before n f x:Nat):Int),(true,(0,()))),((a,(b,((n+1,Af f (before n f x) x),VQ (.int .i64) (.int .i64) u e (IntKind.i64.wrap (mf u e+1))))),()))
theorem a1z {n:Nat} {f:Nat→ByteArray}(hs:qI n f)(hn:n<1000)(x:ByteArray)(e a b:Int)(u:List (Int×Int)):
  lD x e a b n f u=some (uD x e a b n f u):=by
 have hM:=a1y hs (show n<1000000 by omega) x a b u
 have hbl:before n f x≤n:=ZC _ _ _
 have hble: ∀a b:Nat,a≤b→Nat.ble a b=true:=fun a b h=>ax2 h
 rw[uw,pG,a1x,uD]
 by_cases hk:1≤x.size∧x.size≤8
 ·by_cases hz:kW a b e=0
  ·rw[ax1 (.inr hz),dM hk]
   simp only[XH hz,WW]
  ·rw[awU (by intro h; rcases h with h|h; exact h hk; exact hz h),dM hk]
   simp only[iA hz,WW,hM]
   cases ht:there n f x with
   |true=>rfl
   |false=>
    by_cases hge:mf u e≥kW a b e
    ·simp only[dM hge,WW,ax1 hge]; rfl
    ·have hge': ¬(Option.getD (pW (.int .i64) (.int .i64) u e) (0:Int)≥kW a b e):=hge
     simp(disch:=omega) only[bG hge',WW,hble,az4,awU hge,ayi,axA]
 ·rw[ax1 (.inl hk),bG hk]; rfl
theorem ZG {n:Nat} {f:Nat→ByteArray}(hs:qI n f)(x:ByteArray)(e a b:Int)(u:List (Int×Int)):
  qI (uD x e a b n f u).2.1.2.2.1.1 (uD x e a b n f u).2.1.2.2.1.2∧(uD x e a b n f u).2.1.2.2.1.1≤n+1∧(uD x e a b n f u).2.1.1=a∧(uD x e a b n f u).2.1.2.1=b:=by
 unfold uD
 split
 ·exact⟨hs,Nat.le_succ _,rfl,rfl⟩
 ·split
  ·exact⟨hs,Nat.le_succ _,rfl,rfl⟩
  ·next ht=>
   split
   ·exact⟨hs,Nat.le_succ _,rfl,rfl⟩
   ·refine⟨a3D hs ?_,ax5 _,rfl,rfl⟩
    cases h:there n f x with
    |false=>rfl
    |true=>exact absurd h ht
end Go.Pl
