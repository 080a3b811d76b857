/-
 Bytes, and their digests.
-/
import Derived.Test.YtidodcilgldjoaaGreatMA
import Derived.Test.YtidodcilgldjoaaGreatPsha
import Derived.Test.YtidodcilgldjoaaGreatPr05
set_option linter.unusedVariables false
set_option linter.unusedSimpArgs false
namespace Go.Pl
open Go Go.Den
abbrev bl(s:ByteArray):List UInt8:=s.data.toList
theorem fT(s:ByteArray):s.size=(bl s).length:=rfl
theorem xO {s t:ByteArray}(h:bl s=bl t):s=t:=by
 cases s; cases t
 simp only[bl]at h
 rw[Array.ext' h]
theorem zY(s:ByteArray)(a b:Nat):bl (s.extract a b)=((bl s).drop a).take (b-a):=by
 simp only[bl,ByteArray.data_extract,Array.toList_extract,List.extract_eq_take_drop]
theorem M0(s:ByteArray)(n:Nat):bl (s.extract 0 n)=(bl s).take n:=by rw[zY,List.drop_zero,Nat.sub_zero]
theorem Bl(s:ByteArray)(n:Nat):bl (s.extract n s.size)=(bl s).drop n:=by
 rw[zY,List.take_of_length_le]
 rw[List.length_drop,fT]; exact Nat.le_refl _
theorem CY(s:ByteArray):sEq s s=true:=by simp[sEq]
theorem a9m {s t:ByteArray}(h:bl s=bl t):sEq s t=true:=by rw[xO h]; exact CY t
theorem pJ(n:Nat)(f:Nat→Int):bl (bytesOf n f)=(List.range n).map fun i=>UInt8.ofNat (f i).toNat:=rfl
def Nk:List UInt8→Nat
 | []=>0
 |b::l=>b.toNat+256*Nk l
def jK(l:List UInt8):Nat:=Nk l.reverse
theorem Ic(l:List UInt8)(b:UInt8):jK (l++[b])=jK l*256+b.toNat:=by
 simp only[jK,List.reverse_append,List.reverse_cons,List.reverse_nil,List.nil_append,List.singleton_append,Nk]
 omega
theorem a1u: ∀l:List UInt8,Nk l<256^l.length
 | []=>by decide
 |b::l=>by
  have h1:=a1u l
  have h2:=b.toNat_lt
  simp only[Nk,List.length_cons,Nat.pow_succ]
  have:(b.toNat+256*Nk l)<256*(Nk l+1):=by omega
  have h3:256*(Nk l+1)≤256*256^l.length:=Nat.mul_le_mul_left _ h1
  omega
theorem El(l:List UInt8):jK l<256^l.length:=by
 have:=a1u l.reverse
 rw[List.length_reverse]at this; exact this
theorem RB: ∀(l:List UInt8) (i:Nat) (h:i<l.length),Nk l/256^i%256=l[i].toNat
 |b::l,0,_=>by
  have:=b.toNat_lt
  simp only[Nk,Nat.pow_zero,Nat.div_one,List.getElem_cons_zero]; omega
 |b::l,i+1,h=>by
  have:=b.toNat_lt
  have h1:=RB l i (by simpa using h)
  simp only[Nk,List.getElem_cons_succ]
  rw[Nat.pow_succ,Nat.mul_comm (256^i),←Nat.div_div_eq_div_mul,show(b.toNat+256*Nk l)/256=Nk l by omega]
  exact h1
theorem Em(l:List UInt8)(i:Nat)(h:i<l.length):jK l/256^i%256=(l.getD (l.length-1-i) 0).toNat:=by
 have:=RB l.reverse i (by rw[List.length_reverse]; exact h)
 rw[List.getElem_reverse]at this
 rw[jK,this,List.getD_eq_getElem?_getD,List.getElem?_eq_getElem (by omega)]; rfl
theorem Ie {l:List UInt8} {k:Nat}(h:k<l.length):l.take (k+1)=l.take k++[l.getD k 0]:=by
 rw[List.take_add_one,List.getElem?_eq_getElem h,List.getD_eq_getElem?_getD,List.getElem?_eq_getElem h]; rfl
end Go.Pl
namespace Go.Pl
open Go Go.Den
theorem YT {a:Nat→Int} {N:Nat}(ha:IsN a N)(k:Nat)(hk:k<4611686018427387904): ∃b,QN a (k:Int)=some b∧IsN b (N*2^k%2^256):=by
 obtain⟨f,f1,f2⟩:=wW ha
 have hm:(if(256:Int)<(k:Int)then 256 else(k:Int))=((min k 256:Nat):Int):=by split<;>omega
 obtain⟨g,g1,g2⟩:=aR (R:=kV) (fun t (g:Nat→Bool)=>zD (k:Int) (t:Int) (fun _=>0) f g) (fun g=>KV (fun _=>0) g)
  (fun t g=> ∀i,i<t→g i=(decide (k≤i)&&N.testBit (i-k))) 256
  (fun t ht g hg=>by
   have push: ∀v:Bool,v=(decide (k≤t)&&N.testBit (t-k))→ ∀i,i<t+1→upd g t v i=(decide (k≤i)&&N.testBit (i-k)):=by
    intro v hv i hi
    by_cases hit:i=t
    ·subst hit; simp only[upd,if_true]; exact hv
    ·simp only[upd,if_neg hit]; exact hg i (by omega)
   by_cases h0:0<k
   ·by_cases hkt:min k 256≤t
    ·have e1:IntKind.i64.wrap ((t:Int)-((min k 256:Nat):Int))=((t-k:Nat):Int):=by rw[wrap_i64 (by omega)]; omega
     refine⟨upd g t (f (t-k)),?_,push _ (by rw[f2 _ (by omega),decide_eq_true (by omega:k≤t),Bool.true_and])⟩
     simp(disch:=omega) only[kV,zD,hm,WW,Jk,e1]
    ·have e1:IntKind.i64.wrap ((t:Int)-((min k 256:Nat):Int))=(t:Int)-((min k 256:Nat):Int):=wrap_i64 (by omega)
     refine⟨upd g t false,?_,push _ (by rw[decide_eq_false (by omega: ¬k≤t),Bool.false_and])⟩
     simp(disch:=omega) only[kV,zD,hm,WW,Jk,e1]
   ·refine⟨upd g t (f t),?_,push _ (by rw[f2 _ ht,decide_eq_true (by omega:k≤t),Bool.true_and,show t-k=t by omega])⟩
    simp(disch:=omega) only[kV,zD,hm,WW,Jk])
  (fun g hg=>by simp(disch:=omega) only[kV,zD,WW]) (fun _=>false) (fun i hi=>by omega)
 obtain⟨b,b1,b2⟩:=Ef g
 refine⟨b,?_,b2.of_eq ?_⟩
 ·have g1':aj kV (((k:Int),((),((),((),(0,()))))),((fun _=>0),(f,((fun _=>false),()))))=some (KV (fun _=>0) g):=g1
  rw[U7,Py,f1]
  simp only[g1',b1]
 ·apply zS (Nat.mod_lt _ (Nat.pow_pos (by decide)))
  intro j hj
  rw[g2 j hj,Nat.testBit_mod_two_pow,decide_eq_true hj,Bool.true_and,←Nat.shiftLeft_eq,Nat.testBit_shiftLeft]
end Go.Pl
set_option maxRecDepth 4000
namespace Go.Pl
open Go Go.Den
theorem sH(n:Nat):IntKind.u32.wrap (n:Int)=((n%4294967296:Nat):Int):=by rw[wrap_u32']; rfl
theorem RD(n:Nat):IntKind.u8.wrap (n:Int)=((n%256:Nat):Int):=by rw[wrap_u8']; rfl
theorem nV(a:Nat):(BitVec.ofInt 32 (a:Int)).toNat=a%4294967296:=by simp[BitVec.toNat_ofInt]
theorem aq4 {a b:Nat}(ha:a<4294967296)(hb:b<4294967296):aA .and .u32 (a:Int) (b:Int)=((a&&& b:Nat):Int):=by
 have:aA .and .u32 (a:Int) (b:Int)=IntKind.u32.wrap ((BitVec.ofInt 32 a&&& BitVec.ofInt 32 b).toNat:Int):=rfl
 rw[this,BitVec.toNat_and,nV,nV,Nat.mod_eq_of_lt ha,Nat.mod_eq_of_lt hb,sH,Nat.mod_eq_of_lt]
 exact Nat.lt_of_le_of_lt Nat.and_le_left ha
theorem orW {a b:Nat}(ha:a<4294967296)(hb:b<4294967296):aA .or .u32 (a:Int) (b:Int)=((a||| b:Nat):Int):=by
 have:aA .or .u32 (a:Int) (b:Int)=IntKind.u32.wrap ((BitVec.ofInt 32 a||| BitVec.ofInt 32 b).toNat:Int):=rfl
 rw[this,BitVec.toNat_or,nV,nV,Nat.mod_eq_of_lt ha,Nat.mod_eq_of_lt hb,sH,Nat.mod_eq_of_lt]
 exact Nat.or_lt_two_pow (n:=32) ha hb
theorem anv {a b:Nat}(ha:a<4294967296)(hb:b<4294967296):aA .xor .u32 (a:Int) (b:Int)=((a^^^ b:Nat):Int):=by
 have:aA .xor .u32 (a:Int) (b:Int)=IntKind.u32.wrap ((BitVec.ofInt 32 a^^^ BitVec.ofInt 32 b).toNat:Int):=rfl
 rw[this,BitVec.toNat_xor,nV,nV,Nat.mod_eq_of_lt ha,Nat.mod_eq_of_lt hb,sH,Nat.mod_eq_of_lt]
 exact Nat.xor_lt_two_pow (n:=32) ha hb
theorem ah9 {a b:Nat}(ha:a<9223372036854775808)(hb:b<9223372036854775808):aA .xor .i64 (a:Int) (b:Int)=((a^^^ b:Nat):Int):=by
 have:aA .xor .i64 (a:Int) (b:Int)=IntKind.i64.wrap ((BitVec.ofInt 64 a^^^ BitVec.ofInt 64 b).toNat:Int):=rfl
 have hlt:a^^^ b<9223372036854775808:=Nat.xor_lt_two_pow (n:=63) ha hb
 rw[this,BitVec.toNat_xor,fu,fu,Nat.mod_eq_of_lt (by omega),Nat.mod_eq_of_lt (by omega),wrap_i64]
 omega
theorem anw {a s:Nat}(h:a<4294967296):bX .u32 (a:Int) (s:Int)=((a/2^s:Nat):Int):=Rn (k:=.u32) h
theorem aaq {a s:Nat}(hs:s≤32):iK .u32 (a:Int) (s:Int)=((a*2^s%4294967296:Nat):Int):=by
 unfold iK
 rw[Int.toNat_natCast,show((a:Int)*2^min s IntKind.u32.bits)=((a*2^min s 32:Nat):Int)by simp[IntKind.bits],sH,Nat.min_eq_left hs]
theorem YU {a s:Nat}(hs:s<63)(h:a*2^s<9223372036854775808):iK .i64 (a:Int) (s:Int)=((a*2^s:Nat):Int):=by
 unfold iK
 rw[Int.toNat_natCast,show min s IntKind.i64.bits=s from Nat.min_eq_left (by show s≤64; omega),show((a:Int)*2^s)=((a*2^s:Nat):Int)by simp,wrap_i64]
 omega
def JY(x n:Nat):Nat:=x/2^n||| x*2^(32-n)%4294967296
theorem fU {x n:Nat}(h:x<4294967296):JY x n<4294967296:=
 Nat.or_lt_two_pow (n:=32) (Nat.lt_of_le_of_lt (Nat.div_le_self _ _) h) (Nat.mod_lt _ (by decide))
theorem OZ {x n:Nat}(h:x<4294967296)(h1:0<n)(h2:n<32):gB (x:Int) (n:Int)=some (JY x n:Int):=by
 have e1:IntKind.i64.wrap (0-(n:Int))= -(n:Int):=by rw[wrap_i64 (by omega)]; omega
 have e2:IntKind.u64.wrap (-(n:Int))=((18446744073709551616-n:Nat):Int):=by rw[I8]; omega
 have e3:aA .and .u64 ((18446744073709551616-n:Nat):Int) 31=((32-n:Nat):Int):=by
  rw[show(31:Int)=((31:Nat):Int)from rfl,ah1 (by omega) (by decide),show(31:Nat)=2^5-1 from rfl,Nat.and_two_pow_sub_one_eq_mod]
  congr 1; omega
 have e4:(32:Int)-((32-n:Nat):Int)=((n:Nat):Int):=by omega
 rw[J3,AU,wD,mM]
 rw[e1,e2,e3,e4,zQ (by omega),aM (by omega),aM (by omega),aaq (by omega),anw h]
 simp only[cond_false]
 rw[orW (Nat.mod_lt _ (by decide)) (Nat.lt_of_le_of_lt (Nat.div_le_self _ _) h),Nat.or_comm]
 rfl
theorem Tt {x n:Nat}(h:x<4294967296)(h1:2≤n)(h2:n<32):kJ (x:Int) (n:Int)=some (JY x n:Int):=by
 have hp:(2:Nat)^(32-n)≤2^30:=Nat.pow_le_pow_right (by decide) (by omega)
 have hm:x*2^(32-n)≤4294967295*2^30:=Nat.mul_le_mul (by omega) hp
 have e4:(32:Int)-(n:Int)=((32-n:Nat):Int):=by omega
 have hd:x/2^n<4294967296:=Nat.lt_of_le_of_lt (Nat.div_le_self _ _) h
 have ho:(x/2^n||| x*2^(32-n))<9223372036854775808:=Nat.or_lt_two_pow (n:=63) (by omega) (by omega)
 rw[Oe,HV,aM (by omega),e4,bE (by omega),aM (by omega),a2S (by omega),YU (by omega) (by omega),orS (by omega) (by omega)]
 simp only[cond_false]
 rw[show(4294967295:Int)=((4294967295:Nat):Int)from rfl,a0K ho (by decide),show(4294967295:Nat)=2^32-1 from rfl,Nat.and_two_pow_sub_one_eq_mod,Nat.or_mod_two_pow,Nat.mod_eq_of_lt (show x/2^n<2^32 from hd)]
 rfl
theorem M4 {x:Nat}(h:x<4294967296)(n:Nat)(h1:0<(OfNat.ofNat n:Nat))(h2:(OfNat.ofNat n:Nat)<32):gB (x:Int) (no_index (OfNat.ofNat n:Int))=some (JY x (OfNat.ofNat n):Int):=OZ h h1 h2
theorem RF {x:Nat}(h:x<4294967296)(n:Nat)(h1:2≤(OfNat.ofNat n:Nat))(h2:(OfNat.ofNat n:Nat)<32):kJ (x:Int) (no_index (OfNat.ofNat n:Int))=some (JY x (OfNat.ofNat n):Int):=Tt h h1 h2
theorem a9n {a:Nat}(n:Nat)(h:a<4294967296):bX .u32 (a:Int) (no_index (OfNat.ofNat n:Int))=((a/2^(OfNat.ofNat n:Nat):Nat):Int):=anw (s:=OfNat.ofNat n) h
theorem a9o {a:Nat}(n:Nat)(h:a<9223372036854775808):bX .i64 (a:Int) (no_index (OfNat.ofNat n:Int))=((a/2^(OfNat.ofNat n:Nat):Nat):Int):=a2S (s:=OfNat.ofNat n) h
def chN(e f g:Nat):Nat:=g^^^(e&&&(f^^^ g))
def aar(a b c:Nat):Nat:=(a&&& b)|||(c&&&(a||| b))
theorem aas {e f g:Nat}(he:e<4294967296)(hg:g<4294967296):(e&&& f)^^^((4294967295^^^ e)&&& g)=chN e f g:=by
 apply Nat.eq_of_testBit_eq
 intro i
 simp only[chN,Nat.testBit_xor,Nat.testBit_and]
 by_cases hi:i<32
 ·rw[show(4294967295:Nat)=2^32-1 from rfl,Nat.testBit_two_pow_sub_one,decide_eq_true hi]
  cases e.testBit i<;>cases f.testBit i<;>cases g.testBit i<;>rfl
 ·have hp:2^32≤2^i:=Nat.pow_le_pow_right (by decide) (by omega)
  have hp:(4294967296:Nat)≤2^i:=hp
  rw[Nat.testBit_lt_two_pow (Nat.lt_of_lt_of_le he hp),Nat.testBit_lt_two_pow (Nat.lt_of_lt_of_le hg hp)]
  simp
theorem a9p(a b c:Nat):((a&&& b)^^^(a&&& c))^^^(b&&& c)=aar a b c:=by
 apply Nat.eq_of_testBit_eq
 intro i
 simp only[aar,Nat.testBit_xor,Nat.testBit_and,Nat.testBit_or]
 cases a.testBit i<;>cases b.testBit i<;>cases c.testBit i<;>rfl
theorem l8 {a b:Nat}(ha:a<4294967296)(hb:b<4294967296):a^^^ b<4294967296:=Nat.xor_lt_two_pow (n:=32) ha hb
def S1N(e:Nat):Nat:=JY e 6^^^ JY e 11^^^ JY e 25
def S0N(a:Nat):Nat:=JY a 2^^^ JY a 13^^^ JY a 22
def s0N(x:Nat):Nat:=JY x 7^^^ JY x 18^^^ x/2^3
def s1N(x:Nat):Nat:=JY x 17^^^ JY x 19^^^ x/2^10
theorem aha {x:Nat}(h:x<4294967296):s0N x<4294967296:=l8 (l8 (fU h) (fU h)) (Nat.lt_of_le_of_lt (Nat.div_le_self _ _) h)
theorem ahb {x:Nat}(h:x<4294967296):s1N x<4294967296:=l8 (l8 (fU h) (fU h)) (Nat.lt_of_le_of_lt (Nat.div_le_self _ _) h)
end Go.Pl
namespace Go.Pl
open Go Go.Den
def a0O(f:Nat→Nat)(i v:Nat):Nat→Nat:=fun j=>if j=i then v else f j
def Uc(w:Nat→Nat)(k:Nat):Nat:=(w (k-16)+s0N (w (k-15))+w (k-7)+s1N (w (k-2)))%4294967296
def En(b:Nat→Nat)(t:Nat):Nat:=b (4*t)*16777216+b (4*t+1)*65536+b (4*t+2)*256+b (4*t+3)
def BQ(b:Nat→Nat):Nat→Nat→Nat
 |0=>En b
 |k+1=>a0O (BQ b k) (16+k) (Uc (BQ b k) (16+k))
def Bn(k w:Nat)(x:Nat→Nat):Nat→Nat
 |0=>(x 7+S1N (x 4)+chN (x 4) (x 5) (x 6)+k+w+(S0N (x 0)+aar (x 0) (x 1) (x 2)))%4294967296
 |1=>x 0
 |2=>x 1
 |3=>x 2
 |4=>(x 3+(x 7+S1N (x 4)+chN (x 4) (x 5) (x 6)+k+w))%4294967296
 |5=>x 4
 |6=>x 5
 |_=>x 6
def a9q(k w:Nat→Nat)(v:Nat→Nat):Nat→Nat→Nat
 |0=>v
 |t+1=>Bn (k t) (w t) (a9q k w v t)
def kN:Nat→Nat:=fun i=>[1116352408,1899447441,3049323471,3921009573,961987163,1508970993,2453635748,2870763221,3624381080,310598401,607225278,1426881987,1925078388,2162078206,2614888103,3248222580,3835390401,4022224774,264347078,604807628,770255983,1249150122,1555081692,1996064986,2554220882,2821834349,2952996808,3210313671,3336571891,3584528711,113926993,338241895,666307205,773529912,1294757372,1396182291,1695183700,1986661051,2177026350,2456956037,2730485921,2820302411,3259730800,3345764771,3516065817,3600352804,4094571909,275423344,430227734,506948616,659060556,883997877,958139571,1322822218,1537002063,1747873779,1955562222,2024104815,2227730452,2361852424,2428436474,2756734187,3204031479,3329325298].getD i 0
def Nl(v b:Nat→Nat):Nat→Nat:=fun i=>(a9q kN (BQ b 48) v 64 i+v i)%4294967296
def Ws(n:Nat)(x:Nat→Int)(y:Nat→Nat):Prop:= ∀i,i<n→x i=(y i:Int)∧y i<4294967296
def Bs(n:Nat)(x:Nat→Int)(y:Nat→Nat):Prop:= ∀i,i<n→x i=(y i:Int)∧y i<256
theorem YV: ∃r,qB=some r∧Ws 64 r kN:=by
 refine⟨_,by rw[vE]; rfl,?_⟩
 intro i hi
 have: ∀i,i<64→kN i<4294967296:=by decide
 refine⟨?_,this i hi⟩
 have h2: ∀i:Fin 64,(upd (upd (upd (upd (upd (upd (upd (upd (upd (upd (upd (upd (upd (upd (upd (upd (upd (upd (upd (upd (upd (upd (upd (upd (upd (upd (upd (upd (upd (upd (upd (upd (upd (upd (upd (upd (upd (upd (upd (upd (upd (upd (upd (upd (upd (upd (upd (upd (upd (upd (upd (upd (upd (upd (upd (upd (upd (upd (upd (upd (upd (upd (upd (upd (fun _=>0) 0 1116352408) 1 1899447441) 2 3049323471) 3 3921009573) 4 961987163) 5 1508970993) 6 2453635748) 7 2870763221) 8 3624381080) 9 310598401) 10 607225278) 11 1426881987) 12 1925078388) 13 2162078206) 14 2614888103) 15 3248222580) 16 3835390401) 17 4022224774) 18 264347078) 19 604807628) 20 770255983) 21 1249150122) 22 1555081692) 23 1996064986) 24 2554220882) 25 2821834349) 26 2952996808) 27 3210313671) 28 3336571891) 29 3584528711) 30 113926993) 31 338241895) 32 666307205) 33 773529912) 34 1294757372) 35 1396182291) 36 1695183700) 37 1986661051) 38 2177026350) 39 2456956037) 40 2730485921) 41 2820302411) 42 3259730800) 43 3345764771) 44 3516065817) 45 3600352804) 46 4094571909) 47 275423344) 48 430227734) 49 506948616) 50 659060556) 51 883997877) 52 958139571) 53 1322822218) 54 1537002063) 55 1747873779) 56 1955562222) 57 2024104815) 58 2227730452) 59 2361852424) 60 2428436474) 61 2756734187) 62 3204031479) 63 3329325298:Nat→Int) i.val=(kN i.val:Int):=by decide
 exact h2 ⟨i,hi⟩
theorem JZ:vY=qB:=by rw[CR,vE]; rfl
theorem Ws.upd {n:Nat} {x:Nat→Int} {y:Nat→Nat}(h:Ws n x y) {v:Nat}(hv:v<4294967296)(k:Nat):Ws n (upd x k (v:Int)) (a0O y k v):=by
 intro i hi
 by_cases hk:i=k
 ·subst hk; simp only[Den.upd,a0O,if_true]; exact⟨trivial,hv⟩
 ·simp only[Den.upd,a0O,if_neg hk]; exact h i hi
theorem Ws.push {n:Nat} {x:Nat→Int} {y:Nat→Nat}(h:Ws n x y) {v:Nat}(hv:v<4294967296):Ws (n+1) (Den.upd x n (v:Int)) (a0O y n v):=by
 intro i hi
 by_cases hk:i=n
 ·subst hk; simp only[Den.upd,a0O,if_true]; exact⟨trivial,hv⟩
 ·simp only[Den.upd,a0O,if_neg hk]; exact h i (by omega)
theorem YW {w:Nat→Nat} {k:Nat} :Uc w k<4294967296:=Nat.mod_lt _ (by decide)
theorem a1v {a b c d:Nat}(ha:a<256)(hb:b<256)(hc:c<256)(hd:d<256):(((a*2^24||| b*2^16)||| c*2^8)||| d)=a*16777216+b*65536+c*256+d:=by
 have h1:a*2^24||| b*2^16=(a*256+b)*2^16:=by
  have:=Nat.two_pow_add_eq_or_of_lt (i:=24) (b:=b*2^16) (by omega) a
  rw[Nat.mul_comm a,←this]; omega
 have h2:(a*256+b)*2^16||| c*2^8=((a*256+b)*256+c)*2^8:=by
  have:=Nat.two_pow_add_eq_or_of_lt (i:=16) (b:=c*2^8) (by omega) (a*256+b)
  rw[Nat.mul_comm (a*256+b),←this]; omega
 have h3:((a*256+b)*256+c)*2^8||| d=a*16777216+b*65536+c*256+d:=by
  have:=Nat.two_pow_add_eq_or_of_lt (i:=8) (b:=d) (by omega) ((a*256+b)*256+c)
  rw[Nat.mul_comm _ (2^8),←this]; omega
 rw[h1,h2,h3]
theorem Ud {b:Nat→Nat} {t:Nat}(h0:b (4*t)<256)(h1:b (4*t+1)<256)(h2:b (4*t+2)<256)(h3:b (4*t+3)<256):En b t<4294967296:=by
 unfold En; omega
theorem YX {b w t1:Nat→Int} {B:Nat→Nat}(hb:Bs 64 b B)(t:Nat)(ht:t<16):
  eF (gV (t:Int) b t1 w)=some (.inl (gV ((t+1:Nat):Int) b t1 (upd w t (En B t:Int)))):=by
 obtain⟨e0,l0⟩:=hb (4*t) (by omega)
 obtain⟨e1,l1⟩:=hb (4*t+1) (by omega)
 obtain⟨e2,l2⟩:=hb (4*t+2) (by omega)
 obtain⟨e3,l3⟩:=hb (4*t+3) (by omega)
 have w24: ∀ {x:Nat},x<256→iK .u32 (x:Int) 24=((x*2^24:Nat):Int):=fun {x} hx=>by rw[show(24:Int)=((24:Nat):Int)from rfl,aaq (by decide),Nat.mod_eq_of_lt (by omega)]
 have w16: ∀ {x:Nat},x<256→iK .u32 (x:Int) 16=((x*2^16:Nat):Int):=fun {x} hx=>by rw[show(16:Int)=((16:Nat):Int)from rfl,aaq (by decide),Nat.mod_eq_of_lt (by omega)]
 have w8: ∀ {x:Nat},x<256→iK .u32 (x:Int) 8=((x*2^8:Nat):Int):=fun {x} hx=>by rw[show(8:Int)=((8:Nat):Int)from rfl,aaq (by decide),Nat.mod_eq_of_lt (by omega)]
 have o1:B (4*t)*2^24||| B (4*t+1)*2^16<4294967296:=Nat.or_lt_two_pow (n:=32) (by omega) (by omega)
 have o2:(B (4*t)*2^24||| B (4*t+1)*2^16)||| B (4*t+2)*2^8<4294967296:=Nat.or_lt_two_pow (n:=32) o1 (by omega)
 simp(disch:=omega) only[eF,gV,WW,CC,e0,e1,e2,e3,sH,Nat.mod_eq_of_lt,w24,w16,w8,orW,o1,o2]
 rw[a1v l0 l1 l2 l3]
 rfl
end Go.Pl
namespace Go.Pl
open Go Go.Den
theorem YZ {w t1:Nat→Int} {W:Nat→Nat}(k:Nat)(hk:k<48)(hw:Ws (16+k) w W):
  eG (gW ((16+k:Nat):Int) t1 w)=some (.inl (gW ((16+(k+1):Nat):Int) t1 (upd w (16+k) (Uc W (16+k):Int)))):=by
 obtain⟨e0,l0⟩:=hw (16+k-15) (by omega)
 obtain⟨e1,l1⟩:=hw (16+k-2) (by omega)
 obtain⟨e2,l2⟩:=hw (16+k-16) (by omega)
 obtain⟨e3,l3⟩:=hw (16+k-7) (by omega)
 have b0:=aha l0
 have b1:=ahb l1
 have r1:= @fU (W (16+k-15)) 7 l0
 have r2:= @fU (W (16+k-15)) 18 l0
 have r3:= @fU (W (16+k-2)) 17 l1
 have r4:= @fU (W (16+k-2)) 19 l1
 have x1:=l8 r1 r2
 have x2:=l8 r3 r4
 have d1:W (16+k-15)/2^3<4294967296:=Nat.lt_of_le_of_lt (Nat.div_le_self _ _) l0
 have d2:W (16+k-2)/2^10<4294967296:=Nat.lt_of_le_of_lt (Nat.div_le_self _ _) l1
 have c1:((16+k:Nat):Int)-15=((16+k-15:Nat):Int):=by omega
 have c2:((16+k:Nat):Int)-2=((16+k-2:Nat):Int):=by omega
 have c3:((16+k:Nat):Int)-16=((16+k-16:Nat):Int):=by omega
 have c4:((16+k:Nat):Int)-7=((16+k-7:Nat):Int):=by omega
 have c5:((16+k:Nat):Int)+1=((16+(k+1):Nat):Int):=by omega
 simp(disch:=omega) only[eG,gW,c1,c2,c3,c4,c5,WW,e0,e1,e2,e3,M4,a9n,anv,LQ,sH]
 simp only[Uc,s0N,s1N,Nat.mod_add_mod]
theorem M5 {b:Nat→Int} {B:Nat→Nat}(hb:Bs 64 b B): ∃w,yJ b=some w∧Ws 64 w (BQ B 48):=by
 have s0lt: ∀t,t<16→En B t<4294967296:=fun t ht=>Ud (hb _ (by omega)).2 (hb _ (by omega)).2 (hb _ (by omega)).2 (hb _ (by omega)).2
 obtain⟨w1,h1,h2⟩:=aR (R:=eF) (fun k (w:Nat→Int)=>gV (k:Int) b (fun _=>0) w) (fun w=>rA (fun _=>0) w)
  (fun k w=>Ws k w (En B)) 16
  (fun k hk w hw=>⟨_,YX hb k hk,fun i hi=>by
   by_cases hik:i=k
   ·subst hik; simp only[upd,if_true]; exact⟨trivial,s0lt _ hk⟩
   ·simp only[upd,if_neg hik]; exact hw i (by omega)⟩)
  (fun w hw=>by simp(disch:=omega) only[eF,gV,WW]) (fun _=>0) (fun i hi=>by omega)
 obtain⟨w2,h3,h4⟩:=aR (R:=eG) (fun k (w:Nat→Int)=>gW ((16+k:Nat):Int) (fun _=>0) w) (fun w=>rC (fun _=>0) w)
  (fun k w=>Ws (16+k) w (BQ B k)) 48
  (fun k hk w hw=>⟨_,YZ k hk hw,by exact Ws.push hw YW⟩)
  (fun w hw=>by simp(disch:=omega) only[eG,gW,WW]) w1 h2
 refine⟨w2,?_,h4⟩
 have e1:aj eF (gV 0 b (fun _=>0) (fun _=>0))=some (rA (fun _=>0) w1):=h1
 have e2:aj eG (gW 16 (fun _=>0) w1)=some (rC (fun _=>0) w2):=h3
 rw[EJ,vU]
 simp only[gV,rA]at e1
 simp only[gW,rC]at e2
 rw[e1]
 simp only
 rw[e2]
theorem Z0 {k w:Nat} {x:Nat→Nat}(h: ∀i,i<8→x i<4294967296): ∀i,i<8→Bn k w x i<4294967296:=by
 intro i hi
 have h0:=h 0 (by omega); have h1:=h 1 (by omega); have h2:=h 2 (by omega)
 have h4:=h 4 (by omega); have h5:=h 5 (by omega); have h6:=h 6 (by omega)
 match i,hi with
 |0,_=>exact Nat.mod_lt _ (by decide)
 |1,_=>exact h0
 |2,_=>exact h1
 |3,_=>exact h2
 |4,_=>exact Nat.mod_lt _ (by decide)
 |5,_=>exact h4
 |6,_=>exact h5
 |7,_=>exact h6
theorem a0P {v t1 k w x:Nat→Int} {K W X:Nat→Nat}(hk:Ws 64 k K)(hw:Ws 64 w W)(t:Nat)(ht:t<64)(hx:Ws 8 x X):
  ∃y,iD (kW (t:Int) v t1 k w x)=some (.inl (kW ((t+1:Nat):Int) v t1 k w y))∧Ws 8 y (Bn (K t) (W t) X):=by
 obtain⟨e0,l0⟩:=hx 0 (by omega)
 obtain⟨e1,l1⟩:=hx 1 (by omega)
 obtain⟨e2,l2⟩:=hx 2 (by omega)
 obtain⟨e3,l3⟩:=hx 3 (by omega)
 obtain⟨e4,l4⟩:=hx 4 (by omega)
 obtain⟨e5,l5⟩:=hx 5 (by omega)
 obtain⟨e6,l6⟩:=hx 6 (by omega)
 obtain⟨e7,l7⟩:=hx 7 (by omega)
 obtain⟨ek,lk⟩:=hk t ht
 obtain⟨ew,lw⟩:=hw t ht
 have r1:= @fU (X 4) 6 l4
 have r2:= @fU (X 4) 11 l4
 have r3:= @fU (X 4) 25 l4
 have r4:= @fU (X 0) 2 l0
 have r5:= @fU (X 0) 13 l0
 have r6:= @fU (X 0) 22 l0
 have x1:=l8 r1 r2
 have x2:=l8 r4 r5
 have x3:=l8 l5 l6
 have x4:X 4&&&(X 5^^^ X 6)<4294967296:=Nat.lt_of_le_of_lt Nat.and_le_left l4
 have x5:X 0||| X 1<4294967296:=Nat.or_lt_two_pow (n:=32) l0 l1
 have x6:X 0&&& X 1<4294967296:=Nat.lt_of_le_of_lt Nat.and_le_left l0
 have x7:X 2&&&(X 0||| X 1)<4294967296:=Nat.lt_of_le_of_lt Nat.and_le_left l2
 refine⟨_,by
  simp(disch:=omega) only[iD,kW,WW,e0,e1,e2,e3,e4,e5,e6,e7,ek,ew,M4,anv,aq4,orW,LQ,Jk,sH]
  rfl,?_⟩
 have hl:=Z0 (k:=K t) (w:=W t) (x:=X) (fun i hi=>(hx i hi).2)
 intro i hi
 refine⟨?_,hl i hi⟩
 match i,hi with
 |0,_=>
  simp only[upd,if_true,Bn,S1N,S0N,chN,aar]
  congr 1; omega
 |4,_=>
  simp only[upd,if_true,if_neg (show¬(4=0)by decide),Bn,S1N,chN]
  congr 1; omega
 |1,_=>exact e0
 |2,_=>exact e1
 |3,_=>exact e2
 |5,_=>exact e4
 |6,_=>exact e5
 |7,_=>exact e6
theorem RG {v b:Nat→Int} {V B:Nat→Nat}(hv:Ws 8 v V)(hb:Bs 64 b B): ∃r,Cw v b=some r∧Ws 8 r (Nl V B):=by
 obtain⟨k,hk1,hk2⟩:=YV
 obtain⟨w,hw1,hw2⟩:=M5 hb
 obtain⟨x,h1,h2⟩:=aR (R:=iD) (fun t (x:Nat→Int)=>kW (t:Int) v (fun _=>0) k w x) (fun x=>xD v (fun _=>0) x)
  (fun t x=>Ws 8 x (a9q kN (BQ B 48) V t)) 64 (fun t ht x hx=>a0P hk2 hw2 t ht hx)
  (fun x hx=>by simp(disch:=omega) only[iD,kW,WW]) v hv
 obtain⟨y,h3,h4⟩:=aR (R:=jo) (fun t (x:Nat→Int)=>qC (t:Int) v (fun _=>0) x) (fun x=>xE (fun _=>0) x)
  (fun t x=> ∀i,i<8→(i<t→x i=(Nl V B i:Int))∧(t≤i→x i=(a9q kN (BQ B 48) V 64 i:Int))) 8
  (fun t ht z hz=>by
   obtain⟨ev,lv⟩:=hv t ht
   have ez:=(hz t ht).2 (Nat.le_refl _)
   have lm:=(h2 t ht).2
   refine⟨_,by
    simp(disch:=omega) only[jo,qC,WW,ev,ez,LQ,Jk,sH]
    rfl,?_⟩
   intro i hi
   by_cases hit:i=t
   ·subst hit
    refine⟨fun _=>by simp only[upd,if_true]; rfl,fun h=>by omega⟩
   ·simp only[upd,if_neg hit]
    exact⟨fun h=>(hz i hi).1 (by omega),fun h=>(hz i hi).2 (by omega)⟩)
  (fun x hx=>by simp(disch:=omega) only[jo,qC,WW]) x (fun i hi=>⟨fun h=>by omega,fun _=>(h2 i hi).1⟩)
 refine⟨y,?_,fun i hi=>⟨(h4 i hi).1 hi,Nat.mod_lt _ (by decide)⟩⟩
 have e1:aj iD (kW 0 v (fun _=>0) k w v)=some (xD v (fun _=>0) x):=h1
 have e2:aj jo (qC 0 v (fun _=>0) x)=some (xE (fun _=>0) y):=h3
 rw[L8,DT,hk1,hw1]
 simp only[kW,xD]at e1
 simp only[qC,xE]at e2
 simp only
 rw[e1]
 simp only
 rw[e2]
end Go.Pl
namespace Go.Pl
open Go Go.Den
theorem nC {s t:ByteArray} :sEq s t=true↔bl s=bl t:=by
 constructor
 ·intro h
  have h2:s.toList=t.toList:=eq_of_beq h
  rw[ByteArray.toList_eq,ByteArray.toList_eq]at h2
  exact h2
 ·exact a9m
theorem jA {s:ByteArray} :sEq s (ByteArray.mk #[])=decide (s.size=0):=by
 by_cases h:s.size=0
 ·rw[decide_eq_true h,nC]
  exact List.length_eq_zero_iff.1 h
 ·rw[decide_eq_false h]
  cases hb:sEq s (ByteArray.mk #[])
  ·rfl
  ·rw[nC]at hb
   exact absurd (by rw[fT,hb]; rfl) h
def bN(l:List UInt8)(k:Nat):Nat→Nat:=fun i=>if i<64 then(l.getD (64*k+i) 0).toNat else 0
def a9r:Nat→Nat:=fun i=>[1779033703,3144134277,1013904242,2773480762,1359893119,2600822924,528734635,1541459225].getD i 0
def lJ(l:List UInt8):Nat→Nat→Nat
 |0=>a9r
 |k+1=>Nl (lJ l k) (bN l k)
theorem vL {l s:List UInt8} {i:Nat}(h:i<l.length):(l++s).getD i 0=l.getD i 0:=by
 rw[List.getD_eq_getElem?_getD,List.getD_eq_getElem?_getD,List.getElem?_append_left h]
theorem Bo {l s:List UInt8} {i:Nat}(h:l.length≤i):(l++s).getD i 0=s.getD (i-l.length) 0:=by
 rw[List.getD_eq_getElem?_getD,List.getD_eq_getElem?_getD,List.getElem?_append_right h]
theorem a3f {l s:List UInt8} {k:Nat}(h:64*k+64≤l.length):bN (l++s) k=bN l k:=by
 funext i
 unfold bN
 split
 ·rw[vL (by omega)]
 ·rfl
theorem zZ {l s:List UInt8} : ∀ {k:Nat},64*k≤l.length→lJ (l++s) k=lJ l k
 |0,_=>rfl
 |k+1,h=>by
  rw[lJ,lJ,zZ (k:=k) (by omega),a3f (by omega)]
theorem Ue: ∃r,Ct=some r∧Ws 8 r a9r:=by
 refine⟨_,by rw[DN]; rfl,?_⟩
 intro i hi
 match i,hi with
 |0,_=>exact⟨rfl,by decide⟩
 |1,_=>exact⟨rfl,by decide⟩
 |2,_=>exact⟨rfl,by decide⟩
 |3,_=>exact⟨rfl,by decide⟩
 |4,_=>exact⟨rfl,by decide⟩
 |5,_=>exact⟨rfl,by decide⟩
 |6,_=>exact⟨rfl,by decide⟩
 |7,_=>exact⟨rfl,by decide⟩
abbrev OD:=Bool×((Nat→Int)×((Nat→Int)×Int))
structure A8(h:OD)(l:List UInt8):Prop where
 given:h.1=true
 n:h.2.2.2=(l.length:Int)
 words:Ws 8 h.2.1 (lJ l (l.length/64))
 rest: ∀j,j<l.length%64→h.2.2.1 j=((l.getD (64*(l.length/64)+j) 0).toNat:Int)
theorem Tv {h:OD} {l:List UInt8} {s:ByteArray}(hh:A8 h l)(hs:0<s.size)(hb:l.length+s.size<2^60):
  ∃h' m,0<m∧m≤s.size∧cu (dV s h)=some (.inl (dV (s.extract m s.size) h'))∧A8 h' (l++(bl s).take m):=by
 obtain⟨g,w,r,n⟩:=h
 obtain⟨h1,h2,h3,h4⟩:=hh
 simp only at h1 h2 h3 h4
 subst h2
 have hmod:l.length%64<64:=Nat.mod_lt _ (by decide)
 have e64:64-(l.length%64)≠0:=by omega
 generalize hm:min s.size (64-l.length%64)=m
 have hm1:0<m:=by omega
 have hm2:m≤s.size:=by omega
 have hm3:l.length%64+m≤64:=by omega
 have hsz:(bl s).length=s.size:=(fT s).symm
 have c1:Nat.ble (64-l.length%64) 0=false:=by
  cases hb:Nat.ble (64-l.length%64) 0
  ·rfl
  ·exact absurd (Nat.le_of_ble_eq_true hb) (by omega)
 have c2:Nat.ble s.size 0=false:=by
  cases hb:Nat.ble s.size 0
  ·rfl
  ·exact absurd (Nat.le_of_ble_eq_true hb) (by omega)
 have hlen:(l++(bl s).take m).length=l.length+m:=by rw[List.length_append,List.length_take]; omega
 have hget: ∀j,j<l.length%64+m→sM r (l.length%64) m (fun i=>(((s.data.toList.getD i 0).toNat:Nat):Int)) j=(((l++(bl s).take m).getD (64*(l.length/64)+j) 0).toNat:Int):=by
  intro j hj
  unfold sM
  by_cases hjl:l.length%64≤j
  ·rw[if_pos ⟨hjl,hj⟩,Bo (by omega),show 64*(l.length/64)+j-l.length=j-l.length%64 by omega]
   show(((s.data.toList.getD (j-l.length%64) 0).toNat:Nat):Int)=_
   rw[List.getD_eq_getElem?_getD,List.getD_eq_getElem?_getD,List.getElem?_take_of_lt (by omega)]
  ·rw[if_neg (by omega),vL (by omega)]
   exact h4 j (by omega)
 by_cases hfull:l.length%64+m=64
 ·obtain⟨r',hr1,hr2⟩:=RG (b:=sM r (l.length%64) m (fun i=>(((s.data.toList.getD i 0).toNat:Nat):Int))) (B:=bN (l++(bl s).take m) (l.length/64)) h3 (by
   intro i hi
   refine⟨?_,?_⟩
   ·rw[hget i (by omega)]; unfold bN; rw[if_pos hi]
   ·unfold bN; rw[if_pos hi]; exact UInt8.toNat_lt _)
  refine⟨(g,(r',(sM r (l.length%64) m (fun i=>(((s.data.toList.getD i 0).toNat:Nat):Int)),((l.length+m:Nat):Int)))),m,hm1,hm2,?_,?_⟩
  ·simp(disch:=omega) only[cu,dV,jA,WW,CC,c1,c2,Bool.or_false,hm,Bool.and_true,Bool.true_and,hr1]
  ·have hq:(l.length+m)/64=l.length/64+1:=by omega
   refine⟨h1,by simp only; rw[hlen],?_,?_⟩
   ·simp only
    rw[hlen,hq,lJ,zZ (by omega)]
    exact hr2
   ·intro j hj; rw[hlen]at hj; omega
 ·refine⟨(g,(w,(sM r (l.length%64) m (fun i=>(((s.data.toList.getD i 0).toNat:Nat):Int)),((l.length+m:Nat):Int)))),m,hm1,hm2,?_,?_⟩
  ·simp(disch:=omega) only[cu,dV,jA,WW,CC,c1,c2,Bool.or_false,hm,Bool.and_true,Bool.true_and]
  ·have hq:(l.length+m)/64=l.length/64:=by omega
   refine⟨h1,by simp only; rw[hlen],?_,?_⟩
   ·simp only
    rw[hlen,hq,zZ (by omega)]
    exact h3
   ·intro j hj
    rw[hlen]at hj
    simp only
    rw[hlen,hq]
    exact hget j (by omega)
theorem Vu: ∀(n:Nat) {h:OD} {l:List UInt8} {s:ByteArray},s.size≤n→A8 h l→l.length+s.size<2^60→
  ∃h',aj cu (dV s h)=some (wH h')∧A8 h' (l++bl s):=by
 intro n
 induction n with
 |zero=>
  intro h l s hn hh hb
  have h0:bl s=[]:=List.length_eq_zero_iff.1 (by rw[←fT]; omega)
  refine⟨h,gu ?_,by rw[h0,List.append_nil]; exact hh⟩
  simp(disch:=omega) only[cu,dV,jA,WW]
 |succ n ih=>
  intro h l s hn hh hb
  by_cases h0:s.size=0
  ·have h0':bl s=[]:=List.length_eq_zero_iff.1 (by rw[←fT]; omega)
   refine⟨h,gu ?_,by rw[h0',List.append_nil]; exact hh⟩
   simp(disch:=omega) only[cu,dV,jA,WW]
  ·obtain⟨h',m,hm1,hm2,hr,hh'⟩:=Tv hh (Nat.pos_of_ne_zero h0) hb
   have hsz:(s.extract m s.size).size=s.size-m:=by rw[fT,Bl,List.length_drop,fT]
   have hlt:(bl s).length=s.size:=(fT s).symm
   obtain⟨h'',h1,h2⟩:=ih (h:=h') (l:=l++(bl s).take m) (s:=s.extract m s.size) (by omega) hh' (by rw[List.length_append,List.length_take]; omega)
   refine⟨h'',by rw[zn hr]; exact h1,?_⟩
   rw[Bl,List.append_assoc,List.take_append_drop]at h2
   exact h2
theorem yU {h:OD} {l:List UInt8} {s:ByteArray}(hh:A8 h l)(hb:l.length+s.size<2^60):
  ∃h',jD s h=some (rD h')∧A8 h' (l++bl s):=by
 obtain⟨h',h1,h2⟩:=Vu s.size (Nat.le_refl _) hh hb
 refine⟨h',?_,h2⟩
 simp only[dV,wH]at h1
 rw[AV,qR,hh.given,h1]
 rfl
end Go.Pl
namespace Go.Pl
open Go Go.Den
def pK(n:Nat):Nat:=(119-n%64)%64
theorem Nn(n:Nat):(n+1+pK n)%64=56:=by unfold pK; omega
theorem Jq {n k:Nat}(h:k<pK n):(n+1+k)%64≠56:=by unfold pK at h; omega
def Vv(n:Nat):List UInt8:=(List.range 8).map fun k=>UInt8.ofNat (8*n/2^(56-8*k)%256)
def Tw(l:List UInt8):List UInt8:=l++[128]++List.replicate (pK l.length) 0++Vv l.length
theorem Z4(l:List UInt8):(Tw l).length=l.length+1+pK l.length+8:=by simp[Tw,Vv]; omega
theorem a9s(l:List UInt8):(Tw l).length%64=0:=by rw[Z4]; have:=Nn l.length; omega
def Np(v:Nat→Nat)(j:Nat):Nat:=v (j/4)/2^(24-8*(j%4))%256
def M6(v:Nat→Nat):ByteArray:=⟨((List.range 32).map fun j=>UInt8.ofNat (Np v j)).toArray⟩
def yV(l:List UInt8):ByteArray:=M6 (lJ (Tw l) ((Tw l).length/64))
theorem OE {out:Nat→Int} {v:Nat→Nat}(h: ∀j,j<32→out j=(Np v j:Int)):bytesOf 32 (fun j=>out (0+j))=M6 v:=by
 unfold bytesOf M6
 congr 1; congr 1
 apply List.map_congr_left
 intro j hj
 simp only[Nat.zero_add,h j (List.mem_range.1 hj),Int.toNat_natCast]
theorem a3g {h0 c:OD} {l:List UInt8}(hc:A8 c (l++[128]))(hb:l.length<2^59):
  ∃c',aj fI (lT h0 c)=some (rE h0 c')∧A8 c' (l++[128]++List.replicate (pK l.length) 0):=by
 have hz:pK l.length<64:=Nat.mod_lt _ (by decide)
 have hlen: ∀k,(l++[128]++List.replicate k (0:UInt8)).length=l.length+1+k:=by intro k; simp; omega
 refine aR (R:=fI) (fun k (c:OD)=>lT h0 c) (fun c=>rE h0 c) (fun k c=>A8 c (l++[128]++List.replicate k 0)) (pK l.length) ?_ ?_ c (by simpa using hc)
 ·intro k hk c hc
  obtain⟨c',h1,h2⟩:=yU (s:=ByteArray.mk #[0]) hc (by rw[hlen]; show _+1<_; omega)
  have hn:=hc.n
  rw[hlen]at hn
  have hb2:=Jq hk
  refine⟨c',?_,?_⟩
  ·simp(disch:=omega) only[fI,lT,hn,WW,CC,h1]
  ·rw[List.replicate_succ',←List.append_assoc]; exact h2
 ·intro c hc
  have hn:=hc.n
  rw[hlen]at hn
  have hb2:=Nn l.length
  simp(disch:=omega) only[fI,lT,hn,WW,CC]
theorem a9t {h0 c:OD} {l:List UInt8}(h0n:h0.2.2.2=(l.length:Int))(hb:l.length<2^59):
  ∃last,aj fJ (lU h0 0 c (fun _=>0))=some (rF c last)∧ ∀k,k<8→last k=((8*l.length/2^(56-8*k)%256:Nat):Int):=by
 refine aR (R:=fJ) (fun k (f:Nat→Int)=>lU h0 (k:Int) c f) (fun f=>rF c f) (fun k f=> ∀i,i<k→f i=((8*l.length/2^(56-8*i)%256:Nat):Int)) 8 ?_ ?_ (fun _=>0) (fun i hi=>by omega)
 ·intro k hk f hf
  refine⟨_,by
   simp(disch:=omega) only[fJ,lU,h0n,WW,CC,a2S,RD]
   rfl,?_⟩
  intro i hi
  by_cases hik:i=k
  ·subst hik; simp only[upd,if_true]
  ·simp only[upd,if_neg hik]; exact hf i (by omega)
 ·intro f hf
  simp(disch:=omega) only[fJ,lU,WW,CC]
theorem aat {w:Nat→Int} {v:Nat→Nat}(hw:Ws 8 w v):
  ∃out,aj fK (lV 0 (fun _=>0) w 0)=some (rG 32 out)∧ ∀j,j<32→out j=(Np v j:Int):=by
 refine aR (R:=fK) (fun k (f:Nat→Int)=>lV (4*k) f w (k:Int)) (fun f=>rG 32 f) (fun k f=> ∀i,i<4*k→f i=(Np v i:Int)) 8 ?_ ?_ (fun _=>0) (fun i hi=>by omega)
 ·intro k hk f hf
  obtain⟨e,lt⟩:=hw k hk
  have b1:Nat.ble ((4*k+4)*1) 140737488355328=true:=Nat.ble_eq_true_of_le (by omega)
  have b2:Nat.ble (4*k+4) 9223372036854775807=true:=Nat.ble_eq_true_of_le (by omega)
  refine⟨_,by
   simp(disch:=omega) only[fK,lV,e,WW,CC,a9n,RD,b1,b2,Bool.and_true]
   rfl,?_⟩
  intro i hi
  unfold glue
  by_cases hik:i<4*k
  ·rw[show Nat.blt i (4*k)=true from Nat.ble_eq_true_of_le hik,cond_true]
   exact hf i hik
  ·rw[show Nat.blt i (4*k)=false by
    cases hb:Nat.blt i (4*k)
    ·rfl
    ·exact absurd (Nat.le_of_ble_eq_true hb) hik,cond_false]
   have hd:i/4=k:=by omega
   have h4:i-4*k=0∨i-4*k=1∨i-4*k=2∨i-4*k=3:=by omega
   rcases h4 with h4|h4|h4|h4
   ·have hm:i%4=0:=by omega
    rw[h4,Np,hd,hm]; rfl
   ·have hm:i%4=1:=by omega
    rw[h4,Np,hd,hm]; rfl
   ·have hm:i%4=2:=by omega
    rw[h4,Np,hd,hm]; rfl
   ·have hm:i%4=3:=by omega
    rw[h4,Np,hd,hm,Nat.pow_zero,Nat.div_one]; rfl
 ·intro f hf
  simp(disch:=omega) only[fK,lV,WW,CC]
theorem a0Q {h0:OD} {l:List UInt8}(hh:A8 h0 l)(hb:l.length<2^59):yK (some h0)=some (yV l):=by
 obtain⟨c1,h1,k1⟩:=yU (s:=ByteArray.mk #[128]) hh (by show _+1<_; omega)
 obtain⟨c2,h2,k2⟩:=a3g (h0:=h0) k1 hb
 obtain⟨last,h3,k3⟩:=a9t (c:=c2) hh.n hb
 have hz:pK l.length<64:=Nat.mod_lt _ (by decide)
 obtain⟨c3,h4,k4⟩:=yU (s:=bytesOf 8 (fun j=>last (0+j))) k2 (by
  rw[show(bytesOf 8 (fun j=>last (0+j))).size=8 by simp[bytesOf,ByteArray.size]]
  simp; omega)
 have e5:l++[128]++List.replicate (pK l.length) 0++bl (bytesOf 8 (fun j=>last (0+j)))=Tw l:=by
  unfold Tw Vv
  congr 1
  rw[pJ]
  apply List.map_congr_left
  intro j hj
  simp only[Nat.zero_add,k3 j (List.mem_range.1 hj),Int.toNat_natCast]
 rw[e5]at k4
 obtain⟨out,h6,k6⟩:=aat k4.words
 simp only[lT,rE]at h2
 simp only[lU,rF]at h3
 simp only[lV,rG]at h6
 rw[EK,vV]
 simp only[hh.given,Bool.not_true,cond_false,h1,rD,h2,h3,h4,h6]
 rw[OE k6]
 rfl
theorem yX {s:ByteArray}(hb:s.size<2^59):yL s=some (yV (bl s)):=by
 obtain⟨f,h1,k1⟩:=Ue
 have hh:A8 (true,(f,((fun _=>0),0))) []:=⟨rfl,rfl,k1,fun j hj=>by simp at hj⟩
 obtain⟨h',h2,k2⟩:=yU (s:=s) hh (by simp; omega)
 rw[List.nil_append]at k2
 have h3:=a0Q k2 (by rw[←fT]; exact hb)
 rw[QW,L9,L6,DR,h1]
 simp only[h2,rD,h3]
end Go.Pl
namespace Go.Pl
open Go Go.Den
def Ah(n:Nat)(b:Nat→Int)(l:List UInt8):Prop:=n=l.length∧ ∀j,j<n→b j=((l.getD j 0).toNat:Int)
theorem Ah.push {n:Nat} {b:Nat→Int} {l:List UInt8}(h:Ah n b l) {v:Int} {x:UInt8}(hv:v=(x.toNat:Int)):Ah (n+1) (glue n b (fun j=>upd (fun _=>0) 0 v (0+j))) (l++[x]):=by
 obtain⟨h1,h2⟩:=h
 refine⟨by simp; omega,?_⟩
 intro j hj
 unfold glue
 by_cases hc:j<n
 ·rw[show Nat.blt j n=true from Nat.ble_eq_true_of_le hc,cond_true,vL (by omega)]
  exact h2 j hc
 ·obtain rfl:j=n:=by omega
  rw[show Nat.blt j j=false by
   cases hb:Nat.blt j j
   ·rfl
   ·exact absurd (Nat.le_of_ble_eq_true hb) (by omega),cond_false,Bo (by omega),h1,Nat.sub_self]
  exact hv
theorem a3h {s:ByteArray} {l:List UInt8} {b:Nat→Int}(hl:l.length<2^40)(h:Ah (l.length+1) b (l++[128])):
  ∃n b',aj iL (p8 s (l.length+1) b)=some (vH s n b')∧Ah n b' (l++[128]++List.replicate (pK l.length) 0):=by
 have hz:pK l.length<64:=Nat.mod_lt _ (by decide)
 obtain⟨f,h1,h2⟩:=aR (R:=iL) (fun k (f:Nat→Int)=>p8 s (l.length+1+k) f) (fun f=>vH s (l.length+1+pK l.length) f)
  (fun k f=>Ah (l.length+1+k) f (l++[128]++List.replicate k 0)) (pK l.length)
  (fun k hk f hf=>by
   have hb2:=Jq hk
   have c1:Nat.ble ((l.length+1+k+1)*1) 140737488355328=true:=Nat.ble_eq_true_of_le (by omega)
   have c2:Nat.ble (l.length+1+k+1) 9223372036854775807=true:=Nat.ble_eq_true_of_le (by omega)
   refine⟨_,by
    simp(disch:=omega) only[iL,p8,WW,Vn,c1,c2,Bool.and_true]
    rfl,?_⟩
   rw[List.replicate_succ',←List.append_assoc]
   exact hf.push rfl)
  (fun f hf=>by
   have hb2:=Nn l.length
   simp(disch:=omega) only[iL,p8,WW,Vn]) b (by simpa using h)
 exact⟨_,f,h1,h2⟩
theorem aau {s:ByteArray} {l m:List UInt8} {n:Nat} {b:Nat→Int}(hsl:s.size=l.length)(hl:l.length<2^40)(hm:m.length<2^41)(h:Ah n b m):
  ∃n' b',aj iM (p9 s n b 7)=some (vI n' b')∧Ah n' b' (m++Vv l.length):=by
 have hn:n=m.length:=h.1
 obtain⟨f,h1,h2⟩:=aR (R:=iM) (fun k (f:Nat→Int)=>p9 s (n+k) f (7-(k:Int))) (fun f=>vI (n+8) f)
  (fun k f=>Ah (n+k) f (m++(Vv l.length).take k)) 8
  (fun k hk f hf=>by
   have c1:Nat.ble ((n+k+1)*1) 140737488355328=true:=Nat.ble_eq_true_of_le (by omega)
   have c2:Nat.ble (n+k+1) 9223372036854775807=true:=Nat.ble_eq_true_of_le (by omega)
   have e1:IntKind.i64.wrap (8*(7-(k:Int)))=((56-8*k:Nat):Int):=by rw[wrap_i64 (by omega)]; omega
   have e2:IntKind.i64.wrap (8*(s.size:Int))=((8*l.length:Nat):Int):=by rw[wrap_i64 (by omega)]; omega
   have e3:IntKind.i64.wrap (7-(k:Int)-1)=7-((k+1:Nat):Int):=by rw[wrap_i64 (by omega)]; omega
   have hd:8*l.length/2^(56-8*k)<9223372036854775808:=Nat.lt_of_le_of_lt (Nat.div_le_self _ _) (by omega)
   have e4:aA .and .i64 ((8*l.length/2^(56-8*k):Nat):Int) 255=((8*l.length/2^(56-8*k)%256:Nat):Int):=by
    rw[show(255:Int)=((255:Nat):Int)from rfl,a0K hd (by decide),show(255:Nat)=2^8-1 from rfl,Nat.and_two_pow_sub_one_eq_mod]
   have hlt:8*l.length/2^(56-8*k)%256<256:=Nat.mod_lt _ (by decide)
   refine⟨_,by
    simp(disch:=omega) only[iM,p9,WW,e1,e2,e3,a2S,e4,c1,c2,Bool.and_true]
    rfl,?_⟩
   have hll:(Vv l.length).length=8:=by simp[Vv]
   rw[Ie (by omega),←List.append_assoc]
   refine hf.push ?_
   rw[a97 (by omega)]
   unfold Vv
   rw[List.getD_eq_getElem?_getD,List.getElem?_map,List.getElem?_range hk]
   simp only[Option.map_some,Option.getD_some,UInt8.toNat_ofNat']
   rw[Nat.mod_mod])
  (fun f hf=>by
   simp(disch:=omega) only[iM,p9,WW]) b (by simpa using h)
 refine⟨_,f,h1,?_⟩
 rw[List.take_of_length_le (by simp[Vv])]at h2
 exact h2
theorem P5 {s:ByteArray}(hs:s.size<2^40): ∃n b,DZ s=some (n,b)∧Ah n b (Tw (bl s)):=by
 have hsz:=fT s
 have h0:Ah s.size (fun i=>((((s).data.toList.getD i 0).toNat:Nat):Int)) (bl s):=⟨hsz,fun j hj=>rfl⟩
 have h1:=h0.push (v:=128) (x:=128) rfl
 obtain⟨n1,b1,z1,z2⟩:=a3h (s:=s) (l:=bl s) (by omega) (b:=glue s.size (fun i=>((((s).data.toList.getD i 0).toNat:Nat):Int)) (fun j=>upd (fun _=>0) 0 128 (0+j))) (by rw[←hsz]; exact h1)
 have hz:pK (bl s).length<64:=Nat.mod_lt _ (by decide)
 obtain⟨n2,b2,y1,y2⟩:=aau (s:=s) (l:=bl s) hsz (by omega) (by rw[List.length_append,List.length_append,List.length_replicate]; show _+1+_<_; omega) z2
 have c1:Nat.ble s.size 9223372036854775807=true:=Nat.ble_eq_true_of_le (by omega)
 have c2:Nat.ble ((s.size+1)*1) 140737488355328=true:=Nat.ble_eq_true_of_le (by omega)
 have c3:Nat.ble (s.size+1) 9223372036854775807=true:=Nat.ble_eq_true_of_le (by omega)
 rw[←hsz]at z1
 simp only[p8,vH]at z1
 simp only[p9,vI]at y1
 refine⟨n2,fun j=>b2 (0+j),?_,?_⟩
 ·rw[J6,Bc]
  simp only[c1,c2,c3,Bool.and_true,cond_true,z1,y1]
 ·have e0:(fun j=>b2 (0+j))=b2:=by funext j; rw[Nat.zero_add]
  rw[e0]; exact y2
theorem P6 {nb:Nat} {b w t1:Nat→Int} {B:Nat→Nat}(hnb:64≤nb)(hnb2:nb<2^60)(hb:Bs 64 b B)(t:Nat)(ht:t<16):
  eO (gY nb b (t:Int) t1 w)=some (.inl (gY nb b ((t+1:Nat):Int) t1 (upd w t (En B t:Int)))):=by
 obtain⟨e0,l0⟩:=hb (4*t) (by omega)
 obtain⟨e1,l1⟩:=hb (4*t+1) (by omega)
 obtain⟨e2,l2⟩:=hb (4*t+2) (by omega)
 obtain⟨e3,l3⟩:=hb (4*t+3) (by omega)
 have w24: ∀ {x:Nat},x<256→iK .i64 (x:Int) 24=((x*2^24:Nat):Int):=fun {x} hx=>YU (s:=24) (by decide) (by omega)
 have w16: ∀ {x:Nat},x<256→iK .i64 (x:Int) 16=((x*2^16:Nat):Int):=fun {x} hx=>YU (s:=16) (by decide) (by omega)
 have w8: ∀ {x:Nat},x<256→iK .i64 (x:Int) 8=((x*2^8:Nat):Int):=fun {x} hx=>YU (s:=8) (by decide) (by omega)
 have o1:B (4*t)*2^24||| B (4*t+1)*2^16<4294967296:=Nat.or_lt_two_pow (n:=32) (by omega) (by omega)
 have o2:(B (4*t)*2^24||| B (4*t+1)*2^16)||| B (4*t+2)*2^8<4294967296:=Nat.or_lt_two_pow (n:=32) o1 (by omega)
 simp(disch:=omega) only[eO,gY,WW,CC,e0,e1,e2,e3,w24,w16,w8,orS]
 rw[a1v l0 l1 l2 l3]
 rfl
theorem a0R {x:Nat}(h:x<9223372036854775808):aA .and .i64 (x:Int) 4294967295=((x%4294967296:Nat):Int):=by
 rw[show(4294967295:Int)=((4294967295:Nat):Int)from rfl,a0K h (by decide),show(4294967295:Nat)=2^32-1 from rfl,Nat.and_two_pow_sub_one_eq_mod]
theorem P7 {w t1:Nat→Int} {W:Nat→Nat}(k:Nat)(hk:k<48)(hw:Ws (16+k) w W):
  eP (gZ ((16+k:Nat):Int) t1 w)=some (.inl (gZ ((16+(k+1):Nat):Int) t1 (upd w (16+k) (Uc W (16+k):Int)))):=by
 obtain⟨e0,l0⟩:=hw (16+k-15) (by omega)
 obtain⟨e1,l1⟩:=hw (16+k-2) (by omega)
 obtain⟨e2,l2⟩:=hw (16+k-16) (by omega)
 obtain⟨e3,l3⟩:=hw (16+k-7) (by omega)
 have r1:= @fU (W (16+k-15)) 7 l0
 have r2:= @fU (W (16+k-15)) 18 l0
 have r3:= @fU (W (16+k-2)) 17 l1
 have r4:= @fU (W (16+k-2)) 19 l1
 have x1:=l8 r1 r2
 have x2:=l8 r3 r4
 have d1:W (16+k-15)/2^3<4294967296:=Nat.lt_of_le_of_lt (Nat.div_le_self _ _) l0
 have d2:W (16+k-2)/2^10<4294967296:=Nat.lt_of_le_of_lt (Nat.div_le_self _ _) l1
 have x3:=l8 x1 d1
 have x4:=l8 x2 d2
 have c1:((16+k:Nat):Int)-15=((16+k-15:Nat):Int):=by omega
 have c2:((16+k:Nat):Int)-2=((16+k-2:Nat):Int):=by omega
 have c3:((16+k:Nat):Int)-16=((16+k-16:Nat):Int):=by omega
 have c4:((16+k:Nat):Int)-7=((16+k-7:Nat):Int):=by omega
 have c5:((16+k:Nat):Int)+1=((16+(k+1):Nat):Int):=by omega
 simp(disch:=omega) only[eP,gZ,c1,c2,c3,c4,c5,WW,e0,e1,e2,e3,RF,a9o,ah9,LQ,a0R]
 have hv: ∀a b c d:Nat,(a+b+c+d)%4294967296=(d+c+b+a)%4294967296:=fun a b c d=>by congr 1; omega
 simp only[Uc,s0N,s1N]
 rw[hv]
theorem M7 {nb:Nat} {b:Nat→Int} {B:Nat→Nat}(hnb:64≤nb)(hnb2:nb<2^60)(hb:Bs 64 b B): ∃w,yS nb b=some w∧Ws 64 w (BQ B 48):=by
 have s0lt: ∀t,t<16→En B t<4294967296:=fun t ht=>Ud (hb _ (by omega)).2 (hb _ (by omega)).2 (hb _ (by omega)).2 (hb _ (by omega)).2
 obtain⟨w1,h1,h2⟩:=aR (R:=eO) (fun k (w:Nat→Int)=>gY nb b (k:Int) (fun _=>0) w) (fun w=>rM (fun _=>0) w)
  (fun k w=>Ws k w (En B)) 16
  (fun k hk w hw=>⟨_,P6 hnb hnb2 hb k hk,fun i hi=>by
   by_cases hik:i=k
   ·subst hik; simp only[upd,if_true]; exact⟨trivial,s0lt _ hk⟩
   ·simp only[upd,if_neg hik]; exact hw i (by omega)⟩)
  (fun w hw=>by simp(disch:=omega) only[eO,gY,WW]) (fun _=>0) (fun i hi=>by omega)
 obtain⟨w2,h3,h4⟩:=aR (R:=eP) (fun k (w:Nat→Int)=>gZ ((16+k:Nat):Int) (fun _=>0) w) (fun w=>rO (fun _=>0) w)
  (fun k w=>Ws (16+k) w (BQ B k)) 48
  (fun k hk w hw=>⟨_,P7 k hk hw,by exact Ws.push hw YW⟩)
  (fun w hw=>by simp(disch:=omega) only[eP,gZ,WW]) w1 h2
 refine⟨w2,?_,h4⟩
 have e1:aj eO (gY nb b 0 (fun _=>0) (fun _=>0))=some (rM (fun _=>0) w1):=h1
 have e2:aj eP (gZ 16 (fun _=>0) w1)=some (rO (fun _=>0) w2):=h3
 rw[EO,vX]
 simp only[gY,rM]at e1
 simp only[gZ,rO]at e2
 rw[e1]
 simp only
 rw[e2]
theorem RH {v t1 k w x:Nat→Int} {K W X:Nat→Nat}(hk:Ws 64 k K)(hw:Ws 64 w W)(t:Nat)(ht:t<64)(hx:Ws 8 x X):
  ∃y,iE (kY (t:Int) v t1 w k x)=some (.inl (kY ((t+1:Nat):Int) v t1 w k y))∧Ws 8 y (Bn (K t) (W t) X):=by
 obtain⟨e0,l0⟩:=hx 0 (by omega)
 obtain⟨e1,l1⟩:=hx 1 (by omega)
 obtain⟨e2,l2⟩:=hx 2 (by omega)
 obtain⟨e3,l3⟩:=hx 3 (by omega)
 obtain⟨e4,l4⟩:=hx 4 (by omega)
 obtain⟨e5,l5⟩:=hx 5 (by omega)
 obtain⟨e6,l6⟩:=hx 6 (by omega)
 obtain⟨e7,l7⟩:=hx 7 (by omega)
 obtain⟨ek,lk⟩:=hk t ht
 obtain⟨ew,lw⟩:=hw t ht
 have r1:= @fU (X 4) 6 l4
 have r2:= @fU (X 4) 11 l4
 have r3:= @fU (X 4) 25 l4
 have r4:= @fU (X 0) 2 l0
 have r5:= @fU (X 0) 13 l0
 have r6:= @fU (X 0) 22 l0
 have x1:=l8 r1 r2
 have x2:=l8 r4 r5
 have x3:=l8 x1 r3
 have x4:=l8 x2 r6
 have nx:4294967295^^^ X 4<4294967296:=l8 (by decide) l4
 have nn:aA .xor .i64 4294967295 (X 4:Int)=((4294967295^^^ X 4:Nat):Int):=by
  rw[show(4294967295:Int)=((4294967295:Nat):Int)from rfl,ah9 (by decide) (by omega)]
 have a1:X 4&&& X 5<4294967296:=Nat.lt_of_le_of_lt Nat.and_le_left l4
 have a2:(4294967295^^^ X 4)&&& X 6<4294967296:=Nat.lt_of_le_of_lt Nat.and_le_left nx
 have a3:X 0&&& X 1<4294967296:=Nat.lt_of_le_of_lt Nat.and_le_left l0
 have a4:X 0&&& X 2<4294967296:=Nat.lt_of_le_of_lt Nat.and_le_left l0
 have a5:X 1&&& X 2<4294967296:=Nat.lt_of_le_of_lt Nat.and_le_left l1
 have a6:=l8 a1 a2
 have a7:=l8 a3 a4
 have a8:=l8 a7 a5
 refine⟨_,by
  simp(disch:=omega) only[iE,kY,WW,e0,e1,e2,e3,e4,e5,e6,e7,ek,ew,RF,nn,ah9,a0K,LQ,Jk,a0R]
  rfl,?_⟩
 have hl:=Z0 (k:=K t) (w:=W t) (x:=X) (fun i hi=>(hx i hi).2)
 have hch:=aas (f:=X 5) l4 l6
 have hmj:=a9p (X 0) (X 1) (X 2)
 intro i hi
 refine⟨?_,hl i hi⟩
 match i,hi with
 |0,_=>
  simp only[upd,if_neg (show¬(0=1)by decide),if_neg (show¬(0=2)by decide),if_neg (show¬(0=3)by decide),if_neg (show¬(0=4)by decide),if_neg (show¬(0=5)by decide),if_neg (show¬(0=6)by decide),if_neg (show¬(0=7)by decide),if_true,Bn,S1N,S0N]
  rw[hch,hmj]
  congr 2; omega
 |4,_=>
  simp only[upd,if_neg (show¬(4=5)by decide),if_neg (show¬(4=6)by decide),if_neg (show¬(4=7)by decide),if_true,Bn,S1N]
  rw[hch]
 |1,_=>simp only[upd,if_neg (show¬(1=2)by decide),if_neg (show¬(1=3)by decide),if_neg (show¬(1=4)by decide),if_neg (show¬(1=5)by decide),if_neg (show¬(1=6)by decide),if_neg (show¬(1=7)by decide),if_true,Bn]
 |2,_=>simp only[upd,if_neg (show¬(2=3)by decide),if_neg (show¬(2=4)by decide),if_neg (show¬(2=5)by decide),if_neg (show¬(2=6)by decide),if_neg (show¬(2=7)by decide),if_true,Bn]
 |3,_=>simp only[upd,if_neg (show¬(3=4)by decide),if_neg (show¬(3=5)by decide),if_neg (show¬(3=6)by decide),if_neg (show¬(3=7)by decide),if_true,Bn]
 |5,_=>simp only[upd,if_neg (show¬(5=6)by decide),if_neg (show¬(5=7)by decide),if_true,Bn]
 |6,_=>simp only[upd,if_neg (show¬(6=7)by decide),if_true,Bn]
 |7,_=>simp only[upd,if_true,Bn]
theorem RI {v b:Nat→Int} {V B:Nat→Nat} {nb:Nat}(hnb:64≤nb)(hnb2:nb<2^60)(hv:Ws 8 v V)(hb:Bs 64 b B): ∃r,HY v nb b=some r∧Ws 8 r (Nl V B):=by
 obtain⟨k,hk1,hk2⟩:=YV
 obtain⟨w,hw1,hw2⟩:=M7 hnb hnb2 hb
 obtain⟨x,h1,h2⟩:=aR (R:=iE) (fun t (x:Nat→Int)=>kY (t:Int) v (fun _=>0) w k x) (fun x=>xL v (fun _=>0) x)
  (fun t x=>Ws 8 x (a9q kN (BQ B 48) V t)) 64 (fun t ht x hx=>RH hk2 hw2 t ht hx)
  (fun x hx=>by simp(disch:=omega) only[iE,kY,WW]) v hv
 obtain⟨y,h3,h4⟩:=aR (R:=jq) (fun t (o:Nat→Int)=>qF (t:Int) v (fun _=>0) x o) (fun o=>xM (fun _=>0) o)
  (fun t o=> ∀i,i<t→o i=(Nl V B i:Int)) 8
  (fun t ht z hz=>by
   obtain⟨ev,lv⟩:=hv t ht
   obtain⟨ex,lx⟩:=h2 t ht
   refine⟨_,by
    simp(disch:=omega) only[jq,qF,WW,ev,ex,LQ,Jk,a0R]
    rfl,?_⟩
   intro i hi
   by_cases hit:i=t
   ·subst hit
    simp only[upd,if_true,Nl]
    rw[Nat.add_comm]
   ·simp only[upd,if_neg hit]
    exact hz i (by omega))
  (fun x hx=>by simp(disch:=omega) only[jq,qF,WW]) (fun _=>0) (fun i hi=>by omega)
 refine⟨y,?_,fun i hi=>⟨h4 i hi,Nat.mod_lt _ (by decide)⟩⟩
 have e1:aj iE (kY 0 v (fun _=>0) w k v)=some (xL v (fun _=>0) x):=h1
 have e2:aj jq (qF 0 v (fun _=>0) x (fun _=>0))=some (xM (fun _=>0) y):=h3
 rw[Lg,E5,hw1,JZ,hk1]
 simp only[kY,xL]at e1
 simp only[qF,xM]at e2
 simp only
 rw[e1]
 simp only
 rw[e2]
theorem RJ:Hz=Ct:=by rw[Lf,DN]; rfl
theorem Eo {s:ByteArray}(hs:s.size<2^40):tY s=some (yV (bl s)):=by
 obtain⟨nb,b,p1,p2,p3⟩:=P5 hs
 obtain⟨f,f1,f2⟩:=Ue
 have hlen:=Z4 (bl s)
 have hmod:=a9s (bl s)
 have hz:pK (bl s).length<64:=Nat.mod_lt _ (by decide)
 have hsz:=fT s
 have hnb:nb=64*((Tw (bl s)).length/64):=by omega
 generalize hP:Tw (bl s)=P at*
 generalize hM:P.length/64=M at*
 obtain⟨v,v1,v2⟩:=aR (R:=mE) (fun k (v:Nat→Int)=>Gb nb b ((64*k:Nat):Int) v) (fun v=>J9 v) (fun k v=>Ws 8 v (lJ P k)) M
  (fun k hk v hv=>by
   obtain⟨r,r1,r2⟩:=RI (nb:=64*k+64-64*k) (b:=fun j=>b (64*k+j)) (B:=bN P k) (by omega) (by omega) hv (by
    intro i hi
    unfold bN
    rw[if_pos hi]
    exact⟨p3 _ (by omega),UInt8.toNat_lt _⟩)
   refine⟨r,?_,r2⟩
   have e1:((64*k:Nat):Int)+64=((64*k+64:Nat):Int):=by omega
   simp(disch:=omega) only[mE,Gb,WW,e1,Bool.and_true,r1]
   rfl)
  (fun v hv=>by
   simp(disch:=omega) only[mE,Gb,WW]) f f2
 obtain⟨out,o1,o2⟩:=aR (R:=mF) (fun k (g:Nat→Int)=>Gc (4*k) g (k:Int) v) (fun g=>Ja 32 g) (fun k g=> ∀i,i<4*k→g i=(Np (lJ P M) i:Int)) 8
  (fun k hk g hg=>by
   obtain⟨e,lt⟩:=v2 k hk
   have c1:Nat.ble ((4*k+1)*1) 140737488355328=true:=Nat.ble_eq_true_of_le (by omega)
   have c2:Nat.ble (4*k+1) 9223372036854775807=true:=Nat.ble_eq_true_of_le (by omega)
   have c3:Nat.ble ((4*k+1+1)*1) 140737488355328=true:=Nat.ble_eq_true_of_le (by omega)
   have c4:Nat.ble (4*k+1+1) 9223372036854775807=true:=Nat.ble_eq_true_of_le (by omega)
   have c5:Nat.ble ((4*k+1+1+1)*1) 140737488355328=true:=Nat.ble_eq_true_of_le (by omega)
   have c6:Nat.ble (4*k+1+1+1) 9223372036854775807=true:=Nat.ble_eq_true_of_le (by omega)
   have c7:Nat.ble ((4*k+1+1+1+1)*1) 140737488355328=true:=Nat.ble_eq_true_of_le (by omega)
   have c8:Nat.ble (4*k+1+1+1+1) 9223372036854775807=true:=Nat.ble_eq_true_of_le (by omega)
   have hd: ∀s:Nat,lJ P M k/2^s<9223372036854775808:=fun s=>Nat.lt_of_le_of_lt (Nat.div_le_self _ _) (by omega)
   have e255: ∀s:Nat,aA .and .i64 ((lJ P M k/2^s:Nat):Int) 255=((lJ P M k/2^s%256:Nat):Int):=fun s=>by
    rw[show(255:Int)=((255:Nat):Int)from rfl,a0K (hd s) (by decide),show(255:Nat)=2^8-1 from rfl,Nat.and_two_pow_sub_one_eq_mod]
   have e0:bX .i64 ((lJ P M k:Nat):Int) 0=((lJ P M k/2^0:Nat):Int):=a2S (s:=0) (by omega)
   refine⟨_,by
    simp(disch:=omega) only[mF,Gc,e,WW,CC,e0,a9o,e255,RD,Nat.mod_mod,c1,c2,c3,c4,c5,c6,c7,c8,Bool.and_true]
    rfl,?_⟩
   have ltb: ∀a b:Nat,a<b→Nat.blt a b=true:=fun a b h=>Nat.ble_eq_true_of_le h
   have geb: ∀a b:Nat,¬a<b→Nat.blt a b=false:=fun a b h=>by
    cases hb:Nat.blt a b
    ·rfl
    ·exact absurd (Nat.le_of_ble_eq_true hb) h
   intro i hi
   unfold glue
   by_cases hik:i<4*k
   ·rw[ltb i _ (by omega),ltb i _ (by omega),ltb i _ (by omega),ltb i _ hik]
    exact hg i hik
   ·have hdv:i/4=k:=by omega
    have h4:i=4*k∨i=4*k+1∨i=4*k+2∨i=4*k+3:=by omega
    rcases h4 with h4|h4|h4|h4
    ·have hm:i%4=0:=by omega
     rw[ltb i _ (by omega),ltb i _ (by omega),ltb i _ (by omega),geb i _ (by omega),Np,hdv,hm,h4]
     simp only[cond_true,cond_false,Nat.sub_self]; rfl
    ·have hm:i%4=1:=by omega
     rw[ltb i _ (by omega),ltb i _ (by omega),geb i _ (by omega),Np,hdv,hm,h4]
     simp only[cond_true,cond_false,Nat.sub_self]; rfl
    ·have hm:i%4=2:=by omega
     rw[ltb i _ (by omega),geb i _ (by omega),Np,hdv,hm,h4]
     simp only[cond_true,cond_false,Nat.sub_self]; rfl
    ·have hm:i%4=3:=by omega
     rw[geb i _ (by omega),Np,hdv,hm,h4]
     simp only[cond_false,Nat.sub_self]; rfl)
  (fun g hg=>by
   simp(disch:=omega) only[mF,Gc,WW]) (fun _=>0) (fun i hi=>by omega)
 have v1':aj mE (((nb,b),((),(0,()))),(f,()))=some (J9 v):=v1
 have o1':aj mF (((),((0,(fun _=>0)),(0,()))),(v,()))=some (Ja 32 out):=o1
 rw[R7,Lh,p1,RJ,f1]
 simp only[v1',o1']
 rw[OE (v:=lJ P M) (fun j hj=>o2 j (by omega))]
 unfold yV
 rw[hP,hM]
end Go.Pl
