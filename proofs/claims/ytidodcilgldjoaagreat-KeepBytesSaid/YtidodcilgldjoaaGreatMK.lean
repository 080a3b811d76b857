/-
 States, as bytes.
-/
import Derived.Test.YtidodcilgldjoaaGreatMF
import Derived.Test.YtidodcilgldjoaaGreatMA
import Derived.Test.YtidodcilgldjoaaGreatPlA
import Derived.Test.YtidodcilgldjoaaGreatPmatrix
import Derived.Test.YtidodcilgldjoaaGreatPr16
import Derived.Test.YtidodcilgldjoaaGreatPkeep
import Derived.Test.YtidodcilgldjoaaGreatPr38
set_option linter.unusedVariables false
set_option linter.unusedSimpArgs false
namespace Go.Pl
open Go Go.Den Go.Num
open Go.IntKind (i64 u64 u32 u8)
def beN(k n:Nat):List UInt8:=(List.range k).map fun i=>UInt8.ofNat (n/256^(k-1-i)%256)
def nbN(n:Nat):Nat:=(j4 n+7)/8
def be(n:Nat):List UInt8:=beN (nbN n) n
theorem A9(k n:Nat):(beN k n).length=k:=by simp[beN]
theorem nW(n:Nat):(be n).length=nbN n:=A9 _ _
theorem GJ {n:Nat}(h:n<2^256):nbN n≤32:=by
 have:=uD h
 unfold nbN; omega
theorem RL {k n:Nat} {f:Nat→Int}(h: ∀i,i<k→f (k-1-i)=((n/256^i%256:Nat):Int)):bytesOf k f=⟨(beN k n).toArray⟩:=by
 apply xO
 rw[pJ]
 show _=beN k n
 unfold beN
 refine List.map_congr_left fun i hi=>?_
 have hi:=List.mem_range.1 hi
 have:=h (k-1-i) (by omega)
 rw[show k-1-(k-1-i)=i by omega]at this
 rw[this,Int.toNat_natCast]
theorem Vw(n:Nat) {j:Nat}(hj:j<32):n/2^(64*(j/8))%2^64/2^(8*(j%8))%256=n/256^j%256:=by
 have e1:(2:Nat)^64=2^(8*(j%8))*2^(64-8*(j%8)):=by rw[←Nat.pow_add]; congr 1; omega
 rw[e1,Nat.mod_mul_right_div_self,Nat.mod_mod_of_dvd _ (show 256∣2^(64-8*(j%8))from Nat.pow_dvd_pow 2 (m:=8) (by omega)),Nat.div_div_eq_div_mul,←Nat.pow_add]
 congr 2
 rw[show(256:Nat)=2^8 from rfl,←Nat.pow_mul]
 congr 1; omega
theorem RN(m:Nat):u8.wrap ((m:Nat):Int)=((m%256:Nat):Int):=by rw[wrap_u8']; omega
theorem a3i {a:Nat→Int} {n:Nat}(h:IsN a n) {j:Nat}(hj:j<32):(u8.wrap (bX .u64 (a (j/8)) ((8*(j%8):Nat):Int)))=((n/256^j%256:Nat):Int):=by
 rw[h.2 (j/8) (by omega),Ro (Nat.mod_lt _ (by decide)),RN,Vw n hj]
theorem Vx {j:Nat}(hj:j<9223372036854775808):i64.wrap (Int.tdiv (j:Int) 8)=((j/8:Nat):Int):=by
 have:Int.tdiv (j:Int) 8=((j/8:Nat):Int):=rfl
 rw[this,bE (by omega)]
theorem a9u {j:Nat} :i64.wrap (8*(Int.tmod (j:Int) 8))=((8*(j%8):Nat):Int):=by
 have:Int.tmod (j:Int) 8=((j%8:Nat):Int):=rfl
 rw[this,show(8:Int)*((j%8:Nat):Int)=((8*(j%8):Nat):Int)by omega,bE (by omega)]
theorem GK {a:Nat→Int} {n:Nat}(h:IsN a n):Ck a=some ⟨(be n).toArray⟩:=by
 have hb:=GJ h.1
 obtain⟨out,h1,h2⟩:=aR (R:=ji) (S:=Nat→Int) (fun j out=>BF (nbN n:Int) (nbN n) out (nbN n:Int) (j:Int) a) (fun out=>EA (nbN n) out)
  (fun j out=> ∀i,i<j→out (nbN n-1-i)=((n/256^i%256:Nat):Int)) (nbN n)
  (fun j hj out ho=>by
   refine⟨upd out (nbN n-1-j) ((n/256^j%256:Nat):Int),?_,fun i hi=>?_⟩
   ·have e1:=Vx (j:=j) (by omega)
    have e2:=a9u (j:=j)
    have e3:i64.wrap (i64.wrap ((nbN n:Int)-1)-(j:Int))=((nbN n-1-j:Nat):Int):=by
     rw[show(nbN n:Int)-1=((nbN n-1:Nat):Int)by omega,bE (by omega),show((nbN n-1:Nat):Int)-(j:Int)=((nbN n-1-j:Nat):Int)by omega,bE (by omega)]
    have e4:=a3i h (j:=j) (by omega)
    simp(disch:=omega) only[ji,BF,WW,CC,e1,e2,e3,e4,Nat.zero_add]
   ·unfold upd
    by_cases e:i=j
    ·subst e; rw[if_pos rfl]
    ·rw[if_neg (by omega)]; exact ho i (by omega))
  (fun out _=>by simp(disch:=omega) only[ji,BF,WW]) (fun _=>0) (fun i hi=>absurd hi (Nat.not_lt_zero _))
 rw[KJ]; unfold Dv
 have hl:=kR h
 have hbl:j4 n≤256:=uD h.1
 have e0:i64.wrap (Int.tdiv (i64.wrap ((j4 n:Int)+7)) 8)=(nbN n:Int):=by
  rw[show(j4 n:Int)+7=((j4 n+7:Nat):Int)by omega,bE (by omega),Vx (by omega)]; rfl
 simp only[hl,e0]
 have d:((((decide ((0:Int)≤(nbN n:Int)))&&(decide ((nbN n:Int)≤(nbN n:Int))))&&(decide ((((1:Nat):Int)*(nbN n:Int))≤281474976710656)))&&(decide ((nbN n:Int)≤9223372036854775807)))=true:=by
  simp only[Bool.and_eq_true,decide_eq_true_eq]; omega
 rw[d,aJ]
 have h1':aj ji (((),((nbN n:Int),(((Int.toNat (nbN n:Int)),(fun _=>0)),((nbN n:Int),(0,()))))),(a,()))=some (EA (nbN n) out):=h1
 rw[h1']
 show some (bytesOf (nbN n) (fun j=>out (0+j)))=_
 rw[RL (n:=n) (fun i hi=>by rw[Nat.zero_add]; exact h2 i hi)]
 rfl
theorem IsN.putByte {a:Nat→Int} {v d k:Nat}(h:IsN a v)(hv:v<256^k)(hk:k<32)(hd:d<256):
  IsN (upd a (k/8) (aA .or .u64 (a (k/8)) (iK .u64 (u64.wrap (d:Int)) ((8*(k%8):Nat):Int)))) (v+d*256^k):=by
 have e256: ∀m,(256:Nat)^m=2^(8*m):=fun m=>by rw[show(256:Nat)=2^8 from rfl,←Nat.pow_mul]
 have ek:256^k=2^(8*(k%8))*2^(64*(k/8)):=by rw[e256,←Nat.pow_add]; congr 1; omega
 generalize hq:k/8=q at*
 generalize hr:k%8=r at*
 have hq4:q<4:=by omega
 have hr8:r<8:=by omega
 have hD:d*2^(8*r)<2^(8*r+8):=by
  rw[Nat.pow_add,Nat.mul_comm]; exact Nat.mul_lt_mul_of_pos_left hd (Nat.pow_pos (by decide))
 have hp64:2^(8*r+8)≤2^64:=Nat.pow_le_pow_right (by decide) (by omega)
 have hvq:v/2^(64*q)<2^(8*r):=by
  rw[Nat.div_lt_iff_lt_mul (Nat.pow_pos (by decide)),←ek]; exact hv
 have hlim:v/2^(64*q)%2^64=v/2^(64*q):=Nat.mod_eq_of_lt (Nat.lt_of_lt_of_le hvq (Nat.pow_le_pow_right (by decide) (by omega)))
 have hval:aA .or .u64 (a q) (iK .u64 (u64.wrap (d:Int)) ((8*r:Nat):Int))=((v/2^(64*q)+d*2^(8*r):Nat):Int):=by
  have e64:(18446744073709551616:Nat)=2^64:=rfl
  rw[h.2 q hq4,hlim,zQ (by omega),a0J,e64,Nat.mod_eq_of_lt (Nat.lt_of_lt_of_le hD hp64),orU (Nat.lt_of_lt_of_le hvq (by rw[e64]; exact Nat.pow_le_pow_right (by decide) (by omega))) (by rw[e64]; exact Nat.lt_of_lt_of_le hD hp64)]
  congr 1
  rw[Nat.or_comm,Nat.add_comm,Nat.mul_comm d]
  exact(Nat.two_pow_add_eq_or_of_lt hvq d).symm
 rw[hval]
 have hsum:v+d*256^k<256^(k+1):=by
  rw[Nat.pow_succ]
  have:=Nat.mul_le_mul_right (256^k) (show d≤255 by omega)
  generalize 256^k=p at*
  omega
 have h256:256^(k+1)≤2^256:=by rw[e256]; exact Nat.pow_le_pow_right (by decide) (by omega)
 refine⟨Nat.lt_of_lt_of_le hsum h256,fun i hi=>?_⟩
 have eD:d*256^k=d*2^(8*r)*2^(64*q):=by rw[ek,Nat.mul_assoc]
 rw[eD]
 generalize hDD:d*2^(8*r)=D at*
 unfold upd
 by_cases e:i=q
 ·subst e
  rw[if_pos rfl,Nat.add_mul_div_right _ _ (Nat.pow_pos (by decide)),Nat.mod_eq_of_lt]
  have:v/2^(64*i)+D<2^(8*r+8):=by
   have e8:2^(8*r+8)=2^(8*r)*256:=by rw[Nat.pow_add]
   have:D≤255*2^(8*r):=by rw[←hDD]; exact Nat.mul_le_mul_right _ (by omega)
   rw[e8]; omega
  exact Nat.lt_of_lt_of_le this hp64
 ·rw[if_neg e,h.2 i hi]
  congr 1
  rcases Nat.lt_or_gt_of_ne e with hlt|hgt
  ·have e1:D*2^(64*q)=D*2^(64*(q-i-1))*2^64*2^(64*i):=by
    rw[Nat.mul_assoc,Nat.mul_assoc,←Nat.pow_add,←Nat.pow_add]; congr 2; omega
   rw[e1,Nat.add_mul_div_right _ _ (Nat.pow_pos (by decide)),Nat.add_mul_mod_self_right]
  ·have hz: ∀z,z<256^(k+1)→z/2^(64*i)=0:=fun z hz=>Nat.div_eq_of_lt (Nat.lt_of_lt_of_le hz (by rw[e256]; exact Nat.pow_le_pow_right (by decide) (by omega)))
   rw[hz v (by omega),hz _ (by rw[←eD]; exact hsum)]
def iO(l:List UInt8):Bool:=decide (l.length≤32)&& !(decide (0<l.length)&&decide (l.getD 0 0=0))
theorem a9v(l:List UInt8) {k:Nat}(h:k<l.length):jK l%256^(k+1)=jK l%256^k+(l.getD (l.length-1-k) 0).toNat*256^k:=by
 rw[←Em l k h,Nat.mod_pow_succ,Nat.mul_comm]
theorem Jr(s:ByteArray): ∃a,FB s=some (a,if iO (bl s)then 0 else 4)∧(iO (bl s)=true→IsN a (jK (bl s))):=by
 have hsz:s.size=(bl s).length:=rfl
 have hg: ∀i,(s.data.toList.getD i 0)=(bl s).getD i 0:=fun i=>rfl
 rw[NY]; unfold Hf
 generalize hl:bl s=l at*
 by_cases h1:l.length≤32
 case neg=>
  refine⟨fun _=>0,?_,fun h=>?_⟩
  ·rw[bB (show((s.size:Nat):Int)>32 by omega),aJ]
   simp[iO,h1]
  ·simp[iO,h1]at h
 rw[aM (show¬((s.size:Nat):Int)>32 by omega),aG]
 have main:iO l=true→ ∃a,(match aj iB ((s,((),((),((((s.size):Nat):Int),(0,()))))),((fun _=>0),((fun _=>0),())))with
   |none=>none
   |some y=>some (y.2.2.1,(0:Int)):Option ((Nat→Int)×Int))=some (a,0)∧IsN a (jK l):=by
  intro _
  obtain⟨out,h2,h3⟩:=aR (R:=iB) (S:=Nat→Int) (fun k out=>Du s ((s.size:Nat):Int) (k:Int) (fun _=>0) out) (fun out=>Fy (fun _=>0) out)
   (fun k out=>IsN out (jK l%256^k)) l.length
   (fun k hk out ho=>by
    have e1:=Vx (j:=k) (by omega)
    have e2:=a9u (j:=k)
    have e3:i64.wrap (i64.wrap (((s.size:Nat):Int)-1)-(k:Int))=((l.length-1-k:Nat):Int):=by
     rw[hsz,show((l.length:Nat):Int)-1=((l.length-1:Nat):Int)by omega,bE (by omega),show((l.length-1:Nat):Int)-(k:Int)=((l.length-1-k:Nat):Int)by omega,bE (by omega)]
    refine⟨upd out (k/8) (aA .or .u64 (out (k/8)) (iK .u64 (u64.wrap (((l.getD (l.length-1-k) 0).toNat:Nat):Int)) ((8*(k%8):Nat):Int))),?_,?_⟩
    rotate_left
    ·have:=ho.putByte (k:=k) (d:=(l.getD (l.length-1-k) 0).toNat) (Nat.mod_lt _ (Nat.pow_pos (by decide))) (by omega) (UInt8.toNat_lt _)
     exact this.of_eq (a9v l hk).symm
    ·simp(disch:=omega) only[iB,Du,WW,CC,e1,e2,e3,hg,hsz])
   (fun out _=>by simp(disch:=omega) only[iB,Du,WW,hsz]) (fun _=>0) (by rw[Nat.pow_zero,Nat.mod_one]; exact IsN.zero)
  refine⟨out,?_,h3.of_eq (Nat.mod_eq_of_lt (El l))⟩
  have h2':aj iB ((s,((),((),((((s.size):Nat):Int),(0,()))))),((fun _=>0),((fun _=>0),())))=some (Fy (fun _=>0) out):=h2
  rw[h2']
 by_cases h0:0<l.length
 ·rw[bB (show((s.size:Nat):Int)>0 by omega),aJ]
  have hi:inb 0 s.size=true:=by simp only[inb,Bool.and_eq_true,decide_eq_true_eq]; omega
  rw[hi,aJ,hg]
  by_cases hz:l.getD 0 0=0
  ·have no:iO l=false:=by unfold iO; rw[decide_eq_true h0,decide_eq_true hz,Bool.and_self,Bool.not_true,Bool.and_false]
   rw[hz,no]
   exact⟨fun _=>0,rfl,fun h=>by cases h⟩
  ·have hz2:((((l.getD 0 0).toNat:Nat):Int)==0)=false:=by
    rw[beq_eq_false_iff_ne]
    intro e
    apply hz
    have:(l.getD 0 0).toNat=0:=by omega
    exact UInt8.toNat_inj.1 this
   have ok:iO l=true:=by unfold iO; rw[decide_eq_true h1,decide_eq_false hz,Bool.and_false,Bool.not_false,Bool.and_self]
   obtain⟨a,m1,m2⟩:=main ok
   rw[hz2,aG,ok]
   exact⟨a,m1,fun _=>m2⟩
 ·rw[aM (show¬((s.size:Nat):Int)>0 by omega),aG]
  have ok:iO l=true:=by simp[iO,h0,h1]
  obtain⟨a,m1,m2⟩:=main ok
  rw[ok]
  exact⟨a,m1,fun _=>m2⟩
theorem Js(s:ByteArray): ∃a,FR s=some (a,if iO (bl s)then 0 else 4)∧(iO (bl s)=true→IsN a (jK (bl s))):=by
 have hsz:s.size=(bl s).length:=rfl
 have hg: ∀i,(s.data.toList.getD i 0)=(bl s).getD i 0:=fun i=>rfl
 rw[O9]; unfold Ht
 generalize hl:bl s=l at*
 by_cases h1:l.length≤32
 case neg=>
  refine⟨fun _=>0,?_,fun h=>?_⟩
  ·rw[bB (show((s.size:Nat):Int)>32 by omega),aJ]
   simp[iO,h1]
  ·simp[iO,h1]at h
 rw[aM (show¬((s.size:Nat):Int)>32 by omega),aG]
 have main: ∃a,(match aj iC ((s,((),((),(0,())))),((fun _=>0),((fun _=>0),())))with
   |none=>none
   |some y=>some (y.2.2.1,(0:Int)):Option ((Nat→Int)×Int))=some (a,0)∧IsN a (jK l):=by
  obtain⟨out,h2,h3⟩:=aR (R:=iC) (S:=Nat→Int) (fun k out=>DK s (k:Int) (fun _=>0) out) (fun out=>FQ (fun _=>0) out)
   (fun k out=>IsN out (jK (l.take k))) l.length
   (fun k hk out ho=>by
    have hb:=UInt8.toNat_lt (l.getD k 0)
    obtain⟨u,u1,u2⟩:=YT ho 8 (by decide)
    obtain⟨b,b1,b2⟩:=Vo (n:=(((l.getD k 0).toNat:Nat):Int)) (by omega)
    rw[Int.toNat_natCast]at b2
    obtain⟨z,z1,z2⟩:=Vq u2 b2
    have u1:QN out 8=some u:=u1
    have hlt:jK (l.take (k+1))<2^256:=by
     refine Nat.lt_of_lt_of_le (El _) ?_
     rw[List.length_take,show(256:Nat)=2^8 from rfl,←Nat.pow_mul]
     exact Nat.pow_le_pow_right (by decide) (by omega)
    have hs:jK (l.take (k+1))=jK (l.take k)*256+(l.getD k 0).toNat:=by rw[Ie hk,Ic]
    refine⟨z,?_,z2.of_eq ?_⟩
    ·simp(disch:=omega) only[iC,DK,WW,CC,u1,hg,hsz,b1,z1]
    ·rw[Nat.mod_eq_of_lt (show jK (l.take k)*2^8<2^256 by omega),show jK (l.take k)*2^8+(l.getD k 0).toNat=jK (l.take (k+1))by rw[hs],Nat.mod_eq_of_lt hlt])
   (fun out _=>by simp(disch:=omega) only[iC,DK,WW,hsz]) (fun _=>0) (by exact IsN.zero)
  have h2':aj iC ((s,((),((),(0,())))),((fun _=>0),((fun _=>0),())))=some (FQ (fun _=>0) out):=h2
  rw[h2']
  exact⟨out,rfl,h3.of_eq (by rw[List.take_length])⟩
 obtain⟨a,m1,m2⟩:=main
 by_cases h0:0<l.length
 ·rw[bB (show((s.size:Nat):Int)>0 by omega),aJ]
  have hi:inb 0 s.size=true:=by simp only[inb,Bool.and_eq_true,decide_eq_true_eq]; omega
  rw[hi,aJ,hg]
  by_cases hz:l.getD 0 0=0
  ·have no:iO l=false:=by unfold iO; rw[decide_eq_true h0,decide_eq_true hz,Bool.and_self,Bool.not_true,Bool.and_false]
   rw[hz,no]
   exact⟨fun _=>0,rfl,fun h=>by cases h⟩
  ·have hz2:((((l.getD 0 0).toNat:Nat):Int)==0)=false:=by
    rw[beq_eq_false_iff_ne]
    intro e
    apply hz
    have:(l.getD 0 0).toNat=0:=by omega
    exact UInt8.toNat_inj.1 this
   have ok:iO l=true:=by unfold iO; rw[decide_eq_true h1,decide_eq_false hz,Bool.and_false,Bool.not_false,Bool.and_self]
   rw[hz2,aG,ok]
   exact⟨a,m1,fun _=>m2⟩
 ·rw[aM (show¬((s.size:Nat):Int)>0 by omega),aG]
  have ok:iO l=true:=by simp[iO,h0,h1]
  rw[ok]
  exact⟨a,m1,fun _=>m2⟩
theorem Z5 {α:Type} {n i:Nat} {f g:Nat→α}(h:i<n):glue n f g i=f i:=by unfold glue; rw[sU.2 h]; rfl
theorem Z6 {α:Type} {n i:Nat} {f g:Nat→α}(h:n≤i):glue n f g i=g (i-n):=by
 unfold glue
 have:Nat.blt i n=false:=by cases hb:Nat.blt i n with|false=>rfl|true=>exact absurd (sU.1 hb) (by omega)
 rw[this]; rfl
theorem Jt(v k:Nat):v%2^(k+1)=v%2^k+2^k*(v.testBit k).toNat:=by
 rw[Nat.mod_pow_succ,Nat.testBit_eq_decide_div_mod_eq]
 have:v/2^k%2<2:=Nat.mod_lt _ (by decide)
 by_cases h:v/2^k%2=1
 ·rw[decide_eq_true h,h]; rfl
 ·rw[decide_eq_false h,show v/2^k%2=0 by omega]; rfl
theorem GL {a:Nat→Int} {n:Nat}(h:IsN a n):Cr a=some ⟨(be n).toArray⟩:=by
 have hb:=GJ h.1
 obtain⟨⟨m,out⟩,h1,h2,h3⟩:=aR (R:=jm) (S:=Nat×(Nat→Int)) (fun j s=>BH s.1 s.2 ((nbN n:Int)-1-(j:Int)) a) (fun s=>xC s.1 s.2)
  (fun j s=>s.1=j∧ ∀i,i<j→s.2 i=((n/256^(nbN n-1-i)%256:Nat):Int)) (nbN n)
  (fun j hj s ho=>by
   obtain⟨m,out⟩:=s
   obtain⟨rfl,ho⟩:=ho
   simp only at hj ho⊢
   obtain⟨x,h5,h6⟩:=aR (R:=jl) (S:=Int) (fun k x=>BG m out ((nbN n:Int)-1-(m:Int)) x (k:Int) a) (fun x=>EI m out ((nbN n:Int)-1-(m:Int)) x a)
    (fun k x=>x=((n/256^(nbN n-1-m)%2^k:Nat):Int)) 8
    (fun k hk x hx=>by
     subst hx
     have e1:i64.wrap (i64.wrap (8*((nbN n:Int)-1-(m:Int)))+(k:Int))=((8*(nbN n-1-m)+k:Nat):Int):=by
      rw[show(8:Int)*((nbN n:Int)-1-(m:Int))=((8*(nbN n-1-m):Nat):Int)by omega,bE (by omega),show((8*(nbN n-1-m):Nat):Int)+(k:Int)=((8*(nbN n-1-m)+k:Nat):Int)by omega,bE (by omega)]
     have e2:=Vr h (((8*(nbN n-1-m)+k:Nat):Int))
     generalize hv:n/256^(nbN n-1-m)=v at*
     have htb:n.testBit (8*(nbN n-1-m)+k)=v.testBit k:=by
      rw[←hv,show(256:Nat)=2^8 from rfl,←Nat.pow_mul,Nat.testBit_div_two_pow,Nat.add_comm]
     rw[Int.toNat_natCast,htb]at e2
     refine⟨aA .or .i64 ((v%2^k:Nat):Int) (iK .i64 (if(0:Int)≤((8*(nbN n-1-m)+k:Nat):Int)∧v.testBit k=true then 1 else 0) (k:Int)),?_,?_⟩
     ·simp(disch:=omega) only[jl,BG,WW,CC,e1,e2]
     ·have hk8:2^k≤128:=Nat.pow_le_pow_right (by decide) (show k≤7 by omega)
      have hlt:v%2^k<2^k:=Nat.mod_lt _ (Nat.pow_pos (by decide))
      cases hbit:v.testBit k with
      |false=>
       rw[if_neg (fun e=>by cases e.2)]
       have:iK .i64 0 (k:Int)=((0:Nat):Int):=by simp[iK]; rfl
       rw[this,orS (by omega) (by omega),Nat.or_zero,Jt,hbit]
       simp
      |true=>
       rw[if_pos ⟨by omega,rfl⟩]
       have:iK .i64 1 (k:Int)=((2^k:Nat):Int):=by
        have hk9:k<8:=hk
        match k,hk9 with
        |0,_=>rfl
        |1,_=>rfl
        |2,_=>rfl
        |3,_=>rfl
        |4,_=>rfl
        |5,_=>rfl
        |6,_=>rfl
        |7,_=>rfl
       rw[this,orS (by omega) (by omega),Jt,hbit,Nat.or_comm]
       congr 1
       have:=Nat.two_pow_add_eq_or_of_lt hlt 1
       rw[Nat.mul_one]at this
       rw[Nat.add_comm]; simpa using this.symm)
    (fun x _=>by simp(disch:=omega) only[jl,BG,WW]) 0 (by simp)
   subst h6
   have h5':aj jl (((),((m,out),((nbN n:Int)-1-(m:Int),(0,(0,()))))),(a,()))=some _:=h5
   have ea:aA .and .i64 ((n/256^(nbN n-1-m)%2^8:Nat):Int) 255=((n/256^(nbN n-1-m)%256:Nat):Int):=by
    have:=a0K (a:=n/256^(nbN n-1-m)%2^8) (b:=255) (by omega) (by decide)
    rw[show((255:Nat):Int)=255 from rfl]at this
    rw[this,show(255:Nat)=2^8-1 from rfl,Nat.and_two_pow_sub_one_eq_mod,Nat.mod_mod]
   refine⟨(m+1,glue m out (fun j=>(upd (fun _=>0) 0 (u8.wrap (((n/256^(nbN n-1-m)%256:Nat):Int)))) (0+j))),?_,rfl,fun i hi=>?_⟩
   ·have e9:i64.wrap ((nbN n:Int)-1-(m:Int)-1)=(nbN n:Int)-1-((m+1:Nat):Int):=by rw[wrap_i64 (by omega)]; omega
    have d1:decide ((nbN n:Int)-1-(m:Int)≥0)=true:=bB (by omega)
    have d2:(Nat.ble ((m+1)*1) 140737488355328&&Nat.ble (m+1) 9223372036854775807)=true:=by
     rw[Bool.and_eq_true,Nat.ble_eq,Nat.ble_eq]; omega
    simp only[jm,BH,d1,aJ,h5',EI,d2,ea,e9]
   ·by_cases e:i<m
    ·dsimp only
     rw[Z5 e]; exact ho i e
    ·obtain rfl:i=m:=by omega
     dsimp only
     rw[Z6 (Nat.le_refl _),Nat.sub_self]
     show u8.wrap _=_
     rw[RN,Nat.mod_mod])
  (fun s hs=>by
   have d1:decide ((nbN n:Int)-1-(nbN n:Int)≥0)=false:=aM (by omega)
   simp only[jm,BH,d1,aG]) (0,fun _=>0) ⟨rfl,fun i hi=>absurd hi (Nat.not_lt_zero _)⟩
 have hbl:j4 n≤256:=uD h.1
 have e0:i64.wrap (i64.wrap (Int.tdiv (i64.wrap ((j4 n:Int)+7)) 8)-1)=(nbN n:Int)-1-((0:Nat):Int):=by
  rw[show(j4 n:Int)+7=((j4 n+7:Nat):Int)by omega,bE (by omega),Vx (by omega)]
  show i64.wrap ((nbN n:Int)-1)=_
  rw[wrap_i64 (by omega)]; omega
 rw[KW]; unfold DJ
 have h1':aj jm (((),((0,(fun _=>0)),((nbN n:Int)-1-((0:Nat):Int),()))),(a,()))=some (xC m out):=h1
 simp only[Vp h,e0,h1',xC]
 simp only at h2
 subst h2
 rw[RL (n:=n) (fun i hi=>by
  have:out (nbN n-1-i)=_:=h3 (nbN n-1-i) (by omega)
  rw[Nat.zero_add,this,show nbN n-1-(nbN n-1-i)=i by omega])]
 rfl
theorem Z7(m:Nat):(256:Nat)^m=2^(8*m):=by rw[show(256:Nat)=2^8 from rfl,←Nat.pow_mul]
theorem a9w(k n:Nat):beN (k+1) n=beN k (n/256)++[UInt8.ofNat (n%256)]:=by
 unfold beN
 rw[List.range_succ,List.map_append,List.map_singleton]
 congr 1
 ·refine List.map_congr_left fun i hi=>?_
  have hi:=List.mem_range.1 hi
  rw[Nat.div_div_eq_div_mul,show k+1-1-i=(k-1-i)+1 by omega,Nat.pow_succ,Nat.mul_comm 256]
 ·rw[show k+1-1-k=0 by omega,Nat.pow_zero,Nat.div_one]
theorem RO: ∀(k n:Nat),jK (beN k n)=n%256^k
 |0,n=>by rw[Nat.pow_zero,Nat.mod_one]; rfl
 |k+1,n=>by
  rw[a9w,Ic,RO k,Nat.pow_succ,Nat.mul_comm (256^k),Nat.mod_mul]
  have:(UInt8.ofNat (n%256)).toNat=n%256:=by rw[UInt8.toNat_ofNat']; exact Nat.mod_mod _ _
  rw[this]; omega
theorem Z8(l:List UInt8):beN l.length (jK l)=l:=by
 apply List.ext_getElem (A9 _ _)
 intro i h1 h2
 simp only[beN,List.getElem_map,List.getElem_range]
 rw[Em l _ (by omega),show l.length-1-(l.length-1-i)=i by omega,List.getD_eq_getElem?_getD,List.getElem?_eq_getElem h2]
 show UInt8.ofNat l[i].toNat=_
 rw[UInt8.ofNat_toNat]
theorem a9x {n:Nat}(h:n<2^256):iO (be n)=true∧jK (be n)=n:=by
 have hb:=GJ h
 have hlt:=I9 n
 have e1:jK (be n)=n:=by
  unfold be
  rw[RO,Nat.mod_eq_of_lt]
  refine Nat.lt_of_lt_of_le hlt ?_
  rw[Z7]; exact Nat.pow_le_pow_right (by decide) (by unfold nbN; omega)
 refine⟨?_,e1⟩
 unfold iO
 rw[nW,decide_eq_true hb,Bool.true_and]
 by_cases h0:0<nbN n
 ·have hz:(be n).getD 0 0≠0:=by
   have hn0:n≠0:=by
    intro e; subst e
    have:j4 0≤0:=uD (by decide)
    unfold nbN at h0; omega
   obtain⟨h3,h4⟩:=Rp hn0
   have hd:=Em (be n) (nbN n-1) (by rw[nW]; omega)
   rw[e1,nW,Nat.sub_self]at hd
   intro e
   rw[e]at hd
   have hd:n/256^(nbN n-1)%256=0:=hd
   have h5:256^(nbN n-1)≤n:=Nat.le_trans (by rw[Z7]; exact Nat.pow_le_pow_right (by decide) (by unfold nbN; omega)) h4
   have h6:n/256^(nbN n-1)<256:=by
    rw[Nat.div_lt_iff_lt_mul (Nat.pow_pos (by decide)),Nat.mul_comm,←Nat.pow_succ]
    refine Nat.lt_of_lt_of_le hlt ?_
    rw[Z7]; exact Nat.pow_le_pow_right (by decide) (by unfold nbN; omega)
   have h7:0<n/256^(nbN n-1):=Nat.div_pos h5 (Nat.pow_pos (by decide))
   omega
  rw[decide_eq_false hz,Bool.and_false]; rfl
 ·rw[decide_eq_false h0,Bool.false_and]; rfl
theorem Vy {l:List UInt8}(h:iO l=true):be (jK l)=l:=by
 have:nbN (jK l)=l.length:=by
  have h1:=El l
  rw[Z7]at h1
  have h2:=uD h1
  unfold nbN
  rcases Nat.eq_zero_or_pos l.length with e|e
  ·omega
  ·have hz: ¬l.getD 0 0=0:=by
    intro e0
    unfold iO at h
    rw[decide_eq_true e,decide_eq_true e0]at h
    simp at h
   have hd:=Em l (l.length-1) (by omega)
   rw[Nat.sub_self]at hd
   have h3:256^(l.length-1)≤jK l:=by
    rcases Nat.lt_or_ge (jK l) (256^(l.length-1))with h4|h4
    ·rw[Nat.div_eq_of_lt h4]at hd
     exact absurd (UInt8.toNat_inj.1 (show(l.getD 0 0).toNat=(0:UInt8).toNat by rw[←hd]; rfl)) hz
    ·exact h4
   have h5:=I9 (jK l)
   have h6:8*(l.length-1)<j4 (jK l):=by
    rcases Nat.lt_or_ge (8*(l.length-1)) (j4 (jK l))with h7|h7
    ·exact h7
    ·have:=Nat.pow_le_pow_right (n:=2) (by decide) h7
     rw[Z7]at h3; omega
   omega
 unfold be
 rw[this,Z8]
end Go.Pl
namespace Go.Pl
open Go Go.Den Go.Num
open Go.IntKind (i64 u64 u32 u8)
theorem Ah.app {n:Nat} {b:Nat→Int} {l:List UInt8}(h:Ah n b l)(s:ByteArray):Ah (n+s.size) (glue n b (fun i=>(((s).data.toList.getD i 0).toNat:Int))) (l++bl s):=by
 refine⟨by rw[List.length_append,h.1]; rfl,fun j hj=>?_⟩
 by_cases e:j<n
 ·rw[Z5 e,h.2 j e,List.getD_eq_getElem?_getD,List.getD_eq_getElem?_getD,List.getElem?_append_left (by have:=h.1; omega)]
 ·rw[Z6 (by omega),List.getD_eq_getElem?_getD (l:=l++bl s),List.getElem?_append_right (by have:=h.1; omega),←h.1,←List.getD_eq_getElem?_getD]
theorem Ah.bytes {n:Nat} {b:Nat→Int} {l:List UInt8}(h:Ah n b l):bl (bytesOf n b)=l:=by
 rw[pJ]
 apply List.ext_getElem
 ·simp[h.1]
 ·intro i h1 h2
  simp only[List.getElem_map,List.getElem_range]
  rw[h.2 i (by simpa using h1),Int.toNat_natCast,List.getD_eq_getElem?_getD,List.getElem?_eq_getElem h2]
  show UInt8.ofNat l[i].toNat=_
  rw[UInt8.ofNat_toNat]
theorem CZ {n:Nat}(v:Int)(h:v=(n:Int)):u8.wrap v=((UInt8.ofNat n).toNat:Int):=by
 subst h
 rw[RN,UInt8.toNat_ofNat']
structure xZ(n:Nat)(m:Nat→SlV (Nat→Int))(M:List (List Nat)):Prop where
 sz:n=M.length
 ms: ∀i,i<n→(m i).isMs=false
 len: ∀i,i<n→(m i).len=(M.getD i []).length
 is: ∀i,i<n→ ∀j,j<(m i).len→IsN (SlV.fn (fun _=>0) (m i) j) ((M.getD i []).getD j 0)
def yY(M:List (List Nat))(i:Nat):Prop:=(M.getD i []).length=(M.getD 0 []).length∧1≤(M.getD i []).length∧(M.getD i []).length≤7
def OG(M:List (List Nat)):Prop:=(1≤M.length∧M.length≤25)∧ ∀i,i<M.length→yY M i
noncomputable instance evenD(M:List (List Nat)):Decidable (OG M):=Classical.propDecidable _
noncomputable def ql(M:List (List Nat)):Bool:=decide (OG M)
def K4(n:Nat):List UInt8:=UInt8.ofNat (nbN n)::be n
def xP(r:List Nat):List UInt8:=r.flatMap K4
noncomputable def fG(M:List (List Nat)):List UInt8:=if ql M then UInt8.ofNat M.length::UInt8.ofNat (M.getD 0 []).length::M.flatMap xP else []
theorem D5 {n:Nat} {m:Nat→SlV (Nat→Int)} {M:List (List Nat)}(h:xZ n m M)(hn:n<9223372036854775808):wJ n m=some (ql M):=by
 obtain⟨y,h1,h2⟩:=gK (R:=bO) (S:=Unit) (fun i _=>gX n m (n:Int) (i:Int) n m) (fun i _=> ∀k,k<i→yY M k)
  (fun y=>(∃t:Int,0≤t∧y=jY t n m∧ ¬ ∀k,k<n→yY M k)∨(y=wI n m∧ ∀k,k<n→yY M k)) n
  (fun i hi _ hp=>by
   have m1:=h.ms i hi; have m0:=h.ms 0 (by omega)
   have l1:=h.len i hi; have l0:=h.len 0 (by omega)
   have bad: ¬yY M i→(∃t:Int,0≤t∧jY (i:Int) n m=jY t n m∧ ¬ ∀k,k<n→yY M k):=fun hb=>⟨i,by omega,rfl,fun hg=>hb (hg i hi)⟩
   by_cases c1:(m i).len=(m 0).len
   case neg=>
    refine .inr ⟨_,?_,.inl (bad fun g=>c1 (by rw[l1,l0]; exact g.1))⟩
    have e:((((m i).len:Nat):Int) !=(((m 0).len:Nat):Int))=true:=by rw[bne_iff_ne]; omega
    simp(disch:=omega) only[bO,gX,WW,CC,m1,m0,e]
   have e:((((m i).len:Nat):Int) !=(((m 0).len:Nat):Int))=false:=by rw[c1]; simp
   by_cases c2:(((m i).len:Nat):Int)<1
   ·refine .inr ⟨_,?_,.inl (bad fun g=>by have:=g.2.1; omega)⟩
    simp(disch:=omega) only[bO,gX,WW,CC,m1,m0,e,bB c2]
   by_cases c3:(((m i).len:Nat):Int)>7
   ·refine .inr ⟨_,?_,.inl (bad fun g=>by have:=g.2.2; omega)⟩
    simp(disch:=omega) only[bO,gX,WW,CC,m1,m0,e,aM c2,bB c3]
   ·refine .inl ⟨(),?_,fun k hk=>?_⟩
    ·simp(disch:=omega) only[bO,gX,WW,CC,m1,m0,e,aM c2,aM c3]
    ·rcases Nat.lt_or_ge k i with hlt|hge
     ·exact hp k hlt
     ·obtain rfl:k=i:=by omega
      exact⟨by rw[←l1,←l0]; exact c1,by omega,by omega⟩)
  (fun _ hp=>⟨_,by simp(disch:=omega) only[bO,gX,WW],.inr ⟨rfl,hp⟩⟩) () (fun k hk=>absurd hk (Nat.not_lt_zero _))
 have h1':aj bO (((n,m),((),(((n:Nat):Int),(0,())))),((n,m),()))=some y:=h1
 rw[FU]; unfold yM
 rw[h1']
 have hn':=h.sz
 rcases h2 with⟨t,ht,rfl,hb⟩|⟨rfl,hg⟩
 ·have:ql M=false:=decide_eq_false fun g=>hb fun k hk=>g.2 k (by omega)
  rw[this]
  simp only[jY,bB (show t≥0 by omega),Bool.not_true,aG]
 ·simp only[wI]
  unfold ql
  by_cases c1:1≤n
  ·rw[bB (show((n:Nat):Int)≥1 by omega),aJ]
   congr 1
   apply Bool.eq_iff_iff.2
   rw[decide_eq_true_eq,decide_eq_true_eq]
   exact⟨fun g=>⟨⟨by omega,by omega⟩,fun k hk=>hg k (by omega)⟩,fun g=>by have:=g.1.2; omega⟩
  ·rw[aM (show¬((n:Nat):Int)≥1 by omega),aG]
   congr 1
   exact(decide_eq_false fun g=>by have:=g.1.1; omega).symm
theorem Tx {n:Nat} {m:Nat→SlV (Nat→Int)} {M:List (List Nat)}(h:xZ n m M)(hn:n<9223372036854775808):Lr n m=some (ql M):=by
 obtain⟨y,h1,h2⟩:=gK (R:=gD) (S:=Unit) (fun i _=>qd n m (i:Int)) (fun i _=> ∀k,k<i→yY M k)
  (fun y=>(y=Rb false∧ ¬ ∀k,k<n→yY M k)∨(y=Gf n m∧ ∀k,k<n→yY M k)) n
  (fun i hi _ hp=>by
   have m1:=h.ms i hi; have m0:=h.ms 0 (by omega)
   have l1:=h.len i hi; have l0:=h.len 0 (by omega)
   by_cases c1:(m i).len=(m 0).len
   case neg=>
    refine .inr ⟨_,?_,.inl ⟨rfl,fun hg=>c1 (by rw[l1,l0]; exact(hg i hi).1)⟩⟩
    have e:((((m i).len:Nat):Int) !=(((m 0).len:Nat):Int))=true:=by rw[bne_iff_ne]; omega
    simp(disch:=omega) only[gD,qd,WW,CC,m1,m0,e]
   have e:((((m i).len:Nat):Int) !=(((m 0).len:Nat):Int))=false:=by rw[c1]; simp
   by_cases c2:(((m i).len:Nat):Int)<1
   ·refine .inr ⟨_,?_,.inl ⟨rfl,fun hg=>by have:=(hg i hi).2.1; omega⟩⟩
    simp(disch:=omega) only[gD,qd,WW,CC,m1,m0,e,bB c2]
   by_cases c3:(((m i).len:Nat):Int)>7
   ·refine .inr ⟨_,?_,.inl ⟨rfl,fun hg=>by have:=(hg i hi).2.2; omega⟩⟩
    simp(disch:=omega) only[gD,qd,WW,CC,m1,m0,e,aM c2,bB c3]
   ·refine .inl ⟨(),?_,fun k hk=>?_⟩
    ·simp(disch:=omega) only[gD,qd,WW,CC,m1,m0,e,aM c2,aM c3]
    ·rcases Nat.lt_or_ge k i with hlt|hge
     ·exact hp k hlt
     ·obtain rfl:k=i:=by omega
      exact⟨by rw[←l1,←l0]; exact c1,by omega,by omega⟩)
  (fun _ hp=>⟨_,by simp(disch:=omega) only[gD,qd,WW],.inr ⟨rfl,hp⟩⟩) () (fun k hk=>absurd hk (Nat.not_lt_zero _))
 have h1':aj gD (((n,m),(0,())),())=some y:=h1
 rw[Ol]; unfold I4
 rw[h1']
 have hn':=h.sz
 rcases h2 with⟨rfl,hb⟩|⟨rfl,hg⟩
 ·have:ql M=false:=decide_eq_false fun g=>hb fun k hk=>g.2 k (by omega)
  rw[this]
 ·simp only[Gf]
  unfold ql
  by_cases c1:1≤n
  ·rw[bB (show((n:Nat):Int)≥1 by omega),aJ]
   congr 1
   apply Bool.eq_iff_iff.2
   rw[decide_eq_true_eq,decide_eq_true_eq]
   exact⟨fun g=>⟨⟨by omega,by omega⟩,fun k hk=>hg k (by omega)⟩,fun g=>by have:=g.1.2; omega⟩
  ·rw[aM (show¬((n:Nat):Int)≥1 by omega),aG]
   congr 1
   exact(decide_eq_false fun g=>by have:=g.1.1; omega).symm
theorem Ig {α β:Type}(f:α→List β)(l:List α)(k:Nat)(d:α)(h:k<l.length):(l.take (k+1)).flatMap f=(l.take k).flatMap f++f (l.getD k d):=by
 rw[List.take_add_one,List.getElem?_eq_getElem h,List.flatMap_append,List.getD_eq_getElem?_getD,List.getElem?_eq_getElem h]
 simp
theorem Z9(n:Nat):(K4 n).length=nbN n+1:=by simp[K4,nW]
theorem a9y {nb:Nat} {b:Nat→Int} {l:List UInt8}(h:Ah nb b l) {a:Nat→Int} {n:Nat}(ha:IsN a n):
  Ah (nb+1+(ByteArray.mk (be n).toArray).size) (glue (nb+1) (glue nb b (fun j=>(upd (fun _=>0) 0 (u8.wrap (((ByteArray.mk (be n).toArray).size:Nat):Int))) (0+j))) (fun i=>((((ByteArray.mk (be n).toArray)).data.toList.getD i 0).toNat:Int))) (l++K4 n):=by
 have h1:=h.push (CZ (n:=nbN n) (((ByteArray.mk (be n).toArray).size:Nat):Int) (by congr 1; exact nW n))
 have h2:=h1.app (ByteArray.mk (be n).toArray)
 rw[List.append_assoc]at h2
 exact h2
theorem xZ.small {n:Nat} {m:Nat→SlV (Nat→Int)} {M:List (List Nat)}(h:xZ n m M)(he:ql M=true):(1≤n∧n≤25)∧ ∀i,i<n→(m i).len≤7:=by
 obtain⟨⟨g1,g2⟩,g3⟩:OG M:=of_decide_eq_true he
 have:=h.sz
 exact⟨⟨by omega,by omega⟩,fun i hi=>by rw[h.len i hi]; exact(g3 i (by omega)).2.2⟩
theorem M8 {n:Nat} {m:Nat→SlV (Nat→Int)} {M:List (List Nat)}(h:xZ n m M)(hn:n<9223372036854775808):yO n m=some ⟨(fG M).toArray⟩:=by
 rw[EN]; unfold vW
 rw[D5 h hn]
 cases he:ql M with
 |false=>simp only[Bool.not_false,aJ,fG,he]; rfl
 |true=>
  obtain⟨⟨hn1,hn2⟩,hl7⟩:=h.small he
  have h0:=h.ms 0 (by omega)
  obtain⟨⟨nb,b⟩,h1,h2,h3⟩:=aR (R:=fO) (S:=Nat×(Nat→Int)) (fun i s=>vG n m (n:Int) (i:Int) () s.1 s.2) (fun s=>zL () s.1 s.2)
   (fun i s=>Ah s.1 s.2 ((UInt8.ofNat n::UInt8.ofNat (m 0).len::[])++(M.take i).flatMap xP)∧s.1≤2+i*300) n
   (fun i hi s hs=>by
    obtain⟨nb,b⟩:=s
    obtain⟨hs,hs2⟩:=hs
    simp only at hs hs2⊢
    have hms:=h.ms i hi; have hl:=h.len i hi; have h7:=hl7 i hi
    obtain⟨⟨nc,c⟩,g1,g2,g3⟩:=aR (R:=fM) (S:=Nat×(Nat→Int)) (fun k s=>vF n m (n:Int) (i:Int) (m i).len (SlV.fn (fun _=>0) (m i)) (((m i).len:Nat):Int) (k:Int) () s.1 s.2) (fun s=>zK n m (n:Int) (i:Int) () s.1 s.2)
     (fun k s=>Ah s.1 s.2 ((UInt8.ofNat n::UInt8.ofNat (m 0).len::[])++(M.take i).flatMap xP++((M.getD i []).take k).flatMap K4)∧s.1≤nb+k*33) (m i).len
     (fun k hk s hs=>by
      obtain⟨nc,c⟩:=s
      obtain⟨hc,hc2⟩:=hs
      simp only at hc hc2⊢
      have hx:=h.is i hi k hk
      have hb:=GK hx
      have hnb:=GJ hx.1
      have hsz:(ByteArray.mk (be ((M.getD i []).getD k 0)).toArray).size=nbN ((M.getD i []).getD k 0):=nW _
      have hp:=a9y hc hx
      rw[List.append_assoc,←Ig K4 _ k 0 (by omega)]at hp
      refine⟨(_,_),?_,hp,by simp only; omega⟩
      have d1:(Nat.ble ((nc+1)*1) 140737488355328&&Nat.ble (nc+1) 9223372036854775807)=true:=by rw[Bool.and_eq_true,Nat.ble_eq,Nat.ble_eq]; omega
      have d2:(Nat.ble (((nc+1)+(ByteArray.mk (be ((M.getD i []).getD k 0)).toArray).size)*1) 140737488355328&&Nat.ble ((nc+1)+(ByteArray.mk (be ((M.getD i []).getD k 0)).toArray).size) 9223372036854775807)=true:=by rw[Bool.and_eq_true,Nat.ble_eq,Nat.ble_eq]; omega
      simp(disch:=omega) only[fM,vF,WW,CC,hb,d1,d2]
      rfl)
     (fun s _=>by simp(disch:=omega) only[fM,vF,WW]) (nb,b) ⟨by simpa using hs,by simp⟩
    have g1':aj fM (((),((n,m),((n:Int),((i:Int),(((m i).len,SlV.fn (fun _=>0) (m i)),((((m i).len:Nat):Int),(0,()))))))),(((),(nb,b)),()))=some _:=g1
    refine⟨(nc,c),?_,?_,by simp only at g3⊢; omega⟩
    ·simp(disch:=omega) only[fO,vG,WW,CC,hms,g1',zK]
    ·simp only at g2⊢
     rw[hl,List.take_length,List.append_assoc]at g2
     rw[Ig xP M i [] (by have:=h.sz; omega)]
     exact g2)
   (fun s _=>by simp(disch:=omega) only[fO,vG,WW]) (2,(glue 1 (glue 0 (fun _=>0) (fun j=>(upd (fun _=>0) 0 (u8.wrap ((n:Nat):Int))) (0+j))) (fun j=>(upd (fun _=>0) 0 (u8.wrap (((SlV.len (m 0)):Nat):Int))) (0+j))))
   ⟨by
    have e0:Ah 0 (fun _=>0) []:=⟨rfl,fun j hj=>absurd hj (Nat.not_lt_zero _)⟩
    have e1:=e0.push (CZ (n:=n) ((n:Nat):Int) rfl)
    have e2:=e1.push (CZ (n:=(m 0).len) (((m 0).len:Nat):Int) rfl)
    simpa using e2,by simp⟩
  have h1':aj fO (((),((n,m),(((n:Nat):Int),(0,())))),(((),(2,(glue 1 (glue 0 (fun _=>0) (fun j=>(upd (fun _=>0) 0 (u8.wrap ((n:Nat):Int))) (0+j))) (fun j=>(upd (fun _=>0) 0 (u8.wrap (((SlV.len (m 0)):Nat):Int))) (0+j))))),()))=some _:=h1
  have hi:inb 0 n=true:=by simp only[inb,Bool.and_eq_true,decide_eq_true_eq]; omega
  simp only at h2 h3
  have d:Nat.ble nb 9223372036854775807=true:=by rw[Nat.ble_eq]; omega
  simp only[Bool.not_true,aG,hi,aJ,h0,h1',zL,d,decide_true,Bool.true_and]
  congr 1
  apply xO
  rw[h2.bytes,h.sz,List.take_length,←h.sz,h.len 0 (by omega),h.sz]
  show _=fG M
  unfold fG
  rw[he]; rfl
theorem Ih(a b:ByteArray):bl (a++b)=bl a++bl b:=by simp[bl]
theorem Za(s:ByteArray)(v:Int) {n:Nat}(h:v=(n:Int)):bl (s++bytesOf 1 (fun j=>upd (fun _=>0) 0 (u8.wrap v) (0+j)))=bl s++[UInt8.ofNat n]:=by
 rw[Ih,pJ]
 congr 1
 show [UInt8.ofNat (u8.wrap v).toNat]=_
 rw[CZ v h,Int.toNat_natCast,UInt8.ofNat_toNat]
theorem GN {n:Nat} {m:Nat→SlV (Nat→Int)} {M:List (List Nat)}(h:xZ n m M)(hn:n<9223372036854775808):CS n m=some ⟨(fG M).toArray⟩:=by
 rw[Ls]; unfold Ea
 rw[Tx h hn]
 cases he:ql M with
 |false=>simp only[Bool.not_false,aJ,fG,he]; rfl
 |true=>
  obtain⟨⟨hn1,hn2⟩,hl7⟩:=h.small he
  have h0:=h.ms 0 (by omega)
  generalize ht:bytesOf 2 (fun j=>(upd (upd (fun _=>0) 0 (u8.wrap ((n:Nat):Int))) 1 (u8.wrap (((SlV.len (m 0)):Nat):Int))) (0+j))=t
  have htl:bl t=UInt8.ofNat n::UInt8.ofNat (m 0).len::[]:=by
   rw[←ht,pJ]
   show [UInt8.ofNat (u8.wrap _).toNat,UInt8.ofNat (u8.wrap _).toNat]=_
   rw[CZ (n:=n) _ rfl,CZ (n:=(m 0).len) _ rfl,Int.toNat_natCast,Int.toNat_natCast,UInt8.ofNat_toNat,UInt8.ofNat_toNat]
  obtain⟨s,h1,h2,h3⟩:=aR (R:=jw) (S:=ByteArray) (fun i s=>BK n m s (i:Int)) (fun s=>ER s)
   (fun i s=>bl s=bl t++(M.take i).flatMap xP∧s.size≤2+i*300) n
   (fun i hi s hs=>by
    obtain⟨hs,hs2⟩:=hs
    have hms:=h.ms i hi; have hl:=h.len i hi; have h7:=hl7 i hi
    have hii:inb (i:Int) n=true:=by simp only[inb,Bool.and_eq_true,decide_eq_true_eq]; omega
    obtain⟨z,g1,g2,g3⟩:=aR (R:=jv) (S:=ByteArray) (fun k s=>BJ n m s (i:Int) (k:Int)) (fun s=>EP n m s (i:Int))
     (fun k z=>bl z=bl t++(M.take i).flatMap xP++((M.getD i []).take k).flatMap K4∧z.size≤s.size+k*33) (m i).len
     (fun k hk z hz=>by
      obtain⟨hc,hc2⟩:=hz
      have hx:=h.is i hi k hk
      have hb:=GL hx
      have hnb:=GJ hx.1
      generalize hr:ByteArray.mk (be ((M.getD i []).getD k 0)).toArray=r at*
      have hsz:r.size=nbN ((M.getD i []).getD k 0):=by rw[←hr]; exact nW _
      have hbr:bl r=be ((M.getD i []).getD k 0):=by rw[←hr]
      have hp:=Za z ((r.size:Nat):Int) (n:=nbN ((M.getD i []).getD k 0)) (by rw[hsz])
      generalize hq:bytesOf 1 (fun j=>upd (fun _=>0) 0 (u8.wrap ((r.size:Nat):Int)) (0+j))=q at*
      have hq1:q.size=1:=by rw[←hq,fT,pJ,List.length_map,List.length_range]
      refine⟨z++q++r,?_,?_,?_⟩
      ·have d1:decide ((((z.size+q.size:Nat):Int))>IntKind.i64.max)=false:=aM (by show¬_>(9223372036854775807:Int); omega)
       have d2:decide (((((z++q).size+r.size:Nat):Int))>IntKind.i64.max)=false:=aM (by
        have:(z++q).size=z.size+q.size:=ByteArray.size_append
        show¬_>(9223372036854775807:Int); omega)
       have d3:decide ((k:Int)<(((m i).len:Nat):Int))=true:=bB (by omega)
       have d4:inb (k:Int) (m i).len=true:=by simp only[inb,Bool.and_eq_true,decide_eq_true_eq]; omega
       have d5:i64.wrap ((k:Int)+1)=((k+1:Nat):Int):=by rw[wrap_i64 (by omega)]; omega
       simp only[jv,BJ,hii,hms,d3,d4,aJ,aG,Int.toNat_natCast,hb,hq,d5]
       rw[d1,aG,d2,aG]
      ·rw[Ih,hp,hc,Ig K4 _ k 0 (by omega),hbr]
       simp[K4]
      ·rw[ByteArray.size_append,ByteArray.size_append]; omega)
     (fun z _=>by simp(disch:=omega) only[jv,BJ,WW,hii,hms]) s ⟨by simpa using hs,by omega⟩
    have g1':aj jv (((n,m),(s,((i:Int),(0,())))),())=some _:=g1
    refine⟨z,?_,?_,by omega⟩
    ·simp(disch:=omega) only[jw,BK,WW,CC,g1',EP]
    ·rw[hl,List.take_length,List.append_assoc]at g2
     rw[Ig xP M i [] (by have:=h.sz; omega)]
     exact g2)
   (fun s _=>by simp(disch:=omega) only[jw,BK,WW]) t ⟨by simp,by have:=congrArg List.length htl; rw[←fT]at this; rw[this]; exact Nat.le_refl 2⟩
  have h1':aj jw (((n,m),(t,(0,()))),())=some _:=h1
  have hi:inb 0 n=true:=by simp only[inb,Bool.and_eq_true,decide_eq_true_eq]; omega
  simp only[Bool.not_true,aG,hi,aJ,h0,h1',ER]
  congr 1
  apply xO
  rw[h2,htl,h.sz,List.take_length,←h.sz,h.len 0 (by omega),h.sz]
  show _=fG M
  unfold fG
  rw[he]; rfl
end Go.Pl
namespace Go.Pl
open Go Go.Den Go.Num
open Go.IntKind (i64 u64 u32 u8)
def GQ:List UInt8→Option (Nat×List UInt8)
 | []=>none
 |c::l=>if c.toNat≤l.length∧iO (l.take c.toNat)=true then some (jK (l.take c.toNat),l.drop c.toNat)else none
def rowP:Nat→List UInt8→Option (List Nat×List UInt8)
 |0,l=>some ([],l)
 |k+1,l=>(rowP k l).bind fun p=>(GQ p.2).map fun q=>(p.1++[q.1],q.2)
def qm(b:Nat):Nat→List UInt8→Option (List (List Nat)×List UInt8)
 |0,l=>some ([],l)
 |k+1,l=>(qm b k l).bind fun p=>(rowP b p.2).map fun q=>(p.1++[q.1],q.2)
theorem Uf {l:List UInt8} {k:Nat}(h:rowP k l=none): ∀b,k≤b→rowP b l=none:=by
 intro b hb
 induction b with
 |zero=>
  obtain rfl:k=0:=by omega
  exact h
 |succ b ih=>
  rcases Nat.lt_or_ge b k with h1|h1
  ·obtain rfl:k=b+1:=by omega
   exact h
  ·rw[rowP,ih h1]; rfl
theorem RP {b:Nat} {l:List UInt8} {k:Nat}(h:qm b k l=none): ∀c,k≤c→qm b c l=none:=by
 intro c hc
 induction c with
 |zero=>
  obtain rfl:k=0:=by omega
  exact h
 |succ c ih=>
  rcases Nat.lt_or_ge c k with h1|h1
  ·obtain rfl:k=c+1:=by omega
   exact h
  ·rw[qm,ih h1]; rfl
theorem a3j {l l':List UInt8} {n:Nat}(h:GQ l=some (n,l')):l=K4 n++l'∧n<2^256:=by
 cases l with
 |nil=>cases h
 |cons c l=>
  simp only[GQ]at h
  split at h
  ·rename_i hc
   cases h
   obtain⟨h1,h2⟩:=hc
   have h3:=Vy h2
   have h4:=nW (jK (l.take c.toNat))
   rw[h3,List.length_take,Nat.min_eq_left h1]at h4
   refine⟨?_,?_⟩
   ·unfold K4
    rw[h3,←h4,UInt8.ofNat_toNat,List.cons_append,List.take_append_drop]
   ·refine Nat.lt_of_lt_of_le (El _) ?_
    rw[Z7]
    refine Nat.pow_le_pow_right (by decide) ?_
    have:(l.take c.toNat).length≤32:=by
     unfold iO at h2
     rw[Bool.and_eq_true,decide_eq_true_eq]at h2
     exact h2.1
    omega
  ·cases h
theorem a9z {n:Nat}(h:n<2^256)(l:List UInt8):GQ (K4 n++l)=some (n,l):=by
 obtain⟨h1,h2⟩:=a9x h
 have h3:=GJ h
 have e:(UInt8.ofNat (nbN n)).toNat=nbN n:=by rw[UInt8.toNat_ofNat']; exact Nat.mod_eq_of_lt (by omega)
 have hl:=nW n
 show GQ (UInt8.ofNat (nbN n)::(be n++l))=_
 simp only[GQ,e]
 have ht:(be n++l).take (nbN n)=be n:=by rw[←hl,List.take_left]
 have hd:(be n++l).drop (nbN n)=l:=by rw[←hl,List.drop_left]
 rw[ht,hd,h2,if_pos ⟨by rw[List.length_append]; omega,h1⟩]
theorem Ug: ∀ {k:Nat} {l l':List UInt8} {R:List Nat},rowP k l=some (R,l')→l=xP R++l'∧R.length=k∧ ∀n∈R,n<2^256
 |0,l,l',R,h=>by cases h; exact⟨rfl,rfl,fun n hn=>by cases hn⟩
 |k+1,l,l',R,h=>by
  simp only[rowP,Option.bind_eq_some_iff,Option.map_eq_some_iff]at h
  obtain⟨⟨R1,l1⟩,h1,⟨n,l2⟩,h2,h3⟩:=h
  cases h3
  obtain⟨g1,g2,g3⟩:=Ug h1
  obtain⟨g4,g5⟩:=a3j h2
  simp only at g4
  refine⟨?_,by simp[g2],fun m hm=>?_⟩
  ·rw[g1,g4,xP,xP,List.flatMap_append]; simp
  ·rcases List.mem_append.1 hm with hm|hm
   ·exact g3 m hm
   ·rw[List.mem_singleton.1 hm]; exact g5
theorem K5 {b:Nat} : ∀ {k:Nat} {l l':List UInt8} {M:List (List Nat)},qm b k l=some (M,l')→l=M.flatMap xP++l'∧M.length=k∧ ∀R∈M,R.length=b∧ ∀n∈R,n<2^256
 |0,l,l',R,h=>by cases h; exact⟨rfl,rfl,fun n hn=>by cases hn⟩
 |k+1,l,l',R,h=>by
  simp only[qm,Option.bind_eq_some_iff,Option.map_eq_some_iff]at h
  obtain⟨⟨R1,l1⟩,h1,⟨n,l2⟩,h2,h3⟩:=h
  cases h3
  obtain⟨g1,g2,g3⟩:=K5 h1
  obtain⟨g4,g5,g6⟩:=Ug h2
  simp only at g4
  refine⟨?_,by simp[g2],fun m hm=>?_⟩
  ·rw[g1,g4,List.flatMap_append]; simp
  ·rcases List.mem_append.1 hm with hm|hm
   ·exact g3 m hm
   ·rw[List.mem_singleton.1 hm]; exact⟨g5,g6⟩
theorem Zb(l:List UInt8): ∀(R:List Nat),(∀n∈R,n<2^256)→ ∀k,k≤R.length→rowP k (xP R++l)=some (R.take k,xP (R.drop k)++l)
 |R,h,0,_=>by simp[rowP]
 |R,h,k+1,hk=>by
  rw[rowP,Zb l R h k (by omega)]
  have e:R.drop k=R[k]::R.drop (k+1):=List.drop_eq_getElem_cons (by omega)
  have e2:xP (R.drop k)++l=K4 R[k]++(xP (R.drop (k+1))++l):=by rw[e,xP,List.flatMap_cons,List.append_assoc]; rfl
  have hent:=a9z (h R[k] (List.getElem_mem (by omega))) (xP (R.drop (k+1))++l)
  simp only[Option.bind_some,e2,hent,Option.map_some]
  rw[List.take_add_one,List.getElem?_eq_getElem (by omega)]; rfl
theorem RQ {b:Nat}(l:List UInt8): ∀(M:List (List Nat)),(∀R∈M,R.length=b∧ ∀n∈R,n<2^256)→ ∀k,k≤M.length→qm b k (M.flatMap xP++l)=some (M.take k,(M.drop k).flatMap xP++l)
 |M,h,0,_=>by simp[qm]
 |M,h,k+1,hk=>by
  rw[qm,RQ l M h k (by omega)]
  have e:M.drop k=M[k]::M.drop (k+1):=List.drop_eq_getElem_cons (by omega)
  have e2:(M.drop k).flatMap xP++l=xP M[k]++((M.drop (k+1)).flatMap xP++l):=by rw[e,List.flatMap_cons,List.append_assoc]
  obtain⟨g1,g2⟩:=h M[k] (List.getElem_mem (by omega))
  have:=Zb ((M.drop (k+1)).flatMap xP++l) M[k] g2 b (by omega)
  simp only[Option.bind_some,e2,this,Option.map_some]
  rw[←g1,List.take_length,List.drop_length,List.take_add_one,List.getElem?_eq_getElem (by omega)]; rfl
noncomputable def a0S:Option (List (List Nat)×List UInt8)→Option (List (List Nat))
 |some (M,[])=>if ql M then some M else none
 |_=>none
noncomputable def xQ(l:List UInt8):Option (List (List Nat)):=match l with
 |a::b::r=>if a.toNat≤25∧b.toNat≤7 then a0S (qm b.toNat a.toNat r)else none
 |_=>none
theorem a9A {M:List (List Nat)}(he:ql M=true)(hM: ∀R∈M,∀n∈R,n<2^256):xQ (fG M)=some M:=by
 obtain⟨⟨g1,g2⟩,g3⟩:OG M:=of_decide_eq_true he
 have hb:(M.getD 0 []).length≤7:=(g3 0 (by omega)).2.2
 have e1:(UInt8.ofNat M.length).toNat=M.length:=by rw[UInt8.toNat_ofNat']; exact Nat.mod_eq_of_lt (by omega)
 have e2:(UInt8.ofNat (M.getD 0 []).length).toNat=(M.getD 0 []).length:=by rw[UInt8.toNat_ofNat']; exact Nat.mod_eq_of_lt (by omega)
 unfold fG
 rw[he,if_pos rfl]
 simp only[xQ,e1,e2,if_pos (show M.length≤25∧(M.getD 0 []).length≤7 from⟨g2,hb⟩)]
 have hr:=RQ (b:=(M.getD 0 []).length) [] M (fun R hR=>by
  obtain⟨i,hi,rfl⟩:=List.getElem_of_mem hR
  refine⟨?_,hM _ hR⟩
  have:=(g3 i hi).1
  rw[List.getD_eq_getElem?_getD,List.getElem?_eq_getElem hi]at this
  exact this) M.length (Nat.le_refl _)
 rw[List.append_nil,List.take_length,List.drop_length]at hr
 rw[hr]
 simp only[List.flatMap_nil,List.append_nil,a0S,he,if_true]
theorem Uh {l:List UInt8} {M:List (List Nat)}(h:xQ l=some M):ql M=true∧fG M=l∧ ∀R∈M,∀n∈R,n<2^256:=by
 unfold xQ at h
 split at h
 ·rename_i a b r
  split at h
  ·rename_i hab
   unfold a0S at h
   split at h
   ·rename_i M' hr
    split at h
    ·rename_i he
     cases h
     obtain⟨g1,g2,g3⟩:=K5 hr
     refine⟨he,?_,fun R hR=>(g3 R hR).2⟩
     obtain⟨⟨e1,e2⟩,_⟩:OG M:=of_decide_eq_true he
     have hb:(M.getD 0 []).length=b.toNat:=by
      rw[List.getD_eq_getElem?_getD,List.getElem?_eq_getElem (by omega)]
      exact(g3 _ (List.getElem_mem _)).1
     unfold fG
     rw[he,if_pos rfl,hb,g2,UInt8.ofNat_toNat,UInt8.ofNat_toNat,g1,List.append_nil]
    ·cases h
   ·cases h
  ·cases h
 ·cases h
end Go.Pl
namespace Go.Pl
open Go Go.Den Go.Num
open Go.IntKind (i64 u64 u32 u8)
theorem rowP_step {k:Nat} {l:List UInt8} {R:List Nat} {l1:List UInt8}(h:rowP k l=some (R,l1)):rowP (k+1) l=(GQ l1).map fun q=>(R++[q.1],q.2):=by rw[rowP,h]; rfl
theorem RS {b k:Nat} {l:List UInt8} {R:List (List Nat)} {l1:List UInt8}(h:qm b k l=some (R,l1)):qm b (k+1) l=(rowP b l1).map fun q=>(R++[q.1],q.2):=by rw[qm,h]; rfl
def yc(k:Nat)(row:Nat→Nat→Int)(R:List Nat):Prop:=R.length=k∧ ∀j,j<k→IsN (row j) (R.getD j 0)
theorem yc.push {k:Nat} {row:Nat→Nat→Int} {R:List Nat}(h:yc k row R) {a:Nat→Int} {n:Nat}(ha:IsN a n):yc (k+1) (glue k row (fun j=>(upd (fun _=>(fun _=>0)) 0 a) (0+j))) (R++[n]):=by
 refine⟨by rw[List.length_append,h.1]; rfl,fun j hj=>?_⟩
 by_cases e:j<k
 ·rw[Z5 e,List.getD_eq_getElem?_getD,List.getElem?_append_left (by have:=h.1; omega),←List.getD_eq_getElem?_getD]; exact h.2 j e
 ·obtain rfl:j=k:=by omega
  rw[Z6 (Nat.le_refl _),Nat.sub_self,List.getD_eq_getElem?_getD,List.getElem?_append_right (by have:=h.1; omega),h.1,Nat.sub_self]
  exact ha
theorem take2(s rest:ByteArray)(nout:Nat)(out:Nat→SlV (Nat→Int))(t t1:Int) {b:Nat}(hb:b≤7)(hs:rest.size<2^40):
  ∃y,aj d9 (iU s rest nout out 0 (fun _=>(fun _=>0)) t t1 (b:Int) 0)=some y∧
   ((rowP b (bl rest)=none∧y=AX 0 (fun _=>.nil) 4)∨ ∃R rest' row,rowP b (bl rest)=some (R,bl rest')∧yc b row R∧rest'.size<2^40∧y=AY s rest' nout out b row t t1):=by
 exact gK (R:=d9) (S:=ByteArray×(Nat→Nat→Int)) (fun k z=>iU s z.1 nout out k z.2 t t1 (b:Int) (k:Int))
  (fun k z=>z.1.size<2^40∧ ∃R,rowP k (bl rest)=some (R,bl z.1)∧yc k z.2 R) _ b
  (fun k hk z hz=>by
   obtain⟨r,row⟩:=z
   obtain⟨hrs,R,hR,hrow⟩:=hz
   simp only at hR hrow hrs
   have hstep:=rowP_step hR
   have bad:GQ (bl r)=none→rowP b (bl rest)=none:=fun e=>Uf (k:=k+1) (by rw[hstep,e]; rfl) b (by omega)
   have hsz:r.size=(bl r).length:=rfl
   have hg: ∀i,(r.data.toList.getD i 0)=(bl r).getD i 0:=fun i=>rfl
   have hse:=jA (s:=r)
   cases hl:bl r with
   |nil=>
    have h0:r.size=0:=by rw[hsz,hl]; rfl
    refine .inr ⟨_,?_,.inl ⟨bad (by rw[hl]; rfl),rfl⟩⟩
    rw[decide_eq_true h0]at hse
    simp(disch:=omega) only[d9,iU,WW,CC,hse]
   |cons c tl=>
    have hlen:r.size=tl.length+1:=by rw[hsz,hl]; rfl
    rw[decide_eq_false (by omega)]at hse
    have hg0:r.data.toList.getD 0 0=c:=by rw[hg,hl]; rfl
    have hc:=UInt8.toNat_lt c
    have hi0:inb 0 r.size=true:=by simp only[inb,Bool.and_eq_true,decide_eq_true_eq]; omega
    have hw:i64.wrap ((c.toNat:Nat):Int)=((c.toNat:Nat):Int):=bE (by omega)
    have hw1:i64.wrap (1+((c.toNat:Nat):Int))=((1+c.toNat:Nat):Int):=by rw[show(1:Int)+((c.toNat:Nat):Int)=((1+c.toNat:Nat):Int)by omega,bE (by omega)]
    have hk2:decide ((k:Int)<(b:Int))=true:=bB (by omega)
    by_cases c1:((c.toNat:Nat):Int)≥((r.size:Nat):Int)
    ·refine .inr ⟨_,?_,.inl ⟨bad (by rw[hl]; simp only[GQ]; rw[if_neg (fun e=>by omega)]),rfl⟩⟩
     simp only[d9,iU,hk2,aJ,hse,aG,hi0,hg0,hw,bB c1]
    ·have d1:(decide ((0:Int)≤((1+c.toNat:Nat):Int))&&decide (((1+c.toNat:Nat):Int)≤((r.size:Nat):Int)))=true:=by simp only[Bool.and_eq_true,decide_eq_true_eq]; omega
     have d2:decide ((1:Int)≤(((1+c.toNat:Nat)):Int))=true:=bB (by omega)
     obtain⟨a,ha,hai⟩:=Jr (r.extract 1 (1+c.toNat))
     have hb1:bl (r.extract 1 (1+c.toNat))=tl.take c.toNat:=by rw[zY,hl,List.drop_one,List.tail_cons,Nat.add_sub_cancel_left]
     rw[hb1]at ha hai
     cases hok:iO (tl.take c.toNat)with
     |false=>
      rw[hok]at ha
      have d3:((4:Int) !=0)=true:=rfl
      refine .inr ⟨_,?_,.inl ⟨bad (by rw[hl]; simp only[GQ]; rw[if_neg (fun e=>by rw[hok]at e; cases e.2)]),rfl⟩⟩
      simp only[d9,iU,hk2,aJ,hse,aG,hi0,hg0,hw,aM c1,hw1,d1,Int.toNat_natCast,d2,ha,Bool.false_eq_true,if_false,d3]
     |true=>
      rw[hok]at ha hai
      have hai:=hai rfl
      have d3:((0:Int) !=0)=false:=rfl
      have d4:(Nat.ble ((k+1)*32) 140737488355328&&Nat.ble (k+1) 9223372036854775807)=true:=by rw[Bool.and_eq_true,Nat.ble_eq,Nat.ble_eq]; omega
      have d5:u8.wrap ((k:Int)+1)=((k+1:Nat):Int):=by rw[show(k:Int)+1=((k+1:Nat):Int)by omega,RN,Nat.mod_eq_of_lt (by omega)]
      have hent:GQ (bl r)=some (jK (tl.take c.toNat),tl.drop c.toNat):=by rw[hl]; simp only[GQ]; rw[if_pos ⟨by omega,hok⟩]
      have hrest:bl (r.extract (1+c.toNat) r.size)=tl.drop c.toNat:=by rw[Bl,hl,Nat.add_comm]; rfl
      refine .inl ⟨(r.extract (1+c.toNat) r.size,glue k row (fun j=>(upd (fun _=>(fun _=>0)) 0 a) (0+j))),?_,?_,R++[jK (tl.take c.toNat)],?_,hrow.push hai⟩
      ·simp only[d9,iU,hk2,aJ,hse,aG,hi0,hg0,hw,aM c1,hw1,d1,Int.toNat_natCast,d2,ha,if_true,d3,d4,d5]
      ·simp only
       rw[fT,hrest,List.length_drop]; omega
      ·rw[hstep,hent]; simp only[Option.map_some,hrest])
  (fun z hz=>by
   obtain⟨hrs,R,hR,hrow⟩:=hz
   refine⟨_,?_,.inr ⟨R,z.1,z.2,hR,hrow,hrs,rfl⟩⟩
   have hk2:decide ((b:Int)<(b:Int))=false:=aM (by omega)
   simp only[d9,iU,hk2,aG]) (rest,fun _=>(fun _=>0)) ⟨hs,[],rfl,rfl,fun j hj=>absurd hj (Nat.not_lt_zero _)⟩
structure Ep(k b:Nat)(out:Nat→SlV (Nat→Int))(M:List (List Nat)):Prop where
 sz:M.length=k
 ok: ∀i,i<k→ ∃row,out i= .fz b row∧yc b (fun j=>row j) (M.getD i [])
theorem Ep.push {k b:Nat} {out:Nat→SlV (Nat→Int)} {M:List (List Nat)}(h:Ep k b out M) {row:Nat→Nat→Int} {R:List Nat}(hr:yc b row R):
  Ep (k+1) b (glue k out (fun j=>(upd (fun _=>.nil) 0 (.fz b (fun j=>row (0+j)))) (0+j))) (M++[R]):=by
 refine⟨by rw[List.length_append,h.sz]; rfl,fun i hi=>?_⟩
 by_cases e:i<k
 ·rw[Z5 e,List.getD_eq_getElem?_getD,List.getElem?_append_left (by have:=h.sz; omega),←List.getD_eq_getElem?_getD]; exact h.ok i e
 ·obtain rfl:i=k:=by omega
  rw[Z6 (Nat.le_refl _),Nat.sub_self,List.getD_eq_getElem?_getD,List.getElem?_append_right (by have:=h.sz; omega),h.sz,Nat.sub_self]
  exact⟨_,rfl,hr.1,fun j hj=>by show IsN (row (0+j)) _; rw[Nat.zero_add]; exact hr.2 j hj⟩
theorem Ep.mat {k b:Nat} {out:Nat→SlV (Nat→Int)} {M:List (List Nat)}(h:Ep k b out M):xZ k (fun j=>out (0+j)) M:=by
 refine⟨h.sz.symm,fun i hi=>?_,fun i hi=>?_,fun i hi j hj=>?_⟩
 ·obtain⟨row,e,_⟩:=h.ok i hi
  rw[Nat.zero_add,e]; rfl
 ·obtain⟨row,e,hr⟩:=h.ok i hi
  rw[Nat.zero_add,e]; exact hr.1.symm
 ·obtain⟨row,e,hr⟩:=h.ok i hi
  rw[Nat.zero_add,e]at hj⊢
  exact hr.2 j hj
theorem anx(s rest:ByteArray) {a b:Nat}(hb:b≤7)(ha:a≤25)(hsz:2≤s.size)(h1:(s.data.toList.getD 1 0).toNat=b)(hs:rest.size<2^40):
  ∃y,aj eB (nO s rest 0 (fun _=>.nil) (a:Int) 0)=some y∧
   ((qm b a (bl rest)=none∧y=La 0 (fun _=>.nil) 4)∨ ∃M rest' out,qm b a (bl rest)=some (M,bl rest')∧Ep a b out M∧rest'.size<2^40∧y=AZ rest' a out):=by
 exact gK (R:=eB) (S:=ByteArray×(Nat→SlV (Nat→Int))) (fun k z=>nO s z.1 k z.2 (a:Int) (k:Int))
  (fun k z=>z.1.size<2^40∧ ∃M,qm b k (bl rest)=some (M,bl z.1)∧Ep k b z.2 M) _ a
  (fun k hk z hz=>by
   obtain⟨r,out⟩:=z
   obtain⟨hrs,M,hM,hout⟩:=hz
   simp only at hM hout hrs
   have hstep:=RS hM
   have hk2:decide ((k:Int)<(a:Int))=true:=bB (by omega)
   have hi1:inb 1 s.size=true:=by simp only[inb,Bool.and_eq_true,decide_eq_true_eq]; omega
   obtain⟨y,h2,h3⟩:=take2 s r k out (a:Int) (k:Int) hb hrs
   have h2':aj d9 ((s,(r,((k,out),((0,(fun _=>(fun _=>0))),((a:Int),((k:Int),(((b:Nat):Int),(0,())))))))),())=some y:=h2
   rcases h3 with⟨h3,rfl⟩|⟨R,r',row,h3,h4,h5,rfl⟩
   ·refine .inr ⟨_,?_,.inl ⟨RP (k:=k+1) (by rw[hstep,h3]; rfl) a (by omega),rfl⟩⟩
    simp only[eB,nO,hk2,aJ,hi1,h1,h2',AX]
   ·have d4:(Nat.ble ((k+1)*24) 140737488355328&&Nat.ble (k+1) 9223372036854775807)=true:=by rw[Bool.and_eq_true,Nat.ble_eq,Nat.ble_eq]; omega
    have d5:u8.wrap ((k:Int)+1)=((k+1:Nat):Int):=by rw[show(k:Int)+1=((k+1:Nat):Int)by omega,RN,Nat.mod_eq_of_lt (by omega)]
    refine .inl ⟨(r',glue k out (fun j=>(upd (fun _=>.nil) 0 (.fz b (fun j=>row (0+j)))) (0+j))),?_,h5,M++[R],?_,hout.push h4⟩
    ·simp only[eB,nO,hk2,aJ,hi1,h1,h2',AY,d4,d5]
    ·rw[hstep,h3]; rfl)
  (fun z hz=>by
   obtain⟨hrs,M,hM,hout⟩:=hz
   refine⟨_,?_,.inr ⟨M,z.1,z.2,hM,hout,hrs,rfl⟩⟩
   have hk2:decide ((a:Int)<(a:Int))=false:=aM (by omega)
   simp only[eB,nO,hk2,aG]) (rest,fun _=>.nil) ⟨hs,[],rfl,rfl,fun j hj=>absurd hj (Nat.not_lt_zero _)⟩
def Vz(s:ByteArray)(r:Option ((Nat×(Nat→SlV (Nat→Int)))×Int)):Prop:=
 ∃n m e,r=some ((n,m),e)∧match xQ (bl s)with
  |some M=>e=0∧xZ n m M
  |none=>e=4
theorem RU {l:List UInt8}(h:l.length<2):xQ l=none:=by
 unfold xQ
 split
 ·simp at h; omega
 ·rfl
theorem a9B {l:List UInt8}(h:2≤l.length): ∃r,l=l.getD 0 0::l.getD 1 0::r:=by
 match l,h with
 |a::b::r,_=>exact⟨r,rfl⟩
theorem Nq {s:ByteArray}(hs:s.size<2^40):Vz s (Ba s):=by
 have hsz:s.size=(bl s).length:=rfl
 have hg: ∀i,(s.data.toList.getD i 0)=(bl s).getD i 0:=fun i=>rfl
 rw[FV]; unfold yN
 by_cases c0:((s.size:Nat):Int)<2
 ·rw[bB c0,aJ]
  refine⟨_,_,_,rfl,?_⟩
  rw[RU (by omega)]
 rw[aM c0,aG]
 obtain⟨r,hr⟩:=a9B (l:=bl s) (by omega)
 have hi0:inb 0 s.size=true:=by simp only[inb,Bool.and_eq_true,decide_eq_true_eq]; omega
 have hi1:inb 1 s.size=true:=by simp only[inb,Bool.and_eq_true,decide_eq_true_eq]; omega
 generalize ha:(bl s).getD 0 0=a at*
 generalize hb:(bl s).getD 1 0=b at*
 simp only[hi0,hi1,aJ,hg,ha,hb]
 by_cases c1:((a.toNat:Nat):Int)>25
 ·rw[bB c1,aJ]
  refine⟨_,_,_,rfl,?_⟩
  have:xQ (bl s)=none:=by rw[hr]; unfold xQ; simp only; rw[if_neg (fun e=>by omega)]
  rw[this]
 rw[aM c1,aG]
 by_cases c2:((b.toNat:Nat):Int)>7
 ·rw[bB c2,aJ]
  refine⟨_,_,_,rfl,?_⟩
  have:xQ (bl s)=none:=by rw[hr]; unfold xQ; simp only; rw[if_neg (fun e=>by omega)]
  rw[this]
 rw[aM c2,aG]
 have d2:decide ((2:Int)≤((s.size:Nat):Int))=true:=bB (by omega)
 rw[d2,aJ]
 have hrest:bl (s.extract 2 s.size)=r:=by rw[Bl,hr]; rfl
 have hrs:(s.extract 2 s.size).size<2^40:=by
  rw[fT,hrest]; have:=congrArg List.length hr; simp only[List.length_cons]at this; omega
 obtain⟨y,h1,h2⟩:=anx s (s.extract 2 s.size) (a:=a.toNat) (b:=b.toNat) (by omega) (by omega) (by omega) (by rw[hg,hb]) hrs
 have h1':aj eB ((s,((s.extract 2 s.size),((0,(fun _=>.nil)),(((a.toNat:Nat):Int),(0,()))))),())=some y:=h1
 rw[h1']
 rw[hrest]at h2
 have hP:xQ (bl s)=a0S (qm b.toNat a.toNat r):=by
  rw[hr]; unfold xQ; simp only; rw[if_pos (show a.toNat≤25∧b.toNat≤7 from⟨by omega,by omega⟩)]
 unfold Vz
 rw[hP]
 rcases h2 with⟨h2,rfl⟩|⟨M,r',out,h2,h3,h4,rfl⟩
 ·exact⟨_,_,_,rfl,by rw[h2]; rfl⟩
 ·rw[h2]
  simp only[AZ,jA]
  by_cases c3:r'.size=0
  ·have hnil:bl r'=[]:=List.length_eq_zero_iff.1 c3
   rw[decide_eq_true c3,D5 h3.mat (by omega),hnil]
   unfold a0S
   simp only
   cases he:ql M with
   |true=>exact⟨_,_,_,rfl,rfl,h3.mat⟩
   |false=>exact⟨_,_,_,rfl,rfl⟩
  ·rw[decide_eq_false c3]
   cases hl:bl r' with
   |nil=>exact absurd (by rw[fT,hl]; rfl) c3
   |cons c tl=>exact⟨_,_,_,rfl,rfl⟩
end Go.Pl
namespace Go.Pl
open Go Go.Den Go.Num
open Go.IntKind (i64 u64 u32 u8)
theorem ahc(s:ByteArray)(nout:Nat)(out:Nat→SlV (Nat→Int))(i:Int) {b p0:Nat}(hb:b≤7)(h1:(s.data.toList.getD 1 0).toNat=b)(h2:2≤s.size)(hs:s.size<2^40)(hp0:p0≤s.size):
  ∃y,aj fC (mU s nout out (p0:Int) i 0 (fun _=>(fun _=>0)) 0)=some y∧
   ((rowP b ((bl s).drop p0)=none∧y=Gg 0 (fun _=>.nil) 4)∨ ∃R p row,rowP b ((bl s).drop p0)=some (R,(bl s).drop p)∧yc b row R∧p≤s.size∧y=Gh s nout out (p:Int) i b row):=by
 have hi1:inb 1 s.size=true:=by simp only[inb,Bool.and_eq_true,decide_eq_true_eq]; omega
 have hwb:i64.wrap ((b:Nat):Int)=(b:Int):=bE (by omega)
 have hsz:s.size=(bl s).length:=rfl
 exact gK (R:=fC) (S:=Nat×(Nat→Nat→Int)) (fun k z=>mU s nout out (z.1:Int) i k z.2 (k:Int))
  (fun k z=>z.1≤s.size∧ ∃R,rowP k ((bl s).drop p0)=some (R,(bl s).drop z.1)∧yc k z.2 R) _ b
  (fun k hk z hz=>by
   obtain⟨p,row⟩:=z
   obtain⟨hp,R,hR,hrow⟩:=hz
   simp only at hR hrow hp
   have hstep:=rowP_step hR
   have bad:GQ ((bl s).drop p)=none→rowP b ((bl s).drop p0)=none:=fun e=>Uf (k:=k+1) (by rw[hstep,e]; rfl) b (by omega)
   have hk2:decide ((k:Int)<(b:Int))=true:=bB (by omega)
   by_cases c0:(p:Int)≥((s.size:Nat):Int)
   ·refine .inr ⟨_,?_,.inl ⟨bad (by rw[List.drop_eq_nil_of_le (by omega)]; rfl),rfl⟩⟩
    simp only[fC,mU,hi1,aJ,h1,hwb,hk2,bB c0]
   have hlt:p<(bl s).length:=by omega
   obtain⟨c,tl,hl⟩: ∃c tl,(bl s).drop p=c::tl:=⟨_,_,List.drop_eq_getElem_cons hlt⟩
   have hlen:tl.length+1=s.size-p:=by have:=congrArg List.length hl; rw[List.length_drop]at this; simp only[List.length_cons]at this; omega
   have hgp:s.data.toList.getD p 0=c:=by
    have:(bl s).getD p 0=((bl s).drop p).getD 0 0:=by rw[List.getD_eq_getElem?_getD,List.getD_eq_getElem?_getD,List.getElem?_drop,Nat.add_zero]
    show(bl s).getD p 0=c
    rw[this,hl]; rfl
   have hc:=UInt8.toNat_lt c
   have hip:inb (p:Int) s.size=true:=by simp only[inb,Bool.and_eq_true,decide_eq_true_eq]; omega
   have hw:i64.wrap ((c.toNat:Nat):Int)=((c.toNat:Nat):Int):=bE (by omega)
   have hw2:i64.wrap (i64.wrap (((s.size:Nat):Int)-(p:Int))-1)=((s.size-p-1:Nat):Int):=by
    rw[show((s.size:Nat):Int)-(p:Int)=((s.size-p:Nat):Int)by omega,bE (by omega),show((s.size-p:Nat):Int)-1=((s.size-p-1:Nat):Int)by omega,bE (by omega)]
   have hw3:i64.wrap ((p:Int)+1)=((p+1:Nat):Int):=by rw[show(p:Int)+1=((p+1:Nat):Int)by omega,bE (by omega)]
   have hw4:i64.wrap (((p+1:Nat):Int)+((c.toNat:Nat):Int))=((p+1+c.toNat:Nat):Int):=by rw[show((p+1:Nat):Int)+((c.toNat:Nat):Int)=((p+1+c.toNat:Nat):Int)by omega,bE (by omega)]
   by_cases c1:((s.size-p-1:Nat):Int)<((c.toNat:Nat):Int)
   ·refine .inr ⟨_,?_,.inl ⟨bad (by rw[hl]; simp only[GQ]; rw[if_neg (fun e=>by omega)]),rfl⟩⟩
    simp only[fC,mU,hi1,aJ,h1,hwb,hk2,aM c0,aG,hip,Int.toNat_natCast,hgp,hw,hw2,bB c1]
   ·have d1:(decide ((0:Int)≤((p+1+c.toNat:Nat):Int))&&decide (((p+1+c.toNat:Nat):Int)≤((s.size:Nat):Int)))=true:=by simp only[Bool.and_eq_true,decide_eq_true_eq]; omega
    have d2:(decide ((0:Int)≤((p+1:Nat):Int))&&decide (((p+1:Nat):Int)≤((p+1+c.toNat:Nat):Int)))=true:=by simp only[Bool.and_eq_true,decide_eq_true_eq]; omega
    obtain⟨a,ha,hai⟩:=Js (s.extract (p+1) (p+1+c.toNat))
    have hdt:(bl s).drop (p+1)=tl:=by rw[←List.drop_drop,hl]; rfl
    have hb1:bl (s.extract (p+1) (p+1+c.toNat))=tl.take c.toNat:=by rw[zY,hdt,Nat.add_sub_cancel_left]
    rw[hb1]at ha hai
    cases hok:iO (tl.take c.toNat)with
    |false=>
     rw[hok]at ha
     have d3:((4:Int) !=0)=true:=rfl
     refine .inr ⟨_,?_,.inl ⟨bad (by rw[hl]; simp only[GQ]; rw[if_neg (fun e=>by rw[hok]at e; cases e.2)]),rfl⟩⟩
     simp only[fC,mU,hi1,aJ,h1,hwb,hk2,aM c0,aG,hip,Int.toNat_natCast,hgp,hw,hw2,aM c1,hw3,hw4,d1,d2,ha,Bool.false_eq_true,if_false,d3]
    |true=>
     rw[hok]at ha hai
     have hai:=hai rfl
     have d3:((0:Int) !=0)=false:=rfl
     have d4:(Nat.ble ((k+1)*32) 140737488355328&&Nat.ble (k+1) 9223372036854775807)=true:=by rw[Bool.and_eq_true,Nat.ble_eq,Nat.ble_eq]; omega
     have d5:i64.wrap ((k:Int)+1)=((k+1:Nat):Int):=by rw[show(k:Int)+1=((k+1:Nat):Int)by omega,bE (by omega)]
     have hent:GQ ((bl s).drop p)=some (jK (tl.take c.toNat),tl.drop c.toNat):=by rw[hl]; simp only[GQ]; rw[if_pos ⟨by omega,hok⟩]
     have hrest:(bl s).drop (p+1+c.toNat)=tl.drop c.toNat:=by rw[←hdt,List.drop_drop]
     refine .inl ⟨(p+1+c.toNat,glue k row (fun j=>(upd (fun _=>(fun _=>0)) 0 a) (0+j))),?_,by simp only; omega,R++[jK (tl.take c.toNat)],?_,hrow.push hai⟩
     ·simp only[fC,mU,hi1,aJ,h1,hwb,hk2,aM c0,aG,hip,Int.toNat_natCast,hgp,hw,hw2,aM c1,hw3,hw4,d1,d2,ha,if_true,d3,d4,d5]
     ·rw[hstep,hent]; simp only[Option.map_some,hrest])
  (fun z hz=>by
   obtain⟨hp,R,hR,hrow⟩:=hz
   refine⟨_,?_,.inr ⟨R,z.1,z.2,hR,hrow,hp,rfl⟩⟩
   have hk2:decide ((b:Int)<(b:Int))=false:=aM (by omega)
   simp only[fC,mU,hi1,aJ,h1,hwb,hk2,aG]) (p0,fun _=>(fun _=>0)) ⟨hp0,[],rfl,rfl,fun j hj=>absurd hj (Nat.not_lt_zero _)⟩
theorem ahd(s:ByteArray) {a b p0:Nat}(hb:b≤7)(ha:a≤25)(h0:(s.data.toList.getD 0 0).toNat=a)(h1:(s.data.toList.getD 1 0).toNat=b)(hsz:2≤s.size)(hs:s.size<2^40)(hp0:p0≤s.size):
  ∃y,aj iF (tZ s 0 (fun _=>.nil) (p0:Int) 0)=some y∧
   ((qm b a ((bl s).drop p0)=none∧y=Rc 0 (fun _=>.nil) 4)∨ ∃M p out,qm b a ((bl s).drop p0)=some (M,(bl s).drop p)∧Ep a b out M∧p≤s.size∧y=Gi s a out):=by
 have hi0:inb 0 s.size=true:=by simp only[inb,Bool.and_eq_true,decide_eq_true_eq]; omega
 have hwa:i64.wrap ((a:Nat):Int)=(a:Int):=bE (by omega)
 exact gK (R:=iF) (S:=Nat×(Nat→SlV (Nat→Int))) (fun k z=>tZ s k z.2 (z.1:Int) (k:Int))
  (fun k z=>z.1≤s.size∧ ∃M,qm b k ((bl s).drop p0)=some (M,(bl s).drop z.1)∧Ep k b z.2 M) _ a
  (fun k hk z hz=>by
   obtain⟨p,out⟩:=z
   obtain⟨hp,M,hM,hout⟩:=hz
   simp only at hM hout hp
   have hstep:=RS hM
   have hk2:decide ((k:Int)<(a:Int))=true:=bB (by omega)
   obtain⟨y,h2,h3⟩:=ahc s k out (k:Int) hb h1 hsz hs hp
   have h2':aj fC ((s,((k,out),((p:Int),((k:Int),((0,(fun _=>(fun _=>0))),(0,())))))),())=some y:=h2
   rcases h3 with⟨h3,rfl⟩|⟨R,p',row,h3,h4,h5,rfl⟩
   ·refine .inr ⟨_,?_,.inl ⟨RP (k:=k+1) (by rw[hstep,h3]; rfl) a (by omega),rfl⟩⟩
    simp only[iF,tZ,hi0,aJ,h0,hwa,hk2,h2',Gg]
   ·have d4:(Nat.ble ((k+1)*24) 140737488355328&&Nat.ble (k+1) 9223372036854775807)=true:=by rw[Bool.and_eq_true,Nat.ble_eq,Nat.ble_eq]; omega
    have d5:i64.wrap ((k:Int)+1)=((k+1:Nat):Int):=by rw[show(k:Int)+1=((k+1:Nat):Int)by omega,bE (by omega)]
    refine .inl ⟨(p',glue k out (fun j=>(upd (fun _=>.nil) 0 (.fz b (fun j=>row (0+j)))) (0+j))),?_,h5,M++[R],?_,hout.push h4⟩
    ·simp only[iF,tZ,hi0,aJ,h0,hwa,hk2,h2',Gh,d4,d5]
    ·rw[hstep,h3]; rfl)
  (fun z hz=>by
   obtain⟨hp,M,hM,hout⟩:=hz
   refine⟨_,?_,.inr ⟨M,z.1,z.2,hM,hout,hp,rfl⟩⟩
   have hk2:decide ((a:Int)<(a:Int))=false:=aM (by omega)
   simp only[iF,tZ,hi0,aJ,h0,hwa,hk2,aG]) (p0,fun _=>.nil) ⟨hp0,[],rfl,rfl,fun j hj=>absurd hj (Nat.not_lt_zero _)⟩
theorem a3k {a b:UInt8} {r rest:List UInt8} {M:List (List Nat)}(h:qm b.toNat a.toNat r=some (M,rest)):fG M=a::b::r↔rest=[]∧ql M=true:=by
 obtain⟨g1,g2,g3⟩:=K5 h
 constructor
 ·intro e
  cases he:ql M with
  |false=>unfold fG at e; rw[he]at e; cases e
  |true=>
   unfold fG at e
   rw[he,if_pos rfl]at e
   injection e with _ e
   injection e with _ e
   rw[g1]at e
   have:=congrArg List.length e
   rw[List.length_append]at this
   exact⟨List.length_eq_zero_iff.1 (by omega),rfl⟩
 ·rintro ⟨rfl,he⟩
  obtain⟨⟨e1,e2⟩,_⟩:OG M:=of_decide_eq_true he
  have hb:(M.getD 0 []).length=b.toNat:=by
   rw[List.getD_eq_getElem?_getD,List.getElem?_eq_getElem (by omega)]
   exact(g3 _ (List.getElem_mem _)).1
  unfold fG
  rw[he,if_pos rfl,hb,g2,UInt8.ofNat_toNat,UInt8.ofNat_toNat,g1,List.append_nil]
theorem Tz {s:ByteArray}(hs:s.size<2^40):Vz s (Lx s):=by
 have hsz:s.size=(bl s).length:=rfl
 have hg: ∀i,(s.data.toList.getD i 0)=(bl s).getD i 0:=fun i=>rfl
 rw[Om]; unfold I5
 by_cases c0:((s.size:Nat):Int)<2
 ·rw[bB c0,aJ]
  refine⟨_,_,_,rfl,?_⟩
  rw[RU (by omega)]
 rw[aM c0,aG]
 obtain⟨r,hr⟩:=a9B (l:=bl s) (by omega)
 have hi0:inb 0 s.size=true:=by simp only[inb,Bool.and_eq_true,decide_eq_true_eq]; omega
 have hi1:inb 1 s.size=true:=by simp only[inb,Bool.and_eq_true,decide_eq_true_eq]; omega
 generalize ha:(bl s).getD 0 0=a at*
 generalize hb:(bl s).getD 1 0=b at*
 simp only[hi0,hi1,aJ,hg,ha,hb]
 by_cases c1:((a.toNat:Nat):Int)>25
 ·rw[bB c1,aJ]
  refine⟨_,_,_,rfl,?_⟩
  have:xQ (bl s)=none:=by rw[hr]; unfold xQ; simp only; rw[if_neg (fun e=>by omega)]
  rw[this]
 rw[aM c1,aG]
 by_cases c2:((b.toNat:Nat):Int)>7
 ·rw[bB c2,aJ]
  refine⟨_,_,_,rfl,?_⟩
  have:xQ (bl s)=none:=by rw[hr]; unfold xQ; simp only; rw[if_neg (fun e=>by omega)]
  rw[this]
 rw[aM c2,aG]
 have hrest:(bl s).drop 2=r:=by rw[hr]; rfl
 obtain⟨y,h1,h2⟩:=ahd s (a:=a.toNat) (b:=b.toNat) (p0:=2) (by omega) (by omega) (by rw[hg,ha]) (by rw[hg,hb]) (by omega) hs (by omega)
 have h1':aj iF ((s,((0,(fun _=>.nil)),(2,(0,())))),())=some y:=h1
 rw[h1']
 rw[hrest]at h2
 have hP:xQ (bl s)=a0S (qm b.toNat a.toNat r):=by
  rw[hr]; unfold xQ; simp only; rw[if_pos (show a.toNat≤25∧b.toNat≤7 from⟨by omega,by omega⟩)]
 unfold Vz
 rw[hP]
 rcases h2 with⟨h2,rfl⟩|⟨M,p,out,h2,h3,h4,rfl⟩
 ·exact⟨_,_,_,rfl,by rw[h2]; rfl⟩
 ·have hback:=a3k h2
  rw[←hr]at hback
  rw[h2]
  simp only[Gi]
  rw[GN h3.mat (by omega)]
  cases hd:(bl s).drop p with
  |nil=>
   rw[hd]at hback
   unfold a0S
   simp only
   cases he:ql M with
   |true=>
    have:sEq (ByteArray.mk (fG M).toArray) s=true:=nC.2 (hback.2 ⟨rfl,he⟩)
    simp only[this]
    exact⟨_,_,_,rfl,rfl,h3.mat⟩
   |false=>
    have:sEq (ByteArray.mk (fG M).toArray) s=false:=by
     cases hq:sEq (ByteArray.mk (fG M).toArray) s with
     |false=>rfl
     |true=>have:=(hback.1 (nC.1 hq)).2; rw[he]at this; cases this
    simp only[this]
    exact⟨_,_,_,rfl,rfl⟩
  |cons c tl=>
   have:sEq (ByteArray.mk (fG M).toArray) s=false:=by
    cases hq:sEq (ByteArray.mk (fG M).toArray) s with
    |false=>rfl
    |true=>have:=(hback.1 (nC.1 hq)).1; rw[hd]at this; cases this
   simp only[this]
   exact⟨_,_,_,rfl,rfl⟩
end Go.Pl
namespace Go.Pl
open Go Go.Den Go.Num
open Go.IntKind (i64 u64 u32 u8)
abbrev WS:Type:=List UInt8×Bool
def nD(k:Nat)(n:Int):List UInt8:=(List.range k).map fun i=>UInt8.ofNat (n/2^(8*(k-1-i))%256).toNat
def qp(k:Nat)(n:Int):Bool:=!(decide (n<0))&& !(n/2^(8*k) !=0)
def dw(k:Nat)(n:Int)(st:WS):WS:=(st.1++nD k n,st.2|| !qp k n)
def dF(s:List UInt8)(st:WS):WS:=((dw 2 (s.length:Int) st).1++s,(dw 2 (s.length:Int) st).2)
def qw(seq cli:Int)(st:WS):WS:=dw 1 cli (dw 6 seq st)
theorem eZ(k:Nat)(n:Int):(nD k n).length=k:=by simp[nD]
theorem av(k:Nat)(n:Int)(st:WS):(dw k n st).1.length=st.1.length+k:=by simp[dw,eZ]
theorem bI(s:List UInt8)(st:WS):(dF s st).1.length=st.1.length+2+s.length:=by simp[dF,av]
theorem iJ(seq cli:Int)(st:WS):(qw seq cli st).1.length=st.1.length+7:=by simp[qw,av]
theorem PL {n:Int} {s:Nat}(h:s≤64):bX .i64 n (s:Int)=n/2^s:=by
 unfold bX
 rw[Int.toNat_natCast,show min s (IntKind.bits .i64)=s from Nat.min_eq_left h]
 exact Int.fdiv_eq_ediv_of_nonneg _ (Int.le_of_lt (Int.pow_pos (by decide)))
theorem ahe(v:Int):u8.wrap v=((UInt8.ofNat (v%256).toNat).toNat:Int):=by
 rw[wrap_u8',UInt8.toNat_ofNat']
 have:=Int.emod_nonneg v (show(256:Int)≠0 by decide)
 have:=Int.emod_lt_of_pos v (show(0:Int)<256 by decide)
 rw[Nat.mod_eq_of_lt (by omega)]; omega
structure WOk(nw:Nat)(w1:Nat→Int)(w2:Bool)(st:WS):Prop where
 row:Ah nw w1 st.1
 bad:w2=st.2
theorem RV {nw:Nat} {w1:Nat→Int} {w2:Bool} {st:WS}(h:WOk nw w1 w2 st) {v:Int} {c:UInt8}(hv:v=(c.toNat:Int))(hl:st.1.length<2^40)(w:Unit):
  ∃no o,fQ v w nw w1 w2=some (uL () () no o w2)∧WOk no o w2 (st.1++[c],st.2):=by
 have hn:=h.row.1
 have d:(Nat.ble ((nw+1)*1) 140737488355328&&Nat.ble (nw+1) 9223372036854775807)=true:=by rw[Bool.and_eq_true,Nat.ble_eq,Nat.ble_eq]; omega
 rw[lW]; unfold fB
 rw[d,aJ]
 exact⟨_,_,rfl,h.row.push hv,h.bad⟩
theorem Nr {nw:Nat} {w1:Nat→Int} {w2:Bool} {st:WS}(h:WOk nw w1 w2 st)(s:ByteArray)(hl:st.1.length+s.size<2^40)(w:Unit):
  ∃no o,eX s w nw w1 w2=some (sK (s.size:Int) () () no o w2)∧WOk no o w2 (st.1++bl s,st.2):=by
 have hn:=h.row.1
 have d:(Nat.ble ((nw+s.size)*1) 140737488355328&&Nat.ble (nw+s.size) 9223372036854775807)=true:=by rw[Bool.and_eq_true,Nat.ble_eq,Nat.ble_eq]; omega
 rw[jZ]; unfold eH
 rw[d,aJ]
 exact⟨_,_,rfl,h.row.app s,h.bad⟩
theorem Ui(k:Nat)(n:Int)(l:List UInt8)(j:Nat)(hj:j<k):l++(nD k n).take j++[UInt8.ofNat (n/2^(8*(k-1-j))%256).toNat]=l++(nD k n).take (j+1):=by
 rw[List.append_assoc,List.take_add_one,List.getElem?_eq_getElem (by rw[eZ]; exact hj)]
 simp[nD]
theorem a9C {k:Nat}(hk:k≤6)(n:Int) {nw:Nat} {w1:Nat→Int} {w2:Bool} {st:WS}(h:WOk nw w1 w2 st)(hl:st.1.length<2^39)(w:Unit):
  ∃no o,aj bA (((),(n,((k:Int)-1,()))),(((w,(nw,w1)),w2),()))=some (rZ () no o w2)∧WOk no o w2 (st.1++nD k n,st.2):=by
 obtain⟨⟨no,o⟩,h1,h2⟩:=aR (R:=bA) (S:=Nat×(Nat→Int)) (fun j z=>jN n ((k:Int)-1-(j:Int)) w z.1 z.2 w2) (fun z=>rZ () z.1 z.2 w2)
  (fun j z=>WOk z.1 z.2 w2 (st.1++(nD k n).take j,st.2)) k
  (fun j hj z hz=>by
   have e1:i64.wrap (8*((k:Int)-1-(j:Int)))=((8*(k-1-j):Nat):Int):=by rw[wrap_i64 (by omega)]; omega
   have d1:decide ((k:Int)-1-(j:Int)≥0)=true:=bB (by omega)
   have d2:decide (((8*(k-1-j):Nat):Int)<0)=false:=aM (by omega)
   have e2:i64.wrap ((k:Int)-1-(j:Int)-1)=(k:Int)-1-((j+1:Nat):Int):=by rw[wrap_i64 (by omega)]; omega
   have hsh:=PL (n:=n) (s:=8*(k-1-j)) (by omega)
   obtain⟨no,o,g1,g2⟩:=RV hz (ahe (n/2^(8*(k-1-j)))) (by simp only[List.length_append,List.length_take,eZ]; omega) w
   refine⟨(no,o),?_,?_⟩
   ·simp only[bA,jN,d1,aJ,e1,d2,aG,hsh,g1,e2]
   ·rw[←Ui k n st.1 j hj]; exact g2)
  (fun z _=>by
   have d1:decide ((k:Int)-1-(k:Int)≥0)=false:=aM (by omega)
   simp only[bA,jN,d1,aG]) (nw,w1) (by simpa using h)
 rw[List.take_of_length_le (by rw[eZ]; exact Nat.le_refl _)]at h2
 exact⟨no,o,by simpa [jN]using h1,h2⟩
theorem yg {k:Nat}(hk:1≤k∧k≤6) {kk:Int}(hkk:kk=(k:Int))(n:Int) {nw:Nat} {w1:Nat→Int} {w2:Bool} {st:WS}(h:WOk nw w1 w2 st)(hl:st.1.length<2^39)(w:Unit):
  ∃no o b,aI n kk w nw w1 w2=some (dM () no o b)∧WOk no o b (dw k n st):=by
 subst hkk
 rw[wL]; unfold mR
 have e0:i64.wrap ((k:Int)-1)=(k:Int)-1:=wrap_i64 (by omega)
 have e1:i64.wrap (8*(k:Int))=((8*k:Nat):Int):=by rw[wrap_i64 (by omega)]; omega
 have d2:decide (((8*k:Nat):Int)<0)=false:=aM (by omega)
 have hsh:=PL (n:=n) (s:=8*k) (by omega)
 have go: ∀b:Bool,b=(st.2|| !qp k n)→ ∃no o b',(match aj bA (((),(n,((k:Int)-1,()))),(((w,(nw,w1)),b),()))with
   |none=>none
   |some y=>some ((),(((y.2.1.1.1,(y.2.1.1.2.1,y.2.1.1.2.2)),y.2.1.2),())):Option (Unit×(WR×Unit)))=some (dM () no o b')∧WOk no o b' (dw k n st):=by
  intro b hb
  obtain⟨no,o,g1,g2⟩:=a9C (k:=k) (by omega) n (w2:=b) (st:=(st.1,b)) ⟨h.row,rfl⟩ hl w
  rw[g1]
  exact⟨no,o,b,rfl,g2.row,by rw[hb]; rfl⟩
 simp only[e0,e1,d2,aG,hsh]
 have hb:=h.bad
 cases hw:w2 with
 |true=>exact go true (by rw[←hb,hw]; rfl)
 |false=>
  rw[hw]at hb
  by_cases c:n<0
  ·rw[bB c]
   refine go true ?_
   unfold qp
   rw[bB c]; simp
  ·rw[aM c]
   refine go _ ?_
   unfold qp
   rw[aM c,←hb]; simp
theorem RX {s:ByteArray} {nw:Nat} {w1:Nat→Int} {w2:Bool} {st:WS}(h:WOk nw w1 w2 st)(hl:st.1.length+s.size<2^38)(w:Unit):
  ∃no o b,bg s w nw w1 w2=some (jf () no o b)∧WOk no o b (dF (bl s) st):=by
 obtain⟨no,o,b,h1,h2⟩:=yg (k:=2) ⟨by decide,by decide⟩ (kk:=2) rfl ((s.size:Nat):Int) h (by omega) w
 obtain⟨no',o',h3,h4⟩:=Nr h2 s (by rw[av]; omega) ()
 refine⟨no',o',b,?_,h4⟩
 rw[uR]; unfold lD
 simp only[h1,h3]
theorem a1w {x:Int×Int} {nw:Nat} {w1:Nat→Int} {w2:Bool} {st:WS}(h:WOk nw w1 w2 st)(hl:st.1.length<2^38)(w:Unit):
  ∃no o b,dI x w nw w1 w2=some (sj () no o b)∧WOk no o b (qw x.1 x.2 st):=by
 obtain⟨no,o,b,h1,h2⟩:=yg (k:=6) ⟨by decide,by decide⟩ (kk:=6) rfl x.1 h (by omega) w
 obtain⟨no',o',b',h3,h4⟩:=yg (k:=1) ⟨by decide,by decide⟩ (kk:=1) rfl x.2 h2 (by rw[av]; omega) ()
 refine⟨no',o',b',?_,h4⟩
 rw[tO]; unfold kD
 simp only[h1,h3]
end Go.Pl
namespace Go.Pl
open Go Go.Den Go.Num
open Go.IntKind (i64 u64 u32 u8)
structure vM where
 seq:Int
 cli:Int
 dig:List UInt8
 mat:List (List Nat)
 ys:List Nat
 op:Int
 deriving DecidableEq
structure qo where
 srv:Int
 seq:Int
 cli:Int
 dig:List UInt8
 deriving DecidableEq
noncomputable instance:Inhabited vM:=⟨⟨0,0,[],[],[],0⟩⟩
structure RY(x:GA)(X:vM):Prop where
 seq:x.1.1=X.seq
 cli:x.1.2=X.cli
 dig:bl x.2.1=X.dig
 mat:xZ x.2.2.1.1 x.2.2.1.2 X.mat
 ys:yc x.2.2.2.1.1 x.2.2.2.1.2 X.ys
 op:x.2.2.2.2=X.op
 m63:x.2.2.1.1<9223372036854775808
 y63:x.2.2.2.1.1<9223372036854775808
structure P8(x:VO)(X:qo):Prop where
 srv:x.1=X.srv
 seq:x.2.1.1=X.seq
 cli:x.2.1.2=X.cli
 dig:bl x.2.2=X.dig
def mq {α:Type}(f:α→WS→WS)(l:List α)(st:WS):WS:=l.foldl (fun s x=>f x s) st
def D6(f:WS→WS):Prop:= ∀st,st.1.length≤(f st).1.length
theorem gL {α:Type}(f:α→WS→WS)(l:List α)(st:WS)(k:Nat)(d:α)(h:k<l.length):mq f (l.take (k+1)) st=f (l.getD k d) (mq f (l.take k) st):=by
 unfold mq
 rw[List.take_add_one,List.getElem?_eq_getElem h,List.foldl_append,List.getD_eq_getElem?_getD,List.getElem?_eq_getElem h]; rfl
theorem jL {α:Type} {f:α→WS→WS}(h: ∀x,D6 (f x)): ∀(l:List α),D6 (mq f l)
 | [],st=>Nat.le_refl _
 |x::l,st=>Nat.le_trans (h x st) (jL h l (f x st))
theorem nX {α:Type} {f:α→WS→WS}(h: ∀x,D6 (f x))(l:List α)(k:Nat)(st:WS):(mq f (l.take k) st).1.length≤(mq f l st).1.length:=by
 have e:mq f l st=mq f (l.drop k) (mq f (l.take k) st):=by
  unfold mq; rw[←List.foldl_append,List.take_append_drop]
 rw[e]; exact jL h _ _
def wYs(l:List Nat):WS→WS:=mq (fun y=>dF (be y)) l
noncomputable def aT(X:vM)(st:WS):WS:=
 dw 4 X.op (wYs X.ys (dw 1 (X.ys.length:Int) (dF (fG X.mat) (dF X.dig (qw X.seq X.cli (st.1,st.2||(decide (0<X.mat.length)&&decide (fG X.mat=[]))))))))
def D7(v:qo)(st:WS):WS:=dF v.dig (qw v.seq v.cli (dw 1 v.srv st))
def ig(l:List qo)(st:WS):WS:=mq D7 l (dw 2 (l.length:Int) st)
theorem ahf(k:Nat)(n:Int):D6 (dw k n):=fun st=>by rw[av]; omega
theorem a1x(s:List UInt8):D6 (dF s):=fun st=>by rw[bI]; omega
theorem gYs(l:List Nat):D6 (wYs l):=jL (fun y=>a1x _) l
theorem Ns(X:vM)(st:WS):st.1.length+14+X.dig.length+(fG X.mat).length≤(aT X st).1.length:=by
 have h1:=gYs X.ys (dw 1 (X.ys.length:Int) (dF (fG X.mat) (dF X.dig (qw X.seq X.cli (st.1,st.2||(decide (0<X.mat.length)&&decide (fG X.mat=[])))))))
 unfold aT
 rw[av]
 rw[av,bI,bI,iJ]at h1
 simp only at h1
 omega
theorem xR(X:vM):D6 (aT X):=fun st=>by have:=Ns X st; omega
theorem M9(v:qo)(st:WS):(D7 v st).1.length=st.1.length+10+v.dig.length:=by unfold D7; rw[bI,iJ,av]
theorem Zc(v:qo):D6 (D7 v):=fun st=>by unfold D7; rw[bI,iJ,av]; omega
theorem Nt(l:List qo):D6 (ig l):=fun st=>Nat.le_trans (ahf 2 _ st) (jL Zc l _)
theorem RZ(l:List UInt8):bl (ByteArray.mk l.toArray)=l:=rfl
theorem aav {n:Nat} {f:Nat→Nat→Int} {L:List Nat}(hy:yc n f L)(hn:n<9223372036854775808) {nw:Nat} {w1:Nat→Int} {w2:Bool} {st:WS}(h:WOk nw w1 w2 st)(hl:(wYs L st).1.length<2^38)(w:Unit)
  (x1:Int×Int) (x2:ByteArray) (nx:Nat) (x3:Nat→SlV (Nat→Int)) (nx1:Nat) (x4:Nat→Nat→Int) (x5:Int):
  ∃no o b,aj aZ (((),((),((n,f),((n:Int),(0,()))))),(((w,(nw,w1)),w2),((x1,(x2,((nx,x3),((nx1,x4),x5)))),())))=some (qh () no o b x1 x2 nx x3 nx1 x4 x5)∧WOk no o b (wYs L st):=by
 obtain⟨⟨⟨no,o⟩,b⟩,h1,h2⟩:=aR (R:=aZ) (S:=(Nat×(Nat→Int))×Bool) (fun j z=>lX n f (n:Int) (j:Int) w z.1.1 z.1.2 z.2 x1 x2 nx x3 nx1 x4 x5) (fun z=>qh () z.1.1 z.1.2 z.2 x1 x2 nx x3 nx1 x4 x5)
  (fun j z=>WOk z.1.1 z.1.2 z.2 (wYs (L.take j) st)) n
  (fun j hj z hz=>by
   have hx:=hy.2 j hj
   have hb:=GK hx
   have hle:=nX (fun y=>a1x (be y)) L (j+1) st
   rw[gL _ L st j 0 (by rw[hy.1]; exact hj),bI]at hle
   obtain⟨no,o,b,g1,g2⟩:=RX hz (s:=⟨(be (L.getD j 0)).toArray⟩) (by
    have:(ByteArray.mk (be (L.getD j 0)).toArray).size=(be (L.getD j 0)).length:=rfl
    rw[this]; unfold wYs at hl⊢; omega) w
   refine⟨((no,o),b),?_,?_⟩
   ·simp(disch:=omega) only[aZ,lX,WW,CC,hb,g1,jf]
   ·unfold wYs
    rw[gL _ L st j 0 (by rw[hy.1]; exact hj)]
    exact g2)
  (fun z _=>by simp(disch:=omega) only[aZ,lX,WW]) ((nw,w1),w2) h
 rw[←hy.1,List.take_length]at h2
 exact⟨no,o,b,h1,h2⟩
theorem aaw {x:GA} {X:vM}(hx:RY x X) {nw:Nat} {w1:Nat→Int} {w2:Bool} {st:WS}(h:WOk nw w1 w2 st)(hl:(aT X st).1.length<2^37)(w:Unit):
  ∃no o b,dJ x.1 x.2.1 x.2.2.1.1 x.2.2.1.2 x.2.2.2.1.1 x.2.2.2.1.2 x.2.2.2.2 w nw w1 w2=some (fP () no o b)∧WOk no o b (aT X st):=by
 obtain⟨⟨s1,s2⟩,dg,⟨nm,m⟩,⟨ny,y⟩,op⟩:=x
 obtain⟨q1,q2,q3,q4,q5,q6,q7,q8⟩:=hx
 simp only at q1 q2 q3 q4 q5 q6 q7 q8⊢
 subst q1 q2 q6
 have hle:=Ns X st
 have hmb:=M8 q4 q7
 have tail: ∀b0:Bool,b0=(st.2||(decide (0<X.mat.length)&&decide (fG X.mat=[])))→ ∃no o b,(match dI (X.seq,X.cli) w nw w1 b0 with
   |none=>none
   |some y0=>match bg dg y0.2.1.1.1 y0.2.1.1.2.1 y0.2.1.1.2.2 y0.2.1.2 with
    |none=>none
    |some y1=>match bg (ByteArray.mk (fG X.mat).toArray) y1.2.1.1.1 y1.2.1.1.2.1 y1.2.1.1.2.2 y1.2.1.2 with
     |none=>none
     |some y2=>match aI ((ny:Nat):Int) 1 y2.2.1.1.1 y2.2.1.1.2.1 y2.2.1.1.2.2 y2.2.1.2 with
      |none=>none
      |some y3=>match aj aZ (((),((),((ny,y),(((ny:Nat):Int),(0,()))))),(((y3.2.1.1.1,(y3.2.1.1.2.1,y3.2.1.1.2.2)),y3.2.1.2),(((X.seq,X.cli),(dg,((nm,m),((ny,y),X.op)))),())))with
       |none=>none
       |some y4=>match aI y4.2.2.1.2.2.2.2 4 y4.2.1.1.1 y4.2.1.1.2.1 y4.2.1.1.2.2 y4.2.1.2 with
        |none=>none
        |some y5=>some ((),(((y5.2.1.1.1,(y5.2.1.1.2.1,y5.2.1.1.2.2)),y5.2.1.2),())):Option (Unit×(WR×Unit)))=some (fP () no o b)∧WOk no o b (aT X st):=by
  intro b0 hb0
  have hY:=gYs X.ys (dw 1 (X.ys.length:Int) (dF (fG X.mat) (dF X.dig (qw X.seq X.cli (st.1,b0)))))
  have hl2:(wYs X.ys (dw 1 (X.ys.length:Int) (dF (fG X.mat) (dF X.dig (qw X.seq X.cli (st.1,b0)))))).1.length+4<2^37:=by
   have:aT X st=dw 4 X.op (wYs X.ys (dw 1 (X.ys.length:Int) (dF (fG X.mat) (dF X.dig (qw X.seq X.cli (st.1,b0)))))):=by unfold aT; rw[hb0]
   rw[this,av]at hl; exact hl
  have hds:dg.size=X.dig.length:=by rw[←q3]; rfl
  rw[av,bI,bI,iJ]at hY
  simp only at hY
  obtain⟨n1,o1,b1,g1,k1⟩:=a1w (x:=(X.seq,X.cli)) (st:=(st.1,b0)) (w2:=b0) ⟨h.row,rfl⟩ (by simp only; omega) w
  dsimp only at k1
  obtain⟨n2,o2,b2,g2,k2⟩:=RX k1 (s:=dg) (by rw[iJ]; simp only; omega) ()
  rw[q3]at k2
  obtain⟨n3,o3,b3,g3,k3⟩:=RX k2 (s:=ByteArray.mk (fG X.mat).toArray) (by
   have:(ByteArray.mk (fG X.mat).toArray).size=(fG X.mat).length:=rfl
   rw[this,bI,iJ]; simp only; omega) ()
  rw[RZ]at k3
  obtain⟨n4,o4,b4,g4,k4⟩:=yg (k:=1) ⟨by decide,by decide⟩ (kk:=1) rfl ((ny:Nat):Int) k3 (by rw[bI,bI,iJ]; simp only; omega) ()
  rw[←q5.1]at k4
  obtain⟨n5,o5,b5,g5,k5⟩:=aav q5 q8 k4 (by omega) () (X.seq,X.cli) dg nm m ny y X.op
  obtain⟨n6,o6,b6,g6,k6⟩:=yg (k:=4) ⟨by decide,by decide⟩ (kk:=4) rfl X.op k5 (by omega) ()
  refine⟨n6,o6,b6,?_,?_⟩
  ·simp only[g1,g2,g3,g4,g5,g6]
  ·unfold aT; rw[←hb0]; exact k6
 rw[tQ]; unfold kE
 simp only[hmb]
 have hb:=h.bad
 have hnm:=q4.sz
 cases hw:w2 with
 |true=>exact tail true (by rw[←hb,hw]; rfl)
 |false=>
  rw[hw]at hb
  by_cases c:0<nm
  ·rw[bB (show((nm:Nat):Int)>0 by omega)]
   refine tail _ ?_
   rw[←hb,jA,decide_eq_true (by omega:0<X.mat.length)]
   simp only[Bool.false_or,Bool.true_and]
   congr 1
   exact propext List.length_eq_zero_iff
  ·rw[aM (show¬((nm:Nat):Int)>0 by omega)]
   refine tail false ?_
   rw[←hb,decide_eq_false (by omega: ¬0<X.mat.length)]; rfl
theorem a1y {n:Nat} {f:Nat→VO} {L:List qo}(hn:n=L.length)(hf: ∀i,i<n→P8 (f i) (L.getD i ⟨0,0,0,[]⟩))(h63:n<9223372036854775808) {nw:Nat} {w1:Nat→Int} {w2:Bool} {st:WS}(h:WOk nw w1 w2 st)(hl:(ig L st).1.length<2^37)(w:Unit):
  ∃no o b,iZ n f w nw w1 w2=some (sD () no o b)∧WOk no o b (ig L st):=by
 have hg:=jL Zc L (dw 2 (L.length:Int) st)
 rw[av]at hg
 unfold ig at hl
 obtain⟨n1,o1,b1,g1,k1⟩:=yg (k:=2) ⟨by decide,by decide⟩ (kk:=2) rfl ((n:Nat):Int) h (by omega) w
 rw[hn]at k1
 obtain⟨⟨⟨no,o⟩,b⟩,h1,h2⟩:=aR (R:=bQ) (S:=(Nat×(Nat→Int))×Bool) (fun j z=>lY n f (n:Int) (j:Int) () z.1.1 z.1.2 z.2) (fun z=>qj () z.1.1 z.1.2 z.2)
  (fun j z=>WOk z.1.1 z.1.2 z.2 (mq D7 (L.take j) (dw 2 (L.length:Int) st))) n
  (fun j hj z hz=>by
   obtain⟨v1,v2,v3,v4⟩:=hf j hj
   have hle:=nX Zc L (j+1) (dw 2 (L.length:Int) st)
   rw[gL _ L _ j ⟨0,0,0,[]⟩ (by omega)]at hle
   rw[M9]at hle
   have hds:(f j).2.2.size=(L.getD j ⟨0,0,0,[]⟩).dig.length:=by rw[←v4]; rfl
   obtain⟨a1,a2,a3,g1,k1⟩:=yg (k:=1) ⟨by decide,by decide⟩ (kk:=1) rfl (f j).1 hz (by omega) ()
   obtain⟨b1,b2,b3,g2,k2⟩:=a1w (x:=(f j).2.1) k1 (by rw[av]; omega) ()
   obtain⟨c1,c2,c3,g3,k3⟩:=RX k2 (s:=(f j).2.2) (by rw[iJ,av]; omega) ()
   refine⟨((c1,c2),c3),?_,?_⟩
   ·simp(disch:=omega) only[bQ,lY,WW,CC,g1,g2,g3,dM,sj,jf]
   ·rw[gL _ L _ j ⟨0,0,0,[]⟩ (by omega)]
    unfold D7
    rw[v4,v1,v2,v3]at k3
    exact k3)
  (fun z _=>by simp(disch:=omega) only[bQ,lY,WW]) ((n1,o1),b1) k1
 rw[hn,List.take_length]at h2
 have h1':aj bQ (((),((n,f),(((n:Nat):Int),(0,())))),(((),(n1,o1)),b1),())=some _:=h1
 refine⟨no,o,b,?_,h2⟩
 rw[tX]; unfold kF
 simp only[g1,h1',qj]
end Go.Pl
namespace Go.Pl
open Go Go.Den Go.Num
open Go.IntKind (i64 u64 u32 u8)
abbrev v0:qo:=⟨0,0,0,[]⟩
abbrev g0:vM:=⟨0,0,[],[],[],0⟩
structure Aa where
 e:vM
 o:vM
 w:vM
 op:Int
 left:Int
 deriving DecidableEq
abbrev t0:Aa:=⟨g0,g0,g0,0,0⟩
structure Ma where
 key:List UInt8
 held:vM
 ech:List qo
 rdy:List qo
 cls:List Aa
 deriving DecidableEq
abbrev r0:Ma:=⟨[],g0,[],[],[]⟩
structure vN where
 t:Int
 num:Int
 cls:Int
 used:List Int
 recs:List Ma
 deriving DecidableEq
def a3l(x:GI):GA:=(x.1,(x.2.1,((x.2.2.1.len,SlV.fn .nil x.2.2.1),((x.2.2.2.1.len,SlV.fn (fun _=>0) x.2.2.2.1),x.2.2.2.2))))
structure TA(x:GI)(X:vM):Prop where
 m0:x.2.2.1.isMs=false
 y0:x.2.2.2.1.isMs=false
 ga:RY (a3l x) X
structure a0T(x:TO)(X:Aa):Prop where
 e:TA x.1 X.e
 o:TA x.2.1 X.o
 w:TA x.2.2.1 X.w
 op:x.2.2.2.1=X.op
 left:x.2.2.2.2=X.left
structure BR {α β:Type}(R:α→β→Prop)(n:Nat)(f:Nat→α)(L:List β)(d:β):Prop where
 sz:n=L.length
 is: ∀i,i<n→R (f i) (L.getD i d)
 l63:L.length<9223372036854775808
structure S9(x:RE)(X:Ma):Prop where
 key:bl x.1=X.key
 held:TA x.2.1 X.held
 e0:x.2.2.1.isMs=false
 d0:x.2.2.2.1.isMs=false
 c0:x.2.2.2.2.isMs=false
 e:BR P8 x.2.2.1.len (SlV.fn zV x.2.2.1) X.ech v0
 d:BR P8 x.2.2.2.1.len (SlV.fn zV x.2.2.2.1) X.rdy v0
 c:BR a0T x.2.2.2.2.len (SlV.fn zT x.2.2.2.2) X.cls t0
structure Mc(x:IM)(X:vN):Prop where
 t:x.1=X.t
 num:x.2.1=X.num
 cls:x.2.2.1=X.cls
 used:BR (fun a b=>a=b) x.2.2.2.1.1 x.2.2.2.1.2 X.used 0
 recs:BR S9 x.2.2.2.2.1 x.2.2.2.2.2 X.recs r0
noncomputable def sI(X:Aa)(st:WS):WS:=dw 4 X.left (dw 4 X.op (aT X.w (aT X.o (aT X.e st))))
noncomputable def nE(X:Ma)(st:WS):WS:=mq sI X.cls (dw 1 (X.cls.length:Int) (ig X.rdy (ig X.ech (aT X.held (dF X.key st)))))
noncomputable def Nu(X:vN):WS:=mq nE X.recs (dw 2 (X.recs.length:Int) (mq (dw 2) X.used (dw 1 (X.used.length:Int) (dw 1 X.cls (dw 1 X.num (dw 1 X.t ([],false)))))))
theorem Zd(X:Aa):D6 (sI X):=fun st=>by
 have h1:=xR X.e st; have h2:=xR X.o (aT X.e st); have h3:=xR X.w (aT X.o (aT X.e st))
 unfold sI; rw[av,av]; omega
theorem PN(X:Ma):D6 (nE X):=fun st=>by
 have h1:=a1x X.key st; have h2:=xR X.held (dF X.key st); have h3:=Nt X.ech (aT X.held (dF X.key st))
 have h4:=Nt X.rdy (ig X.ech (aT X.held (dF X.key st)))
 have h5:=jL Zd X.cls (dw 1 (X.cls.length:Int) (ig X.rdy (ig X.ech (aT X.held (dF X.key st)))))
 rw[av]at h5
 unfold nE; omega
theorem aax {x:GI} {X:vM}(hx:TA x X) {nw:Nat} {w1:Nat→Int} {w2:Bool} {st:WS}(h:WOk nw w1 w2 st)(hl:(aT X st).1.length<2^37)(w:Unit):
  ∃no o b,dJ x.1 x.2.1 x.2.2.1.len (SlV.fn .nil x.2.2.1) x.2.2.2.1.len (SlV.fn (fun _=>0) x.2.2.2.1) x.2.2.2.2 w nw w1 w2=some (fP () no o b)∧WOk no o b (aT X st):=aaw hx.ga h hl w
theorem a9D {x:RE} {X:Ma}(hx:S9 x X) {nw:Nat} {w1:Nat→Int} {w2:Bool} {st:WS}(h:WOk nw w1 w2 st)(hl:(nE X st).1.length<2^36)(w:Unit):
  ∃no o b,kG x.1 x.2.1.1 x.2.1.2.1 x.2.1.2.2.1.len (SlV.fn .nil x.2.1.2.2.1) x.2.1.2.2.2.1.len (SlV.fn (fun _=>0) x.2.1.2.2.2.1) x.2.1.2.2.2.2 x.2.2.1.len (SlV.fn zV x.2.2.1) x.2.2.2.1.len (SlV.fn zV x.2.2.2.1) x.2.2.2.2.len (SlV.fn zT x.2.2.2.2) w nw w1 w2=some (qE () no o b)∧WOk no o b (nE X st):=by
 have l2:=xR X.held (dF X.key st); have l3:=Nt X.ech (aT X.held (dF X.key st))
 have l4:=Nt X.rdy (ig X.ech (aT X.held (dF X.key st)))
 generalize hst5:dw 1 (X.cls.length:Int) (ig X.rdy (ig X.ech (aT X.held (dF X.key st))))=st5 at*
 have l5:=jL Zd X.cls st5
 have l6:st5.1.length=(ig X.rdy (ig X.ech (aT X.held (dF X.key st)))).1.length+1:=by rw[←hst5,av]
 have hl:(mq sI X.cls st5).1.length<2^36:=by rw[←hst5]; exact hl
 have l1:=bI X.key st
 have hks:x.1.size=X.key.length:=by rw[←hx.key]; rfl
 obtain⟨a1,a2,a3,g1,k1⟩:=RX h (s:=x.1) (by omega) w
 rw[hx.key]at k1
 obtain⟨b1,b2,b3,g2,k2⟩:=aax hx.held k1 (by omega) ()
 have he:=hx.e.l63; have hd:=hx.d.l63; have hc:=hx.c.l63
 have en:=hx.e.sz; have dn:=hx.d.sz; have cn:=hx.c.sz
 obtain⟨c1,c2,c3,g3,k3⟩:=a1y hx.e.sz hx.e.is (by omega) k2 (by omega) ()
 obtain⟨d1,d2,d3,g4,k4⟩:=a1y hx.d.sz hx.d.is (by omega) k3 (by omega) ()
 obtain⟨e1,e2,e3,g5,k5⟩:=yg (k:=1) ⟨by decide,by decide⟩ (kk:=1) rfl ((x.2.2.2.2.len:Nat):Int) k4 (by omega) ()
 rw[cn,hst5]at k5
 generalize hF:SlV.fn zT x.2.2.2.2=F at*
 have hci:=hx.c.is
 rw[hF]at hci
 generalize hN:x.2.2.2.2.len=N at*
 obtain⟨⟨⟨no,o⟩,b⟩,h1,h2⟩:=aR (R:=bK) (S:=(Nat×(Nat→Int))×Bool) (fun j z=>kX N F (N:Int) (j:Int) () z.1.1 z.1.2 z.2) (fun z=>oW () z.1.1 z.1.2 z.2)
  (fun j z=>WOk z.1.1 z.1.2 z.2 (mq sI (X.cls.take j) st5)) N
  (fun j hj z hz=>by
   have ht:=hci j hj
   have hle:=nX Zd X.cls (j+1) st5
   rw[gL _ X.cls _ j t0 (by omega)]at hle
   generalize hTT:X.cls.getD j t0=TT at*
   generalize hSS:mq sI (X.cls.take j) st5=SS at*
   have n1:=xR TT.e SS; have n2:=xR TT.o (aT TT.e SS); have n3:=xR TT.w (aT TT.o (aT TT.e SS))
   have n4:(sI TT SS).1.length=(aT TT.w (aT TT.o (aT TT.e SS))).1.length+4+4:=by unfold sI; rw[av,av]
   obtain⟨a1,a2,a3,g1,k1⟩:=aax ht.e hz (by omega) ()
   obtain⟨b1,b2,b3,g2,k2⟩:=aax ht.o k1 (by omega) ()
   obtain⟨c1,c2,c3,g3,k3⟩:=aax ht.w k2 (by omega) ()
   obtain⟨d1,d2,d3,g4,k4⟩:=yg (k:=4) ⟨by decide,by decide⟩ (kk:=4) rfl (F j).2.2.2.1 k3 (by omega) ()
   obtain⟨e1,e2,e3,g5,k5⟩:=yg (k:=4) ⟨by decide,by decide⟩ (kk:=4) rfl (F j).2.2.2.2 k4 (by rw[av]; omega) ()
   refine⟨((e1,e2),e3),?_,?_⟩
   ·simp(disch:=omega) only[bK,kX,WW,CC,ht.e.m0,ht.e.y0,ht.o.m0,ht.o.y0,ht.w.m0,ht.w.y0,g1,g2,g3,g4,g5,dM,fP]
   ·rw[gL _ X.cls _ j t0 (by omega),hTT,hSS]
    rw[ht.op,ht.left]at k5
    exact k5)
  (fun z _=>by simp(disch:=omega) only[bK,kX,WW]) ((e1,e2),e3) k5
 rw[cn,List.take_length]at h2
 have h1':aj bK (((),((N,F),(((N:Nat):Int),(0,())))),(((),(e1,e2)),e3),())=some _:=h1
 refine⟨no,o,b,?_,?_⟩
 ·rw[sF]; unfold jO
  simp only[g1,g2,g3,g4,g5,h1',jf,fP,sD,dM,oW]
 ·unfold nE; rw[hst5]; exact h2
noncomputable def TD(X:vN):ByteArray×Int:=if(Nu X).2 then(ByteArray.mk #[],1)else(⟨(Nu X).1.toArray⟩,0)
theorem BS {x:IM} {X:vN}(hx:Mc x X)(hl:(Nu X).1.length<2^35):oZ x=some (TD X):=by
 obtain⟨x1,x2,x3,⟨nu,u⟩,⟨nr,r⟩⟩:=x
 obtain⟨q1,q2,q3,q4,q5⟩:=hx
 simp only at q1 q2 q3 q4 q5
 subst q1 q2 q3
 have hu:=q4.l63; have hr:=q5.l63; have un:=q4.sz; have rn:=q5.sz
 generalize hs4:dw 1 (X.used.length:Int) (dw 1 X.cls (dw 1 X.num (dw 1 X.t ([],false))))=s4
 have l4:s4.1.length=4:=by rw[←hs4,av,av,av,av]; rfl
 generalize hs5:mq (dw 2) X.used s4=s5
 generalize hs6:dw 2 (X.recs.length:Int) s5=s6
 have l6:s6.1.length=s5.1.length+2:=by rw[←hs6,av]
 have hI:Nu X=mq nE X.recs s6:=by unfold Nu; rw[hs4,hs5,hs6]
 have l7:=jL PN X.recs s6
 rw[hI]at hl
 have z0:WOk 0 (fun _=>0) false (([],false):WS):=⟨⟨rfl,fun j hj=>absurd hj (Nat.not_lt_zero _)⟩,rfl⟩
 obtain⟨a1,a2,a3,g1,k1⟩:=yg (k:=1) ⟨by decide,by decide⟩ (kk:=1) rfl X.t z0 (by decide) ()
 obtain⟨b1,b2,b3,g2,k2⟩:=yg (k:=1) ⟨by decide,by decide⟩ (kk:=1) rfl X.num k1 (by rw[av]; decide) ()
 obtain⟨c1,c2,c3,g3,k3⟩:=yg (k:=1) ⟨by decide,by decide⟩ (kk:=1) rfl X.cls k2 (by rw[av,av]; decide) ()
 obtain⟨d1,d2,d3,g4,k4⟩:=yg (k:=1) ⟨by decide,by decide⟩ (kk:=1) rfl ((nu:Nat):Int) k3 (by rw[av,av,av]; decide) ()
 rw[un,hs4]at k4
 have gU: ∀n,D6 (dw 2 n):=fun n=>ahf 2 n
 obtain⟨⟨⟨e1,e2⟩,e3⟩,h1,h2⟩:=aR (R:=kH) (S:=(Nat×(Nat→Int))×Bool) (fun j z=>DW nu u (nu:Int) (j:Int) X.t X.num X.cls nu u nr r () z.1.1 z.1.2 z.2) (fun z=>FY X.t X.num X.cls nu u nr r () z.1.1 z.1.2 z.2)
  (fun j z=>WOk z.1.1 z.1.2 z.2 (mq (dw 2) (X.used.take j) s4)) nu
  (fun j hj z hz=>by
   have ht:=q4.is j hj
   have hle:=nX gU X.used (j+1) s4
   rw[gL _ X.used _ j 0 (by omega),av,hs5]at hle
   obtain⟨a1,a2,a3,g1,k1⟩:=yg (k:=2) ⟨by decide,by decide⟩ (kk:=2) rfl (u j) hz (by omega) ()
   refine⟨((a1,a2),a3),?_,?_⟩
   ·simp(disch:=omega) only[kH,DW,WW,CC,g1,dM]
   ·rw[gL _ X.used _ j 0 (by omega)]
    rw[ht]at k1; exact k1)
  (fun z _=>by simp(disch:=omega) only[kH,DW,WW]) ((d1,d2),d3) k4
 rw[un,List.take_length,hs5]at h2
 have h1':aj kH (((),((),((nu,u),(((nu:Nat):Int),(0,()))))),((X.t,(X.num,(X.cls,((nu,u),(nr,r))))),(((((),(d1,d2)),d3)),())))=some _:=h1
 obtain⟨f1,f2,f3,g5,k5⟩:=yg (k:=2) ⟨by decide,by decide⟩ (kk:=2) rfl ((nr:Nat):Int) h2 (by omega) ()
 rw[rn,hs6]at k5
 obtain⟨⟨⟨no,o⟩,b⟩,h3,h4⟩:=aR (R:=kI) (S:=(Nat×(Nat→Int))×Bool) (fun j z=>DX nr r (nr:Int) (j:Int) () z.1.1 z.1.2 z.2) (fun z=>FZ () z.1.1 z.1.2 z.2)
  (fun j z=>WOk z.1.1 z.1.2 z.2 (mq nE (X.recs.take j) s6)) nr
  (fun j hj z hz=>by
   have ht:=q5.is j hj
   have hle:=nX PN X.recs (j+1) s6
   rw[gL _ X.recs _ j r0 (by omega)]at hle
   obtain⟨a1,a2,a3,g1,k1⟩:=a9D ht hz (by omega) ()
   refine⟨((a1,a2),a3),?_,?_⟩
   ·simp(disch:=omega) only[kI,DX,WW,CC,ht.held.m0,ht.held.y0,ht.e0,ht.d0,ht.c0,g1,qE]
   ·rw[gL _ X.recs _ j r0 (by omega)]; exact k1)
  (fun z _=>by simp(disch:=omega) only[kI,DX,WW]) ((f1,f2),f3) k5
 rw[rn,List.take_length,←hI]at h4
 have h3':aj kI (((),((nr,r),(((nr:Nat):Int),(0,())))),(((),(f1,f2)),f3),())=some _:=h3
 rw[Ob]; unfold Hy
 simp only[g1,g2,g3,g4,h1',g5,h3',dM,FY,FZ]
 unfold TD
 rw[←h4.bad]
 cases b with
 |true=>rfl
 |false=>
  have hno:=h4.row.1
  rw[hI]at hno
  simp only at hno
  have d:Nat.ble no 9223372036854775807=true:=by rw[Nat.ble_eq]; omega
  simp only[aG,decide_true,Bool.true_and,d,aJ,Bool.false_eq_true,if_false]
  congr 2
  apply xO
  rw[h4.row.bytes]
end Go.Pl
namespace Go.Pl
open Go Go.Den Go.Num
open Go.IntKind (i64 u64 u32 u8)
def mkW(st:WS):ByteArray×Bool:=(⟨st.1.toArray⟩,st.2)
theorem ahg(l:List UInt8)(s:ByteArray):(⟨l.toArray⟩:ByteArray)++s=⟨(l++bl s).toArray⟩:=xO (Ih _ _)
theorem a0U {k:Nat}(hk:k≤6)(n:Int)(l:List UInt8)(b:Bool)(hl:l.length<2^39):
  aj bL (((),(n,((k:Int)-1,()))),((⟨l.toArray⟩,b),()))=some (uj (⟨(l++nD k n).toArray⟩,b)):=by
 obtain⟨z,h1,h2⟩:=aR (R:=bL) (S:=ByteArray) (fun j z=>kP n ((k:Int)-1-(j:Int)) (z,b)) (fun z=>uj (z,b))
  (fun j z=>z=⟨(l++(nD k n).take j).toArray⟩) k
  (fun j hj z hz=>by
   have e1:i64.wrap (8*((k:Int)-1-(j:Int)))=((8*(k-1-j):Nat):Int):=by rw[wrap_i64 (by omega)]; omega
   have d1:decide ((k:Int)-1-(j:Int)≥0)=true:=bB (by omega)
   have d2:decide (((8*(k-1-j):Nat):Int)<0)=false:=aM (by omega)
   have e2:i64.wrap ((k:Int)-1-(j:Int)-1)=(k:Int)-1-((j+1:Nat):Int):=by rw[wrap_i64 (by omega)]; omega
   have hsh:=PL (n:=n) (s:=8*(k-1-j)) (by omega)
   have ea:aA .and .i64 (n/2^(8*(k-1-j))) 255=n/2^(8*(k-1-j))%256:=aaj (x:=n/2^(8*(k-1-j))) (k:=8) (by decide)
   have hv:n/2^(8*(k-1-j))%256=((n/2^(8*(k-1-j))%256).toNat:Int):=(Int.toNat_of_nonneg (Int.emod_nonneg _ (by decide))).symm
   have hb:=Za z _ hv
   have hz2:z.size=(l++(nD k n).take j).length:=by rw[hz]; rfl
   rw[List.length_append,List.length_take,eZ]at hz2
   have d3: ∀f:Nat→Int,decide ((((z.size+(bytesOf 1 f).size:Nat)):Int)>IntKind.i64.max)=false:=fun f=>aM (by
    have:(bytesOf 1 f).size=1:=rfl
    have:IntKind.i64.max=9223372036854775807:=rfl
    omega)
   have hbz:=xO (t:=⟨(l++(nD k n).take (j+1)).toArray⟩) (hb.trans (by rw[hz,RZ,RZ,Ui k n l j hj]))
   refine⟨_,?_,rfl⟩
   simp only[bL,kP,d1,aJ,e1,d2,aG,hsh,e2,ea,d3,hbz])
  (fun z _=>by
   have d1:decide ((k:Int)-1-(k:Int)≥0)=false:=aM (by omega)
   simp only[bL,kP,d1,aG]) ⟨l.toArray⟩ (by simp)
 rw[List.take_of_length_le (by rw[eZ]; exact Nat.le_refl _)]at h2
 subst h2
 simpa [kP]using h1
theorem uW {k:Nat}(hk:1≤k∧k≤6) {kk:Int}(hkk:kk=(k:Int))(n:Int)(st:WS)(hl:st.1.length<2^39):
  au n kk (mkW st)=some ((),(mkW (dw k n st),())):=by
 subst hkk
 rw[xX]; unfold oG
 have e0:i64.wrap ((k:Int)-1)=(k:Int)-1:=wrap_i64 (by omega)
 have e1:i64.wrap (8*(k:Int))=((8*k:Nat):Int):=by rw[wrap_i64 (by omega)]; omega
 have d2:decide (((8*k:Nat):Int)<0)=false:=aM (by omega)
 have hsh:=PL (n:=n) (s:=8*k) (by omega)
 have go:=fun b=>a0U (k:=k) (by omega) n st.1 b hl
 simp only[e0,e1,d2,aG,hsh,mkW,go,dw,qp]
 by_cases c:n<0
 ·rw[bB c]; simp
 ·rw[aM c]
  cases n/2^(8*k) !=0<;>simp
theorem Sb(s:ByteArray)(st:WS)(hl:st.1.length+s.size<2^38):
  bC s (mkW st)=some ((),(mkW (dF (bl s) st),())):=by
 have h1:=uW (k:=2) ⟨by decide,by decide⟩ (kk:=2) rfl ((s.size:Nat):Int) st (by omega)
 rw[wR]; unfold mY
 have hz:(mkW (dw 2 ((s.size:Nat):Int) st)).1.size=st.1.length+2:=av _ _ _
 have d:decide ((((mkW (dw 2 ((s.size:Nat):Int) st)).1.size+s.size:Nat):Int)>IntKind.i64.max)=false:=aM (by
  have:IntKind.i64.max=9223372036854775807:=rfl
  omega)
 simp only[h1,d,aG]
 simp only[mkW,ahg]; rfl
theorem aq5 {n:Nat} {f:Nat→Nat→Int} {L:List Nat}(hy:yc n f L)(hn:n<9223372036854775808)(st:WS)(hl:(wYs L st).1.length<2^38)
  (x1:Int×Int) (x2:ByteArray) (nx:Nat) (x3:Nat→SlV (Nat→Int)) (x5:Int):
  aj bn (((),((),(0,()))),(mkW st,((x1,(x2,((nx,x3),((n,f),x5)))),())))=some (qH (mkW (wYs L st)) x1 x2 nx x3 n f x5):=by
 obtain⟨z,h1,h2⟩:=aR (R:=bn) (S:=ByteArray×Bool) (fun j z=>mZ (j:Int) z x1 x2 nx x3 n f x5) (fun z=>qH z x1 x2 nx x3 n f x5)
  (fun j z=>z=mkW (wYs (L.take j) st)) n
  (fun j hj z hz=>by
   subst hz
   have hx:=hy.2 j hj
   have hb:=GL hx
   have hle:=nX (fun y=>a1x (be y)) L (j+1) st
   rw[gL _ L st j 0 (by rw[hy.1]; exact hj),bI]at hle
   have g1:=Sb ⟨(be (L.getD j 0)).toArray⟩ (wYs (L.take j) st) (by
    have:(ByteArray.mk (be (L.getD j 0)).toArray).size=(be (L.getD j 0)).length:=rfl
    rw[this]; unfold wYs at hl⊢; omega)
   have e:wYs (L.take (j+1)) st=dF (be (L.getD j 0)) (wYs (L.take j) st):=gL _ L st j 0 (by rw[hy.1]; exact hj)
   refine⟨_,?_,rfl⟩
   rw[e]
   simp(disch:=omega) only[bn,mZ,WW,CC,hb,g1,RZ])
  (fun z _=>by simp(disch:=omega) only[bn,mZ,WW]) (mkW st) rfl
 rw[←hy.1,List.take_length]at h2
 subst h2
 exact h1
theorem aay {x:GA} {X:vM}(hx:RY x X)(st:WS)(hl:(aT X st).1.length<2^37):
  bP x.1 x.2.1 x.2.2.1.1 x.2.2.1.2 x.2.2.2.1.1 x.2.2.2.1.2 x.2.2.2.2 (mkW st)=some ((),(mkW (aT X st),())):=by
 obtain⟨⟨s1,s2⟩,dg,⟨nm,m⟩,⟨ny,y⟩,op⟩:=x
 obtain⟨q1,q2,q3,q4,q5,q6,q7,q8⟩:=hx
 simp only at q1 q2 q3 q4 q5 q6 q7 q8⊢
 subst q1 q2 q6
 have hle:=Ns X st
 have hmb:=GN q4 q7
 have tail: ∀b0:Bool,b0=(st.2||(decide (0<X.mat.length)&&decide (fG X.mat=[])))→(match au X.seq 6 (mkW (st.1,b0))with
   |none=>none
   |some y0=>match au X.cli 1 y0.2.1 with
    |none=>none
    |some y1=>match bC dg y1.2.1 with
     |none=>none
     |some y2=>match bC (ByteArray.mk (fG X.mat).toArray) y2.2.1 with
      |none=>none
      |some y3=>match au ((ny:Nat):Int) 1 y3.2.1 with
       |none=>none
       |some y4=>match aj bn (((),((),(0,()))),(y4.2.1,(((X.seq,X.cli),(dg,((nm,m),((ny,y),X.op)))),())))with
        |none=>none
        |some y5=>match au y5.2.2.1.2.2.2.2 4 y5.2.1 with
         |none=>none
         |some y6=>some ((),(y6.2.1,())):Option (Unit×((ByteArray×Bool)×Unit)))=some ((),(mkW (aT X st),())):=by
  intro b0 hb0
  have hG:aT X st=dw 4 X.op (wYs X.ys (dw 1 (X.ys.length:Int) (dF (fG X.mat) (dF X.dig (qw X.seq X.cli (st.1,b0)))))):=by unfold aT; rw[hb0]
  have hY:=gYs X.ys (dw 1 (X.ys.length:Int) (dF (fG X.mat) (dF X.dig (qw X.seq X.cli (st.1,b0)))))
  have hl0:=hl
  rw[hG,av]at hl
  have hds:dg.size=X.dig.length:=by rw[←q3]; rfl
  have g1:=uW (k:=6) ⟨by decide,by decide⟩ (kk:=6) rfl X.seq (st.1,b0) (by simp only; omega)
  have g2:=uW (k:=1) ⟨by decide,by decide⟩ (kk:=1) rfl X.cli (dw 6 X.seq (st.1,b0)) (by rw[av]; simp only; omega)
  rw[show dw 1 X.cli (dw 6 X.seq (st.1,b0))=qw X.seq X.cli (st.1,b0)from rfl]at g2
  generalize hs1:qw X.seq X.cli (st.1,b0)=s1 at*
  have l1:s1.1.length=st.1.length+7:=by rw[←hs1,iJ]
  have g3:=Sb dg s1 (by omega)
  rw[q3]at g3
  have hms:(ByteArray.mk (fG X.mat).toArray).size=(fG X.mat).length:=rfl
  rw[av,bI,bI]at hY
  have g4:=Sb (ByteArray.mk (fG X.mat).toArray) (dF X.dig s1) (by rw[bI]; omega)
  rw[RZ]at g4
  have g5:au ((ny:Nat):Int) 1 (mkW (dF (fG X.mat) (dF X.dig s1)))=some ((),(mkW (dw 1 (X.ys.length:Int) (dF (fG X.mat) (dF X.dig s1))),())):=by
   rw[q5.1]
   exact uW (k:=1) ⟨by decide,by decide⟩ (kk:=1) rfl ((ny:Nat):Int) _ (by rw[bI,bI]; omega)
  have g6:=aq5 q5 q8 (dw 1 (X.ys.length:Int) (dF (fG X.mat) (dF X.dig s1))) (by omega) (X.seq,X.cli) dg nm m X.op
  have g7:=uW (k:=4) ⟨by decide,by decide⟩ (kk:=4) rfl X.op (wYs X.ys (dw 1 (X.ys.length:Int) (dF (fG X.mat) (dF X.dig s1)))) (by omega)
  rw[hG]
  simp only[g1,g2,g3,g4,g5,g6,g7]
 rw[uS]; unfold lF
 simp only[hmb]
 have hnm:=q4.sz
 by_cases c:0<nm
 ·rw[bB (show((nm:Nat):Int)>0 by omega)]
  rw[jA]
  have h0:decide (0<X.mat.length)=true:=decide_eq_true (by omega)
  by_cases e:fG X.mat=[]
  ·rw[bB (show(ByteArray.mk (fG X.mat).toArray).size=0 by rw[e]; rfl)]
   refine tail true ?_
   rw[h0,decide_eq_true e]; simp
  ·rw[aM (show¬(ByteArray.mk (fG X.mat).toArray).size=0 from fun h=>e (List.length_eq_zero_iff.mp h))]
   refine tail st.2 ?_
   rw[decide_eq_false e]; simp
 ·rw[aM (show¬((nm:Nat):Int)>0 by omega)]
  refine tail st.2 ?_
  rw[decide_eq_false (by omega: ¬0<X.mat.length)]; simp
end Go.Pl
namespace Go.Pl
open Go Go.Den Go.Num
open Go.IntKind (i64 u64 u32 u8)
theorem a1z {n:Nat} {f:Nat→VO} {L:List qo}(hn:n=L.length)(hf: ∀i,i<n→P8 (f i) (L.getD i v0))(h63:n<9223372036854775808)(st:WS)(hl:(ig L st).1.length<2^37):
  jI n f (mkW st)=some ((),(mkW (ig L st),())):=by
 have hg:=jL Zc L (dw 2 (L.length:Int) st)
 rw[av]at hg
 unfold ig at hl⊢
 have g0:=uW (k:=2) ⟨by decide,by decide⟩ (kk:=2) rfl ((n:Nat):Int) st (by omega)
 rw[←hn]at hg hl⊢
 generalize hst:dw 2 ((n:Nat):Int) st=s1 at*
 obtain⟨z,h1,h2⟩:=aR (R:=bW) (S:=ByteArray×Bool) (fun j z=>ng n f (j:Int) z) (fun z=>qI z)
  (fun j z=>z=mkW (mq D7 (L.take j) s1)) n
  (fun j hj z hz=>by
   subst hz
   obtain⟨q1,q2,q3,q4⟩:=hf j hj
   have hle:=nX Zc L (j+1) s1
   have e:=gL D7 L s1 j v0 (by omega)
   rw[e,M9]at hle
   have hds:(f j).2.2.size=(L.getD j v0).dig.length:=by rw[←q4]; rfl
   generalize hV:L.getD j v0=V at*
   generalize hS:mq D7 (L.take j) s1=S at*
   have g1:=uW (k:=1) ⟨by decide,by decide⟩ (kk:=1) rfl (f j).1 S (by omega)
   have g2:=uW (k:=6) ⟨by decide,by decide⟩ (kk:=6) rfl (f j).2.1.1 (dw 1 (f j).1 S) (by rw[av]; omega)
   have g3:=uW (k:=1) ⟨by decide,by decide⟩ (kk:=1) rfl (f j).2.1.2 (dw 6 (f j).2.1.1 (dw 1 (f j).1 S)) (by rw[av,av]; omega)
   have g4:=Sb (f j).2.2 (dw 1 (f j).2.1.2 (dw 6 (f j).2.1.1 (dw 1 (f j).1 S))) (by rw[av,av,av]; omega)
   refine⟨_,?_,rfl⟩
   rw[e]
   simp(disch:=omega) only[bW,ng,WW,CC,g1,g2,g3,g4]
   unfold D7 qw
   rw[q1,q2,q3,q4])
  (fun z _=>by simp(disch:=omega) only[bW,ng,WW]) (mkW s1) rfl
 rw[hn,List.take_length]at h2
 subst h2
 have h1':aj bW (((),((n,f),(0,()))),(mkW s1,()))=some _:=h1
 rw[uT]; unfold lG
 simp only[g0,h1',qI]
theorem aaz {x:GI} {X:vM}(hx:TA x X)(st:WS)(hl:(aT X st).1.length<2^37):
  bP x.1 x.2.1 x.2.2.1.len (SlV.fn .nil x.2.2.1) x.2.2.2.1.len (SlV.fn (fun _=>0) x.2.2.2.1) x.2.2.2.2 (mkW st)=some ((),(mkW (aT X st),())):=aay hx.ga st hl
theorem ahh {x:TO} {X:Aa}(hx:a0T x X)(st:WS)(hl:(sI X st).1.length<2^37):
  bP x.1.1 x.1.2.1 x.1.2.2.1.len (SlV.fn .nil x.1.2.2.1) x.1.2.2.2.1.len (SlV.fn (fun _=>0) x.1.2.2.2.1) x.1.2.2.2.2 (mkW st)=some ((),(mkW (aT X.e st),()))
  ∧bP x.2.1.1 x.2.1.2.1 x.2.1.2.2.1.len (SlV.fn .nil x.2.1.2.2.1) x.2.1.2.2.2.1.len (SlV.fn (fun _=>0) x.2.1.2.2.2.1) x.2.1.2.2.2.2 (mkW (aT X.e st))=some ((),(mkW (aT X.o (aT X.e st)),()))
  ∧bP x.2.2.1.1 x.2.2.1.2.1 x.2.2.1.2.2.1.len (SlV.fn .nil x.2.2.1.2.2.1) x.2.2.1.2.2.2.1.len (SlV.fn (fun _=>0) x.2.2.1.2.2.2.1) x.2.2.1.2.2.2.2 (mkW (aT X.o (aT X.e st)))=some ((),(mkW (aT X.w (aT X.o (aT X.e st))),()))
  ∧au x.2.2.2.1 4 (mkW (aT X.w (aT X.o (aT X.e st))))=some ((),(mkW (dw 4 X.op (aT X.w (aT X.o (aT X.e st)))),()))
  ∧au x.2.2.2.2 4 (mkW (dw 4 X.op (aT X.w (aT X.o (aT X.e st)))))=some ((),(mkW (sI X st),())):=by
 have n1:=xR X.e st; have n2:=xR X.o (aT X.e st); have n3:=xR X.w (aT X.o (aT X.e st))
 have n4:(sI X st).1.length=(aT X.w (aT X.o (aT X.e st))).1.length+4+4:=by unfold sI; rw[av,av]
 refine⟨aaz hx.e _ (by omega),aaz hx.o _ (by omega),aaz hx.w _ (by omega),?_,?_⟩
 ·rw[hx.op]; exact uW (k:=4) ⟨by decide,by decide⟩ (kk:=4) rfl _ _ (by omega)
 ·rw[hx.left]; exact uW (k:=4) ⟨by decide,by decide⟩ (kk:=4) rfl _ _ (by rw[av]; omega)
theorem a3m {N:Nat} {F:Nat→TO} {L:List Aa}(h:BR a0T N F L t0)(st:WS)(hl:(mq sI L st).1.length<2^37)
  (i x1 x2 x3:Int) (nx:Nat) (x4:NI) (nx1:Nat) (x5:Nat→RE) (r:ByteArray) (r1:Int×Int) (r2:ByteArray) (nr:Nat) (r3:Nat→SlV NI) (nr1:Nat) (r4:Nat→NI) (r5:Int) (nr2:Nat) (r6:Nat→VO) (nr3:Nat) (r7:Nat→VO):
  aj mH (wS i 0 x1 x2 x3 nx x4 nx1 x5 (mkW st) r r1 r2 nr r3 nr1 r4 r5 nr2 r6 nr3 r7 N F)=some (Ji i x1 x2 x3 nx x4 nx1 x5 (mkW (mq sI L st))):=by
 have hn:=h.sz; have h63:=h.l63
 obtain⟨z,h1,h2⟩:=aR (R:=mH) (S:=ByteArray×Bool) (fun j z=>wS i (j:Int) x1 x2 x3 nx x4 nx1 x5 z r r1 r2 nr r3 nr1 r4 r5 nr2 r6 nr3 r7 N F) (fun z=>Ji i x1 x2 x3 nx x4 nx1 x5 z)
  (fun j z=>z=mkW (mq sI (L.take j) st)) N
  (fun j hj z hz=>by
   subst hz
   have ht:=h.is j hj
   have hle:=nX Zd L (j+1) st
   have e:=gL sI L st j t0 (by omega)
   rw[e]at hle
   obtain⟨g1,g2,g3,g4,g5⟩:=ahh ht (mq sI (L.take j) st) (by omega)
   refine⟨_,?_,rfl⟩
   rw[e]
   simp(disch:=omega) only[mH,wS,WW,CC,ht.e.m0,ht.e.y0,ht.o.m0,ht.o.y0,ht.w.m0,ht.w.y0,g1,g2,g3,g4,g5])
  (fun z _=>by simp(disch:=omega) only[mH,wS,WW]) (mkW st) rfl
 rw[hn,List.take_length]at h2
 subst h2
 exact h1
theorem VA {x:IM} {X:vN}(hx:Mc x X)(hl:(Nu X).1.length<2^35):LG x=some (TD X):=by
 obtain⟨x1,x2,x3,⟨nu,u⟩,⟨nr,r⟩⟩:=x
 obtain⟨q1,q2,q3,q4,q5⟩:=hx
 simp only at q1 q2 q3 q4 q5
 subst q1 q2 q3
 have hu:=q4.l63; have hr:=q5.l63; have un:=q4.sz; have rn:=q5.sz
 generalize hs4:dw 1 (X.used.length:Int) (dw 1 X.cls (dw 1 X.num (dw 1 X.t ([],false))))=s4
 have l4:s4.1.length=4:=by rw[←hs4,av,av,av,av]; rfl
 generalize hs5:mq (dw 2) X.used s4=s5
 generalize hs6:dw 2 (X.recs.length:Int) s5=s6
 have l6:s6.1.length=s5.1.length+2:=by rw[←hs6,av]
 have hI:Nu X=mq nE X.recs s6:=by unfold Nu; rw[hs4,hs5,hs6]
 have l7:=jL PN X.recs s6
 rw[hI]at hl
 have g1:=uW (k:=1) ⟨by decide,by decide⟩ (kk:=1) rfl X.t ([],false) (by decide)
 have g2:=uW (k:=1) ⟨by decide,by decide⟩ (kk:=1) rfl X.num (dw 1 X.t ([],false)) (by rw[av]; decide)
 have g3:=uW (k:=1) ⟨by decide,by decide⟩ (kk:=1) rfl X.cls (dw 1 X.num (dw 1 X.t ([],false))) (by rw[av,av]; decide)
 have g4:au ((nu:Nat):Int) 1 (mkW (dw 1 X.cls (dw 1 X.num (dw 1 X.t ([],false)))))=some ((),(mkW s4,())):=by
  rw[un,←hs4]; exact uW (k:=1) ⟨by decide,by decide⟩ (kk:=1) rfl _ _ (by rw[av,av,av]; decide)
 have gU: ∀n,D6 (dw 2 n):=fun n=>ahf 2 n
 obtain⟨z,h1,h2⟩:=aR (R:=mG) (S:=ByteArray×Bool) (fun j z=>Gt (j:Int) X.t X.num X.cls nu u nr r z) (fun z=>Jh X.t X.num X.cls nu u nr r z)
  (fun j z=>z=mkW (mq (dw 2) (X.used.take j) s4)) nu
  (fun j hj z hz=>by
   subst hz
   have ht:=q4.is j hj
   have hle:=nX gU X.used (j+1) s4
   have e:=gL (dw 2) X.used s4 j 0 (by omega)
   rw[e,av,hs5]at hle
   have g1:=uW (k:=2) ⟨by decide,by decide⟩ (kk:=2) rfl (u j) (mq (dw 2) (X.used.take j) s4) (by omega)
   rw[ht]at g1
   refine⟨_,?_,rfl⟩
   rw[e]
   simp(disch:=omega) only[mG,Gt,WW,CC,ht,g1])
  (fun z _=>by simp(disch:=omega) only[mG,Gt,WW]) (mkW s4) rfl
 rw[un,List.take_length,hs5]at h2
 subst h2
 have h1':aj mG (((),((),(0,()))),((X.t,(X.num,(X.cls,((nu,u),(nr,r))))),(mkW s4,())))=some _:=h1
 have g5:au ((nr:Nat):Int) 2 (mkW s5)=some ((),(mkW s6,())):=by
  rw[rn,←hs6]; exact uW (k:=2) ⟨by decide,by decide⟩ (kk:=2) rfl _ _ (by omega)
 obtain⟨z,h3,h4⟩:=aR (R:=mI) (S:=ByteArray×Bool) (fun j z=>Gu (j:Int) X.t X.num X.cls nu u nr r z) (fun z=>Jj z)
  (fun j z=>z=mkW (mq nE (X.recs.take j) s6)) nr
  (fun j hj z hz=>by
   subst hz
   have ht:=q5.is j hj
   have hle:=nX PN X.recs (j+1) s6
   have e:=gL nE X.recs s6 j r0 (by omega)
   rw[e]at hle
   generalize hV:X.recs.getD j r0=V at*
   generalize hS:mq nE (X.recs.take j) s6=S at*
   have l1:=bI V.key S
   have hks:(r j).1.size=V.key.length:=by rw[←ht.key]; rfl
   have l2:=xR V.held (dF V.key S); have l3:=Nt V.ech (aT V.held (dF V.key S))
   have l4:=Nt V.rdy (ig V.ech (aT V.held (dF V.key S)))
   generalize hst5:dw 1 (V.cls.length:Int) (ig V.rdy (ig V.ech (aT V.held (dF V.key S))))=st5
   have l5:=jL Zd V.cls st5
   have l6:st5.1.length=(ig V.rdy (ig V.ech (aT V.held (dF V.key S)))).1.length+1:=by rw[←hst5,av]
   have hR:nE V S=mq sI V.cls st5:=by rw[←hst5]; rfl
   rw[hR]at hle e
   have g1:=Sb (r j).1 S (by omega)
   rw[ht.key]at g1
   have g2:=aaz ht.held (dF V.key S) (by omega)
   have g3:=a1z ht.e.sz ht.e.is (by have:=ht.e.l63; have:=ht.e.sz; omega) (aT V.held (dF V.key S)) (by omega)
   have g4:=a1z ht.d.sz ht.d.is (by have:=ht.d.l63; have:=ht.d.sz; omega) (ig V.ech (aT V.held (dF V.key S))) (by omega)
   have g5:au (((r j).2.2.2.2.len:Nat):Int) 1 (mkW (ig V.rdy (ig V.ech (aT V.held (dF V.key S)))))=some ((),(mkW st5,())):=by
    rw[ht.c.sz,←hst5]; exact uW (k:=1) ⟨by decide,by decide⟩ (kk:=1) rfl _ _ (by omega)
   have g6:=a3m ht.c st5 (by omega) (j:Int) X.t X.num X.cls nu u nr r (r j).1 (r j).2.1.1 (r j).2.1.2.1 (r j).2.1.2.2.1.len (SlV.fn .nil (r j).2.1.2.2.1) (r j).2.1.2.2.2.1.len (SlV.fn (fun _=>0) (r j).2.1.2.2.2.1) (r j).2.1.2.2.2.2 (r j).2.2.1.len (SlV.fn zV (r j).2.2.1) (r j).2.2.2.1.len (SlV.fn zV (r j).2.2.2.1)
   simp only[wS]at g6
   refine⟨_,?_,rfl⟩
   rw[e]
   simp(disch:=omega) only[mI,Gu,WW,CC,ht.held.m0,ht.held.y0,ht.e0,ht.d0,ht.c0,g1,g2,g3,g4,g5,g6])
  (fun z _=>by simp(disch:=omega) only[mI,Gu,WW]) (mkW s6) rfl
 rw[rn,List.take_length,←hI]at h4
 subst h4
 have h3':aj mI (((),((),(0,()))),((X.t,(X.num,(X.cls,((nu,u),(nr,r))))),(mkW s6,())))=some _:=h3
 rw[Ri]; unfold LD
 have g1':au X.t 1 (ByteArray.empty,false)=some ((),(mkW (dw 1 X.t ([],false)),())):=g1
 simp only[g1',g2,g3,g4,h1',g5,h3',Jh,Jj]
 unfold TD mkW
 cases(Nu X).2<;>rfl
end Go.Pl
namespace Go.Pl
open Go Go.Den Go.Num
open Go.IntKind (i64 u64 u32 u8)
abbrev Pr(α:Type):Type:=List UInt8→Option (α×List UInt8)
structure Inv {α:Type}(p:Pr α)(e:α→List UInt8)(g:α→Bool)(w:α→Prop):Prop where
 fwd: ∀a t,g a=true→w a→p (e a++t)=some (a,t)
 bwd: ∀ {l a t},p l=some (a,t)→l=e a++t∧g a=true∧w a
def mg {α β:Type}(p:Pr α)(q:Pr β):Pr (α×β):=fun l=>match p l with
 |none=>none
 |some (a,l1)=>match q l1 with
  |none=>none
  |some (b,l2)=>some ((a,b),l2)
def Md {α β:Type}(f:α→β)(p:Pr α):Pr β:=fun l=>match p l with
 |none=>none
 |some (a,t)=>some (f a,t)
def TF {α β:Type}(p:Pr α)(f:α→Option β):Pr β:=fun l=>match p l with
 |none=>none
 |some (a,t)=>match f a with
  |none=>none
  |some b=>some (b,t)
def bR(k:Nat):Pr Int:=fun l=>if l.length<k then none else some (((jK (l.take k):Nat):Int),l.drop k)
def P9(n:Nat):Pr (List UInt8):=fun l=>if l.length<n then none else some (l.take n,l.drop n)
def mh:Pr (List UInt8):=fun l=>match bR 2 l with
 |none=>none
 |some (n,l1)=>P9 n.toNat l1
def Ab {α:Type}(p:Pr α):Nat→Pr (List α)
 |0,l=>some ([],l)
 |k+1,l=>match Ab p k l with
  |none=>none
  |some (L,l1)=>match p l1 with
   |none=>none
   |some (a,l2)=>some (L++[a],l2)
def j5 {α:Type}(k:Nat)(p:Pr α):Pr (List α):=fun l=>match bR k l with
 |none=>none
 |some (n,l1)=>Ab p n.toNat l1
theorem Inv.th {α β:Type} {p:Pr α} {q:Pr β} {e:α→List UInt8} {f:β→List UInt8} {g:α→Bool} {h:β→Bool} {w:α→Prop} {v:β→Prop}(hp:Inv p e g w)(hq:Inv q f h v):
  Inv (mg p q) (fun x=>e x.1++f x.2) (fun x=>g x.1&&h x.2) (fun x=>w x.1∧v x.2) where
 fwd:=fun a t hg hw=>by
  rw[Bool.and_eq_true]at hg
  unfold mg
  rw[List.append_assoc,hp.fwd a.1 _ hg.1 hw.1]
  simp only[hq.fwd a.2 t hg.2 hw.2]
 bwd:=fun {l a t} h0=>by
  unfold mg at h0
  cases h1:p l with
  |none=>rw[h1]at h0; cases h0
  |some x=>
   obtain⟨x,l1⟩:=x
   rw[h1]at h0
   simp only at h0
   cases h2:q l1 with
   |none=>rw[h2]at h0; cases h0
   |some y=>
    obtain⟨y,l2⟩:=y
    rw[h2]at h0
    cases h0
    obtain⟨a1,a2,a3⟩:=hp.bwd h1
    obtain⟨b1,b2,b3⟩:=hq.bwd h2
    exact⟨by rw[a1,b1,List.append_assoc],by simp only[a2,b2,Bool.and_self],a3,b3⟩
theorem Inv.mp {α β:Type} {p:Pr α} {e:α→List UInt8} {g:α→Bool} {w:α→Prop}(hp:Inv p e g w)(f:α→β)(b:β→α)(h1: ∀x,f (b x)=x)(h2: ∀x,b (f x)=x):
  Inv (Md f p) (fun x=>e (b x)) (fun x=>g (b x)) (fun x=>w (b x)) where
 fwd:=fun a t hg hw=>by unfold Md; rw[hp.fwd (b a) t hg hw]; simp only[h1]
 bwd:=fun {l a t} h0=>by
  unfold Md at h0
  cases h:p l with
  |none=>rw[h]at h0; cases h0
  |some x=>
   obtain⟨x,l1⟩:=x
   rw[h]at h0
   cases h0
   simp only[h2]
   exact hp.bwd h
theorem Inv.vi {α β:Type} {p:Pr α} {e:α→List UInt8} {g:α→Bool} {w:α→Prop}(hp:Inv p e g w) {f:α→Option β} {c:β→α} {g':β→Bool} {w':β→Prop}
  (h1: ∀b,g' b=true→w' b→f (c b)=some b∧w (c b)) (h2: ∀a b,f a=some b→c b=a∧g' b=true∧w' b):
  Inv (TF p f) (fun x=>e (c x)) (fun x=>g' x&&g (c x)) w' where
 fwd:=fun a t hg hw=>by
  rw[Bool.and_eq_true]at hg
  unfold TF
  obtain⟨k1,k2⟩:=h1 a hg.1 hw
  rw[hp.fwd (c a) t hg.2 k2]; simp only[k1]
 bwd:=fun {l a t} h0=>by
  unfold TF at h0
  cases h:p l with
  |none=>rw[h]at h0; cases h0
  |some x=>
   obtain⟨x,l1⟩:=x
   rw[h]at h0
   simp only at h0
   cases h3:f x with
   |none=>rw[h3]at h0; cases h0
   |some y=>
    rw[h3]at h0
    cases h0
    obtain⟨a1,a2,a3⟩:=hp.bwd h
    obtain⟨b1,b2,b3⟩:=h2 x _ h3
    exact⟨by rw[a1,b1],by rw[b1,a2,b2]; rfl,b3⟩
theorem Ze(k m:Nat):nD k (m:Int)=beN k m:=by
 unfold nD beN
 apply List.map_congr_left
 intro i _
 rw[Z7]
 congr 1
theorem Me(k m:Nat):qp k (m:Int)=decide (m<256^k):=by
 unfold qp
 rw[aM (show¬(m:Int)<0 by omega),Z7]
 have e:(m:Int)/2^(8*k)=((m/2^(8*k):Nat):Int):=by norm_cast
 have hp:0<2^(8*k):=Nat.pow_pos (by decide)
 rw[e]
 by_cases h:m<2^(8*k)
 ·rw[decide_eq_true h,Nat.div_eq_of_lt h]; rfl
 ·rw[decide_eq_false h]
  have:0<m/2^(8*k):=Nat.div_pos (by omega) hp
  generalize m/2^(8*k)=z at*
  have:((z:Nat):Int)≠0:=by omega
  simp; omega
theorem D8 {k:Nat} {n:Int}(h:qp k n=true):0≤n:=by
 unfold qp at h
 by_cases c:n<0
 ·rw[bB c]at h; simp at h
 ·omega
theorem nG(k:Nat):Inv (bR k) (nD k) (qp k) (fun _=>True) where
 fwd:=fun a t hg _=>by
  obtain⟨m,rfl⟩:=Int.eq_ofNat_of_zero_le (D8 hg)
  rw[Me]at hg
  have hm:=of_decide_eq_true hg
  unfold bR
  rw[Ze,if_neg (by rw[List.length_append,A9]; omega),List.take_left' (A9 _ _),List.drop_left' (A9 _ _),RO,Nat.mod_eq_of_lt hm]
 bwd:=fun {l a t} h0=>by
  unfold bR at h0
  split at h0
  ·cases h0
  ·rename_i hl
   cases h0
   have hk:(l.take k).length=k:=by rw[List.length_take]; omega
   have h1:=Z8 (l.take k)
   have h2:=El (l.take k)
   rw[hk]at h1 h2
   rw[Ze,Me,h1]
   exact⟨(List.take_append_drop k l).symm,decide_eq_true h2,trivial⟩
theorem Mf:Inv mh (fun s=>nD 2 (s.length:Int)++s) (fun s=>qp 2 (s.length:Int)) (fun _=>True) where
 fwd:=fun a t hg _=>by
  unfold mh
  rw[List.append_assoc,(nG 2).fwd _ _ hg trivial]
  unfold P9
  simp only[Int.toNat_natCast]
  rw[if_neg (by rw[List.length_append]; omega),List.take_left' rfl,List.drop_left' rfl]
 bwd:=fun {l a t} h0=>by
  unfold mh at h0
  cases h:bR 2 l with
  |none=>rw[h]at h0; cases h0
  |some x=>
   obtain⟨n,l1⟩:=x
   rw[h]at h0
   simp only[P9]at h0
   split at h0
   ·cases h0
   ·rename_i hl
    cases h0
    obtain⟨a1,a2,_⟩:=(nG 2).bwd h
    have hk:(((l1.take n.toNat).length:Nat):Int)=n:=by
     have:=D8 a2
     rw[List.length_take]; omega
    rw[hk,List.append_assoc,List.take_append_drop]
    exact⟨a1,a2,trivial⟩
theorem Zf {α:Type} {p:Pr α} {e:α→List UInt8} {g:α→Bool} {w:α→Prop}(hp:Inv p e g w)(t:List UInt8)(L:List α)(hL: ∀x∈L,g x=true∧w x): ∀k,k≤L.length→Ab p k (L.flatMap e++t)=some (L.take k,(L.drop k).flatMap e++t)
 |0,_=>by simp[Ab]
 |k+1,hk=>by
  unfold Ab
  rw[Zf hp t L hL k (by omega)]
  have hx:=List.getElem_mem (l:=L) (n:=k) (by omega)
  have hd:L.drop k=L[k]::L.drop (k+1):=List.drop_eq_getElem_cons (by omega)
  simp only[hd,List.flatMap_cons,List.append_assoc,hp.fwd _ _ (hL _ hx).1 (hL _ hx).2]
  rw[List.take_add_one,List.getElem?_eq_getElem (by omega)]; rfl
theorem Uj {α:Type} {p:Pr α} {e:α→List UInt8} {g:α→Bool} {w:α→Prop}(hp:Inv p e g w): ∀ {k:Nat} {l t:List UInt8} {L:List α},Ab p k l=some (L,t)→l=L.flatMap e++t∧L.length=k∧ ∀x∈L,g x=true∧w x
 |0,l,t,L,h=>by cases h; exact⟨rfl,rfl,fun x hx=>by cases hx⟩
 |k+1,l,t,L,h=>by
  unfold Ab at h
  cases h1:Ab p k l with
  |none=>rw[h1]at h; cases h
  |some x=>
   obtain⟨M,l1⟩:=x
   rw[h1]at h
   simp only at h
   cases h2:p l1 with
   |none=>rw[h2]at h; cases h
   |some y=>
    obtain⟨y,l2⟩:=y
    rw[h2]at h
    cases h
    obtain⟨a1,a2,a3⟩:=Uj hp h1
    obtain⟨b1,b2,b3⟩:=hp.bwd h2
    refine⟨by rw[a1,b1]; simp,by rw[List.length_append,a2]; rfl,fun x hx=>?_⟩
    rcases List.mem_append.1 hx with hx|hx
    ·exact a3 x hx
    ·rw[List.mem_singleton]at hx; subst hx; exact⟨b2,b3⟩
theorem Inv.li {α:Type} {p:Pr α} {e:α→List UInt8} {g:α→Bool} {w:α→Prop}(hp:Inv p e g w)(k:Nat):
  Inv (j5 k p) (fun L=>nD k (L.length:Int)++L.flatMap e) (fun L=>qp k (L.length:Int)&&L.all g) (fun L=> ∀x∈L,w x) where
 fwd:=fun a t hg hw=>by
  rw[Bool.and_eq_true,List.all_eq_true]at hg
  unfold j5
  rw[List.append_assoc,(nG k).fwd _ _ hg.1 trivial]
  have h:=Zf hp t a (fun x hx=>⟨hg.2 x hx,hw x hx⟩) a.length (Nat.le_refl _)
  rw[List.take_length,List.drop_length]at h
  simp only[Int.toNat_natCast,h,List.flatMap_nil,List.nil_append]
 bwd:=fun {l a t} h0=>by
  unfold j5 at h0
  cases h:bR k l with
  |none=>rw[h]at h0; cases h0
  |some x=>
   obtain⟨n,l1⟩:=x
   rw[h]at h0
   obtain⟨a1,a2,_⟩:=(nG k).bwd h
   obtain⟨b1,b2,b3⟩:=Uj hp h0
   have hk:((a.length:Nat):Int)=n:=by have:=D8 a2; omega
   rw[hk]
   refine⟨by rw[a1,b1,List.append_assoc],?_,fun x hx=>(b3 x hx).2⟩
   rw[a2,Bool.true_and,List.all_eq_true]
   exact fun x hx=>(b3 x hx).1
end Go.Pl
namespace Go.Pl
open Go Go.Den Go.Num
open Go.IntKind (i64 u64 u32 u8)
def VB(s:List UInt8):Option Nat:=if iO s then some (jK s)else none
noncomputable def Sc(b:List UInt8):Option (List (List Nat)):=if b=[]then some []else xQ b
noncomputable def VD(M:List (List Nat)):Bool:=!(decide (0<M.length)&&decide (fG M=[]))
def a1A(M:List (List Nat)):Prop:= ∀R∈M,∀n∈R,n<2^256
def D9(s:List UInt8):List UInt8:=nD 2 (s.length:Int)++s
def Ac(s:List UInt8):Bool:=qp 2 (s.length:Int)
def Iy:Pr Nat:=TF mh VB
noncomputable def Iz:Pr (List (List Nat)):=TF mh Sc
theorem ahi:Inv Iy (fun y=>D9 (be y)) (fun y=>true&&Ac (be y)) (fun y=>y<2^256):=Mf.vi (g':=fun _=>true)
 (fun b _ hb=>by unfold VB; rw[(a9x hb).1,(a9x hb).2]; exact⟨rfl,trivial⟩)
 (fun a b h=>by
  unfold VB at h
  split at h
  ·rename_i ho
   cases h
   refine⟨Vy ho,rfl,?_⟩
   have h1:=(Vy ho)
   have hl:a.length≤32:=by
    unfold iO at ho
    rw[Bool.and_eq_true]at ho
    exact of_decide_eq_true ho.1
   have h2:=El a
   have h3:256^a.length≤256^32:=Nat.pow_le_pow_right (by decide) hl
   have h4:(256:Nat)^32=2^256:=by decide
   rw[←h4]; omega
  ·cases h)
theorem a9E:fG []=[]:=by
 unfold fG
 rw[if_neg]
 unfold ql
 simp[OG]
theorem aaA {M:List (List Nat)}(h:ql M=true):fG M≠ []:=by
 unfold fG
 rw[if_pos h]; simp
theorem ahj:Inv Iz (fun M=>D9 (fG M)) (fun M=>VD M&&Ac (fG M)) a1A:=Mf.vi (g':=VD)
 (fun M hg hw=>by
  refine⟨?_,trivial⟩
  unfold Sc
  by_cases e:fG M=[]
  ·rw[if_pos e]
   unfold VD at hg
   rw[decide_eq_true e,Bool.and_true,Bool.not_eq_true',decide_eq_false_iff_not]at hg
   rw[List.eq_nil_of_length_eq_zero (by omega:M.length=0)]
  ·rw[if_neg e]
   refine a9A ?_ hw
   cases he:ql M with
   |true=>rfl
   |false=>exfalso; apply e; unfold fG; rw[he]; rfl)
 (fun a M h=>by
  unfold Sc at h
  split at h
  ·rename_i ha
   cases h
   rw[a9E,ha]
   exact⟨rfl,rfl,fun R hR=>by cases hR⟩
  ·obtain⟨h1,h2,h3⟩:=Uh h
   refine⟨h2,?_,h3⟩
   unfold VD
   rw[decide_eq_false (aaA h1),Bool.and_false]; rfl)
noncomputable def pO:Pr vM:=Md (fun x=>⟨x.1,x.2.1,x.2.2.1,x.2.2.2.1,x.2.2.2.2.1,x.2.2.2.2.2⟩) (mg (bR 6) (mg (bR 1) (mg mh (mg Iz (mg (j5 1 Iy) (bR 4))))))
noncomputable def qx(X:vM):List UInt8:=nD 6 X.seq++(nD 1 X.cli++(D9 X.dig++(D9 (fG X.mat)++((nD 1 (X.ys.length:Int)++X.ys.flatMap fun y=>D9 (be y))++nD 4 X.op))))
noncomputable def wm(X:vM):Bool:=qp 6 X.seq&&(qp 1 X.cli&&(Ac X.dig&&((VD X.mat&&Ac (fG X.mat))&&((qp 1 (X.ys.length:Int)&&X.ys.all fun y=>true&&Ac (be y))&&qp 4 X.op))))
def Ii(X:vM):Prop:=True∧True∧True∧a1A X.mat∧(∀y∈X.ys,y<2^256)∧True
theorem Mg:Inv pO qx wm Ii:=
 ((nG 6).th ((nG 1).th (Mf.th (ahj.th ((ahi.li 1).th (nG 4)))))).mp _ (fun X:vM=>(X.seq,X.cli,X.dig,X.mat,X.ys,X.op)) (fun _=>rfl) (fun _=>rfl)
def OH:Pr qo:=Md (fun x=>⟨x.1,x.2.1,x.2.2.1,x.2.2.2⟩) (mg (bR 1) (mg (bR 6) (mg (bR 1) mh)))
def Uk(X:qo):List UInt8:=nD 1 X.srv++(nD 6 X.seq++(nD 1 X.cli++D9 X.dig))
def VE(X:qo):Bool:=qp 1 X.srv&&(qp 6 X.seq&&(qp 1 X.cli&&Ac X.dig))
theorem a1B:Inv OH Uk VE (fun _=>True∧True∧True∧True):=
 ((nG 1).th ((nG 6).th ((nG 1).th Mf))).mp _ (fun X:qo=>(X.srv,X.seq,X.cli,X.dig)) (fun _=>rfl) (fun _=>rfl)
noncomputable def Ju:Pr Aa:=Md (fun x=>⟨x.1,x.2.1,x.2.2.1,x.2.2.2.1,x.2.2.2.2⟩) (mg pO (mg pO (mg pO (mg (bR 4) (bR 4)))))
noncomputable def Sd(X:Aa):List UInt8:=qx X.e++(qx X.o++(qx X.w++(nD 4 X.op++nD 4 X.left)))
noncomputable def Sg(X:Aa):Bool:=wm X.e&&(wm X.o&&(wm X.w&&(qp 4 X.op&&qp 4 X.left)))
def a0V(X:Aa):Prop:=Ii X.e∧Ii X.o∧Ii X.w∧True∧True
theorem aaB:Inv Ju Sd Sg a0V:=
 (Mg.th (Mg.th (Mg.th ((nG 4).th (nG 4))))).mp _ (fun X:Aa=>(X.e,X.o,X.w,X.op,X.left)) (fun _=>rfl) (fun _=>rfl)
def Nv:Pr (List qo):=j5 2 OH
def GR(L:List qo):List UInt8:=nD 2 (L.length:Int)++L.flatMap Uk
def PS(L:List qo):Bool:=qp 2 (L.length:Int)&&L.all VE
noncomputable def IB:Pr Ma:=Md (fun x=>⟨x.1,x.2.1,x.2.2.1,x.2.2.2.1,x.2.2.2.2⟩) (mg mh (mg pO (mg Nv (mg Nv (j5 1 Ju)))))
noncomputable def a0W(X:Ma):List UInt8:=D9 X.key++(qx X.held++(GR X.ech++(GR X.rdy++(nD 1 (X.cls.length:Int)++X.cls.flatMap Sd))))
noncomputable def Ul(X:Ma):Bool:=Ac X.key&&(wm X.held&&(PS X.ech&&(PS X.rdy&&(qp 1 (X.cls.length:Int)&&X.cls.all Sg))))
def a9F(X:Ma):Prop:=True∧Ii X.held∧(∀v∈X.ech,True∧True∧True∧True)∧(∀v∈X.rdy,True∧True∧True∧True)∧ ∀c∈X.cls,a0V c
theorem ahk:Inv IB a0W Ul a9F:=
 (Mf.th (Mg.th ((a1B.li 2).th ((a1B.li 2).th (aaB.li 1))))).mp _ (fun X:Ma=>(X.key,X.held,X.ech,X.rdy,X.cls)) (fun _=>rfl) (fun _=>rfl)
noncomputable def Mh:Pr vN:=Md (fun x=>⟨x.1,x.2.1,x.2.2.1,x.2.2.2.1,x.2.2.2.2⟩) (mg (bR 1) (mg (bR 1) (mg (bR 1) (mg (j5 1 (bR 2)) (j5 2 IB)))))
noncomputable def nH(X:vN):List UInt8:=nD 1 X.t++(nD 1 X.num++(nD 1 X.cls++((nD 1 (X.used.length:Int)++X.used.flatMap (nD 2))++(nD 2 (X.recs.length:Int)++X.recs.flatMap a0W))))
noncomputable def uH(X:vN):Bool:=qp 1 X.t&&(qp 1 X.num&&(qp 1 X.cls&&((qp 1 (X.used.length:Int)&&X.used.all (qp 2))&&(qp 2 (X.recs.length:Int)&&X.recs.all Ul))))
def a1C(X:vN):Prop:=True∧True∧True∧(∀v∈X.used,True)∧ ∀r∈X.recs,a9F r
theorem a9G:Inv Mh nH uH a1C:=
 ((nG 1).th ((nG 1).th ((nG 1).th (((nG 2).li 1).th (ahk.li 2))))).mp _ (fun X:vN=>(X.t,X.num,X.cls,X.used,X.recs)) (fun _=>rfl) (fun _=>rfl)
def Wr {α:Type}(f:α→WS→WS)(e:α→List UInt8)(g:α→Bool):Prop:= ∀x st,f x st=(st.1++e x,st.2|| !g x)
theorem wZ(k:Nat):Wr (dw k) (nD k) (qp k):=fun _ _=>rfl
theorem Si:Wr dF D9 Ac:=fun x st=>by unfold dF D9 Ac dw; simp
theorem Zg {α:Type} {f:α→WS→WS} {e:α→List UInt8} {g:α→Bool}(h:Wr f e g):Wr (mq f) (fun L=>L.flatMap e) (fun L=>L.all g):=by
 intro L
 induction L with
 |nil=>intro st; simp[mq]
 |cons a L ih=>
  intro st
  have:mq f (a::L) st=mq f L (f a st):=rfl
  rw[this,ih,h]
  simp[Bool.or_assoc]
theorem PU:Wr aT qx wm:=fun X st=>by
 have hy:Wr wYs (fun L=>L.flatMap fun y=>D9 (be y)) (fun L=>L.all fun y=>true&&Ac (be y)):=Zg fun y st=>by rw[Si]; rfl
 unfold aT qw
 rw[wZ,hy,wZ,Si,Si,wZ,wZ]
 unfold qx wm
 have:(decide (0<X.mat.length)&&decide (fG X.mat=[]))= !VD X.mat:=by unfold VD; rw[Bool.not_not]
 rw[this]
 simp only[List.append_assoc,Bool.not_and,Bool.or_assoc]
 congr 2
 cases VD X.mat<;>cases qp 6 X.seq<;>cases qp 1 X.cli<;>cases Ac X.dig<;>rfl
theorem ahl:Wr D7 Uk VE:=fun X st=>by
 unfold D7 qw
 rw[Si,wZ,wZ,wZ]
 unfold Uk VE
 simp only[List.append_assoc,Bool.not_and,Bool.or_assoc]
theorem a1D:Wr ig GR PS:=fun X st=>by
 unfold ig
 rw[Zg ahl,wZ]
 unfold GR PS
 simp only[List.append_assoc,Bool.not_and,Bool.or_assoc]
theorem ahm:Wr sI Sd Sg:=fun X st=>by
 unfold sI
 rw[wZ,wZ,PU,PU,PU]
 unfold Sd Sg
 simp only[List.append_assoc,Bool.not_and,Bool.or_assoc]
theorem anz:Wr nE a0W Ul:=fun X st=>by
 unfold nE
 rw[Zg ahm,wZ,a1D,a1D,PU,Si]
 unfold a0W Ul
 simp only[List.append_assoc,Bool.not_and,Bool.or_assoc]
theorem PW(X:vN):Nu X=(nH X,!uH X):=by
 unfold Nu
 rw[Zg anz,wZ,Zg (wZ 2),wZ,wZ,wZ,wZ]
 unfold nH uH
 simp only[List.append_assoc,Bool.not_and,Bool.or_assoc,List.nil_append,Bool.false_or]
theorem VF(X:vN):TD X=if uH X then(⟨(nH X).toArray⟩,0)else(ByteArray.mk #[],1):=by
 unfold TD
 rw[PW]
 cases uH X<;>rfl
noncomputable def Da(l:List UInt8):Option vN:=match Mh l with
 |some (X,[])=>some X
 |_=>none
theorem Um {X:vN}(hg:uH X=true)(hw:a1C X):Da (nH X)=some X:=by
 unfold Da
 have:=a9G.fwd X [] hg hw
 rw[List.append_nil]at this
 rw[this]
theorem Sj {l:List UInt8} {X:vN}(h:Da l=some X):nH X=l∧uH X=true:=by
 unfold Da at h
 split at h
 ·rename_i Y h1
  cases h
  obtain⟨a,b,_⟩:=a9G.bwd h1
  rw[List.append_nil]at a
  exact⟨a.symm,b⟩
 ·cases h
end Go.Pl
namespace Go.Pl
open Go Go.Den Go.Num
open Go.IntKind (i64 u64 u32 u8)
abbrev SL:Type:=Option (List UInt8)
def sn {α:Type}(r:Option (α×List UInt8)):SL:=match r with
 |none=>none
 |some x=>some x.2
theorem fZ {α β:Type}(p:Pr α)(q:Pr β)(S:SL):sn (S.bind (mg p q))=sn ((sn (S.bind p)).bind q):=by
 cases S with
 |none=>rfl
 |some l=>
  simp only[Option.bind_some,mg]
  cases p l with
  |none=>rfl
  |some x=>
   simp only[sn,Option.bind_some]
   cases q x.2<;>rfl
theorem dz {α β:Type} {p:Pr α} {q:Pr β} {S:SL} {x:α×β} {l:List UInt8}(h:S.bind (mg p q)=some (x,l)):(∃l1,S.bind p=some (x.1,l1))∧(sn (S.bind p)).bind q=some (x.2,l):=by
 cases S with
 |none=>cases h
 |some l0=>
  simp only[Option.bind_some,mg]at h⊢
  cases h1:p l0 with
  |none=>rw[h1]at h; cases h
  |some y=>
   rw[h1]at h
   simp only[sn,Option.bind_some]at h⊢
   cases h2:q y.2 with
   |none=>rw[h2]at h; cases h
   |some z=>rw[h2]at h; cases h; exact⟨⟨_,rfl⟩,rfl⟩
theorem EW {α β:Type}(f:α→β)(p:Pr α)(S:SL):sn (S.bind (Md f p))=sn (S.bind p):=by
 cases S with
 |none=>rfl
 |some l=>
  simp only[Option.bind_some,Md]
  cases p l<;>rfl
theorem xS {α β:Type} {f:α→β} {p:Pr α} {S:SL} {b:β} {l:List UInt8}(h:S.bind (Md f p)=some (b,l)): ∃a,b=f a∧S.bind p=some (a,l):=by
 cases S with
 |none=>cases h
 |some l0=>
  simp only[Option.bind_some,Md]at h⊢
  cases h1:p l0 with
  |none=>rw[h1]at h; cases h
  |some y=>rw[h1]at h; cases h; exact⟨_,rfl,rfl⟩
def aaC {α:Type}(k:Nat)(f:Int→Pr α):Pr α:=fun l=>match bR k l with
 |none=>none
 |some (n,l1)=>f n l1
theorem Un:mh=aaC 2 (fun n=>P9 n.toNat):=rfl
theorem a3n {α:Type}(k:Nat)(p:Pr α):j5 k p=aaC k (fun n=>Ab p n.toNat):=rfl
theorem dep {α:Type} {k:Nat} {S:SL} {f:Int→Pr α} {x:Int}(h: ∀V l,S.bind (bR k)=some (V,l)→x=V):S.bind (aaC k f)=(sn (S.bind (bR k))).bind (f x):=by
 cases S with
 |none=>rfl
 |some l0=>
  simp only[Option.bind_some,aaC]at h⊢
  cases h1:bR k l0 with
  |none=>rfl
  |some y=>rw[h y.1 y.2 h1]; rfl
theorem Mi(k:Nat):bR k=Md (fun s=>((jK s:Nat):Int)) (P9 k):=by
 funext l
 unfold bR Md P9
 split<;>rfl
theorem Uo {α:Type} {p:Pr α} {l:List UInt8} {k:Nat}(h:Ab p k l=none): ∀b,k≤b→Ab p b l=none:=by
 intro b hb
 induction b with
 |zero=>
  obtain rfl:k=0:=by omega
  exact h
 |succ b ih=>
  by_cases e:k=b+1
  ·subst e; exact h
  ·unfold Ab; rw[ih (by omega)]
theorem Zh {α:Type} {p:Pr α} : ∀ {k:Nat} {l t:List UInt8} {L:List α},Ab p k l=some (L,t)→L.length=k
 |0,l,t,L,h=>by cases h; rfl
 |k+1,l,t,L,h=>by
  unfold Ab at h
  cases h1:Ab p k l with
  |none=>rw[h1]at h; cases h
  |some x=>
   rw[h1]at h
   simp only at h
   cases h2:p x.2 with
   |none=>rw[h2]at h; cases h
   |some y=>
    rw[h2]at h
    cases h
    rw[List.length_append,Zh h1]; rfl
structure LR {α β:Type}(Rel:α→β→Prop)(n:Nat)(f:Nat→α)(L:List β)(d:β):Prop where
 sz:n=L.length
 is: ∀i,i<n→Rel (f i) (L.getD i d)
theorem LR.push {α β:Type} {Rel:α→β→Prop} {n:Nat} {f:Nat→α} {L:List β} {d:β}(h:LR Rel n f L d) {x:α} {y:β}(hx:Rel x y)(z:α):
  LR Rel (n+1) (glue n f (fun j=>(upd (fun _=>z) 0 x) (0+j))) (L++[y]) d:=by
 have hs:=h.sz
 refine⟨by rw[List.length_append,←hs]; rfl,fun i hi=>?_⟩
 by_cases e:i<n
 ·rw[Z5 e,List.getD_eq_getElem?_getD,List.getElem?_append_left (by omega),←List.getD_eq_getElem?_getD]; exact h.is i e
 ·obtain rfl:i=n:=by omega
  rw[Z6 (Nat.le_refl _),Nat.sub_self,List.getD_eq_getElem?_getD,List.getElem?_append_right (by omega),←hs,Nat.sub_self]
  exact hx
theorem wo {σ v α X Y:Type} {Ok:σ→SL→Prop} {R:X→Option (X⊕Y)} {p:Pr α} {Rel:v→α→Prop}(z:v)(d:α)
  {k:Nat} (hk:k≤2) {t:Int} {S0:SL} (ht: ∀V l,S0.bind (bR k)=some (V,l)→t=V)
  (st:Int→σ→Nat→(Nat→v)→X) (ex:Bool→σ→Nat→(Nat→v)→Y)
  (hstep: ∀i:Nat,(i:Int)<t→i<65536→ ∀o l f,Ok o (some l)→ ∃x o',R (st (i:Int) o i f)=some (.inl (st ((i+1:Nat):Int) o' (i+1) (glue i f (fun j=>(upd (fun _=>z) 0 x) (0+j)))))∧Ok o' (sn ((some l).bind p))∧ ∀V l',(some l).bind p=some (V,l')→Rel x V)
  (hbad: ∀(i:Int) o n f,Ok o none→ ∃e,R (st i o n f)=some (.inr (ex e o n f)))
  (hend: ∀(i:Int) o n f,¬i<t→R (st i o n f)=some (.inr (ex true o n f)))
  {o0:σ} (h0:Ok o0 (sn (S0.bind (bR k)))) (f0:Nat→v):
  ∃e o n f,aj R (st 0 o0 0 f0)=some (ex e o n f)∧Ok o (sn (S0.bind (j5 k p)))∧ ∀L l,S0.bind (j5 k p)=some (L,l)→BR Rel n f L d:=by
 rw[a3n,dep ht]
 generalize hS:S0.bind (bR k)=S at*
 cases S with
 |none=>
  obtain⟨e,he⟩:=hbad 0 o0 0 f0 h0
  exact⟨e,o0,0,f0,gu he,h0,fun L l h=>by cases h⟩
 |some w=>
  obtain⟨V,l0⟩:=w
  have htV:=ht V l0 rfl
  have hV:0≤V∧V<65536:=by
   cases S0 with
   |none=>cases hS
   |some l1=>
    obtain⟨_,g,_⟩:=(nG k).bwd (l:=l1) hS
    have h1:=D8 g
    obtain⟨m,rfl⟩:=Int.eq_ofNat_of_zero_le h1
    rw[Me]at g
    have h2:=of_decide_eq_true g
    have h3:256^k≤256^2:=Nat.pow_le_pow_right (by decide) hk
    omega
  subst htV
  obtain⟨N,rfl⟩:=Int.eq_ofNat_of_zero_le hV.1
  simp only[sn,Option.bind_some,Int.toNat_natCast]at h0⊢
  obtain⟨y,h1,e,o,n,f,h2,h3,h4⟩:=gK (R:=R) (S:=σ×(Nat×(Nat→v))) (fun i s=>st (i:Int) s.1 s.2.1 s.2.2) (fun i s=>Ok s.1 (sn (Ab p i l0))∧(∀x,Ab p i l0=some x→s.2.1=i)∧ ∀L l,Ab p i l0=some (L,l)→LR Rel s.2.1 s.2.2 L d)
   (fun y=> ∃e o n f,y=ex e o n f∧Ok o (sn (Ab p N l0))∧ ∀L l,Ab p N l0=some (L,l)→LR Rel n f L d) N
   (fun i hi s hs=>by
    obtain⟨s1,s2,s3⟩:=s
    obtain⟨q1,q2,q3⟩:=hs
    simp only at q1 q2 q3⊢
    cases hp:Ab p i l0 with
    |none=>
     right
     rw[hp]at q1
     obtain⟨e,he⟩:=hbad (i:Int) s1 s2 s3 q1
     refine⟨_,he,e,s1,s2,s3,rfl,?_,?_⟩
     ·rw[Uo hp N (by omega)]; exact q1
     ·rw[Uo hp N (by omega)]; intro L l h; cases h
    |some w=>
     obtain⟨L,l⟩:=w
     left
     rw[hp]at q1
     have hn:=q2 _ hp
     subst hn
     obtain⟨x,o',g1,g2,g3⟩:=hstep s2 (by omega) (by omega) s1 l s3 q1
     have q4:=q3 _ _ hp
     refine⟨(o',s2+1,_),g1,?_,fun _ _=>rfl,?_⟩
     ·simp only[Ab,hp]
      simp only[Option.bind_some]at g2
      cases hl:p l with
      |none=>rw[hl]at g2; exact g2
      |some w=>rw[hl]at g2; exact g2
     ·intro L' l' h
      simp only[Ab,hp]at h
      simp only[Option.bind_some]at g3
      cases hl:p l with
      |none=>rw[hl]at h; cases h
      |some w=>
       rw[hl]at h
       cases h
       exact q4.push (g3 _ _ hl) z)
   (fun s hs=>⟨_,hend _ _ _ _ (by omega),true,s.1,s.2.1,s.2.2,rfl,hs.1,hs.2.2⟩) (o0,0,f0)
   ⟨h0,fun _ _=>rfl,fun L l h=>by cases h; exact⟨rfl,fun i hi=>absurd hi (Nat.not_lt_zero _)⟩⟩
  subst h2
  refine⟨e,o,n,f,h1,h3,fun L l h=>?_⟩
  have h5:=h4 L l h
  have h6:=Zh h
  exact⟨h5.sz,h5.is,by omega⟩
end Go.Pl
