/-
 States, as bytes.
-/
import Derived.Test.YtldlihheppdhnaaGreatMF
import Derived.Test.YtldlihheppdhnaaGreatMA
import Derived.Test.YtldlihheppdhnaaGreatPlA
import Derived.Test.YtldlihheppdhnaaGreatPlB
set_option linter.unusedVariables false
set_option linter.unusedSimpArgs false
namespace Go.Pl
open Go Go.Den Go.Num
open Go.IntKind (i64 u64 u32 u8)
def beN(k n:Nat):List UInt8:=(List.range k).map fun i=>UInt8.ofNat (n/256^(k-1-i)%256)
def nbN(n:Nat):Nat:=(iq n+7)/8
def be(n:Nat):List UInt8:=beN (nbN n) n
theorem a3E(k n:Nat):(beN k n).length=k:=by simp[beN]
theorem IX(n:Nat):(be n).length=nbN n:=a3E _ _
theorem Vp {n:Nat}(h:n<2^256):nbN n≤32:=by
 have:=tX h
 unfold nbN; omega
theorem Vq {k n:Nat} {f:Nat→Int}(h: ∀i,i<k→f (k-1-i)=((n/256^i%256:Nat):Int)):bytesOf k f=⟨(beN k n).toArray⟩:=by
 apply Lh
 rw[vL]
 show _=beN k n
 unfold beN
 refine ayL fun i hi=>?_
 have hi:=az7.1 hi
 have:=h (k-1-i) (by omega)
 rw[show k-1-(k-1-i)=i by omega]at this
 rw[this,axd]
theorem ZH(n:Nat) {j:Nat}(hj:j<32):n/2^(64*(j/8))%2^64/2^(8*(j%8))%256=n/256^j%256:=by
 have e1:(2:Nat)^64=2^(8*(j%8))*2^(64-8*(j%8)):=by rw[←ayg]; congr 1; omega
 rw[e1,Nat.mod_mul_right_div_self,Nat.mod_mod_of_dvd _ (show 256∣2^(64-8*(j%8))from Nat.pow_dvd_pow 2 (m:=8) (by omega)),ay3,←ayg]
 congr 2
 rw[show(256:Nat)=2^8 from rfl,←ayU]
 congr 1; omega
theorem a3F(m:Nat):u8.wrap ((m:Nat):Int)=((m%256:Nat):Int):=by rw[wrap_u8']; omega
theorem a6d {a:Nat→Int} {n:Nat}(h:IsN a n) {j:Nat}(hj:j<32):(u8.wrap (bH .u64 (a (j/8)) ((8*(j%8):Nat):Int)))=((n/256^j%256:Nat):Int):=by
 rw[h.2 (j/8) (by omega),OQ (axh _ (by decide)),a3F,ZH n hj]
theorem a3G {j:Nat}(hj:j<9223372036854775808):i64.wrap (Int.tdiv (j:Int) 8)=((j/8:Nat):Int):=by
 have:Int.tdiv (j:Int) 8=((j/8:Nat):Int):=rfl
 rw[this,eU (by omega)]
theorem aiG {j:Nat} :i64.wrap (8*(Int.tmod (j:Int) 8))=((8*(j%8):Nat):Int):=by
 have:Int.tmod (j:Int) 8=((j%8:Nat):Int):=rfl
 rw[this,show(8:Int)*((j%8:Nat):Int)=((8*(j%8):Nat):Int)by omega,eU (by omega)]
theorem Vr {a:Nat→Int} {n:Nat}(h:IsN a n):Il a=some ⟨(be n).toArray⟩:=by
 have hb:=Vp h.1
 obtain⟨out,h1,h2⟩:=aO (R:=lV) (S:=Nat→Int) (fun j out=>BD (nbN n:Int) (nbN n) out (nbN n:Int) (j:Int) a) (fun out=>EC (nbN n) out)
  (fun j out=> ∀i,i<j→out (nbN n-1-i)=((n/256^i%256:Nat):Int)) (nbN n)
  (fun j hj out ho=>by
   refine⟨upd out (nbN n-1-j) ((n/256^j%256:Nat):Int),?_,fun i hi=>?_⟩
   ·have e1:=a3G (j:=j) (by omega)
    have e2:=aiG (j:=j)
    have e3:i64.wrap (i64.wrap ((nbN n:Int)-1)-(j:Int))=((nbN n-1-j:Nat):Int):=by
     rw[show(nbN n:Int)-1=((nbN n-1:Nat):Int)by omega,eU (by omega),show((nbN n-1:Nat):Int)-(j:Int)=((nbN n-1-j:Nat):Int)by omega,eU (by omega)]
    have e4:=a6d h (j:=j) (by omega)
    simp(disch:=omega) only[lV,BD,WW,CC,e1,e2,e3,e4,axc]
   ·unfold upd
    by_cases e:i=j
    ·subst e; rw[ax1 rfl]
    ·rw[awU (by omega)]; exact ho i (by omega))
  (fun out _=>by simp(disch:=omega) only[lV,BD,WW]) (fun _=>0) (fun i hi=>absurd hi (axv _))
 rw[Ml]; unfold KI
 have hl:=jy h
 have hbl:iq n≤256:=tX h.1
 have e0:i64.wrap (Int.tdiv (i64.wrap ((iq n:Int)+7)) 8)=(nbN n:Int):=by
  rw[show(iq n:Int)+7=((iq n+7:Nat):Int)by omega,eU (by omega),a3G (by omega)]; rfl
 simp only[hl,e0]
 have d:((((decide ((0:Int)≤(nbN n:Int)))&&(decide ((nbN n:Int)≤(nbN n:Int))))&&(decide ((((1:Nat):Int)*(nbN n:Int))≤281474976710656)))&&(decide ((nbN n:Int)≤9223372036854775807)))=true:=by
  simp only[awV,axm]; omega
 rw[d,bB]
 have h1':aB lV (((),((nbN n:Int),(((Int.toNat (nbN n:Int)),(fun _=>0)),((nbN n:Int),(0,()))))),(a,()))=some (EC (nbN n) out):=h1
 rw[h1']
 show some (bytesOf (nbN n) (fun j=>out (0+j)))=_
 rw[Vq (n:=n) (fun i hi=>by rw[axc]; exact h2 i hi)]
 rfl
theorem a1A {α:Type} {n i:Nat} {f g:Nat→α}(h:i<n):glue n f g i=f i:=by unfold glue; rw[kS.2 h]; rfl
theorem a1B {α:Type} {n i:Nat} {f g:Nat→α}(h:n≤i):glue n f g i=g (i-n):=by
 unfold glue
 have:Nat.blt i n=false:=by cases hb:Nat.blt i n with|false=>rfl|true=>exact absurd (kS.1 hb) (by omega)
 rw[this]; rfl
theorem Ki(v k:Nat):v%2^(k+1)=v%2^k+2^k*(v.testBit k).toNat:=by
 rw[Nat.mod_pow_succ,ayS]
 have:v/2^k%2<2:=axh _ (by decide)
 by_cases h:v/2^k%2=1
 ·rw[ax6 h,h]; rfl
 ·rw[ax9 h,show v/2^k%2=0 by omega]; rfl
theorem Vs {a:Nat→Int} {n:Nat}(h:IsN a n):Io a=some ⟨(be n).toArray⟩:=by
 have hb:=Vp h.1
 obtain⟨⟨m,out⟩,h1,h2,h3⟩:=aO (R:=jD) (S:=Nat×(Nat→Int)) (fun j s=>BH s.1 s.2 ((nbN n:Int)-1-(j:Int)) a) (fun s=>xH s.1 s.2)
  (fun j s=>s.1=j∧ ∀i,i<j→s.2 i=((n/256^(nbN n-1-i)%256:Nat):Int)) (nbN n)
  (fun j hj s ho=>by
   obtain⟨m,out⟩:=s
   obtain⟨rfl,ho⟩:=ho
   simp only at hj ho⊢
   obtain⟨x,h5,h6⟩:=aO (R:=lW) (S:=Int) (fun k x=>BF m out ((nbN n:Int)-1-(m:Int)) x (k:Int) a) (fun x=>EK m out ((nbN n:Int)-1-(m:Int)) x a)
    (fun k x=>x=((n/256^(nbN n-1-m)%2^k:Nat):Int)) 8
    (fun k hk x hx=>by
     subst hx
     have e1:i64.wrap (i64.wrap (8*((nbN n:Int)-1-(m:Int)))+(k:Int))=((8*(nbN n-1-m)+k:Nat):Int):=by
      rw[show(8:Int)*((nbN n:Int)-1-(m:Int))=((8*(nbN n-1-m):Nat):Int)by omega,eU (by omega),show((8*(nbN n-1-m):Nat):Int)+(k:Int)=((8*(nbN n-1-m)+k:Nat):Int)by omega,eU (by omega)]
     have e2:=Nw h (((8*(nbN n-1-m)+k:Nat):Int))
     generalize hv:n/256^(nbN n-1-m)=v at*
     have htb:n.testBit (8*(nbN n-1-m)+k)=v.testBit k:=by
      rw[←hv,show(256:Nat)=2^8 from rfl,←ayU,axU,aym]
     rw[axd,htb]at e2
     refine⟨ak .or .i64 ((v%2^k:Nat):Int) (ig .i64 (if(0:Int)≤((8*(nbN n-1-m)+k:Nat):Int)∧v.testBit k=true then 1 else 0) (k:Int)),?_,?_⟩
     ·simp(disch:=omega) only[lW,BF,WW,CC,e1,e2]
     ·have hk8:2^k≤128:=axo (by decide) (show k≤7 by omega)
      have hlt:v%2^k<2^k:=axh _ (az3 (by decide))
      cases hbit:v.testBit k with
      |false=>
       rw[awU (fun e=>by cases e.2)]
       have:ig .i64 0 (k:Int)=((0:Nat):Int):=by simp[ig]; rfl
       rw[this,orS (by omega) (by omega),Nat.or_zero,Ki,hbit]
       simp
      |true=>
       rw[ax1 ⟨by omega,rfl⟩]
       have:ig .i64 1 (k:Int)=((2^k:Nat):Int):=by
        have hk9:k<8:=hk
        match k,hk9 with
        |0,_=>rfl
        |1,_=>rfl
        |2,_=>rfl
        |3,_=>rfl
        |4,_=>rfl
        |5,_=>rfl
        |6,_=>rfl
        |7,_=>rfl
       rw[this,orS (by omega) (by omega),Ki,hbit,Nat.or_comm]
       congr 1
       have:=ayh hlt 1
       rw[ayC]at this
       rw[aym]; simpa using this.symm)
    (fun x _=>by simp(disch:=omega) only[lW,BF,WW]) 0 (by simp)
   subst h6
   have h5':aB lW (((),((m,out),((nbN n:Int)-1-(m:Int),(0,(0,()))))),(a,()))=some _:=h5
   have ea:ak .and .i64 ((n/256^(nbN n-1-m)%2^8:Nat):Int) 255=((n/256^(nbN n-1-m)%256:Nat):Int):=by
    have:=a0T (a:=n/256^(nbN n-1-m)%2^8) (b:=255) (by omega) (by decide)
    rw[show((255:Nat):Int)=255 from rfl]at this
    rw[this,show(255:Nat)=2^8-1 from rfl,axK,azy]
   refine⟨(m+1,glue m out (fun j=>(upd (fun _=>0) 0 (u8.wrap (((n/256^(nbN n-1-m)%256:Nat):Int)))) (0+j))),?_,rfl,fun i hi=>?_⟩
   ·have e9:i64.wrap ((nbN n:Int)-1-(m:Int)-1)=(nbN n:Int)-1-((m+1:Nat):Int):=by rw[wrap_i64 (by omega)]; omega
    have d1:decide ((nbN n:Int)-1-(m:Int)≥0)=true:=dM (by omega)
    have d2:(Nat.ble ((m+1)*1) 140737488355328&&Nat.ble (m+1) 9223372036854775807)=true:=by
     rw[awV,Nat.ble_eq,Nat.ble_eq]; omega
    simp only[jD,BH,d1,bB,h5',EK,d2,ea,e9]
   ·by_cases e:i<m
    ·dsimp only
     rw[a1A e]; exact ho i e
    ·obtain rfl:i=m:=by omega
     dsimp only
     rw[a1B (ax5 _),ayx]
     show u8.wrap _=_
     rw[a3F,azy])
  (fun s hs=>by
   have d1:decide ((nbN n:Int)-1-(nbN n:Int)≥0)=false:=bG (by omega)
   simp only[jD,BH,d1,bF]) (0,fun _=>0) ⟨rfl,fun i hi=>absurd hi (axv _)⟩
 have hbl:iq n≤256:=tX h.1
 have e0:i64.wrap (i64.wrap (Int.tdiv (i64.wrap ((iq n:Int)+7)) 8)-1)=(nbN n:Int)-1-((0:Nat):Int):=by
  rw[show(iq n:Int)+7=((iq n+7:Nat):Int)by omega,eU (by omega),a3G (by omega)]
  show i64.wrap ((nbN n:Int)-1)=_
  rw[wrap_i64 (by omega)]; omega
 rw[MB]; unfold KO
 have h1':aB jD (((),((0,(fun _=>0)),((nbN n:Int)-1-((0:Nat):Int),()))),(a,()))=some (xH m out):=h1
 simp only[Ej h,e0,h1',xH]
 simp only at h2
 subst h2
 rw[Vq (n:=n) (fun i hi=>by
  have:out (nbN n-1-i)=_:=h3 (nbN n-1-i) (by omega)
  rw[axc,this,show nbN n-1-(nbN n-1-i)=i by omega])]
 rfl
open Go.IntKind (i64 u64 u32 u8)
theorem Ah.app {n:Nat} {b:Nat→Int} {l:List UInt8}(h:Ah n b l)(s:ByteArray):Ah (n+s.size) (glue n b (fun i=>(((s).data.toList.getD i 0).toNat:Int))) (l++bl s):=by
 refine⟨by rw[axa,h.1]; rfl,fun j hj=>?_⟩
 by_cases e:j<n
 ·rw[a1A e,h.2 j e,axf,axf,axj (by have:=h.1; omega)]
 ·rw[a1B (by omega),axf (l:=l++bl s),ay7 (by have:=h.1; omega),←h.1,←axf]
theorem Ah.bytes {n:Nat} {b:Nat→Int} {l:List UInt8}(h:Ah n b l):bl (bytesOf n b)=l:=by
 rw[vL]
 apply List.ext_getElem
 ·simp[h.1]
 ·intro i h1 h2
  simp only[List.getElem_map,List.getElem_range]
  rw[h.2 i (by simpa using h1),axd,axf,awZ h2]
  show UInt8.ofNat l[i].toNat=_
  rw[UInt8.ofNat_toNat]
theorem Di {n:Nat}(v:Int)(h:v=(n:Int)):u8.wrap v=((UInt8.ofNat n).toNat:Int):=by
 subst h
 rw[a3F,UInt8.toNat_ofNat']
structure jg(n:Nat)(m:Nat→SlV (Nat→Int))(M:List (List Nat)):Prop where
 sz:n=M.length
 ms: ∀i,i<n→(m i).isMs=false
 len: ∀i,i<n→(m i).len=(M.getD i []).length
 is: ∀i,i<n→ ∀j,j<(m i).len→IsN (SlV.fn (fun _=>0) (m i) j) ((M.getD i []).getD j 0)
def wJ(M:List (List Nat))(i:Nat):Prop:=(M.getD i []).length=(M.getD 0 []).length∧1≤(M.getD i []).length∧(M.getD i []).length≤7
def a9W(M:List (List Nat)):Prop:=(1≤M.length∧M.length≤25)∧ ∀i,i<M.length→wJ M i
noncomputable instance evenD(M:List (List Nat)):Decidable (a9W M):=Classical.propDecidable _
noncomputable def Ac(M:List (List Nat)):Bool:=decide (a9W M)
def a1C(n:Nat):List UInt8:=UInt8.ofNat (nbN n)::be n
def X4(r:List Nat):List UInt8:=r.flatMap a1C
noncomputable def iH(M:List (List Nat)):List UInt8:=if Ac M then UInt8.ofNat M.length::UInt8.ofNat (M.getD 0 []).length::M.flatMap X4 else []
theorem Pp {n:Nat} {m:Nat→SlV (Nat→Int)} {M:List (List Nat)}(h:jg n m M)(hn:n<9223372036854775808):AU n m=some (Ac M):=by
 obtain⟨y,h1,h2⟩:=kH (R:=cZ) (S:=Unit) (fun i _=>gT n m (n:Int) (i:Int) n m) (fun i _=> ∀k,k<i→wJ M k)
  (fun y=>(∃t:Int,0≤t∧y=jr t n m∧ ¬ ∀k,k<n→wJ M k)∨(y=wY n m∧ ∀k,k<n→wJ M k)) n
  (fun i hi _ hp=>by
   have m1:=h.ms i hi; have m0:=h.ms 0 (by omega)
   have l1:=h.len i hi; have l0:=h.len 0 (by omega)
   have bad: ¬wJ M i→(∃t:Int,0≤t∧jr (i:Int) n m=jr t n m∧ ¬ ∀k,k<n→wJ M k):=fun hb=>⟨i,by omega,rfl,fun hg=>hb (hg i hi)⟩
   by_cases c1:(m i).len=(m 0).len
   case neg=>
    refine .inr ⟨_,?_,.inl (bad fun g=>c1 (by rw[l1,l0]; exact g.1))⟩
    have e:((((m i).len:Nat):Int) !=(((m 0).len:Nat):Int))=true:=by rw[bne_iff_ne]; omega
    simp(disch:=omega) only[cZ,gT,WW,CC,m1,m0,e]
   have e:((((m i).len:Nat):Int) !=(((m 0).len:Nat):Int))=false:=by rw[c1]; simp
   by_cases c2:(((m i).len:Nat):Int)<1
   ·refine .inr ⟨_,?_,.inl (bad fun g=>by have:=g.2.1; omega)⟩
    simp(disch:=omega) only[cZ,gT,WW,CC,m1,m0,e,dM c2]
   by_cases c3:(((m i).len:Nat):Int)>7
   ·refine .inr ⟨_,?_,.inl (bad fun g=>by have:=g.2.2; omega)⟩
    simp(disch:=omega) only[cZ,gT,WW,CC,m1,m0,e,bG c2,dM c3]
   ·refine .inl ⟨(),?_,fun k hk=>?_⟩
    ·simp(disch:=omega) only[cZ,gT,WW,CC,m1,m0,e,bG c2,bG c3]
    ·rcases az6 k i with hlt|hge
     ·exact hp k hlt
     ·obtain rfl:k=i:=by omega
      exact⟨by rw[←l1,←l0]; exact c1,by omega,by omega⟩)
  (fun _ hp=>⟨_,by simp(disch:=omega) only[cZ,gT,WW],.inr ⟨rfl,hp⟩⟩) () (fun k hk=>absurd hk (axv _))
 have h1':aB cZ (((n,m),((),(((n:Nat):Int),(0,())))),((n,m),()))=some y:=h1
 rw[H9]; unfold Ee
 rw[h1']
 have hn':=h.sz
 rcases h2 with⟨t,ht,rfl,hb⟩|⟨rfl,hg⟩
 ·have:Ac M=false:=ax9 fun g=>hb fun k hk=>g.2 k (by omega)
  rw[this]
  simp only[jr,dM (show t≥0 by omega),ay1,bF]
 ·simp only[wY]
  unfold Ac
  by_cases c1:1≤n
  ·rw[dM (show((n:Nat):Int)≥1 by omega),bB]
   congr 1
   apply ayI.2
   rw[axm,axm]
   exact⟨fun g=>⟨⟨by omega,by omega⟩,fun k hk=>hg k (by omega)⟩,fun g=>by have:=g.1.2; omega⟩
  ·rw[bG (show¬((n:Nat):Int)≥1 by omega),bF]
   congr 1
   exact(ax9 fun g=>by have:=g.1.1; omega).symm
theorem X5 {n:Nat} {m:Nat→SlV (Nat→Int)} {M:List (List Nat)}(h:jg n m M)(hn:n<9223372036854775808):Ng n m=some (Ac M):=by
 obtain⟨y,h1,h2⟩:=kH (R:=iI) (S:=Unit) (fun i _=>oD n m (i:Int)) (fun i _=> ∀k,k<i→wJ M k)
  (fun y=>(y=Us false∧ ¬ ∀k,k<n→wJ M k)∨(y=GV n m∧ ∀k,k<n→wJ M k)) n
  (fun i hi _ hp=>by
   have m1:=h.ms i hi; have m0:=h.ms 0 (by omega)
   have l1:=h.len i hi; have l0:=h.len 0 (by omega)
   by_cases c1:(m i).len=(m 0).len
   case neg=>
    refine .inr ⟨_,?_,.inl ⟨rfl,fun hg=>c1 (by rw[l1,l0]; exact(hg i hi).1)⟩⟩
    have e:((((m i).len:Nat):Int) !=(((m 0).len:Nat):Int))=true:=by rw[bne_iff_ne]; omega
    simp(disch:=omega) only[iI,oD,WW,CC,m1,m0,e]
   have e:((((m i).len:Nat):Int) !=(((m 0).len:Nat):Int))=false:=by rw[c1]; simp
   by_cases c2:(((m i).len:Nat):Int)<1
   ·refine .inr ⟨_,?_,.inl ⟨rfl,fun hg=>by have:=(hg i hi).2.1; omega⟩⟩
    simp(disch:=omega) only[iI,oD,WW,CC,m1,m0,e,dM c2]
   by_cases c3:(((m i).len:Nat):Int)>7
   ·refine .inr ⟨_,?_,.inl ⟨rfl,fun hg=>by have:=(hg i hi).2.2; omega⟩⟩
    simp(disch:=omega) only[iI,oD,WW,CC,m1,m0,e,bG c2,dM c3]
   ·refine .inl ⟨(),?_,fun k hk=>?_⟩
    ·simp(disch:=omega) only[iI,oD,WW,CC,m1,m0,e,bG c2,bG c3]
    ·rcases az6 k i with hlt|hge
     ·exact hp k hlt
     ·obtain rfl:k=i:=by omega
      exact⟨by rw[←l1,←l0]; exact c1,by omega,by omega⟩)
  (fun _ hp=>⟨_,by simp(disch:=omega) only[iI,oD,WW],.inr ⟨rfl,hp⟩⟩) () (fun k hk=>absurd hk (axv _))
 have h1':aB iI (((n,m),(0,())),())=some y:=h1
 rw[QA]; unfold OH
 rw[h1']
 have hn':=h.sz
 rcases h2 with⟨rfl,hb⟩|⟨rfl,hg⟩
 ·have:Ac M=false:=ax9 fun g=>hb fun k hk=>g.2 k (by omega)
  rw[this]
 ·simp only[GV]
  unfold Ac
  by_cases c1:1≤n
  ·rw[dM (show((n:Nat):Int)≥1 by omega),bB]
   congr 1
   apply ayI.2
   rw[axm,axm]
   exact⟨fun g=>⟨⟨by omega,by omega⟩,fun k hk=>hg k (by omega)⟩,fun g=>by have:=g.1.2; omega⟩
  ·rw[bG (show¬((n:Nat):Int)≥1 by omega),bF]
   congr 1
   exact(ax9 fun g=>by have:=g.1.1; omega).symm
theorem IY {α β:Type}(f:α→List β)(l:List α)(k:Nat)(d:α)(h:k<l.length):(l.take (k+1)).flatMap f=(l.take k).flatMap f++f (l.getD k d):=by
 rw[List.take_add_one,awZ h,List.flatMap_append,axf,awZ h]
 simp
theorem a9X {nb:Nat} {b:Nat→Int} {l:List UInt8}(h:Ah nb b l) {a:Nat→Int} {n:Nat}(ha:IsN a n):
  Ah (nb+1+(ByteArray.mk (be n).toArray).size) (glue (nb+1) (glue nb b (fun j=>(upd (fun _=>0) 0 (u8.wrap (((ByteArray.mk (be n).toArray).size:Nat):Int))) (0+j))) (fun i=>((((ByteArray.mk (be n).toArray)).data.toList.getD i 0).toNat:Int))) (l++a1C n):=by
 have h1:=h.push (Di (n:=nbN n) (((ByteArray.mk (be n).toArray).size:Nat):Int) (by congr 1; exact IX n))
 have h2:=h1.app (ByteArray.mk (be n).toArray)
 rw[axL]at h2
 exact h2
theorem jg.small {n:Nat} {m:Nat→SlV (Nat→Int)} {M:List (List Nat)}(h:jg n m M)(he:Ac M=true):(1≤n∧n≤25)∧ ∀i,i<n→(m i).len≤7:=by
 obtain⟨⟨g1,g2⟩,g3⟩:a9W M:=of_decide_eq_true he
 have:=h.sz
 exact⟨⟨by omega,by omega⟩,fun i hi=>by rw[h.len i hi]; exact(g3 i (by omega)).2.2⟩
theorem Bl {n:Nat} {m:Nat→SlV (Nat→Int)} {M:List (List Nat)}(h:jg n m M)(hn:n<9223372036854775808):sS n m=some ⟨(iH M).toArray⟩:=by
 rw[ET]; unfold BP
 rw[Pp h hn]
 cases he:Ac M with
 |false=>simp only[ayA,bB,iH,he]; rfl
 |true=>
  obtain⟨⟨hn1,hn2⟩,hl7⟩:=h.small he
  have h0:=h.ms 0 (by omega)
  obtain⟨⟨nb,b⟩,h1,h2,h3⟩:=aO (R:=gU) (S:=Nat×(Nat→Int)) (fun i s=>vw n m (n:Int) (i:Int) () s.1 s.2) (fun s=>zK () s.1 s.2)
   (fun i s=>Ah s.1 s.2 ((UInt8.ofNat n::UInt8.ofNat (m 0).len::[])++(M.take i).flatMap X4)∧s.1≤2+i*300) n
   (fun i hi s hs=>by
    obtain⟨nb,b⟩:=s
    obtain⟨hs,hs2⟩:=hs
    simp only at hs hs2⊢
    have hms:=h.ms i hi; have hl:=h.len i hi; have h7:=hl7 i hi
    obtain⟨⟨nc,c⟩,g1,g2,g3⟩:=aO (R:=iT) (S:=Nat×(Nat→Int)) (fun k s=>vo n m (n:Int) (i:Int) (m i).len (SlV.fn (fun _=>0) (m i)) (((m i).len:Nat):Int) (k:Int) () s.1 s.2) (fun s=>zJ n m (n:Int) (i:Int) () s.1 s.2)
     (fun k s=>Ah s.1 s.2 ((UInt8.ofNat n::UInt8.ofNat (m 0).len::[])++(M.take i).flatMap X4++((M.getD i []).take k).flatMap a1C)∧s.1≤nb+k*33) (m i).len
     (fun k hk s hs=>by
      obtain⟨nc,c⟩:=s
      obtain⟨hc,hc2⟩:=hs
      simp only at hc hc2⊢
      have hx:=h.is i hi k hk
      have hb:=Vr hx
      have hnb:=Vp hx.1
      have hsz:(ByteArray.mk (be ((M.getD i []).getD k 0)).toArray).size=nbN ((M.getD i []).getD k 0):=IX _
      have hp:=a9X hc hx
      rw[axL,←IY a1C _ k 0 (by omega)]at hp
      refine⟨(_,_),?_,hp,by simp only; omega⟩
      have d1:(Nat.ble ((nc+1)*1) 140737488355328&&Nat.ble (nc+1) 9223372036854775807)=true:=by rw[awV,Nat.ble_eq,Nat.ble_eq]; omega
      have d2:(Nat.ble (((nc+1)+(ByteArray.mk (be ((M.getD i []).getD k 0)).toArray).size)*1) 140737488355328&&Nat.ble ((nc+1)+(ByteArray.mk (be ((M.getD i []).getD k 0)).toArray).size) 9223372036854775807)=true:=by rw[awV,Nat.ble_eq,Nat.ble_eq]; omega
      simp(disch:=omega) only[iT,vo,WW,CC,hb,d1,d2]
      rfl)
     (fun s _=>by simp(disch:=omega) only[iT,vo,WW]) (nb,b) ⟨by simpa using hs,by simp⟩
    have g1':aB iT (((),((n,m),((n:Int),((i:Int),(((m i).len,SlV.fn (fun _=>0) (m i)),((((m i).len:Nat):Int),(0,()))))))),(((),(nb,b)),()))=some _:=g1
    refine⟨(nc,c),?_,?_,by simp only at g3⊢; omega⟩
    ·simp(disch:=omega) only[gU,vw,WW,CC,hms,g1',zJ]
    ·simp only at g2⊢
     rw[hl,List.take_length,axL]at g2
     rw[IY X4 M i [] (by have:=h.sz; omega)]
     exact g2)
   (fun s _=>by simp(disch:=omega) only[gU,vw,WW]) (2,(glue 1 (glue 0 (fun _=>0) (fun j=>(upd (fun _=>0) 0 (u8.wrap ((n:Nat):Int))) (0+j))) (fun j=>(upd (fun _=>0) 0 (u8.wrap (((SlV.len (m 0)):Nat):Int))) (0+j))))
   ⟨by
    have e0:Ah 0 (fun _=>0) []:=⟨rfl,fun j hj=>absurd hj (axv _)⟩
    have e1:=e0.push (Di (n:=n) ((n:Nat):Int) rfl)
    have e2:=e1.push (Di (n:=(m 0).len) (((m 0).len:Nat):Int) rfl)
    simpa using e2,by simp⟩
  have h1':aB gU (((),((n,m),(((n:Nat):Int),(0,())))),(((),(2,(glue 1 (glue 0 (fun _=>0) (fun j=>(upd (fun _=>0) 0 (u8.wrap ((n:Nat):Int))) (0+j))) (fun j=>(upd (fun _=>0) 0 (u8.wrap (((SlV.len (m 0)):Nat):Int))) (0+j))))),()))=some _:=h1
  have hi:inb 0 n=true:=by simp only[inb,awV,axm]; omega
  simp only at h2 h3
  have d:Nat.ble nb 9223372036854775807=true:=by rw[Nat.ble_eq]; omega
  simp only[ay1,bF,hi,bB,h0,h1',zK,d,azE,axy]
  congr 1
  apply Lh
  rw[h2.bytes,h.sz,List.take_length,←h.sz,h.len 0 (by omega),h.sz]
  show _=iH M
  unfold iH
  rw[he]; rfl
theorem Y1(a b:ByteArray):bl (a++b)=bl a++bl b:=by simp[bl]
theorem a9Y(s:ByteArray)(v:Int) {n:Nat}(h:v=(n:Int)):bl (s++bytesOf 1 (fun j=>upd (fun _=>0) 0 (u8.wrap v) (0+j)))=bl s++[UInt8.ofNat n]:=by
 rw[Y1,vL]
 congr 1
 show [UInt8.ofNat (u8.wrap v).toNat]=_
 rw[Di v h,axd,UInt8.ofNat_toNat]
theorem Vt {n:Nat} {m:Nat→SlV (Nat→Int)} {M:List (List Nat)}(h:jg n m M)(hn:n<9223372036854775808):IG n m=some ⟨(iH M).toArray⟩:=by
 rw[Nh]; unfold KW
 rw[X5 h hn]
 cases he:Ac M with
 |false=>simp only[ayA,bB,iH,he]; rfl
 |true=>
  obtain⟨⟨hn1,hn2⟩,hl7⟩:=h.small he
  have h0:=h.ms 0 (by omega)
  generalize ht:bytesOf 2 (fun j=>(upd (upd (fun _=>0) 0 (u8.wrap ((n:Nat):Int))) 1 (u8.wrap (((SlV.len (m 0)):Nat):Int))) (0+j))=t
  have htl:bl t=UInt8.ofNat n::UInt8.ofNat (m 0).len::[]:=by
   rw[←ht,vL]
   show [UInt8.ofNat (u8.wrap _).toNat,UInt8.ofNat (u8.wrap _).toNat]=_
   rw[Di (n:=n) _ rfl,Di (n:=(m 0).len) _ rfl,axd,axd,UInt8.ofNat_toNat,UInt8.ofNat_toNat]
  obtain⟨s,h1,h2,h3⟩:=aO (R:=jI) (S:=ByteArray) (fun i s=>BL n m s (i:Int)) (fun s=>EN s)
   (fun i s=>bl s=bl t++(M.take i).flatMap X4∧s.size≤2+i*300) n
   (fun i hi s hs=>by
    obtain⟨hs,hs2⟩:=hs
    have hms:=h.ms i hi; have hl:=h.len i hi; have h7:=hl7 i hi
    have hii:inb (i:Int) n=true:=by simp only[inb,awV,axm]; omega
    obtain⟨z,g1,g2,g3⟩:=aO (R:=lZ) (S:=ByteArray) (fun k s=>BK n m s (i:Int) (k:Int)) (fun s=>EM n m s (i:Int))
     (fun k z=>bl z=bl t++(M.take i).flatMap X4++((M.getD i []).take k).flatMap a1C∧z.size≤s.size+k*33) (m i).len
     (fun k hk z hz=>by
      obtain⟨hc,hc2⟩:=hz
      have hx:=h.is i hi k hk
      have hb:=Vs hx
      have hnb:=Vp hx.1
      generalize hr:ByteArray.mk (be ((M.getD i []).getD k 0)).toArray=r at*
      have hsz:r.size=nbN ((M.getD i []).getD k 0):=by rw[←hr]; exact IX _
      have hbr:bl r=be ((M.getD i []).getD k 0):=by rw[←hr]
      have hp:=a9Y z ((r.size:Nat):Int) (n:=nbN ((M.getD i []).getD k 0)) (by rw[hsz])
      generalize hq:bytesOf 1 (fun j=>upd (fun _=>0) 0 (u8.wrap ((r.size:Nat):Int)) (0+j))=q at*
      have hq1:q.size=1:=by rw[←hq,oJ,vL,azi,azj]
      refine⟨z++q++r,?_,?_,?_⟩
      ·have d1:decide ((((z.size+q.size:Nat):Int))>IntKind.i64.max)=false:=bG (by show¬_>(9223372036854775807:Int); omega)
       have d2:decide (((((z++q).size+r.size:Nat):Int))>IntKind.i64.max)=false:=bG (by
        have:(z++q).size=z.size+q.size:=ByteArray.size_append
        show¬_>(9223372036854775807:Int); omega)
       have d3:decide ((k:Int)<(((m i).len:Nat):Int))=true:=dM (by omega)
       have d4:inb (k:Int) (m i).len=true:=by simp only[inb,awV,axm]; omega
       have d5:i64.wrap ((k:Int)+1)=((k+1:Nat):Int):=by rw[wrap_i64 (by omega)]; omega
       simp only[lZ,BK,hii,hms,d3,d4,bB,bF,axd,hb,hq,d5]
       rw[d1,bF,d2,bF]
      ·rw[Y1,hp,hc,IY a1C _ k 0 (by omega),hbr]
       simp[a1C]
      ·rw[ByteArray.size_append,ByteArray.size_append]; omega)
     (fun z _=>by simp(disch:=omega) only[lZ,BK,WW,hii,hms]) s ⟨by simpa using hs,by omega⟩
    have g1':aB lZ (((n,m),(s,((i:Int),(0,())))),())=some _:=g1
    refine⟨z,?_,?_,by omega⟩
    ·simp(disch:=omega) only[jI,BL,WW,CC,g1',EM]
    ·rw[hl,List.take_length,axL]at g2
     rw[IY X4 M i [] (by have:=h.sz; omega)]
     exact g2)
   (fun s _=>by simp(disch:=omega) only[jI,BL,WW]) t ⟨by simp,by have:=congrArg List.length htl; rw[←oJ]at this; rw[this]; exact ax5 2⟩
  have h1':aB jI (((n,m),(t,(0,()))),())=some _:=h1
  have hi:inb 0 n=true:=by simp only[inb,awV,axm]; omega
  simp only[ay1,bF,hi,bB,h0,h1',EN]
  congr 1
  apply Lh
  rw[h2,htl,h.sz,List.take_length,←h.sz,h.len 0 (by omega),h.sz]
  show _=iH M
  unfold iH
  rw[he]; rfl
open Go.IntKind (i64 u64 u32 u8)
open Go.IntKind (i64 u64 u32 u8)
def yu(k:Nat)(row:Nat→Nat→Int)(R:List Nat):Prop:=R.length=k∧ ∀j,j<k→IsN (row j) (R.getD j 0)
structure awK(k b:Nat)(out:Nat→SlV (Nat→Int))(M:List (List Nat)):Prop where
 sz:M.length=k
 ok: ∀i,i<k→ ∃row,out i= .fz b row∧yu b (fun j=>row j) (M.getD i [])
open Go.IntKind (i64 u64 u32 u8)
open Go.IntKind (i64 u64 u32 u8)
abbrev WS:Type:=List UInt8×Bool
structure WOk(nw:Nat)(w1:Nat→Int)(w2:Bool)(st:WS):Prop where
 row:Ah nw w1 st.1
 bad:w2=st.2
open Go.IntKind (i64 u64 u32 u8)
structure a1D where
 seq:Int
 cli:Int
 dig:List UInt8
 mat:List (List Nat)
 ys:List Nat
 op:Int
 deriving DecidableEq
structure a4G where
 srv:Int
 seq:Int
 cli:Int
 dig:List UInt8
 deriving DecidableEq
noncomputable instance:Inhabited a1D:=⟨⟨0,0,[],[],[],0⟩⟩
structure awL(x:GA)(X:a1D):Prop where
 seq:x.1.1=X.seq
 cli:x.1.2=X.cli
 dig:bl x.2.1=X.dig
 mat:jg x.2.2.1.1 x.2.2.1.2 X.mat
 ys:yu x.2.2.2.1.1 x.2.2.2.1.2 X.ys
 op:x.2.2.2.2=X.op
 m63:x.2.2.1.1<9223372036854775808
 y63:x.2.2.2.1.1<9223372036854775808
structure arU(x:VO)(X:a4G):Prop where
 srv:x.1=X.srv
 seq:x.2.1.1=X.seq
 cli:x.2.1.2=X.cli
 dig:bl x.2.2=X.dig
open Go.IntKind (i64 u64 u32 u8)
abbrev v0:a4G:=⟨0,0,0,[]⟩
abbrev g0:a1D:=⟨0,0,[],[],[],0⟩
structure a9Z where
 e:a1D
 o:a1D
 w:a1D
 op:Int
 left:Int
 deriving DecidableEq
abbrev t0:a9Z:=⟨g0,g0,g0,0,0⟩
structure aiH where
 key:List UInt8
 held:a1D
 ech:List a4G
 rdy:List a4G
 cls:List a9Z
 deriving DecidableEq
abbrev r0:aiH:=⟨[],g0,[],[],[]⟩
structure awM where
 t:Int
 num:Int
 cls:Int
 used:List Int
 recs:List aiH
 deriving DecidableEq
def awN(x:GI):GA:=(x.1,(x.2.1,((x.2.2.1.len,SlV.fn .nil x.2.2.1),((x.2.2.2.1.len,SlV.fn (fun _=>0) x.2.2.2.1),x.2.2.2.2))))
structure abe(x:GI)(X:a1D):Prop where
 m0:x.2.2.1.isMs=false
 y0:x.2.2.2.1.isMs=false
 ga:awL (awN x) X
structure awO(x:TO)(X:a9Z):Prop where
 e:abe x.1 X.e
 o:abe x.2.1 X.o
 w:abe x.2.2.1 X.w
 op:x.2.2.2.1=X.op
 left:x.2.2.2.2=X.left
structure aa0 {α β:Type}(R:α→β→Prop)(n:Nat)(f:Nat→α)(L:List β)(d:β):Prop where
 sz:n=L.length
 is: ∀i,i<n→R (f i) (L.getD i d)
 l63:L.length<9223372036854775808
structure awP(x:RE)(X:aiH):Prop where
 key:bl x.1=X.key
 held:abe x.2.1 X.held
 e0:x.2.2.1.isMs=false
 d0:x.2.2.2.1.isMs=false
 c0:x.2.2.2.2.isMs=false
 e:aa0 arU x.2.2.1.len (SlV.fn zV x.2.2.1) X.ech v0
 d:aa0 arU x.2.2.2.1.len (SlV.fn zV x.2.2.2.1) X.rdy v0
 c:aa0 awO x.2.2.2.2.len (SlV.fn zT x.2.2.2.2) X.cls t0
structure awQ(x:IM)(X:awM):Prop where
 t:x.1=X.t
 num:x.2.1=X.num
 cls:x.2.2.1=X.cls
 used:aa0 (fun a b=>a=b) x.2.2.2.1.1 x.2.2.2.1.2 X.used 0
 recs:aa0 awP x.2.2.2.2.1 x.2.2.2.2.2 X.recs r0
open Go.IntKind (i64 u64 u32 u8)
open Go.IntKind (i64 u64 u32 u8)
open Go.IntKind (i64 u64 u32 u8)
abbrev Pr(α:Type):Type:=List UInt8→Option (α×List UInt8)
structure Inv {α:Type}(p:Pr α)(e:α→List UInt8)(g:α→Bool)(w:α→Prop):Prop where
 fwd: ∀a t,g a=true→w a→p (e a++t)=some (a,t)
 bwd: ∀ {l a t},p l=some (a,t)→l=e a++t∧g a=true∧w a
def abf(k:Nat):Pr Int:=fun l=>if l.length<k then none else some (((awI (l.take k):Nat):Int),l.drop k)
open Go.IntKind (i64 u64 u32 u8)
open Go.IntKind (i64 u64 u32 u8)
abbrev SL:Type:=Option (List UInt8)
def sn {α:Type}(r:Option (α×List UInt8)):SL:=match r with
 |none=>none
 |some x=>some x.2
def arV {α:Type}(k:Nat)(f:Int→Pr α):Pr α:=fun l=>match abf k l with
 |none=>none
 |some (n,l1)=>f n l1
theorem dep {α:Type} {k:Nat} {S:SL} {f:Int→Pr α} {x:Int}(h: ∀V l,S.bind (abf k)=some (V,l)→x=V):S.bind (arV k f)=(sn (S.bind (abf k))).bind (f x):=by
 cases S with
 |none=>rfl
 |some l0=>
  simp only[axG,arV]at h⊢
  cases h1:abf k l0 with
  |none=>rfl
  |some y=>rw[h y.1 y.2 h1]; rfl
structure LR {α β:Type}(Rel:α→β→Prop)(n:Nat)(f:Nat→α)(L:List β)(d:β):Prop where
 sz:n=L.length
 is: ∀i,i<n→Rel (f i) (L.getD i d)
open Go.IntKind (i64 u64 u32 u8)
structure KOk(o:ByteArray×Bool)(S:SL):Prop where
 sz:o.1.size<2^40
 bad:o.2=S.isNone
 is: ∀l,S=some l→bl o.1=l
open Go.IntKind (i64 u64 u32 u8)
open Go.IntKind (i64 u64 u32 u8)
open Go.IntKind (i64 u64 u32 u8)
open Go.IntKind (i64 u64 u32 u8)
structure DOk(s:ByteArray)(o:ByteArray×(Int×Bool))(S:SL):Prop where
 st:o.1=s
 at0:0≤o.2.1∧o.2.1≤((s.size:Nat):Int)
 bad:o.2.2=S.isNone
 is: ∀l,S=some l→(bl s).drop o.2.1.toNat=l
 sz:s.size<2^40
open Go.IntKind (i64 u64 u32 u8)
open Go.IntKind (i64 u64 u32 u8)
open Go.IntKind (i64 u64 u32 u8)
open Go.IntKind (i64 u64 u32 u8)
open Go.IntKind (i64 u64 u32 u8)
open Go.IntKind (i64 u64 u32 u8)
theorem a3H {γ:Type}(d:γ) {L M:List γ}(h:L.length=M.length)(e: ∀i,i<L.length→L.getD i d=M.getD i d):L=M:=by
 apply List.ext_getElem h
 intro i h1 h2
 have:=e i h1
 rw[axf,axf,awZ h1,awZ h2]at this
 exact this
theorem Y2 {X Y γ:Type} [DecidableEq γ] {R:X→Option (X⊕Y)}(st:Nat→X)(no yes:Y)(L M:List γ)(d:γ)(h:L.length=M.length)
  (hstep: ∀j,j<L.length→R (st j)=if L.getD j d=M.getD j d then some (.inl (st (j+1)))else some (.inr no)) (hend:R (st L.length)=some (.inr yes)):
  aB R (st 0)=some (if L=M then yes else no):=by
 obtain⟨y,h1,h2⟩:=kH (R:=R) (S:=Unit) (fun j _=>st j) (fun j _=> ∀i,i<j→L.getD i d=M.getD i d) (fun y=>y=if L=M then yes else no) L.length
  (fun j hj _ hp=>by
   have hs:=hstep j hj
   by_cases c:L.getD j d=M.getD j d
   ·rw[ax1 c]at hs
    left
    refine⟨(),hs,fun i hi=>?_⟩
    by_cases e:i=j
    ·subst e; exact c
    ·exact hp i (by omega)
   ·rw[awU c]at hs
    right
    refine⟨no,hs,?_⟩
    rw[awU (fun e=>c (by rw[e]))])
  (fun _ hp=>⟨yes,hend,by rw[ax1 (a3H d h hp)]⟩) () (fun i hi=>absurd hi (axv _))
 rw[←h2]; exact h1
theorem Kj {na nb:Nat} {a b:Nat→NI} {L M:List Nat}(ha:yu na a L)(hb:yu nb b M)(h63:na<9223372036854775808):Gx na a nb b=some (decide (L=M)):=by
 have la:=ha.1; have lb:=hb.1
 rw[Qp]; unfold OA
 by_cases c:na=nb
 ·subst c
  have h1:=Y2 (R:=l9) (fun j=>yK na a na b (j:Int)) (U8 false) U9 L M 0 (by omega)
   (fun j hj=>by
    have e:=(ha.2 j (by omega)).eqb (hb.2 j (by omega))
    by_cases c:L.getD j 0=M.getD j 0
    ·rw[ax1 c]
     rw[ax6 c]at e
     simp(disch:=omega) only[l9,yK,WW,CC,e,ay1]
    ·rw[awU c]
     rw[ax9 c]at e
     simp(disch:=omega) only[l9,yK,WW,CC,e,ayA])
   (by simp(disch:=omega) only[l9,yK,WW])
  have h1':aB l9 (((na,a),((na,b),(0,()))),())=some _:=h1
  simp only[ayl,bF,h1']
  by_cases e:L=M
  ·rw[ax1 e,ax6 e]
  ·rw[awU e,ax9 e]
 ·have e:L≠M:=fun e=>c (by rw[←la,←lb,e])
  have d:(((na:Nat):Int) !=((nb:Nat):Int))=true:=by rw[bne_iff_ne]; omega
  rw[d,bB,ax9 e]
open Go.IntKind (i64 u64 u32 u8)
theorem jg.row {n:Nat} {m:Nat→SlV (Nat→Int)} {M:List (List Nat)}(h:jg n m M) {i:Nat}(hi:i<n):yu (m i).len (SlV.fn (fun _=>0) (m i)) (M.getD i []):=⟨(h.len i hi).symm,fun j hj=>h.is i hi j hj⟩
theorem X6 {na nb:Nat} {a b:Nat→SlV (Nat→Int)} {L M:List (List Nat)}(ha:jg na a L)(hb:jg nb b M)(h63:na<9223372036854775808)(r63: ∀i,i<na→(a i).len<9223372036854775808):Nc na a nb b=some (decide (L=M)):=by
 have la:=ha.sz; have lb:=hb.sz
 rw[Qz]; unfold OG
 by_cases c:na=nb
 ·subst c
  have h1:=Y2 (R:=lg) (fun j=>yN na a na b (j:Int)) (Uq false) Ur L M [] (by omega)
   (fun j hj=>by
    have e:=Kj (ha.row (i:=j) (by omega)) (hb.row (i:=j) (by omega)) (r63 j (by omega))
    have m1:=ha.ms j (by omega); have m2:=hb.ms j (by omega)
    by_cases c:L.getD j []=M.getD j []
    ·rw[ax1 c]
     rw[ax6 c]at e
     simp(disch:=omega) only[lg,yN,WW,CC,m1,m2,e,ay1]
    ·rw[awU c]
     rw[ax9 c]at e
     simp(disch:=omega) only[lg,yN,WW,CC,m1,m2,e,ayA])
   (by simp(disch:=omega) only[lg,yN,WW])
  have h1':aB lg (((na,a),((na,b),(0,()))),())=some _:=h1
  simp only[ayl,bF,h1']
  by_cases e:L=M
  ·rw[ax1 e,ax6 e]
  ·rw[awU e,ax9 e]
 ·have e:L≠M:=fun e=>c (by rw[la,lb,e])
  have d:(((na:Nat):Int) !=((nb:Nat):Int))=true:=by rw[bne_iff_ne]; omega
  rw[d,bB,ax9 e]
end Go.Pl
