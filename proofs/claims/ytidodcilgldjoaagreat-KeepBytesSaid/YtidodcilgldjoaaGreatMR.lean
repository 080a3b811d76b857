/-
 States, read.
-/
import Derived.Test.YtidodcilgldjoaaGreatMK
import Derived.Test.YtidodcilgldjoaaGreatMF
import Derived.Test.YtidodcilgldjoaaGreatL38
set_option linter.unusedVariables false
set_option linter.unusedSimpArgs false
namespace Go.Pl
open Go Go.Den Go.Num
open Go.IntKind (i64 u64 u32 u8)
structure KOk(o:ByteArray×Bool)(S:SL):Prop where
 sz:o.1.size<2^40
 bad:o.2=S.isNone
 is: ∀l,S=some l→bl o.1=l
theorem Mj(b:Bool)(o:ByteArray×Bool):bS b o=some ((o.2||b,()),((o.1,o.2||b),())):=by
 rw[tH]; unfold kg
 cases o.2<;>rfl
theorem a9H {n:Int} {o:ByteArray×Bool} {S:SL}(h:KOk o S)(hn:S.isNone=false→0≤n):
  ∃x o',jE n o=some ((x,()),(o',()))∧KOk o' (sn (S.bind (P9 n.toNat)))∧x.size≤n.toNat∧ ∀V l,S.bind (P9 n.toNat)=some (V,l)→bl x=V:=by
 rw[nY]; unfold iW
 rw[Mj]
 obtain⟨s,b⟩:=o
 obtain⟨h1,h2,h3⟩:=h
 simp only at h1 h2 h3
 cases S with
 |none=>
  have hb:b=true:=h2
  subst hb
  exact⟨ByteArray.mk #[],(s,true),rfl,⟨h1,rfl,fun l h=>by cases h⟩,Nat.zero_le _,fun V l h=>by cases h⟩
 |some l=>
  have hb:b=false:=h2
  subst hb
  have hl:=h3 l rfl
  subst hl
  have hn:=hn rfl
  have hsz:s.size=(bl s).length:=rfl
  simp only[Option.bind_some,P9]
  by_cases c:(bl s).length<n.toNat
  ·have d:decide (n>((s.size:Nat):Int))=true:=bB (by omega)
   rw[if_pos c]
   simp only[d,Bool.false_or,aJ]
   exact⟨_,_,rfl,⟨h1,rfl,fun l h=>by cases h⟩,Nat.zero_le _,fun V l h=>by cases h⟩
  ·have d:decide (n>((s.size:Nat):Int))=false:=aM (by omega)
   rw[if_neg c]
   have d2:(decide (0≤n)&&decide (n≤((s.size:Nat):Int)))=true:=by rw[bB hn,bB (by omega)]; rfl
   simp only[d,Bool.false_or,aG,d2,aJ]
   refine⟨_,_,rfl,⟨?_,rfl,fun l h=>?_⟩,?_,fun V l h=>?_⟩
   ·show(s.extract n.toNat s.size).size<2^40
    rw[fT,Bl,List.length_drop]; omega
   ·cases h; exact Bl _ _
   ·rw[fT,M0,List.length_take]; omega
   ·cases h; exact M0 _ _
theorem a1E {a c:Nat}(ha:a<2^40)(hc:c<256):aA .or .i64 (iK .i64 (a:Int) 8) (c:Int)=((a*256+c:Nat):Int):=by
 have e:iK .i64 (a:Int) 8=((a*2^8:Nat):Int):=YU (s:=8) (by decide) (by omega)
 rw[e,orS (by omega) (by omega)]
 congr 1
 rw[show(2:Nat)^8=256 from rfl,show a*256=a<<< 8 by rw[Nat.shiftLeft_eq],←Nat.shiftLeft_add_eq_or_of_lt (show c<2^8 by omega)]
theorem gd {i m:Nat}(hi:i<65536)(hm:m≤1000):(Nat.ble ((i+1)*m) 140737488355328&&Nat.ble (i+1) 9223372036854775807)=true:=by
 have:=Nat.mul_le_mul (show i+1≤65536 by omega) hm
 rw[Bool.and_eq_true,Nat.ble_eq,Nat.ble_eq]; omega
theorem Uq {l:List UInt8}(h:l.length≤5):jK l<2^40:=by
 have h1:=El l
 have h2:256^l.length≤256^5:=Nat.pow_le_pow_right (by decide) h
 omega
theorem a3o(s:ByteArray)(hs:s.size≤6)(r:ByteArray×Bool):
  aj cK (((),(0,((s.size,(fun i=>(((s).data.toList.getD i 0).toNat:Int))),(((s.size:Nat):Int),(0,()))))),(r,()))=some (rX ((jK (bl s):Nat):Int) r):=by
 have hsz:s.size=(bl s).length:=rfl
 have hg: ∀i,(s.data.toList.getD i 0)=(bl s).getD i 0:=fun i=>rfl
 obtain⟨z,h1,h2⟩:=aR (R:=cK) (S:=Int) (fun j z=>nZ z s.size (fun i=>(((s).data.toList.getD i 0).toNat:Int)) ((s.size:Nat):Int) (j:Int) r) (fun z=>rX z r)
  (fun j z=>z=((jK ((bl s).take j):Nat):Int)) s.size
  (fun j hj z hz=>by
   subst hz
   have hb:=UInt8.toNat_lt ((bl s).getD j 0)
   have e:=a1E (a:=jK ((bl s).take j)) (c:=((bl s).getD j 0).toNat) (Uq (by rw[List.length_take]; omega)) hb
   refine⟨_,?_,rfl⟩
   rw[Ie (by omega),Ic]
   simp(disch:=omega) only[cK,nZ,WW,CC,Nat.zero_add,hg,e])
  (fun z _=>by simp(disch:=omega) only[cK,nZ,WW]) 0 rfl
 rw[hsz,List.take_length]at h2
 subst h2
 exact h1
theorem yh {k:Nat}(hk:k≤6) {kk:Int}(hkk:kk=(k:Int)) {o:ByteArray×Bool} {S:SL}(h:KOk o S):
  ∃x o',aF kk o=some ((x,()),(o',()))∧KOk o' (sn (S.bind (bR k)))∧ ∀V l,S.bind (bR k)=some (V,l)→x=V:=by
 subst hkk
 obtain⟨x,o',h1,h2,h3,h4⟩:=a9H (n:=(k:Int)) h (fun _=>by omega)
 rw[Int.toNat_natCast]at h2 h3 h4
 rw[wK]; unfold mQ
 have d:Nat.ble x.size 9223372036854775807=true:=by rw[Nat.ble_eq]; omega
 simp only[h1,d,aJ,a3o x (by omega) o']
 refine⟨_,_,rfl,?_,?_⟩
 ·rw[Mi,EW]; exact h2
 ·intro V l h
  rw[Mi]at h
  obtain⟨a,rfl,ha⟩:=xS h
  rw[h4 _ _ ha]
theorem a9I {k:Nat} {S:SL} {x:Int}(h: ∀V l,S.bind (bR k)=some (V,l)→x=V):(sn (S.bind (bR k))).isNone=false→0≤x:=by
 intro hb
 cases hS:S.bind (bR k)with
 |none=>rw[hS]at hb; cases hb
 |some w=>
  rw[h w.1 w.2 hS]
  cases S with
  |none=>cases hS
  |some l=>exact D8 ((nG k).bwd (l:=l) hS).2.1
theorem Sk {o:ByteArray×Bool} {S:SL}(h:KOk o S):
  ∃x o',dW o=some ((x,()),(o',()))∧KOk o' (sn (S.bind mh))∧x.size<2^40∧ ∀V l,S.bind mh=some (V,l)→bl x=V:=by
 obtain⟨n,o1,h1,h2,h3⟩:=yh (k:=2) (by decide) (kk:=2) rfl h
 obtain⟨x,o',g1,g2,g3,g4⟩:=a9H (n:=n) h2 (a9I h3)
 rw[uP]; unfold lC
 simp only[h1,g1]
 rw[Un,dep h3]
 refine⟨_,_,rfl,g2,?_,g4⟩
 have hsz:=h2.sz
 cases hS:S.bind (bR 2)with
 |none=>
  have:x.size=0:=by
   have hb:=h2.bad
   rw[hS]at hb
   rw[nY]at g1
   unfold iW at g1
   rw[Mj]at g1
   have hb':o1.2=true:=hb
   simp only[hb',Bool.true_or,aJ]at g1
   cases g1; rfl
  omega
 |some w=>
  have hV:=h3 w.1 w.2 hS
  subst hV
  cases S with
  |none=>cases hS
  |some l=>
   have hg:=((nG 2).bwd (l:=l) hS).2.1
   have h0:=D8 hg
   obtain⟨m,hm⟩:=Int.eq_ofNat_of_zero_le h0
   rw[hm,Me]at hg
   have:=of_decide_eq_true hg
   rw[hm,Int.toNat_natCast]at g3
   omega
theorem a1F {o:ByteArray×Bool} {S:SL}(h:KOk o S):
  ∃x y o',iX o=some (((x,y),()),(o',()))∧KOk o' (sn ((sn (S.bind (bR 6))).bind (bR 1)))∧(∀V l,S.bind (bR 6)=some (V,l)→x=V)∧ ∀V l,(sn (S.bind (bR 6))).bind (bR 1)=some (V,l)→y=V:=by
 obtain⟨x,o1,h1,h2,h3⟩:=yh (k:=6) (by decide) (kk:=6) rfl h
 obtain⟨y,o',g1,g2,g3⟩:=yh (k:=1) (by decide) (kk:=1) rfl h2
 rw[tJ]; unfold ko
 simp only[h1,g1]
 exact⟨_,_,_,rfl,g2,h3,g3⟩
theorem a1G {o:ByteArray×Bool} {S:SL}(h:KOk o S):
  ∃n f o',iY o=some (((n,f),()),(o',()))∧KOk o' (sn (S.bind Nv))∧ ∀L l,S.bind Nv=some (L,l)→BR P8 n f L v0:=by
 obtain⟨t,o1,h1,h2,h3⟩:=yh (k:=2) (by decide) (kk:=2) rfl h
 obtain⟨e,o',n,f,g1,g2,g3⟩:=wo (Ok:=KOk) (R:=aW) (p:=OH) (Rel:=P8) zV v0 (k:=2) (by decide) h3
  (fun i o n f=>dY t i o n f) (fun e o n f=>bif e then xJ o n f else xI o n f)
  (fun i hi hi2 o l f ho=>by
   have hb:o.2=false:=ho.bad
   obtain⟨a,o1,a1,a2,a3⟩:=yh (k:=1) (by decide) (kk:=1) rfl ho
   obtain⟨b,c,o2,b1,b2,b3,c3⟩:=a1F a2
   obtain⟨d,o3,d1,d2,_,d3⟩:=Sk b2
   refine⟨(a,((b,c),d)),o3,?_,?_,?_⟩
   ·simp(disch:=omega) only[aW,dY,WW,CC,hb,a1,b1,d1,gd hi2 (show 40≤1000 by decide)]
   ·unfold OH
    rw[EW,fZ,fZ,fZ]; exact d2
   ·intro V l' hv
    unfold OH at hv
    obtain⟨w,rfl,hw⟩:=xS hv
    obtain⟨⟨_,q1⟩,hw⟩:=dz hw
    obtain⟨⟨_,q2⟩,hw⟩:=dz hw
    obtain⟨⟨_,q3⟩,q4⟩:=dz hw
    exact⟨a3 _ _ q1,b3 _ _ q2,c3 _ _ q3,d3 _ _ q4⟩)
  (fun i o n f ho=>by
   have hb:o.2=true:=ho.bad
   by_cases c:i<t
   ·exact⟨false,by simp only[aW,dY,bB c,aJ,hb]; rfl⟩
   ·exact⟨true,by simp only[aW,dY,aM c,aG]; rfl⟩)
  (fun i o n f c=>by simp only[aW,dY,aM c,aG]; rfl)
  h2 (fun _=>zV)
 rw[tL]; unfold ku
 have g1':aj aW (((),((),(t,(0,())))),(o1,((),((0,(fun _=>zV)),()))))=some _:=g1
 simp only[h1,g1']
 refine⟨n,fun j=>f (0+j),o',by cases e<;>rfl,g2,fun L l h=>?_⟩
 simp only[Nat.zero_add]
 exact g3 L l h
end Go.Pl
namespace Go.Pl
open Go Go.Den Go.Num
open Go.IntKind (i64 u64 u32 u8)
theorem Sl {α β:Type}(p:Pr α)(f:α→Option β)(S:SL):S.bind (TF p f)=(S.bind p).bind (fun x=>(f x.1).map (fun b=>(b,x.2))):=by
 cases S with
 |none=>rfl
 |some l=>
  simp only[Option.bind_some,TF]
  cases p l with
  |none=>rfl
  |some x=>
   simp only[Option.bind_some]
   cases f x.1<;>rfl
theorem Ij {α β:Type} {p:Pr α} {f:α→Option β} {S:SL} {b:β} {l:List UInt8}(h:S.bind (TF p f)=some (b,l)): ∃a,S.bind p=some (a,l)∧f a=some b:=by
 rw[Sl]at h
 cases h1:S.bind p with
 |none=>rw[h1]at h; cases h
 |some x=>
  rw[h1]at h
  simp only[Option.bind_some]at h
  cases h2:f x.1 with
  |none=>rw[h2]at h; cases h
  |some y=>rw[h2]at h; cases h; exact⟨_,rfl,h2⟩
theorem a9J {α β:Type} {p:Pr α} {f:α→Option β} {S:SL} {o:ByteArray×Bool}(h:KOk o (sn (S.bind p))) {bad:Bool}(hb: ∀V l,S.bind p=some (V,l)→bad=(f V).isNone):KOk (o.1,o.2||bad) (sn (S.bind (TF p f))):=by
 rw[Sl]
 obtain⟨h1,h2,h3⟩:=h
 cases hS:S.bind p with
 |none=>
  rw[hS]at h2
  exact⟨h1,by rw[h2]; rfl,fun l h=>by cases h⟩
 |some x=>
  rw[hS]at h2 h3
  have hbb:=hb _ _ hS
  have h3':=h3 _ rfl
  simp only[Option.bind_some]
  cases hf:f x.1 with
  |none=>
   rw[hf]at hbb
   exact⟨h1,by rw[hbb]; simp[sn],fun l h=>by cases h⟩
  |some y=>
   rw[hf]at hbb
   exact⟨h1,by rw[h2,hbb]; rfl,fun l h=>by cases h; exact h3'⟩
theorem Zi(V:List UInt8):((if iO V=true then(0:Int)else 4) !=0)=(VB V).isNone:=by
 unfold VB
 cases iO V<;>rfl
theorem anA {o3:ByteArray×Bool} {S:SL}(h:KOk o3 S)(p:Int×Int)(p1:ByteArray)(np:Nat)(p2:Nat→SlV NI)(np1:Nat)(p3:Nat→NI)(p4:Int)(q:Int×Int)(q1:ByteArray)(nq:Nat)(q2:Nat→SlV NI)(q5:Int):
  ∃t o4 e o5 n f op o6,aF 1 o3=some ((t,()),(o4,()))
   ∧aj aS (((),((),(t,(0,())))),(o4,((),((p,(p1,((np,p2),((np1,p3),p4)))),((q,(q1,((nq,q2),((0,(fun _=>(fun _=>0))),q5)))),())))))=some (bif e then nQ o5 p p1 np p2 np1 p3 p4 q q1 nq q2 n f q5 else nP o5 p p1 np p2 np1 p3 p4 q q1 nq q2 n f q5)
   ∧aF 4 o5=some ((op,()),(o6,()))∧KOk o6 (sn ((sn (S.bind (j5 1 Iy))).bind (bR 4)))
   ∧(∀L l,S.bind (j5 1 Iy)=some (L,l)→BR IsN n f L 0)∧ ∀V l,(sn (S.bind (j5 1 Iy))).bind (bR 4)=some (V,l)→op=V:=by
 obtain⟨t,o4,h1,h2,h3⟩:=yh (k:=1) (by decide) (kk:=1) rfl h
 obtain⟨e,o5,n,f,g1,g2,g3⟩:=wo (Ok:=KOk) (R:=aS) (p:=Iy) (Rel:=IsN) (fun _=>0) 0 (k:=1) (by decide) h3
  (fun i o n f=>dX t i o p p1 np p2 np1 p3 p4 q q1 nq q2 n f q5) (fun e o n f=>bif e then nQ o p p1 np p2 np1 p3 p4 q q1 nq q2 n f q5 else nP o p p1 np p2 np1 p3 p4 q q1 nq q2 n f q5)
  (fun i hi hi2 o l f ho=>by
   have hb:o.2=false:=ho.bad
   obtain⟨s,o1,a1,a2,a3,a4⟩:=Sk ho
   obtain⟨a,b1,b2⟩:=Jr s
   have hk:=a9J (f:=VB) a2 (bad:=(if iO (bl s)=true then(0:Int)else 4) !=0) (fun V l h=>by rw[←a4 V l h,Zi])
   refine⟨a,_,?_,hk,fun V l' h=>?_⟩
   ·simp(disch:=omega) only[aS,dX,WW,CC,hb,a1,b1,Mj,gd hi2 (show 32≤1000 by decide)]
   ·obtain⟨w,hw,hf⟩:=Ij h
    have e:=a4 _ _ hw
    unfold VB at hf
    rw[←e]at hf
    split at hf
    ·rename_i ho
     cases hf
     exact b2 ho
    ·cases hf)
  (fun i o n f ho=>by
   have hb:o.2=true:=ho.bad
   by_cases c:i<t
   ·exact⟨false,by simp only[aS,dX,bB c,aJ,hb]; rfl⟩
   ·exact⟨true,by simp only[aS,dX,aM c,aG]; rfl⟩)
  (fun i o n f c=>by simp only[aS,dX,aM c,aG]; rfl)
  h2 (fun _=>(fun _=>0))
 obtain⟨op,o6,k1,k2,k3⟩:=yh (k:=4) (by decide) (kk:=4) rfl g2
 exact⟨t,o4,e,o5,n,f,op,o6,h1,g1,k1,k2,g3,k3⟩
theorem Zj {l:List UInt8} {M:List (List Nat)}(h:xQ l=some M):M.length<9223372036854775808:=by
 obtain⟨⟨_,h1⟩,_⟩:OG M:=of_decide_eq_true (Uh h).1
 omega
theorem PX {o:ByteArray×Bool} {S:SL}(h:KOk o S):
  ∃X o',eT o=some ((X,()),(o',()))∧KOk o' (sn (S.bind pO))∧ ∀V l,S.bind pO=some (V,l)→RY X V:=by
 obtain⟨a,b,o1,h1,h2,h3,h4⟩:=a1F h
 obtain⟨d,o2,d1,d2,_,d3⟩:=Sk h2
 obtain⟨m,o3,m1,m2,m3,m4⟩:=Sk d2
 have fin: ∀ {o4:ByteArray×Bool} {nm:Nat} {mm:Nat→SlV NI},KOk o4 (sn ((sn ((sn ((sn (S.bind (bR 6))).bind (bR 1))).bind mh)).bind Iz))→
   (∀V l,(sn ((sn ((sn (S.bind (bR 6))).bind (bR 1))).bind mh)).bind Iz=some (V,l)→xZ nm mm V∧nm<9223372036854775808)→
   ∀ {n:Nat} {f:Nat→NI} {op:Int} {o6:ByteArray×Bool},KOk o6 (sn ((sn ((sn ((sn ((sn ((sn (S.bind (bR 6))).bind (bR 1))).bind mh)).bind Iz)).bind (j5 1 Iy))).bind (bR 4)))→
   (∀L l,(sn ((sn ((sn ((sn (S.bind (bR 6))).bind (bR 1))).bind mh)).bind Iz)).bind (j5 1 Iy)=some (L,l)→BR IsN n f L 0)→
   (∀V l,(sn ((sn ((sn ((sn ((sn (S.bind (bR 6))).bind (bR 1))).bind mh)).bind Iz)).bind (j5 1 Iy))).bind (bR 4)=some (V,l)→op=V)→
   KOk o6 (sn (S.bind pO))∧ ∀V l,S.bind pO=some (V,l)→RY ((a,b),(d,((nm,mm),((n,(fun j=>f (0+j))),op)))) V:=by
  intro o4 nm mm hk hm n f op o6 h6 hy hop
  refine⟨?_,?_⟩
  ·unfold pO
   rw[EW,fZ,fZ,fZ,fZ,fZ]; exact h6
  ·intro V l hv
   unfold pO at hv
   obtain⟨w,rfl,hw⟩:=xS hv
   obtain⟨⟨_,q1⟩,hw⟩:=dz hw
   obtain⟨⟨_,q2⟩,hw⟩:=dz hw
   obtain⟨⟨_,q3⟩,hw⟩:=dz hw
   obtain⟨⟨_,q4⟩,hw⟩:=dz hw
   obtain⟨⟨_,q5⟩,q6⟩:=dz hw
   obtain⟨y1,y2,y3⟩:=hy _ _ q5
   obtain⟨z1,z2⟩:=hm _ _ q4
   exact⟨h3 _ _ q1,h4 _ _ q2,d3 _ _ q3,z1,⟨y1.symm,fun j hj=>by simp only[Nat.zero_add]; exact y2 j hj⟩,hop _ _ q6,z2,by simp only; omega⟩
 rw[tK]; unfold kr
 by_cases c:sEq m (ByteArray.mk #[])=true
 ·have hm0:bl m=[]:=by
   rw[jA]at c
   exact List.length_eq_zero_iff.mp (of_decide_eq_true c)
  have hk:=a9J (f:=Sc) m2 (bad:=false) (fun V l h=>by rw[←m4 V l h,hm0]; rfl)
  rw[Bool.or_false]at hk
  have hk:KOk o3 (sn ((sn ((sn ((sn (S.bind (bR 6))).bind (bR 1))).bind mh)).bind Iz)):=hk
  obtain⟨t,o4,e,o5,n,f,op,o6,g1,g2,g3,g4,g5,g6⟩:=anA hk (0,0) ByteArray.empty 0 (fun _=>.nil) 0 (fun _=>(fun _=>0)) 0 (a,b) d 0 (fun _=>.nil) 0
  obtain⟨r1,r2⟩:=fin hk (nm:=0) (mm:=fun _=>.nil) (fun V l h=>by
   obtain⟨w,hw,hf⟩:=Ij h
   have e:=m4 _ _ hw
   rw[←e,hm0]at hf
   cases hf
   exact⟨⟨rfl,fun i hi=>absurd hi (Nat.not_lt_zero _),fun i hi=>absurd hi (Nat.not_lt_zero _),fun i hi=>absurd hi (Nat.not_lt_zero _)⟩,by decide⟩) g4 g5 g6
  simp only[h1,d1,m1,c,Bool.not_true,aG,g1,g2]
  cases e<;>simp only[aJ,aG,g3]<;>exact⟨_,_,rfl,r1,r2⟩
 ·rw[Bool.not_eq_true]at c
  have hm0:bl m≠ []:=by
   rw[jA]at c
   exact fun hh=>(of_decide_eq_false c) (List.length_eq_zero_iff.mpr hh)
  obtain⟨nm,mm,ee,t1,t2⟩:=Nq m3
  have hmat:Sc (bl m)=xQ (bl m):=by unfold Sc; rw[if_neg hm0]
  have hk:=a9J (f:=Sc) m2 (bad:=ee !=0) (fun V l h=>by
   rw[←m4 V l h,hmat]
   cases hp:xQ (bl m)with
   |none=>rw[hp]at t2; simp only at t2; subst t2; rfl
   |some M=>rw[hp]at t2; simp only at t2; rw[t2.1]; rfl)
  have hk:KOk (o3.1,o3.2||(ee !=0)) (sn ((sn ((sn ((sn (S.bind (bR 6))).bind (bR 1))).bind mh)).bind Iz)):=hk
  obtain⟨t,o4,e,o5,n,f,op,o6,g1,g2,g3,g4,g5,g6⟩:=anA hk (0,0) ByteArray.empty 0 (fun _=>.nil) 0 (fun _=>(fun _=>0)) 0 (a,b) d nm mm 0
  obtain⟨r1,r2⟩:=fin hk (nm:=nm) (mm:=mm) (fun V l h=>by
   obtain⟨w,hw,hf⟩:=Ij h
   have e:=m4 _ _ hw
   rw[←e,hmat]at hf
   rw[hf]at t2
   have:=Zj hf
   have hs:=t2.2.sz
   exact⟨t2.2,by omega⟩) g4 g5 g6
  simp only[h1,d1,m1,c,Bool.not_false,aJ,t1,Mj,g1,g2]
  cases e<;>simp only[aJ,aG,g3]<;>exact⟨_,_,rfl,r1,r2⟩
end Go.Pl
namespace Go.Pl
open Go Go.Den Go.Num
open Go.IntKind (i64 u64 u32 u8)
def Pb(x:GA):GI:=(x.1,(x.2.1,(.fz x.2.2.1.1 x.2.2.1.2,(.fz x.2.2.2.1.1 x.2.2.2.1.2,x.2.2.2.2))))
theorem Bp {x:GA} {X:vM}(h:RY x X):TA (Pb x) X:=⟨rfl,rfl,h⟩
def a3p(x:RA):RE:=(x.1,(Pb x.2.1,(.fz x.2.2.1.1 x.2.2.1.2,(.fz x.2.2.2.1.1 x.2.2.2.1.2,.fz x.2.2.2.2.1 x.2.2.2.2.2))))
abbrev tRc(t i:Int)(o:ByteArray×Bool)(Z:RA)(K:ByteArray)(G:GA)(n2:Nat)(v2:Nat→VO)(n3:Nat)(v3:Nat→VO)(n:Nat)(f:Nat→TO):je:=(((),((),(t,(i,())))),(o,((),(Z,((K,(G,((n2,v2),((n3,v3),(n,f))))),())))))
abbrev a9K(o:ByteArray×Bool)(Z:RA)(K:ByteArray)(G:GA)(n2:Nat)(v2:Nat→VO)(n3:Nat)(v3:Nat→VO)(n:Nat)(f:Nat→TO):Unit×((ByteArray×Bool)×(Unit×(RA×(RA×Unit)))):=((),(o,((),(Z,((K,(G,((n2,v2),((n3,v3),(n,f))))),())))))
theorem a9L {o:ByteArray×Bool} {S:SL}(h:KOk o S):
  ∃X o',kC o=some ((X,()),(o',()))∧KOk o' (sn (S.bind IB))∧ ∀V l,S.bind IB=some (V,l)→S9 (a3p X) V:=by
 obtain⟨K,o1,a1,a2,_,a3⟩:=Sk h
 obtain⟨G,o2,b1,b2,b3⟩:=PX a2
 obtain⟨n2,v2,o3,c1,c2,c3⟩:=a1G b2
 obtain⟨n3,v3,o4,d1,d2,d3⟩:=a1G c2
 obtain⟨t,o5,e1,e2,e3⟩:=yh (k:=1) (by decide) (kk:=1) rfl d2
 obtain⟨e,o6,n,f,g1,g2,g3⟩:=wo (Ok:=KOk) (R:=bf) (p:=Ju) (Rel:=a0T) zT t0 (k:=1) (by decide) e3
  (fun i o n f=>tRc t i o (ByteArray.empty,(((0,0),(ByteArray.empty,((0,(fun _=>.nil)),((0,(fun _=>(fun _=>0))),0)))),((0,(fun _=>zV)),((0,(fun _=>zV)),(0,(fun _=>zT)))))) K G n2 v2 n3 v3 n f)
  (fun e o n f=>bif e then .inr (a9K o (ByteArray.empty,(((0,0),(ByteArray.empty,((0,(fun _=>.nil)),((0,(fun _=>(fun _=>0))),0)))),((0,(fun _=>zV)),((0,(fun _=>zV)),(0,(fun _=>zT)))))) K G n2 v2 n3 v3 n f)else .inl (a9K o (ByteArray.empty,(((0,0),(ByteArray.empty,((0,(fun _=>.nil)),((0,(fun _=>(fun _=>0))),0)))),((0,(fun _=>zV)),((0,(fun _=>zV)),(0,(fun _=>zT)))))) K G n2 v2 n3 v3 n f))
  (fun i hi hi2 o l f ho=>by
   have hb:o.2=false:=ho.bad
   obtain⟨A,o1,a1,a2,a3⟩:=PX ho
   obtain⟨B,o2,b1,b2,b3⟩:=PX a2
   obtain⟨C,o3,c1,c2,c3⟩:=PX b2
   obtain⟨x,o4,d1,d2,d3⟩:=yh (k:=4) (by decide) (kk:=4) rfl c2
   obtain⟨y,o5,e1,e2,e3⟩:=yh (k:=4) (by decide) (kk:=4) rfl d2
   refine⟨(Pb A,(Pb B,(Pb C,(x,y)))),o5,?_,?_,?_⟩
   ·simp(disch:=omega) only[bf,tRc,WW,CC,hb,a1,b1,c1,d1,e1,gd hi2 (show 280≤1000 by decide),Pb]
   ·unfold Ju
    rw[EW,fZ,fZ,fZ,fZ]; exact e2
   ·intro V l' hv
    unfold Ju at hv
    obtain⟨w,rfl,hw⟩:=xS hv
    obtain⟨⟨_,q1⟩,hw⟩:=dz hw
    obtain⟨⟨_,q2⟩,hw⟩:=dz hw
    obtain⟨⟨_,q3⟩,hw⟩:=dz hw
    obtain⟨⟨_,q4⟩,q5⟩:=dz hw
    exact⟨Bp (a3 _ _ q1),Bp (b3 _ _ q2),Bp (c3 _ _ q3),d3 _ _ q4,e3 _ _ q5⟩)
  (fun i o n f ho=>by
   have hb:o.2=true:=ho.bad
   by_cases c:i<t
   ·exact⟨false,by simp only[bf,tRc,a9K,bB c,aJ,aG,hb]⟩
   ·exact⟨true,by simp only[bf,tRc,a9K,aM c,aG,aJ]⟩)
  (fun i o n f c=>by simp only[bf,tRc,a9K,aM c,aG,aJ])
  e2 (fun _=>zT)
 rw[rY]; unfold jM
 have fin:KOk o6 (sn (S.bind IB))∧ ∀V l,S.bind IB=some (V,l)→S9 (a3p (K,(G,((n2,v2),((n3,v3),(n,fun j=>f (0+j))))))) V:=by
  refine⟨?_,?_⟩
  ·unfold IB
   rw[EW,fZ,fZ,fZ,fZ]; exact g2
  ·intro V l hv
   unfold IB at hv
   obtain⟨w,rfl,hw⟩:=xS hv
   obtain⟨⟨_,q1⟩,hw⟩:=dz hw
   obtain⟨⟨_,q2⟩,hw⟩:=dz hw
   obtain⟨⟨_,q3⟩,hw⟩:=dz hw
   obtain⟨⟨_,q4⟩,q5⟩:=dz hw
   have hg:=g3 _ _ q5
   have hs:(fun j=>f (0+j))=f:=by funext j; rw[Nat.zero_add]
   rw[hs]
   exact⟨a3 _ _ q1,Bp (b3 _ _ q2),rfl,rfl,rfl,c3 _ _ q3,d3 _ _ q4,hg⟩
 obtain⟨r1,r2⟩:=fin
 simp only[tRc]at g1
 simp only[a1,b1,c1,d1,e1,g1]
 cases e<;>exact⟨_,_,rfl,r1,r2⟩
end Go.Pl
namespace Go.Pl
open Go Go.Den Go.Num
open Go.IntKind (i64 u64 u32 u8)
def a3q(l:List UInt8)(r:Option (IM×Int)):Prop:= ∃x e,r=some (x,e)∧match Da l with
 |some X=>e=0∧Mc x X
 |none=>e=4∧x=zI
theorem ahn {t:Int} {o5:ByteArray×Bool} {S0:SL}(e2:KOk o5 (sn (S0.bind (bR 1))))(e3: ∀V l,S0.bind (bR 1)=some (V,l)→t=V)(x1 x2 x3:Int):
  ∃e o n f,aj dH (((),((),(t,(0,())))),((0,(0,(0,((),())))),(o5,((),((x1,(x2,(x3,((0,(fun _=>0)),())))),())))))=some (bif e then .inr ((),((0,(0,(0,((),())))),(o,((),((x1,(x2,(x3,((n,f),())))),())))))else .inl ((),((0,(0,(0,((),())))),(o,((),((x1,(x2,(x3,((n,f),())))),()))))))
   ∧KOk o (sn (S0.bind (j5 1 (bR 2))))∧ ∀L l,S0.bind (j5 1 (bR 2))=some (L,l)→BR (fun a b=>a=b) n f L 0:=
 wo (Ok:=KOk) (R:=dH) (p:=bR 2) (Rel:=fun a b=>a=b) 0 0 (k:=1) (by decide) e3
  (fun i o n f=>(((),((),(t,(i,())))),((0,(0,(0,((),())))),(o,((),((x1,(x2,(x3,((n,f),())))),()))))))
  (fun e o n f=>bif e then .inr ((),((0,(0,(0,((),())))),(o,((),((x1,(x2,(x3,((n,f),())))),())))))else .inl ((),((0,(0,(0,((),())))),(o,((),((x1,(x2,(x3,((n,f),())))),()))))))
  (fun i hi hi2 o l f ho=>by
   have hb:o.2=false:=ho.bad
   obtain⟨A,o1,a1,a2,a3⟩:=yh (k:=2) (by decide) (kk:=2) rfl ho
   refine⟨A,o1,?_,a2,a3⟩
   simp(disch:=omega) only[dH,WW,CC,hb,a1,gd hi2 (show 8≤1000 by decide)])
  (fun i o n f ho=>by
   have hb:o.2=true:=ho.bad
   by_cases c:i<t
   ·exact⟨false,by simp only[dH,bB c,aJ,aG,hb]⟩
   ·exact⟨true,by simp only[dH,aM c,aG,aJ]⟩)
  (fun i o n f c=>by simp only[dH,aM c,aG,aJ])
  e2 (fun _=>0)
theorem aho {t:Int} {o5:ByteArray×Bool} {S0:SL}(e2:KOk o5 (sn (S0.bind (bR 2))))(e3: ∀V l,S0.bind (bR 2)=some (V,l)→t=V)(I:IM)(x1 x2 x3:Int)(nu:Nat)(u:Nat→Int):
  ∃e o n f,aj bH (((),((),(t,(0,())))),(I,(o5,((),((x1,(x2,(x3,((nu,u),(0,(fun _=>zR)))))),())))))=some (bif e then .inr ((),(I,(o,((),((x1,(x2,(x3,((nu,u),(n,f))))),())))))else .inl ((),(I,(o,((),((x1,(x2,(x3,((nu,u),(n,f))))),()))))))
   ∧KOk o (sn (S0.bind (j5 2 IB)))∧ ∀L l,S0.bind (j5 2 IB)=some (L,l)→BR S9 n f L r0:=
 wo (Ok:=KOk) (R:=bH) (p:=IB) (Rel:=S9) zR r0 (k:=2) (by decide) e3
  (fun i o n f=>(((),((),(t,(i,())))),(I,(o,((),((x1,(x2,(x3,((nu,u),(n,f))))),()))))))
  (fun e o n f=>bif e then .inr ((),(I,(o,((),((x1,(x2,(x3,((nu,u),(n,f))))),())))))else .inl ((),(I,(o,((),((x1,(x2,(x3,((nu,u),(n,f))))),()))))))
  (fun i hi hi2 o l f ho=>by
   have hb:o.2=false:=ho.bad
   obtain⟨A,o1,a1,a2,a3⟩:=a9L ho
   refine⟨a3p A,o1,?_,a2,a3⟩
   simp(disch:=omega) only[bH,WW,CC,hb,a1,gd hi2 (show 176≤1000 by decide),a3p,Pb])
  (fun i o n f ho=>by
   have hb:o.2=true:=ho.bad
   by_cases c:i<t
   ·exact⟨false,by simp only[bH,bB c,aJ,aG,hb]⟩
   ·exact⟨true,by simp only[bH,aM c,aG,aJ]⟩)
  (fun i o n f c=>by simp only[bH,aM c,aG,aJ])
  e2 (fun _=>zR)
theorem uI {s:ByteArray}(hs:s.size<2^40):a3q (bl s) (qc s):=by
 have h0:KOk (s,false) (some (bl s)):=⟨hs,rfl,fun l h=>by cases h; rfl⟩
 obtain⟨x1,o1,a1,a2,a3⟩:=yh (k:=1) (by decide) (kk:=1) rfl h0
 obtain⟨x2,o2,b1,b2,b3⟩:=yh (k:=1) (by decide) (kk:=1) rfl a2
 obtain⟨x3,o3,c1,c2,c3⟩:=yh (k:=1) (by decide) (kk:=1) rfl b2
 obtain⟨t,o4,d1,d2,d3⟩:=yh (k:=1) (by decide) (kk:=1) rfl c2
 obtain⟨e,o5,nu,u,e1,e2,e3⟩:=ahn d2 d3 x1 x2 x3
 obtain⟨t',o6,f1,f2,f3⟩:=yh (k:=2) (by decide) (kk:=2) rfl e2
 obtain⟨e',o7,nr,r,g1,g2,g3⟩:=aho f2 f3 (0,(0,(0,((0,(fun _=>0)),(0,(fun _=>zR)))))) x1 x2 x3 nu u
 have fin:(∃V l,Mh (bl s)=some (V,l)∧o7.2=false∧bl o7.1=l∧Mc (x1,(x2,(x3,((nu,fun j=>u (0+j)),(nr,fun j=>r (0+j)))))) V)∨(Mh (bl s)=none∧o7.2=true):=by
  have hk:KOk o7 (sn ((some (bl s)).bind Mh)):=by
   unfold Mh
   rw[EW,fZ,fZ,fZ,fZ]; exact g2
  obtain⟨k1,k2,k3⟩:=hk
  have hu:(fun j=>u (0+j))=u:=by funext j; rw[Nat.zero_add]
  have hr:(fun j=>r (0+j))=r:=by funext j; rw[Nat.zero_add]
  rw[hu,hr]
  cases hp:Mh (bl s)with
  |none=>
   right
   refine⟨rfl,?_⟩
   rw[k2,Option.bind_some,hp]; rfl
  |some w=>
   left
   obtain⟨V,l⟩:=w
   have hv:(some (bl s)).bind Mh=some (V,l):=hp
   refine⟨V,l,rfl,by rw[k2,hv]; rfl,k3 l (by rw[hv]; rfl),?_⟩
   unfold Mh at hv
   obtain⟨w,rfl,hw⟩:=xS hv
   obtain⟨⟨_,q1⟩,hw⟩:=dz hw
   obtain⟨⟨_,q2⟩,hw⟩:=dz hw
   obtain⟨⟨_,q3⟩,hw⟩:=dz hw
   obtain⟨⟨_,q4⟩,q5⟩:=dz hw
   exact⟨a3 _ _ q1,b3 _ _ q2,c3 _ _ q3,e3 _ _ q4,g3 _ _ q5⟩
 have post:a3q (bl s) (bif (o7.2|| !sEq o7.1 (ByteArray.mk #[]))then some (zI,4)else some ((x1,(x2,(x3,((nu,fun j=>u (0+j)),(nr,fun j=>r (0+j)))))),0)):=by
  unfold a3q Da
  rcases fin with⟨V,l,h1,h2,h3,h4⟩|⟨h1,h2⟩
  ·rw[h1,h2,Bool.false_or,jA,fT,h3]
   cases l with
   |nil=>exact⟨_,_,rfl,rfl,h4⟩
   |cons c l=>exact⟨_,_,rfl,rfl,rfl⟩
  ·rw[h1,h2,Bool.true_or]
   exact⟨_,_,rfl,rfl,rfl⟩
 rw[Lb]; unfold DU
 simp only[a1,b1,c1,d1,e1]
 cases e<;>simp only[aJ,aG,f1,g1]<;>cases e'<;>simp only[aJ,aG,Mj]<;>exact post
end Go.Pl
namespace Go.Pl
open Go Go.Den Go.Num
open Go.IntKind (i64 u64 u32 u8)
structure DOk(s:ByteArray)(o:ByteArray×(Int×Bool))(S:SL):Prop where
 st:o.1=s
 at0:0≤o.2.1∧o.2.1≤((s.size:Nat):Int)
 bad:o.2.2=S.isNone
 is: ∀l,S=some l→(bl s).drop o.2.1.toNat=l
 sz:s.size<2^40
theorem a9M {s:ByteArray} {n:Int} {o:ByteArray×(Int×Bool)} {S:SL}(h:DOk s o S)(hn:S.isNone=false→0≤n):
  ∃x o',kQ n o=some ((x,()),(o',()))∧DOk s o' (sn (S.bind (P9 n.toNat)))∧x.size≤n.toNat∧x.size<2^40∧ ∀V l,S.bind (P9 n.toNat)=some (V,l)→bl x=V:=by
 rw[wT]; unfold ni
 obtain⟨s',a,b⟩:=o
 obtain⟨h0,h1,h2,h3,h4⟩:=h
 simp only at h0 h1 h2 h3
 subst h0
 cases S with
 |none=>
  have hb:b=true:=h2
  subst hb
  exact⟨ByteArray.mk #[],(s',a,true),rfl,⟨rfl,h1,rfl,(fun l h=>by cases h),h4⟩,Nat.zero_le _,by decide,fun V l h=>by cases h⟩
 |some l=>
  have hb:b=false:=h2
  subst hb
  have hl:=h3 l rfl
  have hn:=hn rfl
  have hsz:s'.size=(bl s').length:=rfl
  have hll:l.length=s'.size-a.toNat:=by rw[←hl,List.length_drop,hsz]
  simp only[Option.bind_some,P9]
  have e0:i64.wrap (((s'.size:Nat):Int)-a)=((s'.size:Nat):Int)-a:=wrap_i64 (by omega)
  simp only[e0,aG]
  by_cases c:l.length<n.toNat
  ·rw[bB (by omega),if_pos c,aJ]
   exact⟨_,_,rfl,⟨rfl,h1,rfl,(fun l h=>by cases h),h4⟩,Nat.zero_le _,by decide,fun V l h=>by cases h⟩
  ·have e1:i64.wrap (a+n)=a+n:=wrap_i64 (by omega)
   have e2:i64.wrap (a+n-n)=a:=by rw[wrap_i64 (by omega)]; omega
   simp only[e1,e2]
   rw[aM (by omega),if_neg c,aG,bB (show 0≤a+n by omega),bB (show a+n≤((s'.size:Nat):Int)by omega),bB (show 0≤a by omega),bB (show a≤(((a+n).toNat:Nat):Int)by omega)]
   simp only[Bool.and_self,aJ]
   have hx:bl (s'.extract a.toNat (a+n).toNat)=l.take n.toNat:=by
    rw[zY,hl,show(a+n).toNat-a.toNat=n.toNat by omega]
   have hxs:(s'.extract a.toNat (a+n).toNat).size=n.toNat:=by
    rw[fT,hx,List.length_take]; omega
   refine⟨_,_,rfl,⟨rfl,⟨?_,?_⟩,rfl,(fun l' h=>?_),h4⟩,by omega,by omega,fun V l' h=>?_⟩
   ·show 0≤a+n; omega
   ·show a+n≤_; omega
   ·cases h
    show(bl s').drop (a+n).toNat=l.drop n.toNat
    rw[←hl,List.drop_drop,show(a+n).toNat=a.toNat+n.toNat by omega]
   ·cases h; exact hx
theorem a3r(s:ByteArray)(hs:s.size≤6)(r:ByteArray×(Int×Bool)):
  aj dB (((),(s,(0,(0,())))),(r,()))=some (uq ((jK (bl s):Nat):Int) r):=by
 have hsz:s.size=(bl s).length:=rfl
 have hg: ∀i,(s.data.toList.getD i 0)=(bl s).getD i 0:=fun i=>rfl
 obtain⟨z,h1,h2⟩:=aR (R:=dB) (S:=Int) (fun j z=>pF s z (j:Int) r) (fun z=>uq z r)
  (fun j z=>z=((jK ((bl s).take j):Nat):Int)) s.size
  (fun j hj z hz=>by
   subst hz
   have hb:=UInt8.toNat_lt ((bl s).getD j 0)
   have e:=a1E (a:=jK ((bl s).take j)) (c:=((bl s).getD j 0).toNat) (Uq (by rw[List.length_take]; omega)) hb
   refine⟨_,?_,rfl⟩
   rw[Ie (by omega),Ic]
   simp(disch:=omega) only[dB,pF,WW,CC,Nat.zero_add,hg,e])
  (fun z _=>by simp(disch:=omega) only[dB,pF,WW]) 0 rfl
 rw[hsz,List.take_length]at h2
 subst h2
 exact h1
theorem uX {k:Nat}(hk:k≤6) {kk:Int}(hkk:kk=(k:Int)) {s:ByteArray} {o:ByteArray×(Int×Bool)} {S:SL}(h:DOk s o S):
  ∃x o',aH kk o=some ((x,()),(o',()))∧DOk s o' (sn (S.bind (bR k)))∧ ∀V l,S.bind (bR k)=some (V,l)→x=V:=by
 subst hkk
 obtain⟨x,o',h1,h2,h3,_,h4⟩:=a9M (n:=(k:Int)) h (fun _=>by omega)
 rw[Int.toNat_natCast]at h2 h3 h4
 rw[xY]; unfold oH
 simp only[h1,a3r x (by omega) o']
 refine⟨_,_,rfl,?_,?_⟩
 ·rw[Mi,EW]; exact h2
 ·intro V l h
  rw[Mi]at h
  obtain⟨a,rfl,ha⟩:=xS h
  rw[h4 _ _ ha]
theorem Sm {s:ByteArray} {o:ByteArray×(Int×Bool)} {S:SL}(h:DOk s o S):
  ∃x o',eY o=some ((x,()),(o',()))∧DOk s o' (sn (S.bind mh))∧x.size<2^40∧ ∀V l,S.bind mh=some (V,l)→bl x=V:=by
 obtain⟨n,o1,h1,h2,h3⟩:=uX (k:=2) (by decide) (kk:=2) rfl h
 obtain⟨x,o',g1,g2,g3,g4,g5⟩:=a9M (n:=n) h2 (a9I h3)
 rw[wV]; unfold nk
 simp only[h1,g1]
 rw[Un,dep h3]
 exact⟨_,_,rfl,g2,g4,g5⟩
theorem a1H {s:ByteArray} {o:ByteArray×(Int×Bool)} {S:SL}(h:DOk s o S):
  ∃n f o',jJ o=some (((n,f),()),(o',()))∧DOk s o' (sn (S.bind Nv))∧ ∀L l,S.bind Nv=some (L,l)→BR P8 n f L v0:=by
 obtain⟨t,o1,h1,h2,h3⟩:=uX (k:=2) (by decide) (kk:=2) rfl h
 obtain⟨e,o',n,f,g1,g2,g3⟩:=wo (Ok:=DOk s) (R:=bD) (p:=OH) (Rel:=P8) zV v0 (k:=2) (by decide) h3
  (fun i o n f=>gH n f t i o) (fun e o n f=>BM n f o)
  (fun i hi hi2 o l f ho=>by
   have hb:o.2.2=false:=ho.bad
   obtain⟨a,o1,a1,a2,a3⟩:=uX (k:=1) (by decide) (kk:=1) rfl ho
   obtain⟨b,o2,b1,b2,b3⟩:=uX (k:=6) (by decide) (kk:=6) rfl a2
   obtain⟨c,o3,c1,c2,c3⟩:=uX (k:=1) (by decide) (kk:=1) rfl b2
   obtain⟨d,o4,d1,d2,_,d3⟩:=Sm c2
   refine⟨(a,((b,c),d)),o4,?_,?_,?_⟩
   ·simp(disch:=omega) only[bD,gH,WW,CC,hb,Bool.not_false,a1,b1,c1,d1,gd hi2 (show 40≤1000 by decide)]
   ·unfold OH
    rw[EW,fZ,fZ,fZ]; exact d2
   ·intro V l' hv
    unfold OH at hv
    obtain⟨w,rfl,hw⟩:=xS hv
    obtain⟨⟨_,q1⟩,hw⟩:=dz hw
    obtain⟨⟨_,q2⟩,hw⟩:=dz hw
    obtain⟨⟨_,q3⟩,q4⟩:=dz hw
    exact⟨a3 _ _ q1,b3 _ _ q2,c3 _ _ q3,d3 _ _ q4⟩)
  (fun i o n f ho=>by
   have hb:o.2.2=true:=ho.bad
   by_cases c:i<t
   ·exact⟨false,by simp only[bD,gH,bB c,aJ,aG,hb,Bool.not_true]⟩
   ·exact⟨true,by simp only[bD,gH,aM c,aG]⟩)
  (fun i o n f c=>by simp only[bD,gH,aM c,aG])
  h2 (fun _=>zV)
 rw[uV]; unfold lI
 have g1':aj bD (((),((0,(fun _=>zV)),(t,(0,())))),(o1,()))=some _:=g1
 simp only[h1,g1']
 refine⟨n,fun j=>f (0+j),o',rfl,g2,fun L l h=>?_⟩
 simp only[Nat.zero_add]
 exact g3 L l h
end Go.Pl
namespace Go.Pl
open Go Go.Den Go.Num
open Go.IntKind (i64 u64 u32 u8)
theorem a9N {α β:Type} {p:Pr α} {f:α→Option β} {S:SL} {s:ByteArray} {o:ByteArray×(Int×Bool)}(h:DOk s o (sn (S.bind p))) {bad:Bool}(hb: ∀V l,S.bind p=some (V,l)→bad=(f V).isNone):DOk s (o.1,(o.2.1,o.2.2||bad)) (sn (S.bind (TF p f))):=by
 rw[Sl]
 obtain⟨h0,h1,h2,h3,h4⟩:=h
 cases hS:S.bind p with
 |none=>
  rw[hS]at h2
  exact⟨h0,h1,by rw[h2]; rfl,(fun l h=>by cases h),h4⟩
 |some x=>
  rw[hS]at h2 h3
  have hbb:=hb _ _ hS
  have h3':=h3 _ rfl
  simp only[Option.bind_some]
  cases hf:f x.1 with
  |none=>
   rw[hf]at hbb
   exact⟨h0,h1,by rw[hbb]; simp[sn],(fun l h=>by cases h),h4⟩
  |some y=>
   rw[hf]at hbb
   exact⟨h0,h1,by rw[h2,hbb]; rfl,(fun l h=>by cases h; exact h3'),h4⟩
theorem anB {s:ByteArray} {o3:ByteArray×(Int×Bool)} {S:SL}(h:DOk s o3 S)(p:Int×Int)(p1:ByteArray)(np:Nat)(p2:Nat→SlV NI)(np1:Nat)(p3:Nat→NI)(p4:Int)(q:Int×Int)(q1:ByteArray)(nq:Nat)(q2:Nat→SlV NI)(q5:Int):
  ∃t o4 o5 n f op o6,aH 1 o3=some ((t,()),(o4,()))
   ∧aj aX (((),((),((),(t,(0,()))))),(o4,((p,(p1,((np,p2),((np1,p3),p4)))),((q,(q1,((nq,q2),((0,(fun _=>(fun _=>0))),q5)))),()))))=some (qJ o5 p p1 np p2 np1 p3 p4 q q1 nq q2 n f q5)
   ∧aH 4 o5=some ((op,()),(o6,()))∧DOk s o6 (sn ((sn (S.bind (j5 1 Iy))).bind (bR 4)))
   ∧(∀L l,S.bind (j5 1 Iy)=some (L,l)→BR IsN n f L 0)∧ ∀V l,(sn (S.bind (j5 1 Iy))).bind (bR 4)=some (V,l)→op=V:=by
 obtain⟨t,o4,h1,h2,h3⟩:=uX (k:=1) (by decide) (kk:=1) rfl h
 obtain⟨e,o5,n,f,g1,g2,g3⟩:=wo (Ok:=DOk s) (R:=aX) (p:=Iy) (Rel:=IsN) (fun _=>0) 0 (k:=1) (by decide) h3
  (fun i o n f=>gG t i o p p1 np p2 np1 p3 p4 q q1 nq q2 n f q5) (fun e o n f=>qJ o p p1 np p2 np1 p3 p4 q q1 nq q2 n f q5)
  (fun i hi hi2 o l f ho=>by
   have hb:o.2.2=false:=ho.bad
   obtain⟨x,o1,a1,a2,a3,a4⟩:=Sm ho
   obtain⟨a,b1,b2⟩:=Js x
   have hk:=a9N (f:=VB) a2 (bad:=(if iO (bl x)=true then(0:Int)else 4) !=0) (fun V l h=>by rw[←a4 V l h,Zi])
   refine⟨a,_,?_,hk,fun V l' h=>?_⟩
   ·cases hc:o1.2.2<;>simp(disch:=omega) only[aX,gG,WW,CC,hb,hc,Bool.not_false,Bool.true_or,Bool.false_or,a1,b1,gd hi2 (show 32≤1000 by decide)]
   ·obtain⟨w,hw,hf⟩:=Ij h
    have e:=a4 _ _ hw
    unfold VB at hf
    rw[←e]at hf
    split at hf
    ·rename_i ho
     cases hf
     exact b2 ho
    ·cases hf)
  (fun i o n f ho=>by
   have hb:o.2.2=true:=ho.bad
   by_cases c:i<t
   ·exact⟨false,by simp only[aX,gG,bB c,aJ,aG,hb,Bool.not_true]⟩
   ·exact⟨true,by simp only[aX,gG,aM c,aG]⟩)
  (fun i o n f c=>by simp only[aX,gG,aM c,aG])
  h2 (fun _=>(fun _=>0))
 obtain⟨op,o6,k1,k2,k3⟩:=uX (k:=4) (by decide) (kk:=4) rfl g2
 exact⟨t,o4,o5,n,f,op,o6,h1,g1,k1,k2,g3,k3⟩
theorem PY {s:ByteArray} {o:ByteArray×(Int×Bool)} {S:SL}(h:DOk s o S):
  ∃X o',fF o=some ((X,()),(o',()))∧DOk s o' (sn (S.bind pO))∧ ∀V l,S.bind pO=some (V,l)→RY X V:=by
 obtain⟨a,o0,h1,h0,h3⟩:=uX (k:=6) (by decide) (kk:=6) rfl h
 obtain⟨b,o1,h1',h2,h4⟩:=uX (k:=1) (by decide) (kk:=1) rfl h0
 obtain⟨d,o2,d1,d2,_,d3⟩:=Sm h2
 obtain⟨m,o3,m1,m2,m3,m4⟩:=Sm d2
 have fin: ∀ {o4:ByteArray×(Int×Bool)} {nm:Nat} {mm:Nat→SlV NI},DOk s o4 (sn ((sn ((sn ((sn (S.bind (bR 6))).bind (bR 1))).bind mh)).bind Iz))→
   (∀V l,(sn ((sn ((sn (S.bind (bR 6))).bind (bR 1))).bind mh)).bind Iz=some (V,l)→xZ nm mm V∧nm<9223372036854775808)→
   ∀ {n:Nat} {f:Nat→NI} {op:Int} {o6:ByteArray×(Int×Bool)},DOk s o6 (sn ((sn ((sn ((sn ((sn ((sn (S.bind (bR 6))).bind (bR 1))).bind mh)).bind Iz)).bind (j5 1 Iy))).bind (bR 4)))→
   (∀L l,(sn ((sn ((sn ((sn (S.bind (bR 6))).bind (bR 1))).bind mh)).bind Iz)).bind (j5 1 Iy)=some (L,l)→BR IsN n f L 0)→
   (∀V l,(sn ((sn ((sn ((sn ((sn (S.bind (bR 6))).bind (bR 1))).bind mh)).bind Iz)).bind (j5 1 Iy))).bind (bR 4)=some (V,l)→op=V)→
   DOk s o6 (sn (S.bind pO))∧ ∀V l,S.bind pO=some (V,l)→RY ((a,b),(d,((nm,mm),((n,(fun j=>f (0+j))),op)))) V:=by
  intro o4 nm mm hk hm n f op o6 h6 hy hop
  refine⟨?_,?_⟩
  ·unfold pO
   rw[EW,fZ,fZ,fZ,fZ,fZ]; exact h6
  ·intro V l hv
   unfold pO at hv
   obtain⟨w,rfl,hw⟩:=xS hv
   obtain⟨⟨_,q1⟩,hw⟩:=dz hw
   obtain⟨⟨_,q2⟩,hw⟩:=dz hw
   obtain⟨⟨_,q3⟩,hw⟩:=dz hw
   obtain⟨⟨_,q4⟩,hw⟩:=dz hw
   obtain⟨⟨_,q5⟩,q6⟩:=dz hw
   obtain⟨y1,y2,y3⟩:=hy _ _ q5
   obtain⟨z1,z2⟩:=hm _ _ q4
   exact⟨h3 _ _ q1,h4 _ _ q2,d3 _ _ q3,z1,⟨y1.symm,fun j hj=>by simp only[Nat.zero_add]; exact y2 j hj⟩,hop _ _ q6,z2,by simp only; omega⟩
 rw[uU]; unfold lH
 by_cases c:sEq m (ByteArray.mk #[])=true
 ·have hm0:bl m=[]:=by
   rw[jA]at c
   exact List.length_eq_zero_iff.mp (of_decide_eq_true c)
  have hk:=a9N (f:=Sc) m2 (bad:=false) (fun V l h=>by rw[←m4 V l h,hm0]; rfl)
  rw[Bool.or_false]at hk
  have hk:DOk s o3 (sn ((sn ((sn ((sn (S.bind (bR 6))).bind (bR 1))).bind mh)).bind Iz)):=hk
  obtain⟨t,o4,o5,n,f,op,o6,g1,g2,g3,g4,g5,g6⟩:=anB hk (0,0) ByteArray.empty 0 (fun _=>.nil) 0 (fun _=>(fun _=>0)) 0 (a,b) d 0 (fun _=>.nil) 0
  obtain⟨r1,r2⟩:=fin hk (nm:=0) (mm:=fun _=>.nil) (fun V l h=>by
   obtain⟨w,hw,hf⟩:=Ij h
   have e:=m4 _ _ hw
   rw[←e,hm0]at hf
   cases hf
   exact⟨⟨rfl,fun i hi=>absurd hi (Nat.not_lt_zero _),fun i hi=>absurd hi (Nat.not_lt_zero _),fun i hi=>absurd hi (Nat.not_lt_zero _)⟩,by decide⟩) g4 g5 g6
  simp only[h1,h1',d1,m1,c,Bool.not_true,aG,g1,g2,g3]
  exact⟨_,_,rfl,r1,r2⟩
 ·rw[Bool.not_eq_true]at c
  have hm0:bl m≠ []:=by
   rw[jA]at c
   exact fun hh=>(of_decide_eq_false c) (List.length_eq_zero_iff.mpr hh)
  obtain⟨nm,mm,ee,t1,t2⟩:=Tz m3
  have hmat:Sc (bl m)=xQ (bl m):=by unfold Sc; rw[if_neg hm0]
  have hk:=a9N (f:=Sc) m2 (bad:=ee !=0) (fun V l h=>by
   rw[←m4 V l h,hmat]
   cases hp:xQ (bl m)with
   |none=>rw[hp]at t2; simp only at t2; subst t2; rfl
   |some M=>rw[hp]at t2; simp only at t2; rw[t2.1]; rfl)
  have hk:DOk s (o3.1,(o3.2.1,o3.2.2||(ee !=0))) (sn ((sn ((sn ((sn (S.bind (bR 6))).bind (bR 1))).bind mh)).bind Iz)):=hk
  obtain⟨t,o4,o5,n,f,op,o6,g1,g2,g3,g4,g5,g6⟩:=anB hk (0,0) ByteArray.empty 0 (fun _=>.nil) 0 (fun _=>(fun _=>0)) 0 (a,b) d nm mm 0
  obtain⟨r1,r2⟩:=fin hk (nm:=nm) (mm:=mm) (fun V l h=>by
   obtain⟨w,hw,hf⟩:=Ij h
   have e:=m4 _ _ hw
   rw[←e,hmat]at hf
   rw[hf]at t2
   have:=Zj hf
   have hs:=t2.2.sz
   exact⟨t2.2,by omega⟩) g4 g5 g6
  simp only[h1,h1',d1,m1,c,Bool.not_false,aJ,t1]
  cases hc:o3.2.2<;>rw[hc]at g1<;>simp only[Bool.true_or,Bool.false_or]at g1<;>simp only[aJ,aG,g1,g2,g3]<;>exact⟨_,_,rfl,r1,r2⟩
end Go.Pl
namespace Go.Pl
open Go Go.Den Go.Num
open Go.IntKind (i64 u64 u32 u8)
theorem ahp {s:ByteArray} {t:Int} {o5:ByteArray×(Int×Bool)} {S0:SL}(e2:DOk s o5 (sn (S0.bind (bR 1))))(e3: ∀V l,S0.bind (bR 1)=some (V,l)→t=V)(x1 x2 x3:Int):
  ∃(e:Bool) (o:ByteArray×(Int×Bool)) (n:Nat) (f:Nat→Int),aj iG (nA s t 0 0 0 0 o5 x1 x2 x3 0 (fun _=>0))=some (Gv s 0 0 0 o x1 x2 x3 n f)
   ∧DOk s o (sn (S0.bind (j5 1 (bR 2))))∧ ∀L l,S0.bind (j5 1 (bR 2))=some (L,l)→BR (fun a b=>a=b) n f L 0:=
 wo (Ok:=DOk s) (R:=iG) (p:=bR 2) (Rel:=fun a b=>a=b) 0 0 (k:=1) (by decide) e3
  (fun i o n f=>nA s t i 0 0 0 o x1 x2 x3 n f)
  (fun e o n f=>Gv s 0 0 0 o x1 x2 x3 n f)
  (fun i hi hi2 o l f ho=>by
   have hb:o.2.2=false:=ho.bad
   obtain⟨A,o1,a1,a2,a3⟩:=uX (k:=2) (by decide) (kk:=2) rfl ho
   refine⟨A,o1,?_,a2,a3⟩
   simp(disch:=omega) only[iG,nA,WW,CC,hb,Bool.not_false,a1,gd hi2 (show 8≤1000 by decide)])
  (fun i o n f ho=>by
   have hb:o.2.2=true:=ho.bad
   by_cases c:i<t
   ·exact⟨false,by simp only[iG,nA,bB c,aJ,aG,hb,Bool.not_true]⟩
   ·exact⟨true,by simp only[iG,nA,aM c,aG]⟩)
  (fun i o n f c=>by simp only[iG,nA,aM c,aG])
  e2 (fun _=>0)
theorem a3s {s:ByteArray} {t:Int} {o5:ByteArray×(Int×Bool)} {S0:SL}(e2:DOk s o5 (sn (S0.bind (bR 1))))(e3: ∀V l,S0.bind (bR 1)=some (V,l)→t=V)(m i:Int)(I J:IM)(K:ByteArray)(G:GA)(n2:Nat)(v2:Nat→VO)(n3:Nat)(v3:Nat→VO):
  ∃(e:Bool) (o:ByteArray×(Int×Bool)) (n:Nat) (f:Nat→TO),aj iH ((s,((),((),((),(m,(i,((),(t,(0,()))))))))),(I,(o5,(J,((K,(G,((n2,v2),((n3,v3),(0,fun _=>zT))))),())))))=some ((s,((),((),((),(m,(i,((),()))))))),(I,(o,(J,((K,(G,((n2,v2),((n3,v3),(n,f))))),())))))
   ∧DOk s o (sn (S0.bind (j5 1 Ju)))∧ ∀L l,S0.bind (j5 1 Ju)=some (L,l)→BR a0T n f L t0:=
 wo (Ok:=DOk s) (R:=iH) (p:=Ju) (Rel:=a0T) zT t0 (k:=1) (by decide) e3
  (fun k o n f=>((s,((),((),((),(m,(i,((),(t,(k,()))))))))),(I,(o,(J,((K,(G,((n2,v2),((n3,v3),(n,f))))),()))))))
  (fun e o n f=>((s,((),((),((),(m,(i,((),()))))))),(I,(o,(J,((K,(G,((n2,v2),((n3,v3),(n,f))))),()))))))
  (fun i hi hi2 o l f ho=>by
   have hb:o.2.2=false:=ho.bad
   obtain⟨A,o1,a1,a2,a3⟩:=PY ho
   obtain⟨B,o2,b1,b2,b3⟩:=PY a2
   obtain⟨C,o3,c1,c2,c3⟩:=PY b2
   obtain⟨x,o4,d1,d2,d3⟩:=uX (k:=4) (by decide) (kk:=4) rfl c2
   obtain⟨y,o5,e1,e2,e3⟩:=uX (k:=4) (by decide) (kk:=4) rfl d2
   refine⟨(Pb A,(Pb B,(Pb C,(x,y)))),o5,?_,?_,?_⟩
   ·simp(disch:=omega) only[iH,WW,CC,hb,Bool.not_false,a1,b1,c1,d1,e1,gd hi2 (show 280≤1000 by decide),Pb]
   ·unfold Ju
    rw[EW,fZ,fZ,fZ,fZ]; exact e2
   ·intro V l' hv
    unfold Ju at hv
    obtain⟨w,rfl,hw⟩:=xS hv
    obtain⟨⟨_,q1⟩,hw⟩:=dz hw
    obtain⟨⟨_,q2⟩,hw⟩:=dz hw
    obtain⟨⟨_,q3⟩,hw⟩:=dz hw
    obtain⟨⟨_,q4⟩,q5⟩:=dz hw
    exact⟨Bp (a3 _ _ q1),Bp (b3 _ _ q2),Bp (c3 _ _ q3),d3 _ _ q4,e3 _ _ q5⟩)
  (fun k o n f ho=>by
   have hb:o.2.2=true:=ho.bad
   by_cases c:k<t
   ·exact⟨false,by simp only[iH,bB c,aJ,aG,hb,Bool.not_true]⟩
   ·exact⟨true,by simp only[iH,aM c,aG]⟩)
  (fun k o n f c=>by simp only[iH,aM c,aG])
  e2 (fun _=>zT)
end Go.Pl
namespace Go.Pl
open Go Go.Den Go.Num
open Go.IntKind (i64 u64 u32 u8)
theorem ahq {s:ByteArray} {t:Int} {o5:ByteArray×(Int×Bool)} {S0:SL}(e2:DOk s o5 (sn (S0.bind (bR 2))))(e3: ∀V l,S0.bind (bR 2)=some (V,l)→t=V)(I:IM)(x1 x2 x3:Int)(nu:Nat)(u:Nat→Int):
  ∃(e:Bool) (o:ByteArray×(Int×Bool)) (n:Nat) (f:Nat→RE),aj iI ((s,((),((),((),(t,(0,())))))),(I,(o5,((x1,(x2,(x3,((nu,u),(0,(fun _=>zR)))))),()))))=some ((s,((),((),((),())))),(I,(o,((x1,(x2,(x3,((nu,u),(n,f))))),()))))
   ∧DOk s o (sn (S0.bind (j5 2 IB)))∧ ∀L l,S0.bind (j5 2 IB)=some (L,l)→BR S9 n f L r0:=
 wo (Ok:=DOk s) (R:=iI) (p:=IB) (Rel:=S9) zR r0 (k:=2) (by decide) e3
  (fun i o n f=>((s,((),((),((),(t,(i,())))))),(I,(o,((x1,(x2,(x3,((nu,u),(n,f))))),())))))
  (fun e o n f=>((s,((),((),((),())))),(I,(o,((x1,(x2,(x3,((nu,u),(n,f))))),())))))
  (fun i hi hi2 o l f ho=>by
   have hb:o.2.2=false:=ho.bad
   obtain⟨K,o1,a1,a2,_,a3⟩:=Sm ho
   obtain⟨G,o2,b1,b2,b3⟩:=PY a2
   obtain⟨n2,v2,o3,c1,c2,c3⟩:=a1H b2
   obtain⟨n3,v3,o4,d1,d2,d3⟩:=a1H c2
   obtain⟨t',o5,e1,e2,e3⟩:=uX (k:=1) (by decide) (kk:=1) rfl d2
   obtain⟨e,o6,n,g,g1,g2,g3⟩:=a3s e2 e3 t (i:Int) I (x1,(x2,(x3,((nu,u),(i,f))))) K G n2 v2 n3 v3
   have hs:(fun j=>g (0+j))=g:=by funext j; rw[Nat.zero_add]
   refine⟨a3p (K,(G,((n2,v2),((n3,v3),(n,g))))),o6,?_,?_,?_⟩
   ·simp(disch:=omega) only[iI,WW,CC,hb,Bool.not_false,a1,b1,c1,d1,e1,g1,gd hi2 (show 176≤1000 by decide),a3p,Pb,hs]
   ·unfold IB
    rw[EW,fZ,fZ,fZ,fZ]; exact g2
   ·intro V l hv
    unfold IB at hv
    obtain⟨w,rfl,hw⟩:=xS hv
    obtain⟨⟨_,q1⟩,hw⟩:=dz hw
    obtain⟨⟨_,q2⟩,hw⟩:=dz hw
    obtain⟨⟨_,q3⟩,hw⟩:=dz hw
    obtain⟨⟨_,q4⟩,q5⟩:=dz hw
    exact⟨a3 _ _ q1,Bp (b3 _ _ q2),rfl,rfl,rfl,c3 _ _ q3,d3 _ _ q4,g3 _ _ q5⟩)
  (fun i o n f ho=>by
   have hb:o.2.2=true:=ho.bad
   by_cases c:i<t
   ·exact⟨false,by simp only[iI,bB c,aJ,aG,hb,Bool.not_true]⟩
   ·exact⟨true,by simp only[iI,aM c,aG]⟩)
  (fun i o n f c=>by simp only[iI,aM c,aG])
  e2 (fun _=>zR)
theorem Jv {s:ByteArray}(hs:s.size<2^40):a3q (bl s) (Gw s):=by
 have h0:DOk s (s,(0,false)) (some (bl s)):=⟨rfl,⟨Int.le_refl 0,by simp only; omega⟩,rfl,(fun l h=>by cases h; rfl),hs⟩
 obtain⟨x1,o1,a1,a2,a3⟩:=uX (k:=1) (by decide) (kk:=1) rfl h0
 obtain⟨x2,o2,b1,b2,b3⟩:=uX (k:=1) (by decide) (kk:=1) rfl a2
 obtain⟨x3,o3,c1,c2,c3⟩:=uX (k:=1) (by decide) (kk:=1) rfl b2
 obtain⟨t,o4,d1,d2,d3⟩:=uX (k:=1) (by decide) (kk:=1) rfl c2
 obtain⟨e,o5,nu,u,e1,e2,e3⟩:=ahp d2 d3 x1 x2 x3
 obtain⟨t',o6,f1,f2,f3⟩:=uX (k:=2) (by decide) (kk:=2) rfl e2
 obtain⟨e',o7,nr,r,g1,g2,g3⟩:=ahq f2 f3 (0,(0,(0,((0,(fun _=>0)),(0,(fun _=>zR)))))) x1 x2 x3 nu u
 have fin:DOk s o7 (sn ((some (bl s)).bind Mh))∧ ∀V l,(some (bl s)).bind Mh=some (V,l)→Mc (x1,(x2,(x3,((nu,fun j=>u (0+j)),(nr,fun j=>r (0+j)))))) V:=by
  refine⟨?_,?_⟩
  ·unfold Mh
   rw[EW,fZ,fZ,fZ,fZ]; exact g2
  ·have hu:(fun j=>u (0+j))=u:=by funext j; rw[Nat.zero_add]
   have hr:(fun j=>r (0+j))=r:=by funext j; rw[Nat.zero_add]
   rw[hu,hr]
   intro V l hv
   unfold Mh at hv
   obtain⟨w,rfl,hw⟩:=xS hv
   obtain⟨⟨_,q1⟩,hw⟩:=dz hw
   obtain⟨⟨_,q2⟩,hw⟩:=dz hw
   obtain⟨⟨_,q3⟩,hw⟩:=dz hw
   obtain⟨⟨_,q4⟩,q5⟩:=dz hw
   exact⟨a3 _ _ q1,b3 _ _ q2,c3 _ _ q3,e3 _ _ q4,g3 _ _ q5⟩
 obtain⟨⟨k0,k1,k2,k3,k4⟩,k5⟩:=fin
 rw[Oy]; unfold I6
 simp only[nA]at e1
 simp only[a1,b1,c1,d1,e1,f1,g1]
 unfold a3q Da
 rw[Option.bind_some]at k2 k3 k5
 cases hp:Mh (bl s)with
 |none=>
  rw[hp]at k2
  rw[k2]
  exact⟨_,_,rfl,rfl,rfl⟩
 |some w=>
  obtain⟨V,l⟩:=w
  rw[hp]at k2 k3
  have hl:=k3 l rfl
  have h5:=k5 V l hp
  have hll:l.length=s.size-o7.2.1.toNat:=by rw[←hl,List.length_drop]; rfl
  rw[k2]
  cases l with
  |nil=>
   have d:(o7.2.1 !=((s.size:Nat):Int))=false:=by
    simp only[List.length_nil]at hll
    rw[bne_eq_false_iff_eq]; omega
   simp only[sn,Option.isNone_some,aG,d]
   exact⟨_,_,rfl,rfl,h5⟩
  |cons c l=>
   have d:(o7.2.1 !=((s.size:Nat):Int))=true:=by
    simp only[List.length_cons]at hll
    rw[bne_iff_ne]; omega
   simp only[sn,Option.isNone_some,aG,aJ,d]
   exact⟨_,_,rfl,rfl,rfl⟩
end Go.Pl
namespace Go.Pl
open Go Go.Den Go.Num
open Go.IntKind (i64 u64 u32 u8)
noncomputable def Mk(l:List UInt8):Option vN:=if l.length<32 then none else if bl (yV (l.take (l.length-32)))=l.drop (l.length-32)then Da (l.take (l.length-32))else none
def a3t(l:List UInt8)(r:Option (IM×Int)):Prop:= ∃x e,r=some (x,e)∧match Mk l with
 |some X=>e=0∧Mc x X
 |none=>e=4∧x=zI
theorem Ur {s:ByteArray}(h: ¬s.size<32) {r:Option (IM×Int)}(hr:a3q ((bl s).take ((bl s).length-32)) r):
  a3t (bl s) (bif !sEq (yV ((bl s).take ((bl s).length-32))) (s.extract (s.size-32) s.size)then some (zI,4)else r):=by
 have hsz:s.size=(bl s).length:=rfl
 unfold a3t Mk
 rw[if_neg (by omega)]
 by_cases c:bl (yV ((bl s).take ((bl s).length-32)))=(bl s).drop ((bl s).length-32)
 ·rw[if_pos c]
  have e:sEq (yV ((bl s).take ((bl s).length-32))) (s.extract (s.size-32) s.size)=true:=by
   rw[nC,Bl,hsz]; exact c
  rw[e,Bool.not_true,aG]; exact hr
 ·rw[if_neg c]
  have e:sEq (yV ((bl s).take ((bl s).length-32))) (s.extract (s.size-32) s.size)=false:=by
   rw[←Bool.not_eq_true,nC,Bl,hsz]; exact c
  rw[e,Bool.not_false,aJ]
  exact⟨_,_,rfl,rfl,rfl⟩
theorem front_eq(s:ByteArray):bl (s.extract 0 (s.size-32))=(bl s).take ((bl s).length-32):=M0 s _
theorem Ml {s:ByteArray}(hs:s.size<2^40):(s.extract 0 (s.size-32)).size<2^40:=by
 rw[fT,M0,List.length_take]
 have:s.size=(bl s).length:=rfl
 omega
theorem Ad {s:ByteArray}(hs:s.size<2^40):a3t (bl s) (nT s):=by
 have hsz:s.size=(bl s).length:=rfl
 rw[DV]; unfold zM
 have e0:i64.wrap (((s.size:Nat):Int)-32)=((s.size:Nat):Int)-32:=wrap_i64 (by omega)
 by_cases c:s.size<32
 ·rw[e0,bB (by omega),aJ]
  unfold a3t Mk
  rw[if_pos (by omega)]
  exact⟨_,_,rfl,rfl,rfl⟩
 ·have e1:(((s.size:Nat):Int)-32).toNat=s.size-32:=by omega
  have hT:=uI (Ml hs)
  rw[front_eq]at hT
  obtain⟨x,e,h1,h2⟩:=id hT
  have hS:=yX (s:=s.extract 0 (s.size-32)) (by have:=Ml hs; omega)
  rw[front_eq]at hS
  have hp:=Ur c hT
  rw[h1]at hp
  rw[e0,aM (by omega),bB (show 0≤((s.size:Nat):Int)-32 by omega),bB (show((s.size:Nat):Int)-32≤((s.size:Nat):Int)by omega)]
  simp only[aG,Bool.and_self,aJ,e1,hS,h1]
  exact hp
theorem TG {s:ByteArray}(hs:s.size<2^40):a3t (bl s) (LM s):=by
 have hsz:s.size=(bl s).length:=rfl
 rw[Oz]; unfold I7
 have e0:i64.wrap (((s.size:Nat):Int)-32)=((s.size:Nat):Int)-32:=wrap_i64 (by omega)
 by_cases c:s.size<32
 ·rw[bB (by omega),aJ]
  unfold a3t Mk
  rw[if_pos (by omega)]
  exact⟨_,_,rfl,rfl,rfl⟩
 ·have e1:(((s.size:Nat):Int)-32).toNat=s.size-32:=by omega
  have hT:=Jv (Ml hs)
  rw[front_eq]at hT
  obtain⟨x,e,h1,h2⟩:=id hT
  have hS:=Eo (s:=s.extract 0 (s.size-32)) (Ml hs)
  rw[front_eq]at hS
  have hp:=Ur c hT
  rw[h1]at hp
  rw[e0,aM (by omega),bB (show 0≤((s.size:Nat):Int)-32 by omega),bB (show((s.size:Nat):Int)-32≤((s.size:Nat):Int)by omega)]
  simp only[aG,Bool.and_self,aJ,e1,hS,h1]
  exact hp
end Go.Pl
namespace Go.Pl
open Go Go.Den Go.Num
open Go.IntKind (i64 u64 u32 u8)
theorem Sn {x:IM} {X:vN}(hx:Mc x X)(hl:(Nu X).1.length<2^35):
  CK x=some (if uH X then(⟨(nH X).toArray⟩++yV (nH X),0)else(ByteArray.mk #[],1)):=by
 rw[Le]; unfold DY
 have h1:oZ (x.1,(x.2.1,(x.2.2.1,((x.2.2.2.1.1,x.2.2.2.1.2),(x.2.2.2.2.1,x.2.2.2.2.2)))))=some (TD X):=BS hx hl
 rw[PW]at hl
 simp only at hl
 rw[h1,VF]
 cases hg:uH X with
 |false=>rfl
 |true=>
  have hb:bl (⟨(nH X).toArray⟩:ByteArray)=nH X:=RZ _
  have hz:(⟨(nH X).toArray⟩:ByteArray).size=(nH X).length:=rfl
  have hS:=yX (s:=⟨(nH X).toArray⟩) (by rw[hz]; omega)
  rw[hb]at hS
  have hd:(yV (nH X)).size=32:=by
   rw[fT]; simp[yV,pJ,M6]
  have d:decide (((((⟨(nH X).toArray⟩:ByteArray).size+(yV (nH X)).size:Nat)):Int)>IntKind.i64.max)=false:=aM (by
   have:IntKind.i64.max=9223372036854775807:=rfl
   rw[hz,hd]; omega)
  simp only[if_true,bne_self_eq_false,aG,hS,d]
end Go.Pl
namespace Go.Pl
open Go Go.Den Go.Num
open Go.IntKind (i64 u64 u32 u8)
theorem a0X {γ:Type}(d:γ) {L M:List γ}(h:L.length=M.length)(e: ∀i,i<L.length→L.getD i d=M.getD i d):L=M:=by
 apply List.ext_getElem h
 intro i h1 h2
 have:=e i h1
 rw[List.getD_eq_getElem?_getD,List.getD_eq_getElem?_getD,List.getElem?_eq_getElem h1,List.getElem?_eq_getElem h2]at this
 exact this
theorem zf {X Y γ:Type} [DecidableEq γ] {R:X→Option (X⊕Y)}(st:Nat→X)(no yes:Y)(L M:List γ)(d:γ)(h:L.length=M.length)
  (hstep: ∀j,j<L.length→R (st j)=if L.getD j d=M.getD j d then some (.inl (st (j+1)))else some (.inr no)) (hend:R (st L.length)=some (.inr yes)):
  aj R (st 0)=some (if L=M then yes else no):=by
 obtain⟨y,h1,h2⟩:=gK (R:=R) (S:=Unit) (fun j _=>st j) (fun j _=> ∀i,i<j→L.getD i d=M.getD i d) (fun y=>y=if L=M then yes else no) L.length
  (fun j hj _ hp=>by
   have hs:=hstep j hj
   by_cases c:L.getD j d=M.getD j d
   ·rw[if_pos c]at hs
    left
    refine⟨(),hs,fun i hi=>?_⟩
    by_cases e:i=j
    ·subst e; exact c
    ·exact hp i (by omega)
   ·rw[if_neg c]at hs
    right
    refine⟨no,hs,?_⟩
    rw[if_neg (fun e=>c (by rw[e]))])
  (fun _ hp=>⟨yes,hend,by rw[if_pos (a0X d h hp)]⟩) () (fun i hi=>absurd hi (Nat.not_lt_zero _))
 rw[←h2]; exact h1
theorem Jw {na nb:Nat} {a b:Nat→NI} {L M:List Nat}(ha:yc na a L)(hb:yc nb b M)(h63:na<9223372036854775808):FT na a nb b=some (decide (L=M)):=by
 have la:=ha.1; have lb:=hb.1
 rw[Oa]; unfold Hw
 by_cases c:na=nb
 ·subst c
  have h1:=zf (R:=jd) (fun j=>yI na a na b (j:Int)) (QO false) QS L M 0 (by omega)
   (fun j hj=>by
    have e:=(ha.2 j (by omega)).eqb (hb.2 j (by omega))
    by_cases c:L.getD j 0=M.getD j 0
    ·rw[if_pos c]
     rw[decide_eq_true c]at e
     simp(disch:=omega) only[jd,yI,WW,CC,e,Bool.not_true]
    ·rw[if_neg c]
     rw[decide_eq_false c]at e
     simp(disch:=omega) only[jd,yI,WW,CC,e,Bool.not_false])
   (by simp(disch:=omega) only[jd,yI,WW])
  have h1':aj jd (((na,a),((na,b),(0,()))),())=some _:=h1
  simp only[bne_self_eq_false,aG,h1']
  by_cases e:L=M
  ·rw[if_pos e,decide_eq_true e]
  ·rw[if_neg e,decide_eq_false e]
 ·have e:L≠M:=fun e=>c (by rw[←la,←lb,e])
  have d:(((na:Nat):Int) !=((nb:Nat):Int))=true:=by rw[bne_iff_ne]; omega
  rw[d,aJ,decide_eq_false e]
end Go.Pl
namespace Go.Pl
open Go Go.Den Go.Num
open Go.IntKind (i64 u64 u32 u8)
theorem xZ.row {n:Nat} {m:Nat→SlV (Nat→Int)} {M:List (List Nat)}(h:xZ n m M) {i:Nat}(hi:i<n):yc (m i).len (SlV.fn (fun _=>0) (m i)) (M.getD i []):=⟨(h.len i hi).symm,fun j hj=>h.is i hi j hj⟩
theorem TH {na nb:Nat} {a b:Nat→SlV (Nat→Int)} {L M:List (List Nat)}(ha:xZ na a L)(hb:xZ nb b M)(h63:na<9223372036854775808)(r63: ∀i,i<na→(a i).len<9223372036854775808):Ll na a nb b=some (decide (L=M)):=by
 have la:=ha.sz; have lb:=hb.sz
 rw[Oj]; unfold HZ
 by_cases c:na=nb
 ·subst c
  have h1:=zf (R:=jg) (fun j=>yT na a na b (j:Int)) (R9 false) Ra L M [] (by omega)
   (fun j hj=>by
    have e:=Jw (ha.row (i:=j) (by omega)) (hb.row (i:=j) (by omega)) (r63 j (by omega))
    have m1:=ha.ms j (by omega); have m2:=hb.ms j (by omega)
    by_cases c:L.getD j []=M.getD j []
    ·rw[if_pos c]
     rw[decide_eq_true c]at e
     simp(disch:=omega) only[jg,yT,WW,CC,m1,m2,e,Bool.not_true]
    ·rw[if_neg c]
     rw[decide_eq_false c]at e
     simp(disch:=omega) only[jg,yT,WW,CC,m1,m2,e,Bool.not_false])
   (by simp(disch:=omega) only[jg,yT,WW])
  have h1':aj jg (((na,a),((na,b),(0,()))),())=some _:=h1
  simp only[bne_self_eq_false,aG,h1']
  by_cases e:L=M
  ·rw[if_pos e,decide_eq_true e]
  ·rw[if_neg e,decide_eq_false e]
 ·have e:L≠M:=fun e=>c (by rw[la,lb,e])
  have d:(((na:Nat):Int) !=((nb:Nat):Int))=true:=by rw[bne_iff_ne]; omega
  rw[d,aJ,decide_eq_false e]
theorem a0Y(s t:ByteArray):sEq s t=decide (bl s=bl t):=by
 by_cases h:bl s=bl t
 ·rw[decide_eq_true h]; exact a9m h
 ·rw[decide_eq_false h,←Bool.not_eq_true,nC]; exact h
theorem a9O(X Y:vM):(bif decide (X.seq=Y.seq∧X.cli=Y.cli)then bif decide (X.dig=Y.dig)then bif decide (X.mat=Y.mat)then bif decide (X.ys=Y.ys)then some (decide (X.op=Y.op))else some false else some false else some false else some false)=some (decide (X=Y)):=by
 obtain⟨a,b,c,d,e,f⟩:=X
 obtain⟨a',b',c',d',e',f'⟩:=Y
 simp only[vM.mk.injEq]
 by_cases h1:a=a'<;>by_cases h2:b=b'<;>by_cases h3:c=c'<;>by_cases h4:d=d'<;>by_cases h5:e=e'<;>simp[h1,h2,h3,h4,h5]
theorem aaD {x y:VO} {X Y:qo}(hx:P8 x X)(hy:P8 y Y):eqF (.pair (.int .i64) (.pair (.pair (.int .i64) (.int .i64)) .str)) x y=decide (X=Y):=by
 show((x.1==y.1)&&(((x.2.1.1==y.2.1.1)&&(x.2.1.2==y.2.1.2))&&sEq x.2.2 y.2.2))=_
 rw[hx.srv,hx.seq,hx.cli,a0Y,hx.dig,hy.srv,hy.seq,hy.cli,hy.dig]
 obtain⟨a,b,c,d⟩:=X
 obtain⟨a',b',c',d'⟩:=Y
 simp only[qo.mk.injEq]
 by_cases h1:a=a'<;>by_cases h2:b=b'<;>by_cases h3:c=c'<;>by_cases h4:d=d'<;>simp[h1,h2,h3,h4]
def acI(x:GA):Prop:= ∀i,i<x.2.2.1.1→(x.2.2.1.2 i).len<9223372036854775808
theorem Sq {x y:GA} {X Y:vM}(hx:RY x X)(hy:RY y Y)(h:acI x):jy x y=some (decide (X=Y)):=by
 have e0:eqF (.pair (.int .i64) (.int .i64)) x.1 y.1=decide (X.seq=Y.seq∧X.cli=Y.cli):=by
  show((x.1.1==y.1.1)&&(x.1.2==y.1.2))=_
  rw[hx.seq,hx.cli,hy.seq,hy.cli]
  by_cases a:X.seq=Y.seq<;>by_cases b:X.cli=Y.cli<;>simp[a,b]
 have e1:sEq x.2.1 y.2.1=decide (X.dig=Y.dig):=by rw[a0Y,hx.dig,hy.dig]
 have e2:=TH hx.mat hy.mat hx.m63 h
 have e3:=Jw hx.ys hy.ys hx.y63
 have e4:(x.2.2.2.2==y.2.2.2.2)=decide (X.op=Y.op):=by
  rw[hx.op,hy.op]; by_cases a:X.op=Y.op<;>simp[a]
 rw[CU]; unfold u6
 simp only[e0,e1,e2,e3,e4]
 exact a9O X Y
theorem GU {na nb:Nat} {a b:Nat→VO} {L M:List qo}(ha:BR P8 na a L v0)(hb:BR P8 nb b M v0):qG na a nb b=some (decide (L=M)):=by
 have la:=ha.sz; have lb:=hb.sz; have l63:=ha.l63
 rw[CV]; unfold uf
 by_cases c:na=nb
 ·subst c
  have h1:=zf (R:=dN) (fun j=>oF na a na b (j:Int)) (Iu false) Iw L M v0 (by omega)
   (fun j hj=>by
    have e:=aaD (ha.is j (by omega)) (hb.is j (by omega))
    by_cases c:L.getD j v0=M.getD j v0
    ·rw[if_pos c]
     rw[decide_eq_true c]at e
     simp(disch:=omega) only[dN,oF,WW,CC,e,Bool.not_true]
    ·rw[if_neg c]
     rw[decide_eq_false c]at e
     simp(disch:=omega) only[dN,oF,WW,CC,e,Bool.not_false])
   (by rw[←la]; simp(disch:=omega) only[dN,oF,WW])
  have h1':aj dN (((na,a),((na,b),(0,()))),())=some _:=h1
  simp only[bne_self_eq_false,aG,h1']
  by_cases e:L=M
  ·rw[if_pos e,decide_eq_true e]
  ·rw[if_neg e,decide_eq_false e]
 ·have e:L≠M:=fun e=>c (by rw[la,lb,e])
  have d:(((na:Nat):Int) !=((nb:Nat):Int))=true:=by rw[bne_iff_ne]; omega
  rw[d,aJ,decide_eq_false e]
theorem a3u {x:GA} {X:vM}(hx:RY x X)(ho:wm X=true):acI x:=by
 intro i hi
 unfold wm at ho
 simp only[Bool.and_eq_true]at ho
 have hg:=ho.2.2.2.1.1
 rw[hx.mat.len i hi]
 unfold VD at hg
 rw[Bool.not_eq_true',Bool.and_eq_false_iff]at hg
 have hl:=hx.mat.sz
 rcases hg with hg|hg
 ·exact absurd (of_decide_eq_false hg) (by omega)
 ·have h2:=of_decide_eq_false hg
  unfold fG at h2
  by_cases c:ql X.mat=true
  ·obtain⟨_,g⟩:=of_decide_eq_true c
   have:=(g i (by omega)).2.2
   omega
  ·rw[if_neg c]at h2; exact absurd rfl h2
end Go.Pl
namespace Go.Pl
open Go Go.Den Go.Num
open Go.IntKind (i64 u64 u32 u8)
def aaE(x:RE):RA:=(x.1,(a3l x.2.1,((x.2.2.1.len,SlV.fn zV x.2.2.1),((x.2.2.2.1.len,SlV.fn zV x.2.2.2.1),(x.2.2.2.2.len,SlV.fn zT x.2.2.2.2)))))
theorem PZ {x y:GI} {X Y:vM}(hx:TA x X)(hy:TA y Y)(ho:wm X=true):
  jy (x.1,(x.2.1,(((SlV.len x.2.2.1),(SlV.fn (.nil:(SlV NI)) x.2.2.1)),(((SlV.len x.2.2.2.1),(SlV.fn ((fun _=>0):NI) x.2.2.2.1)),x.2.2.2.2)))) (y.1,(y.2.1,(((SlV.len y.2.2.1),(SlV.fn (.nil:(SlV NI)) y.2.2.1)),(((SlV.len y.2.2.2.1),(SlV.fn ((fun _=>0):NI) y.2.2.2.1)),y.2.2.2.2))))=some (decide (X=Y)):=
 Sq (x:=a3l x) (y:=a3l y) hx.ga hy.ga (a3u hx.ga ho)
theorem aaF(X Y:Aa):X=Y↔X.e=Y.e∧X.o=Y.o∧X.w=Y.w∧X.op=Y.op∧X.left=Y.left:=by
 cases X; cases Y; simp only[Aa.mk.injEq]
theorem Ik(a b:Int):(a !=b)= !decide (a=b):=by
 by_cases h:a=b<;>simp[h]
theorem Zk {α:Type} {p:α→Bool} {L:List α}(h:L.all p=true) {i:Nat}(hi:i<L.length)(d:α):p (L.getD i d)=true:=by
 rw[List.all_eq_true]at h
 rw[List.getD_eq_getElem?_getD,List.getElem?_eq_getElem hi]
 exact h _ (List.getElem_mem hi)
theorem Pd {x y:RE} {X Y:Ma}(hx:S9 x X)(hy:S9 y Y)(ho:Ul X=true):ug (aaE x) (aaE y)=some (decide (X=Y)):=by
 unfold Ul at ho
 simp only[Bool.and_eq_true]at ho
 obtain⟨_,og,_,_,_,oc⟩:=ho
 have e1:sEq x.1 y.1=decide (X.key=Y.key):=by rw[a0Y,hx.key,hy.key]
 have e2:=PZ hx.held hy.held og
 have e3:=GU hx.e hy.e
 have e4:=GU hx.d hy.d
 have lx:=hx.c.sz; have ly:=hy.c.sz; have l63:=hx.c.l63
 have fin:X=Y↔X.key=Y.key∧X.held=Y.held∧X.ech=Y.ech∧X.rdy=Y.rdy∧X.cls=Y.cls:=by
  cases X; cases Y; simp only[Ma.mk.injEq]
 rw[Bf]; unfold qU
 simp only[aaE,a3l,e1,e2,e3,e4]
 by_cases c1:X.key=Y.key
 rotate_left
 ·rw[decide_eq_false c1,decide_eq_false (fun h=>c1 (fin.1 h).1)]; rfl
 by_cases c2:X.held=Y.held
 rotate_left
 ·rw[decide_eq_true c1,decide_eq_false c2,decide_eq_false (fun h=>c2 (fin.1 h).2.1)]; rfl
 by_cases c3:X.ech=Y.ech
 rotate_left
 ·rw[decide_eq_true c1,decide_eq_true c2,decide_eq_false c3,decide_eq_false (fun h=>c3 (fin.1 h).2.2.1)]; rfl
 by_cases c4:X.rdy=Y.rdy
 rotate_left
 ·rw[decide_eq_true c1,decide_eq_true c2,decide_eq_true c3,decide_eq_false c4,decide_eq_false (fun h=>c4 (fin.1 h).2.2.2.1)]; rfl
 simp only[decide_eq_true c1,decide_eq_true c2,decide_eq_true c3,decide_eq_true c4,Bool.not_true,aG]
 have fin2:X=Y↔X.cls=Y.cls:=⟨fun h=>(fin.1 h).2.2.2.2,fun h=>fin.2 ⟨c1,c2,c3,c4,h⟩⟩
 by_cases c:SlV.len x.2.2.2.2=SlV.len y.2.2.2.2
 ·have h1:=zf (R:=fE) (fun j=>mW (j:Int) x.1 x.2.1.1 x.2.1.2.1 (SlV.len x.2.1.2.2.1) (SlV.fn .nil x.2.1.2.2.1) (SlV.len x.2.1.2.2.2.1) (SlV.fn (fun _=>0) x.2.1.2.2.2.1) x.2.1.2.2.2.2 (SlV.len x.2.2.1) (SlV.fn zV x.2.2.1) (SlV.len x.2.2.2.1) (SlV.fn zV x.2.2.2.1) (SlV.len x.2.2.2.2) (SlV.fn zT x.2.2.2.2)
    y.1 y.2.1.1 y.2.1.2.1 (SlV.len y.2.1.2.2.1) (SlV.fn .nil y.2.1.2.2.1) (SlV.len y.2.1.2.2.2.1) (SlV.fn (fun _=>0) y.2.1.2.2.2.1) y.2.1.2.2.2.2 (SlV.len y.2.2.1) (SlV.fn zV y.2.2.1) (SlV.len y.2.2.2.1) (SlV.fn zV y.2.2.2.1) (SlV.len y.2.2.2.2) (SlV.fn zT y.2.2.2.2)) (Gp false) Gq X.cls Y.cls t0 (by omega)
   (fun j hj=>by
    have tx:=hx.c.is j (by omega); have ty:=hy.c.is j (by omega)
    have ok:=Zk oc hj t0
    unfold Sg at ok
    simp only[Bool.and_eq_true]at ok
    have s1:=PZ tx.e ty.e ok.1
    have s2:=PZ tx.o ty.o ok.2.1
    have s3:=PZ tx.w ty.w ok.2.2.1
    have m1:=tx.e.m0; have m2:=tx.e.y0; have m3:=tx.o.m0; have m4:=tx.o.y0; have m5:=tx.w.m0; have m6:=tx.w.y0
    have n1:=ty.e.m0; have n2:=ty.e.y0; have n3:=ty.o.m0; have n4:=ty.o.y0; have n5:=ty.w.m0; have n6:=ty.w.y0
    have o1:((SlV.fn zT x.2.2.2.2 j).2.2.2.1 !=(SlV.fn zT y.2.2.2.2 j).2.2.2.1)= !decide ((X.cls.getD j t0).op=(Y.cls.getD j t0).op):=by rw[Ik,tx.op,ty.op]
    have o2:((SlV.fn zT x.2.2.2.2 j).2.2.2.2 !=(SlV.fn zT y.2.2.2.2 j).2.2.2.2)= !decide ((X.cls.getD j t0).left=(Y.cls.getD j t0).left):=by rw[Ik,tx.left,ty.left]
    have te:=aaF (X.cls.getD j t0) (Y.cls.getD j t0)
    simp(disch:=omega) only[fE,mW,WW,CC,m1,m2,m3,m4,m5,m6,n1,n2,n3,n4,n5,n6,s1,s2,s3,o1,o2,Bool.not_not]
    by_cases k1:(X.cls.getD j t0).e=(Y.cls.getD j t0).e
    rotate_left
    ·rw[if_neg (fun h=>k1 (te.1 h).1),decide_eq_false k1]; rfl
    by_cases k2:(X.cls.getD j t0).o=(Y.cls.getD j t0).o
    rotate_left
    ·rw[if_neg (fun h=>k2 (te.1 h).2.1),decide_eq_true k1,decide_eq_false k2]; rfl
    by_cases k3:(X.cls.getD j t0).w=(Y.cls.getD j t0).w
    rotate_left
    ·rw[if_neg (fun h=>k3 (te.1 h).2.2.1),decide_eq_true k1,decide_eq_true k2,decide_eq_false k3]; rfl
    by_cases k4:(X.cls.getD j t0).op=(Y.cls.getD j t0).op
    rotate_left
    ·rw[if_neg (fun h=>k4 (te.1 h).2.2.2.1),decide_eq_true k1,decide_eq_true k2,decide_eq_true k3,decide_eq_false k4]; rfl
    by_cases k5:(X.cls.getD j t0).left=(Y.cls.getD j t0).left
    rotate_left
    ·rw[if_neg (fun h=>k5 (te.1 h).2.2.2.2),decide_eq_true k1,decide_eq_true k2,decide_eq_true k3,decide_eq_true k4,decide_eq_false k5]; rfl
    ·rw[if_pos (te.2 ⟨k1,k2,k3,k4,k5⟩),decide_eq_true k1,decide_eq_true k2,decide_eq_true k3,decide_eq_true k4,decide_eq_true k5]; rfl)
   (by rw[←lx]; simp(disch:=omega) only[fE,mW,WW])
  simp only[mW,Int.natCast_zero,show((0:Nat):Int)=0 from rfl]at h1
  simp only[c,bne_self_eq_false,aG]
  rw[c]at h1
  simp only[h1]
  by_cases e:X.cls=Y.cls
  ·rw[if_pos e,decide_eq_true (fin2.2 e)]
  ·rw[if_neg e,decide_eq_false (fun h=>e (fin2.1 h))]
 ·have e:X≠Y:=fun e=>c (by rw[lx,ly,e])
  have d:(((SlV.len x.2.2.2.2:Nat):Int) !=((SlV.len y.2.2.2.2:Nat):Int))=true:=by rw[bne_iff_ne]; omega
  simp only[d,aJ,decide_eq_false e]
end Go.Pl
namespace Go.Pl
open Go Go.Den Go.Num
open Go.IntKind (i64 u64 u32 u8)
theorem TJ {x y:IM} {X Y:vN}(hx:Mc x X)(hy:Mc y Y)(ho:uH X=true):bV x y=some (decide (X=Y)):=by
 unfold uH at ho
 simp only[Bool.and_eq_true]at ho
 obtain⟨_,_,_,_,_,oc⟩:=ho
 have ux:=hx.used.sz; have uy:=hy.used.sz; have u63:=hx.used.l63
 have rx:=hx.recs.sz; have ry:=hy.recs.sz; have r63:=hx.recs.l63
 have fin:X=Y↔X.t=Y.t∧X.num=Y.num∧X.cls=Y.cls∧X.used=Y.used∧X.recs=Y.recs:=by
  cases X; cases Y; simp only[vN.mk.injEq]
 have e1:(x.1 !=y.1)= !decide (X.t=Y.t):=by rw[Ik,hx.t,hy.t]
 have e2:(x.2.1 !=y.2.1)= !decide (X.num=Y.num):=by rw[Ik,hx.num,hy.num]
 have e3:(x.2.2.1 !=y.2.2.1)= !decide (X.cls=Y.cls):=by rw[Ik,hx.cls,hy.cls]
 rw[Gs]; unfold CW
 simp only[e1,e2,e3]
 by_cases c1:X.t=Y.t
 rotate_left
 ·rw[decide_eq_false c1,decide_eq_false (fun h=>c1 (fin.1 h).1)]; rfl
 by_cases c2:X.num=Y.num
 rotate_left
 ·rw[decide_eq_true c1,decide_eq_false c2,decide_eq_false (fun h=>c2 (fin.1 h).2.1)]; rfl
 by_cases c3:X.cls=Y.cls
 rotate_left
 ·rw[decide_eq_true c1,decide_eq_true c2,decide_eq_false c3,decide_eq_false (fun h=>c3 (fin.1 h).2.2.1)]; rfl
 simp only[decide_eq_true c1,decide_eq_true c2,decide_eq_true c3,Bool.not_true,aG]
 by_cases d1:x.2.2.2.1.1=y.2.2.2.1.1
 rotate_left
 ·have d:(((x.2.2.2.1.1:Nat):Int) !=((y.2.2.2.1.1:Nat):Int))=true:=by rw[bne_iff_ne]; omega
  rw[d,aJ,decide_eq_false (fun h=>d1 (by rw[ux,uy,h]))]
 by_cases d2:x.2.2.2.2.1=y.2.2.2.2.1
 rotate_left
 ·have d:(((x.2.2.2.2.1:Nat):Int) !=((y.2.2.2.2.1:Nat):Int))=true:=by rw[bne_iff_ne]; omega
  rw[d,aJ,decide_eq_false (fun h=>d2 (by rw[rx,ry,h]))]
  cases(((x.2.2.2.1.1:Nat):Int) !=((y.2.2.2.1.1:Nat):Int))<;>rfl
 have h1:=zf (R:=fD) (fun j=>kM (j:Int) x.1 x.2.1 x.2.2.1 x.2.2.2.1.1 x.2.2.2.1.2 x.2.2.2.2.1 x.2.2.2.2.2 y.1 y.2.1 y.2.2.1 y.2.2.2.1.1 y.2.2.2.1.2 y.2.2.2.2.1 y.2.2.2.2.2) (Gr false)
  (uh x.1 x.2.1 x.2.2.1 x.2.2.2.1.1 x.2.2.2.1.2 x.2.2.2.2.1 x.2.2.2.2.2 y.1 y.2.1 y.2.2.1 y.2.2.2.1.1 y.2.2.2.1.2 y.2.2.2.2.1 y.2.2.2.2.2) X.used Y.used 0 (by omega)
  (fun j hj=>by
   have e:=hx.used.is j (by omega); have f:=hy.used.is j (by omega)
   have g:(x.2.2.2.1.2 j !=y.2.2.2.1.2 j)= !decide (X.used.getD j 0=Y.used.getD j 0):=by rw[Ik,e,f]
   by_cases c:X.used.getD j 0=Y.used.getD j 0
   ·rw[if_pos c]
    rw[decide_eq_true c]at g
    simp(disch:=omega) only[fD,kM,WW,CC,g,Bool.not_true]
   ·rw[if_neg c]
    rw[decide_eq_false c]at g
    simp(disch:=omega) only[fD,kM,WW,CC,g,Bool.not_false])
  (by rw[←ux]; simp(disch:=omega) only[fD,kM,WW])
 have h2:=zf (R:=gF) (fun j=>mX (j:Int) x.1 x.2.1 x.2.2.1 x.2.2.2.1.1 x.2.2.2.1.2 x.2.2.2.2.1 x.2.2.2.2.2 y.1 y.2.1 y.2.2.1 y.2.2.2.1.1 y.2.2.2.1.2 y.2.2.2.2.1 y.2.2.2.2.2) (Rh false) zP X.recs Y.recs r0 (by omega)
  (fun j hj=>by
   have e:=hx.recs.is j (by omega); have f:=hy.recs.is j (by omega)
   have g:=Pd e f (Zk oc hj r0)
   simp only[aaE,a3l]at g
   have m1:=e.held.m0; have m2:=e.held.y0; have m3:=e.e0; have m4:=e.d0; have m5:=e.c0
   have n1:=f.held.m0; have n2:=f.held.y0; have n3:=f.e0; have n4:=f.d0; have n5:=f.c0
   by_cases c:X.recs.getD j r0=Y.recs.getD j r0
   ·rw[if_pos c]
    rw[decide_eq_true c]at g
    simp(disch:=omega) only[gF,mX,WW,CC,m1,m2,m3,m4,m5,n1,n2,n3,n4,n5,g,Bool.not_true]
   ·rw[if_neg c]
    rw[decide_eq_false c]at g
    simp(disch:=omega) only[gF,mX,WW,CC,m1,m2,m3,m4,m5,n1,n2,n3,n4,n5,g,Bool.not_false])
  (by rw[←rx]; simp(disch:=omega) only[gF,mX,WW])
 simp only[kM,mX,show((0:Nat):Int)=0 from rfl]at h1 h2
 simp only[d1,d2,bne_self_eq_false,aG]at h1 h2⊢
 simp only[h1]
 by_cases e:X.used=Y.used
 ·simp only[if_pos e,uh,h2]
  by_cases e2:X.recs=Y.recs
  ·rw[if_pos e2,decide_eq_true (fin.2 ⟨c1,c2,c3,e,e2⟩)]
  ·rw[if_neg e2,decide_eq_false (fun h=>e2 (fin.1 h).2.2.2.2)]
 ·simp only[if_neg e,Gr]
  rw[decide_eq_false (fun h=>e (fin.1 h).2.2.2.1)]
end Go.Pl
namespace Go.Pl
open Go Go.Den Go.Num
noncomputable def nv(a:Nat→Int):Nat:=by
 classical exact if h: ∃n,IsN a n then h.choose else 0
theorem acJ {a:Nat→Int}(h:Go.Den.Good (.arr 4 (.int .u64)) a):IsN a (nv a):=by
 have e:=a9e h
 unfold nv
 rw[dif_pos e]
 exact e.choose_spec
def lst {α β:Type}(n:Nat)(f:Nat→α)(g:α→β):List β:=(List.range n).map fun i=>g (f i)
theorem yZ {α β:Type}(n:Nat)(f:Nat→α)(g:α→β):(lst n f g).length=n:=by simp[lst]
theorem Q0 {α β:Type} {n:Nat}(f:Nat→α)(g:α→β) {i:Nat}(hi:i<n)(d:β):(lst n f g).getD i d=g (f i):=by
 simp[lst,List.getD_eq_getElem?_getD,List.getElem?_eq_getElem,hi]
theorem Er {α β:Type} {n:Nat} {f:Nat→α} {g:α→β} {y:β}(h:y∈lst n f g): ∃i,i<n∧y=g (f i):=by
 simp only[lst,List.mem_map,List.mem_range]at h
 obtain⟨i,hi,rfl⟩:=h
 exact⟨i,hi,rfl⟩
noncomputable def a0Z(r:SlV (Nat→Int)):List Nat:=lst r.len (SlV.fn (fun _=>0) r) nv
noncomputable def a9P(m:SlV (SlV (Nat→Int))):List (List Nat):=lst m.len (SlV.fn .nil m) a0Z
noncomputable def gvS(x:GI):vM:=⟨x.1.1,x.1.2,bl x.2.1,a9P x.2.2.1,a0Z x.2.2.2.1,x.2.2.2.2⟩
def voS(x:VO):qo:=⟨x.1,x.2.1.1,x.2.1.2,bl x.2.2⟩
noncomputable def toS(x:TO):Aa:=⟨gvS x.1,gvS x.2.1,gvS x.2.2.1,x.2.2.2.1,x.2.2.2.2⟩
noncomputable def reS(x:RE):Ma:=⟨bl x.1,gvS x.2.1,lst x.2.2.1.len (SlV.fn zV x.2.2.1) voS,lst x.2.2.2.1.len (SlV.fn zV x.2.2.2.1) voS,lst x.2.2.2.2.len (SlV.fn zT x.2.2.2.2) toS⟩
noncomputable def imS(x:IM):vN:=⟨x.1,x.2.1,x.2.2.1,lst x.2.2.2.1.1 x.2.2.2.1.2 id,lst x.2.2.2.2.1 x.2.2.2.2.2 reS⟩
theorem Mq {r:SlV (Nat→Int)}(h:Go.Den.Good (.sl (.arr 4 (.int .u64))) r):r.isMs=false∧r.len<9223372036854775808∧yc r.len (SlV.fn (fun _=>0) r) (a0Z r)∧ ∀y∈a0Z r,y<2^256:=by
 obtain⟨a,b,c⟩:=qX (t:=.arr 4 (.int .u64)) h (fun _=>(0:Int))
 refine⟨a,b,⟨yZ _ _ _,fun j hj=>?_⟩,fun n hn=>?_⟩
 ·rw[a0Z,Q0 _ _ hj]; exact acJ (c j hj)
 ·obtain⟨j,hj,rfl⟩:=Er hn
  exact(acJ (c j hj)).lt
theorem aaG {m:SlV (SlV (Nat→Int))}(h:Go.Den.Good (.sl (.sl (.arr 4 (.int .u64)))) m):m.isMs=false∧m.len<9223372036854775808∧xZ m.len (SlV.fn .nil m) (a9P m)∧a1A (a9P m):=by
 obtain⟨a,b,c⟩:=qX (t:=.sl (.arr 4 (.int .u64))) h .nil
 refine⟨a,b,⟨(yZ _ _ _).symm,fun i hi=>(Mq (c i hi)).1,fun i hi=>?_,fun i hi j hj=>?_⟩,fun R hR=>?_⟩
 ·rw[a9P,Q0 _ _ hi]; exact(Mq (c i hi)).2.2.1.1.symm
 ·rw[a9P,Q0 _ _ hi]; exact(Mq (c i hi)).2.2.1.2 j hj
 ·obtain⟨i,hi,rfl⟩:=Er hR
  exact(Mq (c i hi)).2.2.2
theorem Es {x:GI}(h:Go.Den.Good a11 x):TA x (gvS x)∧Ii (gvS x):=by
 obtain⟨_,_,h1,h2,_⟩:=h
 obtain⟨a,b,c,d⟩:=aaG h1
 obtain⟨a',b',c',d'⟩:=Mq h2
 exact⟨⟨a,a',rfl,rfl,rfl,c,c',rfl,b,b'⟩,trivial,trivial,trivial,d,d',trivial⟩
theorem a9Q {x:TO}(h:Go.Den.Good Zp x):a0T x (toS x)∧a0V (toS x):=
 ⟨⟨(Es h.1).1,(Es h.2.1).1,(Es h.2.2.1).1,rfl,rfl⟩,(Es h.1).2,(Es h.2.1).2,(Es h.2.2.1).2,trivial,trivial⟩
theorem Zl {α β:Type} {R:α→β→Prop} {n:Nat} {f:Nat→α} {g:α→β} {d:β}(hn:n<9223372036854775808)(h: ∀i,i<n→R (f i) (g (f i))):BR R n f (lst n f g) d:=
 ⟨(yZ _ _ _).symm,fun i hi=>by rw[Q0 _ _ hi]; exact h i hi,by rw[yZ]; exact hn⟩
theorem a9R {x:RE}(h:Go.Den.Good a13 x):S9 x (reS x)∧a9F (reS x):=by
 obtain⟨_,h0,h1,h2,h3⟩:=h
 obtain⟨a,b,_⟩:=qX (t:=Ut) h1 zV
 obtain⟨a',b',_⟩:=qX (t:=Ut) h2 zV
 obtain⟨a2,b2,c2⟩:=qX (t:=Zp) h3 zT
 refine⟨⟨rfl,(Es h0).1,a,a',a2,Zl b fun i hi=>⟨rfl,rfl,rfl,rfl⟩,Zl b' fun i hi=>⟨rfl,rfl,rfl,rfl⟩,Zl b2 fun i hi=>(a9Q (c2 i hi)).1⟩,trivial,(Es h0).2,fun _ _=>⟨trivial,trivial,trivial,trivial⟩,fun _ _=>⟨trivial,trivial,trivial,trivial⟩,?_⟩
 intro c hc
 obtain⟨i,hi,rfl⟩:=Er hc
 exact(a9Q (c2 i hi)).2
theorem ahr {x:IM}(h1:x.2.2.2.1.1<9223372036854775808)(h2:x.2.2.2.2.1<9223372036854775808)(h: ∀i,i<x.2.2.2.2.1→Go.Den.Good a13 (x.2.2.2.2.2 i)):Mc x (imS x)∧a1C (imS x):=by
 refine⟨⟨rfl,rfl,rfl,Zl h1 fun i hi=>rfl,Zl h2 fun i hi=>(a9R (h i hi)).1⟩,trivial,trivial,trivial,fun _ _=>trivial,?_⟩
 intro r hr
 obtain⟨i,hi,rfl⟩:=Er hr
 exact(a9R (h i hi)).2
theorem Bq {α:Type}(f:α→List UInt8)(b:Nat): ∀(L:List α),(∀x∈L,(f x).length≤b)→(L.flatMap f).length≤L.length*b
 | [],_=>by simp
 |x::L,h=>by
  have h1:=h x (List.mem_cons_self ..)
  have h2:=Bq f b L fun y hy=>h y (List.mem_cons_of_mem _ hy)
  rw[List.flatMap_cons,List.length_append,List.length_cons,Nat.add_mul]; omega
theorem Il(s:List UInt8):(D9 s).length=2+s.length:=by simp[D9,eZ]
theorem aaH {M:List (List Nat)}(h:a1A M):(fG M).length≤5777:=by
 unfold fG
 by_cases c:ql M=true
 ·rw[if_pos c]
  obtain⟨⟨_,g2⟩,g3⟩:=of_decide_eq_true c
  have h1:=Bq xP 231 M fun R hR=>by
   obtain⟨i,hi,rfl⟩:=List.getElem_of_mem hR
   have g:=(g3 i hi).2.2
   rw[List.getD_eq_getElem?_getD,List.getElem?_eq_getElem hi]at g
   have:=Bq K4 33 M[i] fun n hn=>by rw[Z9]; have:=GJ (h _ hR n hn); omega
   have e:xP M[i]=M[i].flatMap K4:=rfl
   simp only[Option.getD_some]at g
   rw[e]; omega
  simp only[List.length_cons]; omega
 ·rw[if_neg c]; simp
theorem Im {x:GI}(h:Go.Den.Good a11 x)(f:Sv x):(qx (gvS x)).length≤6100:=by
 obtain⟨_,_,_,_,w1,w2,_⟩:=Es h
 have h1:=aaH w1
 have h2:(gvS x).ys.length≤6:=by show(a0Z _).length≤6; rw[a0Z,yZ]; exact f.2
 have h3:=Bq (fun y=>D9 (be y)) 34 (gvS x).ys fun y hy=>by have:=GJ (w2 y hy); rw[Il,nW]; omega
 have h4:(gvS x).dig.length≤40:=f.1
 unfold qx
 simp only[List.length_append,eZ,Il]; omega
theorem Us {n:Nat} {f:Nat→VO}(hn:n≤20)(h: ∀k,k<n→(f k).2.2.size≤40):(GR (lst n f voS)).length≤1002:=by
 have h1:=Bq Uk 50 (lst n f voS) fun v hv=>by
  obtain⟨i,hi,rfl⟩:=Er hv
  have:(voS (f i)).dig.length≤40:=h i hi
  unfold Uk
  simp only[List.length_append,eZ,Il]; omega
 rw[yZ]at h1
 unfold GR
 simp only[List.length_append,eZ]; omega
theorem a9S {y:TO}(e1:(qx (gvS y.1)).length≤6100)(e2:(qx (gvS y.2.1)).length≤6100)(e3:(qx (gvS y.2.2.1)).length≤6100):(Sd (toS y)).length≤18308:=by
 have e:Sd (toS y)=qx (gvS y.1)++(qx (gvS y.2.1)++(qx (gvS y.2.2.1)++(nD 4 y.2.2.2.1++nD 4 y.2.2.2.2))):=rfl
 rw[e]
 simp only[List.length_append,eZ]; omega
theorem aaI {x:RE}(h:Go.Den.Good a13 x)(f:Sw x):(a0W (reS x)).length≤100000:=by
 obtain⟨_,h0,h1,h2,h3⟩:=h
 obtain⟨a2,b2,c2⟩:=qX (t:=Zp) h3 zT
 have k0:(reS x).key.length≤20:=f.k
 have k1:=Im h0 f.g
 have k2:=Us f.e f.e1
 have k3:=Us f.d f.d1
 have k4:=Bq Sd 18308 (reS x).cls fun c hc=>by
  obtain⟨i,hi,rfl⟩:=Er hc
  have f1:=f.c1 i hi
  exact a9S (Im (c2 i hi).1 f1.1) (Im (c2 i hi).2.1 f1.2.1) (Im (c2 i hi).2.2.1 f1.2.2)
 have k5:(reS x).cls.length≤5:=by show(lst _ _ _).length≤5; rw[yZ]; exact f.c
 have k1':(qx (reS x).held).length≤6100:=k1
 have k2':(GR (reS x).ech).length≤1002:=k2
 have k3':(GR (reS x).rdy).length≤1002:=k3
 unfold a0W
 simp only[List.length_append,eZ,Il]; omega
theorem aaJ {x:IM}(h: ∀i,i<x.2.2.2.2.1→Go.Den.Good a13 (x.2.2.2.2.2 i))(h1:x.2.2.2.1.1≤12)(h2:x.2.2.2.2.1≤3)(f: ∀k,k<x.2.2.2.2.1→Sw (x.2.2.2.2.2 k)):(nH (imS x)).length≤1000000:=by
 have k1:=Bq (nD 2) 2 (imS x).used fun _ _=>by rw[eZ]; exact Nat.le_refl _
 have k2:=Bq a0W 100000 (imS x).recs fun r hr=>by
  obtain⟨i,hi,rfl⟩:=Er hr
  exact aaI (h i hi) (f i hi)
 have k3:(imS x).used.length=x.2.2.2.1.1:=yZ _ _ _
 have k4:(imS x).recs.length=x.2.2.2.2.1:=yZ _ _ _
 unfold nH
 simp only[List.length_append,eZ]; omega
end Go.Pl
namespace Go.Pl
open Go Go.Den Go.Num
abbrev i0:vN:=⟨0,0,0,[],[]⟩
theorem acK:Mc zI i0:=⟨rfl,rfl,rfl,⟨rfl,fun i hi=>absurd hi (Nat.not_lt_zero _),by decide⟩,⟨rfl,fun i hi=>absurd hi (Nat.not_lt_zero _),by decide⟩⟩
theorem anC:uH i0=true:=by unfold uH; rfl
theorem Io {x y:IM} {X:vN}(hx:Mc x X)(hy:Mc y X)(ho:uH X=true):bV x y=some true:=by
 rw[TJ hx hy ho,decide_eq_true rfl]
def Rd(o:Option vN)(x:IM)(e:Int):Prop:=match o with
 |some X=>e=0∧Mc x X
 |none=>e=4∧x=zI
theorem Rd.same {o:Option vN} {x y:IM} {e f:Int}(hx:Rd o x e)(hy:Rd o y f)(ho: ∀X,o=some X→uH X=true):bV x y=some true∧e=f:=by
 cases o with
 |none=>
  obtain⟨rfl,rfl⟩:=hx; obtain⟨rfl,rfl⟩:=hy
  exact⟨Io acK acK anC,rfl⟩
 |some X=>
  obtain⟨rfl,h1⟩:=hx; obtain⟨rfl,h2⟩:=hy
  exact⟨Io h1 h2 (ho X rfl),rfl⟩
theorem a1I {l:List UInt8}(X:vN)(h:Da l=some X):uH X=true:=(Sj h).2
theorem aaK {l:List UInt8}(X:vN)(h:Mk l=some X):uH X=true:=by
 unfold Mk at h
 split at h
 ·exact absurd h (by simp)
 ·split at h
  ·exact a1I X h
  ·exact absurd h (by simp)
theorem VG(l:List UInt8):(bl (yV l)).length=32:=by simp[yV,pJ,M6]
theorem Zm {X:vN}(hg:uH X=true)(hw:a1C X):Mk (nH X++bl (yV (nH X)))=some X:=by
 have hl:=VG (nH X)
 have hn:(nH X++bl (yV (nH X))).length-32=(nH X).length:=by rw[List.length_append,hl]; omega
 unfold Mk
 rw[if_neg (by rw[List.length_append,hl]; omega),hn,List.take_left,List.drop_left,if_pos rfl,Um hg hw]
end Go.Pl
