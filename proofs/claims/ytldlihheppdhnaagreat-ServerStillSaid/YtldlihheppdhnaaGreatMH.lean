/-
 What the layer computes.
-/
import Derived.Test.YtldlihheppdhnaaGreatMF
import Derived.Test.YtldlihheppdhnaaGreatMK
import Derived.Test.YtldlihheppdhnaaGreatPlB
set_option linter.unusedVariables false
set_option linter.unusedSimpArgs false
namespace Go.Pl
open Go Go.Den Go.Num
section
variable {g:rA} {P Q G:Nat}
def uf(P Q G n:Nat)(c:Nat→Nat)(i:Int)(y:Nat):Prop:=(1≤i∧i≤7)∧y<Q∧Pb P Q n c∧G^y%P=atN P n c i.toNat
open Classical in
theorem NS(h:dF g P Q G) {n:Nat} {f:Nat→(Nat→Int)} {c:Nat→Nat}(hf: ∀j,j<n→IsN (f j) (c j)) {i:Int} {a:Nat→Int} {y:Nat}(ha:IsN a y):
  yO (some g) n f (i,a)=some (decide (uf P Q G n c i y)):=by
 rw[EP]; unfold wD
 have hI:=WU h ha
 have hM:=Fa h hf
 by_cases h1:1≤i
 ·by_cases h2:i≤7
  ·by_cases h3:y<Q
   ·by_cases h4:Pb P Q n c
    ·obtain⟨o,o1,o2⟩:=WV h ha
     obtain⟨z,z1,z2⟩:=V7 h h4.2.1 hf (i:=i.toNat) (by omega)
     rw[az9 (by omega)]at z1
     have e:decide (uf P Q G n c i y)=decide (G^y%P=atN P n c i.toNat):=by
      by_cases h5:G^y%P=atN P n c i.toNat
      ·rw[dM h5,dM (show uf P Q G n c i y from⟨⟨h1,h2⟩,h3,h4,h5⟩)]
      ·rw[bG h5,bG (fun hh=>h5 hh.2.2.2)]
     rw[dM h4]at hM
     simp(disch:=omega) only[WW,hI,hM,o1,z1,o2.eqb z2,e,h3]
    ·rw[bG h4]at hM
     rw[bG (p:=uf P Q G n c i y) (fun hh=>h4 hh.2.2.1)]
     simp(disch:=omega) only[WW,hI,hM,h3]
   ·rw[bG (p:=uf P Q G n c i y) (fun hh=>h3 hh.2.1)]
    simp(disch:=omega) only[WW,hI,h3]
  ·rw[bG (p:=uf P Q G n c i y) (fun hh=>h2 hh.1.2)]
   simp(disch:=omega) only[WW]
 ·rw[bG (p:=uf P Q G n c i y) (fun hh=>h1 hh.1.1)]
  simp(disch:=omega) only[WW]
def Pq(P Q:Nat)(t:Int)(M:List (List Nat)):Prop:=(1≤t∧t≤2)∧(1≤M.length∧M.length≤25)∧ ∀i,i<M.length→(((M.getD i []).length:Nat):Int)=t+1∧Pb P Q (M.getD i []).length (fun j=>(M.getD i []).getD j 0)
def ug(P Q G:Nat)(M:List (List Nat))(i:Int)(L:List Nat):Prop:=(1≤M.length∧M.length≤25)∧L.length=M.length∧ ∀k,k<M.length→uf P Q G (M.getD k []).length (fun j=>(M.getD k []).getD j 0) i (L.getD k 0)
open Classical in
theorem Rv(h:dF g P Q G) {t:Int}(ht:1≤t∧t≤2) {n:Nat} {m:Nat→SlV (Nat→Int)} {M:List (List Nat)}(hm:jg n m M)(hn:n<9223372036854775808):
  nK (some g) t n m=some (decide (Pq P Q t M)):=by
 rw[K5]; unfold AX
 have hb: ∀k,k<n→ ¬((((M.getD k []).length:Nat):Int)=t+1∧Pb P Q (M.getD k []).length (fun j=>(M.getD k []).getD j 0))→ ¬Pq P Q t M:=fun k hk hh hmm=>hh (hmm.2.2 k (by rw[←hm.sz]; exact hk))
 obtain⟨y,y1,y2⟩:=kH (R:=dQ) (S:=Unit) (fun k _=>jv n m (n:Int) (k:Int) g t)
  (fun k _=> ∀i,i<k→(((M.getD i []).length:Nat):Int)=t+1∧Pb P Q (M.getD i []).length (fun j=>(M.getD i []).getD j 0))
  (fun y=>(∃k:Nat,y=yc (k:Int) g t∧ ¬Pq P Q t M)∨(y=yg g t∧ ∀i,i<n→(((M.getD i []).length:Nat):Int)=t+1∧Pb P Q (M.getD i []).length (fun j=>(M.getD i []).getD j 0))) n
  (fun k hk _ hp=>by
   have hs:=hm.ms k hk
   have hl:=hm.len k hk
   have hC:=Fa h (n:=(m k).len) (f:=SlV.fn (fun _=>0) (m k)) (c:=fun j=>(M.getD k []).getD j 0) (hm.is k hk)
   by_cases c1:(((m k).len:Nat):Int)=t+1
   ·have e1:((((m k).len:Nat):Int) !=IntKind.i64.wrap (t+1))=false:=by rw[wrap_i64 (by omega)]; exact a0S c1
    by_cases c2:Pb P Q (m k).len (fun j=>(M.getD k []).getD j 0)
    ·rw[dM c2]at hC
     refine .inl ⟨(),?_,fun i hi=>?_⟩
     ·simp(disch:=omega) only[dQ,jv,WW,CC,hs,e1,hC]
     ·by_cases e:i=k
      ·subst e; rw[←hl]; exact⟨c1,c2⟩
      ·exact hp i (by omega)
    ·rw[bG c2]at hC
     refine .inr ⟨_,?_,.inl ⟨k,rfl,hb k hk (by rw[←hl]; exact fun hh=>c2 hh.2)⟩⟩
     simp(disch:=omega) only[dQ,jv,WW,CC,hs,e1,hC]
   ·have e1:((((m k).len:Nat):Int) !=IntKind.i64.wrap (t+1))=true:=by rw[wrap_i64 (by omega)]; exact XI c1
    refine .inr ⟨_,?_,.inl ⟨k,rfl,hb k hk (by rw[←hl]; exact fun hh=>c1 hh.1)⟩⟩
    simp(disch:=omega) only[dQ,jv,WW,CC,hs,e1])
  (fun _ hp=>by
   refine⟨_,?_,.inr ⟨rfl,hp⟩⟩
   simp(disch:=omega) only[dQ,jv,WW,CC]) () (fun i hi=>absurd hi (axv _))
 have y1':aB dQ (((n,m),((),(((n:Nat):Int),(0,())))),(g,(t,())))=some y:=y1
 have hlr:sU t=some true:=by
  rw[EU]; unfold BQ
  simp(disch:=omega) only[WW]
 simp only[y1']
 rcases y2 with⟨k,rfl,hmm⟩|⟨rfl,hp⟩
 ·rw[bG hmm]
  simp(disch:=omega) only[WW,yc]
 ·simp only[yg,hlr]
  have hsz:=hm.sz
  by_cases c1:1≤n
  ·by_cases c2:n≤25
   ·rw[dM (p:=Pq P Q t M) ⟨ht,by omega,fun i hi=>hp i (by omega)⟩]
    simp(disch:=omega) only[WW]
   ·rw[bG (p:=Pq P Q t M) (fun hh=>c2 (by have:=hh.2.1; omega))]
    simp(disch:=omega) only[WW]
  ·rw[bG (p:=Pq P Q t M) (fun hh=>c1 (by have:=hh.2.1; omega))]
   simp(disch:=omega) only[WW]
open Classical in
theorem NT(h:dF g P Q G) {n:Nat} {m:Nat→SlV (Nat→Int)} {M:List (List Nat)}(hm:jg n m M)(hn:n<9223372036854775808) {i:Int} {ny:Nat} {y:Nat→(Nat→Int)} {L:List Nat}(hy:yu ny y L):
  eB (some g) n m (i,(ny,y))=some (decide (ug P Q G M i L)):=by
 rw[EW]; unfold wF
 have hsz:=hm.sz
 have hLl:=hy.1
 by_cases c1:1≤n
 case neg=>
  rw[bG (p:=ug P Q G M i L) (fun hh=>c1 (by have:=hh.1; omega))]
  simp(disch:=omega) only[WW]
 by_cases c2:n≤25
 case neg=>
  rw[bG (p:=ug P Q G M i L) (fun hh=>c2 (by have:=hh.1; omega))]
  simp(disch:=omega) only[WW]
 by_cases c3:ny=n
 case neg=>
  rw[bG (p:=ug P Q G M i L) (fun hh=>c3 (by have:=hh.2.1; omega))]
  have e:(((ny:Nat):Int) !=(n:Int))=true:=XI (by omega)
  simp(disch:=omega) only[WW,e]
 subst c3
 obtain⟨z,y1,y2⟩:=kH (R:=gV) (S:=Unit) (fun k _=>oG g ny m (ny:Int) (k:Int) i ny y)
  (fun k _=> ∀j,j<k→uf P Q G (M.getD j []).length (fun q=>(M.getD j []).getD q 0) i (L.getD j 0))
  (fun z=>(z=L6 false∧ ¬ug P Q G M i L)∨(z=L8∧ ∀j,j<ny→uf P Q G (M.getD j []).length (fun q=>(M.getD j []).getD q 0) i (L.getD j 0))) ny
  (fun k hk _ hp=>by
   have hs:=hm.ms k hk
   have hl:=hm.len k hk
   have hC:=NS h (n:=(m k).len) (f:=SlV.fn (fun _=>0) (m k)) (c:=fun j=>(M.getD k []).getD j 0) (hm.is k hk) (i:=i) (hy.2 k hk)
   by_cases c:uf P Q G (m k).len (fun j=>(M.getD k []).getD j 0) i (L.getD k 0)
   ·rw[dM c]at hC
    refine .inl ⟨(),?_,fun j hj=>?_⟩
    ·simp(disch:=omega) only[gV,oG,WW,CC,hs,hC]
    ·by_cases e:j=k
     ·subst e; rw[←hl]; exact c
     ·exact hp j (by omega)
   ·rw[bG c]at hC
    refine .inr ⟨_,?_,.inl ⟨rfl,fun hh=>c (by rw[hl]; exact hh.2.2 k (by omega))⟩⟩
    simp(disch:=omega) only[gV,oG,WW,CC,hs,hC])
  (fun _ hp=>by
   refine⟨_,?_,.inr ⟨rfl,hp⟩⟩
   simp(disch:=omega) only[gV,oG,WW,CC]) () (fun i hi=>absurd hi (axv _))
 have y1':aB gV ((g,((),((ny,m),(((ny:Nat):Int),(0,()))))),((i,(ny,y)),()))=some z:=y1
 simp(disch:=omega) only[WW,ayl,y1']
 rcases y2 with⟨rfl,hh⟩|⟨rfl,hp⟩
 ·rw[bG hh]
 ·rw[dM (p:=ug P Q G M i L) ⟨by omega,by omega,fun j hj=>hp j (by omega)⟩]
end
theorem Lr {n:Nat} {m:Nat→SlV (Nat→Int)} {M:List (List Nat)}(hm:jg n m M)(hn:n<9223372036854775808)(hb:(iH M).length<2^59):
  qj n m=some (yV (iH M)):=by
 rw[D7]; unfold zL
 have hs:Np ⟨(iH M).toArray⟩=some (yV (bl ⟨(iH M).toArray⟩)):=Zx (by simpa [ByteArray.size]using hb)
 simp only[Bl hm hn,hs]
open Go Go.Den Go.Num
theorem I6 {n:Nat}(hn:n<9223372036854775808): ∃a,aU (n:Int)=some a∧IsN a n:=by
 obtain⟨a,h1,h2⟩:=Nv (n:=(n:Int)) (by omega)
 exact⟨a,h1,h2⟩
open Classical in
noncomputable def Jg(n:Nat):Nat→Int:=if h:n<9223372036854775808 then Classical.choose (I6 h)else fun _=>0
theorem wK {n:Nat}(h:n<9223372036854775808):aU (n:Int)=some (Jg n):=by
 unfold Jg; rw[dif_pos h]; exact(Classical.choose_spec (I6 h)).1
theorem Cb {n:Nat}(h:n<9223372036854775808):IsN (Jg n) n:=by
 unfold Jg; rw[dif_pos h]; exact(Classical.choose_spec (I6 h)).2
section
variable {P Q G:Nat}
def evN(A:Nat→Nat)(n X Q:Nat):Nat:=Df A (fun i=>X^i) n%Q
theorem a1E(hP:1<P)(p62:P<4611686018427387904)(q31:Q<2147483648) {n:Nat}(hn:n≤7) {f:Nat→Int} {c:Nat→Nat}(hf:IsR n f c)(hc: ∀j,j<n→c j<Q):
  ∃o,oZ ((P:Int),(Q:Int),(G:Int)) n f (n:Int)=some (n,o)∧ ∀j,j<n→IsN (o j) (G^c j%P):=by
 rw[XE]; unfold Z5
 obtain⟨o,y1,e1⟩:=aO (R:=uX) (S:=Nat→(Nat→Int)) (fun k o=>KV n f (n:Int) k o (k:Int) ((P:Int),(Q:Int),(G:Int)))
  (fun o=>DY n o) (fun k o=> ∀j,j<k→IsN (o j) (G^c j%P)) n
  (fun k hk o ho=>by
   have hck:=hc k hk
   have hlt:G^c k%P<P:=axh _ (by omega)
   have z1:=wK (n:=c k) (by omega)
   have z2:=Cb (n:=c k) (by omega)
   have e1:=Zt (P:=P) (Q:=Q) (G:=G) (a:=G) z2 (by omega) (by omega)
   have z3:=wK (n:=G^c k%P) (by omega)
   have b1:Nat.ble ((k+1)*32) 140737488355328=true:=ax2 (by omega)
   have b2:Nat.ble (k+1) 9223372036854775807=true:=ax2 (by omega)
   refine⟨glue k o (fun j=>(upd zNN 0 (Jg (G^c k%P))) (0+j)),?_,fun j hj=>?_⟩
   ·simp(disch:=omega) only[uX,KV,WW,CC,hf k hk,z1,e1,z3,b1,b2,Bool.and_self]
   ·by_cases hjk:j<k
    ·rw[a1A hjk]; exact ho j hjk
    ·obtain rfl:j=k:=by omega
     rw[a1B (ax5 _),ayx]; exact Cb (by omega))
  (fun o ho=>by simp(disch:=omega) only[uX,KV,WW,CC]) zNN (fun j hj=>absurd hj (axv _))
 have y1':aB uX (((n,f),((n:Int),((),((0,zNN),(0,()))))),(((P:Int),(Q:Int),(G:Int)),()))=some (DY n o):=y1
 simp only[y1',DY]
 exact⟨_,rfl,fun j hj=>by simp only[axc]; exact e1 j hj⟩
theorem QT(q31:Q<2147483648) {n:Nat}(hn:n≤100) {l:Nat→(Nat→Int)} {A:Nat→Nat}(hl: ∀i,i<n→IsN (l i) (A i))(hA: ∀i,i<n→A i<Q):zF n l (Q:Int)=some true:=by
 rw[XF]; unfold Z6
 obtain⟨_,y1,rfl⟩:=aO (R:=uY) (S:=Unit) (fun k _=>KX n l (Q:Int) (k:Int)) (fun _=>E8) (fun k s=>s=()) n
  (fun k hk _ _=>by
   have z1:=wK (n:=Q) (by omega)
   have z2:=Cb (n:=Q) (by omega)
   have c1:=Zj (hl k hk) z2
   have hak:=hA k hk
   have e: ¬Db (A k) Q≥0:=by unfold Db; rw[ax1 hak]; decide
   refine⟨(),?_,rfl⟩
   simp(disch:=omega) only[uY,KX,WW,CC,z1,c1,e])
  (fun _ _=>by simp(disch:=omega) only[uY,KX,WW,CC]) () rfl
 have y1':aB uY (((n,l),((Q:Int),(0,()))),())=some E8:=y1
 simp only[y1',E8]
theorem aa1(hP:1<P)(p62:P<4611686018427387904)(hQ:1<Q)(q31:Q<2147483648) {n:Nat}(hn:n≤7) {l:Nat→(Nat→Int)} {A:Nat→Nat}(hl: ∀i,i<n→IsN (l i) (A i))(hA: ∀i,i<n→A i<Q):
  ∃w o,wm n l (Q:Int)=some (n,w)∧oZ ((P:Int),(Q:Int),(G:Int)) n w (n:Int)=some (n,o)∧(∀j,j<n→IsN (o j) (G^A j%P))∧ ∀X:Nat,bq n w (X:Int) (Q:Int)=some ((evN A n X Q:Nat):Int)∧aU ((evN A n X Q:Nat):Int)=some (Jg (evN A n X Q))∧IsN (Jg (evN A n X Q)) (evN A n X Q):=by
 obtain⟨w,h1,h2⟩:=Zu (n:=n) (by omega) hl (q:=Q) (by omega) (by omega)
 have h3:IsR n w A:=fun i hi=>by rw[h2 i hi]; simp only[awX (hA i hi)]
 obtain⟨o,o1,o2⟩:=a1E (P:=P) (Q:=Q) (G:=G) hP p62 q31 hn h3 hA
 refine⟨w,o,h1,o1,o2,fun X=>?_⟩
 have hlt:evN A n X Q<Q:=axh _ (by omega)
 exact⟨WY hQ q31 (by omega) h3,wK (by omega),Cb (by omega)⟩
def coN(a b:Nat→Nat)(t k j:Nat):Nat:=if j=0 then a k else b (t*k+(j-1))
theorem a6e {n:Nat} {x:Nat→Int} {l:Nat→(Nat→Int)} {a b:Nat→Nat} {t k lo:Nat}(hx:IsN x (a k))(hl: ∀j,j<t→IsN (l (lo+j)) (b (t*k+j))): ∀i,i<t+1→IsN ((fun j=>(glue 1 (upd zNN 0 x) (fun j=>l (lo+j))) (0+j)) i) (coN a b t k i):=by
 intro i hi
 simp only[axc]
 by_cases e:i=0
 ·subst e; rw[a1A (by omega)]; exact hx
 ·rw[a1B (by omega),coN,awU e]; exact hl (i-1) (by omega)
def uE(P G:Nat)(a b:Nat→Nat)(t nn:Nat):List (List Nat):=(List.range nn).map fun k=>(List.range (t+1)).map fun j=>G^coN a b t k j%P
theorem vS {a b:Nat→Nat} {t nn k:Nat}(hk:k<nn):(uE P G a b t nn).getD k []=(List.range (t+1)).map fun j=>G^coN a b t k j%P:=by
 simp[uE,axf,axz,ayr hk]
theorem NU {f:Nat→Nat} {n j:Nat}(hj:j<n):((List.range n).map f).getD j 0=f j:=by
 simp[axf,axz,ayr hj]
structure aa2(P Q G:Nat)(a b:Nat→Nat)(t nn:Nat)(m:Nat→SlV (Nat→Int))(l:Nat→Int×SlV (Nat→Int)):Prop where
 mat:jg nn m (uE P G a b t nn)
 sh: ∀i,i<3*t+1→ ∃f,(l i).2= .fz nn f∧ ∀k,k<nn→IsN (f k) (evN (coN a b t k) (t+1) (i+1) Q)
theorem ZI {a b:Nat→Nat} {t nn:Nat} {m:Nat→SlV (Nat→Int)}(h: ∀k,k<nn→ ∃o,m k= .fz (t+1) o∧ ∀j,j<t+1→IsN (o j) (G^coN a b t k j%P)):jg nn m (uE P G a b t nn) where
 sz:=by simp[uE]
 ms:=fun i hi=>by obtain⟨o,h1,_⟩:=h i hi; rw[h1]; rfl
 len:=fun i hi=>by obtain⟨o,h1,_⟩:=h i hi; rw[h1,vS hi]; simp[SlV.len]
 is:=fun i hi j hj=>by
  obtain⟨o,h1,h2⟩:=h i hi
  rw[h1]at hj⊢
  have hj':j<t+1:=hj
  rw[vS hi,NU hj']
  exact h2 j hj'
theorem a6f(hP:1<P)(p62:P<4611686018427387904)(hQ:1<Q)(q31:Q<2147483648) {t nn:Nat}(ht:t=1∨t=2)(hnn:nn=1∨nn=2) {x y:Nat→(Nat→Int)} {a b:Nat→Nat}(hx: ∀k,k<nn→IsN (x k) (a k))(hy: ∀j,j<t*nn→IsN (y j) (b j))(ha: ∀k,k<nn→a k<Q)(hb: ∀j,j<t*nn→b j<Q):
  ∃m l,E9 ((P:Int),(Q:Int),(G:Int)) (t:Int) nn x (t*nn) y=some (((nn,m),((3*t+1,l),(0,()))),())∧aa2 P Q G a b t nn m l:=by
 have i1:=QT q31 (n:=nn) (by omega) hx ha
 have i2:=QT q31 (n:=t*nn) (by rcases ht with rfl|rfl<;>omega) hy hb
 have hA: ∀k,k<nn→ ∀i,i<t+1→coN a b t k i<Q:=fun k hk i hi=>by
  unfold coN; split
  ·exact ha k hk
  ·exact hb _ (by rcases ht with rfl|rfl<;>rcases hnn with rfl|rfl<;>omega)
 have R0:=fun(k lo:Nat) (hk:k<nn) (hlo:lo=t*k)=>aa1 (P:=P) (G:=G) hP p62 hQ q31 (n:=t+1) (by omega) (a6e (n:=t) (x:=x k) (l:=y) (a:=a) (b:=b) (t:=t) (k:=k) (lo:=lo) (hx k hk) (fun j hj=>by subst hlo; exact hy _ (by rcases ht with rfl|rfl<;>rcases hnn with rfl|rfl<;>omega))) (hA k hk)
 rw[JU]; unfold GX
 rcases ht with rfl|rfl
 ·rcases hnn with rfl|rfl
  ·obtain⟨w,o,h1,h2,h3,E⟩:=R0 0 0 (by omega) rfl
   have h2':oZ ((P:Int),(Q:Int),(G:Int)) 2 w 2=some (2,o):=h2
   have E1: ∀X:Nat,bq 2 w (no_index (OfNat.ofNat X:Int)) (Q:Int)=some ((evN (coN a b 1 0) 2 X Q:Nat):Int):=fun X=>(E X).1
   have E2: ∀X:Nat,aU ((evN (coN a b 1 0) 2 X Q:Nat):Int)=some (Jg (evN (coN a b 1 0) 2 X Q)):=fun X=>(E X).2.1
   refine⟨?_,?_,?g,?h⟩
   case g=>
    show wu _ x 1 y=_
    unfold wu
    simp(disch:=omega) only[WW,ayl,show(((1:Nat):Int) !=1)=false from rfl,i1,i2,h1,h2',E1,E2]
    rfl
   case h=>
    refine⟨ZI fun k hk=>?_,fun i hi=>?_⟩
    ·obtain rfl:k=0:=by omega
     exact⟨o,rfl,h3⟩
    ·rcases(by omega:i=0∨i=1∨i=2∨i=3)with rfl|rfl|rfl|rfl
     all_goals exact⟨_,rfl,fun k hk=>by obtain rfl:k=0:=(by omega); exact(E _).2.2⟩
  ·obtain⟨w,o,h1,h2,h3,E⟩:=R0 0 0 (by omega) rfl
   obtain⟨w1,o1,g1,g2,g3,F⟩:=R0 1 1 (by omega) rfl
   have h2':oZ ((P:Int),(Q:Int),(G:Int)) 2 w 2=some (2,o):=h2
   have E1: ∀X:Nat,bq 2 w (no_index (OfNat.ofNat X:Int)) (Q:Int)=some ((evN (coN a b 1 0) 2 X Q:Nat):Int):=fun X=>(E X).1
   have E2: ∀X:Nat,aU ((evN (coN a b 1 0) 2 X Q:Nat):Int)=some (Jg (evN (coN a b 1 0) 2 X Q)):=fun X=>(E X).2.1
   have g2':oZ ((P:Int),(Q:Int),(G:Int)) 2 w1 2=some (2,o1):=g2
   have F1: ∀X:Nat,bq 2 w1 (no_index (OfNat.ofNat X:Int)) (Q:Int)=some ((evN (coN a b 1 1) 2 X Q:Nat):Int):=fun X=>(F X).1
   have F2: ∀X:Nat,aU ((evN (coN a b 1 1) 2 X Q:Nat):Int)=some (Jg (evN (coN a b 1 1) 2 X Q)):=fun X=>(F X).2.1
   refine⟨?_,?_,?g,?h⟩
   case g=>
    show wz _ x 2 y=_
    unfold wz
    simp(disch:=omega) only[WW,ayl,show(((2:Nat):Int) !=2)=false from rfl,i1,i2,h1,h2',E1,E2,g1,g2',F1,F2]
    rfl
   case h=>
    refine⟨ZI fun k hk=>?_,fun i hi=>?_⟩
    ·rcases(by omega:k=0∨k=1)with rfl|rfl
     ·exact⟨o,rfl,h3⟩
     ·exact⟨o1,rfl,g3⟩
    ·rcases(by omega:i=0∨i=1∨i=2∨i=3)with rfl|rfl|rfl|rfl
     all_goals exact⟨_,rfl,fun k hk=>by rcases(by omega:k=0∨k=1)with rfl|rfl; exact(E _).2.2; exact(F _).2.2⟩
 ·rcases hnn with rfl|rfl
  ·obtain⟨w,o,h1,h2,h3,E⟩:=R0 0 0 (by omega) rfl
   have h2':oZ ((P:Int),(Q:Int),(G:Int)) 3 w 3=some (3,o):=h2
   have E1: ∀X:Nat,bq 3 w (no_index (OfNat.ofNat X:Int)) (Q:Int)=some ((evN (coN a b 2 0) 3 X Q:Nat):Int):=fun X=>(E X).1
   have E2: ∀X:Nat,aU ((evN (coN a b 2 0) 3 X Q:Nat):Int)=some (Jg (evN (coN a b 2 0) 3 X Q)):=fun X=>(E X).2.1
   refine⟨?_,?_,?g,?h⟩
   case g=>
    show wB _ x 2 y=_
    unfold wB
    simp(disch:=omega) only[WW,ayl,show(((2:Nat):Int) !=2)=false from rfl,i1,i2,h1,h2',E1,E2]
    rfl
   case h=>
    refine⟨ZI fun k hk=>?_,fun i hi=>?_⟩
    ·obtain rfl:k=0:=by omega
     exact⟨o,rfl,h3⟩
    ·rcases(by omega:i=0∨i=1∨i=2∨i=3∨i=4∨i=5∨i=6)with rfl|rfl|rfl|rfl|rfl|rfl|rfl
     all_goals exact⟨_,rfl,fun k hk=>by obtain rfl:k=0:=(by omega); exact(E _).2.2⟩
  ·obtain⟨w,o,h1,h2,h3,E⟩:=R0 0 0 (by omega) rfl
   obtain⟨w1,o1,g1,g2,g3,F⟩:=R0 1 2 (by omega) rfl
   have h2':oZ ((P:Int),(Q:Int),(G:Int)) 3 w 3=some (3,o):=h2
   have E1: ∀X:Nat,bq 3 w (no_index (OfNat.ofNat X:Int)) (Q:Int)=some ((evN (coN a b 2 0) 3 X Q:Nat):Int):=fun X=>(E X).1
   have E2: ∀X:Nat,aU ((evN (coN a b 2 0) 3 X Q:Nat):Int)=some (Jg (evN (coN a b 2 0) 3 X Q)):=fun X=>(E X).2.1
   have g2':oZ ((P:Int),(Q:Int),(G:Int)) 3 w1 3=some (3,o1):=g2
   have F1: ∀X:Nat,bq 3 w1 (no_index (OfNat.ofNat X:Int)) (Q:Int)=some ((evN (coN a b 2 1) 3 X Q:Nat):Int):=fun X=>(F X).1
   have F2: ∀X:Nat,aU ((evN (coN a b 2 1) 3 X Q:Nat):Int)=some (Jg (evN (coN a b 2 1) 3 X Q)):=fun X=>(F X).2.1
   refine⟨?_,?_,?g,?h⟩
   case g=>
    show wC _ x 4 y=_
    unfold wC
    simp(disch:=omega) only[WW,ayl,show(((4:Nat):Int) !=4)=false from rfl,i1,i2,h1,h2',E1,E2,g1,g2',F1,F2]
    rfl
   case h=>
    refine⟨ZI fun k hk=>?_,fun i hi=>?_⟩
    ·rcases(by omega:k=0∨k=1)with rfl|rfl
     ·exact⟨o,rfl,h3⟩
     ·exact⟨o1,rfl,g3⟩
    ·rcases(by omega:i=0∨i=1∨i=2∨i=3∨i=4∨i=5∨i=6)with rfl|rfl|rfl|rfl|rfl|rfl|rfl
     all_goals exact⟨_,rfl,fun k hk=>by rcases(by omega:k=0∨k=1)with rfl|rfl; exact(E _).2.2; exact(F _).2.2⟩
end
open Go Go.Den Go.Num
def Vu(a b c d:Bool):Int:=(bif a then 1 else 0)+(bif b then 2 else 0)+(bif c then 4 else 0)+(bif d then 8 else 0)
def Vv(k c:Int):Prop:=(k=1∨k=2)∧c=8∨k=3∧(c=8∨ak .andNot .i64 c 4=11)∨(k=4∨k=8)∧c=13∨(k=5∨k=6)∧c=3∨k=7∧c=9
structure arW where
 st:Bool
 dg:Bool
 mx:Bool
 op:Bool
noncomputable def kL(op:Int)(st:aF)(dg:ByteArray)(nm ny:Nat):arW:=⟨!(eqF (.pair (.int .i64) (.int .i64)) st (0,0)),!(sEq dg (ByteArray.mk #[])),decide (0<nm+ny),op !=0⟩
def IZ(b:arW)(op:Int)(st:aF)(dg:ByteArray)(M:List (List Nat))(ny:Nat):Prop:=
 (b.st=true→lU st)∧(b.dg=true→dg.size=32)∧(b.mx=true→ny=M.length∧iH M≠ [])∧(b.op=true→1≤op∧op≤1048576)
abbrev Dj(k op:Int)(key:ByteArray)(st:aF)(dg:ByteArray)(nm:Nat)(m:Nat→SlV (Nat→Int))(ny:Nat)(y:Nat→(Nat→Int)):Int×(Int×(ByteArray×((Int×Int)×(ByteArray×((Nat×(Nat→SlV (Nat→Int)))×(Nat×(Nat→(Nat→Int)))))))):=(k,(op,(key,(st,(dg,((nm,m),(ny,y)))))))
theorem ZJ(s:aF):yR s=some (decide (lU s)):=by
 rw[EX]; unfold BR lU
 by_cases h1:s.1≥1
 ·by_cases h2:s.1≤1099511627776
  ·by_cases h3:s.2≥1<;>simp[h1,h2,h3]
  ·simp[h1,h2]
 ·simp[h1]
theorem some_spec(w:Int)(is_ may:Bool)(o:Int)(ok:Bool):cB w is_ may o ok=some ((),((bif is_ then ak .or .i64 o w else o),((!is_||may)&&ok,()))):=by
 rw[yh]; unfold sW
 cases is_<;>cases may<;>cases ok<;>rfl
theorem aa3(l:List UInt8):sEq ⟨l.toArray⟩ (ByteArray.mk #[])=decide (l=[]):=by
 by_cases h:l=[]
 ·subst h; rw[dM rfl]; exact(u7 _ _).2 rfl
 ·rw[bG h]
  cases hb:sEq ⟨l.toArray⟩ (ByteArray.mk #[])
  ·rfl
  ·have:=(u7 _ _).1 hb
   simp only[ByteArray.mk.injEq,Array.mk.injEq]at this
   exact absurd (by simpa using this) h
open Classical in
theorem ZK {k op:Int} {key:ByteArray} {st:aF} {dg:ByteArray} {nm:Nat} {m:Nat→SlV (Nat→Int)} {M:List (List Nat)}(hm:jg nm m M) {ny:Nat} {y:Nat→(Nat→Int)}(hn:nm<1000000000)(hy:ny<1000000000):
  sZ (Dj k op key st dg nm m ny y)=some (Vu (kL op st dg nm ny).st (kL op st dg nm ny).dg (kL op st dg nm ny).mx (kL op st dg nm ny).op,decide (IZ (kL op st dg nm ny) op st dg M ny)):=by
 rw[EY]; unfold BS
 have hB:=Bl hm (by omega)
 have ht:IntKind.i64.wrap (((nm:Nat):Int)+((ny:Nat):Int))=((nm+ny:Nat):Int):=wrap_i64 (by omega)
 have ht2:decide (((nm+ny:Nat):Int)>0)=decide (0<nm+ny):=by
  by_cases h:0<nm+ny
  ·rw[dM h]; exact dM (by omega)
  ·rw[bG h]; exact bG (by omega)
 have hsz:=hm.sz
 have hp: ∀b1 b2 b3 b4:Bool,∀q1 q2 q3 q4:Bool,(q1=true↔lU st)→(q2=true↔dg.size=32)→(q3=true↔ny=M.length∧iH M≠ [])→(b4=true→(q4=true↔1≤op∧op≤1048576))→
   ((!b4||q4)&&((!b3||q3)&&((!b2||q2)&&((!b1||q1)&&true))))=decide (IZ ⟨b1,b2,b3,b4⟩ op st dg M ny):=by
  intro b1 b2 b3 b4 q1 q2 q3 q4 h1 h2 h3 h4
  rw[ayI,axm]
  unfold IZ
  simp only
  rw[←h1,←h2,←h3]
  cases b4
  ·cases b1<;>cases b2<;>cases b3<;>cases q1<;>cases q2<;>cases q3<;>simp
  ·rw[←h4 rfl]
   cases b1<;>cases b2<;>cases b3<;>cases q1<;>cases q2<;>cases q3<;>cases q4<;>simp
 have hbit: ∀b1 b2 b3 b4:Bool,(bif b4 then ak .or .i64 (bif b3 then ak .or .i64 (bif b2 then ak .or .i64 (bif b1 then ak .or .i64 0 1 else 0) 2 else(bif b1 then ak .or .i64 0 1 else 0)) 4 else(bif b2 then ak .or .i64 (bif b1 then ak .or .i64 0 1 else 0) 2 else(bif b1 then ak .or .i64 0 1 else 0))) 8 else(bif b3 then ak .or .i64 (bif b2 then ak .or .i64 (bif b1 then ak .or .i64 0 1 else 0) 2 else(bif b1 then ak .or .i64 0 1 else 0)) 4 else(bif b2 then ak .or .i64 (bif b1 then ak .or .i64 0 1 else 0) 2 else(bif b1 then ak .or .i64 0 1 else 0))))=Vu b1 b2 b3 b4:=by
  decide
 have h32:((((dg.size:Nat):Int)==32)=true↔dg.size=32):=by rw[azw]; omega
 have hmx:(!(sEq ⟨(iH M).toArray⟩ (ByteArray.mk #[])))=decide (iH M≠ []):=by rw[aa3]; by_cases h:iH M=[]<;>simp[h]
 simp only[Dj,ZJ,some_spec,ht,ht2,hB,hmx]
 show _=some (Vu (!(eqF (.pair (.int .i64) (.int .i64)) st (0,0))) (!(sEq dg (ByteArray.mk #[]))) (decide (0<nm+ny)) (op !=0),decide (IZ ⟨!(eqF (.pair (.int .i64) (.int .i64)) st (0,0)),!(sEq dg (ByteArray.mk #[])),decide (0<nm+ny),op !=0⟩ op st dg M ny))
 generalize hb4:(op !=0)=b4
 generalize (!(eqF (.pair (.int .i64) (.int .i64)) st (0,0)))=b1
 generalize (!(sEq dg (ByteArray.mk #[])))=b2
 generalize decide (0<nm+ny)=b3
 have q3:ny=nm→(decide (iH M≠ [])=true↔ny=M.length∧iH M≠ []):=fun c1=>by rw[axm]; exact⟨fun h=>⟨by omega,h⟩,fun h=>h.2⟩
 have q3':ny≠nm→(false=true↔ny=M.length∧iH M≠ []):=fun c1=>⟨fun h=>by simp at h,fun h=>absurd (by omega) c1⟩
 have q4:1≤op→(b4=true→(decide (op≤1048576)=true↔1≤op∧op≤1048576)):=fun c2 _=>by rw[axm]; exact⟨fun h=>⟨c2,h⟩,fun h=>h.2⟩
 have q4': ¬1≤op→(b4=true→(false=true↔1≤op∧op≤1048576)):=fun c2 _=>⟨fun h=>by simp at h,fun h=>absurd h.1 c2⟩
 by_cases c1:ny=nm
 ·have e:(((ny:Nat):Int)==((nm:Nat):Int))=true:=XH (by omega)
  by_cases c2:1≤op
  ·rw[e,dM (show op≥1 from c2),bB,bB,hbit,hp b1 b2 b3 b4 _ _ _ _ decide_eq_true_iff h32 (q3 c1) (q4 c2)]
  ·rw[e,bG (show¬op≥1 from c2),bB,bF,hbit,hp b1 b2 b3 b4 _ _ _ _ decide_eq_true_iff h32 (q3 c1) (q4' c2)]
 ·have e:(((ny:Nat):Int)==((nm:Nat):Int))=false:=iA (by omega)
  by_cases c2:1≤op
  ·rw[e,dM (show op≥1 from c2),bF,bB,hbit,hp b1 b2 b3 b4 _ _ _ _ decide_eq_true_iff h32 (q3' c1) (q4 c2)]
  ·rw[e,bG (show¬op≥1 from c2),bF,bF,hbit,hp b1 b2 b3 b4 _ _ _ _ decide_eq_true_iff h32 (q3' c1) (q4' c2)]
theorem uF(x k:Int):(x=k∧(x==k)=true)∨(x≠k∧(x==k)=false):=by
 by_cases h:x=k
 ·exact .inl ⟨h,XH h⟩
 ·exact .inr ⟨h,iA h⟩
def wOk(k op:Int)(key:ByteArray)(st:aF)(dg:ByteArray)(M:List (List Nat))(ny:Nat):Prop:=
 (1≤key.size∧key.size≤8)∧IZ (kL op st dg M.length ny) op st dg M ny∧Vv k (Vu (kL op st dg M.length ny).st (kL op st dg M.length ny).dg (kL op st dg M.length ny).mx (kL op st dg M.length ny).op)
open Classical in
theorem Rw {k op:Int} {key:ByteArray} {st:aF} {dg:ByteArray} {nm:Nat} {m:Nat→SlV (Nat→Int)} {M:List (List Nat)}(hm:jg nm m M) {ny:Nat} {y:Nat→(Nat→Int)}(hn:nm<1000000000)(hy:ny<1000000000):
  vC (Dj k op key st dg nm m ny y)=some (if wOk k op key st dg M ny then 0 else 1):=by
 have hc:=ZK (k:=k) (op:=op) (key:=key) (st:=st) (dg:=dg) hm (y:=y) hn hy
 have hsz:=hm.sz
 rw[K6]; unfold He
 have hc':sZ ((Dj k op key st dg nm m ny y).1,((Dj k op key st dg nm m ny y).2.1,((Dj k op key st dg nm m ny y).2.2.1,((Dj k op key st dg nm m ny y).2.2.2.1,((Dj k op key st dg nm m ny y).2.2.2.2.1,(((Dj k op key st dg nm m ny y).2.2.2.2.2.1.1,(Dj k op key st dg nm m ny y).2.2.2.2.2.1.2),((Dj k op key st dg nm m ny y).2.2.2.2.2.2.1,(Dj k op key st dg nm m ny y).2.2.2.2.2.2.2)))))))=_:=hc
 rw[hc']
 unfold wOk
 rw[←hsz]
 generalize Vu (kL op st dg nm ny).st (kL op st dg nm ny).dg (kL op st dg nm ny).mx (kL op st dg nm ny).op=c
 generalize IZ (kL op st dg nm ny) op st dg M ny=K
 simp only[Dj,a1x]
 have h7:(k=1∨k=2∨k=3∨k=4∨k=5∨k=6∨k=7∨k=8)∨(k≠1∧k≠2∧k≠3∧k≠4∧k≠5∧k≠6∧k≠7∧k≠8):=by omega
 unfold Vv
 by_cases hk:1≤key.size∧key.size≤8
 ·rcases h7 with(rfl|rfl|rfl|rfl|rfl|rfl|rfl|rfl)|⟨a1,a2,a3,a4,a5,a6,a7,a8⟩
  ·by_cases hK:K<;>rcases uF c 8 with⟨c1,d1⟩|⟨c1,d1⟩<;>simp[hk,hK,c1,d1]
  ·by_cases hK:K<;>rcases uF c 8 with⟨c1,d1⟩|⟨c1,d1⟩<;>simp[hk,hK,c1,d1]
  ·by_cases hK:K<;>rcases uF c 8 with⟨c1,d1⟩|⟨c1,d1⟩<;>rcases uF (ak .andNot .i64 c 4) 11 with⟨c2,d2⟩|⟨c2,d2⟩<;>simp[hk,hK,c1,d1,c2,d2]
  ·by_cases hK:K<;>rcases uF c 13 with⟨c1,d1⟩|⟨c1,d1⟩<;>simp[hk,hK,c1,d1]
  ·by_cases hK:K<;>rcases uF c 3 with⟨c1,d1⟩|⟨c1,d1⟩<;>simp[hk,hK,c1,d1]
  ·by_cases hK:K<;>rcases uF c 3 with⟨c1,d1⟩|⟨c1,d1⟩<;>simp[hk,hK,c1,d1]
  ·by_cases hK:K<;>rcases uF c 9 with⟨c1,d1⟩|⟨c1,d1⟩<;>simp[hk,hK,c1,d1]
  ·by_cases hK:K<;>rcases uF c 13 with⟨c1,d1⟩|⟨c1,d1⟩<;>simp[hk,hK,c1,d1]
  ·simp[a1,a2,a3,a4,a5,a6,a7,a8,iA a1,iA a2,iA a3,iA a4,iA a5,iA a6,iA a7,iA a8]
 ·rcases h7 with(rfl|rfl|rfl|rfl|rfl|rfl|rfl|rfl)|⟨a1,a2,a3,a4,a5,a6,a7,a8⟩
  ·by_cases hK:K<;>rcases uF c 8 with⟨c1,d1⟩|⟨c1,d1⟩<;>simp[hk,hK,c1,d1]
  ·by_cases hK:K<;>rcases uF c 8 with⟨c1,d1⟩|⟨c1,d1⟩<;>simp[hk,hK,c1,d1]
  ·by_cases hK:K<;>rcases uF c 8 with⟨c1,d1⟩|⟨c1,d1⟩<;>rcases uF (ak .andNot .i64 c 4) 11 with⟨c2,d2⟩|⟨c2,d2⟩<;>simp[hk,hK,c1,d1,c2,d2]
  ·by_cases hK:K<;>rcases uF c 13 with⟨c1,d1⟩|⟨c1,d1⟩<;>simp[hk,hK,c1,d1]
  ·by_cases hK:K<;>rcases uF c 3 with⟨c1,d1⟩|⟨c1,d1⟩<;>simp[hk,hK,c1,d1]
  ·by_cases hK:K<;>rcases uF c 3 with⟨c1,d1⟩|⟨c1,d1⟩<;>simp[hk,hK,c1,d1]
  ·by_cases hK:K<;>rcases uF c 9 with⟨c1,d1⟩|⟨c1,d1⟩<;>simp[hk,hK,c1,d1]
  ·by_cases hK:K<;>rcases uF c 13 with⟨c1,d1⟩|⟨c1,d1⟩<;>simp[hk,hK,c1,d1]
  ·simp[a1,a2,a3,a4,a5,a6,a7,a8,iA a1,iA a2,iA a3,iA a4,iA a5,iA a6,iA a7,iA a8]
open Go Go.Den
def gD:List (ByteArray×Rc)→ByteArray→Nat
 | [],_=>0
 |e::l,k=>if e.1=k then 0 else gD l k+1
def ZL(N:Nat)(e:ByteArray×Rc):ByteArray×(RD×(VT×(VT×Unit))):=(e.1,((e.2.v,(e.1,(.nil,(.nil,e.2.c)))),(((N:Int),e.2.e),(((N:Int),e.2.r),()))))
def rZ(N:Nat)(l:List (ByteArray×Rc)):BG:=l.map (ZL N)
theorem NV(N:Nat)(k:ByteArray): ∀l,bidx .str (rZ N l) k=gD l k
 | []=>rfl
 |e::l=>by
  have ih:=NV N k l
  show(bif sEq k e.1 then 0 else bidx .str (rZ N l) k+1)=_
  rw[ih,gD]
  by_cases h:e.1=k
  ·rw[(u7 _ _).2 h.symm,ax1 h]; rfl
  ·cases hb:sEq k e.1
   ·rw[awU h]; rfl
   ·exact absurd ((u7 _ _).1 hb).symm h
theorem J2(N:Nat)(l:List (ByteArray×Rc))(i:Nat):(rZ N l)[i]?=(l[i]?).map (ZL N):=axz
theorem a1F: ∀(l:List (ByteArray×Rc)) k,gD l k≤l.length
 | [],_=>ax5 _
 |e::l,k=>by have:=a1F l k; simp only[gD,axN]; split<;>omega
theorem vU: ∀ {l:List (ByteArray×Rc)} {k e},l[gD l k]?=some e→e.1=k
 |e0::l,k,e,h=>by
  simp only[gD]at h
  split at h
  ·rename_i h0
   simp only[axu,awR]at h
   rw[←h]; exact h0
  ·simp only[ay8]at h
   exact vU h
theorem a3I {l:List (ByteArray×Rc)} {k:ByteArray}(h:l[gD l k]?=none):gD l k=l.length:=by
 have:=a1F l k
 rw[List.getElem?_eq_none_iff]at h
 omega
def nV:FC:=fun _ _ _=>((0,0),ByteArray.empty)
def newR:Rc:=⟨zVA,nV,nV,zCS⟩
def Ai(l:List (ByteArray×Rc))(k:ByteArray):Rc:=match l[gD l k]? with|some e=>e.2|none=>newR
def Jh(l:List (ByteArray×Rc))(k:ByteArray)(x:Rc):List (ByteArray×Rc):=match l[gD l k]? with|some _=>l.modify (gD l k) (fun e=>(e.1,x))|none=>l++[(k,x)]
theorem abg(N:Nat)(l:List (ByteArray×Rc))(i:Nat)(k:ByteArray)(x:Rc)(h: ∀e,l[i]?=some e→e.1=k):
  List.modify (rZ N l) i (fun e=>(e.1,((x.v,(k,(.nil,(.nil,x.c)))),(((N:Int),x.e),(((N:Int),x.r),())))))=rZ N (l.modify i (fun e=>(e.1,x))):=by
 apply axV
 intro j
 simp only[rZ,ayD,axz]
 by_cases e:i=j
 ·subst e
  cases hj:l[i]? with
  |none=>rfl
  |some q=>
   have:=h q hj
   simp[ZL,this]
 ·simp only[awU e]
  cases l[j]?<;>rfl
section
variable {f:Fr} {z:Fx}
def mG(f:Fr)(v:VA)(x:Rc):RcW:=if Ab x.v v.1 v.2.1=true∧x.v.2.2.2.1=0 then({ x with v:=v },Ru f { x with v:=v })else(x,[])
def iB(f:Fr)(rec:FD)(i:Nat)(p:PR)(x:Rc):RcW:=
 if¬nS p.1.1 x.v.1 then gu (mG f p.1 x) fun y=>(y,[I4 f i p])
 else if NP p.1.1 x.v.1 then pR f rec p x
 else if(x.c i).2.1.1.1.1<p.1.1.1 then({ x with c:=upd x.c i ((x.c i).1,(p,(x.c i).2.2)) },[])else(x,[])
def Es(f:Fr)(rec:FD)(from_:Int)(p:aF)(d:ByteArray)(x:Rc):RcW:=if okV f.N x.e from_ p then jP f rec p d { x with e:=oK x.e from_ p d } else(x,[])
def uh(f:Fr)(rec:FD)(from_:Int)(p:aF)(d:ByteArray)(x:Rc):RcW:=if okV f.N x.r from_ p then jP f rec p d { x with r:=oK x.r from_ p d } else(x,[])
def Bn(f:Fr)(i:Nat)(op:Int)(x:Rc):RcW:=
 if(x.c i).2.2.2<op∧(x.c i).2.2.1≤op then({ x with c:=upd x.c i ((x.c i).1,((x.c i).2.1,(op,(x.c i).2.2.2))) },NN f { x with c:=upd x.c i ((x.c i).1,((x.c i).2.1,(op,(x.c i).2.2.2))) } i)else(x,[])
def xW(c:Nat→CL)(i:Nat)(op:Int):Nat→CL:=upd c i ((c i).1,((c i).2.1,((c i).2.2.1,(if(c i).2.2.2<op then op else(c i).2.2.2))))
def Ls(i:Nat)(op:Int)(x:Rc):RcW:=
 if(x.c i).2.2.1≤op then({ x with c:=upd (xW x.c i op) i ((xW x.c i op i).1,((xW x.c i op i).2.1,(0,(xW x.c i op i).2.2.2))) },[])else({ x with c:=xW x.c i op },[])
theorem Vw(hf:f.Ok)(v:VA)(x:Rc)(o:iF)(ho:o.1+3<1000000000):fV v (f.mk' z x o)=some ((),f.mk' z (mG f v x).1 (apps o (mG f v x).2)):=by
 rw[qx]; unfold lK
 simp only[QS]
 have h1:=Vh (z:=z) hf { x with v:=v } o ho
 simp only[Fr.mk',Fr.so,Fr.rc]at h1
 cases hs:Ab x.v v.1 v.2.1
 ·have e:mG f v x=(x,[]):=awU fun h=>by rw[hs]at h; exact absurd h.1 (by decide)
  simp only[bF,e,dY]
 ·by_cases hy:x.v.2.2.2.1=0
  ·have e:mG f v x=_:=ax1 ⟨hs,hy⟩
   have e2:(((x.v.2.2.2.1:Nat):Int)==0)=true:=XH (by omega)
   simp only[bB,e,e2,h1]
  ·have e:mG f v x=(x,[]):=awU fun h=>hy h.2
   have e2:(((x.v.2.2.2.1:Nat):Int)==0)=false:=iA (by omega)
   simp only[bB,bF,e,e2,dY]
theorem a3J(c:Nat→CL):act c≤3:=a3A _ _
theorem X7(hf:f.Ok) {i:Nat}(hi:i<3)(p:PR)(hp:lU p.1.1)(x:Rc)(o:iF)(hw:WFc x.c)(ho:o.1+10000<1000000000):
  gX ((i+1:Nat):Int) p (f.mk' z x o)=some ((),f.mk' z (iB f (eH f 5) i p x).1 (apps o (iB f (eH f 5) i p x).2)):=by
 rw[mP]; unfold ji
 have hn:=hf.n7
 have ei:IntKind.i64.wrap (((i+1:Nat):Int)-1)=(i:Int):=by rw[wrap_i64 (by omega)]; omega
 have eN:IntKind.i64.wrap ((f.N:Int)+((i+1:Nat):Int))=((f.N+(i+1):Nat):Int):=wrap_i64 (by omega)
 have h5:HB 5=6534:=rfl
 rw[ei,K7 (by omega),bB]
 simp only[nT,Pj]
 by_cases h1:nS p.1.1 x.v.1
 ·by_cases h2:NP p.1.1 x.v.1
  ·have e:iB f (eH f 5) i p x=pR f (eH f 5) p x:=by rw[iB,awU (fun h=>h h1),ax1 h2]
   have ht:=Vm (z:=z) hf (Dh hf 5) p hp x o hw (by have:=a3J x.c; omega) (by omega)
   simp only[Fr.mk',Fr.so,Fr.rc]at ht
   simp(disch:=omega) only[WW,h1,h2,e,ht]
  ·by_cases h3:(x.c i).2.1.1.1.1<p.1.1.1
   ·have e:iB f (eH f 5) i p x=_:=(awU (fun h=>h h1)).trans ((awU h2).trans (ax1 h3))
    simp(disch:=omega) only[WW,h1,h2,e,dY]
   ·have e:iB f (eH f 5) i p x=_:=(awU (fun h=>h h1)).trans ((awU h2).trans (awU h3))
    simp(disch:=omega) only[WW,h1,h2,e,dY]
 ·have e:iB f (eH f 5) i p x=gu (mG f p.1 x) fun y=>(y,[I4 f i p]):=ax1 h1
  have hm:=Vw (z:=z) hf p.1 x o (by omega)
  have hl:(mG f p.1 x).2.length≤3:=by unfold mG; split; exact xA _ 3; exact ay5 _
  have hs:=rC (z:=z) hf (mG f p.1 x).1 (apps o (mG f p.1 x).2) (by rw[gq]; omega) ((f.N+(i+1):Nat):Int) 7 p.2 f.key p.1.1 ByteArray.empty 0 (fun _=>.nil) 0 zNN
  simp only[Fr.mk',Fr.so,Fr.rc]at hm hs
  simp(disch:=omega) only[WW,h1,e,hm,eN,hs,gu,←iZ,HZ,I4]
theorem a3K(hf:f.Ok)(from_:Int)(h0:from_<9223372036854775808)(k op:Int)(key:ByteArray)(p:aF)(d:ByteArray)(nm:Nat)(m:Nat→SlV (Nat→Int))(ny:Nat)(y:Nat→(Nat→Int))(x:Rc)(o:iF)(hw:WFc x.c)(ho:o.1+10000<1000000000):
  j6 from_ k op key p d nm m ny y (f.mk' z x o)=some ((),f.mk' z (Es f (eH f 5) from_ p d x).1 (apps o (Es f (eH f 5) from_ p d x).2)):=by
 rw[qw]; unfold lJ
 have h5:HB 5=6534:=rfl
 have hput:=oL hf.n7 x.e from_ h0 p d
 by_cases h:okV f.N x.e from_ p
 ·have e:Es f (eH f 5) from_ p d x=_:=ax1 h
  have hl:=Lm (z:=z) hf (Dh hf 5) p d { x with e:=oK x.e from_ p d } o hw (by have:=a3J x.c; simp only; omega) (by omega)
  simp only[Fr.mk',Fr.so,Fr.rc]at hl
  rw[ax1 h]at hput
  simp(disch:=omega) only[WW,hput,h,e,hl]
 ·have e:Es f (eH f 5) from_ p d x=_:=awU h
  rw[awU h]at hput
  simp(disch:=omega) only[WW,hput,h,e,dY]
theorem a1G(hf:f.Ok)(from_:Int)(h0:from_<9223372036854775808)(k op:Int)(key:ByteArray)(p:aF)(d:ByteArray)(nm:Nat)(m:Nat→SlV (Nat→Int))(ny:Nat)(y:Nat→(Nat→Int))(x:Rc)(o:iF)(hw:WFc x.c)(ho:o.1+10000<1000000000):
  iM from_ k op key p d nm m ny y (f.mk' z x o)=some ((),f.mk' z (uh f (eH f 5) from_ p d x).1 (apps o (uh f (eH f 5) from_ p d x).2)):=by
 rw[oU]; unfold kE
 have h5:HB 5=6534:=rfl
 have hput:=oL hf.n7 x.r from_ h0 p d
 by_cases h:okV f.N x.r from_ p
 ·have e:uh f (eH f 5) from_ p d x=_:=ax1 h
  have hl:=Lm (z:=z) hf (Dh hf 5) p d { x with r:=oK x.r from_ p d } o hw (by have:=a3J x.c; simp only; omega) (by omega)
  simp only[Fr.mk',Fr.so,Fr.rc]at hl
  rw[ax1 h]at hput
  simp(disch:=omega) only[WW,hput,h,e,hl]
 ·have e:uh f (eH f 5) from_ p d x=_:=awU h
  rw[awU h]at hput
  simp(disch:=omega) only[WW,hput,h,e,dY]
end
open Go Go.Den Go.Num
structure Hd where
 g:GR
 P:Nat
 Q:Nat
 G:Nat
 T:Nat
 I:Nat
 N:Nat
structure Hd.Ok(h:Hd):Prop where
 grp:dF h.g h.P h.Q h.G
 T:1≤h.T∧h.T≤2
 N:h.N=3*h.T+1
 I:1≤h.I∧h.I≤h.N
@[reducible] def Hd.fr (h:Hd) (key:ByteArray):Fr:=⟨h.T,h.I,h.N,key⟩
theorem Hd.Ok.f {h:Hd}(hh:h.Ok)(key:ByteArray):(h.fr key).Ok:=⟨hh.T,hh.N,hh.I⟩
structure Sv where
 l:List (ByteArray×Rc)
 n:Nat
 ks:Nat→ByteArray
 u:List (Int×Int)
 o:iF
@[reducible] def Hd.sn (h:Hd) (b:BG) (o:iF):SN:=(h.g,((h.T:Int),((h.I:Int),((h.N:Int),((3:Int),((),(b,o)))))))
@[reducible] def Hd.sp (h:Hd) (n:Nat) (ks:Nat→ByteArray) (u:List (Int×Int)):SP:=((h.N:Int),((3:Int),((n,ks),u)))
@[reducible] def Hd.mk' (h:Hd) (s:Sv):SS:=(h.sn (rZ h.N s.l) s.o,(h.sp s.n s.ks s.u,()))
structure Sv.Ok(s:Sv):Prop where
 srt:qI s.n s.ks
 few:s.n<1000
 wf: ∀e∈s.l,WFc e.2.c
def dz(h:Hd)(from_ k:Int)(st:aF):Prop:=
 (k=1∨k=2∨k=8)∧((h.N:Int)<from_∧from_≤h.N+3)∨k=4∧((h.N:Int)<from_∧from_≤h.N+3)∧st.2=from_-h.N∨(k=5∨k=6)∧1≤from_∧from_≤h.N∧from_≠h.I
open Classical in
theorem a1H {h:Hd}(hh:h.Ok) {from_:Int}(hf: -9223372036854775808≤from_∧from_<9223372036854775808)(k op:Int)(key:ByteArray)(st:aF)(dg:ByteArray)(nm:Nat)(m:Nat→SlV (Nat→Int))(ny:Nat)(y:Nat→(Nat→Int))(s:Sv):
  iJ from_ k op key st dg nm m ny y (h.mk' s)=some ((decide (dz h from_ k st),()),h.mk' s):=by
 rw[oQ]; unfold kD
 have hT:=hh.T
 have hN:=hh.N
 extract_lets-underBinder q
 have hq: ∀b:Bool,(b=true↔((h.N:Int)<from_∧from_≤h.N+3))→q ((b,()),())=some ((decide (dz h from_ k st),()),h.mk' s):=by
  intro b hb
  unfold q
  extract_lets-underBinder c q1
  have h7:(k=1∨k=2∨k=4∨k=5∨k=6∨k=8)∨(k≠1∧k≠2∧k≠4∧k≠5∧k≠6∧k≠8):=by omega
  rcases h7 with(rfl|rfl|rfl|rfl|rfl|rfl)|⟨a1,a2,a4,a5,a6,a8⟩
  ·have e:decide (dz h from_ 1 st)=b:=by
    rw[ayI,axm,hb]; simp[dz]
   simp only[q1,c,e]; rfl
  ·have e:decide (dz h from_ 2 st)=b:=by
    rw[ayI,axm,hb]; simp[dz]
   simp only[q1,c,e]; rfl
  ·have e:decide (dz h from_ 4 st)=(b&&(st.2==IntKind.i64.wrap (from_-h.N))):=by
    rw[ayI,axm,awV,hb,azw]; simp only[dz]
    constructor
    ·rintro (h|h|h)
     ·omega
     ·refine⟨h.2.1,?_⟩; rw[wrap_i64 (by omega)]; exact h.2.2
     ·omega
    ·rintro ⟨h1,h2⟩
     rw[wrap_i64 (by omega)]at h2
     exact .inr (.inl ⟨by trivial,h1,h2⟩)
   simp only[q1,c,e]
   cases b<;>rfl
  ·have e:decide (dz h from_ 5 st)=decide (1≤from_∧from_≤h.N∧from_≠h.I):=by simp[dz]
   simp only[q1,c,e]
   by_cases c1:1≤from_<;>by_cases c2:from_≤(h.N:Int)<;>by_cases c3:from_=(h.I:Int)<;>simp[c1,c2,c3]
  ·have e:decide (dz h from_ 6 st)=decide (1≤from_∧from_≤h.N∧from_≠h.I):=by simp[dz]
   simp only[q1,c,e]
   by_cases c1:1≤from_<;>by_cases c2:from_≤(h.N:Int)<;>by_cases c3:from_=(h.I:Int)<;>simp[c1,c2,c3]
  ·have e:decide (dz h from_ 8 st)=b:=by
    rw[ayI,axm,hb]; simp[dz]
   simp only[q1,c,e]; rfl
  ·have e:decide (dz h from_ k st)=false:=by
    rw[decide_eq_false_iff_not]; simp only[dz]; omega
   simp only[q1,c,e,iA a1,iA a2,iA a4,iA a5,iA a6,iA a8,bF]
 clear_value q
 have e3:IntKind.i64.wrap ((h.N:Int)+3)=(h.N:Int)+3:=wrap_i64 (by omega)
 by_cases c1:(h.N:Int)<from_
 ·simp only[dM (show from_>(h.N:Int)from c1),bB,e3]
  exact hq _ (by rw[axm]; exact⟨fun h=>⟨c1,h⟩,fun h=>h.2⟩)
 ·simp only[bG (show¬from_>(h.N:Int)from c1),bF]
  exact hq _ ⟨fun h=>by simp at h,fun h=>absurd h.1 c1⟩
def I7(h:Hd)(from_ k op:Int)(key:ByteArray)(st:aF)(dg:ByteArray)(M:List (List Nat))(L:List Nat):Prop:=
 wOk k op key st dg M L.length∧dz h from_ k st∧((k=4∨k=8)→Pq h.P h.Q (h.T:Int) M∧ug h.P h.Q h.G M (h.I:Int) L)
@[reducible] def Hd.opn (h:Hd) (key:ByteArray) (from_:Int) (s:Sv):=uD key from_ (h.N:Int) 3 s.n s.ks s.u
open Classical in
theorem a1I {h:Hd}(hh:h.Ok) {from_:Int}(hf: -9223372036854775808≤from_∧from_<9223372036854775808)(k op:Int)(key:ByteArray)(st:aF)(dg:ByteArray) {nm:Nat} {m:Nat→SlV (Nat→Int)} {M:List (List Nat)}(hm:jg nm m M) {ny:Nat} {y:Nat→(Nat→Int)} {L:List Nat}(hy:yu ny y L)(hn:nm<1000000000)(hny:ny<1000000000) {s:Sv}(hs:s.Ok):
  jV from_ k op key st dg nm m ny y (h.mk' s)=some (if I7 h from_ k op key st dg M L then(((h.opn key from_ s).1.2.2.1==0,()),(h.sn (rZ h.N s.l) s.o,((h.opn key from_ s).2.1,())))else((false,()),h.mk' s)):=by
 rw[tQ]; unfold nL
 have hC:=Rw (k:=k) (op:=op) (key:=key) (st:=st) (dg:=dg) hm (y:=y) hn hny
 have hy1:=hy.1
 subst hy1
 have hS:=a1H hh hf k op key st dg nm m L.length y s
 have hO:=a1z hs.srt hs.few key from_ (h.N:Int) 3 s.u
 simp only[Dj]at hC
 simp-zeta-letToHave only[hC]
 unfold I7
 by_cases c1:wOk k op key st dg M L.length
 ·by_cases c2:dz h from_ k st
  ·simp-zeta-letToHave only[ax1 c1,hS,dM c2,ayl,bF]
   extract_lets-underBinder r1 t k3 k1
   have hk3:k3 ((),())=some (((h.opn key from_ s).1.2.2.1==0,()),(h.sn (rZ h.N s.l) s.o,((h.opn key from_ s).2.1,()))):=by
    unfold k3
    simp only[hO]
   clear_value k3
   show(bif t then _ else bif (k==4)then k1 ((true,()),())else k1 (((k==8),()),()))=_
   by_cases c3:k=4∨k=8
   ·have hM:=Rv hh.grp (t:=(h.T:Int)) (by have:=hh.T; omega) hm (by omega)
    have hH:=NT hh.grp hm (by omega) (i:=(h.I:Int)) hy
    have hk1:k1 ((true,()),())=some (if Pq h.P h.Q (h.T:Int) M∧ug h.P h.Q h.G M (h.I:Int) L then(((h.opn key from_ s).1.2.2.1==0,()),(h.sn (rZ h.N s.l) s.o,((h.opn key from_ s).2.1,())))else((false,()),h.mk' s)):=by
     unfold k1
     by_cases c4:Pq h.P h.Q (h.T:Int) M
     ·by_cases c5:ug h.P h.Q h.G M (h.I:Int) L
      ·rw[ax1 ⟨c4,c5⟩]
       simp only[bB,hM,hH,dM c4,dM c5,ay1,bF,hk3]
      ·rw[awU fun h=>c5 h.2]
       simp only[bB,hM,hH,dM c4,bG c5,ay1,ayA,bF,bB]
     ·rw[awU fun h=>c4 h.1]
      simp only[bB,hM,bG c4,ayA,bB]
    clear_value k1
    have e:((wOk k op key st dg M L.length∧dz h from_ k st∧((k=4∨k=8)→Pq h.P h.Q (h.T:Int) M∧ug h.P h.Q h.G M (h.I:Int) L))↔(Pq h.P h.Q (h.T:Int) M∧ug h.P h.Q h.G M (h.I:Int) L)):=⟨fun h=>h.2.2 c3,fun h=>⟨c1,c2,fun _=>h⟩⟩
    simp only[e]
    rcases c3 with rfl|rfl
    ·exact hk1
    ·exact hk1
   ·have e:(wOk k op key st dg M L.length∧dz h from_ k st∧((k=4∨k=8)→Pq h.P h.Q (h.T:Int) M∧ug h.P h.Q h.G M (h.I:Int) L)):=⟨c1,c2,fun h=>absurd h c3⟩
    rw[ax1 e,iA (fun h=>c3 (.inl h)),iA (fun h=>c3 (.inr h)),bF]
    unfold k1
    simp only[bF,hk3]
    rfl
  ·rw[awU (fun hx:_∧_∧_=>c2 hx.2.1)]
   simp only[ax1 c1,hS,bG c2]
   rfl
 ·rw[awU (fun hx:_∧_∧_=>c1 hx.1)]
  simp only[awU c1]
  rfl
def frz(o:iF):iF:=(o.1,fun j=>o.2 (0+j))
def jA(h:Hd)(from_ k op:Int)(key:ByteArray)(st:aF)(dg:ByteArray)(v:VA)(x:Rc):RcW:=
 if k=1 then Bn (h.fr key) (from_-h.N-1).toNat op x
 else if k=2 then Ls (from_-h.N-1).toNat op x
 else if k=5 then Es (h.fr key) (eH (h.fr key) 5) from_ st dg x
 else if k=6 then uh (h.fr key) (eH (h.fr key) 5) from_ st dg x
 else if k=8 then mG (h.fr key) v x
 else iB (h.fr key) (eH (h.fr key) 5) (from_-h.N-1).toNat (v,op) x
def aa4(h:Hd)(key:ByteArray)(x:Rc):RD×(VT×(VT×Unit)):=((x.v,(key,(.nil,(.nil,x.c)))),(((h.N:Int),x.e),(((h.N:Int),x.r),())))
def arX:RD×(VT×(VT×Unit)):=(tRC.zero,Ry (aW tRC))
theorem abh {a b c d:Bool}(h:Vu a b c d=13):a=true∧b=false∧c=true∧d=true:=by
 revert h; cases a<;>cases b<;>cases c<;>cases d<;>decide
theorem aiI {a b c d:Bool}(h:Vu a b c d=3):a=true∧b=true∧c=false∧d=false:=by
 revert h; cases a<;>cases b<;>cases c<;>cases d<;>decide
theorem aiJ {a b c d:Bool}(h:Vu a b c d=8):a=false∧b=false∧c=false∧d=true:=by
 revert h; cases a<;>cases b<;>cases c<;>cases d<;>decide
theorem a3L {k op:Int} {key:ByteArray} {st:aF} {dg:ByteArray} {M:List (List Nat)} {ny:Nat}(h:wOk k op key st dg M ny)(hk:k=4∨k=8):lU st∧ny=M.length∧iH M≠ []∧1≤op∧op≤1048576∧dg.size=0:=by
 obtain⟨_,h2,h3⟩:=h
 have hc:Vu (kL op st dg M.length ny).st (kL op st dg M.length ny).dg (kL op st dg M.length ny).mx (kL op st dg M.length ny).op=13:=by
  unfold Vv at h3; omega
 obtain⟨a1,a2,a3,a4⟩:=abh hc
 have m:=h2.2.2.1 a3
 have o:=h2.2.2.2 a4
 refine⟨h2.1 a1,m.1,m.2,o.1,o.2,?_⟩
 have:sEq dg (ByteArray.mk #[])=true:=by simpa [kL]using a2
 rw[(u7 _ _).1 this]; rfl
theorem Pt {h:Hd} {from_:Int}(hc:(h.N:Int)<from_∧from_≤h.N+3): ∃i:Nat,i<3∧from_=((h.N+(i+1):Nat):Int)∧(from_-h.N-1).toNat=i:=
 ⟨(from_-h.N-1).toNat,by omega,by omega,rfl⟩
section
variable {h:Hd}
open Classical in
theorem step_ok(hh:h.Ok) {from_:Int}(hf: -9223372036854775808≤from_∧from_<9223372036854775808) {k op:Int} {key:ByteArray} {st:aF} {dg:ByteArray} {nm:Nat} {m:Nat→SlV (Nat→Int)} {M:List (List Nat)}(hm:jg nm m M) {ny:Nat} {y:Nat→(Nat→Int)} {L:List Nat}(hy:yu ny y L)(hn:nm<1000000000)(hny:ny<1000000000) {s:Sv}(hs:s.Ok) {D:ByteArray}(hD:qj nm m=some D)
  (hmay:I7 h from_ k op key st dg M L) (hopn:(h.opn key from_ s).1.2.2.1=0) {n':Nat} {ks':Nat→ByteArray} {u':List (Int×Int)} (hsp:(h.opn key from_ s).2.1=h.sp n' ks' u'):
  aN from_ k op key st dg nm m ny y (h.mk' s)=some (((frz (apps zNO (jA h from_ k op key st dg (st,(D,((nm,m),(ny,y)))) (Ai s.l key)).2),()),h.mk' ⟨Jh s.l key (jA h from_ k op key st dg (st,(D,((nm,m),(ny,y)))) (Ai s.l key)).1,n',ks',u',frz (apps zNO (jA h from_ k op key st dg (st,(D,((nm,m),(ny,y)))) (Ai s.l key)).2)⟩)):=by
 rw[kF]; unfold fZ
 have hMay:=a1I hh hf k op key st dg hm hy hn hny hs
 rw[ax1 hmay,hopn,hsp]at hMay
 have hg:=(hh.f key).n7
 simp-zeta-letToHave only[hMay,axY]
 extract_lets-underBinder r K
 have hK: ∀(bj:BG×Nat) (x:Rc),WFc x.c→K ((),((h.g,((h.T:Int),((h.I:Int),((h.N:Int),((3:Int),((),(bj,()))))))),((h.fr key).rc x,(((h.N:Int),x.e),(((h.N:Int),x.r),())))))=
   some (((frz (apps zNO (jA h from_ k op key st dg (st,(D,((nm,m),(ny,y)))) x).2),()),(h.sn (List.modify bj.1 bj.2 fun e=>(e.1,aa4 h key (jA h from_ k op key st dg (st,(D,((nm,m),(ny,y)))) x).1)) (frz (apps zNO (jA h from_ k op key st dg (st,(D,((nm,m),(ny,y)))) x).2)),(h.sp n' ks' u',())))):=by
  intro bj x hw
  let z:Fx:=⟨h.g,bj,h.sp n' ks' u'⟩
  have hF:=hh.f key
  unfold K
  rcases(show k=1∨k=2∨k=4∨k=5∨k=6∨k=8 by have:=hmay.2.1; unfold dz at this; omega)with rfl|rfl|rfl|rfl|rfl|rfl
  ·obtain⟨i,hi,rfl,e0⟩:=Pt (h:=h) (from_:=from_) (by have:=hmay.2.1; unfold dz at this; omega)
   have e1:IntKind.i64.wrap ((((h.N+(i+1):Nat):Int))-(h.N:Int))=((i+1:Nat):Int):=by rw[wrap_i64 (by omega)]; omega
   have e2:IntKind.i64.wrap (((i+1:Nat):Int)-1)=(i:Int):=by rw[wrap_i64 (by omega)]; omega
   have e3:IntKind.i64.wrap ((h.N:Int)+((i+1:Nat):Int))=((h.N+(i+1):Nat):Int):=wrap_i64 (by omega)
   have es:jA h ((h.N+(i+1):Nat):Int) 1 op key st dg (st,(D,((nm,m),(ny,y)))) x=Bn (h.fr key) i op x:=by rw[jA,ax1 rfl,e0]
   rw[es]
   by_cases c1:(x.c i).2.2.2<op
   ·by_cases c2:(x.c i).2.2.1≤op
    ·have e:Bn (h.fr key) i op x=_:=ax1 ⟨c1,c2⟩
     have hs:=rC (z:=z) hF { x with c:=upd x.c i ((x.c i).1,((x.c i).2.1,(op,(x.c i).2.2.2))) } zNO (by decide) ((h.N+(i+1):Nat):Int) 3 (upd x.c i ((x.c i).1,((x.c i).2.1,(op,(x.c i).2.2.2))) i).2.2.1 key x.v.1 x.v.2.1 x.v.2.2.1.1 x.v.2.2.1.2 x.v.2.2.2.1 x.v.2.2.2.2
     simp only[Fr.mk',Fr.so,Fr.rc,z]at hs
     by_cases c3:0<(upd x.c i ((x.c i).1,((x.c i).2.1,(op,(x.c i).2.2.2))) i).2.2.1
     ·simp(disch:=omega) only[WW,axY,e1,e2,e3,c1,c2,c3,e,hs,NN,ax1,HZ,stP]
      rfl
     ·simp(disch:=omega) only[WW,axY,e1,e2,e3,c1,c2,c3,e,NN,awU,not_false_eq_true,dY]
      rfl
    ·have e:Bn (h.fr key) i op x=(x,[]):=awU fun h=>c2 h.2
     simp(disch:=omega) only[WW,axY,e1,e2,e3,c1,c2,e,dY]
     rfl
   ·have e:Bn (h.fr key) i op x=(x,[]):=awU fun h=>c1 h.1
    simp(disch:=omega) only[WW,axY,e1,e2,e3,c1,e,dY]
    rfl
  ·obtain⟨i,hi,rfl,e0⟩:=Pt (h:=h) (from_:=from_) (by have:=hmay.2.1; unfold dz at this; omega)
   have e1:IntKind.i64.wrap ((((h.N+(i+1):Nat):Int))-(h.N:Int))=((i+1:Nat):Int):=by rw[wrap_i64 (by omega)]; omega
   have e2:IntKind.i64.wrap (((i+1:Nat):Int)-1)=(i:Int):=by rw[wrap_i64 (by omega)]; omega
   have es:jA h ((h.N+(i+1):Nat):Int) 2 op key st dg (st,(D,((nm,m),(ny,y)))) x=Ls i op x:=by rw[jA,awU (by decide),ax1 rfl,e0]
   rw[es]
   have eu:(xW x.c i op i).2.2.1=(x.c i).2.2.1:=by rw[xW,upd_same]
   by_cases c2:(x.c i).2.2.1≤op
   ·have e:Ls i op x=_:=ax1 c2
    have c2':(xW x.c i op i).2.2.1≤op:=by rw[eu]; exact c2
    simp only[xW]at c2' e
    simp(disch:=omega) only[WW,axY,show((2:Int)==1)=false from rfl,e1,e2,c2',e,dY]
    rfl
   ·have e:Ls i op x=_:=awU c2
    have c2': ¬(xW x.c i op i).2.2.1≤op:=by rw[eu]; exact c2
    simp only[xW]at c2' e
    simp(disch:=omega) only[WW,axY,show((2:Int)==1)=false from rfl,e1,e2,c2',e,dY]
    rfl
  ·obtain⟨i,hi,rfl,e0⟩:=Pt (h:=h) (from_:=from_) (by have:=hmay.2.1; unfold dz at this; omega)
   have e1:IntKind.i64.wrap ((((h.N+(i+1):Nat):Int))-(h.N:Int))=((i+1:Nat):Int):=by rw[wrap_i64 (by omega)]; omega
   have es:jA h ((h.N+(i+1):Nat):Int) 4 op key st dg (st,(D,((nm,m),(ny,y)))) x=iB (h.fr key) (eH (h.fr key) 5) i ((st,(D,((nm,m),(ny,y)))),op) x:=by rw[jA,awU (by decide),awU (by decide),awU (by decide),awU (by decide),awU (by decide),e0]
   rw[es]
   have hp:=X7 (z:=z) hF hi ((st,(D,((nm,m),(ny,y)))),op) (a3L hmay.1 (.inl rfl)).1 x zNO hw (by decide)
   simp only[Fr.mk',Fr.so,Fr.rc,z]at hp
   simp(disch:=omega) only[WW,axY,show((4:Int)==1)=false from rfl,show((4:Int)==2)=false from rfl,show((4:Int)==5)=false from rfl,show((4:Int)==6)=false from rfl,show((4:Int)==8)=false from rfl,e1,hD,hp]
   rfl
  ·have es:jA h from_ 5 op key st dg (st,(D,((nm,m),(ny,y)))) x=Es (h.fr key) (eH (h.fr key) 5) from_ st dg x:=by rw[jA,awU (by decide),awU (by decide),ax1 rfl]
   rw[es]
   have hp:=a3K (z:=z) hF from_ hf.2 5 op key st dg nm m ny y x zNO hw (by decide)
   simp only[Fr.mk',Fr.so,Fr.rc,z]at hp
   simp(disch:=omega) only[WW,axY,show((5:Int)==1)=false from rfl,show((5:Int)==2)=false from rfl,hp]
   rfl
  ·have es:jA h from_ 6 op key st dg (st,(D,((nm,m),(ny,y)))) x=uh (h.fr key) (eH (h.fr key) 5) from_ st dg x:=by rw[jA,awU (by decide),awU (by decide),awU (by decide),ax1 rfl]
   rw[es]
   have hp:=a1G (z:=z) hF from_ hf.2 6 op key st dg nm m ny y x zNO hw (by decide)
   simp only[Fr.mk',Fr.so,Fr.rc,z]at hp
   simp(disch:=omega) only[WW,axY,show((6:Int)==1)=false from rfl,show((6:Int)==2)=false from rfl,show((6:Int)==5)=false from rfl,hp]
   rfl
  ·have es:jA h from_ 8 op key st dg (st,(D,((nm,m),(ny,y)))) x=mG (h.fr key) (st,(D,((nm,m),(ny,y)))) x:=by rw[jA,awU (by decide),awU (by decide),awU (by decide),awU (by decide),ax1 rfl]
   rw[es]
   have hp:=Vw (z:=z) hF (st,(D,((nm,m),(ny,y)))) x zNO (by decide)
   simp only[Fr.mk',Fr.so,Fr.rc,z]at hp
   simp(disch:=omega) only[WW,axY,show((8:Int)==1)=false from rfl,show((8:Int)==2)=false from rfl,show((8:Int)==5)=false from rfl,show((8:Int)==6)=false from rfl,hD,hp]
   rfl
 clear_value K
 simp only[r,ay1,bF,NV,J2]
 cases hl:s.l[gD s.l key]? with
 |none=>
  have hv:lG (h.N:Int)=some (((),(0,())),(((h.N:Int),nV),())):=by
   rw[F6]; unfold BX
   have hN:=hh.N; have hT:=hh.T
   simp(disch:=omega) only[WW]
   rfl
  have hg:Ai s.l key=newR:=by unfold Ai; rw[hl]
  have hp: ∀x,Jh s.l key x=s.l++[(key,x)]:=fun x=>by unfold Jh; rw[hl]
  have hix:=a3I hl
  have h0:(rZ h.N s.l)[bidx .str (rZ h.N s.l) key]?=none:=by rw[NV,J2,hl]; rfl
  have hb:(VU .str tRC (rZ h.N s.l) key:BG)=(rZ h.N s.l++[(key,arX)]:BG):=SE (k:=.str) (t:=tRC) (l:=rZ h.N s.l) (x:=key) h0
  simp only[Option.map_none,hv]
  rw[hb]
  refine(hK ((rZ h.N s.l++[(key,arX)]:BG),gD s.l key) newR (fun i _ hp=>absurd hp (by show¬((0:Int)<0); decide))).trans ?_
  rw[hg,hp,hix]
  congr 4
  apply axV
  intro j
  have e1:(rZ h.N s.l).length=s.l.length:=by simp[rZ]
  simp only[ayD,rZ,List.map_append,List.getElem?_append,azi]
  by_cases c1:j<s.l.length
  ·simp[c1,show¬s.l.length=j by omega]
  ·by_cases c2:s.l.length=j
   ·subst c2; simp[ZL,aa4]
   ·obtain⟨i,hi⟩: ∃i,j-s.l.length=i+1:=⟨j-s.l.length-1,by omega⟩
    simp[c1,c2,hi]
 |some q=>
  have hk:=vU hl
  have hg:Ai s.l key=q.2:=by unfold Ai; rw[hl]
  have hp: ∀x,Jh s.l key x=s.l.modify (gD s.l key) (fun e=>(e.1,x)):=fun x=>by unfold Jh; rw[hl]
  simp only[axZ,ZL,hk]
  refine(hK (rZ h.N s.l,gD s.l key) q.2 (hs.wf q (axO hl))).trans ?_
  rw[hg,hp]
  have:=abg h.N s.l (gD s.l key) key (jA h from_ k op key st dg (st,(D,((nm,m),(ny,y)))) q.2).1 (fun e he=>by rw[hl]at he; cases he; exact hk)
  simp only[aa4,this]
open Classical in
theorem abj(hh:h.Ok) {from_:Int}(hf: -9223372036854775808≤from_∧from_<9223372036854775808) {k op:Int} {key:ByteArray} {st:aF} {dg:ByteArray} {nm:Nat} {m:Nat→SlV (Nat→Int)} {M:List (List Nat)}(hm:jg nm m M) {ny:Nat} {y:Nat→(Nat→Int)} {L:List Nat}(hy:yu ny y L)(hn:nm<1000000000)(hny:ny<1000000000) {s:Sv}(hs:s.Ok)
  (hmay: ¬(I7 h from_ k op key st dg M L∧(h.opn key from_ s).1.2.2.1=0)):aN from_ k op key st dg nm m ny y (h.mk' s)=some ((zNO,()),h.mk' s):=by
 rw[kF]; unfold fZ
 have hMay:=a1I hh hf k op key st dg hm hy hn hny hs
 by_cases c:I7 h from_ k op key st dg M L
 ·have c2:(h.opn key from_ s).1.2.2.1≠0:=fun e=>hmay ⟨c,e⟩
  rw[ax1 c,iA c2]at hMay
  have hst:(h.opn key from_ s).2.1=h.sp s.n s.ks s.u:=by
   revert c2
   unfold Hd.opn uD
   split
   ·intro _; rfl
   ·split
    ·intro h; exact absurd rfl h
    ·split
     ·intro _; rfl
     ·intro h; exact absurd rfl h
  rw[hst]at hMay
  simp only[hMay]
  rfl
 ·rw[awU c]at hMay
  simp only[hMay]
  rfl
end
open Go Go.Den Go.Num
def nU(f:Fr)(k:Int)(c:QO):List OU:=if 0<c.1.1 then Ep f k c.1 c.2 else []
def Y3(f:Fr)(x:Rc)(c:Nat):List OU:=
 nU f 5 (atT f.N x.e f.I ((c+1:Nat):Int) 0)++(nU f 6 (atT f.N x.r f.I ((c+1:Nat):Int) 0)++(nU f 5 (atT f.N x.e f.I ((c+1:Nat):Int) 1)++nU f 6 (atT f.N x.r f.I ((c+1:Nat):Int) 1)))
def Vx(f:Fr)(x:Rc):Nat→List OU
 |0=>[]
 |n+1=>Vx f x n++Y3 f x n
def a1J(f:Fr)(x:Rc):List OU:=Vx f x 3++Ru f x
section
variable {f:Fr} {z:Fx}
theorem Dk(hf:f.Ok)(k:Int)(c:QO):(nU f k c).length≤7:=by
 unfold nU; split
 ·exact NR hf _ _ _
 ·exact ay5 _
theorem a6g(hf:f.Ok)(x:Rc)(c:Nat):(Y3 f x c).length≤28:=by
 have h1:=Dk hf 5 (atT f.N x.e f.I ((c+1:Nat):Int) 0)
 have h2:=Dk hf 6 (atT f.N x.r f.I ((c+1:Nat):Int) 0)
 have h3:=Dk hf 5 (atT f.N x.e f.I ((c+1:Nat):Int) 1)
 have h4:=Dk hf 6 (atT f.N x.r f.I ((c+1:Nat):Int) 1)
 simp only[Y3,axa]; omega
theorem J3(hf:f.Ok)(x:Rc): ∀n,(Vx f x n).length≤28*n
 |0=>ax5 _
 |n+1=>by have:=J3 hf x n; have:=a6g hf x n; rw[Vx,axa]; omega
theorem a6h(hf:f.Ok)(x:Rc):(a1J f x).length≤87:=by
 have:=J3 hf x 3; have:=xA (f:=f) x 3
 rw[a1J,axa,Ru]; omega
@[reducible] def Fr.lt (f:Fr) (z:Fx) (x:Rc) (o:iF):SO×(SP×(Unit×(RC×(VT×(VT×(Unit×Unit)))))):=(f.so z o,(z.sp,((),(f.rc x,(((f.N:Int),x.e),(((f.N:Int),x.r),((),())))))))
@[reducible] def Fr.lj (f:Fr) (z:Fx) (x:Rc) (o:iF):SO×(SP×CR):=(f.so z o,(z.sp,(f.rc x,(((f.N:Int),x.e),(((f.N:Int),x.r),())))))
theorem a3M(hf:f.Ok)(x:Rc)(o:iF)(ho:o.1+28<1000000000) {i:Nat}(hi:i<3):
  bL (aZ 3 (i:Int) (f.lt z x o))=some (.inl (aZ 3 ((i+1:Nat):Int) (f.lt z x (apps o (Y3 f x i))))):=by
 have hn:=hf.n7
 have ei:IntKind.i64.wrap ((i:Int)+1)=((i+1:Nat):Int):=wrap_i64 (by omega)
 dsimp-zeta only[bL,aZ,Fr.lt,Fr.so,Fr.rc]
 extract_lets-underBinder t t1 k1 k
 rw[show decide (t1<t)=true from ax6 (show(i:Int)<3 by omega),show inb t1 4=true from K7 (by show(0:Int)≤i∧(i:Int)<((4:Nat):Int); omega),bB,bB]
 have sv: ∀(q:iF),q.1+7<1000000000→ ∀(k:Int) (c:QO),bD k c.1 c.2 (f.so z q,(f.rc x,(((f.N:Int),x.e),(((f.N:Int),x.r),(z.sp,())))))=some ((),(f.so z (apps q (Ep f k c.1 c.2)),(f.rc x,(((f.N:Int),x.e),(((f.N:Int),x.r),(z.sp,())))))):=fun q hq k c=>Er hf x q hq k c.1 c.2
 have lenP: ∀k c,(nU f k c).length≤7:=Dk hf
 have hk1: ∀q:iF,q.1+14<1000000000→k1 ((),f.lj z x q)=some (.inl (aZ 3 ((i+1:Nat):Int) (f.lt z x (apps (apps q (nU f 5 (atT f.N x.e f.I ((i+1:Nat):Int) 1))) (nU f 6 (atT f.N x.r f.I ((i+1:Nat):Int) 1)))))):=by
  intro q hq
  unfold k1
  extract_lets-underBinder k2
  have hk2: ∀q:iF,q.1+7<1000000000→k2 ((),f.lj z x q)=some (.inl (aZ 3 ((i+1:Nat):Int) (f.lt z x (apps q (nU f 6 (atT f.N x.r f.I ((i+1:Nat):Int) 1)))))):=by
   intro q hq
   unfold k2
   have hs:=sv q hq 6 (atT f.N x.r f.I ((i+1:Nat):Int) 1)
   simp only[t1,t,ei,wI hn]
   by_cases c:0<(atT f.N x.r f.I ((i+1:Nat):Int) 1).1.1
   ·have e:nU f 6 (atT f.N x.r f.I ((i+1:Nat):Int) 1)=_:=ax1 c
    simp(disch:=omega) only[WW,c,e,hs,aZ]
   ·have e:nU f 6 (atT f.N x.r f.I ((i+1:Nat):Int) 1)=_:=awU c
    simp(disch:=omega) only[WW,c,e,dY,aZ]
  clear_value k2
  have hs:=sv q (by omega) 5 (atT f.N x.e f.I ((i+1:Nat):Int) 1)
  have hl:=lenP 5 (atT f.N x.e f.I ((i+1:Nat):Int) 1)
  simp only[t1,ei,wI hn]
  by_cases c:0<(atT f.N x.e f.I ((i+1:Nat):Int) 1).1.1
  ·have e:nU f 5 (atT f.N x.e f.I ((i+1:Nat):Int) 1)=_:=ax1 c
   rw[e]at hl⊢
   simp(disch:=omega) only[WW,c,hs]
   exact hk2 _ (by rw[gq]; omega)
  ·have e:nU f 5 (atT f.N x.e f.I ((i+1:Nat):Int) 1)=_:=awU c
   rw[e]
   simp(disch:=omega) only[WW,c]
   exact hk2 q (by omega)
 clear_value k1
 have hk: ∀q:iF,q.1+21<1000000000→k ((),f.lj z x q)=some (.inl (aZ 3 ((i+1:Nat):Int) (f.lt z x (apps (apps (apps q (nU f 6 (atT f.N x.r f.I ((i+1:Nat):Int) 0))) (nU f 5 (atT f.N x.e f.I ((i+1:Nat):Int) 1))) (nU f 6 (atT f.N x.r f.I ((i+1:Nat):Int) 1)))))):=by
  intro q hq
  unfold k
  have hs:=sv q (by omega) 6 (atT f.N x.r f.I ((i+1:Nat):Int) 0)
  have hl:=lenP 6 (atT f.N x.r f.I ((i+1:Nat):Int) 0)
  simp only[t1,ei,wI hn]
  by_cases c:0<(atT f.N x.r f.I ((i+1:Nat):Int) 0).1.1
  ·have e:nU f 6 (atT f.N x.r f.I ((i+1:Nat):Int) 0)=_:=ax1 c
   rw[e]at hl⊢
   simp(disch:=omega) only[WW,c,hs]
   exact hk1 _ (by rw[gq]; omega)
  ·have e:nU f 6 (atT f.N x.r f.I ((i+1:Nat):Int) 0)=_:=awU c
   rw[e]
   simp(disch:=omega) only[WW,c]
   exact hk1 q (by omega)
 clear_value k
 have hs:=sv o (by omega) 5 (atT f.N x.e f.I ((i+1:Nat):Int) 0)
 have hl:=lenP 5 (atT f.N x.e f.I ((i+1:Nat):Int) 0)
 rw[Y3,←iZ,←iZ,←iZ]
 simp only[t1,ei,wI hn]
 by_cases c:0<(atT f.N x.e f.I ((i+1:Nat):Int) 0).1.1
 ·have e:nU f 5 (atT f.N x.e f.I ((i+1:Nat):Int) 0)=_:=ax1 c
  rw[e]at hl⊢
  simp(disch:=omega) only[WW,c,hs]
  exact hk _ (by rw[gq]; omega)
 ·have e:nU f 5 (atT f.N x.e f.I ((i+1:Nat):Int) 0)=_:=awU c
  rw[e]
  simp(disch:=omega) only[WW,c]
  exact hk o (by omega)
end
def Sv.Full(s:Sv):Prop:= ∀i,i<s.n→ ∃e,s.l[gD s.l (s.ks i)]?=some e
def Bo(h:Hd)(s:Sv):Nat→List OU
 |0=>[]
 |n+1=>Bo h s n++a1J (h.fr (s.ks n)) (Ai s.l (s.ks n))
def a4H(h:Hd)(s:Sv):List OU:=Bo h s s.n
theorem Pv {h:Hd}(hh:h.Ok)(s:Sv): ∀n,(Bo h s n).length≤87*n
 |0=>ax5 _
 |n+1=>by have:=Pv hh s n; have:=a6h (hh.f (s.ks n)) (Ai s.l (s.ks n)); rw[Bo,axa]; omega
theorem QU {α:Type}(l:List α)(i:Nat)(g:α→α)(h: ∀e,l[i]?=some e→g e=e):l.modify i g=l:=by
 apply axV
 intro j
 rw[ayD]
 by_cases e:i=j
 ·subst e
  cases hj:l[i]? with
  |none=>rfl
  |some q=>simp[h q hj]
 ·simp[e]
theorem a6i {h:Hd}(hh:h.Ok) {s:Sv}(hs:s.Ok)(hf:s.Full):bT (h.mk' s)=some (((frz (apps zNO (a4H h s))),()),h.mk' { s with o:=frz (apps zNO (a4H h s)) }):=by
 rw[rW]; unfold jd
 have hK:eG (h.N:Int) 3 s.n s.ks s.u=some (((s.n,(fun j=>s.ks (0+j))),()),(h.sp s.n s.ks s.u,())):=by
  rw[j5]; unfold jU
  have:=hs.few
  rw[ax2 (by omega),bB]
 obtain⟨o,h1,rfl⟩:=aO (R:=dn) (S:=iF)
  (fun i o=>jM s.n (fun j=>s.ks (0+j)) (s.n:Int) (i:Int) (h.sn (rZ h.N s.l) o,(h.sp s.n s.ks s.u,((),()))))
  (fun o=>zR (h.sn (rZ h.N s.l) o,(h.sp s.n s.ks s.u,((),()))))
  (fun i o=>o=apps zNO (Bo h s i)) s.n
  (fun i hi o ho=>by
   subst ho
   obtain⟨e,he⟩:=hf i hi
   have hk:=vU he
   have hg:Ai s.l (s.ks i)=e.2:=by unfold Ai; rw[he]
   have hF:=hh.f (s.ks i)
   have hfew:=hs.few
   have hlen:=Pv hh s i
   let z:Fx:=⟨h.g,(rZ h.N s.l,gD s.l (s.ks i)),h.sp s.n s.ks s.u⟩
   obtain⟨o1,p1,rfl⟩:=aO (R:=bL) (S:=iF)
    (fun j o=>aZ 3 (j:Int) ((h.fr (s.ks i)).lt z e.2 o)) (fun o=>((),(h.fr (s.ks i)).lt z e.2 o))
    (fun j o=>o=apps (apps zNO (Bo h s i)) (Vx (h.fr (s.ks i)) e.2 j)) 3
    (fun j hj o ho=>by
     subst ho
     have hl2:=J3 hF e.2 j
     refine⟨_,a3M hF e.2 _ (by rw[gq,gq]; show 0+_+_+_<_; omega) hj,?_⟩
     rw[iZ]; rfl)
    (fun o ho=>by simp(disch:=omega) only[bL,aZ,WW,CC]) (apps zNO (Bo h s i)) rfl
   have hl3:=J3 hF e.2 3
   have ha:=Vh (z:=z) hF e.2 (apps (apps zNO (Bo h s i)) (Vx (h.fr (s.ks i)) e.2 3)) (by rw[gq,gq]; show 0+_+_+_<_; omega)
   have p1':aB bL (((),((),((3:Int),(0,())))),(h.fr (s.ks i)).lt z e.2 (apps zNO (Bo h s i)))=_:=p1
   refine⟨_,?_,rfl⟩
   have hmod:List.modify (rZ h.N s.l) (gD s.l (s.ks i)) (fun q=>(q.1,((e.2.v,(s.ks i,(.nil,(.nil,e.2.c)))),(((h.N:Int),e.2.e),(((h.N:Int),e.2.r),())))))=rZ h.N s.l:=
    QU _ _ _ fun q hq=>by
     rw[J2,he]at hq
     simp only[axZ,awR]at hq
     subst hq
     simp only[ZL,hk]
   simp only[Fr.mk',Fr.so,Fr.rc,Fr.lt,z]at ha p1'
   rw[Bo,hg,a1J,←iZ,←iZ]
   simp(disch:=omega) only[dn,jM,WW,CC,axc,NV,J2,he,axZ,ZL,hk,p1',ha,hmod])
  (fun o ho=>by simp(disch:=omega) only[dn,jM,WW,CC]) zNO rfl
 have h1':aB dn (((),((),((s.n,(fun j=>s.ks (0+j))),(((s.n:Nat):Int),(0,()))))),(h.sn (rZ h.N s.l) zNO,(h.sp s.n s.ks s.u,((),()))))=_:=h1
 simp only[hK,h1']
 rfl
theorem a6j {h:Hd}(s:Sv)(key:ByteArray):gZ key (h.mk' s)=some (((match s.l[gD s.l key]? with|some e=>e.2.v.1|none=>(0,0)),((match s.l[gD s.l key]? with|some e=>e.2.v.2.1|none=>ByteArray.mk #[]),((match s.l[gD s.l key]? with|some e=>decide (0<e.2.v.2.2.2.1)|none=>false),()))),h.mk' s):=by
 rw[rV]; unfold mE
 simp only[NV,J2]
 cases he:s.l[gD s.l key]? with
 |none=>rfl
 |some e=>
  have hk:=vU he
  have hmod:List.modify (rZ h.N s.l) (gD s.l key) (fun q=>(q.1,((e.2.v,(e.1,(.nil,(.nil,e.2.c)))),(((h.N:Int),e.2.e),(((h.N:Int),e.2.r),())))))=rZ h.N s.l:=
   QU _ _ _ fun q hq=>by
    rw[J2,he]at hq
    simp only[axZ,awR]at hq
    subst hq
    rfl
  have hd:decide (((e.2.v.2.2.2.1:Nat):Int)>0)=decide (0<e.2.v.2.2.2.1):=by
   by_cases c:0<e.2.v.2.2.2.1
   ·rw[dM c]; exact dM (by omega)
   ·rw[bG c]; exact bG (by omega)
  simp only[axZ,ZL,hmod,hd]
open Go Go.Den Go.Num
def Gv(v:VA):Prop:= ∃M L,jg v.2.2.1.1 v.2.2.1.2 M∧yu v.2.2.2.1 v.2.2.2.2 L∧(M.length<1000∧L.length<1000∧ ∀i,i<v.2.2.1.1→(v.2.2.1.2 i).len<1000)∧
 (v.1=(0,0)∧v.2.1=ByteArray.empty∧M=[]∧L=[]∨lU v.1∧v.2.1.size=32∧(M=[]∧L=[]∨Ac M=true∧L.length=M.length))
def Et(q:PR):Prop:=Gv q.1∧(0≤q.2∧q.2≤1048576)∧(0<q.2→lU q.1.1)
structure a3N(c:CL):Prop where
 p0:Et (c.1 0)
 p1:Et (c.1 1)
 w:Et c.2.1
 op:0≤c.2.2.1∧c.2.2.1≤1048576
def Lu(c:QO):Prop:=0<c.1.1→lU c.1∧c.2.size=32
structure oM(x:Rc):Prop where
 v:Gv x.v
 e: ∀a b c,Lu (x.e a b c)
 r: ∀a b c,Lu (x.r a b c)
 c: ∀i,a3N (x.c i)
theorem ZM {m:Nat→SlV (Nat→Int)} :jg 0 m []:=⟨rfl,fun i hi=>absurd hi (axv _),fun i hi=>absurd hi (axv _),fun i hi=>absurd hi (axv _)⟩
theorem ZN {y:Nat→Nat→Int} :yu 0 y []:=⟨rfl,fun j hj=>absurd hj (axv _)⟩
theorem a4I:Gv zVA:=⟨[],[],ZM,ZN,⟨by decide,by decide,fun _ _=>(show(0:Nat)<1000 by decide)⟩,.inl ⟨rfl,rfl,rfl,rfl⟩⟩
theorem abk {p:aF} {d:ByteArray}(hp:lU p)(hd:d.size=32):Gv (p,(d,((0,zSN),(0,zNN)))):=⟨[],[],ZM,ZN,⟨by decide,by decide,fun _ _=>(show(0:Nat)<1000 by decide)⟩,.inr ⟨hp,hd,.inl ⟨rfl,rfl⟩⟩⟩
theorem J4:Et zPR:=⟨a4I,⟨Int.le_refl _,by decide⟩,fun h=>absurd h (by decide)⟩
theorem Et.op0 {q:PR}(h:Et q):Et (q.1,0):=⟨h.1,⟨Int.le_refl _,by show(0:Int)≤_; decide⟩,fun h=>absurd h (by show¬((0:Int)<0); decide)⟩
theorem uj {c:Nat→CL}(h: ∀i,a3N (c i)) {i:Nat} {z:CL}(hz:a3N z): ∀k,a3N (upd c i z k):=fun k=>by
 by_cases e:k=i
 ·subst e; rw[upd_same]; exact hz
 ·rw[upd_ne e]; exact h k
theorem aa5:oM newR:=⟨a4I,fun _ _ _ h=>absurd h (by show¬((0:Int)<0); decide),fun _ _ _ h=>absurd h (by show¬((0:Int)<0); decide),fun _=>⟨J4,J4,J4,⟨Int.le_refl _,by show(0:Int)≤_; decide⟩⟩⟩
theorem Eu {F:FC}(h: ∀a b c,Lu (F a b c)) {srv:Int} {p:aF} {d:ByteArray}(hp:lU p)(hd:d.size=32): ∀a b c,Lu (oK F srv p d a b c):=fun a b c=>by
 unfold oK; split
 ·exact fun _=>⟨hp,hd⟩
 ·exact h a b c
def arY(k op:Int)(key:ByteArray)(st:aF)(dg:ByteArray)(M:List (List Nat))(L:List Nat):Prop:=
 (1≤key.size∧key.size≤8)∧
 ((k=5∨k=6)∧op=0∧lU st∧dg.size=32∧M=[]∧L=[]∨
  k=3∧(1≤op∧op≤1048576)∧(st=(0,0)∧dg=ByteArray.empty∧M=[]∧L=[]∨lU st∧dg.size=32∧(M=[]∧L=[]∨Ac M=true∧L.length=M.length))∨
  k=7∧(1≤op∧op≤1048576)∧lU st∧dg=ByteArray.empty∧M=[]∧L=[])
def Vy(f:Fr)(x:OU):Prop:=x.1≠(f.I:Int)∧ ∃nm m ny y M L,x.2.2.2.2.2.2=((.fz nm m,.fz ny y):SlV (SlV (Nat→Int))×SlV (Nat→Int))∧jg nm m M∧yu ny y L∧(M.length<1000∧L.length<1000∧ ∀i,i<nm→(m i).len<1000)∧arY x.2.1 x.2.2.1 x.2.2.2.1 x.2.2.2.2.1 x.2.2.2.2.2.1 M L
def nW(f:Fr)(l:List OU):Prop:= ∀x∈l,Vy f x
theorem nW.nil(f:Fr):nW f []:=fun x h=>absurd h (by simp)
theorem nW.app {f:Fr} {a b:List OU}(h:nW f a)(g:nW f b):nW f (a++b):=fun x hx=>(axD.1 hx).elim (h x) (g x)
theorem nW.one {f:Fr} {x:OU}(h:Vy f x):nW f [x]:=fun y hy=>by rw[ay2.1 hy]; exact h
def j4(f:Fr)(a:RcW):Prop:=oM a.1∧nW f a.2
theorem j4.bind {f:Fr} {a:RcW} {F:Rc→RcW}(h:j4 f a)(g: ∀x,oM x→j4 f (F x)):j4 f (gu a F):=⟨(g a.1 h.1).1,h.2.app (g a.1 h.1).2⟩
structure Fr.Ok2(f:Fr):Prop extends f.Ok where
 key:1≤f.key.size∧f.key.size≤8
section
variable {f:Fr}
theorem acX(hf:f.Ok2)(c:Nat):((f.N+(c+1):Nat):Int)≠(f.I:Int):=by have:=hf.I; omega
theorem RS(hf:f.Ok2) {i:Nat} {q:PR}(h:Et q)(h0:0<q.2):Vy f (I4 f i q):=
 ⟨acX hf i,0,_,0,zNN,[],[],rfl,ZM,ZN,⟨by decide,by decide,fun _ _=>(show(0:Nat)<1000 by decide)⟩,hf.key,.inr (.inr ⟨rfl,⟨h0,h.2.1.2⟩,h.2.2 h0,rfl,rfl,rfl⟩)⟩
theorem abl(hf:f.Ok2)(i:Nat) {x:Rc}(h:oM x):j4 f (FE f i x):=by
 unfold FE; split
 ·rename_i hc
  refine⟨⟨h.v,h.e,h.r,uj h.c ⟨?_,?_,(h.c i).w,(h.c i).op⟩⟩,.one (RS hf (h.c i).p0 hc.1)⟩
  ·show Et (upd (x.c i).1 0 (((x.c i).1 0).1,0) 0); rw[upd_same]; exact(h.c i).p0.op0
  ·show Et (upd (x.c i).1 0 (((x.c i).1 0).1,0) 1); rw[upd_ne (by decide)]; exact(h.c i).p1
 ·exact⟨h,.nil f⟩
theorem abm(hf:f.Ok2)(i:Nat) {x:Rc}(h:oM x):j4 f (FH f i x):=by
 unfold FH; split
 ·rename_i hc
  refine⟨⟨h.v,h.e,h.r,uj h.c ⟨?_,?_,(h.c i).w,(h.c i).op⟩⟩,.one (RS hf (h.c i).p1 hc.1)⟩
  ·show Et (upd (x.c i).1 1 (((x.c i).1 1).1,0) 0); rw[upd_ne (by decide)]; exact(h.c i).p0
  ·show Et (upd (x.c i).1 1 (((x.c i).1 1).1,0) 1); rw[upd_same]; exact(h.c i).p1.op0
 ·exact⟨h,.nil f⟩
theorem abn(hf:f.Ok2)(i:Nat) {x:Rc}(h:oM x):j4 f (I5 f i x):=by
 unfold I5; split
 ·rename_i hc
  exact⟨⟨h.v,h.e,h.r,uj h.c ⟨(h.c i).p0,(h.c i).p1,(h.c i).w.op0,(h.c i).op⟩⟩,.one (RS hf (h.c i).w hc.1)⟩
 ·exact⟨h,.nil f⟩
theorem a1K(hf:f.Ok2) {x:Rc}(h:oM x): ∀n,j4 f (Bh f x n)
 |0=>⟨h,.nil f⟩
 |n+1=>(a1K hf h n).bind fun y hy=>((abl hf n hy).bind fun z hz=>abm hf n hz).bind fun z hz=>abn hf n hz
theorem aiK(hf:f.Ok2) {x:Rc}(h:oM x) {i:Nat}(hi:0<(x.c i).2.2.1):Vy f (stP f x i):=by
 obtain⟨M,L,h1,h2,h3,h4⟩:=h.v
 exact⟨acX hf i,_,_,_,_,M,L,rfl,h1,h2,h3,hf.key,.inr (.inl ⟨rfl,⟨hi,(h.c i).op.2⟩,h4⟩)⟩
theorem a1L(hf:f.Ok2) {x:Rc}(h:oM x)(i:Nat):nW f (NN f x i):=by
 unfold NN; split
 ·rename_i hc; exact .one (aiK hf h hc)
 ·exact .nil f
theorem RU(hf:f.Ok2) {x:Rc}(h:oM x): ∀n,nW f (Zz f x n)
 |0=>.nil f
 |n+1=>(RU hf h n).app (a1L hf h n)
theorem RV(hf:f.Ok2) {k:Int}(hk:k=5∨k=6) {p:aF}(hp:lU p) {d:ByteArray}(hd:d.size=32): ∀n,nW f (ZA f k p d n)
 |0=>.nil f
 |n+1=>(RV hf hk hp hd n).app (by
  split
  ·exact .nil f
  ·rename_i hn
   exact .one ⟨by show((n+1:Nat):Int)≠_; omega,0,_,0,zNN,[],[],rfl,ZM,ZN,⟨by decide,by decide,fun _ _=>(show(0:Nat)<1000 by decide)⟩,hf.key,.inl ⟨hk,rfl,hp,hd,rfl,rfl⟩⟩)
theorem a1M {x:Rc}(h:oM x) {p:PR}(hp:Et p): ∀i,a3N (takeC x p i):=by
 unfold takeC; split
 ·refine uj h.c ⟨?_,?_,(h.c _).w,(h.c _).op⟩
  ·by_cases e:(p.1.1.1%2).toNat=0
   ·show Et (upd _ _ _ 0); rw[e,upd_same]; exact hp
   ·show Et (upd _ _ _ 0); rw[upd_ne (Ne.symm e)]; exact(h.c _).p0
  ·by_cases e:(p.1.1.1%2).toNat=1
   ·show Et (upd _ _ _ 1); rw[e,upd_same]; exact hp
   ·show Et (upd _ _ _ 1); rw[upd_ne (Ne.symm e)]; exact(h.c _).p1
 ·exact h.c
def Vz(f:Fr)(rec:FD):Prop:= ∀p d x,lU p→d.size=32→oM x→j4 f (rec p d x)
variable {rec:FD}
theorem a6k(hf:f.Ok2) {p:aF}(hp:lU p) {d:ByteArray}(hd:d.size=32) {x:Rc}(h:oM x):j4 f (pQ f p d x):=by
 unfold pQ; split
 ·exact⟨⟨h.v,h.e,Eu h.r hp hd,h.c⟩,RV hf (.inr rfl) hp hd _⟩
 ·exact⟨h,.nil f⟩
theorem Pw(hf:f.Ok2)(hr:Vz f rec) {p:aF}(hp:lU p) {d:ByteArray}(hd:d.size=32) {x:Rc}(h:oM x):j4 f (jP f rec p d x):=
 (a6k hf hp hd h).bind fun y hy=>by
  unfold endP; split
  ·exact hr p d y hp hd hy
  ·exact⟨hy,.nil f⟩
theorem abo {v:VA}(h:Gv v)(hp:lU v.1):v.2.1.size=32:=by
 obtain⟨M,L,_,_,_,h4⟩:=h
 rcases h4 with h4|h4
 ·have:=hp.1; rw[h4.1]at this; exact absurd this (by decide)
 ·exact h4.2.1
theorem Y4(hf:f.Ok2)(hr:Vz f rec) {p:PR}(hp:Et p)(hm:lU p.1.1) {x:Rc}(h:oM x):j4 f (pR f rec p x):=by
 have hd:=abo hp.1 hm
 unfold pR; split
 ·exact j4.bind (a:=(_,_)) ⟨⟨h.v,Eu h.e hm hd,h.r,a1M h hp⟩,RV hf (.inl rfl) hm hd _⟩ fun y hy=>Pw hf hr hm hd hy
 ·exact⟨⟨h.v,h.e,h.r,a1M h hp⟩,.nil f⟩
theorem a6l(hf:f.Ok2)(hr:Vz f rec)(i:Nat) {x:Rc}(h:oM x):j4 f (vO f rec i x):=by
 unfold vO; split
 ·rename_i hg
  exact Y4 hf hr (h.c i).w ((h.c i).w.2.2 hg.1) ⟨h.v,h.e,h.r,uj h.c ⟨(h.c i).p0,(h.c i).p1,J4,(h.c i).op⟩⟩
 ·exact⟨h,.nil f⟩
theorem Y5(hf:f.Ok2)(hr:Vz f rec) {x:Rc}(h:oM x): ∀n,j4 f (vP f rec x n)
 |0=>⟨h,.nil f⟩
 |n+1=>(Y5 hf hr h n).bind fun y hy=>a6l hf hr n hy
theorem aa6 {c:CL}(hc:a3N c) {p:aF}(hp:lU p) {d:ByteArray}(hd:d.size=32):Gv (Bj c p d):=by
 unfold Bj
 split
 ·exact hc.p0.1
 ·split
  ·exact hc.p1.1
  ·split
   ·exact hc.w.1
   ·exact abk hp hd
theorem a6m(hf:f.Ok2)(hr:Vz f rec):Vz f (vQ f rec):=fun p d x hp hd h=>by
 have h1:oM { x with v:=Bj (x.c (p.2-1).toNat) p d } :=⟨aa6 (h.c _) hp hd,h.e,h.r,h.c⟩
 exact(j4.bind (a:=(_,_)) ⟨h1,RU hf h1 3⟩ fun y hy=>a1K hf hy 3).bind fun y hy=>Y5 hf hr hy 3
theorem J5(hf:f.Ok2): ∀n,Vz f (eH f n)
 |0=>fun p d x _ _ h=>⟨h,.nil f⟩
 |n+1=>a6m hf (J5 hf n)
theorem Y6(hf:f.Ok2) {v:VA}(hv:Gv v) {x:Rc}(h:oM x):j4 f (mG f v x):=by
 unfold mG; split
 ·have h1:oM { x with v:=v } :=⟨hv,h.e,h.r,h.c⟩
  exact⟨h1,RU hf h1 3⟩
 ·exact⟨h,.nil f⟩
theorem ZO(hf:f.Ok2)(i:Nat) {p:PR}(hp:Et p)(hm:lU p.1.1)(h0:0<p.2) {x:Rc}(h:oM x):j4 f (iB f (eH f 5) i p x):=by
 unfold iB; split
 ·exact(Y6 hf hp.1 h).bind fun y hy=>⟨hy,.one (RS hf hp h0)⟩
 ·split
  ·exact Y4 hf (J5 hf 5) hp hm h
  ·split
   ·exact⟨⟨h.v,h.e,h.r,uj h.c ⟨(h.c i).p0,(h.c i).p1,hp,(h.c i).op⟩⟩,.nil f⟩
   ·exact⟨h,.nil f⟩
theorem a6n(hf:f.Ok2)(from_:Int) {p:aF}(hp:lU p) {d:ByteArray}(hd:d.size=32) {x:Rc}(h:oM x):j4 f (Es f (eH f 5) from_ p d x):=by
 unfold Es; split
 ·exact Pw hf (J5 hf 5) hp hd ⟨h.v,Eu h.e hp hd,h.r,h.c⟩
 ·exact⟨h,.nil f⟩
theorem a6o(hf:f.Ok2)(from_:Int) {p:aF}(hp:lU p) {d:ByteArray}(hd:d.size=32) {x:Rc}(h:oM x):j4 f (uh f (eH f 5) from_ p d x):=by
 unfold uh; split
 ·exact Pw hf (J5 hf 5) hp hd ⟨h.v,h.e,Eu h.r hp hd,h.c⟩
 ·exact⟨h,.nil f⟩
theorem a3O(hf:f.Ok2)(i:Nat) {op:Int}(ho:1≤op∧op≤1048576) {x:Rc}(h:oM x):j4 f (Bn f i op x):=by
 unfold Bn; split
 ·have h1:oM { x with c:=upd x.c i ((x.c i).1,((x.c i).2.1,(op,(x.c i).2.2.2))) } :=⟨h.v,h.e,h.r,uj h.c ⟨(h.c i).p0,(h.c i).p1,(h.c i).w,by show 0≤op∧op≤_; omega⟩⟩
  exact⟨h1,a1L hf h1 i⟩
 ·exact⟨h,.nil f⟩
theorem a6p(i:Nat)(op:Int) {x:Rc}(h:oM x):j4 f (Ls i op x):=by
 have h1: ∀k,a3N (xW x.c i op k):=uj h.c ⟨(h.c i).p0,(h.c i).p1,(h.c i).w,(h.c i).op⟩
 unfold Ls; split
 ·exact⟨⟨h.v,h.e,h.r,uj h1 ⟨(h1 i).p0,(h1 i).p1,(h1 i).w,⟨Int.le_refl _,by show(0:Int)≤_; decide⟩⟩⟩,.nil f⟩
 ·exact⟨⟨h.v,h.e,h.r,h1⟩,.nil f⟩
theorem aa7(hf:f.Ok2) {x:Rc}(h:oM x)(i:Nat):nW f (Y3 f x i):=by
 have at_ok: ∀(F:FC),(∀a b c,Lu (F a b c))→ ∀a b c,Lu (atT f.N F a b c):=fun F hF a b c=>by
  unfold atT; split
  ·exact hF _ _ _
  ·exact fun h=>absurd h (by show¬((0:Int)<0); decide)
 have says: ∀k,k=5∨k=6→ ∀c:QO,Lu c→nW f (nU f k c):=fun k hk c hc=>by
  unfold nU; split
  ·rename_i h0; exact RV hf hk (hc h0).1 (hc h0).2 _
  ·exact .nil f
 exact(says 5 (.inl rfl) _ (at_ok _ h.e _ _ _)).app ((says 6 (.inr rfl) _ (at_ok _ h.r _ _ _)).app ((says 5 (.inl rfl) _ (at_ok _ h.e _ _ _)).app (says 6 (.inr rfl) _ (at_ok _ h.r _ _ _))))
theorem a1N(hf:f.Ok2) {x:Rc}(h:oM x): ∀n,nW f (Vx f x n)
 |0=>.nil f
 |n+1=>(a1N hf h n).app (aa7 hf h n)
theorem aa8(hf:f.Ok2) {x:Rc}(h:oM x):nW f (a1J f x):=(a1N hf h 3).app (RU hf h 3)
end
end Go.Pl
