/-
 What the layer computes.
-/
import Derived.Test.YtlohbhpbkieoeaaGreatMF
import Derived.Test.YtlohbhpbkieoeaaGreatMK
import Derived.Test.YtlohbhpbkieoeaaGreatPlB
set_option linter.unusedVariables false
set_option linter.unusedSimpArgs false
namespace Go.Pl
open Go Go.Den Go.Num
def qC(q:Nat×(Nat->VO))(L:List VO):Prop:=q.1=L.length/\ ∀i (h:i<L.length),q.2 i=L[i]
theorem qC.push {q:Nat×(Nat->VO)}{L M:List VO}(h:qC q L){v:VO}(e:M=L++[v]):qC (q.1+1,glue q.1 q.2 (λj=>(upd (λ_=>zV) 0 v) (0+j))) M:=by
 subst e;obtain⟨n,f⟩:=q;obtain⟨h1,h2⟩:=h;simp only at h1 h2;subst h1;refine⟨by simp,λi hi=>?_⟩;simp only[awS,axH,List.length_nil]at hi;dsimp only;by_cases c:i<L.length
 ·rw[List.getElem_append_left c,Oi c];exact h2 i c
 ·have e:i=L.length:=by omega
  subst e;rw[List.getElem_append_right (ax2 _),Oj (ax2 _)];simp[upd_same]
theorem VQ(F:qU): ∀k,(tl F k).length<=k
 |0=>ax2 _
 |k+1=>by have:=VQ F k;rw[tl,awS];split<;>simp<;>omega
theorem Zy {N:Nat}(hN:N<=7)(F:qU){s c k:Nat}(hs:s<N)(hc:c<4)(hk:k<2):jw (some ((N:Int),F)) ((s+1:Nat):Int) ((c+1:Nat):Int) (k:Int)=some (uP F (8*s+2*c+k)):=by rw[Xd hN,atT,awQ (by omega)];unfold uP;rw[show(8*s+2*c+k)/8=s by omega,show(8*s+2*c+k)/2%4=c by omega,show(8*s+2*c+k)%2=k by omega];rw[show(((s+1:Nat):Int)-1).toNat=s by omega,show(((c+1:Nat):Int)-1).toNat=c by omega,awz]
section
variable {N:Nat} (hN:N<=7) {F:qU} (sn:SN) (sp:SP)
include hN
theorem awm {s c:Nat}(hs:s<N)(hc:c<4)(t t1 t2:Int)(q0:Nat×(Nat->VO))(hq:qC q0 (tl F (8*s+2*c))):
  ∃q,au bC (dK (s:Int) (c:Int) t t1 t2 0 ((sn,(sp,(((N:Int),F),((),(q0,())))))))=some (iV (s:Int) t t1 t2 ((sn,(sp,(((N:Int),F),((),(q,())))))))/\qC q (tl F (8*s+2*c+2)):=
 aL (R:=bC) (S:=Nat×(Nat->VO)) (λk q=>dK (s:Int) (c:Int) t t1 t2 (k:Int) ((sn,(sp,(((N:Int),F),((),(q,()))))))) (λq=>iV (s:Int) t t1 t2 ((sn,(sp,(((N:Int),F),((),(q,()))))))) (λk q=>qC q (tl F (8*s+2*c+k))) 2
  (λk hk q hq=>by
   have hA:=Zy hN F hs hc hk;have hl:=VQ F (8*s+2*c+k);have hq1:=hq.1;by_cases h0:0<(uP F (8*s+2*c+k)).1.1
   ·refine⟨_,?_,hq.push (by rw[show 8*s+2*c+(k+1)=8*s+2*c+k+1 from rfl,tl,awQ h0,show(8*s+2*c+k)/8=s by omega])⟩;have b1:Nat.ble ((q.1+1)*40) 140737488355328=true:=awF (by omega);have b2:Nat.ble (q.1+1) 9223372036854775807=true:=awF (by omega);simp(disch:=omega) only[bC,dK,WW,CC,hA,h0,b1,b2,Bool.and_self]
   ·refine⟨q,?_,by rw[show 8*s+2*c+(k+1)=8*s+2*c+k+1 by omega,tl,awG h0,ayr];exact hq⟩;simp(disch:=omega) only[bC,dK,WW,CC,hA,h0])
  (λq _=>by simp(disch:=omega) only[bC,dK,WW,CC]) q0 hq
theorem awn {s:Nat}(hs:s<N)(t t1:Int)(q0:Nat×(Nat->VO))(hq:qC q0 (tl F (8*s))):
  ∃q,au bD (fP (s:Int) t t1 0 ((sn,(sp,(((N:Int),F),((),(q0,())))))))=some (iW t t1 ((sn,(sp,(((N:Int),F),((),(q,())))))))/\qC q (tl F (8*(s+1))):=by
 obtain⟨q,h1,h2⟩:=aL (R:=bD) (S:=Nat×(Nat->VO)) (λk q=>fP (s:Int) t t1 (k:Int) ((sn,(sp,(((N:Int),F),((),(q,()))))))) (λq=>iW t t1 ((sn,(sp,(((N:Int),F),((),(q,()))))))) (λk q=>qC q (tl F (8*s+2*k))) 4
  (λk hk q hq=>by obtain⟨q2,g1,g2⟩:=awm hN (F:=F) sn sp hs hk t t1 (k:Int) q hq;refine⟨q2,?_,g2⟩;have g1':au bC (((),((s:Int),((k:Int),(t,(t1,((k:Int),(0,()))))))),(sn,(sp,(((N:Int),F),((),(q,()))))))=_:=g1;simp(disch:=omega) only[bD,fP,WW,CC,g1',iV])
  (λq _=>by simp(disch:=omega) only[bD,fP,WW,CC]) q0 hq
 exact⟨q,h1,by rw[show 8*(s+1)=8*s+2*4 by omega];exact h2⟩
theorem awo(q0:Nat×(Nat->VO))(hq:qC q0 []):
  ∃q,au aZ (fQ (N:Int) 0 ((sn,(sp,(((N:Int),F),((),(q0,())))))))=some (eG ((sn,(sp,(((N:Int),F),((),(q,())))))))/\qC q (tl F (8*N)):=
 aL (R:=aZ) (S:=Nat×(Nat->VO)) (λk q=>fQ (N:Int) (k:Int) ((sn,(sp,(((N:Int),F),((),(q,()))))))) (λq=>eG ((sn,(sp,(((N:Int),F),((),(q,()))))))) (λk q=>qC q (tl F (8*k))) N
  (λk hk q hq=>by obtain⟨q2,g1,g2⟩:=awn hN (F:=F) sn sp hk (N:Int) (k:Int) q hq;refine⟨q2,?_,g2⟩;have g1':au bD (((),((k:Int),((N:Int),((k:Int),(0,()))))),(sn,(sp,(((N:Int),F),((),(q,()))))))=_:=g1;simp(disch:=omega) only[aZ,fQ,WW,CC,g1',iW])
  (λq _=>by simp(disch:=omega) only[aZ,fQ,WW,CC]) q0 hq
end
section
variable {N:Nat} (hN:N<=7) {F:qU} (so:SO) (rc:RC) (vt:VT) (sp:SP)
include hN
theorem as8 {s c:Nat}(hs:s<N)(hc:c<4)(t t1 t2:Int)(q0:Nat×(Nat->VO))(hq:qC q0 (tl F (8*s+2*c))):
  ∃q,au bf (cZ (s:Int) (c:Int) t t1 t2 0 ((so,(rc,(((N:Int),F),(vt,(sp,((),(q0,())))))))))=some (iy (s:Int) t t1 t2 ((so,(rc,(((N:Int),F),(vt,(sp,((),(q,())))))))))/\qC q (tl F (8*s+2*c+2)):=
 aL (R:=bf) (S:=Nat×(Nat->VO)) (λk q=>cZ (s:Int) (c:Int) t t1 t2 (k:Int) ((so,(rc,(((N:Int),F),(vt,(sp,((),(q,()))))))))) (λq=>iy (s:Int) t t1 t2 ((so,(rc,(((N:Int),F),(vt,(sp,((),(q,()))))))))) (λk q=>qC q (tl F (8*s+2*c+k))) 2
  (λk hk q hq=>by
   have hA:=Zy hN F hs hc hk;have hl:=VQ F (8*s+2*c+k);have hq1:=hq.1;by_cases h0:0<(uP F (8*s+2*c+k)).1.1
   ·refine⟨_,?_,hq.push (by rw[show 8*s+2*c+(k+1)=8*s+2*c+k+1 from rfl,tl,awQ h0,show(8*s+2*c+k)/8=s by omega])⟩;have b1:Nat.ble ((q.1+1)*40) 140737488355328=true:=awF (by omega);have b2:Nat.ble (q.1+1) 9223372036854775807=true:=awF (by omega);simp(disch:=omega) only[bf,cZ,WW,CC,hA,h0,b1,b2,Bool.and_self]
   ·refine⟨q,?_,by rw[show 8*s+2*c+(k+1)=8*s+2*c+k+1 by omega,tl,awG h0,ayr];exact hq⟩;simp(disch:=omega) only[bf,cZ,WW,CC,hA,h0])
  (λq _=>by simp(disch:=omega) only[bf,cZ,WW,CC]) q0 hq
theorem as9 {s:Nat}(hs:s<N)(t t1:Int)(q0:Nat×(Nat->VO))(hq:qC q0 (tl F (8*s))):
  ∃q,au bn (eH (s:Int) t t1 0 ((so,(rc,(((N:Int),F),(vt,(sp,((),(q0,())))))))))=some (iA t t1 ((so,(rc,(((N:Int),F),(vt,(sp,((),(q,())))))))))/\qC q (tl F (8*(s+1))):=by
 obtain⟨q,h1,h2⟩:=aL (R:=bn) (S:=Nat×(Nat->VO)) (λk q=>eH (s:Int) t t1 (k:Int) ((so,(rc,(((N:Int),F),(vt,(sp,((),(q,()))))))))) (λq=>iA t t1 ((so,(rc,(((N:Int),F),(vt,(sp,((),(q,()))))))))) (λk q=>qC q (tl F (8*s+2*k))) 4
  (λk hk q hq=>by obtain⟨q2,g1,g2⟩:=as8 hN (F:=F) so rc vt sp hs hk t t1 (k:Int) q hq;refine⟨q2,?_,g2⟩;have g1':au bf (((),((s:Int),((k:Int),(t,(t1,((k:Int),(0,()))))))),(so,(rc,(((N:Int),F),(vt,(sp,((),(q,()))))))))=_:=g1;simp(disch:=omega) only[bn,eH,WW,CC,g1',iy])
  (λq _=>by simp(disch:=omega) only[bn,eH,WW,CC]) q0 hq
 exact⟨q,h1,by rw[show 8*(s+1)=8*s+2*4 by omega];exact h2⟩
theorem asa(q0:Nat×(Nat->VO))(hq:qC q0 []):
  ∃q,au bq (eO (N:Int) 0 ((so,(rc,(((N:Int),F),(vt,(sp,((),(q0,())))))))))=some (iB ((so,(rc,(((N:Int),F),(vt,(sp,((),(q,())))))))))/\qC q (tl F (8*N)):=
 aL (R:=bq) (S:=Nat×(Nat->VO)) (λk q=>eO (N:Int) (k:Int) ((so,(rc,(((N:Int),F),(vt,(sp,((),(q,()))))))))) (λq=>iB ((so,(rc,(((N:Int),F),(vt,(sp,((),(q,()))))))))) (λk q=>qC q (tl F (8*k))) N
  (λk hk q hq=>by obtain⟨q2,g1,g2⟩:=as9 hN (F:=F) so rc vt sp hk (N:Int) (k:Int) q hq;refine⟨q2,?_,g2⟩;have g1':au bn (((),((k:Int),((N:Int),((k:Int),(0,()))))),(so,(rc,(((N:Int),F),(vt,(sp,((),(q,()))))))))=_:=g1;simp(disch:=omega) only[bq,eO,WW,CC,g1',iA])
  (λq _=>by simp(disch:=omega) only[bq,eO,WW,CC]) q0 hq
end
section
variable {N:Nat} (hN:N<=7) {F:qU} (so:SO) (rc:RC) (vt:VT) (sp:SP)
include hN
theorem asb {s c:Nat}(hs:s<N)(hc:c<4)(t t1 t2:Int)(q0:Nat×(Nat->VO))(hq:qC q0 (tl F (8*s+2*c))):
  ∃q,au aU (cu (s:Int) (c:Int) t t1 t2 0 ((so,(rc,(vt,(((N:Int),F),(sp,((),(q0,())))))))))=some (gU (s:Int) t t1 t2 ((so,(rc,(vt,(((N:Int),F),(sp,((),(q,())))))))))/\qC q (tl F (8*s+2*c+2)):=
 aL (R:=aU) (S:=Nat×(Nat->VO)) (λk q=>cu (s:Int) (c:Int) t t1 t2 (k:Int) ((so,(rc,(vt,(((N:Int),F),(sp,((),(q,()))))))))) (λq=>gU (s:Int) t t1 t2 ((so,(rc,(vt,(((N:Int),F),(sp,((),(q,()))))))))) (λk q=>qC q (tl F (8*s+2*c+k))) 2
  (λk hk q hq=>by
   have hA:=Zy hN F hs hc hk;have hl:=VQ F (8*s+2*c+k);have hq1:=hq.1;by_cases h0:0<(uP F (8*s+2*c+k)).1.1
   ·refine⟨_,?_,hq.push (by rw[show 8*s+2*c+(k+1)=8*s+2*c+k+1 from rfl,tl,awQ h0,show(8*s+2*c+k)/8=s by omega])⟩;have b1:Nat.ble ((q.1+1)*40) 140737488355328=true:=awF (by omega);have b2:Nat.ble (q.1+1) 9223372036854775807=true:=awF (by omega);simp(disch:=omega) only[aU,cu,WW,CC,hA,h0,b1,b2,Bool.and_self]
   ·refine⟨q,?_,by rw[show 8*s+2*c+(k+1)=8*s+2*c+k+1 by omega,tl,awG h0,ayr];exact hq⟩;simp(disch:=omega) only[aU,cu,WW,CC,hA,h0])
  (λq _=>by simp(disch:=omega) only[aU,cu,WW,CC]) q0 hq
theorem asc {s:Nat}(hs:s<N)(t t1:Int)(q0:Nat×(Nat->VO))(hq:qC q0 (tl F (8*s))):
  ∃q,au aV (dW (s:Int) t t1 0 ((so,(rc,(vt,(((N:Int),F),(sp,((),(q0,())))))))))=some (gV t t1 ((so,(rc,(vt,(((N:Int),F),(sp,((),(q,())))))))))/\qC q (tl F (8*(s+1))):=by
 obtain⟨q,h1,h2⟩:=aL (R:=aV) (S:=Nat×(Nat->VO)) (λk q=>dW (s:Int) t t1 (k:Int) ((so,(rc,(vt,(((N:Int),F),(sp,((),(q,()))))))))) (λq=>gV t t1 ((so,(rc,(vt,(((N:Int),F),(sp,((),(q,()))))))))) (λk q=>qC q (tl F (8*s+2*k))) 4
  (λk hk q hq=>by obtain⟨q2,g1,g2⟩:=asb hN (F:=F) so rc vt sp hs hk t t1 (k:Int) q hq;refine⟨q2,?_,g2⟩;have g1':au aU (((),((s:Int),((k:Int),(t,(t1,((k:Int),(0,()))))))),(so,(rc,(vt,(((N:Int),F),(sp,((),(q,()))))))))=_:=g1;simp(disch:=omega) only[aV,dW,WW,CC,g1',gU])
  (λq _=>by simp(disch:=omega) only[aV,dW,WW,CC]) q0 hq
 exact⟨q,h1,by rw[show 8*(s+1)=8*s+2*4 by omega];exact h2⟩
theorem ase(q0:Nat×(Nat->VO))(hq:qC q0 []):
  ∃q,au aW (dX (N:Int) 0 ((so,(rc,(vt,(((N:Int),F),(sp,((),(q0,())))))))))=some (gW ((so,(rc,(vt,(((N:Int),F),(sp,((),(q,())))))))))/\qC q (tl F (8*N)):=
 aL (R:=aW) (S:=Nat×(Nat->VO)) (λk q=>dX (N:Int) (k:Int) ((so,(rc,(vt,(((N:Int),F),(sp,((),(q,()))))))))) (λq=>gW ((so,(rc,(vt,(((N:Int),F),(sp,((),(q,()))))))))) (λk q=>qC q (tl F (8*k))) N
  (λk hk q hq=>by obtain⟨q2,g1,g2⟩:=asc hN (F:=F) so rc vt sp hk (N:Int) (k:Int) q hq;refine⟨q2,?_,g2⟩;have g1':au aV (((),((k:Int),((N:Int),((k:Int),(0,()))))),(so,(rc,(vt,(((N:Int),F),(sp,((),(q,()))))))))=_:=g1;simp(disch:=omega) only[aW,dX,WW,CC,g1',gV])
  (λq _=>by simp(disch:=omega) only[aW,dX,WW,CC]) q0 hq
end
open Go Go.Den Go.Num
theorem aal(x y:VO):eqF (.pair (.int .i64) (.pair (.pair (.int .i64) (.int .i64)) .str)) x y=decide (x=y):=by obtain⟨a,⟨b,c⟩,d⟩:=x;obtain⟨a',⟨b',c'⟩,d'⟩:=y;rw[axg,awI];have hs:sEq d d'=true↔d=d':=Zu _ _;simp only[eqF,awu,ayD,ayR,hs]
def Y6(n:Nat)(f:Nat->VO)(L:List VO):Prop:=n=L.length/\ ∀i (h:i<L.length),f i=L[i]
theorem aam {N:Nat}(hN:1<=N/\N<=7):pX (N:Int)=some (((),(0,())),(((N:Int),zT0),())):=by rw[F9];unfold C9;rw[ak (by omega),aM,ak (by omega),aM];rfl
theorem asf {L:List VO}{k:Nat}(h:k<L.length):L.drop k=L[k]::L.drop (k+1):=List.drop_eq_getElem_cons h
theorem Y7 {N:Nat}(hN:1<=N/\N<=7){nl:Nat}{l:Nat->VO}{L:List VO}(hL:Y6 nl l L)(hn:nl<=1000)(hs: ∀v∈L,v.1<9223372036854775808)(sn:SN)(sp:SP)(hsn:sn.2.2.2.1=(N:Int)):
  jy nl l (sn,(sp,()))=some (((),(decide ((jD N L (true,zT0)).1=true/\tl (jD N L (true,zT0)).2 (8*N)=L),())),(sn,(sp,(((N:Int),(jD N L (true,zT0)).2),())))):=by
 obtain⟨hl1,hl2⟩:=hL;subst hl1;rw[uN];unfold qB;simp-zeta-letToHave only[hsn,aam hN];obtain⟨s,h1,h2⟩:=aL (R:=bE) (S:=Bool×qU)
  (λk s=>fB L.length l s.1 L.length l (L.length:Int) (k:Int) (sn,(sp,(((N:Int),s.2),()))))
  (λs=>qN L.length l s.1 (sn,(sp,(((N:Int),s.2),()))))
  (λk s=>jD N (L.drop k) s=jD N L (true,zT0)) L.length
  (λk hk s hp=>by
   have hlk:=hl2 k hk;have hmem:L[k]∈L:=List.getElem_mem hk;rw[asf hk,jD]at hp;refine⟨_,?_,hp⟩;have hput:=PU hN.2 s.2 L[k].1 (hs _ hmem) L[k].2.1 L[k].2.2;obtain⟨ok,F⟩:=s;cases ok with
   |false=>
    rw[awG (λh=>Bool.noConfusion (show false=true from h.1))];simp(disch:=omega) only[bE,fB,WW,CC,hlk]
   |true=>
    by_cases hd:L[k].2.2.size=32
    ·rw[awQ ⟨rfl,hd⟩];have e:((L[k].2.2.size:Nat):Int)==32:=I7 (by omega);simp(disch:=omega) only[bE,fB,WW,CC,hlk,e,hput]
    ·rw[awG λh=>hd h.2];have e:(((L[k].2.2.size:Nat):Int)==32)=false:=O0 (by omega);simp(disch:=omega) only[bE,fB,WW,CC,hlk,e])
  (λs _=>by simp(disch:=omega) only[bE,fB,WW,CC]) (true,zT0) rfl
 rw[List.drop_length]at h2;have h2:s=jD N L (true,zT0):=h2;have h1':au bE (((),((L.length,l),((),(((0:Int)==0),((L.length,l),((((L.length:Nat):Int)),(0,()))))))),(sn,(sp,(((N:Int),zT0),()))))=_:=h1;rw[<-h2];clear h2;obtain⟨ok,F⟩:=s;obtain⟨q,g1,g2⟩:=awo hN.2 (F:=F) sn sp (0,λ_=>zV) ⟨rfl,λi hi=>absurd hi (awO _)⟩;have g1':au aZ (((),((N:Int),(0,()))),(sn,(sp,(((N:Int),F),((),((0,(λ_=>zV)),()))))))=_:=g1;obtain⟨m1,m2⟩:=g2;have hlen:=VQ F (8*N);extract_lets-underBinder r0 o1;have h1'':au bE (((),((L.length,l),((),((r0==0),((L.length,l),((((L.length:Nat):Int)),(0,()))))))),(sn,(sp,(o1,()))))=_:=h1';simp-zeta-letToHave only[h1'',qN];extract_lets-underBinder a1 a2 a3;have g1'':au aZ (((),(sn.2.2.2.1,(0,()))),(sn,(sp,(((N:Int),F),((),((0,(λ_=>zV)),()))))))=some (eG (sn,(sp,(((N:Int),F),((),(q,())))))):=by rw[hsn];exact g1'
 simp-zeta-letToHave only[g1'',eG];extract_lets-underBinder kk;have hk: ∀b:Bool,kk ((b,()),())=some (((),(b&&decide (∀j,j<min L.length q.1->q.2 j=l j),())),(sn,(sp,(((N:Int),F),())))):=by
  intro b;unfold kk;obtain⟨ok2,f1,f2⟩:=aL (R:=bZ) (S:=Bool)
   (λk o=>iX L.length l o q.1 q.2 ((min L.length q.1:Nat):Int) (k:Int) (sn,(sp,(((N:Int),F),()))))
   (λo=>Ca o (sn,(sp,(((N:Int),F),()))))
   (λk o=>o=(b&&decide (∀j,j<k->q.2 j=l j))) (min L.length q.1)
   (λk hk o ho=>by
    have hk1:k<L.length:=by omega
    have hk2:k<q.1:=by omega
    cases o with
    |false=>
     refine⟨false,?_,?_⟩
     ·simp(disch:=omega) only[bZ,iX,WW,CC]
     ·cases b with
      |false=>rfl
      |true=>
       symm;simp only[ax4]at ho⊢;exact ak λh=>of_decide_eq_false ho.symm λj hj=>h j (by omega)
    |true=>
     refine⟨decide (q.2 k=l k),?_,?_⟩
     ·simp(disch:=omega) only[bZ,iX,WW,CC,awR,aal]
     ·cases b with
      |false=>simp at ho
      |true=>
       simp only[ax4]at ho⊢;have ho:=az4 ho.symm;rw[axg,awI,awI];exact⟨λh j hj=>by
        by_cases c:j=k
        ·rw[c];exact h
        ·exact ho j (by omega),λh=>h k (by omega)⟩)
   (λo _=>by simp(disch:=omega) only[bZ,iX,WW,CC]) b (by cases b<;>simp)
  have em:(if((L.length:Nat):Int)<((q.1:Nat):Int)then((L.length:Nat):Int)else((q.1:Nat):Int))=((min L.length q.1:Nat):Int):=by split<;>omega
  have f1':au bZ (((),((L.length,l),((),(b,((q.1,q.2),((((min L.length q.1:Nat):Int)),(0,()))))))),(sn,(sp,(((N:Int),F),()))))=_:=f1;simp only[a1,a2,em,f1',f2]
 clear_value kk;have fin:(((q.1:Nat):Int)==((L.length:Nat):Int))=true->(decide (∀j,j<min L.length q.1->q.2 j=l j)=decide (tl F (8*N)=L)):=λe=>by
  have e:=eq_of_beq e;have e:q.1=L.length:=by omega
  rw[axg,awI,awI];constructor
  ·intro h;apply List.ext_getElem (by omega);intro i hi hi2;rw[<-m2 i hi,<-hl2 i hi2];exact h i (by omega)
  ·intro h j hj;have hj1:j<L.length:=by omega
   have hj2:j<(tl F (8*N)).length:=by omega
   rw[m2 j hj2,hl2 j hj1];simp only[h]
 have hno: ¬(((q.1:Nat):Int)==((L.length:Nat):Int))=true-> ¬tl F (8*N)=L:=λe h=>e (by rw[h]at m1;rw[m1];exact beq_self_eq_true _)
 show(bif ok then kk ((((q.1:Nat):Int)==((L.length:Nat):Int),()),())else kk ((false,()),()))=_;cases ok with
 |false=>
  rw[aM,hk,ax6,ak (λh=>Bool.noConfusion (show false=true from h.1))]
 |true=>
  rw[aN];have e2:decide (true=true/\tl F (8*N)=L)=decide (tl F (8*N)=L):=by rw[axg,awI,awI];exact⟨λh=>h.2,λh=>⟨rfl,h⟩⟩
  cases e:(((q.1:Nat):Int)==((L.length:Nat):Int))with
  |true=>rw[hk,ax4,fin e,e2]
  |false=>
   rw[hk,ax6,e2,ak (hno (by rw[e];decide))]
theorem aiy {N:Nat}(hN:1<=N/\N<=7)(so:SO)(rc:RC)(F:qU)(vt:VT)(sp:SP)(hso:so.2.2.2.1=(N:Int)):
  ∃q:Nat×(Nat->VO),qC q (tl F (8*N))/\iC (so,(rc,(((N:Int),F),(vt,(sp,())))))=some (((q.1,q.2),()),(so,(rc,(((N:Int),F),(vt,(sp,())))))):=by
 obtain⟨q,g1,g2⟩:=asa hN.2 (F:=F) so rc vt sp (0,λ_=>zV) ⟨rfl,λi hi=>absurd hi (awO _)⟩;have g1':au bq (((),((N:Int),(0,()))),(so,(rc,(((N:Int),F),(vt,(sp,((),((0,(λ_=>zV)),()))))))))=_:=g1;refine⟨(q.1,λj=>q.2 (0+j)),⟨g2.1,λi hi=>by rw[show(q.1,λj=>q.2 (0+j)).2 i=q.2 (0+i)from rfl,awR];exact g2.2 i hi⟩,?_⟩;rw[l8];unfold nD;refine XB ?_ rfl;rw[sI];unfold jC;simp only[hso,g1',iB]
theorem aiz {N:Nat}(hN:1<=N/\N<=7)(so:SO)(rc:RC)(F:qU)(vt:VT)(sp:SP)(hso:so.2.2.2.1=(N:Int)):
  ∃q:Nat×(Nat->VO),qC q (tl F (8*N))/\fV (so,(rc,(vt,(((N:Int),F),(sp,())))))=some (((q.1,q.2),()),(so,(rc,(vt,(((N:Int),F),(sp,())))))):=by
 obtain⟨q,g1,g2⟩:=ase hN.2 (F:=F) so rc vt sp (0,λ_=>zV) ⟨rfl,λi hi=>absurd hi (awO _)⟩;have g1':au aW (((),((N:Int),(0,()))),(so,(rc,(vt,(((N:Int),F),(sp,((),((0,(λ_=>zV)),()))))))))=_:=g1;refine⟨(q.1,λj=>q.2 (0+j)),⟨g2.1,λi hi=>by rw[show(q.1,λj=>q.2 (0+j)).2 i=q.2 (0+i)from rfl,awR];exact g2.2 i hi⟩,?_⟩;rw[kG];unfold lZ;refine XB ?_ rfl;rw[qO];unfold iZ;simp only[hso,g1',gW]
section
variable {g:mh} {P Q G:Nat}
def kJ(P Q G n:Nat)(c:Nat->Nat)(i:Int)(y:Nat):Prop:=(1<=i/\i<=7)/\y<Q/\Ah P Q n c/\G^y%P=atN P n c i.toNat
open Classical in
theorem Oq(h:dZ g P Q G){n:Nat}{f:Nat->(Nat->Int)}{c:Nat->Nat}(hf: ∀j,j<n->IsN (f j) (c j)){i:Int}{a:Nat->Int}{y:Nat}(ha:IsN a y):
  yO (some g) n f (i,a)=some (decide (kJ P Q G n c i y)):=by
 rw[ET];unfold wB;have hI:=X6 h ha;have hM:=Fu h hf;by_cases h1:1<=i
 ·by_cases h2:i<=7
  ·by_cases h3:y<Q
   ·by_cases h4:Ah P Q n c
    ·obtain⟨o,o1,o2⟩:=X7 h ha;obtain⟨z,z1,z2⟩:=Vy h h4.2.1 hf (i:=i.toNat) (by omega);rw[Int.toNat_of_nonneg (by omega)]at z1;have e:decide (kJ P Q G n c i y)=decide (G^y%P=atN P n c i.toNat):=by
      by_cases h5:G^y%P=atN P n c i.toNat
      ·rw[aG h5,aG (show kJ P Q G n c i y from⟨⟨h1,h2⟩,h3,h4,h5⟩)]
      ·rw[ak h5,ak (λhh=>h5 hh.2.2.2)]
     rw[aG h4]at hM;simp(disch:=omega) only[WW,hI,hM,o1,z1,o2.eqb z2,e,h3]
    ·rw[ak h4]at hM;rw[ak (p:=kJ P Q G n c i y) (λhh=>h4 hh.2.2.1)];simp(disch:=omega) only[WW,hI,hM,h3]
   ·rw[ak (p:=kJ P Q G n c i y) (λhh=>h3 hh.2.1)];simp(disch:=omega) only[WW,hI,h3]
  ·rw[ak (p:=kJ P Q G n c i y) (λhh=>h2 hh.1.2)];simp(disch:=omega) only[WW]
 ·rw[ak (p:=kJ P Q G n c i y) (λhh=>h1 hh.1.1)];simp(disch:=omega) only[WW]
def Cj(P Q:Nat)(t:Int)(M:List (List Nat)):Prop:=(1<=t/\t<=2)/\(1<=M.length/\M.length<=25)/\ ∀i,i<M.length->(((M.getD i []).length:Nat):Int)=t+1/\Ah P Q (M.getD i []).length (λj=>(M.getD i []).getD j 0)
def p9(P Q G:Nat)(M:List (List Nat))(i:Int)(L:List Nat):Prop:=(1<=M.length/\M.length<=25)/\L.length=M.length/\ ∀k,k<M.length->kJ P Q G (M.getD k []).length (λj=>(M.getD k []).getD j 0) i (L.getD k 0)
open Classical in
theorem RN(h:dZ g P Q G){t:Int}(ht:1<=t/\t<=2){n:Nat}{m:Nat->SlV (Nat->Int)}{M:List (List Nat)}(hm:uF n m M)(hn:n<9223372036854775808):
  E8 (some g) t n m=some (decide (Cj P Q t M)):=by
 rw[K5];unfold AZ;have hb: ∀k,k<n-> ¬((((M.getD k []).length:Nat):Int)=t+1/\Ah P Q (M.getD k []).length (λj=>(M.getD k []).getD j 0))-> ¬Cj P Q t M:=λk hk hh hmm=>hh (hmm.2.2 k (by rw[<-hm.sz];exact hk))
 obtain⟨y,y1,y2⟩:=bH (R:=dN) (S:=Unit) (λk _=>jM n m (n:Int) (k:Int) g t)
  (λk _=> ∀i,i<k->(((M.getD i []).length:Nat):Int)=t+1/\Ah P Q (M.getD i []).length (λj=>(M.getD i []).getD j 0))
  (λy=>(∃k:Nat,y=yc (k:Int) g t/\ ¬Cj P Q t M)\/(y=yg g t/\ ∀i,i<n->(((M.getD i []).length:Nat):Int)=t+1/\Ah P Q (M.getD i []).length (λj=>(M.getD i []).getD j 0))) n
  (λk hk _ hp=>by
   have hs:=hm.ms k hk;have hl:=hm.len k hk;have hC:=Fu h (n:=(m k).len) (f:=SlV.fn (λ_=>0) (m k)) (c:=λj=>(M.getD k []).getD j 0) (hm.is k hk);by_cases c1:(((m k).len:Nat):Int)=t+1
   ·have e1:((((m k).len:Nat):Int) !=IntKind.i64.wrap (t+1))=false:=by rw[wrap_i64 (by omega)];exact nT c1
    by_cases c2:Ah P Q (m k).len (λj=>(M.getD k []).getD j 0)
    ·rw[aG c2]at hC;refine .inl ⟨(),?_,λi hi=>?_⟩
     ·simp(disch:=omega) only[dN,jM,WW,CC,hs,e1,hC]
     ·by_cases e:i=k
      ·subst e;rw[<-hl];exact⟨c1,c2⟩
      ·exact hp i (by omega)
    ·rw[ak c2]at hC;refine .inr ⟨_,?_,.inl ⟨k,rfl,hb k hk (by rw[<-hl];exact λhh=>c2 hh.2)⟩⟩;simp(disch:=omega) only[dN,jM,WW,CC,hs,e1,hC]
   ·have e1:((((m k).len:Nat):Int) !=IntKind.i64.wrap (t+1))=true:=by rw[wrap_i64 (by omega)];exact uw c1
    refine .inr ⟨_,?_,.inl ⟨k,rfl,hb k hk (by rw[<-hl];exact λhh=>c1 hh.1)⟩⟩;simp(disch:=omega) only[dN,jM,WW,CC,hs,e1])
  (λ_ hp=>by refine⟨_,?_,.inr ⟨rfl,hp⟩⟩;simp(disch:=omega) only[dN,jM,WW,CC]) () (λi hi=>absurd hi (awO _))
 have y1':au dN (((n,m),((),(((n:Nat):Int),(0,())))),(g,(t,())))=some y:=y1;have hlr:tL t=some true:=by rw[EW];unfold BO;simp(disch:=omega) only[WW]
 simp only[y1'];rcases y2 with⟨k,rfl,hmm⟩|⟨rfl,hp⟩
 ·rw[ak hmm];simp(disch:=omega) only[WW,yc]
 ·simp only[yg,hlr];have hsz:=hm.sz;by_cases c1:1<=n
  ·by_cases c2:n<=25
   ·rw[aG (p:=Cj P Q t M) ⟨ht,by omega,λi hi=>hp i (by omega)⟩];simp(disch:=omega) only[WW]
   ·rw[ak (p:=Cj P Q t M) (λhh=>c2 (by have:=hh.2.1;omega))];simp(disch:=omega) only[WW]
  ·rw[ak (p:=Cj P Q t M) (λhh=>c1 (by have:=hh.2.1;omega))];simp(disch:=omega) only[WW]
open Classical in
theorem Ot(h:dZ g P Q G){n:Nat}{m:Nat->SlV (Nat->Int)}{M:List (List Nat)}(hm:uF n m M)(hn:n<9223372036854775808){i:Int}{ny:Nat}{y:Nat->(Nat->Int)}{L:List Nat}(hy:Fv ny y L):
  tQ (some g) n m (i,(ny,y))=some (decide (p9 P Q G M i L)):=by
 rw[EX];unfold wC;have hsz:=hm.sz;have hLl:=hy.1;by_cases c1:1<=n
 case neg=>
  rw[ak (p:=p9 P Q G M i L) (λhh=>c1 (by have:=hh.1;omega))];simp(disch:=omega) only[WW]
 by_cases c2:n<=25
 case neg=>
  rw[ak (p:=p9 P Q G M i L) (λhh=>c2 (by have:=hh.1;omega))];simp(disch:=omega) only[WW]
 by_cases c3:ny=n
 case neg=>
  rw[ak (p:=p9 P Q G M i L) (λhh=>c3 (by have:=hh.2.1;omega))];have e:(((ny:Nat):Int) !=(n:Int))=true:=uw (by omega);simp(disch:=omega) only[WW,e]
 subst c3;obtain⟨z,y1,y2⟩:=bH (R:=gJ) (S:=Unit) (λk _=>pV g ny m (ny:Int) (k:Int) i ny y)
  (λk _=> ∀j,j<k->kJ P Q G (M.getD j []).length (λq=>(M.getD j []).getD q 0) i (L.getD j 0))
  (λz=>(z=Lu false/\ ¬p9 P Q G M i L)\/(z=Lv/\ ∀j,j<ny->kJ P Q G (M.getD j []).length (λq=>(M.getD j []).getD q 0) i (L.getD j 0))) ny
  (λk hk _ hp=>by
   have hs:=hm.ms k hk;have hl:=hm.len k hk;have hC:=Oq h (n:=(m k).len) (f:=SlV.fn (λ_=>0) (m k)) (c:=λj=>(M.getD k []).getD j 0) (hm.is k hk) (i:=i) (hy.2 k hk);by_cases c:kJ P Q G (m k).len (λj=>(M.getD k []).getD j 0) i (L.getD k 0)
   ·rw[aG c]at hC;refine .inl ⟨(),?_,λj hj=>?_⟩
    ·simp(disch:=omega) only[gJ,pV,WW,CC,hs,hC]
    ·by_cases e:j=k
     ·subst e;rw[<-hl];exact c
     ·exact hp j (by omega)
   ·rw[ak c]at hC;refine .inr ⟨_,?_,.inl ⟨rfl,λhh=>c (by rw[hl];exact hh.2.2 k (by omega))⟩⟩;simp(disch:=omega) only[gJ,pV,WW,CC,hs,hC])
  (λ_ hp=>by refine⟨_,?_,.inr ⟨rfl,hp⟩⟩;simp(disch:=omega) only[gJ,pV,WW,CC]) () (λi hi=>absurd hi (awO _))
 have y1':au gJ ((g,((),((ny,m),(((ny:Nat):Int),(0,()))))),((i,(ny,y)),()))=some z:=y1;simp(disch:=omega) only[WW,axG,y1'];rcases y2 with⟨rfl,hh⟩|⟨rfl,hp⟩
 ·rw[ak hh]
 ·rw[aG (p:=p9 P Q G M i L) ⟨by omega,by omega,λj hj=>hp j (by omega)⟩]
end
theorem M5 {n:Nat}{m:Nat->SlV (Nat->Int)}{M:List (List Nat)}(hm:uF n m M)(hn:n<9223372036854775808)(hb:(yZ M).length<2^59):
  wD n m=some (Ju (yZ M)):=by
 rw[D9];unfold zL;have hs:wz ⟨(yZ M).toArray⟩=some (Ju (bl ⟨(yZ M).toArray⟩)):=Eu (by simpa [ByteArray.size]using hb);simp only[Ol hm hn,hs]
open Go Go.Den Go.Num
section
variable {P Q G:Nat}
open Classical in
theorem VU(hP:1<P)(p62:P<4611686018427387904)(q62:Q<4611686018427387904)(hG:G<P){n:Nat}(hn:n<9223372036854775808){f:Nat->(Nat->Int)}{c:Nat->Nat}(hf: ∀j,j<n->IsN (f j) (c j)){i:Int}{a:Nat->Int}{y:Nat}(ha:IsN a y):
  J2 ((P:Int),(Q:Int),(G:Int)) n f (i,a)=some (decide (kJ P Q G n c i y)):=by
 rw[Nu];unfold LC;have hM:=Oh (P:=P) (Q:=Q) (G:=G) hP p62 q62 hn hf;have hL:=j6 ha;simp only[hM,hL];by_cases c1:Ah P Q n c
 case neg=>
  rw[ak c1,ak (p:=kJ P Q G n c i y) (λh=>c1 h.2.2.1)];split<;>simp only[aM]
 rw[aG c1];by_cases c2:i>=1
 case neg=>
  rw[ak c2,ak (p:=kJ P Q G n c i y) (λh=>c2 h.1.1)];split<;>simp only[aN,aM]
 rw[aG c2];by_cases c3:i<=7
 case neg=>
  rw[ak c3,ak (p:=kJ P Q G n c i y) (λh=>c3 h.1.2)];split<;>simp only[aN,aM]
 rw[aG c3];by_cases c4:y<9223372036854775808
 case neg=>
  rw[awG c4,ak (p:=kJ P Q G n c i y) (λh=>by have:=h.2.1;omega)];rfl
 rw[awQ c4];simp only[aN];by_cases c5:y<Q
 case neg=>
  rw[ak (show¬((y:Nat):Int)<(Q:Int)by omega),ak (p:=kJ P Q G n c i y) (λh=>c5 h.2.1)];rfl
 rw[aG (show((y:Nat):Int)<(Q:Int)by omega),aN];obtain⟨i',rfl⟩: ∃i':Nat,i=(i':Int):=⟨i.toNat,by omega⟩;have hE:=Er (P:=P) (Q:=Q) (G:=G) (a:=G) ha (by omega) (by omega);have hA:=a1K (P:=P) (Q:=Q) (G:=G) hP p62 c1.2.1 hf (i:=i') (by omega);simp only[hE,hA];have hh:kJ P Q G n c (i':Int) y↔G^y%P=atN P n c i':=⟨λh=>by have:=h.2.2.2;rwa [awz]at this,λh=>⟨⟨by omega,by omega⟩,c5,c1,by rw[awz];exact h⟩⟩
 congr 1
 rw[axg,ayD,awI,hh];exact⟨λh=>by exact_mod_cast h,λh=>by exact_mod_cast h⟩
end
open Go Go.Den Go.Num
theorem Zz {n:Nat}{m:Nat->SlV (Nat->Int)}{M:List (List Nat)}(hm:uF n m M)(hn:n<9223372036854775808)(hb:(yZ M).length<2^40):zM n m=some (Ju (yZ M)):=by rw[Ki];unfold GU;have hs:yR ⟨(yZ M).toArray⟩=some (Ju (bl ⟨(yZ M).toArray⟩)):=Og (by simpa [ByteArray.size]using hb);simp only[VI hm hn,hs]
section
variable {P Q G:Nat}
open Classical in
theorem ZA(hP:1<P)(p62:P<4611686018427387904)(q62:Q<4611686018427387904){t:Int}(ht: -100<=t/\t<=100){n:Nat}{m:Nat->SlV (Nat->Int)}{M:List (List Nat)}(hm:uF n m M)(hn:n<9223372036854775808)(hl: ∀i,i<n->(m i).len<9223372036854775808):
  Ny ((P:Int),(Q:Int),(G:Int)) t n m=some (decide (Cj P Q t M)):=by
 rw[Ux];unfold Uw;have hb: ∀k,k<n-> ¬((((M.getD k []).length:Nat):Int)=t+1/\Ah P Q (M.getD k []).length (λj=>(M.getD k []).getD j 0))-> ¬Cj P Q t M:=λk hk hh hmm=>hh (hmm.2.2 k (by rw[<-hm.sz];exact hk))
 obtain⟨y,y1,y2⟩:=bH (R:=lF) (S:=Unit) (λk _=>wX t n m (k:Int) ((P:Int),(Q:Int),(G:Int)))
  (λk _=> ∀i,i<k->(((M.getD i []).length:Nat):Int)=t+1/\Ah P Q (M.getD i []).length (λj=>(M.getD i []).getD j 0))
  (λy=>(y=WO false/\ ¬Cj P Q t M)\/(y=Ke t n m/\ ∀i,i<n->(((M.getD i []).length:Nat):Int)=t+1/\Ah P Q (M.getD i []).length (λj=>(M.getD i []).getD j 0))) n
  (λk hk _ hp=>by
   have hs:=hm.ms k hk;have hle:=hm.len k hk;have hC:=Oh (P:=P) (Q:=Q) (G:=G) hP p62 q62 (hl k hk) (f:=SlV.fn (λ_=>0) (m k)) (c:=λj=>(M.getD k []).getD j 0) (hm.is k hk);by_cases c1:(((m k).len:Nat):Int)=t+1
   ·have e1:((((m k).len:Nat):Int) !=IntKind.i64.wrap (t+1))=false:=by rw[wrap_i64 (by omega)];exact nT c1
    by_cases c2:Ah P Q (m k).len (λj=>(M.getD k []).getD j 0)
    ·rw[aG c2]at hC;refine .inl ⟨(),?_,λi hi=>?_⟩
     ·simp(disch:=omega) only[lF,wX,WW,CC,hs,e1,hC]
     ·by_cases e:i=k
      ·subst e;rw[<-hle];exact⟨c1,c2⟩
      ·exact hp i (by omega)
    ·rw[ak c2]at hC;refine .inr ⟨_,?_,.inl ⟨rfl,hb k hk (by rw[<-hle];exact λhh=>c2 hh.2)⟩⟩;simp(disch:=omega) only[lF,wX,WW,CC,hs,e1,hC]
   ·have e1:((((m k).len:Nat):Int) !=IntKind.i64.wrap (t+1))=true:=by rw[wrap_i64 (by omega)];exact uw c1
    refine .inr ⟨_,?_,.inl ⟨rfl,hb k hk (by rw[<-hle];exact λhh=>c1 hh.1)⟩⟩;simp(disch:=omega) only[lF,wX,WW,CC,hs,e1])
  (λ_ hp=>by refine⟨_,?_,.inr ⟨rfl,hp⟩⟩;simp(disch:=omega) only[lF,wX,WW,CC]) () (λi hi=>absurd hi (awO _))
 have y1':au lF ((t,((n,m),((),(0,())))),(((P:Int),(Q:Int),(G:Int)),()))=some y:=y1;simp only[y1'];rcases y2 with⟨rfl,hmm⟩|⟨rfl,hp⟩
 ·rw[ak hmm]
 ·simp only[Ke];have hsz:=hm.sz;by_cases d1:t>=1
  case neg=>
   rw[ak (p:=Cj P Q t M) (λhh=>d1 hh.1.1),ak d1,aM]
  by_cases d2:t<=2
  case neg=>
   rw[ak (p:=Cj P Q t M) (λhh=>d2 hh.1.2),aG d1,aN,ak d2,aM]
  rw[aG d1,aN,aG d2,aN];by_cases c1:((n:Nat):Int)>=1
  ·rw[aG c1,aN];by_cases c2:((n:Nat):Int)<=25
   ·rw[aG c2,aG (p:=Cj P Q t M) ⟨⟨d1,d2⟩,by omega,λi hi=>hp i (by omega)⟩]
   ·rw[ak c2,ak (p:=Cj P Q t M) (λhh=>c2 (by have:=hh.2.1;omega))]
  ·rw[ak (p:=Cj P Q t M) (λhh=>c1 (by have:=hh.2.1;omega)),ak c1,aM]
open Classical in
theorem VW(hP:1<P)(p62:P<4611686018427387904)(q62:Q<4611686018427387904)(hG:G<P){n:Nat}{m:Nat->SlV (Nat->Int)}{M:List (List Nat)}(hm:uF n m M)(hn:n<9223372036854775808)(hl: ∀i,i<n->(m i).len<9223372036854775808){i:Int}{ny:Nat}{y:Nat->(Nat->Int)}{L:List Nat}(hy:Fv ny y L)(hny:ny<9223372036854775808):
  vK ((P:Int),(Q:Int),(G:Int)) n m (i,(ny,y))=some (decide (p9 P Q G M i L)):=by
 rw[ND];unfold LH;have hsz:=hm.sz;have hLl:=hy.1;by_cases c3:ny=n
 case neg=>
  rw[ak (p:=p9 P Q G M i L) (λhh=>c3 (by have:=hh.2.1;omega))];have e:(((ny:Nat):Int) !=(n:Int))=true:=uw (by omega);simp(disch:=omega) only[WW,e]
 subst c3;by_cases c1:1<=ny
 case neg=>
  rw[ak (p:=p9 P Q G M i L) (λhh=>c1 (by have:=hh.1;omega))];simp(disch:=omega) only[WW,axG]
 by_cases c2:ny<=25
 case neg=>
  rw[ak (p:=p9 P Q G M i L) (λhh=>c2 (by have:=hh.1;omega))];simp(disch:=omega) only[WW,axG]
 obtain⟨z,y1,y2⟩:=bH (R:=kF) (S:=Unit) (λk _=>wF ny m (k:Int) ((P:Int),(Q:Int),(G:Int)) i ny y)
  (λk _=> ∀j,j<k->kJ P Q G (M.getD j []).length (λq=>(M.getD j []).getD q 0) i (L.getD j 0))
  (λz=>(z=Rt false/\ ¬p9 P Q G M i L)\/(z=Ru/\ ∀j,j<ny->kJ P Q G (M.getD j []).length (λq=>(M.getD j []).getD q 0) i (L.getD j 0))) ny
  (λk hk _ hp=>by
   have hs:=hm.ms k hk;have hle:=hm.len k hk;have hC:=VU (P:=P) (Q:=Q) (G:=G) hP p62 q62 hG (hl k hk) (f:=SlV.fn (λ_=>0) (m k)) (c:=λj=>(M.getD k []).getD j 0) (hm.is k hk) (i:=i) (hy.2 k hk);by_cases c:kJ P Q G (m k).len (λj=>(M.getD k []).getD j 0) i (L.getD k 0)
   ·rw[aG c]at hC;refine .inl ⟨(),?_,λj hj=>?_⟩
    ·simp(disch:=omega) only[kF,wF,WW,CC,hs,hC]
    ·by_cases e:j=k
     ·subst e;rw[<-hle];exact c
     ·exact hp j (by omega)
   ·rw[ak c]at hC;refine .inr ⟨_,?_,.inl ⟨rfl,λhh=>c (by rw[hle];exact hh.2.2 k (by omega))⟩⟩;simp(disch:=omega) only[kF,wF,WW,CC,hs,hC])
  (λ_ hp=>by refine⟨_,?_,.inr ⟨rfl,hp⟩⟩;simp(disch:=omega) only[kF,wF,WW,CC]) () (λi hi=>absurd hi (awO _))
 have y1':au kF (((ny,m),((),((),(0,())))),(((P:Int),(Q:Int),(G:Int)),((i,(ny,y)),())))=some z:=y1;simp(disch:=omega) only[WW,axG,y1'];rcases y2 with⟨rfl,hh⟩|⟨rfl,hp⟩
 ·rw[ak hh]
 ·rw[aG (p:=p9 P Q G M i L) ⟨by omega,by omega,λj hj=>hp j (by omega)⟩]
def NoG(X:sN):Prop:=(X.seq=0/\X.cli=0)/\X.dig=[]/\(X.mat=[]/\X.ys=[])/\X.op=0
def iP(P Q G:Nat)(t i:Int)(X:sN):Prop:=NoG X\/(Ev (X.seq,X.cli)/\X.dig.length=32/\(0<=X.op/\X.op<=1048576)/\((X.mat=[]/\X.ys=[])\/(Cj P Q t X.mat/\bl (Ju (yZ X.mat))=X.dig/\p9 P Q G X.mat i X.ys)))
theorem wH {α:Type}{L:List α}{n:Nat}(h:n=L.length):L=[]↔n=0:=by rw[h];exact aya.symm
theorem aan(a:Int×Int):eqF (.pair (.int .i64) (.int .i64)) a (0,0)=decide (a.1=0/\a.2=0):=by obtain⟨a,b⟩:=a;rw[axg,awI];simp only[eqF,awu,ayD]
theorem asg(s:ByteArray):sEq s (ByteArray.mk #[])=decide (bl s=[]):=by rw[PY]
open Classical in
theorem wI {x:GA}{X:sN}(h:a1P x X):jv x=some (decide (NoG X)):=by
 rw[QS];unfold Pm;rw[aan,h.seq,h.cli,asg,h.dig,h.op];by_cases c1:X.seq=0/\X.cli=0
 case neg=>rw[ak c1,aM,ak (λh=>c1 h.1)]
 by_cases c2:X.dig=[]
 case neg=>rw[aG c1,aN,ak c2,aM,ak (λh=>c2 h.2.1)]
 rw[aG c1,aN,aG c2,aN];by_cases c3:x.2.2.1.1=0
 case neg=>rw[O0 (by omega),aM,ak (λhh=>c3 ((wH h.mat.sz).1 hh.2.2.1.1))]
 by_cases c4:x.2.2.2.1.1=0
 case neg=>rw[I7 (by omega),aN,O0 (by omega),aM,ak (λhh=>c4 ((wH h.ys.1.symm).1 hh.2.2.1.2))]
 rw[I7 (by omega),aN,I7 (by omega),aN]
 congr 1
 rw[axg,ayD,awI];exact⟨λe=>⟨c1,c2,⟨(wH h.mat.sz).2 c3,(wH h.ys.1.symm).2 c4⟩,e⟩,λe=>e.2.2.2⟩
theorem adw {x:GA}{X:sN}(h:a1P x X)(hs:x.2.2.2.1.1<=1000000):(IntKind.i64.wrap (((x.2.2.1.1:Nat):Int)+((x.2.2.2.1.1:Nat):Int))==0)=decide (X.mat=[]/\X.ys=[]):=by have:=h.m63;rw[XO,axg,ayD,awI,wH h.mat.sz,wH h.ys.1.symm];split<;>omega
open Classical in
theorem qd {x:GA}{X:sN}(h:a1P x X)(hs:x.2.2.2.1.1<=1000000):bP x=some (decide (NoG X)):=by
 rw[Hz];unfold Eh;dsimp only;rw[aan,h.seq,h.cli,asg,h.dig,h.op,adw h hs];by_cases c1:X.seq=0/\X.cli=0
 case neg=>rw[ak c1,aM,ak (λh=>c1 h.1)]
 by_cases c2:X.dig=[]
 case neg=>rw[aG c1,aN,ak c2,aM,ak (λh=>c2 h.2.1)]
 rw[aG c1,aN,aG c2,aN];by_cases c3:X.mat=[]/\X.ys=[]
 case neg=>rw[ak c3,aM,ak (λhh=>c3 hh.2.2.1)]
 rw[aG c3,aN]
 congr 1
 rw[axg,ayD,awI];exact⟨λe=>⟨c1,c2,c3,e⟩,λe=>e.2.2.2⟩
structure GvB(x:GA)(X:sN):Prop where
 is:a1P x X
 s:x.2.2.2.1.1<=1000000
 l: ∀i,i<x.2.2.1.1->(x.2.2.1.2 i).len<9223372036854775808
 w:a4H X.mat
open Classical in
theorem rA(hP:1<P)(p62:P<4611686018427387904)(q62:Q<4611686018427387904)(hG:G<P){t i:Int}(ht: -100<=t/\t<=100){x:GA}{X:sN}(h:GvB x X):
  dM ((P:Int),(Q:Int),(G:Int)) t i x=some (decide (iP P Q G t i X)):=by
 rw[Kq];unfold He;have hn:jv (x.1,(x.2.1,((x.2.2.1.1,x.2.2.1.2),((x.2.2.2.1.1,x.2.2.2.1.2),x.2.2.2.2))))=some (decide (NoG X)):=wI h.is;have hM:=ZA (P:=P) (Q:=Q) (G:=G) hP p62 q62 ht h.is.mat h.is.m63 h.l;have hD:=Zz h.is.mat h.is.m63 (by have:=a4J h.w;omega);have hH:=VW (P:=P) (Q:=Q) (G:=G) hP p62 q62 hG h.is.mat h.is.m63 h.l (i:=i) h.is.ys h.is.y63;have hsq:x.1=(X.seq,X.cli):=Prod.ext h.is.seq h.is.cli;have hdg:=h.is.dig;simp only[hn];simp only[hsq,qc];by_cases c0:NoG X
 case pos=>rw[aG c0,aN,aG (p:=iP P Q G t i X) (.inl c0)]
 rw[ak c0,aM];by_cases c1:Ev (X.seq,X.cli)
 case neg=>rw[ak c1,ak (p:=iP P Q G t i X) (λhh=>hh.elim c0 λhh=>c1 hh.1)];rfl
 by_cases c2:X.dig.length=32
 case neg=>
  rw[aG c1,uw (show¬((x.2.1.size:Nat):Int)=32 by rw[iI,hdg];omega),ak (p:=iP P Q G t i X) (λhh=>hh.elim c0 λhh=>c2 hh.2.1)];rfl
 by_cases c3:x.2.2.2.2<0
 case pos=>
  rw[aG c1,nT (show((x.2.1.size:Nat):Int)=32 by rw[iI,hdg];omega),aG c3,ak (p:=iP P Q G t i X) (λhh=>hh.elim c0 λhh=>by have:=hh.2.2.1;rw[h.is.op]at c3;omega)];rfl
 by_cases c4:x.2.2.2.2>1048576
 case pos=>
  rw[aG c1,nT (show((x.2.1.size:Nat):Int)=32 by rw[iI,hdg];omega),ak c3,aG c4,ak (p:=iP P Q G t i X) (λhh=>hh.elim c0 λhh=>by have:=hh.2.2.1;rw[h.is.op]at c4;omega)];rfl
 rw[aG c1,nT (show((x.2.1.size:Nat):Int)=32 by rw[iI,hdg];omega),ak c3,ak c4];have e3: ∀(p:Prop) [Decidable p] (hp:iP P Q G t i X↔p),(some (decide p):Option Bool)=some (decide (iP P Q G t i X)):=λp _ hp=>by congr 1;rw[axg,awI,awI,hp]
 have hv: ¬(X.mat=[]/\X.ys=[])->(iP P Q G t i X↔(Cj P Q t X.mat/\bl (Ju (yZ X.mat))=X.dig/\p9 P Q G X.mat i X.ys)):=λhne=>⟨λhh=>(hh.resolve_left c0).2.2.2.resolve_left hne,λhh=>.inr ⟨c1,c2,by have:=h.is.op;omega,.inr hh⟩⟩
 have tail: ¬(X.mat=[]/\X.ys=[])->(match(some (decide (Cj P Q t X.mat)):Option Bool)with
   |none=>none
   |some r2=>bif r2 then(match(some (Ju (yZ X.mat)):Option ByteArray)with
    |none=>none
    |some r3=>bif sEq r3 x.2.1 then(match(some (decide (p9 P Q G X.mat i X.ys)):Option Bool)with
     |none=>none
     |some r4=>some r4)else some false)else some false)=some (decide (iP P Q G t i X)):=λhne=>by
  simp only[PY,hdg];by_cases d1:Cj P Q t X.mat
  case neg=>rw[ak d1,aM,ak (p:=iP P Q G t i X) (λhh=>d1 ((hv hne).1 hh).1)]
  by_cases d2:bl (Ju (yZ X.mat))=X.dig
  case neg=>rw[aG d1,aN,ak d2,aM,ak (p:=iP P Q G t i X) (λhh=>d2 ((hv hne).1 hh).2.1)]
  rw[aG d1,aN,aG d2,aN];exact e3 _ ((hv hne).trans ⟨λhh=>hh.2.2,λhh=>⟨d1,d2,hh⟩⟩)
 by_cases d3:x.2.2.1.1=0
 ·by_cases d4:x.2.2.2.1.1=0
  ·rw[I7 (show((x.2.2.1.1:Nat):Int)=0 by omega),I7 (show((x.2.2.2.1.1:Nat):Int)=0 by omega),aG (p:=iP P Q G t i X) (.inr ⟨c1,c2,by have:=h.is.op;omega,.inl ⟨(wH h.is.mat.sz).2 d3,(wH h.is.ys.1.symm).2 d4⟩⟩)];rfl
  ·rw[I7 (show((x.2.2.1.1:Nat):Int)=0 by omega),O0 (show¬((x.2.2.2.1.1:Nat):Int)=0 by omega),<-tail (λhh=>d4 ((wH h.is.ys.1.symm).1 hh.2))];simp only[hM,hD];show(match(some (decide (Cj P Q t X.mat)):Option Bool)with|none=>none|some r2=>_)=_;have hH':vK ((P:Int),(Q:Int),(G:Int)) x.2.2.1.1 x.2.2.1.2 (i,(x.2.2.2.1.1,x.2.2.2.1.2))=_:=hH;simp only[hH'];rfl
 ·rw[O0 (show¬((x.2.2.1.1:Nat):Int)=0 by omega),<-tail (λhh=>d3 ((wH h.is.mat.sz).1 hh.1))];have hH':vK ((P:Int),(Q:Int),(G:Int)) x.2.2.1.1 x.2.2.1.2 (i,(x.2.2.2.1.1,x.2.2.2.1.2))=_:=hH;simp only[hM,hD,hH'];rfl
end
open Go Go.Den Go.Num
section
variable {g:mh} {P Q G:Nat}
theorem uQ(x:Int):jl x=some (decide (0<=x/\x<=1048576)):=by
 rw[yu];unfold uj;by_cases c:x>=0
 ·rw[aG c,aN]
  congr 1
  rw[axg,awI,awI];omega
 ·rw[ak c,aM,ak (by omega)]
def Ez(x:GA):PR:=((x.1,(x.2.1,((x.2.2.1.1,x.2.2.1.2),(x.2.2.2.1.1,x.2.2.2.1.2)))),x.2.2.2.2)
open Classical in
theorem mo(hg:dZ g P Q G){o:SS}(ho:o.1.1=g)(ht:1<=o.1.2.1/\o.1.2.1<=2){x:GA}{X:sN}(h:GvB x X):
  aS x.1 x.2.1 x.2.2.1.1 x.2.2.1.2 x.2.2.2.1.1 x.2.2.2.1.2 x.2.2.2.2 o=some ((Ez x,(decide (iP P Q G o.1.2.1 o.1.2.2.1 X),())),o):=by
 obtain⟨⟨g',t,i,sn⟩,sp⟩:=o;have ho:g'=g:=ho;subst ho;have ht:1<=t/\t<=2:=ht;show _=some ((Ez x,(decide (iP P Q G t i X),())),((g',t,i,sn),sp));rw[qh];unfold kZ;have hn:bP (x.1,(x.2.1,((x.2.2.1.1,x.2.2.1.2),((x.2.2.2.1.1,x.2.2.2.1.2),x.2.2.2.2))))=some (decide (NoG X)):=qd h.is h.s;have hM:=RN (P:=P) (Q:=Q) (G:=G) hg ht h.is.mat h.is.m63;have hD:=M5 h.is.mat h.is.m63 (by have:=a4J h.w;omega);have hH:tQ (some g') x.2.2.1.1 x.2.2.1.2 (i,(x.2.2.2.1.1,x.2.2.2.1.2))=_:=Ot (P:=P) (Q:=Q) (G:=G) hg h.is.mat h.is.m63 (i:=i) h.is.ys;have hsq:Ev x.1↔Ev (X.seq,X.cli):=by rw[show x.1=(X.seq,X.cli)from Prod.ext h.is.seq h.is.cli]
 have hdg:=h.is.dig;have hop:=h.is.op;simp only[hn,Ig,uQ,adw h.is h.s,hM,hD,hH,PY,hdg];unfold Ez;by_cases c0:NoG X
 case pos=>rw[aG c0,aN,aG (p:=iP P Q G t i X) (.inl c0)]
 rw[ak c0,aM];by_cases c1:Ev x.1
 case neg=>rw[ak c1,ak (p:=iP P Q G t i X) (λhh=>hh.elim c0 λhh=>c1 (hsq.2 hh.1))];rfl
 by_cases c2:X.dig.length=32
 case neg=>
  rw[aG c1,uw (show¬((x.2.1.size:Nat):Int)=32 by rw[iI,hdg];omega),ak (p:=iP P Q G t i X) (λhh=>hh.elim c0 λhh=>c2 hh.2.1)];rfl
 by_cases c3:0<=x.2.2.2.2/\x.2.2.2.2<=1048576
 case neg=>
  rw[aG c1,nT (show((x.2.1.size:Nat):Int)=32 by rw[iI,hdg];omega),ak c3,ak (p:=iP P Q G t i X) (λhh=>hh.elim c0 λhh=>c3 (by have:=hh.2.2.1;omega))];rfl
 rw[aG c1,nT (show((x.2.1.size:Nat):Int)=32 by rw[iI,hdg];omega),aG c3];by_cases c4:X.mat=[]/\X.ys=[]
 case pos=>rw[aG c4,aG (p:=iP P Q G t i X) (.inr ⟨hsq.1 c1,c2,by omega,.inl c4⟩)];rfl
 have hv:iP P Q G t i X↔(Cj P Q t X.mat/\bl (Ju (yZ X.mat))=X.dig/\p9 P Q G X.mat i X.ys):=⟨λhh=>(hh.resolve_left c0).2.2.2.resolve_left c4,λhh=>.inr ⟨hsq.1 c1,c2,by omega,.inr hh⟩⟩;rw[ak c4];by_cases d1:Cj P Q t X.mat
 case neg=>rw[ak d1,ak (p:=iP P Q G t i X) (λhh=>d1 (hv.1 hh).1)];rfl
 by_cases d2:bl (Ju (yZ X.mat))=X.dig
 case neg=>rw[aG d1,ak d2,ak (p:=iP P Q G t i X) (λhh=>d2 (hv.1 hh).2.1)];rfl
 rw[aG d1,aG d2];by_cases d3:p9 P Q G X.mat i X.ys
 ·rw[aG d3,aG (p:=iP P Q G t i X) (hv.2 ⟨d1,d2,d3⟩)];rfl
 ·rw[ak d3,ak (p:=iP P Q G t i X) (λhh=>d3 (hv.1 hh).2.2)];rfl
end
open Go Go.Den Go.Num
theorem a3R {N:Nat}{a b:VO}(ha:Jv N a)(hb:Jv N b):J6 a b=some (decide (pkV a<pkV b)):=by
 rw[NM];unfold LK;obtain⟨⟨a1,a2⟩,⟨a3,a4,a5,a6⟩,_⟩:=ha;obtain⟨⟨b1,b2⟩,⟨b3,b4,b5,b6⟩,_⟩:=hb;simp only[Je];have pa:(pkV a:Int)=8*(a.1-1)+2*(a.2.1.2-1)+a.2.1.1%2:=by unfold pkV;omega
 have pb:(pkV b:Int)=8*(b.1-1)+2*(b.2.1.2-1)+b.2.1.1%2:=by unfold pkV;omega
 have e: ∀(p:Prop) [Decidable p] (hp:p↔pkV a<pkV b),(some (decide p):Option Bool)=some (decide (pkV a<pkV b)):=λp _ hp=>by congr 1;rw[axg,awI,awI,hp]
 by_cases c1:a.1=b.1
 ·rw[nT c1,aM];by_cases c2:a.2.1.2=b.2.1.2
  ·rw[nT c2,aM];exact e _ (by omega)
  ·rw[uw c2,aN];exact e _ (by omega)
 ·rw[uw c1,aN];exact e _ (by omega)
theorem a5Z {N n:Nat}{f:Nat->VO}{L:List VO}(h:Y6 n f L):jU N L↔((∀i,i<n->Jv N (f i))/\ ∀i,i+1<n->pkV (f i)<pkV (f (i+1))):=by
 obtain⟨rfl,h2⟩:=h;unfold jU;constructor
 ·rintro ⟨g1,g2⟩;rw[ayp]at g2;refine⟨λi hi=>by rw[h2 i hi];exact g1 _ (List.getElem_mem hi),λi hi=>?_⟩;rw[h2 i (by omega),h2 (i+1) hi];exact g2 i (i+1) (by omega) hi (by omega)
 ·rintro ⟨g1,g2⟩;refine⟨λv hv=>?_,?_⟩
  ·obtain⟨i,hi,rfl⟩:=List.getElem_of_mem hv;rw[<-h2 i hi];exact g1 i hi
  ·rw[ayp];intro i j hi hj hij;rw[<-h2 i hi,<-h2 j hj];have: ∀d,i+d+1<L.length->pkV (f i)<pkV (f (i+d+1)):=λd=>by
    induction d with
    |zero=>exact λh=>g2 i h
    |succ d ih=>exact λh=>Nat.lt_trans (ih (by omega)) (g2 (i+d+1) (by omega))
   have:=this (j-i-1) (by omega)
   rwa [show i+(j-i-1)+1=j from by omega]at this
open Classical in
theorem KM {N n:Nat}{f:Nat->VO}{L:List VO}(h:Y6 n f L)(hn:n<9223372036854775807):lW n f (N:Int)=some (decide (jU N L)):=by
 rw[F5];unfold BZ;have hv:=a5Z (N:=N) h;obtain⟨z,y1,y2⟩:=bH (R:=bM) (S:=Unit) (λk _=>dH n f (N:Int) (k:Int))
  (λk _=>(∀i,i<k->Jv N (f i))/\ ∀i,i+1<k->pkV (f i)<pkV (f (i+1)))
  (λz=>(z=LM false/\ ¬jU N L)\/(z=LP/\jU N L)) n
  (λk hk _ hp=>by
   by_cases c1:(f k).1<1
   ·refine .inr ⟨_,?_,.inl ⟨rfl,λhh=>by have:=((hv.1 hh).1 k hk).1.1;omega⟩⟩;simp(disch:=omega) only[bM,dH,WW,CC]
   by_cases c2:(f k).1>(N:Int)
   ·refine .inr ⟨_,?_,.inl ⟨rfl,λhh=>by have:=((hv.1 hh).1 k hk).1.2;omega⟩⟩;simp(disch:=omega) only[bM,dH,WW,CC]
   by_cases c3:Ev (f k).2.1
   case neg=>
    refine .inr ⟨_,?_,.inl ⟨rfl,λhh=>c3 ((hv.1 hh).1 k hk).2.1⟩⟩;simp(disch:=omega) only[bM,dH,WW,CC,qc,ak c3,axz]
   by_cases c4:(f k).2.2.size=32
   case neg=>
    have e4:((((f k).2.2.size:Nat):Int) !=32)=true:=uw (by omega);refine .inr ⟨_,?_,.inl ⟨rfl,λhh=>c4 ((hv.1 hh).1 k hk).2.2⟩⟩;simp(disch:=omega) only[bM,dH,WW,CC,qc,aG c3,axc,e4]
   have e4:((((f k).2.2.size:Nat):Int) !=32)=false:=nT (by omega);have hk1:Jv N (f k):=⟨⟨by omega,by omega⟩,c3,c4⟩;have hall: ∀i,i<k+1->Jv N (f i):=λi hi=>by
    by_cases e:i=k
    ·rw[e];exact hk1
    ·exact hp.1 i (by omega)
   by_cases c5:0<k
   ·have ha:=a3R (hp.1 (k-1) (by omega)) hk1;have ei:(IntKind.i64.wrap ((k:Int)-1))=((k-1:Nat):Int):=by rw[wrap_i64 (by omega)];omega
    by_cases c6:pkV (f (k-1))<pkV (f k)
    ·rw[aG c6]at ha;refine .inl ⟨(),?_,hall,λi hi=>?_⟩
     ·simp(disch:=omega) only[bM,dH,WW,CC,qc,aG c3,axc,e4,ei,ha]
     ·by_cases e:i+1=k
      ·subst e;exact c6
      ·exact hp.2 i (by omega)
    ·rw[ak c6]at ha;refine .inr ⟨_,?_,.inl ⟨rfl,λhh=>c6 (by have:=(hv.1 hh).2 (k-1) (by omega);rwa [show k-1+1=k from by omega]at this)⟩⟩;simp(disch:=omega) only[bM,dH,WW,CC,qc,aG c3,axc,axz,e4,ei,ha]
   ·have e5:decide ((k:Int)>0)=false:=ak (by omega);refine .inl ⟨(),?_,hall,λi hi=>by omega⟩;simp(disch:=omega) only[bM,dH,WW,CC,qc,aG c3,axc,e4,e5])
  (λ_ hp=>by refine⟨_,?_,.inr ⟨rfl,hv.2 hp⟩⟩;simp(disch:=omega) only[bM,dH,WW,CC]) () ⟨λi hi=>absurd hi (awO _),λi hi=>absurd hi (awO _)⟩
 have y1':au bM (((n,f),((N:Int),(0,()))),())=some z:=y1;simp only[y1'];rcases y2 with⟨rfl,hh⟩|⟨rfl,hp⟩
 ·rw[ak hh]
 ·rw[aG hp]
section
variable {g:mh} {P Q G:Nat}
def ClG(P Q G:Nat)(t i k:Int)(X:yw):Prop:=((0<=X.op/\X.op<=1048576)/\(0<=X.left/\X.left<=1048576))/\
 (iP P Q G t i X.e/\(NoG X.e\/X.e.cli=k)/\(NoG X.e\/X.e.seq%2=0))/\(iP P Q G t i X.o/\(NoG X.o\/X.o.cli=k)/\(NoG X.o\/X.o.seq%2=1))/\(iP P Q G t i X.w/\(NoG X.w\/X.w.cli=k))
def aao(a b c:GA)(x:Int×Int):CL:=(upd (upd zPS 0 (Ez a)) 1 (Ez b),(Ez c,(x.1,x.2)))
open Classical in
theorem Xg(hg:dZ g P Q G){o:SS}(ho:o.1.1=g)(ht:1<=o.1.2.1/\o.1.2.1<=2){k:Int}{a b c:GA}{X:yw}(ha:GvB a X.e)(hb:GvB b X.o)(hc:GvB c X.w):
  dP k a.1 a.2.1 a.2.2.1.1 a.2.2.1.2 a.2.2.2.1.1 a.2.2.2.1.2 a.2.2.2.2 b.1 b.2.1 b.2.2.1.1 b.2.2.1.2 b.2.2.2.1.1 b.2.2.2.1.2 b.2.2.2.2 c.1 c.2.1 c.2.2.1.1 c.2.2.1.2 c.2.2.2.1.1 c.2.2.2.1.2 c.2.2.2.2 (X.op,X.left) o=
   some ((aao a b c (X.op,X.left),(decide (ClG P Q G o.1.2.1 o.1.2.2.1 k X),())),o):=by
 obtain⟨sn,sp,_⟩:=o;have va:=mo (P:=P) (Q:=Q) (G:=G) hg ho ht ha;have vb:=mo (P:=P) (Q:=Q) (G:=G) hg ho ht hb;have vc:=mo (P:=P) (Q:=Q) (G:=G) hg ho ht hc;have na:bP (a.1,(a.2.1,((a.2.2.1.1,a.2.2.1.2),((a.2.2.2.1.1,a.2.2.2.1.2),a.2.2.2.2))))=_:=qd ha.is ha.s;have nb:bP (b.1,(b.2.1,((b.2.2.1.1,b.2.2.1.2),((b.2.2.2.1.1,b.2.2.2.1.2),b.2.2.2.2))))=_:=qd hb.is hb.s;have nc:bP (c.1,(c.2.1,((c.2.2.1.1,c.2.2.1.2),((c.2.2.2.1.1,c.2.2.2.1.2),c.2.2.2.2))))=_:=qd hc.is hc.s;have e1: ∀ {x:GA} {Y:sN},GvB x Y->(ay .and .i64 x.1.1 1==0)=decide (Y.seq%2=0):=λh=>by rw[Je,h.is.seq,axg,ayD,awI]
 have e2: ∀ {x:GA} {Y:sN},GvB x Y->(ay .and .i64 x.1.1 1==1)=decide (Y.seq%2=1):=λh=>by rw[Je,h.is.seq,axg,ayD,awI]
 have e3: ∀ {x:GA} {Y:sN},GvB x Y->(x.1.2==k)=decide (Y.cli=k):=λh=>by rw[h.is.cli,axg,ayD,awI]
 have hcl:decide (ClG P Q G sn.2.1 sn.2.2.1 k X)=(((decide (0<=X.op/\X.op<=1048576)&&decide (0<=X.left/\X.left<=1048576))&&
   (decide (iP P Q G sn.2.1 sn.2.2.1 X.e)&&((decide (NoG X.e)||decide (X.e.cli=k))&&(decide (NoG X.e)||decide (X.e.seq%2=0)))))&&
   ((decide (iP P Q G sn.2.1 sn.2.2.1 X.o)&&((decide (NoG X.o)||decide (X.o.cli=k))&&(decide (NoG X.o)||decide (X.o.seq%2=1))))&&
   (decide (iP P Q G sn.2.1 sn.2.2.1 X.w)&&(decide (NoG X.w)||decide (X.w.cli=k))))):=by
  rw[axg,awI];unfold ClG;simp only[awu,axU,awI];exact⟨λh=>⟨⟨h.1,h.2.1⟩,h.2.2.1,h.2.2.2⟩,λh=>⟨h.1.1,h.1.2,h.2.1,h.2.2⟩⟩
 rw[show decide (ClG P Q G (sn,(sp,())).1.2.1 (sn,(sp,())).1.2.2.1 k X)=_ from hcl];rw[nO];unfold jE;extract_lets-underBinder K;have hK: ∀z:Bool,K ((z,()),())=some ((aao a b c (X.op,X.left),((z&&(decide (iP P Q G sn.2.1 sn.2.2.1 X.e)&&((decide (NoG X.e)||decide (X.e.cli=k))&&(decide (NoG X.e)||decide (X.e.seq%2=0)))))&&
   ((decide (iP P Q G sn.2.1 sn.2.2.1 X.o)&&((decide (NoG X.o)||decide (X.o.cli=k))&&(decide (NoG X.o)||decide (X.o.seq%2=1))))&&
   (decide (iP P Q G sn.2.1 sn.2.2.1 X.w)&&(decide (NoG X.w)||decide (X.w.cli=k)))),())),(sn,(sp,()))):=by
  intro z;unfold K;simp-zeta-letToHave only[va];extract_lets-underBinder z1 r2 r3 K1;have hK1: ∀z:Bool,K1 ((z,()),())=some ((aao a b c (X.op,X.left),(z&&((decide (iP P Q G sn.2.1 sn.2.2.1 X.o)&&((decide (NoG X.o)||decide (X.o.cli=k))&&(decide (NoG X.o)||decide (X.o.seq%2=1))))&&
   (decide (iP P Q G sn.2.1 sn.2.2.1 X.w)&&(decide (NoG X.w)||decide (X.w.cli=k)))),())),(sn,(sp,()))):=by
   intro z;unfold K1;simp only[vb,vc,nb,nc,e2 hb,e3 hb,e3 hc];unfold aao;generalize decide (iP P Q G sn.2.1 sn.2.2.1 X.o)=q1;generalize decide (NoG X.o)=q2;generalize decide (X.o.cli=k)=q3;generalize decide (X.o.seq%2=1)=q4;generalize decide (iP P Q G sn.2.1 sn.2.2.1 X.w)=q5;generalize decide (NoG X.w)=q6;generalize decide (X.w.cli=k)=q7;cases z
   ·rfl
   cases q1
   ·rfl
   cases q2<;>cases q3<;>cases q4<;>first|rfl|(cases q5;rfl;cases q6<;>cases q7<;>rfl)
  clear_value K1;simp only[na,hK1,e1 ha,e3 ha,z1,r3];generalize decide (iP P Q G sn.2.1 sn.2.2.1 X.e)=q1;generalize decide (NoG X.e)=q2;generalize decide (X.e.cli=k)=q3;generalize decide (X.e.seq%2=0)=q4;cases z
  ·rfl
  cases q1
  ·rfl
  cases q2<;>cases q3<;>cases q4<;>rfl
 clear_value K;simp only[uQ,hK];generalize decide (0<=X.op/\X.op<=1048576)=q1;cases q1<;>rfl
end
open Go Go.Den Go.Num
structure GiB(x:GI)(X:sN):Prop where
 m0:x.2.2.1.isMs=false
 y0:x.2.2.2.1.isMs=false
 gv:GvB (Ij x) X
structure ToB(x:TO)(X:yw):Prop where
 e:GiB x.1 X.e
 o:GiB x.2.1 X.o
 w:GiB x.2.2.1 X.w
 op:x.2.2.2.1=X.op
 left:x.2.2.2.2=X.left
def clT(x:TO):CL:=aao (Ij x.1) (Ij x.2.1) (Ij x.2.2.1) (x.2.2.2.1,x.2.2.2.2)
def VX(t:Nat->TO):Nat->(Nat->CL)|0=>zCS|k+1=>upd (VX t k) k (clT (t k))
theorem Y8(t:Nat->TO): ∀(k j:Nat),j<k->VX t k j=clT (t j)
 |0,j,h=>absurd h (awO _)
 |k+1,j,h=>by
  rw[VX];unfold upd;by_cases e:j=k
  ·subst e;rw[awQ rfl]
  ·rw[awG e];exact Y8 t k j (by omega)
def RcG(P Q G:Nat)(t i:Int)(N:Nat)(m:Nat)(H:sN)(e d:List VO)(C:List yw):Prop:=
 iP P Q G t i H/\H.op=0/\jU N e/\jU N d/\C.length=m/\ ∀j,j<C.length->ClG P Q G t i ((j+1:Nat):Int) (C.getD j t0)
section
variable {g:mh} {P Q G:Nat}
open Classical in
theorem Xh(hg:dZ g P Q G){sn:SN}{sp:SP}(ho:sn.1=g)(ht:1<=sn.2.1/\sn.2.1<=2){N:Nat}(hN:1<=N/\N<=7)(hsn:sn.2.2.2.1=(N:Int)){m:Nat}(hm:sn.2.2.2.2.1=(m:Int))(hm4:m<=4)
  (key:ByteArray) {h:GA} {H:sN} (hh:GvB h H) {ne:Nat} {e:Nat->VO} {Le:List VO} (he:Y6 ne e Le) (hne:ne<=1000) (hes: ∀v∈Le,v.1<9223372036854775808)
  {nd:Nat} {d:Nat->VO} {Ld:List VO} (hd:Y6 nd d Ld) (hnd:nd<=1000) (hds: ∀v∈Ld,v.1<9223372036854775808) {nc:Nat} {c:Nat->TO} {C:List yw} (hc:nc=C.length) (hC: ∀i,i<nc->ToB (c i) (C.getD i t0)) (hnc:nc<=1000):
  dQ key h.1 h.2.1 h.2.2.1.1 h.2.2.1.2 h.2.2.2.1.1 h.2.2.2.1.2 h.2.2.2.2 ne e nd d nc c (sn,(sp,()))=
   some (if RcG P Q G sn.2.1 sn.2.2.1 N m H Le Ld C then mI true (sn,(sp,(((N:Int),(jD N Le (true,zT0)).2),(((N:Int),(jD N Ld (true,zT0)).2),(((Ez h).1,(key,((),((),VX c nc)))),())))))else mH false (sn,(sp,()))):=by
 have vh:=mo (P:=P) (Q:=Q) (G:=G) (o:=(sn,(sp,()))) hg ho ht hh;have oe:=Y7 hN he hne hes sn sp hsn;have od:=Y7 hN hd hnd hds sn sp hsn;rw[nP];unfold jF;simp only[vh,oe,od,Y1];by_cases c1:iP P Q G sn.2.1 sn.2.2.1 H
 case neg=>rw[ak c1,awG (λhr:RcG P Q G sn.2.1 sn.2.2.1 N m H Le Ld C=>c1 hr.1)];rfl
 by_cases c2:jU N Le
 case neg=>rw[aG c1,ak c2,awG (λhr:RcG P Q G sn.2.1 sn.2.2.1 N m H Le Ld C=>c2 hr.2.2.1)];rfl
 by_cases c3:jU N Ld
 case neg=>rw[aG c1,aG c2,ak c3,awG (λhr:RcG P Q G sn.2.1 sn.2.2.1 N m H Le Ld C=>c3 hr.2.2.2.1)];rfl
 by_cases c4:h.2.2.2.2=0
 case neg=>rw[aG c1,aG c2,aG c3,uw c4,awG (λhr:RcG P Q G sn.2.1 sn.2.2.1 N m H Le Ld C=>c4 (by rw[hh.is.op];exact hr.2.1))];rfl
 by_cases c5:nc=m
 case neg=>rw[aG c1,aG c2,aG c3,nT c4,hm,uw (show¬((nc:Nat):Int)=(m:Int)by omega),awG (λhr:RcG P Q G sn.2.1 sn.2.2.1 N m H Le Ld C=>c5 (by rw[hc];exact hr.2.2.2.2.1))];rfl
 rw[aG c1,aG c2,aG c3,nT c4,hm,nT (show((nc:Nat):Int)=(m:Int)by omega)];have hv:RcG P Q G sn.2.1 sn.2.2.1 N m H Le Ld C↔ ∀j,j<nc->ClG P Q G sn.2.1 sn.2.2.1 ((j+1:Nat):Int) (C.getD j t0):=by subst hc;exact⟨λhr=>hr.2.2.2.2.2,λhr=>⟨c1,by rw[<-hh.is.op];exact c4,c2,c3,c5,hr⟩⟩
 obtain⟨z,y1,y2⟩:=bH (R:=bA) (S:=Unit)
  (λk _=>dV nc c (nc:Int) (k:Int) (sn,(sp,(((N:Int),(jD N Le (true,zT0)).2),(((N:Int),(jD N Ld (true,zT0)).2),(((Ez h).1,(key,((),((),VX c k)))),()))))))
  (λk _=> ∀j,j<k->ClG P Q G sn.2.1 sn.2.2.1 ((j+1:Nat):Int) (C.getD j t0))
  (λz=>(z=vR false (sn,(sp,()))/\ ¬RcG P Q G sn.2.1 sn.2.2.1 N m H Le Ld C)\/
   (z=vQ (sn,(sp,(((N:Int),(jD N Le (true,zT0)).2),(((N:Int),(jD N Ld (true,zT0)).2),(((Ez h).1,(key,((),((),VX c nc)))),())))))/\RcG P Q G sn.2.1 sn.2.2.1 N m H Le Ld C)) nc
  (λk hk _ hp=>by
   have hb:=hC k hk;have cl:dP ((k+1:Nat):Int) (c k).1.1 (c k).1.2.1 (c k).1.2.2.1.len (SlV.fn .nil (c k).1.2.2.1) (c k).1.2.2.2.1.len (SlV.fn (λ_=>0) (c k).1.2.2.2.1) (c k).1.2.2.2.2 (c k).2.1.1 (c k).2.1.2.1 (c k).2.1.2.2.1.len (SlV.fn .nil (c k).2.1.2.2.1) (c k).2.1.2.2.2.1.len (SlV.fn (λ_=>0) (c k).2.1.2.2.2.1) (c k).2.1.2.2.2.2 (c k).2.2.1.1 (c k).2.2.1.2.1 (c k).2.2.1.2.2.1.len (SlV.fn .nil (c k).2.2.1.2.2.1) (c k).2.2.1.2.2.2.1.len (SlV.fn (λ_=>0) (c k).2.2.1.2.2.2.1) (c k).2.2.1.2.2.2.2 ((c k).2.2.2.1,(c k).2.2.2.2) (sn,(sp,()))=
     some ((clT (c k),(decide (ClG P Q G sn.2.1 sn.2.2.1 ((k+1:Nat):Int) (C.getD k t0)),())),(sn,(sp,()))):=by
    have:=Xg (P:=P) (Q:=Q) (G:=G) (o:=(sn,(sp,()))) hg ho ht (k:=((k+1:Nat):Int)) (X:=C.getD k t0) hb.e.gv hb.o.gv hb.w.gv;rw[<-hb.op,<-hb.left]at this;exact this
   have e1:IntKind.i64.wrap ((k:Int)+1)=((k+1:Nat):Int):=by rw[wrap_i64 (by omega)];omega
   have e4:inb (k:Int) 4=true:=by rw[a4q (by omega)]
   by_cases d1:ClG P Q G sn.2.1 sn.2.2.1 ((k+1:Nat):Int) (C.getD k t0)
   ·rw[aG d1]at cl;refine .inl ⟨(),?_,λj hj=>?_⟩
    ·simp(disch:=omega) only[bA,dV,WW,hb.e.m0,hb.e.y0,hb.o.m0,hb.o.y0,hb.w.m0,hb.w.y0,awz,e1,cl,axc,e4];rfl
    ·by_cases e:j=k
     ·rw[e];exact d1
     ·exact hp j (by omega)
   ·rw[ak d1]at cl;refine .inr ⟨_,?_,.inl ⟨rfl,λhr=>d1 (hv.1 hr k hk)⟩⟩;simp(disch:=omega) only[bA,dV,WW,hb.e.m0,hb.e.y0,hb.o.m0,hb.o.y0,hb.w.m0,hb.w.y0,awz,e1,cl,axz])
  (λ_ hp=>by refine⟨_,?_,.inr ⟨rfl,hv.2 hp⟩⟩;simp(disch:=omega) only[bA,dV,WW]) () (λj hj=>absurd hj (awO _))
 have y1':au bA (((),((),((nc,c),(((nc:Nat):Int),(0,()))))),(sn,(sp,(((N:Int),(jD N Le (true,zT0)).2),(((N:Int),(jD N Ld (true,zT0)).2),(((Ez h).1,(key,((),((),zCS)))),()))))))=some z:=y1;simp only[axc,aM,y1'];rcases y2 with⟨rfl,hr⟩|⟨rfl,hr⟩
 ·rw[awG hr]
 ·rw[awQ hr]
end
open Go Go.Den Go.Num
structure awq where
 st:Bool
 dg:Bool
 mx:Bool
 op:Bool
open Classical in
open Classical in
open Go Go.Den
def Af:List (ByteArray×Rc)->ByteArray->Nat| [],_=>0|e::l,k=>if e.1=k then 0 else Af l k+1
def ash(N:Nat)(e:ByteArray×Rc):ByteArray×(RD×(VT×(VT×Unit))):=(e.1,((e.2.v,(e.1,(.nil,(.nil,e.2.c)))),(((N:Int),e.2.e),(((N:Int),e.2.r),()))))
def nG(N:Nat)(l:List (ByteArray×Rc)):BG:=l.map (ash N)
theorem Sd(N:Nat)(k:ByteArray): ∀l,bidx .str (nG N l) k=Af l k
 | []=>rfl
 |e::l=>by
  have ih:=Sd N k l;show(bif sEq k e.1 then 0 else bidx .str (nG N l) k+1)=_;rw[ih,Af];by_cases h:e.1=k
  ·rw[(Zu _ _).2 h.symm,awQ h];rfl
  ·cases hb:sEq k e.1
   ·rw[awG h];rfl
   ·exact absurd ((Zu _ _).1 hb).symm h
theorem a4K(N:Nat)(l:List (ByteArray×Rc))(i:Nat):(nG N l)[i]?=(l[i]?).map (ash N):=axk
theorem a1S: ∀(l:List (ByteArray×Rc)) k,Af l k<=l.length
 | [],_=>ax2 _
 |e::l,k=>by have:=a1S l k;simp only[Af,axH];split<;>omega
theorem Y9: ∀ {l:List (ByteArray×Rc)} {k e},l[Af l k]?=some e->e.1=k
 |e0::l,k,e,h=>by
  simp only[Af]at h;split at h
  ·rename_i h0;simp only[ax5,awr]at h;rw[<-h];exact h0
  ·simp only[axF]at h;exact Y9 h
theorem a3S {l:List (ByteArray×Rc)}{k:ByteArray}(h:l[Af l k]?=none):Af l k=l.length:=by have:=a1S l k;rw[List.getElem?_eq_none_iff]at h;omega
section
variable {f:Fr} {z:Fx}
end
open Go Go.Den Go.Num
structure ReB(x:RE)(X:PX):Prop where
 key:bl x.1=X.key
 held:GiB x.2.1 X.held
 e0:x.2.2.1.isMs=false
 d0:x.2.2.2.1.isMs=false
 c0:x.2.2.2.2.isMs=false
 e:RL VK x.2.2.1.len (SlV.fn zV x.2.2.1) X.ech v0
 d:RL VK x.2.2.2.1.len (SlV.fn zV x.2.2.2.1) X.rdy v0
 el:x.2.2.1.len<=1000
 dl:x.2.2.2.1.len<=1000
 es: ∀j,j<x.2.2.1.len->(SlV.fn zV x.2.2.1 j).1<9223372036854775808
 ds: ∀j,j<x.2.2.2.1.len->(SlV.fn zV x.2.2.2.1 j).1<9223372036854775808
 c:x.2.2.2.2.len=X.cls.length
 cs: ∀j,j<x.2.2.2.2.len->ToB (SlV.fn zT x.2.2.2.2 j) (X.cls.getD j t0)
 cl:x.2.2.2.2.len<=1000
def vL(s:SlV VO):List VO:=(List.range s.len).map (SlV.fn zV s)
theorem VY(s:SlV VO):Y6 s.len (SlV.fn zV s) (vL s):=by unfold vL;exact⟨by simp,λi hi=>by simp⟩
theorem aap {s:SlV VO}{v:VO}(h:v∈vL s): ∃j,j<s.len/\SlV.fn zV s j=v:=by unfold vL at h;rw[ayP]at h;obtain⟨j,h1,h2⟩:=h;exact⟨j,ayo.1 h1,h2⟩
def asi:RD×(VT×(VT×Unit)):=(tRC.zero,RO (aQ tRC))
def rcX(N:Nat)(x:RE):Rc:=⟨(Ez (Ij x.2.1)).1,(jD N (vL x.2.2.1) (true,zT0)).2,(jD N (vL x.2.2.2.1) (true,zT0)).2,VX (SlV.fn zT x.2.2.2.2) x.2.2.2.2.len⟩
def pE(N:Nat)(t:Nat->RE)(k:Nat):List (ByteArray×Rc):=(List.range k).map λj=>((t j).1,rcX N (t j))
theorem a6a(N:Nat)(t:Nat->RE)(k:Nat):pE N t (k+1)=pE N t k++[((t k).1,rcX N (t k))]:=by unfold pE;rw[List.range_succ,az0];rfl
theorem a1T(N:Nat)(t:Nat->RE){k j:Nat}(h:j<k):(pE N t k)[j]?=some ((t j).1,rcX N (t j)):=by unfold pE;rw[axk,ayn h];rfl
theorem a1U {α:Type}(l:List α)(a:α)(f:α->α):List.modify (l++[a]) l.length f=l++[f a]:=by
 induction l with
 |nil=>rfl
 |cons x l ih=>simp[ih]
theorem abu(N:Nat)(l:List (ByteArray×Rc))(key:ByteArray)(x:Rc)(h:l[Af l key]?=none):
  List.modify (R9 .str tRC (nG N l) key:BG) (bidx .str (nG N l) key) (λe=>(e.1,((x.v,(key,(.nil,(.nil,x.c)))),(((N:Int),x.e),(((N:Int),x.r),())))))=nG N (l++[(key,x)]):=by
 have hix:=a3S h;have h0:(nG N l)[bidx .str (nG N l) key]?=none:=by rw[Sd,a4K,h];rfl
 have hb:(R9 .str tRC (nG N l) key:BG)=(nG N l++[(key,asi)]:BG):=SG (k:=.str) (t:=tRC) (l:=nG N l) (x:=key) h0;rw[hb,Sd,hix];have e1:(nG N l).length=l.length:=by simp[nG]
 rw[<-e1];exact(a1U (nG N l) ((key,asi):ByteArray×(RD×(VT×(VT×Unit)))) _).trans (by simp only[nG,az0];rfl)
theorem aiA {N n:Nat}{t:Nat->RE}(hs:Jf n (λj=>(t j).1)){k:Nat}(hk:k<n):(pE N t k)[Af (pE N t k) (t k).1]?=none:=by
 cases h:(pE N t k)[Af (pE N t k) (t k).1]? with
 |none=>rfl
 |some e=>
  exfalso;have h1:=Y9 h;have h2:=axy h;unfold pE at h2;rw[ayP]at h2;obtain⟨j,g1,rfl⟩:=h2;have:=hs j k (ayo.1 g1) hk;rw[show(λj=>(t j).1) j=(t k).1 from h1,Y2]at this;exact Bool.noConfusion this
def PZ(P Q G:Nat)(t i:Int)(N m:Nat)(x:RE)(X:PX):Prop:=RcG P Q G t i N m X.held (vL x.2.2.1) (vL x.2.2.2.1) X.cls
section
variable {g:mh} {P Q G:Nat}
open Classical in
theorem abv(hg:dZ g P Q G){t i:Int}(ht:1<=t/\t<=2){N:Nat}(hN:1<=N/\N<=7){m:Nat}(hm4:m<=4){n:Nat}(hn:n<=20){x:Nat->RE}{X:List PX}(hX: ∀j,j<n->ReB (x j) (X.getD j r0))(hs:Jf n (λj=>(x j).1))(s6:Nat->OU)(a b:Int)(nt1:Nat)(t5:Nat->ByteArray)(t6:List (Int×Int)):
  ∃y,au dA (gT n x (n:Int) 0 g t i (N:Int) (m:Int) ([]:BG) 0 s6 a b nt1 t5 t6)=some y/\
   ((y=HV 1/\ ¬ ∀j,j<n->PZ P Q G t i N m (x j) (X.getD j r0))\/
    (y=HY g t i (N:Int) (m:Int) (nG N (pE N x n)) 0 s6 a b nt1 t5 t6/\ ∀j,j<n->PZ P Q G t i N m (x j) (X.getD j r0))):=by
 refine bH (R:=dA) (S:=Unit) (λk _=>gT n x (n:Int) (k:Int) g t i (N:Int) (m:Int) (nG N (pE N x k)) 0 s6 a b nt1 t5 t6)
  (λk _=> ∀j,j<k->PZ P Q G t i N m (x j) (X.getD j r0)) _ n
  (λk hk _ hp=>?_) (λ_ hp=>?_) () (λj hj=>absurd hj (awO _))
 ·have h:=hX k hk;have e1:IntKind.i64.wrap ((k:Int)+1)=((k+1:Nat):Int):=by rw[wrap_i64 (by omega)];omega
  have hr:dQ (x k).1 (x k).2.1.1 (x k).2.1.2.1 (x k).2.1.2.2.1.len (SlV.fn .nil (x k).2.1.2.2.1) (x k).2.1.2.2.2.1.len (SlV.fn (λ_=>0) (x k).2.1.2.2.2.1) (x k).2.1.2.2.2.2 (x k).2.2.1.len (SlV.fn zV (x k).2.2.1) (x k).2.2.2.1.len (SlV.fn zV (x k).2.2.2.1) (x k).2.2.2.2.len (SlV.fn zT (x k).2.2.2.2)
    ((g,(t,(i,((N:Int),((m:Int),((),(nG N (pE N x k),(0,s6)))))))),((a,(b,((nt1,t5),t6))),()))=_:=
   Xh (P:=P) (Q:=Q) (G:=G) hg (sn:=(g,(t,(i,((N:Int),((m:Int),((),(nG N (pE N x k),(0,s6))))))))) (sp:=(a,(b,((nt1,t5),t6)))) rfl ht hN rfl (m:=m) rfl hm4 (x k).1 h.held.gv (VY _) h.el (λv hv=>by obtain⟨j,j1,rfl⟩:=aap hv;exact h.es j j1) (VY _) h.dl (λv hv=>by obtain⟨j,j1,rfl⟩:=aap hv;exact h.ds j j1) h.c h.cs h.cl
  by_cases c:PZ P Q G t i N m (x k) (X.getD k r0)
  ·have c':RcG P Q G t i N m (X.getD k r0).held (vL (x k).2.2.1) (vL (x k).2.2.2.1) (X.getD k r0).cls:=c;rw[awQ c']at hr;refine .inl ⟨(),?_,λj hj=>?_⟩
   ·simp(disch:=omega) only[dA,gT,WW,h.held.m0,h.held.y0,h.e0,h.d0,h.c0,awz,e1,hr,mI,axc];have hb:=abu N (pE N x k) (x k).1 (rcX N (x k)) (aiA hs hk);rw[a6a];exact congrArg (λb':BG=>some (Sum.inl (gT n x (n:Int) ((k+1:Nat):Int) g t i (N:Int) (m:Int) b' 0 s6 a b nt1 t5 t6))) hb
   ·by_cases e:j=k
    ·rw[e];exact c
    ·exact hp j (by omega)
  ·have c': ¬RcG P Q G t i N m (X.getD k r0).held (vL (x k).2.2.1) (vL (x k).2.2.2.1) (X.getD k r0).cls:=c;rw[awG c']at hr;refine .inr ⟨_,?_,.inl ⟨rfl,λhh=>c (hh k hk)⟩⟩;simp(disch:=omega) only[dA,gT,WW,h.held.m0,h.held.y0,h.e0,h.d0,h.c0,awz,e1,hr,mH,axz]
 ·refine⟨_,?_,.inr ⟨rfl,hp⟩⟩;simp(disch:=omega) only[dA,gT,WW]
end
open Go Go.Den Go.Num
section
variable {g:mh} {P Q G:Nat}
def abw(t n c:Int):Prop:=(1<=t/\t<=2)/\(1<=n/\n<=3*t+1)/\(1<=c/\c<=4)
theorem aaq(hg:dZ g P Q G){t n c:Int}(h:abw t n c):uh (some g) t n c=some (vP 0 (3*t+1) c 0 (λ_=>ByteArray.empty) [] g t n (3*t+1) c [] 0 (λi=>zNO.2 i)):=by
 obtain⟨fr,f1,_⟩:=qb hg;obtain⟨h1,h2,h3⟩:=h;have w2:IntKind.i64.wrap (IntKind.i64.wrap (3*t)+1)=3*t+1:=by rw[wrap_i64 (x:=3*t) (by omega),wrap_i64 (by omega)]
 rw[xS];unfold qM;simp only[f1,w2,ak (show¬t<1 by omega),ak (show¬t>2 by omega),ak (show¬n<1 by omega),ak (show¬n>3*t+1 by omega),aM,aa9 (a:=3*t+1) (b:=c) (by omega),axG,xR,vP]
theorem abx(hg:dZ g P Q G){t n c:Int}(h: ¬abw t n c):uh (some g) t n c=some (Dk 1):=by
 obtain⟨fr,f1,_⟩:=qb hg;rw[xS];unfold qM;simp only[f1];by_cases h1:t<1
 ·simp only[aG h1,aN]
 by_cases h2:t>2
 ·simp only[ak h1,aG h2,aN,aM]
 have w2:IntKind.i64.wrap (IntKind.i64.wrap (3*t)+1)=3*t+1:=by rw[wrap_i64 (x:=3*t) (by omega),wrap_i64 (by omega)]
 by_cases h3:n<1
 ·simp only[ak h1,ak h2,aG h3,aN,aM]
 by_cases h4:n>3*t+1
 ·simp only[ak h1,ak h2,ak h3,w2,aG h4,aN,aM]
 have h5: ¬(1<=c/\c<=4):=λhc=>h ⟨⟨by omega,by omega⟩,⟨by omega,by omega⟩,hc⟩
 simp only[ak h1,ak h2,ak h3,w2,ak h4,aM,a4F (a:=3*t+1) (b:=c) (by omega),F6];rfl
def a6b(P Q G:Nat)(x:IM)(X:VL):Prop:=abw x.1 x.2.1 x.2.2.1/\Y4 (3*x.1+1) x.2.2.1 x.2.2.2.2.1 (λj=>(x.2.2.2.2.2 j).1) x.2.2.2.1.1 x.2.2.2.1.2/\
 ∀j,j<x.2.2.2.2.1->PZ P Q G x.1 x.2.1 (3*x.1+1).toNat x.2.2.1.toNat (x.2.2.2.2.2 j) (X.recs.getD j r0)
theorem a1V {a b:Int}{nk:Nat}{k1 k2:Nat->ByteArray}{nu:Nat}{used:Nat->Int}(h: ∀j,j<nk->k1 j=k2 j):Y4 a b nk k1 nu used↔Y4 a b nk k2 nu used:=by
 have key: ∀ {k1 k2:Nat->ByteArray},(∀j,j<nk->k1 j=k2 j)->kOk k1 nk->kOk k2 nk:=λ{k1 k2} h hk i hi=>by have:=hk i hi;rw[h i hi]at this;refine⟨this.1,this.2.imp id λe=>?_⟩;rw[h (i-1) (by omega)]at e;exact e
 unfold Y4;exact⟨λhh=>⟨hh.1,hh.2.1,hh.2.2.1,key h hh.2.2.2.1,hh.2.2.2.2⟩,λhh=>⟨hh.1,hh.2.1,hh.2.2.1,key (λj hj=>(h j hj).symm) hh.2.2.2.1,hh.2.2.2.2⟩⟩
open Classical in
theorem a4L(hg:dZ g P Q G){x:IM}{X:VL}(hn:x.2.2.2.2.1<=3)(hu:x.2.2.2.1.1<=12)(hX: ∀j,j<x.2.2.2.2.1->ReB (x.2.2.2.2.2 j) (X.recs.getD j r0)):
  (¬a6b P Q G x X/\oV g x.1 x.2.1 x.2.2.1 x.2.2.2.1.1 x.2.2.2.1.2 x.2.2.2.2.1 x.2.2.2.2.2=some (Fh 1))\/
  (a6b P Q G x X/\ ∃keys u,(∀j,j<x.2.2.2.2.1->keys j=(x.2.2.2.2.2 j).1)/\(∀e,mf u e=Ci x.2.2.2.1.2 x.2.2.2.1.1 e)/\
   oV g x.1 x.2.1 x.2.2.1 x.2.2.2.1.1 x.2.2.2.1.2 x.2.2.2.2.1 x.2.2.2.2.2=some (xU 0 g x.1 x.2.1 (3*x.1+1) x.2.2.1 (nG (3*x.1+1).toNat (pE (3*x.1+1).toNat x.2.2.2.2.2 x.2.2.2.2.1)) 0 (λi=>zNO.2 i) (3*x.1+1) x.2.2.1 x.2.2.2.2.1 keys u)):=by
 obtain⟨t,i,c,⟨nx,x4⟩,n,x5⟩:=x;simp only at hn hu hX⊢;rw[HZ];unfold Ei;by_cases hd:abw t i c
 case neg=>
  refine .inl ⟨λh=>hd h.1,?_⟩;simp only[abx hg hd,Dk];rfl
 simp only[aaq hg hd,vP,axG,aM];obtain⟨k,h1,h2⟩:=aL (R:=gQ) (S:=Nat->ByteArray)
  (λk s=>rV k s n x5 (n:Int) (k:Int) t i c nx x4 n x5 (3*t+1) c 0 (λ_=>ByteArray.empty) [] g t i (3*t+1) c [] 0 (λi=>zNO.2 i))
  (λs=>xq n s t i c nx x4 n x5 (3*t+1) c 0 (λ_=>ByteArray.empty) [] g t i (3*t+1) c [] 0 (λi=>zNO.2 i))
  (λk s=> ∀j,j<k->s j=(x5 j).1) n
  (λk hk s hp=>by
   have h:=hX k hk;have e1:IntKind.i64.wrap ((k:Int)+1)=((k+1:Nat):Int):=by rw[wrap_i64 (by omega)];omega
   have e2:(Nat.ble ((k+1)*16) 140737488355328&&Nat.ble (k+1) 9223372036854775807)=true:=by rw[awF (by omega),awF (by omega)];rfl
   refine⟨glue k s (λj=>(upd (λ_=>ByteArray.empty) 0 (x5 k).1) (0+j)),?_,λj hj=>?_⟩
   ·simp(disch:=omega) only[gQ,rV,WW,h.held.m0,h.held.y0,h.e0,h.d0,h.c0,awz,e1,e2]
   ·by_cases e:j<k
    ·rw[Oi e];exact hp j e
    ·rw[Oj (by omega),show j=k from by omega,axX];rfl)
  (λs _=>by simp(disch:=omega) only[gQ,rV,WW]) (λ_=>ByteArray.empty) (λj hj=>absurd hj (awO _))
 have h1':au gQ (((),((),((0,(λ_=>ByteArray.empty)),((n,x5),(((n:Nat):Int),(0,())))))),((t,(i,(c,((nx,x4),(n,x5))))),(((3*t+1),(c,((0,(λ_=>ByteArray.empty)),[]))),((g,(t,(i,((3*t+1),(c,((),([],(0,(λi=>zNO.2 i))))))))),()))))=_:=h1;simp only[h1',xq,awR];have hO:=a5V (3*t+1) c n (λj=>k j) nx x4 (by omega) hu;rw[a1V (k2:=λj=>(x5 j).1) h2]at hO;rcases hO with⟨m1,m2⟩|⟨m1,u,m2,m3⟩
 ·refine .inl ⟨λh=>m1 h.2.1,?_⟩;simp only[m2,Ht];rfl
 simp only[m2,Hu,axG,aM];obtain⟨t1,t2,t3⟩:=hd;have eN:(((3*t+1).toNat:Nat):Int)=3*t+1:=by omega
 have eM:((c.toNat:Nat):Int)=c:=by omega
 obtain⟨y,y1,y2⟩:=abv (P:=P) (Q:=Q) (G:=G) hg t1 (N:=(3*t+1).toNat) (by omega) (m:=c.toNat) (by omega) (n:=n) (i:=i) (by omega) hX (Vz m1.2.2.2.1) (λi=>zNO.2 i) (3*t+1) c n (λj=>k j) u;rw[eN,eM]at y1 y2;have y1':au dA (((),((n,x5),(((n:Nat):Int),(0,())))),((g,(t,(i,((3*t+1),(c,((),([],(0,(λi=>zNO.2 i))))))))),(((3*t+1),(c,((n,(λj=>k j)),u))),())))=some y:=y1;simp only[y1'];rcases y2 with⟨rfl,hr⟩|⟨rfl,hr⟩
 ·exact .inl ⟨λh=>hr h.2.2,rfl⟩
 ·exact .inr ⟨⟨⟨t1,t2,t3⟩,m1,hr⟩,k,u,h2,m3,rfl⟩
end
open Go Go.Den Go.Num
section
variable {P Q G:Nat}
open Classical in
theorem aar(t i k:Int)(X:yw):decide (ClG P Q G t i k X)=(((decide (0<=X.op/\X.op<=1048576)&&decide (0<=X.left/\X.left<=1048576))&&
   (decide (iP P Q G t i X.e)&&((decide (NoG X.e)||decide (X.e.cli=k))&&(decide (NoG X.e)||decide (X.e.seq%2=0)))))&&
   ((decide (iP P Q G t i X.o)&&((decide (NoG X.o)||decide (X.o.cli=k))&&(decide (NoG X.o)||decide (X.o.seq%2=1))))&&
   (decide (iP P Q G t i X.w)&&(decide (NoG X.w)||decide (X.w.cli=k))))):=by
 rw[axg,awI];unfold ClG;simp only[awu,axU,awI];exact⟨λh=>⟨⟨h.1,h.2.1⟩,h.2.2.1,h.2.2.2⟩,λh=>⟨h.1.1,h.1.2,h.2.1,h.2.2⟩⟩
open Classical in
theorem a6c(hP:1<P)(p62:P<4611686018427387904)(q62:Q<4611686018427387904)(hG:G<P){x1:Int}(ht: -100<=x1/\x1<=100)(n i x2 x3:Int)(nx:Nat)(x4:NI)(nx1:Nat)(x5:Nat->RE)
  (r:ByteArray) (r1:Int×Int) (r2:ByteArray) (nr:Nat) (r3:Nat->SlV NI) (nr1:Nat) (r4:Nat->NI) (r5:Int) (nr2:Nat) (r6:Nat->VO) (nr3:Nat) (r7:Nat->VO) {nr4:Nat} {r8:Nat->TO} {k:Nat} (hk:k<nr4) (h4:nr4<=1000) {X:yw} (h:ToB (r8 k) X):
  fI (iw n i (k:Int) ((P:Int),(Q:Int),(G:Int)) x1 x2 x3 nx x4 nx1 x5 r r1 r2 nr r3 nr1 r4 r5 nr2 r6 nr3 r7 nr4 r8)=
   some (bif decide (ClG P Q G x1 x2 ((k+1:Nat):Int) X)then .inl (iw n i ((k+1:Nat):Int) ((P:Int),(Q:Int),(G:Int)) x1 x2 x3 nx x4 nx1 x5 r r1 r2 nr r3 nr1 r4 r5 nr2 r6 nr3 r7 nr4 r8)else .inr (Kt false)):=by
 have w1:IntKind.i64.wrap ((k:Int)+1)=((k+1:Nat):Int):=by rw[wrap_i64 (by omega)];omega
 have ve:dM ((P:Int),(Q:Int),(G:Int)) x1 x2 ((r8 k).1.1,((r8 k).1.2.1,(((r8 k).1.2.2.1.len,SlV.fn .nil (r8 k).1.2.2.1),(((r8 k).1.2.2.2.1.len,SlV.fn (λ_=>0) (r8 k).1.2.2.2.1),(r8 k).1.2.2.2.2))))=_:=rA (P:=P) (Q:=Q) (G:=G) hP p62 q62 hG ht h.e.gv;have vo:dM ((P:Int),(Q:Int),(G:Int)) x1 x2 ((r8 k).2.1.1,((r8 k).2.1.2.1,(((r8 k).2.1.2.2.1.len,SlV.fn .nil (r8 k).2.1.2.2.1),(((r8 k).2.1.2.2.2.1.len,SlV.fn (λ_=>0) (r8 k).2.1.2.2.2.1),(r8 k).2.1.2.2.2.2))))=_:=rA (P:=P) (Q:=Q) (G:=G) hP p62 q62 hG ht h.o.gv;have vw:dM ((P:Int),(Q:Int),(G:Int)) x1 x2 ((r8 k).2.2.1.1,((r8 k).2.2.1.2.1,(((r8 k).2.2.1.2.2.1.len,SlV.fn .nil (r8 k).2.2.1.2.2.1),(((r8 k).2.2.1.2.2.2.1.len,SlV.fn (λ_=>0) (r8 k).2.2.1.2.2.2.1),(r8 k).2.2.1.2.2.2.2))))=_:=rA (P:=P) (Q:=Q) (G:=G) hP p62 q62 hG ht h.w.gv;have ne:jv ((r8 k).1.1,((r8 k).1.2.1,(((r8 k).1.2.2.1.len,SlV.fn .nil (r8 k).1.2.2.1),(((r8 k).1.2.2.2.1.len,SlV.fn (λ_=>0) (r8 k).1.2.2.2.1),(r8 k).1.2.2.2.2))))=_:=wI h.e.gv.is;have no:jv ((r8 k).2.1.1,((r8 k).2.1.2.1,(((r8 k).2.1.2.2.1.len,SlV.fn .nil (r8 k).2.1.2.2.1),(((r8 k).2.1.2.2.2.1.len,SlV.fn (λ_=>0) (r8 k).2.1.2.2.2.1),(r8 k).2.1.2.2.2.2))))=_:=wI h.o.gv.is;have nw:jv ((r8 k).2.2.1.1,((r8 k).2.2.1.2.1,(((r8 k).2.2.1.2.2.1.len,SlV.fn .nil (r8 k).2.2.1.2.2.1),(((r8 k).2.2.1.2.2.2.1.len,SlV.fn (λ_=>0) (r8 k).2.2.1.2.2.2.1),(r8 k).2.2.1.2.2.2.2))))=_:=wI h.w.gv.is;have ce:((r8 k).1.1.2 !=((k+1:Nat):Int))= !decide (X.e.cli=((k+1:Nat):Int)):=by rw[show(r8 k).1.1.2=X.e.cli from h.e.gv.is.cli];exact uG _ _
 have co:((r8 k).2.1.1.2 !=((k+1:Nat):Int))= !decide (X.o.cli=((k+1:Nat):Int)):=by rw[show(r8 k).2.1.1.2=X.o.cli from h.o.gv.is.cli];exact uG _ _
 have cw:((r8 k).2.2.1.1.2 !=((k+1:Nat):Int))= !decide (X.w.cli=((k+1:Nat):Int)):=by rw[show(r8 k).2.2.1.1.2=X.w.cli from h.w.gv.is.cli];exact uG _ _
 have se:(ay .and .i64 (r8 k).1.1.1 1 !=0)= !decide (X.e.seq%2=0):=by rw[Je,show(r8 k).1.1.1=X.e.seq from h.e.gv.is.seq];exact uG _ _
 have so:(ay .and .i64 (r8 k).2.1.1.1 1 !=1)= !decide (X.o.seq%2=1):=by rw[Je,show(r8 k).2.1.1.1=X.o.seq from h.o.gv.is.seq];exact uG _ _
 rw[aar];by_cases d1:X.op<0
 ·rw[ak (show¬(0<=X.op/\X.op<=1048576)by omega),ax6,ax6,ax6,aM];have d1':(r8 k).2.2.2.1<0:=by rw[h.op];exact d1
  simp(disch:=omega) only[fI,iw,WW,awz,h.e.m0,h.e.y0,h.o.m0,h.o.y0,h.w.m0,h.w.y0,aG d1',aN]
 by_cases d2:X.op>1048576
 ·rw[ak (show¬(0<=X.op/\X.op<=1048576)by omega),ax6,ax6,ax6,aM];have d1': ¬(r8 k).2.2.2.1<0:=by rw[h.op];exact d1
  have d2':(r8 k).2.2.2.1>1048576:=by rw[h.op];exact d2
  simp(disch:=omega) only[fI,iw,WW,awz,h.e.m0,h.e.y0,h.o.m0,h.o.y0,h.w.m0,h.w.y0,ak d1',aG d2',aN]
 have d1': ¬(r8 k).2.2.2.1<0:=by rw[h.op];exact d1
 have d2': ¬(r8 k).2.2.2.1>1048576:=by rw[h.op];exact d2
 rw[aG (show 0<=X.op/\X.op<=1048576 by omega),ax4];by_cases d3:X.left<0
 ·rw[ak (show¬(0<=X.left/\X.left<=1048576)by omega),ax6,ax6,aM];have d3':(r8 k).2.2.2.2<0:=by rw[h.left];exact d3
  simp(disch:=omega) only[fI,iw,WW,awz,h.e.m0,h.e.y0,h.o.m0,h.o.y0,h.w.m0,h.w.y0,ak d1',ak d2',aG d3',aN]
 by_cases d4:X.left>1048576
 ·rw[ak (show¬(0<=X.left/\X.left<=1048576)by omega),ax6,ax6,aM];have d3': ¬(r8 k).2.2.2.2<0:=by rw[h.left];exact d3
  have d4':(r8 k).2.2.2.2>1048576:=by rw[h.left];exact d4
  simp(disch:=omega) only[fI,iw,WW,awz,h.e.m0,h.e.y0,h.o.m0,h.o.y0,h.w.m0,h.w.y0,ak d1',ak d2',ak d3',aG d4',aN]
 have d3': ¬(r8 k).2.2.2.2<0:=by rw[h.left];exact d3
 have d4': ¬(r8 k).2.2.2.2>1048576:=by rw[h.left];exact d4
 rw[aG (show 0<=X.left/\X.left<=1048576 by omega),ax4];simp(disch:=omega) only[fI,iw,WW,awz,h.e.m0,h.e.y0,h.o.m0,h.o.y0,h.w.m0,h.w.y0,ak d1',ak d2',ak d3',ak d4',w1,ve,vo,vw,ne,no,nw,ce,co,cw,se,so];generalize decide (iP P Q G x1 x2 X.e)=q1;generalize decide (NoG X.e)=q2;generalize decide (X.e.cli=((k+1:Nat):Int))=q3;generalize decide (X.e.seq%2=0)=q4;generalize decide (iP P Q G x1 x2 X.o)=q5;generalize decide (NoG X.o)=q6;generalize decide (X.o.cli=((k+1:Nat):Int))=q7;generalize decide (X.o.seq%2=1)=q8;generalize decide (iP P Q G x1 x2 X.w)=q9;generalize decide (NoG X.w)=q10;generalize decide (X.w.cli=((k+1:Nat):Int))=q11;cases q1
 ·rfl
 have hw: ∀(z:Bool),z=true->True:=λ_ _=>trivial
 cases q2<;>cases q3<;>cases q4<;>first|rfl|(cases q5;rfl;cases q6<;>cases q7<;>cases q8<;>first|rfl|(cases q9;rfl;cases q10<;>cases q11<;>rfl))
end
open Go Go.Den Go.Num
section
variable {P Q G:Nat}
open Classical in
theorem aby(hP:1<P)(p62:P<4611686018427387904)(q62:Q<4611686018427387904)(hG:G<P){x1:Int}(ht: -100<=x1/\x1<=100)(n i x2 x3:Int)(nx:Nat)(x4:NI)(nx1:Nat)(x5:Nat->RE)
  (r:ByteArray) (r1:Int×Int) (r2:ByteArray) (nr:Nat) (r3:Nat->SlV NI) (nr1:Nat) (r4:Nat->NI) (r5:Int) (nr2:Nat) (r6:Nat->VO) (nr3:Nat) (r7:Nat->VO) {nr4:Nat} {r8:Nat->TO} (h4:nr4<=1000) {C:List yw} (h: ∀k,k<nr4->ToB (r8 k) (C.getD k t0)):
  ∃y,au fI (iw n i 0 ((P:Int),(Q:Int),(G:Int)) x1 x2 x3 nx x4 nx1 x5 r r1 r2 nr r3 nr1 r4 r5 nr2 r6 nr3 r7 nr4 r8)=some y/\
   ((y=Kt false/\ ¬ ∀k,k<nr4->ClG P Q G x1 x2 ((k+1:Nat):Int) (C.getD k t0))\/
    (y=Ku n i ((P:Int),(Q:Int),(G:Int)) x1 x2 x3 nx x4 nx1 x5/\ ∀k,k<nr4->ClG P Q G x1 x2 ((k+1:Nat):Int) (C.getD k t0))):=by
 refine bH (R:=fI) (S:=Unit) (λk _=>iw n i (k:Int) ((P:Int),(Q:Int),(G:Int)) x1 x2 x3 nx x4 nx1 x5 r r1 r2 nr r3 nr1 r4 r5 nr2 r6 nr3 r7 nr4 r8)
  (λk _=> ∀j,j<k->ClG P Q G x1 x2 ((j+1:Nat):Int) (C.getD j t0)) _ nr4
  (λk hk _ hp=>?_) (λ_ hp=>?_) () (λj hj=>absurd hj (awO _))
 ·have hr:=a6c (P:=P) (Q:=Q) (G:=G) hP p62 q62 hG ht n i x2 x3 nx x4 nx1 x5 r r1 r2 nr r3 nr1 r4 r5 nr2 r6 nr3 r7 hk h4 (h k hk);by_cases c:ClG P Q G x1 x2 ((k+1:Nat):Int) (C.getD k t0)
  ·rw[aG c,aN]at hr;exact .inl ⟨(),hr,λj hj=>by
    by_cases e:j=k
    ·rw[e];exact c
    ·exact hp j (by omega)⟩
  ·rw[ak c,aM]at hr;exact .inr ⟨_,hr,.inl ⟨rfl,λhh=>c (hh k hk)⟩⟩
 ·refine⟨_,?_,.inr ⟨rfl,hp⟩⟩;simp(disch:=omega) only[fI,iw,WW]
open Classical in
theorem aas(hP:1<P)(p62:P<4611686018427387904)(q62:Q<4611686018427387904)(hG:G<P){x1:Int}(ht: -100<=x1/\x1<=100){N m:Nat}(hm4:m<=4)(x2:Int)(nx:Nat)(x4:NI){n:Nat}(hn:n<=20){x5:Nat->RE}{X:List PX}(h: ∀j,j<n->ReB (x5 j) (X.getD j r0)):
  ∃y,au eD (fJ (N:Int) 0 ((P:Int),(Q:Int),(G:Int)) x1 x2 (m:Int) nx x4 n x5)=some y/\
   ((y=iq false/\ ¬(kOk (λj=>(x5 j).1) n/\ ∀j,j<n->PZ P Q G x1 x2 N m (x5 j) (X.getD j r0)))\/
    (y=WU/\(kOk (λj=>(x5 j).1) n/\ ∀j,j<n->PZ P Q G x1 x2 N m (x5 j) (X.getD j r0)))):=by
 refine bH (R:=eD) (S:=Unit) (λk _=>fJ (N:Int) (k:Int) ((P:Int),(Q:Int),(G:Int)) x1 x2 (m:Int) nx x4 n x5)
  (λk _=>kOk (λj=>(x5 j).1) k/\ ∀j,j<k->PZ P Q G x1 x2 N m (x5 j) (X.getD j r0)) _ n
  (λk hk _ hp=>?_) (λ_ hp=>?_) () ⟨λj hj=>absurd hj (awO _),λj hj=>absurd hj (awO _)⟩
 ·have hb:=h k hk;have w1:IntKind.i64.wrap ((k:Int)+1)=((k+1:Nat):Int):=by rw[wrap_i64 (by omega)];omega
  by_cases a1:(((x5 k).1.size:Nat):Int)<1
  ·refine .inr ⟨_,?_,.inl ⟨rfl,λhh=>by have:=(hh.1 k hk).1.1;simp only at this;omega⟩⟩;simp(disch:=omega) only[eD,fJ,WW,awz,hb.held.m0,hb.held.y0,hb.e0,hb.d0,hb.c0,aG a1,aN]
  by_cases a2:(((x5 k).1.size:Nat):Int)>8
  ·refine .inr ⟨_,?_,.inl ⟨rfl,λhh=>by have:=(hh.1 k hk).1.2;simp only at this;omega⟩⟩;simp(disch:=omega) only[eD,fJ,WW,awz,hb.held.m0,hb.held.y0,hb.e0,hb.d0,hb.c0,ak a1,aG a2,aN]
  have vh:dM ((P:Int),(Q:Int),(G:Int)) x1 x2 ((x5 k).2.1.1,((x5 k).2.1.2.1,(((x5 k).2.1.2.2.1.len,SlV.fn .nil (x5 k).2.1.2.2.1),(((x5 k).2.1.2.2.2.1.len,SlV.fn (λ_=>0) (x5 k).2.1.2.2.2.1),(x5 k).2.1.2.2.2.2))))=_:=rA (P:=P) (Q:=Q) (G:=G) hP p62 q62 hG ht hb.held.gv;have ve:=KM (N:=N) (VY (x5 k).2.2.1) (by have:=hb.el;omega);have vd:=KM (N:=N) (VY (x5 k).2.2.2.1) (by have:=hb.dl;omega);obtain⟨z,z1,z2⟩:=aby (P:=P) (Q:=Q) (G:=G) hP p62 q62 hG ht (N:Int) (k:Int) x2 (m:Int) nx x4 n x5 (x5 k).1 (x5 k).2.1.1 (x5 k).2.1.2.1 (x5 k).2.1.2.2.1.len (SlV.fn .nil (x5 k).2.1.2.2.1) (x5 k).2.1.2.2.2.1.len (SlV.fn (λ_=>0) (x5 k).2.1.2.2.2.1) (x5 k).2.1.2.2.2.2 (x5 k).2.2.1.len (SlV.fn zV (x5 k).2.2.1) (x5 k).2.2.2.1.len (SlV.fn zV (x5 k).2.2.2.1) hb.cl hb.cs;simp only[iw]at z1;have hrec:PZ P Q G x1 x2 N m (x5 k) (X.getD k r0)↔iP P Q G x1 x2 (X.getD k r0).held/\(x5 k).2.1.2.2.2.2=0/\jU N (vL (x5 k).2.2.1)/\jU N (vL (x5 k).2.2.2.1)/\(x5 k).2.2.2.2.len=m/\ ∀j,j<(x5 k).2.2.2.2.len->ClG P Q G x1 x2 ((j+1:Nat):Int) ((X.getD k r0).cls.getD j t0):=by rw[show(x5 k).2.1.2.2.2.2=(X.getD k r0).held.op from hb.held.gv.is.op,hb.c];exact Iff.rfl
  by_cases a3:k=0\/Ac (x5 (k-1)).1 (x5 k).1=true
  case neg=>
   have a4:0<k:=by omega
   have a5:Ac (x5 (k-1)).1 (x5 k).1=false:=by
    cases e:Ac (x5 (k-1)).1 (x5 k).1 with
    |false=>rfl
    |true=>exact absurd (.inr e) a3
   have ei:(IntKind.i64.wrap ((k:Int)-1))=((k-1:Nat):Int):=by rw[wrap_i64 (by omega)];omega
   refine .inr ⟨_,?_,.inl ⟨rfl,λhh=>a3 (hh.1 k hk).2⟩⟩;simp(disch:=omega) only[eD,fJ,WW,awz,hb.held.m0,hb.held.y0,hb.e0,hb.d0,hb.c0,ak a1,ak a2,ei,Bq,a5,axz]
  have hk1:kOk (λj=>(x5 j).1) (k+1):=λj hj=>by
   by_cases e:j=k
   ·subst e;exact⟨⟨by simp only;omega,by simp only;omega⟩,a3⟩
   ·exact hp.1 j (by omega)
  have step:(bif decide (PZ P Q G x1 x2 N m (x5 k) (X.getD k r0))then(some (.inl (fJ (N:Int) ((k+1:Nat):Int) ((P:Int),(Q:Int),(G:Int)) x1 x2 (m:Int) nx x4 n x5)):Option (xg⊕sH))else some (.inr (iq false)))=eD (fJ (N:Int) (k:Int) ((P:Int),(Q:Int),(G:Int)) x1 x2 (m:Int) nx x4 n x5):=by
   have ways: ∀(A:Option (xg⊕sH)),A=(match(some (decide (iP P Q G x1 x2 (X.getD k r0).held)):Option Bool)with
     |none=>none
     |some r=>bif (!r)then some (.inr (iq false))else bif ((x5 k).2.1.2.2.2.2 !=0)then some (.inr (iq false))else(match(some (decide (jU N (vL (x5 k).2.2.1))):Option Bool)with
      |none=>none
      |some r1=>bif (!r1)then some (.inr (iq false))else(match(some (decide (jU N (vL (x5 k).2.2.2.1))):Option Bool)with
       |none=>none
       |some r2=>bif (!r2)then some (.inr (iq false))else bif ((((x5 k).2.2.2.2.len:Nat):Int) !=(m:Int))then some (.inr (iq false))else(match(some z:Option Bd)with
        |none=>none
        |some y=>(match y with
         | .inl y1=>some (.inr (iq y1.1.1))
         | .inr y1=>some (.inl (fJ y1.1.2.2.1 (IntKind.i64.wrap (y1.1.2.2.2.1+1)) y1.2.1 y1.2.2.1.1 y1.2.2.1.2.1 y1.2.2.1.2.2.1 y1.2.2.1.2.2.2.1.1 y1.2.2.1.2.2.2.1.2 y1.2.2.1.2.2.2.2.1 y1.2.2.1.2.2.2.2.2)))))))->
     (bif decide (PZ P Q G x1 x2 N m (x5 k) (X.getD k r0))then(some (.inl (fJ (N:Int) ((k+1:Nat):Int) ((P:Int),(Q:Int),(G:Int)) x1 x2 (m:Int) nx x4 n x5)):Option (xg⊕sH))else some (.inr (iq false)))=A:=λA hA=>by
    rw[hA];by_cases b1:iP P Q G x1 x2 (X.getD k r0).held
    case neg=>rw[ak (λhh=>b1 (hrec.1 hh).1),ak b1];rfl
    by_cases b2:(x5 k).2.1.2.2.2.2=0
    case neg=>rw[ak (λhh=>b2 (hrec.1 hh).2.1),aG b1,uw b2];rfl
    by_cases b3:jU N (vL (x5 k).2.2.1)
    case neg=>rw[ak (λhh=>b3 (hrec.1 hh).2.2.1),aG b1,nT b2,ak b3];rfl
    by_cases b4:jU N (vL (x5 k).2.2.2.1)
    case neg=>rw[ak (λhh=>b4 (hrec.1 hh).2.2.2.1),aG b1,nT b2,aG b3,ak b4];rfl
    by_cases b5:(x5 k).2.2.2.2.len=m
    case neg=>rw[ak (λhh=>b5 (hrec.1 hh).2.2.2.2.1),aG b1,nT b2,aG b3,aG b4,uw (by omega)];rfl
    rw[aG b1,nT b2,aG b3,aG b4,nT (by omega)];rcases z2 with⟨rfl,hh⟩|⟨rfl,hh⟩
    ·rw[ak (λhr=>hh (hrec.1 hr).2.2.2.2.2)];rfl
    ·rw[aG (hrec.2 ⟨b1,b2,b3,b4,b5,hh⟩),aN];simp only[Ku,axc,aM,w1]
   refine ways _ ?_;by_cases a4:0<k
   ·have a5:Ac (x5 (k-1)).1 (x5 k).1=true:=a3.resolve_left (by omega);have ei:(IntKind.i64.wrap ((k:Int)-1))=((k-1:Nat):Int):=by rw[wrap_i64 (by omega)];omega
    simp(disch:=omega) only[eD,fJ,WW,awz,hb.held.m0,hb.held.y0,hb.e0,hb.d0,hb.c0,ak a1,ak a2,ei,Bq,a5,axc,vh,ve,vd,z1];rfl
   ·have e5:decide ((k:Int)>0)=false:=ak (by omega);simp(disch:=omega) only[eD,fJ,WW,awz,hb.held.m0,hb.held.y0,hb.e0,hb.d0,hb.c0,ak a1,ak a2,e5,vh,ve,vd,z1];rfl
  by_cases c:PZ P Q G x1 x2 N m (x5 k) (X.getD k r0)
  ·rw[aG c,aN]at step;exact .inl ⟨(),step.symm,hk1,λj hj=>by
    by_cases e:j=k
    ·rw[e];exact c
    ·exact hp.2 j (by omega)⟩
  ·rw[ak c,aM]at step;exact .inr ⟨_,step.symm,.inl ⟨rfl,λhh=>c (hh.2 k hk)⟩⟩
 ·refine⟨_,?_,.inr ⟨rfl,hp⟩⟩;simp(disch:=omega) only[eD,fJ,WW]
end
open Go Go.Den Go.Num
section
variable {P Q G:Nat}
theorem aat {N m:Int}(hz:1<=N/\N<=7/\1<=m/\m<=4)(g:Int×(Int×Int))(x1 x2:Int){nx:Nat}(x4:NI)(hn:nx<=12)(nx1:Nat)(x5:Nat->RE):
  ∃y,au jR (sG N 0 0 g x1 x2 m nx x4 nx1 x5)=some y/\
   ((y=WT false/\ ¬uOk N m x4 nx)\/(y=Kr N ((Ae x4 nx:Nat):Int) g x1 x2 m nx x4 nx1 x5/\uOk N m x4 nx/\Ae x4 nx<=112*nx)):=by
 refine bH (R:=jR) (S:=Unit) (λk _=>sG N ((Ae x4 k:Nat):Int) (k:Int) g x1 x2 m nx x4 nx1 x5)
  (λk _=>uOk N m x4 k/\Ae x4 k<=112*k) _ nx
  (λk hk u hu=>?_) (λu hu=>?_) () ⟨λj hj=>absurd hj (awO _),az9 _⟩
 ·obtain⟨h1,h2⟩:=hu;have hq:=VB hz ((k+1:Nat):Int);have hQ:=a1J (N,(m,((0,(λ_=>ByteArray.empty)),(0,(λ_=>0))))) ((k+1:Nat):Int) hz;simp only at hQ;by_cases g1:x4 k<0
  ·refine .inr ⟨_,?_,.inl ⟨rfl,λh=>by have:=h k hk;omega⟩⟩;simp(disch:=omega) only[jR,sG,WW,CC]
  ·by_cases g2:x4 k>iR N m ((k+1:Nat):Int)
   ·refine .inr ⟨_,?_,.inl ⟨rfl,λh=>by have:=h k hk;omega⟩⟩;simp(disch:=omega) only[jR,sG,WW,CC,hQ]
   ·obtain⟨v,hv⟩: ∃v:Nat,x4 k=(v:Int):=⟨(x4 k).toNat,by omega⟩;refine .inl ⟨(),?_,a1N.2 ⟨h1,by omega,by omega⟩,by simp only[Ae];omega⟩;have g1': ¬((v:Nat):Int)<0:=by omega
    have g2': ¬((v:Nat):Int)>iR N m ((k+1:Nat):Int):=by omega
    have hs:Ae x4 (k+1)=Ae x4 k+v:=by simp only[Ae,hv,awz]
    simp(disch:=omega) only[jR,sG,hv,WW,CC,hs,hQ]
 ·refine⟨_,?_,.inr ⟨rfl,hu⟩⟩;simp(disch:=omega) only[jR,sG,WW,CC]
open Classical in
theorem ZB(hP:1<P)(p62:P<4611686018427387904)(q62:Q<4611686018427387904)(hG:G<P){x:IM}{X:VL}(hn:x.2.2.2.2.1<=3)(hu:x.2.2.2.1.1<=12)(hX: ∀j,j<x.2.2.2.2.1->ReB (x.2.2.2.2.2 j) (X.recs.getD j r0)):
  J7 ((P:Int),(Q:Int),(G:Int)) x=some (decide (a6b P Q G x X)):=by
 obtain⟨t,i,c,⟨nx,x4⟩,n,x5⟩:=x;simp only at hn hu hX;rw[UG];unfold UF;by_cases c1:t<1
 case pos=>simp only[aG c1,aN];rw[ak (λh=>by have:=h.1.1.1;simp only at this;omega)]
 by_cases c2:t>2
 case pos=>simp only[ak c1,aG c2,aN,aM];rw[ak (λh=>by have:=h.1.1.2;simp only at this;omega)]
 have w2:IntKind.i64.wrap (IntKind.i64.wrap (3*t)+1)=3*t+1:=by rw[wrap_i64 (x:=3*t) (by omega),wrap_i64 (by omega)]
 by_cases c3:i<1
 case pos=>simp only[ak c1,ak c2,aG c3,aN,aM];rw[ak (λh=>by have:=h.1.2.1.1;simp only at this;omega)]
 by_cases c4:i>3*t+1
 case pos=>simp only[ak c1,ak c2,ak c3,w2,aG c4,aN,aM];rw[ak (λh=>by have:=h.1.2.1.2;simp only at this;omega)]
 by_cases c5:c<1
 case pos=>simp only[ak c1,ak c2,ak c3,w2,ak c4,aG c5,aN,aM];rw[ak (λh=>by have:=h.1.2.2.1;simp only at this;omega)]
 by_cases c6:c>4
 case pos=>simp only[ak c1,ak c2,ak c3,w2,ak c4,ak c5,aG c6,aN,aM];rw[ak (λh=>by have:=h.1.2.2.2;simp only at this;omega)]
 have w3:IntKind.i64.wrap (3*t+1+c)=3*t+1+c:=wrap_i64 (by omega);by_cases c7:(nx:Int)=3*t+1+c
 case neg=>simp only[ak c1,ak c2,ak c3,w2,ak c4,ak c5,ak c6,w3,uw c7,aN,aM];rw[ak (λh=>c7 h.2.1.2.1)]
 simp only[ak c1,ak c2,ak c3,w2,ak c4,ak c5,ak c6,w3,nT c7,aM];obtain⟨y,y1,y2⟩:=aat (N:=3*t+1) (m:=c) (by omega) ((P:Int),(Q:Int),(G:Int)) t i x4 hu n x5;have y1':au jR (((),((),((3*t+1),(0,(0,()))))),(((P:Int),(Q:Int),(G:Int)),((t,(i,(c,((nx,x4),(n,x5))))),())))=some y:=y1;simp only[y1'];rcases y2 with⟨rfl,h⟩|⟨rfl,h1,h2⟩
 ·rw[ak (λhh=>h hh.2.1.2.2.1)]
 simp only[Kr];by_cases c8:Ae x4 nx=n
 case neg=>rw[uw (by omega),aN,ak (λhh=>c8 hh.2.1.2.2.2.2)]
 rw[nT (by omega),aM];have eN:(((3*t+1).toNat:Nat):Int)=3*t+1:=by omega
 have eM:((c.toNat:Nat):Int)=c:=by omega
 obtain⟨z,z1,z2⟩:=aas (P:=P) (Q:=Q) (G:=G) hP p62 q62 hG (x1:=t) (by omega) (N:=(3*t+1).toNat) (m:=c.toNat) (by omega) i nx x4 (by omega) hX;rw[eN,eM]at z1;have z1':au eD (((),((),((3*t+1),(0,())))),(((P:Int),(Q:Int),(G:Int)),((t,(i,(c,((nx,x4),(n,x5))))),())))=some z:=z1;simp only[z1'];rcases z2 with⟨rfl,h⟩|⟨rfl,h3,h4⟩
 ·rw[ak (λhh=>h ⟨hh.2.1.2.2.2.1,hh.2.2⟩)]
 ·rw[aG (p:=a6b P Q G (t,(i,(c,((nx,x4),(n,x5))))) X) ⟨⟨⟨by simp only;omega,by simp only;omega⟩,⟨by simp only;omega,by simp only;omega⟩,⟨by simp only;omega,by simp only;omega⟩⟩,⟨by simp only;omega,by simp only;omega,h1,h3,c8⟩,h4⟩]
end
open Go Go.Den Go.Num
def gOf(a:GA):GI:=(a.1,(a.2.1,((.fz a.2.2.1.1 a.2.2.1.2),((.fz a.2.2.2.1.1 a.2.2.2.1.2),a.2.2.2.2))))
def tOf(x:TO):TO:=(gOf (Ij x.1),(gOf (Ij x.2.1),(gOf (Ij x.2.2.1),(x.2.2.2.1,x.2.2.2.2))))
theorem a3T {a:GA}{X:sN}(h:a1P a X):a1Q (gOf a) X:=⟨rfl,rfl,⟨h.seq,h.cli,h.dig,h.mat,h.ys,h.op,h.m63,h.y63⟩⟩
theorem aiB {x:TO}{X:yw}(h:ToB x X):abp (tOf x) X:=⟨a3T h.e.gv.is,a3T h.o.gv.is,a3T h.w.gv.is,h.op,h.left⟩
theorem aau(a:GA):iY ((Ez a).1.1,((Ez a).1.2.1,((Ez a).1.2.2.1,(Ez a).1.2.2.2))) (Ez a).2=some a:=by rw[xV];rfl
theorem abz(v:VA):iY (v.1,(v.2.1,(v.2.2.1,v.2.2.2))) 0=some (v.1,(v.2.1,((v.2.2.1.1,v.2.2.1.2),((v.2.2.2.1,v.2.2.2.2),0)))):=by rw[xV];rfl
theorem abA {c:Nat->TO}{m:Nat}(hm:m<=4)(so:SO)(sp:SP)(i0 i1:IM)(v:VA)(key:ByteArray){C:Nat->CL}(hC: ∀j,j<m->C j=clT (c j))(w1 w2:VT)(ke:ByteArray)(ga:GA)(e d:Nat×(Nat->VO)):
  ∃f:Nat->TO,au bB (dY (m:Int) 0 (so,(sp,(i0,(i1,((v,(key,((),((),C)))),(w1,(w2,((ke,(ga,(e,(d,(0,(λ_=>zT)))))),())))))))))=some (gX (so,(sp,(i0,(i1,((v,(key,((),((),C)))),(w1,(w2,((ke,(ga,(e,(d,(m,f))))),())))))))))/\ ∀j,j<m->f j=tOf (c j):=by
 refine aL (R:=bB) (S:=Nat->TO)
  (λk f=>dY (m:Int) (k:Int) (so,(sp,(i0,(i1,((v,(key,((),((),C)))),(w1,(w2,((ke,(ga,(e,(d,(k,f))))),())))))))))
  (λf=>gX (so,(sp,(i0,(i1,((v,(key,((),((),C)))),(w1,(w2,((ke,(ga,(e,(d,(m,f))))),())))))))))
  (λk f=> ∀j,j<k->f j=tOf (c j)) m
  (λk hk f hp=>?_) (λf _=>by simp(disch:=omega) only[bB,dY,WW]) (λ_=>zT) (λj hj=>absurd hj (awO _))
 have e1:IntKind.i64.wrap ((k:Int)+1)=((k+1:Nat):Int):=by rw[wrap_i64 (by omega)];omega
 have e2:(Nat.ble ((k+1)*280) 140737488355328&&Nat.ble (k+1) 9223372036854775807)=true:=by rw[awF (by omega),awF (by omega)];rfl
 have e4:inb (k:Int) 4=true:=by rw[a4q (by omega)]
 have h0:(C k).1 0=Ez (Ij (c k).1):=by rw[hC k hk];rfl
 have h1:(C k).1 1=Ez (Ij (c k).2.1):=by rw[hC k hk];rfl
 have h2:(C k).2.1=Ez (Ij (c k).2.2.1):=by rw[hC k hk];rfl
 have h3:(C k).2.2=((c k).2.2.2.1,(c k).2.2.2.2):=by rw[hC k hk];rfl
 refine⟨glue k f (λj=>(upd (λ_=>zT) 0 (tOf (c k))) (0+j)),?_,λj hj=>?_⟩
 ·simp(disch:=omega) only[bB,dY,WW,e1,e2,e4,awz,h0,h1,h2,h3,aau];rfl
 ·by_cases e:j<k
  ·rw[Oi e];exact hp j e
  ·rw[Oj (by omega),show j=k from by omega,axX];rfl
theorem aav {l:List (ByteArray×Rc)}{key:ByteArray}{x:Rc} : ∀ {k:Nat},l[k]?=some (key,x)->(∀j e,j<k->l[j]?=some e->e.1≠key)->l[Af l key]?=some (key,x):=by
 induction l with
 |nil=>intro k h;simp at h
 |cons e l ih=>
  intro k h hd;rw[Af];cases k with
  |zero=>
   simp only[ax5,awr]at h;subst h;rw[awQ rfl];rfl
  |succ k=>
   rw[awG (hd 0 e (by omega) rfl),axF];exact ih (k:=k) (by simpa using h) λj e' hj he=>hd (j+1) e' (by omega) (by simpa using he)
theorem aiC {N n:Nat}{t:Nat->RE}(hs:Jf n (λj=>(t j).1)){k:Nat}(hk:k<n):(pE N t n)[Af (pE N t n) (t k).1]?=some ((t k).1,rcX N (t k)):=
 aav (k:=k) (a1T N t hk) λj e hj he hx=>by rw[a1T N t (by omega:j<n)]at he;cases he;have:=hs j k hj hk;rw[show(λj=>(t j).1) j=(t k).1 from hx,Y2]at this;exact Bool.noConfusion this
theorem modify_id {α:Type}{l:List α}{i:Nat}{f:α->α}(h: ∀e,l[i]?=some e->f e=e):List.modify l i f=l:=by
 apply axO;intro j;rw[ayN];by_cases e:i=j
 ·subst e;cases hj:l[i]? with
  |none=>rfl
  |some q=>simp[h q hj]
 ·simp[e]
section
variable {P Q G:Nat}
theorem a1W {N:Nat}{s:SlV VO}(h:jU N (vL s)){q:Nat×(Nat->VO)}(hq:qC q (tl (jD N (vL s) (true,zT0)).2 (8*N))){L:List Om}(hL:RL VK s.len (SlV.fn zV s) L v0):RL VK (SlV.fz q.1 q.2).len (SlV.fn zV (.fz q.1 q.2)) L v0:=by rw[((Y1 N (vL s)).2 h).2]at hq;obtain⟨h1,h2⟩:=hq;have hr:=VY s;refine⟨by show q.1=L.length;rw[h1,<-hr.1,hL.sz],λi hi=>?_,hL.l63⟩;have hi:i<q.1:=hi;show VK (q.2 i) _;rw[h2 i (by omega),<-hr.2 i (by omega)];exact hL.is i (by rw[hr.1,<-h1];exact hi)
theorem aaw {N:Nat}(hN:1<=N/\N<=7){m:Nat}(hm:m<=4)(g:GR)(t i:Int)(no:Nat)(outs:Nat->OU)(sp:SP)(i0:IM)(a b c:Int)(us:Nat×(Nat->Int)){n:Nat}(hn:n<=20){x:Nat->RE}{X:List PX}(hX: ∀j,j<n->ReB (x j) (X.getD j r0))(hs:Jf n (λj=>(x j).1))
  (hr: ∀j,j<n->PZ P Q G t i N m (x j) (X.getD j r0)) {keys:Nat->ByteArray} (hk: ∀j,j<n->keys j=(x j).1):
  ∃F:Nat->RE,au bK (dL n keys (n:Int) 0 ((g,(t,(i,((N:Int),((m:Int),((),(nG N (pE N x n),(no,outs)))))))),(sp,(i0,((a,(b,(c,(us,(0,(λ_=>zR)))))),())))))=
   some (j5 ((g,(t,(i,((N:Int),((m:Int),((),(nG N (pE N x n),(no,outs)))))))),(sp,(i0,((a,(b,(c,(us,(n,F))))),())))))/\ ∀j,j<n->a5X (F j) (X.getD j r0):=by
 refine aL (R:=bK) (S:=Nat->RE)
  (λk F=>dL n keys (n:Int) (k:Int) ((g,(t,(i,((N:Int),((m:Int),((),(nG N (pE N x n),(no,outs)))))))),(sp,(i0,((a,(b,(c,(us,(k,F))))),())))))
  (λF=>j5 ((g,(t,(i,((N:Int),((m:Int),((),(nG N (pE N x n),(no,outs)))))))),(sp,(i0,((a,(b,(c,(us,(n,F))))),())))))
  (λk F=> ∀j,j<k->a5X (F j) (X.getD j r0)) n
  (λk hkn F hp=>?_) (λF _=>by simp(disch:=omega) only[bK,dL,WW]) (λ_=>zR) (λj hj=>absurd hj (awO _))
 have hb:=hX k hkn;have hrk:=hr k hkn;have e1:IntKind.i64.wrap ((k:Int)+1)=((k+1:Nat):Int):=by rw[wrap_i64 (by omega)];omega
 have e2:(Nat.ble ((k+1)*176) 140737488355328&&Nat.ble (k+1) 9223372036854775807)=true:=by rw[awF (by omega),awF (by omega)];rfl
 have hkk:=hk k hkn;have hix:(nG N (pE N x n))[bidx .str (nG N (pE N x n)) (x k).1]?=some ((x k).1,(((rcX N (x k)).v,((x k).1,(.nil,(.nil,(rcX N (x k)).c)))),(((N:Int),(rcX N (x k)).e),(((N:Int),(rcX N (x k)).r),())))):=by rw[Sd,a4K,aiC hs hkn];rfl
 have hmod:=modify_id (l:=(nG N (pE N x n))) (i:=bidx .str (nG N (pE N x n)) (x k).1) (f:=λe=>(e.1,(((rcX N (x k)).v,((x k).1,(.nil,(.nil,(rcX N (x k)).c)))),(((N:Int),(rcX N (x k)).e),(((N:Int),(rcX N (x k)).r),()))))) (λe he=>by rw[hix]at he;cases he;rfl);have hcl:(x k).2.2.2.2.len=m:=by rw[hb.c];exact hrk.2.2.2.2.1
 obtain⟨q1,u1,u2⟩:=aiy hN (g,(t,(i,((N:Int),((m:Int),((),((nG N (pE N x n),bidx .str (nG N (pE N x n)) (x k).1),(no,outs)))))))) ((rcX N (x k)).v,((x k).1,((),((),(rcX N (x k)).c)))) (rcX N (x k)).e ((N:Int),(rcX N (x k)).r) sp rfl;obtain⟨q2,v1,v2⟩:=aiz hN (g,(t,(i,((N:Int),((m:Int),((),((nG N (pE N x n),bidx .str (nG N (pE N x n)) (x k).1),(no,outs)))))))) ((rcX N (x k)).v,((x k).1,((),((),(rcX N (x k)).c)))) (rcX N (x k)).r ((N:Int),(rcX N (x k)).e) sp rfl;have hC: ∀j,j<m->(rcX N (x k)).c j=clT (SlV.fn zT (x k).2.2.2.2 j):=λj hj=>Y8 _ _ _ (by omega)
 obtain⟨f,f1,f2⟩:=abA hm (g,(t,(i,((N:Int),((m:Int),((),((nG N (pE N x n),bidx .str (nG N (pE N x n)) (x k).1),(no,outs)))))))) sp i0 (a,(b,(c,(us,(k,F))))) (rcX N (x k)).v (x k).1 hC ((N:Int),(rcX N (x k)).e) ((N:Int),(rcX N (x k)).r) (x k).1
  ((rcX N (x k)).v.1,((rcX N (x k)).v.2.1,(((rcX N (x k)).v.2.2.1.1,(rcX N (x k)).v.2.2.1.2),(((rcX N (x k)).v.2.2.2.1,(rcX N (x k)).v.2.2.2.2),0)))) (q1.1,q1.2) (q2.1,q2.2)
 have f1':au bB (((),((),((m:Int),(0,())))),_)=_:=f1;refine⟨glue k F (λj=>(upd (λ_=>zR) 0 ((x k).1,(((rcX N (x k)).v.1,((rcX N (x k)).v.2.1,((.fz (rcX N (x k)).v.2.2.1.1 (rcX N (x k)).v.2.2.1.2),((.fz (rcX N (x k)).v.2.2.2.1 (rcX N (x k)).v.2.2.2.2),0)))),((.fz q1.1 q1.2),((.fz q2.1 q2.2),(.fz m (λj=>f (0+j)))))))) (0+j)),?_,λj hj=>?_⟩
 ·simp(disch:=omega) only[bK,dL,WW,e1,e2,awz,hkk,hix,abz,u2,v2,f1',gX];exact congrArg (λb':BG=>some (Sum.inl (dL n keys (n:Int) ((k+1:Nat):Int) ((g,(t,(i,((N:Int),((m:Int),((),(b',(no,outs)))))))),(sp,(i0,((a,(b,(c,(us,(k+1,_))))),()))))))) hmod
 ·by_cases e:j<k
  ·rw[Oi e];exact hp j e
  ·have e:j=k:=by omega
   subst e;rw[Oj (ax2 _),axX];have hgv:=hb.held.gv.is;exact⟨hb.key,⟨rfl,rfl,⟨hgv.seq,hgv.cli,hgv.dig,hgv.mat,hgv.ys,hrk.2.1.symm,hgv.m63,hgv.y63⟩⟩,rfl,rfl,rfl,a1W hrk.2.2.1 u1 hb.e,a1W hrk.2.2.2.1 v1 hb.d,
    ⟨hrk.2.2.2.2.1.symm,λl hl=>by have hl:l<m:=hl;show abp (f (0+l)) _;rw[awR,f2 l hl];exact aiB (hb.cs l (by omega)),by have:=hrk.2.2.2.2.1;omega⟩⟩
end
open Go Go.Den Go.Num
section
variable {P Q G:Nat}
theorem aiD(e a b:Int)(n:Nat)(f:Nat->ByteArray)(u:List (Int×Int)):lX e a b n f u=some ((mf u e,()),((a,(b,((n,f),u))),())):=by rw[uL];rfl
theorem aax {L:Nat}(hL:L<=12)(sn:SN)(a b:Int)(n:Nat)(f:Nat->ByteArray)(u:List (Int×Int))(t i c:Int):
  ∃F:Nat->Int,au bJ (fT (L:Int) 0 (sn,((a,(b,((n,f),u))),((0,(0,(0,((),())))),((t,(i,(c,((0,(λ_=>0)),())))),())))))=
   some (j4 (sn,((a,(b,((n,f),u))),((0,(0,(0,((),())))),((t,(i,(c,((L,F),())))),())))))/\ ∀j,j<L->F j=mf u ((j+1:Nat):Int):=by
 refine aL (R:=bJ) (S:=Nat->Int)
  (λk F=>fT (L:Int) (k:Int) (sn,((a,(b,((n,f),u))),((0,(0,(0,((),())))),((t,(i,(c,((k,F),())))),())))))
  (λF=>j4 (sn,((a,(b,((n,f),u))),((0,(0,(0,((),())))),((t,(i,(c,((L,F),())))),())))))
  (λk F=> ∀j,j<k->F j=mf u ((j+1:Nat):Int)) L
  (λk hk F hp=>?_) (λF _=>by simp(disch:=omega) only[bJ,fT,WW]) (λ_=>0) (λj hj=>absurd hj (awO _))
 have e1:IntKind.i64.wrap ((k:Int)+1)=((k+1:Nat):Int):=by rw[wrap_i64 (by omega)];omega
 have e2:(Nat.ble ((k+1)*8) 140737488355328&&Nat.ble (k+1) 9223372036854775807)=true:=by rw[awF (by omega),awF (by omega)];rfl
 refine⟨glue k F (λj=>(upd (λ_=>0) 0 (mf u ((k+1:Nat):Int))) (0+j)),?_,λj hj=>?_⟩
 ·simp(disch:=omega) only[bJ,fT,WW,e1,e2,aiD]
 ·by_cases e:j<k
  ·rw[Oi e];exact hp j e
  ·rw[Oj (by omega),show j=k from by omega,axX];rfl
theorem VZ {g:GR}{x:IM}{X:VL}(hI:a5Y x X)(hn:x.2.2.2.2.1<=3)(hu:x.2.2.2.1.1<=12)(hX: ∀j,j<x.2.2.2.2.1->ReB (x.2.2.2.2.2 j) (X.recs.getD j r0))(hG:a6b P Q G x X){keys:Nat->ByteArray}{u:List (Int×Int)}(hk: ∀j,j<x.2.2.2.2.1->keys j=(x.2.2.2.2.2 j).1)(hm: ∀e,mf u e=Ci x.2.2.2.1.2 x.2.2.2.1.1 e)(outs:Nat->OU):
  ∃y:IM,a5Y y X/\bQ ((g,(x.1,(x.2.1,((3*x.1+1),(x.2.2.1,((),(nG (3*x.1+1).toNat (pE (3*x.1+1).toNat x.2.2.2.2.2 x.2.2.2.2.1),(0,outs)))))))),(((3*x.1+1),(x.2.2.1,((x.2.2.2.2.1,keys),u))),()))=
   some ((y,()),((g,(x.1,(x.2.1,((3*x.1+1),(x.2.2.1,((),(nG (3*x.1+1).toNat (pE (3*x.1+1).toNat x.2.2.2.2.2 x.2.2.2.2.1),(0,outs)))))))),(((3*x.1+1),(x.2.2.1,((x.2.2.2.2.1,keys),u))),()))):=by
 obtain⟨t,i,c,⟨nx,x4⟩,n,x5⟩:=x;simp only at hn hu hX hk hm⊢;obtain⟨⟨⟨t1,t2⟩,⟨i1,i2⟩,⟨c1,c2⟩⟩,⟨m1,m2,m3,m4,m5⟩,hr⟩:=hG;simp only at t1 t2 i1 i2 c1 c2 m1 m2 m3 m4 m5 hr;rw[qP];unfold mg;have w1:IntKind.i64.wrap (3*t+1+c)=((nx:Nat):Int):=by rw[wrap_i64 (by omega)];omega
 have eN:(((3*t+1).toNat:Nat):Int)=3*t+1:=by omega
 have eM:((c.toNat:Nat):Int)=c:=by omega
 obtain⟨F,f1,f2⟩:=aax hu (g,(t,(i,((3*t+1),(c,((),(nG (3*t+1).toNat (pE (3*t+1).toNat x5 n),(0,outs)))))))) (3*t+1) c n keys u t i c;have f1':au bJ (((),((),((),((nx:Int),(0,()))))),_)=_:=f1;have hK:lY (3*t+1) c n keys u=some (((n,(λj=>keys (0+j))),()),(((3*t+1),(c,((n,keys),u))),())):=by rw[uM,qA,awF (by omega)];rfl
 obtain⟨H,h1,h2⟩:=aaw (P:=P) (Q:=Q) (G:=G) (N:=(3*t+1).toNat) (by omega) (m:=c.toNat) (by omega) g t i 0 outs ((3*t+1),(c,((n,keys),u))) (0,(0,(0,((0,(λ_=>0)),(0,(λ_=>zR)))))) t i c (nx,F) (by omega) hX (Vz m4) hr (keys:=λj=>keys (0+j)) (λj hj=>by simp only[awR];exact hk j hj);rw[eN,eM]at h1;have h1':au bK (((),((),((),((n,(λj=>keys (0+j))),(((n:Nat):Int),(0,())))))),_)=_:=h1;refine⟨(t,(i,(c,((nx,F),(n,H))))),⟨hI.t,hI.num,hI.cls,⟨hI.used.sz,λj hj=>?_,hI.used.l63⟩,⟨hI.recs.sz,h2,hI.recs.l63⟩⟩,?_⟩
 ·have hj:j<nx:=hj;show F j=_;rw[f2 j hj,hm];unfold Ci;rw[awQ (by omega),show(((j+1:Nat):Int)-1).toNat=j from by omega];exact hI.used.is j hj
 ·simp only[w1,f1',hK,j4,h1',j5]
end
open Go Go.Den Go.Num
open Go.IntKind (i64 u64 u32 u8)
def LG(X:sN):Prop:= ∀i,i<X.mat.length->(X.mat.getD i []).length<9223372036854775808
def LR(X:PX):Prop:=LG X.held/\ ∀j,j<X.cls.length->LG (X.cls.getD j t0).e/\LG (X.cls.getD j t0).o/\LG (X.cls.getD j t0).w
def LI(X:VL):Prop:= ∀j,j<X.recs.length->LR (X.recs.getD j r0)
theorem Ou {x y:GI}{X Y:sN}(hx:a1Q x X)(hy:a1Q y Y)(ho:LG X):
  je (x.1,(x.2.1,(((SlV.len x.2.2.1),(SlV.fn (.nil:(SlV NI)) x.2.2.1)),(((SlV.len x.2.2.2.1),(SlV.fn ((λ_=>0):NI) x.2.2.2.1)),x.2.2.2.2)))) (y.1,(y.2.1,(((SlV.len y.2.2.1),(SlV.fn (.nil:(SlV NI)) y.2.2.1)),(((SlV.len y.2.2.2.1),(SlV.fn ((λ_=>0):NI) y.2.2.2.1)),y.2.2.2.2))))=some (decide (X=Y)):=
 VN (x:=Ij x) (y:=Ij y) hx.ga hy.ga (λi hi=>by rw[hx.ga.mat.len i hi];exact ho i (by rw[<-hx.ga.mat.sz];exact hi))
theorem Q0 {x y:RE}{X Y:PX}(hx:a5X x X)(hy:a5X y Y)(ho:LR X):tY (abr x) (abr y)=some (decide (X=Y)):=by
 obtain⟨og,oc⟩:=ho;have e1:sEq x.1 y.1=decide (X.key=Y.key):=by rw[PY,hx.key,hy.key]
 have e2:=Ou hx.held hy.held og;have e3:=Ik hx.e hy.e;have e4:=Ik hx.d hy.d;have lx:=hx.c.sz;have ly:=hy.c.sz;have l63:=hx.c.l63;have fin:X=Y↔X.key=Y.key/\X.held=Y.held/\X.ech=Y.ech/\X.rdy=Y.rdy/\X.cls=Y.cls:=by cases X;cases Y;simp only[PX.mk.injEq]
 rw[Bc];unfold xQ;simp only[abr,Ij,e1,e2,e3,e4];by_cases c1:X.key=Y.key
 rotate_left
 ·rw[aww c1,aww (λh=>c1 (fin.1 h).1)];rfl
 by_cases c2:X.held=Y.held
 rotate_left
 ·rw[awv c1,aww c2,aww (λh=>c2 (fin.1 h).2.1)];rfl
 by_cases c3:X.ech=Y.ech
 rotate_left
 ·rw[awv c1,awv c2,aww c3,aww (λh=>c3 (fin.1 h).2.2.1)];rfl
 by_cases c4:X.rdy=Y.rdy
 rotate_left
 ·rw[awv c1,awv c2,awv c3,aww c4,aww (λh=>c4 (fin.1 h).2.2.2.1)];rfl
 simp only[awv c1,awv c2,awv c3,awv c4,axc,aM];have fin2:X=Y↔X.cls=Y.cls:=⟨λh=>(fin.1 h).2.2.2.2,λh=>fin.2 ⟨c1,c2,c3,c4,h⟩⟩;by_cases c:SlV.len x.2.2.2.2=SlV.len y.2.2.2.2
 ·have h1:=zf (R:=jr) (λj=>lU (j:Int) x.1 x.2.1.1 x.2.1.2.1 (SlV.len x.2.1.2.2.1) (SlV.fn .nil x.2.1.2.2.1) (SlV.len x.2.1.2.2.2.1) (SlV.fn (λ_=>0) x.2.1.2.2.2.1) x.2.1.2.2.2.2 (SlV.len x.2.2.1) (SlV.fn zV x.2.2.1) (SlV.len x.2.2.2.1) (SlV.fn zV x.2.2.2.1) (SlV.len x.2.2.2.2) (SlV.fn zT x.2.2.2.2)
    y.1 y.2.1.1 y.2.1.2.1 (SlV.len y.2.1.2.2.1) (SlV.fn .nil y.2.1.2.2.1) (SlV.len y.2.1.2.2.2.1) (SlV.fn (λ_=>0) y.2.1.2.2.2.1) y.2.1.2.2.2.2 (SlV.len y.2.2.1) (SlV.fn zV y.2.2.1) (SlV.len y.2.2.2.1) (SlV.fn zV y.2.2.2.1) (SlV.len y.2.2.2.2) (SlV.fn zT y.2.2.2.2)) (H6 false) H7 X.cls Y.cls t0 (by omega)
   (λj hj=>by
    have tx:=hx.c.is j (by omega);have ty:=hy.c.is j (by omega);have ok:=oc j hj;have s1:=Ou tx.e ty.e ok.1;have s2:=Ou tx.o ty.o ok.2.1;have s3:=Ou tx.w ty.w ok.2.2;have m1:=tx.e.m0;have m2:=tx.e.y0;have m3:=tx.o.m0;have m4:=tx.o.y0;have m5:=tx.w.m0;have m6:=tx.w.y0;have n1:=ty.e.m0;have n2:=ty.e.y0;have n3:=ty.o.m0;have n4:=ty.o.y0;have n5:=ty.w.m0;have n6:=ty.w.y0;have o1:((SlV.fn zT x.2.2.2.2 j).2.2.2.1 !=(SlV.fn zT y.2.2.2.2 j).2.2.2.1)= !decide ((X.cls.getD j t0).op=(Y.cls.getD j t0).op):=by rw[uG,tx.op,ty.op]
    have o2:((SlV.fn zT x.2.2.2.2 j).2.2.2.2 !=(SlV.fn zT y.2.2.2.2 j).2.2.2.2)= !decide ((X.cls.getD j t0).left=(Y.cls.getD j t0).left):=by rw[uG,tx.left,ty.left]
    have te:=abt (X.cls.getD j t0) (Y.cls.getD j t0);simp(disch:=omega) only[jr,lU,WW,CC,m1,m2,m3,m4,m5,m6,n1,n2,n3,n4,n5,n6,s1,s2,s3,o1,o2,Bool.not_not];by_cases k1:(X.cls.getD j t0).e=(Y.cls.getD j t0).e
    rotate_left
    ·rw[awG (λh=>k1 (te.1 h).1),aww k1];rfl
    by_cases k2:(X.cls.getD j t0).o=(Y.cls.getD j t0).o
    rotate_left
    ·rw[awG (λh=>k2 (te.1 h).2.1),awv k1,aww k2];rfl
    by_cases k3:(X.cls.getD j t0).w=(Y.cls.getD j t0).w
    rotate_left
    ·rw[awG (λh=>k3 (te.1 h).2.2.1),awv k1,awv k2,aww k3];rfl
    by_cases k4:(X.cls.getD j t0).op=(Y.cls.getD j t0).op
    rotate_left
    ·rw[awG (λh=>k4 (te.1 h).2.2.2.1),awv k1,awv k2,awv k3,aww k4];rfl
    by_cases k5:(X.cls.getD j t0).left=(Y.cls.getD j t0).left
    rotate_left
    ·rw[awG (λh=>k5 (te.1 h).2.2.2.2),awv k1,awv k2,awv k3,awv k4,aww k5];rfl
    ·rw[awQ (te.2 ⟨k1,k2,k3,k4,k5⟩),awv k1,awv k2,awv k3,awv k4,awv k5];rfl)
   (by rw[<-lx];simp(disch:=omega) only[jr,lU,WW])
  simp only[lU,Int.natCast_zero,show((0:Nat):Int)=0 from rfl]at h1;simp only[c,axG,aM];rw[c]at h1;simp only[h1];by_cases e:X.cls=Y.cls
  ·rw[awQ e,awv (fin2.2 e)]
  ·rw[awG e,aww (λh=>e (fin2.1 h))]
 ·have e:X≠Y:=λe=>c (by rw[lx,ly,e])
  have d:(((SlV.len x.2.2.2.2:Nat):Int) !=((SlV.len y.2.2.2.2:Nat):Int))=true:=by rw[azb];omega
  simp only[d,aN,aww e]
theorem Il {x y:IM}{X Y:VL}(hx:a5Y x X)(hy:a5Y y Y)(ho:LI X):jQ x y=some (decide (X=Y)):=by
 have ux:=hx.used.sz;have uy:=hy.used.sz;have u63:=hx.used.l63;have rx:=hx.recs.sz;have ry:=hy.recs.sz;have r63:=hx.recs.l63;have fin:X=Y↔X.t=Y.t/\X.num=Y.num/\X.cls=Y.cls/\X.used=Y.used/\X.recs=Y.recs:=by cases X;cases Y;simp only[VL.mk.injEq]
 have e1:(x.1 !=y.1)= !decide (X.t=Y.t):=by rw[uG,hx.t,hy.t]
 have e2:(x.2.1 !=y.2.1)= !decide (X.num=Y.num):=by rw[uG,hx.num,hy.num]
 have e3:(x.2.2.1 !=y.2.2.1)= !decide (X.cls=Y.cls):=by rw[uG,hx.cls,hy.cls]
 rw[H9];unfold J5;simp only[e1,e2,e3];by_cases c1:X.t=Y.t
 rotate_left
 ·rw[aww c1,aww (λh=>c1 (fin.1 h).1)];rfl
 by_cases c2:X.num=Y.num
 rotate_left
 ·rw[awv c1,aww c2,aww (λh=>c2 (fin.1 h).2.1)];rfl
 by_cases c3:X.cls=Y.cls
 rotate_left
 ·rw[awv c1,awv c2,aww c3,aww (λh=>c3 (fin.1 h).2.2.1)];rfl
 simp only[awv c1,awv c2,awv c3,axc,aM];by_cases d1:x.2.2.2.1.1=y.2.2.2.1.1
 rotate_left
 ·have d:(((x.2.2.2.1.1:Nat):Int) !=((y.2.2.2.1.1:Nat):Int))=true:=by rw[azb];omega
  rw[d,aN,aww (λh=>d1 (by rw[ux,uy,h]))]
 by_cases d2:x.2.2.2.2.1=y.2.2.2.2.1
 rotate_left
 ·have d:(((x.2.2.2.2.1:Nat):Int) !=((y.2.2.2.2.1:Nat):Int))=true:=by rw[azb];omega
  rw[d,aN,aww (λh=>d2 (by rw[rx,ry,h]))];cases(((x.2.2.2.1.1:Nat):Int) !=((y.2.2.2.1.1:Nat):Int))<;>rfl
 have h1:=zf (R:=ig) (λj=>jP (j:Int) x.1 x.2.1 x.2.2.1 x.2.2.2.1.1 x.2.2.2.1.2 x.2.2.2.2.1 x.2.2.2.2.2 y.1 y.2.1 y.2.2.1 y.2.2.2.1.1 y.2.2.2.1.2 y.2.2.2.2.1 y.2.2.2.2.2) (H8 false)
  (tZ x.1 x.2.1 x.2.2.1 x.2.2.2.1.1 x.2.2.2.1.2 x.2.2.2.2.1 x.2.2.2.2.2 y.1 y.2.1 y.2.2.1 y.2.2.2.1.1 y.2.2.2.1.2 y.2.2.2.2.1 y.2.2.2.2.2) X.used Y.used 0 (by omega)
  (λj hj=>by
   have e:=hx.used.is j (by omega);have f:=hy.used.is j (by omega);have g:(x.2.2.2.1.2 j !=y.2.2.2.1.2 j)= !decide (X.used.getD j 0=Y.used.getD j 0):=by rw[uG,e,f]
   by_cases c:X.used.getD j 0=Y.used.getD j 0
   ·rw[awQ c];rw[awv c]at g;simp(disch:=omega) only[ig,jP,WW,CC,g,axc]
   ·rw[awG c];rw[aww c]at g;simp(disch:=omega) only[ig,jP,WW,CC,g,axz])
  (by rw[<-ux];simp(disch:=omega) only[ig,jP,WW])
 have h2:=zf (R:=iU) (λj=>lV (j:Int) x.1 x.2.1 x.2.2.1 x.2.2.2.1.1 x.2.2.2.1.2 x.2.2.2.2.1 x.2.2.2.2.2 y.1 y.2.1 y.2.2.1 y.2.2.2.1.1 y.2.2.2.1.2 y.2.2.2.2.1 y.2.2.2.2.2) (UE false) zQ X.recs Y.recs r0 (by omega)
  (λj hj=>by
   have e:=hx.recs.is j (by omega);have f:=hy.recs.is j (by omega);have g:=Q0 e f (ho j hj);simp only[abr,Ij]at g;have m1:=e.held.m0;have m2:=e.held.y0;have m3:=e.e0;have m4:=e.d0;have m5:=e.c0;have n1:=f.held.m0;have n2:=f.held.y0;have n3:=f.e0;have n4:=f.d0;have n5:=f.c0;by_cases c:X.recs.getD j r0=Y.recs.getD j r0
   ·rw[awQ c];rw[awv c]at g;simp(disch:=omega) only[iU,lV,WW,CC,m1,m2,m3,m4,m5,n1,n2,n3,n4,n5,g,axc]
   ·rw[awG c];rw[aww c]at g;simp(disch:=omega) only[iU,lV,WW,CC,m1,m2,m3,m4,m5,n1,n2,n3,n4,n5,g,axz])
  (by rw[<-rx];simp(disch:=omega) only[iU,lV,WW])
 simp only[jP,lV,show((0:Nat):Int)=0 from rfl]at h1 h2;simp only[d1,d2,axG,aM]at h1 h2⊢;simp only[h1];by_cases e:X.used=Y.used
 ·simp only[awQ e,tZ,h2];by_cases e2:X.recs=Y.recs
  ·rw[awQ e2,awv (fin.2 ⟨c1,c2,c3,e,e2⟩)]
  ·rw[awG e2,aww (λh=>e2 (fin.1 h).2.2.2.2)]
 ·simp only[awG e,H8];rw[aww (λh=>e (fin.1 h).2.2.2.1)]
theorem giB {x:GI}(h:Go.Den.Good a1x x)(f:Ob x):GiB x (gvS x):=by obtain⟨h1,_,_,_,h2,_⟩:=Ey h;have ok:=Ie h;obtain⟨_,_,g1,g2,_⟩:=h;obtain⟨_,_,c⟩:=jT (t:=.sl (.arr 4 (.int .u64))) g1 .nil;exact⟨h1.m0,h1.y0,⟨h1.ga,by have:=f.2;show x.2.2.2.1.len<=1000000;omega,λi hi=>(Ew (c i hi)).2.1,h2⟩⟩
theorem toB {x:TO}(h:Go.Den.Good Vo x)(f:Ob x.1/\Ob x.2.1/\Ob x.2.2.1):ToB x (toS x):=⟨giB h.1 f.1,giB h.2.1 f.2.1,giB h.2.2.1 f.2.2,rfl,rfl⟩
theorem reB {x:RE}(h:Go.Den.Good a1y x)(f:Vp x):ReB x (reS x):=by
 obtain⟨hr,_⟩:=a3Q h;obtain⟨_,h0,h1,h2,h3⟩:=h;obtain⟨a,b,c⟩:=jT (t:=R5) h1 zV;obtain⟨a',b',c'⟩:=jT (t:=R5) h2 zV;obtain⟨a2,b2,c2⟩:=jT (t:=Vo) h3 zT;have e:=f.e;have d:=f.d;have cc:=f.c;exact⟨hr.key,giB h0 f.g,a,a',a2,hr.e,hr.d,by omega,by omega,λj hj=>by have:=(c j hj).1.2;exact Int.lt_of_le_of_lt this (by decide),λj hj=>by have:=(c' j hj).1.2;exact Int.lt_of_le_of_lt this (by decide),hr.c.sz,λj hj=>by
  have:=toB (c2 j hj) (f.c1 j hj)
  rwa [show(reS x).cls.getD j t0=toS (SlV.fn zT x.2.2.2.2 j)from Br _ _ hj _],by omega⟩
theorem lG {x:GI}(h:Go.Den.Good a1x x):LG (gvS x):=by obtain⟨_,_,g1,g2,_⟩:=h;obtain⟨_,_,c⟩:=jT (t:=.sl (.arr 4 (.int .u64))) g1 .nil;obtain⟨_,_,m,_⟩:=a4I g1;intro i hi;have hi:i<(a3P x.2.2.1).length:=hi;rw[<-m.sz]at hi;show((a3P x.2.2.1).getD i []).length<_;rw[<-m.len i hi];exact(Ew (c i hi)).2.1
theorem lI {x:IM}(h: ∀i,i<x.2.2.2.2.1->Go.Den.Good a1y (x.2.2.2.2.2 i)):LI (imS x):=by
 intro j hj;have hj:j<x.2.2.2.2.1:=by rwa [show(imS x).recs.length=x.2.2.2.2.1 from Ji _ _ _]at hj
 rw[show(imS x).recs.getD j r0=reS (x.2.2.2.2.2 j)from Br _ _ hj _];obtain⟨_,h0,h1,h2,h3⟩:=h j hj;obtain⟨a2,b2,c2⟩:=jT (t:=Vo) h3 zT;refine⟨lG h0,λk hk=>?_⟩;have hk:k<(x.2.2.2.2.2 j).2.2.2.2.len:=by rwa [show(reS (x.2.2.2.2.2 j)).cls.length=(x.2.2.2.2.2 j).2.2.2.2.len from Ji _ _ _]at hk
 rw[show(reS (x.2.2.2.2.2 j)).cls.getD k t0=toS (SlV.fn zT (x.2.2.2.2.2 j).2.2.2.2 k)from Br _ _ hk _];have:=c2 k hk;exact⟨lG this.1,lG this.2.1,lG this.2.2.1⟩
theorem imB {x:IM}(h: ∀i,i<x.2.2.2.2.1->Go.Den.Good a1y (x.2.2.2.2.2 i))(f: ∀k,k<x.2.2.2.2.1->Vp (x.2.2.2.2.2 k)): ∀j,j<x.2.2.2.2.1->ReB (x.2.2.2.2.2 j) ((imS x).recs.getD j r0):=λj hj=>by rw[show(imS x).recs.getD j r0=reS (x.2.2.2.2.2 j)from Br _ _ hj _];exact reB (h j hj) (f j hj)
end Go.Pl
