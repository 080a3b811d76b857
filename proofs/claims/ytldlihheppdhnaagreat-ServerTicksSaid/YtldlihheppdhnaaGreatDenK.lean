/-
 The plain reading of code: texts compared.
-/
import Derived.Test.YtldlihheppdhnaaGreatDenJ
import Derived.Shelf.Spec.SlicesInsertGrow
import Derived.Shelf.Small.Strs
set_option linter.unusedVariables false
set_option linter.unusedSimpArgs false
namespace Go.Den
open Go.Proofs Go.Shelf
theorem a3d {P:Program}{ρ:Ren}(L:Lays2.n22 P ρ)(hent: ∀args w,(callFunc (ρ.f 22) args).run P w= .ok (.enter (ρ.f 22) args) w):aA P (ρ.f 22) (KY (ρ.t 9)):=by
 have one: ∀ {w:World} {vb:Nat} {y:Value},w.cell? ⟨vb,0,none⟩=some y-> ∀(j:Nat) v,[y][j]?=some v->w.cell? ⟨vb,0+j,none⟩=some v:=by
  intro w vb y hy j v hj;cases j with
  |zero=>simp at hj;subst hj;exact hy
  |succ j=>simp at hj
 have one1: ∀ {y:Value},y.oneCell'=true-> ∀v∈ [y],v.oneCell'=true:=by intro y hy v hv;simp at hv;subst hv;exact hy
 refine a5Q hent ?_ ?_ ?_ ?_
 ·intro b n c i vb vc cs y w tA tB kA kB hi hroom hc63 hvb hcl hcs hsp hfz hy h1c h1y hsa hsb hkB hfa hfe;have H:=Any2.slices_Insert_string_shift L b 0 n c i vb 0 1 vc cs [y] w hi (by decide) hroom hc63 hvb hcl rfl (λj v hj=>by rw[axA];exact hcs j v hj) (λj hj=>by rw[axA];exact hsp j hj) (λj hj=>by rw[axA];exact hfz j hj) (one hy) h1c (one1 h1y) tA tB kA kB hsa hsb hkB hfa hfe;simp only[axA]at H;exact H
 ·intro b n c vb vc y w hroom hc63 hsp hfz hy h1y;have s0: ∀j,j<1->(w.cell? ⟨b,0+n+j,none⟩).isSome=true:=λj hj=>by
   obtain rfl:j=0:=by omega
   rw[axA];exact hsp
  have s1: ∀j,j<1->w.frozen? ⟨b,0+n+j,none⟩=false:=λj hj=>by
   obtain rfl:j=0:=by omega
   rw[axA];exact hfz
  have H:=Any2.slices_Insert_string_end_room L b 0 n c vb 0 1 vc [y] w (by decide) hroom hc63 rfl s0 s1 (one hy) (one1 h1y);simp only[axA]at H;exact H
 ·intro base n c vb vc cs y w hnc hroom hbig hcl hnil hcs hy h1y;exact Any2.slices_Insert_string_end_grow L base n c vb 0 1 vc cs [y] w (by decide) hnc hroom hbig hcl rfl hnil hcs (one hy) (one1 h1y)
 ·intro b n c i vb vc cs y w hi hnc hroom hbig hcl hcs hy h1c h1y;exact Any2.slices_Insert_string_grow L b 0 n c i vb 0 1 vc cs [y] w hi (by decide) hnc hroom hbig hcl rfl (λj v hj=>by rw[axA];exact hcs j v hj) (one hy) h1c (one1 h1y)
def Qr(a b:ByteArray):Option Int:=some (Lib.compareBytes a.data.toList b.data.toList)
noncomputable def zW:ByteArray->ByteArray->Option Int:=veil Qr
theorem JI(a b:ByteArray):zW a b=Qr a b:=by unfold zW;rw[au]
theorem WY {P:Program}{f:FuncId}(hent: ∀args w,(callFunc f args).run P w= .ok (.enter f args) w)
  (H: ∀(a b:ByteArray) (w:World),Calls P f #[.string a,.string b] w λe w'=>e= .returned (.int .i64 (Lib.compareBytes a.data.toList b.data.toList))/\w'=w):
  aA P f (aQ true [.str,.str] [.int .i64] λx=>zW x.1 x.2.1):=by
 refine ab0 hent _ _ _ rfl λw xs res vargs hv hi=>?_
 obtain⟨a,b,_⟩:=xs;rw[JI]at hi;cases hi
 match vargs,hv with
 | [v1,v2],⟨h1,h2,_⟩=>
  have e1:=VR.str h1;have e2:=VR.str h2;subst e1;subst e2;exact(H a b w).mono λe w' ⟨he,hw⟩=>⟨_,he,hw▸Go.RowKit.Below.refl _ _,VR.mkInt⟩
end Go.Den
