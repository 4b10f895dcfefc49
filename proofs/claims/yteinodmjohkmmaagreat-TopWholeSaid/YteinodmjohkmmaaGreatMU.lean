/- TopWhole: a part of its proof. -/
import Derived.Test.YteinodmjohkmmaaGreatMA3
set_option linter.all false
set_option maxRecDepth 100000
set_option maxHeartbeats 4000000
open List renaming getElem?_eq_getElem->b8,getElem_mem->gG,length->aa,take_length->nN,take_succ_eq_append_getElem->j4
open Nat renaming zero_le->bO
open Option renaming none->af
open Go.RowKit
namespace Go.Proofs.YteinodmjohkmmaaGreat
noncomputable section
section
attribute [local irreducible] C bh b6
section
theorem aaG(n):l7 n=qG n:=rfl
attribute [local simp] bZ.iA bZ.known bZ.id bZ.jZ aaG
def afw(c:bZ)(E):aY 39 #[c.v] E (j c.iA) E:=by
 have H:=WG;have I:=λE=>WH c.ai E;have J:=Fc;let⟨C,O,s⟩:=c;have D:C=1\/C=2\/C=3\/C=4\/C<1\/(¬C<1/\4<C):=ad;rcases D with rfl|rfl|rfl|rfl|D|D
 · (apply cR _;exact pC)
 · (apply cR _;exact pC)
 · (apply cR _;exact pC)
 · (apply cR _;exact pC)
 .have h1:=cO D
  (apply cR _;exact pC)
 .have h1:=cw D.1;have ae:=cO D.2
  (apply cR _;exact pC)
end
def pH(l:List aj)(n:Int):Int:=if dW l n=true then(l.findIdx λj=>decide (j.id=n):Nat)else-1
theorem PH(l j n):dW (l++j) n=(dW l n||dW j n):=by simp[dW]
def Nc{l n j D}(g:l[j]?=some D)(h:dW (l.take j) n=false)(C:D.id=n):pH l n=(j:Nat):=by
 obtain⟨H,rfl⟩:=List.getElem?_eq_some_iff.1 g;have h1:dW l n=true:=by unfold dW;rw[List.any_eq_true];exact⟨l[j],gG _,by simp[C]⟩
 unfold pH;rw[bJ h1];have:l.findIdx (λJ=>decide (J.id=n))=j:=by
  rw[List.findIdx_eq H];refine⟨by simp[C],λI O=>?_⟩;unfold dW at h;rw[List.any_eq_false]at h;have E:I<aa (l.take j):=by rw[List.length_take];omega
  have:=h _ (gG E);rw[List.getElem_take]at this;simpa using this
 rw[this]
def Nb(l n):decide (0<=pH l n)=dW l n:=by
 unfold pH;cases dW l n
 .rfl
 .exact cO (Int.natCast_nonneg _)
def Ta{al}(b)(A W:a3)(c Y)(D S:List aj)(n E)(h:aU E b 0 3 [.slice A (aa D) c,.slice W (aa S) Y,j al])(ah:Rd E A (aa D) D)(ar:aa D<=100000):
  aY 23 #[I b,j n] E (j (pH D n)) E:=by
 have h1:a5 E ⟨b,0+0,af⟩ (.slice A (aa D) c):=h.at_ (i:=0) p;refine bt λ{g F}=>?_;refine cL (ι:=Nat) (λC=>[(0,I b),(1,j n),(5,j (C:Nat))]) (λ_=>F::E) (λC=>C<=aa D/\dW (D.take C) n=false) (λC=>aa D-C) 0 ⟨bO _,rfl⟩ aZ a1 ?_;rintro C ⟨aq,H⟩;apply ak _;refine c0 p (λag=>?_) (λag=>?_)
 .obtain⟨R,U,rfl,ai⟩:=ah.at_ ad;have Q:D[C]?=some D[C]:=b8 ad;have ap:=ai _ _ Q;have am:D.take (C+1)=D.take C++[D[C]]:=j4 ad;have ab:=Nc Q H;generalize D[C]=J at*
  have av:a5 E ⟨R,U+C*3+0,af⟩ (j J.id):=(show aU E R (U+C*3) 3 [j J.id,j J.x,j J.y]from ap).at_ (i:=0) p;apply ak _;refine c0 p (λO=>?_) (λO=>?_)
  .apply ak _;refine ba p (.tmp p .nil) a1 ⟨by rw[ab O];rfl,rfl⟩
  .apply ak _;exact b7 (C+1) ⟨ad,by rw[am,PH,H];simp[dW,O]⟩ ad aZ a1
 .have Z:C=aa D:=ad;subst Z;rw[nN]at H;apply ak _;refine ba p (.tmp p .nil) a1 ⟨by unfold pH;rw[H];rfl,rfl⟩
def Tb{al}(b)(A J:a3)(c Q)(Y S:List aj)(n D)(h:aU D b 0 3 [.slice A (aa Y) c,.slice J (aa S) Q,j al])(ah:Rd D J (aa S) S)(ar:aa S<=100000):
  aY 24 #[I b,j n] D (j (pH S n)) D:=by
 have h1:a5 D ⟨b,0+1,af⟩ (.slice J (aa S) Q):=h.at_ (i:=1) p;refine bt λ{g F}=>?_;refine cL (ι:=Nat) (λC=>[(0,I b),(1,j n),(5,j (C:Nat))]) (λ_=>F::D) (λC=>C<=aa S/\dW (S.take C) n=false) (λC=>aa S-C) 0 ⟨bO _,rfl⟩ aZ a1 ?_;rintro C ⟨aq,E⟩;apply ak _;refine c0 p (λag=>?_) (λag=>?_)
 .obtain⟨U,W,rfl,ai⟩:=ah.at_ ad;have R:S[C]?=some S[C]:=b8 ad;have ap:=ai _ _ R;have am:S.take (C+1)=S.take C++[S[C]]:=j4 ad;have ab:=Nc R E;generalize S[C]=H at*
  have av:a5 D ⟨U,W+C*3+0,af⟩ (j H.id):=(show aU D U (W+C*3) 3 [j H.id,j H.x,j H.y]from ap).at_ (i:=0) p;apply ak _;refine c0 p (λO=>?_) (λO=>?_)
  .apply ak _;refine ba p (.tmp p .nil) a1 ⟨by rw[ab O];rfl,rfl⟩
  .apply ak _;exact b7 (C+1) ⟨ad,by rw[am,PH,E];simp[dW,O]⟩ ad aZ a1
 .have Z:C=aa S:=ad;subst Z;rw[nN]at E;apply ak _;refine ba p (.tmp p .nil) a1 ⟨by unfold pH;rw[E];rfl,rfl⟩
end
variable{D:Nat}
@[reducible] def j1 (D:Nat) (A:a3) (n c:Nat) (C:a3) (H E:Nat):List Value:=[.slice A n c,.slice C H E,j (D:Nat)]
def Je(D b:Nat)(j S:List aj)(y:(Option Addr×Nat)×(Option Addr×Nat)):List aG:=[ah b 40 (j1 D y.1.1 (aa j) y.1.2 y.2.1 (aa S) y.2.2),E 42 3 y.1.1 (aa j) y.1.2 (J j),E 44 3 y.2.1 (aa S) y.2.2 (J S)]
def fH(D b:Nat)(j S:List aj):aG:=λh=>∃y,C (Je D b j S y) h
structure FF (j S:List aj) (y:(Option Addr×Nat)×(Option Addr×Nat)):Prop where
 a:0<j.length->∃b,y.1.1=(U b)
 qt:0<S.length->∃b,y.2.1=(U b)
 c:j.length<=y.1.2
 B0:S.length<=y.2.2
 m:y.1.2<=maxLen
 mc:y.2.2<=maxLen
 d:(y.1.1=af/\j.length=0/\y.1.2=0)\/∃b,y.1.1=(U b)
 Cc:(y.2.1=af/\S.length=0/\y.2.2=0)\/∃b,y.2.1=(U b)
def af2{b j S h}(q:fH D b j S h):∃y,FF j S y/\C (Je D b j S y) h:=by
 obtain⟨y,q⟩:=q;have H:=E.facts q.tail;have I:=E.facts q.tail.tail;refine⟨y,⟨λJ=>?_,λJ=>?_,H.2.1,I.2.1,H.2.2.1,I.2.2.1,H.2.2.2,I.2.2.2⟩,q⟩
 .grind
 grind
theorem O.aW{U W args}{I:Q}{b j S Y}
  (R:∀A c C H,FF j S ((A,c),(C,H))->O U W args (ah b 40 (j1 D A (aa j) c C (aa S) H)::E 42 3 A (aa j) c (J j)::E 44 3 C (aa S) H (J S)::I) Y):O U W args (fH D b j S::I) Y:=
 O.open (E:=λy=>Je D b j S y) (D:=λy=>FF j S y) (λ_ h=>af2 h) λy Z=>R y.1.1 y.1.2 y.2.1 y.2.2 Z
def sU{b n O H S A j c I}{U W:bz}{R M:Q}(Y:aa H=n)(Z:aa S=O)(ab:J H=U)(ag:J S=W)(f:aS R (ah b 40 (j1 D A n c j O I)::E 42 3 A n c U::E 44 3 j O I W::M)):aS R (fH D b H S::M):=λh s=>by
 subst Y Z ab ag;exact C.fold (λh q=>⟨((A,c),(j,I)),q⟩) (f h s)
section
variable{b:Nat}{A yn:a3}{B1 c1:Nat}{P S:List aj}{L:Q}(h:aU L b 0 3 (j1 D A P.length B1 yn S.length c1))(aaK:Rd L A P.length P)(aaL:Rd L yn S.length S)(nl:P.length+S.length<=1000)
include h aaK aaL nl
attribute [local simp] bZ.mH bZ.jZ bZ.id
theorem D1(c):aY 22 #[I b,c.v] L (j (ex P S D c)) L:=by
 have O:=afw c;have W:=λn M h E=>Ta (al:=(D:Nat)) b A yn B1 c1 P S n M h E ad;have Y:=λn M h E=>Tb (al:=(D:Nat)) b A yn B1 c1 P S n M h E ad;have ag:a5 L ⟨b,0+0,af⟩ (.slice A (aa P) B1):=h.at_ (i:=0) p;have ah:a5 L ⟨b,0+1,af⟩ (.slice yn (aa S) c1):=h.at_ (i:=1) p;have al:a5 L ⟨b,0+2,af⟩ (j (D:Nat)):=h.at_ (i:=2) p;have Z:=Nb P c.ai.id;have ab:=Nb S c.s.id;obtain⟨C,U,s⟩:=c;have J:C=1\/C=2\/C=3\/C=4\/(¬(1<=C/\C<=4)):=ad;unfold ex;rcases J with rfl|rfl|rfl|rfl|J
 .generalize bZ.iA _=H at*
  (apply cR _;exact pC)
 .generalize bZ.iA _=H at*
  (apply cR _;exact pC)
 .generalize bZ.iA _=H at*
  (apply cR _;exact pC)
 .generalize bZ.iA _=H at*
  (apply cR _;exact pC)
 .have R:bZ.iA ⟨C,U,s⟩=1:=by
   simp_all[bZ.iA,bZ.known,bJ]
  rw[R]at O ⊢
  (apply cR _;exact pC)
end
end
end Go.Proofs.YteinodmjohkmmaaGreat
