/- TopBudget: a part of its proof. -/
import Derived.Test.YtioamnghkmcbbaaGreatMA3
set_option linter.all false
set_option maxRecDepth 100000
set_option maxHeartbeats 4000000
open List renaming getElem?_eq_getElem->cb,getElem_mem->hp,take_length->k0,take_succ_eq_append_getElem->gu
open Nat renaming zero_le->bu
open Go.RowKit
namespace Go.Proofs.YtioamnghkmcbbaaGreat
noncomputable section
section
attribute [local irreducible] G bf cc
theorem Ue(n):kg n=oo n:=rfl
section
attribute [local simp] be.hT be.known be.id be.iq Ue
def Yc(K:be)(J):D E 28 #[K.v] J λv O=>v=j K.hT/\O=J:=by
 have Q:=Q9;have R:=λJ=>Ra K.ag J;have U:=vI;obtain⟨G,W,s⟩:=K;have I:G=1\/G=2\/G=3\/G=4\/G<1\/(¬G<1/\4<G):=C;rcases I with rfl|rfl|rfl|rfl|I|I
 · (refine bH ?_;exact m8)
 · (refine bH ?_;exact m8)
 · (refine bH ?_;exact m8)
 · (refine bH ?_;exact m8)
 ·have aa:=decide_eq_true I
  (refine bH ?_;exact m8)
 ·have aa:=decide_eq_false I.1;have ab:=decide_eq_true I.2
  (refine bH ?_;exact m8)
end
def nh(l:List I)(n:Int):Int:=if dx l n=true then(l.findIdx λj=>decide (j.id=n):Nat)else-1
theorem Lh(l j n):dx (l++j) n=(dx l n||dx j n):=by simp[dx]
def Jh{l n j D}(g:l[j]?=some D)(h:dx (l.take j) n=false)(C:D.id=n):nh l n=(j:Nat):=by
 obtain⟨G,rfl⟩:=List.getElem?_eq_some_iff.1 g;have aa:dx l n=true:=by unfold dx;rw[List.any_eq_true];exact⟨l[j],hp _,by simp[C]⟩
 unfold nh;rw[if_pos aa];have:l.findIdx (λJ=>decide (J.id=n))=j:=by
  rw[List.findIdx_eq G];refine⟨by simp[C],λI K=> ?_⟩;unfold dx at h;rw[List.any_eq_false]at h;have E:I< (l.take j).length:=by rw[List.length_take];omega
  have:=h _ (hp E);rw[List.getElem_take]at this;simpa using this
 rw[this]
def Jg(l n):decide (0<=nh l n)=dx l n:=by
 unfold nh;cases dx l n
 ·rfl
 ·exact decide_eq_true (Int.natCast_nonneg _)
def Oh(b U ak Y am)(J S:List I)(n K)(h:aB K b 0 3 [.slice U J.length Y,.slice ak S.length am,j 30])(au:Rd K U J.length J)(aA:J.length<=100000):
  D E 18 #[R b,j n] K λv al=>v=j (nh J n)/\al=K:=by
 have aa:aR K ⟨b,0+0,none⟩ (.slice U J.length Y):=h.at_ (i:=0) p;refine bH λg F=> ?_;refine aJ ?_;refine ad ?_;refine bD ?_;refine ad ?_;refine af ?_;refine cJ (ι:=Nat) (λG=>[(0,R b),(1,j n),(5,j (G:Nat))]) (λ_=>F::K) (λG=>G<=J.length/\dx (J.take G) n=false) (λG=>J.length-G) 0 ⟨bu _,rfl⟩ a8 az ?_;rintro G ⟨ay,O⟩;refine aJ ?_;iterate 7 refine ad ?_
 refine af ?_;refine cp p (λar=> ?_) (λar=> ?_)
 ·obtain⟨ae,ag,rfl,av⟩:=au.at_ C;have Z:J[G]?=some J[G]:=cb C;have ax:=av _ _ Z;have aw:J.take (G+1)=J.take G++[J[G]]:=gu C;have ap:=Jh Z O;generalize J[G]=Q at*
  have aC:aR K ⟨ae,ag+G*3+0,none⟩ (j Q.id):=(show aB K ae (ag+G*3) 3 [j Q.id,j Q.x,j Q.y]from ax).at_ (i:=0) p;refine aJ ?_;iterate 10 refine ad ?_
  refine af ?_;refine cp p (λW=> ?_) (λW=> ?_)
  ·refine aF ?_;refine cv ?_;iterate 2 refine ad ?_
   refine af ?_;refine aj p (.tmp p .nil) az ⟨by rw[ap W];rfl,rfl⟩
  ·refine aF ?_;refine cv ?_;iterate 3 refine ad ?_
   refine af ?_;exact bM (G+1) ⟨C,by rw[aw,Lh,O];simp[dx,W]⟩ C a8 az
 ·have ao:G=J.length:=C;subst ao;rw[k0]at O;refine aJ ?_;refine ad ?_;refine af ?_;refine aj p (.tmp p .nil) az ⟨by unfold nh;rw[O];rfl,rfl⟩
def Oi(b ag Q am W)(al S:List I)(n J)(h:aB J b 0 3 [.slice ag al.length am,.slice Q S.length W,j 30])(au:Rd J Q S.length S)(aA:S.length<=100000):
  D E 19 #[R b,j n] J λv ak=>v=j (nh S n)/\ak=J:=by
 have aa:aR J ⟨b,0+1,none⟩ (.slice Q S.length W):=h.at_ (i:=1) p;refine bH λg F=> ?_;refine aJ ?_;refine ad ?_;refine bD ?_;refine ad ?_;refine af ?_;refine cJ (ι:=Nat) (λG=>[(0,R b),(1,j n),(5,j (G:Nat))]) (λ_=>F::J) (λG=>G<=S.length/\dx (S.take G) n=false) (λG=>S.length-G) 0 ⟨bu _,rfl⟩ a8 az ?_;rintro G ⟨ay,K⟩;refine aJ ?_;iterate 7 refine ad ?_
 refine af ?_;refine cp p (λar=> ?_) (λar=> ?_)
 ·obtain⟨Z,ae,rfl,av⟩:=au.at_ C;have Y:S[G]?=some S[G]:=cb C;have ax:=av _ _ Y;have aw:S.take (G+1)=S.take G++[S[G]]:=gu C;have ap:=Jh Y K;generalize S[G]=O at*
  have aC:aR J ⟨Z,ae+G*3+0,none⟩ (j O.id):=(show aB J Z (ae+G*3) 3 [j O.id,j O.x,j O.y]from ax).at_ (i:=0) p;refine aJ ?_;iterate 10 refine ad ?_
  refine af ?_;refine cp p (λU=> ?_) (λU=> ?_)
  ·refine aF ?_;refine cv ?_;iterate 2 refine ad ?_
   refine af ?_;refine aj p (.tmp p .nil) az ⟨by rw[ap U];rfl,rfl⟩
  ·refine aF ?_;refine cv ?_;iterate 3 refine ad ?_
   refine af ?_;exact bM (G+1) ⟨C,by rw[aw,Lh,K];simp[dx,U]⟩ C a8 az
 ·have ao:G=S.length:=C;subst ao;rw[k0]at K;refine aJ ?_;refine ad ?_;refine af ?_;refine aj p (.tmp p .nil) az ⟨by unfold nh;rw[K];rfl,rfl⟩
end
@[reducible] def iN (C:bA) (n E:Nat) (D:bA) (I G:Nat):List Value:=[.slice C n E,.slice D I G,j 30]
def FO(b:Nat)(j S:List I)(y:(Option Addr×Nat)×(Option Addr×Nat)):List aO:=[ae b 41 (iN y.1.1 j.length y.1.2 y.2.1 S.length y.2.2),own 43 3 y.1.1 j.length y.1.2 (flat j),own 45 3 y.2.1 S.length y.2.2 (flat S)]
def fp(b:Nat)(j S:List I):aO:=λh=>∃y,G (FO b j S y) h
structure Cx (j S:List I) (y:(Option Addr×Nat)×(Option Addr×Nat)):Prop where
 a:0<j.length->∃b,y.1.1=(ak b)
 na:0<S.length->∃b,y.2.1=(ak b)
 c:j.length<=y.1.2
 y3:S.length<=y.2.2
 m:y.1.2<=maxLen
 Ar:y.2.2<=maxLen
 d:(y.1.1=none/\j.length=0/\y.1.2=0)\/∃b,y.1.1=(ak b)
 zi:(y.2.1=none/\S.length=0/\y.2.2=0)\/∃b,y.2.1=(ak b)
def YC{b D S h}(q:fp b D S h):∃y,Cx D S y/\G (FO b D S y) h:=by
 obtain⟨y,q⟩:=q;have j:=own.facts q.tail;have C:=own.facts q.tail.tail;refine⟨y,⟨λE=> ?_,λE=> ?_,j.2.1,C.2.1,j.2.2.1,C.2.2.1,j.2.2.2,C.2.2.2⟩,q⟩
 ·rcases j.2.2.2 with ⟨_,e,_⟩|e
  ·omega
  ·exact e
 ·rcases C.2.2.2 with ⟨_,e,_⟩|e
  ·omega
  ·exact e
def D.jY{K O args J b j S post}
  (W:∀C G E I,Cx j S ((C,G),(E,I))->D K O args (ae b 41 (iN C j.length G E S.length I)::own 43 3 C j.length G (flat j)::own 45 3 E S.length I (flat S)::J) post):D K O args (fp b j S::J) post:=
 D.open (J:=λy=>FO b j S y) (E:=λy=>Cx j S y) (λ_ h=>YC h) λy Q=>W y.1.1 y.1.2 y.2.1 y.2.2 Q
def px{b n J D S j C E I O Q K M}(R:D.length=n)(U:S.length=J)(W:flat D=O)(Y:flat S=Q)(f:∀h,G K h->G (ae b 41 (iN j n E C J I)::own 43 3 j n E O::own 45 3 C J I Q::M) h):∀h,G K h->G (fp b D S::M) h:=λh s=>by
 subst R U W Y;exact G.fold (N:=[_,_,_]) (λh q=>⟨((j,E),(C,I)),q⟩) (f h s)
section
variable{b:Nat}{A vE:bA}{y4 dt:Nat}{P S:List I}{L:aG}(h:aB L b 0 3 (iN A P.length y4 vE S.length dt))(Ui:Rd L A P.length P)(Uj:Rd L vE S.length S)(DU:P.length+S.length<=1000)
include h Ui Uj DU
attribute [local simp] be.jN be.iq be.id
theorem u7(J):D E 11 #[R b,J.v] L λv U=>v=j (cA P S 30 J)/\U=L:=by
 have W:=Yc J;have ae:=λn M h K=>Oh b A vE y4 dt P S n M h K C;have ak:=λn M h K=>Oi b A vE y4 dt P S n M h K C;have ao:aR L ⟨b,0+0,none⟩ (.slice A P.length y4):=h.at_ (i:=0) p;have ap:aR L ⟨b,0+1,none⟩ (.slice vE S.length dt):=h.at_ (i:=1) p;have ar:aR L ⟨b,0+2,none⟩ (j 30):=h.at_ (i:=2) p;have al:=Jg P J.ag.id;have am:=Jg S J.s.id;obtain⟨G,Z,s⟩:=J;have Q:G=1\/G=2\/G=3\/G=4\/(¬(1<=G/\G<=4)):=C;unfold cA;rcases Q with rfl|rfl|rfl|rfl|Q
 ·generalize be.hT _=O at*
  (refine bH ?_;exact m8)
 ·generalize be.hT _=O at*
  (refine bH ?_;exact m8)
 ·generalize be.hT _=O at*
  (refine bH ?_;exact m8)
 ·generalize be.hT _=O at*
  (refine bH ?_;exact m8)
 ·have Y:be.hT ⟨G,Z,s⟩=1:=by
   unfold be.hT be.known;rw[if_pos (.inl (by simp;omega))]
  rw[Y]at W ⊢
  (refine bH ?_;exact m8)
end
end
end Go.Proofs.YtioamnghkmcbbaaGreat
