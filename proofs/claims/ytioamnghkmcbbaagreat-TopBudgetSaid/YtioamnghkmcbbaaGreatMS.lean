/- TopBudget: a part of its proof. -/
import Derived.Test.YtioamnghkmcbbaaGreatMA3
set_option linter.all false
set_option maxRecDepth 100000
set_option maxHeartbeats 4000000
open List renaming append_nil->dA,getElem?_eq_getElem->cb,getElem?_eq_none->ma,getElem_mem->hp,length_append->bP,length_filter_le->hY
open Nat renaming le_refl->bv,le_trans->h0,lt_irrefl->dc,lt_or_ge->eC,mul_one->vD,zero_le->bu
open Go.RowKit
namespace Go.Proofs.YtioamnghkmcbbaaGreat
noncomputable section
namespace S
attribute [local irreducible] G bf cc
abbrev kT:Nat:=45
def pO(C q:I)(G):D E 244 #[.agg #[j C.id,j C.x,j C.y],.agg #[j q.id,j q.x,j q.y]] G λv J=>v=.bool (C.less q)/\J=G:=by
 refine bH λg F=> ?_;refine bZ ?_;refine aJ ?_;refine aU λO=> ?_;refine aU λQ=> ?_;refine ad ?_;refine aL ?_;refine bZ ?_;refine bZ ?_;refine K ?_;refine aL ?_;refine cp p (λaa=> ?_) (λaa=> ?_)
 ·refine bZ ?_;refine bI ?_;exact⟨by simp[bG,I.less,aa],rfl⟩
 ·refine fi ?_;refine bZ ?_;refine bZ ?_;refine K ?_;refine aL ?_;refine cp p (λab=> ?_) (λab=> ?_)
  ·refine bZ ?_;refine bI ?_;exact⟨by simp[bG,I.less,aa,ab],rfl⟩
  ·refine fi ?_;refine bZ ?_;refine bI ?_;exact⟨by simp[bG,I.less,aa,ab],rfl⟩
def lI(C n O)(l:List I)(j)(G:Rd j C n l)(ae:n<=1000000):
  D E 463 #[.slice C n O] j λv J=>Made 45 l j v J:=O1
def n3(am n U ag J l)(R:I)(W)(aa:l.length=n)(a8:n<=1000000)(ar:J<=n):
  D E 462 #[.slice am n U,j (J:Nat),.slice (ak ag) 1 1] (own 45 3 am n U (flat l)::ae ag 45 [j R.id,j R.x,j R.y]::W) λv Z=>Made 45 (l.take J++[R]++l.drop J) W v Z:=O2
def yh(b n J G)(l:List I)(R)(aa:l.length=n)(ao:n<=1000000)(am:G<n):
  D E 469 #[.slice (ak b) n J,j (G:Nat),j (G+1:Nat)] (own 45 3 (ak b) n J (flat l)::R) λv U=>Made 45 (l.take G++l.drop (G+1)) R v U:=O3
def Ci(I G)(ae:I<=1000000):
  D E 488 #[.slice none 0 0,j (I:Nat)] G λv R=>∃J O,v=.slice J 0 O/\R=own 45 3 J 0 O []::G:=O4
def p5(ae:FuncId)[b4 E ae](ak al:cs)(ax:I->Bool)(Y:bA)(n ag Q:Nat)(l:List I)(R:aG)(ar:Rd R Y n l)(aY:n<=1000000)(aO:Q<=n)(aQ:∀(aw:Nat)(W:I),l[aw]?=some W->(ax W=true<->Q<=aw))
  (aK:∀W:I,D E ae (ak++[W.v]++al).toArray R λv Z=>v=.bool (ax W)/\Z=R):
  D E 544 #[.slice Y n ag,.func (.func ae) ak.toArray al.toArray] R λv Z=>v=j (Q:Nat)/\Z=R:=by
 have aa:=ar.len bs;refine ap λg F=> ?_;refine af ?_;refine cJ (λJ=>[(0,.slice Y n ag),(1,.func _ _ _),(5,.int _ (J.1:Nat)),(6,j (J.2:Nat))]) (λ_=>F::R) (λJ=>J.1<=Q/\Q<=J.2/\J.2<=n) (λJ=>J.2-J.1) (0,n) ⟨bu _,aO,bv _⟩ a8 az ?_;rintro⟨G,O⟩ ⟨aC,aE,aH⟩;refine K ?_;refine af ?_;refine cp p (λaI=> ?_) (λaI=> ?_)
 ·obtain⟨aW,aZ,rfl,aV⟩:=ar.at_ C;have aP:G+(O-G)/2<O:=C;have am:l[G+(O-G)/2]?=some l[G+(O-G)/2]:=cb C;have ay:=aV _ _ am;have av:=aQ _ _ am;generalize l[G+(O-G)/2]=aS at*
  refine K ?_
  (first|refine aD (kH (q:=2) p p ah ah) ?_|refine aD (hQ p p ah ah ah) ?_)
  iterate 2 refine ad ?_
  refine aL ?_;obtain⟨U,au⟩:∃U,G+(O-G)/2=U:=⟨_,rfl⟩;have aX:G<=U:=C;rw[au]at aP ay av;rw[au];have a0:=ay;refine K ?_;refine GE (eV p p (D.frame [F] (aK aS) bo)) ?_;rintro _ _ ⟨_,⟨rfl,rfl⟩,rfl⟩;refine af ?_;refine d3 p (λao=> ?_) (λao=> ?_)
  ·have:=av.1 ao;refine K ?_;refine af ?_;exact bM (G,U) ⟨aC,this,C⟩ C a8 az
  ·have: ¬Q<=U:=λh=>by simp_all
   refine K ?_;refine af ?_;exact bM (U+1,O) ⟨C,aE,aH⟩ C a8 az
 ·have aA:G=Q:=C;subst aA;exact dq
def v9(G v:I)(J K C)(W:aB C J 0 3 [j v.id,j v.x,j v.y])(Y:aR C ⟨K,0,none⟩ (.func (.func 244) #[] #[])):
  D E 545 #[G.v,R K,R J] C λQ O=>Q=.bool (v.less G)/\O=C:=by
 refine ap λg F=> ?_;refine aS λU=> ?_;refine GE (eV p p (pO v G _)) ?_;rintro _ _ ⟨rfl,rfl⟩;exact dq
def po(G n J l v I)(U:Rd I G n l)(W:n<=1000000)(Y:dw l):
  D E 464 #[.slice G n J,v.v,.func (.func 244) #[] #[]] I λZ K=>Z=j (gZ v l:Nat)/\K=I:=by
 have aa:=U.len bs;have ae:=AP v l;refine ap λg F=> ?_;refine aU λQ=> ?_;refine aS λR=> ?_;refine a9 (p5 _ [] _ _ G n J _ l _ cr W C (Fw v l Y) (λO=>v9 O v Q R _ bS dX)) ?_;refine af ?_;refine aj p (.tmp p .nil) az ⟨rfl,rfl⟩
def yD(j n G l v O)(ae:Rd O j n l)(am:n<=100000)(Y:dw l):
  D E 390 #[.slice j n G,v.v,.func (.func 244) #[] #[]] O λak Z=>Made 45 (dW v l) O ak Z:=by
 have aa:=ae.len bs;have U:=AP v l;rw[NQ];refine ap λg F=> ?_;refine aS λal=> ?_;refine aL ?_;refine aW (aE [0,2,3,4,6] (.hc 1 (.hc 5 (.e 7 (.e 8 (.q 9 .nil))) 7 (.e 5 (.e 8 (.q 9 .nil)))) 7 (.e 1 (.e 5 (.e 8 (.q 9 .nil)))))) ?_;iterate 5 refine ai ?_
 refine h1 ?x663_0 ?x663_1
 case' x663_1=>
  refine a1 p p p (e8 aZ p p) ?_;rintro _ _ ⟨I,rfl,rfl⟩;refine bg ?_;refine an (a1 p p p (aw p (lI j n G l _ cr C)) ?_);rintro _ _ ⟨K,R,rfl,ag,rfl⟩;refine bg ?_;refine an (a1 p p p (aw p (po j n G l v _ cr C Y)) ?_);rintro _ _ ⟨rfl,rfl⟩;refine bg ?_;refine an (a1 p p p (aw p (D.pick aI (D.pre (bR (.skip .here) bo) (n3 K _ R I (gZ v l) l v _ p C U)))) ?_);rintro _ _ ⟨J,Q,rfl,W,rfl⟩;refine bg ?_;refine ai ?_;refine dl ?_
 case' x663_0=>
  refine a1 p p p (aw p (lI j n G l _ cr C)) ?_;rintro _ _ ⟨K,R,rfl,ag,rfl⟩;refine bg ?_;refine h1 ?x664_0 ?x664_1
  case' x664_1=>
   refine a1 p p p (e8 aZ p p) ?_;rintro _ _ ⟨I,rfl,rfl⟩;refine bg ?_;refine an (a1 p p p (aw p (po j n G l v _ cr C Y)) ?_);rintro _ _ ⟨rfl,rfl⟩;refine bg ?_;refine an (a1 p p p (aw p (D.pick aI (D.pre (bR (.skip .here) bo) (n3 K _ R I (gZ v l) l v _ p C U)))) ?_);rintro _ _ ⟨J,Q,rfl,W,rfl⟩;refine bg ?_;refine ai ?_;refine dl ?_
  case' x664_0=>
   refine a1 p p p (aw p (po j n G l v _ cr C Y)) ?_;rintro _ _ ⟨rfl,rfl⟩;refine bg ?_;refine an (a1 p p p (e8 aZ p p) ?_);rintro _ _ ⟨I,rfl,rfl⟩;refine bg ?_;refine an (a1 p p p (aw p (D.pick aI (D.pre (bR (.skip .here) bo) (n3 K _ R I (gZ v l) l v _ p C U)))) ?_);rintro _ _ ⟨J,Q,rfl,W,rfl⟩;refine bg ?_;refine ai ?_;refine dl ?_
 all_goals
  refine aF ?_;exact aj (C:=own 45 3 J (l.take (gZ v l)++[v]++l.drop (gZ v l)).length Q (flat (l.take (gZ v l)++[v]++l.drop (gZ v l)))::O) p (.tmp p .nil) aq ⟨J,Q,rfl,W,rfl⟩
abbrev nU:Nat:=45
structure k6 (J:FuncId) (K:I->I->Bool):Prop where
 mt:∀(C q:I) (j:aG),D E J #[C.v,q.v] j λv G=>v=.bool (K C q)/\G=j
def ll{b n G i E l}{x:I}(J:l.length=n)(h:l[i]?=some x)(D):aB (own E 3 (ak b) n G (flat l)::D) b (0+i*3) 3 [j x.id,j x.x,j x.y]:=OW
def Jy{A R}{x p:I}{k}(j:k=A.length+1):((A++p::x::R).set k p).set (k-1) x=A++x::p::R/\(A++p::x::R)[k]?=some x/\(A++p::x::R)[k-1]?=some p:=by
 subst j;refine⟨?_,?_,?_⟩
 ·simp[List.set_append]
 ·simp[List.getElem?_append]
 ·simp
theorem F4(l D)(C:I)(E:D<l.length):ej (flat l) (0+D*3) [j C.id,j C.x,j C.y]=flat (l.set D C):=by rw[Nat.zero_add];exact KW l D C E
section
variable{f:FuncId}[b4 E f]{Y:I->I->Bool}(o:ev Y)(ew:k6 f Y)
include o ew
theorem CZ(ao:bA)(n ax:Nat)(l:List I)(ag:aG)(aY:Rd ag ao n l)(a0:n<=1000000):
  D E 489 #[.slice ao n ax,.func (.func f) #[] #[]] ag λv aK=>Made 45 (a7 Y l) ag v aK:=OX
theorem ET(al am:bA)(n ae ao ar:Nat)(l q:List I)(R:aG)(a5:Rd R al n l)(a8:Rd R am ae q)(bN:n<=1000000)(bJ:ae<=1000000)(bC:n<=ao)(bI:ae<=ar)(bi:fG Y l)(bj:fG Y q):
  D E 490 #[.slice al n ao,.slice am ae ar,.func (.func f) #[] #[]] R λv aX=>Made 45 (a7 Y (l++q)) R v aX:=OY
theorem Pa:∀(O:Nat)(J:bA)(n G:Nat)(l:List I)(j:aG)(_:n<=O)(_:Rd j J n l)(_:n<=1000000)(_:n<=G),
  D E 416 #[.slice J n G,.func (.func f) #[] #[]] j λv ae=>Made 45 (a7 Y l) j v ae:=OZ
theorem rQ(C:bA)(n G:Nat)(l:List I)(j:aG)(Z:Rd j C n l)(O:n<=1000000)(K:n<=G):
  D E 326 #[.slice C n G,.func (.func f) #[] #[]] j λv J=>Made 45 (a7 Y l) j v J:=O0
end
section
variable{f:FuncId}[b4 E f]{Y:I->I->Bool}(ew:k6 f Y)
include ew
theorem T0(G v:I)(J K:Nat)(C:aG)(W:aB C J 0 3 [j v.id,j v.x,j v.y])(Z:aR C ⟨K,0,none⟩ (.func (.func f) #[] #[])):
  D E 560 #[G.v,R K,R J] C λQ O=>Q=.bool (!Y G v)/\O=C:=by
 refine ap λg F=> ?_;refine aS λU=> ?_;refine GE (eV p p (ew.mt G v _)) ?_;rintro _ _ ⟨rfl,rfl⟩;refine aD (cL p) ?_;exact dq
theorem KN(J:bA)(n O G:Nat)(l:List I)(v:I)(K:aG)(al:Rd K J n l)(ae:n<=1000000)(Z:G<=n)(ag:∀(Q:Nat)(C:I),l[Q]?=some C->((!Y C v)=true<->G<=Q)):
  D E 492 #[.slice J n O,v.v,.func (.func f) #[] #[]] K λak R=>ak=j (G:Nat)/\R=K:=by
 refine ap λg F=> ?_;refine aU λU=> ?_;refine aS λW=> ?_;refine a9 (p5 _ [] _ _ J n O G l _ cr ae Z ag (λC=>T0 ew C v U W _ bS dX)) ?_;refine af ?_;refine aj p (.tmp p .nil) az ⟨rfl,rfl⟩
theorem Io(G:bA)(n O C:Nat)(l:List I)(v:I)(J:aG)(ak:Rd J G n l)(W:n<=1000000)(U:C<=n)(Z:∀(Q:Nat)(K:I),l[Q]?=some K->((!Y K v)=true<->C<=Q)):
  D E 742 #[.slice G n O,v.v,.func (.func f) #[] #[]] J λae R=>ae=j (C:Nat)/\R=J:=by
 refine ap λg F=> ?_;refine aS λag=> ?_;refine a9 (KN ew G n O C l v _ cr W U Z) ?_;refine af ?_;refine aj p (.tmp p .nil) az ⟨rfl,rfl⟩
theorem R8(G v:I)(J K:Nat)(C:aG)(W:aB C J 0 3 [j v.id,j v.x,j v.y])(Z:aR C ⟨K,0,none⟩ (.func (.func f) #[] #[])):
  D E 545 #[G.v,R K,R J] C λQ O=>Q=.bool (Y v G)/\O=C:=by
 refine ap λg F=> ?_;refine aS λU=> ?_;refine GE (eV p p (ew.mt v G _)) ?_;rintro _ _ ⟨rfl,rfl⟩;exact dq
theorem y0(J:bA)(n O G:Nat)(l:List I)(v:I)(K:aG)(al:Rd K J n l)(ae:n<=1000000)(Z:G<=n)(ag:∀(Q:Nat)(C:I),l[Q]?=some C->(Y v C=true<->G<=Q)):
  D E 464 #[.slice J n O,v.v,.func (.func f) #[] #[]] K λak R=>ak=j (G:Nat)/\R=K:=by
 refine ap λg F=> ?_;refine aU λU=> ?_;refine aS λW=> ?_;refine a9 (p5 _ [] _ _ J n O G l _ cr ae Z ag (λC=>R8 ew C v U W _ bS dX)) ?_;refine af ?_;refine aj p (.tmp p .nil) az ⟨rfl,rfl⟩
theorem P4(G:bA)(n O C:Nat)(l:List I)(v:I)(J:aG)(ak:Rd J G n l)(W:n<=1000000)(U:C<=n)(Z:∀(Q:Nat)(K:I),l[Q]?=some K->(Y v K=true<->C<=Q)):
  D E 583 #[.slice G n O,v.v,.func (.func f) #[] #[]] J λae R=>ae=j (C:Nat)/\R=J:=by
 refine ap λg F=> ?_;refine aS λag=> ?_;refine a9 (y0 ew G n O C l v _ cr W U Z) ?_;refine af ?_;refine aj p (.tmp p .nil) az ⟨rfl,rfl⟩
theorem Lj(o:ev Y)(G:bA)(n Q:Nat)(l:List I)(v:I)(J:aG)(U:Rd J G n l)(ae:n<=1000000)(O:dg Y l):
  D E 418 #[.slice G n Q,v.v,.func (.func f) #[] #[]] J λak W=>ak=.tuple #[j (hU Y v l:Nat),.bool (decide (v∈l))]/\W=J:=by
 have aa:=U.len bs;have aw:=Wa (Y:=Y) v l;refine ap λg F=> ?_;refine aS λau=> ?_;refine a9 (KN ew G n Q (hU Y v l) l v _ cr ae C (λag Z h=>mA _ l (O.lU o v) ag Z h)) ?_;refine aL ?_
 by_cases av:hU Y v l<n
 ·obtain⟨ar,ax,rfl,am⟩:=U.at_ C;have R:l[hU Y v l]?=some l[hU Y v l]:=cb C;have K:=Mk o O v _ R;have ao:=am _ _ R;generalize l[hU Y v l]=al at*
  have ay:=ao;rw[<- K];refine aW (aE [0,1,2,3,4,5,6,7,8,9,10,11] (.e 12 (aE [13,14,15,16] .nil))) ?_;iterate 6 refine ai ?_
  refine dB 18 p (decide_eq_true C) ?_;iterate 6 refine ai ?_
  refine an (f9 p p p ⟨_,rfl,rfl⟩ p (eV p p (ew.mt v al _)) ?_);rintro _ _ ⟨rfl,rfl⟩;refine cM ?_;refine b0 aT p p p p ⟨_,rfl,rfl⟩ p (cL p) ?_;exact dq
 ·have K:=Ml o O v C;rw[decide_eq_false K];refine aW (aE [0,1,2,3,4,5,6,7,8,9,10,11] (.e 12 (aE [13,14,15,16] .nil))) ?_;iterate 6 refine ai ?_
  refine dB 18 p (decide_eq_false C) ?_;iterate 6 refine ai ?_
  refine an (gy p p p ⟨_,rfl,rfl⟩ p ?_);refine bI ?_;exact⟨by simp[bG],rfl⟩
theorem Qt(o:ev Y)(j:bA)(n G:Nat)(l:List I)(v:I)(C:aG)(U:Rd C j n l)(O:n<=1000000)(K:dg Y l):
  D E 333 #[.slice j n G,v.v,.func (.func f) #[] #[]] C λQ J=>Q=.bool (decide (v∈l))/\J=C:=by
 refine ap λg F=> ?_;refine aS λR=> ?_;refine a9 (Lj ew o j n G l v _ cr O K) ?_;refine af ?_;refine aj p (.tmp p .nil) az ⟨rfl,rfl⟩
theorem IJ(o:ev Y)(j:bA)(n G:Nat)(l:List I)(v:I)(Q:aG)(ak:Rd Q j n l)(ar:n<=100000)(W:dg Y l):
  D E 390 #[.slice j n G,v.v,.func (.func f) #[] #[]] Q λam ag=>Made 45 (eR Y v l) Q am ag:=by
 have aa:=ak.len bs;have Z:=XX (Y:=Y) v l;rw[XY];refine ap λg F=> ?_;refine aS λao=> ?_;refine aL ?_;refine aW (aE [0,2,3,4,6] (.hc 1 (.hc 5 (.e 7 (.e 8 (.q 9 .nil))) 7 (.e 5 (.e 8 (.q 9 .nil)))) 7 (.e 1 (.e 5 (.e 8 (.q 9 .nil)))))) ?_;iterate 5 refine ai ?_
 refine h1 ?x665_0 ?x665_1
 case' x665_1=>
  refine a1 p p p (e8 aZ p p) ?_;rintro _ _ ⟨J,rfl,rfl⟩;refine bg ?_;refine an (a1 p p p (aw p (lI j n G l _ cr C)) ?_);rintro _ _ ⟨O,U,rfl,al,rfl⟩;refine bg ?_;refine an (a1 p p p (aw p (y0 ew j n G (iL Y v l) l v _ cr C C (AO o v l W))) ?_);rintro _ _ ⟨rfl,rfl⟩;refine bg ?_;refine an (a1 p p p (aw p (D.pick aI (D.pre (bR (.skip .here) bo) (n3 O _ U J (iL Y v l) l v _ p C Z)))) ?_);rintro _ _ ⟨K,R,rfl,ae,rfl⟩;refine bg ?_;refine ai ?_;refine dl ?_
 case' x665_0=>
  refine a1 p p p (aw p (lI j n G l _ cr C)) ?_;rintro _ _ ⟨O,U,rfl,al,rfl⟩;refine bg ?_;refine h1 ?x666_0 ?x666_1
  case' x666_1=>
   refine a1 p p p (e8 aZ p p) ?_;rintro _ _ ⟨J,rfl,rfl⟩;refine bg ?_;refine an (a1 p p p (aw p (y0 ew j n G (iL Y v l) l v _ cr C C (AO o v l W))) ?_);rintro _ _ ⟨rfl,rfl⟩;refine bg ?_;refine an (a1 p p p (aw p (D.pick aI (D.pre (bR (.skip .here) bo) (n3 O _ U J (iL Y v l) l v _ p C Z)))) ?_);rintro _ _ ⟨K,R,rfl,ae,rfl⟩;refine bg ?_;refine ai ?_;refine dl ?_
  case' x666_0=>
   refine a1 p p p (aw p (y0 ew j n G (iL Y v l) l v _ cr C C (AO o v l W))) ?_;rintro _ _ ⟨rfl,rfl⟩;refine bg ?_;refine an (a1 p p p (e8 aZ p p) ?_);rintro _ _ ⟨J,rfl,rfl⟩;refine bg ?_;refine an (a1 p p p (aw p (D.pick aI (D.pre (bR (.skip .here) bo) (n3 O _ U J (iL Y v l) l v _ p C Z)))) ?_);rintro _ _ ⟨K,R,rfl,ae,rfl⟩;refine bg ?_;refine ai ?_;refine dl ?_
 all_goals
  refine aF ?_;exact aj (C:=own 45 3 K (l.take (iL Y v l)++[v]++l.drop (iL Y v l)).length R (flat (l.take (iL Y v l)++[v]++l.drop (iL Y v l)))::Q) p (.tmp p .nil) aq ⟨K,R,rfl,ae,rfl⟩
theorem Im(o:ev Y)(j:bA)(n O:Nat)(l:List I)(v:I)(G:aG)(am:Rd G j n l)(aC:n<=100000)(W:dg Y l)(av:v∈l):
  D E 394 #[.slice j n O,v.v,.func (.func f) #[] #[]] G λax Z=>∃J R,ax=.tuple #[.slice J (l.erase v).length R,.bool true]/\(0< (l.erase v).length->∃b,J=(ak b))/\Z=own 45 3 J (l.erase v).length R (flat (l.erase v))::G:=by
 have aa:=am.len bs;obtain⟨ao,al⟩:=V9 o W v av;refine ap λg F=> ?_;refine aS λaA=> ?_;refine bw p (Lj ew o j n O l v _ cr C W) ?_;iterate 5 refine ad ?_
 refine bD ?_;refine ad ?_;refine aD (cL p) ?_;refine af ?_;refine b2 p (by simp_all) ?_;rw[<- al];refine K ?_;refine GE (aw p (lI j n O l _ cr C)) ?_;rintro _ _ ⟨ay,ag,rfl,au,rfl⟩;iterate 3 refine ad ?_
 obtain⟨ae,rfl⟩:=au C;refine tA p p (aw p (D.pick aI (yh ae _ ag (hU Y v l) l _ p C ao))) ?_;rintro _ _ ⟨Q,U,rfl,ar,rfl⟩;iterate 2 refine ad ?_
 refine af ?_;exact aj (C:=own 45 3 Q (l.take (hU Y v l)++l.drop (hU Y v l+1)).length U (flat (l.take (hU Y v l)++l.drop (hU Y v l+1)))::G) p (.tmp p (.tmp p .nil)) aq ⟨Q,U,rfl,ar,rfl⟩
end
abbrev aaw:Nat:=59
def C9(G b C):D E 101 #[j G,j b] C λv I=>v=.bool (cG G b)/\I=C:=ub G b C
def ZF{l:List Int}{j C}(h:l[j]?=some C):l.take (j+1)=l.take j++[C]:=by simp_all[List.take_add_one]
def EI(v j l):dk cG v (l++[j])=dk cG v l++if cG j v=true then[j]else[]:=by unfold dk;grind
def Et(v j)(l:List Int):dy v (l++[j])=dy v l++if j=v then[j]else[]:=by unfold dy;grind
def DT(v j l):d2 cG v (l++[j])=d2 cG v l++if cG v j=true then[j]else[]:=by unfold d2;grind
structure o6 where
 iR:Option Addr
 dt:Nat
 kx:Option Addr
 d5:Nat
 iS:Option Addr
 iZ:Nat
structure o6.Ok (s:o6) (j C D:Nat):Prop where
 aa:0<j->∃b,s.iR=(ak b)
 ab:0<C->∃b,s.kx=(ak b)
 sk:0<D->∃b,s.iS=(ak b)
 sr:j<=s.dt
 uK:C<=s.d5
 ss:D<=s.iZ
def NB(ae n ak l v Y)(am:Rd Y ae n l)(bb:n<=1000000):
  D E 613 #[.slice ae n ak,j v,.func (.func 101) #[] #[]] Y λaY av=>∃s:o6,aY=.tuple #[.slice s.iR (dk cG v l).length s.dt,.slice s.kx (dy v l).length s.d5,.slice s.iS (d2 cG v l).length s.iZ]/\s.Ok (dk cG v l).length (dy v l).length (d2 cG v l).length/\
   av=own 3 1 s.iR (dk cG v l).length s.dt (flat (dk cG v l))::own 3 1 s.kx (dy v l).length s.d5 (flat (dy v l))::own 3 1 s.iS (d2 cG v l).length s.iZ (flat (d2 cG v l))::Y:=by
 have aa:l.length=n:=am.len bs;refine ap λg F=> ?_;refine af ?_;refine b5 (own.nil_ 3 1) ?_;refine b5 (own.nil_ 3 1) ?_;refine b5 (own.nil_ 3 1) ?_;refine cJ (ι:=Nat×o6) (λG=>[(1,j v),(2,.func (.func 101) #[] #[]),(6,.slice G.2.iR (dk cG v (l.take G.1)).length G.2.dt),(7,.slice G.2.kx (dy v (l.take G.1)).length G.2.d5),(8,.slice G.2.iS (d2 cG v (l.take G.1)).length G.2.iZ),(11,.slice ae n ak),(12,j (n:Nat)),(13,j (G.1:Nat))])
  (λG=>own 3 1 G.2.iR (dk cG v (l.take G.1)).length G.2.dt (flat (dk cG v (l.take G.1)))::own 3 1 G.2.kx (dy v (l.take G.1)).length G.2.d5 (flat (dy v (l.take G.1)))::own 3 1 G.2.iS (d2 cG v (l.take G.1)).length G.2.iZ (flat (d2 cG v (l.take G.1)))::F::Y)
  (λG=>G.1<=n/\G.2.Ok (dk cG v (l.take G.1)).length (dy v (l.take G.1)).length (d2 cG v (l.take G.1)).length) (λG=>n-G.1) (0,⟨none,0,none,0,none,0⟩) ⟨bu _,⟨λh=>absurd h (dc 0),λh=>absurd h (dc 0),λh=>absurd h (dc 0),bv _,bv _,bv _⟩⟩ a8 az ?_
 rintro⟨O,s⟩ ⟨aK,I⟩;simp only at aK I;dsimp only;have a1:(dk cG v (l.take O)).length<=1000000:=h0 (hY _ _) (by grind);have a3:(dy v (l.take O)).length<=1000000:=h0 (hY _ _) (by grind);have a5:(d2 cG v (l.take O)).length<=1000000:=h0 (hY _ _) (by grind);refine K ?_;refine af ?_;refine cp p (λaH=> ?_) (λaH=> ?_)
 ·obtain⟨aw,ax,rfl,ay⟩:=am.at_ C;have al:l[O]?=some l[O]:=cb C;have a0:=(ay _ _ al).at_ (i:=0) p;have aX:=ZF al;generalize l[O]=J at*
  have bc:aR Y ⟨aw,ax+O*1,none⟩ (j J):=a0;have R:=EI v J (l.take O);have U:=Et v J (l.take O);have W:=DT v J (l.take O);rw[<- aX]at R U W;refine K ?_;refine GE (eV p p (C9 J v _)) ?_;rintro _ _ ⟨rfl,rfl⟩;refine ad ?_;refine aL ?_;rcases Int.lt_trichotomy J v with q|q|q
  ·have Z:cG J v=true:=by simp[cG,q]
   have ag:cG v J=false:=by simp[cG];omega
   rw[Z,if_pos p]at R;rw[if_neg C,dA]at U;rw[ag,if_neg Q,dA]at W;refine K ?_;refine aU λa4=> ?_;refine GE (bx p p aI cn (cS p) aZ Q ah ah) ?_;rintro _ _ ⟨ar,aC,rfl,aP,a9,aV,rfl⟩;refine K ?_;refine af ?_;exact bM (O+1,{s with iR:=ar,dt:=aC}) ⟨C,by
    simp only;rw[R,U,W,bP];exact⟨λ_=>aV Q,I.ab,I.sk,aP,I.uK,I.ss⟩⟩ C ⟨rfl,rfl,by simp only;rw[R,bP];rfl,by simp only;rw[U];rfl,by simp only;rw[W];rfl,rfl,rfl,rfl,trivial⟩ (by
    simp only;rw[R,U,W,bP,<- gm];exact aq)
  ·subst q;have Z:cG J J=false:=by simp[cG]
   rw[Z,if_neg Q,dA]at R;rw[if_pos p]at U;rw[Z,if_neg Q,dA]at W;refine K ?_;refine GE (eV p p (C9 J J _)) ?_;rintro _ _ ⟨rfl,rfl⟩;refine K ?_;refine aU λa2=> ?_;refine GE (bx p p aI cn (cS p) aZ Q ah ah) ?_;rintro _ _ ⟨ao,aA,rfl,aO,a7,aS,rfl⟩;refine K ?_;refine af ?_;exact bM (O+1,{s with kx:=ao,d5:=aA}) ⟨C,by
    simp only;rw[R,U,W,bP];exact⟨I.aa,λ_=>aS Q,I.sk,I.sr,aO,I.ss⟩⟩ C ⟨rfl,rfl,by simp only;rw[R];rfl,by simp only;rw[U,bP];rfl,by simp only;rw[W];rfl,rfl,rfl,rfl,trivial⟩ (by
    simp only;rw[R,U,W,bP,<- gm];exact aq)
  ·have Z:cG J v=false:=by simp[cG];omega
   have ag:cG v J=true:=by simp[cG];omega
   rw[Z,if_neg Q,dA]at R;rw[if_neg C,dA]at U;rw[ag,if_pos p]at W;refine K ?_;refine GE (eV p p (C9 v J _)) ?_;rintro _ _ ⟨rfl,rfl⟩;refine K ?_;refine aU λa6=> ?_;refine GE (bx p p aI cn (cS p) aZ Q ah ah) ?_;rintro _ _ ⟨au,aE,rfl,aQ,ba,aW,rfl⟩;refine K ?_;refine af ?_;exact bM (O+1,{s with iS:=au,iZ:=aE}) ⟨C,by
    simp only;rw[R,U,W,bP];exact⟨I.aa,I.ab,λ_=>aW Q,I.sr,I.uK,aQ⟩⟩ C ⟨rfl,rfl,by simp only;rw[R];rfl,by simp only;rw[U];rfl,by simp only;rw[W,bP];rfl,rfl,rfl,rfl,trivial⟩ (by
    simp only;rw[R,U,W,bP,<- gm];exact aq)
 ·have aG:l.take O=l:=List.take_of_length_le C;rw[aG]at I ⊢;refine K ?_;refine af ?_;exact aj (C:=own 3 1 s.iR (dk cG v l).length s.dt (flat (dk cG v l))::own 3 1 s.kx (dy v l).length s.d5 (flat (dy v l))::own 3 1 s.iS (d2 cG v l).length s.iZ (flat (d2 cG v l))::Y) p (.tmp p (.tmp p (.tmp p .nil))) aq ⟨s,rfl,I,rfl⟩
def B2(I n K J):D E 622 #[.slice I n K,j 5] J λv O=>∃C G,v=.func (.func 624) #[] #[R C,R G]/\O=ae C 59 [.slice I n K]::ae G 3 [j 5]::J:=O5
def C8{S:Type}(y W Y b o n ag)(aC:List Int)(U:Nat->S->List aO)(Inv:Nat->S->Prop)(aI:∀G s,Inv G s->Rd (U G s) (some ⟨b,o,none⟩) n aC)(aL:n<=1000000)(aK:n<=ag)
  (aA:∀G s,5*G<n->Inv G s->ic E y [.slice (some ⟨b,o+5*G,none⟩) (min 5 (n-5*G)) (min 5 (n-5*G))] (U G s) λq ak=>q=true/\∃Z,Inv (G+1) Z/\ak=U (G+1) Z) (am) (av:Inv 0 am):
  D E 624 #[Value.func (.yield y) #[] #[],R W,R Y] (ae W 59 [.slice (some ⟨b,o,none⟩) n ag]::ae Y 3 [j 5]::U 0 am) λv ak=>v=.tuple #[]/\∃G Z,n<=5*G/\5*G<n+5/\Inv G Z/\ak=ae W 59 [.slice (some ⟨b,o,none⟩) n ag]::ae Y 3 [j 5]::U G Z:=by
 refine ap λg F=> ?_;refine af ?_;refine cJ (ι:=Nat×S) (λJ=>[(0,Value.func (.yield y) #[] #[]),(1,R W),(2,R Y),(4,j ((5*J.1:Nat):Int))]) (λJ=>F::ae W 59 [.slice (some ⟨b,o,none⟩) n ag]::ae Y 3 [j 5]::U J.1 J.2) (λJ=>5*J.1<n+5/\Inv J.1 J.2) (λJ=>n+5-5*J.1) (0,am) ⟨Q,av⟩ a8 az ?_;rintro⟨G,s⟩ ⟨ao,ar⟩;refine K ?_;refine af ?_;refine cp p (λaH=> ?_) (λaH=> ?_)
 ·have al:=aA G s C ar;obtain⟨I,au⟩:∃I,I=5*G:=⟨_,rfl⟩;obtain⟨O,aw⟩:∃O,O=min 5 (n-I):=⟨_,rfl⟩;have ax:(min (5:Int) ((n-I:Nat):Int))=(O:Int):=C;rw[<- au]at al aH ao ⊢;rw[<- aw]at al;refine aW (aE [0,1,2,3,4,5] (.q 6 .nil)) ?_;iterate 3 refine ai ?_
  refine cV p (ga p p C C) ?_;iterate 3 refine ai ?_
  refine dl ?_;rw[ax];refine K ?_;refine aD (DA (l:=I) (h:=I+O) (j:=I+O) p p p p Q Q C) ?_;rw[show I+O-I=O by simp,if_neg (show ¬I+O=I by omega),vD];refine ym p p p (ic.frame [F,ae W 59 [.slice (some ⟨b,o,none⟩) n ag],ae Y 3 [j 5]] al (λ_ s=>s)) ?_;rintro q ak ⟨aG,⟨rfl,Z,ay,rfl⟩,rfl⟩;refine aD (cL p) ?_;refine K ?_;refine af ?_;exact bM (G+1,Z) ⟨C,ay⟩ C ⟨rfl,rfl,rfl,by rw[au];rfl,trivial⟩ az
 ·refine aF ?_;exact e6 (D:=[]) (j:=[]) (C:=ae W 59 [.slice (some ⟨b,o,none⟩) n ag]::ae Y 3 [j 5]::U G s) p .nil az ⟨rfl,G,s,C,ao,ar,rfl⟩
def IP(C n G l j)(K:Rd j C n l)(O:n<=1000000)(J:n<=G):
  D E 519 #[.slice C n G,.func (.func 101) #[] #[]] j λv I=>Made 3 (a7 cG l) j v I:=by rw[Y6];exact CB C n G l j K O J
def Wt(aQ n au l Y)(ax:Rd Y aQ n l)(ba:0<n)(bl:n<=1000000)(a1:n<=au):
  D E 617 #[.slice aQ n au,.func (.func 101) #[] #[]] Y λbC am=>∃I:List Int,((∀J∈I,J∈l)/\5*I.length<n+5/\n<=5*I.length)/\yB 3 I Y bC am:=by
 have aa:l.length=n:=ax.len bs;obtain⟨b,o,rfl,_⟩:=ax.at_ ba;refine yg (fn:=Tryz.f617) (n:=24) Tryz.func617 p p p ?_;intro g F a3;refine aJ ?_;refine aS λav=> ?_;refine aS λao=> ?_;refine GE (aw p (B2 (some ⟨b,o,none⟩) n au _)) ?_;rintro _ _ ⟨aV,aX,rfl,rfl⟩;refine af ?_;refine b5 (own.nil_ 3 1) ?_;refine Cf (Q:=624) (U:=[]) (W:=[R aV,R aX]) (post:=λbB aC=>bB=none/\∃s:Option Addr×Nat×List Int,((∀J∈s.2.2,J∈l)/\5*s.2.2.length<n+5/\n<=5*s.2.2.length)/\((0<s.2.2.length->∃b,s.1=(ak b))/\s.2.2.length<=s.2.1/\s.2.1<=maxLen)/\aC=own 3 1 s.1 s.2.2.length s.2.1 (flat s.2.2)::ae ao 59 [.slice s.1 s.2.2.length s.2.1]::F::Y) (by rw[<- a3];rfl) p p ?_ ?_ ?_
 ·intro y ap a6 bc;have bp:=C8 (S:=Option Addr×Nat×List Int) y aV aX b o n au l
   (λar s=>bz y (a6 .ready none)::bz ap (.deferred (some []))::own 3 1 s.1 s.2.2.length s.2.1 (flat s.2.2)::ae ao 59 [.slice s.1 s.2.2.length s.2.1]::ae av 189 [.func (.func 101) #[] #[]]::F::Y)
   (λar s=>s.2.2.length=ar/\(∀J∈s.2.2,J∈l)/\(0<s.2.2.length->∃b,s.1=(ak b))/\s.2.2.length<=s.2.1/\s.2.1<=maxLen)
   (λar s _=>ax.skip.skip.skip.skip.skip.skip) bl a1 ?_ (none,0,[]) ⟨rfl,Q,λh=>absurd h (dc 0),bv _,bu _⟩
  ·refine(D.pre aq bp).dR ?_;rintro v am aH ⟨rfl,ar,s,bN,bO,⟨bK,bm,bn⟩,rfl⟩ bL;refine⟨_,⟨.ready,none,_,Q,⟨rfl,s,⟨bm,C,C⟩,bn,rfl⟩,rfl⟩,?_⟩;revert aH;exact aq
  ·rintro ar ⟨al,ag,I⟩ bh ⟨aO,ay,aP,bt,bA⟩;simp only at aO ay aP bt bA;dsimp only;obtain⟨U,bg⟩:∃U,U=5*ar:=⟨_,rfl⟩;obtain⟨G,aH⟩:∃G,G=min 5 (n-U):=⟨_,rfl⟩;rw[<- bg]at bh ⊢;rw[<- aH];have a2:=ax.drop (k:=U) (c:=au) C a1;rw[if_neg C]at a2;have bd:Rd Y (some ⟨b,o+U,none⟩) G ((l.drop U).take G):=by
    have bb:Rd Y (some ⟨b,o+U*1,none⟩) G ((l.drop U).take G):=a2.take (k:=G) C;rwa[vD]at bb
   have be:((l.drop U).take G).length=G:=bd.len bs;have bf:∀J∈(l.drop U).take G,J∈l:=λJ aK=>List.mem_of_mem_drop (List.mem_of_mem_take aK);generalize(l.drop U).take G=Z at*
   refine bc (ι:=Unit) (τ:=λ_=>[(3,R av),(5,R ao),(6,.slice (some ⟨b,o+U,none⟩) G G)]) (M:=λ_=>bz ap (.deferred (some []))::own 3 1 al I.length ag (flat I)::ae ao 59 [.slice al I.length ag]::ae av 189 [.func (.func 101) #[] #[]]::F::Y) (Fy:=λ_=>True) ?_ ?_
   ·intro g a5 _ _;refine K ?_;refine aL ?_;exact yq () trivial a8 az
   ·intro g a5 _ _ _ _;have a4:(a7 cG Z).length=G:=by rw[e0,be]
    have aK:(a7 cG Z)[G/2]?=some (a7 cG Z)[G/2]:=cb C;have bM:(a7 cG Z)[G/2] ∈l:=bf _ ((e1 Z).subset (hp _));generalize(a7 cG Z)[G/2]=J at*
    refine K ?_;refine GE (aw p ((IP (some ⟨b,o+U,none⟩) G G Z _ cr C (bv _)))) ?_;rintro _ _ ⟨W,a9,rfl,a0,rfl⟩;refine ad ?_;refine aL ?_;rw[a4]at a0 ⊢;obtain⟨aY,rfl⟩:=a0 C;have bi:∀am,aR (own 3 1 (ak aY) G a9 (flat (a7 cG Z))::am) ⟨aY,0+(G/2)*1,none⟩ (j J):=λam=>nB a4 aK am;generalize a7 cG Z=bQ at*
    refine aW (aE [0,1,2,3,4,5,6] (.e 7 (.e 8 (.e 9 .nil)))) ?_;refine n7 ir p p p p (d6 p dX) ?_;refine kA ir p p p p (fv p) ?_;refine kA ir p p p p (fv p) ?_;refine n7 ir p p p p (wz p) ?_
    (first|refine kA ir p p p p (kH (q:=2) p p ah ah) ?_|refine kA ir p p p p (hQ p p ah ah ah) ?_)
    (first|refine kA ir p p p p (hx p p ah) ?_|refine kA ir p p p p (ns p p ah ah) ?_)
    refine n7 ir p p p p (d6 p (by repeat' first|exact bi _|apply aR.skip)) ?_;refine hu λbF=> ?_;refine an (dh O p p p (bx p p aI cn (cS p) aZ Q ah ah) ?_);rintro _ _ ⟨aA,aG,rfl,bI,bj,bJ,rfl⟩;refine an (cj O p p p (c5 p p p cd) ?_);rintro _ _ ⟨rfl,rfl⟩;refine aF ?_;exact yp (bz ap (.deferred (some []))::own 3 1 aA (I++[J]).length aG (flat (I++[J]))::ae ao 59 [.slice aA (I++[J]).length aG]::ae av 189 [.func (.func 101) #[] #[]]::F::Y) ⟨rfl,(aA,aG,I++[J]),⟨by simp_all,λbE bq=>(List.mem_append.1 bq).elim (ay bE) (λh=>by simp_all),by simp_all,by simp_all,bj⟩,rfl⟩ (by
     rw[bP,<- gm];exact aq)
 ·rintro ap aC ⟨-,⟨al,ag,I⟩,bk,⟨aO,ay,aP⟩,rfl⟩;refine K ?_;refine af ?_;exact yo [ap] rfl (by rw[<- a3];rfl) p (.tmp p .nil) (M:=own 3 1 al I.length ag (flat I)::ae ao 59 [.slice al I.length ag]::F::Y) (j:=own 3 1 al I.length ag (flat I)::Y) aq aq ⟨I,bk,al,ag,rfl,aO,ay,aP,rfl⟩
 ·rintro ap ag aC ⟨h,_⟩;cases h
def WZ:∀(ae:Nat)(O:bA)(n Q:Nat)(l:List Int)(I:Nat)(v:Int)(R:aG)(_:n<=ae)(_:Rd R O n l)(_:n<=1000000)(_:n<=Q) (_:(a7 cG l)[I]?=some v),
  D E 612 #[.slice O n Q,j (I:Nat),.func (.func 101) #[] #[]] R λbb Y=>bb=j v/\Y=R:=by
 intro ae
 induction ae using Nat.strongRecOn with
 | _ ae a3=>
 intro O n Q l I v R be am bh aQ av;have aa:l.length=n:=am.len bs;refine ap λg F=> ?_;refine aL ?_
 (repeat first|refine bZ ?_|refine fi ?_|refine gk ?_)
 refine hs (ι:=Option Addr×Nat×List Int×Nat×List aO) (λG=>[(0,.slice G.1 G.2.2.1.length G.2.1),(1,j (G.2.2.2.1:Nat)),(2,.func (.func 101) #[] #[])]) (λG=>G.2.2.2.2++F::R) (λG=>Rd (G.2.2.2.2++F::R) G.1 G.2.2.1.length G.2.2.1/\G.2.2.1.length<=G.2.1/\G.2.2.1.length<=n/\(a7 cG G.2.2.1)[G.2.2.2.1]?=some v) ?_ ?_
 ·refine aF ?_;refine cJ (ι:=Option Addr×Nat×List Int×Nat×List aO) (λG=>[(0,.slice G.1 G.2.2.1.length G.2.1),(1,j (G.2.2.2.1:Nat)),(2,.func (.func 101) #[] #[])]) (λG=>G.2.2.2.2++F::R) (λG=>Rd (G.2.2.2.2++F::R) G.1 G.2.2.1.length G.2.2.1/\G.2.2.1.length<=G.2.1/\G.2.2.1.length<=n/\(a7 cG G.2.2.1)[G.2.2.2.1]?=some v) (λG=>G.2.2.1.length) (O,Q,l,I,[]) ⟨by simp only[List.nil_append];rw[aa];exact am.skip,by simp_all,by simp_all,av⟩ ⟨by simp only;rw[aa];rfl,rfl,rfl,trivial⟩ az ?_;rintro⟨O,Q,l,I,aC⟩ ⟨ag,W,al,U⟩;simp only at ag W al U;dsimp only;clear am aQ av aa;have aX:I<l.length:=by
   rcases eC I l.length with h|h
   ·omega
   ·rw[ma (by rw[e0];omega)]at U;trivial
  refine K ?_;refine af ?_;refine cp p (λaH=> ?_) (λaH=> ?_)
  ·refine aF ?_;refine cv ?_;iterate 2 refine ad ?_
   refine GE (aw p (Wt O l.length Q l _ cr C C W)) ?_;rintro _ _ ⟨J,⟨a4,bk,bl⟩,aA,aE,rfl,a1,a2,bj,rfl⟩;refine ad ?_;refine aL ?_;have bg:J.length/2<J.length:=C;have ax:(a7 cG J)[J.length/2]?=some ((a7 cG J)[J.length/2]'(by rw[e0];omega)):=cb _;generalize(a7 cG J)[J.length/2]'(by grind)=G at ax;have aZ:G∈l:=a4 G (w6 ax);have bp:=uX p9 G l;have a6:=Ai aZ;refine K ?_
   (first|refine aD (kH (q:=2) p p ah ah) ?_|refine aD (hQ p p ah ah ah) ?_)
   refine ad ?_;refine a9 (a3 J.length C aA J.length aE J (J.length/2) G _ (bv _) (aM.own (bU _) a1) C a2 ax) ?_;refine GE (aw p (NB O l.length Q l G _ cr C)) ?_;rintro _ _ ⟨s,rfl,Z,rfl⟩;iterate 7 refine ad ?_
   refine aL ?_;have bm:∀h,_:=EZ (j:=I) p9 G l;have a5:∀h bd,_:=MO (j:=I) p9 G l;have bn:∀h,_:=EY (j:=I) p9 G l;have bf:∀aS∈dy G l,aS=G:=λaS a0=>qX a0;generalize dk cG G l=ar at*
   generalize dy G l=ao at*
   generalize d2 cG G l=au at*
   refine K ?_;refine af ?_;refine cp p (λaP=> ?_) (λaP=> ?_)
   ·refine aF ?_;refine cv ?_;iterate 2 refine ad ?_
    refine af ?_;exact bM (s.iR,s.dt,ar,I,[own 3 1 s.iR ar.length s.dt (flat ar)]) ⟨aM.own (bU _) Z.aa,Z.sr,by grind,by simp_all⟩ (by grind) a8 aq
   ·refine aF ?_;refine cv ?_;iterate 8 refine ad ?_
    refine af ?_;refine cp p (λba=> ?_) (λba=> ?_)
    ·obtain⟨ay,aK⟩:=Z.ab a6;have aI:=a5 C C;rw[U]at aI;have aV:ao[0]?=some G:=by
      grind[cb,hp]
     cases aI;obtain⟨bq,bz,bt,bc,bx,bB⟩:=s;simp only at aK;subst aK;dsimp only;have aY:∀Y,aR (own 3 1 (ak ay) ao.length bc (flat ao)::Y) ⟨ay,0+0*1,none⟩ (j v):=λY=>nB p aV Y;refine K ?_;refine aD (d6 p (by repeat' first|exact aY _|apply aR.skip)) ?_;refine ad ?_;refine af ?_;refine aj p (.tmp p .nil) ?_ ⟨rfl,rfl⟩;exact λh q=>r4 bo h q.tail.tail.tail.tail
    ·refine aF ?_;refine cv ?_;iterate 10 refine ad ?_
     refine af ?_;exact bM (s.iS,s.iZ,au,I-ar.length-ao.length,[own 3 1 s.iS au.length s.iZ (flat au)]) ⟨aM.own (bU _) Z.sk,Z.ss,by grind,by simp_all⟩ (by grind) ⟨rfl,by rfl,rfl,trivial⟩ aq
  ·refine aF ?_;exact ex (O,Q,l,I,aC) ⟨ag,W,al,U⟩ a8 az
 ·rintro⟨O,Q,l,I,aC⟩ ⟨ag,W,al,U⟩;simp only at ag W al U;dsimp only;clear am aQ av aa;have aX:I<l.length:=by
   rcases eC I l.length with h|h
   ·omega
   ·rw[ma (by rw[e0];omega)]at U;trivial
  have bi:(a7 cG l).length=l.length:=e0 l;refine K ?_;refine GE (aw p (IP O l.length Q l _ cr C W)) ?_;rintro _ _ ⟨aA,aE,rfl,aW,rfl⟩;refine ad ?_;obtain⟨ay,rfl⟩:=aW C;refine aD (hx p p C) ?_;refine aD (d6 p (nB p U _)) ?_;refine ad ?_;refine af ?_;exact aj p (.tmp p .nil) (λh q=>r4 bo h q.tail) ⟨rfl,rfl⟩
def XK(O n R l G v W)(ar:Rd W O n l)(al:n<=1000000)(ap:n<=R)(J:(a7 cG l)[G]?=some v):
  D E 604 #[.slice O n R,j (G:Nat),.func (.func 101) #[] #[]] W λaC I=>aC=.tuple #[j v,.bool true]/\I=W:=by
 have aa:l.length=n:=ar.len bs;have aO:G<n:=by
  rcases eC G n with h|h
  ·omega
  ·rw[ma (by rw[e0];omega)]at J;trivial
 have aA:=Ai (w6 J);have aG:=uQ p9 J;have aH:=Au p9 J;have aP:∀ao∈dy v l,ao=v:=λao av=>qX av;have Z:(dy v l)[G-(dk cG v l).length]?=some v:=by
  grind[cb,hp]
 refine bH λg F=> ?_;refine aJ ?_;iterate 2 refine ad ?_
 refine bD ?_;iterate 3 refine ad ?_
 refine dE 14 p (decide_eq_false Q) ?_;iterate 5 refine ad ?_
 refine af ?_;refine b2 p (decide_eq_false C) ?_;refine K ?_;refine a9 (WZ n O n R l G v _ (bv _) cr al ap J) ?_;refine GE (aw p (NB O n R l v _ cr al)) ?_;rintro _ _ ⟨s,rfl,ay,rfl⟩;iterate 7 refine ad ?_
 refine aL ?_;generalize dk cG v l=ax at*
 generalize dy v l=Y at*
 generalize d2 cG v l=aI at*
 obtain⟨am,ae⟩:=ay.ab aA;obtain⟨aQ,aW,aS,aE,aV,aX⟩:=s;simp at ae;subst ae;obtain⟨U,ag⟩:∃U,G-ax.length=U:=⟨_,rfl⟩;rw[ag]at Z;have aK:U<Y.length:=C;have au:∀I,aR (own 3 1 (ak am) Y.length aE (flat Y)::I) ⟨am,0+U*1,none⟩ (j v):=λI=>nB p Z I;refine aJ ?_;iterate 4 refine ad ?_
 refine aD (uw p p C) ?_;rw[ag];refine aD (hx p p C) ?_;refine aD (d6 p (by repeat' first|exact au _|apply aR.skip)) ?_;exact dq
def XJ(G J C):D E 604 #[.slice G 0 J,j 0,.func (.func 101) #[] #[]] C λK I=>K=.tuple #[j 0,.bool false]/\I=C:=by
 refine bH λg F=> ?_;refine aJ ?_;iterate 2 refine ad ?_
 refine bD ?_;iterate 3 refine ad ?_
 refine dE 14 p (decide_eq_false Q) ?_;exact dq
def QR(C n I l v G)(U:Rd G C n l)(O:n<=1000000)(K:n<=I)(Q:(a7 cG l)[n/2]?=some v):
  D E 590 #[.slice C n I,.func (.func 101) #[] #[]] G λR J=>R=.tuple #[j v,.bool true]/\J=G:=by
 refine ap λg F=> ?_
 (first|refine aD _ ?_|refine aD (hQ p p ah ah ah) ?_)
 refine ad ?_;refine a9 (XK C n I l (n/2) v _ cr O K Q) ?_;refine af ?_;refine aj p (.tmp p (.tmp p .nil)) az ⟨rfl,rfl⟩
def QQ(C I G):D E 590 #[.slice C 0 I,.func (.func 101) #[] #[]] G λK J=>K=.tuple #[j 0,.bool false]/\J=G:=by
 refine ap λg F=> ?_
 (first|refine aD _ ?_|refine aD (hQ p p ah ah ah) ?_)
 refine ad ?_;refine a9 (XJ C I _) ?_;refine af ?_;refine aj p (.tmp p (.tmp p .nil)) az ⟨rfl,rfl⟩
end S
end
end Go.Proofs.YtioamnghkmcbbaaGreat
