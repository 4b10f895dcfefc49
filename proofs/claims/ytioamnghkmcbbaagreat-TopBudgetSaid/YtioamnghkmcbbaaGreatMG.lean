/- TopBudget: a part of its proof. -/
import Derived.Test.YtioamnghkmcbbaaGreatMA3
import Derived.Test.YtioamnghkmcbbaaGreatMS
set_option linter.all false
set_option maxRecDepth 100000
set_option maxHeartbeats 4000000
open Classical renaming em->te
open Int renaming le_of_lt->qj
open List renaming append_assoc->ho,erase_of_not_mem->HD,getElem?_eq_getElem->cb,getElem?_of_mem->vy,getElem_mem->hp,length_append->bP,length_cons->fc,length_map->gL,length_nil->vA,mem_append->cT,mem_cons->cQ,mem_of_mem_erase->oU,take_length->k0,take_sublist->vC,take_succ_eq_append_getElem->gu
open List.Perm renaming append_left->kX
open Nat renaming le_refl->bv,le_trans->h0,lt_irrefl->dc,lt_or_ge->eC,pow_succ->Ib,zero_le->bu
open Go.RowKit
namespace Go.Proofs.YtioamnghkmcbbaaGreat
noncomputable section
namespace S.eE
attribute [local irreducible] G bf cc
inductive fN where
 |nil
 |mk (b:Nat) (A:bA) (c:Nat) (ay:List Int)
def fN.addr:fN->Option Addr
 | .nil=>none
 | .mk b _ _ _=>(ak b)
def fN.A:fN->Option Addr
 | .nil=>none
 | .mk _ A _ _=>A
def fN.c:fN->Nat
 | .nil=>0
 | .mk _ _ c _=>c
def fN.ay:fN->List Int
 | .nil=>[]
 | .mk _ _ _ ay=>ay
def ko:fN->aO
 | .nil=>λ_=>True
 | .mk b C D j=>λh=>G [ae b 475 [.slice C j.length D],own 3 1 C j.length D (flat j)] h
structure fN.ok (j:fN):Prop where
 a:0<j.ay.length->∃b,j.A=(ak b)
 c:j.ay.length<=j.c
 up:iD j.ay
def c6(D:aG):fN->Prop
 | .nil=>True
 | .mk b C E j=>aB D b 0 1 [.slice C j.length E]/\Rd D C j.length j
theorem c6.skip{D j}:∀{C},c6 j C->c6 (D::j) C
 | .nil,_=>trivial
 | .mk _ _ _ _,h=>⟨h.1.skip,h.2.skip⟩
def AS{j}(o:j.ok)(C):c6 (ko j::C) j:=by
 cases j with
 |nil=>trivial
 |mk b E G D=>exact⟨aB.xb (λ_ h=>h) (aB.ae p),aM.xb (λ_ h=>h) (aM.skip (aM.own (bU D) o.a))⟩
theorem c6.rd{C j}(h:c6 C j):Rd C j.A j.ay.length j.ay:=by
 cases j with
 |nil=>exact Rd.nil _ _
 |mk b D G E=>exact h.2
def Kf{E M b D C j}(I:∀h,G E h->G (ae b 475 [.slice C j.length D]::own 3 1 C j.length D (flat j)::M) h):∀h,G E h->G (ko (.mk b C D j)::M) h:=λh s=>
 G.fold (N:=[_,_]) (λh q=>q) (I h s)
def AT(j C)(h:c6 C j):D E 329 #[.pointer j.addr] C λv G=>v=.slice j.A j.ay.length j.c/\G=C:=by
 cases j with
 |nil=>
  refine ap λg F=> ?_;refine af ?_;refine aj p (.tmp p .nil) az ⟨rfl,rfl⟩
 |mk b I K J=>
  have O:=h.1.at_ (i:=0) p;refine ap λg F=> ?_;refine af ?_;refine aj p (.tmp p .nil) az ⟨rfl,rfl⟩
def IM(C G)(h:c6 G C):D E 242 #[.pointer C.addr] G λv I=>v=j (C.ay.length:Nat)/\I=G:=by
 refine ap λg F=> ?_;refine a9 (AT C _ h.skip) ?_;refine af ?_;refine aj p (.tmp p .nil) az ⟨rfl,rfl⟩
def OC(C v G)(h:c6 G C)(o:C.ok)(J:C.ay.length<=1000000):D E 419 #[.pointer C.addr,j v] G λO I=>O=j (low C.ay v:Nat)/\I=G:=by
 have Q:=h.rd;have K:=o.up;refine ap λg F=> ?_;refine a9 (AT C _ h.skip) ?_;refine a9 (Qi _ _ _ _ v _ cr J K) ?_;refine af ?_;refine aj p (.tmp p .nil) az ⟨rfl,rfl⟩
def OG(I v J)(h:c6 J I)(o:I.ok)(U:I.ay.length<=1000000):D E 334 #[.pointer I.addr,j v] J λar Z=>ar=.tuple #[j (low I.ay v:Nat),.bool (lW I.ay v)]/\Z=J:=by
 have O:=OC I v J h o U;have K:=AT I J h;have W:=o.up;cases I with
 |nil=>
  refine ap λg F=> ?_;refine GE (aw p (D.frame [F] O (λ_ s=>s))) ?_;rintro _ _ ⟨_,⟨rfl,rfl⟩,rfl⟩;refine ad ?_;refine aL ?_;refine aW (aE [0,1,2] (.e 3 (aE [4,5,6,7,8,9,10,11,12,13,14,15,16,17,18] .nil))) ?_;iterate 3 refine ai ?_
  refine an (a1 p p p (aw p (D.frame [F] K (λ_ s=>s))) ?_);rintro _ _ ⟨_,⟨rfl,rfl⟩,rfl⟩;refine cM ?_;exact dq
 |mk b Y ag G=>
  have av:aR J ⟨b,0+0,none⟩ (.slice Y G.length ag):=h.1.at_ (i:=0) p;have al:=h.2;have ax:=Wh G v W;have aC:=Ap G v;have aA:=λh=>Ao G (C:=v) h;simp only[fN.ay]at O K W U ⊢
  by_cases Q:low G v<G.length
  ·obtain⟨ae,ao,rfl,au⟩:=al.at_ C;have ak:G[low G v]?=some G[low G v]:=cb Q;have aG:aR J ⟨ae,ao+low G v*1,none⟩ (j G[low G v]):=(au _ _ ak).at_ (i:=0) p;have R:lW G v=decide (G[low G v]=v):=by
    unfold lW;simp_all
   rw[R];generalize G[low G v]=y at*
   generalize low G v=am at*
   refine ap λg F=> ?_;refine GE (aw p (D.frame [F] O (λ_ s=>s))) ?_;rintro _ _ ⟨_,⟨rfl,rfl⟩,rfl⟩;refine ad ?_;refine aL ?_;refine aW (aE [0,1,2] (.e 3 (aE [4,5,6,7,8,9,10,11,12,13,14,15,16,17,18] .nil))) ?_;iterate 3 refine ai ?_
   refine an (a1 p p p (aw p (D.frame [F] K (λ_ s=>s))) ?_);rintro _ _ ⟨_,⟨rfl,rfl⟩,rfl⟩;refine cM ?_;iterate 3 refine ai ?_
   refine dB 16 p (decide_eq_true Q) ?_;exact dq
  ·have R:lW G v=false:=decide_eq_false λh=>by simp_all
   rw[R];generalize low G v=am at*
   refine ap λg F=> ?_;refine GE (aw p (D.frame [F] O (λ_ s=>s))) ?_;rintro _ _ ⟨_,⟨rfl,rfl⟩,rfl⟩;refine ad ?_;refine aL ?_;refine aW (aE [0,1,2] (.e 3 (aE [4,5,6,7,8,9,10,11,12,13,14,15,16,17,18] .nil))) ?_;iterate 3 refine ai ?_
   refine an (a1 p p p (aw p (D.frame [F] K (λ_ s=>s))) ?_);rintro _ _ ⟨_,⟨rfl,rfl⟩,rfl⟩;refine cM ?_;iterate 3 refine ai ?_
   refine dB 16 p (decide_eq_false Q) ?_;exact dq
def FC(C v G)(h:c6 G C)(o:C.ok)(Q:C.ay.length<=1000000):D E 330 #[.pointer C.addr,j v] G λR O=>R=j (fu C.ay v:Nat)/\O=G:=by
 have I:=OG C v G h o Q;have U:=Ap C.ay v;unfold fu
 by_cases J:v∈C.ay
 ·have K:lW C.ay v=true:=decide_eq_true J;rw[K]at I;rw[if_pos J];refine ap λg F=> ?_;refine GE (aw p (D.frame [F] I (λ_ s=>s))) ?_;rintro _ _ ⟨_,⟨rfl,rfl⟩,rfl⟩;refine bI ?_;exact⟨by simp[bG],rfl⟩
 ·have K:lW C.ay v=false:=decide_eq_false J;rw[K]at I;rw[if_neg J];refine ap λg F=> ?_;refine GE (aw p (D.frame [F] I (λ_ s=>s))) ?_;rintro _ _ ⟨_,⟨rfl,rfl⟩,rfl⟩;refine bI ?_;exact⟨by simp[bG],rfl⟩
def Q6(C v G)(h:c6 G C)(o:C.ok)(J:C.ay.length<=1000000):D E 599 #[.pointer C.addr,j v] G λK I=>K=j (fu C.ay v:Nat)/\I=G:=by
 refine ap λg F=> ?_;refine a9 (FC C v _ h.skip o J) ?_;refine af ?_;refine aj p (.tmp p .nil) az ⟨rfl,rfl⟩
def Q7(G I v J)(h:c6 J G)(o:G.ok)(O:G.ay.length<=1000000)(U:I<=v):D E 245 #[.pointer G.addr,j I,j v] J λR Q=>R=.tuple #[j (fu G.ay I:Nat),j (fu G.ay v:Nat),.bool true]/\Q=J:=by
 refine ap λg F=> ?_;refine af ?_;refine b2 p (decide_eq_false C) ?_;refine K ?_;refine a9 (FC G I _ h.skip o O) ?_;refine a9 (FC G v _ h.skip o O) ?_;refine af ?_;refine aj p (.tmp p (.tmp p (.tmp p .nil))) az ⟨rfl,rfl⟩
def OE(C n G l j)(Y:Rd j C n l)(Z:n<=1000000)(W:n<=G):
  D E 468 #[.slice C n G] j λv O=>Made 3 (fA l) j v O:=by
 refine ap λg F=> ?_;refine GE (aw p (CB C n G l _ cr Z W)) ?_;rintro _ _ ⟨K,Q,rfl,R,rfl⟩;refine GE (aw p (IS K _ Q (bj l) _ (aM.own (bU _) R) (by rw[rj,Y.len bs];omega))) ?_;rintro _ _ ⟨I,J,rfl,U,rfl⟩;refine ad ?_;refine af ?_;exact aj (C:=own 3 1 I (fA l).length J (flat (fA l))::j) p (.tmp p .nil) aq ⟨I,J,rfl,U,rfl⟩
def Cp(E:List Int)(C:aG)(v:Value)(D:aG):Prop:=∃j:fN,j.ay=E/\j.ok/\j.addr≠none/\v=.pointer j.addr/\D=ko j::C
def Cu(j n G l C)(Y:Rd C j n l)(U:n<=1000000)(R:n<=G):
  D E 470 #[.slice j n G] C λv J=>Cp (fA l) C v J:=by
 refine ap λg F=> ?_;refine GE (aw p ((OE j n G l _ cr U R).made)) ?_;rintro _ _ ⟨I,O,rfl,Q,W,Z,rfl⟩;refine ad ?_;refine aS λK=> ?_;refine af ?_;exact aj rfl (.tmp p .nil) (by(repeat first|exact bo|apply Kf|refine b7 ?_)<;>fail) ⟨.mk K I O (fA l),rfl,⟨Q,W,sE l⟩,by simp[fN.addr],rfl,rfl⟩
def Ri(j I n J l G)(h:c6 G j)(o:j.ok)(ax:j.ay.length<=400000)(au:Rd G I n l)(aC:n<=400000)(ar:n<=J):
  D E 393 #[.pointer j.addr,.slice I n J] G λv ae=>Cp (fA (j.ay++l)) G v ae:=by
 have aE:=h.rd;have aA:=E7 l;have aa:l.length=n:=au.len bs;have R:mU (bj (j.ay++fA l))=fA (j.ay++l):=iD.unique (sE _) (sE _) λy=>by
  have:=sD (j.ay++fA l) y;unfold fA at this;unfold fA;rw[this];have ab:=sD (j.ay++l) y;unfold fA at ab;rw[ab,cT,cT];have al:=sD l y;unfold fA at al;grind
 refine ap λg F=> ?_;refine a9 (AT j _ h.skip) ?_;refine GE (aw p ((OE I n J l _ cr C ar).made)) ?_;rintro _ _ ⟨Y,ag,rfl,am,av,aH,rfl⟩;refine GE (aw p (QT j.A Y _ _ j.c ag j.ay (fA l) _ cr (aM.own (bU _) am) C C o.c av (o.up.imp λh=>qj h) ((sE l).imp λh=>qj h))) ?_;rintro _ _ ⟨Z,ak,rfl,ao,rfl⟩;refine GE (aw p ((IS Z _ ak (bj (j.ay++fA l)) _ (aM.own (bU _) ao) (by rw[rj,bP];omega)).made)) ?_;rintro _ _ ⟨K,Q,rfl,U,W,aG,rfl⟩;refine ad ?_;refine aS λO=> ?_;refine aL ?_;rw[R]at U W;rw[R];refine aF ?_;exact aj (C:=ko (.mk O K Q (fA (j.ay++l)))::G) p (.tmp p .nil) (by(repeat first|exact bo|apply Kf|refine b7 ?_)<;>fail) ⟨.mk O K Q (fA (j.ay++l)),rfl,⟨U,W,sE _⟩,by simp[fN.addr],rfl,rfl⟩
def Rk(I O n R l J)(h:c6 J I)(o:I.ok)(al:I.ay.length<=1000000)(W:Rd J O n l)(aw:n<=1000000):
  D E 247 #[.pointer I.addr,.slice O n R] J λv Z=>v=.bool (l.all (lW I.ay))/\Z=J:=by
 have aa:l.length=n:=W.len bs;refine ap λg F=> ?_;refine af ?_;refine cJ (ι:=Nat) (λG=>[(0,.pointer I.addr),(9,.slice O n R),(10,j (n:Nat)),(11,j (G:Nat))]) (λ_=>F::J) (λG=>G<=n/\((l.take G).all (lW I.ay))=true) (λG=>n-G) 0 ⟨bu _,by rfl⟩ a8 az ?_;rintro G ⟨av,Y⟩;refine K ?_;refine af ?_;refine cp p (λak=> ?_) (λak=> ?_)
 ·obtain⟨au,ax,rfl,ao⟩:=W.at_ C;have ag:l[G]?=some l[G]:=cb C;have ar:=(ao _ _ ag).at_ (i:=0) p;have aA:l.take (G+1)=l.take G++[l[G]]:=gu C;have am:l[G] ∈l:=hp _;generalize l[G]=Q at*
  have aC:=ar;refine K ?_;refine bw p (OG I Q _ h.skip o al) ?_;iterate 5 refine ad ?_
  refine bD ?_;refine ad ?_;refine aD (cL p) ?_;refine aL ?_;cases U:lW I.ay Q with
  |true=>
   refine aF ?_;refine b2 p aZ ?_;refine K ?_;refine af ?_;exact bM (G+1) ⟨C,by simp_all⟩ C a8 az
  |false=>
   refine aF ?_;refine cD p aZ ?_;refine bI ?_;exact⟨congrArg Value.bool (Bool.eq_false_iff.2 λh=>by rw[List.all_eq_true.1 h Q am]at U;cases U).symm,rfl⟩
 ·have ae:G=n:=C;subst ae;rw[<- aa,k0]at Y;refine bI ?_;exact⟨by rw[Y];rfl,rfl⟩
@[reducible] def iw (E I:Nat) (C:bA) (n D:Nat) (G q:bA):List Value:=[j (E:Nat),j (I:Nat),.slice C n D,.pointer G,.pointer q]
def dz:bt->aO
 | .nil=>λ_=>True
 | .node b I J j C l E D=>λh=>G [ae b 313 (iw I J j l.length C E.addr D.addr),own 45 3 j l.length C (flat l),dz E,dz D] h
def h9(C:bA)(D:Nat)(j:List I):Prop:=(0<j.length->∃b,C=(ak b))/\j.length<=D
def h2(j:aG):bt->Prop
 | .nil=>True
 | .node b I J C G l E D=>aB j b 0 5 (iw I J C l.length G E.addr D.addr)/\Rd j C l.length l/\h2 j E/\h2 j D
theorem h2.skip{D j}:∀{C},h2 j C->h2 (D::j) C
 | .nil,_=>trivial
 | .node _ _ _ _ _ _ _ _,h=>⟨h.1.skip,h.2.1.skip,h.2.2.1.skip,h.2.2.2.skip⟩
def h2.of{C N E}(j:∀h,C h->G N h):∀{D},h2 N D->h2 (C::E) D
 | .nil,_=>trivial
 | .node _ _ _ _ _ _ _ _,h=>⟨h.1.xb j,aM.xb j h.2.1,h.2.2.1.of j,h.2.2.2.of j⟩
def F0:∀{E:bt},(E.each λ_ _ j C K=>h9 j C K)->∀D,h2 (dz E::D) E
 | .nil,_,D=>trivial
 | .node b J O j C l I G,o,D=>h2.of (N:=[ae b 313 (iw J O j l.length C I.addr G.addr),own 45 3 j l.length C (flat l),dz I,dz G]) (λ_ h=>h)
   ⟨aB.ae p,Rd.skip (aM.own (bU l) o.1.1),(F0 o.2.1 _).skip.skip,(F0 o.2.2 []).skip.skip.skip⟩
def r6{I M b J O C j l E D K q}(Q:E.addr=K)(eq:D.addr=q)(g:∀h,G I h->G (ae b 313 (iw J O j l.length C K q)::own 45 3 j l.length C (flat l)::dz E::dz D::M) h):∀h,G I h->G (dz (.node b J O j C l E D)::M) h:=λh s=>by
 subst Q eq;exact G.fold (λh q=>q) (g h s)
section
variable{S:Type}{se:FuncId}[b4 E se]{dt d5:cs}{x y:Nat}{W:S->List aO}{step:S->Nat->Nat->List I->S}{dL:S->Nat->Prop}{s5:Nat->Nat->List I->Nat}{vJ:Option Addr->Nat->List I->Option Addr->Nat->List I->Prop}{vR:Nat->Nat->Option Addr->Nat->List I->Prop}
def WJ
  (a0:∀(s:S) (ak b O Y:Nat) (Q:bA) (U:Nat) (J:List I) (aX q:bA) (M:aG),vR O Y Q U J->dL s (s5 O Y J+ak)->D E se (dt++[R b]++d5).toArray (W s++ae b 313 (iw O Y Q J.length U aX q)::own 45 3 Q J.length U (flat J)::M) λv aI=>v=.tuple #[]/\∃ax ay av,(vJ Q U J ax ay av/\dL (step s O Y J) ak)/\aI=W (step s O Y J)++ae b 313 (iw O Y ax av.length ay aX q)::own 45 3 ax av.length ay (flat av)::M):
  ∀(al:bt) (s:S) (ak:Nat) (M:aG),al.each vR->dL s (al.at_ x y s5+ak)->D E 331 #[.pointer al.addr,j (x:Nat),j (y:Nat),.func (.func se) dt.toArray d5.toArray] ((λh=>G (W s) h)::dz al::M) λv aI=>v=.tuple #[]/\∃aQ,(ia x y vJ al aQ/\dL (al.run x y step s) ak)/\aI=(λh=>G (W (al.run x y step s)) h)::dz aQ::M:=by
 intro al
 induction al with
 |nil=>
  intro s ak M _ ao;refine ap λg F=> ?_;refine aF ?_;exact e6 rfl .nil az ⟨rfl,.nil,⟨rfl,by simpa[bt.at_,bt.run]using ao⟩,rfl⟩
 |node b O Y Q U J ag Z a1 aW=>
  intro s ak M aC ao;unfold bt.at_ at ao;refine bH λg F=> ?_;refine b5 (j:=dz (.node b O Y Q U J ag Z)::F::(λh=>G (W s) h)::M) aq ?_;refine qp (ι:=Unit) (F:=λ_=>True) (D:=λ_=>[ae b 313 (iw O Y Q J.length U ag.addr Z.addr),own 45 3 Q J.length U (flat J),dz ag,dz Z]) (λh q=>⟨(),trivial,q⟩) λ_ _=> ?_;show bc _ _ _ _ _ _ (ae b 313 (iw O Y Q J.length U ag.addr Z.addr)::own 45 3 Q J.length U (flat J)::dz ag::dz Z::F::(λh=>G (W s) h)::M);refine aF ?_
  by_cases aa:y<O
  ·rw[if_pos (.inl aa)]at ao;refine K ?_;refine dE 37 p (decide_eq_true aa) ?_;refine K ?_;refine aF ?_;exact e6 (D:=[]) (j:=[]) (C:=(λh=>G (W s) h)::dz (.node b O Y Q U J ag Z)::M) p .nil (by(repeat first|exact bo|apply r6 p p|refine b7 ?_)<;>fail) ⟨rfl,.node b O Y Q U J ag Z,⟨by unfold ia;simp_all,by rw[A6 (.inl aa)];simp_all⟩,by rw[A6 (.inl aa)]⟩
  ·by_cases ab:Y<x
   ·rw[if_pos (.inr ab)]at ao;refine K ?_;refine dE 37 p (decide_eq_false aa) ?_;iterate 8 refine ad ?_
    refine af ?_;refine cD p (decide_eq_true ab) ?_;refine aF ?_;exact e6 (D:=[]) (j:=[]) (C:=(λh=>G (W s) h)::dz (.node b O Y Q U J ag Z)::M) p .nil (by(repeat first|exact bo|apply r6 p p|refine b7 ?_)<;>fail) ⟨rfl,.node b O Y Q U J ag Z,⟨by unfold ia;simp_all,by rw[A6 (.inr ab)];simp_all⟩,by rw[A6 (.inr ab)]⟩
   ·have ar: ¬(y<O\/Y<x):=C;rw[if_neg ar]at ao;refine K ?_;refine dE 37 p (decide_eq_false aa) ?_;iterate 8 refine ad ?_
    refine af ?_;refine b2 p (decide_eq_false ab) ?_
    by_cases am:x<=O/\Y<=y
    ·rw[if_pos am]at ao;refine K ?_;refine dE 52 p (decide_eq_true C) ?_;iterate 8 refine ad ?_
     refine af ?_;refine cD p (decide_eq_true C) ?_;have aZ:=λM=>a0 s ak b O Y Q U J ag.addr Z.addr M aC.1 ao;refine K ?_;refine GE (eV p p (D.pre (M:=W s++ae b 313 (iw O Y Q J.length U ag.addr Z.addr)::own 45 3 Q J.length U (flat J)::dz ag::dz Z::F::M) (λh q=>G.part ((show ∀h,G _ h->G ((λh=>G (W s) h)::ae b 313 (iw O Y Q J.length U ag.addr Z.addr)::own 45 3 Q J.length U (flat J)::dz ag::dz Z::F::M) h from aq) h q)) (aZ _))) ?_;rintro _ _ ⟨rfl,ax,ay,av,⟨a3,a2⟩,rfl⟩;refine aL ?_;refine b5 (λ_ q=>G.join q) ?_;refine aF ?_;exact e6 (D:=[]) (j:=[]) (C:=(λh=>G (W (step s O Y J)) h)::dz (.node b O Y ax ay av ag Z)::M) p .nil (by(repeat first|exact bo|apply r6 p p|refine b7 ?_)<;>fail) ⟨rfl,.node b O Y ax ay av ag Z,⟨by unfold ia;grind,by rw[OH ar am];omega⟩,by rw[OH ar am]⟩
    ·rw[if_neg am]at ao;have aS:=λM=>a1 s (Z.at_ x y s5+ak) M aC.2.1 (by grind);rcases eC O x with aY|aY
     ·refine aF ?_;refine cv ?_;iterate 7 refine ad ?_
      refine dE 52 p (decide_eq_false C) ?_;refine K ?_;refine aD (dV p p ah ah) ?_;iterate 4 refine ad ?_
      refine GE (aw p (D.pre (M:=(λh=>G (W s) h)::dz ag::ae b 313 (iw O Y Q J.length U ag.addr Z.addr)::own 45 3 Q J.length U (flat J)::dz Z::F::M) aq (aS _))) ?_;rintro _ _ ⟨rfl,au,⟨aE,aP⟩,rfl⟩;refine aL ?_;have aK:=λM=>aW _ ak M aC.2.2 aP;refine K ?_;refine aD (dV p p ah ah) ?_;iterate 4 refine ad ?_
      refine GE (aw p (D.pre (M:=(λh=>G (W (ag.run x y step s)) h)::dz Z::dz au::ae b 313 (iw O Y Q J.length U ag.addr Z.addr)::own 45 3 Q J.length U (flat J)::F::M) aq (aK _))) ?_;rintro _ _ ⟨rfl,aA,⟨aH,aV⟩,rfl⟩;refine af ?_;exact e6 (D:=[]) (j:=[]) (C:=(λh=>G (W (Z.run x y step (ag.run x y step s))) h)::dz (.node b O Y Q U J au aA)::M) p .nil (by(repeat first|exact bo|apply r6 aE.addr aH.addr|refine b7 ?_)<;>fail) ⟨rfl,.node b O Y Q U J au aA,⟨by unfold ia;grind,by rw[A5 ar am];omega⟩,by rw[A5 ar am]⟩
     ·refine aF ?_;refine cv ?_;iterate 7 refine ad ?_
      refine dE 52 p (decide_eq_true C) ?_;iterate 8 refine ad ?_
      refine af ?_;refine b2 p (decide_eq_false C) ?_;refine K ?_;refine aD (dV p p ah ah) ?_;iterate 4 refine ad ?_
      refine GE (aw p (D.pre (M:=(λh=>G (W s) h)::dz ag::ae b 313 (iw O Y Q J.length U ag.addr Z.addr)::own 45 3 Q J.length U (flat J)::dz Z::F::M) aq (aS _))) ?_;rintro _ _ ⟨rfl,au,⟨aE,aP⟩,rfl⟩;refine aL ?_;have aK:=λM=>aW _ ak M aC.2.2 aP;refine aJ ?_;iterate 3 refine ad ?_
      refine aD (dV p p ah ah) ?_;iterate 4 refine ad ?_
      refine GE (aw p (D.pre (M:=(λh=>G (W (ag.run x y step s)) h)::dz Z::dz au::ae b 313 (iw O Y Q J.length U ag.addr Z.addr)::own 45 3 Q J.length U (flat J)::F::M) aq (aK _))) ?_;rintro _ _ ⟨rfl,aA,⟨aH,aV⟩,rfl⟩;refine af ?_;exact e6 (D:=[]) (j:=[]) (C:=(λh=>G (W (Z.run x y step (ag.run x y step s))) h)::dz (.node b O Y Q U J au aA)::M) p .nil (by(repeat first|exact bo|apply r6 aE.addr aH.addr|refine b7 ?_)<;>fail) ⟨rfl,.node b O Y Q U J au aA,⟨by unfold ia;rw[if_neg ar,if_neg am];exact⟨au,aA,aE,aH,rfl⟩,by rw[A5 ar am];exact aV⟩,by rw[A5 ar am]⟩
end
def _root_.Go.Proofs.YtioamnghkmcbbaaGreat.aB.Zl{j b o n G I}(h:aB j b o n G)(D E)(C:kq (oh G D) E=some I):aB j b (o+D) E I:=
 ⟨(lr C).1,λK v J=>by
  have aa:=(lr C).2 K v J;rw[qE,List.getElem?_drop]at aa;rw[Nat.add_assoc];exact h.2 _ _ aa⟩
def _root_.Go.Proofs.YtioamnghkmcbbaaGreat.bt.i2(j:Nat):bt->Bool
 | .nil=>false
 | .node _ C D _ _ _ _ _=>decide (C<=j/\j<=D)
def _root_.Go.Proofs.YtioamnghkmcbbaaGreat.bt.bY(j:Nat):bt->bt
 | .nil=> .nil
 | .node _ _ _ _ _ _ D C=>if C.i2 j then C else if D.i2 j then D else .nil
def d8(l:List I):List Int:=l.map (·.id)
def EW(G J I)(h:h2 I G):D E 753 #[.pointer G.addr,j (J:Nat)] I λv K=>v=.bool (G.i2 J)/\K=I:=by
 cases G with
 |nil=>
  refine ap λg F=> ?_;refine af ?_;refine aj p (.tmp p .nil) az ⟨rfl,rfl⟩
 |node b Q ag R U ae Z Y=>
  have W:=h.1.at_ (i:=0) p;have aa:=h.1.at_ (i:=1) p;rcases eC J Q with O|O
  ·skip
   refine ap λg F=> ?_;refine dE 15 p (decide_eq_false C) ?_;refine bI ?_;exact⟨by simp[bG,bt.i2];omega,rfl⟩
  ·skip
   refine ap λg F=> ?_;refine dE 15 p (decide_eq_true C) ?_;refine bI ?_;exact⟨by simp[bG,bt.i2];omega,rfl⟩
def IE(j:List Int)(I:bA)(E:aG)(v:Value)(G:aG):Prop:=∃D C,v=.tuple #[.slice D j.length C,.pointer I]/\((0<j.length->∃b,D=(ak b))/\j.length<=C/\C<=maxLen)/\G=own 3 1 D j.length C (flat j)::E
def Wf(b au av Y ag G U W J Z)(h:h2 Z (.node b au av Y ag G U W))(a4:(bt.node b au av Y ag G U W).i2 J=true)(bp:G.length<=1000000):
  D E 752 #[R b,j (J:Nat)] Z λv aP=>IE (bj (d8 G)) (bt.bY J (.node b au av Y ag G U W)).addr Z v aP:=by
 have aE:=EW _ J Z h;rw[a4]at aE;have a9:=EW U J;have a5:=EW W J;have ab:aR Z _ _:=h.1.at_ (i:=2) p;have bl:aB Z b _ 2 _:=h.1.Zl 3 2 p;have bb:=h.2.1;have a7:=h.2.2.1;have a6:=h.2.2.2;have bc:=λY J M a2=>Bd Y _ J (d8 G) M a2 p (by simp_all[d8,gL]);have aH:(d8 G).length=(bj (d8 G)).length:=by simp[bj]
 have aG:(d8 G).length=G.length:=by simp[d8]
 generalize bs:bj (d8 G)=ao at*
 refine ap λg F=> ?_;refine GE (aw p (D.frame [F] aE (λ_ s=>s))) ?_;rintro _ _ ⟨ar,⟨rfl,a3⟩,rfl⟩;refine aD (cL p) ?_;refine aL ?_;subst a3;refine iT ?_;refine b5 (own.nil_ 3 1) ?_;refine K ?_;refine af ?_;refine cJ (ι:=Nat×Option Addr×Nat) (λO=>[(0,R b),(1,j (J:Nat)),(4,.slice O.2.1 O.1 O.2.2),(5,.pointer none),(17,.slice Y G.length ag),(18,j (G.length:Nat)),(19,j (O.1:Nat))]) (λO=>own 3 1 O.2.1 O.1 O.2.2 (flat (d8 (G.take O.1)))::F::ar) (λO=>O.1<=G.length/\(0<O.1->∃b,O.2.1=(ak b))) (λO=>G.length-O.1) (0,none,0) ⟨bu _,λh=>absurd h (dc 0)⟩ a8 (λ_ s=>s) ?_;rintro⟨I,ae,al⟩ ⟨a0,am⟩;simp only at a0 am;dsimp only;refine K ?_;refine af ?_;refine cp p (λaA=> ?_) (λaA=> ?_)
 ·obtain⟨aQ,bd,rfl,bg⟩:=bb.at_ C;have a1:G[I]?=some G[I]:=cb C;have bh:=bg _ _ a1;have be:d8 (G.take (I+1))=d8 (G.take I)++[G[I].id]:=by grind[d8,gu]
  generalize G[I]=ax at*
  have bB:aB ar aQ (bd+I*3) 3 [j ax.id,j ax.x,j ax.y]:=bh;refine K ?_;refine aS λbk=> ?_;refine aU λbi=> ?_;refine GE (bx p p aI cn (cS p) aZ Q ah ah) ?_;rintro _ _ ⟨aO,aW,rfl,bm,bq,ba,rfl⟩;refine K ?_;refine af ?_;refine bM (I+1,aO,aW) ⟨aA,λ_=>ba Q⟩ C a8 ?_;have aY:flat (d8 (G.take (I+1)))=flat (d8 (G.take I))++[Value.int .i64 ax.id]:=by rw[be];exact(gm _ _).symm
  simp only[aY];exact aq
 ·have aX:I=G.length:=C;subst aX;rw[k0];rw[<- aG];rw[<- aG]at am;refine K ?_;refine bw p (D.pick aI (bc ae al _ am)) ?_;refine aL ?_;refine tC (λh s=>own.facts s) ?_;rintro⟨bz,aK,bf,bA⟩;rw[aH]at am aK;rw[aH];refine K ?_;refine af ?_;refine cJ (ι:=Nat) (λI=>[(1,j (J:Nat)),(4,.slice ae ao.length al),(5,.pointer (if I=0 then none else if I=1 then(if U.i2 J then U.addr else none)else(bt.bY J (.node b au av Y ag G U W)).addr)),(34,.agg #[.pointer U.addr,.pointer W.addr]),(35,j (I:Nat))]) (λI=>own 3 1 ae ao.length al (flat ao)::F::ar) (λI=>I<=2) (λI=>2-I) 0 (bu _) a8 (λ_ s=>s) ?_;intro I bn;refine aJ ?_
  (first|refine aD (nt (q:=2) p p) ?_|refine aD (py p p) ?_)
  refine af ?_;refine cp p (λaV=> ?_) (λaV=> ?_)
  ·rcases Nat.eq_zero_or_pos I with aC|aC
   ·subst aC;refine aJ ?_;refine aD (zG (C:=[.pointer U.addr,.pointer W.addr]) (j:=0) p p Q p) ?_;refine K ?_;refine bw p (a9 _ a7.skip.skip) ?_;refine aL ?_;cases ay:U.i2 J with
    |true=>
     refine K ?_;refine af ?_;exact bM 1 Q Q a8 (λ_ s=>s)
    |false=>
     refine K ?_;refine af ?_;exact bM 1 Q Q a8 (λ_ s=>s)
   ·have aa:I=1:=C;subst aa;refine aJ ?_;refine aD (zG (C:=[.pointer U.addr,.pointer W.addr]) (j:=1) p p Q p) ?_;refine K ?_;refine bw p (a5 _ a6.skip.skip) ?_;refine aL ?_;cases ay:W.i2 J with
    |true=>
     refine K ?_;refine af ?_;exact bM 2 Q Q ⟨rfl,rfl,by simp only[bt.bY,ay];rfl,rfl,rfl,trivial⟩ (λ_ s=>s)
    |false=>
     refine iT ?_;refine aJ ?_;iterate 2 refine ad ?_
     refine af ?_;exact bM 2 C C ⟨rfl,rfl,by simp only[bt.bY,ay];cases U.i2 J<;>rfl,rfl,rfl,trivial⟩ (λ_ s=>s)
  ·have ab:I=2:=C;subst ab;refine aJ ?_;iterate 4 refine ad ?_
   refine af ?_;exact aj (C:=own 3 1 ae ao.length al (flat ao)::ar) p (.tmp p (.tmp p .nil)) (λ_ s=>s.swap) ⟨ae,al,rfl,⟨am,aK,bf⟩,rfl⟩
def QO(b K U G J C Q O I W)(h:h2 W (.node b K U G J C Q O))(ak:(bt.node b K U G J C Q O).i2 I=true)(al:C.length<=1000000):
  D E 751 #[R b,j (I:Nat)] W λv Z=>IE (bj (d8 C)) (bt.bY I (.node b K U G J C Q O)).addr W v Z:=by
 refine ap λg F=> ?_;refine GE (aw p (Wf b K U G J C Q O I _ h.skip ak al)) ?_;rintro _ _ ⟨Y,ae,rfl,ag,rfl⟩;iterate 4 refine ad ?_
 refine af ?_;exact aj rfl (.tmp p (.tmp p .nil)) aq ⟨Y,ae,rfl,ag,rfl⟩
def Tl{j M}(g:∀h,G j h->G M h):∀h,G j h->G (dz .nil::M) h:=λh s=>G.fold (N:=[]) (λ_ _=>trivial) (g h s)
def Jw(C:Nat)(I:aG):D E 161 #[j (C:Nat),j (C:Nat)] I λv O=>∃G:bt,v=.pointer G.addr/\((∀q o,eF q [] G C C o)/\G.each λ_ _ J U W=>h9 J U W)/\O=dz G::I:=by
 refine ap λg F=> ?_;refine aS λR=> ?_;refine af ?_;refine b2 p (decide_eq_false Q) ?_;refine K ?_;refine aL ?_;refine b5 (own.nil_ 45 3) ?_;refine aF ?_;exact aj rfl (.tmp p .nil) (by(repeat first|exact bo|apply r6 p p|apply Tl|refine b7 ?_)<;>fail) ⟨.node R C C _ 0 [] _ _,rfl,⟨λq o=>⟨rfl,rfl,rfl,.inr ⟨rfl,rfl,rfl⟩⟩,⟨⟨λh=>absurd h (dc 0),bv _⟩,trivial,trivial⟩⟩,rfl⟩
def qz:∀(R G I:Nat)(J:aG),G<=I->I-G<=R->I<=1000000->D E 161 #[j (G:Nat),j (I:Nat)] J λv ak=>∃O:bt,v=.pointer O.addr/\((∀q o,eF q [] O G I o)/\O.each λ_ _ ag au aA=>h9 ag au aA)/\ak=dz O::J:=by
 intro R
 induction R with
 |zero=>
  intro G I J aa ab av;have U:G=I:=C;subst U;exact Jw G J
 |succ R Z=>
  intro G I J aa ab av
  by_cases U:G=I
  ·subst U;exact Jw G J
  have ax:=λJ=>Z G (G+(I-G)/2) J Q C C;have ay:=λJ=>Z (G+(I-G)/2+1) I J C C C;refine ap λg F=> ?_;refine aS λW=> ?_;refine af ?_;refine cD p (decide_eq_true C) ?_;refine K ?_
  (first|refine aD _ ?_|refine aD (hQ p p ah ah ah) ?_)
  iterate 2 refine ad ?_
  refine aL ?_;refine b5 (own.nil_ 45 3) ?_;refine K ?_;refine GE (aw p (ax _)) ?_;rintro _ _ ⟨ae,rfl,⟨al,am⟩,rfl⟩;iterate 3 refine ad ?_
  refine GE (aw p (ay _)) ?_;rintro _ _ ⟨Y,rfl,⟨ao,ar⟩,rfl⟩;refine K ?_;refine af ?_;exact aj (C:=dz (.node W G I none 0 [] ae Y)::J) p (.tmp p .nil) (by(repeat first|exact bo|apply r6 p p|refine b7 ?_)<;>fail) ⟨.node W G I none 0 [] ae Y,rfl,⟨λq o=>⟨rfl,rfl,rfl,.inl ⟨C,al q _,ao q _⟩⟩,⟨⟨λh=>absurd h (dc 0),bv _⟩,am,ar⟩⟩,rfl⟩
theorem _root_.Go.Proofs.YtioamnghkmcbbaaGreat.dw.lU{l}(h:dw l)(v):l.Pairwise (λj b=>b.less v=true->j.less v=true):=h.imp λC D=>I.qV C D
def js(v:I)(l:List I):Nat:=l.countP (λj=>j.less v)
def Wc(v l):js v l<=l.length:=List.countP_le_length
def Mm{l}(h:dw l)(v j)(G:l[js v l]?=some j):(!v.less j)=decide (v∈l):=by
 have aa:=(mA _ l (h.lU v) _ j G).2 (bv _);have Q:j.less v=false:=by simp_all
 have U:=List.mem_of_getElem? G
 by_cases D:v∈l
 ·rw[decide_eq_true D];obtain⟨K,J⟩:=vy D;have ab:=(mA _ l (h.lU v) _ v J).1 (by simp[I.nC]);have R:js v l<=K:=ab;rcases Nat.lt_or_eq_of_le R with E|E
  ·have W:=(List.getElem?_eq_some_iff.1 J).1;have Z:=List.pairwise_iff_getElem.1 h _ K C W E;grind
  simp_all
 ·rw[decide_eq_false D];have Y:j≠v:=λO=>D (O▸U);simp[I.qU Y Q]
theorem Mn{l}(h:dw l)(v)(D: ¬js v l<l.length):v∉l:=λC=>by
 obtain⟨E,j⟩:=vy C;have ab:=(mA _ l (h.lU v) _ v j).1 (by simp[I.nC]);grind[js]
def Wb{l}(h:dw l)(v)(E:v∈l):js v l<l.length/\l.take (js v l)++l.drop (js v l+1)=l.erase v:=by
 have D:js v l<l.length:=by
  grind[Mn]
 refine⟨D,?_⟩;have C:=cb D;have aa:=Mm h v _ C;rw[decide_eq_true E]at aa;have ab:=(mA _ l (h.lU v) _ _ C).2 (bv _);have G:l[js v l]=v:=by
  rcases te _ with j|j
  ·omega
  ·have:=I.qU j (by simp_all);simp_all
 have J:v∉l.take (js v l):=by
  rw[show l.take (js v l)=l.filter _ from wC _ l (h.lU v)];simp_all
 grind[List.take_append_drop,List.drop_eq_getElem_cons,List.erase_cons_head]
def TY(G v:I)(J K C)(W:aB C J 0 3 [j v.id,j v.x,j v.y])(Y:aR C ⟨K,0,none⟩ (.func (.func 244) #[] #[])):
  D E 560 #[G.v,R K,R J] C λQ O=>Q=.bool (!G.less v)/\O=C:=by
 refine ap λg F=> ?_;refine aS λU=> ?_;refine GE (eV p p (pO G v _)) ?_;rintro _ _ ⟨rfl,rfl⟩;refine aD (cL p) ?_;exact dq
def T2(G n J l v I)(U:Rd I G n l)(W:n<=1000000)(Y:dw l):
  D E 492 #[.slice G n J,v.v,.func (.func 244) #[] #[]] I λae K=>ae=j (js v l:Nat)/\K=I:=by
 have aa:=U.len bs;have ag:=Wc v l;have Z:=mA _ l (Y.lU v);refine ap λg F=> ?_;refine aU λQ=> ?_;refine aS λR=> ?_;refine a9 (p5 _ [] _ _ G n J (js v l) l _ cr W C Z (λO=>TY O v Q R _ bS dX)) ?_;refine af ?_;refine aj p (.tmp p .nil) az ⟨rfl,rfl⟩
def Lk(O n R l v G)(J:Rd G O n l)(ao:n<=1000000)(Q:dw l):
  D E 418 #[.slice O n R,v.v,.func (.func 244) #[] #[]] G λau Z=>au=.tuple #[j (js v l:Nat),.bool (decide (v∈l))]/\Z=G:=by
 have aa:l.length=n:=J.len bs;have Y:=λG J=>T2 O n R l v G J ao Q;have am:=Mm Q v;have aA:=Mn Q v;generalize ay:js v l=I at*
 generalize ax:decide (v∈l)=ak at*
 by_cases U:I<n
 ·obtain⟨ae,ar,rfl,av⟩:=J.at_ C;have W:l[I]?=some l[I]:=cb C;have aw:=av _ _ W;have al:=am _ W;generalize l[I]=K at*
  have aC:aB G ae (ar+I*3) 3 [j K.id,j K.x,j K.y]:=aw;subst al;refine ap λg F=> ?_;refine aS λag=> ?_;refine a9 (Y _ cr) ?_;refine aL ?_;refine aW (aE [0,1,2,3,4,5,6,7,8,9,10,11] (.e 12 (aE [13,14,15,16] .nil))) ?_;iterate 6 refine ai ?_
  refine dB 18 p (decide_eq_true U) ?_;iterate 6 refine ai ?_
  refine an (f9 p p p ⟨_,rfl,rfl⟩ p (eV p p (pO v K _)) ?_);rintro _ _ ⟨rfl,rfl⟩;refine cM ?_;refine b0 aT p p p p ⟨_,rfl,rfl⟩ p (cL p) ?_;exact dq
 ·have:ak=false:=by simp_all
  subst this;refine ap λg F=> ?_;refine aS λag=> ?_;refine a9 (Y _ cr) ?_;refine aL ?_;refine aW (aE [0,1,2,3,4,5,6,7,8,9,10,11] (.e 12 (aE [13,14,15,16] .nil))) ?_;iterate 6 refine ai ?_
  refine dB 18 p (decide_eq_false U) ?_;iterate 6 refine ai ?_
  refine an (gy p p p ⟨_,rfl,rfl⟩ p ?_);exact dq
def Qu(j n G l v C)(R:Rd C j n l)(J:n<=1000000)(K:dw l):
  D E 333 #[.slice j n G,v.v,.func (.func 244) #[] #[]] C λO I=>O=.bool (decide (v∈l))/\I=C:=by
 refine ap λg F=> ?_;refine aS λQ=> ?_;refine a9 (Lk j n G l v _ cr J K) ?_;refine af ?_;refine aj p (.tmp p .nil) az ⟨rfl,rfl⟩
def In(O n U l v j)(Y:Rd j O n l)(Z:n<=1000000)(al:dw l):
  D E 394 #[.slice O n U,v.v,.func (.func 244) #[] #[]] j λaG ao=>∃I G,aG=.tuple #[.slice I (l.erase v).length G,.bool (decide (v∈l))]/\((0< (l.erase v).length->∃b,I=(ak b))/\(l.erase v).length<=G/\G<=maxLen)/\ao=own 45 3 I (l.erase v).length G (flat (l.erase v))::j:=by
 have aa:=Y.len bs;have W:=λj Y=>Lk O n U l v j Y Z al
 by_cases J:v∈l
 ·rw[decide_eq_true J]at W;rw[decide_eq_true J];obtain⟨aA,ay⟩:=Wb al v J;generalize js v l=am at*
  refine ap λg F=> ?_;refine aS λar=> ?_;refine bw p (W _ cr) ?_;iterate 5 refine ad ?_
  refine bD ?_;refine ad ?_;refine aD (cL p) ?_;refine dG ?_;refine b5 (j:=F::j) az ?_;have ag:=λb G M=>(yh b l.length G am l M p C aA).made;rw[ay]at ag;refine K ?_;refine GE (aw p (lI O n U l _ cr Z)) ?_;rintro _ _ ⟨R,Q,rfl,ae,rfl⟩;iterate 3 refine ad ?_
  refine GE (aw p (D.pick aI (show D _ _ _ (own 45 3 R l.length Q (flat l):: _) _ from by obtain⟨b,rfl⟩:=ae C;exact ag b Q _))) ?_;rintro _ _ ⟨I,G,rfl,au,av,aC,rfl⟩;iterate 2 refine ad ?_
  refine af ?_;exact aj (C:=own 45 3 I (l.erase v).length G (flat (l.erase v))::j) p (.tmp p (.tmp p .nil)) aq ⟨I,G,rfl,⟨au,av,aC⟩,rfl⟩
 ·rw[decide_eq_false J]at W;rw[decide_eq_false J,HD J];generalize js v l=am at*
  refine ap λg F=> ?_;refine aS λar=> ?_;refine bw p (W _ cr) ?_;iterate 5 refine ad ?_
  refine bD ?_;refine ad ?_;refine aD (cL p) ?_;refine f7 ?_;refine b5 (j:=F::j) az ?_;refine K ?_;refine GE (aw p ((lI O n U l _ cr Z).made)) ?_;rintro _ _ ⟨R,Q,rfl,ae,ax,aE,rfl⟩;iterate 2 refine ad ?_
  refine af ?_;exact aj (C:=own 45 3 R l.length Q (flat l)::j) p (.tmp p (.tmp p .nil)) aq ⟨R,Q,rfl,⟨ae,ax,aE⟩,rfl⟩
def bI(j:List Int)(s:I):Nat×Nat:=(fu j s.x,fu j s.y)
@[reducible] def kr (J:fN) (D:bA) (C:bA) (n G:Nat) (I:Int) (E:Nat):List Value:=[.pointer J.addr,.pointer D,.slice C n G,j I,j (E:Nat)]
@[reducible] def _root_.Go.Proofs.YtioamnghkmcbbaaGreat.I.eK (s:I):List Value:=[j s.id,j s.x,j s.y]
@[reducible] def sz:I->Bool:=λ_=>false
def Ch(s:I)(G:bA)(J:Nat)(E:List I)(C:bA)(D:Nat)(j:List I):Prop:=j=dW s E/\h9 C D j
def yr(s:I)(G:bA)(J:Nat)(E:List I)(C:bA)(D:Nat)(j:List I):Prop:=j=E.erase s/\h9 C D j
theorem _root_.Go.Proofs.YtioamnghkmcbbaaGreat.eF.put{q l s D E G t}(h:eF q l D G t sz)(I:dw l)(K:(q s).1<=(q s).2)(J:ia (q s).1 (q s).2 (Ch s) D E):eF q (dW s l) E G t sz:=
 eF.laid (g:=dW s) (λ_ _ _ _ _ _ h=>h.1) (λC j=>by rw[DI C s l I,j];rfl) (λC j=>by rw[DI C s l I,j];rfl) K h p J
def _root_.Go.Proofs.YtioamnghkmcbbaaGreat.eF.cut{q l s j C D I}(h:eF q l j D I sz)(K:(q s).1<=(q s).2)(J:ia (q s).1 (q s).2 (yr s) j C):eF q (l.erase s) C D I sz:=
 eF.laid (g:=λO=>O.erase s) (λ_ _ _ _ _ _ h=>h.1) (λG E=>by rw[KL G s l,E];rfl) (λG E=>by grind) K h p J
def VE(s U b W Z G I j Y q M)(am:h9 G I j)(au:j.length<=1000)(ao:dw j):
  D E 465 #[R b,R U] (ae U 45 s.eK::ae b 313 (iw W Z G j.length I Y q)::own 45 3 G j.length I (flat j)::M) λv ag=>v=.tuple #[]/\∃J K Q,(Ch s G I j J K Q/\True)/\ag=ae U 45 s.eK::ae b 313 (iw W Z J Q.length K Y q)::own 45 3 J Q.length K (flat Q)::M:=by
 have ap:∀M,Rd (own 45 3 G _ I _::M) G _ j:=λM=>aM.own (bU j) am.1;refine bH λg F=> ?_;refine aF ?_;refine aW (aE [0,1,2,3,4,5] (.e 6 (.q 7 (.q 8 (.e 9 .nil))))) ?_;iterate 6 refine ai ?_
 refine an (a1 p p p (aw p ((yD G _ I j s _ (by repeat' first|exact ap _|apply Rd.skip) C ao).made)) ?_);rintro _ _ ⟨J,K,rfl,ak,al,ar,rfl⟩;refine cM ?_;iterate 2 refine ai ?_
 refine an (cj O p p p (c5 p p p cd) ?_);rintro _ _ ⟨rfl,rfl⟩;refine aF ?_;exact e6 rfl .nil aq ⟨rfl,J,K,dW s j,⟨⟨rfl,ak,al⟩,trivial⟩,rfl⟩
def S0(s U b W Z G K j Y q M)(am:h9 G K j)(au:j.length<=1000)(ao:dw j):
  D E 396 #[R b,R U] (ae U 45 s.eK::ae b 313 (iw W Z G j.length K Y q)::own 45 3 G j.length K (flat j)::M) λv ag=>v=.tuple #[]/\∃I J Q,(yr s G K j I J Q/\True)/\ag=ae U 45 s.eK::ae b 313 (iw W Z I Q.length J Y q)::own 45 3 I Q.length J (flat Q)::M:=by
 have ap:∀M,Rd (own 45 3 G _ K _::M) G _ j:=λM=>aM.own (bU j) am.1;refine bH λg F=> ?_;refine aF ?_;refine aW (aE [0,1,2,3,4,5] (.e 6 (aE [7,8,9,10,11] (.e 12 .nil)))) ?_;iterate 6 refine ai ?_
 refine an (a1 p p p (aw p (In G _ K j s _ (by repeat' first|exact ap _|apply Rd.skip) C ao)) ?_);rintro _ _ ⟨I,J,rfl,⟨ak,al,ar⟩,rfl⟩;refine cM ?_;iterate 5 refine ai ?_
 refine an (cj O p p p (c5 p p p cd) ?_);rintro _ _ ⟨rfl,rfl⟩;refine aF ?_;exact e6 (j:=[]) (C:=ae U 45 s.eK::ae b 313 (iw W Z I (j.erase s).length J Y q)::own 45 3 I (j.erase s).length J (flat (j.erase s))::M) p .nil aq ⟨rfl,I,J,j.erase s,⟨⟨rfl,ak,al⟩,trivial⟩,rfl⟩
section
variable{S:Type}{se:FuncId}[b4 E se]{dt d5:cs}{W:S->List aO}{step:S->Nat->Nat->List I->S}{dL:S->Nat->Prop}{s5:Nat->Nat->List I->Nat}{vJ:Option Addr->Nat->List I->Option Addr->Nat->List I->Prop}{vR:Nat->Nat->Option Addr->Nat->List I->Prop}
def Po
  (aS:∀(s:S) (ag b Z O:Nat) (U:bA) (Y:Nat) (Q:List I) (ax q:bA) (M:aG),vR Z O U Y Q->dL s (s5 Z O Q+ag)->D E se (dt++[R b]++d5).toArray (W s++ae b 313 (iw Z O U Q.length Y ax q)::own 45 3 U Q.length Y (flat Q)::M) λv ar=>v=.tuple #[]/\∃ao au am,(vJ U Y Q ao au am/\dL (step s Z O Q) ag)/\ar=W (step s Z O Q)++ae b 313 (iw Z O ao am.length au ax q)::own 45 3 ao am.length au (flat am)::M)
  (O:Nat) (j:fN) (J:bt) (U:bA) (n Y:Nat) (aY:Int) (aI:Nat) (s:I) (ak:S) (ag:Nat) (M:aG) (av:aB M O 0 5 (kr j J.addr U n Y aY aI)) (a2:c6 M j) (o:j.ok) (a1:j.ay.length<=1000) (aX:s.x<=s.y) (aP:J.each vR) (aK:dL ak (J.at_ (bI j.ay s).1 (bI j.ay s).2 s5+ag)):
  D E 248 #[R O,s.v,.func (.func se) dt.toArray d5.toArray] ((λh=>G (W ak) h)::dz J::M) λv ar=>v=.tuple #[]/\∃al,(ia (bI j.ay s).1 (bI j.ay s).2 vJ J al/\dL (J.run (bI j.ay s).1 (bI j.ay s).2 step ak) ag)/\ar=(λh=>G (W (J.run (bI j.ay s).1 (bI j.ay s).2 step ak)) h)::dz al::M:=by
 have a0:=av.at_ (i:=0) p;have aa:=av.at_ (i:=1) p;have aQ:=λaA h=>Q7 j _ _ aA h o C aX;have aV:=λM=>WJ aS J ak ag M aP aK;refine ap λg F=> ?_;refine aU λaZ=> ?_;refine aL ?_;refine aW (aE [0,1,2,3,4,5,6,7] (.e 8 (aE [9,10,11,12,13,14,15] .nil))) ?_;iterate 8 refine ai ?_
 refine cU p p (aQ _ (by grind[c6.skip])) ?_;refine K ?_;refine GE (aw p (D.pre aq (aV _))) ?_;rintro _ _ ⟨rfl,al,⟨aC,aH⟩,rfl⟩;refine af ?_;exact e6 (D:=[]) (j:=[]) (C:=(λh=>G (W (J.run (fu j.ay s.x) (fu j.ay s.y) step ak)) h)::dz al::M) p .nil aq ⟨rfl,al,⟨aC,aH⟩,rfl⟩
end
def L5(Y:Nat)(C:fN)(j:bt)(J:bA)(n Q:Nat)(am:Int)(ak:Nat)(s:I)(M:aG)(ag:aB M Y 0 5 (kr C j.addr J n Q am ak))(al:c6 M C)(o:C.ok)(aA:C.ay.length<=1000)(aC:s.x<=s.y)(av:j.each λ_ _ J Q W=>h9 J Q W/\W.length<=1000/\dw W):
  D E 391 #[R Y,s.v] (dz j::M) λv ao=>v=.tuple #[]/\∃U,ia (bI C.ay s).1 (bI C.ay s).2 (Ch s) j U/\ao=dz U::M:=by
 refine ap λg F=> ?_;refine aU λO=> ?_;refine aL ?_;have ax:=λM ag al=>Po (dt:=[]) (W:=λ_=>[ae O 45 _]) (step:=λs _ _ _=>s) (s5:=λ_ _ _=>0) (λ_ aH b au Y J Q W aE q M Z _=>VE s O b au Y J Q W aE q M Z.1 Z.2.1 Z.2.2) Y C j J n Q am ak s () 0 M ag al o aA aC av trivial;refine K ?_;refine GE (aw p (D.pre (M:=(λh=>G [ae O 45 s.eK] h)::dz j::F::M) (λh q=>(show ∀h,G _ h->G ((λh=>G [ae O 45 s.eK] h)::dz j::F::M) h from λh q=>G.join (N:=[ae O 45 s.eK]) ((show ∀h,G _ h->G (ae O 45 s.eK::dz j::F::M) h from aq) h q)) h q) (ax _ (by repeat' first|exact ag|apply aB.skip) (by simp_all[c6.skip])))) ?_;rintro _ _ ⟨rfl,U,⟨ar,_⟩,rfl⟩;refine af ?_;exact e6 (D:=[]) (j:=[]) (C:=dz U::M) p .nil aq ⟨rfl,U,ar,rfl⟩
def ZR(W:Nat)(K:fN)(Q:bt)(C:bA)(n J:Nat)(ak:Int)(ag:Nat)(s:I)(O:Nat)(M:aG)(aw:aB M W 0 5 (kr K Q.addr C n J ak ag))(ax:c6 M K)(o:K.ok)(au:K.ay.length<=1000)(av:s.x<=s.y)(ar:Q.each λ_ _ C J j=>h9 C J j/\j.length<=1000/\dw j):
  D E 248 #[R W,s.v,.func (.func 396) #[] #[R O]] (ae O 45 s.eK::dz Q::M) λv Z=>v=.tuple #[]/\∃U,ia (bI K.ay s).1 (bI K.ay s).2 (yr s) Q U/\Z=dz U::M:=
 ((Po (S:=Unit) (se:=396) (dt:=[]) (d5:=[R O]) (W:=λ_=>[ae O 45 s.eK]) (step:=λs _ _ _=>s) (dL:=λ_ _=>True) (s5:=λ_ _ _=>0) (vJ:=yr s) (vR:=λ_ _ C J j=>h9 C J j/\j.length<=1000/\dw j) (λ_ aE b ap W C J j aA q M Y _=>S0 s O b ap W C J j aA q M Y.1 Y.2.1 Y.2.2) W K Q C n J ak ag s () 0 M aw ax o au av ar trivial).pre (λh q=>G.join (N:=[ae O 45 s.eK]) q)).dR λv Z aC ⟨al,U,⟨am,_⟩,ao⟩ q=>⟨dz U::M,⟨al,U,am,rfl⟩,(ao▸q).tail⟩
def _root_.Go.Proofs.YtioamnghkmcbbaaGreat.eF.pf{q:I->Nat×Nat}{l:List I}{D:bt}{G Q:Nat}{o:I->Bool}(h:eF q l D G Q o)(J:D.each λ_ _ C E j=>h9 C E j)(K:l.length<=1000)(O:dw l):D.each λ_ _ C E j=>h9 C E j/\j.length<=1000/\dw j:=
 (J.and h.sub).mono λ_ _ _ _ _ h=>⟨h.1,h0 h.2.1.length_le K,O.sub h.2.1⟩
def ZH{l}(D:dw l){j}(C):l.take (j+1)=dW l[j] (l.take j):=by
 rw[gu C,X0];intro E G;have aa:=gu C;have ab:=aa▸D.sub (vC _ _);unfold dw at ab;grind
def I2(Z:Nat)(ba J:fN)(a5 j:bA)(G:Nat)(l:List I)(ak:Int)(W:Nat)(M:aG)(o:J.ok)(aY:J.ay.length<=1000)(bg:l.length<=1000)(aC:dw l)(aW:h9 j G l)(a1:∀s∈l,s.x<=s.y)(bf:W<=1000000):
  D E 392 #[R Z,.pointer J.addr] (ae Z 270 (kr ba a5 j l.length G ak W)::ko J::own 45 3 j l.length G (flat l)::M) λv aK=>v=.tuple #[]/\∃U,(eF (bI J.ay) l U 0 (2*J.ay.length) sz/\U.each λ_ _ j G ag=>h9 j G ag)/\aK=ae Z 270 (kr J U.addr j l.length G ak (W+1))::ko J::own 45 3 j l.length G (flat l)::dz U::M:=by
 have ao:=λM=>AS o M;refine ap λg F=> ?_;refine a9 (IM J _ (by repeat' first|exact ao _|apply c6.skip)) ?_;refine GE (aw p (qz (2*J.ay.length) 0 (2*J.ay.length) _ Q Q C)) ?_;rintro _ _ ⟨al,rfl,⟨aZ,aX⟩,rfl⟩;refine K ?_;refine af ?_;refine cJ (λO=>[(0,.pointer _),(27,.slice j _ G),(28,.int _ _),(29,.int _ (O.1:Nat))]) (λO=>dz O.2::F::ae Z 270 (kr J al.addr j l.length G ak (W+1))::ko J::own 45 3 j l.length G (flat l)::M) (λO=>O.1<=l.length/\eF (bI J.ay) (l.take O.1) O.2 0 (2*J.ay.length) sz/\(O.2.each λ_ _ j G ag=>h9 j G ag)/\O.2.addr=al.addr) (λO=>l.length-O.1) (0,al) ⟨bu _,aZ _ _,aX,rfl⟩ a8 aq ?_;rintro⟨Y,ar⟩ ⟨be,am,au,aS⟩;refine K ?_;refine af ?_;refine cp p (λax=> ?_) (λax=> ?_)
 ·have a0:Rd (own 45 3 j l.length G (flat l)::M) j l.length l:=aM.own (bU l) aW.1;obtain⟨aP,a4,rfl,bb⟩:=a0.at_ C;have aV:=cb C;have bc:=bb _ _ aV;have a6:=ZH aC ax;have aE:=a1 l[Y] (hp _);generalize l[Y]=a7 at*
  have bh:=bc;have a3:(l.take Y).length<=1000:=by grind
  have aH:dw (l.take Y):=aC.sub (vC _ _);refine K ?_;refine aU λbd=> ?_;refine cF ?_;refine aL ?_;have aA:=λaO a2 ao=>L5 Z J ar (some ⟨aP,a4,none⟩) l.length G ak (W+1) a7 aO a2 ao o aY aE (am.pf au a3 aH);rw[aS]at aA;refine K ?_;refine GE (aw p (D.pick aI (aA _ bS (by repeat' first|exact ao _|apply c6.skip)))) ?_;rintro _ _ ⟨rfl,U,av,rfl⟩;refine K ?_;refine af ?_;refine bM (Y+1,U) ⟨C,?_,?_,by rw[av.addr];omega⟩ C a8 aq
  ·rw[a6];exact am.put aH (wc _ aE) av
  ·exact av.each (P:=λ_ _ j G ag=>h9 j G ag) (λ_ _ _ _ _ _ _ _ _ g=>g.2) au
 ·have aQ:Y=l.length:=C;subst aQ;rw[k0]at am;refine aF ?_;refine e6 (D:=[]) (j:=[]) (C:=ae Z 270 (kr J al.addr j l.length G ak (W+1))::ko J::own 45 3 j l.length G (flat l)::dz ar::M) p .nil aq ⟨rfl,ar,⟨am,au⟩,by grind⟩
def eL(l:List I):List Int:=l.flatMap λs=>[s.x,s.y]
theorem Tq(l s):eL (l++[s])=eL l++[s.x,s.y]:=by simp[eL]
theorem qG(l):(eL l).length=2*l.length:=by
 induction l with
 |nil=>rfl
 |cons j l C=>grind[eL,vA]
def Zy(Z aW aQ O Y l aP av J)(aO:aB J Z 0 5 (kr aW aQ O l.length Y aP av))(aL:Rd J O l.length l)(a4:l.length<=1000):
  D E 395 #[R Z] J λv am=>Cp (fA (eL l)) J v am:=by
 have ab:aR J _ _:=aO.at_ (i:=2) p;refine bH λg F=> ?_;refine b5 (own.nil_ 3 1) ?_;refine K ?_;refine af ?_;refine cJ (ι:=Nat×Option _×Nat) (λG=>[(3,.slice G.2.1 (2*G.1) G.2.2),(9,.slice O _ Y),(10,.int _ _),(11,j (G.1:Nat))]) (λG=>own 3 1 G.2.1 (2*G.1) G.2.2 (flat (eL (l.take G.1)))::F::J) (λG=>G.1<=l.length/\2*G.1<=G.2.2/\(0<2*G.1->∃b,G.2.1=(ak b))) (λG=>l.length-G.1) (0,none,0) ⟨bu _,bu _,λh=>absurd h (dc 0)⟩ a8 (λ_ s=>s) ?_;rintro⟨I,ao,aA⟩ ⟨aG,U,W⟩;simp only at aG U W;refine K ?_;refine af ?_;refine cp p (λax=> ?_) (λax=> ?_)
 ·obtain⟨a0,a6,rfl,aX⟩:=aL.at_ C;have aH:=cb C;have aY:=aX _ _ aH;have aV:eL (l.take (I+1))=eL (l.take I)++[l[I].x,l[I].y]:=by grind[gu,Tq]
  generalize l[I]=ae at*
  have a7:=aY;refine K ?_;refine aS λa2=> ?_;refine aU λa1=> ?_;refine GE (bx p p aI cn (cS p) aZ Q ah ah) ?_;rintro _ _ ⟨al,ay,rfl,a3,a5,aK,rfl⟩;refine K ?_;refine af ?_;refine bM (I+1,al,ay) ⟨C,C,λ_=>aK Q⟩ C a8 ?_;have aE:flat (eL (l.take (I+1)))=flat (eL (l.take I))++[Value.int .i64 ae.x,j ae.y]:=by rw[aV,fI];rfl
  simp[aE];exact aq
 ·have aC:I=l.length:=C;subst aC;rw[k0];rw[<- qG]at U W;rw[<- qG];refine K ?_;refine GE (aw p (Cu ao (eL l).length aA (eL l) _ (aM.own (bU _) W) (by rw[qG];omega) U)) ?_;rintro _ _ ⟨ag,ap,ar,au,rfl,rfl⟩;refine ad ?_;refine af ?_;exact aj (C:=ko ag::J) p (.tmp p .nil) aq ⟨ag,ap,ar,au,rfl,rfl⟩
def hy(s:I):Bool:=kg s.id&&dF s.x&&dF s.y&&decide (s.x<=s.y)
def yv(s Q):D E 383 #[s.v] Q λv R=>v=.bool (hy s)/\R=Q:=by
 refine ap λg F=> ?_;refine aS λU=> ?_;refine a9 (wQ _ _) ?_;refine f0 p p p (λG=> ?y731) (λG=> ?n731)
 case' n731=>
  have I:=G;try simp only[jQ]at I
  refine K ?_;refine af ?_;refine aj p (.tmp p .nil) az ⟨by simp_all[bG,hy],rfl⟩
 case' y731=>
  have I:=G;try simp only[jQ]at I
  refine K ?_;refine bw p (m1 _ _) ?_;refine aD (eP p G p) ?_;refine ad ?_;refine f0 p p p (λC=> ?y735) (λC=> ?n735)
  case' n735=>
   have J:=C;try simp only[jQ]at J
   refine el p p p C ?_;refine el p p p C ?_;refine aD (eW p C p) ?_;iterate 8 refine ad ?_
   refine af ?_;refine aj p (.tmp p .nil) az ⟨by simp_all[bG,hy],rfl⟩
  case' y735=>
   have J:=C;try simp only[jQ]at J
   refine ad ?_;refine br p p p C ?_;refine ad ?_;refine br p p p C ?_;refine bw p (m1 _ _) ?_;refine aD (eP p C p) ?_;refine ad ?_;refine f0 p p p (λj=> ?y739) (λj=> ?n739)
   case' n739=>
    have O:=j;try simp only[jQ]at O
    refine el p p p j ?_;refine el p p p j ?_;refine el p p p j ?_;refine el p p p j ?_;refine aD (eW p j p) ?_;refine ad ?_;refine af ?_;refine aj p (.tmp p .nil) az ⟨by simp_all[bG,hy],rfl⟩
   case' y739=>
    have O:=j;try simp[Bool.not_eq_false']at O
    refine ad ?_;refine br p p p j ?_;refine ad ?_;refine br p p p j ?_;refine ad ?_;refine br p p p j ?_;refine ad ?_;refine br p p p j ?_;refine ad ?_;refine aD (eP p j p) ?_;refine ad ?_;refine af ?_;refine aj p (.tmp p .nil) az ⟨by simp_all[bG,hy],rfl⟩
structure hJ (G:fN) (E:bt) (C:bA) (D:Nat) (l J:List I) (j:List Int):Prop where
 nT:G.ok
 rq:G.ay=j
 pf:E.each λ_ _ C D K=>h9 C D K
 a:h9 C D l
 mn:dw l
 sW:eF (bI j) l E 0 (2*j.length) sz
 ends:∀s∈l,s.x∈j/\s.y∈j/\s.x<=s.y
 small:j.length<=4*l.length+6
 perm:l.Perm J
structure m6 (j:aG) (t:Nat) (x:fN) (X:bt) (C:bA) (E:Nat) (l:List I) (G:Int) (D:Nat):Prop where
 t:aB j t 0 5 (kr x X.addr C l.length E G D)
 x:c6 j x
 X:h2 j X
 l:Rd j C l.length l
theorem m6.skip{I C t x X j E l G D}(h:m6 C t x X j E l G D):m6 (I::C) t x X j E l G D:=⟨h.t.skip,h.x.skip,h.X.skip,h.l.skip⟩
def gr(K:Nat)(E:fN)(C:bt)(j:bA)(D:Nat)(l:List I)(J:Int)(G:Nat)(M:aG):List aO:=ae K 270 (kr E C.addr j l.length D J G)::ko E::dz C::own 45 3 j l.length D (flat l)::M
def hJ.wO{E C j D l O K}(o:hJ E C j D l O K)(J I G M):m6 (gr J E C j D l I G M) J E C j D l I G:=
 ⟨aB.ae p,c6.skip (AS o.nT _),h2.skip (h2.skip (F0 o.pf _)),Rd.skip (Rd.skip (Rd.skip (aM.own (bU l) o.a.1)))⟩
def Pq(O ag U G I l ae W s j)(h:m6 j O ag U G I l ae W)(Z:dw l)(am:l.length<=1000):
  D E 389 #[R O,s.v] j λv Q=>v=.bool (decide (s∈l))/\Q=j:=by
 have ab:=h.t.at_ (i:=2) p;have K:=h.l;generalize Y:decide (s∈l)=al;have J:=λj K=>Qu G l.length I l s j K C Z;rw[Y]at J;refine ap λg F=> ?_;refine aS λak=> ?_;refine af ?_;refine aW (aE [0,1,2,3,4,5,6,7] (.e 8 (.q 9 (.q 10 .nil)))) ?_;iterate 8 refine ai ?_
 refine an (f9 p p p ⟨_,rfl,rfl⟩ p (aw p (J _ cr)) ?_);rintro _ _ ⟨rfl,rfl⟩;refine cM ?_;exact dq
def fV(C:Int)(j:List I)(s:I):Int:=if hy s=false then 1 else if s∈j then 5 else if C<=(j.length:Nat)then 4 else 0
def t8(j:List Int)(s:I):Bool:=lW j s.x&&lW j s.y
def ou(j:List Int)(s:I):List Int:=if t8 j s then j else fA (j++[s.x,s.y])
def qQ(j:List Int)(s:I)(b:Nat):Nat:=if t8 j s then b else b+1
theorem hy.le{s}(h:hy s=true):s.x<=s.y:=by unfold hy at h;simp_all
def Zv(W G Z U Y l al ag I J s M)(o:hJ G Z U Y l al ag)(bM:al.length<=100)(bL:J<=100000):
  D E 290 #[R W,s.v] (gr W G Z U Y l I J M) λv ar=>v=j (fV I al s)/\∃ax aQ am ao a5,(if fV I al s=0 then hJ ax aQ am ao a5 (al++[s]) (ou ag s)else ax=G/\aQ=Z/\am=U/\ao=Y/\a5=l)/\ar=gr W ax aQ am ao a5 I (if fV I al s=0 then qQ ag s J else J) M:=by
 have aO:=o.wO W I J M;have bO:l.length=al.length:=o.perm.length_eq;have ab:∀ar,aR (ae W 270 (kr G Z.addr U _ Y I J)::ar) ⟨W,0+2,none⟩ (.slice U l.length Y):=λar=>aR.ae p;have aG:=λaH h=>Pq W G Z U Y l I J s aH h o.mn C;have bs:decide _=decide (s∈al):=decide_eq_decide.2 o.perm.mem_iff;rw[bs]at aG
 by_cases bg:hy s=false
 ·have aA:fV I al s=1:=by simp_all[fV,if_pos]
  have aC:=yv s;rw[bg]at aC;rw[aA];refine D.mono (post:=λv ar=>v=j 1/\ar=gr W G Z U Y l I J M) ?_ (λv ar h=>⟨h.1,G,Z,U,Y,l,⟨rfl,rfl,rfl,rfl,rfl⟩,h.2⟩);generalize gr W G Z U Y l I J M=a6 at*
  refine ap λg F=> ?_;refine aS λaP=> ?_;refine br p p p p ?_;refine bw p (aC _) ?_;refine br p p p p ?_;refine aD (cL p) ?_;exact dq
 ·have aC:=yv s;have a7:hy s=true:=by simp_all
  have be:=hy.le a7;rw[a7]at aC
  by_cases aV:s∈al
  ·have aA:fV I al s=5:=by simp_all[fV,if_neg,if_pos]
   rw[decide_eq_true aV]at aG;rw[aA];refine D.mono (post:=λv ar=>v=j 5/\ar=gr W G Z U Y l I J M) ?_ (λv ar h=>⟨h.1,G,Z,U,Y,l,⟨rfl,rfl,rfl,rfl,rfl⟩,h.2⟩);generalize gr W G Z U Y l I J M=a6 at*
   refine ap λg F=> ?_;refine aS λaP=> ?_;refine br p p p p ?_;refine bw p (aC _) ?_;refine br p p p p ?_;refine aD (cL p) ?_;refine K ?_;refine a9 (aG _ aO.skip.skip) ?_;refine af ?_;refine aj p (.tmp p .nil) az ⟨rfl,rfl⟩
  ·rw[decide_eq_false aV]at aG
   by_cases bC:I<=(al.length:Nat)
   ·have aA:fV I al s=4:=by simp_all[fV,if_neg,if_pos]
    rw[aA];refine D.mono (post:=λv ar=>v=j 4/\ar=gr W G Z U Y l I J M) ?_ (λv ar h=>⟨h.1,G,Z,U,Y,l,⟨rfl,rfl,rfl,rfl,rfl⟩,h.2⟩);have bI:aR (gr W G Z U Y l I J M) ⟨W,0+2,none⟩ (.slice U l.length Y):=aO.t.at_ (i:=2) p;have bJ:aR (gr W G Z U Y l I J M) ⟨W,0+3,none⟩ (j I):=aO.t.at_ (i:=3) p;generalize gr W G Z U Y l I J M=a6 at*
    refine ap λg F=> ?_;refine aS λaP=> ?_;refine br p p p p ?_;refine bw p (aC _) ?_;refine br p p p p ?_;refine aD (cL p) ?_;refine K ?_;refine a9 (aG _ aO.skip.skip) ?_;refine aW (aE [0,1,2,3,4,5,6,7,8,9] (.q 10 .nil)) ?_;iterate 11 refine ai ?_
    refine cK ?_;refine cD p (decide_eq_true C) ?_;exact dq
   ·have aA:fV I al s=0:=by simp_all[fV,if_neg]
    have bl:G.ay.length<=1000:=by rw[o.rq];have:=o.small;omega
    have bT:=λaH h=>OC G s.x aH h o.nT C;have a4:=o.rq;have bx:s∉l:=λh=>aV (o.perm.mem_iff.1 h);rw[aA];simp only[if_true];unfold gr;refine ap λg F=> ?_;refine aS λaP=> ?_;refine br p p p p ?_;refine bw p (aC _) ?_;refine br p p p p ?_;refine aD (cL p) ?_;refine K ?_;refine a9 (aG _ aO.skip.skip) ?_;refine aW (aE [0,1,2,3,4,5,6,7,8,9] (.q 10 .nil)) ?_;iterate 11 refine ai ?_
    refine cK ?_;refine b2 p (decide_eq_false C) ?_;refine aF ?_;have bN:=X1 s l;have a2:=NP s l o.mn bx;have bp:([s.x,s.y].all (lW G.ay))=t8 ag s:=by simp[t8,a4]
    have bt:∀M,Rd (own 45 3 U l.length Y (flat l)::M) U l.length l:=λM=>aM.own (bU l) o.a.1;have a3:∀M,c6 (ko G::M) G:=λM=>AS o.nT M;refine aW (aE [0,1,2,3,4,5] (.e 6 (.q 7 (.q 8 (.e 9 .nil))))) ?_;iterate 6 refine ai ?_
    refine an (a1 p p p (aw p ((yD U l.length Y l s _ (by repeat' first|exact bt _|apply Rd.skip) C o.mn).made)) ?_);rintro _ _ ⟨am,ao,rfl,aX,aY,bF,rfl⟩;refine cM ?_;iterate 2 refine ai ?_
    refine an (cj O p p p (c5 p p p cd) ?_);rintro _ _ ⟨rfl,rfl⟩;refine b5 (j:=ae aP 45 s.eK::ae W 270 (kr G Z.addr am (dW s l).length ao I J)::ko G::dz Z::own 45 3 am (dW s l).length ao (flat (dW s l))::F::M) aq ?_;refine aW (aE [0,1,2,3,4,5,6,7] (.e 8 (.e 9 .nil))) ?_;iterate 8 refine ai ?_
    refine hu λbf=> ?_;refine an (cj O p p p (aw p (Rk G (ak bf) 2 2 [s.x,s.y] _ (by repeat' first|exact a3 _|apply c6.skip) o.nT C (by repeat' first|exact aM.ae p|apply Rd.skip) Q)) ?_);rintro _ _ ⟨rfl,rfl⟩;rw[bp];have bq:∀av∈dW s l,av.x<=av.y:=λav au=>by
     rcases cQ.1 ((sP s l).subset au)with rfl|au
     ·omega
     ·exact(o.ends av au).2.2
    have bc:(dW s l).Perm (al++[s]):=(sP s l).trans ((o.perm.cons s).trans (List.perm_append_singleton s al).symm);cases bh:t8 ag s with
    |true=>
     have a0:ou ag s=ag:=by simp_all[ou,if_pos]
     have aZ:qQ ag s J=J:=by simp_all[qQ,if_pos]
     have bQ:s.x∈ag/\s.y∈ag:=by unfold t8 lW at bh;simp_all
     rw[a0,aZ];refine K ?_;refine GE (aw p (D.pick aI (L5 W G Z am (dW s l).length ao I J s _ bS (by repeat' first|exact a3 _|apply c6.skip) o.nT bl be (o.sW.pf o.pf C o.mn)))) ?_;rintro _ _ ⟨rfl,aK,bb,rfl⟩;refine aL ?_;have bj:=bb.addr;have bd:=o.sW.put (s:=s) o.mn (wc _ be) (by rw[<- a4];omega);refine K ?_;refine af ?_;refine aj (C:=gr W G aK am ao (dW s l) I J M) p (.tmp p .nil) ?_ ⟨rfl,G,aK,am,ao,dW s l,⟨o.nT,o.rq,bb.each (P:=λ_ _ U Y bz=>h9 U Y bz) (λ_ _ _ _ _ _ _ _ _ g=>g.2) o.pf,⟨aX,aY⟩,a2,bd,λav au=> ?_,by have:=o.small;omega,bc⟩,rfl⟩
     ·unfold gr;rw[bj];exact aq
     ·rcases cQ.1 ((sP s l).subset au)with rfl|au
      ·simp_all
      ·exact o.ends av au
    |false=>
     have a0:ou ag s=fA (ag++[s.x,s.y]):=by unfold ou;simp_all
     have aZ:qQ ag s J=J+1:=by unfold qQ;simp_all
     have bm:=E7 (ag++[s.x,s.y]);rw[bP,fc,fc,vA]at bm;have bK:=sD (ag++[s.x,s.y]);rw[a0,aZ];have bV:=o.small;refine iT ?_;generalize bk:fA (ag++[s.x,s.y])=bA at*
     have ba:=λb aH h=>Ri G (ak b) 2 2 [s.x,s.y] aH h o.nT C;rw[a4,bk]at ba;refine aW (aE [0,1,2,3,4,5,6,7,8] (.e 9 (.e 10 (.e 11 .nil)))) ?_;iterate 9 refine ai ?_
     refine hu λbB=> ?_;refine an (a1 p p p (aw p (ba _ _ (by repeat' first|exact a3 _|apply c6.skip) (by repeat' first|exact aM.ae p|apply Rd.skip) Q Q)) ?_);rintro _ _ ⟨ax,bi,a8,bE,rfl,rfl⟩;refine cM ?_;refine an (cj O p p p (aw p (D.pre (M:=ae W 270 (kr G Z.addr am (dW s l).length ao I J)::ko ax::own 45 3 am (dW s l).length ao (flat (dW s l))::F::M) aq (I2 W G ax Z.addr am ao (dW s l) I J _ a8 (by grind) C a2 ⟨aX,aY⟩ bq C))) ?_);rintro _ _ ⟨rfl,aK,⟨bd,bn⟩,rfl⟩;refine K ?_;refine af ?_;refine aj (C:=gr W ax aK am ao (dW s l) I (J+1) M) p (.tmp p .nil) ?_ ⟨rfl,ax,aK,am,ao,dW s l,⟨a8,bi,bn,⟨aX,aY⟩,a2,by simp_all,λav au=> ?_,C,bc⟩,rfl⟩
     ·exact aq
     ·rcases cQ.1 ((sP s l).subset au)with rfl|au
      ·simp_all
      ·have:=o.ends av au;simp_all
def kd(j:List I)(s:I):Int:=if s∈j then 0 else 6
def uf(j:List Int)(C:List I):List Int:=if 4*C.length+4<j.length then fA (eL C)else j
def qD(j:List Int)(C:List I)(b:Nat):Nat:=if 4*C.length+4<j.length then b+1 else b
theorem zy(l v):v∈eL l<->∃s∈l,v=s.x\/v=s.y:=by simp[eL]
theorem Xl{l j}(h:l.Perm j):fA (eL l)=fA (eL j):=iD.unique (sE _) (sE _) λv=>by
 rw[sD,sD,zy,zy];grind
def Zq(Y G W ag ak l J al Z I s M)(o:hJ G W ag ak l J al)(bx:J.length<=100)(bt:I<=100000):
  D E 291 #[R Y,s.v] (gr Y G W ag ak l Z I M) λv ax=>v=j (kd J s)/\∃ao aI Q U aY,(if kd J s=0 then hJ ao aI Q U aY (J.erase s) (uf al (J.erase s))else ao=G/\aI=W/\Q=ag/\U=ak/\aY=l)/\ax=gr Y ao aI Q U aY Z (if kd J s=0 then qD al (J.erase s) I else I) M:=by
 have a3:=o.wO Y Z I M;have bA:l.length=J.length:=o.perm.length_eq;have av:=λaH h=>Pq Y G W ag ak l Z I s aH h o.mn C;have bg:decide _=decide (s∈J):=decide_eq_decide.2 o.perm.mem_iff;rw[bg]at av
 by_cases aK:s∈J
 ·have aO:kd J s=0:=by simp_all[kd,if_pos]
  rw[decide_eq_true aK]at av;have bb:G.ay.length<=1000:=by rw[o.rq];have:=o.small;omega
  have bj:=o.rq;have bi:s∈l:=o.perm.mem_iff.2 aK;have a7:=(o.ends s bi).2.2;rw[aO];simp only[if_true];have bz:(l.erase s).length<=l.length:=List.length_erase_le;have aX:dw (l.erase s):=o.mn.sub List.erase_sublist;have aG:(l.erase s).Perm _:=o.perm.erase s;have a4:∀am∈l.erase s,am.x<=am.y:=λam ar=>(o.ends am (oU ar)).2.2;have bh:∀M,Rd (own 45 3 ag _ ak _::M) ag _ l:=λM=>aM.own (bU l) o.a.1;have a5:∀M,c6 _ G:=λM=>AS o.nT M;have bB:=o.small;have bf:(J.erase s).length=(l.erase s).length:=aG.length_eq.symm;have bs:G.ay.length=al.length:=by grind
  unfold gr;refine ap λg F=> ?_;refine aS λaA=> ?_;refine bw p (av _ a3.skip.skip) ?_;refine aD (cL p) ?_;refine K ?_;refine aF ?_;refine aW (aE [0,1,2,3,4,5] (.e 6 (aE [7,8,9,10,11] (.e 12 .nil)))) ?_;iterate 6 refine ai ?_
  refine an (a1 p p p (aw p (In ag l.length ak l s _ (by repeat' first|exact bh _|apply Rd.skip) C o.mn)) ?_);rintro _ _ ⟨Q,U,rfl,⟨aC,aP,bp⟩,rfl⟩;refine cM ?_;iterate 5 refine ai ?_
  refine an (cj O p p p (c5 p p p cd) ?_);rintro _ _ ⟨rfl,rfl⟩;refine b5 (j:=ae aA 45 s.eK::ae Y 270 (kr G W.addr Q (l.erase s).length U Z I)::ko G::dz W::own 45 3 Q (l.erase s).length U (flat (l.erase s))::F::M) aq ?_;refine aW (aE [0,1,2,3,5,6,7,8,9,10,11] (.e 4 (.q 12 .nil))) ?_;iterate 10 refine ai ?_
  (first|refine dd p (zB (q:=4) p p ah) ?_|refine dd p (Dy p p ah) ?_)
  refine cU p p (IM G _ (by repeat' first|exact a5 _|apply c6.skip)) ?_;refine K ?_
  by_cases a8:4*(l.erase s).length+4<al.length
  ·have aV:uf al (J.erase s)=fA (eL (l.erase s)):=by unfold uf;rw[bf,if_pos a8,Xl aG]
   have aQ:qD al (J.erase s) I=I+1:=by simp_all[qD,if_pos]
   have bc:=E7 (eL (l.erase s));have a0:=sD (eL (l.erase s));rw[qG]at bc;rw[aV,aQ];have bd:=λaH aa ab=>Zy Y G W.addr Q U (l.erase s) Z I aH aa ab C;generalize bq:fA (eL (l.erase s))=bm at*
   refine aF ?_;refine cD p (decide_eq_true (by grind)) ?_;refine K ?_;refine GE (aw p (bd _ bS (by repeat' first|exact aM.own (bU _) aC|apply Rd.skip))) ?_;rintro _ _ ⟨ao,a9,aZ,bn,rfl,rfl⟩;refine GE (aw p (D.pre (M:=ae Y 270 (kr G W.addr Q (l.erase s).length U Z I)::ko ao::own 45 3 Q (l.erase s).length U (flat (l.erase s))::F::M) aq (I2 Y G ao W.addr Q U (l.erase s) Z I _ aZ (by grind) C aX ⟨aC,aP⟩ a4 C))) ?_;rintro _ _ ⟨rfl,au,⟨a6,be⟩,rfl⟩;refine K ?_;refine af ?_;refine aj (C:=gr Y ao au Q U (l.erase s) Z (I+1) M) p (.tmp p .nil) ?_ ⟨rfl,ao,au,Q,U,l.erase s,⟨aZ,a9,be,⟨aC,aP⟩,aX,by simp_all,λam ar=> ?_,C,aG⟩,rfl⟩
   ·unfold gr;exact aq
   ·exact⟨(a0 _).2 ((zy _ _).2 ⟨am,ar,.inl p⟩),(a0 _).2 ((zy _ _).2 ⟨am,ar,.inr p⟩),a4 am ar⟩
  ·have aV:uf al (J.erase s)=al:=by simp_all[uf,if_neg]
   have aQ:qD al (J.erase s) I=I:=by simp_all[qD,if_neg]
   rw[aV,aQ];refine aF ?_;refine b2 p (decide_eq_false (by grind)) ?_;refine K ?_;refine GE (aw p (D.pre (M:=ae aA 45 s.eK::dz W::ae Y 270 (kr G W.addr Q (l.erase s).length U Z I)::ko G::own 45 3 Q (l.erase s).length U (flat (l.erase s))::F::M) aq (ZR Y G W Q (l.erase s).length U Z I s aA _ bS (by repeat' first|exact a5 _|apply c6.skip) o.nT bb a7 (o.sW.pf o.pf C o.mn)))) ?_;rintro _ _ ⟨rfl,au,a2,rfl⟩;refine aL ?_;have ba:=a2.addr;have a6:=o.sW.cut (s:=s) (wc _ a7) (by rw[<- bj];omega);refine K ?_;refine af ?_;refine aj (C:=gr Y G au Q U (l.erase s) Z I M) p (.tmp p .nil) ?_ ⟨rfl,G,au,Q,U,l.erase s,⟨o.nT,o.rq,a2.each (P:=λ_ _ ag ak bk=>h9 ag ak bk) (λ_ _ _ _ _ _ _ _ _ g=>g.2) o.pf,⟨aC,aP⟩,aX,a6,λam ar=>o.ends am (oU ar),C,aG⟩,rfl⟩;unfold gr;rw[ba];exact aq
 ·have aO:kd J s=6:=by simp_all[kd]
  rw[decide_eq_false aK]at av;rw[aO];refine D.mono (post:=λv ax=>v=j 6/\ax=gr Y G W ag ak l Z I M) ?_ (λv ax h=>⟨h.1,G,W,ag,ak,l,⟨rfl,rfl,rfl,rfl,rfl⟩,h.2⟩);generalize gr Y G W ag ak l Z I M=bl at*
  refine ap λg F=> ?_;refine aS λaA=> ?_;refine bw p (av _ a3.skip.skip) ?_;refine aD (cL p) ?_;exact dq
def Gy(K I)(aa:1<=K)(ab:K<=1048576):D E 112 #[j K] I λv Z=>∃W Y J O U l,v=.tuple #[R W,j 0]/\hJ Y J O U l [] []/\Z=gr W Y J O U l K 0 I:=by
 refine ap λg F=> ?_;refine dE 6 p (decide_eq_false C) ?_;iterate 3 refine ad ?_
 refine af ?_;refine b2 p (decide_eq_false C) ?_;have ak:=λI=>qz 0 0 0 I (bv _) (bv _) Q;refine aJ ?_;refine GE (aw p (ak _)) ?_;rintro _ _ ⟨J,rfl,⟨am,al⟩,rfl⟩;iterate 2 refine ad ?_
 refine aS λae=> ?_;refine aL ?_;refine b5 (own.nil_ 45 3) ?_;have ag:∀{I M:aG},(∀h,G I h->G M h)->∀h,G I h->G _ h:=λg h s=>G.fold (N:=[]) (λ_ _=>trivial) (g h s);refine aF ?_;refine aj rfl (.tmp p (.tmp p .nil)) ?_ ⟨ae,.nil,J,none,0,[],rfl,⟨⟨λh=>absurd h (dc 0),bv _,.nil⟩,rfl,al,⟨λh=>absurd h (dc 0),bv _⟩,.nil,am _ _,λs h=>(by grind),bu _,.nil⟩,rfl⟩;exact(by(repeat first|exact bo|apply ag|refine b7 ?_)<;>fail)
section
variable{t:Nat}{x:fN}{X:bt}{A:bA}{c:Nat}{l:List I}{bT:Int}{mq:Nat}
def ZD(j)(h:m6 j t x X A c l bT mq):D E 581 #[R t] j λv C=>v=.pointer X.addr/\C=j:=by
 have G:=h.t.at_ (i:=1) p;refine ap λg F=> ?_;refine af ?_;refine aj p (.tmp p .nil) az ⟨rfl,rfl⟩
def ZB(j)(h:m6 j t x X A c l bT mq):D E 529 #[R t] j λv C=>v=.pointer X.addr/\C=j:=by
 refine ap λg F=> ?_;refine a9 (ZD _ h.skip) ?_;refine af ?_;refine aj p (.tmp p .nil) az ⟨rfl,rfl⟩
def ZQ(v G)(h:m6 G t x X A c l bT mq)(o:x.ok)(U:x.ay.length<=1000):D E 582 #[R t,j v] G λO J=>O=j (fu x.ay v:Nat)/\J=G:=by
 have Q:=h.t.at_ (i:=0) p;have K:=h.x;refine ap λg F=> ?_;refine a9 (Q6 x v _ K.skip o C) ?_;refine af ?_;refine aj p (.tmp p .nil) az ⟨rfl,rfl⟩
def Zp(v C)(h:m6 C t x X A c l bT mq)(o:x.ok)(J:x.ay.length<=1000):D E 530 #[R t,j v] C λK G=>K=j (fu x.ay v:Nat)/\G=C:=by
 refine ap λg F=> ?_;refine a9 (ZQ v _ h.skip o J) ?_;refine af ?_;refine aj p (.tmp p .nil) az ⟨rfl,rfl⟩
end
theorem w7{b I K G j E J D C}:bt.bY j (.node b I K E G J D C)=if C.i2 j then C else if D.i2 j then D else .nil:=rfl
theorem Y8{l j}(h:l.Perm j):bj l=bj j:=uo _ _ ((jz l).trans (h.trans (jz j).symm)) (mT l) (mT j)
theorem _root_.Go.Proofs.YtioamnghkmcbbaaGreat.eF.step{q l b G J U j R Q O K D E o}(h:eF q l (.node b G J R U Q O K) D E o)(aa:D<=j)(ab:j<=E):
  (bt.node b G J R U Q O K).i2 j=true/\(bt.node b G J R U Q O K).hm j=Q++(bt.bY j (.node b G J R U Q O K)).hm j/\
  (D=E/\bt.bY j (.node b G J R U Q O K)=.nil\/D<E/\j<=D+(E-D)/2/\bt.bY j (.node b G J R U Q O K)=O/\eF q l O D (D+(E-D)/2) (λs=>f2 q s D E)\/D<E/\D+(E-D)/2<j/\bt.bY j (.node b G J R U Q O K)=K/\eF q l K (D+(E-D)/2+1) E (λs=>f2 q s D E)):=by
 obtain⟨al,am,ar,ao⟩:=h;subst al am;have ae:∀{W:bt} {D E:Nat} {o:I->Bool},eF q l W D E o->W.i2 j=decide (D<=j/\j<=E):=λ{W D E o} h=>by
  cases W with
  |nil=>cases h
  |node=>obtain⟨ak,b,_⟩:=h;subst ak b;rfl
 refine⟨by simp[bt.i2,aa,ab],?_,?_⟩
 ·show(if G<=j/\j<=J then Q++(O.hm j++K.hm j)else[])= _;rw[if_pos ⟨aa,ab⟩]
  congr 1
  rw[w7];rcases ao with ⟨ap,Y,Z⟩|⟨ap,Y,Z⟩
  ·rw[ae Y,ae Z];rcases eC _ j with ag|ag
   ·rw[Br Y (.inr ag),List.nil_append,decide_eq_true (show G+(J-G)/2+1<=j/\j<=J by omega)];rfl
   ·rw[Br Z (.inl C),List.append_nil,decide_eq_false (show ¬(G+(J-G)/2+1<=j/\j<=J) by omega),decide_eq_true (show G<=j/\j<=G+(J-G)/2 by omega)];rfl
  ·subst Y Z;rfl
 ·rw[w7];grind
def rN(q:I->Nat×Nat)(l:List I)(C:Nat)(j:bt):Prop:=j=.nil\/∃D E o,eF q l j D E o/\D<=C/\C<=E
def _root_.Go.Proofs.YtioamnghkmcbbaaGreat.bt.pC:bt->Nat
 | .nil=>0
 | .node _ _ _ _ _ _ C j=>1+C.pC+j.pC
theorem rN.next{q l b G I E C D j lo hi}(h:rN q l C (.node b G I D E j lo hi)):
  (bt.node b G I D E j lo hi).i2 C=true/\(bt.node b G I D E j lo hi).hm C=j++(bt.bY C (.node b G I D E j lo hi)).hm C/\rN q l C (bt.bY C (.node b G I D E j lo hi))/\(bt.bY C (.node b G I D E j lo hi)).pC< (bt.node b G I D E j lo hi).pC/\j.Sublist l:=by
 rcases h with h|⟨Y,Z,o,h,aa,ab⟩
 ·grind
 ·obtain⟨Q,R,U⟩:=h.step aa ab;refine⟨Q,R,?_,?_,h.sub.1.1⟩
  ·rcases U with ⟨_,J⟩|⟨W,K,J,O⟩|⟨W,K,J,O⟩
   ·rw[J];exact .inl p
   ·rw[J];exact .inr ⟨_,_,_,O,aa,K⟩
   ·rw[J];exact .inr ⟨_,_,_,O,K,ab⟩
  ·rw[w7];split
   ·simp[bt.pC];omega
   ·split
    ·simp[bt.pC];omega
    ·simp[bt.pC];omega
theorem h2.next{C b E I D J j G lo hi}(h:h2 C (.node b E I j D G lo hi)):h2 C (bt.bY J (.node b E I j D G lo hi)):=by
 rw[w7];split
 ·exact h.2.2.2
 ·split
  ·exact h.2.2.1
  ·trivial
theorem UH(l):(d8 l).length=l.length:=gL _
section
variable{x:fN}{X:bt}{A:bA}{c:Nat}{l k:List I}{ay:List Int}
def hJ.leads(o:hJ x X A c l k ay)(v):rN (bI ay) l (fu ay v) X:=.inr ⟨0,_,_,o.sW,bu _,C6 ay v⟩
theorem hJ.hm(o:hJ x X A c l k ay)(v):(X.hm (fu ay v)).Perm (k.filter λs=>decide (s.x<=v/\v<=s.y)):=by
 refine(o.sW.hm (λ_ _ h=>by grind) (bu _) (C6 ay v)).trans (List.Perm.trans (.of_eq (List.filter_congr λs j=> ?_)) (o.perm.filter _));obtain⟨aa,ab,C⟩:=o.ends s j;have D:=SC ay (y:=v) aa;have E:=SB ay (y:=v) ab;unfold f2 bI;simp_all
end
section
variable{t:Nat}{x:fN}{X:bt}{A:bA}{c:Nat}{l k:List I}{ay:List Int}{bT:Int}{mq:Nat}
end
@[reducible] def aa8 (D E G:Nat) (s:I) (C:Nat×Bool):List aO:=[ae D 3 [j (C.1:Nat)],ae E 4 [.bool C.2],ae G 45 s.eK]
def ny(C:Int)(j:List I)(s:I):List I:=if fV C j s=0 then j++[s]else j
end S.eE
namespace S.eE
@[reducible] def abf (C:bA) (n G:Nat) (K:Int) (D:bA) (J I E:Nat):List Value:=[.slice C n G,j K,.slice D J I,j (E:Nat)]
structure dM where
 k:List I
 ay:List Int
 b:Nat
def F3(D:Nat)(C:Int)(s:dM)(j:fN×bt×Option Addr×Nat×List I):List aO:=gr D j.1 j.2.1 j.2.2.1 j.2.2.2.1 j.2.2.2.2 C s.b []
def F2(s:dM)(j:fN×bt×Option Addr×Nat×List I):Prop:=hJ j.1 j.2.1 j.2.2.1 j.2.2.2.1 j.2.2.2.2 s.k s.ay
def p6(D:Nat)(C:Int)(s:dM):aO:=λh=>∃j,F2 s j/\G (F3 D C s j) h
section
variable{P:Program}{f:FuncId}{args:Array Value}{L:aG}{t b:Nat}{bT:Int}{s:dM}{T:TypeId}{α:Type}[gv:e5 α]{m:List α}
def D.OQ{ag:Value->Prop}{Q}(W:∀(ae)(Y)(U)(Z)(l),hJ ae Y U Z l s.k s.ay->D P f args (gr t ae Y U Z l bT s.b L) λv E=>ag v/\∃R J C K O,hJ R J C K O Q.k Q.ay/\E=gr t R J C K O bT Q.b L):D P f args (p6 t bT s::L) λv E=>ag v/\E=p6 t bT Q::L:=
 (D.open (ι:=fN×bt×Option Addr×Nat×List I) (J:=F3 t bT s) (E:=F2 s) (λ_ h=>h) λj o=>W j.1 j.2.1 j.2.2.1 j.2.2.2.1 j.2.2.2.2 o).dR λv E ao ⟨ak,R,J,C,K,O,am,al⟩ q=>⟨_,⟨ak,rfl⟩,by
  subst al;exact G.fold (λh q=>⟨(R,J,C,K,O),am,q⟩) q⟩
end
def dM.ins(s:dM)(C:Int)(j:I):dM:=if fV C s.k j=0 then⟨s.k++[j],ou s.ay j,qQ s.ay j s.b⟩else s
def dM.del(s:dM)(j:I):dM:=if kd s.k j=0 then⟨s.k.erase j,uf s.ay (s.k.erase j),qD s.ay (s.k.erase j) s.b⟩else s
theorem dM.UO(s:dM)(j C):(s.ins j C).k=ny j s.k C:=by unfold dM.ins ny;grind
theorem dM.UN(s:dM)(C j):(s.ins C j).b=if fV C s.k j=0 then qQ s.ay j s.b else s.b:=by unfold dM.ins;grind
theorem dM.S8(s:dM)(j):(s.del j).k=s.k.erase j:=by
 unfold dM.del kd;grind[HD]
theorem dM.S7(s:dM)(j):(s.del j).b=if kd s.k j=0 then qD s.ay (s.k.erase j) s.b else s.b:=by unfold dM.del;grind
section
variable(t b:Nat)(bT:Int)(s:dM)(ag:I)(L:aG)
def Rp(U:s.k.length<=100)(Q:s.b<=100000):D E 290 #[R t,ag.v] (p6 t bT s::L) λv C=>v=j (fV bT s.k ag)/\C=p6 t bT (s.ins bT ag)::L:=
 D.OQ λW J G K l o=>(Zv t W J G K l s.k s.ay bT s.b ag L o U Q).mono λv C ⟨O,ao,Z,Y,ae,al,am,ak⟩=>⟨O,by
  unfold dM.ins;grind⟩
def Ro(U:s.k.length<=100)(Q:s.b<=100000):D E 291 #[R t,ag.v] (p6 t bT s::L) λv C=>v=j (kd s.k ag)/\C=p6 t bT (s.del ag)::L:=
 D.OQ λW J G K l o=>(Zq t W J G K l s.k s.ay bT s.b ag L o U Q).mono λv C ⟨O,ao,Z,Y,ae,al,am,ak⟩=>⟨O,by
  unfold dM.del;grind⟩
def pb(aa:1<=bT)(ab:bT<=1048576):D E 112 #[j bT] L λv C=>∃t,v=.tuple #[R t,j 0]/\C=p6 t bT ⟨[],[],0⟩::L:=
 (Gy bT L aa ab).dR λv C Y ⟨t,W,K,J,O,l,Q,o,U⟩ q=>⟨_,⟨t,Q,rfl⟩,by
  subst U;exact G.fold (λh q=>⟨(W,K,J,O,l),o,q⟩) q⟩
end
@[reducible] def aa6:dM:=⟨[⟨1,0,5⟩],[0,5],1⟩
@[reducible] def aa7:dM:=⟨[⟨1,0,5⟩,⟨2,4,9⟩],[0,4,5,9],2⟩
def ku:Nat->Nat->Nat->Nat->Nat
 |0,_,_,_=>1
 |k+1,j,C,D=>if j<C then 1+(if D<=j+(C-j)/2 then ku k j (j+(C-j)/2) D else ku k (j+(C-j)/2+1) C D)else 1
def fw:Nat->Nat->Nat
 |0,_=>1
 |k+1,n=>if 1<n then 1+fw k (n-n/2)else 1
def Ms:∀(k j n),j<=n->fw k j<=fw k n
 |0,_,_,_=>bv _
 |k+1,j,n,h=>by
  unfold fw;split
  ·rw[if_pos C];have:=Ms k (j-j/2) (n-n/2) C;omega
  grind
def GQ:∀(k j D E),j<=D->ku k j D E<=fw k (D-j+1)
 |0,_,_,_,_=>bv _
 |k+1,j,D,E,h=>by
  unfold ku fw
  by_cases aa:j<D
  ·rw[if_pos aa,if_pos (show 1<D-j+1 by omega)];split
   ·have G:=GQ k j (j+(D-j)/2) E Q;grind
   ·have G:=GQ k (j+(D-j)/2+1) D E C;have b:=Ms k (D-(j+(D-j)/2+1)+1) (D-j+1-(D-j+1)/2) C;omega
  grind
def wX:∀(k n),fw k n<=k+1
 |0,_=>bv _
 |k+1,n=>by
  unfold fw;split
  ·have:=wX k (n-n/2);omega
  simp
def aav(j C D E)(h:C<=D):ku j C D E<=j+1:=h0 (GQ j C D E h) (wX j _)
theorem GR:∀(k j E G D),G-E<2 ^ k->ku (k+j) E G D=ku k E G D
 |0,0,_,_,_,_=>rfl
 |0,j+1,E,G,D,h=>by
  rw[show 0+(j+1)=(0+j)+1 by rfl];unfold ku;grind
 |k+1,j,E,G,D,h=>by
  rw[show k+1+j=(k+j)+1 by omega];unfold ku;rw[Ib]at h;rw[GR k j E _ D C,GR k j _ G D C]
end S.eE
namespace S.eE
attribute [local irreducible] G bf cc
def T5:Option (Nat×Nat×Nat)->Value
 |none=> .nilFunc
 |some _=> .nilFunc
@[reducible] def jP (D:bt) (E:Nat) (J:Option (Nat×Nat×Nat)) (C:bA) (n G I:Nat):List Value:=[.pointer D.addr,j (E:Nat),T5 J,.slice C n G,j (I:Nat)]
def _root_.Go.Proofs.YtioamnghkmcbbaaGreat.bt.wn(j:Nat):bt->Nat
 | .nil=>0
 | .node _ C G _ _ _ E D=>if C<=j/\j<=G then 1+(E.wn j+D.wn j)else 0
theorem Bs{q l j E G D o}(h:eF q l j E G o)(O:D<E\/G<D):j.wn D=0:=by
 cases j with
 |nil=>rfl
 |node b K W I J R U Q=>
  obtain⟨aa,ab,_⟩:=h;subst aa ab;unfold bt.wn;rw[if_neg C]
theorem _root_.Go.Proofs.YtioamnghkmcbbaaGreat.eF.wn{q l j}:∀(k){Q}{D E}{o},eF q l Q D E o->D<=j->j<=E->E-D<2 ^ k->Q.wn j=ku k D E j
 |k,.nil,_,_,_,h,_,_,_=>by cases h
 |k,.node b K Y Z ae am al ak,D,E,o,⟨aa,ab,ag,G⟩,R,U,W=>by
  subst aa ab;unfold bt.wn;rw[if_pos ⟨R,U⟩];rcases G with ⟨G,I,J⟩|⟨G,I,J⟩
  ·cases k with
   |zero=>simp at W;omega
   |succ k=>
    rw[Ib]at W;unfold ku;rw[if_pos G]
    by_cases O:j<=K+(Y-K)/2
    ·rw[if_pos O,I.wn k R O C,Bs J (.inl C)];rfl
    ·rw[if_neg O,J.wn k C U C,Bs I (.inr C),Nat.zero_add]
  ·subst I J;have:∀k,ku k K Y j=1:=λk=>by
    cases k with
    |zero=>rfl
    |succ k=>unfold ku;rw[if_neg C]
   rw[this];rfl
theorem rN.wn{q l b K Q I j G O E D}(h:rN q l j (.node b K Q G I O E D)):(bt.node b K Q G I O E D).wn j=(bt.bY j (.node b K Q G I O E D)).wn j+1:=by
 rcases h with h|⟨au,av,o,h,aa,ab⟩
 ·cases h
 ·have al:=h.step aa ab;obtain⟨Z,ae,ar,ag⟩:=h;subst Z ae;obtain⟨_,_,Y⟩:=al;have am:(bt.node b K Q G I O E D).wn j=1+(E.wn j+D.wn j):=if_pos ⟨aa,ab⟩;rw[am];rcases ag with ⟨ak,R,U⟩|⟨ak,R,U⟩
  ·rcases Y with ⟨W,J⟩|⟨W,ao,J,ap⟩|⟨W,ao,J,ap⟩
   ·omega
   ·rw[J,Bs U (.inl C)];omega
   ·rw[J,Bs R (.inr C)];omega
  ·subst R U;rw[w7];simp[bt.i2,bt.wn]
section
variable{hd c:Nat}{bB:bt}{A:bA}{n d k:Nat}
def JG(C)(J:C=none)(j)(h:aB j hd 0 5 (jP bB c C A n d k)):D E 750 #[R hd] j λv G=>v=.bool (bB.addr.isNone&&C.isNone)/\G=j:=by
 subst J;have I:aR j ⟨hd,0+0,none⟩ (.pointer bB.addr):=h.at_ (i:=0) p;have ab:aR j ⟨hd,0+2,none⟩ .nilFunc:=h.at_ (i:=2) p;cases bB with
 |nil=>
  refine bH λg F=> ?_;refine aJ ?_;refine ad ?_;refine bD ?_;iterate 13 refine ad ?_
  refine br p p p p ?_;refine aD (TE O p p) ?_;iterate 3 refine ad ?_
  refine af ?_;refine aj p (.tmp p .nil) az ⟨rfl,rfl⟩
 |node b U ag K Q ae Z Y=>
  have W:aR j ⟨hd,0+0,none⟩ (R b):=I;refine bH λg F=> ?_;refine aJ ?_;refine ad ?_;refine bD ?_;iterate 17 refine ad ?_
  refine af ?_;refine aj p (.tmp p .nil) az ⟨rfl,rfl⟩
end
def SV(Y b O W I K G U Q J ap ag au Z j M)(aS:0<j.length->∃b,ag=(ak b))(h:h2 M (.node b O W I K G U Q))(aG:(bt.node b O W I K G U Q).i2 J=true)(aK:G.length<=1000)(a3:j.length<=100000)(aX:Z<=100000):
  D E 749 #[R Y] (ae Y 497 (jP (.node b O W I K G U Q) J ap ag j.length au Z)::own 3 1 ag j.length au (flat j)::M) λv ay=>v=.tuple #[]/\∃al av,(0< (j++bj (d8 G)).length->∃b,al=(ak b))/\ay=ae Y 497 (jP (bt.bY J (.node b O W I K G U Q)) J ap al (j++bj (d8 G)).length av (Z+1))::own 3 1 al (j++bj (d8 G)).length av (flat (j++bj (d8 G)))::M:=by
 have aH:=λM h=>QO b O W I K G U Q J M h aG C;have a2:(bj (d8 G)).length<=1000:=by rw[rj,UH];exact aK
 have aQ:(bt.node b O W I K G U Q).addr=(ak b):=rfl;generalize a0:bt.bY J (.node b O W I K G U Q)=aA at*
 generalize bj (d8 G)=q at*
 refine bH λg F=> ?_;refine aJ ?_;iterate 7 refine ad ?_
 refine cF ?_;refine bD ?_;iterate 5 refine ad ?_
 refine dG ?_;refine aF ?_;refine aW (aE [0,1,2,3,4,5,6,7] (.e 8 (aE [9,10,11,12,13] .nil))) ?_;iterate 8 refine ai ?_
 refine an (a1 p p p (aw p (aH _ (by repeat' first|exact h|apply h2.skip))) ?_);rintro _ _ ⟨ar,aC,rfl,⟨aP,a4,a5⟩,rfl⟩;refine cM ?_;iterate 5 refine ai ?_
 refine dl ?_;have aO:∀M,aM (own 3 1 ar q.length aC (flat q)::M) 1 ar q.length (flat q):=λM=>aM.own (bU _) aP;refine aJ ?_;iterate 7 refine ad ?_
 refine GE (bx p p aI ((by repeat' first|exact aO _|apply aM.skip)) ((cO _)) aZ bs ah ah) ?_;rintro _ _ ⟨am,ao,rfl,aV,aY,aL,rfl⟩;iterate 3 refine ad ?_
 refine cF ?_;iterate 2 refine ad ?_
 refine cF ?_;refine af ?_;have ax:(j++q).length=j.length+q.length:=bP;refine e6 (D:=[]) (j:=[]) (C:=ae Y 497 (jP aA J ap am (j++q).length ao (Z+1))::own 3 1 am (j++q).length ao (flat (j++q))::M) p .nil ?_ ⟨rfl,am,ao,by rw[ax];exact aL,rfl⟩;rw[ax,fI];exact aq
def XI(j:Option (Nat×Nat×Nat)):Nat:=if j.isSome then 1 else 0
def Fo(aH:List Int)(j:Option (Nat×Nat×Nat)):List Int:=if j.isSome then aH else[]
structure lJ (M:aG) (q:I->Nat×Nat) (l:List I) (D:Nat) (J:Option (Nat×Nat×Nat)) (aH G:List Int) (j:bt) (C:Option (Nat×Nat×Nat)) (E:List Int) (left:Nat):Prop where
 s:h2 M j
 g:rN q l D j
 ag:(E++(d8 (j.hm D)++Fo aH C)).Perm G
 n:j.wn D+XI C=left
 z:C=none\/C=J
theorem lJ.done{M q l G K aH J j D I left}(h:lJ M q l G K aH J j D I left):(j.addr.isNone&&D.isNone)=decide (left=0):=by
 have E:=h.n;cases j with
 |nil=>
  cases D with
  |none=>have:=E.symm;rw[this];rfl
  |some z=>
   have:left=1:=E.symm;simp_all
 |node b R Z O Q Y W U=>
  have:=h.g.wn;rw[decide_eq_false C];rfl
theorem lJ.len{M q l E I aH C D G j left}(h:lJ M q l E I aH C D G j left):j.length<=C.length:=by
 have:=h.ag.length_eq;grind
def lJ.end_{M q l G I aH E j C D}(h:lJ M q l G I aH E j C D 0):D.Perm E/\j=.nil/\C=none:=by
 have Q:=h.done;cases j with
 |node b O Y J K W U R=>trivial
 |nil=>
  cases C with
  |some z=>trivial
  |none=>exact⟨by simpa[bt.hm,d8,Fo]using h.ag,rfl,rfl⟩
def C2(am Y al q l aH aE M)
  (bn:aH.length<=1000) (bk:l.length<=1000) (bp:aE.length<=1000) (Z) (W) (J) (U ar left) (I) (bc:0<I.length->∃b,J=(ak b)) (be:lJ M q l Y none aH aE Z W I left) (bi:ar+left<=10000):
  D E 747 #[R am,j al] (ae am 497 (jP Z Y W J I.length U ar)::own 3 1 J I.length U (flat I)::M) λbf a2=>bf=.tuple #[j (min al.toNat left:Nat),.bool (decide (left-min al.toNat left=0))]/\∃aS aZ av aA ax,(lJ M q l Y none aH aE aS aZ ax (left-min al.toNat left)/\(0<ax.length->∃b,av=(ak b)))/\a2=ae am 497 (jP aS Y aZ av ax.length aA (ar+min al.toNat left))::own 3 1 av ax.length aA (flat ax)::M:=by
 refine ap λg F=> ?_;refine af ?_;refine cJ (ι:=Nat×bt×Option (Nat×Nat×Nat)×Option Addr×Nat×List Int) (λG=>[(0,R am),(1,j al),(6,j (G.1:Nat))]) (λG=>ae am 497 (jP G.2.1 Y G.2.2.1 G.2.2.2.1 G.2.2.2.2.2.length G.2.2.2.2.1 (ar+G.1))::own 3 1 G.2.2.2.1 G.2.2.2.2.2.length G.2.2.2.2.1 (flat G.2.2.2.2.2)::F::M)
  (λG=>G.1<=al.toNat/\G.1<=left/\lJ M q l Y none aH aE G.2.1 G.2.2.1 G.2.2.2.2.2 (left-G.1)/\(0<G.2.2.2.2.2.length->∃b,G.2.2.2.1=(ak b))) (λG=>left-G.1) (0,Z,W,J,U,I) ⟨bu _,bu _,be,bc⟩ a8 aq ?_
 rintro⟨ao,Z,W,J,U,I⟩ ⟨ba,bb,O,aC⟩;simp only at ba bb O aC;dsimp only;have aX:=O.done;have bh:=O.len;have au:=λa1 h=>JG (hd:=am) (c:=Y) (bB:=Z) (A:=J) (n:=I.length) (d:=U) (k:=ar+ao) W (O.z.elim id id) a1 h;rw[aX]at au
 by_cases aG:(ao:Int)<al
 ·by_cases ay:left-ao=0
  ·rw[decide_eq_true ay]at au;have aI:min al.toNat left=ao:=C;refine K ?_;refine dE 10 p (decide_eq_true aG) ?_;refine ad ?_;refine br p p p p ?_;refine bw p (au _ (aB.ae p)) ?_;refine br p p p p ?_;refine aD (cL p) ?_;refine K ?_;refine a9 (au _ (aB.ae p)) ?_;refine aL ?_;rw[aI,ay];refine aF ?_;exact aj (C:=ae am 497 (jP Z Y W J I.length U (ar+ao))::own 3 1 J I.length U (flat I)::M) p (.tmp p (.tmp p .nil)) aq ⟨rfl,Z,W,J,U,I,⟨by simp_all,aC⟩,rfl⟩
  ·rw[decide_eq_false ay]at au;refine K ?_;refine dE 10 p (decide_eq_true aG) ?_;refine ad ?_;refine br p p p p ?_;refine bw p (au _ (aB.ae p)) ?_;refine br p p p p ?_;refine aD (cL p) ?_;refine ad ?_;refine f7 ?_;cases Z with
   |nil=>
    cases W with
    |none=>simp[bt.addr,ay]at aX
    |some G=>exact absurd (O.z.elim id id) Q
   |node b aW a0 aQ aV aP aO aK=>
    obtain⟨a3,a4,a5,bg,a6⟩:=O.g.next (lo:=aO) (hi:=aK)
    have bq:=O.g.wn;have bl:=a6.length_le;have bm:=O.n;have aY:=O.ag;rw[a4]at aY;have a7:=SV am b aW a0 aQ aV aP aO aK Y W J U (ar+ao) I (F::M) aC O.s.skip a3 C C C;refine K ?_;refine GE (aw p (a7)) ?_;rintro _ _ ⟨rfl,av,aA,bd,rfl⟩;refine K ?_;refine af ?_;refine bM (ao+1,bt.bY Y (.node b aW a0 aQ aV aP aO aK),W,av,aA,I++bj (d8 aP)) ⟨C,C,⟨O.s.next,a5,?_,by grind,O.z⟩,bd⟩ C a8 (λ_ s=>s);refine List.Perm.trans ?_ aY;simp[ho];refine kX I ?_;unfold d8;rw[List.map_append,ho];exact(jz _).append_right _
 ·have aI:min al.toNat left=ao:=C;refine K ?_;refine dE 10 p (decide_eq_false aG) ?_;refine K ?_;refine a9 (au _ (aB.ae p)) ?_;refine aL ?_;rw[aI];refine aF ?_;exact aj (C:=ae am 497 (jP Z Y W J I.length U (ar+ao))::own 3 1 J I.length U (flat I)::M) p (.tmp p (.tmp p .nil)) aq ⟨rfl,Z,W,J,U,I,⟨O,aC⟩,rfl⟩
section
variable{t:Nat}{x:fN}{X:bt}{A:bA}{c:Nat}{l k:List I}{ay:List Int}{bT:Int}{mq:Nat}
theorem hJ.ku(o:hJ x X A c l k ay)(D:ay.length<=500)(v):X.wn (fu ay v)=Proofs.YtioamnghkmcbbaaGreat.S.eE.ku 70 0 (2*ay.length) (fu ay v)/\X.wn (fu ay v)<=11:=by
 have h:=o.sW.wn 10 (bu _) (C6 ay v) C;have ab:=GR 10 60 0 (2*ay.length) (fu ay v) C;have j:=aav 10 0 (2*ay.length) (fu ay v) (bu _);simp_all
def Ss(v C)(h:m6 C t x X A c l bT mq)(o:hJ x X A c l k ay)(W:ay.length<=1000):D E 359 #[R t,j v] C λK J=>∃G,K=(R G)/\J=ae G 497 (jP X (fu ay v) none none 0 0 0)::C:=by
 have O:=λC h=>Zp (t:=t) (X:=X) (A:=A) (c:=c) (l:=l) (bT:=bT) (mq:=mq) v C h o.nT (by rw[o.rq];omega);rw[o.rq]at O;have U:∀C,m6 C t x X A c l bT _->D E 441 #[.pointer (some _),.int _ v,.nilFunc] C λK J=>∃G,K=(R G)/\J=ae G _ _::C:=λC h=>by
  refine ap λg F=> ?_;refine a9 (ZB _ h.skip) ?_;refine a9 (O _ h.skip) ?_;refine aS λQ=> ?_;refine af ?_;exact aj rfl (.tmp p .nil) aq ⟨Q,rfl,rfl⟩
 refine ap λg F=> ?_;refine GE (aw p (U _ h.skip)) ?_;rintro _ _ ⟨G,rfl,rfl⟩;refine ad ?_;refine af ?_;exact aj (C:=ae G 497 (jP X (fu ay v) none none 0 0 0)::C) p (.tmp p .nil) aq ⟨G,rfl,rfl⟩
end
section
variable{hd c:Nat}{bB:bt}{A:bA}{n d k:Nat}
def C0(j)(h:aB j hd 0 5 (jP bB c none A n d k)):D E 744 #[R hd] j λv C=>v=.bool (bB.addr.isNone&&(none:Option (Nat×Nat×Nat)).isNone)/\C=j:=by
 refine ap λg F=> ?_;refine a9 (JG _ p _ h.skip) ?_;refine af ?_;refine aj p (.tmp p .nil) az ⟨rfl,rfl⟩
end
def C1(Q Z W J O ao j K)(h:aB K Q 0 5 (jP W Z none J j.length O ao))(ae:Rd K J j.length j)(au:j.length<=1000):
  D E 745 #[R Q] K λv U=>∃I G,v=.slice I j.length G/\((0<j.length->∃b,I=(ak b))/\j.length<=G/\G<=maxLen)/\U=own 3 1 I j.length G (flat (bj j))::K:=by
 have ar:=h.at_ (i:=3) p;refine ap λg F=> ?_;refine GE (aw p (yI J _ O _)) ?_;rintro _ _ ⟨Y,rfl,rfl⟩;refine GE (aw p (yH Y J _ O _ _ ae.skip C)) ?_;rintro _ _ ⟨I,G,rfl,⟨ag,al,am⟩,rfl⟩;refine ad ?_;refine af ?_;exact aj rfl (.tmp p .nil) aq ⟨I,G,rfl,⟨ag,al,am⟩,rfl⟩
def lP(M:aG)(q:I->Nat×Nat)(l:List I)(j:Nat)(J:List Int)(C E D:Nat):aO:=λh=>∃y:bt×Option Addr×Nat×List Int,(lJ M q l j none [] J y.1 none y.2.2.2 E/\(0<y.2.2.2.length->∃b,y.2.1=(ak b)))/\G [ae C 497 (jP y.1 j none y.2.1 y.2.2.2.length y.2.2.1 D),own 3 1 y.2.1 y.2.2.2.length y.2.2.1 (flat y.2.2.2)] h
section
variable{M:aG}{q:I->Nat×Nat}{l:List I}{c:Nat}{e2:List Int}{hd r k:Nat}
def D.lP{E:Program}{K:FuncId}{args:Array Value}{post:Value->List aO->Prop}(W:∀(G:bt)(C:bA)(J:Nat)(j:List Int),lJ M q l c none [] e2 G none j r->(0<j.length->∃b,C=(ak b))->D E K args (ae hd 497 (jP G c none C j.length J k)::own 3 1 C j.length J (flat j)::M) post):D E K args (lP M q l c e2 hd r k::M) post:=
 D.open (J:=λy:bt×Option Addr×Nat×List Int=>[ae hd 497 (jP y.1 c none y.2.1 y.2.2.2.length y.2.2.1 k),own 3 1 y.2.1 y.2.2.2.length y.2.2.1 (flat y.2.2.2)]) (E:=λy=>lJ M q l c none [] e2 y.1 none y.2.2.2 r/\(0<y.2.2.2.length->∃b,y.2.1=(ak b))) (λ_ h=>h) λy O=>W y.1 y.2.1 y.2.2.1 y.2.2.2 O.1 O.2
def zv{D C E j}(aa:lJ M q l c none [] e2 D none j r)(ab:0<j.length->∃b,C=(ak b)){h}(s:G (ae hd 497 (jP D c none C j.length E k)::own 3 1 C j.length E (flat j)::M) h):G (lP M q l c e2 hd r k::M) h:=
 G.fold (N:=[_,_]) (λh J=>⟨(D,C,E,j),⟨aa,ab⟩,J⟩) s
def SZ(ak:l.length<=1000)(al:e2.length<=1000)(ag:k+r<=10000)(C):D E 747 #[R hd,j C] (lP M q l c e2 hd r k::M) λv G=>v=.tuple #[j (min C.toNat r:Nat),.bool (decide (r-min C.toNat r=0))]/\G=lP M q l c e2 hd (r-min C.toNat r) (k+min C.toNat r)::M:=
 D.lP λO K Q am ae Y=>(C2 hd c C q l [] e2 M (bu _) ak al O none K Q k r am Y ae ag).dR λv G au ⟨U,ap,aw,ao,ar,av,⟨J,Z⟩,W⟩ s=>by
  have:=J.z.elim id id;subst this;exact⟨_,⟨U,rfl⟩,zv J Z (W▸s)⟩
def SX:D E 744 #[R hd] (lP M q l c e2 hd r k::M) λv j=>v=.bool (decide (r=0))/\j=lP M q l c e2 hd r k::M:=
 D.lP λQ O U Y C K=>(C0 _ (aB.ae p)).dR λv j W ⟨G,J⟩ s=>⟨_,⟨G.trans (by rw[C.done]),rfl⟩,zv C K (J▸s)⟩
def SY(ao:e2.length<=1000):D E 745 #[R hd] (lP M q l c e2 hd 0 k::M) λv J=>∃j G,v=.slice j e2.length G/\True/\J=own 3 1 j e2.length G (flat (bj e2))::lP M q l c e2 hd 0 k::M:=
 D.lP λW U Y ap O K=>by
  obtain⟨Q,_,_⟩:=O.end_;have ag:=Q.length_eq;refine(C1 hd c W U Y k _ _ (aB.ae p) (Rd.skip (aM.own (bU _) K)) C).dR λv J am ⟨j,G,al,_,Z⟩ s=>⟨_,⟨j,G,by simp_all,trivial,rfl⟩,?_⟩;subst Z;rw[<- ag,<- Y8 Q];exact s.ep λh ak=>zv O K ak
end
end S.eE
end
end Go.Proofs.YtioamnghkmcbbaaGreat
