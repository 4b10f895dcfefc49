/- TopBudget: a part of its proof. -/
import Derived.Test.YtioamnghkmcbbaaGreatMA3
set_option linter.all false
set_option maxRecDepth 100000
set_option maxHeartbeats 4000000
open Bool renaming not_eq_false'->kU
open Go.Op renaming equal->dD
open List renaming append_nil->dA,drop_sublist->vw,eq_nil_of_length_eq_zero->e3,filter_eq_nil_iff->lA,getElem?_eq_getElem->cb,getElem?_eq_some_iff->jf,length_append->bP,length_cons->fc,length_erase_of_mem->to,length_singleton->fD,mem_append->cT,mem_cons->cQ,mem_cons_of_mem->kY,mem_iff_getElem?->BQ,mem_of_mem_erase->oU,mem_singleton->oW,perm_middle->e4,reverse_append->mY,take_append_drop->jD
open List.Perm renaming refl->th
open List.cons renaming injEq->BL
open Nat renaming lt_irrefl->dc,lt_or_ge->eC,zero_le->bu
open Go.RowKit
namespace Go.Proofs.YtioamnghkmcbbaaGreat
noncomputable section
namespace dj
attribute [local irreducible] G bf cc
def kg(n:Int):Bool:=decide (1<=n)&&decide (n<=2147483647)
def eg(j:I):Bool:=kg j.id&&(dF j.x&&dF j.y)
def wQ(n I):D E 446 #[j n] I λv J=>v=.bool (kg n)/\J=I:=by
 refine ap λg F=> ?_;refine f0 p p p (λC=> ?y634) (λC=> ?n634)
 case' n634=>
  have G:=C;try simp only[jQ]at G
  refine bI ?_;exact⟨by simp_all[bG,kg]<;>(intros;omega),rfl⟩
 case' y634=>
  have G:=C;try simp[kU]at G
  refine bI ?_;exact⟨by simp_all[bG,kg]<;>(intros;omega),rfl⟩
def Er(G:I)(J):D E 447 #[G.v] J λv O=>v=.bool (dF G.x&&dF G.y)/\O=J:=by
 refine ap λg F=> ?_;refine aS λQ=> ?_;refine a9 (m1 _ _) ?_;refine f0 p p p (λj=> ?y644) (λj=> ?n644)
 case' n644=>
  have C:=j;try simp[kU]at C
  refine bI ?_;exact⟨by simp_all[bG],rfl⟩
 case' y644=>
  have C:=j;try simp[kU]at C
  refine K ?_;refine a9 (m1 _ _) ?_;refine af ?_;refine aj p (.tmp p .nil) az ⟨by simp_all[bG],rfl⟩
def tF(G I):D E 366 #[G.v] I λv J=>v=.bool (eg G)/\J=I:=by
 refine ap λg F=> ?_;refine aS λO=> ?_;refine a9 (wQ _ _) ?_;refine f0 p p p (λj=> ?y657) (λj=> ?n657)
 case' n657=>
  have C:=j;try simp only[jQ]at C
  refine bI ?_;exact⟨by simp_all[bG,eg],rfl⟩
 case' y657=>
  have C:=j;try simp only[decide_eq_true_eq,decide_eq_false_iff_not,Bool.not_true,Bool.not_false,kU]at C
  refine K ?_;refine a9 (Er G _) ?_;refine af ?_;refine aj p (.tmp p .nil) az ⟨by simp_all[bG,eg],rfl⟩
def fr(j q:I):Bool:=decide (up j q<0)
def xS(j q C):D E 312 #[j.v,q.v] C λv G=>v=.bool (fr j q)/\G=C:=by
 refine ap λg F=> ?_;refine aU λI=> ?_;refine aS λJ=> ?_;refine a9 (GL j q _) ?_;refine af ?_;refine aj p (.tmp p .nil) az ⟨rfl,rfl⟩
def QE(C q:I)(G):D E 412 #[C.v,q.v] G λv J=>v=j (C.cmp q)/\J=G:=by
 refine ap λg F=> ?_;refine aU λK=> ?_;refine aS λO=> ?_;refine a9 (JY C q _) ?_;refine af ?_;refine aj p (.tmp p .nil) az ⟨rfl,rfl⟩
def XF(n C)(I:n<=1000000000000):D E 317 #[j (n:Nat)] C λv G=>v=j (3*n/4:Nat)/\G=C:=by
 refine ap λg F=> ?_
 (first|refine aD _ ?_|refine aD (hQ p p ah ah ah) ?_)
 exact dq
inductive bn where
 |nil
 |node (D s:I) (C j:bn)
def bn.size:bn->Nat
 | .nil=>0
 | .node _ _ C j=>C.size+1+j.size
@[reducible] def gh (C s:I) (l h:bA) (n:Nat):List Value:=[j C.id,j C.x,j C.y,j s.id,j s.x,j s.y,.pointer l,.pointer h,j (n:Nat)]
def ca:bn->Option Addr->aO
 | .nil,C=>λ_=>C=none
 | .node I s E D,C=>λh=>∃j:Nat×Option Addr×Option Addr,C=(ak j.1)/\G [ae j.1 410 (gh I s j.2.1 j.2.2 (E.size+1+D.size)),ca E j.2.1,ca D j.2.2] h
def mw{j M}(C:∀h,G j h->G M h):∀h,G j h->G (ca .nil none::M) h:=λh s=>
 G.fold (N:=[]) (λ_ _=>rfl) (C h s)
def np{I M J s E D b C j}(K:∀h,G I h->G (ae b 410 (gh J s C j (E.size+1+D.size))::ca E C::ca D j::M) h):∀h,G I h->G (ca (.node J s E D) (ak b)::M) h:=λh s=>
 G.fold (N:=[_,_,_]) (λ_ O=>⟨(b,C,j),rfl,O⟩) (K h s)
def k4{O I g n J W K Q G s D C E}
  (h:∀b U R,E=(ak b)->bc O I g n J W (ae b 410 (gh G s U R (D.size+1+C.size))::ca D U::ca C R::Q::K)):bc O I g n J W (Q::ca (.node G s D C) E::K):=
 b5 (λ_ s=>s.swap) (qp (ι:=Nat×Option Addr×Option Addr) (F:=λj=>E=(ak j.1)) (D:=λj=>[ae j.1 410 (gh G s j.2.1 j.2.2 (D.size+1+C.size)),ca D j.2.1,ca C j.2.2]) (λ_ h=>h) λj Y=>h j.1 j.2.1 j.2.2 Y)
def rI{I C g n D K E J j}(h:j=none->bc I C g n D K (J::E)):bc I C g n D K (J::ca .nil j::E):=
 b5 (λ_ s=>s.swap) (qp (ι:=Unit) (F:=λ_=>j=none) (D:=λ_=>[]) (λ_ h=>⟨(),h,G.none_⟩) λ_ O=>h O)
theorem bn.vd(D s C j):(bn.node D s C j).size=C.size+1+j.size:=rfl
def jb(C G I):D E 239 #[.pointer G] (ca C G::I) λv J=>v=j (C.size:Nat)/\J=ca C G::I:=by
 cases C with
 |nil=>
  refine bH λg F=> ?_;refine rI ?_;rintro rfl;refine K ?_;refine af ?_;exact aj rfl (.tmp p .nil) (nm (mw bo)) ⟨rfl,rfl⟩
 |node W s U R=>
  refine bH λg F=> ?_;refine k4 ?_;rintro b Q O rfl;refine K ?_;refine af ?_;refine aj rfl (.tmp p .nil) ?_ ⟨rfl,rfl⟩;apply bR;focus ((repeat' first|exact aN.here|apply aN.skip|apply aN.bE);done)
  exact np aq
def ie(q s:I):Bool:=decide (0<q.cmp s)
def WI(q s b C)(I:aB C b 3 3 [j s.id,j s.x,j s.y]):D E 315 #[R b,q.v] C λv G=>v=.bool (ie q s)/\G=C:=by
 have K:=I;refine ap λg F=> ?_;refine aS λJ=> ?_;refine aL ?_;refine aW (aE [0,1,2,3,4] (.e 5 (.q 6 (.q 7 .nil)))) ?_;iterate 5 refine ai ?_
 refine cU p p (QE q s _) ?_;exact dq
def Aa(q s b C)(J:aB C b 3 3 [j s.id,j s.x,j s.y]):D E 453 #[R b,q.v] C λv G=>v=.pointer (some ⟨b,(if ie q s then 7 else 6),none⟩)/\G=C:=by
 refine ap λg F=> ?_;refine aS λI=> ?_;refine bw p (WI q s b _ bS) ?_;refine af ?_;refine d3 p (λaa=> ?_) (λaa=> ?_)
 ·rw[aa];exact dq
 ·rw[aa];exact dq
def jW(I s lo hi b Q G C j)(U:lo.size+hi.size<=1000000):
  D E 454 #[R b] (ae b 410 (gh I s G C Q)::ca lo G::ca hi C::j) λv J=>v=(R b)/\J=ca (.node I s lo hi) (ak b)::j:=by
 refine ap λg F=> ?_;refine aL ?_;refine aW (aE [0,1,2,3,4,7,8,9,10] (.e 5 (.q 6 (.e 11 (aE [12,13,14] (.e 15 .nil)))))) ?_;iterate 9 refine ai ?_
 refine cU p p (D.pick aI (jb lo G _)) ?_;refine ai ?_;refine an (dh O p p p (aw p (D.pick aI (jb hi C _))) ?_);rintro _ _ ⟨rfl,rfl⟩;iterate 3 refine ai ?_
 refine an (cj O p p p (c5 p p p cd) ?_);rintro _ _ ⟨rfl,rfl⟩;refine K ?_;refine af ?_;refine aj (C:=ca (.node I s lo hi) (ak b)::j) p (.tmp p .nil) ?_ ⟨rfl,rfl⟩;apply bR;focus ((repeat' first|exact aN.here|apply aN.skip|apply aN.bE);done)
 exact np aq
def bn.DS:bn->Bool
 | .nil=>false
 | .node _ _ C j=>decide (3*(C.size+1+j.size)/4<max C.size j.size)
def uA(I s G j O J)(W:G.size+j.size<=1000000):
  D E 538 #[.pointer O] (ca (.node I s G j) O::J) λv Q=>v=.bool (bn.node I s G j).DS/\Q=ca (.node I s G j) O::J:=by
 refine bH λg F=> ?_;refine k4 ?_;rintro b U R rfl;refine K ?_;refine aL ?_;refine aW (aE [0,1,2,3,5,6,7,8,11,12,13,14] (.e 4 (.e 9 (.q 10 (.e 15 (.q 16 (.q 17 .nil))))))) ?_;iterate 12 refine ai ?_
 refine cU p p (D.pick aI (jb G U _)) ?_;refine cU p p (D.pick aI (jb j R _)) ?_;refine ai ?_;refine cU p p (XF _ _ C) ?_;iterate 2 refine ai ?_
 refine cK ?_;refine aj (C:=ca (.node I s G j) (ak b)::J) p (.tmp p .nil) ?_ ⟨congrArg Value.bool (by unfold bn.DS;grind),rfl⟩;apply bR;focus ((repeat' first|exact aN.here|apply aN.skip|apply aN.bE);done)
 exact np aq
end dj
namespace dj
theorem aae(j):fr j j=false:=by simp[fr,up,I.cmp]
theorem CP(q s):ie q s=false<->s.less q=false:=by
 unfold ie;rw[decide_eq_false_iff_not];exact I.JR q s
theorem CQ(q s):ie q s=true<->s.less q=true:=by
 unfold ie;rw[decide_eq_true_eq];exact I.SM q s
def VJ{j b s}(aa:ie j s=false)(ab:ie b s=true):j.less b=true:=by
 rw[CP]at aa;rw[CQ]at ab
 by_cases C:s=j
 ·simp_all
 ·exact I.qV (I.qU C aa) ab
theorem Bn(j q):fr j q=true<->j.iP.less q.iP=true:=by
 unfold fr up;rw[decide_eq_true_eq];unfold I.cmp
 by_cases h:j.iP=q.iP
 ·simp[h,I.nC]
 grind
def GC{j q:I}(h:j.iP=q.iP):j=q:=by
 obtain⟨C,b,D⟩:=j;obtain⟨E,G,J⟩:=q;simp[I.iP]at h;grind
def Bo{j q C}(h:fr j q=true)(D:fr q C=true):fr j C=true:=by rw[Bn]at*;exact I.qV h D
theorem aad{j q}(h:fr j q=true):fr q j=false:=by
 cases C:fr q j with
 |false=>rfl
 |true=>rw[Bn]at*;rw[I.Ag h]at C;grind
def GK{j q}(h:j≠q)(D:fr j q=false):fr q j=true:=by
 rw[Bn];refine I.qU (λC=>h (GC C)) ?_;grind[Bn]
def aaf{j q}(h:fr j q=true):j≠q:=λC=>by simp_all[aae]
def bn.bO:bn->List I
 | .nil=>[]
 | .node D _ C j=>D::(C.bO++j.bO)
def bn.au:bn->List I
 | .nil=>[]
 | .node D _ C j=>dW D (C.au++j.au)
def bn.Ok:bn->Prop
 | .nil=>True
 | .node D s C j=>C.Ok/\j.Ok/\(∀q∈C.bO,ie q s=false)/\(∀q∈j.bO,ie q s=true)/\(∀q∈C.bO++j.bO,fr q D=true)
theorem bn.mv:∀j:bn,j.bO.length=j.size
 | .nil=>rfl
 | .node E s D C=>by simp[bn.bO,bn.size,fc,bP,mv D,mv C];omega
theorem bn.p0:∀C:bn,C.au.Perm C.bO
 | .nil=> .refl _
 | .node j s E D=>(sP j _).trans (((p0 E).append (p0 D)).cons j)
def bn.Fv(j:bn):j.au.length=j.size:=by rw[j.p0.length_eq,j.mv]
def bn.L2{I s C j}(h:(bn.node I s C j).Ok)(aa:dw C.au)(ab:dw j.au):dw (C.au++j.au):=
 dw.append aa ab λD E b G=>VJ (h.2.2.1 D (C.p0.subset E)) (h.2.2.2.1 b (j.p0.subset G))
def bn.Z6{D s C j}(h:(bn.node D s C j).Ok):D∉C.au++j.au:=λG=>by
 have:D∈C.bO++j.bO:=by
  rcases cT.1 G with E|E
  ·exact cT.2 (.inl (C.p0.subset E))
  ·exact cT.2 (.inr (j.p0.subset E))
 exact aaf (h.2.2.2.2 D this) p
def bn.u1:∀{j:bn},j.Ok->dw j.au
 | .nil,_=>List.Pairwise.nil
 | .node C s E D,h=>NP C _ (bn.L2 h (u1 h.1) (u1 h.2.1)) (bn.Z6 h)
def bn.Th{j:bn}(h:j.Ok):j.bO.Nodup:=j.p0.nodup_iff.1 (bn.u1 h).nodup
end dj
namespace dj
attribute [local irreducible] G bf cc
def Fq:∀(Q)(J)(j),Q.Ok->Q.size<=100000->D E 313 #[.pointer J] (ca Q J::j) λv av=>Made 43 Q.au (ca Q J::j) v av
 | .nil,J,j,_,_=>by
  refine bH λg F=> ?_;refine rI ?_;rintro rfl;refine K ?_;refine af ?_;exact aj rfl (.tmp p .nil) (λh s=>(own.nil_ 43 3 h (mw (M:=F::j) bo h s))|>(λs=>bR (.skip (.skip .here)) bo h s)) ⟨none,0,rfl,λh=>absurd h (dc 0),rfl⟩
 | .node R s I G,J,j,O,aK=>by
  have aL:=λZ j=>Fq I Z j O.1 (by grind[bn.size]);have aO:=λY j=>Fq G Y j O.2.1 (by grind[bn.size]);have aP:=I.Fv;have aQ:=G.Fv;have aH:=bn.L2 O (bn.u1 O.1) (bn.u1 O.2.1);simp[bn.size]at aK;refine bH λg F=> ?_;refine k4 ?_;rintro b Z Y rfl;refine K ?_;refine aW (aE [0,1,2,3,5,6,7,8,12,13,14,15] (.e 4 (.e 9 (.e 10 (.e 11 (.e 16 (.q 17 .nil))))))) ?_;iterate 12 refine ai ?_
  refine an (a1 p p p (aw p (D.pick aI (aL Z _))) ?_);rintro _ _ ⟨W,al,rfl,aG,rfl⟩;refine bg ?_;refine an (a1 p p p (aw p (D.pick aI (aO Y _))) ?_);rintro _ _ ⟨U,ag,rfl,ay,rfl⟩;refine bg ?_;refine an (a1 p p p (wq aZ p p) ?_);rintro _ _ ⟨ao,rfl,rfl⟩;refine bg ?_;refine an (a1 p p p (aw p (D.pre (M:=ae ao 38 [.slice W I.au.length al,.slice U G.au.length ag]::own 43 3 W I.au.length al (flat I.au)::own 43 3 U G.au.length ag (flat G.au):: _) aq (Qa W U _ _ al ag ao I.au G.au _ p p C C aG ay))) ?_);rintro _ _ ⟨ar,ax,rfl,aA,rfl⟩;refine bg ?_;refine an (a1 p p p (aw p (yD ar _ ax (I.au++G.au) R _ (aM.own (bU _) aA) (by grind) aH)) ?_);rintro _ _ ⟨am,ap,rfl,aC,rfl⟩;refine bg ?_;refine ai ?_;refine cK ?_;refine aj (C:=own 43 3 am (dW R (I.au++G.au)).length ap (flat (dW R (I.au++G.au)))::ca (.node R s I G) (ak b)::j) p (.tmp p .nil) ?_ ⟨am,ap,rfl,aC,rfl⟩;apply bR;focus ((repeat' first|exact aN.here|apply aN.skip|apply aN.bE);done)
  apply bR;focus ((repeat' first|exact aN.here|apply aN.skip|apply aN.bE);done)
  exact np aq
def bn.qn:bn->Prop
 | .nil=>True
 | .node D s C j=>C.qn/\j.qn/\max C.size j.size<=3*(C.size+1+j.size)/4
structure bn.k7 (j:bn) (l:List I):Prop where
 ok:j.Ok
 ni:j.qn
 perm:j.bO.Perm l
theorem bn.k7.size{j:bn}{l}(h:j.k7 l):j.size=l.length:=by rw[<- j.mv,h.perm.length_eq]
theorem bn.k7.congr{C:bn}{l j}(h:C.k7 l)(D:l.Perm j):C.k7 j:=⟨h.ok,h.ni,h.perm.trans D⟩
def bn.of_nil:bn.nil.k7 []:=⟨trivial,trivial,.refl _⟩
def bn.E9{D s G E l j}(aa:G.k7 l)(ab:E.k7 j)(I:∀q∈l,ie q s=false)(b:∀q∈j,ie q s=true)(J:∀q∈l++j,fr q D=true)(K:max l.length j.length<=3*(l.length+1+j.length)/4):
  (bn.node D s G E).k7 (D::(l++j)):=by
 refine⟨⟨aa.ok,ab.ok,λq C=>I q (aa.perm.subset C),λq C=>b q (ab.perm.subset C),λq C=>J q ((aa.perm.append ab.perm).subset C)⟩,⟨aa.ni,ab.ni,?_⟩,(aa.perm.append ab.perm).cons D⟩;rw[aa.size,ab.size];omega
def vP(l:List I)(D:aG)(v:Value)(E:aG):Prop:=∃(j:bA) (C:bn),v=.pointer j/\C.k7 l/\E=ca C j::D
theorem yX{l}(h:dw l){j C:Nat}{D b}(E:l[j]?=some D)(I:l[C]?=some b)(G:j<C):D.less b=true:=by
 obtain⟨aa,rfl⟩:=jf.1 E;obtain⟨ab,rfl⟩:=jf.1 I;exact List.pairwise_iff_getElem.1 h j C aa ab G
def RV{l}(h:dw l){j D:Nat}{E b}(J:l[j]?=some E)(K:l[D]?=some b)(Q:j≠D):E≠b:=λO=>by
 subst O;rcases eC j D with G|G
 ·have:=yX h J K G;rw[I.nC]at this;trivial
 ·have:=yX h K J C;rw[I.nC]at this;trivial
def Ta{l j}{C:I}(h:l[j]?=some C):(C::(l.take j++l.drop (j+1))).Perm l:=by
 obtain⟨aa,rfl⟩:=jf.1 h;grind[List.drop_eq_getElem_cons,jD]
def Tb{l:List I}{j}:(l.take j++l.drop (j+1)).Sublist l:=by grind[jD,vw]
def qz:∀(a0)(aA)(n ar)(l)(W),Rd W aA n l->n<=a0->n<=100000->n<=ar->ar<=maxLen->dw l->D E 539 #[.slice aA n ar] W λv Y=>vP l W v Y:=by
 intro a0
 induction a0 with
 |zero=>
  intro aA n ar l W aO bQ bY bN bO a4;have aa:l.length=n:=aO.len bs;have ab:l=[]:=e3 C;obtain rfl:n=0:=C;subst ab;refine ap λg F=> ?_;refine af ?_;exact aj (C:=ca .nil none::W) p (.tmp p .nil) (nm (mw bo)) ⟨none,.nil,rfl,bn.of_nil,rfl⟩
 |succ a0 bt=>
  intro aA n ar l W aO bQ bY bN bO a4;have aa:l.length=n:=aO.len bs;have cl:ar<=9223372036854775807:=by assumption
  refine ap λg F=> ?_;refine af ?_;refine cp p (λbA=> ?_) (λbA=> ?_)
  ·have ab:l=[]:=e3 C;subst ab;refine K ?_;refine af ?_;exact aj (C:=ca .nil none::W) p (.tmp p .nil) (nm (mw bo)) ⟨none,.nil,rfl,bn.of_nil,rfl⟩
  ·refine aF ?_;refine cv ?_;refine K ?_;refine aL ?_
   (repeat first|refine bZ ?_|refine fi ?_|refine gk ?_)
   refine hs (ι:=Nat) (λZ=>[(0,.slice aA n ar),(3,j (Z:Nat))]) (λ_=>F::W) (λZ=>Z<n/\∀(R:Nat) (ao b:I),l[R]?=some ao->l[Z]?=some b->R=Z\/fr ao b=true) ?_ ?_
   ·refine aF ?_;refine cJ (ι:=Nat×Nat) (λZ=>[(0,.slice aA n ar),(3,j (Z.2:Nat)),(13,.slice aA n ar),(14,j (n:Nat)),(15,j (Z.1:Nat))]) (λ_=>F::W) (λZ=>Z.1<=n/\Z.2<n/\∀(R:Nat) (ao b:I),R<Z.1->l[R]?=some ao->l[Z.2]?=some b->R=Z.2\/fr ao b=true) (λZ=>n-Z.1) (0,0) ⟨bu _,C,λR ao b ag=>absurd ag (Nat.not_lt_zero _)⟩ a8 az ?_;rintro⟨am,U⟩ ⟨bI,a2,aK⟩;simp only at bI a2 aK;dsimp only;refine K ?_;refine af ?_;refine cp p (λbB=> ?_) (λbB=> ?_)
    ·obtain⟨aX,aY,rfl,a6⟩:=aO.at_ C;have a3:l[am]?=some l[am]:=cb C;have av:l[U]?=some l[U]:=cb C;have b9:=a6 _ _ a3;have bl:=a6 _ _ av;generalize l[am]=bb at*
     generalize l[U]=aZ at*
     have cq:aB W aX (aY+am*3) 3 [j bb.id,j bb.x,j bb.y]:=b9;have ce:aB W aX (aY+U*3) 3 [j aZ.id,j aZ.x,j aZ.y]:=bl;refine K ?_;refine aS λch=> ?_;refine aL ?_;refine aW (aE [0,1,2,3,4] (.e 5 .nil)) ?_;iterate 5 refine ai ?_
     refine an (cj O p p p (aw p (xS aZ bb _)) ?_);rintro _ _ ⟨rfl,rfl⟩;refine aF ?_;refine d3 p (λbe=> ?_) (λbe=> ?_)
     ·refine aF ?_;refine cv ?_;refine K ?_;refine af ?_;refine bM (am+1,am) ⟨C,C,λR ao b ag aH ax=> ?_⟩ C a8 az;simp only at ag ax;rw[a3]at ax;cases ax;rcases eC R am with aC|aC
      ·right;rcases aK R ao aZ aC aH av with rfl|bm
       ·simp_all
       ·exact Bo bm be
      ·omega
     ·refine aF ?_;refine cv ?_;iterate 2 refine ad ?_
      refine af ?_;refine bM (am+1,U) ⟨C,a2,λR ao b ag aH ax=> ?_⟩ C a8 az;simp only at ag ax;rw[av]at ax;cases ax;rcases eC R am with aC|aC
      ·simp_all
      ·have:R=am:=C;subst this;rw[a3]at aH;cases aH
       by_cases bf:R=U
       ·omega
       ·exact .inr (GK (RV a4 av a3 (Ne.symm bf)) be)
    ·have bf:am=n:=C;subst bf;refine aF ?_;exact ex U ⟨a2,λR ao b aH ax=>aK R ao b (by grind) aH ax⟩ a8 az
   ·rintro U ⟨a2,aK⟩;obtain⟨aX,aY,rfl,a6⟩:=aO.at_ C;have av:l[U]?=some l[U]:=cb C;have bl:=a6 _ _ av;have aQ:=Ta av;have bk:=Tb (l:=l) (j:=U);have bq:∀q∈l.take U++l.drop (U+1),fr q l[U]=true:=λq aV=>by
     obtain⟨R,ag⟩:=BQ.1 (bk.subset aV);rcases aK R q _ ag av with rfl|bm
     ·rw[av]at ag;cases ag;have cm:=(aQ.nodup_iff.2 a4.nodup);simp_all
     omega
    have a5:=a4.sub bk;have b1:(l.take U++l.drop (U+1)).length=n-1:=by grind
    generalize l[U]=al at*
    have ce:aB W aX (aY+U*3) 3 [j al.id,j al.x,j al.y]:=bl;refine aW (aE [0,1,2,3,4,5,6,7,8] (.e 9 (.q 10 .nil))) ?_;iterate 9 refine ai ?_
    refine hu λaG=> ?_;refine K ?_;refine GE (aw p (lI (some ⟨aX,aY,none⟩) n ar l _ cr C)) ?_;rintro _ _ ⟨cf,bC,rfl,bJ,rfl⟩;obtain⟨bz,rfl⟩:=bJ C;iterate 3 refine ad ?_
    refine GE (aw p (D.pick aI (D.made (yh bz _ bC U l _ p C C)))) ?_;rintro _ _ ⟨cg,ay,rfl,bp,aP,b4,rfl⟩;refine ad ?_;refine aL ?_;obtain⟨G,bj⟩:∃b5,l.take U++l.drop (U+1)=b5:=⟨_,rfl⟩;rw[bj]at aQ bq a5 b1 bp aP;rw[bj];clear bk bj;refine K ?_
    (first|refine aD (kH (q:=2) p p ah ah) ?_|refine aD (hQ p p ah ah ah) ?_)
    refine K ?_;refine af ?_;refine cp p (λbE=> ?_) (λbE=> ?_)
    ·obtain⟨au,rfl⟩:=bp C;refine aJ ?_;iterate 4 refine ad ?_
     refine aL ?_;obtain⟨J,bK⟩:∃am:Nat,max (((G.length/2:Nat):Int)-1) 0=(am:Nat):=⟨G.length/2-1,C⟩;rw[bK];have bL:J<G.length:=C;have ck:J=G.length/2-1:=C;have bi:∀Y,Rd (own 43 3 (ak au) G.length ay (flat G)::Y) (ak au) G.length G:=λY=>aM.own (bU _) (λ_=>⟨au,rfl⟩);have bh:G[J]?=some G[J]:=cb bL;have cc:∀Y,aB (own 43 3 (ak au) G.length ay (flat G)::Y) au (0+J*3) 3 [j G[J].id,j G[J].x,j G[J].y]:=λY=>by
      obtain⟨ci,cn,bF,b3⟩:=(bi Y).at_ C;cases bF;exact b3 _ _ bh
     have bW:∀q∈G.take (J+1),ie q G[J]=false:=λq aV=>by
      obtain⟨R,ag⟩:=BQ.1 aV;rw[List.getElem?_take]at ag;split at ag
      ·rw[CP];rcases eC R J with aC|aC
       ·exact I.Ag (yX a5 ag bh aC)
       ·have:R=J:=C;subst this;rw[bh]at ag;cases ag;exact I.nC _
      trivial
     have bT:∀q∈G.drop (J+1),ie q G[J]=true:=λq aV=>by
      grind[BQ,CQ,yX]
     generalize G[J]=s at*
     refine K ?_;refine aD (er p (by repeat' first|exact cc _|apply aB.skip)) ?_;refine K ?_;refine aL ?_;have co:ay<=9223372036854775807:=by assumption
     have b6:(G.take (J+1)).length=J+1:=by grind
     have b8:(G.drop (J+1)).length=G.length-(J+1):=List.length_drop ..;have bX:∀Y,Rd (own 43 3 (ak au) G.length ay (flat G)::Y) (ak au) (J+1) (G.take (J+1)):=λY=>(bi Y).take C;have bV:∀Y,Rd (own 43 3 (ak au) G.length ay (flat G)::Y) (some ⟨au,(if ay=J+1 then 0 else 0+(J+1)*3),none⟩) (G.length-(J+1)) (G.drop (J+1)):=λY=>(bi Y).drop C aP;refine hr 1 (aE [0,1,2,3,4,5,7,8,9,10] (.e 6 (.e 11 (.q 12 (.q 13 (.e 14 (.q 15 (.q 16 (.e 17 .nil))))))))) ?_;iterate 5 refine ai ?_
     refine cV p (h5 p p ah) ?_;iterate 3 refine ai ?_
     refine cV p (ga p p ah ah) ?_;refine an (a1 p p p (aw p (bt _ (J+1) ay (G.take (J+1)) _ (by repeat' first|exact bX _|apply Rd.skip) C C C b4 (a5.sub (List.take_sublist _ _)))) ?_);rintro _ _ ⟨bd,ba,rfl,bx,rfl⟩;refine bg ?_;refine an (a1 p p p (aw p (bt _ (G.length-(J+1)) (ay-(J+1)) (G.drop (J+1)) _ (by repeat' first|exact bV _|apply Rd.skip) C C C C (a5.sub (vw _ _)))) ?_);rintro _ _ ⟨bc,a7,rfl,bv,rfl⟩;refine bg ?_;iterate 2 refine ai ?_
     refine an (dh O p p p (c5 p p p cd) ?_);rintro _ _ ⟨rfl,rfl⟩;iterate 2 refine ai ?_
     refine an (cj O p p p (c5 p p p cd) ?_);rintro _ _ ⟨rfl,rfl⟩;refine K ?_;refine a9 (D.pre (M:=ae aG 410 (gh al s bd bc 0)::ca ba bd::ca a7 bc::F::W) aq (jW al s ba a7 aG 0 bd bc _ (by rw[bx.size,bv.size,b6,b8];omega))) ?_;refine af ?_;refine aj (C:=ca (.node al s ba a7) (ak aG)::W) p (.tmp p .nil) aq ⟨_,.node al s ba a7,rfl,?_,rfl⟩;refine(bn.E9 bx bv bW bT (λq aV=>bq q (by simp_all)) C).congr ?_;rw[jD];exact aQ
    ·have b0:G=[]:=e3 C;refine K ?_;refine a9 (D.pre (M:=ae aG 410 (gh al al none none 0)::ca .nil none::ca .nil none::F::W) (by(repeat first|exact bo|apply mw|refine b7 ?_)<;>fail) (jW al al .nil .nil aG 0 none none _ bs)) ?_;refine af ?_;refine aj (C:=ca (.node al al .nil .nil) (ak aG)::W) p (.tmp p .nil) aq ⟨_,.node al al .nil .nil,rfl,?_,rfl⟩;refine(bn.E9 bn.of_nil bn.of_nil (λ_ h=>by grind) (λ_ h=>by grind) (λ_ h=>by grind) Q).congr ?_;rw[b0]at aQ;exact aQ
def lT(I s G j b U O K l J)(Q:(bn.node I s G j).Ok)(am:G.qn)(ao:j.qn)(aE:G.size+j.size+1<=100000)(Y:(bn.node I s G j).bO.Perm l):
  D E 455 #[R b] (ae b 410 (gh I s O K U)::ca G O::ca j K::J) λv al=>vP l J v al:=by
 have ax:=(bn.node I s G j).Fv;have av:=bn.u1 Q;have ay:=(bn.node I s G j).p0;rw[bn.vd]at ax;refine ap λg F=> ?_;refine bw p (D.pre (M:=ae b 410 (gh I s O K U)::ca G O::ca j K::F::J) aq (jW I s G j b U O K _ C)) ?_;refine bw p (uA I s G j _ _ C) ?_;refine af ?_;refine d3 p (λaa=> ?_) (λaa=> ?_)
 ·refine aF ?_;refine cv ?_;refine ad ?_;refine GE (aw p (Fq (.node I s G j) _ _ Q (by rw[bn.vd];omega)|>.made)) ?_;rintro _ _ ⟨ag,ar,rfl,au,aP,aC,rfl⟩;refine GE (aw p (qz 100000 ag _ ar _ _ (aM.own (bU _) au) C C aP aC av)) ?_;rintro _ _ ⟨W,Z,rfl,aA,rfl⟩;refine ad ?_;refine af ?_;exact aj (C:=ca Z W::J) p (.tmp p .nil) aq ⟨W,Z,rfl,aA.congr (ay.trans Y),rfl⟩
 ·refine aF ?_;refine cv ?_;iterate 2 refine ad ?_
  refine af ?_;refine aj (C:=ca (.node I s G j) (ak b)::J) p (.tmp p .nil) aq ⟨_,_,rfl,⟨Q,⟨am,ao,?_⟩,Y⟩,rfl⟩;unfold bn.DS at aa;rw[decide_eq_false_iff_not]at aa;omega
def sQ:∀(ay)(ar)(G)(Y),ay.Ok->ay.qn->G∉ay.bO->ay.size+1<=100000->
  D E 379 #[.pointer ar,G.v] (ca ay ar::Y) λv a5=>vP (G::ay.bO) Y v a5
 | .nil,ar,G,Y,_,_,_,_=>by
  refine bH λg F=> ?_;refine rI ?_;rintro rfl;refine aJ ?_;refine aS λaO=> ?_;refine aU λaK=> ?_;refine a9 (D.pre (M:=ae aK 410 (gh G G none none 0)::ca .nil none::ca .nil none::F::Y) (by(repeat first|exact bo|apply mw|refine b7 ?_)<;>fail) (jW G G .nil .nil aK 0 none none _ bs)) ?_;refine af ?_;refine aj (C:=ca (.node G G .nil .nil) (ak aK)::Y) p (.tmp p .nil) aq ⟨_,.node G G .nil .nil,rfl,?_,rfl⟩;exact bn.E9 bn.of_nil bn.of_nil (λ_ h=>by grind) (λ_ h=>by grind) (λ_ h=>by grind) Q
 | .node q s W U,ar,G,Y,am,aH,a1,a6=>by
  have a7:=λar G Y=>sQ W ar G Y am.1 aH.1;have ba:=λar G Y=>sQ U ar G Y am.2.1 aH.2.1;rw[bn.vd]at a6;simp only[bn.bO,cQ,cT,not_or]at a1;obtain⟨bd,be,bf⟩:=a1;have a0:=bn.Th am;simp only[bn.bO,List.nodup_cons,cT,not_or]at a0;obtain⟨⟨bb,bc⟩,bj⟩:=a0;refine bH λg F=> ?_;refine k4 ?_;rintro b ax av rfl;refine aJ ?_;refine aS λaO=> ?_;refine aW (aE [0,1,2,3,4] (.e 5 .nil)) ?_;iterate 5 refine ai ?_
  refine an (cj O p p p (aw p (xS q G _)) ?_);rintro _ _ ⟨rfl,rfl⟩
  (repeat first|refine bZ ?_|refine fi ?_|refine gk ?_)
  refine hs (ι:=I×I) (λZ=>[(0,R b),(3,R aO)]) (λZ=>ae aO 43 [j Z.2.id,j Z.2.x,j Z.2.y]::ae b 410 (gh Z.1 s ax av (W.size+1+U.size))::ca W ax::ca U av::F::Y)
   (λZ=>fr Z.2 Z.1=true/\(∀J∈W.bO++U.bO,fr J Z.1=true)/\Z.2∉W.bO/\Z.2∉U.bO/\((Z.1=q/\Z.2=G)\/(Z.1=G/\Z.2=q))) ?_ ?_
  ·refine aF ?_;refine d3 p (λaa=> ?_) (λaa=> ?_)
   ·refine aF ?_;refine o4 (aE [0,1,2,3,4,5,6,7] (.e 8 (.e 9 .nil))) O O ?_;iterate 8 refine ai ?_
    refine an (dh O p p p (f1 p p p p cd) ?_);rintro _ _ ⟨rfl,rfl⟩;refine an (cj O p p p (f1 p p p p cd) ?_);rintro _ _ ⟨rfl,rfl⟩;refine aF ?_;exact ex (G,q) ⟨aa,λJ ao=>Bo (am.2.2.2.2 J ao) aa,bb,bc,.inr ⟨rfl,rfl⟩⟩ a8 aq
   ·refine aF ?_;exact ex (q,G) ⟨GK (Ne.symm bd) aa,am.2.2.2.2,be,bf,.inl ⟨rfl,rfl⟩⟩ a8 aq
  ·rintro⟨al,aG⟩ ⟨bg,aZ,a3,a4,bh⟩;simp only at bg aZ a3 a4 bh;dsimp only;have a2:∀l:List I,(al::aG::l).Perm (G::q::l):=λl=>by
    grind
   refine K ?_;refine a9 (Aa aG s b _ bS) ?_;refine aL ?_;cases bi:ie aG s with
   |true=>
    refine aF ?_;refine hr 3 (aE [0,1,2,3,4] (.e 5 (.q 6 (.e 7 .nil)))) ?_;iterate 5 refine ai ?_
    refine an (dh O p p p (aw p (D.pick aI (ba av aG _ a4 C))) ?_);rintro _ _ ⟨au,ag,rfl,ap,rfl⟩;refine ai ?_;refine an (cj O p p p (c5 p p p cd) ?_);rintro _ _ ⟨rfl,rfl⟩;have aX:∀J∈ag.bO,fr J al=true/\ie J s=true:=λJ ao=>by
     rcases cQ.1 (ap.perm.subset ao)with rfl|h
     ·trivial
     ·exact⟨aZ J (cT.2 (.inr h)),am.2.2.2.1 J h⟩
    have aP:(bn.node al s W ag).Ok:=⟨am.1,ap.ok,am.2.2.1,λJ ao=>(aX J ao).2,λJ ao=>by
     grind⟩
    have aQ:(bn.node al s W ag).bO.Perm (G::(bn.node q s W U).bO):=by
     refine .trans ?_ (a2 (W.bO++U.bO));refine .cons al ?_;exact((th W.bO).append ap.perm).trans e4
    have aV:W.size+ag.size+1<=100000:=by rw[ap.size,fc,bn.mv];omega
    refine K ?_;refine GE (aw p (D.pre (M:=ae b 410 (gh al s ax au (W.size+1+U.size))::ca W ax::ca ag au::F::Y) aq (lT al s W ag b _ ax au (G::(bn.node q s W U).bO) _ aP aH.1 ap.ni aV aQ))) ?_;rintro _ _ ⟨aA,aC,rfl,aY,rfl⟩;refine ad ?_;refine af ?_;exact aj (C:=ca aC aA::Y) p (.tmp p .nil) aq ⟨aA,aC,rfl,aY,rfl⟩
   |false=>
    refine aF ?_;refine hr 2 (aE [0,1,2,3,4] (.e 5 (.q 6 (.e 7 .nil)))) ?_;iterate 5 refine ai ?_
    refine an (dh O p p p (aw p (D.pick aI (a7 ax aG _ a3 C))) ?_);rintro _ _ ⟨au,ag,rfl,ap,rfl⟩;refine ai ?_;refine an (cj O p p p (c5 p p p cd) ?_);rintro _ _ ⟨rfl,rfl⟩;have aX:∀J∈ag.bO,fr J al=true/\ie J s=false:=λJ ao=>by
     rcases cQ.1 (ap.perm.subset ao)with rfl|h
     ·trivial
     ·exact⟨aZ J (cT.2 (.inl h)),am.2.2.1 J h⟩
    have aP:(bn.node al s ag U).Ok:=⟨ap.ok,am.2.1,λJ ao=>(aX J ao).2,am.2.2.2.1,λJ ao=>by
     grind⟩
    have aQ:(bn.node al s ag U).bO.Perm (G::(bn.node q s W U).bO):=by
     refine .trans ?_ (a2 (W.bO++U.bO));refine .cons al ?_;exact ap.perm.append (th U.bO)
    have aV:ag.size+U.size+1<=100000:=by rw[ap.size,fc,bn.mv];omega
    refine K ?_;refine GE (aw p (D.pre (M:=ae b 410 (gh al s au av (W.size+1+U.size))::ca ag au::ca U av::F::Y) aq (lT al s ag U b _ au av (G::(bn.node q s W U).bO) _ aP ap.ni aH.2.1 aV aQ))) ?_;rintro _ _ ⟨aA,aC,rfl,aY,rfl⟩;refine ad ?_;refine af ?_;exact aj (C:=ca aC aA::Y) p (.tmp p .nil) aq ⟨aA,aC,rfl,aY,rfl⟩
def V0:∀(aY)(ap s)(U O)(ay)(Y),U.size+O.size<=aY->(bn.node ap s U O).Ok->(bn.node ap s U O).qn->U.size+O.size+1<=100000->
  D E 456 #[.pointer ay] (ca (.node ap s U O) ay::Y) λv ba=>vP (U.bO++O.bO) Y v ba:=by
 intro aY
 induction aY with
 |zero=>
  intro ap s U O ay Y aZ al ax a1
  match U,O,aZ with
  | .nil,.nil,_=>
   refine bH λg F=> ?_;refine k4 ?_;rintro b ao ag rfl;refine rI ?_;rintro rfl;refine rI ?_;rintro rfl;refine K ?_;refine af ?_;exact aj (C:=ca .nil none::Y) p (.tmp p .nil) (by(repeat first|exact bo|apply mw|refine b7 ?_)<;>fail) ⟨none,.nil,rfl,bn.of_nil,rfl⟩
  | .node _ _ _ _,_,h=>simp only[bn.size]at h;omega
  | .nil,.node _ _ _ _,h=>simp only[bn.size]at h;omega
 |succ aY a3=>
  intro ap s U O ay Y aZ al ax a1
  by_cases a9:U=.nil/\O=.nil
  ·obtain⟨rfl,rfl⟩:=a9;exact a3 ap s .nil .nil ay Y (by simp[bn.size]) al ax a1
  refine bH λg F=> ?_;refine k4 ?_;rintro b ao ag rfl;refine aJ ?_;refine ad ?_;refine bD ?_;refine ad ?_;refine aL ?_
  (repeat first|refine bZ ?_|refine fi ?_|refine gk ?_)
  refine hs (ι:=Bool) (λa2=>[(0,R b),(3,.pointer (some ⟨b,(if a2 then 7 else 6),none⟩))]) (λa2=>ae b 410 (gh ap s ao ag (U.size+1+O.size))::ca U ao::ca O ag::F::Y)
   (λa2=>if a2 then ∃j J I G,O=.node j J I G/\∀W∈U.bO,fr W j=true else ∃j J I G,U=.node j J I G/\∀W∈O.bO,fr W j=true) ?_ ?_
  ·match U,O,a9 with
   | .nil,.nil,h=>exact absurd ⟨rfl,rfl⟩ h
   | .nil,.node j J I G,_=>
    refine rI ?_;rintro rfl;refine k4 ?_;rintro bb bf bd rfl;refine K ?_;refine aW (aE [0,1,2,3,4,5,6,7,8,9,10,11,12,13,14,15,16,17,18,19,20,21,22,23,24,25] (.e 26 (.q 27 (.q 28 (.q 29 .nil))))) ?_;iterate 26 refine ai ?_
    refine an (IL p p p p p ?_);refine K ?_;refine af ?_;exact ex true ⟨j,J,I,G,rfl,λW Z=>by trivial⟩ a8 (by(repeat first|exact bo|apply mw|apply np|refine b7 ?_)<;>fail)
   | .node j J I G,.nil,_=>
    refine k4 ?_;rintro aG aO aK rfl;refine b5 (j:=ae b 410 (gh ap s (ak aG) ag ((bn.node j J I G).size+1+bn.nil.size))::ca .nil ag::ae aG 410 (gh j J aO aK (I.size+1+G.size))::ca I aO::ca G aK::F::Y) aq ?_;refine rI ?_;rintro rfl;refine K ?_;refine aW (aE [0,1,2,3,4,5,6,7,8,9,10,11,12,13,14,15,16,17,18,19,20,21,22,23,24,25] (.e 26 (.q 27 (.q 28 (.q 29 .nil))))) ?_;iterate 26 refine ai ?_
    refine an (gy p p p ⟨_,rfl,rfl⟩ p ?_);refine K ?_;refine af ?_;exact ex false ⟨j,J,I,G,rfl,λW Z=>by trivial⟩ a8 (by(repeat first|exact bo|apply mw|apply np|refine b7 ?_)<;>fail)
   | .node j J I G,.node au aX aV aS,_=>
    refine k4 ?_;rintro aG aO aK rfl;refine b5 (j:=ae b 410 (gh ap s (ak aG) ag ((bn.node j J I G).size+1+(bn.node au aX aV aS).size))::ca (.node au aX aV aS) ag::ae aG 410 (gh j J aO aK (I.size+1+G.size))::ca I aO::ca G aK::F::Y) aq ?_;refine k4 ?_;rintro bb bf bd rfl;refine K ?_;refine aW (aE [0,1,2,3,4,5,6,7,8,9,10,11,12,13,14,15,16,17,18,19,20,21,22,23,24,25] (.e 26 (.q 27 (.q 28 (.q 29 .nil))))) ?_;iterate 26 refine ai ?_
    refine an (f9 p p p ⟨_,rfl,rfl⟩ p (aw p (xS j au _)) ?_);rintro _ _ ⟨rfl,rfl⟩;refine cM ?_;refine K ?_;have bg:∀W∈(bn.node j J I G).bO,W=j\/fr W j=true:=λW Z=>by
     rcases cQ.1 Z with h|h
     ·simp_all
     ·exact .inr (al.1.2.2.2.2 W h)
    have be:∀W∈(bn.node au aX aV aS).bO,W=au\/fr W au=true:=λW Z=>by
     rcases cQ.1 Z with h|h
     ·simp_all
     ·exact .inr (al.2.1.2.2.2.2 W h)
    have bc:j≠au:=λbl=>by
     have aH:=al.2.2.1 j (by simp[bn.bO]);have aP:=al.2.2.2.1 au (by simp[bn.bO]);simp_all
    refine aF ?_;refine d3 p (λaa=> ?_) (λaa=> ?_)
    ·refine aF ?_;refine cv ?_;iterate 4 refine ad ?_
     refine af ?_;refine ex true ⟨au,aX,aV,aS,rfl,λW Z=> ?_⟩ a8 (by(repeat first|exact bo|apply mw|apply np|refine b7 ?_)<;>fail);rcases bg W Z with rfl|h
     ·omega
     ·exact Bo h aa
    ·refine aF ?_;refine cv ?_;iterate 4 refine ad ?_
     refine af ?_;refine ex false ⟨j,J,I,G,rfl,λW Z=> ?_⟩ a8 (by(repeat first|exact bo|apply mw|apply np|refine b7 ?_)<;>fail);have ab:=GK bc aa;rcases be W Z with rfl|h
     ·omega
     ·exact Bo h ab
  ·rintro bk a0;cases bk with
   |true=>
    rw[if_pos p]at a0;obtain⟨j,J,I,G,rfl,bh⟩:=a0;have aI:=al.2.1;refine b5 (j:=ca U ao::ca (.node j J I G) ag::ae b 410 (gh ap s ao ag (U.size+1+(bn.node j J I G).size))::F::Y) aq ?_;refine k4 ?_;rintro aC bi bj rfl;refine aF ?_;refine aJ ?_;iterate 9 refine ad ?_
    refine cF ?_;refine aL ?_;rw[bn.vd]at aZ a1;refine K ?_;refine GE (aw p (D.pre (M:=ca (.node j J I G) (ak aC)::ae b 410 (gh j s ao (ak aC) (U.size+1+(bn.node j J I G).size))::ca U ao::F::Y) (by(repeat first|exact bo|apply np|refine b7 ?_)<;>fail) (a3 j J I G _ _ C aI ax.2.1 C))) ?_;rintro _ _ ⟨av,ar,rfl,am,rfl⟩;refine ad ?_;refine cF ?_;refine aL ?_;have a4:(bn.node j s U ar).Ok:=⟨al.1,am.ok,al.2.2.1,λW Z=>al.2.2.2.1 W (kY _ (am.perm.subset Z)),λW Z=>by
     rcases cT.1 Z with h|h
     ·simp_all
     ·exact aI.2.2.2.2 W (am.perm.subset h)⟩
    have a5:(bn.node j s U ar).bO.Perm (U.bO++(bn.node j J I G).bO):=by
     refine .trans (.cons j ((th U.bO).append am.perm)) ?_;exact e4.symm
    have a6:U.size+ar.size+1<=100000:=by rw[am.size,bP,bn.mv,bn.mv];omega
    refine K ?_;refine GE (aw p (D.pre (M:=ae b 410 (gh j s ao av (U.size+1+(bn.node j J I G).size))::ca U ao::ca ar av::F::Y) aq (lT j s U ar b _ ao av _ _ a4 ax.1 am.ni a6 a5))) ?_;rintro _ _ ⟨aA,aQ,rfl,a7,rfl⟩;refine ad ?_;refine af ?_;exact aj (C:=ca aQ aA::Y) p (.tmp p .nil) aq ⟨aA,aQ,rfl,a7,rfl⟩
   |false=>
    rw[if_neg Q]at a0;obtain⟨j,J,I,G,rfl,bh⟩:=a0;have aI:=al.1;refine b5 (j:=ca O ag::ca (.node j J I G) ao::ae b 410 (gh ap s ao ag ((bn.node j J I G).size+1+O.size))::F::Y) aq ?_;refine k4 ?_;rintro aC bi bj rfl;refine aF ?_;refine aJ ?_;iterate 9 refine ad ?_
    refine cF ?_;refine aL ?_;rw[bn.vd]at aZ a1;refine K ?_;refine GE (aw p (D.pre (M:=ca (.node j J I G) (ak aC)::ae b 410 (gh j s (ak aC) ag ((bn.node j J I G).size+1+O.size))::ca O ag::F::Y) (by(repeat first|exact bo|apply np|refine b7 ?_)<;>fail) (a3 j J I G _ _ C aI ax.1 C))) ?_;rintro _ _ ⟨av,ar,rfl,am,rfl⟩;refine ad ?_;refine cF ?_;refine aL ?_;have a4:(bn.node j s ar O).Ok:=⟨am.ok,al.2.1,λW Z=>al.2.2.1 W (kY _ (am.perm.subset Z)),al.2.2.2.1,λW Z=>by
     rcases cT.1 Z with h|h
     ·exact aI.2.2.2.2 W (am.perm.subset h)
     simp_all⟩
    have a5:(bn.node j s ar O).bO.Perm ((bn.node j J I G).bO++O.bO):=.cons j (am.perm.append (th O.bO));have a6:ar.size+O.size+1<=100000:=by rw[am.size,bP,bn.mv,bn.mv];omega
    refine K ?_;refine GE (aw p (D.pre (M:=ae b 410 (gh j s av ag ((bn.node j J I G).size+1+O.size))::ca ar av::ca O ag::F::Y) aq (lT j s ar O b _ av ag _ _ a4 am.ni ax.2.1 a6 a5))) ?_;rintro _ _ ⟨aA,aQ,rfl,a7,rfl⟩;refine ad ?_;refine af ?_;exact aj (C:=ca aQ aA::Y) p (.tmp p .nil) aq ⟨aA,aQ,rfl,a7,rfl⟩
def r1:∀(ao)(al)(j)(W),ao.Ok->ao.qn->j∈ao.bO->ao.size<=100000->
  D E 380 #[.pointer al,j.v] (ca ao al::W) λv aV=>vP (ao.bO.erase j) W v aV
 | .nil,al,j,W,_,_,aC,_=>by cases aC
 | .node q s G J,al,j,W,R,av,aC,a0=>by
  have a1:=λal j W=>r1 G al j W R.1 av.1;have a2:=λal j W=>r1 J al j W R.2.1 av.2.1;rw[bn.vd]at a0
  by_cases aQ:q=j
  ·subst aQ;have aA:(bn.node q s G J).bO.erase q=G.bO++J.bO:=by simp[bn.bO]
   rw[aA];refine bH λg F=> ?_;refine k4 ?_;rintro b au ar rfl;refine aJ ?_;refine aS λaX=> ?_;refine aL ?_;refine aW (aE [0,1,2,3,4] (.q 5 .nil)) ?_;iterate 5 refine ai ?_
   refine dd p (sa p p p p p p) ?_;refine cK ?_;refine cD p (decide_eq_true p) ?_;refine K ?_;refine GE (aw p (D.pre (M:=ca (.node q s G J) (ak b)::F::W) (by(repeat first|exact bo|apply np|refine b7 ?_)<;>fail) (V0 200000 q s G J _ _ C R av C))) ?_;rintro _ _ ⟨ag,U,rfl,Y,rfl⟩;refine ad ?_;refine af ?_;exact aj (C:=ca U ag::W) p (.tmp p .nil) aq ⟨ag,U,rfl,Y,rfl⟩
  ·have aY: ¬ [q.id,q.x,q.y]=[j.id,j.x,j.y]:=λh=>aQ (by
    simp only[BL,and_true]at h;rw[I.zM];omega)
   have aP:j∈G.bO++J.bO:=by
    rcases cQ.1 aC with h|h
    ·simp_all
    omega
   have aA:(bn.node q s G J).bO.erase j=q::(G.bO++J.bO).erase j:=by
    show(q::(G.bO++J.bO)).erase j= _;simp_all
   rw[aA];refine bH λg F=> ?_;refine k4 ?_;rintro b au ar rfl;refine aJ ?_;refine aS λaX=> ?_;refine aL ?_;refine aW (aE [0,1,2,3,4] (.q 5 .nil)) ?_;iterate 5 refine ai ?_
   refine dd p (sa p p p p p p) ?_;refine cK ?_;refine b2 p (decide_eq_false aY) ?_;refine K ?_;refine a9 (Aa j s b _ bS) ?_;refine aL ?_;cases a3:ie j s with
   |true=>
    have am:j∈J.bO:=by
     rcases cT.1 aP with h|h
     ·have:=R.2.2.1 j h;simp_all
     omega
    have aZ:j∉G.bO:=λh=>by have:=R.2.2.1 j h;simp_all
    refine hr 3 (aE [0,1,2,3,4] (.e 5 (.q 6 (.e 7 .nil)))) ?_;iterate 5 refine ai ?_
    refine an (dh O p p p (aw p (D.pick aI (a2 ar j _ am C))) ?_);rintro _ _ ⟨ag,U,rfl,Y,rfl⟩;refine ai ?_;refine an (cj O p p p (c5 p p p cd) ?_);rintro _ _ ⟨rfl,rfl⟩;have ax:∀Q∈U.bO,Q∈J.bO:=λQ Z=>oU (Y.perm.subset Z);have aG:(bn.node q s G U).Ok:=⟨R.1,Y.ok,R.2.2.1,λQ Z=>R.2.2.2.1 Q (ax Q Z),λQ Z=>by
     rcases cT.1 Z with h|h
     ·exact R.2.2.2.2 Q (cT.2 (.inl h))
     ·exact R.2.2.2.2 Q (cT.2 (.inr (ax Q h)))⟩
    have aH:(bn.node q s G U).bO.Perm (q::(G.bO++J.bO).erase j):=by
     rw[List.erase_append_right _ aZ];exact .cons q ((th G.bO).append Y.perm)
    have aK:G.size+U.size+1<=100000:=by
     have:=to am;rw[Y.size,this,bn.mv];omega
    refine K ?_;refine GE (aw p (D.pre (M:=ae b 410 (gh q s au ag (G.size+1+J.size))::ca G au::ca U ag::F::W) aq (lT q s G U b _ au ag _ _ aG av.1 Y.ni aK aH))) ?_;rintro _ _ ⟨ap,ay,rfl,aO,rfl⟩;refine ad ?_;refine af ?_;exact aj (C:=ca ay ap::W) p (.tmp p .nil) aq ⟨ap,ay,rfl,aO,rfl⟩
   |false=>
    have am:j∈G.bO:=by
     rcases cT.1 aP with h|h
     ·omega
     ·have:=R.2.2.2.1 j h;simp_all
    refine hr 2 (aE [0,1,2,3,4] (.e 5 (.q 6 (.e 7 .nil)))) ?_;iterate 5 refine ai ?_
    refine an (dh O p p p (aw p (D.pick aI (a1 au j _ am C))) ?_);rintro _ _ ⟨ag,U,rfl,Y,rfl⟩;refine ai ?_;refine an (cj O p p p (c5 p p p cd) ?_);rintro _ _ ⟨rfl,rfl⟩;have ax:∀Q∈U.bO,Q∈G.bO:=λQ Z=>oU (Y.perm.subset Z);have aG:(bn.node q s U J).Ok:=⟨Y.ok,R.2.1,λQ Z=>R.2.2.1 Q (ax Q Z),R.2.2.2.1,λQ Z=>by
     rcases cT.1 Z with h|h
     ·exact R.2.2.2.2 Q (cT.2 (.inl (ax Q h)))
     ·exact R.2.2.2.2 Q (cT.2 (.inr h))⟩
    have aH:(bn.node q s U J).bO.Perm (q::(G.bO++J.bO).erase j):=by
     rw[List.erase_append_left _ am];exact .cons q (Y.perm.append (th J.bO))
    have aK:U.size+J.size+1<=100000:=by
     have:=to am;rw[Y.size,this,bn.mv];omega
    refine K ?_;refine GE (aw p (D.pre (M:=ae b 410 (gh q s ag ar (G.size+1+J.size))::ca U ag::ca J ar::F::W) aq (lT q s U J b _ ag ar _ _ aG Y.ni av.2.1 aK aH))) ?_;rintro _ _ ⟨ap,ay,rfl,aO,rfl⟩;refine ad ?_;refine af ?_;exact aj (C:=ca ay ap::W) p (.tmp p .nil) aq ⟨ap,ay,rfl,aO,rfl⟩
end dj
namespace dj
instance:e5 (Option Addr):=⟨1,λj=>[.pointer j],λ_=>rfl,λ_ v h=>by simp at h;subst h;rfl⟩
def _root_.Go.Proofs.YtioamnghkmcbbaaGreat.aB.sub{j b o n G I}(h:aB j b o n G)(D E)(C:kq (oh G D) E=some I):aB j b (o+D) E I:=
 ⟨(lr C).1,λK v J=>by
  have aa:=(lr C).2 K v J;rw[qE,List.getElem?_drop]at aa;rw[Nat.add_assoc];exact h.2 _ _ aa⟩
def _root_.Go.Proofs.YtioamnghkmcbbaaGreat.aR.sF{j N D C v}(E:∀h,j h->G N h)(l:aR N C v):aR (j::D) C v:=⟨λh s=>by
 obtain⟨aa,ab,K,I,O,J,Q⟩:=s;exact hw.sub (l.1 _ (E _ J)) I⟩
def _root_.Go.Proofs.YtioamnghkmcbbaaGreat.aB.sF{j N D b o n C}(E:∀h,j h->G N h)(l:aB N b o n C):aB (j::D) b o n C:=⟨l.1,λJ v I=>(l.2 J v I).sF E⟩
inductive bd where
 |nil
 |node (b:Nat) (D s:I) (C j:bd)
def bd.addr:bd->Option Addr
 | .nil=>none
 | .node b _ _ _ _=>(ak b)
def bd.t:bd->bn
 | .nil=> .nil
 | .node _ D s C j=> .node D s C.t j.t
def mM:bd->aO
 | .nil=>λ_=>True
 | .node b D s C j=>λh=>G [ae b 410 (gh D s C.addr j.addr (C.t.size+1+j.t.size)),mM C,mM j] h
def fl(j:aG):bd->Prop
 | .nil=>True
 | .node b E s D C=>aB j b 0 9 (gh E s D.addr C.addr (D.t.size+1+C.t.size))/\fl j D/\fl j C
def fl.mono{L M}(f:∀h,G M h->G L h):∀{j},fl L j->fl M j
 | .nil,_=>trivial
 | .node b E s D C,h=>⟨h.1.mono f,h.2.1.mono f,h.2.2.mono f⟩
theorem fl.skip{D j C}(h:fl j C):fl (D::j) C:=h.mono λ_ s=>s.tail
def fl.sF{j N D}(f:∀h,j h->G N h):∀{C},fl N C->fl (j::D) C
 | .nil,_=>trivial
 | .node b J s I E,h=>⟨h.1.sF f,h.2.1.sF f,h.2.2.sF f⟩
def xm:∀(E)(D),fl (mM E::D) E
 | .nil,_=>trivial
 | .node b G s C j,D=>fl.sF (N:=[ae b 410 (gh G s C.addr j.addr (C.t.size+1+j.t.size)),mM C,mM j]) (λ_ h=>h) ⟨aB.ae p,(xm C _).skip,(xm j []).skip.skip⟩
def Fs:∀(E)(C)(h),ca E C h->∃j:bd,j.t=E/\j.addr=C/\mM j h
 | .nil,C,h,D=>⟨.nil,rfl,Eq.symm D,trivial⟩
 | .node ae s Z K,C,h,⟨⟨b,ax,aw⟩,D,aa,ab,G,al,am,q,W,Y,I,ao,ap,ak,R,U,J,ar,au,ag,av⟩=>by
  obtain⟨j,rfl,rfl,O⟩:=Fs Z _ _ ak;obtain⟨y,rfl,rfl,Q⟩:=Fs K _ _ ag;exact⟨.node b ae s j y,rfl,D.symm,aa,ab,G,al,am,q,W,Y,I,ao,ap,O,R,U,J,ar,au,Q,av⟩
def Fk:∀(j)(h),mM j h->ca j.t j.addr h
 | .nil,_,_=>rfl
 | .node b am s D C,h,⟨aa,ab,E,W,Y,q,O,Q,G,Z,ae,U,J,K,I,ag,ak,R,al⟩=>
  ⟨(b,D.addr,C.addr),rfl,aa,ab,E,W,Y,q,O,Q,G,Z,ae,Fk D _ U,J,K,I,ag,ak,Fk C _ R,al⟩
def ul{C M j E D}(aa:j.t=E)(ab:j.addr=D)(I:∀h,G C h->G (mM j::M) h):∀h,G C h->G (ca E D::M) h:=λh s=>by
 subst aa ab;exact G.head (λh q=>G.one (Fk j h q)) (I h s)
structure Q1 (C:aG) (b:Nat) (D s:I) (G E:bd):Prop where
 KF:aR C ⟨b,0+6,none⟩ (.pointer G.addr)
 KE:aR C ⟨b,0+7,none⟩ (.pointer E.addr)
 DB:aR C ⟨b,0+8,none⟩ (j (G.t.size+1+E.t.size:Nat))
 KG:aB C b (0+0) 3 [j D.id,j D.x,j D.y]
 aaW:aB C b (0+3) 3 [j s.id,j s.x,j s.y]
 aaS:aR C ⟨b,0+0+0,none⟩ (j D.id)
 aaT:aR C ⟨b,0+0+1,none⟩ (j D.x)
 aaU:aR C ⟨b,0+0+2,none⟩ (j D.y)
 aaX:aR C ⟨b,0+3+1,none⟩ (j s.x)
theorem fl.f{C b I s G D}(h:fl C (.node b I s G D)):Q1 C b I s G D:=
 have j:=h.1.sub 0 3 p;have E:=h.1.sub 3 3 p
 ⟨h.1.at_ (i:=6) p,h.1.at_ (i:=7) p,h.1.at_ (i:=8) p,j,E,j.at_ (i:=0) p,j.at_ (i:=1) p,j.at_ (i:=2) p,E.at_ (i:=1) p⟩
end dj
namespace dj
attribute [local irreducible] G bf cc
def bn.depth:bn->Nat
 | .nil=>0
 | .node _ _ C j=>max C.depth j.depth+1
def YD(C G)(h:fl G C):D E 239 #[.pointer C.addr] G λv I=>v=j (C.t.size:Nat)/\I=G:=by
 cases C with
 |nil=>
  refine ap λg F=> ?_;refine af ?_;refine aj p (.tmp p .nil) az ⟨rfl,rfl⟩
 |node b O s K J=>
  obtain⟨aH,aP,Q,R,U,W,Y,Z,ae⟩:=h.f;refine ap λg F=> ?_;refine af ?_;refine aj p (.tmp p .nil) az ⟨rfl,rfl⟩
def oc:Nat->Nat->Nat
 |0,_=>0
 |f+1,n=>if n<1 then 0 else oc f (3*n/4)+1
def CW(n:Nat):Nat:=oc n n
def Se(n:Nat):Nat:=if n<1 then 0 else CW n+1
def bd.iH:bd->Bool
 | .nil=>true
 | .node _ _ _ _ _=>false
theorem bd.uE(j:bd):j.addr.isSome=!j.iH:=by cases j<;>rfl
def bd.gG(C:fS):bd->Bool
 | .nil=>false
 | .node _ j _ _ _=>C.iv j.x j.y
def bd.nD(C:fS):bd->List bd
 | .nil=>[]
 | .node _ D s j E=>if D.y<C.y then[]else if !j.iH&&decide (C.cB<=s.x)then[j]else[]
def bd.nE(C:fS):bd->List bd
 | .nil=>[]
 | .node _ D s E j=>if D.y<C.y then[]else if !j.iH&&decide (s.x<=C.cI)then[j]else[]
def bd.next(j:fS)(C:bd):List bd:=C.nD j++C.nE j
def qt(l:List bd):List (Option Addr):=l.map bd.addr
def ID(G:Bool)(l:List bd)(D:aG)(v:Value)(E:aG):Prop:=∃j C,v=.tuple #[.bool G,.slice j l.length C]/\(0<l.length->∃b,j=(ak b))/\E=own 260 1 j l.length C (flat (qt l))::D
def PP(C:fS)(j:I)(h:j.y<C.y):C.iv j.x j.y=false:=by
 unfold fS.iv;simp_all
def EG(G C Z)(h:fl Z G):D E 696 #[.pointer G.addr,.agg #[j C.cB,j C.cI,j C.y]] Z λv aK=>ID (G.gG C) (G.next C) Z v aK:=by
 cases G with
 |nil=>
  refine ap λg F=> ?_;refine aS λag=> ?_;refine aL ?_;refine aW (aE [0,1,2,3,4,5,6,7,8,9,10] (.q 11 .nil)) ?_;refine K ?_;refine af ?_;exact aj (C:=own 260 1 none 0 0 []::Z) p (.tmp p (.tmp p .nil)) (λh s=>bR (.skip (.skip .here)) (nm (lQ bo)) h (own.nil_ 260 1 h s)) ⟨none,0,rfl,λh=>absurd h (dc 0),rfl⟩
 |node b Y s U O=>
  obtain⟨aH,aP,a7,a9,ba,bb,bc,be,bf⟩:=h.f
  by_cases am:Y.y<C.y
  ·have ax:(bd.node b Y s U O).next C=[]:=by simp_all[bd.next,bd.nD,bd.nE]
   have ay:(bd.node b Y s U O).gG C=false:=PP C Y am;rw[ax,ay];refine ap λg F=> ?_;refine aS λag=> ?_;refine aL ?_;refine aW (aE [0,1,2,3,4,5,6,7,8,9,10] (.q 11 .nil)) ?_;iterate 12 refine ai ?_
   refine cK ?_;refine cD p (decide_eq_true am) ?_;refine K ?_;refine af ?_;exact aj (C:=own 260 1 none 0 0 []::Z) p (.tmp p (.tmp p .nil)) (λh s=>bR (.skip (.skip .here)) (nm (lQ bo)) h (own.nil_ 260 1 h s)) ⟨none,0,rfl,λh=>absurd h (dc 0),rfl⟩
  ·have ax:(bd.node b Y s U O).nD C=if !U.iH&&decide (C.cB<=s.x)then[U]else[]:=by simp[bd.nD,am]
   have ay:(bd.node b Y s U O).nE C=if !O.iH&&decide (s.x<=C.cI)then[O]else[]:=by simp[bd.nE,am]
   unfold bd.next
   generalize(bd.node b Y s U O).nD C=I at*
   generalize(bd.node b Y s U O).nE C=W at*
   refine ap λg F=> ?_;refine aS λag=> ?_;refine aL ?_;refine aW (aE [0,1,2,3,4,5,6,7,8,9,10] (.q 11 .nil)) ?_;iterate 12 refine ai ?_
   refine cK ?_;refine b2 p (decide_eq_false am) ?_;refine b5 (own.nil_ 260 1) ?_;repeat refine fi ?_
   refine bZ ?_;refine hs (ι:=Option Addr×Nat) (λG=>[(0,R b),(3,R ag),(5,.slice G.1 I.length G.2)]) (λG=>own 260 1 G.1 I.length G.2 (flat (qt I))::ae ag 25 [j C.cB,j C.cI,j C.y]::F::Z) (λG=>0<I.length->∃b,G.1=(ak b)) ?_ ?_
   ·cases aV:U.iH with
    |true=>
     have J:I=[]:=by simp_all
     subst J;refine aW (aE [0,1,2,3,4,5,6,7,8,9,10,11,12,13] (.q 14 .nil)) ?_;iterate 6 refine ai ?_
     refine dB 23 (C:=false) p (by grind[bd.uE]) ?_;iterate 9 refine ai ?_
     refine cK ?_;refine b2 p aZ ?_;refine aF ?_;exact ex (none,0) (λh=>absurd h (dc 0)) a8 aq
    |false=>
     by_cases al:C.cB<=s.x
     ·have J:I=[U]:=by simp_all
      subst J;refine aW (aE [0,1,2,3,4,5,6,7,8,9,10,11,12,13] (.q 14 .nil)) ?_;iterate 6 refine ai ?_
      refine dB 23 (C:=true) p (by simp_all[bd.uE]) ?_;iterate 9 refine ai ?_
      refine cK ?_;refine cD p (decide_eq_true al) ?_;refine K ?_;refine aU λa0=> ?_;refine GE (bx p p aI cn (cS p) aZ Q ah ah) ?_;rintro _ _ ⟨aC,aO,rfl,a3,a5,aX,rfl⟩;refine ad ?_;refine af ?_;exact ex (aC,aO) (λ_=>aX Q) a8 aq
     ·have J:I=[]:=by simp_all
      subst J;refine aW (aE [0,1,2,3,4,5,6,7,8,9,10,11,12,13] (.q 14 .nil)) ?_;iterate 6 refine ai ?_
      refine dB 23 (C:=true) p (by grind[bd.uE]) ?_;iterate 9 refine ai ?_
      refine cK ?_;refine b2 p (decide_eq_false al) ?_;refine aF ?_;exact ex (none,0) (λh=>absurd h (dc 0)) a8 aq
   ·rintro⟨ar,av⟩ ao;simp only at ao;dsimp only;refine bZ ?_;refine hs (ι:=Option Addr×Nat) (λG=>[(0,R b),(3,R ag),(5,.slice G.1 (I++W).length G.2)]) (λG=>own 260 1 G.1 (I++W).length G.2 (flat (qt (I++W)))::ae ag 25 [j C.cB,j C.cI,j C.y]::F::Z) (λG=>0< (I++W).length->∃b,G.1=(ak b)) ?_ ?_
    ·have a2:I.length<=1:=by grind
     cases aV:O.iH with
     |true=>
      have J:W=[]:=by simp_all
      subst J;refine aW (aE [0,1,2,3,4,5,6,7,8,9,10,11,12,13] (.q 14 .nil)) ?_;iterate 6 refine ai ?_
      refine dB 45 (C:=false) p (by grind[bd.uE]) ?_;iterate 9 refine ai ?_
      refine cK ?_;refine b2 p aZ ?_;refine aF ?_;exact ex (ar,av) (λh=>ao (by grind)) ⟨rfl,rfl,by rw[dA];rfl,trivial⟩ (by rw[dA];exact aq)
     |false=>
      by_cases al:s.x<=C.cI
      ·have J:W=[O]:=by simp_all
       subst J;refine aW (aE [0,1,2,3,4,5,6,7,8,9,10,11,12,13] (.q 14 .nil)) ?_;iterate 6 refine ai ?_
       refine dB 45 (C:=true) p (by simp_all[bd.uE]) ?_;iterate 9 refine ai ?_
       refine cK ?_;refine cD p (decide_eq_true al) ?_;refine K ?_;refine aU λa1=> ?_;refine GE (bx p p aI cn (cS p) aZ Q ah ah) ?_;rintro _ _ ⟨aG,aQ,rfl,a4,a6,aY,rfl⟩;refine ad ?_;refine af ?_;exact ex (aG,aQ) (λ_=>aY Q) ⟨rfl,rfl,by simp only[bP,fD];rfl,trivial⟩ (by
        simp only[bP,fD,qt,List.map_append,List.map_cons,List.map_nil];rw[fI];exact aq)
      ·have J:W=[]:=by simp_all
       subst J;refine aW (aE [0,1,2,3,4,5,6,7,8,9,10,11,12,13] (.q 14 .nil)) ?_;iterate 6 refine ai ?_
       refine dB 45 (C:=true) p (by grind[bd.uE]) ?_;iterate 9 refine ai ?_
       refine cK ?_;refine b2 p (decide_eq_false al) ?_;refine aF ?_;exact ex (ar,av) (λh=>ao (by grind)) ⟨rfl,rfl,by rw[dA];rfl,trivial⟩ (by rw[dA];exact aq)
    ·rintro⟨au,aw⟩ aA;simp only at aA;dsimp only;refine aW (aE [0,1,2,3,4,6] (.e 5 (.q 7 (.q 8 .nil)))) ?_;iterate 6 refine ai ?_
     refine cU p p (Rv C Y _) ?_;iterate 2 refine ai ?_
     refine cK ?_;exact aj (C:=own 260 1 au (I++W).length aw (flat (qt (I++W)))::Z) p (.tmp p (.tmp p .nil)) aq ⟨au,aw,rfl,aA,rfl⟩
end dj
namespace dj
def bd.id:bd->Int
 | .nil=>0
 | .node _ j _ _ _=>j.id
def bd.seen(j:fS):bd->List Int
 | .nil=>[]
 | .node _ C s E D=>(if j.iv C.x C.y then[C.id]else[])++(if C.y<j.y then[]else(if !E.iH&&decide (j.cB<=s.x)then E.seen j else[])++(if !D.iH&&decide (s.x<=j.cI)then D.seen j else[]))
def iO(j:fS)(l:List bd):List Int:=l.flatMap (bd.seen j)
theorem bd.YS(C)(j:bd):j.seen C=(if j.gG C then[j.id]else[])++iO C (j.next C):=by
 cases j with
 |nil=>rfl
 |node b G s E D=>
  simp[bd.seen,bd.gG,bd.id,bd.next,bd.nD,bd.nE,iO];grind
def s5(l:List bd):Nat:=(l.map λj=>2*j.t.size+1).sum
def WO{D C}(E)(h:fl D C):∀y∈C.next E,fl D y:=by
 cases C with
 |nil=>intro y j;simp[bd.next,bd.nD,bd.nE]at j
 |node b J s I G=>
  intro y j;simp only[bd.next,bd.nD,bd.nE]at j;rcases cT.1 j with j|j
  ·split at j
   ·cases j
   ·split at j
    ·rw[oW]at j;subst j;exact h.2.1
    ·cases j
  ·split at j
   ·cases j
   ·split at j
    ·rw[oW]at j;subst j;exact h.2.2
    ·cases j
end dj
namespace dj
attribute [local irreducible] G bf cc
@[reducible] def kQ (D:bd) (C:Int):List Value:=[.pointer D.addr,j C]
def Z5(b C I j)(h:aB j b 0 2 (kQ C I)):D E 573 #[R b] j λv G=>v=.pointer C.addr/\G=j:=by
 have aa:=h.at_ (i:=0) p;refine ap λg F=> ?_;refine af ?_;refine aj p (.tmp p .nil) az ⟨rfl,rfl⟩
def Rn(b C G j)(h:aB j b 0 2 (kQ C G)):D E 521 #[R b] j λv I=>v=.pointer C.addr/\I=j:=by
 refine ap λg F=> ?_;refine a9 (Z5 b C G _ h.skip) ?_;refine af ?_;refine aj p (.tmp p .nil) az ⟨rfl,rfl⟩
def Ft(j q:I): [j.id,j.x,j.y]=[q.id,q.x,q.y]<->j=q:=by rw[I.zM];simp
def Tj{j s D C}(h:(bn.node j s D C).Ok){q}(E:q∈(bn.node j s D C).bO):q=j\/fr q j=true:=by
 rcases cQ.1 E with aa|aa
 ·simp_all
 ·exact .inr (h.2.2.2.2 q aa)
def Ti{D s C j}(h:(bn.node D s C j).Ok){q}(G:q≠D):q∈(bn.node D s C j).bO<->q∈(if ie q s then j else C).bO:=by
 have E:q∈(bn.node D s C j).bO<->q∈C.bO\/q∈j.bO:=by simp[bn.bO,G]
 rw[E];cases I:ie q s with
 |true=>
  simp only[if_true];constructor
  ·intro aa;rcases aa with ab|ab
   ·have:=h.2.2.1 q ab;simp_all
   omega
  simp_all
 |false=>
  rw[if_neg Q];constructor
  ·intro aa;rcases aa with ab|ab
   ·omega
   ·have:=h.2.2.2.1 q ab;simp_all
  simp_all
def Ll(b I aG C G)(h:aB G b 0 2 (kQ I aG))(aC:fl G I)(ay:I.t.Ok):
  D E 378 #[R b,C.v] G λv ar=>v=.bool (decide (C∈I.t.bO))/\ar=G:=by
 have aa:aR G ⟨b,0+0,none⟩ (.pointer I.addr):=h.at_ (i:=0) p;refine ap λg F=> ?_;refine aS λQ=> ?_;refine aL ?_
 (repeat first|refine bZ ?_|refine fi ?_|refine gk ?_)
 refine hs (ι:=bd) (λy=>[(3,R Q),(5,.pointer y.addr)]) (λy=>ae Q 43 [j C.id,j C.x,j C.y]::F::G) (λy=>fl G y/\match y with| .nil=>C∉I.t.bO| .node _ q _ _ _=>(C∈I.t.bO<->q=C)) ?_ ?_
 ·refine aF ?_;refine cJ (ι:=bd) (λy=>[(3,R Q),(5,.pointer y.addr)]) (λy=>ae Q 43 [j C.id,j C.x,j C.y]::F::G) (λy=>fl G y/\y.t.Ok/\(C∈I.t.bO<->C∈y.t.bO)) (λy=>y.t.size) I ⟨aC,ay,Iff.rfl⟩ a8 az ?_;rintro y ⟨J,O,W⟩;cases y with
  |nil=>
   refine aW (aE [0,1,2,3,4,5,6,7,8,9,10,11,12,13,14,15] (.e 16 (.q 17 (.q 18 .nil)))) ?_;iterate 16 refine ai ?_
   refine an (gy p p p ⟨_,rfl,rfl⟩ p ?_);refine K ?_;refine aF ?_;exact ex bd.nil ⟨trivial,λaA=>by have:=W.1 aA;trivial⟩ a8 az
  |node U q s am Z=>
   obtain⟨aH,aP,aI,aK,ao,aO,aQ,aV,aX⟩:=J.f
   by_cases ak:q=C
   ·have ag: [q.id,q.x,q.y]=[C.id,C.x,C.y]:=(Ft q C).2 ak;refine aW (aE [0,1,2,3,4,5,6,7,8,9,10,11,12,13,14,15] (.e 16 (.q 17 (.q 18 .nil)))) ?_;iterate 8 refine ai ?_
    refine b0 aT p p p p ⟨_,rfl,rfl⟩ p (zJ p p p p p p) ?_;iterate 2 refine ai ?_
    refine dB 22 p (decide_eq_false (λh=>h ag)) ?_;iterate 5 refine ai ?_
    refine an (gy p p p ⟨_,rfl,rfl⟩ p ?_);refine K ?_;refine aF ?_;exact ex (bd.node U q s am Z) ⟨J,by simp_all[bd.t,bn.bO]⟩ a8 az
   ·have ag: ¬ [q.id,q.x,q.y]=[C.id,C.x,C.y]:=λh=>ak ((Ft q C).1 h);cases aY:fr q C with
    |true=>
     refine aW (aE [0,1,2,3,4,5,6,7,8,9,10,11,12,13,14,15] (.e 16 (.q 17 (.q 18 .nil)))) ?_;iterate 8 refine ai ?_
     refine b0 aT p p p p ⟨_,rfl,rfl⟩ p (zJ p p p p p p) ?_;iterate 2 refine ai ?_
     refine dB 22 p (decide_eq_true ag) ?_;iterate 5 refine ai ?_
     refine an (f9 p p p ⟨_,rfl,rfl⟩ p (aw p (xS q C _)) ?_);rintro _ _ ⟨rfl,rfl⟩;refine cM ?_;refine b0 aT p p p p ⟨_,rfl,rfl⟩ p (cL p) ?_;refine ai ?_;refine cK ?_;refine b2 p (by simp_all) ?_;refine aF ?_;refine ex (bd.node U q s am Z) ⟨J,?_⟩ a8 az;rw[W];refine⟨λax=> ?_,λau=>absurd au ak⟩;rcases Tj O ax with av|av
     ·simp_all
     ·simp_all[aad]
    |false=>
     refine aW (aE [0,1,2,3,4,5,6,7,8,9,10,11,12,13,14,15] (.e 16 (.q 17 (.q 18 .nil)))) ?_;iterate 8 refine ai ?_
     refine b0 aT p p p p ⟨_,rfl,rfl⟩ p (zJ p p p p p p) ?_;iterate 2 refine ai ?_
     refine dB 22 p (decide_eq_true ag) ?_;iterate 5 refine ai ?_
     refine an (f9 p p p ⟨_,rfl,rfl⟩ p (aw p (xS q C _)) ?_);rintro _ _ ⟨rfl,rfl⟩;refine cM ?_;refine b0 aT p p p p ⟨_,rfl,rfl⟩ p (cL p) ?_;refine ai ?_;refine cK ?_;refine cD p (by simp_all) ?_;have al:=Ti O (Ne.symm ak);cases Y:ie C s with
     |true=>
      rw[Y]at al;refine K ?_;refine a9 ((by have:=Aa C s U (ae Q 43 [j C.id,j C.x,j C.y]::F::G) ao.skip.skip;rw[Y]at this;exact this)) ?_;refine af ?_;exact bM Z ⟨J.2.2,O.2.1,W.trans al⟩ (by simp[bd.t,bn.size]) a8 az
     |false=>
      rw[Y]at al;refine K ?_;refine a9 ((by have:=Aa C s U (ae Q 43 [j C.id,j C.x,j C.y]::F::G) ao.skip.skip;rw[Y]at this;exact this)) ?_;refine af ?_;exact bM am ⟨J.2.1,O.1,W.trans al⟩ (by grind[bd.t,bn.size]) a8 az
 ·rintro y ⟨J,O⟩;cases y with
  |nil=>
   refine aW (aE [0,1,2,3,4,5,6,7,8,9] (.q 10 .nil)) ?_;refine bI ?_;exact⟨congrArg Value.bool (decide_eq_false O).symm,rfl⟩
  |node U q s am Z=>
   obtain⟨aH,aP,aI,aK,ao,aO,aQ,aV,aX⟩:=J.f;refine aW (aE [0,1,2,3,4,5,6,7,8,9] (.q 10 .nil)) ?_;iterate 8 refine ai ?_
   refine b0 aT p p p p ⟨_,rfl,rfl⟩ p (sa p p p p p p) ?_;refine bI ?_;exact⟨congrArg Value.bool (decide_eq_decide.2 ((Ft q C).trans O.symm)),rfl⟩
end dj
namespace dj
def kR(b:Nat)(C:Int)(l:List I):aO:=λh=>∃j:bd,j.t.k7 l/\G [ae b 262 (kQ j C),mM j] h
def D.tree{E I args C b K l post}(W:∀j:bd,j.t.k7 l->D E I args (ae b 262 (kQ j K)::mM j::C) post):D E I args (kR b K l::C) post:=λg F ag J=>by
 obtain⟨aa,ab,O,U,Y,⟨j,o,q⟩,Z⟩:=J.s.swap;have R:=G.head (λ_ Q=>Q▸q) ⟨aa,ab,O,U,Y,rfl,Z⟩;exact W j o g F ag ⟨J.g,R.perm (e4)⟩
def r7{E M b C I D l}(o:D.k7 l)(O:∀h,G E h->G (ae b 262 [.pointer C,j I]::ca D C::M) h):∀h,G E h->G (kR b I l::M) h:=λh s=>by
 refine G.fold (N:=[_,_]) (λh q=> ?_) (O h s);obtain⟨aa,ab,J,W,Y,aH,R,U,K,Z,ag,aP,al⟩:=q;obtain⟨ak,rfl,rfl,Q⟩:=Fs D C _ aP;exact⟨ak,o,aa,ab,J,W,Y,aH,R,U,K,Z,ag,Q,al⟩
def bd.F1(D:fS):∀Y:bd,Y.t.Ok->(Y.seen D).Perm ((Y.t.bO.filter λj=>D.iv j.x j.y).map (·.id))
 | .nil,_=> .refl _
 | .node b j s G E,h=>by
  have aa:=F1 D G h.1;have ab:=F1 D E h.2.1;simp only[bd.t]at h;have am:j.y<D.y->∀q∈G.t.bO++E.t.bO,D.iv _ _=false:=λag q J=>by
   have:=h.2.2.2.2 q J;unfold fr at this;rw[decide_eq_true_eq]at this;have:=GM q j C;exact PP D q C
  have al:(if !G.iH&&decide (D.cB<=s.x)then G.seen D else[]).Perm ((G.t.bO.filter λj=>D.iv j.x j.y).map (·.id)):=by
   cases G with
   |nil=>rfl
   |node K U W R Q=>
    by_cases O:D.cB<=s.x
    ·simpa[bd.iH,O]using aa
    ·have Z:((bd.node K U W R Q).t.bO.filter λj=>D.iv j.x j.y)=[]:=by
      rw[lA];intro q J;have:=h.2.2.1 q J;rw[CP]at this;have ae: ¬s.less q=true:=by simp_all
      rw[I.oA]at ae;simp[fS.iv,j1];omega
     simp_all
  have ak:(if !E.iH&&decide (s.x<=D.cI)then E.seen D else[]).Perm ((E.t.bO.filter λj=>D.iv j.x j.y).map (·.id)):=by
   cases E with
   |nil=>rfl
   |node K U W R Q=>
    by_cases O:s.x<=D.cI
    ·simpa[bd.iH,O]using ab
    ·have Z:((bd.node K U W R Q).t.bO.filter λj=>D.iv j.x j.y)=[]:=by
      rw[lA];intro q J;have:=h.2.2.2.1 q J;rw[CQ,I.oA]at this;simp[fS.iv,j1];omega
     simp_all
  simp only[bd.seen,bd.t,bn.bO,List.filter_append];have ao:(if j.y<D.y then[]else(if !G.iH&&decide (D.cB<=s.x)then G.seen D else[])++(if !E.iH&&decide (s.x<=D.cI)then E.seen D else[])).Perm (((G.t.bO.filter λj=>D.iv j.x j.y)++(E.t.bO.filter λj=>D.iv j.x j.y)).map (·.id)):=by
   by_cases ag:j.y<D.y
   ·simp_all
   grind
  grind
end dj
namespace dj
attribute [local irreducible] G bf cc
def Q3(G I)(Q:1<=G/\G<=1048576):D E 110 #[j G] I λv J=>∃b,v=.tuple #[R b,j 0]/\J=kR b G []::I:=by
 refine ap λg F=> ?_;refine dE 6 p (decide_eq_false C) ?_;iterate 3 refine ad ?_
 refine af ?_;refine b2 p (decide_eq_false C) ?_;refine K ?_;refine aS λO=> ?_;refine af ?_;refine aj rfl (.tmp p (.tmp p .nil)) ?_ ⟨O,rfl,rfl⟩;apply bR;focus ((repeat' first|exact aN.here|apply aN.skip|apply aN.bE);done)
 exact r7 (D:=.nil) (C:=none) bn.of_nil (by(repeat first|exact bo|apply mw|refine b7 ?_)<;>fail)
def gX(C:Int)(l:List I)(j:I):Int:=if eg j=false then 1 else if j∈l then 5 else if C<=l.length then 4 else 0
def ot(C:Int)(l:List I)(j:I):List I:=if gX C l j=0 then j::l else l
def Q2(b I l G Y)(aA:l.length+1<=100000):
  D E 284 #[R b,G.v] (kR b I l::Y) λv Q=>v=j (gX I l G)/\Q=kR b I (ot I l G)::Y:=by
 refine D.tree λJ o=> ?_;have Z:G∈J.t.bO<->G∈l:=o.perm.mem_iff;have aG:=o.size;have ao:∀Q,aB (ae b 262 (kQ J I)::Q) b 0 2 (kQ J I):=λQ=>aB.ae p;have al:∀Q,fl (mM J::Q) J:=λQ=>xm J Q;have aC:∀Q,aR (ae b 262 (kQ J I)::Q) ⟨b,0+0,none⟩ (.pointer J.addr):=λQ=>aR.ae p;refine ap λg F=> ?_;refine aU λav=> ?_;refine ad ?_;refine aL ?_;cases ay:eg G with
 |false=>
  have U:gX I l G=1:=by simp_all[gX,if_pos]
  have W:ot I l G=l:=by unfold ot;simp_all
  rw[U,W];refine K ?_;refine br p p p p ?_;refine bw p (tF G _) ?_;refine br p p p p ?_;refine aD (cL p) ?_;iterate 2 refine ad ?_
  refine af ?_;refine cD p (by simp_all) ?_;refine K ?_;refine af ?_;refine aj (C:=kR b I l::Y) p (.tmp p .nil) ?_ ⟨rfl,rfl⟩;apply bR;focus ((repeat' first|exact aN.here|apply aN.skip|apply aN.bE);done)
  exact r7 (D:=J.t) (C:=J.addr) o (by(repeat first|exact bo|apply ul p p|refine b7 ?_)<;>fail)
 |true=>
  refine K ?_;refine br p p p p ?_;refine bw p (tF G _) ?_;refine br p p p p ?_;refine aD (cL p) ?_;iterate 2 refine ad ?_
  refine af ?_;refine b2 p (by simp_all) ?_;refine K ?_;refine a9 (Ll b J I G _ (by repeat' first|exact ao _|apply aB.skip) (by repeat' first|exact al _|apply fl.skip) o.ok) ?_;refine aL ?_
  by_cases ag:G∈l
  ·have U:gX I l G=5:=by simp_all[gX,if_neg,if_pos]
   have W:ot I l G=l:=by unfold ot;simp_all
   rw[U,W];refine aF ?_;refine cD p (decide_eq_true (Z.2 ag)) ?_;refine K ?_;refine af ?_;refine aj (C:=kR b I l::Y) p (.tmp p .nil) ?_ ⟨rfl,rfl⟩;apply bR;focus ((repeat' first|exact aN.here|apply aN.skip|apply aN.bE);done)
   exact r7 (D:=J.t) (C:=J.addr) o (by(repeat first|exact bo|apply ul p p|refine b7 ?_)<;>fail)
  ·have ak:G∉J.t.bO:=λh=>ag (Z.1 h);refine aF ?_;refine b2 p (decide_eq_false ak) ?_;refine aW (aE [0,1,2,3,5,6,7,8] (.e 4 (.q 9 (.q 10 .nil)))) ?_;iterate 8 refine ai ?_
   refine cU p p (YD J _ (by repeat' first|exact al _|apply fl.skip)) ?_;refine K ?_
   by_cases ax:I<=l.length
   ·have U:gX I l G=4:=by simp_all[gX,if_neg,if_pos]
    have W:ot I l G=l:=by unfold ot;simp_all
    rw[U,W];refine aF ?_;refine cD p (decide_eq_true C) ?_;refine K ?_;refine af ?_;refine aj (C:=kR b I l::Y) p (.tmp p .nil) ?_ ⟨rfl,rfl⟩;apply bR;focus ((repeat' first|exact aN.here|apply aN.skip|apply aN.bE);done)
    exact r7 (D:=J.t) (C:=J.addr) o (by(repeat first|exact bo|apply ul p p|refine b7 ?_)<;>fail)
   ·have U:gX I l G=0:=by simp_all[gX,if_neg]
    have W:ot I l G=G::l:=by unfold ot;simp_all
    rw[U,W];refine aF ?_;refine b2 p (decide_eq_false C) ?_;refine hr 3 (aE [0,1,2,3,4,5] (.e 6 (.q 7 (.q 8 (.e 9 .nil))))) ?_;iterate 6 refine ai ?_
    refine an (dh O p p p (aw p (D.pre (M:=ca J.t J.addr:: _) (by(repeat first|exact bo|apply ul p p|refine b7 ?_)<;>fail) (sQ J.t J.addr G _ o.ok o.ni ak C))) ?_);rintro _ _ ⟨am,au,rfl,ar,rfl⟩;iterate 2 refine ai ?_
    refine an (cj O p p p (c5 p p p cd) ?_);rintro _ _ ⟨rfl,rfl⟩;refine K ?_;refine af ?_;refine aj (C:=kR b I (G::l)::Y) p (.tmp p .nil) ?_ ⟨rfl,rfl⟩;apply bR;focus ((repeat' first|exact aN.here|apply aN.skip|apply aN.bE);done)
    exact r7 (D:=au) (C:=am) (ar.congr (o.perm.cons G)) aq
def pt(l:List I)(j:I):Int:=if j∈l then 0 else 6
def Q0(b J l G U)(au:l.length<=100000):
  D E 285 #[R b,G.v] (kR b J l::U) λv Q=>v=j (pt l G)/\Q=kR b J (l.erase G)::U:=by
 refine D.tree λI o=> ?_;have ag:G∈I.t.bO<->G∈l:=o.perm.mem_iff;have av:=o.size;have al:∀Q,aB (ae b 262 (kQ I J)::Q) b 0 2 (kQ I J):=λQ=>aB.ae p;have ak:=λQ=>xm I Q;refine ap λg F=> ?_;refine aS λar=> ?_;refine bw p (Ll b I J G _ (by repeat' first|exact al _|apply aB.skip) (by repeat' first|exact ak _|apply fl.skip) o.ok) ?_;refine aD (cL p) ?_;refine ad ?_;refine aL ?_
 by_cases W:G∈l
 ·have Y:pt l G=0:=if_pos W;rw[Y];refine aF ?_;refine b2 p (by simp_all) ?_;refine hr 3 (aE [0,1,2,3,4,5] (.e 6 (.q 7 (.q 8 (.e 9 .nil))))) ?_;iterate 6 refine ai ?_
  refine an (dh O p p p (aw p (D.pre (M:=ca I.t I.addr:: _) (by(repeat first|exact bo|apply ul p p|refine b7 ?_)<;>fail) (r1 I.t I.addr G _ o.ok o.ni (ag.2 W) C))) ?_);rintro _ _ ⟨Z,ao,rfl,am,rfl⟩;iterate 2 refine ai ?_
  refine an (cj O p p p (c5 p p p cd) ?_);rintro _ _ ⟨rfl,rfl⟩;refine K ?_;refine af ?_;refine aj (C:=kR b J (l.erase G)::U) p (.tmp p .nil) ?_ ⟨rfl,rfl⟩;apply bR;focus ((repeat' first|exact aN.here|apply aN.skip|apply aN.bE);done)
  exact r7 (D:=ao) (C:=Z) (am.congr (o.perm.erase G)) aq
 ·have Y:pt l G=6:=if_neg W;rw[Y,List.erase_of_not_mem W];refine aF ?_;refine cD p (by simp_all) ?_;refine K ?_;refine af ?_;refine aj (C:=kR b J l::U) p (.tmp p .nil) ?_ ⟨rfl,rfl⟩;apply bR;focus ((repeat' first|exact aN.here|apply aN.skip|apply aN.bE);done)
  exact r7 (D:=I.t) (C:=I.addr) o (by(repeat first|exact bo|apply ul p p|refine b7 ?_)<;>fail)
end dj
namespace dj
instance aaG:e5 bd:=⟨1,λj=>[.pointer j.addr],λ_=>rfl,λ_ v h=>by simp at h;subst h;rfl⟩
def ba(b:Nat)(D:Int)(l:List bd):aO:=λh=>∃C:Option Addr×Nat,(0<l.length->∃b,C.1=(ak b))/\G [ae b 611 [.slice C.1 l.length C.2,j D],own 260 1 C.1 l.length C.2 (flat l)] h
def sX{s I l M E}(h:G (ba s I l::M) E):∃D C,(0<l.length->∃b,D=(ak b))/\l.length<=C/\C<=maxLen/\G (ae s 611 [.slice D l.length C,j I]::own 260 1 D l.length C (flat l)::M) E:=by
 obtain⟨aa,ab,K,R,U,⟨⟨D,C⟩,Q,q⟩,W⟩:=h;have J:=own.facts q.tail;exact⟨D,C,Q,J.2.1,J.2.2.1,G.head (A:=λh=>h=aa) (λ_ O=>O▸q) ⟨aa,ab,K,R,U,rfl,W⟩⟩
def D.nR{I J args G b O l post}
  (W:∀E C,(0<l.length->∃b,E=(ak b))->l.length<=C->C<=maxLen->D I J args (ae b 611 [.slice E l.length C,j O]::own 260 1 E l.length C (flat l)::G) post):D I J args (ba b O l::G) post:=λg F U K=>by
 obtain⟨E,C,aa,ab,Q,R⟩:=sX K.s.swap;exact W E C aa ab Q g F U ⟨K.g,R.perm (e4 (l₁:=[_,_]))⟩
def lR{C M b c A D l}(I:0<l.length->∃b,A=(ak b))(E:∀h,G C h->G (ae b 611 [.slice A l.length c,j D]::own 260 1 A l.length c (flat l)::M) h):∀h,G C h->G (ba b D l::M) h:=λh s=>
 G.fold (N:=[_,_]) (λh q=>⟨(A,c),I,q⟩) (E h s)
def Fj{D b j E C v I}(K:(v::C::I).length=j*1)(O:2<=j)(Q:j<=maxLen):∀h,G (ae b E (C::v::I)::D) h->G (own E 1 (ak b) 2 j [C,v]::D) h:=λh s=>by
 obtain⟨aa,ab,J,R,U,q,W⟩:=s;exact⟨aa,ab,J,R,U,own.kF q K O Q,W⟩
theorem Gw(j v C):ej (ej (j::v::C) (0+0*1) [v]) (0+1*1) [j]=v::j::C:=by
 rw[jy (j::v::C) _ _ Q,jy _ _ _ Q];rfl
end dj
namespace dj
attribute [local irreducible] G
abbrev kS:Nat:=260
abbrev GS:Nat:=567
abbrev GT:Nat:=609
abbrev s6:Nat:=685
abbrev qg:Nat:=687
abbrev rr:Type:=bd
def rF{G c1 c2 I}{post:List aO->Prop}[J:b4 E G](h:D E G (c1++[]++c2).toArray I λv C=>post C):
  D E 114 #[.func (.func G) c1.toArray c2.toArray] I λv C=>v=.tuple #[.agg #[j 0,j 0],.bool false]/\post C:=F6
def pb(L):D E 520 #[j 65536] L λv C=>∃b,v=.tuple #[R b,j 0]/\C=ba b 65536 []::L:=Gd
def m5(b l C):D E 680 #[R b] (ba b 65536 l::C) λv G=>v=j (l.length:Nat)/\G=ba b 65536 l::C:=Ge
def xM(b G J C)(h:aB C b 0 2 [.slice G 0 J,j 65536]):D E 697 #[R b] C λv I=>v=.tuple #[.pointer none,.bool false]/\I=C:=Gf
def xL(b J n O l)(I:bd)(G)(h:aB G b 0 2 [.slice J n O,j 65536])(U:Rd G J n (l++[I]))(Y:n=l.length+1)(W:n<=65536):D E 697 #[R b] G λv K=>v=.tuple #[.pointer I.addr,.bool true]/\K=G:=Gg
def xq(b j):D E 693 #[R b] (ba b 65536 []::j) λv C=>v=.tuple #[.pointer none,.bool false]/\C=ba b 65536 []::j:=Gh
def xp(b l j G)(W:l.length+1<=65536):D E 693 #[R b] (ba b 65536 (l++[j])::G) λv I=>v=.tuple #[.pointer j.addr,.bool true]/\I=ba b 65536 l::G:=Gi
def sO(b J G q l I j)(U:Rd j J G I)(W:l.length+G<=65536):D E 575 #[R b,.slice J G q] (ba b 65536 l::j) λv O=>v=.tuple #[]/\O=ba b 65536 (l++I)::j:=Gj
def xv(J K b G C q l I j)(ab:aR j ⟨J,0,none⟩ (R b))(W:aR j ⟨K,0,none⟩ (.slice G C q))(U:Rd j G C I)(Q:l.length+C<=65536):
  D E 574 #[R J,R K] (ba b 65536 l::j) λv O=>O=ba b 65536 (l++I)::j:=Gk
def rO(b J G q l I C)(W:Rd C J G I)(U:l.length+G<=65536):D E 522 #[R b,.slice J G q] (ba b 65536 l::C) λv K=>v=j 0/\K=ba b 65536 (l++I)::C:=Gl
def tE(C n I)(l:List bd)(j)(J:Rd j C n l)(R:n<=1000000):
  D E 694 #[.slice C n I] j λv G=>Made 260 l j v G:=F7
def vL(I C)(l:List bd)(J)(Y:0<l.length->∃b,I=(ak b))(ab:l.length<=2):
  D E 695 #[.slice I l.length C] (own 260 1 I l.length C (flat l)::J) λv ag=>v=.tuple #[]/\ag=own 260 1 I l.length C (flat l.reverse)::J:=F8
def i1(j:Program)(C:TypeId):Bool:=match j.underlying C with
 |some (.func _ _ _)=>true
 | _=>false
class iU (j:Program) (C:TypeId):Prop where
 h:i1 j C=true
def iU.spec{j C}(D:iU j C):∃E b G,j.underlying C=some (.func E b G):=by
 have h:=D.h;unfold i1 at h;grind
def wy{j O E}{U:Option Nat}{ak C Q ag R W J y I G b}[K:iU j C](Z:aY E J=some (.func I G b))(ae:aY E y=some .nilFunc):bf j O E ⟨U,.binOp .eql C J y Q,ak,ag,R,W⟩ (.bool false):=
 iY _ _ _ _ (λD=>by rfl) Z ae λD=>by
  obtain⟨_,_,_,Y⟩:=K.spec;have ab:(dD C (.func I G b) .nilFunc).run j D=.ok false D:=by
   unfold dD;rw[show Op.maxDepth=9999+1 from rfl];unfold Op.equalIn;simp only[Sem.run_bind,run_underlying Y];rfl
  show((do pure (.bool (<- dD C _ _)):Sem Value)).run j D= _;simp_all
instance:iU E 684:=⟨O⟩
structure gz (S:Type)where
 V:S->aO
 ok:bd->S->Prop
 kids:bd->List bd
 g8:bd->S->S
 f:FuncId
 dt:List Value
 d5:List Value
 dL:List bd->S->Nat->Prop
structure gz.Good {S:Type} (j:gz S) (O:aG):Prop where
 pq:b4 E j.f
 qe:∀(M:aG) (I:bd) (C:S),(∀h,G M h->G O h)->j.ok I C->D E j.f (j.dt++[Value.pointer I.addr]++j.d5).toArray (j.V C::M) λv Q=>Made 260 (j.kids I) (j.V (j.g8 I C)::M) v Q
 next:∀(l:List bd) (I:bd) (C:S) (J:Nat),j.dL (l++[I]) C J->∃K,J=K+1/\j.dL (l++(j.kids I).reverse) (j.g8 I C) K
 stop:∀(C:S) (J:Nat),j.dL [] C J->J=0
 cap:∀(l:List bd) (C:S) (J:Nat),j.dL l C J->l.length<=60000/\∀I∈l,j.ok I C/\(j.kids I).length<=2
@[reducible] def eH {S} (C:gz S) (s n:Nat):List Value:=[R s,.func (.func C.f) C.dt.toArray C.d5.toArray,j (n:Nat)]
def xZ{S}(G:gz S)(j s n C):D E 689 #[R j] (ae j 687 (eH G s n)::ba s 65536 []::C) λv I=>v=.bool false/\I=ae j 687 (eH G s n)::ba s 65536 []::C:=F9
def xY{S}(j O s n l I)(Q:S)(J U)(Y:j.Good U)(Z:∀h,G J h->G U h)(ak:j.ok I Q)(ag:(j.kids I).length<=2)(ar:l.length<=60000)(au:n<=1000000000000):
  D E 689 #[R O] (ae O 687 (eH j s n)::ba s 65536 (l++[I])::j.V Q::J) λv W=>v=.bool true/\W=ae O 687 (eH j s (n+1))::ba s 65536 (l++(j.kids I).reverse)::j.V (j.g8 I Q)::J:=Ga
def xV{S}(I Y W J s Q U l)(al:S)(Z ag)(au:I.Good ag)(aC:∀h,G Z h->G ag h)(aA:I.dL l al U)(aH:U<=100000000):
  D E 688 #[R Y,R W] (ae Y 685 [R J]::ae W 3 [j (Q:Nat)]::ae J 687 (eH I s 0)::ba s 65536 l::I.V al::Z)
   λv av=>∃am ao,I.dL am ao (U-min Q U)/\av=ae Y 685 [R J]::ae W 3 [j (Q:Nat)]::ae J 687 (eH I s (min Q U))::ba s 65536 am::I.V ao::Z:=Gb
def rR{S}(C:gz S)(s K I l Y J W)(ak:C.Good W)(ag:∀h,G J h->G W h)(ae:C.dL l Y I)(al:I<=100000000):
  D E 683 #[R s,j (K:Nat),.func (.func C.f) C.dt.toArray C.d5.toArray] (ba s 65536 l::C.V Y::J)
   λv Z=>∃O U,v=.tuple #[j (min K I:Nat),j 0]/\C.dL O U (I-min K I)/\Z=ba s 65536 O::C.V U::J:=Gc
end dj
namespace dj
attribute [local irreducible] G bf cc
def Cn(G C I)(h:fl I G):D E 690 #[.pointer G.addr,.agg #[j C.cB,j C.cI,j C.y]] I λv K=>ID (G.gG C) (G.next C) I v K:=by
 refine ap λg F=> ?_;refine aS λR=> ?_;refine GE (aw p (EG G C _ h.skip.skip)) ?_;rintro _ _ ⟨J,O,rfl,Q,rfl⟩;iterate 4 refine ad ?_
 refine af ?_;exact aj rfl (.tmp p (.tmp p .nil)) aq ⟨J,O,rfl,Q,rfl⟩
def bd.iq:bd->I
 | .nil=>⟨0,0,0⟩
 | .node _ j _ _ _=>j
def QV(j C)(h:fl C j):D E 691 #[.pointer j.addr] C λv G=>v=j.iq.v/\G=C:=by
 cases j with
 |nil=>
  refine ap λg F=> ?_;refine aS λI=> ?_;refine af ?_;refine aj p (.cell p (c7 bS) .nil) az ⟨rfl,rfl⟩
 |node b O s K J=>
  obtain⟨aH,aP,Q,R,U,W,Y,Z,ae⟩:=h.f;refine ap λg F=> ?_;refine aS λI=> ?_;refine af ?_;refine aj p (.cell p (c7 bS) .nil) az ⟨rfl,rfl⟩
def bd.bi(j:fS):bd->Nat
 | .nil=>1
 | .node _ E s D C=>1+if E.y<j.y then 0 else(if !D.iH&&decide (j.cB<=s.x)then D.bi j else 0)+(if !C.iH&&decide (s.x<=j.cI)then C.bi j else 0)
def ig(j:fS)(l:List bd):Nat:=(l.map (bd.bi j)).sum
theorem Db(j l C):ig j (l++C)=ig j l+ig j C:=by simp[ig]
theorem bd.JT(j)(C:bd):C.bi j=1+ig j (C.next j):=by
 cases C with
 |nil=>rfl
 |node b D s G E=>
  unfold bd.bi bd.next
  rw[Db];simp[bd.nD,bd.nE]
  by_cases h:D.y<j.y
  ·simp[h,ig]
  ·rw[if_neg h,if_neg h,if_neg h]
   congr 2<;>split<;>simp[ig]
def bd.ze(j):∀C:bd,C.iH=false->C.bi j<=C.t.size
 | .nil,h=>by cases h
 | .node b G s E D,_=>by
  have aa:=bd.ze j E;have ab:=bd.ze j D;simp[bd.bi,bd.t,bn.size];grind
theorem OP(j l C):iO j (l++C)=iO j l++iO j C:=by simp[iO]
def WP(C)(j:bd):(j.next C).length<=2:=by
 cases j with
 |nil=>simp[bd.next,bd.nD,bd.nE]
 |node b G s E D=>
  grind[bd.next,bd.nD,bd.nE]
end dj
namespace dj
def sb{E D W}{I:Option Nat}{R O K G J U C}(Z:aY W U=some (j C)):
  bf E D W ⟨I,.call ⟨.builtin .max,#[U,.const (j 0)],O⟩,R,K,G,J⟩ (j (C.toNat:Nat)):=by
 have h:=uu (P:=E) (L:=D) (d:=I) (aQ:=R) (K:=O) (a3:=K) (a2:=G) (a0:=J) (y:=.const (.int _ 0)) Z p;have Y:max C 0=((C.toNat:Nat):Int):=Q;rwa[Y]at h
@[reducible] def wk (s:Nat) (C:fS) (J:Bool) (D:bA) (I E n G:Nat):List Value:=[R s,j C.cB,j C.cI,j C.y,.bool J,.slice D I E,j (n:Nat),j (G:Nat)]
def jm(b s:Nat)(D:fS)(E:Bool)(j:List Int)(n C:Nat):aO:=λh=>∃y:Option Addr×Nat,(0<j.length->∃b,y.1=(ak b))/\G [ae b 572 (wk s D E y.1 j.length y.2 n C),own 3 1 y.1 j.length y.2 (flat j)] h
def J0{b s n I K O C M E}(h:G (jm b s K O C n I::M) E):∃D j,(0<C.length->∃b,D=(ak b))/\C.length<=j/\j<=maxLen/\G (ae b 572 (wk s K O D C.length j n I)::own 3 1 D C.length j (flat C)::M) E:=by
 obtain⟨aa,ab,Q,W,Y,⟨⟨D,j⟩,U,q⟩,Z⟩:=h;have J:=own.facts q.tail;exact⟨D,j,U,J.2.1,J.2.2.1,G.head (A:=λh=>h=aa) (λ_ R=>R▸q) ⟨aa,ab,Q,W,Y,rfl,Z⟩⟩
def D.zh{I J args G b s n O Q R C post}
  (W:∀E j,(0<C.length->∃b,E=(ak b))->C.length<=j->j<=maxLen->D I J args (ae b 572 (wk s Q R E C.length j n O)::own 3 1 E C.length j (flat C)::G) post):D I J args (jm b s Q R C n O::G) post:=λg F v K=>by
 obtain⟨E,j,aa,ab,U,Y⟩:=J0 K.s.swap;exact W E j aa ab U g F v ⟨K.g,Y.perm (e4 (l₁:=[_,_]))⟩
def Cc{K E g J G W I b s n Q R U C}
  (h:∀D j,(0<C.length->∃b,D=(ak b))->C.length<=j->j<=maxLen->bc K E g J G W (ae b 572 (wk s R U D C.length j n Q)::own 3 1 D C.length j (flat C)::I)):bc K E g J G W (jm b s R U C n Q::I):=λY v al O=>by
 obtain⟨D,j,aa,ab,Z,ag⟩:=J0 O.s;exact h D j aa ab Z Y v al ⟨O.g,ag⟩
def nl{E M b s D n I C J K j}(Q:0<j.length->∃b,C=(ak b))(O:∀h,G E h->G (ae b 572 (wk s J K C j.length D n I)::own 3 1 C j.length D (flat j)::M) h):∀h,G E h->G (jm b s J K j n I::M) h:=λh R=>
 G.fold (N:=[_,_]) (λh q=>⟨(C,D),Q,q⟩) (O h R)
structure k2 (C:fS) (G:Bool) (E:List Int) (I:aG) (l:List bd) (j:List Int×Nat) (D:Nat):Prop where
 rest:D=ig C l
 small:D<=60000
 ok:∀J∈l,fl I J
 ids:G=true->j.1++iO C l.reverse=E
 none:G=false->j.1=[]
 many:j.2+(iO C l.reverse).length=E.length
@[reducible] def J2 (b s:Nat) (D:fS) (E:Bool) (I:Nat) (J:List Int) (G:aG):gz (List Int×Nat)where
 V:=λj=>jm b s D E j.1 j.2 I
 ok:=λC j=>fl G C/\j.1.length<=1000000/\j.2<=1000000
 kids:=λC=>C.next D
 g8:=λC j=>(if C.gG D&&E then j.1++[C.id]else j.1,if C.gG D then j.2+1 else j.2)
 f:=684
 dt:=[R b]
 d5:=[]
 dL:=k2 D E J G
theorem KP:∀l:List bd,flat (qt l)=flat l
 | []=>rfl
 |x::l=>by
  have j:qt (x::l)=x.addr::qt l:=rfl;rw[j,jo,jo,KP l];rfl
theorem k2.len{I D C E l j G}(h:k2 I D C E l j G)(J:C.length<=1000000):j.1.length<=1000000:=by
 cases D with
 |true=>
  have:=congrArg List.length (h.ids p);grind
 |false=>rw[h.none p];simp
def bd.SP(j)(C:bd):1<=C.bi j:=by rw[C.JT j];simp
def we(j):∀l:List bd,l.length<=ig j l
 | []=>Nat.le_refl _
 |x::l=>by
  have aa:=we j l;have ab:=x.SP j;grind[ig,fc]
theorem SN(j l):ig j l.reverse=ig j l:=((List.reverse_perm l).map _).sum_nat
theorem k2.next{j J R K l}{D:bd}{G O}(h:k2 j J R K (l++[D]) G O):
  ∃Q,O=Q+1/\k2 j J R K (l++(D.next j).reverse) (if D.gG j&&J then G.1++[D.id]else G.1,if D.gG j then G.2+1 else G.2) Q:=by
 have aa:=h.rest;have ab:=h.small;have W:=h.ok D (cT.2 (.inr (oW.2 p)));have Y:ig j (l++[D])=ig j l+(1+ig j (D.next j)):=by rw[Db,<- D.JT j];rfl
 have Z:iO j (l++[D]).reverse=(if D.gG j then[D.id]else[])++(iO j (D.next j)++iO j l.reverse):=by
  rw[mY,List.reverse_singleton,OP];have:iO j [D]=D.seen j:=by simp[iO]
  rw[this,D.YS j,List.append_assoc]
 have ae:iO j (l++(D.next j).reverse).reverse=iO j (D.next j)++iO j l.reverse:=by rw[mY,List.reverse_reverse,OP]
 have U:ig j (l++(D.next j).reverse)=ig j l+ig j (D.next j):=by rw[Db,SN]
 refine⟨ig j l+ig j _,C,U.symm,C,λy E=> ?_,λI=> ?_,λI=> ?_,?_⟩
 ·rcases cT.1 E with E|E
  ·exact h.ok y (cT.2 (.inl E))
  ·exact WO j W y (List.mem_reverse.1 E)
 ·have:=h.ids I;grind
 ·have:=h.none I;simp_all
 ·have:=h.many;grind
end dj
namespace dj
attribute [local irreducible] G bf cc
def Co(G C J)(h:fl J G):D E 690 #[.pointer G.addr,.agg #[j C.cB,j C.cI,j C.y]] J λv O=>∃I K,v=.tuple #[.bool (G.gG C),.slice I (G.next C).length K]/\(0< (G.next C).length->∃b,I=(ak b))/\O=own 260 1 I (G.next C).length K (flat (G.next C))::J:=
 (Cn G C J h).mono λv O ⟨I,K,Q,R,U⟩=>⟨I,K,Q,R,by rw[U,KP]⟩
def S2(b s ak j al G n C ae)(au:fl ae C)(aX:n<=1000000)(aS:G.length<=1000000):
  D E 684 #[R b,.pointer C.addr] (jm b s j al G n ak::ae) λv ax=>Made 260 (C.next j) (jm b s j al (if C.gG j&&al then G++[C.id]else G) (if C.gG j then n+1 else n) ak::ae) v ax:=by
 refine D.zh λaH ao ar aO aP=> ?_;refine ap λg F=> ?_;refine GE (aw p (Co C j _ au.skip.skip.skip)) ?_;rintro _ _ ⟨Z,ag,rfl,am,rfl⟩;iterate 5 refine ad ?_
 refine aL ?_;cases aA:C.gG j with
 |false=>
  refine K ?_;refine af ?_;exact aj (C:=own 260 1 Z (C.next j).length ag (flat (C.next j))::jm b s j al G n ak::ae) p (.tmp p .nil) (by(repeat first|exact bo|apply nl (D:=ao) ar|refine b7 ?_)<;>fail) ⟨Z,ag,rfl,am,rfl⟩
 |true=>
  cases C with
  |nil=>cases aA
  |node I W Y U J=>
   cases al with
   |true=>
    refine K ?_;refine aW (aE [0,1,2,3,4,5] (.e 6 (.q 7 (.e 8 (.e 9 (.q 10 (.q 11 (.e 12 .nil)))))))) ?_;iterate 6 refine ai ?_
    refine cU p p (QV (bd.node I W Y U J) _ au.skip.skip.skip.skip) ?_;refine ai ?_;refine hu λaK=> ?_;refine an (dh O p p p (bx p p aI cn (cS p) aZ Q ah ah) ?_);rintro _ _ ⟨av,ay,rfl,aQ,aV,aG,rfl⟩;iterate 2 refine ai ?_
    refine an (cj O p p p (c5 p p p cd) ?_);rintro _ _ ⟨rfl,rfl⟩;refine K ?_;refine af ?_;have aC:(G++[(bd.node I W Y U J).id]).length=G.length+1:=Q;refine aj (C:=own 260 1 Z ((bd.node I W Y U J).next j).length ag (flat ((bd.node I W Y U J).next j))::jm b s j true (G++[(bd.node I W Y U J).id]) (n+1) ak::ae) p (.tmp p .nil) ?_ ⟨Z,ag,rfl,am,rfl⟩;apply bR;focus ((repeat' first|exact aN.here|apply aN.skip|apply aN.bE);done)
    apply bR;focus ((repeat' first|exact aN.here|apply aN.skip|apply aN.bE);done)
    refine nl (D:=ay) (C:=av) (λ_=>aG Q) ?_;rw[aC,<- gm];exact aq
   |false=>
    refine K ?_;refine af ?_;exact aj (C:=own 260 1 Z ((bd.node I W Y U J).next j).length ag (flat ((bd.node I W Y U J).next j))::jm b s j false G (n+1) ak::ae) p (.tmp p .nil) (by(repeat first|exact bo|apply nl (D:=ao) ar|refine b7 ?_)<;>fail) ⟨Z,ag,rfl,am,rfl⟩
def S1(b s G Q J O I)(U:O.length<=1000000):(J2 b s G Q J O I).Good I where
 pq:=inferInstanceAs (b4 E 684)
 qe:=λM D C R j=>S2 b s J G Q C.1 C.2 D M (j.1.mono R) j.2.2 j.2.1
 next:=λl D C K h=>h.next
 stop:=λC K h=>by rw[h.rest];rfl
 cap:=λl C K h=>⟨by have:=we G l;have:=h.rest;have:=h.small;omega,λD j=>⟨⟨h.ok D j,h.len U,by have:=h.many;omega⟩,WP G D⟩⟩
def hN(b:Nat)(j:fS)(C:Bool)(J:List Int)(D:aG)(I E:Nat):aO:=λh=>∃y:Nat×List bd×(List Int×Nat),k2 j C J D y.2.1 y.2.2 I/\G [jm b y.1 j C y.2.2.1 y.2.2.2 E,ba y.1 65536 y.2.1] h
def D.hN{Q:Program}{R:FuncId}{args:Array Value}{O E:aG}{b I G:Nat}{j:fS}{C:Bool}{K:List Int}{post:Value->List aO->Prop}
  (W:∀s l (J:List Int×Nat),k2 j C K E l J I->D Q R args (jm b s j C J.1 J.2 G::ba s 65536 l::O) post):D Q R args (hN b j C K E I G::O) post:=
 D.open (ι:=Nat×List bd×(List Int×Nat)) (E:=λy=>k2 j C K E y.2.1 y.2.2 I) (J:=λy=>[jm b y.1 j C y.2.2.1 y.2.2.2 G,ba y.1 65536 y.2.1]) (λ_ h=>h) λy U=>W y.1 y.2.1 y.2.2 U
def uj{E M I b s K J C D O l j}(R:k2 C D O I l j K)(Q:∀h,G E h->G (jm b s C D j.1 j.2 J::ba s 65536 l::M) h):∀h,G E h->G (hN b C D O I K J::M) h:=λh U=>
 G.fold (N:=[_,_]) (λh q=>⟨(s,l,j),R,q⟩) (Q h U)
def bd.r0(C:fS)(j:bd):Nat:=if j.iH then 0 else j.bi C
def JF(ag U ao G W I)(h:aB I ag 0 2 (kQ U ao))(ax:fl I U)(aC:U.t.size<=50000):
  D E 438 #[R ag,.agg #[j G.cB,j G.cI,j G.y],.bool W] I λv ar=>∃al,v=(R al)/\ar=hN al G W (U.seen G) I (U.r0 G) 0::I:=by
 refine ap λg F=> ?_;refine aS λay=> ?_;refine GE (aw p (pb _)) ?_;rintro _ _ ⟨s,rfl,rfl⟩;refine K ?_;refine a9 (Rn ag U ao _ h.skip.skip.skip) ?_;refine aL ?_;cases U with
 |nil=>
  refine K ?_;refine aS λY=> ?_;refine af ?_;refine b5 (own.nil_ 3 1) ?_;have Z:k2 G W (bd.nil.seen G) I [] (([]:List Int),0) 0:=⟨rfl,bu _,(λ_ h=>by cases h),λ_=>rfl,λ_=>rfl,rfl⟩;refine aj (C:=hN Y G W (bd.nil.seen G) I 0 0::I) p (.tmp p .nil) ?_ ⟨Y,rfl,rfl⟩;apply bR;focus ((repeat' first|exact aN.here|apply aN.skip|apply aN.bE);done)
  refine uj (s:=s) Z ?_;refine nl (D:=0) (C:=none) (λh=>absurd h (dc 0)) ?_;exact aq
 |node b Q q O J=>
  have aA:=bd.ze G (bd.node b Q q O J) p;have av:(bd.node b Q q O J).r0 G=(bd.node b Q q O J).bi G:=rfl;refine jJ ?_;refine aJ ?_;iterate 2 refine ad ?_
  refine aU λau=> ?_;refine bw p (D.pick aI (rO s (ak au) 1 1 [] [bd.node b Q q O J] _ (by repeat' first|exact aM.ae p|apply aM.skip) bs)) ?_;refine bD ?_;iterate 4 refine ad ?_
  refine aU λY=> ?_;refine ad ?_;refine af ?_;refine b5 (own.nil_ 3 1) ?_;have Z:k2 G W ((bd.node b Q q O J).seen G) I ([]++[bd.node b Q q O J]) (([]:List Int),0) ((bd.node b Q q O J).bi G):=
   ⟨by simp[ig],C,(λy am=>by simp at am;subst am;exact ax),(λ_=>by simp[iO]),λ_=>rfl,by simp[iO]⟩
  rw[av];refine aj (C:=hN Y G W ((bd.node b Q q O J).seen G) I ((bd.node b Q q O J).bi G) 0::I) p (.tmp p .nil) ?_ ⟨Y,rfl,rfl⟩;apply bR;focus ((repeat' first|exact aN.here|apply aN.skip|apply aN.bE);done)
  refine uj (s:=s) Z ?_;refine nl (D:=0) (C:=none) (λh=>absurd h (dc 0)) ?_;exact aq
def C2(b I J O U Z W Q n)(aC:∀h,G Q h->G W h)(aZ:n<=100000)(aE:Z.length<=1000000)(aY:J<=1000000000):
  D E 678 #[R b,j n] (hN b O U Z W I J::Q) λv ao=>v=.tuple #[j (min n.toNat I:Nat),.bool (decide (I-min n.toNat I=0))]/\ao=hN b O U Z W (I-min n.toNat I) (J+min n.toNat I)::Q:=by
 refine D.hN λs l ae al=> ?_;have a0:=al.small;refine bH λg F=> ?_;refine aJ ?_;iterate 2 refine ad ?_
 refine bD ?_;iterate 2 refine ad ?_
 refine dG ?_;refine b5 (j:=jm b s O U ae.1 ae.2 J::ba s 65536 l::F::Q) aq ?_;refine Cc λaH ap av aP aS=> ?_;refine aJ ?_;iterate 5 refine ad ?_
 refine aD (sb p) ?_;iterate 2 refine ad ?_
 refine GE (aw p (D.pre (M:=ba s 65536 l::jm b s O U ae.1 ae.2 J::F::Q) (by(repeat first|exact bo|apply nl (D:=ap) av|refine b7 ?_)<;>fail) (rR (J2 b s O U J Z W) s n.toNat I l ae (F::Q) W (S1 b s O U J Z W aE) (λh ak=>aC h ak.tail) al C))) ?_;rintro _ _ ⟨Y,ag,rfl,aA,rfl⟩;iterate 5 refine ad ?_
 refine bD ?_;iterate 2 refine ad ?_
 refine dG ?_;refine b5 (j:=jm b s O U ag.1 ag.2 J::ba s 65536 Y::F::Q) (λ_ ak=>ak.swap) ?_;refine Cc λaK ar ax aQ aV=> ?_;refine aJ ?_;iterate 8 refine ad ?_
 refine cF ?_;refine aL ?_;refine b5 (j:=jm b s O U ag.1 ag.2 (J+min n.toNat I)::ba s 65536 Y::F::Q) (by(repeat first|exact bo|apply nl (D:=ar) ax|refine b7 ?_)<;>fail) ?_;have am:=aA;have aG:(Y.length:Int)=0<->I-min n.toNat I=0:=by
  have aa:=am.rest;have ab:=we O Y;constructor
  ·intro h;have:Y=[]:=e3 C;subst this;assumption
  omega
 refine Cc λaO au ay aW aX=> ?_;refine K ?_;refine a9 (D.pick aI (m5 s Y _)) ?_;refine af ?_;rw[decide_eq_decide.2 aG];refine aj (C:=hN b O U Z W (I-min n.toNat I) (J+min n.toNat I)::Q) p (.tmp p (.tmp p .nil)) ?_ ⟨rfl,rfl⟩;apply bR;focus ((repeat' first|exact aN.here|apply aN.skip|apply aN.bE);done)
 refine uj (s:=s) am ?_;exact(by(repeat first|exact bo|apply nl (D:=au) ay|refine b7 ?_)<;>fail)
def So(b Q J U G O K):D E 677 #[R b] (hN b J U G O 0 Q::K) λv W=>v=j (G.length:Nat)/\W=hN b J U G O 0 Q::K:=by
 refine D.hN λs l ag I=> ?_;have ao:l=[]:=by
  have aa:=I.rest;have ab:=we J l;exact e3 C
 have ae:ag.2=G.length:=by
  have:=I.many;simp_all[iO]
 refine D.zh λak Y Z al am=> ?_;refine ap λg F=> ?_;refine af ?_;rw[<- ae];refine aj rfl (.tmp p .nil) ?_ ⟨rfl,rfl⟩;apply bR;focus ((repeat' first|exact aN.here|apply aN.skip|apply aN.bE);done)
 refine uj (s:=s) I ?_;exact(by(repeat first|exact bo|apply nl (D:=Y) Z|refine b7 ?_)<;>fail)
instance:yt E 5 .u8:=⟨O⟩
instance:yt E 3 .i64:=⟨O⟩
theorem k2.done{D K J E l I j}(G:k2 D K J E l I j):(l.length:Int)=0<->j=0:=by
 have aa:=G.rest;have ab:=we D l;constructor
 ·intro h;have:l=[]:=e3 C;subst this;assumption
 omega
def C0(b j J O Q K G C):D E 675 #[R b] (hN b O Q K G j J::C) λv U=>v=.bool (decide (j=0))/\U=hN b O Q K G j J::C:=by
 refine D.hN λs l ak I=> ?_;refine D.zh λZ W Y ae ag=> ?_;refine ap λg F=> ?_;refine br p p p p ?_;refine a9 (D.pick aI (m5 s l _)) ?_;refine af ?_;rw[decide_eq_decide.2 I.done];refine aj rfl (.tmp p .nil) ?_ ⟨rfl,rfl⟩;apply bR;focus ((repeat' first|exact aN.here|apply aN.skip|apply aN.bE);done)
 refine uj (s:=s) I ?_;exact(by(repeat first|exact bo|apply nl (D:=W) Y|refine b7 ?_)<;>fail)
def C1(b Z ag G j W U)(ay:j.length<=100000):D E 676 #[R b] (hN b ag G j W 0 Z::U) λv al=>
  ∃J I,v=.slice J (if G then j else[]).length I/\((0< (if G then j else[]).length->∃b,J=(ak b))/\(if G then j else[]).length<=I/\I<=maxLen)/\al=own 3 1 J (if G then j else[]).length I (flat (bj (if G then j else[])))::hN b ag G j W 0 Z::U:=by
 refine D.hN λs l ae Q=> ?_;have ar:ae.1=if G then j else[]:=by
  have aE:l=[]:=e3 (by have:=Q.done.2 p;omega);cases G with
  |true=>
   have:=Q.ids p;simp_all[iO]
  |false=>simpa using Q.none p
 have aG:ae.1.length<=100000:=by grind
 rw[<- ar];refine D.zh λK O Y aA aC=> ?_;have ao:∀M:List aO,Rd (own 3 1 K _ O _::M) K _ _:=λM=>aM.own (bU _) Y;refine ap λg F=> ?_;refine GE (aw p (yI K _ O _)) ?_;rintro _ _ ⟨am,rfl,rfl⟩;refine GE (aw p (D.pick aI (yH am K _ O _ _ (by repeat' first|exact ao _|apply Rd.skip) C))) ?_;rintro _ _ ⟨J,I,rfl,⟨au,av,ax⟩,rfl⟩;refine ad ?_;refine af ?_;refine aj rfl (.tmp p .nil) ?_ ⟨J,I,rfl,⟨au,av,ax⟩,rfl⟩;apply bR;focus ((repeat' first|exact aN.here|apply aN.skip|apply aN.bE);done)
 apply bR;focus ((repeat' first|exact aN.here|apply aN.skip|apply aN.bE);done)
 refine uj (s:=s) Q ?_;exact(by(repeat first|exact bo|apply nl (D:=O) Y|refine b7 ?_)<;>fail)
end dj
end
end Go.Proofs.YtioamnghkmcbbaaGreat
