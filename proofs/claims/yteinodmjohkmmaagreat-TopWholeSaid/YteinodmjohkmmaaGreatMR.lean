/- TopWhole: a part of its proof. -/
import Derived.Test.YteinodmjohkmmaaGreatMA3
set_option linter.all false
set_option maxRecDepth 100000
set_option maxHeartbeats 4000000
open Bool renaming false->al,not_eq_true'->sk,not_false->nI,not_true->vr,true->ag
open Classical renaming not_not->AT
open Go renaming Addr->cg,Program->bk,Value->a2
open Go.Op renaming equal->eo
open Go.Result renaming andThen_ok->dG
open Go.Sem renaming run_bind->cM
open Int renaming eq_ofNat_of_zero_le->KX,natCast_add->K0
open List renaming append_assoc->jm,append_nil->dC,concat_eq_append->K5,countP_cons->mv,countP_le_length->qi,drop_eq_getElem_cons->sp,drop_eq_nil_of_le->K9,drop_length->La,drop_sublist->ya,eq_nil_of_length_eq_zero->gX,eq_nil_or_concat->EV,filter_append->vy,filter_append_perm->Le,filter_congr->Lf,filter_eq_nil_iff->EY,flatMap_cons->yc,getElem?_eq_getElem->b8,getElem?_eq_none->mw,getElem?_eq_some_iff->h2,getElem_cons_drop->Lk,getElem_map->Ll,getElem_mem->gG,length->aa,length_append->b4,length_cons->f0,length_drop->Lm,length_map->jM,length_pos_of_mem->Lo,length_reverse->Lp,length_singleton->hg,length_take->oE,map_append->ez,map_cons->fu,mem_append->b9,mem_cons->df,mem_cons_of_mem->gn,mem_cons_self->ll,mem_filter->ii,mem_flatMap->kz,mem_iff_getElem->A2,mem_map->lm,mem_of_mem_drop->Lt,mem_reverse->q4,mem_singleton->oF,nil_append->oG,nodup_cons->j3,pairwise_append->pr,perm_append_comm->ep,perm_append_singleton->E0,perm_ext_iff_of_nodup->E1,perm_middle->fA,replicate->gv,reverse_append->LA,reverse_reverse->LB,set_append_right->E2,take_append_drop->kk,take_length->nN,take_of_length_le->lR,take_sublist->vC,take_succ_eq_append_getElem->j4,take_zero->E3
open List.Perm renaming append_left->qh,append_right->ET,filter->U7,map->EU,of_eq->U8
open List.cons renaming inj->K6
open Nat renaming eq_zero_or_pos->hh,le_refl->bC,le_succ->gp,le_succ_of_le->q5,le_trans->hj,lt_irrefl->LL,lt_or_ge->dZ,mul_le_mul->LP,pow_le_pow_right->E8,zero_add->h3,zero_le->bO
open Option renaming none->af,some->ab
open Option.some renaming inj->nQ
open Go.RowKit
namespace Go.Proofs.YteinodmjohkmmaaGreat
noncomputable section
namespace R
attribute [local irreducible] C bh b6
def Nd(U D E Q)(h:gI Q U D)(aH:aa D.es<=maxLen):Y 662 #[.pointer U,j E] Q λv am=>
  (∀C,0<=E->D.es[E.toNat]?=ab C->v=.tuple #[.agg #[j C.ai.id,j C.ai.x,j C.ai.y,j C.low,j C.high],.bool ag])/\
  (E<0\/aa D.es<=E->v=.tuple #[.agg #[j 0,j 0,j 0,j 0,j 0],.bool al])/\am=Q:=by
 refine bt ?_;refine bg λar=>?_;refine h4 p p p (λR=>?y568) (λR=>?n568)
 case' n568=>
  have O:=R;try simp only[decide_eq_true_eq,decide_eq_false_iff_not,vr,nI]at O
  apply dl _
 case' y568=>
  have O:=R;try simp only[decide_eq_true_eq,decide_eq_false_iff_not,vr,nI]at O
  apply ak _;apply a9 (lM U D _ (h.ap.ap)) _
 .refine eG p (λae=>?_) (λae=>?_)
  .apply ak _;simp at ae;refine ba p (.cell p (eQ cA) ds) a1 ⟨λC h1 an=>?_,λ_=>rfl,rfl⟩;have:=(h2.1 an).1;omega
  .simp at ae;obtain⟨H,rfl⟩:=KX (show 0<=E by omega);have I:H<aa D.es:=ad;cases D with
   |nil=>simp[fi.es]at I
   |node J aI aF=>
    obtain⟨b,A,c,aK,aJ,rfl,h1,ae,an,az,aA,aB⟩:=h;have aD:=h1.at_ (i:=0) p;obtain⟨av,o,rfl,aq⟩:=ae.at_ (by simp[fi.es]at I;omega);have ah:J[H]?=ab J[H]:=b8 I;have aE:=aq H _ ah;have aG:H<aa J:=by simpa[fi.es]using I
    generalize J[H]=C at*
    apply ak _;refine ba p (.cell p (eQ cA) ds) a1 ⟨λax Z W=>?_,λZ=>?_,rfl⟩
    .simp[fi.es,ah]at W;subst W;rfl
    .simp[fi.es]at Z I;omega
 .apply ak _;refine ba p (.cell p (eQ cA) (.tmp p .nil)) a1 ⟨λC h1 _=>absurd O ad,λ_=>rfl,rfl⟩
def Q5(C D:jp)(E):aY 583 #[.agg #[j C.ai.id,j C.ai.x,j C.ai.y,j C.low,j C.high],.agg #[j D.ai.id,j D.ai.x,j D.ai.y,j D.low,j D.high]] E (.bool (decide (C.ai.y<D.ai.y))) E:=by
 refine bt ?_;refine bd λH=>?_;apply bg λI=>?_;exact c8
def r7(A:a3)(n c R O:Nat)(E:List jp)(U:bz)(W:Nat->Bool)(H:Q)[cu ar R](am:Rd H A n E)(aJ:n<=c)(az:c<=maxLen)
  (aA:∀J D,E[J]?=ab D->Y R (Value.agg #[j D.ai.id,j D.ai.x,j D.ai.y,j D.low,j D.high]::U).toArray H λv ap=>v=.bool (W J)/\ap=H)
  (aD:O<=n) (aE:∀J,J<n->W J=decide (O<=J)):
  aY 600 #[.slice A n c,.func (.func R) #[] U.toArray] H (j O) H:=by
 unfold maxLen at az;have aK:aa E=n:=am.len bL;refine bt λ{g F}=>?_;apply cL (ι:=Nat×Nat) (λC=>[(0,.slice A n c),(1,.func (.func R) #[] U.toArray),(5,j (C.1:Nat)),(6,j (C.2:Nat))]) (λ_=>F::H) (λC=>C.1<=O/\O<=C.2/\C.2<=n) (λC=>C.2-C.1) (0,n) ⟨bO _,aD,bC _⟩ aZ a1;rintro⟨a,b⟩ ⟨h1,ae,an⟩;simp only at h1 ae an;apply ak _;refine c0 p (λav=>?_) (λav=>?_)
 .obtain⟨aH,o,rfl,aF⟩:=am.at_ ad;have aB:a+(b-a)/2<aa E:=ad;have ah:E[a+(b-a)/2]?=ab E[a+(b-a)/2]:=b8 aB;have aI:=aF _ _ ah;have ax:=aA _ _ ah;have Z:=aE (a+(b-a)/2) ad;generalize E[a+(b-a)/2]=D at*
  apply ak _
  (first|refine a6 (l6 (q:=2) p p aw aw) ?_|refine a6 (jC p p aw aw aw) ?_)
  apply ak _;refine GE (f4 p p (b3 ax)) ?_;rintro _ _ ⟨aG,⟨rfl,rfl⟩,rfl⟩;apply ak _;refine eG p (λI=>?_) (λI=>?_)
  .rw[Z]at I;simp at I;apply ak _;exact b7 (a,a+(b-a)/2) ⟨h1,I,ad⟩ tn aZ a1
  .rw[Z]at I;simp at I;apply ak _;exact b7 (a+(b-a)/2+1,b) ⟨by simp only;omega,ae,an⟩ tn aZ a1
 .have aq:a=O:=ad;subst aq;refine Me p ?_;exact c8
def aag(C E:jp)(H J D)(h1:a5 D ⟨H,0,af⟩ (.func (.func 583) #[] #[]))(ae:aU D J 0 5 (d3.hq E)):
  aY 601 #[.agg #[j C.ai.id,j C.ai.x,j C.ai.y,j C.low,j C.high],I H,I J] D (.bool (!decide (C.ai.y<E.ai.y))) D:=by
 refine aD ?_;refine bP λO=>?_;refine GE (f4 p p (Q5 C E _)) ?_;rintro _ _ ⟨rfl,rfl⟩;exact a6 (gz p) fG
def yV(C E:jp)(H J D)(h1:a5 D ⟨H,0,af⟩ (.func (.func 583) #[] #[]))(ae:aU D J 0 5 (d3.hq E)):
  aY 602 #[.agg #[j C.ai.id,j C.ai.x,j C.ai.y,j C.low,j C.high],I H,I J] D (.bool (decide (E.ai.y<C.ai.y))) D:=by
 refine aD ?_;refine bP λO=>?_;refine GE (f4 p p (Q5 E C _)) ?_;rintro _ _ ⟨rfl,rfl⟩;exact fG
def aak(A n c H)(J:List jp)(C:jp)(I)(ah:Rd I A n J)(U:n<=c)(W:c<=maxLen)(Y:H<=n)(Z:∀D E,J[D]?=ab E->(decide (E.ai.y<C.ai.y)=decide (D<H))):
  aY 592 #[.slice A n c,.agg #[j C.ai.id,j C.ai.x,j C.ai.y,j C.low,j C.high],.func (.func 583) #[] #[]] I (j H) I:=by
 refine aD ?_;refine bd λQ=>?_;apply bP λR=>?_;refine a9 (r7 A n c _ H J _ _ _ ah.ap.ap.ap U W (λD E O=>(aag E C R Q _ ec cA).mono (λv am h=>by rw[Z D E O]at h;exact h)) Y (λD O=>by by_cases h:D<H<;>simp[h]<;>omega)) ?_;exact c8
def rq(A n c H)(J:List jp)(C:jp)(I)(ah:Rd I A n J)(U:n<=c)(W:c<=maxLen)(Y:H<=n)(Z:∀E D,J[E]?=ab D->(decide (C.ai.y<D.ai.y)=decide (H<=E))):
  aY 593 #[.slice A n c,.agg #[j C.ai.id,j C.ai.x,j C.ai.y,j C.low,j C.high],.func (.func 583) #[] #[]] I (j H) I:=by
 refine aD ?_;refine bd λQ=>?_;apply bP λR=>?_;refine a9 (r7 A n c _ H J _ _ _ ah.ap.ap.ap U W (λE D O=>(yV D C R Q _ ec cA).mono (λv am h=>by rw[Z E D O]at h;exact h)) Y (λE O=>rfl)) ?_;exact c8
def Vw(A n c D)(H:List jp)(C:jp)(E)(W:Rd E A n H)(O:n<=c)(Q:c<=maxLen)(R:D<=n)(U:∀J I,H[J]?=ab I->(decide (I.ai.y<C.ai.y)=decide (J<D))):
  aY 582 #[.slice A n c,.agg #[j C.ai.id,j C.ai.x,j C.ai.y,j C.low,j C.high],.func (.func 583) #[] #[]] E (j D) E:=by
 refine aD ?_;refine bP λY=>?_;apply a9 (aak A n c D H C _ W.ap.ap O Q R U) _;exact c8
def Vd(A n c D)(H:List jp)(C:jp)(E)(W:Rd E A n H)(O:n<=c)(Q:c<=maxLen)(R:D<=n)(U:∀J I,H[J]?=ab I->(decide (C.ai.y<I.ai.y)=decide (D<=J))):
  aY 584 #[.slice A n c,.agg #[j C.ai.id,j C.ai.x,j C.ai.y,j C.low,j C.high],.func (.func 583) #[] #[]] E (j D) E:=by
 refine aD ?_;refine bP λY=>?_;apply a9 (rq A n c D H C _ W.ap.ap O Q R U) _;exact c8
def fx(y:Int)(j:aj):Bool:=decide (j.y<y)
def fy(y:Int)(j:aj):Bool:=decide (j.y<=y)
def Nq(y):vM (fx y):=λC q h j=>by simp[fx]at*;omega
def UG(y):vM (fy y):=λC q h j=>by simp[fy]at*;omega
def WC(E C y D)(h:gI D E C)(U:Ord C.aQ):
  aY 564 #[.pointer E,j y] D (j (C.aQ.countP (fx y):Nat)) D:=by
 have R:C.aQ.countP (fx y)<=aa C.es:=by have:=qi (p:=fx y) (l:=C.aQ);rwa[fi.aQ,jM]at this
 refine aD ?_;refine aP (OD E C _ nv) ?_;rintro _ _ ⟨⟨A,c,rfl,W,J,O⟩,rfl⟩;apply ak _;refine a9 (Vw A _ c _ _ ⟨⟨0,0,y⟩,0,0⟩ _ W J O R (λH I Q=>by have:=IA (Nq y) _ U H I.ai (by simp[fi.aQ,Q]);by_cases Y:H<C.aQ.countP (fx y)<;>simp[fx]at this ⊢ <;>simp[this])) ?_;exact c8
def WB(E C y D)(h:gI D E C)(U:Ord C.aQ):
  aY 565 #[.pointer E,j y] D (j (C.aQ.countP (fy y):Nat)) D:=by
 have R:C.aQ.countP (fy y)<=aa C.es:=by have:=qi (p:=fy y) (l:=C.aQ);rwa[fi.aQ,jM]at this
 refine aD ?_;refine aP (OD E C _ nv) ?_;rintro _ _ ⟨⟨A,c,rfl,W,J,O⟩,rfl⟩;apply ak _;refine a9 (Vd A _ c _ _ ⟨⟨0,0,y⟩,0,0⟩ _ W J O R (λH I Q=>by have:=IA (UG y) _ U H I.ai (by simp[fi.aQ,Q]);by_cases Y:H<C.aQ.countP (fy y)<;>simp[fy]at this ⊢ <;>omega)) ?_;exact c8
def qX(l D:List jp)(j C:Nat):Bool:=
 match l[j]?,D[C]? with
 |some a,ab b=>decide (up a.ai b.ai<=0)
 |some _,af=>ag
 |none,_=>al
def ahV(aE ax D J c A Q av n E O H)(aq:aU H aE 0 3 [I ax,j (D:Nat),j (J:Nat)])
  (aB:aU H ax 0 3 [.slice A n c,.pointer Q,.pointer av]) (W:gI H Q E) (aD:gI H av O):
  aY 604 #[I aE] H (.bool (qX E.es O.es D J)) H:=by
 have aZ:=aq.at_ (i:=0) p;have a0:=aq.at_ (i:=1) p;have a3:=aq.at_ (i:=2) p;have aS:=aB.at_ (i:=1) p;have aT:=aB.at_ (i:=2) p;refine bt ?_;refine dM (lM Q E _ W.ap) ?_;refine FC (C:=16) al p (λC=>?y569) (λC=>?n569)
 case' n569=>
  have Y:=C;try simp only[decide_eq_true_eq,decide_eq_false_iff_not,vr,nI]at Y
  apply dl _;apply dl _
 case' y569=>
  have Y:=C;try simp only[decide_eq_true_eq,decide_eq_false_iff_not,vr,nI]at Y
  refine f3 dm p p p p ⟨_,rfl,C⟩ p (l5 p) ?_
  (first|refine f3 dm p p p p ⟨_,rfl,C⟩ p (ui p) ?_|refine f3 dm p p p p ⟨_,rfl,C⟩ p (rC ao p) ?_)
  refine f3 dm p p p p ⟨_,rfl,C⟩ p (ug p) ?_;refine j6 dm p p p p ⟨_,rfl,C⟩ p (fC p ec) ?_;refine f3 dm p p p p ⟨_,rfl,C⟩ p (l5 p) ?_
  (first|refine f3 dm p p p p ⟨_,rfl,C⟩ p (ui p) ?_|refine f3 dm p p p p ⟨_,rfl,C⟩ p (rC ao p) ?_)
  refine f3 dm p p p p ⟨_,rfl,C⟩ p (ug p) ?_;refine j6 dm p p p p ⟨_,rfl,C⟩ p (fC p ec) ?_
  (first|refine f3 dm p p p p ⟨_,rfl,C⟩ p (ui p) ?_|refine f3 dm p p p p ⟨_,rfl,C⟩ p (rC ao p) ?_)
  refine f3 dm p p p p ⟨_,rfl,C⟩ p (ug p) ?_;refine j6 dm p p p p ⟨_,rfl,C⟩ p (fC p ec) ?_;refine bF (jQ p p p ⟨_,rfl,C⟩ p (c5 p (lM av O _ aD.ap)) ?_);rintro _ _ ⟨rfl,rfl⟩;apply cV _;refine f3 dm p p p p ⟨_,rfl,C⟩ p (CA p p) ?_;refine fc p (rD p C p) ?_;apply ak _
 .refine eG p (λae=>?_) (λae=>?_)
  .apply ak _;apply dM (lM Q E _ W.ap) _;refine ba p ds a1 ⟨?_,rfl⟩;simp at ae;simp only[cs,qX,b8 (show D<aa E.es by omega),mw (show aa O.es<=J by omega)];simp;omega
  .simp at ae;have am:D<aa E.es:=ad;have ar:J<aa O.es:=ad;apply dl _;cases E with
   |nil=>simp[fi.es]at am
   |node Z a4 a7=>
    cases O with
    |nil=>simp[fi.es]at ar
    |node ah bc be=>
     simp only[fi.es]at am ar ⊢;obtain⟨a9,a8,bb,_,_,rfl,aJ,aK,bg,bh,_⟩:=W;obtain⟨aW,aV,aX,_,_,rfl,aO,aP,bl,bm,_⟩:=aD;have bi:=aJ.at_ (i:=0) p;have bn:=aO.at_ (i:=0) p;obtain⟨aH,aI,rfl,aL⟩:=aK.at_ ad;obtain⟨aF,aG,rfl,aQ⟩:=aP.at_ ad;have az:Z[D]?=ab Z[D]:=b8 am;have aA:ah[J]?=ab ah[J]:=b8 ar;have aM:=aL _ _ az;have aR:=aQ _ _ aA;generalize Z[D]=R at*
     generalize ah[J]=U at*
     have bj:aU H aH (aI+D*5) 3 [j R.ai.id,j R.ai.x,j R.ai.y]:=aM.part 3 p;have bo:aU H aF (aG+J*5) 3 [j U.ai.id,j U.ai.x,j U.ai.y]:=aR.part 3 p;apply ak _;apply dM (J9 R.ai U.ai _) _;refine ba p ds a1 ⟨?_,rfl⟩;simp[cs,qX,az,aA]
 .apply ak _;apply dM (lM Q E _ W.ap) _;refine ba p ds a1 ⟨?_,rfl⟩;simp at Y;simp only[cs,qX,mw (show aa E.es<=D by omega)];simp;omega
def adE{j C:Nat}{l D:List jp}{a:jp}(E:l[j]?=ab a)(I:qX l D j C=ag):
  eE j C ((l.map (·.ai)).drop j) ((D.map (·.ai)).drop C)=⟨a.ai,j,C⟩::eE ((j+1:Nat):Int) C ((l.map (·.ai)).drop (j+1)) ((D.map (·.ai)).drop C):=by
 obtain⟨h1,rfl⟩:=h2.1 E;rw[sp (show j<aa (l.map _) by simp_all)];rw[adC,Ll,K0];rfl;intro b O H;have ae:((D.map (·.ai)).drop C)[0]?=ab b:=bo;simp at ae;obtain⟨Q,J,rfl⟩:=ae;simp_all[qX]
def adF{C j:Nat}{l D:List jp}{b:jp}(E:D[j]?=ab b)(I:qX l D C j=al):
  eE C j ((l.map (·.ai)).drop C) ((D.map (·.ai)).drop j)=⟨b.ai,C,j⟩::eE C ((j+1:Nat):Int) ((l.map (·.ai)).drop C) ((D.map (·.ai)).drop (j+1)):=by
 obtain⟨h1,rfl⟩:=h2.1 E;rw[sp (show j<aa (D.map _) by simp_all)];rw[adD,Ll,K0];rfl;intro a O H;have ae:((l.map (·.ai)).drop C)[0]?=ab a:=bo;simp at ae;obtain⟨Q,J,rfl⟩:=ae;simp_all[qX]
def ahk(av Q D C c A az ax n R O aA Z)(a0:gI Z az R)(aZ:gI Z ax O)(bv:n<=1000000)(a8:D<=aa R.es)(bb:C<=aa O.es)(bw:aa R.es<=1000000)(bx:aa O.es<=1000000):
  Y 597 #[I av]
   (ah av 636 [I Q,j (D:Nat),j (C:Nat)]::ah Q 485 [.slice A n c,.pointer az,.pointer ax]::E 487 5 A n c (J aA)::Z) λv aX=>
   (D=aa R.es/\C=aa O.es/\v=.bool al/\aX=(ah av 636 [I Q,j (D:Nat),j (C:Nat)]::ah Q 485 [.slice A n c,.pointer az,.pointer ax]::E 487 5 A n c (J aA)::Z))\/
   ∃H aD aE aH aF,v=.bool ag/\aD+aE=D+C+1/\aD<=aa R.es/\aE<=aa O.es/\n+1<=aF/\aF<=maxLen/\(0<n+1->∃b,aH=(U b))/\eE D C (R.aQ.drop D) (O.aQ.drop C)=H::eE (aD:Nat) (aE:Nat) (R.aQ.drop aD) (O.aQ.drop aE)/\
    aX=(ah av 636 [I Q,j (aD:Nat),j (aE:Nat)]::ah Q 485 [.slice aH (n+1) aF,.pointer az,.pointer ax]::E 487 5 aH (n+1) aF (J (aA++[H]))::Z):=by
 refine bt ?_;refine bg λbo=>?_;apply a9 (ahV av Q D C c A az ax n R O _ cA cA nv nv) _;refine eG p (λh1=>?_) (λh1=>?_)
 ·
  have W:D<aa R.es:=by
   grind[dZ,qX,mw]
  cases R with
  |nil=>simp[fi.es]at W
  |node am aM aO=>
   have br:=a0;obtain⟨aG,bc,be,bh,bi,rfl,aS,aT,bj,bl,_⟩:=a0;simp only[fi.es]at W;have bm:=aS.at_ (i:=0) p;obtain⟨aP,aR,rfl,aV⟩:=aT.at_ ad;have aB:am[D]?=ab am[D]:=b8 W;have aL:=adE aB h1;have aW:=aV _ _ aB;generalize am[D]=H at*
   have bn:aU Z aP (aR+D*5) 3 [j H.ai.id,j H.ai.x,j H.ai.y]:=aW.part 3 p;apply ed (bE [0,1,2,3,4,5,6,7,8,9,10,11,12,13,14,15,16,17] (.e 18 .nil)) _;iterate 18 apply bu _
   apply oP _;apply aC _;apply cc;apply hZ 4 (bE [0,1,2,3,4,5,6,7,8,9,10,11] (.e 12 (.e 13 (.q 14 (.q 15 (.e 16 .nil)))))) _;refine bF (bW p p p (gR bN p p) ?_);rintro _ _ ⟨a3,rfl,rfl⟩;refine bX ?_;refine nH λaq ar aI aJ aK=>?_;refine ba (C:=ah av 636 [I Q,j ((D+1:Nat):Int),j (C:Nat)]::ah Q 485 [.slice aq (n+1) ar,I aG,.pointer ax]::E 487 5 aq (n+1) ar (J (aA++[⟨H.ai,D,C⟩]))::Z) p (.tmp p .nil) ?_ (.inr ⟨⟨H.ai,D,C⟩,D+1,C,aq,ar,rfl,ad,W,bb,aI,aJ,aK,aL,rfl⟩);rw[<- gi];apply cP (.ap (.ap (.ap (.here))));apply cP (.ap (.ap (.ap (.here))));apply cP (.ap (.ap (.ap (.here))));exact cP (.here) a1
 .rcases dZ C (aa O.es)with W|bp
  .cases O with
   |nil=>simp[fi.es]at W
   |node am aM aO=>
    have bq:=aZ;obtain⟨aG,bc,be,bh,bi,rfl,aS,aT,bj,bl,_⟩:=aZ;simp only[fi.es]at W;have bm:=aS.at_ (i:=0) p;obtain⟨aP,aR,rfl,aV⟩:=aT.at_ ad;have aB:am[C]?=ab am[C]:=b8 W;have aL:=adF aB h1;have aW:=aV _ _ aB;have aY:C<aa (fi.node am aM aO).es:=W;generalize am[C]=H at*
    have bn:aU Z aP (aR+C*5) 3 [j H.ai.id,j H.ai.x,j H.ai.y]:=aW.part 3 p;apply ak _;refine nW p p (lM (U aG) (.node am aM aO) _ nv) ?_;iterate 2 apply bu _
    apply fO _;refine gJ p (cO aY) ?_;apply ed (bE [0,1,2,3,4,5,6,7,8,9,10,11,12,13,14,15,16,17] (.e 18 .nil)) _;iterate 18 apply bu _
    apply oP _;apply aC _;apply cc;apply hZ 4 (bE [0,1,2,3,4,5,6,7,8,9,10,11] (.e 12 (.e 13 (.q 14 (.q 15 (.e 16 .nil)))))) _;refine bF (bW p p p (gR bN p p) ?_);rintro _ _ ⟨a3,rfl,rfl⟩;refine bX ?_;refine nH λaq ar aI aJ aK=>?_;refine ba (C:=ah av 636 [I Q,j (D:Nat),j ((C+1:Nat):Int)]::ah Q 485 [.slice aq (n+1) ar,.pointer az,I aG]::E 487 5 aq (n+1) ar (J (aA++[⟨H.ai,D,C⟩]))::Z) p (.tmp p .nil) ?_ (.inr ⟨⟨H.ai,D,C⟩,D,C+1,aq,ar,rfl,by rfl,a8,W,aI,aJ,aK,aL,rfl⟩);rw[<- gi];apply cP (.ap (.ap (.ap (.here))));apply cP (.ap (.ap (.ap (.here))));apply cP (.ap (.ap (.ap (.here))));exact cP (.here) a1
  .have a4:D=aa R.es:=by
    grind[dZ,qX,b8,mw]
   have a7:C=aa O.es:=ad;have aY: ¬C<aa O.es:=ad;apply ak _;apply dM (lM ax O _ nv) _;apply eO _;exact(.inl ⟨a4,a7,rfl,rfl⟩)
def Wd(C D):Y 587 #[.agg #[j C.id,j C.x,j C.y]] D λv J=>∃q H,v=.pointer q/\J=H++D/\gI (H++D) q (zN C):=by
 refine bt ?_;refine bg λO=>?_;apply bg λE=>?_;apply bg λI=>?_;refine ba (C:=[ah I 485 [.slice (U E) 1 1,.pointer af,.pointer af],ah E 487 (d3.hq (⟨C,0,0⟩:jp))]++D) p ds ?_ ⟨_,_,rfl,rfl,?_⟩
 .apply cP (.ap (.ap (.ap (.here))));apply cP (.here);exact cP (.here) a1
 .refine⟨I,(U E),1,af,af,rfl,aU.ah p,?_,bC _,by simp[maxLen],rfl,rfl⟩;refine bf.ap (bf.ah p)
def V4(W Z H D Q)(aq:gI Q W H)(am:gI Q Z D)(h1:aa H.es<=100000)(ae:aa D.es<=100000):Y 588 #[.pointer W,.pointer Z] Q λv aO=>∃q aE,v=.pointer q/\aO=aE++Q/\gI (aE++Q) q (join H D):=by
 by_cases az:H=.nil/\D=.nil
 .obtain⟨rfl,rfl⟩:=az;cases aq;cases am;refine bt ?_;refine ba (C:=[]++Q) p (.tmp p .nil) a1 ⟨_,_,rfl,rfl,rfl⟩
 .have a8:join H D=.node (eE 0 0 H.aQ D.aQ) H D:=by cases H<;>cases D<;>first|rfl|exact absurd ⟨rfl,rfl⟩ az
  have a9:(W.isNone&&Z.isNone)=al:=by
   cases H with
   |node aW aB aD=>obtain⟨b,A,c,aF,aM,rfl,_⟩:=aq;rfl
   |nil=>
    cases D with
    |node aW aB aD=>obtain⟨b,A,c,aF,aM,rfl,_⟩:=am;cases W<;>rfl
    |nil=>exact absurd bD az
  have aB:aa H.aQ=aa H.es:=jM ..;have aD:aa D.aQ=aa D.es:=jM ..;refine bt λ{g F}=>?_;refine h4 p p p (λar=>?y570) (λar=>?n570)
  case' n570=>
   have aA:=ar;try simp only[decide_eq_true_eq,decide_eq_false_iff_not,vr,nI]at aA
   apply dl _
  case' y570=>
   have aA:=ar;try simp only[decide_eq_true_eq,decide_eq_false_iff_not,vr,nI]at aA
   apply ak _
  apply bs _;refine e9 p (by simpa[ar]using a9) ?_
  rotate_left
  apply mx _
  all_goals
   apply ak _;apply bg λai=>?_;apply bg λav=>?_;apply bp (E.c7 487 5);refine cL (ι:=Nat×Nat×Option cg×Nat×List jp) (λC=>[(5,I av)]) (λC=>ah av 636 [I ai,j (C.1:Nat),j (C.2.1:Nat)]::ah ai 485 [.slice C.2.2.1 C.2.2.2.2.length C.2.2.2.1,.pointer W,.pointer Z]::E 487 5 C.2.2.1 C.2.2.2.2.length C.2.2.2.1 (J C.2.2.2.2)::F::Q)
    (λC=>C.1<=aa H.es/\C.2.1<=aa D.es/\C.1+C.2.1=C.2.2.2.2.length/\C.2.2.2.2.length<=C.2.2.2.1/\C.2.2.2.1<=maxLen/\(0<C.2.2.2.2.length->∃b,C.2.2.1=(U b))/\C.2.2.2.2++eE C.1 C.2.1 (H.aQ.drop C.1) (D.aQ.drop C.2.1)=eE 0 0 H.aQ D.aQ) (λC=>aa H.es+aa D.es-(C.1+C.2.1)) (0,0,af,0,[]) ⟨bO _,bO _,rfl,bC _,bO _,db,rfl⟩ ⟨rfl,trivial⟩ ?_ ?_
   .apply cP (.ap (.here));apply cP (.ap (.here));apply cP (.here);exact cP (.here) a1
   .rintro⟨bc,bh,A,c,R⟩ ⟨aG,aH,aX,aI,aJ,aK,ax⟩;simp only at aG aH aX aI aJ aK ax;apply ak _;refine aP (O.frame [F] (ahk av ai bc bh c A W Z (aa R) H D R Q aq am ad aG aH ad ad) (cP (.ap (.ap (.ap .here))) cf)) ?_;rintro _ _ ⟨bj,bb,rfl⟩;apply ak _;rcases bb with ⟨aT,aV,rfl,rfl⟩|⟨aS,be,bi,aL,aR,rfl,bl,aY,aZ,bm,a0,a3,a4,rfl⟩
    .apply ak _;have a7:R=eE 0 0 H.aQ D.aQ:=by
      rw[<- ax,aT,aV,<- aB,<- aD,La,La,eE,dC]
     apply ak _;refine ba (C:=[ah ai 485 [.slice A (aa R) c,.pointer W,.pointer Z],E 487 5 A (aa R) c (J R)]++Q) p ds ?_ ⟨_,_,rfl,rfl,?_⟩
     .apply cP (.here);apply cP (.ap (.here));exact cP (.ap (.here)) a1
     .rw[a8,<- a7];refine⟨ai,A,c,W,Z,rfl,aU.ah p,?_,aI,aJ,aq.ap.ap,am.ap.ap⟩;exact bf.ap (bf.E (ck R) aK)
    .apply ak _;exact b7 (be,bi,aL,aR,R++[aS]) ⟨aY,aZ,by simp;omega,by simp;omega,a0,λ_=>a3 ad,by simp only;rw[<- ax,a4,jm];rfl⟩ tn ⟨rfl,trivial⟩ (by
      simp only[b4,hg];apply cP (.ap (.here));apply cP (.ap (.here));apply cP (.ap (.here));exact cP (.here) a1
      )
def acg(O C D high Q)(h:gI Q O C)(aG:aa C.es<=100000)(aF: -9223372036854775808<=D/\D<=9223372036854775807):
  aY 661 #[.pointer O,j D,.bool high] Q (j (lead C D high)) Q:=by
 have ai:aa C.es<=maxLen:=by unfold maxLen;omega
 by_cases Z:0<=D/\D<aa C.es
 .obtain⟨E,rfl⟩:=KX Z.1;have ah:E<aa C.es:=ad;have ax:C.es[E]?=ab C.es[E]:=b8 ah;have R:lead C (E:Nat) high=if high then C.es[E].high else C.es[E].low:=by
   cases C with
   |nil=>trivial
   |node J I H=>
    simp only[fi.es]at ah ax ⊢;simp only[lead];simp_all
  rw[R];generalize C.es[E]=ar at*
  refine aD ?_;refine aP (Nd O C (E:Nat) _ nv ai) ?_;rintro _ _ ⟨W,_,rfl⟩;have Y:=W ar ao fs;subst Y;apply ak _;apply bd λaq=>?_;apply fv _;apply ay _;apply cc;cases high with
  |true=>
   exact fG
  |false=>
   exact fG
 .have R:lead C D high=if D=aa C.es then(match C with
    | .nil=>0
    | .node _ I H=>if high then(aa H.es:Int)else aa I.es)else 0:=by
   cases C with
   |nil=>simp[lead]
   |node J I H=>
    have az: ¬(0<=D/\D<aa J):=Z;simp only[lead];rw[a8 az];show _=if D=aa J then _ else _
    simp
  rw[R];refine aD ?_;refine aP (Nd O C D _ nv ai) ?_;rintro _ _ ⟨_,W,rfl⟩;have Y:=W ad;subst Y;apply ak _;apply bd λaq=>?_;apply fv _;apply ay _;apply ee _;iterate 5 apply ay _
  apply hl _;apply bQ _;iterate 2 apply ay _
  apply hl _
  by_cases h1:D=aa C.es
  .cases C with
   |nil=>
    cases h;subst h1;apply aC _;refine a9 (lM af .nil _ p) ?_;refine ba p (.tmp p .nil) a1 ⟨by rfl,rfl⟩
   |node J I H=>
    have av:=h;obtain⟨b,A,c,aB,aA,rfl,am,aH,aI,aJ,aK,aL⟩:=h;have aM:=am.at_ (i:=1) p;have aO:=am.at_ (i:=2) p;have aE: ¬(D≠(aa (fi.node J I H).es:Int)):=λh=>h h1;apply aC _;apply a9 (lM (U b) (.node J I H) _ av.ap.ap) _;cases high with
    |true=>
     apply aC _;apply a9 (lM aA H _ nv) _;refine ba p (.tmp p .nil) a1 ⟨by simp[cs,h1],rfl⟩
    |false=>
     apply aC _;apply a9 (lM aB I _ nv) _;refine ba p (.tmp p .nil) a1 ⟨by simp[cs,h1],rfl⟩
  .apply ak _;apply a9 (lM O C _ nv) _;apply eO _;exact⟨by simp[cs,h1],rfl⟩
def Bw(H D C high E)(h:gI E H D)(J:aa D.es<=100000)(I: -9223372036854775808<=C/\C<=9223372036854775807):
  aY 660 #[.pointer H,j C,.bool high] E (j (lead D C high)) E:=by
 refine aD ?_;refine a9 (acg H D C _ _ nv J I) ?_;exact c8
def l0(j:Int)(n:Nat):Nat:=(min (max j 0) n).toNat
def NR(j)(n:Nat):min (max j 0) (n:Int)=(l0 j n:Nat):=by unfold l0;omega
def NS(j n):l0 j n<=n:=by unfold l0;omega
def gj(l:List aj)(j C:Nat):List Int:=((l.drop j).take (C-j)).map (·.id)
def abh(l j C D)(h:j<=C)(E:l[C]?=ab D):gj l j (C+1)=gj l j C++[D.id]:=by
 unfold gj;have:(l.drop j)[C-j]?=ab D:=bo;let⟨h1,ae⟩:=h2.1 this;rw[show C+1-j=(C-j)+1 by omega,j4 h1,ae,ez];rfl
def VR(am D I Q R)(h:gI R am D)(aS:aa D.es<=100000):
  Y 640 #[.pointer am,j I,j Q] R λv aF=>∃A c ar,v=.slice A (aa (gj D.aQ (l0 I (aa D.es)) (l0 Q (aa D.es)))) c/\aa (gj D.aQ (l0 I (aa D.es)) (l0 Q (aa D.es)))<=c/\c<=maxLen/\aF=ar++R/\
   Rd (ar++R) A (aa (gj D.aQ (l0 I (aa D.es)) (l0 Q (aa D.es)))) (b5 (gj D.aQ (l0 I (aa D.es)) (l0 Q (aa D.es)))):=by
 have aG:=NR I (aa D.es);have aH:=NR Q (aa D.es);have bb:=NS I (aa D.es);have av:=NS Q (aa D.es);generalize l0 I _=ah at*
 generalize l0 Q _=ap at*
 refine aD λ{g F}=>?_;apply dQ (lM am D _ nv) _;refine f1 p (lM am D _ nv) ?_;iterate 3 apply ay _
 apply cc;rw[aG,aH];apply ak _;apply bp (E.c7 3 1);refine cL (ι:=Nat×Option cg×Nat×List Int) (λC=>[(0,.pointer am),(2,j (ap:Nat)),(7,.slice C.2.1 C.2.2.2.length C.2.2.1),(8,j (C.1:Nat))]) (λC=>E 3 1 C.2.1 C.2.2.2.length C.2.2.1 (J C.2.2.2)::F::R)
  (λC=>ah<=C.1/\(C.1<=ap\/C.1=ah)/\C.2.2.2=gj D.aQ ah C.1/\C.2.2.2.length<=C.2.2.1/\C.2.2.1<=maxLen/\(0<C.2.2.2.length->∃b,C.2.1=(U b))/\C.2.2.2.length<=C.1) (λC=>ap-C.1) (ah,af,0,[]) ⟨bC _,.inr p,by simp[gj],bC _,bO _,db,bO _⟩ aZ cT ?_
 rintro⟨Z,A,c,H⟩ ⟨ax,aK,aL,az,aA,aq,aM⟩;simp only at ax aK aL az aA aq aM;dsimp only;apply ak _;refine c0 p (λh1=>?_) (λh1=>?_)
 .cases D with
  |nil=>simp[fi.es]at av;omega
  |node W a0 aO=>
   have be:=h;obtain⟨b,a7,bc,bl,bj,rfl,a3,a4,bm,bn,_⟩:=h;have aR:Z<aa W:=by simp only[fi.es]at av;omega
   have bo:=a3.at_ (i:=0) p;obtain⟨a9,o,rfl,aX⟩:=a4.at_ ad;have aB:W[Z]?=ab W[Z]:=b8 aR;have bq:=(aX _ _ aB).at_ (i:=0) p;have bi:=abh (fi.node W a0 aO).aQ ah Z W[Z].ai ax (by simp[fi.aQ,fi.es,aB]);have bh:aa W<=100000:=aS;generalize W[Z]=aJ at*
   apply aC _;apply bd λa8=>?_;apply fz λaE aI bg aT aV=>?_;exact b7 (Z+1,aE,aI,H++[aJ.ai.id]) ⟨ad,.inl ad,by simp_all,by simp_all,aT,λ_=>aV ao,by simp_all⟩ ad ⟨rfl,rfl,by simp only[b4,hg];rfl,rfl,trivial⟩ (by
    simp only[b4];rw[<- gi];exact a1)
 .have aY:H=gj D.aQ ah ap:=by
   grind[gj]
  rw[<- aY];apply aC _;refine aP (O.frame [F] (En A (aa H) c H R aq p ad) (λ_ s=>s.swap)) ?_;rintro _ _ ⟨_,⟨rfl,rfl⟩,rfl⟩;apply ak _;refine ba (C:=[E 3 1 A (aa H) c (J (b5 H))]++R) p ds a1 ⟨A,c,[E 3 1 A (aa H) c (J (b5 H))],rfl,az,aA,rfl,?_⟩;have aW:aa (b5 H)=aa H:=by rw[b5,List.length_mergeSort]
  exact bf.E (by rw[ck,aW];rfl) aq
end R
namespace R.cY
inductive bm where
 |nil
 |node (b:Nat) (q:a3) (a:fi) (D v:Int) (C j:bm)
def bm.eC:bm->fi
 | .nil=> .nil
 | .node _ _ a _ _ _ _=>a
def bm.Z:bm->Option cg
 | .nil=>af
 | .node b _ _ _ _ _ _=>(U b)
def bm.of:bm->List aj->Prop
 | .nil,l=>l=[]
 | .node _ _ a E v D C,l=>(∃j,l[0]?=ab j/\E=j.x)/\(∃j,l[aa l-1]?=ab j/\v=j.x)/\((∃j,l=[j]/\D=.nil/\C=.nil/\a=zN j)\/(1<aa l/\D.of (l.take ((aa l+1)/2))/\C.of (l.drop ((aa l+1)/2))/\a=join D.eC C.eC))
theorem bm.of.ok:∀{j:bm}{l},j.of l->Ord j.eC.aQ/\∀g:aj->Bool,j.eC.aQ.countP g=l.countP g
 | .nil,l,h=>by
  subst h;exact⟨trivial,λ_=>rfl⟩
 | .node b q a Q v J I,l,⟨_,_,h⟩=>by
  rcases h with ⟨O,rfl,_,_,rfl⟩|⟨h1,ae,an,rfl⟩
  .exact⟨⟨λ_ h=>bv,trivial⟩,λ_=>rfl⟩
  .let⟨C,D⟩:=ae.ok;let⟨E,H⟩:=an.ok;show Ord (join _ _).aQ/\∀g:aj->Bool,(join _ _).aQ.countP g= _;unfold fi.aQ;rw[abA];refine⟨z0 _ _ _ _ C E,λg=>?_⟩;rw[xm,D,H,<- List.countP_append,kk]
theorem bm.of.perm{j:bm}{l}(h:j.of l):j.eC.aQ.Perm l:=List.perm_iff_count.2 λa=>h.ok.2 (· ==a)
theorem bm.of.len{j:bm}{l}(h:j.of l):aa j.eC.es=aa l:=by
 have:=h.perm.length_eq;rwa[fi.aQ,jM]at this
def t8{l}(h:d0 aj.less l){j C:Nat}{D q}(O:j<=C)(H:l[j]?=ab D)(I:l[C]?=ab q):D.x<=q.x:=by
 rcases dZ j C with E|J
 .obtain⟨h1,rfl⟩:=h2.1 H;obtain⟨ae,rfl⟩:=h2.1 I;have:=List.pairwise_iff_getElem.1 h j C h1 ae E;unfold aj.less at this;grind
 grind
theorem bm.of.range{b q a E v Q j l}(h:(bm.node b q a E v Q j).of l)(D:d0 aj.less l):∀C∈l,E<=C.x/\C.x<=v:=λC J=>by
 obtain⟨⟨R,H,rfl⟩,⟨g,I,rfl⟩,_⟩:=h;obtain⟨O,j,rfl⟩:=A2.1 J;exact⟨t8 D (bO O) H (b8 j),t8 D ad (b8 j) I⟩
structure im where
 T:bm
 f:Nat
 t:Nat
def xC(b:cS)(j:bm):im:=⟨j,j.eC.aQ.countP (fx b.c9),j.eC.aQ.countP (fy b.cZ)⟩
def bm.out(b:cS)(j:bm):Bool:=match j with
 | .nil=>ag
 | .node _ _ a C v _ _=>decide (a.aQ.countP (fy b.cZ)<=a.aQ.countP (fx b.c9)\/b.cQ<b.cN\/v<b.cN\/b.cQ<C)
def bm.ins(b:cS)(j:bm):Bool:=match j with
 | .nil=>al
 | .node _ _ a C v _ _=>decide (b.cN<=C/\v<=b.cQ)
def bm.ids(b:cS)(j:bm):List Int:=if j.out b then[]else if j.ins b then b5 (gj j.eC.aQ (j.eC.aQ.countP (fx b.c9)) (j.eC.aQ.countP (fy b.cZ)))else[]
def bm.dF(b:cS)(j:bm):List bm:=if j.out b then[]else if j.ins b then[]else match j with
 | .nil=>[]
 | .node _ _ _ _ _ D C=>[D,C]
def bm.fd(b:cS):bm->List Int
 | .nil=>[]
 | .node c q a D v C j=>if(bm.node c q a D v C j).out b then[]else if(bm.node c q a D v C j).ins b then(bm.node c q a D v C j).ids b else C.fd b++j.fd b
def k7(b:cS)(j:List bm):List Int:=j.flatMap (bm.fd b)
theorem bm.aar(b)(j:bm):j.fd b=j.ids b++k7 b (j.dF b):=by
 cases j with
 |nil=>rfl
 |node c q a E v D C=>
  unfold bm.fd bm.dF
  by_cases h1:(bm.node c q a E v D C).out b=ag
  .simp[h1,bm.ids,k7]
  .by_cases ae:(bm.node c q a E v D C).ins b=ag
   .simp[h1,ae,k7]
   .simp[h1,ae,k7,bm.ids]
def Se:∀{l},Ord l->l.Pairwise λa b=>a.y<=b.y
 | [],_=> .nil
 |a::l,h=>List.pairwise_cons.2 ⟨h.1,Se h.2⟩
theorem Sd{l}(h:Ord l){j C}(R:j<=C):(l.drop (l.countP (fx j))).take (l.countP (fy C)-l.countP (fx j))=l.filter λD=>decide (j<=D.y/\D.y<=C):=by
 have H:=Se h;have I:=zs (fy C) l (H.imp λO Q=>by simp[fy]at*;omega);have E:=GK (fx j) (l.filter (fy C)) ((H.filter _).imp λO Q=>by simp[fx]at*;omega);have J:(l.filter (fy C)).countP (fx j)=l.countP (fx j):=by
  rw[List.countP_filter];apply List.countP_congr λD _=>?_;simp[fx,fy];omega
 rw[J]at E;rw[<- List.drop_take,I,E,List.filter_filter];apply Lf λD _=>?_;simp[fx,fy];grind
def fD(b:cS)(j:aj):Bool:=b.has j.x j.y
theorem aep{b}{C:bm}{l}(h:C.of l)(J:d0 aj.less l)(R:b.c9<=b.cZ)(j:C.out b=ag):l.filter (fD b)=[]:=by
 rw[EY];intro H E;cases C with
 |nil=>have h:l=[]:=h;simp_all
 |node c q a Z v Y U=>
  have W:=h.range J H E;have Q:=h.perm.mem_iff.2 E;have O:=h.ok.1;have D:=Sd O R;simp[bm.out,decide_eq_true_eq]at j;unfold fD cS.has qc;rcases j with j|j|j|j
  .have I:(a.aQ.countP (fy b.cZ))-(a.aQ.countP (fx b.c9))=0:=ad;change(a.aQ.drop _).take (a.aQ.countP _-a.aQ.countP _)= _ at D;rw[I,E3]at D;have:=EY.1 D.symm H Q;simp_all
  .grind
  .grind
  grind
def bm.of.GT{b:cS}(C:b.c9<=b.cZ):∀{D:bm}{l:List aj},D.of l->d0 aj.less l->(D.fd b).Perm ((l.filter (fD b)).map (·.id))
 | .nil,l,h,_=>by have h:l=[]:=h;subst h;rfl
 | .node c q a J v H E,l,h,j=>by
  unfold bm.fd
  by_cases h1:(bm.node c q a J v H E).out b=ag
  .rw[bJ h1,aep h j C h1];rfl
  .rw[a8 h1]
   by_cases ae:(bm.node c q a J v H E).ins b=ag
   .rw[bJ ae];unfold bm.ids;rw[a8 h1,bJ ae];apply(nA _).trans;unfold gj;apply EU _;show((a.aQ.drop (a.aQ.countP _)).take (a.aQ.countP _-a.aQ.countP _)).Perm _;have R:Ord a.aQ:=h.ok.1;rw[Sd R C];apply(h.perm.filter _).trans (.of_eq (Lf λI U=>?_));have W:=h.range j I U;simp only[bm.ins,decide_eq_true_eq]at ae;unfold fD cS.has qc;grind
   .rw[a8 ae];have W:=h.range j;let⟨⟨ar,ai,Y⟩,⟨av,am,Z⟩,an⟩:=h;rcases an with ⟨I,rfl,rfl,rfl,rfl⟩|⟨ah,O,Q,rfl⟩
    .exfalso;simp only[bm.out,bm.ins,decide_eq_true_eq]at h1 ae;simp_all
    .have ap:=O.GT C (j.sub (vC _ _));have aq:=Q.GT C (j.sub (ya _ _));grind[kk]
attribute [local irreducible] C bh b6
def eB(C:Q):bm->Prop
 | .nil=>True
 | .node b q a H v E D=>aU C b 0 5 [.pointer q,j H,j v,.pointer E.Z,.pointer D.Z]/\gI C q a/\eB C E/\eB C D
theorem eB.ap{D j}:∀{C},eB j C->eB (D::j) C
 | .nil,_=>trivial
 | .node b q a J v I H,⟨h1,ae,an,E⟩=>⟨h1.ap,ae.ap,an.ap,E.ap⟩
def eB.ev{N j C}(h:eB j C):eB (N++j) C:=by
 induction N with
 |nil=>exact h
 |cons E N D=>exact D.ap
def rN:m7 311 aj.less:=⟨λC q j=>rM C q j⟩
def W4{Z:FuncId}{H:aj->aj->Bool}[cu ar Z](aS:m7 Z H)(o:fl H)(A:a3)(n c:Nat)(l:List aj)(O:Q)(aE:Rd O A n l)(bc:n<=1000000):
  Y 573 #[.slice A n c,.func (.func Z) #[] #[]] O λv aH=>∃aA:List aj,(d0 H l/\aA=l\/¬d0 H l/\aa aA<n)/\Made 42 aA O v aH:=by
 have h1:aa l=n:=aE.len bL;refine cR λ{g F}=>?_;apply bp (E.c7 42 3);apply ak _;refine cL (ι:=Nat×Option cg×Nat×List aj) (λC=>[(1,.func (.func Z) #[] #[]),(5,.slice C.2.1 C.2.2.2.length C.2.2.1),(9,.slice A n c),(10,j (n:Nat)),(11,j (C.1:Nat))]) (λC=>E 42 3 C.2.1 C.2.2.2.length C.2.2.1 (J C.2.2.2)::F::O) (λC=>C.1<=n/\(d0 H (l.take C.1)/\C.2.2.2=l.take C.1\/¬d0 H (l.take C.1)/\C.2.2.2.length<C.1)/\(0<C.2.2.2.length->∃b,C.2.1=(U b))) (λC=>n-C.1) (0,af,0,[]) ⟨bO _,.inl ⟨by simp[d0],rfl⟩,db⟩ aZ cT ?_;rintro⟨D,aI,aq,q⟩ ⟨aO,R,av⟩;simp only at aO R av;dsimp only;have be:aa q<=D:=by
  grind
 apply ak _;refine c0 p (λaL=>?_) (λaL=>?_)
 .obtain⟨aJ,a0,rfl,a7⟩:=aE.at_ ad;have aP:l[D]?=ab l[D]:=b8 ad;have aB:l.take (D+1)=l.take D++[l[D]]:=j4 ad;have a8:=a7 _ _ aP;have bg:d0 H (l.take (D+1))->d0 H (l.take D):=λh=>h.sub bv;generalize l[D]=v at*
  have bh:aU O aJ (a0+D*3) 3 [j v.id,j v.x,j v.y]:=a8;apply aC _;apply bd λa9=>?_;apply fv _;apply cc;rcases hh (aa q)with ax|ax
  .have aX:q=[]:=gX ax;subst aX;have aV:d0 H (l.take D)/\[]=l.take D\/¬d0 H (l.take D)/\0<D:=R;have W:d0 H (l.take (D+1))/\[v]=l.take (D+1)\/¬d0 H (l.take (D+1))/\1<D+1:=by
    rcases aV with ⟨a,b⟩|⟨a,b⟩
    .left;rw[aB,<- b];exact⟨by simp[d0],rfl⟩
    simp_all
   apply ak _;apply bd λaK=>?_;apply fz λam ap aQ aW az=>?_;refine b7 (D+1,am,ap,[v]) ⟨ad,W,λ_=>az ao⟩ ad aZ au
  .obtain⟨I,C,rfl⟩:∃I C,q=I++[C]:=by
    rcases EV q with h|⟨a,b,h⟩
    .simp_all
    simp_all
   have aF:aa (I++[C])=aa I+1:=ao;obtain⟨ai,rfl⟩:=av ax;have aT:(I++[C])[aa I]?=ab C:=ao;have aY:aU (E 42 3 (U ai) (aa I+1) aq (J (I++[C]))::F::O) ai (0+aa I*3) 3 [j C.id,j C.x,j C.y]:=nn aF aT _;rw[aF];apply aC _;apply cc;apply ed (bE [0,1,2,3,4,5,6,7,8] (.e 9 (.q 10 .nil))) _;iterate 3 apply bu _
   refine jS 20 p (cw ao) ?_;iterate 4 apply bu _
   refine j6 dm p p p p ⟨_,rfl,rfl⟩ p (gh p (bx aY)) ?_;apply bu _;refine bF (jQ p p p ⟨_,rfl,rfl⟩ p (f4 p p (aS.o1 C v _)) ?_);rintro _ _ ⟨rfl,rfl⟩;apply cV _;apply aC _
   by_cases aD:H C v=ag
   .have W:d0 H (l.take (D+1))/\I++[C]++[v]=l.take (D+1)\/¬d0 H (l.take (D+1))/\aa (I++[C]++[v])<D+1:=by
     rcases R with ⟨a,b⟩|⟨a,b⟩
     .left;rw[aB,<- b];refine⟨?_,rfl⟩;rw[<- b]at a;unfold d0 at a ⊢;rw[pr];refine⟨a,ao,λa4 ah y aG=>?_⟩;simp at aG;subst aG;rcases b9.1 ah with ah|ah
      .rw[pr]at a;exact o.gu (a.2.2 a4 ah C ao) aD
      simp_all
     grind
    apply ak _;apply bd λaK=>?_;apply fz λam ap aQ aW az=>?_;exact b7 (D+1,am,ap,I++[C]++[v]) ⟨ad,W,λ_=>az ao⟩ ad ⟨rfl,by simp only[b4,hg];rfl,rfl,rfl,rfl,trivial⟩ (by
     simp only[b4,hg];rw[gS (I++[C]) [v]];exact au)
   .have W:d0 H (l.take (D+1))/\I++[C]=l.take (D+1)\/¬d0 H (l.take (D+1))/\aa (I++[C])<D+1:=by
     right;rcases R with ⟨a,b⟩|⟨a,b⟩
     .refine⟨λh=>aD ?_,ad⟩;rw[aB,<- b]at h;unfold d0 at h;grind
     grind
    have bb:H C v=al:=bo;apply ak _;exact b7 (D+1,(U ai),aq,I++[C]) ⟨ad,W,λ_=>⟨ai,rfl⟩⟩ ad ⟨rfl,by simp only[b4,hg];rfl,rfl,rfl,rfl,trivial⟩ (by
     simp only[b4,hg];exact au)
 .have aM:D=n:=ad;subst aM;rw[lR ad]at R;apply ak _;exact aR ⟨q,R,aI,aq,rfl,av,rfl⟩
def sL:∀(ar:Nat)(A:a3)(n c:Nat)(l:List aj)(C:Q)(_:n<=ar)(_:Rd C A n l)(_:n<=100000)(_:n<=c)(_:c<=maxLen),
  Y 574 #[.slice A n c] C λv a4=>∃aB aO,v=.pointer aB.Z/\aB.of l/\a4=aO++C/\eB (aO++C) aB:=by
 intro ar
 induction ar using Nat.strongRecOn with
 | _ ar aW=>
 intro A n c l C bZ ax b2 be aT;have h1:aa l=n:=ax.len bL;rcases hh n with aE|aE
 .subst aE;have bb:l=[]:=gX h1;subst bb;refine bt ?_;refine eO ?_;exact⟨.nil,[],rfl,rfl,rfl,trivial⟩
 .obtain⟨U,o,rfl,aV⟩:=ax.at_ aE;have aR:l[0]?=ab l[0]:=b8 ad;have aS:l[n-1]?=ab l[n-1]:=b8 ad;have bc:l[aa l-1]?=ab l[n-1]:=(congrArg (λbw=>l[bw-1]?) h1).trans aS;have aZ:=aV _ _ aR;have bS:=aV _ _ aS;have bI:=ax.take (k:=(n+1)/2) ad;have bJ:=ax.drop (k:=(n+1)/2) (c:=c) ad be
  by_cases ae:n=1
  .obtain⟨D,rfl⟩:∃D,l=[D]:=by
    match l,h1 with
    | [D],_=>simp
    | [],h=>trivial
    | _:: _:: _,h=>grind
   subst ae;simp only[List.getElem_singleton]at*
   have aM:aU C U (o+0*3) 3 [j D.id,j D.x,j D.y]:=aZ;have a0:a5 C ⟨U,o+0*3+1,af⟩ (j D.x):=aM.at_ (i:=1) p;have bT:a5 C ⟨U,o+(1-1)*3+1,af⟩ (j D.x):=a0;refine bt ?_;refine bg λR=>?_;apply aP (b3 (Wd D C)) _;rintro _ _ ⟨a7,⟨q,E,rfl,rfl,aG⟩,rfl⟩;apply ak _;refine ba (C:=(ah R 411 [.pointer q,j D.x,j D.x,.pointer af,.pointer af]::E)++C) p (.tmp p .nil) (λ_ s=>s.swap) ⟨.node R q (zN D) D.x D.x .nil .nil,_,rfl,⟨⟨D,rfl,rfl⟩,⟨D,rfl,rfl⟩,.inl ⟨D,rfl,rfl,rfl,rfl⟩⟩,rfl,aU.ah p,aG.ap,trivial,trivial⟩
  .have bq:=aW ((n+1)/2) ad _ ((n+1)/2) c _ C (bC _) bI ad ad aT;have br:=λM=>aW (n-(n+1)/2) ad _ (n-(n+1)/2) (c-(n+1)/2) _ (M++C) (bC _) (bJ.ev (N:=M)) ad ad ad;have bx:aa (l.take ((n+1)/2))=(n+1)/2:=bv;have bz:aa (l.drop ((n+1)/2))=n-(n+1)/2:=bo;have bp:∀b q a az av,az.of (l.take ((n+1)/2))->av.of (l.drop ((n+1)/2))->a=join az.eC av.eC->(bm.node b q a l[0].x l[n-1].x az av).of l:=λb q a az av b0 b1 bh=>⟨⟨_,aR,rfl⟩,⟨_,bc,rfl⟩,.inr ⟨ad,by simp_all,by simp_all,bh⟩⟩;generalize l[0]=H at*
   generalize l[n-1]=J at*
   have aM:aU C U (o+0*3) 3 [j H.id,j H.x,j H.y]:=aZ;have a0:a5 C ⟨U,o+0*3+1,af⟩ (j H.x):=aM.at_ (i:=1) p;have bU:aU C U (o+(n-1)*3) 3 [j J.id,j J.x,j J.y]:=bS;have bT:a5 C ⟨U,o+(n-1)*3+1,af⟩ (j J.x):=bU.at_ (i:=1) p;generalize l.take ((n+1)/2)=aX at*
   generalize l.drop ((n+1)/2)=aY at*
   generalize bn:(n+1)/2=mid at*
   unfold maxLen at aT;refine bt ?_;refine bg λR=>?_;refine a6 (l6 (q:=2) p p ao ad) ?_;rw[bn];apply ak _;apply pn (bE [0,1,2,3,5,6,7] (.e 4 (.e 8 (bE [9,10,11] (.e 12 .nil))))) _;apply dV (b3 bq) _;rintro _ _ ⟨a7,⟨a8,O,rfl,aH,rfl,aK⟩,rfl⟩;apply cV _;apply dV (b3 (br O)) _;rintro _ _ ⟨bV,⟨a9,E,rfl,aI,rfl,aL⟩,rfl⟩;apply cV _;apply dl _;cases a8 with
   |nil=>
    have aD:aX=[]:=aH;subst aD;simp at bx;omega
   |node am aJ W bK bP bG bi=>
    cases a9 with
    |nil=>
     have aD:aY=[]:=aI;subst aD;simp at bz;omega
    |node aq aF ai bM bR bH bj=>
     have b5:a5 (E++(O++C)) ⟨am,0+0,af⟩ (.pointer aJ):=(aK.1.at_ (i:=0) p).ev;have b6:a5 (E++(O++C)) ⟨aq,0+0,af⟩ (.pointer aF):=aL.1.at_ (i:=0) p;have bA:aa W.es<=100000:=by have:aa W.es=aa aX:=aH.len;omega
     have bB:aa ai.es<=100000:=by have:aa ai.es=aa aY:=aI.len;omega
     have bl:=V4 aJ aF W ai (E++(O++C)) aK.2.1.ev aL.2.1 bA bB;apply dY _;apply dV (b3 bl) _;rintro _ _ ⟨bY,⟨q,aA,rfl,rfl,aG⟩,rfl⟩;apply cV _;apply ak _;have aQ:(ah R 411 [.pointer q,j H.x,j J.x,I am,I aq]::(aA++(E++O)))++C=ah R 411 [.pointer q,j H.x,j J.x,I am,I aq]::(aA++(E++(O++C))):=ao;refine ba (C:=(ah R 411 [.pointer q,j H.x,j J.x,I am,I aq]::(aA++(E++O)))++C) p ds (by rw[aQ];exact λ_ s=>s.swap) ⟨.node R q (join W ai) H.x J.x (.node am aJ W bK bP bG bi) (.node aq aF ai bM bR bH bj),_,rfl,bp _ _ _ _ _ aH aI p,rfl,?_⟩;rw[aQ];exact⟨aU.ah p,aG.ap,aK.ev.ev.ap,aL.ev.ap⟩
instance:nV ar 243 (42,4):=⟨cq⟩
instance:Bs ar 42:=⟨cq⟩
instance:MK ar 4:=⟨cq⟩
@[reducible] def iZ (A:a3) (n c b:Nat) (D E C:Int):List Value:=[.slice A n c,.map (some b),j D,j E,j C]
variable{s b n c:Nat}{A:a3}{bT ni:Int}{pS:Nat}{M:List (aj×Bool)}{L:Q}
def acs(h:aU L s 0 5 (iZ A n c b (pS:Nat) bT ni))(D:fL L b M)(J:pS<=aa M)(H:aa M<=1000000):aY 238 #[I s] L (j (aa M-pS:Nat)) L:=by
 have h1:=h.at_ (i:=1) p;have ae:=h.at_ (i:=2) p;have E:∀C,fL (C::L) b M:=λC=>D.ap;refine bt ?_;refine eh p (CD p (E _)) ?_;apply dY _
 all_goals
  exact fG
def QG(j)(h:aU L s 0 5 (iZ A n c b (pS:Nat) bT ni))(E:fL L b M):aY 242 #[I s,j.v] L (.tuple #[.bool ((dL j M).getD al),.bool (dL j M).isSome]) L:=by
 have h1:=h.at_ (i:=1) p;have H:∀C D,fL (C::D::L) b M:=λC D=>E.ap.ap;refine aD ?_;refine bg λJ=>?_;refine eh p (wO (j:=j) p p (H _ _)) ?_;apply dl _
 all_goals
  exact fG
def acA(j)(h:aU L s 0 5 (iZ A n c b (pS:Nat) bT ni))(H:fL L b M):aY 497 #[I s,j.v] L (.bool (decide (dL j M=ab al))) L:=by
 have E:=λC D=>QG (L:=C::D::L) j h.ap.ap H.ap.ap;generalize dL j M=q at*
 refine aD ?_;refine bP λJ=>?_;refine f1 p (E _ _) ?_;iterate 5 apply ay _
 apply cc;rcases q with _|(_| _)
 .exact c8
 .exact c8
 .exact c8
def iv(M:List (aj×Bool)):List aj:=(M.filter λj=>!j.2).map (·.1)
theorem Xl(j M):iv (j::M)=(if j.2 then[]else[j.1])++iv M:=by grind[iv]
theorem Xk(M j):iv (M++j)=iv M++iv j:=by simp[iv]
def Xm(A R)(j:aj×Bool):((if j.2 then[]else[j.1])++iv (A++R)).Perm (iv (A++j::R)):=by grind[Xk,Xl,ep]
def acn(s b n c A bT ni pS M L)(h:aU L s 0 5 (iZ A n c b (pS:Nat) bT ni))(aW:aa M<=100000):
  Y 546 #[I s] (ct b M::L) λv aB=>Made 42 (bw aj.less (iv M)) (ct b M::L) v aB:=by
 have h1:a5 L _ _:=h.at_ (i:=1) p;refine aD λ{g F}=>?_;refine GE (wE p aN) ?_;rintro _ _ ⟨ah,rfl,rfl⟩;apply ak _;apply bp (E.c7 42 3);refine cL (λy=>[(3,.slice y.2.2.1 y.2.2.2.2.length y.2.2.2.1),(10,I ah)]) (λy=>E 42 3 y.2.2.1 y.2.2.2.2.length y.2.2.2.1 (J y.2.2.2.2)::hK ah b M y.1 y.2.1::F::L)
  (λy=>(y.2.2.2.2++iv y.1).Perm (iv M)/\y.2.2.2.2.length+y.1.length<=aa M/\(0<y.2.2.2.2.length->∃b,y.2.2.1=(U b))/\y.2.2.2.2.length<=y.2.2.2.1/\y.2.2.2.1<=maxLen) (λy=>y.1.length) (M,af,af,0,[]) ⟨.refl _,ao,db,bC _,bO _⟩ aZ au ?_
 rintro⟨H,q,Z,ai,j⟩ ⟨O,am,R,W,aq⟩;simp only at O am R W aq;dsimp only;cases H with
 |nil=>
  apply bQ _;refine GE (wD p aN) ?_;rintro _ _ ⟨rfl,rfl⟩;apply ay _;apply hl _;have aM:j.Perm (iv M):=by simpa[iv]using O
  have aH:bw aj.less j=bw aj.less (iv M):=ou hu (ov hu j) ((f8 j).trans aM);have av:=λaE aK=>tZ hu rN Z (aa j) ai j aE aK ad W;rw[aH]at av;apply aC _;refine aP (av _ (by repeat' first|exact bf.E (ck _) R|apply Rd.ap)) ?_;rintro _ _ ⟨aA,aG,rfl,aJ,rfl⟩;apply ak _;exact aR ⟨aA,aG,rfl,aJ,rfl⟩ DL
 |cons aY H=>
  apply bQ _;refine GE (wC p aN) ?_;rintro _ _ ⟨C,ax,D,aI,rfl,rfl⟩;apply ay _;apply m3 _;have aV:aa H+1=aa C+(aa D+1):=by
   grind
  have ar:=Xm C D ax;rw[<- aI]at ar;obtain⟨up,aO⟩:=ax;simp only[f0]at am;apply bQ _;refine a6 (wL p DM) ?_;apply ak _;apply bg λaS=>?_;apply ak _;cases aO with
  |true=>
   apply ak _;exact b7 (C++D,ab (up,ag),Z,ai,j) ⟨(ar.append_left j).trans O,by grind,R,W,aq⟩ bo aZ au
  |false=>
   apply aC _;apply bd λaQ=>?_;apply fz λaz aF aT aL aX=>?_;refine b7 (C++D,ab (up,al),az,aF,j++[up]) ⟨?_,by grind,by simp_all,by simp_all,aL⟩ bo ⟨by simp only[b4,hg];rfl,rfl,trivial⟩ ?_
   .grind
   .simp[hg];rw[<- gi];exact au
def jW(C:cS)(M:List (aj×Bool)):List Int:=(M.filter λj=>j.2&&C.has j.1.x j.1.y).map (·.1.id)
theorem Y4(C j M):jW C (j::M)=(if j.2&&C.has j.1.x j.1.y then[j.1.id]else[])++jW C M:=by grind[jW]
theorem Y3(j M C):jW j (M++C)=jW j M++jW j C:=by simp[jW]
def Y5(C A R)(j:aj×Bool):((if j.2&&C.has j.1.x j.1.y then[j.1.id]else[])++jW C (A++R)).Perm (jW C (A++j::R)):=by grind[Y3,Y4,ep]
def act(s b n c A bT ni pS C M L)(h:aU L s 0 5 (iZ A n c b (pS:Nat) bT ni))(a8:aa M<=100000):
  Y 433 #[I s,C.v] (ct b M::L) λv aI=>Made 3 (b5 (jW C M)) (ct b M::L) v aI:=by
 have h1:a5 L ⟨s,0+1,af⟩ (.map (ab b)):=h.at_ (i:=1) p;refine aD λ{g F}=>?_;apply bP λaz=>?_;refine GE (wE p aN) ?_;rintro _ _ ⟨ax,rfl,rfl⟩;apply ak _;apply bp (E.c7 3 1);refine cL (ι:=List (aj×Bool)×Option (aj×Bool)×Option cg×Nat×List Int) (λy=>[(3,I az),(5,.slice y.2.2.1 y.2.2.2.2.length y.2.2.2.1),(14,I ax)]) (λy=>E 3 1 y.2.2.1 y.2.2.2.2.length y.2.2.2.1 (J y.2.2.2.2)::hK ax b M y.1 y.2.1::ah az 48 [j C.cN,j C.cQ,j C.c9,j C.cZ]::F::L)
  (λy=>(y.2.2.2.2++jW C y.1).Perm (jW C M)/\y.2.2.2.2.length+y.1.length<=aa M/\(0<y.2.2.2.2.length->∃b,y.2.2.1=(U b))/\y.2.2.2.2.length<=y.2.2.2.1/\y.2.2.2.1<=maxLen) (λy=>y.1.length) (M,af,af,0,[]) ⟨.refl _,ao,db,bC _,bO _⟩ aZ au ?_
 rintro⟨aq,q,am,ar,D⟩ ⟨R,aA,W,Z,av⟩;simp only at R aA W Z av;dsimp only;cases aq with
 |nil=>
  apply bQ _;refine GE (wD p aN) ?_;rintro _ _ ⟨rfl,rfl⟩;apply ay _;apply hl _;have aW:D.Perm (jW C M):=by simpa[jW]using R
  have aM:b5 D=b5 (jW C M):=JO aW;have aE:=λaJ aS=>FH am (aa D) ar D aJ aS ad Z;rw[aM]at aE;apply aC _;refine aP (aE _ (by repeat' first|exact bf.E (ck _) W|apply Rd.ap)) ?_;rintro _ _ ⟨aH,aL,rfl,aQ,rfl⟩;apply ak _;exact aR ⟨aH,aL,rfl,aQ,rfl⟩ DL
 |cons bc aq=>
  apply bQ _;refine GE (wC p aN) ?_;rintro _ _ ⟨H,aF,O,aO,rfl,rfl⟩;apply ay _;apply m3 _;have a7:aa aq+1=aa H+(aa O+1):=by
   grind
  have ai:=Y5 C H O aF;rw[<- aO]at ai;obtain⟨up,aX⟩:=aF;simp only[f0]at aA;have aB:=Mi C up;simp only at ai;generalize C.has up.x up.y=aT at*
  apply bQ _;refine a6 (wL p DM) ?_;apply ak _;apply bd λa0=>?_;apply fv _;apply ay _;apply cc;cases aX with
  |false=>
   apply ak _;exact b7 (H++O,ab (up,al),am,ar,D) ⟨(ai.append_left D).trans R,by grind,W,Z,av⟩ bo aZ au
  |true=>
   cases aT with
   |false=>
    apply ak _;apply a9 (aB _) _;exact b7 (H++O,ab (up,ag),am,ar,D) ⟨(ai.append_left D).trans R,by grind,W,Z,av⟩ bo aZ au
   |true=>
    apply ak _;apply dQ (aB _) _;apply bd λaY=>?_;apply fz λaG aK a4 aV bb=>?_;refine b7 (H++O,ab (up,ag),aG,aK,D++[up.id]) ⟨?_,by grind,by simp_all,by simp_all,aV⟩ bo ⟨rfl,by simp only[b4,hg];rfl,rfl,trivial⟩ ?_
    .grind
    .simp only[b4];rw[<- gi];exact au
def acq(s b n c A bT ni pS j M L)(h:aU L s 0 5 (iZ A n c b (pS:Nat) bT ni))(J:aa M<=100000):
  Y 389 #[I s,j.v] (ct b M::L) λv D=>Made 3 (b5 (jW j M)) (ct b M::L) v D:=by
 refine aD ?_;refine bP λR=>?_;apply aP (O.pick aN (act s b n c A bT _ _ j M _ (bx h) J)) _;rintro _ _ ⟨C,E,rfl,H,rfl⟩;apply ak _;exact aR ⟨C,E,rfl,H,rfl⟩
def acw(bT L)(h1:1<=bT)(ae:bT<=1048576):Y 84 #[j bT] L λv C=>∃s b,v=.tuple #[I s,j 0]/\C=ah s 246 (iZ af 0 0 b 0 bT 0)::ct b ([]:List (aj×Bool))::L:=by
 refine bt ?_;refine GE (ze (b2:=aj) (e4:=Bool)) ?_;rintro _ _ ⟨D,rfl,rfl⟩;apply ak _;apply bg λE=>?_;exact aR ⟨E,D,rfl,rfl⟩
end R.cY
namespace R.cY
def bm.iE:bm->Nat
 | .nil=>0
 | .node _ _ _ _ _ C j=>max C.iE j.iE+1
theorem bm.of.iE:∀{C:bm}{l}(j),C.of l->aa l<=2 ^ j->C.iE<=j+1
 | .nil,_,j,_,_=>by simp only[bm.iE];simp
 | .node _ _ _ _ _ H D,l,j,⟨_,_,h⟩,E=>by
  rcases h with ⟨I,rfl,rfl,rfl,_⟩|⟨h1,ae,an,_⟩
  .simp only[bm.iE];simp
  .cases j with
   |zero=>omega
   |succ j=>
    have a:=ae.iE j bv;have b:=an.iE j bv;simp[bm.iE];omega
def lq:Int->List bm->Prop
 | _,[]=>True
 |m,D::E=>∃l j,D.of l/\d0 aj.less l/\m<=j/\(∀C∈l,m<=C.x/\C.x<=j)/\lq j E
def lq.mono:∀{C}{j n},lq j C->n<=j->lq n C
 | [],_,_,_,_=>trivial
 |x::C,j,n,⟨l,I,h1,ae,an,D,E⟩,h=>⟨l,I,h1,ae,ad,λJ H=>⟨by grind,(D J H).2⟩,E⟩
def qN(b:cS)(j:List bm):List bm:=j.flatMap (bm.dF b)
def aal{α D:Type}(C g:α->List D):∀j:List α,(j.flatMap λx=>C x++g x).Perm (j.flatMap C++j.flatMap g)
 | []=> .refl _
 |x::j=>by
  refine(qh _ (aal C g j)).trans ?_;grind[qh,ET,ep]
def bm.mid(b:cS)(j:bm):Bool:=!j.out b&&!j.ins b
def bm.m1(b:cS):bm->Bool
 | .nil=>al
 | .node _ _ _ j v _ _=>decide (j<b.cN/\b.cN<=v)
def bm.m2(b:cS):bm->Bool
 | .nil=>al
 | .node _ _ _ j v _ _=>decide (j<=b.cQ/\b.cQ<v)
def bm.adu(b)(j:bm)(h:j.mid b=ag):j.m1 b=ag\/j.m2 b=ag:=by
 cases j with
 |nil=>trivial
 |node c q a E v D C=>
  simp[bm.mid,bm.out,bm.ins,bm.m1,bm.m2,Bool.and_eq_true,sk,decide_eq_false_iff_not,decide_eq_true_eq]at*
  omega
theorem bm.Rx(b)(j:bm):aa (j.dF b)=if j.mid b then 2 else 0:=by
 cases j with
 |nil=>rfl
 |node c q a E v D C=>
  unfold bm.dF bm.mid;grind
theorem Ru(b):∀j:List bm,aa (qN b j)=2*j.countP (bm.mid b)
 | []=>rfl
 |x::j=>by
  have:=Ru b j;unfold qN at*
  rw[yc,b4,this,x.Rx,mv];grind
theorem bm.of.ends{c q a C v E D l}(h:(bm.node c q a C v E D).of l):(∃j∈l,C=j.x)/\∃j∈l,v=j.x:=by
 let⟨⟨J,O,H⟩,⟨g,Q,I⟩,_⟩:=h;grind
theorem lq.m1(b):∀{j}{C},lq C j->j.countP (bm.m1 b)<=1/\(b.cN<=C->j.countP (bm.m1 b)=0)
 | [],_,_=>⟨ao,λ_=>rfl⟩
 |x::j,C,⟨l,ap,h1,ae,an,D,H⟩=>by
  let⟨ai,am⟩:=H.m1 b;rw[mv];cases x with
  |nil=>simp only[bm.m1];grind
  |node c q a W v Q I=>
   let⟨⟨R,J,ah⟩,⟨U,O,aX⟩⟩:=h1.ends;have Y:=D R J;have Z:=D U O
   by_cases E:(bm.node c q a W v Q I).m1 b=ag
   .rw[bJ E];simp[bm.m1,decide_eq_true_eq]at E;omega
   grind
theorem lq.m2(b):∀{j}{C},lq C j->j.countP (bm.m2 b)<=1/\(b.cQ<C->j.countP (bm.m2 b)=0)
 | [],_,_=>⟨ao,λ_=>rfl⟩
 |x::j,C,⟨l,ap,h1,ae,an,D,H⟩=>by
  let⟨ai,am⟩:=H.m2 b;rw[mv];cases x with
  |nil=>simp only[bm.m2];grind
  |node c q a W v Q I=>
   let⟨⟨R,J,ah⟩,⟨U,O,aX⟩⟩:=h1.ends;have Y:=D R J;have Z:=D U O
   by_cases E:(bm.node c q a W v Q I).m2 b=ag
   .rw[bJ E];simp[bm.m2,decide_eq_true_eq]at E;omega
   grind
def N2{α:Type}(j q C)(h:∀x,j x=ag->q x=ag\/C x=ag):∀l:List α,l.countP j<=l.countP q+l.countP C
 | []=>ao
 |x::l=>by
  have:=N2 j q C h l;grind
def lq.four{b j C}(h:lq C j):aa (qN b j)<=4:=by
 rw[Ru];have:=N2 _ _ _ (bm.adu b) j;have:=(h.m1 b).1;have:=(h.m2 b).1;omega
theorem lq.dF(b):∀{H}{D},lq D H->lq D (qN b H)
 | [],_,_=>trivial
 |x::H,D,⟨l,av,h1,ae,an,O,ap⟩=>by
  have C:=ap.dF b;show lq D ((x::H).flatMap _);rw[yc];cases x with
  |nil=>rw[show bm.dF b _=[] by rfl];exact C.mono an
  |node c q a ah v U Q=>
   by_cases I:(bm.node c q a ah v U Q).out b=ag
   .rw[show bm.dF b _=[] by simp[bm.dF,I]];exact C.mono an
   by_cases J:(bm.node c q a ah v U Q).ins b=ag
   .rw[show bm.dF b _=[] by simp[bm.dF,J]];exact C.mono an
   rw[show bm.dF b _=[U,Q] by simp[bm.dF,I,J]];let⟨⟨aE,aB,ax⟩,⟨aF,aD,az⟩,aq⟩:=h1;rcases aq with ⟨E,rfl,rfl,rfl,rfl⟩|⟨aA,ai,am,rfl⟩
   .exfalso;simp only[bm.out,bm.ins]at I J;simp_all
   .have Y:(aa l+1)/2-1<aa l:=ad;have W:=b8 Y;have Z:=O _ (gG Y);generalize l[(aa l+1)/2-1]=hB at*
    refine⟨_,hB.x,ai,ae.sub (vC _ _),Z.1,λE j=>⟨(O E (List.mem_of_mem_take j)).1,?_⟩,_,av,am,ae.sub (ya _ _),Z.2,λE j=>⟨?_,(O E (Lt j)).2⟩,C⟩
    .obtain⟨ar,R,rfl⟩:=A2.1 j;rw[oE]at R;rw[List.getElem_take];exact t8 ae ad (b8 ad) W
    .obtain⟨ar,R,rfl⟩:=A2.1 j;rw[Lm]at R;rw[List.getElem_drop];exact t8 ae ad W (b8 ad)
def bm.ad3(b)(j:bm)(C)(h:j.iE<=C+1):∀y∈j.dF b,y.iE<=C:=λy D=>by
 cases j with
 |nil=>trivial
 |node c q a I v H E=>
  simp[bm.iE]at h;unfold bm.dF at D;grind
def ad0(b E D)(h:∀j∈E,j.iE<=D+1):∀y∈qN b E,y.iE<=D:=λy C=>by
 let⟨j,H,C⟩:=kz.1 C;exact j.ad3 b D (h j H) y C
theorem ad1(b D)(h:∀j∈D,j.iE<=0):qN b D=[]:=by
 apply List.eq_nil_iff_forall_not_mem.2 λy C=>?_;let⟨j,E,C⟩:=kz.1 C;have:=h j E;cases j with
 |nil=>trivial
 |node=>trivial
attribute [local irreducible] C bh b6
instance aji:d3 im:=⟨3,λC=>[.pointer C.T.Z,j (C.f:Nat),j (C.t:Nat)],λ_=>rfl,λ_ v h=>by simp at h;rcases h with rfl|rfl|rfl<;>rfl⟩
def aeZ(H C D E)(h1:C<=1000000)(ae:D<=1000000):aY 658 #[.agg #[.pointer H,j (C:Nat),j (D:Nat)]] E (j ((D-C:Nat):Int)) E:=by
 refine aD ?_;refine bg λI=>?_;refine ba p (.tmp p .nil) a1 ⟨congrArg (Value.int _) ad,rfl⟩
def G0(b q a am v R Q C D high J)(h:eB J (.node b q a am v R Q))(H:aa a.es<=100000)(h1:C<=1000000)(ae:D<=1000000):
  Y 659 #[.agg #[I b,j (C:Nat),j (D:Nat)],.bool high] J λai U=>ai=.agg #[.pointer (if high then Q.Z else R.Z),j (lead a C high),j (lead a D high)]/\U=J:=by
 obtain⟨O,E,_,_⟩:=h;have aq:=O.at_ (i:=0) p;cases high with
 |true=>
  have ap:=O.at_ (i:=4) p;refine aD ?_;refine bd λW=>?_;apply bg λah=>?_;apply pn (bE [0,1,2,3,4,5,6,7,8,9,10,11,12,13,14,16,17,18,19,20,21,22,23] (.e 15 (.e 24 (.q 25 (.e 26 .nil))))) _;refine dM (Bw q a C ag _ (bx E) H ad) ?_;refine dM (Bw q a D ag _ (bx E) H ad) ?_;refine ba p (.cell p (eQ cA) .nil) a1 bD
 |false=>
  have ap:=O.at_ (i:=3) p;refine aD ?_;refine bd λW=>?_;apply bP λah=>?_;apply pn (bE [0,1,2,3,4,5,6,7,8,9,10,11,12,13,14,16,17,18,19,20,21,22,23] (.e 15 (.e 24 (.q 25 (.e 26 .nil))))) _;refine dM (Bw q a C al _ (bx E) H ad) ?_;refine dM (Bw q a D al _ (bx E) H ad) ?_;refine ba p (.cell p (eQ cA) .nil) a1 bD
def hs(b:cS)(j:List bm):List im:=j.map (xC b)
def vY(b:cS)(C:bm)(D:Q)(U:a2)(R:Q):Prop:=∃I H J O E,U=.tuple #[.slice I (aa (C.ids b)) H,j (aa (C.ids b):Nat),.slice J (aa (C.dF b)) O]/\
 R=E++D/\Rd (E++D) I (aa (C.ids b)) (C.ids b)/\Rd (E++D) J (aa (C.dF b)) (hs b (C.dF b))/\aa (C.ids b)<=H/\H<=maxLen/\aa (C.dF b)<=O
theorem PX(l){C j}(h:j<=aa l):aa (gj l C j)=j-C:=by unfold gj;grind
theorem NT{j n:Nat}(h:j<=n):l0 (j:Int) n=j:=by unfold l0;omega
def bm.Rw{b c q a D v C j l}(h:(bm.node c q a D v C j).of l)(h1:(bm.node c q a D v C j).out b=al)(ae:(bm.node c q a D v C j).ins b=al):
  C.of (l.take ((aa l+1)/2))/\j.of (l.drop ((aa l+1)/2))/\a=join C.eC j.eC:=by
 let⟨⟨Y,R,H⟩,⟨Z,U,I⟩,E⟩:=h;rcases E with ⟨W,rfl,rfl,rfl,rfl⟩|⟨J,O,Q,rfl⟩
 .exfalso;simp only[bm.out,bm.ins]at h1 ae;simp_all
 trivial
theorem T9(l):aa (b5 l)=aa l:=(nA l).length_eq
def aeR(J b l H)(h:eB H J)(aP:J.of l)(bw:aa l<=100000):
  Y 656 #[.agg #[.pointer J.Z,j (J.eC.aQ.countP (fx b.c9):Nat),j (J.eC.aQ.countP (fy b.cZ):Nat)],.agg #[j b.cN,j b.cQ,j b.c9,j b.cZ]] H λbl aX=>vY b J H bl aX:=by
 cases a0:J with
 |nil=>
  have aq:bm.nil.ids b=[]:=rfl;have ar:bm.nil.dF b=[]:=rfl;unfold vY;rw[aq,ar];refine aD ?_;refine bd λai=>?_;apply bg λam=>?_;apply eO _;exact⟨af,0,af,0,[],rfl,rfl,Rd.nil _ _,Rd.nil _ _,bC _,bO _,bC _⟩
 |node c q a E v D C=>
  subst a0;have aL:aa a.es<=100000:=by have:aa a.es=aa l:=aP.len;omega
  have bz:aa a.aQ=aa a.es:=jM _;have bc:a.aQ.countP (fx b.c9)<=aa a.es:=bv;have be:a.aQ.countP (fy b.cZ)<=aa a.es:=bv;have a4:=λh1 ae=>bm.Rw (b:=b) aP h1 ae;let⟨aG,a3,bA,bB⟩:=id h;have bG:a5 H ⟨c,0+0,af⟩ (.pointer q):=aG.at_ (i:=0) p;have bH:a5 H ⟨c,0+1,af⟩ (j E):=aG.at_ (i:=1) p;have bI:a5 H ⟨c,0+2,af⟩ (j v):=aG.at_ (i:=2) p;have aE:=λM (az:gI M q a)=>VR q a (a.aQ.countP (fx b.c9):Nat) (a.aQ.countP (fy b.cZ):Nat) M az aL;rw[NT bc,NT be]at aE;have aO:aa (gj a.aQ (a.aQ.countP (fx b.c9)) (a.aQ.countP (fy b.cZ)))=a.aQ.countP (fy b.cZ)-a.aQ.countP (fx b.c9):=PX _ ad;rw[aO]at aE;have W:=λM=>aeZ (U c) (a.aQ.countP (fx b.c9)) (a.aQ.countP (fy b.cZ)) M ad ad;have aM:=λhigh M (az:eB M (.node c q a E v D C))=>G0 c q a E v D C (a.aQ.countP (fx b.c9)) (a.aQ.countP (fy b.cZ)) high M az aL ad ad;show Y 656 #[.agg #[I c,j (a.aQ.countP (fx b.c9):Nat),j (a.aQ.countP (fy b.cZ):Nat)],.agg #[j b.cN,j b.cQ,j b.c9,j b.cZ]] H _
  by_cases R:(bm.node c q a E v D C).out b=ag
  .have aq:(bm.node c q a E v D C).ids b=[]:=bJ R;have ar:(bm.node c q a E v D C).dF b=[]:=bJ R;unfold vY;rw[aq,ar];simp only[bm.out,decide_eq_true_eq]at R;generalize a.aQ.countP (fx b.c9)=ax at*
   generalize a.aQ.countP (fy b.cZ)=aF at*
   by_cases aH:aF<=ax
   .skip
    refine aD ?_;refine bd λai=>?_;apply bg λam=>?_;refine bF (jQ p p p ⟨_,rfl,rfl⟩ p (c5 p (W _)) ?_);rintro _ _ ⟨rfl,rfl⟩;apply cV _;apply eO _;exact⟨af,0,af,0,[],rfl,rfl,Rd.nil _ _,Rd.nil _ _,bC _,bO _,bC _⟩
   .by_cases bp:b.cQ<b.cN
    .skip
     refine aD ?_;refine bd λai=>?_;apply bg λam=>?_;refine bF (jQ p p p ⟨_,rfl,rfl⟩ p (c5 p (W _)) ?_);rintro _ _ ⟨rfl,rfl⟩;apply cV _;apply eO _;exact⟨af,0,af,0,[],rfl,rfl,Rd.nil _ _,Rd.nil _ _,bC _,bO _,bC _⟩
    .by_cases bq:v<b.cN
     .skip
      refine aD ?_;refine bd λai=>?_;apply bg λam=>?_;refine bF (jQ p p p ⟨_,rfl,rfl⟩ p (c5 p (W _)) ?_);rintro _ _ ⟨rfl,rfl⟩;apply cV _;apply eO _;exact⟨af,0,af,0,[],rfl,rfl,Rd.nil _ _,Rd.nil _ _,bC _,bO _,bC _⟩
     .skip
      refine aD ?_;refine bd λai=>?_;apply bg λam=>?_;refine bF (jQ p p p ⟨_,rfl,rfl⟩ p (c5 p (W _)) ?_);rintro _ _ ⟨rfl,rfl⟩;apply cV _;apply eO _;exact⟨af,0,af,0,[],rfl,rfl,Rd.nil _ _,Rd.nil _ _,bC _,bO _,bC _⟩
  .have aZ:(bm.node c q a E v D C).out b=al:=bo;have aq:(bm.node c q a E v D C).ids b=if(bm.node c q a E v D C).ins b then b5 (gj a.aQ (a.aQ.countP (fx b.c9)) (a.aQ.countP (fy b.cZ)))else[]:=a8 R;have ar:(bm.node c q a E v D C).dF b=if(bm.node c q a E v D C).ins b then[]else[D,C]:=a8 R;have bt:=R;simp only[bm.out,decide_eq_true_eq]at R;unfold vY;rw[aq,ar]
   by_cases O:(bm.node c q a E v D C).ins b=ag
   .rw[bJ O,bJ O,T9,aO];have aI:=O;simp only[bm.ins,decide_eq_true_eq]at O;generalize a.aQ.countP (fx b.c9)=ax at*
    generalize a.aQ.countP (fy b.cZ)=aF at*
    refine aD ?_;refine bd λai=>?_;apply bg λam=>?_;refine bF (jQ p p p ⟨_,rfl,rfl⟩ p (c5 p (W _)) ?_);rintro _ _ ⟨rfl,rfl⟩;apply cV _;apply ak _;apply fK (bE [0,1,2,3,4,5,6,7,8,10] (.e 9 (.e 11 (.q 12 (.q 13 (.q 14 .nil)))))) _;apply dV (b3 (aE H a3)) _;rintro _ _ ⟨bn,⟨aW,aH,aY,rfl,bh,bi,rfl,bj⟩,rfl⟩;apply cV _;apply dM (W _) _;apply eO _;exact⟨aW,aH,af,0,aY,rfl,rfl,bj,Rd.nil _ _,bh,bi,bC _⟩
   .rw[a8 O,a8 O];have aI:(bm.node c q a E v D C).ins b=al:=bo;let⟨a7,a9,bb⟩:=a4 aZ aI;have aT:=a7.ok.1;have aV:=a9.ok.1;have aJ:=λhigh=>QC (Nq b.c9) D.eC C.eC aT aV high;have aK:=λhigh=>QC (UG b.cZ) D.eC C.eC aT aV high;rw[<- bb]at aJ aK;simp only[bm.ins,decide_eq_true_eq]at O;have aA:=aM ag;have aB:=aM al;rw[aJ,aK]at aA aB;generalize a.aQ.countP (fx b.c9)=ax at*
    generalize a.aQ.countP (fy b.cZ)=aF at*
    have aS:∀(av:Nat) (M:Q),Rd (ah av 545 [.pointer D.Z,j (D.eC.aQ.countP (fx b.c9):Nat),j (D.eC.aQ.countP (fy b.cZ):Nat),.pointer C.Z,j (C.eC.aQ.countP (fx b.c9):Nat),j (C.eC.aQ.countP (fy b.cZ):Nat)]::M) (U av) 2 (hs b [D,C]):=λav M=>bf.ah p;refine aD ?_;refine bd λai=>?_;apply bg λam=>?_;refine bF (jQ p p p ⟨_,rfl,rfl⟩ p (c5 p (W _)) ?_);rintro _ _ ⟨rfl,rfl⟩;apply cV _;iterate 3 apply bu _
    refine jS 16 p (cw ad) ?_;iterate 7 apply bu _
    refine jS 23 p (cw ad) ?_;iterate 10 apply bu _
    refine jS 33 p (cw ad) ?_;iterate 10 apply bu _
    apply fO _;refine e9 p (cw ad) ?_
    by_cases br:b.cN<=E
    .apply bs _;refine pu (bE [0,1,2,3,4,5,6,7,8,9,10,11,12,13,14,15,16,17,18] .nil) cq cq ?_;apply ak _;apply fK (.q 0 (.q 2 (.e 1 (.e 3 (.q 5 (.q 6 (.e 4 (.q 7 .nil)))))))) _;apply dM (aB _ (bx h)) _;apply dM (aA _ (bx h)) _;apply bg λap=>?_;exact aR ⟨af,0,(U ap),2,[ah ap 545 [.pointer D.Z,j (D.eC.aQ.countP (fx b.c9):Nat),j (D.eC.aQ.countP (fy b.cZ):Nat),.pointer C.Z,j (C.eC.aQ.countP (fx b.c9):Nat),j (C.eC.aQ.countP (fy b.cZ):Nat)]],rfl,rfl,Rd.nil _ _,aS _ _,bC _,bO _,bC _⟩
    .apply bs _;refine pu (bE [0,1,2,3,4,5,6,7,8,9,10,11,12,13,14,15,16,17,18] .nil) cq cq ?_;apply ak _;apply fK (.q 0 (.q 2 (.e 1 (.e 3 (.q 5 (.q 6 (.e 4 (.q 7 .nil)))))))) _;apply dM (aB _ (bx h)) _;apply dM (aA _ (bx h)) _;apply bg λap=>?_;exact aR ⟨af,0,(U ap),2,[ah ap 545 [.pointer D.Z,j (D.eC.aQ.countP (fx b.c9):Nat),j (D.eC.aQ.countP (fy b.cZ):Nat),.pointer C.Z,j (C.eC.aQ.countP (fx b.c9):Nat),j (C.eC.aQ.countP (fy b.cZ):Nat)]],rfl,rfl,Rd.nil _ _,aS _ _,bC _,bO _,bC _⟩
def aeC(C b l D)(h:eB D C)(U:C.of l)(R:aa l<=100000):
  Y 652 #[.agg #[.pointer C.Z,j (C.eC.aQ.countP (fx b.c9):Nat),j (C.eC.aQ.countP (fy b.cZ):Nat)],.agg #[j b.cN,j b.cQ,j b.c9,j b.cZ]] D λaq I=>vY b C D aq I:=by
 refine aD ?_;refine bd λav=>?_;apply bP λax=>?_;apply aP (b3 (aeR C b l D h U R)) _;rintro _ _ ⟨ar,⟨E,O,H,Q,J,rfl,rfl,W,ah,ai,am,ap⟩,rfl⟩;apply eO _;exact⟨E,O,H,Q,J,rfl,rfl,W,ah,ai,am,ap⟩
end R.cY
namespace R.cY
def be(b:Nat)(H:Int)(l:List im):aG:=λh=>∃D:Option cg×Nat,(0<aa l->∃b,D.1=(U b))/\C [ah b 589 [.slice D.1 (aa l) D.2,j H],E 545 3 D.1 (aa l) D.2 (J l)] h
def va{s H l M D}(h:C (be s H l::M) D):∃A c,(0<aa l->∃b,A=(U b))/\aa l<=c/\c<=maxLen/\C (ah s 589 [.slice A (aa l) c,j H]::E 545 3 A (aa l) c (J l)::M) D:=by
 let⟨h1,ae,O,W,Y,⟨⟨A,c⟩,R,q⟩,Z⟩:=h;have I:=E.facts q.tail;exact⟨A,c,R,I.2.1,I.2.2.1,C.head (A:=λh=>h=h1) (λ_ Q=>Q▸q) ⟨h1,ae,O,W,Y,rfl,Z⟩⟩
def O.p8{D H args C b Q l W}
  (R:∀A c,(0<aa l->∃b,A=(U b))->aa l<=c->c<=maxLen->O D H args (ah b 589 [.slice A (aa l) c,j Q]::E 545 3 A (aa l) c (J l)::C) W):O D H args (be b Q l::C) W:=λg F Z I=>by
 let⟨A,c,h1,ae,an,Y⟩:=va I.s.swap;exact R A c h1 ae an g F Z ⟨I.g,Y.perm (fA (l₁:=[_,_]))⟩
def n1{D M b c A H l}(O:0<aa l->∃b,A=(U b))(I:aS D (ah b 589 [.slice A (aa l) c,j H]::E 545 3 A (aa l) c (J l)::M)):aS D (be b H l::M):=λh s=>
 C.fold (N:=[_,_]) (λh q=>⟨(A,c),O,q⟩) (I h s)
def aes{O b c Q j C D H I J R}(Y:aa (H::I::J::j::C::D::R)=c*3)(Z:2<=c)(ai:c<=maxLen):aS (ah b Q (j::C::D::H::I::J::R)::O) (E Q 3 (U b) 2 c [j,C,D,H,I,J]::O):=λh s=>by
 let⟨h1,ae,W,am,ap,q,aq⟩:=s;exact⟨h1,ae,W,am,ap,E.gP q Y Z ai,aq⟩
theorem ahx(j C D E H I J):eS (eS (j::C::D::E::H::I::J) (0+0*3) [E,H,I]) (0+1*3) [j,C,D]=E::H::I::j::C::D::J:=by
 rw[lh (j::C::D::E::H::I::J) _ _ ao,lh _ _ _ ao];rfl
attribute [local irreducible] C
@[reducible] def im.v (C:im):Value:=.agg #[.pointer C.T.Z,j (C.f:Nat),j (C.t:Nat)]
def sr{D}{c1 c2:bz}{E}{po_:List aG->Prop}[I:cu ar D](h:Y D (c1++[]++c2).toArray E λv C=>po_ C):
  Y 166 #[.func (.func D) c1.toArray c2.toArray] E λv C=>v=.tuple #[.agg #[j 0,j 0],.bool al]/\po_ C:=by
 refine bt ?_;refine bg λO=>?_;apply aP (b3 (B5 h)) _;rintro _ _ ⟨J,⟨rfl,H⟩,rfl⟩;apply eO _;exact⟨rfl,H⟩
def tY(C):Y 471 #[j 65536] C λv D=>∃b,v=.tuple #[I b,j 0]/\D=be b 65536 []::C:=by
 refine aD ?_;refine bg λH=>?_;apply bp (E.c7 545 3);exact aR ⟨H,rfl,rfl⟩ (by(repeat first|exact cf|apply n1 (A:=af) (c:=0) (l:=[]) db|apply ek _)<;>fail)
def m9(b l)(C:Q):aY 646 #[I b] (be b 65536 l::C) (j (aa l:Nat)) (be b 65536 l::C):=by
 apply O.p8 λA c h1 ae an=>?_;refine bt ?_;exact aR bD (by(repeat first|exact cf|apply n1 h1|apply ek _)<;>fail)
def AI(b)(A:a3)(c C)(h:aU C b 0 2 [.slice A 0 c,j 65536]):aY 657 #[I b] C (.tuple #[.agg #[.pointer af,j 0,j 0],.bool al]) C:=by
 have h1:=h.at_ (i:=0) p;refine aD ?_;refine bg λD=>?_;refine ba p (.cell p (eQ cA) (.tmp p .nil)) a1 bD
def AH(b)(A:a3)(n c l)(C:im)(D)(h:aU D b 0 2 [.slice A n c,j 65536])(O:Rd D A n (l++[C]))(ah:n=aa l+1)(W:n<=65536):Y 657 #[I b] D λv J=>v=.tuple #[C.v,.bool ag]/\J=D:=by
 have h1:a5 D ⟨b,0+0,af⟩ (.slice A n c):=h.at_ (i:=0) p;obtain⟨E,H,rfl,Q⟩:=O.at_ ad;have R:aU D E (H+aa l*3) 3 [.pointer C.T.Z,j (C.f:Nat),j (C.t:Nat)]:=Q (aa l) C ao;have ai:aU D E (H+(n-1)*3) 3 [.pointer C.T.Z,j (C.f:Nat),j (C.t:Nat)]:=by
  rw[show n-1=aa l by omega];exact R
 refine aD ?_;refine bg λU=>?_;refine ba p (.cell p (eQ cA) (.tmp p .nil)) a1 bD
def Al(b)(C:Q):aY 653 #[I b] (be b 65536 []::C) (.tuple #[.agg #[.pointer af,j 0,j 0],.bool al]) (be b 65536 []::C):=by
 apply O.p8 λA c h1 ae an=>?_;refine bt ?_;refine bg λD=>?_;apply a9 (AI b A c _ cA) _;apply eX _;exact⟨_,bD,(by(repeat first|exact cf|apply n1 h1|apply ek _)<;>fail)⟩
def Ak(b l j)(C:Q)(ah:aa l+1<=65536):Y 653 #[I b] (be b 65536 (l++[j])::C) λv H=>v=.tuple #[j.v,.bool ag]/\H=be b 65536 l::C:=by
 apply O.p8 λA c h1 ae an=>?_;have R:aa (l++[j])=aa l+1:=ao;obtain⟨D,rfl⟩:=h1 ao;generalize W:aa (l++[j])=n at*
 refine aD ?_;refine bP λZ=>?_;refine a9 (AH b (U D) n c l j _ cA (by repeat' first|exact bf.E (by rw[ck,W];rfl) (λ_ ↦ ⟨D,rfl⟩)|apply Rd.ap) R ad) ?_;refine eh p (kH p p aw) ?_;apply ak _;have J:n-1=aa l:=ad;rw[J];refine ba (C:=be b 65536 l::C) p (.cell p (eQ cA) ds) ?_ bD;apply cP;exact aN;refine n1 (c:=c) (λ_=>⟨D,rfl⟩) ?_;refine Cn (.ap .here) p ?_;refine Cs (.ap .here) ad ?_ (kG cf);rw[gS];exact List.take_left' (ck _)
def u1(b A C q l D j)(Q:Rd j A C D)(W:aa l+C<=65536):aY 524 #[I b,.slice A C q] (be b 65536 l::j) (.tuple #[]) (be b 65536 (l++D)::j):=by
 have Z:=Q.len bL;apply O.p8 λU c h1 ae an=>?_;refine cR ?_;refine ed (bE [0,1,2,3,4,5,6,7,8,9,10,11] (.q 12 .nil)) ?_;iterate 11 apply bu _
 refine fc p (zr p p ad) ?_;apply ak _;apply fz λR H Y ah E=>?_;have J:aa l+C=aa (l++D):=bo;rw[J]at E ⊢;refine er (C:=be b 65536 (l++D)::j) p .nil ?_ bD;apply cP;exact aN;apply n1 (c:=H) E;rw[gS];exact au
def Ao(E H b)(A:a3)(C q l D)(j:Q)(ae:a5 j ⟨E,0,af⟩ (I b))(an:a5 j ⟨H,0,af⟩ (.slice A C q))(U:Rd j A C D)(R:aa l+C<=65536):
  Y 523 #[I E,I H] (be b 65536 l::j) λv J=>J=be b 65536 (l++D)::j:=by
 refine bt ?_;refine a9 (O.pick aN (u1 b A C q l D _ (bx U) R)) ?_;exact er rfl .nil au p
def tW(b A C q l E D)(U:Rd D A C E)(R:aa l+C<=65536):aY 473 #[I b,.slice A C q] (be b 65536 l::D) (j 0) (be b 65536 (l++E)::D):=by
 refine aD λ{g F}=>?_;apply bd λH=>?_;apply bP λJ=>?_;refine a9 (O.pick aN (sr (c1:=[]) (c2:=[I H,I J]) (po_:=λQ=>Q=be b 65536 (l++E)::ah J 587 [.slice A C q]::ah H 541 [I b]::F::D) (Ao H J b A C q l E _ (a5.ap (a5.ah p)) (a5.ah p) (bx U) R))) ?_;apply bg λW=>?_;exact aR bD
def vU(A n c)(l:List im)(j)(H:Rd j A n l)(Z:n<=1000000):
  Y 654 #[.slice A n c] j λv I=>Made 545 l j v I:=by
 have h1:=H.len bL;refine AN ?_;refine eG p (λae=>?_) (λae=>?_)
 .have O:A=af:=bo;have an:n=0:=by
   rcases hh n with h|h
   .omega
   .obtain⟨b,o,O,_⟩:=H.at_ h;grind
  subst an;have:=gX h1;subst this;apply ak _;refine ba rfl ds ?_ ⟨af,0,rfl,db,rfl⟩;exact λh s=>(E.c7 545 3 h s).swap
 .apply ak _;apply bg λU=>?_;apply fz λC D Q W R=>?_;rw[h3]at Q R;apply bs _;refine ba (C:=E 545 3 C (aa l) D (J l)::j) p ds ?_ ⟨C,D,by rw[h1];simp[cs],by simp_all,rfl⟩;rw[h1,h3,oG];apply cP (.ap (.here));exact cP (.here) a1
def yB(A c)(l:List im)(I)(R:0<aa l->∃b,A=(U b))(ae:aa l<=2):
  aY 655 #[.slice A (aa l) c] (E 545 3 A (aa l) c (J l)::I) (.tuple #[]) (E 545 3 A (aa l) c (J l.reverse)::I):=by
 match l,ae,R with
 | [],_,R=>
  refine bt λ{g F}=>?_;apply cL (ι:=Unit) (λ_=>[(0,.slice A (aa ([]:List im)) c),(2,j 0),(3,j (-1))]) (λ_=>F::E 545 3 A (aa ([]:List im)) c (J ([]:List im))::I) (λ_=>True) (λ_=>0) () trivial aZ cf;intro _ _;apply ak _;exact er (C:=E 545 3 A (aa ([]:List im)) c (J ([]:List im).reverse)::I) p .nil cf bD
 | [D],_,R=>
  refine bt λ{g F}=>?_;apply cL (ι:=Unit) (λ_=>[(0,.slice A [D].length c),(2,j 0),(3,j 0)]) (λ_=>F::E 545 3 A [D].length c (J [D])::I) (λ_=>True) (λ_=>0) () trivial aZ cf;intro _ _;apply ak _;exact er (C:=E 545 3 A [D].length c (J [D].reverse)::I) p .nil cf bD
 | [D,y],_,R=>
  obtain⟨O,rfl⟩:=R ao;refine cR λ{g F}=>?_;apply bp (j:=E 545 3 (U O) 2 c [.pointer D.T.Z,j (D.f:Nat),j (D.t:Nat),.pointer y.T.Z,j (y.f:Nat),j (y.t:Nat)]::F::I) (λ_ s=>s.swap);refine qm (ι:=List a2) (F:=λH=>aa (Value.pointer D.T.Z::j (D.f:Nat)::j (D.t:Nat):: .pointer y.T.Z::j (y.f:Nat)::j (y.t:Nat)::H)=c*3/\2<=c/\c<=maxLen) (D:=λH=>[ah O 545 (.pointer D.T.Z::j (D.f:Nat)::j (D.t:Nat):: .pointer y.T.Z::j (y.f:Nat)::j (y.t:Nat)::H)]) (λh o=>by
   obtain⟨W,ai,av,ax⟩:=o.rX;have Y:W=.pointer D.T.Z::j (D.f:Nat)::j (D.t:Nat):: .pointer y.T.Z::j (y.f:Nat)::j (y.t:Nat)::W.drop 6:=by
    have:=kk 6 W;simp_all
   exact⟨W.drop 6,⟨by grind,o.le,o.cap⟩,C.one (Y▸ai)⟩) ?_
  rintro H ⟨am,ap,aq⟩;apply bp (j:=F::ah O 545 (.pointer D.T.Z::j (D.f:Nat)::j (D.t:Nat):: .pointer y.T.Z::j (y.f:Nat)::j (y.t:Nat)::H)::I) (λ_ s=>s.swap);apply ak _;refine cL (ι:=List a2×Nat×Nat) (λQ=>[(0,.slice (U O) 2 c),(2,j (Q.2.1:Nat)),(3,j (Q.2.2:Nat))]) (λQ=>F::ah O 545 Q.1::I) (λQ=>Q=(.pointer D.T.Z::j (D.f:Nat)::j (D.t:Nat):: .pointer y.T.Z::j (y.f:Nat)::j (y.t:Nat)::H,0,1)\/Q=(.pointer y.T.Z::j (y.f:Nat)::j (y.t:Nat):: .pointer D.T.Z::j (D.f:Nat)::j (D.t:Nat)::H,1,0)) (λQ=>Q.2.2) (.pointer D.T.Z::j (D.f:Nat)::j (D.t:Nat):: .pointer y.T.Z::j (y.f:Nat)::j (y.t:Nat)::H,0,1) (.inl p) aZ cf ?_;rintro Q (rfl|rfl)
  .dsimp only;have az:∀M,aU (ah O 545 (.pointer D.T.Z::j (D.f:Nat)::j (D.t:Nat):: .pointer y.T.Z::j (y.f:Nat)::j (y.t:Nat)::H)::M) O (0+0*3) 3 [.pointer D.T.Z,j (D.f:Nat),j (D.t:Nat)]:=λM=>aU.ah p;have ar:∀M,aU (ah O 545 (.pointer D.T.Z::j (D.f:Nat)::j (D.t:Nat):: .pointer y.T.Z::j (y.f:Nat)::j (y.t:Nat)::H)::M) O (0+1*3) 3 [.pointer y.T.Z,j (y.f:Nat),j (y.t:Nat)]:=λM=>aU.ah (by cases H<;>rfl);apply ak _;refine eh p (gh p (bx ar)) ?_;apply ak _;exact b7 (.pointer y.T.Z::j (y.f:Nat)::j (y.t:Nat):: .pointer D.T.Z::j (D.f:Nat)::j (D.t:Nat)::H,1,0) (.inr p) (Nat.zero_lt_one) aZ (by rw[ahx];exact au)
  .apply ak _;refine er (C:=E 545 3 (U O) 2 c [.pointer y.T.Z,j (y.f:Nat),j (y.t:Nat),.pointer D.T.Z,j (D.f:Nat),j (D.t:Nat)]::I) p .nil (k4 ?_) bD;exact aes am ap aq
def lG(j:bk)(C:TypeId):Bool:=match j.underlying C with
 |some (.func _ _ _)=>ag
 | _=>al
class kC (j:bk) (C:TypeId):Prop where
 h:lG j C=ag
def kC.spec{j C}(D:kC j C):∃a b c,j.underlying C=ab (.func a b c):=by
 have h:=D.h;unfold lG at h;split at h
 .exact⟨_,_,_,by assumption⟩
 .cases h
def wM{j O H}{U:Option Nat}{am C Q ai R W I y E a b}[J:kC j C](Z:aX H I=ab (.func E a b))(ah:aX H y=ab .nilFunc):bh j O H ⟨U,.binOp .eql C I y Q,am,ai,R,W⟩ (.bool al):=
 jU _ _ _ _ (λD=>by unfold eqGuard;split<;>rfl) Z ah λD=>by
  obtain⟨_,_,_,Y⟩:=J.spec;have ae:(eo C (.func E a b) .nilFunc).run j D=.ok al D:=by
   unfold eo;rw[show Op.maxDepth=9999+1 from rfl];unfold Op.equalIn;simp only[cM,run_underlying Y,dG];rfl
  show((do pure (.bool (<- eo C (.func E a b) .nilFunc)):Sem a2)).run j D= _;simp only[cM,ae,dG,Sem.run_pure]
instance:kC ar 664:=⟨cq⟩
structure h6 (S:Type)where
 V:S->aG
 ok:im->S->Prop
 kids:im->List im
 gl:im->S->S
 f:FuncId
 c1:List a2
 c2:List a2
 il:List im->S->Nat->Prop
structure h6.Good {S:Type} (j:h6 S) (J:Q):Prop where
 NI:cu ar j.f
 UL:∀(M:Q) (C:im) (D:S),(aS M J)->j.ok C D->Y j.f (j.c1++[C.v]++j.c2).toArray (j.V D::M) λv O=>∃A c H,v=.slice A (j.kids C).length c/\O=j.V (j.gl C D)::(H++M)/\Rd (j.V (j.gl C D)::(H++M)) A (j.kids C).length (j.kids C)
 next:∀(l:List im) (C:im) (D:S) (E:Nat),j.il (l++[C]) D E->∃I,E=I+1/\j.il (l++(j.kids C).reverse) (j.gl C D) I
 stop:∀(D:S) (E:Nat),j.il [] D E->E=0
 cap:∀(l:List im) (D:S) (E:Nat),j.il l D E->l.length<=60000/\∀C∈l,j.ok C D/\(j.kids C).length<=2
@[reducible] def e3 {S} (C:h6 S) (s n:Nat):List Value:=[I s,.func (.func C.f) C.c1.toArray C.c2.toArray,j (n:Nat)]
def AS{S}(D:h6 S)(j s n C):aY 651 #[I j] (ah j 667 (e3 D s n)::be s 65536 []::C) (.bool al) (ah j 667 (e3 D s n)::be s 65536 []::C):=by
 refine aD ?_;refine a9 (O.pick aN (Al s _)) ?_;apply bg λE=>?_;exact aR bD
def AR{S}(j H s n l C)(J:S)(D R)(Y:j.Good R)(aq:aS D R)(av:j.ok C J)(ar:aa (j.kids C)<=2)(aB:aa l<=60000)(aE:n<=1000000000000):
  aY 651 #[I H] (ah H 667 (e3 j s n)::be s 65536 (l++[C])::j.V J::D) (.bool ag) (ah H 667 (e3 j s (n+1))::be s 65536 (l++(j.kids C).reverse)::j.V (j.gl C J)::D):=by
 haveI:=Y.NI;refine aD λ{g F}=>?_;refine dQ (O.pick aN (Ak s l C _ ad)) ?_;apply bd λaA=>?_;apply fv _;apply ay _;apply ee _;apply ay _;refine a6 (gz p) ?_;apply ak _;refine bF (py cq p p p (f4 p p (O.pre (M:=j.V J::ah H 667 (e3 j s (n+1))::be s 65536 l::F::D) au (Y.UL (ah H 667 (e3 j s (n+1))::be s 65536 l::F::D) C J (λh ax=>aq h ax.tail.tail.tail) av))) ?_);rintro _ _ ⟨Z,ai,az,rfl,rfl,am⟩;refine dV (vU Z _ ai (j.kids C) _ am ad) ?_;rintro _ _ ⟨Q,U,rfl,W,rfl⟩;apply cV _;apply ak _;apply a9 (O.pick aN (yB Q U (j.kids C) _ W ar)) _;refine a9 (O.pick aN (u1 s Q _ U l (j.kids C).reverse _ (by repeat' first|exact bf.E (by rw[ck,Lp];rfl) W|apply Rd.ap) ad)) ?_;exact aR bD
def aiT{S}(C U R D s E H l)(av:S)(Q ap)(ai:C.Good ap)(aH:aS Q ap)(aG:C.il l av H)(aP:H<=100000000):
  Y 650 #[I U,I R] (ah U 665 [I D]::ah R 3 [j (E:Nat)]::ah D 667 (e3 C s 0)::be s 65536 l::C.V av::Q)
   λv aD=>∃az aB,C.il az aB (H-min E H)/\aD=ah U 665 [I D]::ah R 3 [j (E:Nat)]::ah D 667 (e3 C s (min E H))::be s 65536 az::C.V aB::Q:=by
 refine bt λ{g F}=>?_;apply cL (λ_=>[(0,.pointer _),(1,I R)]) (λy=>ah U 665 [I D]::ah R 3 [j (E:Nat)]::ah D 667 (e3 C s y.2.2)::be s 65536 y.1::C.V y.2.1::F::Q) (λy=>y.2.2<=E/\y.2.2<=H/\C.il y.1 y.2.1 (H-y.2.2)) (λy=>H-y.2.2) (l,av,0) ⟨bO _,bO _,aG⟩ aZ au;rintro⟨ar,W,J⟩ ⟨aE,aF,Z⟩;simp only at aE aF Z
 by_cases aO:J<E
 .rcases EV ar with h|⟨aA,am,h⟩
  .subst h;have aM:=ai.stop _ _ Z;apply ak _;refine bF (BD cq p p p ⟨_,rfl,rfl⟩ p (c5 p (O.pre (M:=ah D 667 (e3 C s J)::be s 65536 []::ah U 665 [I D]::ah R 3 [j (E:Nat)]::C.V W::F::Q) au (AS C D s J _))) ?_);rintro _ _ ⟨rfl,rfl⟩;apply ak _;have aq:min E H=J:=ad;refine er (C:=ah U 665 [I D]::ah R 3 [j (E:Nat)]::ah D 667 (e3 C s J)::be s 65536 []::C.V W::Q) p .nil au ?_;rw[aq];exact⟨[],W,Z,rfl⟩
  .rw[K5]at h;subst h;obtain⟨aI,aJ⟩:=ai.cap _ _ _ Z;obtain⟨aQ,aK,aL⟩:=ai.next _ _ _ _ Z
   have ax:=aJ am (b9.2 (.inr (oF.2 p)));rw[b4]at aI;apply ak _;refine bF (BD cq p p p ⟨_,rfl,rfl⟩ p (c5 p (b3 (AR C D s J aA am W Q ap ai aH ax.1 ax.2 ad ad))) ?_);rintro _ _ ⟨_,⟨rfl,rfl⟩,rfl⟩;apply ak _;exact b7 (aA++(C.kids am).reverse,C.gl am W,J+1) ⟨by assumption,by grind,by grind⟩ bv aZ au
 .apply ak _;have aq:min E H=J:=ad;refine er (C:=ah U 665 [I D]::ah R 3 [j (E:Nat)]::ah D 667 (e3 C s J)::be s 65536 ar::C.V W::Q) p .nil au ?_;rw[aq];exact⟨ar,W,Z,rfl⟩
def W5{S}(C:h6 S)(s H D l R E Q)(aq:C.Good Q)(ap:aS E Q)(ai:C.il l R D)(ar:D<=100000000):
  Y 648 #[I s,j (H:Nat),.func (.func C.f) C.c1.toArray C.c2.toArray] (be s 65536 l::C.V R::E)
   λv Z=>∃J O,v=.tuple #[j (min H D:Nat),j 0]/\C.il J O (D-min H D)/\Z=be s 65536 J::C.V O::E:=by
 refine aD ?_;refine AM λU=>?_;apply bd λah=>?_;apply bg λW=>?_;apply aP (b3 (sr (c1:=[]) (c2:=[I W,I U]) (aiT C W U ah s H D l R E Q aq ap ai ar))) _;rintro _ _ ⟨_,⟨rfl,J,O,am,rfl⟩,rfl⟩;apply ak _;apply bg λav=>?_;exact aR ⟨J,O,rfl,am,rfl⟩
end R.cY
namespace R.cY
def bm.cj:bm->Nat
 | .nil=>1
 | .node _ _ _ _ _ C j=>C.cj+j.cj+1
theorem eB.dF{D b C}(h:eB D C):∀y∈C.dF b,eB D y:=λy j=>by
 cases C with
 |nil=>simp[bm.dF]at j
 |node c q a I v H E=>
  unfold bm.dF at j;split at j
  .cases j
  .split at j
   .cases j
   .simp at j;rcases j with rfl|rfl
    .exact h.2.2.1
    .exact h.2.2.2
def bm.ew(j:bm):Prop:=∃l,j.of l/\d0 aj.less l
def bm.eF(j:bm):Nat:=aa j.eC.es
theorem Aj(b j):aa (hs b j)=aa j:=jM _
def bm.np(b:cS):bm->Nat
 | .nil=>1
 | .node c q a D v C j=>if(bm.node c q a D v C j).mid b then C.np b+j.np b+1 else 1
def fT(b:cS)(j:List bm):Nat:=(j.map (bm.np b)).sum
theorem HO(b j C):fT b (j++C)=fT b j+fT b C:=by unfold fT;rw[ez,List.sum_append_nat]
theorem QT(b j):fT b j.reverse=fT b j:=((List.reverse_perm j).map _).sum_nat
theorem bm.HR(b)(j:bm):j.np b=1+fT b (j.dF b):=by
 cases j with
 |nil=>simp[bm.np,bm.dF,bm.out,fT]
 |node c q a E v D C=>
  unfold bm.np bm.dF bm.mid
  by_cases h1:(bm.node c q a E v D C).out b=ag
  .simp[h1,fT]
  .by_cases ae:(bm.node c q a E v D C).ins b=ag
   .simp[h1,ae,fT]
   .simp[h1,ae,fT];omega
def HP(b):∀j:List bm,aa j<=fT b j
 | []=>bC _
 |x::j=>by
  have h1:=HP b j;have ae:=x.HR b;simp only[fT,fu,List.sum_cons,f0]at h1 ⊢;omega
theorem HQ(b):∀j:List bm,fT b j=aa j+fT b (qN b j)
 | []=>rfl
 |x::j=>by
  have h1:=HQ b j;have ae:=x.HR b;have an:fT b (qN b (x::j))=fT b (x.dF b)+fT b (qN b j):=by
   unfold qN;rw[yc,HO]
  have C:fT b (x::j)=x.np b+fT b j:=by simp[fT]
  rw[C,an,f0,ae,h1];omega
theorem lq.np(b):∀(k){j}{D},lq D j->(∀E∈j,E.iE<=k)->fT b j<=aa j+4*k
 |0,j,D,h,C=>by rw[HQ,ad1 b j C];simp[fT]
 |k+1,j,D,h,C=>by
  have h1:=(h.dF b).np b k (ad0 b j k C);have ae:=h.four (b:=b);rw[HQ];omega
theorem Pr(b j C):k7 b (j++C)=k7 b j++k7 b C:=by unfold k7;rw[List.flatMap_append]
theorem aeJ(b j):hs b j.reverse=(hs b j).reverse:=List.map_reverse
structure mE (b:cS) (I:List Int) (E:Q) (l:List im) (H:List Int) (C:Nat):Prop where
 e:∃j:List bm,l=hs b j/\C=fT b j/\(∀D∈j,eB E D/\∃l,D.of l/\l.length<=1000)/\H++k7 b j.reverse=I
 small:C<=60000
def aeK{b D l E}(h:l++[E]=hs b D):∃j y,D=j++[y]/\l=hs b j/\E=xC b y:=by
 rcases EV D with C|⟨j,y,C⟩
 .subst C;have:=congrArg aa h;simp[hs]at this
 .rw[K5]at C;subst C;rw[show hs b (j++[y])=hs b j++[xC b y]from ez]at h;have:=List.append_inj' h p;exact⟨j,y,rfl,this.1,by simpa using this.2⟩
theorem mE.next{b Y J l I H U}(h:mE b Y J (l++[I]) H U):
  ∃W,U=W+1/\mE b Y J (l++(hs b (I.T.dF b)).reverse) (H++I.T.ids b) W:=by
 let⟨aA,h1,ae,an,ai⟩:=h.e;have ax:=h.small;obtain⟨D,y,rfl,rfl,rfl⟩:=aeK h1;have av:fT b (D++[y])=fT b D+(1+fT b (y.dF b)):=by rw[HO,<- y.HR];simp[fT]
 let⟨aq,q,ar,az⟩:=an y (b9.2 (.inr (oF.2 p)));refine⟨fT b D+fT b (y.dF b),ad,⟨D++(y.dF b).reverse,?_,by rw[HO,QT],λah j=>?_,?_⟩,ad⟩
 .rw[<- aeJ];exact ez.symm
 .rcases b9.1 j with j|j
  .exact an ah (b9.2 (.inl j))
  .have j:=q4.1 j;refine⟨aq.dF ah j,?_⟩;cases y with
   |nil=>simp[bm.dF,bm.out]at j
   |node c R a Z v Q O=>
    by_cases C:(bm.node c R a Z v Q O).out b=ag
    .simp[bm.dF,C]at j
    by_cases E:(bm.node c R a Z v Q O).ins b=ag
    .simp[bm.dF,C,E]at j
    let⟨am,ap,_⟩:=bm.Rw ar (by simpa using C) (by simpa using E);simp[bm.dF,C,E]at j;rcases j with rfl|rfl
    .exact⟨_,am,by rw[oE];omega⟩
    .exact⟨_,ap,by rw[Lm];omega⟩
 .rw[<- ai,LA,LB,LA,List.reverse_singleton,Pr,Pr];have:k7 b [y]=y.fd b:=by simp[k7]
  rw[this,y.aar b];show H++y.ids b++ _= _;simp only[jm]
theorem mE.done{b I D l H j}(E:mE b I D l H j):(aa l:Int)=0<->j=0:=by
 obtain⟨C,rfl,ae,an,J⟩:=E.e;have O:=HP b C;rw[Aj];constructor
 .intro h;have:C=[]:=gX ad;subst this;rw[ae];rfl
 .intro h;omega
theorem mE.len{b C D l j H}(h:mE b C D l j H)(I:aa C<=1000000):aa j<=1000000:=by
 let⟨J,_,_,_,E⟩:=h.e;have:=congrArg aa E;rw[b4]at this;omega
theorem mE.cap{b J C l H I}(h:mE b J C l H I):aa l<=60000/\∀j∈l,(∃l,j=xC b j.T/\eB C j.T/\j.T.of l/\aa l<=1000)/\aa (hs b (j.T.dF b))<=2:=by
 obtain⟨U,rfl,ae,an,W⟩:=h.e;have Y:=HP b U;have Z:=h.small;refine⟨by rw[Aj];omega,λj D=>?_⟩;obtain⟨y,E,rfl⟩:=lm.1 D;let⟨O,q,Q,R⟩:=an y E;refine⟨⟨q,rfl,O,Q,R⟩,?_⟩;rw[Aj];show aa (y.dF b)<=2;rw[y.Rx];split<;>omega
def CF{E D W}{I:Option Nat}{R Q O H J U C}(Z:aX W U=ab (j C)):
  bh E D W ⟨I,.call ⟨.builtin .max,#[U,.const (j 0)],Q⟩,R,O,H,J⟩ (j (C.toNat:Nat)):=by
 have h:=wP (P:=E) (L:=D) (d:=I) (aO:=R) (J:=Q) (pos:=O) (aT:=H) (a7:=J) (y:=.const (.int _ 0)) Z p;have Y:max C 0=((C.toNat:Nat):Int):=ao;rwa[Y]at h
def hx(C:Bool)(j:List Int):List Int:=if C then j else[]
@[reducible] def r2 (s:Nat) (b:cS) (H:Bool) (A:a3) (E c C D:Nat):List Value:=[I s,j b.cN,j b.cQ,j b.c9,j b.cZ,.bool H,.slice A E c,j (C:Nat),j (D:Nat)]
def mm(a s:Nat)(b:cS)(D:Bool)(j:List Int)(H:Nat):aG:=λh=>∃y:Option cg×Nat,(0<aa (hx D j)->∃b,y.1=(U b))/\C [ah a 547 (r2 s b D y.1 (aa (hx D j)) y.2 (aa j) H),E 3 1 y.1 (aa (hx D j)) y.2 (J (hx D j))] h
def Td{a s I b D j M H}(h:C (mm a s b D j I::M) H):∃A c,(0<aa (hx D j)->∃b,A=(U b))/\aa (hx D j)<=c/\c<=maxLen/\C (ah a 547 (r2 s b D A (aa (hx D j)) c (aa j) I)::E 3 1 A (aa (hx D j)) c (J (hx D j))::M) H:=by
 let⟨h1,ae,Q,Y,Z,⟨⟨A,c⟩,W,q⟩,ai⟩:=h;have O:=E.facts q.tail;exact⟨A,c,W,O.2.1,O.2.2.1,C.head (λ_ R=>R▸q) ⟨h1,ae,Q,Y,Z,rfl,ai⟩⟩
def O.IZ{H I args D a s W b C j Y}
  (R:∀A c,(0<aa (hx C j)->∃b,A=(U b))->aa (hx C j)<=c->c<=maxLen->O H I args (ah a 547 (r2 s b C A (aa (hx C j)) c (aa j) W)::E 3 1 A (aa (hx C j)) c (J (hx C j))::D) Y):O H I args (mm a s b C j W::D) Y:=λg F ai Q=>by
 let⟨A,c,h1,ae,an,Z⟩:=Td Q.s.swap;exact R A c h1 ae an g F ai ⟨Q.g,Z.perm (fA (l₁:=[_,_]))⟩
def Fk{Q D g O H Y I a s W b C j}
  (h:∀A c,(0<aa (hx C j)->∃b,A=(U b))->aa (hx C j)<=c->c<=maxLen->G Q D g O H Y (ah a 547 (r2 s b C A (aa (hx C j)) c (aa j) W)::E 3 1 A (aa (hx C j)) c (J (hx C j))::I)):G Q D g O H Y (mm a s b C j W::I):=λa v ai R=>by
 let⟨A,c,h1,ae,an,Z⟩:=Td R.s;exact h A c h1 ae an a v ai ⟨R.g,Z⟩
def sT{H M a s c I A b D j}(Q:0<aa (hx D j)->∃b,A=(U b))(O:aS H (ah a 547 (r2 s b D A (aa (hx D j)) c (aa j) I)::E 3 1 A (aa (hx D j)) c (J (hx D j))::M)):aS H (mm a s b D j I::M):=λh R=>
 C.fold (N:=[_,_]) (λh q=>⟨(A,c),Q,q⟩) (O h R)
@[reducible] def Tf (a s:Nat) (b:cS) (J:Bool) (E:Nat) (H:List Int) (D:Q):h6 (List Int)where
 V:=λC=>mm a s b J C E
 ok:=λj C=>(∃l,j=xC b j.T/\eB D j.T/\j.T.of l/\aa l<=1000)/\aa C<=1000000
 kids:=λj=>hs b (j.T.dF b)
 gl:=λj C=>C++j.T.ids b
 f:=649
 c1:=[I a]
 c2:=[]
 il:=mE b H D
attribute [local irreducible] C bh b6
structure e6 (j:Q) (D:Nat) (C:bm) (A:a3) (c:Nat) (l:List aj):Prop where
 z:aU j D 0 2 [.pointer C.Z,.slice A l.length c]
 i:eB j C
 o:C.of l
 a:d0 aj.less l
 r:Rd j A l.length l
 c1:l.length<=c
 c2:c<=maxLen
theorem e6.ap{E j D C A c l}(h:e6 j D C A c l):e6 (E::j) D C A c l:=⟨h.z.ap,h.i.ap,h.o,h.a,h.r.ap,h.c1,h.c2⟩
theorem e6.ew{C D j A c l}(h:e6 C D j A c l):j.ew:=⟨l,h.o,h.a⟩
def Ws(j C):aY 571 #[j.v] C (.bool (!fe j)) C:=by
 refine aD ?_;refine bP λD=>?_;refine f1 p (yA j _) ?_;exact a6 (gz p) fG
def adS(l):d0 aj.less (bw aj.less l)<->l.Nodup:=
 ⟨λh=>(f8 l).nodup_iff.1 (h.nodup hu),λh=>Eo hu h⟩
def uI(l:List aj):Int:=if ∀j∈l,fe j=ag then(if l.Nodup then 0 else 5)else 1
def FB(A n c l H)(aq:Rd H A n l)(a0:n<=100000)(aK:n<=c)(aX:uI l=0):
  Y 545 #[.slice A n c] H λv O=>∃aE Q aF aH av,v=.tuple #[I aE,j 0]/\O=av++H/\e6 (av++H) aE Q aF aH (bw aj.less l):=by
 have h1:aa l=n:=aq.len bL;have aZ:∀aT∈l,fe aT=ag:=by
  grind[uI]
 have aL:l.Nodup:=by
  simp_all[uI]
 have az:=(adS l).2 aL;have aA:=λM (h:Rd M A n l)=>Vj _ [] [] _ A n c l M h ad (λa=>Ws a M);rw[show(l.any _)=al by simp_all]at aA;have W:aa (bw aj.less l)=n:=by rw[gV,h1]
 have aQ:Y 572 #[.slice A n c,.func (.func 311) #[] #[]] H λv O=>∃C D,v=.slice C n D/\(0<n->∃b,C=(U b))/\n<=D/\D<=maxLen/\O=E 42 3 C n D (J (bw aj.less l))::H:=by
  have:=(tZ hu rN A n c l H aq ad aK).made;unfold Bx at this;rw[W]at this;exact this
 refine aD ?_;refine dQ (aA _ aq.ap) ?_;apply aP (b3 aQ) _;rintro _ _ ⟨aG,⟨C,D,rfl,aI,aR,aB,rfl⟩,rfl⟩;apply dl _;have ar:∀O,Rd (E 42 3 C n D (J (bw aj.less l))::O) C n (bw aj.less l):=λO=>bf.E (by rw[ck,W];rfl) aI;apply aC _;refine aP (W4 rN hu C n D (bw aj.less l) _ (bx ar) ad) ?_;rintro _ _ ⟨a3,aM,R,aW,rfl,aY,rfl⟩;apply ak _;have aO:=aM.elim (λh=>h.2) (λh=>absurd az h.1);subst aO;rw[W];apply bs _;refine e9 p (cw ao) ?_;have aJ:=sL n C n D (bw aj.less l) (E 42 3 C n D (J (bw aj.less l))::H) (bC _) (ar H) ad aR aB;apply aC _;apply aP (b3 aJ) _;rintro _ _ ⟨aG,⟨Q,am,rfl,aS,rfl,aV⟩,rfl⟩;apply ak _;apply bg λai=>?_;have ax:ah ai 405 [.pointer Q.Z,.slice C n D]::(am++E 42 3 C n D (J (bw aj.less l))::H)=(ah ai 405 [.pointer Q.Z,.slice C n D]::(am++[E 42 3 C n D (J (bw aj.less l))]))++H:=ao;refine ba (C:=ah ai 405 [.pointer Q.Z,.slice C n D]::(am++E 42 3 C n D (J (bw aj.less l))::H)) p (.tmp p ds) au ⟨ai,Q,C,D,_,rfl,ax,?_⟩;rw[<- ax];exact⟨by rw[W];exact aU.ah p,aV.ap,aS,az,by rw[W];exact Rd.ap (Rd.ev (ar H)),ad,aB⟩
section
variable{t:Nat}{T:bm}{A:a3}{c:Nat}{l:List aj}{L:Q}(h:e6 L t T A c l)
include h
theorem Uu:aY 309 #[I t] L (.slice A (aa l) c) L:=by
 have j:=h.z.at_ (i:=1) p;refine bt ?_;exact c8
theorem ahH:aY 239 #[I t] L (j (aa l:Nat)) L:=by
 refine aD ?_;refine a9 (Uu h.ap) ?_;exact c8
theorem ahL(H:aa l<=1000000):Y 241 #[I t] L λv C=>Made 42 l L v C:=by
 refine aD ?_;refine a9 (Uu h.ap) ?_;apply aP (nT A _ c l _ h.r.ap H) _;rintro _ _ ⟨j,D,rfl,E,rfl⟩;apply ak _;exact aR ⟨j,D,rfl,E,rfl⟩
def gy(b:cS)(T:bm):bm:=if b.c9<=b.cZ then T else .nil
theorem ah5(b):aY 525 #[I t,.agg #[j b.cN,j b.cQ,j b.c9,j b.cZ]] L (.agg #[.pointer (gy b T).Z,j ((gy b T).eC.aQ.countP (fx b.c9):Nat),j ((gy b T).eC.aQ.countP (fy b.cZ):Nat)]) L:=by
 have ai:a5 L ⟨t,0+0,af⟩ (.pointer T.Z):=h.z.at_ (i:=0) p;have E:=h.i;have W:=h.o.ok.1;cases U:T with
 |nil=>
  have ah:gy b bm.nil=.nil:=by simp[gy]
  rw[ah];subst U;refine aD ?_;refine bd λO=>?_;apply bg λR=>?_;refine ba p (.cell p (eQ cA) .nil) a1 bD
 |node C q a J v H D=>
  subst U;have am:=ai;have aq:=E.1.at_ (i:=0) p
  by_cases Y:b.c9<=b.cZ
  .rw[show gy b (bm.node C q a J v H D)=bm.node C q a J v H D from bJ Y];refine aD ?_;refine bd λO=>?_;apply bg λR=>?_;apply fK (bE [0,1,2,3,4,5,6,7,8,9,10,11,12,14,15,16,17,18,19,20,21,22] (.e 13 (.e 23 (.q 24 (.e 25 .nil))))) _;refine dM (WC q a b.c9 _ (by repeat' first|exact E.2.1|apply gI.ap) W) ?_;refine dM (WB q a b.cZ _ (by repeat' first|exact E.2.1|apply gI.ap) W) ?_;refine ba p (.cell p (eQ cA) .nil) a1 bD
  .rw[show gy b (bm.node C q a J v H D)=.nil from a8 Y];refine aD ?_;refine bd λO=>?_;apply bg λR=>?_;refine ba p (.cell p (eQ cA) .nil) a1 bD
end
def qH(b:cS)(l:List aj):List Int:=b5 ((l.filter (fD b)).map (·.id))
def XC{b C l}(o:C.of l)(a:d0 aj.less l):b5 ((gy b C).fd b)=qH b l:=by
 unfold qH gy
 by_cases j:b.c9<=b.cZ
 .rw[bJ j];exact JO (o.GT j a)
 .rw[a8 j];have:l.filter (fD b)=[]:=EY.2 λD _=>by unfold fD cS.has qc;grind
  rw[this];rfl
def XD{b j}(h:j.ew):(gy b j).ew/\(gy b j).eF<=j.eF/\(b.c9<=b.cZ\/gy b j=.nil):=by
 unfold gy
 by_cases C:b.c9<=b.cZ
 .simp_all
 .rw[a8 C];exact⟨⟨[],rfl,.nil⟩,bO _,.inr p⟩
def XE{b C j}(h:eB j C):eB j (gy b C):=by
 unfold gy;split
 .exact h
 .trivial
section
variable{t:Nat}{T:bm}{A:a3}{c:Nat}{l:List aj}{L:Q}(h:e6 L t T A c l)
include h
theorem ahz(b):aY 474 #[I t,.agg #[j b.cN,j b.cQ,j b.c9,j b.cZ]] L (.agg #[.pointer (gy b T).Z,j ((gy b T).eC.aQ.countP (fx b.c9):Nat),j ((gy b T).eC.aQ.countP (fy b.cZ):Nat)]) L:=by
 refine aD ?_;refine bd λC=>?_;apply bP λD=>?_;apply a9 (ah5 (bx h) b) _;refine ba p (.cell p (eQ cA) .nil) a1 bD
end
def _root_.Go.Proofs.YteinodmjohkmmaaGreat.gI.mono{L M:Q}(j:aS M L):∀{D}{C:a3},gI L C D->gI M C D
 | .nil,_,h=>h
 | .node U Y W,_,⟨b,A,c,R,O,E,h1,ae,an,H,I,J⟩=>⟨b,A,c,R,O,E,h1.mono j,ae.mono j,an,H,I.mono j,J.mono j⟩
def eB.mono{L M:Q}(j:aS M L):∀{C},eB L C->eB M C
 | .nil,_=>trivial
 | .node b q a I v H E,⟨h1,ae,an,D⟩=>⟨h1.mono j,ae.mono j,an.mono j,D.mono j⟩
def ab1(j a):aa (hx j a)<=aa a:=by cases j<;>simp[hx]
def afJ(a s J b Q C j l D)(aI:eB D j)(ar:j.of l)(aZ:aa l<=1000)(aV:aa C<=1000000):
  Y 649 #[I a,(xC b j).v] (mm a s b Q C J::D) λaO az=>∃A c aq,aO=.slice A (aa (hs b (j.dF b))) c/\az=mm a s b Q (C++j.ids b) J::(aq++D)/\Rd (mm a s b Q (C++j.ids b) J::(aq++D)) A (aa (hs b (j.dF b))) (hs b (j.dF b)):=by
 have U:=aeC j b l D aI ar ad;have aW:aa (j.ids b)<=1000:=by
  have h1:aa (j.ids b)<=j.eC.aQ.countP (fy b.cZ)-j.eC.aQ.countP (fx b.c9):=by
   unfold bm.ids;split
   .exact bO _
   .split
    .rw[T9,PX _ qi];exact bC _
    .exact bO _
  have ae:j.eC.aQ.countP (fy b.cZ)<=aa j.eC.aQ:=qi;have an:aa j.eC.aQ=aa j.eC.es:=jM _;have aP:=ar.len;omega
 unfold vY at U;have aH:aa (j.dF b)=aa (hs b (j.dF b)):=(Aj _ _).symm;rw[aH]at U;apply O.IZ λA c aF aR aS=>?_;generalize hs b (j.dF b)=a0 at*
 generalize j.ids b=E at*
 have ai:aa (C++E)=aa C+aa E:=b4;have aX:=ab1 Q C;cases Q with
 |true=>
  have ah:hx ag C=C:=rfl;have R:hx ag (C++E)=C++E:=rfl;rw[ah]at*
  refine bt ?_;refine bg λaB=>?_;apply dV (b3 U) _;rintro _ _ ⟨aA,⟨av,aD,W,Z,H,rfl,rfl,aJ,am,aK,aL,aM⟩,rfl⟩;apply cV _;apply ak _;apply fz λax aE aT aY aG=>?_;refine ba (C:=mm a s b ag (C++E) J::(H++D)) p ds ?_ ⟨W,Z,H,rfl,rfl,am.ap⟩;apply cP;exact aN;refine sT (c:=aE) (A:=ax) (by rw[R,ai];exact aG) ?_;rw[R,ai,gS];exact au
 |false=>
  have ah:hx al C=[]:=rfl;have R:hx al (C++E)=[]:=rfl;rw[ah]at*
  refine bt ?_;refine bg λaB=>?_;apply dV (b3 U) _;rintro _ _ ⟨aA,⟨av,aD,W,Z,H,rfl,rfl,aJ,am,aK,aL,aM⟩,rfl⟩;apply cV _;apply ak _;refine ba (C:=mm a s b al (C++E) J::(H++D)) p ds ?_ ⟨W,Z,H,rfl,rfl,am.ap⟩;apply cP;exact aN;refine sT (c:=c) (A:=A) aF ?_;rw[R,ai];exact au
def afI(a s b O H J E)(Y:aa J<=1000000):(Tf a s b O H J E).Good E where
 NI:=inferInstanceAs (cu ar 649)
 UL:=λM j D W C=>by
  obtain⟨⟨l,Q,h1,ae,an⟩,R⟩:=C;have U:eB M j.T:=h1.mono W;have:=afJ a s H b O D j.T l M U ae an R;rw[<- Q]at this;exact this
 next:=λl j D I h=>h.next
 stop:=λD I h=>(h.done).1 p
 cap:=λl D I h=>by
  obtain⟨h1,ae⟩:=h.cap;exact⟨h1,λj C=>⟨⟨(ae j C).1,h.len Y⟩,(ae j C).2⟩⟩
def ku(a:Nat)(b:cS)(I:Bool)(H:List Int)(j:Q)(E D:Nat):aG:=λh=>∃y:Nat×List im×List Int,mE b H j y.2.1 y.2.2 E/\C [mm a y.1 b I y.2.2 D,be y.1 65536 y.2.1] h
theorem O.ku{J:bk}{U:FuncId}{args:Array a2}{I j:Q}{a D C:Nat}{b:cS}{H:Bool}{E:List Int}{W:a2->List aG->Prop}
  (R:∀s l Y,mE b E j l Y D->O J U args (mm a s b H Y C::be s 65536 l::I) W):O J U args (ku a b H E j D C::I) W:=
 O.open (ι:=Nat×List im×List Int) (D:=λy=>mE b E j y.2.1 y.2.2 D) (E:=λy=>[mm a y.1 b H y.2.2 C,be y.1 65536 y.2.1]) (λ_ h=>h) λy Z=>R y.1 y.2.1 y.2.2 Z
def Cu{D M E a s I H b O J l j}(R:mE b J E l j I)(Q:aS D (mm a s b O j H::be s 65536 l::M)):aS D (ku a b O J E I H::M):=λh U=>
 C.fold (N:=[_,_]) (λh q=>⟨(s,l,j),R,q⟩) (Q h U)
structure gg where
 t:Nat
 T:bm
 A:Option cg
 c:Nat
 l:List aj
instance ajj:d3 gg:=⟨1,λj=>[I j.t],λ_=>rfl,λ_ v h=>by simp at h;subst h;rfl⟩
def gg.at_(C:Q)(j:gg):Prop:=e6 C j.t j.T j.A j.c j.l
def e6.mono{L M}(j:aS M L){D C A c l}(h:e6 L D C A c l):e6 M D C A c l:=⟨h.z.mono j,h.i.mono j,h.o,h.a,h.r.mono j,h.c1,h.c2⟩
def g9(b:cS)(j:List gg):List bm:=j.map λC=>gy b C.T
def Vb(A n c j):Y 472 #[.slice A n c] j λv C=>∃b,v=.func (.func 522) #[] #[I b]/\C=ah b 244 [.slice A n c]::j:=by
 refine aD ?_;refine bg λD=>?_;exact aR ⟨D,rfl,rfl⟩
def XU(y b A n c)(E:List gg)(D:Nat->List aG)(Q:∀C,C<=n->Rd (D C) A n E)(aF:n<=1000000)
  (ax:∀C W,E.reverse[C]?=ab W->iP ar y [j ((n-1-C:Nat):Int),I W.t] (D C) λq J=>q=ag/\J=D (C+1)):
  aY 522 #[Value.func (.yield y) #[] #[],I b] (ah b 244 [.slice A n c]::D 0) (.tuple #[]) (ah b 244 [.slice A n c]::D n):=by
 have aE:aa E=n:=(Q 0 (bO _)).len bL;refine bt λ{g F}=>?_;refine cL (λC=>[(0,Value.func _ _ _),(1,.pointer _),(3,j ((n:Int)-1-(C:Nat)))]) (λC=>F::ah b 244 [.slice A n c]::D C) (λC=>C<=n) (λC=>n-C) 0 (bO _) ⟨rfl,rfl,by rw[show(n:Int)-1-((0:Nat):Int)=(n:Int)-1 by simp];rfl,trivial⟩ a1 ?_;intro C am;apply ak _
 by_cases aD:C<n
 .obtain⟨Z,az,rfl,aA⟩:=(Q C am).at_ ad;have O:E.reverse[C]?=ab (E.reverse[C]'bo):=b8 _;generalize E.reverse[C]'bo=U at O;have ap:E[n-1-C]?=ab U:=by
   grind
  have Y:=(aA _ _ ap).at_ (i:=0) p;have R:=ax C U O;obtain⟨H,aq⟩:∃H,n-1-C=H:=⟨_,rfl⟩;have av:(n:Int)-1-(C:Nat)=(H:Nat):=ad;rw[aq]at Y R;rw[av];have aH:=Y;apply ak _;refine vN p p p (iP.frame [F,ah b 244 [.slice (ab ⟨Z,az,af⟩) n c]] R cT) ?_;rintro q J ⟨aB,⟨rfl,rfl⟩,rfl⟩;refine a6 (gz p) ?_;apply ak _;exact b7 (C+1) ad ad ⟨rfl,rfl,by rw[show(n:Int)-1-((C+1:Nat):Int)=(H:Int)-1 by omega];rfl,trivial⟩ a1
 .have ai:C=n:=ad;subst ai;apply ak _;exact er (D:=[]) (j:=[]) (C:=ah b 244 [.slice A C c]::D C) p .nil a1 bD
def XI{b}{C:List gg}{j D}(h:C.reverse[j]?=ab D):g9 b (C.reverse.take (j+1))=g9 b (C.reverse.take j)++[gy b D.T]:=by simp_all[g9,List.take_add_one]
def afF(b A n c D R)(H:Q)(am:Q)(aT:aS H am)(aF:Rd H A n D)(bl:n<=1000)(ax:∀C∈D,C.at_ am)(h1:∀C∈D,aa C.l<=1000)(a0:fT b (g9 b D)<=60000):
  Y 431 #[.agg #[j b.cN,j b.cQ,j b.c9,j b.cZ],.slice A n c,.bool R] H λv aD=>∃a,v=(I a)/\aD=ku a b R (k7 b (g9 b D)) am (fT b (g9 b D)) 0::H:=by
 have bj:aa D=n:=aF.len bL;refine vI Tryz.func431 p p p ?_;intro g F aE;apply bQ _;apply bP λar=>?_;apply aP (tY _) _;rintro _ _ ⟨s,rfl,rfl⟩;apply ak _;apply bP λav=>?_;apply bP λW=>?_;apply aP (Vb A n c _) _;rintro _ _ ⟨aK,rfl,rfl⟩;apply ak _;refine VN (Y:=λa9 az=>a9=af/\az=be s 65536 (hs b (g9 b D.reverse))::ah W 547 (r2 s b R af 0 0 0 0)::F::H) (by rw[<- aE];rfl) p p p ?_ ?_ ?_
 .intro y aq aI aV;have a4:=XU y aK A n c D (λJ=>bR y (aI .ready af)::bR aq (.deferred (ab []))::be s 65536 (hs b (g9 b (D.reverse.take J)))::ah av 541 [I s]::ah ar 48 [j b.cN,j b.cQ,j b.c9,j b.cZ]::ah W 547 (r2 s b R af 0 0 0 0)::F::H)
   (λJ _=>aF.ap.ap.ap.ap.ap.ap.ap) ad ?_
  .apply(O.pre au a4).cr;rintro v aD aX ⟨rfl,rfl⟩ a3;refine⟨_,⟨.ready,af,_,ao,bD,rfl⟩,?_⟩;rw[lR bo]at a3;revert aX;exact au
  .intro J C ai;have a7:C∈D:=q4.1 (List.mem_of_getElem? ai);have bi:J<n:=by
    grind
   have aM:=XI (b:=b) ai;have bn:e6 H C.t C.T C.A C.c C.l:=e6.mono aT (ax C a7);apply aV (ι:=Unit) (τ:=λ_=>[(3,I ar),(7,I av),(9,I W),(11,I C.t)]) (M:=λ_=>bR aq (.deferred (ab []))::be s 65536 (hs b (g9 b (D.reverse.take J)))::ah av 541 [I s]::ah ar 48 [j b.cN,j b.cQ,j b.c9,j b.cZ]::ah W 547 (r2 s b R af 0 0 0 0)::F::H) (Fy:=λ_=>True) _ _
   .intro g aH _ _;apply ak _;exact vR () trivial aZ a1
   .intro g aH _ _ _ _;have bm:aa (hs b (g9 b (D.reverse.take J)))=J:=by
     grind[Aj,g9,jM,oE,Lp]
    have aW:=λM h=>ahz (L:=M) (t:=C.t) (T:=C.T) (A:=C.A) (c:=C.c) (l:=C.l) h b;have aY:∀(aA:Nat) (M:Q),Rd (ah aA 545 [.pointer (gy b C.T).Z,j ((gy b C.T).eC.aQ.countP (fx b.c9):Nat),j ((gy b C.T).eC.aQ.countP (fy b.cZ):Nat)]::M) (U aA) 1 (hs b [gy b C.T]):=λaA M=>bf.ah p;rw[aM,show hs b (g9 b (D.reverse.take J)++[gy b C.T])=hs b (g9 b (D.reverse.take J))++hs b [gy b C.T]from ez];generalize gy b C.T=aB at*
    generalize hs b (g9 b (D.reverse.take J))=aG at*
    apply ak _;refine qq ki p p p p (fC p ec) ?_;refine mC ki p p p p (l5 p) ?_;refine qq ki p p p p (gh p cA) ?_;refine dM (aW _ (by grind[e6.ap])) ?_;apply h5 λaJ=>?_;refine qb (O.pick aN (tW s (U aJ) 1 1 aG (hs b [aB]) _ (bx aY) ad)) ?_;rintro _ _ ⟨rfl,rfl⟩;exact bs (vQ (bR aq (.deferred (ab []))::be s 65536 (aG++hs b [aB])::ah av 541 [I s]::ah ar 48 [j b.cN,j b.cQ,j b.c9,j b.cZ]::ah W 547 (r2 s b R af 0 0 0 0)::F::H) bD au)
 .rintro aq az ⟨-,rfl⟩;apply ak _;have aL:(g9 b D.reverse).reverse=g9 b D:=by simp[g9,LB]
  have aR:mE b (k7 b (g9 b D)) am (hs b (g9 b D.reverse)) [] (fT b (g9 b D)):=⟨⟨g9 b D.reverse,rfl,by rw[<- aL,QT],λaB a8=>by
   obtain⟨C,ai,rfl⟩:=lm.1 a8;have ai:=q4.1 ai;let⟨⟨q,o,_⟩,bb,ar⟩:=XD (b:=b) (ax C ai).ew;refine⟨XE (ax C ai).i,q,o,?_⟩;have bg:(gy b C.T).eF=aa q:=o.len;have bh:C.T.eF=aa C.l:=(ax C ai).o.len;grind,by simp_all⟩,a0⟩
  apply bp (E.c7 3 1);refine vP [aq] rfl (by rw[<- aE];rfl) p ds (M:=ku W b R (k7 b (g9 b D)) am (fT b (g9 b D)) 0::F::H) (j:=ku W b R (k7 b (g9 b D)) am (fT b (g9 b D)) 0::H) ?_ au ⟨W,rfl,rfl⟩;apply cP;exact aN;apply Cu (s:=s) aR;have aO:hx R []=[]:=by cases R<;>rfl
  apply sT (c:=0) (A:=af) (λh=>absurd h bo);rw[aO];exact au
 .rintro aq bc az ⟨h,_⟩;cases h
def afC(b A n c C D E)(O:aS D E)(R:Rd D A n C)(Q:n<=1000)(W:∀H∈C,H.at_ E)(h1:∀H∈C,aa H.l<=1000)(U:fT b (g9 b C)<=60000):
  Y 387 #[.agg #[j b.cN,j b.cQ,j b.c9,j b.cZ],.slice A n c] D λv J=>∃a,v=(I a)/\J=ku a b al (k7 b (g9 b C)) E (fT b (g9 b C)) 0::D:=by
 refine aD ?_;refine bP λZ=>?_;apply aP (b3 (afF b A n c C _ D E O R Q W h1 U)) _;rintro _ _ ⟨_,⟨a,rfl,rfl⟩,rfl⟩;apply ak _;exact aR ⟨a,rfl,rfl⟩
def afE(a C D b J Q H E n)(az:aS E H)(aA:aa Q<=1000000)(aM:D<=1000000000):
  Y 644 #[I a,j n] (ku a b J Q H C D::E) λaD ai=>aD=.tuple #[j (min n.toNat C:Nat),.bool (decide (C-min n.toNat C=0))]/\ai=ku a b J Q H (C-min n.toNat C) (D+min n.toNat C)::E:=by
 apply O.ku λs l aB W=>?_;have aO:=W.small;refine cR λ{g F}=>?_;apply bQ _;iterate 2 apply ay _
 apply ee _;iterate 2 apply ay _
 apply hl _;apply pb [1,1] _;apply Fk λA c aq aG aI=>?_;apply bQ _;iterate 5 apply ay _
 refine a6 (CF p) ?_;apply ak _;refine aP (O.pre (dp (sT aq)) (W5 (Tf a s b J D Q H) s n.toNat C l aB (F::E) H (afI a s b J D Q H aA) (λh U=>az h U.tail) W ad)) ?_;rintro _ _ ⟨R,ah,rfl,ax,rfl⟩;apply dl _;apply bp (j:=mm a s b J ah D::be s 65536 R::F::E) (λ_ U=>U.swap);apply Fk λaE am ar aH aJ=>?_;apply bQ _;iterate 8 apply ay _
 apply fv _;apply cc;apply bp (j:=mm a s b J ah (D+min n.toNat C)::be s 65536 R::F::E) (dp (sT (c:=am) ar));have Z:=ax;apply Fk λaF ap av aK aL=>?_;apply aC _;apply a9 (O.pick aN (m9 s R _)) _;rw[decide_eq_decide.2 Z.done];refine ba (C:=ku a b J Q H (C-min n.toNat C) (D+min n.toNat C)::E) p (.tmp p ds) ?_ bD;apply cP;exact aN;exact Cu (s:=s) Z (dp (sT (c:=ap) av))
def afD(a j E b J H D C):Y 641 #[I a] (ku a b J H D j E::C) λW R=>W=.bool (decide (j=0))/\R=ku a b J H D j E::C:=by
 apply O.ku λs l ai Q=>?_;apply O.IZ λA c U Z ah=>?_;refine bt ?_;refine a9 (O.pick aN (m9 s l _)) ?_;rw[decide_eq_decide.2 Q.done];refine ba (C:=ku a b J H D j E::C) p ds ?_ bD;apply cP;exact aN;exact Cu (s:=s) Q (dp (sT (c:=c) U))
@[reducible] def z5:Option gg->Option Addr
 |none=>af
 |some j=>(U j.t)
instance ajg:d3 (Option gg):=⟨1,λo=>[.pointer (z5 o)],λ_=>rfl,λ_ v h=>by simp at h;subst h;rfl⟩
def opts:Option gg->List aj
 |none=>[]
 |some j=>j.l
def ji(C:Q)(o:Option gg):Prop:=∀j,o=ab j->j.at_ C
theorem ji.ap{C j o}(h:ji j o):ji (C::j) o:=λE D=>(h E D).ap
def ai9(j):aY 309 #[.pointer af] j (.slice af 0 0) j:=by
 refine bt ?_;exact c8
def RK(o C)(h:ji C o):aY 239 #[.pointer (z5 o)] C (j (aa (opts o):Nat)) C:=by
 cases o with
 |none=>
  refine bt ?_;refine a9 (ai9 _) ?_;exact c8
 |some D=>exact ahH (h D p)
def hy(j:List (Option gg)):List gg:=(j.filterMap id).filter λC=>decide (0<aa C.l)
def acQ(C:List (Option gg))(o:Option gg):hy (C++[o])=hy C++(match o with|none=>[]|some j=>if 0<aa j.l then[j]else[]):=by
 unfold hy;rw[List.filterMap_append,vy]
 congr 1
 cases o with
 |none=>rfl
 |some j=>
  simp only[List.filterMap_cons,id,List.filterMap_nil,List.filter_cons,List.filter_nil,decide_eq_true_eq]
def acC(s b n c A aV az aH D H)(h:aU H s 0 5 (iZ A n c b (aH:Nat) aV az))(ar:Rd H A n D)(aP:∀o∈D,ji H o)(a7:n<=100000):
  Y 432 #[I s] H λv ax=>Made 353 (hy D) H v ax:=by
 have a4:a5 H ⟨s,0+0,af⟩ (.slice A n c):=h.at_ (i:=0) p;have aL:aa D=n:=ar.len bL;refine bt λ{g F}=>?_;apply bp (E.c7 353 1);refine cL (ι:=Nat×Option cg×Nat×List gg) (λy=>[(0,I s),(3,.slice y.2.1 y.2.2.2.length y.2.2.1),(11,.slice A n c),(12,j (n:Nat)),(13,j (y.1:Nat))]) (λy=>E 353 1 y.2.1 y.2.2.2.length y.2.2.1 (J y.2.2.2)::F::H)
  (λy=>y.1<=n/\y.2.2.2=hy (D.take y.1)/\y.2.2.2.length<=y.1/\(0<y.2.2.2.length->∃b,y.2.1=(U b))/\y.2.2.2.length<=y.2.2.1/\y.2.2.1<=maxLen) (λy=>n-y.1) (0,af,0,[]) ⟨bO _,rfl,bC _,db,bC _,bO _⟩ aZ au ?_
 rintro⟨C,ai,am,W⟩ ⟨aE,R,aF,ah,ap,aq⟩;simp only at aE R aF ah ap aq;dsimp only;apply ak _;refine c0 p (λaA=>?_) (λaA=>?_)
 .obtain⟨aS,aT,rfl,aQ⟩:=ar.at_ ad;have aG:D[C]?=ab D[C]:=b8 ad;have a0:=(aQ _ _ aG).at_ (i:=0) p;have aX:D.take (C+1)=D.take C++[D[C]]:=j4 ad;have aW:=aP D[C] (gG _);have Q:=acQ (D.take C) D[C];rw[<- aX,<- R]at Q;generalize D[C]=o at*
  have a8:a5 H ⟨aS,aT+C*1,af⟩ (.pointer (z5 o)):=a0;have aI:=λM aJ=>RK o M aJ;apply ak _;apply a9 (aI _ (bx aW)) _
  by_cases O:0<aa (opts o)
  .cases o with
   |none=>exact absurd O (LL 0)
   |some Z=>
    have O:0<aa Z.l:=O;have Q:hy (D.take (C+1))=W++[Z]:=by rw[Q];simp[O]
    apply ak _;apply bd λa3=>?_;apply fz λav aB aK aM aO=>?_;refine b7 (C+1,av,aB,W++[Z]) ⟨by show C+1<=n;omega,Q.symm,by simp;omega,by simpa using aO,by simpa using aK,aM⟩ (by show n-(C+1)<n-C;omega) ⟨rfl,by simp only[b4,hg];rfl,rfl,rfl,rfl,trivial⟩ ?_;simp only[b4,hg];rw[<- gi];exact au
  .have aY:hy (D.take (C+1))=W:=by
    rw[Q];cases o with
    |none=>simp
    |some Z=>simp only[opts]at O;simp[O]
   apply ak _;exact b7 (C+1,ai,am,W) ⟨by show C+1<=n;omega,aY.symm,by simp only;omega,ah,ap,aq⟩ (by show n-(C+1)<n-C;omega) aZ au
 .have aD:C=n:=ad;subst aD;rw[<- aL,nN]at R;rw[<- R];apply ak _;exact aR ⟨ai,am,rfl,ah,rfl⟩
end R.cY
namespace R.cY
def acM{D C}(h:∀o∈D,ji C o):∀j∈hy D,j.at_ C:=λj I=>by
 have:=(ii.1 I).1;obtain⟨o,H,E⟩:=List.mem_filterMap.1 this;exact h o H j E
attribute [local irreducible] C bh b6
def f5(j:aj)(C:List (Option gg)):List aj:=bw aj.less (j::C.flatMap opts)
theorem PF(j):f5 j []=[j]:=by simp[f5,bw]
def PG(j C):gM aj.less (f5 j C):=ov hu _
def aaI(j C o)(h:gM aj.less (opts o)):f5 j (C++[o])=bw aj.less (f5 j C++opts o):=by
 have D:=ou hu h (.refl _);unfold f5
 conv=>rhs;rw[D]
 rw[Ua hu];simp
def PE(C j):aa (f5 C j)=aa (j.flatMap opts)+1:=by unfold f5;rw[gV,f0]
def CN(C):∀(l)(j),(J l:bz).set j (.pointer (z5 C))=J (l.set j C)
 | [],_=>rfl
 |x::l,0=>rfl
 |x::l,j+1=>by
  have:=CN C l j;rw[List.set_cons_succ,h9,h9];show Value.pointer _::(J l).set j _= _;rw[this];rfl
def Sb{j o}(h:ji j o):gM aj.less (opts o):=by
 cases o with
 |none=>exact .nil
 |some C=>
  exact(h C p).a.b5 hu
def WI(J A n c l H)(aq:∀Z,Rd (J::Z) A n l)(ar:n<=100000)(ap:n<=c)(ai:uI l=0):
  Y 545 #[.slice A n c] (J::H) λv R=>∃(D:gg) (E:Q),v=.tuple #[I D.t,j 0]/\(D.l=bw aj.less l/\e6 E D.t D.T D.A D.c D.l)/\R=hB E::H:=by
 have h1:=FB A n c l _ (aq []) ar ap ai;apply(O.frame H h1 (λh s=>s.perm (ep))).cr;rintro v R az ⟨ax,⟨av,W,U,ah,E,rfl,rfl,am⟩,rfl⟩ s;exact⟨_,⟨⟨av,W,U,ah,bw _ l⟩,E++[J],rfl,⟨rfl,am⟩,rfl⟩,C.join (s.perm (ep))⟩
structure Fz (I:aj) (D:List (Option gg)) (C:Nat) (j:gg) (H:Q):Prop where
 le:C<=D.length
 full:∀E o,E<C->D[E]?=ab o->0< (opts o).length
 end_:C=D.length\/∃o,D[C]?=ab o/\opts o=[]
 l:j.l=f5 I (D.take C)
 t:e6 H j.t j.T j.A j.c j.l
def lg(C:List (Option gg))(j:Nat)(D:gg):List (Option gg):=gv j af++ab D::C.drop (j+1)
theorem SK{C j D}:aa (lg C j D)=j+1+(aa C-(j+1)):=by simp[lg];omega
theorem aaJ(j C):bw aj.less (f5 j C)=f5 j C:=(ou hu (PG j C) (.refl _)).symm
def acB(s b n c A ax aq av R D M am)(bh:0<n->∃b,A=(U b))(bU:aa D=n)(b1:∀o∈D,ji am o)(co:n<=60)(cr:aa (D.flatMap opts)<=50000)(ch:n<=c)(ci:c<=maxLen)(bY:∀C,uI (f5 R (D.take C))=0)(cb:0<=aq/\aq<=1000000000000):
  Y 498 #[I s,R.v] (ah s 246 (iZ A n c b (av:Nat) ax aq)::ct b M::E 353 1 A n c (J D)::am) λv bq=>∃(aR:a3) (bc C:Nat) (H:gg) (ai:Q),v=.tuple #[]/\Fz R D C H ai/\(∃b,aR=(U b))/\bq=ah s 246 (iZ aR (aa (lg D C H)) bc b (av:Nat) ax (aq+aa H.l))::ct b (f6 R al M)::E 353 1 aR (aa (lg D C H)) bc (J (lg D C H))::hB ai::am:=by
 refine aD λ{g F}=>?_;apply bP λaz=>?_;apply bP λbb=>?_;apply cc;apply fV _;refine ef (ι:=Nat×aG×Option cg×Nat) (λy=>[(0,I s),(3,I az),(4,.slice y.2.2.1 (aa (f5 R (D.take y.1))) y.2.2.2),(5,j (y.1:Nat))]) (λy=>ah s 246 (iZ A n c b (av:Nat) ax aq)::ct b M::E 353 1 A n c (J (gv y.1 af++D.drop y.1))::y.2.1::ah az 42 [j R.id,j R.x,j R.y]::F::am)
  (λy=>(y.1<=n/\aa (f5 R (D.take y.1))<=y.2.2.2/\y.2.2.2<=maxLen/\(∀Z,Rd (y.2.1::Z) y.2.2.1 (aa (f5 R (D.take y.1))) (f5 R (D.take y.1)))/\∀ar o,ar<y.1->D[ar]?=ab o->0<aa (opts o))/\(y.1=n\/∃o,D[y.1]?=ab o/\opts o=[])) ?_ ?_
 .apply bs _;refine cL (ι:=Nat×aG×Option cg×Nat) (λy=>[(0,I s),(3,I az),(4,.slice y.2.2.1 (aa (f5 R (D.take y.1))) y.2.2.2),(5,j (y.1:Nat))]) (λy=>ah s 246 (iZ A n c b (av:Nat) ax aq)::ct b M::E 353 1 A n c (J (gv y.1 af++D.drop y.1))::y.2.1::ah az 42 [j R.id,j R.x,j R.y]::F::am)
   (λy=>y.1<=n/\aa (f5 R (D.take y.1))<=y.2.2.2/\y.2.2.2<=maxLen/\(∀Z,Rd (y.2.1::Z) y.2.2.1 (aa (f5 R (D.take y.1))) (f5 R (D.take y.1)))/\∀ar o,ar<y.1->D[ar]?=ab o->0<aa (opts o)) (λy=>n-y.1) (0,ah bb 42 [j R.id,j R.x,j R.y],(U bb),1) ⟨bO _,by simp[f5,bw],by show 1<=maxLen;decide,λZ=>by
    show Rd _ _ (aa (f5 R (D.take 0))) (f5 R (D.take 0));rw[E3,PF];exact bf.ah p,λar o h=>absurd h (Nat.not_lt_zero _)⟩ ⟨rfl,rfl,by simp only[E3,PF];rfl,rfl,trivial⟩ au ?_
  rintro⟨C,aJ,aI,aK⟩ ⟨aL,aB,aM,aE,aH⟩;simp only at aL aB aM aE aH;dsimp only;have aO:aa (gv C af++D.drop C:List (Option gg))=n:=bo
  by_cases be:C<n
  .have bG:D[C]?=ab D[C]:=b8 ad;have b2:D.take (C+1)=D.take C++[D[C]]:=j4 ad;have aV:D.drop C=D[C]::D.drop (C+1):=(Lk ad).symm;have aQ:=b1 D[C] (gG _);have cu:aa (opts D[C])+aa ((D.take C).flatMap opts)<=aa (D.flatMap opts):=by
    conv=>rhs;rw[<- kk C D,aV]
    grind
   obtain⟨W,rfl⟩:=bh ad;have aW:0<aa (opts D[C])->∀ar o,ar<C+1->D[ar]?=ab o->0<aa (opts o):=λca ar o cm cp=>by
    grind
   generalize D[C]=o at*
   rw[aV]at aO ⊢;have bH:(gv C af++o::D.drop (C+1):List (Option gg))[C]?=ab o:=by
    simp
   have bn:∀Z,a5 (E 353 1 (U W) n c (J (gv C af++o::D.drop (C+1)))::Z) ⟨W,0+C*1,af⟩ (.pointer (z5 o)):=λZ=>by
    have b0:Rd (E 353 1 (U W) n c (J (gv C af++o::D.drop (C+1)))::Z) (U W) n (gv C af++o::D.drop (C+1)):=bf.E (by rw[ck,aO];rfl) (λ_=>⟨W,rfl⟩);let⟨_,_,bv,aF⟩:=b0.at_ ad;cases bv;exact(aF _ _ bH).at_ (i:=0) p
   have bK:=λZ aY=>RK o Z aY;apply ak _;refine a6 (fC p (bx bn)) ?_;apply ak _;apply a9 (bK _ (bx aQ)) _
   by_cases bl:0<aa (opts o)
   .cases o with
    |none=>exact absurd bl (LL 0)
    |some H=>
     replace aW:=aW bl;have cv:e6 am H.t H.T H.A H.c H.l:=aQ H p;have a7:aa H.l<=50000:=by grind[opts]
     have bS:=PE R (D.take C);have bZ:=λZ (aY:e6 Z H.t H.T H.A H.c H.l)=>(ahL aY ad).made;have bj:=λZ aS aT h1 ae an=>(Wq hu rN aI aS (aa (f5 R (D.take C))) (aa H.l) aK aT (f5 R (D.take C)) H.l Z h1 ae ad ad aB an (PG R _) (Sb aQ)).made;have bA:bw aj.less (f5 R (D.take C)++H.l)=f5 R (D.take (C+1)):=by rw[b2];exact(aaI R _ (ab H) (Sb aQ)).symm
     rw[bA]at bj;apply ak _;refine a6 (fC p (bx bn)) ?_;refine aP (bZ _ (by grind[e6.ap])) ?_;rintro _ _ ⟨aS,aT,rfl,bJ,bL,cj,rfl⟩;refine aP (bj _ aS aT (bx aE) (by repeat' first|exact bf.E (ck _) bJ|apply Rd.ap) bL) ?_;rintro _ _ ⟨a8,bg,rfl,bI,bM,bR,rfl⟩;apply ay _;apply ee _;iterate 6 apply ay _
     refine GE (lB p p p aN ad) ?_;rintro _ _ ⟨rfl,rfl⟩;apply ak _;have bB:(J (gv C af++ab H::D.drop (C+1)):bz).set (0+C*1) (.pointer af)=J (gv (C+1) af++D.drop (C+1)):=by
      rw[show 0+C*1=C by simp];apply(CN af _ C).trans;simp[E2,List.replicate_succ']
     rw[bB];exact b7 (C+1,E 42 3 a8 (aa (f5 R (D.take (C+1)))) bg (J (f5 R (D.take (C+1)))),a8,bg) ⟨ad,bM,bR,λZ=>bf.E (ck _) bI,aW⟩ ad aZ au
   .apply ak _;rw[<- aV];exact cC (C,aJ,aI,aK) ⟨⟨aL,aB,aM,aE,aH⟩,.inr ⟨o,bG,gX ad⟩⟩ aZ a1
  .have br:C=n:=ad;subst br;apply ak _;exact cC (C,aJ,aI,aK) ⟨⟨aL,aB,aM,aE,aH⟩,.inl p⟩ aZ a1
 .rintro⟨C,aJ,aI,aK⟩ ⟨⟨aL,aB,aM,aE,aH⟩,bi⟩;simp only at aL aB aM aE aH bi;dsimp only;have bS:=PE R (D.take C);have cl:aa ((D.take C).flatMap opts)<=aa (D.flatMap opts):=by
   grind[kk,b4]
  have a0:=λZ=>WI aJ aI (aa (f5 R (D.take C))) aK (f5 R (D.take C)) Z aE ad aB (bY C);rw[aaJ]at a0;have bm:∀H ai,H.l=f5 R (D.take C)->e6 ai H.t H.T H.A H.c H.l->Fz R D C H ai:=λH ai h1 ae=>⟨ad,aH,bU▸bi,h1,ae⟩;have a7:∀H:gg,H.l=f5 R (D.take C)->aa H.l=aa (f5 R (D.take C)):=λH h=>by grind
  generalize f5 R (D.take C)=all at*
  by_cases be:C=n
  .subst be;have bt:D.drop C=[]:=K9 ad;have b6:D.drop (C+1)=[]:=K9 ad;rw[bt,dC];apply ak _;apply bd λb5=>?_;refine GE (dH p p aN gL (hA p) bN ao aw aw) ?_;rintro _ _ ⟨b3,aA,rfl,ce,cn,bV,rfl⟩;apply aC _;apply cc;obtain⟨W,rfl⟩:=bV ao;refine bp (j:=ah s 246 (iZ (U W) (C+1) aA b (av:Nat) ax aq)::ct b M::E 353 1 (U W) (C+1) aA (J (gv C af++[af]:List (Option gg)))::aJ::ah az 42 [j R.id,j R.x,j R.y]::F::am) (by rw[gS];exact au) ?_;apply hZ 3 (bE [0,1,2,3,4,5] (.e 6 (bE [7,8,9,10] (.e 11 .nil)))) _;apply dV (O.pick aN (a0 _)) _;rintro _ _ ⟨H,ai,rfl,⟨aF,aX⟩,rfl⟩;apply bX _;iterate 4 apply bu _
   refine bF (hD cq p p p (lB p p p aN ao) ?_);rintro _ _ ⟨rfl,rfl⟩;have bT:=a7 H aF;have a4:(J (gv C af++[af]:List (Option gg)):bz).set (0+C*1) (I H.t)=J (lg D C H):=by
    rw[show 0+C*1=C by simp];apply(CN (ab H) _ C).trans
    congr 1
    simp_all[lg,E2]
   have aO:aa (lg D C H)=C+1:=by rw[SK];omega
   rw[a4];apply bp (j:=ah s 246 (iZ (U W) (C+1) aA b (av:Nat) ax aq)::ct b M::E 353 1 (U W) (C+1) aA (J (lg D C H))::hB ai::ah az 42 [j R.id,j R.x,j R.y]::F::am) au;apply ak _;refine bF (hD cq p p p (ry p p p aN) ?_);rintro _ _ ⟨rfl,rfl⟩;apply ak _;exact er (D:=[]) (j:=[]) (C:=ah s 246 (iZ (U W) (C+1) aA b (av:Nat) ax (aq+(aa all:Nat)))::ct b (f6 R al M)::E 353 1 (U W) (C+1) aA (J (lg D C H))::hB ai::am) p .nil au ⟨(U W),aA,C,H,ai,rfl,bm H ai aF aX,⟨W,rfl⟩,by simp_all⟩
  .obtain⟨W,rfl⟩:=bh ad;apply aC _;apply cd _;refine e9 p (cw ad) ?_;apply bs _;apply hZ 3 (bE [0,1,2,3,4,5] (.e 6 (bE [7,8,9,10] (.e 11 .nil)))) _;apply dV (O.pick aN (a0 _)) _;rintro _ _ ⟨H,ai,rfl,⟨aF,aX⟩,rfl⟩;apply bX _;iterate 4 apply bu _
   refine bF (hD cq p p p (lB p p p aN ad) ?_);rintro _ _ ⟨rfl,rfl⟩;have bT:=a7 H aF;have a4:(J (gv C af++D.drop C:List (Option gg)):bz).set (0+C*1) (I H.t)=J (lg D C H):=by
    rw[show 0+C*1=C by simp];apply(CN (ab H) _ C).trans
    congr 1
    unfold lg;rw[E2 _ _ ao,List.length_replicate,Nat.sub_self,<- Lk (show C<aa D by omega),List.set_cons_zero]
   have aO:aa (lg D C H)=n:=by rw[SK];omega
   rw[a4];apply bp (j:=ah s 246 (iZ (U W) (n) c b (av:Nat) ax aq)::ct b M::E 353 1 (U W) (n) c (J (lg D C H))::hB ai::ah az 42 [j R.id,j R.x,j R.y]::F::am) au;apply ak _;refine bF (hD cq p p p (ry p p p aN) ?_);rintro _ _ ⟨rfl,rfl⟩;apply ak _;exact er (D:=[]) (j:=[]) (C:=ah s 246 (iZ (U W) (n) c b (av:Nat) ax (aq+(aa all:Nat)))::ct b (f6 R al M)::E 353 1 (U W) (n) c (J (lg D C H))::hB ai::am) p .nil au ⟨(U W),c,C,H,ai,rfl,bm H ai aF aX,⟨W,rfl⟩,by simp_all⟩
end R.cY
namespace R.cY
structure c3 where
 av:List (List aj)
 d:List aj
 fm:Nat
def j0:List aj->List (List aj)->List (List aj)
 |j,[]=>[j]
 |j,l::C=>if aa l=0 then j::C else[]::j0 (j++l) C
def om:List aj->List (List aj)->Nat
 |j,[]=>aa j
 |j,l::C=>if aa l=0 then aa j else om (j++l) C
def SJ:∀(k)(C)(j),(∀D,D<k->∃l,C[D]?=ab l/\0<aa l)->(k=aa C\/∃l,C[k]?=ab l/\aa l=0)->
  j0 j C=gv k []++(j++(C.take k).flatten)::C.drop (k+1)/\om j C=aa (j++(C.take k).flatten)
 |0,[],j,_,_=>by simp[j0,om]
 |0,l::E,j,_,h=>by
  simp_all[j0,om]
 |k+1,[],j,h,_=>by
  simp_all
 |k+1,l::E,j,h,ae=>by
  let⟨R,H,J⟩:=h 0 ao;let⟨O,Q⟩:=SJ k E (j++l) (λD I=>by grind) (by
   simp_all)
  unfold j0 om;grind
theorem DX(j C):(j0 j C).flatten.Perm (j++C.flatten):=by
 induction C generalizing j with
 |nil=>rfl
 |cons l E D=>
  grind[j0]
def SF(j C):om j C<=aa j+aa C.flatten:=by
 induction C generalizing j with
 |nil=>simp[om]
 |cons l E D=>
  grind[om]
def rj:Nat->List (List aj)->Prop
 | _,[]=>True
 |j,l::C=>(aa l=0\/aa l=2 ^ j)/\rj (j+1) C
theorem rj.put:∀(D)(j)(C),aa C=2 ^ j->rj j D->rj j (j0 C D)
 | [],j,C,h,_=>⟨.inr h,trivial⟩
 |l::t,j,C,h,⟨h1,ae⟩=>by
  unfold j0;split
  .exact⟨.inr h,ae⟩
  .rename_i E
   exact⟨.inl p,rj.put t _ _ bv ae⟩
def IS:∀(C)(D)(j),aa j=2 ^ D->rj D C->aa (j0 j C)=aa C\/aa (j0 j C)=aa C+1/\2 ^ (D+aa C)<=aa j+aa C.flatten
 | [],D,j,h,_=> .inr ⟨rfl,by grind⟩
 |l::I,D,j,h,⟨h1,ae⟩=>by
  unfold j0;split
  .simp
  .have H:aa (j++l)=2 ^ (D+1):=bv;rcases IS I _ _ H ae with E|⟨E,J⟩
   .simp_all
   grind
def c3.live(S:c3):List aj:=bw aj.less (S.av.flatten.filter λj=>!decide (j∈S.d))
def c3.put(S:c3)(j:aj):c3:=⟨j0 [j] S.av,S.d,S.fm+om [j] S.av⟩
def c3.ins(C:Int)(S:c3)(j:aj):c3:=if jD C S.live j=0 then(if j∈S.d then⟨S.av,S.d.erase j,S.fm⟩else S.put j)else S
def c3.BL(S:c3):c3:=S.live.foldl c3.put ⟨[],[],S.fm⟩
def c3.mark(S:c3)(j:aj):c3:=⟨S.av,S.d++[j],S.fm⟩
def c3.del(S:c3)(j:aj):c3:=if j∈S.live then(if aa (S.mark j).d<=aa S.live-1 then S.mark j else(S.mark j).BL)else S
theorem c3.mS{S:c3}{j}:j∈S.live<->j∈S.av.flatten/\j∉S.d:=by unfold c3.live;rw[(f8 _).mem_iff,ii];simp
structure gq (S:c3) (C n:Nat):Prop where
 eF:rj 0 S.av
 fE:S.av.flatten.Nodup
 a7:∀j∈S.av.flatten,fe j=ag
 iy:S.d.Nodup
 pM:∀j∈S.d,j∈S.av.flatten
 h8:2*S.d.length<=S.av.flatten.length
 hY:S.av.flatten.length<=C
 iE:S.av.length=0\/2 ^ (S.av.length-1)<=C
 nh:S.fm<=100000*n
def gq.zero:gq ⟨[],[],0⟩ 0 0:=⟨trivial,ao,ao,ao,ao,ao,ao,.inl p,ao⟩
theorem gq.up{S E D n C}(h:gq S E n)(j:E<=D)(H:n<=C):gq S D C:=
 ⟨h.eF,h.fE,h.a7,h.iy,h.pM,h.h8,hj h.hY j,h.iE.imp_right λh=>hj h j,hj h.nh (Nat.mul_le_mul_left _ H)⟩
def rO{S:c3}(E:S.av.flatten.Nodup)(C:S.d.Nodup)(D:∀j∈S.d,j∈S.av.flatten):aa S.live+aa S.d=aa S.av.flatten:=by
 unfold c3.live;rw[gV];have h1:(S.av.flatten.filter λj=>decide (j∈S.d)).Perm S.d:=by
  grind
 have ae:=Le (λj=>decide (j∈S.d)) S.av.flatten;have an:=ae.length_eq;rw[b4,h1.length_eq]at an;omega
def gq.rO{S j n}(h:gq S j n):aa S.live+aa S.d=aa S.av.flatten:=YteinodmjohkmmaaGreat.R.cY.rO h.fE h.iy h.pM
theorem gq.zR{S j n}(h:gq S j n):S.live.Nodup:=by exact(f8 _).nodup_iff.2 (h.fE.filter _)
theorem gq.put{S C n j}(h:gq S C n)(J:j∉S.av.flatten)(R:fe j=ag)(U:C<=300):gq (S.put j) (C+1) (n+1):=by
 have D:=DX [j] S.av;have I:=D.length_eq;simp only[b4,hg]at I;have Q:=h.hY;refine⟨h.eF.put _ _ _ p,?_,?_,h.iy,?_,?_,?_,?_,?_⟩
 .show(j0 _ _).flatten.Nodup;rw[D.nodup_iff];exact j3.2 ⟨J,h.fE⟩
 .intro q E;rcases b9.1 (D.mem_iff.1 E)with h1|h1
  .simp_all
  .exact h.a7 q h1
 .intro q E;exact D.mem_iff.2 (b9.2 (.inr (h.pM q E)))
 .have:=h.h8;show 2*aa S.d<=aa (j0 _ _).flatten;omega
 .show aa (j0 _ _).flatten<=C+1;omega
 .show aa (j0 _ _)=0\/2 ^ (aa (j0 _ _)-1)<=C+1;rcases IS _ 0 [j] rfl h.eF with H|⟨H,O⟩
  .rw[H];exact h.iE.imp_right λh=>ad
  grind
 .have:=SF [j] S.av;have:=h.nh;simp[hg]at*
  show S.fm+om _ _<=100000*(n+1);omega
theorem gq.ins{S C n O D}(h:gq S C n)(H:C<=300):gq (S.ins O D) (C+1) (n+1):=by
 unfold c3.ins;split
 .rename_i E
  split
  .rename_i h1
   exact⟨h.eF,h.fE,h.a7,h.iy.erase _,λq J=>h.pM q (List.mem_of_mem_erase J),by have:=h.h8;grind,q5 h.hY,h.iE.imp_right λh=>q5 h,by have:=h.nh;grind⟩
  .rename_i h1
   have j:fe D=ag:=by
    cases j:fe D
    .simp[jD,j]at E
    rfl
   apply h.put (λI=>?_) j H;have:=c3.mS.2 ⟨I,h1⟩;simp[jD,j,this]at E
 .exact h.up (gp C) (gp n)
def CP:∀(l)(S:c3)(j),rj 0 S.av->(S.av.flatten++l).Nodup->(∀ai∈S.av.flatten++l,fe ai=ag)->S.d=[]->aa S.av.flatten+aa l<=j->(aa S.av=0\/2 ^ (aa S.av-1)<=j)->
  rj 0 (l.foldl c3.put S).av/\(l.foldl c3.put S).av.flatten.Perm (S.av.flatten++l)/\(l.foldl c3.put S).d=[]/\(aa (l.foldl c3.put S).av=0\/2 ^ (aa (l.foldl c3.put S).av-1)<=j)/\(l.foldl c3.put S).fm<=S.fm+j*aa l
 | [],S,j,h1,ae,an,C,E,H=>⟨h1,ao,C,H,ao⟩
 |ai::l,S,j,h1,ae,an,C,E,H=>by
  have I:=DX [ai] S.av;have J:=I.length_eq;simp only[b4]at J;have D:=(I.append_right l).trans fA.symm;have ah:=SF [ai] S.av;simp only[f0]at E;have am:aa (S.put ai).av.flatten=1+aa S.av.flatten:=J;let⟨Q,R,U,W,Y⟩:=CP l (S.put ai) j (h1.put _ _ _ p) (D.nodup_iff.2 ae) (λq h=>an q (D.mem_iff.1 h)) C ad (by
   show aa (j0 _ _)=0\/2 ^ (aa (j0 _ _)-1)<=j;rcases IS _ 0 [ai] rfl h1 with O|⟨O,Z⟩
   .simp_all
   grind)
  refine⟨Q,R.trans D,U,W,hj Y ?_⟩;show S.fm+om _ _+j*aa l<=S.fm+j*(aa l+1);grind
theorem gq.del{S D n j}(h:gq S D n)(I:D<=300):gq (S.del j) (D+1) (n+1):=by
 have am:=h.rO;have J:=h.hY;have Z:=h.nh;unfold c3.del;split
 .rename_i H
  have h1:=c3.mS.1 H;have iy:(S.mark j).d.Nodup:=by
   show(S.d++[j]).Nodup;rw[(E0 j _).nodup_iff];exact j3.2 ⟨h1.2,h.iy⟩
  have pM:∀q∈(S.mark j).d,q∈S.av.flatten:=λq C=>by
   rcases b9.1 (show q∈S.d++[j]from C)with ae|ae
   .exact h.pM q ae
   simp_all
  have ai:aa (S.mark j).d=aa S.d+1:=by show aa (S.d++[j])= _;simp
  split
  .rename_i ae
   exact⟨h.eF,h.fE,h.a7,iy,pM,(by show 2*aa (S.mark j).d<=aa S.av.flatten;omega),q5 J,h.iE.imp_right λh=>q5 h,by show S.fm<=_;omega⟩
  .have ar:=YteinodmjohkmmaaGreat.R.cY.rO (S:=S.mark j) h.fE iy pM;have ax:aa (S.mark j).av.flatten=aa S.av.flatten:=rfl;have W:(S.mark j).live.Nodup:=(f8 _).nodup_iff.2 (h.fE.filter _);let⟨O,E,ap,Q,aq⟩:=CP (S.mark j).live ⟨[],[],(S.mark j).fm⟩ D trivial fs (λq C=>h.a7 q ((c3.mS (S:=S.mark j)).1 fs).1) p bv (.inl p);have U:=E.length_eq;simp only[List.flatten_nil,oG]at E U;have ah:(S.mark j).fm=S.fm:=rfl;refine⟨O,E.nodup_iff.2 W,λq C=>h.a7 q ((c3.mS).1 (E.mem_iff.1 C)).1,?_,?_,?_,?_,?_,?_⟩
   .unfold c3.BL;simp_all
   .intro q C;have C:q∈((S.mark j).live.foldl c3.put _).d:=C;simp_all
   .show 2*aa ((S.mark j).live.foldl c3.put ⟨[],[],(S.mark j).fm⟩).d<=_;simp_all
   .show aa ((S.mark j).live.foldl c3.put ⟨[],[],(S.mark j).fm⟩).av.flatten<=_;omega
   .exact Q.imp_right λh=>q5 h
   .show((S.mark j).live.foldl c3.put ⟨[],[],(S.mark j).fm⟩).fm<=_;have Y:D*aa (S.mark j).live<=300*300:=LP I ad;grind
 .exact h.up (gp D) (gp n)
theorem gq.low{S n}(h:gq S 101 n)(C:aa S.live<=40):gq S 100 n:=by
 refine⟨h.eF,h.fE,h.a7,h.iy,h.pM,h.h8,?_,h.iE.imp_right λh=>?_,h.nh⟩
 .have:=h.rO;have:=h.h8;omega
 .have j:aa S.av-1<=6:=by
   rcases dZ 6 _ with k|k
   .have:2 ^ 7<=2 ^ (aa S.av-1):=E8 ao k;omega
   omega
  have:2 ^ (aa S.av-1)<=2 ^ 6:=E8 ao j;omega
def ia(M:List (aj×Bool)):List aj:=M.map (·.1)
def lA(M:List (aj×Bool)):List aj:=(M.filter (·.2)).map (·.1)
theorem Hn(M j):ia (M++j)=ia M++ia j:=by simp[ia]
theorem Gk(M j):lA (M++j)=lA M++lA j:=by simp[lA]
theorem N9(j b M):lA ((j,b)::M)=(if b then[j]else[])++lA M:=by cases b<;>simp[lA]
theorem us{p}:∀{M},dL p M=af<->p∉ia M
 | []=>by simp[dL,ia]
 |x::M=>by
  unfold dL
  by_cases h:p=x.1
  .simp[h,ia]
  .have:=us (p:=p) (M:=M);simp[h,this,ia]
theorem Ap{j v}:∀{M},j∉ia M->f6 j v M=M++[(j,v)]
 | [],_=>rfl
 |x::M,h=>by
  have h1:j≠x.1:=λC=>h (by simp[ia,C]);have ae:j∉ia M:=λC=>h (by simp_all[ia]);simp[f6,h1,Ap ae]
def IR{j}:∀{M},j∈ia M->∃A b R,M=A++(j,b)::R/\j∉ia A/\dL j M=ab b/\∀v,f6 j v M=A++(j,v)::R
 | [],h=>by trivial
 |x::M,h=>by
  by_cases h1:j=x.1
  .exact⟨[],x.2,M,by simp_all,by simp[ia],by simp[dL,h1],λv=>by simp[f6,h1]⟩
  .have ae:j∈ia M:=by
    simp_all[ia,df]
   let⟨A,b,R,E,H,C,D⟩:=IR ae;refine⟨x::A,b,R,by simp_all,λI=>?_,by simp[dL,h1,C],λv=>by simp[f6,h1,D]⟩;simp_all[ia,df]
theorem Rf{j M}:j∈lA M<->(j,ag)∈M:=by simp[lA]
theorem Re{j M}:j∈iv M<->(j,al)∈M:=by simp[iv]
theorem Xn(M):(iv M).Sublist (ia M):=List.filter_sublist.map _
theorem s2{p b}:∀{M},(ia M).Nodup->(dL p M=ab b<->(p,b)∈M)
 | [],_=>by simp[dL]
 |x::M,h=>by
  have j:=j3.1 (show(x.1::ia M).Nodup from h);have E:=s2 (p:=p) (b:=b) j.2;let⟨D,H⟩:=x;unfold dL
  by_cases h1:p=D
  .subst h1;have ae:∀b,(p,b)∉M:=λb C=>j.1 (lm.2 ⟨_,C,rfl⟩);grind
  simp_all
theorem MR{M}(j:(ia M).Nodup):(iv M).Perm ((ia M).filter λC=>!decide (C∈lA M)):=by
 rw[E1 ((Xn M).nodup j) (j.filter _)];intro C;rw[Re,ii];simp[sk,decide_eq_false_iff_not,Rf];rw[<- s2 j,<- s2 j];constructor
 .intro h;refine⟨AT.1 λE=>?_,by simp_all⟩;grind[us]
 .rintro⟨h1,ae⟩;cases D:dL C M with
  |none=>simp_all[us]
  |some b=>simp_all
structure kn (M:List (aj×Bool)) (j d:List aj):Prop where
 k:(ia M).Perm j
 d:(lA M).Perm d
theorem kn.len{M j d}(h:kn M j d):aa M=aa j:=by have:=h.k.length_eq;simpa[ia]using this
theorem kn.PC{M j d}(h:kn M j d)(E:j.Nodup){C}:dL C M=ab al<->C∈j/\C∉d:=by
 have D:=h.k.nodup_iff.2 E;rw[<- h.k.mem_iff,<- h.d.mem_iff,s2 D,<- Re,(MR D).mem_iff,ii];simp
def kn.PD{M j d}(h:kn M j d)(D:j.Nodup){C}:dL C M=ab ag<->C∈d:=by
 have E:=h.k.nodup_iff.2 D;rw[<- h.d.mem_iff,s2 E,Rf]
def kn.get_some{M j d}(h:kn M j d){p}:(dL p M).isSome=ag<->p∈j:=by
 rw[<- h.k.mem_iff];cases C:dL p M with
 |none=>simp[us.1 C]
 |some b=>
  simp[Option.isSome_some,true_iff];exact AT.1 λD=>by rw[us.2 D]at C;trivial
theorem kn.new{M C d}(h:kn M C d){j}(I:j∉C){g}(D:g.Perm (j::C)):kn (f6 j al M) g d:=by
 have E:=λH=>I (h.k.mem_iff.1 H);rw[Ap E];refine⟨?_,?_⟩
 .rw[Hn];exact(E0 j _).trans ((h.k.cons j).trans D.symm)
 .rw[Gk];simpa[lA]using h.d
theorem kn.mark{M C d}(h:kn M C d){j}(E:dL j M=ab al):kn (f6 j ag M) C (d++[j]):=by
 have I:=AT.1 λJ=>by rw[us.2 J]at E;trivial
 let⟨A,b,R,H,Q,D,O⟩:=IR I;rw[E]at D;have U:=(nQ D).symm;rw[O];have h1:=h.k;have ae:=h.d;rw[H]at h1 ae;refine⟨?_,?_⟩
 .rw[Hn]at h1 ⊢;trivial
 .rw[Gk,N9]at ae ⊢;grind
def kn.back{M C d}(h:kn M C d){j}(E:dL j M=ab ag):kn (f6 j al M) C (d.erase j):=by
 have I:=AT.1 λJ=>by rw[us.2 J]at E;trivial
 let⟨A,b,R,H,Q,D,O⟩:=IR I;rw[E]at D;have U:=(nQ D).symm;rw[O];have h1:=h.k;have ae:=h.d;rw[H]at h1 ae;refine⟨?_,?_⟩
 .rw[Hn]at h1 ⊢;trivial
 .rw[Gk,N9]at ae ⊢;grind
theorem kn.iv{M:List (aj×Bool)}{C d:List aj}(h:kn M C d)(E:C.Nodup):(iv M).Perm (C.filter λj=>!decide (j∈d)):=by
 have H:=h.k.nodup_iff.2 E;apply(MR H).trans;have D:(λj=>!decide (j∈lA M))=λj=>!decide (j∈d):=by
  funext j
  have:=h.d.mem_iff (a:=j);simp_all
 rw[D];exact h.k.filter _
theorem Oa(j:cS)(M:List (aj×Bool)):jW j M=((lA M).filter (fD j)).map (·.id):=by simp[jW,lA,List.filter_map,fD,Bool.and_comm]
def Yu{D l}(o:D.of l)(a:d0 aj.less l):∃O,lq O [D]:=by
 cases l with
 |nil=>exact⟨0,[],0,o,a,Int.le_refl _,ao,trivial⟩
 |cons j q=>
  obtain⟨C,H⟩:∃C,(j::q)[aa (j::q)-1]?=ab C:=⟨_,b8 ao⟩;refine⟨j.x,j::q,C.x,o,a,t8 a (bO _) p H,λQ I=>?_,trivial⟩;obtain⟨J,E,rfl⟩:=A2.1 I;exact⟨t8 a (bO J) p (b8 E),t8 a ad (b8 E) H⟩
def XF{b j l}(o:j.of l)(a:d0 aj.less l):(gy b j).np b<=4*j.iE+1:=by
 unfold gy;split
 .let⟨C,h⟩:=Yu o a;have:=h.np b j.iE ao;grind[fT]
 simp[bm.np]
def XG{b:cS}{j:bm}{l:List aj}(o:j.of l)(a:d0 aj.less l):((gy b j).fd b).Perm ((l.filter (fD b)).map (·.id)):=
 (nA _).symm.trans ((U8 (XC o a)).trans (nA _))
def Nm(b){E}:∀(j),(∀x∈j,x.at_ E)->(∀x∈j,aa x.l<=512)->fT b (g9 b j)<=41*aa j
 | [],_,_=>bC _
 |x::j,h,ae=>by
  have I:=Nm b j (λy D=>h y (gn _ D)) (λy D=>ae y (gn _ D));have C:=h x ll;have an:=XF (b:=b) C.o C.a;have H:=C.o.iE 9 (ae x ll);grind[fT,g9]
def Nn(b:cS){D:Q}:∀(j:List gg),(∀x∈j,x.at_ D)->(k7 b (g9 b j)).Perm (((j.flatMap (·.l)).filter (fD b)).map (·.id))
 | [],_=> .refl _
 |x::j,h=>by
  have H:=Nn b j (λy E=>h y (gn _ E));have C:=h x ll;have an:=XG (b:=b) C.o C.a;rw[yc,vy,ez];exact an.append H
theorem acN(o:Option gg)(j:List (Option gg)):hy (o::j)=(match o with|none=>[]|some C=>if 0<aa C.l then[C]else[])++hy j:=by
 unfold hy;grind
theorem acO(j:List (Option gg)):(hy j).flatMap (·.l)=j.flatMap opts:=by
 induction j with
 |nil=>rfl
 |cons o j C=>
  grind[acN,opts,gX]
def acP(j):aa (hy j)<=aa j:=by grind[hy,List.length_filterMap_le]
def QS{j C}(h:C∈hy j):ab C∈j:=by
 have:=(ii.1 h).1;simp_all
def lr(C:List (Option gg))(j:List (List aj)):Prop:=C.map opts=j.map (bw aj.less)
theorem lr.len{C j}(h:lr C j):aa C=aa j:=by have:=congrArg aa h;simp_all
theorem lr.J:∀{C}{j},lr C j->(C.flatMap opts).Perm j.flatten
 | [],[],_=> .refl _
 | [],_:: _,h=>by trivial
 | _:: _,[],h=>by trivial
 |o::C,l::j,h=>by
  have h1:=(K6 h).1;have ae:lr C j:=(K6 h).2;rw[yc,List.flatten_cons,h1];exact(f8 l).append ae.J
theorem lr.take{C j}(h:lr C j)(k):lr (C.take k) (j.take k):=by
 unfold lr at*
 simp_all
theorem lr.at_{j D}(h:lr j D){C:Nat}{o}(E:j[C]?=ab o):∃l,D[C]?=ab l/\opts o=bw aj.less l:=by
 have h1:(j.map opts)[C]?=ab (opts o):=bv;rw[show j.map _=D.map _ from h,List.getElem?_map]at h1;grind
theorem ag4:bw aj.less []=[]:=by simp[bw]
theorem lr.put{E O D C H R}(h:lr O D)(I:Fz E O C H R):lr (lg O C H) (j0 [E] D)/\om [E] D=aa H.l:=by
 have ar:=h.len;obtain⟨W,Y⟩:=SJ C D _ (λaq Q=>by
  have ai:=Nat.lt_of_lt_of_le Q I.le;have g:=b8 ai;let⟨l,am,j⟩:=h.at_ g;have:=I.full aq _ Q g;rw[j,gV]at this;simp_all) (by
  rcases I.end_ with j|⟨o,j,U⟩
  .omega
  .right;let⟨l,am,j⟩:=h.at_ j;have Z:=congrArg aa j;rw[U,gV]at Z;simp_all)
 have ah:=((h.take C).J.symm.cons E);have ap:H.l=bw aj.less ([E]++(D.take C).flatten):=by
  rw[I.l,f5];exact ou hu (ov hu _) ((f8 _).trans ah.symm)
 constructor
 .unfold lr;rw[W,lg];simp[ez,List.map_replicate,fu,List.map_drop];rw[show O.map _=D.map _ from h,ag4];show gv C []++H.l:: _= _;grind
 .rw[Y,ap,gV]
structure oM where
 A:Option cg
 c:Nat
 b:Nat
 eN:List (Option gg)
 M:List (aj×Bool)
 N:List aG
 K:List aG
structure kY (j:oM) (S:c3):Prop where
 pL:lr j.eN S.av
 at_:∀o∈j.eN,ji j.N o
 mp:kn j.M S.av.flatten S.d
 A:0<j.eN.length->∃b,j.A=(U b)
 kept:aS j.N j.K
def zP(s:Nat)(C:Int)(j:oM)(S:c3):List aG:=[ah s 246 (iZ j.A (aa j.eN) j.c j.b (aa S.d:Nat) C (S.fm:Nat)),ct j.b j.M,E 353 1 j.A (aa j.eN) j.c (J j.eN),hB j.N]
def jG(s:Nat)(E:Int)(S:c3)(D:Q):aG:=λh=>∃j:oM,(kY j S/\j.K=D)/\C (zP s E j S) h
structure rc (j:oM) (S:c3):Prop extends kY j S where
 c1:j.eN.length<=j.c
 c2:j.c<=maxLen
def Hz{s H S D h}(q:jG s H S D h):∃j:oM,(rc j S/\j.K=D)/\C (zP s H j S) h:=by
 let⟨j,g,q⟩:=q;have I:=E.facts (C.tail (C.tail q));exact⟨j,⟨⟨g.1,I.2.1,I.2.2.1⟩,g.2⟩,q⟩
def O.Dh{I U args}{H:Q}{s D S}{C:Q}{Y}(R:∀j,rc j S->j.K=C->O I U args (ah s 246 (iZ j.A (aa j.eN) j.c j.b (aa S.d:Nat) D (S.fm:Nat))::ct j.b j.M::E 353 1 j.A (aa j.eN) j.c (J j.eN)::hB j.N::H) Y):O I U args (jG s D S C::H) Y:=
 O.open (ι:=oM) (D:=λj=>rc j S/\j.K=C) (E:=λj=>zP s D j S) (λ_ h=>Hz h) λj W=>R j W.1 W.2
def acy{s I S D}{M:Q}{H}(h:C (jG s I S D::M) H):∃j,(rc j S/\j.K=D)/\C (ah s 246 (iZ j.A (aa j.eN) j.c j.b (aa S.d:Nat) I (S.fm:Nat))::ct j.b j.M::E 353 1 j.A (aa j.eN) j.c (J j.eN)::hB j.N::M) H:=by
 let⟨h1,ae,O,W,Y,U,Z⟩:=h;let⟨j,g,q⟩:=Hz U;exact⟨j,g,C.head (λ_ R=>R▸q) ⟨h1,ae,O,W,Y,rfl,Z⟩⟩
def o6{D M:Q}{s O S n}{I H:Int}{R:bz}(j)(Z:aa j.eN=n)(Y:(aa S.d:Nat)=I)(W:(S.fm:Nat)=H)(ai:J j.eN=R)(g:kY j S)(U:aS D (ah s 246 (iZ j.A n j.c j.b I O H)::ct j.b j.M::E 353 1 j.A n j.c R::hB j.N::M)):aS D (jG s O S j.K::M):=λh am=>by
 subst Z Y W ai;exact C.fold (λh q=>⟨j,⟨g,rfl⟩,q⟩) (U h am)
def ji.mono{L M}(j:aS M L){o}(h:ji L o):ji M o:=λD C=>e6.mono j (h D C)
theorem ji.hB{j:Q}{D:Q}{o:Option gg}(h:ji j o):ji (hB j::D) o:=h.mono λ_ s=>by
 let⟨h1,ae,H,E,I,a,l⟩:=s;exact C.up a E
def kY.FV{j S}(h:kY j S){C}:∀o∈j.eN,ji (hB j.N::C) o:=λo D=>(h.at_ o D).hB
def kY.RJ{C S}(h:kY C S){j}(E:aa S.av.flatten<=j):∀o∈C.eN,aa (opts o)<=j:=λo D=>by
 have h1:=h.pL.J.length_eq;have ae:(opts o).Sublist _:=List.sublist_flatten_of_mem (lm.2 ⟨o,D,rfl⟩)|>λh=>by assumption
 grind
theorem kY.hy{j:oM}{S:c3}(h:kY j S){C:Q}:∀D∈hy j.eN,D.at_ (hB j.N::C):=acM h.FV
theorem kY.fd{j:oM}{S:c3}(h:kY j S)(E:S.av.flatten.Nodup)(C:cS):(k7 C (g9 C (YteinodmjohkmmaaGreat.R.cY.hy j.eN))).Perm (jW C j.M++((S.live).filter (fD C)).map (·.id)):=by
 have h1:=Nn C (D:=hB _:: []) _ h.hy;rw[acO]at h1;apply h1.trans;rw[Oa,<- ez,<- vy];apply EU _ (U7 _ _);apply h.pL.J.trans;have ae:S.live.Perm _:=f8 _;have D:(lA j.M++iv j.M).Perm (ia j.M):=by
  unfold lA iv ia;rw[<- ez];exact EU _ (Le _ _)
 exact h.mp.k.symm.trans (D.symm.trans ((h.mp.iv E).trans ae.symm|>.append_left _))
theorem kY.dead{C S}(h:kY C S)(j):b5 (jW j C.M)=qH j S.d:=by
 rw[Oa];exact JO ((h.mp.d.filter _).map _)
attribute [local irreducible] C bh b6
def Q7{n j}(h:n=0\/2 ^ (n-1)<=j)(C:j<=600):n<=10:=by
 rcases h with h|h
 .omega
 .rcases dZ n 11 with h1|h1
  .omega
  .have:2 ^ 10<=2 ^ (n-1):=E8 ao ad;omega
def Jk{j M:Q}{h}(s:C (j++M) h):C j h:=by
 let⟨h1,ae,E,D,H,n,l⟩:=s.split;exact n.up D
def Zs{D M j:Q}{h}(s:C (hB D::hB M::j) h):C (hB (D++M)::j) h:=by
 have h1:=C.part s;have ae:=h1.perm fA;have an:=C.part ae;have E:C ((D++M)++j) h:=an.perm (by
  rw[<- jm];exact(ep).append_right j)
 exact C.join E
def Zn{j M:Q}(C:aS j M):aS j (hB []::M):=Zm (K:=[]) C
theorem ad7{j}:ji j af:=λC h=>by grind
def adN{j}{S:c3}{C}(E:lr C S.av)(H:j∉S.av.flatten)(Q:fe j=ag)(I:S.av.flatten.Nodup)(O:∀q∈S.av.flatten,fe q=ag)(D):uI (f5 j (C.take D))=0:=by
 have h1:((C.take D).flatMap opts).Sublist (C.flatMap opts):=by
  grind[kk,List.sublist_append_left]
 have ae:=E.J;have U:=j3.2 ⟨λh=>H (ae.mem_iff.1 (h1.subset h)),h1.nodup (ae.nodup_iff.2 I)⟩;have R:(f5 j _).Perm (j::(C.take D).flatMap opts):=f8 _;unfold uI;grind
def QH(s H S U D)(W:Q)(Y:D∉S.av.flatten)(aB:fe D=ag)(aH:S.av.flatten.Nodup)(ar:∀q∈S.av.flatten,fe q=ag)(aL:aa S.av<=50)(aM:aa S.av.flatten<=1000)(aK:S.fm<=1000000000000):
  aY 498 #[I s,D.v] (jG s H S U::W) (.tuple #[]) (jG s H (S.put D) U::W):=by
 apply O.Dh λE j aA=>?_;subst aA;have h1:=j.pL.len;have ae:=j.pL.J.length_eq;refine(acB s _ _ _ _ H _ _ D _ _ _ j.A p j.FV ad ad j.c1 j.c2 (adN j.pL Y aB aH ar) ⟨ao,ad⟩).cr ?_;rintro v aI aD ⟨ai,ap,ah,R,am,rfl,Z,ax,rfl⟩ aF;let⟨aq,aJ⟩:=j.pL.put Z;refine⟨_,bD,?_⟩;have az:kY ⟨ai,ap,E.b,lg _ ah R,f6 D al E.M,am++E.N,E.K⟩ (S.put D):=⟨aq,λo aE=>?_,?_,λ_=>ax,λh s=>j.kept h (Jk (s.perm ep))⟩
 .refine o6 _ p p (H:=(S.fm:Int)+(aa R.l:Nat)) ?_ p az (λh s=>?_) aD aF
  .show((S.fm+om _ _:Nat):Int)= _;omega
  .exact C.bl (λ_ s=>C.bl (λ_ s=>C.bl (λ_ s=>Zs s) s) s) s
 .rcases b9.1 (show o∈gv ah af++ab R::E.eN.drop _ from aE)with h|h
  .grind[ad7]
  .rcases df.1 h with rfl|h
   .intro y aG;cases aG;exact e6.mono (λ_ s=>Jk s) Z.t
   .exact(j.at_ o (Lt h)).mono (λ_ s=>Jk (s.perm ep))
 .exact j.mp.new Y (DX _ _)
section
variable{x:oM}{S:c3}{s:Nat}{bT:Int}{L:Q}(pT:rc x S)(h:aU L s 0 5 (iZ x.A x.eN.length x.c x.b (S.d.length:Nat) bT (S.fm:Nat)))(CV:fL L x.b x.M)
include pT h CV
theorem Ml(E:aa S.live+aa S.d=aa S.av.flatten)(D:aa S.av.flatten<=100000):aY 238 #[I s] L (j (aa S.live:Nat)) L:=by
 have C:=pT.mp.len;have:=acs h CV ad ad;rwa[show aa x.M-aa S.d=aa S.live by omega]at this
theorem Mk(j)(C:S.av.flatten.Nodup):aY 497 #[I s,j.v] L (.bool (decide (j∈S.live))) L:=by
 have:=acA j h CV;rwa[show decide _=decide _ from decide_eq_decide.2 ((pT.mp.PC C).trans c3.mS.symm)]at this
theorem V1(j)(E:S.av.flatten.Nodup):aY 242 #[I s,j.v] L (.tuple #[.bool (decide (j∈S.d)),.bool (decide (j∈S.av.flatten))]) L:=by
 have:=QG j h CV;have C:(dL j x.M).getD al=decide (j∈S.d):=by
  have h1:=pT.mp.PD E (C:=j);cases H:dL j _ with
  |none=>
   simp_all
  |some b=>grind
 have D:(dL j x.M).isSome=decide (j∈S.av.flatten):=by
  have h1:=pT.mp.get_some (p:=j);grind
 rwa[C,D]at this
end
def gq.Dk{S j n}(h:gq S j n)(C:j<=600):aa S.av<=10:=Q7 h.iE C
def Wf(s H S ar C az n)(am:Q)(J:gq S az n)(aL:az<=300)(aM:n<=1000000):
  aY 450 #[I s,C.v] (jG s H S ar::am) (j (jD H S.live C)) (jG s H (S.ins H C) ar::am):=by
 apply O.Dh λD E aB=>?_;subst aB;have U:=yA C;have aF:=J.rO;have aP:=J.hY;have aI:=J.nh;have aK:=J.Dk ad;have aq:=λM h1 ae=>Ml (s:=s) (bT:=H) (L:=M) E h1 ae aF ad;have W:=λM h1 ae=>Mk (s:=s) (bT:=H) (L:=M) E h1 ae C J.fE;have ai:=λM h1 ae=>V1 (s:=s) (bT:=H) (L:=M) E h1 ae C J.fE;have aG:C∈S.live<->C∈S.av.flatten/\C∉S.d:=c3.mS;unfold c3.ins jD;cases ap:fe C with
 |false=>
  rw[ap]at U;rw[bJ p,a8 ao];refine aD ?_;refine bg λY=>?_;apply a9 (U _) _;exact aR bD (dp (o6 D p p p p E.tokY))
 |true=>
  rw[ap]at U;rw[a8 ao]
  by_cases Z:C∈S.live
  .rw[cO Z]at W;rw[bJ Z,a8 ao];refine aD ?_;refine bg λY=>?_;apply a9 (U _) _;apply a9 (W _ cA nu) _;exact aR bD (dp (o6 D p p p p E.tokY))
  .rw[cw Z]at W;rw[a8 Z]
   by_cases ax:H<=aa S.live
   .rw[bJ ax,a8 ao];refine aD ?_;refine bg λY=>?_;apply a9 (U _) _;apply dQ (W _ cA nu) _;apply fK (bE [0,2,3,4,5] (.e 1 (.q 6 (.q 7 .nil)))) _;apply dM (aq _ cA nu) _;exact aR bD (dp (o6 D p p p p E.tokY))
   .rw[a8 ax,bJ p]
    by_cases R:C∈S.d
    .rw[bJ R];rw[cO R]at ai;have aE:=E.mp.back ((E.mp.PD J.fE).2 R);have aO:=Lo R;have aJ:=List.length_erase_of_mem R;refine aD ?_;refine bg λY=>?_;apply a9 (U _) _;apply dQ (W _ cA nu) _;apply fK (bE [0,2,3,4,5] (.e 1 (.q 6 (.q 7 .nil)))) _;apply dM (aq _ cA nu) _;apply a9 (ai _ cA nu) _;refine bF (hD bN p p p (ry p p p aN) ?_);rintro _ _ ⟨rfl,rfl⟩;apply ak _;have aA:kY ⟨D.A,D.c,D.b,D.eN,f6 C al D.M,D.N,D.K⟩ ⟨S.av,S.d.erase C,S.fm⟩:=⟨E.pL,E.at_,aE,E.A,E.kept⟩;exact aR bD (dp (o6 ⟨D.A,D.c,D.b,D.eN,f6 C al D.M,D.N,D.K⟩ p (I:=((aa S.d-1:Nat):Int)) (by show(aa (S.d.erase C):Int)= _;omega) p p aA))
    .rw[a8 R];rw[cw R]at ai;have aH:=λM=>QH s H S D.K C M (λh=>Z (aG.2 ⟨h,R⟩)) ap J.fE J.a7 ad ad ad;refine bt λ{g F}=>?_;apply bg λY=>?_;apply a9 (U _) _;apply a9 (W _ cA nu) _;apply fK (bE [0,2,3,4,5] (.e 1 (.q 6 (.q 7 .nil)))) _;apply dM (aq _ cA nu) _;refine f1 p (ai _ cA nu) ?_;iterate 5 apply ay _
     apply ee _;apply ay _;apply hl _;refine bp (j:=jG s H S D.K::ah Y 42 [j C.id,j C.x,j C.y]::F::am) (dp (o6 D p p p p E.tokY)) ?_;apply ak _;apply a9 (aH _) _;exact aR bD
def acz(s R S ar Y)(Z:Q)(aB:S.av.flatten.Nodup)(aK:∀q∈S.av.flatten,fe q=ag)(bm:aa S.av.flatten<=Y)(aS:Y<=300)(bh:S.fm<=500000000000):
  aY 499 #[I s] (jG s R S ar::Z) (.tuple #[]) (jG s R S.BL ar::Z):=by
 apply O.Dh λD ap aO=>?_;subst aO;have bl:=ap.mp.len;have ax:=λM h=>acn s D.b (aa D.eN) D.c D.A R S.fm (aa S.d) D.M M h ad;have aI:bw aj.less (iv D.M)=S.live:=ou hu (ov hu _) ((f8 _).trans (ap.mp.iv aB));rw[aI]at ax;have aR:S.live.Nodup:=(f8 _).nodup_iff.2 (aB.filter _);have bj:aa S.live<=Y:=by
  have:aa S.live<=aa S.av.flatten:=by unfold c3.live;rw[gV];grind
  omega
 have ai:∀q∈S.live,fe q=ag:=λq aA=>aK q (c3.mS.1 aA).1;unfold c3.BL;generalize S.live=l at*
 refine aD λ{g F}=>?_;apply aP (O.pick aN (ax _ cA)) _;rintro _ _ ⟨aq,ah,rfl,aL,rfl⟩;apply aC _;refine GE (Zc p aN) ?_;rintro _ _ ⟨rfl,rfl⟩;apply ak _;have a3:kY ⟨af,0,D.b,[],[],D.N,D.K⟩ ⟨[],[],S.fm⟩:=⟨rfl,ao,⟨.refl _,.refl _⟩,db,ap.kept⟩;apply bp (E.c7 353 1);refine cL (ι:=Nat) (λC=>[(0,I s),(17,.slice aq (aa l) ah),(18,j (aa l:Nat)),(19,j (C:Nat))]) (λC=>jG s R ((l.take C).foldl c3.put ⟨[],[],S.fm⟩) D.K::E 42 3 aq (aa l) ah (J l)::F::Z) (λC=>C<=aa l) (λC=>aa l-C) 0 (bO _) aZ (dp (o6 ⟨af,0,D.b,[],[],D.N,D.K⟩ p (I:=0) p p p a3)) ?_;rintro C bi;apply ak _;refine c0 p (λaG=>?_) (λaG=>?_)
 .obtain⟨W,rfl⟩:=aL ad;have aJ:l[C]?=ab l[C]:=b8 ad;have a8:l.take (C+1)=l.take C++[l[C]]:=j4 ad;have aA:∀H,Rd (E 42 3 (U W) (aa l) ah (J l)::H) (U W) (aa l) l:=λH=>bf.E (ck _) (λ_=>⟨W,rfl⟩);have bc:∀H,aU (E 42 3 (U W) (aa l) ah (J l)::H) W (0+C*3) 3 [j l[C].id,j l[C].x,j l[C].y]:=λH=>nn p aJ H;have am:(l.take C).Sublist l:=vC _ _;have az:=CP (l.take C) ⟨[],[],S.fm⟩ Y trivial bv (λq h=>ai q (am.subset fs)) p bv (.inl p);have aT:l[C] ∉l.take C:=λh=>by
   grind
  have aQ:=ai l[C] (gG _);have aX:aa (l.take C)=C:=bo;have bb:(l.take (C+1)).foldl c3.put ⟨[],[],S.fm⟩=((l.take C).foldl c3.put ⟨[],[],S.fm⟩).put l[C]:=by rw[a8,List.foldl_append];rfl
  rw[aX]at az;have a0:=am.nodup aR;have aW:∀q∈l.take C,fe q=ag:=λq h=>ai q (am.subset h);generalize(l.take C).foldl c3.put ⟨[],[],S.fm⟩=aE at*
  let⟨aF,aM,bn,a7,bq⟩:=az;simp[oG]at aM;have br:=aM.length_eq;have bt:=Q7 a7 ad;have bz:Y*C<=300*300:=LP aS ad;generalize l[C]=a4 at*
  have aV:=λM=>QH s R aE D.K a4 M (λh=>aT (aM.mem_iff.1 h)) aQ (aM.nodup_iff.2 a0) (λq h=>aW q (aM.mem_iff.1 h)) ad ad bv;apply ak _;refine a6 (gh p (bx bc)) ?_;apply bg λbe=>?_;apply a9 (O.pick aN (aV _)) _;refine b7 (C+1) ad ad aZ ?_;rw[bb];exact au
 .have aH:C=aa l:=ad;subst aH;rw[nN];exact bs (er (D:=[]) (j:=[]) (C:=jG s R (l.foldl c3.put ⟨[],[],S.fm⟩) D.K::Z) p .nil au bD)
def gq.adl{S E n j}(h:gq S E n)(C:j∈S.live):aa (S.mark j).live+aa (S.mark j).d=aa (S.mark j).av.flatten:=by
 have h1:=c3.mS.1 C;refine YteinodmjohkmmaaGreat.R.cY.rO h.fE ?_ ?_
 .show(S.d++[j]).Nodup;rw[(E0 j _).nodup_iff];exact j3.2 ⟨h1.2,h.iy⟩
 .intro q D;rcases b9.1 (show q∈S.d++[j]from D)with ae|ae
  .exact h.pM q ae
  .have:q=j:=bo;rw[this];exact h1.1
def We(s R S aq D ap n)(W:Q)(H:gq S ap n)(aB:ap<=300)(aJ:n<=1000000):
  aY 451 #[I s,D.v] (jG s R S aq::W) (j (qB S.live D)) (jG s R (S.del D) aq::W):=by
 apply O.Dh λC E az=>?_;subst az;have aH:=H.rO;have aL:=H.hY;have aF:=H.nh;have aG:=H.Dk ad;have U:=λM h1 ae=>Mk (s:=s) (bT:=R) (L:=M) E h1 ae D H.fE;unfold c3.del qB
 by_cases J:D∈S.live
 .rw[cO J]at U;rw[bJ J,bJ J];have aE:=H.adl J;have am:aa (S.mark D).d=aa S.d+1:=by show aa (S.d++[D])= _;simp
  have aD:=E.mp.mark ((E.mp.PC H.fE).2 (c3.mS.1 J));have Z:kY ⟨C.A,C.c,C.b,C.eN,f6 D ag C.M,C.N,C.K⟩ (S.mark D):=⟨E.pL,E.at_,aD,E.A,E.kept⟩;have ax:rc ⟨C.A,C.c,C.b,C.eN,f6 D ag C.M,C.N,C.K⟩ (S.mark D):=⟨Z,E.c1,E.c2⟩;have ai:=λM h1 ae=>Ml (s:=s) (bT:=R) (L:=M) ax h1 ae aE (by show aa S.av.flatten<=_;omega);rw[am]at ai;have aI:aa (S.mark D).av.flatten=aa S.av.flatten:=rfl;have aA:=λM=>acz s R (S.mark D) C.K ap M H.fE H.a7 H.hY aB (by show S.fm<=_;omega);have aK:=Lo J
  by_cases ar:aa (S.mark D).d<=aa S.live-1
  .rw[bJ ar];refine bt ?_;refine bg λY=>?_;apply a9 (U _ cA nu) _;refine bF (hD cq p p p (ry p p p aN) ?_);rintro _ _ ⟨rfl,rfl⟩;apply ak _;apply dM (ai _ cA nu) _;exact aR bD (dp (o6 ⟨C.A,C.c,C.b,C.eN,f6 D ag C.M,C.N,C.K⟩ p (I:=((aa S.d+1:Nat):Int)) (by rw[am]) p p Z))
  .rw[a8 ar];refine bt λ{g F}=>?_;apply bg λY=>?_;apply a9 (U _ cA nu) _;refine bF (hD cq p p p (ry p p p aN) ?_);rintro _ _ ⟨rfl,rfl⟩;apply ak _;refine nW p p (ai _ cA nu) ?_;apply bu _;apply fO _;refine gJ p (cO ad) ?_;refine bp (j:=jG s R (S.mark D) C.K::ah Y 42 [j D.id,j D.x,j D.y]::F::W) (dp (o6 ⟨C.A,C.c,C.b,C.eN,f6 D ag C.M,C.N,C.K⟩ p (I:=((aa S.d+1:Nat):Int)) (by rw[am]) p p Z)) ?_;apply ak _;apply a9 (aA _) _;exact aR bD
 .rw[cw J]at U;rw[a8 J,a8 J];refine bt ?_;refine bg λY=>?_;apply a9 (U _ cA nu) _;exact aR bD (dp (o6 C p p p p E.tokY))
end R.cY
namespace R.cY
def gq.abj{S H n I j}(h:gq S H n)(O:H<=300)(D:jD I S.live j=0):(S.ins I j).live.Perm (j::S.live):=by
 have E:j∉S.live:=λE=>by
  unfold jD at D;grind
 rw[E1 (h.ins O).zR (j3.2 ⟨E,h.zR⟩)];intro q;rw[c3.mS,df,c3.mS];unfold c3.ins;rw[bJ D]
 by_cases C:j∈S.d
 .rw[bJ C,h.iy.mem_erase_iff];constructor
  .grind
  .rintro(J|⟨h1,ae⟩)
   .subst J;exact⟨h.pM q C,λan=>an.1 p⟩
   simp_all
 .rw[a8 C];show q∈(j0 _ _).flatten/\q∉S.d<->_;rw[(DX _ _).mem_iff,List.singleton_append,df];grind
def gq.Y6{S D n j}(h:gq S D n)(H:D<=300)(J:j∈S.live):(S.del j).live.Perm (S.live.erase j):=by
 rw[E1 (h.del H).zR (h.zR.erase j)];intro q;rw[h.zR.mem_erase_iff];unfold c3.del;rw[bJ J];have I:q∈(S.mark j).live<->q≠j/\q∈S.live:=by
  rw[c3.mS,c3.mS];show q∈S.av.flatten/\q∉S.d++[j]<->_;grind
 split
 .omega
 .rw[<- I];have R:(S.mark j).live.Nodup:=by
   exact(f8 _).nodup_iff.2 (h.fE.filter _)
  have O:∀C∈(S.mark j).live,C∈S.av.flatten:=λC E=>(c3.mS.1 E).1;have Q:aa (S.mark j).live<=aa S.av.flatten:=by
   unfold c3.live;rw[gV];exact List.length_filter_le _ _
  obtain⟨_,U,W,_,_⟩:=CP (S.mark j).live ⟨[],[],S.fm⟩ D trivial fs (λC E=>h.a7 C (O C fs)) p (by have:=h.hY;grind) (.inl p);rw[c3.mS];show q∈((S.mark j).live.foldl c3.put ⟨[],[],S.fm⟩).av.flatten/\q∉((S.mark j).live.foldl c3.put ⟨[],[],S.fm⟩).d<->_;grind
attribute [local irreducible] C bh b6
section
variable{x:oM}{S:c3}{s:Nat}{bT:Int}{L:Q}(pT:rc x S)(h:aU L s 0 5 (iZ x.A x.eN.length x.c x.b (S.d.length:Nat) bT (S.fm:Nat)))
include pT h
theorem V3(J:Rd L x.A (aa x.eN) x.eN)(W:∀o∈x.eN,ji L o)(R:aa x.eN<=1000):Y 388 #[I s] L λv C=>Made 353 (hy x.eN) L v C:=by
 have O:=λD h1 ae an=>acC s x.b (aa x.eN) x.c x.A bT S.fm (aa S.d) x.eN D h1 ae an ad;generalize hy _=Z at*
 refine aD ?_;refine aP (O _ (bx h) (bx J) (λo U=>by simp_all[ji.ap])) ?_;rintro _ _ ⟨j,E,rfl,H,rfl⟩;apply ak _;exact aR ⟨j,E,rfl,H,rfl⟩
end
end R.cY
namespace R.cY
theorem abg(j l):aa (qH j l)=aa (l.filter (fD j)):=by rw[qH,(nA _).length_eq,jM]
section
variable{x:oM}{S:c3}{s m mc:Nat}{bT:Int}{L:Q}(pT:rc x S)(ok:gq S m mc)(fX:m<=300)(h:aU L s 0 5 (iZ x.A x.eN.length x.c x.b (S.d.length:Nat) bT (S.fm:Nat)))
include pT ok fX h
theorem VY(j):Y 389 #[I s,j.v] (ct x.b x.M::L) λv C=>Made 3 (qH j S.d) (ct x.b x.M::L) v C:=by
 have E:=ok.hY;have D:=pT.mp.len;have:=acq s _ _ _ _ bT _ _ j x.M L h ad;rwa[pT.dead j]at this
variable(aaO:Rd L x.A x.eN.length x.eN)(aaR:∀o∈x.eN,ji L o)
include aaO aaR
end
def acv(D H)(h1:1<=D)(ae:D<=1048576):Y 84 #[j D] H λv J=>∃s,v=.tuple #[I s,j 0]/\J=jG s D ⟨[],[],0⟩ []::H:=
 (acw D H h1 ae).cr λv J R ⟨s,b,O,Q⟩ U=>by
  subst Q;refine⟨_,⟨s,O,rfl⟩,?_⟩;have W:kY ⟨af,0,b,[],[],[],[]⟩ ⟨[],[],0⟩:=⟨rfl,ao,⟨.refl _,.refl _⟩,db,λ_ h=>h⟩;refine o6 _ p rfl p p W (λh s=>?_) R U;exact C.bl (λ_ s=>C.bl (λ_ s=>E.c7 _ 1 _ (Zn cf _ s)) s) s
structure kV where
 w:cS
 tC:Bool
 hY:List Int
 K:List aG
 r:Nat
 k:Nat
structure Bc (y:kV) (j:Q):Prop where
 k:aS j y.K
 t:y.hY.length<=100000
 r:y.k+y.r<=100000
def kq(b:Nat)(j:Q):aG:=λh=>∃y:kV,Bc y j/\C [ku b y.w y.tC y.hY y.K y.r y.k] h
def YR{b}{j C:Q}(D:aS C j):∀h,kq b j h->kq b C h:=λh ⟨y,o,q⟩=>⟨y,⟨λh s=>o.k h (D h s),o.t,o.r⟩,q⟩
def Iz{D E args}{C:Q}{b j H}(R:∀y,Bc y j->O D E args (ku b y.w y.tC y.hY y.K y.r y.k::C) H):O D E args (kq b j::C) H:=
 O.open (ι:=kV) (D:=λy=>Bc y j) (E:=λy=>[ku b y.w y.tC y.hY y.K y.r y.k]) (λ_ h=>h) λy o=>R y o
def Co{R M:Q}{b E D I J H}{O j:Q}(o:Bc ⟨I,J,H,j,E,D⟩ O)(U:aS R (ku b I J H j E D::M)):aS R (kq b O::M):=
 λh W=>C.fold (N:=[_]) (λh q=>⟨⟨I,J,H,j,E,D⟩,o,q⟩) (U h W)
def acr{s H S}{j D:Q}:aS (jG s H S j::D) j:=λh q=>by
 obtain⟨R,⟨g,E⟩,q⟩:=acy q;obtain⟨h1,ae,J,I,O,a,_⟩:=C.tail (C.tail (C.tail q));subst E;exact C.up (g.kept _ a) I
attribute [local irreducible] C bh b6
def afB(b s E S C)(D:Q):Y 644 #[I b,j 1] (kq b C::jG s E S C::D) λv H=>(∃n J,v=.tuple #[j (n:Nat),.bool J])/\H=kq b C::jG s E S C::D:=
 Iz λy o=>(afE b y.r y.k y.w y.tC y.hY y.K (jG s E S C::D) 1 (λh U=>o.k h (acr h U)) (by have:=o.t;omega) (by have:=o.r;omega)).cr λv H W ⟨O,R⟩ q=>⟨_,⟨⟨_,_,O⟩,rfl⟩,by
  subst R;exact Co (D:=y.k+min _ _) ⟨o.k,o.t,by have:=o.r;grind⟩ cT _ q⟩
def aft(b C)(j:Q):Y 641 #[I b] (kq b C::j) λv D=>(∃E,v=.bool E)/\D=kq b C::j:=
 Iz λy o=>(afD b y.r y.k y.w y.tC y.hY y.K j).cr λv D O ⟨H,J⟩ q=>⟨_,⟨⟨_,H⟩,rfl⟩,Co o cT _ (J▸q)⟩
def afx(b C)(D:Q):Y 643 #[I b] (kq b C::D) λv E=>(∃n,v=j n)/\E=kq b C::D:=by
 apply Iz λy o=>?_;obtain⟨ap,aq,am,R,ah,Z⟩:=y;apply O.ku λs l ai J=>?_;apply O.IZ λA c H U W=>?_;refine bt ?_;refine ba rfl ds ?_ ⟨⟨_,rfl⟩,rfl⟩;apply cP;exact aN;apply Co o;exact Cu (s:=s) J (dp (sT H))
end R.cY
end
end Go.Proofs.YteinodmjohkmmaaGreat
