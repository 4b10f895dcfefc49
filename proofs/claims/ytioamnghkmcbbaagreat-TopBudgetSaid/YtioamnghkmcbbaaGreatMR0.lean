/- TopBudget: a part of its proof. -/
import Derived.Test.YtioamnghkmcbbaaGreatMA3
set_option linter.all false
set_option maxRecDepth 100000
set_option maxHeartbeats 4000000
open Bool renaming not_false->oS,not_true->td
open Go.Op renaming equal->dD
open Int renaming eq_ofNat_of_zero_le->Ho,natCast_add->Hr
open List renaming append_assoc->ho,append_nil->dA,concat_eq_append->Hw,countP_cons->kv,countP_le_length->nX,drop_eq_getElem_cons->vu,drop_eq_nil_of_le->HA,drop_length->HB,drop_sublist->vw,eq_nil_of_length_eq_zero->e3,eq_nil_or_concat->BM,filter_congr->tk,filter_eq_nil_iff->lA,flatMap_cons->tm,getElem?_eq_getElem->cb,getElem?_eq_none->ma,getElem?_eq_some_iff->jf,getElem_cons_drop->HK,getElem_map->HL,getElem_mem->hp,length->oT,length_append->bP,length_cons->fc,length_drop->vz,length_map->gL,length_reverse->HM,length_singleton->fD,length_take->lB,map_append->gM,map_reverse->HR,mem_append->cT,mem_filter->gN,mem_flatMap->vB,mem_iff_getElem->BP,mem_map->jg,mem_reverse->oV,mem_singleton->oW,nil_append->mb,nodup_cons->ix,pairwise_append->lE,perm_append_comm->fZ,perm_middle->e4,replicate->gP,reverse_append->mY,reverse_reverse->HX,set_append_right->BS,take_append_drop->jD,take_of_length_le->jE,take_sublist->vC,take_succ_eq_append_getElem->gu,take_zero->BV
open List.Perm renaming append_left->kX,append_right->PY,map->x7
open Nat renaming eq_zero_or_pos->g9,le_refl->bv,le_succ->nZ,le_succ_of_le->qm,le_trans->h0,lt_irrefl->dc,lt_or_ge->eC,zero_add->iQ,zero_le->bu
open Go.RowKit
namespace Go.Proofs.YtioamnghkmcbbaaGreat
noncomputable section
namespace W
attribute [local irreducible] G bf cc
def Ji(Y J K W)(h:dU W Y J)(aI:J.es.length<=maxLen):D E 674 #[.pointer Y,j K] W λv am=>
  (∀I,0<=K->J.es[K.toNat]?=some I->v=.tuple #[.agg #[j I.ag.id,j I.ag.x,j I.ag.y,j I.low,j I.high],.bool true])/\
  (K<0\/J.es.length<=K->v=.tuple #[.agg #[j 0,j 0,j 0,j 0,j 0],.bool false])/\am=W:=by
 refine bH λg F=> ?_;refine bZ ?_;refine aJ ?_;refine aU λar=> ?_;refine ad ?_;refine aL ?_;refine bZ ?_;refine bZ ?_;refine aJ ?_;iterate 3 refine ad ?_
 refine f0 p p p (λG=> ?y568) (λG=> ?n568)
 case' n568=>
  have U:=G;try simp only[decide_eq_true_eq,decide_eq_false_iff_not,td,oS]at U
  refine el p p p G ?_;refine el p p p G ?_;refine el p p p G ?_;refine aD (eP p G p) ?_;refine aL ?_
 case' y568=>
  have U:=G;try simp only[decide_eq_true_eq,decide_eq_false_iff_not,td,oS]at U
  refine ad ?_;refine br p p p G ?_;refine ad ?_;refine br p p p G ?_;refine bw p (jb Y J _ (h.skip.skip)) ?_;refine br p p p G ?_;refine ad ?_;refine aD (eW p G p) ?_;refine aL ?_
 ·refine d3 p (λab=> ?_) (λab=> ?_)
  ·refine bZ ?_;refine aJ ?_;refine ad ?_;refine cF ?_;refine ad ?_;refine aL ?_;simp at ab;refine aj p (.cell p (c7 bS) (.tmp p .nil)) az ⟨λI aa ae=> ?_,λ_=>rfl,rfl⟩;have:=(jf.1 ae).1;omega
  ·simp at ab;obtain⟨O,rfl⟩:=Ho (show 0<=K by omega);have Q:O<J.es.length:=C;cases J with
   |nil=>simp[eu.es]at Q
   |node R aK aG=>
    obtain⟨b,ap,av,aP,aO,rfl,aa,ab,ae,ax,ay,aA⟩:=h;have aC:=aa.at_ (i:=0) p;obtain⟨au,o,rfl,ao⟩:=ab.at_ (by simp[eu.es]at Q;omega);have al:R[O]?=some R[O]:=cb Q;have aE:=ao O _ al;have aH:O<R.length:=by simpa[eu.es]using Q
    generalize R[O]=I at*
    refine fi ?_;refine bZ ?_;refine aJ ?_;iterate 7 refine ad ?_
    refine cF ?_;refine ad ?_;refine aL ?_;refine aj p (.cell p (c7 bS) (.tmp p .nil)) az ⟨λaw ak Z=> ?_,λak=> ?_,rfl⟩
    ·simp[eu.es,al]at Z;subst Z;rfl
    ·simp[eu.es]at ak Q;omega
 ·refine cD p p ?_;refine bZ ?_;refine aJ ?_;refine ad ?_;refine cF ?_;refine ad ?_;refine aL ?_;refine aj p (.cell p (c7 bS) (.tmp p .nil)) az ⟨λI aa _=>absurd U C,λ_=>rfl,rfl⟩
def Mr(C G:hF)(I):D E 608 #[.agg #[j C.ag.id,j C.ag.x,j C.ag.y,j C.low,j C.high],.agg #[j G.ag.id,j G.ag.x,j G.ag.y,j G.low,j G.high]] I λv J=>v=.bool (decide (C.ag.y<G.ag.y))/\J=I:=by
 refine bH λg F=> ?_;refine bZ ?_;refine aJ ?_;refine aU λK=> ?_;refine aU λO=> ?_;refine ad ?_;refine aL ?_;refine bZ ?_;refine aJ ?_;iterate 8 refine ad ?_
 refine aL ?_;refine aj p (.tmp p .nil) az ⟨rfl,rfl⟩
def p5(Z:bA)(n Y W U:Nat)(K:List hF)(ak:cs)(al:Nat->Bool)(O:aG)[b4 E W](ar:Rd O Z n K)(aP:n<=Y)(ax:Y<=maxLen)
  (ay:∀R J,K[R]?=some J->D E W (Value.agg #[j J.ag.id,j J.ag.x,j J.ag.y,j J.low,j J.high]::ak).toArray O λv ae=>v=.bool (al R)/\ae=O)
  (aC:U<=n) (aE:∀R,R<n->al R=decide (U<=R)):
  D E 618 #[.slice Z n Y,.func (.func W) #[] ak.toArray] O λv ae=>v=j U/\ae=O:=by
 unfold maxLen at ax;have aQ:K.length=n:=ar.len bs;refine bH λg F=> ?_;refine bZ ?_;refine aJ ?_;refine ad ?_;refine aL ?_;refine bZ ?_;refine aJ ?_;iterate 4 refine ad ?_
 refine aL ?_;refine bZ ?_;refine yn ?_;refine cJ (ι:=Nat×Nat) (λI=>[(0,.slice Z n Y),(1,.func (.func W) #[] ak.toArray),(5,j (I.1:Nat)),(6,j (I.2:Nat))]) (λ_=>F::O) (λI=>I.1<=U/\U<=I.2/\I.2<=n) (λI=>I.2-I.1) (0,n) ⟨bu _,aC,bv _⟩ a8 az ?_;rintro⟨G,b⟩ ⟨aa,ab,am⟩;simp only at aa ab am;refine bZ ?_;refine bZ ?_;refine aJ ?_;iterate 3 refine ad ?_
 refine aL ?_;refine cp p (λav=> ?_) (λav=> ?_)
 ·obtain⟨aK,o,rfl,aH⟩:=ar.at_ C;have aA:G+(b-G)/2<K.length:=C;have ap:K[G+(b-G)/2]?=some K[G+(b-G)/2]:=cb aA;have aO:=aH _ _ ap;have aw:=ay _ _ ap;have ao:=aE (G+(b-G)/2) C;generalize K[G+(b-G)/2]=J at*
  refine fi ?_;refine yn ?_;refine bZ ?_;refine aJ ?_;iterate 4 refine ad ?_
  (first|refine aD (kH (q:=2) p p ah ah) ?_|refine aD (hQ p p ah ah ah) ?_)
  iterate 2 refine ad ?_
  refine aL ?_;refine bZ ?_;refine aJ ?_;iterate 5 refine ad ?_
  refine GE (eV p p (D.frame [F] aw (λ_ s=>s))) ?_;rintro _ _ ⟨aI,⟨rfl,rfl⟩,rfl⟩;refine aL ?_;refine d3 p (λQ=> ?_) (λQ=> ?_)
  ·rw[ao]at Q;simp at Q;refine aJ ?_;iterate 2 refine ad ?_
   refine aL ?_;refine gk ?_;exact bM (G,G+(b-G)/2) ⟨aa,Q,C⟩ (by simp only;omega) a8 az
  ·rw[ao]at Q;simp at Q;refine aJ ?_;iterate 3 refine ad ?_
   refine aL ?_;refine gk ?_;exact bM (G+(b-G)/2+1,b) ⟨by simp only;omega,ab,am⟩ (by simp only;omega) a8 az
 ·have au:G=U:=C;subst au;refine Iv p ?_;refine bZ ?_;refine aJ ?_;iterate 2 refine ad ?_
  refine aL ?_;refine aj p (.tmp p .nil) az ⟨rfl,rfl⟩
def oN(l E:List hF)(C D:Nat):Bool:=
 match l[C]?,E[D]? with
 |some j,some b=>decide (up j.ag b.ag<=0)
 |some _,none=>true
 |none,_=>false
def ZI(aH ax I U aO aI Y av n J W O)(ar:aB O aH 0 3 [R ax,j (I:Nat),j (U:Nat)])
  (aC:aB O ax 0 3 [.slice aI n aO,.pointer Y,.pointer av]) (ak:dU O Y J) (aG:dU O av W):
  D E 611 #[R aH] O λv aK=>v=.bool (oN J.es W.es I U)/\aK=O:=by
 have ba:=ar.at_ (i:=0) p;have bb:=ar.at_ (i:=1) p;have bc:=ar.at_ (i:=2) p;have a5:=aC.at_ (i:=1) p;have a6:=aC.at_ (i:=2) p;refine bH λg F=> ?_;refine bZ ?_;refine K ?_;refine aL ?_;refine bZ ?_;refine bZ ?_;refine aW (aE [0,1,2,3,4,5,6,7,8,9,10] (.e 11 (aE [12,13,14,15,16,17,18,19,20,21,22,23,24] (.e 25 (.q 26 (.q 27 .nil)))))) ?_;iterate 11 refine ai ?_
 refine cU p p (jb Y J _ ak.skip) ?_;iterate 2 refine ai ?_
 refine n6 (C:=16) false p (λG=> ?y569) (λG=> ?n569)
 case' n569=>
  have al:=G;try simp only[decide_eq_true_eq,decide_eq_false_iff_not,td,oS]at al
  refine cw aT p p p ⟨_,rfl,G⟩ p ?_;refine cw aT p p p ⟨_,rfl,G⟩ p ?_;refine cw aT p p p ⟨_,rfl,G⟩ p ?_;refine cw aT p p p ⟨_,rfl,G⟩ p ?_;refine cw aT p p p ⟨_,rfl,G⟩ p ?_;refine cw aT p p p ⟨_,rfl,G⟩ p ?_;refine cw aT p p p ⟨_,rfl,G⟩ p ?_;refine cw aT p p p ⟨_,rfl,G⟩ p ?_;refine cw aT p p p ⟨_,rfl,G⟩ p ?_;refine cw aT p p p ⟨_,rfl,G⟩ p ?_;refine cw aT p p p ⟨_,rfl,G⟩ p ?_;refine an (gy p p p ⟨_,rfl,G⟩ p ?_);refine cw aT p p p ⟨_,rfl,G⟩ p ?_;refine dd p (eP p G p) ?_;refine dl ?_
 case' y569=>
  have al:=G;try simp only[decide_eq_true_eq,decide_eq_false_iff_not,td,oS]at al
  refine b0 aT p p p p ⟨_,rfl,G⟩ p (fv p) ?_
  (first|refine b0 aT p p p p ⟨_,rfl,G⟩ p (sc p) ?_|refine b0 aT p p p p ⟨_,rfl,G⟩ p (pz Q p) ?_)
  refine b0 aT p p p p ⟨_,rfl,G⟩ p (iE p) ?_;refine fF aT p p p p ⟨_,rfl,G⟩ p (d6 p dX) ?_;refine b0 aT p p p p ⟨_,rfl,G⟩ p (fv p) ?_
  (first|refine b0 aT p p p p ⟨_,rfl,G⟩ p (sc p) ?_|refine b0 aT p p p p ⟨_,rfl,G⟩ p (pz Q p) ?_)
  refine b0 aT p p p p ⟨_,rfl,G⟩ p (iE p) ?_;refine fF aT p p p p ⟨_,rfl,G⟩ p (d6 p dX) ?_
  (first|refine b0 aT p p p p ⟨_,rfl,G⟩ p (sc p) ?_|refine b0 aT p p p p ⟨_,rfl,G⟩ p (pz Q p) ?_)
  refine b0 aT p p p p ⟨_,rfl,G⟩ p (iE p) ?_;refine fF aT p p p p ⟨_,rfl,G⟩ p (d6 p dX) ?_;refine an (f9 p p p ⟨_,rfl,G⟩ p (aw p (jb av W _ aG.skip)) ?_);rintro _ _ ⟨rfl,rfl⟩;refine cM ?_;refine b0 aT p p p p ⟨_,rfl,G⟩ p (zF p p) ?_;refine dd p (eW p G p) ?_;refine dl ?_
 ·refine d3 p (λab=> ?_) (λab=> ?_)
  ·refine bZ ?_;refine aW (aE [0,1,2,3,4,5,6,7,8,9,10] (.e 11 (.q 12 (.q 13 .nil)))) ?_;iterate 11 refine ai ?_
   refine cU p p (jb Y J _ ak.skip) ?_;refine K ?_;refine aj p (.tmp p .nil) az ⟨?_,rfl⟩;simp at ab;simp only[bG,oN,cb (show I<J.es.length by omega),ma (show W.es.length<=U by omega)];simp;omega
  ·simp at ab;have ap:I<J.es.length:=C;have au:U<W.es.length:=C;refine fi ?_;refine bZ ?_;cases J with
   |nil=>simp[eu.es]at ap
   |node am bd be=>
    cases W with
    |nil=>simp[eu.es]at au
    |node ao bi bj=>
     simp only[eu.es]at ap au ⊢;obtain⟨bg,bf,bh,_,_,rfl,aX,aY,bk,bl,_⟩:=ak;obtain⟨a8,a7,a9,_,_,rfl,a1,a2,bp,bq,_⟩:=aG;have bm:=aX.at_ (i:=0) p;have bs:=a1.at_ (i:=0) p;obtain⟨aS,aV,rfl,aZ⟩:=aY.at_ C;obtain⟨aP,aQ,rfl,a3⟩:=a2.at_ C;have ay:am[I]?=some am[I]:=cb ap;have aA:ao[U]?=some ao[U]:=cb au;have a0:=aZ _ _ ay;have a4:=a3 _ _ aA;generalize am[I]=Z at*
     generalize ao[U]=ae at*
     have bn:aB O aS (aV+I*5) 3 [j Z.ag.id,j Z.ag.x,j Z.ag.y]:=a0.part 3 p;have bt:aB O aP (aQ+U*5) 3 [j ae.ag.id,j ae.ag.x,j ae.ag.y]:=a4.part 3 p;refine aW (aE [0,1,2,3,4,5,6,7,8,9,10,11,12,13,14,15,16,17,18,19,20,21,22,23,24,25,26,27,28,29,30,31,32,33] (.e 34 (.q 35 (.q 36 .nil)))) ?_;iterate 34 refine ai ?_
     refine cU p p (GL Z.ag ae.ag _) ?_;refine K ?_;refine aj p (.tmp p .nil) az ⟨?_,rfl⟩;simp[bG,oN,ay,aA]
 ·refine cD p p ?_;refine bZ ?_;refine aW (aE [0,1,2,3,4,5,6,7,8,9,10] (.e 11 (.q 12 (.q 13 .nil)))) ?_;iterate 11 refine ai ?_
  refine cU p p (jb Y J _ ak.skip) ?_;refine K ?_;refine aj p (.tmp p .nil) az ⟨?_,rfl⟩;simp at al;simp only[bG,oN,ma (show J.es.length<=I by omega)];simp;omega
def WB{j C:Nat}{l D:List hF}{E:hF}(G:l[j]?=some E)(J:oN l D j C=true):
  dJ j C ((l.map (·.ag)).drop j) ((D.map (·.ag)).drop C)=⟨E.ag,j,C⟩::dJ ((j+1:Nat):Int) C ((l.map (·.ag)).drop (j+1)) ((D.map (·.ag)).drop C):=by
 obtain⟨aa,rfl⟩:=jf.1 G;rw[vu (show j< (l.map _).length by simp_all)];rw[Wz,HL,Hr];rfl;intro b O I;have ab:((D.map (·.ag)).drop C)[0]?=some b:=by simp_all
 simp at ab;obtain⟨Q,K,rfl⟩:=ab;simp_all[oN]
def WC{C j:Nat}{l D:List hF}{b:hF}(G:D[j]?=some b)(J:oN l D C j=false):
  dJ C j ((l.map (·.ag)).drop C) ((D.map (·.ag)).drop j)=⟨b.ag,C,j⟩::dJ C ((j+1:Nat):Int) ((l.map (·.ag)).drop C) ((D.map (·.ag)).drop (j+1)):=by
 obtain⟨aa,rfl⟩:=jf.1 G;rw[vu (show j< (D.map _).length by simp_all)];rw[WA,HL,Hr];rfl;intro E O I;have ab:((l.map (·.ag)).drop C)[0]?=some E:=by simp_all
 simp at ab;obtain⟨Q,K,rfl⟩:=ab;simp_all[oN]
def Zg(av W I G aA ay ax aw n Y U aC al)(bd:dU al ax Y)(bc:dU al aw U)(bE:n<=1000000)(bi:I<=Y.es.length)(bj:G<=U.es.length)(bF:Y.es.length<=1000000)(bJ:U.es.length<=1000000):
  D E 603 #[R av]
   (ae av 634 [R W,j (I:Nat),j (G:Nat)]::ae W 527 [.slice ay n aA,.pointer ax,.pointer aw]::own 529 5 ay n aA (flat aC)::al) λv bb=>
   (I=Y.es.length/\G=U.es.length/\v=.bool false/\bb=(ae av 634 [R W,j (I:Nat),j (G:Nat)]::ae W 527 [.slice ay n aA,.pointer ax,.pointer aw]::own 529 5 ay n aA (flat aC)::al))\/
   ∃J aH aK aQ aO,v=.bool true/\aH+aK=I+G+1/\aH<=Y.es.length/\aK<=U.es.length/\n+1<=aO/\aO<=maxLen/\(0<n+1->∃b,aQ=(ak b))/\dJ I G (Y.au.drop I) (U.au.drop G)=J::dJ (aH:Nat) (aK:Nat) (Y.au.drop aH) (U.au.drop aK)/\
    bb=(ae av 634 [R W,j (aH:Nat),j (aK:Nat)]::ae W 527 [.slice aQ (n+1) aO,.pointer ax,.pointer aw]::own 529 5 aQ (n+1) aO (flat (aC++[J]))::al):=by
 refine ap λg F=> ?_;refine aL ?_;refine aW (aE [0,1,2,3,4,5,6,7,8] (.e 9 (.e 10 .nil))) ?_;iterate 9 refine ai ?_
 refine hu λbz=> ?_;refine an (cj O p p p (f1 p p p p cd) ?_);rintro _ _ ⟨rfl,rfl⟩;refine K ?_;refine a9 (ZI av W I G aA ay ax aw n Y U _ bS bS (by repeat' first|assumption|apply dU.skip) (by repeat' first|assumption|apply dU.skip)) ?_;refine af ?_;refine d3 p (λaa=> ?_) (λaa=> ?_)
 ·
  have Z:I<Y.es.length:=by
   grind[eC,oN,ma]
  cases Y with
  |nil=>simp[eu.es]at Z
  |node am a2 a3=>
   have bC:=bd;obtain⟨aP,bk,bl,bm,bn,rfl,a6,a7,bp,bq,_⟩:=bd;simp only[eu.es]at Z;have bs:=a6.at_ (i:=0) p;obtain⟨a4,a5,rfl,a8⟩:=a7.at_ C;have aG:am[I]?=some am[I]:=cb Z;have a0:=WB aG aa;have ba:=a8 _ _ aG;generalize am[I]=J at*
   have bt:aB al a4 (a5+I*5) 3 [j J.ag.id,j J.ag.x,j J.ag.y]:=ba.part 3 p;refine aW (aE [0,1,2,3,4,5,6,7,8,9,10,11,12,13,14,15,16,17] (.e 18 .nil)) ?_;iterate 18 refine ai ?_
   refine an (cj O p p p (f1 p p p p cd) ?_);rintro _ _ ⟨rfl,rfl⟩;refine K ?_;refine aL ?_;refine hr 4 (aE [0,1,2,3,4,5,6,7,8,9,10,11] (.e 12 (.e 13 (.q 14 (.q 15 (.e 16 .nil)))))) ?_;iterate 12 refine ai ?_
   refine an (a1 p p p (e8 aZ p p) ?_);rintro _ _ ⟨be,rfl,rfl⟩;refine bg ?_;refine an (a1 p p p (bx p p aI cn (cS p) aZ Q ah ah) ?_);rintro _ _ ⟨ao,ar,rfl,aV,aX,aY,rfl⟩;refine bg ?_;iterate 2 refine ai ?_
   refine an (cj O p p p (c5 p p p cd) ?_);rintro _ _ ⟨rfl,rfl⟩;refine K ?_;refine af ?_;refine aj (C:=ae av 634 [R W,j ((I+1:Nat):Int),j (G:Nat)]::ae W 527 [.slice ao (n+1) ar,R aP,.pointer aw]::own 529 5 ao (n+1) ar (flat (aC++[⟨J.ag,I,G⟩]))::al) p (.tmp p .nil) ?_ (.inr ⟨⟨J.ag,I,G⟩,I+1,G,ao,ar,rfl,C,Z,bj,aV,aX,aY,a0,rfl⟩);rw[<- gm];refine bR (.skip (.skip (.skip (.here)))) ?_;refine bR (.skip (.skip (.skip (.here)))) ?_;refine bR (.skip (.skip (.skip (.here)))) ?_;refine bR (.here) ?_;exact az
 ·rcases eC G U.es.length with Z|bA
  ·cases U with
   |nil=>simp[eu.es]at Z
   |node am a2 a3=>
    have bB:=bc;obtain⟨aP,bk,bl,bm,bn,rfl,a6,a7,bp,bq,_⟩:=bc;simp only[eu.es]at Z;have bs:=a6.at_ (i:=0) p;obtain⟨a4,a5,rfl,a8⟩:=a7.at_ C;have aG:am[G]?=some am[G]:=cb Z;have a0:=WC aG aa;have ba:=a8 _ _ aG;have aS:G< (eu.node am a2 a3).es.length:=Z;generalize am[G]=J at*
    have bt:aB al a4 (a5+G*5) 3 [j J.ag.id,j J.ag.x,j J.ag.y]:=ba.part 3 p;refine aW (aE [0,1,2,3,4,5,6,7,8,9,10] (.e 11 (.q 12 (.q 13 .nil)))) ?_;iterate 11 refine ai ?_
    refine cU p p (jb (ak aP) (.node am a2 a3) _ (by repeat' first|assumption|apply dU.skip)) ?_;iterate 2 refine ai ?_
    refine cK ?_;refine cD p (decide_eq_true aS) ?_;refine aW (aE [0,1,2,3,4,5,6,7,8,9,10,11,12,13,14,15,16,17] (.e 18 .nil)) ?_;iterate 18 refine ai ?_
    refine an (cj O p p p (f1 p p p p cd) ?_);rintro _ _ ⟨rfl,rfl⟩;refine K ?_;refine aL ?_;refine hr 4 (aE [0,1,2,3,4,5,6,7,8,9,10,11] (.e 12 (.e 13 (.q 14 (.q 15 (.e 16 .nil)))))) ?_;iterate 12 refine ai ?_
    refine an (a1 p p p (e8 aZ p p) ?_);rintro _ _ ⟨be,rfl,rfl⟩;refine bg ?_;refine an (a1 p p p (bx p p aI cn (cS p) aZ Q ah ah) ?_);rintro _ _ ⟨ao,ar,rfl,aV,aX,aY,rfl⟩;refine bg ?_;iterate 2 refine ai ?_
    refine an (cj O p p p (c5 p p p cd) ?_);rintro _ _ ⟨rfl,rfl⟩;refine K ?_;refine af ?_;refine aj (C:=ae av 634 [R W,j (I:Nat),j ((G+1:Nat):Int)]::ae W 527 [.slice ao (n+1) ar,.pointer ax,R aP]::own 529 5 ao (n+1) ar (flat (aC++[⟨J.ag,I,G⟩]))::al) p (.tmp p .nil) ?_ (.inr ⟨⟨J.ag,I,G⟩,I,G+1,ao,ar,rfl,by rfl,bi,Z,aV,aX,aY,a0,rfl⟩);rw[<- gm];refine bR (.skip (.skip (.skip (.here)))) ?_;refine bR (.skip (.skip (.skip (.here)))) ?_;refine bR (.skip (.skip (.skip (.here)))) ?_;refine bR (.here) ?_;exact az
  ·have bf:I=Y.es.length:=by
    grind[eC,oN,cb,ma]
   have bh:G=U.es.length:=C;have aS: ¬G<U.es.length:=C;refine aW (aE [0,1,2,3,4,5,6,7,8,9,10] (.e 11 (.q 12 (.q 13 .nil)))) ?_;iterate 11 refine ai ?_
   refine cU p p (jb aw U _ (by repeat' first|assumption|apply dU.skip)) ?_;iterate 2 refine ai ?_
   refine cK ?_;refine b2 p (decide_eq_false aS) ?_;refine bI ?_;exact(.inl ⟨bf,bh,rfl,rfl⟩)
def TZ(C I:hF)(J K G)(aa:aR G ⟨J,0,none⟩ (.func (.func 608) #[] #[]))(ab:aB G K 0 5 (e5.nq I)):
  D E 619 #[.agg #[j C.ag.id,j C.ag.x,j C.ag.y,j C.low,j C.high],R J,R K] G λv O=>v=.bool (!decide (C.ag.y<I.ag.y))/\O=G:=by
 refine ap λg F=> ?_;refine aS λQ=> ?_;refine GE (eV p p (Mr C I _)) ?_;rintro _ _ ⟨rfl,rfl⟩;refine aD (cL p) ?_;exact dq
def v9(C I:hF)(J K G)(aa:aR G ⟨J,0,none⟩ (.func (.func 608) #[] #[]))(ab:aB G K 0 5 (e5.nq I)):
  D E 620 #[.agg #[j C.ag.id,j C.ag.x,j C.ag.y,j C.low,j C.high],R J,R K] G λv O=>v=.bool (decide (I.ag.y<C.ag.y))/\O=G:=by
 refine ap λg F=> ?_;refine aS λQ=> ?_;refine GE (eV p p (Mr I C _)) ?_;rintro _ _ ⟨rfl,rfl⟩;exact dq
def T3(O n K J)(R:List hF)(C:hF)(Q)(ao:Rd Q O n R)(ae:n<=K)(ak:K<=maxLen)(al:J<=n)(am:∀G I,R[G]?=some I->(decide (I.ag.y<C.ag.y)=decide (G<J))):
  D E 614 #[.slice O n K,.agg #[j C.ag.id,j C.ag.x,j C.ag.y,j C.low,j C.high],.func (.func 608) #[] #[]] Q λv U=>v=j J/\U=Q:=by
 refine ap λg F=> ?_;refine aU λY=> ?_;refine aS λZ=> ?_;refine a9 (p5 O n K _ J R _ _ _ ao.skip.skip.skip ae ak (λG I W=>(TZ I C Z Y _ dX bS).mono (λv U h=>by rw[am G I W]at h;exact h)) al (λG W=>by by_cases h:G<J<;>simp[h]<;>omega)) ?_;refine af ?_;refine aj p (.tmp p .nil) az ⟨rfl,rfl⟩
def po(O n J K)(R:List hF)(C:hF)(Q)(ao:Rd Q O n R)(ae:n<=J)(ak:J<=maxLen)(al:K<=n)(am:∀I G,R[I]?=some G->(decide (C.ag.y<G.ag.y)=decide (K<=I))):
  D E 615 #[.slice O n J,.agg #[j C.ag.id,j C.ag.x,j C.ag.y,j C.low,j C.high],.func (.func 608) #[] #[]] Q λv U=>v=j K/\U=Q:=by
 refine ap λg F=> ?_;refine aU λY=> ?_;refine aS λZ=> ?_;refine a9 (p5 O n J _ K R _ _ _ ao.skip.skip.skip ae ak (λI G W=>(v9 G C Z Y _ dX bS).mono (λv U h=>by rw[am I G W]at h;exact h)) al (λI W=>rfl)) ?_;refine af ?_;refine aj p (.tmp p .nil) az ⟨rfl,rfl⟩
def Qj(J n G I)(O:List hF)(C:hF)(K)(ak:Rd K J n O)(W:n<=G)(Y:G<=maxLen)(Z:I<=n)(ae:∀R Q,O[R]?=some Q->(decide (Q.ag.y<C.ag.y)=decide (R<I))):
  D E 607 #[.slice J n G,.agg #[j C.ag.id,j C.ag.x,j C.ag.y,j C.low,j C.high],.func (.func 608) #[] #[]] K λv U=>v=j I/\U=K:=by
 refine ap λg F=> ?_;refine aS λal=> ?_;refine a9 (T3 J n G I O C _ ak.skip.skip W Y Z ae) ?_;refine af ?_;refine aj p (.tmp p .nil) az ⟨rfl,rfl⟩
def P5(J n G I)(O:List hF)(C:hF)(K)(ak:Rd K J n O)(W:n<=G)(Y:G<=maxLen)(Z:I<=n)(ae:∀R Q,O[R]?=some Q->(decide (C.ag.y<Q.ag.y)=decide (I<=R))):
  D E 609 #[.slice J n G,.agg #[j C.ag.id,j C.ag.x,j C.ag.y,j C.low,j C.high],.func (.func 608) #[] #[]] K λv U=>v=j I/\U=K:=by
 refine ap λg F=> ?_;refine aS λal=> ?_;refine a9 (po J n G I O C _ ak.skip.skip W Y Z ae) ?_;refine af ?_;refine aj p (.tmp p .nil) az ⟨rfl,rfl⟩
def ec(y:Int)(j:I):Bool:=decide (j.y<y)
def ek(y:Int)(j:I):Bool:=decide (j.y<=y)
def Jq(y):tz (ec y):=λC q h j=>by simp[ec]at*;omega
def PG(y):tz (ek y):=λC q h j=>by simp[ek]at*;omega
def Q5(I C y G)(h:dU G I C)(ae:Ord C.au):
  D E 596 #[.pointer I,j y] G λv O=>v=j (C.au.countP (ec y):Nat)/\O=G:=by
 have Z:C.au.countP (ec y)<=C.es.length:=by have:=nX (p:=ec y) (l:=C.au);rwa[eu.au,gL]at this
 refine ap λg F=> ?_;refine GE (aw p (Kl I C _ (by repeat' first|assumption|apply dU.skip))) ?_;rintro _ _ ⟨⟨K,Q,rfl,ak,U,W⟩,rfl⟩;iterate 3 refine ad ?_
 refine a9 (Qj K _ Q _ _ ⟨⟨0,0,y⟩,0,0⟩ _ ak U W Z (λJ R Y=>by have:=Fi (Jq y) _ ae J R.ag (by simp[eu.au,Y]);by_cases al:J<C.au.countP (ec y)<;>simp[ec]at this ⊢ <;>simp[this])) ?_;refine af ?_;refine aj p (.tmp p .nil) az ⟨rfl,rfl⟩
def Q4(I C y G)(h:dU G I C)(ae:Ord C.au):
  D E 597 #[.pointer I,j y] G λv O=>v=j (C.au.countP (ek y):Nat)/\O=G:=by
 have Z:C.au.countP (ek y)<=C.es.length:=by have:=nX (p:=ek y) (l:=C.au);rwa[eu.au,gL]at this
 refine ap λg F=> ?_;refine GE (aw p (Kl I C _ (by repeat' first|assumption|apply dU.skip))) ?_;rintro _ _ ⟨⟨K,Q,rfl,ak,U,W⟩,rfl⟩;iterate 3 refine ad ?_
 refine a9 (P5 K _ Q _ _ ⟨⟨0,0,y⟩,0,0⟩ _ ak U W Z (λJ R Y=>by have:=Fi (PG y) _ ae J R.ag (by simp[eu.au,Y]);by_cases al:J<C.au.countP (ek y)<;>simp[ek]at this ⊢ <;>omega)) ?_;refine af ?_;refine aj p (.tmp p .nil) az ⟨rfl,rfl⟩
def QL(C G):D E 587 #[.agg #[j C.id,j C.x,j C.y]] G λv O=>∃q J,v=.pointer q/\O=J++G/\dU (J++G) q (wU C):=by
 refine bH λg F=> ?_;refine aJ ?_;refine aU λQ=> ?_;refine ad ?_;refine bD ?_;iterate 2 refine ad ?_
 refine aU λI=> ?_;refine ad ?_;refine aU λK=> ?_;refine ad ?_;refine af ?_;refine aj (C:=[ae K 527 [.slice (ak I) 1 1,.pointer none,.pointer none],ae I 529 (e5.nq (⟨C,0,0⟩:hF))]++G) p (.tmp p .nil) ?_ ⟨_,_,rfl,rfl,?_⟩
 ·refine bR (.skip (.skip (.skip (.here)))) ?_;refine bR (.here) ?_;refine bR (.here) ?_;exact az
 ·refine⟨K,(ak I),1,none,none,rfl,aB.ae p,?_,bv _,by simp[maxLen],rfl,rfl⟩;refine aM.skip (aM.ae p)
def QD(U W J I K)(am:dU K U J)(al:dU K W I)(aa:J.es.length<=100000)(ab:I.es.length<=100000):D E 588 #[.pointer U,.pointer W] K λv aQ=>∃q aA,v=.pointer q/\aQ=aA++K/\dU (aA++K) q (join J I):=by
 by_cases ar:J=.nil/\I=.nil
 ·obtain⟨rfl,rfl⟩:=ar;cases am;cases al;refine bH λg F=> ?_;refine aJ ?_;refine ad ?_;refine bD ?_;iterate 6 refine ad ?_
  refine f7 ?_;refine aJ ?_;refine ad ?_;refine af ?_;refine aj (C:=[]++K) p (.tmp p .nil) az ⟨_,_,rfl,rfl,rfl⟩
 ·have a6:join J I=.node (dJ 0 0 J.au I.au) J I:=by cases J<;>cases I<;>first|rfl|exact absurd ⟨rfl,rfl⟩ ar
  have a7:(U.isNone&&W.isNone)=false:=by
   cases J with
   |node aY ax ay=>obtain⟨b,Y,Z,aH,aP,rfl,_⟩:=am;rfl
   |nil=>
    cases I with
    |node aY ax ay=>obtain⟨b,Y,Z,aH,aP,rfl,_⟩:=al;cases U<;>rfl
    |nil=>exact absurd ⟨rfl,rfl⟩ ar
  have ax:J.au.length=J.es.length:=gL ..;have ay:I.au.length=I.es.length:=gL ..;refine bH λg F=> ?_;refine aJ ?_;refine ad ?_;refine bD ?_;iterate 3 refine ad ?_
  refine f0 p p p (λQ=> ?y570) (λQ=> ?n570)
  case' n570=>
   have av:=Q;try simp only[decide_eq_true_eq,decide_eq_false_iff_not,td,oS]at av
   refine el p p p Q ?_;refine aD (eW p Q p) ?_;refine aL ?_
  case' y570=>
   have av:=Q;try simp only[decide_eq_true_eq,decide_eq_false_iff_not,td,oS]at av
   refine ad ?_;refine br p p p Q ?_;refine ad ?_;refine aD (eP p Q p) ?_;refine aL ?_
  refine aF ?_;refine b2 p (by simpa[Q]using a7) ?_
  rotate_left
  refine iT ?_
  all_goals
   refine aJ ?_;iterate 3 refine ad ?_
   refine aU λag=> ?_;refine ad ?_;refine aU λao=> ?_;refine ad ?_;refine af ?_;refine b5 (own.nil_ 529 5) ?_;refine cJ (ι:=Nat×Nat×Option Addr×Nat×List hF) (λG=>[(5,R ao)]) (λG=>ae ao 634 [R ag,j (G.1:Nat),j (G.2.1:Nat)]::ae ag 527 [.slice G.2.2.1 G.2.2.2.2.length G.2.2.2.1,.pointer U,.pointer W]::own 529 5 G.2.2.1 G.2.2.2.2.length G.2.2.2.1 (flat G.2.2.2.2)::F::K)
    (λG=>G.1<=J.es.length/\G.2.1<=I.es.length/\G.1+G.2.1=G.2.2.2.2.length/\G.2.2.2.2.length<=G.2.2.2.1/\G.2.2.2.1<=maxLen/\(0<G.2.2.2.2.length->∃b,G.2.2.1=(ak b))/\G.2.2.2.2++dJ G.1 G.2.1 (J.au.drop G.1) (I.au.drop G.2.1)=dJ 0 0 J.au I.au) (λG=>J.es.length+I.es.length-(G.1+G.2.1)) (0,0,none,0,[]) ⟨bu _,bu _,rfl,bv _,bu _,λh=>absurd h (dc 0),rfl⟩ ⟨rfl,trivial⟩ ?_ ?_
   ·refine bR (.skip (.here)) ?_;refine bR (.skip (.here)) ?_;refine bR (.here) ?_;refine bR (.here) ?_;exact az
   ·rintro⟨a9,bb,Y,Z,O⟩ ⟨aC,aE,aZ,aG,aI,aK,ap⟩;simp only at aC aE aZ aG aI aK ap;refine aJ ?_;refine ad ?_;refine GE (aw p (D.frame [F] (Zg ao ag a9 bb Z Y U W O.length J I O K am al C aC aE C C) (bR (.skip (.skip (.skip .here))) bo))) ?_;rintro _ _ ⟨bd,a8,rfl⟩;refine aL ?_;rcases a8 with ⟨aW,aX,rfl,rfl⟩|⟨aV,ba,bc,aO,aS,rfl,be,a0,a1,bf,a2,a3,a4,rfl⟩
    ·refine aF ?_;refine b2 p p ?_;have a5:O=dJ 0 0 J.au I.au:=by
      rw[<- ap,aW,aX,<- ax,<- ay,HB,HB,dJ,dA]
     refine aJ ?_;iterate 5 refine ad ?_
     refine af ?_;refine aj (C:=[ae ag 527 [.slice Y O.length Z,.pointer U,.pointer W],own 529 5 Y O.length Z (flat O)]++K) p (.tmp p .nil) ?_ ⟨_,_,rfl,rfl,?_⟩
     ·refine bR (.here) ?_;refine bR (.skip (.here)) ?_;refine bR (.skip (.here)) ?_;exact az
     ·rw[a6,<- a5];refine⟨ag,Y,Z,U,W,rfl,aB.ae p,?_,aG,aI,am.skip.skip,al.skip.skip⟩;exact aM.skip (aM.own (bU O) aK)
    ·refine aF ?_;refine cD p p ?_;refine aF ?_;exact bM (ba,bc,aO,aS,O++[aV]) ⟨a0,a1,by simp;omega,by simp;omega,a2,λ_=>a3 C,by simp only;rw[<- ap,a4,ho];rfl⟩ (by simp only;omega) ⟨rfl,trivial⟩ (by
      simp only[bP,fD];refine bR (.skip (.here)) ?_;refine bR (.skip (.here)) ?_;refine bR (.skip (.here)) ?_;refine bR (.here) ?_;exact az
      )
def VG(W G I high Y)(h:dU Y W G)(aP:G.es.length<=100000)(aO: -9223372036854775808<=I/\I<=9223372036854775807):
  D E 673 #[.pointer W,j I,.bool high] Y λv au=>v=j (lead G I high)/\au=Y:=by
 have ao:G.es.length<=maxLen:=by unfold maxLen;omega
 by_cases al:0<=I/\I<G.es.length
 ·obtain⟨J,rfl⟩:=Ho al.1;have am:J<G.es.length:=C;have aC:G.es[J]?=some G.es[J]:=cb am;have Z:lead G (J:Nat) high=if high then G.es[J].high else G.es[J].low:=by
   cases G with
   |nil=>trivial
   |node U R O=>
    simp only[eu.es]at am aC ⊢;simp only[lead];simp_all
  rw[Z];generalize G.es[J]=ax at*
  refine ap λg F=> ?_;refine GE (aw p (Ji W G (J:Nat) _ (by repeat' first|assumption|apply dU.skip) ao)) ?_;rintro _ _ ⟨ae,_,rfl⟩;have ag:=ae ax Q (by assumption);subst ag;iterate 3 refine ad ?_
  refine aU λav=> ?_;refine cF ?_;refine ad ?_;refine aL ?_;cases high with
  |true=>
   exact dq
  |false=>
   exact dq
 ·have Z:lead G I high=if I=G.es.length then(match G with
    | .nil=>0
    | .node _ R O=>if high then(O.es.length:Int)else R.es.length)else 0:=by
   cases G with
   |nil=>simp[lead]
   |node U R O=>
    have aE: ¬(0<=I/\I<U.length):=al;simp only[lead];rw[if_neg aE];show _=if I=U.length then _ else _
    simp
  rw[Z];refine ap λg F=> ?_;refine GE (aw p (Ji W G I _ (by repeat' first|assumption|apply dU.skip) ao)) ?_;rintro _ _ ⟨_,ae,rfl⟩;have ag:=ae C;subst ag;iterate 3 refine ad ?_
  refine aU λav=> ?_;refine cF ?_;refine ad ?_;refine bD ?_;iterate 5 refine ad ?_
  refine dG ?_;refine aJ ?_;iterate 2 refine ad ?_
  refine dG ?_
  by_cases aa:I=G.es.length
  ·cases G with
   |nil=>
    cases h;subst aa;refine K ?_;refine a9 (jb none .nil _ p) ?_;refine af ?_;refine aj p (.tmp p .nil) az ⟨by rfl,rfl⟩
   |node U R O=>
    have ay:=h;obtain⟨b,aI,aK,aH,aG,rfl,ar,aQ,aS,aV,aW,aX⟩:=h;have aY:=ar.at_ (i:=1) p;have aZ:=ar.at_ (i:=2) p;have aA: ¬(I≠((eu.node U R O).es.length:Int)):=λh=>h aa;refine K ?_;refine a9 (jb (ak b) (.node U R O) _ ay.skip.skip) ?_;refine dE 31 p (decide_eq_false aA) ?_;refine K ?_;refine aL ?_;cases high with
    |true=>
     refine K ?_;refine a9 (jb aG O _ (by repeat' first|assumption|apply dU.skip)) ?_;refine af ?_;refine aj p (.tmp p .nil) az ⟨by simp[bG,aa],rfl⟩
    |false=>
     refine K ?_;refine a9 (jb aH R _ (by repeat' first|assumption|apply dU.skip)) ?_;refine af ?_;refine aj p (.tmp p .nil) az ⟨by simp[bG,aa],rfl⟩
  ·refine aF ?_;refine cv ?_;iterate 2 refine ad ?_
   refine a9 (jb W G _ (by repeat' first|assumption|apply dU.skip)) ?_;refine dE 31 p (decide_eq_true aa) ?_;refine bI ?_;exact⟨by simp[bG,aa],rfl⟩
def yA(J G C high I)(h:dU I J G)(Q:G.es.length<=100000)(O: -9223372036854775808<=C/\C<=9223372036854775807):
  D E 672 #[.pointer J,j C,.bool high] I λv K=>v=j (lead G C high)/\K=I:=by
 refine ap λg F=> ?_;refine a9 (VG J G C _ _ (by repeat' first|assumption|apply dU.skip) Q O) ?_;refine af ?_;refine aj p (.tmp p .nil) az ⟨rfl,rfl⟩
def kb(j:Int)(n:Nat):Nat:=(min (max j 0) n).toNat
def JK(j)(n:Nat):min (max j 0) (n:Int)=(kb j n:Nat):=by unfold kb;omega
def JL(j n):kb j n<=n:=by unfold kb;omega
def d8(l:List I)(j C:Nat):List Int:=((l.drop j).take (C-j)).map (·.id)
def UI(l j C D)(h:j<=C)(E:l[C]?=some D):d8 l j (C+1)=d8 l j C++[D.id]:=by
 unfold d8;have:(l.drop j)[C-j]?=some D:=by simp_all
 obtain⟨aa,ab⟩:=jf.1 this;rw[show C+1-j=(C-j)+1 by omega,gu aa,ab,gM];rfl
def Qw(am I R U Y)(h:dU Y am I)(a0:I.es.length<=100000):
  D E 652 #[.pointer am,j R,j U] Y λv aH=>∃W O av,v=.slice W (d8 I.au (kb R I.es.length) (kb U I.es.length)).length O/\(d8 I.au (kb R I.es.length) (kb U I.es.length)).length<=O/\O<=maxLen/\aH=av++Y/\
   Rd (av++Y) W (d8 I.au (kb R I.es.length) (kb U I.es.length)).length (bj (d8 I.au (kb R I.es.length) (kb U I.es.length))):=by
 have aK:=JK R I.es.length;have aO:=JK U I.es.length;have be:=JL R I.es.length;have ax:=JL U I.es.length;generalize kb R _=al at*
 generalize kb U _=ao at*
 refine ap λg F=> ?_;refine a9 (jb am I _ (by repeat' first|assumption|apply dU.skip)) ?_;refine bw p (jb am I _ (by repeat' first|assumption|apply dU.skip)) ?_;iterate 3 refine ad ?_
 refine aL ?_;rw[aK,aO];refine K ?_;refine af ?_;refine b5 (own.nil_ 3 1) ?_;refine cJ (ι:=Nat×Option Addr×Nat×List Int) (λG=>[(0,.pointer am),(2,j (ao:Nat)),(7,.slice G.2.1 G.2.2.2.length G.2.2.1),(8,j (G.1:Nat))]) (λG=>own 3 1 G.2.1 G.2.2.2.length G.2.2.1 (flat G.2.2.2)::F::Y)
  (λG=>al<=G.1/\(G.1<=ao\/G.1=al)/\G.2.2.2=d8 I.au al G.1/\G.2.2.2.length<=G.2.2.1/\G.2.2.1<=maxLen/\(0<G.2.2.2.length->∃b,G.2.1=(ak b))/\G.2.2.2.length<=G.1) (λG=>ao-G.1) (al,none,0,[]) ⟨bv _,.inr p,by simp[d8],bv _,bu _,λh=>absurd h (dc 0),bu _⟩ a8 (λ_ s=>s) ?_
 rintro⟨ae,W,O,J⟩ ⟨ay,aS,aV,aA,aC,ar,aW⟩;simp only at ay aS aV aA aC ar aW;dsimp only;refine K ?_;refine af ?_;refine cp p (λaa=> ?_) (λaa=> ?_)
 ·cases I with
  |nil=>simp[eu.es]at ax;omega
  |node Z a6 aX=>
   have bg:=h;obtain⟨b,bb,bf,bm,bl,rfl,a7,ba,bn,bp,_⟩:=h;have aY:ae<Z.length:=by simp only[eu.es]at ax;omega
   have bq:=a7.at_ (i:=0) p;obtain⟨bd,o,rfl,a4⟩:=ba.at_ C;have aE:Z[ae]?=some Z[ae]:=cb aY;have bs:=(a4 _ _ aE).at_ (i:=0) p;have bk:=UI (eu.node Z a6 aX).au al ae Z[ae].ag ay (by simp[eu.au,eu.es,aE]);have bi:Z.length<=100000:=a0;generalize Z[ae]=aQ at*
   refine K ?_;refine aU λbc=> ?_;refine GE (bx p p aI cn (cS p) aZ Q ah ah) ?_;rintro _ _ ⟨aG,aP,rfl,bh,a1,a2,rfl⟩;refine K ?_;refine af ?_;exact bM (ae+1,aG,aP,J++[aQ.ag.id]) ⟨C,.inl C,by simp_all,by simp_all,a1,λ_=>a2 Q,by simp_all⟩ C ⟨rfl,rfl,by simp only[bP,fD];rfl,rfl,trivial⟩ (by
    simp only[bP];rw[<- gm];exact az)
 ·have a5:J=d8 I.au al ao:=by
   grind[d8]
  rw[<- a5];refine K ?_;refine GE (aw p (D.frame [F] (Bd W J.length O J Y ar p C) (λ_ s=>s.swap))) ?_;rintro _ _ ⟨_,⟨rfl,rfl⟩,rfl⟩;refine K ?_;refine af ?_;refine aj (C:=[own 3 1 W J.length O (flat (bj J))]++Y) p (.tmp p .nil) az ⟨W,O,[own 3 1 W J.length O (flat (bj J))],rfl,aA,aC,rfl,?_⟩;have a3:(bj J).length=J.length:=by rw[bj,List.length_mergeSort]
  exact aM.own (by rw[bU,a3];rfl) ar
end W
namespace W.bN
inductive a5 where
 |nil
 |node (b:Nat) (q:bA) (j:eu) (E v:Int) (D C:a5)
def a5.de:a5->eu
 | .nil=> .nil
 | .node _ _ j _ _ _ _=>j
def a5.addr:a5->Option Addr
 | .nil=>none
 | .node b _ _ _ _ _ _=>(ak b)
def a5.of:a5->List I->Prop
 | .nil,l=>l=[]
 | .node _ _ E G v D C,l=>(∃j,l[0]?=some j/\G=j.x)/\(∃j,l[l.length-1]?=some j/\v=j.x)/\((∃j,l=[j]/\D=.nil/\C=.nil/\E=wU j)\/(1<l.length/\D.of (l.take ((l.length+1)/2))/\C.of (l.drop ((l.length+1)/2))/\E=join D.de C.de))
theorem a5.of.ok:∀{j:a5}{l},j.of l->Ord j.de.au/\∀g:I->Bool,j.de.au.countP g=l.countP g
 | .nil,l,h=>by
  subst h;exact⟨trivial,λ_=>rfl⟩
 | .node b q K U v Q O,l,⟨_,_,h⟩=>by
  rcases h with ⟨R,rfl,_,_,rfl⟩|⟨aa,ab,J,rfl⟩
  ·exact⟨⟨λ_ h=>(by grind),trivial⟩,λ_=>rfl⟩
  ·obtain⟨C,D⟩:=ab.ok;obtain⟨E,G⟩:=J.ok;show Ord (join _ _).au/\∀g:I->Bool,(join _ _).au.countP g= _;unfold eu.au;rw[U5];refine⟨w4 _ _ _ _ C E,λg=> ?_⟩;rw[uS,D,G,<- List.countP_append,jD]
theorem a5.of.perm{j:a5}{l}(h:j.of l):j.de.au.Perm l:=List.perm_iff_count.2 λC=>h.ok.2 (· ==C)
theorem a5.of.len{j:a5}{l}(h:j.of l):j.de.es.length=l.length:=by
 have:=h.perm.length_eq;rwa[eu.au,gL]at this
def rX{l}(h:dg I.less l){j C:Nat}{D q}(O:j<=C)(G:l[j]?=some D)(J:l[C]?=some q):D.x<=q.x:=by
 rcases eC j C with E|K
 ·obtain⟨aa,rfl⟩:=jf.1 G;obtain⟨ab,rfl⟩:=jf.1 J;have:=List.pairwise_iff_getElem.1 h j C aa ab E;unfold I.less at this;grind
 grind
theorem a5.of.range{b q J G v U j l}(h:(a5.node b q J G v U j).of l)(E:dg I.less l):∀D∈l,G<=D.x/\D.x<=v:=λD Q=>by
 obtain⟨⟨W,K,rfl⟩,⟨g,O,rfl⟩,_⟩:=h;obtain⟨R,j,rfl⟩:=BP.1 Q;exact⟨rX E (bu R) K (cb j),rX E C (cb j) O⟩
structure gS where
 T:a5
 f:Nat
 t:Nat
def uY(b:b9)(j:a5):gS:=⟨j,j.de.au.countP (ec b.cC),j.de.au.countP (ek b.cx)⟩
def a5.out(b:b9)(C:a5):Bool:=match C with
 | .nil=>true
 | .node _ _ j D v _ _=>decide (j.au.countP (ek b.cx)<=j.au.countP (ec b.cC)\/b.cI<b.cB\/v<b.cB\/b.cI<D)
def a5.ins(b:b9)(j:a5):Bool:=match j with
 | .nil=>false
 | .node _ _ D C v _ _=>decide (b.cB<=C/\v<=b.cI)
def a5.ids(b:b9)(j:a5):List Int:=if j.out b then[]else if j.ins b then bj (d8 j.de.au (j.de.au.countP (ec b.cC)) (j.de.au.countP (ek b.cx)))else[]
def a5.bY(b:b9)(j:a5):List a5:=if j.out b then[]else if j.ins b then[]else match j with
 | .nil=>[]
 | .node _ _ _ _ _ D C=>[D,C]
def a5.d1(b:b9):a5->List Int
 | .nil=>[]
 | .node E q D G v C j=>if(a5.node E q D G v C j).out b then[]else if(a5.node E q D G v C j).ins b then(a5.node E q D G v C j).ids b else C.d1 b++j.d1 b
def ii(b:b9)(j:List a5):List Int:=j.flatMap (a5.d1 b)
theorem a5.DJ(b)(j:a5):j.d1 b=j.ids b++ii b (j.bY b):=by
 cases j with
 |nil=>rfl
 |node D q C I v G E=>
  unfold a5.d1 a5.bY
  by_cases aa:(a5.node D q C I v G E).out b=true
  ·simp[aa,a5.ids,ii]
  ·by_cases ab:(a5.node D q C I v G E).ins b=true
   ·simp[aa,ab,ii]
   ·simp[aa,ab,ii,a5.ids]
def Nw:∀{l},Ord l->l.Pairwise λa b=>a.y<=b.y
 | [],_=> .nil
 |a::l,h=>List.pairwise_cons.2 ⟨h.1,Nw h.2⟩
theorem Nv{l}(h:Ord l){j C}(Q:j<=C):(l.drop (l.countP (ec j))).take (l.countP (ek C)-l.countP (ec j))=l.filter λD=>decide (j<=D.y/\D.y<=C):=by
 have G:=Nw h;have I:=wC (ek C) l (G.imp λK O=>by simp[ek]at*;omega);have E:=DC (ec j) (l.filter (ek C)) ((G.filter _).imp λK O=>by simp[ec]at*;omega);have J:(l.filter (ek C)).countP (ec j)=l.countP (ec j):=by
  rw[List.countP_filter];refine List.countP_congr λD _=> ?_;simp[ec,ek];omega
 rw[J]at E;rw[<- List.drop_take,I,E,List.filter_filter];refine tk λD _=> ?_;simp[ec,ek];grind
def dI(b:b9)(j:I):Bool:=b.has j.x j.y
theorem Xx{b}{E:a5}{l}(h:E.of l)(Q:dg I.less l)(W:b.cC<=b.cx)(j:E.out b=true):l.filter (dI b)=[]:=by
 rw[lA];intro K J;cases E with
 |nil=>have h:l=[]:=h;simp_all
 |node Y q D ak v ag Z=>
  have ae:=h.range Q K J;have U:=h.perm.mem_iff.2 J;have R:=h.ok.1;have G:=Nv R W;simp[a5.out,decide_eq_true_eq]at j;unfold dI b9.has j1;rcases j with j|j|j|j
  ·have O:(D.au.countP (ek b.cx))-(D.au.countP (ec b.cC))=0:=C;change(D.au.drop _).take (D.au.countP _-D.au.countP _)= _ at G;rw[O,BV]at G;have:=lA.1 G.symm K U;simp_all
  ·grind
  ·grind
  grind
def a5.of.wH{b:b9}(D:b.cC<=b.cx):∀{E:a5}{l:List I},E.of l->dg I.less l->(E.d1 b).Perm ((l.filter (dI b)).map (·.id))
 | .nil,l,h,_=>by have h:l=[]:=h;subst h;rfl
 | .node G q j Q v K J,l,h,C=>by
  unfold a5.d1
  by_cases aa:(a5.node G q j Q v K J).out b=true
  ·rw[if_pos aa,Xx h C D aa];rfl
  ·rw[if_neg aa]
   by_cases ab:(a5.node G q j Q v K J).ins b=true
   ·rw[if_pos ab];unfold a5.ids;rw[if_neg aa,if_pos ab];refine(jz _).trans ?_;unfold d8;refine x7 _ ?_;show((j.au.drop (j.au.countP _)).take (j.au.countP _-j.au.countP _)).Perm _;have Y:Ord j.au:=h.ok.1;rw[Nv Y D];refine(h.perm.filter _).trans (.of_eq (tk λO Z=> ?_));have ae:=h.range C O Z;simp only[a5.ins,decide_eq_true_eq]at ab;unfold dI b9.has j1;grind
   ·rw[if_neg ab];have ae:=h.range C;obtain⟨⟨av,am,ag⟩,⟨aw,ao,ak⟩,R⟩:=h;rcases R with ⟨O,rfl,rfl,rfl,rfl⟩|⟨al,U,W,rfl⟩
    ·exfalso;simp only[a5.out,a5.ins,decide_eq_true_eq]at aa ab;simp_all
    ·have ap:=U.wH D (C.sub (vC _ _));have ar:=W.wH D (C.sub (vw _ _));grind[jD]
end W.bN
namespace W.bN
attribute [local irreducible] G bf cc
def c6(C:aG):a5->Prop
 | .nil=>True
 | .node b q G I v E D=>aB C b 0 5 [.pointer q,j I,j v,.pointer E.addr,.pointer D.addr]/\dU C q G/\c6 C E/\c6 C D
theorem c6.skip{D j}:∀{C},c6 j C->c6 (D::j) C
 | .nil,_=>trivial
 | .node b q I O v K J,⟨aa,ab,E,G⟩=>⟨aa.skip,ab.skip,E.skip,G.skip⟩
def c6.bE{N j C}(h:c6 j C):c6 (N++j) C:=by
 induction N with
 |nil=>exact h
 |cons E N D=>exact D.skip
def pP:k6 306 I.less:=⟨λC q j=>pO C q j⟩
def RA{ag:FuncId}{O:I->I->Bool}[b4 E ag](a4:k6 ag O)(o:ev O)(ao:bA)(n aH:Nat)(l:List I)(W:aG)(aK:Rd W ao n l)(bg:n<=1000000):
  D E 536 #[.slice ao n aH,.func (.func ag) #[] #[]] W λv aQ=>∃ay:List I,(dg O l/\ay=l\/¬dg O l/\ay.length<n)/\Made 43 ay W v aQ:=by
 have aa:l.length=n:=aK.len bs;refine bH λg F=> ?_;refine b5 (own.nil_ 43 3) ?_;refine K ?_;refine af ?_;refine cJ (ι:=Nat×Option Addr×Nat×List I) (λG=>[(1,.func (.func ag) #[] #[]),(5,.slice G.2.1 G.2.2.2.length G.2.2.1),(9,.slice ao n aH),(10,j (n:Nat)),(11,j (G.1:Nat))]) (λG=>own 43 3 G.2.1 G.2.2.2.length G.2.2.1 (flat G.2.2.2)::F::W) (λG=>G.1<=n/\(dg O (l.take G.1)/\G.2.2.2=l.take G.1\/¬dg O (l.take G.1)/\G.2.2.2.length<G.1)/\(0<G.2.2.2.length->∃b,G.2.1=(ak b))) (λG=>n-G.1) (0,none,0,[]) ⟨bu _,.inl ⟨by simp[dg],rfl⟩,λh=>absurd h (dc 0)⟩ a8 (λ_ s=>s) ?_;rintro⟨J,aC,ae,q⟩ ⟨a1,Y,av⟩;simp only at a1 Y av;dsimp only;have bh:q.length<=J:=by
  grind
 refine K ?_;refine af ?_;refine cp p (λaX=> ?_) (λaX=> ?_)
 ·obtain⟨aS,bb,rfl,bd⟩:=aK.at_ C;have a2:l[J]?=some l[J]:=cb C;have aA:l.take (J+1)=l.take J++[l[J]]:=gu C;have be:=bd _ _ a2;have bi:dg O (l.take (J+1))->dg O (l.take J):=λh=>h.sub (by grind);generalize l[J]=v at*
  have bj:aB W aS (bb+J*3) 3 [j v.id,j v.x,j v.y]:=be;refine K ?_;refine aU λbf=> ?_;refine cF ?_;refine aL ?_;rcases g9 q.length with aw|aw
  ·have a9:q=[]:=e3 aw;subst a9;have a6:dg O (l.take J)/\[]=l.take J\/¬dg O (l.take J)/\0<J:=Y;have Z:dg O (l.take (J+1))/\[v]=l.take (J+1)\/¬dg O (l.take (J+1))/\1<J+1:=by
    rcases a6 with ⟨U,b⟩|⟨U,b⟩
    ·left;rw[aA,<- b];exact⟨by simp[dg],rfl⟩
    simp_all
   refine K ?_;refine aL ?_;refine aW (aE [0,1,2,3,4,5,6,7,8] (.e 9 (.q 10 .nil))) ?_;iterate 9 refine ai ?_
   refine an (gy p p p ⟨_,rfl,rfl⟩ p ?_);refine K ?_;refine aU λaV=> ?_;refine GE (bx p p aI cn (cS p) aZ Q ah ah) ?_;rintro _ _ ⟨ap,au,rfl,a3,a7,ax,rfl⟩;refine K ?_;refine af ?_;refine bM (J+1,ap,au,[v]) ⟨C,Z,λ_=>ax Q⟩ C a8 aq
  ·obtain⟨R,G,rfl⟩:∃R G,q=R++[G]:=by
    rcases BM q with h|⟨U,b,h⟩
    ·simp_all
    simp_all
   have aO:(R++[G]).length=R.length+1:=Q;obtain⟨am,rfl⟩:=av aw;have a5:(R++[G])[R.length]?=some G:=Q;have ba:aB (own 43 3 (ak am) (R.length+1) ae (flat (R++[G]))::F::W) am (0+R.length*3) 3 [j G.id,j G.x,j G.y]:=ll aO a5 _;rw[aO];refine K ?_;refine aL ?_;refine aW (aE [0,1,2,3,4,5,6,7,8] (.e 9 (.q 10 .nil))) ?_;iterate 3 refine ai ?_
   refine dB 20 p (decide_eq_false Q) ?_;iterate 4 refine ai ?_
   refine fF aT p p p p ⟨_,rfl,rfl⟩ p (er p (by repeat' first|exact ba|apply aB.skip)) ?_;refine ai ?_;refine an (f9 p p p ⟨_,rfl,rfl⟩ p (eV p p (a4.mt G v _)) ?_);rintro _ _ ⟨rfl,rfl⟩;refine cM ?_;refine K ?_
   by_cases ar:O G v=true
   ·have Z:dg O (l.take (J+1))/\R++[G]++[v]=l.take (J+1)\/¬dg O (l.take (J+1))/\(R++[G]++[v]).length<J+1:=by
     rcases Y with ⟨U,b⟩|⟨U,b⟩
     ·left;rw[aA,<- b];refine⟨?_,rfl⟩;rw[<- b]at U;unfold dg at U ⊢;rw[lE];refine⟨U,Q,λbc al y aP=> ?_⟩;simp at aP;subst aP;rcases cT.1 al with al|al
      ·rw[lE]at U;exact o.fx (U.2.2 bc al G Q) ar
      simp_all
     grind
    refine aF ?_;refine cD p ar ?_;refine K ?_;refine aU λaV=> ?_;refine GE (bx p p aI cn (cS p) aZ Q ah ah) ?_;rintro _ _ ⟨ap,au,rfl,a3,a7,ax,rfl⟩;refine K ?_;refine af ?_;exact bM (J+1,ap,au,R++[G]++[v]) ⟨C,Z,λ_=>ax Q⟩ C ⟨rfl,by simp only[bP,fD];rfl,rfl,rfl,rfl,trivial⟩ (by
     simp only[bP,fD];rw[fI (R++[G]) [v]];exact aq)
   ·have Z:dg O (l.take (J+1))/\R++[G]=l.take (J+1)\/¬dg O (l.take (J+1))/\(R++[G]).length<J+1:=by
     right;rcases Y with ⟨U,b⟩|⟨U,b⟩
     ·refine⟨λh=>ar ?_,C⟩;rw[aA,<- b]at h;unfold dg at h;grind
     grind
    have aY:O G v=false:=by simp_all
    refine aF ?_;refine b2 p aY ?_;refine K ?_;refine af ?_;exact bM (J+1,(ak am),ae,R++[G]) ⟨C,Z,λ_=>⟨am,rfl⟩⟩ C ⟨rfl,by simp only[bP,fD];rfl,rfl,rfl,rfl,trivial⟩ (by
     simp only[bP,fD];exact aq)
 ·have a0:J=n:=C;subst a0;rw[jE C]at Y;refine K ?_;refine af ?_;exact aj (C:=own 43 3 aC q.length ae (flat q)::W) p (.tmp p .nil) aq ⟨q,Y,aC,ae,rfl,av,rfl⟩
def qz:∀(av:Nat)(aC:bA)(n al:Nat)(l:List I)(G:aG)(_:n<=av)(_:Rd G aC n l)(_:n<=100000)(_:n<=al)(_:al<=maxLen),
  D E 537 #[.slice aC n al] G λv bf=>∃aK a3,v=.pointer aK.addr/\aK.of l/\bf=a3++G/\c6 (a3++G) aK:=by
 intro av
 induction av using Nat.strongRecOn with
 | _ av ba=>
 intro aC n al l G b1 ay b5 bl a8;have aa:l.length=n:=ay.len bs;rcases g9 n with aQ|aQ
 ·subst aQ;have bj:l=[]:=e3 aa;subst bj;refine ap λg F=> ?_;refine af ?_;exact aj (C:=[]++G) p (.tmp p .nil) az ⟨.nil,[],rfl,rfl,rfl,trivial⟩
 ·obtain⟨ak,o,rfl,a9⟩:=ay.at_ aQ;have a6:l[0]?=some l[0]:=cb C;have a7:l[n-1]?=some l[n-1]:=cb C;have bk:l[l.length-1]?=some l[n-1]:=(congrArg (λbC=>l[bC-1]?) aa).trans a7;have bd:=a9 _ _ a6;have bW:=a9 _ _ a7;have bN:=ay.take (k:=(n+1)/2) C;have bO:=ay.drop (k:=(n+1)/2) (c:=al) C bl
  by_cases ab:n=1
  ·obtain⟨J,rfl⟩:∃J,l=[J]:=by
    match l,aa with
    | [J],_=>simp
    | [],h=>trivial
    | _:: _:: _,h=>grind
   subst ab;simp only[List.getElem_singleton]at*
   have a2:aB G ak (o+0*3) 3 [j J.id,j J.x,j J.y]:=bd;have be:aR G ⟨ak,o+0*3+1,none⟩ (j J.x):=a2.at_ (i:=1) p;have bX:aR G ⟨ak,o+(1-1)*3+1,none⟩ (j J.x):=be;refine ap λg F=> ?_;refine aW (aE [0,1,2,3,4,5,6,7,8,9,10,11] (.e 12 (.q 13 .nil))) ?_;iterate 12 refine ai ?_
   refine hu λU=> ?_;refine K ?_;refine GE (aw p (D.frame [ae U 406 [.pointer none,j J.x,j J.x,.pointer none,.pointer none],F] (QL J G) (λ_ s=>s))) ?_;rintro _ _ ⟨bg,⟨q,Z,rfl,rfl,aS⟩,rfl⟩;refine K ?_;refine af ?_;refine aj (C:=(ae U 406 [.pointer q,j J.x,j J.x,.pointer none,.pointer none]::Z)++G) p (.tmp p .nil) (λ_ s=>s.swap) ⟨.node U q (wU J) J.x J.x .nil .nil,_,rfl,⟨⟨J,rfl,rfl⟩,⟨J,rfl,rfl⟩,.inl ⟨J,rfl,rfl,rfl,rfl⟩⟩,rfl,aB.ae p,aS.skip,trivial,trivial⟩
  ·have bz:=ba ((n+1)/2) C _ ((n+1)/2) al _ G (bv _) bN C C a8;have bB:=λM=>ba (n-(n+1)/2) C _ (n-(n+1)/2) (al-(n+1)/2) _ (M++G) (bv _) (bO.bE (N:=M)) C C C;have bF:(l.take ((n+1)/2)).length=(n+1)/2:=by grind
   have bI:(l.drop ((n+1)/2)).length=n-(n+1)/2:=by simp_all
   have bx:∀b q aO aA ax,aA.of (l.take ((n+1)/2))->ax.of (l.drop ((n+1)/2))->aO=join aA.de ax.de->(a5.node b q aO l[0].x l[n-1].x aA ax).of l:=λb q aO aA ax b3 b4 bm=>⟨⟨_,a6,rfl⟩,⟨_,bk,rfl⟩,.inr ⟨C,by simp_all,by simp_all,bm⟩⟩;generalize l[0]=W at*
   generalize l[n-1]=Y at*
   have a2:aB G ak (o+0*3) 3 [j W.id,j W.x,j W.y]:=bd;have be:aR G ⟨ak,o+0*3+1,none⟩ (j W.x):=a2.at_ (i:=1) p;have bY:aB G ak (o+(n-1)*3) 3 [j Y.id,j Y.x,j Y.y]:=bW;have bX:aR G ⟨ak,o+(n-1)*3+1,none⟩ (j Y.x):=bY.at_ (i:=1) p;generalize l.take ((n+1)/2)=bb at*
   generalize l.drop ((n+1)/2)=bc at*
   generalize bt:(n+1)/2=mid at*
   unfold maxLen at a8;refine ap λg F=> ?_;refine af ?_;refine b2 p (decide_eq_false C) ?_;refine aW (aE [0,1,2,3,4,5,6,7,8,9,10,11] (.e 12 (.q 13 .nil))) ?_;iterate 12 refine ai ?_
   refine hu λU=> ?_;refine K ?_;refine af ?_;refine b2 p (decide_eq_false C) ?_;refine K ?_;refine aD (kH (q:=2) p p Q C) ?_;rw[bt];refine ad ?_;refine aL ?_;refine aW (aE [0,1,2,3,5,6,7] (.e 4 (.e 8 (aE [9,10,11] (.e 12 .nil))))) ?_;iterate 3 refine ai ?_
   refine cV p (h5 p p ah) ?_;iterate 2 refine ai ?_
   refine cV p (ga p p ah ah) ?_;refine an (a1 p p p (aw p (D.frame [ae U 406 [.pointer none,j W.x,j Y.x,.pointer none,.pointer none],F] bz (λ_ s=>s))) ?_);rintro _ _ ⟨bg,⟨bh,ag,rfl,aV,rfl,aZ⟩,rfl⟩;refine cM ?_;refine an (a1 p p p (aw p (D.frame [ae U 406 [.pointer none,j W.x,j Y.x,.pointer none,.pointer none],F] (bB ag) (λ_ s=>s))) ?_);rintro _ _ ⟨bZ,⟨bi,Z,rfl,aX,rfl,a0⟩,rfl⟩;refine cM ?_;iterate 3 refine ai ?_
   refine an (cj O p p p (f1 p p p p cd) ?_);rintro _ _ ⟨rfl,rfl⟩;cases bh with
   |nil=>
    have aP:bb=[]:=aV;subst aP;simp at bF;omega
   |node am aY ar bQ bU bL bn=>
    cases bi with
    |nil=>
     have aP:bc=[]:=aX;subst aP;simp at bI;omega
    |node ao aH au bT bV bM bp=>
     have b6:aR (Z++(ag++G)) ⟨am,0+0,none⟩ (.pointer aY):=(aZ.1.at_ (i:=0) p).bE;have b7:aR (Z++(ag++G)) ⟨ao,0+0,none⟩ (.pointer aH):=a0.1.at_ (i:=0) p;have bJ:ar.es.length<=100000:=by have:ar.es.length=bb.length:=aV.len;omega
     have bK:au.es.length<=100000:=by have:au.es.length=bc.length:=aX.len;omega
     have bq:=QD aY aH ar au (Z++(ag++G)) aZ.2.1.bE a0.2.1 bJ bK;refine aW (aE [0,1,2,3,4,5,6,7,8,9,10,11,12,13,14,15,16] (.e 17 (.q 18 (.q 19 (.e 20 .nil))))) ?_;iterate 4 refine ai ?_
     refine dd p (dV p p ah ah) ?_;iterate 7 refine ai ?_
     refine dd p (dV p p ah ah) ?_;iterate 4 refine ai ?_
     refine an (a1 p p p (aw p (D.frame [ae U 406 [.pointer none,j W.x,j Y.x,R am,R ao],F] bq (λ_ s=>s))) ?_);rintro _ _ ⟨b0,⟨q,aI,rfl,rfl,aS⟩,rfl⟩;refine cM ?_;iterate 2 refine ai ?_
     refine an (cj O p p p (c5 p p p cd) ?_);rintro _ _ ⟨rfl,rfl⟩;refine K ?_;refine af ?_;have a4:(ae U 406 [.pointer q,j W.x,j Y.x,R am,R ao]::(aI++(Z++ag)))++G=ae U 406 [.pointer q,j W.x,j Y.x,R am,R ao]::(aI++(Z++(ag++G))):=Q;refine aj (C:=(ae U 406 [.pointer q,j W.x,j Y.x,R am,R ao]::(aI++(Z++ag)))++G) p (.tmp p .nil) (by rw[a4];exact λ_ s=>s.swap) ⟨.node U q (join ar au) W.x Y.x (.node am aY ar bQ bU bL bn) (.node ao aH au bT bV bM bp),_,rfl,bx _ _ _ _ _ aV aX p,rfl,?_⟩;rw[a4];exact⟨aB.ae p,aS.skip,aZ.bE.bE.skip,a0.bE.skip⟩
instance:lK E 256 (43,4):=⟨O⟩
instance:yw E 43:=⟨O⟩
instance:IT E 4:=⟨O⟩
@[reducible] def hj (C:bA) (n E b:Nat) (G I D:Int):List Value:=[.slice C n E,.map (some b),j G,j I,j D]
section
variable{s b n c:Nat}{A:bA}{bT mq:Int}{wJ:Nat}{M:List (I×Bool)}{L:aG}
def VQ(h:aB L s 0 5 (hj A n c b (wJ:Nat) bT mq))(O:cY L b M)(W:wJ<=M.length)(U:M.length<=1000000):D E 229 #[R s] L λv J=>v=j (M.length-wJ:Nat)/\J=L:=by
 have aa:=h.at_ (i:=1) p;have ab:=h.at_ (i:=2) p;have Q:∀G,cY (G::L) b M:=λG=>O.skip;refine ap λg F=> ?_;refine aW (aE [0,1,2,3,4,5,6,7,8,9] (.q 10 .nil)) ?_;iterate 4 refine ai ?_
 refine cV p (zH p (Q _)) ?_;iterate 4 refine ai ?_
 refine dd p (uw p p C) ?_;refine K ?_
 all_goals
  exact dq
def Ma(j)(h:aB L s 0 5 (hj A n c b (wJ:Nat) bT mq))(K:cY L b M):D E 233 #[R s,j.v] L λv J=>v=.tuple #[.bool ((c1 j M).getD false),.bool (c1 j M).isSome]/\J=L:=by
 have aa:=h.at_ (i:=1) p;have O:∀C G,cY (C::G::L) b M:=λC G=>K.skip.skip;refine ap λg F=> ?_;refine aS λQ=> ?_;refine aW (aE [0,1,2,3,4,5,6,7,8,9] (.q 10 .nil)) ?_;iterate 5 refine ai ?_
 refine cV p (us (j:=j) p p (O _ _)) ?_;iterate 5 refine ai ?_
 refine dl ?_
 all_goals
  exact dq
def VX(j)(h:aB L s 0 5 (hj A n c b (wJ:Nat) bT mq))(O:cY L b M):D E 373 #[R s,j.v] L λv C=>v=.bool (decide (c1 j M=some false))/\C=L:=by
 have K:=λG J=>Ma (L:=G::J::L) j h.skip.skip O.skip.skip;generalize c1 j M=q at*
 refine ap λg F=> ?_;refine aS λQ=> ?_;refine bw p (K _ _) ?_;iterate 5 refine ad ?_
 refine aL ?_;rcases q with _|(_| _)
 ·refine aF ?_;refine cv ?_;exact dq
 ·refine aF ?_;refine cv ?_;exact dq
 ·refine aF ?_;refine cv ?_;exact dq
end
def gB(M:List (I×Bool)):List I:=(M.filter λj=>!j.2).map (·.1)
theorem RJ(j M):gB (j::M)=(if j.2 then[]else[j.1])++gB M:=by grind[gB]
theorem RI(M j):gB (M++j)=gB M++gB j:=by simp[gB]
def RK(C W)(j:I×Bool):((if j.2 then[]else[j.1])++gB (C++W)).Perm (gB (C++j::W)):=by grind[RI,RJ,fZ]
def VL(s b n aK aA a0 aH aS M G)(h:aB G s 0 5 (hj aA n aK b (aS:Nat) a0 aH))(a6:M.length<=100000):
  D E 452 #[R s] (co b M::G) λv aE=>Made 43 (a7 I.less (gB M)) (co b M::G) v aE:=by
 have aa:aR G _ _:=h.at_ (i:=1) p;refine ap λg F=> ?_;refine GE (zt p aI) ?_;rintro _ _ ⟨al,rfl,rfl⟩;refine af ?_;refine b5 (own.nil_ 43 3) ?_;refine cJ (λy=>[(3,.slice y.2.2.1 y.2.2.2.2.length y.2.2.2.1),(10,R al)]) (λy=>own 43 3 y.2.2.1 y.2.2.2.2.length y.2.2.2.1 (flat y.2.2.2.2)::gJ al b M y.1 y.2.1::F::G)
  (λy=>(y.2.2.2.2++gB y.1).Perm (gB M)/\y.2.2.2.2.length+y.1.length<=M.length/\(0<y.2.2.2.2.length->∃b,y.2.2.1=(ak b))/\y.2.2.2.2.length<=y.2.2.2.1/\y.2.2.2.1<=maxLen) (λy=>y.1.length) (M,none,none,0,[]) ⟨.refl _,Q,(λh=>absurd h (dc 0)),bv _,bu _⟩ a8 aq ?_
 rintro⟨U,q,ag,ao,j⟩ ⟨W,ar,Y,Z,au⟩;simp only at W ar Y Z au;dsimp only;cases U with
 |nil=>
  refine aJ ?_;refine GE (zs p aI) ?_;rintro _ _ ⟨rfl,rfl⟩;refine ad ?_;refine dG ?_;have aY:j.Perm (gB M):=by simpa[gB]using W
  have aP:a7 I.less j=a7 I.less (gB M):=l4 fX (l5 fX j) ((e1 j).trans aY);have ax:=λaG aW=>rQ fX pP ag j.length ao j aG aW C Z;rw[aP]at ax;refine K ?_;refine GE (aw p (ax _ (by repeat' first|exact aM.own (bU _) Y|apply Rd.skip))) ?_;rintro _ _ ⟨ae,am,rfl,aV,rfl⟩;refine ad ?_;refine af ?_;exact aj (C:=own 43 3 ae (a7 I.less (gB M)).length am (flat (a7 I.less (gB M)))::co b M::G) p (.tmp p .nil) (by(repeat first|exact bo|apply Kg|refine b7 ?_)<;>fail) ⟨ae,am,rfl,aV,rfl⟩
 |cons ba U=>
  refine aJ ?_;refine GE (zr p aI) ?_;rintro _ _ ⟨J,ay,O,aQ,rfl,rfl⟩;refine ad ?_;refine f7 ?_;have a5:U.length+1=J.length+(O.length+1):=by
   grind
  have av:=RK J O ay;rw[<- aQ]at av;obtain⟨up,a1⟩:=ay;simp only[fc]at ar;refine aJ ?_;refine aD (zC p (by repeat' first|exact o9.here|apply o9.skip)) ?_;iterate 2 refine ad ?_
  refine aU λa3=> ?_;refine cF ?_;refine ad ?_;refine bD ?_;refine ad ?_;refine aD (cL p) ?_;refine aL ?_;cases a1 with
  |true=>
   refine iT ?_;refine aF ?_;exact bM (J++O,some (up,true),ag,ao,j) ⟨(av.append_left j).trans W,by grind,Y,Z,au⟩ (by simp_all) a8 aq
  |false=>
   refine K ?_;refine aU λa2=> ?_;refine GE (bx p p aI cn (cS p) aZ Q ah ah) ?_;rintro _ _ ⟨aC,aO,rfl,a4,aX,a9,rfl⟩;refine ad ?_;refine af ?_;refine bM (J++O,some (up,false),aC,aO,j++[up]) ⟨?_,by grind,by simp_all,by simp_all,aX⟩ (by simp_all) ⟨by simp only[bP,fD];rfl,rfl,trivial⟩ ?_
   ·grind
   ·simp[fD];rw[<- gm];exact aq
def hO(C:b9)(M:List (I×Bool)):List Int:=(M.filter λj=>j.2&&C.has j.1.x j.1.y).map (·.1.id)
theorem S5(C j M):hO C (j::M)=(if j.2&&C.has j.1.x j.1.y then[j.1.id]else[])++hO C M:=by grind[hO]
theorem S4(j M C):hO j (M++C)=hO j M++hO j C:=by simp[hO]
def S6(C D W)(j:I×Bool):((if j.2&&C.has j.1.x j.1.y then[j.1.id]else[])++hO C (D++W)).Perm (hO C (D++j::W)):=by grind[S4,S5,fZ]
def VR(s b n aW aK a7 aV a1 G M O)(h:aB O s 0 5 (hj aK n aW b (a1:Nat) a7 aV))(bf:M.length<=100000):
  D E 437 #[R s,G.v] (co b M::O) λv aP=>Made 3 (bj (hO G M)) (co b M::O) v aP:=by
 have aa:aR O ⟨s,0+1,none⟩ (.map (some b)):=h.at_ (i:=1) p;refine ap λg F=> ?_;refine aS λay=> ?_;refine GE (zt p aI) ?_;rintro _ _ ⟨ax,rfl,rfl⟩;refine af ?_;refine b5 (own.nil_ 3 1) ?_;refine cJ (ι:=List (I×Bool)×Option (I×Bool)×Option Addr×Nat×List Int) (λy=>[(3,R ay),(5,.slice y.2.2.1 y.2.2.2.2.length y.2.2.2.1),(14,R ax)]) (λy=>own 3 1 y.2.2.1 y.2.2.2.2.length y.2.2.2.1 (flat y.2.2.2.2)::gJ ax b M y.1 y.2.1::ae ay 23 [j G.cB,j G.cI,j G.cC,j G.cx]::F::O)
  (λy=>(y.2.2.2.2++hO G y.1).Perm (hO G M)/\y.2.2.2.2.length+y.1.length<=M.length/\(0<y.2.2.2.2.length->∃b,y.2.2.1=(ak b))/\y.2.2.2.2.length<=y.2.2.2.1/\y.2.2.2.1<=maxLen) (λy=>y.1.length) (M,none,none,0,[]) ⟨.refl _,Q,(λh=>absurd h (dc 0)),bv _,bu _⟩ a8 aq ?_
 rintro⟨ao,q,am,ar,J⟩ ⟨Y,aC,Z,ag,au⟩;simp only at Y aC Z ag au;dsimp only;cases ao with
 |nil=>
  refine aJ ?_;refine GE (zs p aI) ?_;rintro _ _ ⟨rfl,rfl⟩;refine ad ?_;refine dG ?_;have a6:J.Perm (hO G M):=by simpa[hO]using Y
  have aY:bj J=bj (hO G M):=Bf a6;have aG:=λaQ a3=>CB am J.length ar J aQ a3 C ag;rw[aY]at aG;refine K ?_;refine GE (aw p (aG _ (by repeat' first|exact aM.own (bU _) Z|apply Rd.skip))) ?_;rintro _ _ ⟨av,aA,rfl,a2,rfl⟩;refine ad ?_;refine af ?_;exact aj (C:=own 3 1 av (bj (hO G M)).length aA (flat (bj (hO G M)))::co b M::O) p (.tmp p .nil) (by(repeat first|exact bo|apply Kg|refine b7 ?_)<;>fail) ⟨av,aA,rfl,a2,rfl⟩
 |cons bh ao=>
  refine aJ ?_;refine GE (zr p aI) ?_;rintro _ _ ⟨U,aH,W,a0,rfl,rfl⟩;refine ad ?_;refine f7 ?_;have be:ao.length+1=U.length+(W.length+1):=by
   grind
  have al:=S6 G U W aH;rw[<- a0]at al;obtain⟨up,ba⟩:=aH;simp only[fc]at aC;have aE:=Iy G up;simp only at al;generalize G.has up.x up.y=a4 at*
  refine aJ ?_;refine aD (zC p (by repeat' first|exact o9.here|apply o9.skip)) ?_;iterate 2 refine ad ?_
  refine aU λbc=> ?_;refine cF ?_;refine ad ?_;refine aL ?_;cases ba with
  |false=>
   refine K ?_;refine aF ?_;exact bM (U++W,some (up,false),am,ar,J) ⟨(al.append_left J).trans Y,by grind,Z,ag,au⟩ (by simp_all) a8 aq
  |true=>
   cases a4 with
   |false=>
    refine K ?_;refine br p p p p ?_;refine a9 (aE _) ?_;refine aF ?_;exact bM (U++W,some (up,true),am,ar,J) ⟨(al.append_left J).trans Y,by grind,Z,ag,au⟩ (by simp_all) a8 aq
   |true=>
    refine K ?_;refine br p p p p ?_;refine a9 (aE _) ?_;refine aU λbb=> ?_;refine GE (bx p p aI cn (cS p) aZ Q ah ah) ?_;rintro _ _ ⟨aO,aX,rfl,bd,a5,bg,rfl⟩;refine ad ?_;refine af ?_;refine bM (U++W,some (up,true),aO,aX,J++[up.id]) ⟨?_,by grind,by simp_all,by simp_all,a5⟩ (by simp_all) ⟨rfl,by simp only[bP,fD];rfl,rfl,trivial⟩ ?_
    ·grind
    ·simp only[bP];rw[<- gm];exact aq
def VN(s b n I G J Q W C M j)(h:aB j s 0 5 (hj G n I b (W:Nat) J Q))(Z:M.length<=100000):
  D E 350 #[R s,C.v] (co b M::j) λv O=>Made 3 (bj (hO C M)) (co b M::j) v O:=by
 refine ap λg F=> ?_;refine aS λae=> ?_;refine GE (aw p (D.pick aI (VR s b n I G J _ _ C M _ (by repeat' first|exact h|apply aB.skip) Z))) ?_;rintro _ _ ⟨K,U,rfl,Y,rfl⟩;refine ad ?_;refine af ?_;exact aj rfl (.tmp p .nil) aq ⟨K,U,rfl,Y,rfl⟩
def VU(G J)(aa:1<=G)(ab:G<=1048576):D E 109 #[j G] J λv K=>∃s b,v=.tuple #[R s,j 0]/\K=ae s 259 (hj none 0 0 b 0 G 0)::co b ([]:List (I×Bool))::J:=by
 refine ap λg F=> ?_;refine dE 6 p (decide_eq_false C) ?_;iterate 3 refine ad ?_
 refine af ?_;refine b2 p (decide_eq_false C) ?_;refine aJ ?_;refine GE (wr (bC:=I) (d9:=Bool)) ?_;rintro _ _ ⟨O,rfl,rfl⟩;iterate 2 refine ad ?_
 refine aS λQ=> ?_;refine af ?_;exact aj rfl (.tmp p (.tmp p .nil)) aq ⟨Q,O,rfl,rfl⟩
end W.bN
namespace W.bN
def a5.fw:a5->Nat
 | .nil=>0
 | .node _ _ _ _ _ C j=>max C.fw j.fw+1
theorem a5.of.fw:∀{C:a5}{l}(j),C.of l->l.length<=2 ^ j->C.fw<=j+1
 | .nil,_,j,_,_=>by simp only[a5.fw];simp
 | .node _ _ _ _ _ J G,l,j,⟨_,_,h⟩,I=>by
  rcases h with ⟨K,rfl,rfl,rfl,_⟩|⟨aa,ab,D,_⟩
  ·simp only[a5.fw];simp
  ·cases j with
   |zero=>omega
   |succ j=>
    have E:=ab.fw j (by grind);have b:=D.fw j (by grind);simp[a5.fw];omega
def jH:Int->List a5->Prop
 | _,[]=>True
 |m,D::E=>∃l j,D.of l/\dg I.less l/\m<=j/\(∀C∈l,m<=C.x/\C.x<=j)/\jH j E
def jH.mono:∀{D}{j n},jH j D->n<=j->jH n D
 | [],_,_,_,_=>trivial
 |x::D,j,n,⟨l,J,aa,ab,O,E,G⟩,h=>⟨l,J,aa,ab,C,λK I=>⟨by grind,(E K I).2⟩,G⟩
def oF(b:b9)(j:List a5):List a5:=j.flatMap (a5.bY b)
def T4{D E:Type}(C g:D->List E):∀j:List D,(j.flatMap λx=>C x++g x).Perm (j.flatMap C++j.flatMap g)
 | []=> .refl _
 |x::j=>by
  refine(kX _ (T4 C g j)).trans ?_;grind[kX,PY,fZ]
def a5.mid(b:b9)(j:a5):Bool:=!j.out b&&!j.ins b
def a5.oB(b:b9):a5->Bool
 | .nil=>false
 | .node _ _ _ j v _ _=>decide (j<b.cB/\b.cB<=v)
def a5.oC(b:b9):a5->Bool
 | .nil=>false
 | .node _ _ _ j v _ _=>decide (j<=b.cI/\b.cI<v)
def a5.Ws(b)(j:a5)(h:j.mid b=true):j.oB b=true\/j.oC b=true:=by
 cases j with
 |nil=>trivial
 |node D q C I v G E=>
  simp[a5.mid,a5.out,a5.ins,a5.oB,a5.oC,Bool.and_eq_true,Bool.not_eq_true',decide_eq_false_iff_not,decide_eq_true_eq]at*
  omega
theorem a5.MT(b)(j:a5):(j.bY b).length=if j.mid b then 2 else 0:=by
 cases j with
 |nil=>rfl
 |node D q C I v G E=>
  unfold a5.bY a5.mid;grind
theorem MQ(b):∀j:List a5,(oF b j).length=2*j.countP (a5.mid b)
 | []=>rfl
 |x::j=>by
  have:=MQ b j;unfold oF at*
  rw[tm,bP,this,x.MT,kv];grind
theorem a5.of.ends{E q D C v I G l}(h:(a5.node E q D C v I G).of l):(∃j∈l,C=j.x)/\∃j∈l,v=j.x:=by
 obtain⟨⟨O,Q,J⟩,⟨g,R,K⟩,_⟩:=h;grind
theorem jH.oB(b):∀{j}{C},jH C j->j.countP (a5.oB b)<=1/\(b.cB<=C->j.countP (a5.oB b)=0)
 | [],_,_=>⟨Q,λ_=>rfl⟩
 |x::j,C,⟨l,ap,aa,ab,al,D,J⟩=>by
  obtain⟨am,ao⟩:=J.oB b;rw[kv];cases x with
  |nil=>simp only[a5.oB];grind
  |node I q G Z v U K=>
   obtain⟨⟨W,O,ak⟩,⟨Y,R,aY⟩⟩:=aa.ends;have ae:=D W O;have ag:=D Y R
   by_cases E:(a5.node I q G Z v U K).oB b=true
   ·rw[if_pos E];simp[a5.oB,decide_eq_true_eq]at E;omega
   grind
theorem jH.oC(b):∀{j}{C},jH C j->j.countP (a5.oC b)<=1/\(b.cI<C->j.countP (a5.oC b)=0)
 | [],_,_=>⟨Q,λ_=>rfl⟩
 |x::j,C,⟨l,ap,aa,ab,al,D,J⟩=>by
  obtain⟨am,ao⟩:=J.oC b;rw[kv];cases x with
  |nil=>simp only[a5.oC];grind
  |node I q G Z v U K=>
   obtain⟨⟨W,O,ak⟩,⟨Y,R,aY⟩⟩:=aa.ends;have ae:=D W O;have ag:=D Y R
   by_cases E:(a5.node I q G Z v U K).oC b=true
   ·rw[if_pos E];simp[a5.oC,decide_eq_true_eq]at E;omega
   grind
def JZ{D:Type}(j q C)(h:∀x,j x=true->q x=true\/C x=true):∀l:List D,l.countP j<=l.countP q+l.countP C
 | []=>Q
 |x::l=>by
  have:=JZ j q C h l;grind
def jH.four{b j C}(h:jH C j):(oF b j).length<=4:=by
 rw[MQ];have:=JZ _ _ _ (a5.Ws b) j;have:=(h.oB b).1;have:=(h.oC b).1;omega
theorem jH.bY(b):∀{I}{E},jH E I->jH E (oF b I)
 | [],_,_=>trivial
 |x::I,E,⟨l,av,aa,ab,O,Q,ap⟩=>by
  have D:=ap.bY b;show jH E ((x::I).flatMap _);rw[tm];cases x with
  |nil=>rw[show a5.bY b _=[] by rfl];exact D.mono O
  |node Z q Y al v W R=>
   by_cases J:(a5.node Z q Y al v W R).out b=true
   ·rw[show a5.bY b _=[] by simp[a5.bY,J]];exact D.mono O
   by_cases K:(a5.node Z q Y al v W R).ins b=true
   ·rw[show a5.bY b _=[] by simp[a5.bY,K]];exact D.mono O
   rw[show a5.bY b _=[W,R] by simp[a5.bY,J,K]];obtain⟨⟨aE,aA,aw⟩,⟨aG,aC,ax⟩,ar⟩:=aa;rcases ar with ⟨G,rfl,rfl,rfl,rfl⟩|⟨ay,am,ao,rfl⟩
   ·exfalso;simp only[a5.out,a5.ins]at J K;simp_all
   ·have ag:(l.length+1)/2-1<l.length:=C;have ae:=cb ag;have ak:=Q _ (hp ag);generalize l[(l.length+1)/2-1]=f5 at*
    refine⟨_,f5.x,am,ab.sub (vC _ _),ak.1,λG j=>⟨(Q G (List.mem_of_mem_take j)).1,?_⟩,_,av,ao,ab.sub (vw _ _),ak.2,λG j=>⟨?_,(Q G (List.mem_of_mem_drop j)).2⟩,D⟩
    ·obtain⟨au,U,rfl⟩:=BP.1 j;rw[lB]at U;rw[List.getElem_take];exact rX ab C (cb C) ae
    ·obtain⟨au,U,rfl⟩:=BP.1 j;rw[vz]at U;rw[List.getElem_drop];exact rX ab C ae (cb C)
def a5.Xa(b)(j:a5)(C)(h:j.fw<=C+1):∀y∈j.bY b,y.fw<=C:=λy D=>by
 cases j with
 |nil=>trivial
 |node G q E K v J I=>
  simp[a5.fw]at h;unfold a5.bY at D;grind
def W8(b E D)(h:∀j∈E,j.fw<=D+1):∀y∈oF b E,y.fw<=D:=λy C=>by
 obtain⟨j,G,C⟩:=vB.1 C;exact j.Xa b D (h j G) y C
theorem W9(b D)(h:∀j∈D,j.fw<=0):oF b D=[]:=by
 refine List.eq_nil_iff_forall_not_mem.2 λy C=> ?_;obtain⟨j,E,C⟩:=vB.1 C;have:=h j E;cases j with
 |nil=>trivial
 |node=>trivial
end W.bN
namespace W.bN
attribute [local irreducible] G bf cc
instance aaH:e5 gS:=⟨3,λC=>[.pointer C.T.addr,j (C.f:Nat),j (C.t:Nat)],λ_=>rfl,λ_ v h=>by simp at h;rcases h with rfl|rfl|rfl<;>rfl⟩
def XV(O G I J)(aa:G<=1000000)(ab:I<=1000000):D E 670 #[.agg #[.pointer O,j (G:Nat),j (I:Nat)]] J λv K=>v=j ((I-G:Nat):Int)/\K=J:=by
 refine ap λg F=> ?_;refine aS λQ=> ?_;refine af ?_;refine aj p (.tmp p .nil) az ⟨congrArg (Value.int _) C,rfl⟩
def Uk(b q G am v Z Y I J high U)(h:c6 U (.node b q G am v Z Y))(Q:G.es.length<=100000)(aa:I<=1000000)(ab:J<=1000000):
  D E 671 #[.agg #[R b,j (I:Nat),j (J:Nat)],.bool high] U λal ae=>al=.agg #[.pointer (if high then Y.addr else Z.addr),j (lead G I high),j (lead G J high)]/\ae=U:=by
 obtain⟨W,K,_,_⟩:=h;have ar:=W.at_ (i:=0) p;cases high with
 |true=>
  have ao:=W.at_ (i:=4) p;refine ap λg F=> ?_;refine aU λag=> ?_;refine aS λak=> ?_;refine aL ?_;refine aW (aE [0,1,2,3,4,5,6,7,8,9,10,11,12,13,14,16,17,18,19,20,21,22,23] (.e 15 (.e 24 (.q 25 (.e 26 .nil))))) ?_;iterate 5 refine ai ?_
  refine dd p (dV p p ah ah) ?_;iterate 17 refine ai ?_
  refine cU p p (yA q G I true _ (by repeat' first|exact K|apply dU.skip) Q C) ?_;refine cU p p (yA q G J true _ (by repeat' first|exact K|apply dU.skip) Q C) ?_;refine ai ?_;refine an (cj O p p p (f1 p p p p cd) ?_);rintro _ _ ⟨rfl,rfl⟩;refine aF ?_;refine aj p (.cell p (c7 bS) .nil) az ⟨rfl,rfl⟩
 |false=>
  have ao:=W.at_ (i:=3) p;refine ap λg F=> ?_;refine aU λag=> ?_;refine aS λak=> ?_;refine aW (aE [0,1,2,3,4,5,6,7,8,9,10,11,12,13,14,16,17,18,19,20,21,22,23] (.e 15 (.e 24 (.q 25 (.e 26 .nil))))) ?_;iterate 5 refine ai ?_
  refine dd p (dV p p ah ah) ?_;iterate 17 refine ai ?_
  refine cU p p (yA q G I false _ (by repeat' first|exact K|apply dU.skip) Q C) ?_;refine cU p p (yA q G J false _ (by repeat' first|exact K|apply dU.skip) Q C) ?_;refine ai ?_;refine an (cj O p p p (f1 p p p p cd) ?_);rintro _ _ ⟨rfl,rfl⟩;refine aF ?_;refine aj p (.cell p (c7 bS) .nil) az ⟨rfl,rfl⟩
def fP(b:b9)(j:List a5):List gS:=j.map (uY b)
def tI(b:b9)(C:a5)(D:aG)(Q:Value)(O:aG):Prop:=∃I G J K E,Q=.tuple #[.slice I (C.ids b).length G,j ((C.ids b).length:Nat),.slice J (C.bY b).length K]/\
 O=E++D/\Rd (E++D) I (C.ids b).length (C.ids b)/\Rd (E++D) J (C.bY b).length (fP b (C.bY b))/\(C.ids b).length<=G/\G<=maxLen/\(C.bY b).length<=K
theorem LA(l){C j}(h:j<=l.length):(d8 l C j).length=j-C:=by unfold d8;grind
theorem JM{j n:Nat}(h:j<=n):kb (j:Int) n=j:=by unfold kb;omega
def a5.MS{b E q D G v C j l}(h:(a5.node E q D G v C j).of l)(aa:(a5.node E q D G v C j).out b=false)(ab:(a5.node E q D G v C j).ins b=false):
  C.of (l.take ((l.length+1)/2))/\j.of (l.drop ((l.length+1)/2))/\D=join C.de j.de:=by
 obtain⟨⟨Z,U,J⟩,⟨ae,W,K⟩,I⟩:=h;rcases I with ⟨Y,rfl,rfl,rfl,rfl⟩|⟨O,Q,R,rfl⟩
 ·exfalso;simp only[a5.out,a5.ins]at aa ab;simp_all
 trivial
theorem Pb(l):(bj l).length=l.length:=(jz l).length_eq
def XN(Z b l U)(h:c6 U Z)(a8:Z.of l)(bA:l.length<=100000):
  D E 668 #[.agg #[.pointer Z.addr,j (Z.de.au.countP (ec b.cC):Nat),j (Z.de.au.countP (ek b.cx):Nat)],.agg #[j b.cB,j b.cI,j b.cC,j b.cx]] U λbt bd=>tI b Z U bt bd:=by
 cases bf:Z with
 |nil=>
  have av:a5.nil.ids b=[]:=rfl;have ax:a5.nil.bY b=[]:=rfl;unfold tI;rw[av,ax];refine ap λg F=> ?_;refine aU λao=> ?_;refine aS λar=> ?_;refine aL ?_;refine aW (aE [0,1,2,3,4] (.e 5 (aE [6,7,8,9,10,11,12,13,14,15,16,17,18,19,20,21,22,23,24,25,26,27,28,29,30,31,32,33,34,35] .nil))) ?_;iterate 5 refine ai ?_
  refine an (gy p p p ⟨_,rfl,rfl⟩ p ?_);refine K ?_;refine af ?_;exact aj (C:=[]++U) p (.tmp p (.tmp p (.tmp p .nil))) az ⟨none,0,none,0,[],rfl,rfl,Rd.nil _ _,Rd.nil _ _,bv _,bu _,bv _⟩
 |node Q q G W v J I=>
  subst bf;have a4:G.es.length<=100000:=by have:G.es.length=l.length:=a8.len;omega
  have bB:G.au.length=G.es.length:=gL _;have bm:G.au.countP (ec b.cC)<=G.es.length:=by grind
  have bn:G.au.countP (ek b.cx)<=G.es.length:=by grind
  have bh:=λaa ab=>a5.MS (b:=b) a8 aa ab;obtain⟨aQ,bg,bC,bE⟩:=id h;have bF:aR U ⟨Q,0+0,none⟩ (.pointer q):=aQ.at_ (i:=0) p;have bI:aR U ⟨Q,0+1,none⟩ (j W):=aQ.at_ (i:=1) p;have bJ:aR U ⟨Q,0+2,none⟩ (j v):=aQ.at_ (i:=2) p;have aO:=λM (aH:dU M q G)=>Qw q G (G.au.countP (ec b.cC):Nat) (G.au.countP (ek b.cx):Nat) M aH a4;rw[JM bm,JM bn]at aO;have a7:(d8 G.au (G.au.countP (ec b.cC)) (G.au.countP (ek b.cx))).length=G.au.countP (ek b.cx)-G.au.countP (ec b.cC):=LA _ C;rw[a7]at aO;have am:=λM=>XV (ak Q) (G.au.countP (ec b.cC)) (G.au.countP (ek b.cx)) M C C;have a6:=λhigh M (aH:c6 M (.node Q q G W v J I))=>Uk Q q G W v J I (G.au.countP (ec b.cC)) (G.au.countP (ek b.cx)) high M aH a4 C C;show D E 668 #[.agg #[R Q,j (G.au.countP (ec b.cC):Nat),j (G.au.countP (ek b.cx):Nat)],.agg #[j b.cB,j b.cI,j b.cC,j b.cx]] U _
  by_cases al:(a5.node Q q G W v J I).out b=true
  ·have av:(a5.node Q q G W v J I).ids b=[]:=if_pos al;have ax:(a5.node Q q G W v J I).bY b=[]:=if_pos al;unfold tI;rw[av,ax];simp only[a5.out,decide_eq_true_eq]at al;generalize G.au.countP (ec b.cC)=aC at*
   generalize G.au.countP (ek b.cx)=aP at*
   by_cases aX:aP<=aC
   ·skip
    refine ap λg F=> ?_;refine aU λao=> ?_;refine aS λar=> ?_;refine aL ?_;refine aW (aE [0,1,2,3,4] (.e 5 (aE [6,7,8,9,10,11,12,13,14,15,16,17,18,19,20,21,22,23,24,25,26,27,28,29,30,31,32,33,34,35] .nil))) ?_;iterate 5 refine ai ?_
    refine an (f9 p p p ⟨_,rfl,rfl⟩ p (aw p (am _)) ?_);rintro _ _ ⟨rfl,rfl⟩;refine cM ?_;iterate 3 refine ai ?_
    refine dB 16 p (decide_eq_true C) ?_;refine K ?_;refine af ?_;exact aj (C:=[]++U) p (.tmp p (.tmp p (.tmp p .nil))) az ⟨none,0,none,0,[],rfl,rfl,Rd.nil _ _,Rd.nil _ _,bv _,bu _,bv _⟩
   ·by_cases aA:b.cI<b.cB
    ·skip
     refine ap λg F=> ?_;refine aU λao=> ?_;refine aS λar=> ?_;refine aL ?_;refine aW (aE [0,1,2,3,4] (.e 5 (aE [6,7,8,9,10,11,12,13,14,15,16,17,18,19,20,21,22,23,24,25,26,27,28,29,30,31,32,33,34,35] .nil))) ?_;iterate 5 refine ai ?_
     refine an (f9 p p p ⟨_,rfl,rfl⟩ p (aw p (am _)) ?_);rintro _ _ ⟨rfl,rfl⟩;refine cM ?_;iterate 3 refine ai ?_
     refine dB 16 p (decide_eq_false C) ?_;iterate 7 refine ai ?_
     refine dB 23 p (decide_eq_true aA) ?_;refine K ?_;refine af ?_;exact aj (C:=[]++U) p (.tmp p (.tmp p (.tmp p .nil))) az ⟨none,0,none,0,[],rfl,rfl,Rd.nil _ _,Rd.nil _ _,bv _,bu _,bv _⟩
    ·by_cases aY:v<b.cB
     ·skip
      refine ap λg F=> ?_;refine aU λao=> ?_;refine aS λar=> ?_;refine aL ?_;refine aW (aE [0,1,2,3,4] (.e 5 (aE [6,7,8,9,10,11,12,13,14,15,16,17,18,19,20,21,22,23,24,25,26,27,28,29,30,31,32,33,34,35] .nil))) ?_;iterate 5 refine ai ?_
      refine an (f9 p p p ⟨_,rfl,rfl⟩ p (aw p (am _)) ?_);rintro _ _ ⟨rfl,rfl⟩;refine cM ?_;iterate 3 refine ai ?_
      refine dB 16 p (decide_eq_false C) ?_;iterate 7 refine ai ?_
      refine dB 23 p (decide_eq_false aA) ?_;iterate 10 refine ai ?_
      refine dB 33 p (decide_eq_true aY) ?_;refine K ?_;refine af ?_;exact aj (C:=[]++U) p (.tmp p (.tmp p (.tmp p .nil))) az ⟨none,0,none,0,[],rfl,rfl,Rd.nil _ _,Rd.nil _ _,bv _,bu _,bv _⟩
     ·skip
      refine ap λg F=> ?_;refine aU λao=> ?_;refine aS λar=> ?_;refine aL ?_;refine aW (aE [0,1,2,3,4] (.e 5 (aE [6,7,8,9,10,11,12,13,14,15,16,17,18,19,20,21,22,23,24,25,26,27,28,29,30,31,32,33,34,35] .nil))) ?_;iterate 5 refine ai ?_
      refine an (f9 p p p ⟨_,rfl,rfl⟩ p (aw p (am _)) ?_);rintro _ _ ⟨rfl,rfl⟩;refine cM ?_;iterate 3 refine ai ?_
      refine dB 16 p (decide_eq_false C) ?_;iterate 7 refine ai ?_
      refine dB 23 p (decide_eq_false aA) ?_;iterate 10 refine ai ?_
      refine dB 33 p (decide_eq_false aY) ?_;iterate 10 refine ai ?_
      refine cK ?_;refine cD p (decide_eq_true C) ?_;refine K ?_;refine af ?_;exact aj (C:=[]++U) p (.tmp p (.tmp p (.tmp p .nil))) az ⟨none,0,none,0,[],rfl,rfl,Rd.nil _ _,Rd.nil _ _,bv _,bu _,bv _⟩
  ·have be:(a5.node Q q G W v J I).out b=false:=by simp_all
   have av:(a5.node Q q G W v J I).ids b=if(a5.node Q q G W v J I).ins b then bj (d8 G.au (G.au.countP (ec b.cC)) (G.au.countP (ek b.cx)))else[]:=if_neg al;have ax:(a5.node Q q G W v J I).bY b=if(a5.node Q q G W v J I).ins b then[]else[J,I]:=if_neg al;have bz:=al;simp only[a5.out,decide_eq_true_eq]at al;unfold tI;rw[av,ax]
   by_cases Y:(a5.node Q q G W v J I).ins b=true
   ·rw[if_pos Y,if_pos Y,Pb,a7];have a0:=Y;simp only[a5.ins,decide_eq_true_eq]at Y;generalize G.au.countP (ec b.cC)=aC at*
    generalize G.au.countP (ek b.cx)=aP at*
    refine ap λg F=> ?_;refine aU λao=> ?_;refine aS λar=> ?_;refine aL ?_;refine aW (aE [0,1,2,3,4] (.e 5 (aE [6,7,8,9,10,11,12,13,14,15,16,17,18,19,20,21,22,23,24,25,26,27,28,29,30,31,32,33,34,35] .nil))) ?_;iterate 5 refine ai ?_
    refine an (f9 p p p ⟨_,rfl,rfl⟩ p (aw p (am _)) ?_);rintro _ _ ⟨rfl,rfl⟩;refine cM ?_;iterate 3 refine ai ?_
    refine dB 16 p (decide_eq_false C) ?_;iterate 7 refine ai ?_
    refine dB 23 p (decide_eq_false C) ?_;iterate 10 refine ai ?_
    refine dB 33 p (decide_eq_false C) ?_;iterate 10 refine ai ?_
    refine cK ?_;refine b2 p (decide_eq_false C) ?_;refine aW (aE [0,1,2,3,4,5,6,7,8,9,10,11,12,13,14,15,16,17] (.q 18 .nil)) ?_;iterate 9 refine ai ?_
    refine dB 52 p (decide_eq_true Y.1) ?_;iterate 10 refine ai ?_
    refine cK ?_;refine cD p (decide_eq_true Y.2) ?_;refine aW (aE [0,1,2,3,4,5,6,7,8,10] (.e 9 (.e 11 (.q 12 (.q 13 (.q 14 .nil)))))) ?_;iterate 10 refine ai ?_
    refine an (a1 p p p (aw p (D.frame [_,_,_] (aO U bg) (λ_ s=>s))) ?_);rintro _ _ ⟨bx,⟨bc,aX,aV,rfl,bp,bq,rfl,bs⟩,rfl⟩;refine cM ?_;refine cU p p (am _) ?_;iterate 3 refine ai ?_
    refine cK ?_;exact aj (C:=aV++U) p (.tmp p (.tmp p (.tmp p .nil))) az ⟨bc,aX,none,0,aV,rfl,rfl,bs,Rd.nil _ _,bp,bq,bv _⟩
   ·rw[if_neg Y,if_neg Y];have a0:(a5.node Q q G W v J I).ins b=false:=by simp_all
    obtain⟨bi,bk,bl⟩:=bh be a0;have ba:=bi.ok.1;have bb:=bk.ok.1;have a2:=λhigh=>L6 (Jq b.cC) J.de I.de ba bb high;have a3:=λhigh=>L6 (PG b.cx) J.de I.de ba bb high;rw[<- bl]at a2 a3;simp only[a5.ins,decide_eq_true_eq]at Y;have aI:=a6 true;have aK:=a6 false;rw[a2,a3]at aI aK;generalize G.au.countP (ec b.cC)=aC at*
    generalize G.au.countP (ek b.cx)=aP at*
    have a9:∀(ay:Nat) (M:aG),Rd (ae ay 559 [.pointer J.addr,j (J.de.au.countP (ec b.cC):Nat),j (J.de.au.countP (ek b.cx):Nat),.pointer I.addr,j (I.de.au.countP (ec b.cC):Nat),j (I.de.au.countP (ek b.cx):Nat)]::M) (ak ay) 2 (fP b [J,I]):=λay M=>aM.ae p;refine ap λg F=> ?_;refine aU λao=> ?_;refine aS λar=> ?_;refine aL ?_;refine aW (aE [0,1,2,3,4] (.e 5 (aE [6,7,8,9,10,11,12,13,14,15,16,17,18,19,20,21,22,23,24,25,26,27,28,29,30,31,32,33,34,35] .nil))) ?_;iterate 5 refine ai ?_
    refine an (f9 p p p ⟨_,rfl,rfl⟩ p (aw p (am _)) ?_);rintro _ _ ⟨rfl,rfl⟩;refine cM ?_;iterate 3 refine ai ?_
    refine dB 16 p (decide_eq_false C) ?_;iterate 7 refine ai ?_
    refine dB 23 p (decide_eq_false C) ?_;iterate 10 refine ai ?_
    refine dB 33 p (decide_eq_false C) ?_;iterate 10 refine ai ?_
    refine cK ?_;refine b2 p (decide_eq_false C) ?_
    by_cases aZ:b.cB<=W
    ·refine aF ?_;refine o4 (aE [0,1,2,3,4,5,6,7,8,9,10,11,12,13,14,15,16,17,18] .nil) O O ?_;iterate 9 refine ai ?_
     refine dB 52 p (decide_eq_true aZ) ?_;iterate 10 refine ai ?_
     refine cK ?_;refine b2 p (decide_eq_false C) ?_;refine aW (.q 0 (.q 2 (.e 1 (.e 3 (.q 5 (.q 6 (.e 4 (.q 7 .nil)))))))) ?_;iterate 2 refine ai ?_
     refine cU p p (aK _ (by repeat' first|exact h|apply c6.skip)) ?_;refine cU p p (aI _ (by repeat' first|exact h|apply c6.skip)) ?_;iterate 2 refine ai ?_
     refine hu λag=> ?_;refine ai ?_;refine cK ?_;exact aj (C:=ae ag 559 [.pointer J.addr,j (J.de.au.countP (ec b.cC):Nat),j (J.de.au.countP (ek b.cx):Nat),.pointer I.addr,j (I.de.au.countP (ec b.cC):Nat),j (I.de.au.countP (ek b.cx):Nat)]::U) p (.tmp p (.tmp p (.tmp p .nil))) aq ⟨none,0,(ak ag),2,[ae ag 559 [.pointer J.addr,j (J.de.au.countP (ec b.cC):Nat),j (J.de.au.countP (ek b.cx):Nat),.pointer I.addr,j (I.de.au.countP (ec b.cC):Nat),j (I.de.au.countP (ek b.cx):Nat)]],rfl,rfl,Rd.nil _ _,a9 _ _,bv _,bu _,bv _⟩
    ·refine aF ?_;refine o4 (aE [0,1,2,3,4,5,6,7,8,9,10,11,12,13,14,15,16,17,18] .nil) O O ?_;iterate 9 refine ai ?_
     refine dB 52 p (decide_eq_false aZ) ?_;refine K ?_;refine aW (.q 0 (.q 2 (.e 1 (.e 3 (.q 5 (.q 6 (.e 4 (.q 7 .nil)))))))) ?_;iterate 2 refine ai ?_
     refine cU p p (aK _ (by repeat' first|exact h|apply c6.skip)) ?_;refine cU p p (aI _ (by repeat' first|exact h|apply c6.skip)) ?_;iterate 2 refine ai ?_
     refine hu λag=> ?_;refine ai ?_;refine cK ?_;exact aj (C:=ae ag 559 [.pointer J.addr,j (J.de.au.countP (ec b.cC):Nat),j (J.de.au.countP (ek b.cx):Nat),.pointer I.addr,j (I.de.au.countP (ec b.cC):Nat),j (I.de.au.countP (ek b.cx):Nat)]::U) p (.tmp p (.tmp p (.tmp p .nil))) aq ⟨none,0,(ak ag),2,[ae ag 559 [.pointer J.addr,j (J.de.au.countP (ec b.cC):Nat),j (J.de.au.countP (ek b.cx):Nat),.pointer I.addr,j (I.de.au.countP (ec b.cC):Nat),j (I.de.au.countP (ek b.cx):Nat)]],rfl,rfl,Rd.nil _ _,a9 _ _,bv _,bu _,bv _⟩
def XE(C b l G)(h:c6 G C)(W:C.of l)(U:l.length<=100000):
  D E 664 #[.agg #[.pointer C.addr,j (C.de.au.countP (ec b.cC):Nat),j (C.de.au.countP (ek b.cx):Nat)],.agg #[j b.cB,j b.cI,j b.cC,j b.cx]] G λal O=>tI b C G al O:=by
 refine ap λg F=> ?_;refine aU λao=> ?_;refine aS λar=> ?_;refine GE (aw p (D.frame [_,_,_] (XN C b l G h W U) (λ_ s=>s))) ?_;rintro _ _ ⟨am,⟨J,Q,K,R,I,rfl,rfl,Y,Z,ae,ag,ak⟩,rfl⟩;iterate 6 refine ad ?_
 refine af ?_;exact aj (C:=I++G) p (.tmp p (.tmp p (.tmp p .nil))) az ⟨J,Q,K,R,I,rfl,rfl,Y,Z,ae,ag,ak⟩
end W.bN
namespace W.bN
def ba(b:Nat)(D:Int)(l:List gS):aO:=λh=>∃C:Option Addr×Nat,(0<l.length->∃b,C.1=(ak b))/\G [ae b 606 [.slice C.1 l.length C.2,j D],own 559 3 C.1 l.length C.2 (flat l)] h
def sX{s I l M E}(h:G (ba s I l::M) E):∃D C,(0<l.length->∃b,D=(ak b))/\l.length<=C/\C<=maxLen/\G (ae s 606 [.slice D l.length C,j I]::own 559 3 D l.length C (flat l)::M) E:=by
 obtain⟨aa,ab,K,R,U,⟨⟨D,C⟩,Q,q⟩,W⟩:=h;have J:=own.facts q.tail;exact⟨D,C,Q,J.2.1,J.2.2.1,G.head (A:=λh=>h=aa) (λ_ O=>O▸q) ⟨aa,ab,K,R,U,rfl,W⟩⟩
def D.nR{I J args G b O l post}
  (W:∀E C,(0<l.length->∃b,E=(ak b))->l.length<=C->C<=maxLen->D I J args (ae b 606 [.slice E l.length C,j O]::own 559 3 E l.length C (flat l)::G) post):D I J args (ba b O l::G) post:=λg F U K=>by
 obtain⟨E,C,aa,ab,Q,R⟩:=sX K.s.swap;exact W E C aa ab Q g F U ⟨K.g,R.perm (e4 (l₁:=[_,_]))⟩
def lR{C M b c A D l}(I:0<l.length->∃b,A=(ak b))(E:∀h,G C h->G (ae b 606 [.slice A l.length c,j D]::own 559 3 A l.length c (flat l)::M) h):∀h,G C h->G (ba b D l::M) h:=λh s=>
 G.fold (N:=[_,_]) (λh q=>⟨(A,c),I,q⟩) (E h s)
def XA{O b j Q C D E I J K R}(W:(I::J::K::C::D::E::R).length=j*3)(Y:2<=j)(Z:j<=maxLen):∀h,G (ae b Q (C::D::E::I::J::K::R)::O) h->G (own Q 3 (ak b) 2 j [C,D,E,I,J,K]::O) h:=λh s=>by
 obtain⟨aa,ab,U,ag,al,q,am⟩:=s;exact⟨aa,ab,U,ag,al,own.kF q W Y Z,am⟩
theorem Zm(j C D E G I J):ej (ej (j::C::D::E::G::I::J) (0+0*3) [E,G,I]) (0+1*3) [j,C,D]=E::G::I::j::C::D::J:=by
 rw[jy (j::C::D::E::G::I::J) _ _ Q,jy _ _ _ Q];rfl
end W.bN
namespace W.bN
attribute [local irreducible] G
@[reducible] def gS.v (C:gS):Value:=.agg #[.pointer C.T.addr,j (C.f:Nat),j (C.t:Nat)]
def rF{G c1 c2 I}{post:List aO->Prop}[O:b4 E G](h:D E G (c1++[]++c2).toArray I λv C=>post C):
  D E 114 #[.func (.func G) c1.toArray c2.toArray] I λv C=>v=.tuple #[.agg #[j 0,j 0],.bool false]/\post C:=by
 refine bH λg F=> ?_;refine aJ ?_;refine aU λJ=> ?_;refine ad ?_;refine bD ?_;refine ad ?_;refine GE (aw p (D.frame [ae J _ _,F] (C4 h) (λ_ s=>s))) ?_;rintro _ _ ⟨Q,⟨rfl,K⟩,rfl⟩;iterate 2 refine ad ?_
 refine cF ?_;refine ad ?_;refine af ?_;exact aj rfl (.cell p (c7 bS) (.tmp p .nil)) az ⟨rfl,K⟩
def pb(L):D E 515 #[j 65536] L λv G=>∃b,v=.tuple #[R b,j 0]/\G=ba b 65536 []::L:=by
 refine ap λg F=> ?_;refine aS λC=> ?_;refine af ?_;refine b5 (own.nil_ 559 3) ?_;exact aj (C:=ba C 65536 []::L) p (.tmp p (.tmp p .nil)) (by(repeat first|exact bo|apply lR (A:=none) (c:=0) (l:=[]) (λh=>absurd h (dc 0))|refine b7 ?_)<;>fail) ⟨C,rfl,rfl⟩
def m5(b l C):D E 658 #[R b] (ba b 65536 l::C) λv G=>v=j (l.length:Nat)/\G=ba b 65536 l::C:=by
 refine D.nR λI J aa ab K=> ?_;refine ap λg F=> ?_;refine af ?_;exact aj rfl (.tmp p .nil) (by(repeat first|exact bo|apply lR aa|refine b7 ?_)<;>fail) ⟨rfl,rfl⟩
def xM(b G J C)(h:aB C b 0 2 [.slice G 0 J,j 65536]):D E 669 #[R b] C λv I=>v=.tuple #[.agg #[.pointer none,j 0,j 0],.bool false]/\I=C:=by
 have aa:=h.at_ (i:=0) p;refine ap λg F=> ?_;refine aU λK=> ?_;refine ad ?_;refine bD ?_;iterate 10 refine ad ?_
 refine f7 ?_;refine aJ ?_;refine ad ?_;refine cF ?_;refine ad ?_;refine af ?_;refine aj p (.cell p (c7 bS) (.tmp p .nil)) az ⟨rfl,rfl⟩
def xL(b J n U l)(G:gS)(I)(h:aB I b 0 2 [.slice J n U,j 65536])(W:Rd I J n (l++[G]))(am:n=l.length+1)(al:n<=65536):D E 669 #[R b] I λv K=>v=.tuple #[G.v,.bool true]/\K=I:=by
 have aa:=h.at_ (i:=0) p;obtain⟨Z,ae,rfl,Y⟩:=W.at_ C;have ag:=Y l.length G Q;have ao:aB I Z (ae+(n-1)*3) 3 [.pointer G.T.addr,j (G.f:Nat),j (G.t:Nat)]:=by
  rw[show n-1=l.length by omega];exact ag
 refine ap λg F=> ?_;refine aS λak=> ?_;refine af ?_;refine b2 p (decide_eq_false C) ?_;refine aW (aE [0,1,2,3,4,5,6,7,8,9,10,11] (.e 12 (.q 13 .nil))) ?_;iterate 12 refine ai ?_
 refine an (dh O p p p (f1 p p p p cd) ?_);rintro _ _ ⟨rfl,rfl⟩;refine ai ?_;refine cK ?_;refine aj p (.cell p (c7 bS) (.tmp p .nil)) az ⟨rfl,rfl⟩
def xq(b C):D E 665 #[R b] (ba b 65536 []::C) λv I=>v=.tuple #[.agg #[.pointer none,j 0,j 0],.bool false]/\I=ba b 65536 []::C:=by
 refine D.nR λG J aa ab O=> ?_;refine bH λg F=> ?_;refine aJ ?_;refine aU λK=> ?_;refine ad ?_;refine bD ?_;refine ad ?_;refine bw p (xM b G J _ bS) ?_;iterate 3 refine ad ?_
 refine cF ?_;refine ad ?_;refine bD ?_;refine ad ?_;refine dG ?_;refine aJ ?_;iterate 2 refine ad ?_
 refine cF ?_;refine ad ?_;refine af ?_;exact aj rfl (.cell p (c7 bS) (.tmp p .nil)) (by(repeat first|exact bo|apply lR aa|refine b7 ?_)<;>fail) ⟨rfl,rfl⟩
def xp(b l j G)(ak:l.length+1<=65536):D E 665 #[R b] (ba b 65536 (l++[j])::G) λv K=>v=.tuple #[j.v,.bool true]/\K=ba b 65536 l::G:=by
 refine D.nR λZ J aa ab ag=> ?_;have W:(l++[j]).length=l.length+1:=Q;obtain⟨I,rfl⟩:=aa Q;generalize Y:(l++[j]).length=n at*
 refine ap λg F=> ?_;refine aU λae=> ?_;refine ad ?_;refine bD ?_;refine ad ?_;refine bw p (xL b _ n J l j _ bS (by repeat' first|exact aM.own (by rw[bU,Y];rfl) (λ_ ↦ ⟨I,rfl⟩)|apply Rd.skip) W C) ?_;iterate 3 refine ad ?_
 refine cF ?_;refine ad ?_;refine bD ?_;refine ad ?_;refine f7 ?_;refine aW (aE [0,1,2,3,4,5,6,7,8,9,10,11,12,13] (.e 14 .nil)) ?_;iterate 11 refine ai ?_
 refine cV p (h5 p p ah) ?_;iterate 2 refine ai ?_
 refine an (cj O p p p (c5 p p p cd) ?_);rintro _ _ ⟨rfl,rfl⟩;refine aJ ?_;iterate 2 refine ad ?_
 refine cF ?_;refine ad ?_;refine af ?_;have U:n-1=l.length:=C;rw[U];refine aj (C:=ba b 65536 l::G) p (.cell p (c7 bS) (.tmp p .nil)) ?_ ⟨rfl,rfl⟩;apply bR;focus ((repeat' first|exact aN.here|apply aN.skip|apply aN.bE);done)
 refine lR (c:=J) (λ_=>⟨I,rfl⟩) ?_;refine zu (.skip .here) p ?_;refine zw (.skip .here) C ?_ (lQ bo);rw[fI];exact List.take_left' (bU _)
def sO(b J G q l I j)(U:Rd j J G I)(am:l.length+G<=65536):D E 570 #[R b,.slice J G q] (ba b 65536 l::j) λv W=>v=.tuple #[]/\W=ba b 65536 (l++I)::j:=by
 have ap:=U.len bs;refine D.nR λag ak aa ab al=> ?_;refine bH λg F=> ?_;refine aW (aE [0,1,2,3,4,5,6,7,8,9,10,11] (.q 12 .nil)) ?_;iterate 11 refine ai ?_
 refine dd p (wB p p C) ?_;refine ai ?_;refine cK ?_;refine b2 p (decide_eq_false C) ?_;refine K ?_;refine GE (bx p p aI ((by repeat' first|exact U|apply aM.skip)) ((cO _)) aZ Q ah ah) ?_;rintro _ _ ⟨ae,Y,rfl,ao,ar,O,rfl⟩;refine K ?_;refine af ?_;have Z:l.length+G=(l++I).length:=by simp_all
 rw[Z]at O ⊢;refine e6 (C:=ba b 65536 (l++I)::j) p .nil ?_ ⟨rfl,rfl⟩;apply bR;focus ((repeat' first|exact aN.here|apply aN.skip|apply aN.bE);done)
 refine lR (c:=Y) O ?_;rw[fI];exact aq
def xv(J K b G C q l I j)(ab:aR j ⟨J,0,none⟩ (R b))(W:aR j ⟨K,0,none⟩ (.slice G C q))(U:Rd j G C I)(Q:l.length+C<=65536):
  D E 569 #[R J,R K] (ba b 65536 l::j) λv O=>O=ba b 65536 (l++I)::j:=by
 refine bH λg F=> ?_;refine aJ ?_;iterate 2 refine ad ?_
 refine bw p (D.pick aI (sO b G C q l I _ (by repeat' first|exact U|apply Rd.skip) Q)) ?_;refine af ?_;exact e6 rfl .nil aq p
def rO(b J G q l I C)(W:Rd C J G I)(U:l.length+G<=65536):D E 517 #[R b,.slice J G q] (ba b 65536 l::C) λv K=>v=j 0/\K=ba b 65536 (l++I)::C:=by
 refine ap λg F=> ?_;refine aU λO=> ?_;refine aS λQ=> ?_;refine bw p (D.pick aI (rF (c1:=[]) (c2:=[R O,R Q]) (post:=λK=>K=ba b 65536 (l++I)::ae Q 604 [.slice J G q]::ae O 555 [R b]::F::C) (xv O Q b J G q l I _ (aR.skip (aR.ae p)) (aR.ae p) (by repeat' first|exact W|apply Rd.skip) U))) ?_;iterate 3 refine ad ?_
 refine aU λY=> ?_;refine cF ?_;refine ad ?_;refine bD ?_;iterate 3 refine ad ?_
 refine af ?_;exact aj (C:=ba b 65536 (l++I)::C) p (.tmp p .nil) aq ⟨rfl,rfl⟩
def tE(C n Q)(l:List gS)(j)(G:Rd j C n l)(ag:n<=1000000):
  D E 666 #[.slice C n Q] j λv O=>Made 559 l j v O:=by
 have aa:=G.len bs;refine ap λg F=> ?_;refine aD (zE p p) ?_;refine af ?_;refine d3 p (λab=> ?_) (λab=> ?_)
 ·have R:C=none:=by simp_all
  have U:n=0:=by
   rcases g9 n with h|h
   ·omega
   ·obtain⟨b,o,R,_⟩:=G.at_ h;grind
  subst U;have:=e3 aa;subst this;refine K ?_;refine af ?_;refine aj rfl (.tmp p .nil) ?_ ⟨none,0,rfl,λh=>absurd h (dc 0),rfl⟩;exact λh s=>(own.nil_ 559 3 h s).swap
 ·refine aF ?_;refine cv ?_;refine aU λZ=> ?_;refine ad ?_;refine GE (bx p p aI (aM.skip (aM.skip G)) ((cO _)) aZ bs ah ah) ?_;rintro _ _ ⟨I,J,rfl,W,ae,Y,rfl⟩;refine ad ?_;refine aL ?_;rw[iQ]at W Y;refine aF ?_;refine aj (C:=own 559 3 I l.length J (flat l)::j) p (.tmp p .nil) ?_ ⟨I,J,by rw[aa];simp[bG],by simp_all,rfl⟩;rw[aa,iQ,mb];refine bR (.skip (.here)) ?_;refine bR (.here) ?_;exact az
def vL(R I)(l:List gS)(U)(Z:0<l.length->∃b,R=(ak b))(ab:l.length<=2):
  D E 667 #[.slice R l.length I] (own 559 3 R l.length I (flat l)::U) λv al=>v=.tuple #[]/\al=own 559 3 R l.length I (flat l.reverse)::U:=by
 match l,ab,Z with
 | [],_,Z=>
  refine ap λg F=> ?_;refine af ?_;refine cJ (ι:=Unit) (λ_=>[(0,.slice R ([]:List gS).length I),(2,j 0),(3,j (-1))]) (λ_=>F::own 559 3 R ([]:List gS).length I (flat ([]:List gS))::U) (λ_=>True) (λ_=>0) () trivial a8 bo ?_;intro _ _;refine K ?_;refine aF ?_;exact e6 (C:=own 559 3 R ([]:List gS).length I (flat ([]:List gS).reverse)::U) p .nil bo ⟨rfl,rfl⟩
 | [C],_,Z=>
  refine ap λg F=> ?_;refine af ?_;refine cJ (ι:=Unit) (λ_=>[(0,.slice R [C].length I),(2,j 0),(3,j 0)]) (λ_=>F::own 559 3 R [C].length I (flat [C])::U) (λ_=>True) (λ_=>0) () trivial a8 bo ?_;intro _ _;refine K ?_;refine aF ?_;exact e6 (C:=own 559 3 R [C].length I (flat [C].reverse)::U) p .nil bo ⟨rfl,rfl⟩
 | [C,y],_,Z=>
  obtain⟨W,rfl⟩:=Z Q;refine bH λg F=> ?_;refine b5 (j:=own 559 3 (ak W) 2 I [.pointer C.T.addr,j (C.f:Nat),j (C.t:Nat),.pointer y.T.addr,j (y.f:Nat),j (y.t:Nat)]::F::U) (λ_ s=>s.swap) ?_;refine qp (ι:=List Value) (F:=λJ=>(Value.pointer C.T.addr::j (C.f:Nat)::j (C.t:Nat):: .pointer y.T.addr::j (y.f:Nat)::j (y.t:Nat)::J).length=I*3/\2<=I/\I<=maxLen) (D:=λJ=>[ae W 559 (.pointer C.T.addr::j (C.f:Nat)::j (C.t:Nat):: .pointer y.T.addr::j (y.f:Nat)::j (y.t:Nat)::J)]) (λh o=>by
   obtain⟨ag,ao,ay,aA⟩:=o.pY;have am:ag=.pointer C.T.addr::j (C.f:Nat)::j (C.t:Nat):: .pointer y.T.addr::j (y.f:Nat)::j (y.t:Nat)::ag.drop 6:=by
    have:=jD 6 ag;simp_all
   exact⟨ag.drop 6,⟨by grind,o.le,o.cap⟩,G.one (am▸ao)⟩) ?_
  rintro J ⟨ar,au,av⟩;refine b5 (j:=F::ae W 559 (.pointer C.T.addr::j (C.f:Nat)::j (C.t:Nat):: .pointer y.T.addr::j (y.f:Nat)::j (y.t:Nat)::J)::U) (λ_ s=>s.swap) ?_;refine K ?_;refine af ?_;refine cJ (ι:=List Value×Nat×Nat) (λY=>[(0,.slice (ak W) 2 I),(2,j (Y.2.1:Nat)),(3,j (Y.2.2:Nat))]) (λY=>F::ae W 559 Y.1::U) (λY=>Y=(.pointer C.T.addr::j (C.f:Nat)::j (C.t:Nat):: .pointer y.T.addr::j (y.f:Nat)::j (y.t:Nat)::J,0,1)\/Y=(.pointer y.T.addr::j (y.f:Nat)::j (y.t:Nat):: .pointer C.T.addr::j (C.f:Nat)::j (C.t:Nat)::J,1,0)) (λY=>Y.2.2) (.pointer C.T.addr::j (C.f:Nat)::j (C.t:Nat):: .pointer y.T.addr::j (y.f:Nat)::j (y.t:Nat)::J,0,1) (.inl p) a8 bo ?_;rintro Y (rfl|rfl)
  ·dsimp only;have aw:∀M,aB (ae W 559 (.pointer C.T.addr::j (C.f:Nat)::j (C.t:Nat):: .pointer y.T.addr::j (y.f:Nat)::j (y.t:Nat)::J)::M) W (0+0*3) 3 [.pointer C.T.addr,j (C.f:Nat),j (C.t:Nat)]:=λM=>aB.ae p;have ax:∀M,aB (ae W 559 (.pointer C.T.addr::j (C.f:Nat)::j (C.t:Nat):: .pointer y.T.addr::j (y.f:Nat)::j (y.t:Nat)::J)::M) W (0+1*3) 3 [.pointer y.T.addr,j (y.f:Nat),j (y.t:Nat)]:=λM=>aB.ae (by cases J<;>rfl);refine K ?_;refine aW (aE [0,1,2,3,4,5,6,7,8,9,10,11,12] (.e 13 (.q 14 (.e 15 .nil)))) ?_;iterate 7 refine ai ?_
   refine cV p (er p (by repeat' first|exact ax _|apply aB.skip)) ?_;iterate 3 refine ai ?_
   refine cV p (er p (by repeat' first|exact aw _|apply aB.skip)) ?_;refine ai ?_;refine an (dh O p p p (f1 p p p p cd) ?_);rintro _ _ ⟨rfl,rfl⟩;refine ai ?_;refine an (cj O p p p (f1 p p p p cd) ?_);rintro _ _ ⟨rfl,rfl⟩;refine K ?_;refine af ?_;exact bM (.pointer y.T.addr::j (y.f:Nat)::j (y.t:Nat):: .pointer C.T.addr::j (C.f:Nat)::j (C.t:Nat)::J,1,0) (.inr p) (Nat.zero_lt_one) a8 (by rw[Zm];exact aq)
  ·refine K ?_;refine aF ?_;refine e6 (C:=own 559 3 (ak W) 2 I [.pointer y.T.addr,j (y.f:Nat),j (y.t:Nat),.pointer C.T.addr,j (C.f:Nat),j (C.t:Nat)]::U) p .nil (nm ?_) ⟨rfl,rfl⟩;exact XA ar au av
def i1(j:Program)(C:TypeId):Bool:=match j.underlying C with
 |some (.func _ _ _)=>true
 | _=>false
class iU (j:Program) (C:TypeId):Prop where
 h:i1 j C=true
def iU.spec{j C}(D:iU j C):∃E b G,j.underlying C=some (.func E b G):=by
 have h:=D.h;unfold i1 at h;grind
def wy{j O E}{U:Option Nat}{ak C Q ag R W J y I G b}[K:iU j C](Z:aY E J=some (.func I G b))(ae:aY E y=some .nilFunc):bf j O E ⟨U,.binOp .eql C J y Q,ak,ag,R,W⟩ (.bool false):=
 iY _ _ _ _ (λD=>by rfl) Z ae λD=>by
  obtain⟨_,_,_,Y⟩:=K.spec;have ab:(dD C (.func I G b) .nilFunc).run j D=.ok false D:=by
   unfold dD;rw[show Op.maxDepth=9999+1 from rfl];unfold Op.equalIn;simp only[Sem.run_bind,run_underlying Y];rfl
  show((do pure (.bool (<- dD C _ _)):Sem Value)).run j D= _;simp_all
instance:iU E 666:=⟨O⟩
structure gz (S:Type)where
 V:S->aO
 ok:gS->S->Prop
 kids:gS->List gS
 g8:gS->S->S
 f:FuncId
 dt:List Value
 d5:List Value
 dL:List gS->S->Nat->Prop
structure gz.Good {S:Type} (j:gz S) (R:aG):Prop where
 pq:b4 E j.f
 qe:∀(M:aG) (C:gS) (I:S),(∀h,G M h->G R h)->j.ok C I->D E j.f (j.dt++[C.v]++j.d5).toArray (j.V I::M) λv U=>∃K W O,v=.slice K (j.kids C).length W/\U=j.V (j.g8 C I)::(O++M)/\Rd (j.V (j.g8 C I)::(O++M)) K (j.kids C).length (j.kids C)
 next:∀(l:List gS) (C:gS) (I:S) (J:Nat),j.dL (l++[C]) I J->∃Q,J=Q+1/\j.dL (l++(j.kids C).reverse) (j.g8 C I) Q
 stop:∀(I:S) (J:Nat),j.dL [] I J->J=0
 cap:∀(l:List gS) (I:S) (J:Nat),j.dL l I J->l.length<=60000/\∀C∈l,j.ok C I/\(j.kids C).length<=2
@[reducible] def eH {S} (C:gz S) (s n:Nat):List Value:=[R s,.func (.func C.f) C.dt.toArray C.d5.toArray,j (n:Nat)]
def xZ{S}(G:gz S)(j s n C):D E 663 #[R j] (ae j 669 (eH G s n)::ba s 65536 []::C) λv I=>v=.bool false/\I=ae j 669 (eH G s n)::ba s 65536 []::C:=by
 refine ap λg F=> ?_;refine bw p (D.pick aI (xq s _)) ?_;iterate 3 refine ad ?_
 refine aU λJ=> ?_;refine cF ?_;refine ad ?_;refine bD ?_;refine ad ?_;refine aD (cL p) ?_;refine K ?_;refine af ?_;exact aj (C:=ae j 669 (eH G s n)::ba s 65536 []::C) p (.tmp p .nil) aq ⟨rfl,rfl⟩
def xY{S}(j Q s n l I)(U:S)(J Y)(ak:j.Good Y)(au:∀h,G J h->G Y h)(ax:j.ok I U)(av:(j.kids I).length<=2)(aG:l.length<=60000)(aH:n<=1000000000000):
  D E 663 #[R Q] (ae Q 669 (eH j s n)::ba s 65536 (l++[I])::j.V U::J) λv am=>v=.bool true/\am=ae Q 669 (eH j s (n+1))::ba s 65536 (l++(j.kids I).reverse)::j.V (j.g8 I U)::J:=by
 haveI:=ak.pq;refine ap λg F=> ?_;refine a9 (D.pick aI (xp s l I _ C)) ?_;refine aU λaC=> ?_;refine cF ?_;refine ad ?_;refine bD ?_;refine ad ?_;refine aD (cL p) ?_;refine K ?_;refine aL ?_;refine aW (aE [0,1,2,3,4] (.e 5 (.e 6 (.q 7 .nil)))) ?_;iterate 5 refine ai ?_
 refine an (dh O p p p (eV p p (D.pre (M:=j.V U::ae Q 669 (eH j s (n+1))::ba s 65536 l::F::J) aq (ak.qe (ae Q 669 (eH j s (n+1))::ba s 65536 l::F::J) I U (λh ay=>au h ay.tail.tail.tail) ax))) ?_);rintro _ _ ⟨al,ao,aA,rfl,rfl,ar⟩;refine an (a1 p p p (aw p (tE al _ ao (j.kids I) _ ar C)) ?_);rintro _ _ ⟨W,Z,rfl,ag,rfl⟩;refine cM ?_;refine ai ?_;refine m3 ?_;refine ad ?_;refine bw p (D.pick aI (vL W Z (j.kids I) _ ag av)) ?_;refine bD ?_;iterate 5 refine ad ?_
 refine bw p (D.pick aI (sO s W _ Z l (j.kids I).reverse _ (by repeat' first|exact aM.own (by rw[bU,HM];rfl) ag|apply Rd.skip) C)) ?_;refine bD ?_;refine ad ?_;refine af ?_;exact aj (C:=ae Q 669 (eH j s (n+1))::ba s 65536 (l++(j.kids I).reverse)::j.V (j.g8 I U)::J) p (.tmp p .nil) aq ⟨rfl,rfl⟩
def xV{S}(I ag W J s Q U l)(av:S)(Z ap)(am:I.Good ap)(aL:∀h,G Z h->G ap h)(aK:I.dL l av U)(aY:U<=100000000):
  D E 662 #[R ag,R W] (ae ag 667 [R J]::ae W 3 [j (Q:Nat)]::ae J 669 (eH I s 0)::ba s 65536 l::I.V av::Z)
   λv aG=>∃ay aC,I.dL ay aC (U-min Q U)/\aG=ae ag 667 [R J]::ae W 3 [j (Q:Nat)]::ae J 669 (eH I s (min Q U))::ba s 65536 ay::I.V aC::Z:=by
 refine bH λg F=> ?_;refine aF ?_;refine cJ (λ_=>[(0,.pointer _),(1,R W)]) (λy=>ae ag 667 [R J]::ae W 3 [j (Q:Nat)]::ae J 669 (eH I s y.2.2)::ba s 65536 y.1::I.V y.2.1::F::Z) (λy=>y.2.2<=Q/\y.2.2<=U/\I.dL y.1 y.2.1 (U-y.2.2)) (λy=>U-y.2.2) (l,av,0) ⟨bu _,bu _,aK⟩ a8 aq ?_;rintro⟨au,ak,Y⟩ ⟨aH,aI,al⟩;simp only at aH aI al
 by_cases aX:Y<Q
 ·rcases BM au with h|⟨aA,ao,h⟩
  ·subst h;have aV:=am.stop _ _ al;refine aW (aE [0,1,2,3,4,5,6,7] (.e 8 (.q 9 .nil))) ?_;iterate 7 refine ai ?_
   refine dB 8 p (decide_eq_true C) ?_;refine ai ?_;refine an (yE O p p p ⟨_,rfl,rfl⟩ p (aw p (D.pre (M:=ae J 669 (eH I s Y)::ba s 65536 []::ae ag 667 [R J]::ae W 3 [j (Q:Nat)]::I.V ak::F::Z) aq (xZ I J s Y _))) ?_);rintro _ _ ⟨rfl,rfl⟩;refine K ?_;refine aF ?_;have ar:min Q U=Y:=C;refine e6 (C:=ae ag 667 [R J]::ae W 3 [j (Q:Nat)]::ae J 669 (eH I s Y)::ba s 65536 []::I.V ak::Z) p .nil aq ?_;rw[ar];exact⟨[],ak,al,rfl⟩
  ·rw[Hw]at h;subst h;obtain⟨aO,aP⟩:=am.cap _ _ _ al;obtain⟨aZ,aQ,aS⟩:=am.next _ _ _ _ al
   have ax:=aP ao (cT.2 (.inr (oW.2 p)));rw[bP]at aO;refine aW (aE [0,1,2,3,4,5,6,7] (.e 8 (.q 9 .nil))) ?_;iterate 7 refine ai ?_
   refine dB 8 p (decide_eq_true C) ?_;refine ai ?_;refine an (yE O p p p ⟨_,rfl,rfl⟩ p (aw p (D.frame [ae ag 667 [R J],ae W 3 [j (Q:Nat)],F] (xY I J s Y aA ao ak Z ap am aL ax.1 ax.2 C C) aq)) ?_);rintro _ _ ⟨_,⟨rfl,rfl⟩,rfl⟩;refine K ?_;refine aF ?_;exact bM (aA++(I.kids ao).reverse,I.g8 ao ak,Y+1) ⟨by assumption,by grind,by grind⟩ (by grind) a8 aq
 ·skip
  refine aW (aE [0,1,2,3,4,5,6,7] (.e 8 (.q 9 .nil))) ?_;iterate 7 refine ai ?_
  refine dB 8 p (decide_eq_false C) ?_;refine ai ?_;refine an (gy p p p ⟨_,rfl,rfl⟩ p ?_);refine K ?_;refine aF ?_;have ar:min Q U=Y:=C;refine e6 (C:=ae ag 667 [R J]::ae W 3 [j (Q:Nat)]::ae J 669 (eH I s Y)::ba s 65536 au::I.V ak::Z) p .nil aq ?_;rw[ar];exact⟨au,ak,al,rfl⟩
def rR{S}(C:gz S)(s U I l Y J W)(ar:C.Good W)(ao:∀h,G J h->G W h)(al:C.dL l Y I)(au:I<=100000000):
  D E 660 #[R s,j (U:Nat),.func (.func C.f) C.dt.toArray C.d5.toArray] (ba s 65536 l::C.V Y::J)
   λv ag=>∃K O,v=.tuple #[j (min U I:Nat),j 0]/\C.dL K O (I-min U I)/\ag=ba s 65536 K::C.V O::J:=by
 refine ap λg F=> ?_;refine aS λZ=> ?_;refine br p p p p ?_;refine aD (wy p p) ?_;iterate 5 refine ad ?_
 refine af ?_;refine b2 p (decide_eq_false Q) ?_;refine aJ ?_;iterate 3 refine ad ?_
 refine aU λak=> ?_;refine aU λae=> ?_;refine cF ?_;refine bD ?_;refine ad ?_;refine GE (aw p (D.frame [F] (rF (c1:=[]) (c2:=[R ae,R Z]) (xV C ae Z ak s U I l Y J W ar ao al au)) aq)) ?_;rintro _ _ ⟨_,⟨rfl,K,O,am,rfl⟩,rfl⟩;iterate 3 refine ad ?_
 refine aU λav=> ?_;refine cF ?_;refine ad ?_;refine aL ?_;refine aW (aE [0,1,2,3,4,5,6] (.q 7 .nil)) ?_;iterate 8 refine ai ?_
 refine cK ?_;exact aj (C:=ba s 65536 K::C.V O::J) p (.tmp p (.tmp p .nil)) aq ⟨K,O,rfl,am,rfl⟩
end W.bN
namespace W.bN
def a5.bi:a5->Nat
 | .nil=>1
 | .node _ _ _ _ _ C j=>C.bi+j.bi+1
theorem c6.bY{D b C}(h:c6 D C):∀y∈C.bY b,c6 D y:=λy j=>by
 cases C with
 |nil=>simp[a5.bY]at j
 |node G q E K v J I=>
  unfold a5.bY at j;split at j
  ·cases j
  ·split at j
   ·cases j
   ·simp at j;rcases j with rfl|rfl
    ·exact h.2.2.1
    ·exact h.2.2.2
def a5.dF(j:a5):Prop:=∃l,j.of l/\dg I.less l
def a5.dP(j:a5):Nat:=j.de.es.length
theorem xo(b j):(fP b j).length=j.length:=gL _
def a5.gf(b:b9):a5->Nat
 | .nil=>1
 | .node E q D G v C j=>if(a5.node E q D G v C j).mid b then C.gf b+j.gf b+1 else 1
def eM(b:b9)(j:List a5):Nat:=(j.map (a5.gf b)).sum
theorem EA(b j C):eM b (j++C)=eM b j+eM b C:=by unfold eM;rw[gM,List.sum_append_nat]
theorem Mi(b j):eM b j.reverse=eM b j:=((List.reverse_perm j).map _).sum_nat
theorem a5.pR(b)(j:a5):j.gf b=1+eM b (j.bY b):=by
 cases j with
 |nil=>simp[a5.gf,a5.bY,a5.out,eM]
 |node D q C I v G E=>
  unfold a5.gf a5.bY a5.mid
  by_cases aa:(a5.node D q C I v G E).out b=true
  ·simp[aa,eM]
  ·by_cases ab:(a5.node D q C I v G E).ins b=true
   ·simp[aa,ab,eM]
   ·simp[aa,ab,eM];omega
def EB(b):∀j:List a5,j.length<=eM b j
 | []=>bv _
 |x::j=>by
  have aa:=EB b j;have ab:=x.pR b;simp only[eM,List.map_cons,List.sum_cons,fc]at aa ⊢;omega
theorem EC(b):∀j:List a5,eM b j=j.length+eM b (oF b j)
 | []=>rfl
 |x::j=>by
  have aa:=EC b j;have ab:=x.pR b;have C:eM b (oF b (x::j))=eM b (x.bY b)+eM b (oF b j):=by
   unfold oF;rw[tm,EA]
  have D:eM b (x::j)=x.gf b+eM b j:=by simp[eM]
  rw[D,C,fc,ab,aa];omega
theorem jH.gf(b):∀(k){j}{D},jH D j->(∀E∈j,E.fw<=k)->eM b j<=j.length+4*k
 |0,j,D,h,C=>by rw[EC,W9 b j C];simp[eM]
 |k+1,j,D,h,C=>by
  have aa:=(h.bY b).gf b k (W8 b j k C);have ab:=h.four (b:=b);rw[EC];omega
theorem K1(b j C):ii b (j++C)=ii b j++ii b C:=by unfold ii;rw[List.flatMap_append]
theorem XG(b j):fP b j.reverse=(fP b j).reverse:=HR
structure jK (b:b9) (I:List Int) (E:aG) (l:List gS) (G:List Int) (C:Nat):Prop where
 e:∃j:List a5,l=fP b j/\C=eM b j/\(∀D∈j,c6 E D/\∃l,D.of l/\l.length<=1000)/\G++ii b j.reverse=I
 small:C<=60000
def XH{b D l E}(h:l++[E]=fP b D):∃j y,D=j++[y]/\l=fP b j/\E=uY b y:=by
 rcases BM D with C|⟨j,y,C⟩
 ·subst C;have:=congrArg oT h;simp[fP]at this
 ·rw[Hw]at C;subst C;rw[show fP b (j++[y])=fP b j++[uY b y]from gM]at h;have:=List.append_inj' h p;exact⟨j,y,rfl,this.1,by simpa using this.2⟩
theorem jK.next{b Z K l J I W}(h:jK b Z K (l++[J]) I W):
  ∃Y,W=Y+1/\jK b Z K (l++(fP b (J.T.bY b)).reverse) (I++J.T.ids b) Y:=by
 obtain⟨aw,aa,ab,R,ak⟩:=h.e;have au:=h.small;obtain⟨E,y,rfl,rfl,rfl⟩:=XH aa;have ar:eM b (E++[y])=eM b E+(1+eM b (y.bY b)):=by rw[EA,<- y.pR];simp[eM]
 obtain⟨ao,q,ap,av⟩:=R y (cT.2 (.inr (oW.2 p)));refine⟨eM b E+eM b (y.bY b),C,⟨E++(y.bY b).reverse,?_,by rw[EA,Mi],λag j=> ?_,?_⟩,C⟩
 ·rw[<- XG];exact gM.symm
 ·rcases cT.1 j with j|j
  ·exact R ag (cT.2 (.inl j))
  ·have j:=oV.1 j;refine⟨ao.bY ag j,?_⟩;cases y with
   |nil=>simp[a5.bY,a5.out]at j
   |node Q U O ae v lo hi=>
    by_cases D:(a5.node Q U O ae v lo hi).out b=true
    ·simp[a5.bY,D]at j
    by_cases G:(a5.node Q U O ae v lo hi).ins b=true
    ·simp[a5.bY,D,G]at j
    obtain⟨al,am,_⟩:=a5.MS ap (by simpa using D) (by simpa using G);simp[a5.bY,D,G]at j;rcases j with rfl|rfl
    ·exact⟨_,al,by rw[lB];omega⟩
    ·exact⟨_,am,by rw[vz];omega⟩
 ·rw[<- ak,mY,HX,mY,List.reverse_singleton,K1,K1];have:ii b [y]=y.d1 b:=by simp[ii]
  rw[this,y.DJ b];show I++y.ids b++ _= _;simp only[ho]
theorem jK.done{b J E l I j}(G:jK b J E l I j):(l.length:Int)=0<->j=0:=by
 obtain⟨D,rfl,ab,K,O⟩:=G.e;have Q:=EB b D;rw[xo];constructor
 ·intro h;have:D=[]:=e3 C;subst this;rw[ab];rfl
 ·intro h;omega
def jK.end_{b D G l C}(j:jK b D G l C 0):l=[]/\C=D:=by
 have aa:l=[]:=e3 (by have:=j.done.2 p;omega);subst aa;obtain⟨E,aa,ab,J,I⟩:=j.e;have:E=[]:=by
  cases E with
  |nil=>rfl
  |cons=>simp[fP]at aa
 subst this;exact⟨rfl,by simpa[ii]using I⟩
theorem jK.len{b C D l j G}(h:jK b C D l j G)(I:C.length<=1000000):j.length<=1000000:=by
 obtain⟨J,_,_,_,E⟩:=h.e;have:=congrArg oT E;rw[bP]at this;omega
theorem jK.cap{b K C l I J}(h:jK b K C l I J):l.length<=60000/\∀j∈l,(∃l,j=uY b j.T/\c6 C j.T/\j.T.of l/\l.length<=1000)/\(fP b (j.T.bY b)).length<=2:=by
 obtain⟨U,rfl,ab,D,W⟩:=h.e;have Y:=EB b U;have Z:=h.small;refine⟨by rw[xo];omega,λj E=> ?_⟩;obtain⟨y,G,rfl⟩:=jg.1 E;obtain⟨O,q,Q,R⟩:=D y G;refine⟨⟨q,rfl,O,Q,R⟩,?_⟩;rw[xo];show(y.bY b).length<=2;rw[y.MT];split<;>omega
def sb{E D W}{I:Option Nat}{R O K G J U C}(Z:aY W U=some (j C)):
  bf E D W ⟨I,.call ⟨.builtin .max,#[U,.const (j 0)],O⟩,R,K,G,J⟩ (j (C.toNat:Nat)):=by
 have h:=uu (P:=E) (L:=D) (d:=I) (aQ:=R) (K:=O) (a3:=K) (a2:=G) (a0:=J) (y:=.const (.int _ 0)) Z p;have Y:max C 0=((C.toNat:Nat):Int):=Q;rwa[Y]at h
def f3(C:Bool)(j:List Int):List Int:=if C then j else[]
@[reducible] def p2 (s:Nat) (b:b9) (J:Bool) (C:bA) (I D E G:Nat):List Value:=[R s,j b.cB,j b.cI,j b.cC,j b.cx,.bool J,.slice C I D,j (E:Nat),j (G:Nat)]
def jX(D s:Nat)(b:b9)(C:Bool)(j:List Int)(E:Nat):aO:=λh=>∃y:Option Addr×Nat,(0< (f3 C j).length->∃b,y.1=(ak b))/\G [ae D 561 (p2 s b C y.1 (f3 C j).length y.2 j.length E),own 3 1 y.1 (f3 C j).length y.2 (flat (f3 C j))] h
def Oj{I s K b C j M J}(h:G (jX I s b C j K::M) J):∃E D,(0< (f3 C j).length->∃b,E=(ak b))/\(f3 C j).length<=D/\D<=maxLen/\G (ae I 561 (p2 s b C E (f3 C j).length D j.length K)::own 3 1 E (f3 C j).length D (flat (f3 C j))::M) J:=by
 obtain⟨aa,ab,Q,W,Y,⟨⟨E,D⟩,U,q⟩,Z⟩:=h;have O:=own.facts q.tail;exact⟨E,D,U,O.2.1,O.2.2.1,G.head (λ_ R=>R▸q) ⟨aa,ab,Q,W,Y,rfl,Z⟩⟩
def D.FB{J O args I K s R b C j post}
  (W:∀G E,(0< (f3 C j).length->∃b,G=(ak b))->(f3 C j).length<=E->E<=maxLen->D J O args (ae K 561 (p2 s b C G (f3 C j).length E j.length R)::own 3 1 G (f3 C j).length E (flat (f3 C j))::I) post):D J O args (jX K s b C j R::I) post:=λg F Z Q=>by
 obtain⟨G,E,aa,ab,U,Y⟩:=Oj Q.s.swap;exact W G E aa ab U g F Z ⟨Q.g,Y.perm (e4 (l₁:=[_,_]))⟩
def Cg{Q I g O J W K G s U b C j}
  (h:∀E D,(0< (f3 C j).length->∃b,E=(ak b))->(f3 C j).length<=D->D<=maxLen->bc Q I g O J W (ae G 561 (p2 s b C E (f3 C j).length D j.length U)::own 3 1 E (f3 C j).length D (flat (f3 C j))::K)):bc Q I g O J W (jX G s b C j U::K):=λG v ag R=>by
 obtain⟨E,D,aa,ab,Y,Z⟩:=Oj R.s;exact h E D aa ab Y G v ag ⟨R.g,Z⟩
def qF{I M J s E K D b C j}(Q:0< (f3 C j).length->∃b,D=(ak b))(O:∀h,G I h->G (ae J 561 (p2 s b C D (f3 C j).length E j.length K)::own 3 1 D (f3 C j).length E (flat (f3 C j))::M) h):∀h,G I h->G (jX J s b C j K::M) h:=λh R=>
 G.fold (N:=[_,_]) (λh q=>⟨(D,E),Q,q⟩) (O h R)
@[reducible] def Om (E s:Nat) (b:b9) (J:Bool) (G:Nat) (I:List Int) (D:aG):gz (List Int)where
 V:=λC=>jX E s b J C G
 ok:=λj C=>(∃l,j=uY b j.T/\c6 D j.T/\j.T.of l/\l.length<=1000)/\C.length<=1000000
 kids:=λj=>fP b (j.T.bY b)
 g8:=λj C=>C++j.T.ids b
 f:=661
 dt:=[R E]
 d5:=[]
 dL:=jK b I D
end W.bN
namespace W.bN
attribute [local irreducible] G bf cc
structure eb (j:aG) (G:Nat) (C:a5) (E:bA) (D:Nat) (l:List I):Prop where
 z:aB j G 0 2 [.pointer C.addr,.slice E l.length D]
 i:c6 j C
 o:C.of l
 a:dg I.less l
 r:Rd j E l.length l
 dt:l.length<=D
 d5:D<=maxLen
theorem eb.skip{I C G D j E l}(h:eb C G D j E l):eb (I::C) G D j E l:=⟨h.z.skip,h.i.skip,h.o,h.a,h.r.skip,h.dt,h.d5⟩
theorem eb.dF{D G j C E l}(h:eb D G j C E l):j.dF:=⟨l,h.o,h.a⟩
def QW(j C):D E 534 #[j.v] C λv G=>v=.bool (!eg j)/\G=C:=by
 refine ap λg F=> ?_;refine aS λI=> ?_;refine bw p (tF j _) ?_;refine aD (cL p) ?_;exact dq
def aaB{l:List I}:(l.any λj=>!eg j)=true<->¬ ∀j∈l,eg j=true:=by simp
def WX(l):dg I.less (a7 I.less l)<->l.Nodup:=
 ⟨λh=>(e1 l).nodup_iff.1 (h.nodup fX),λh=>Be fX h⟩
def lZ(l:List I):Int:=if ∀j∈l,eg j=true then(if l.Nodup then 0 else 5)else 1
def Cu(U n ag l O)(ar:Rd O U n l)(a8:n<=100000)(aV:n<=ag)(a4:lZ l=0):
  D E 451 #[.slice U n ag] O λv Y=>∃aE Z aG aK av,v=.tuple #[R aE,j 0]/\Y=av++O/\eb (av++O) aE Z aG aK (a7 I.less l):=by
 have aa:l.length=n:=ar.len bs;have a6:∀a2∈l,eg a2=true:=by
  grind[lZ]
 have aW:l.Nodup:=by
  simp_all[lZ]
 have ay:=(WX l).2 aW;have aA:=λM (h:Rd M U n l)=>Qb _ [] [] _ U n ag l M h C (λaI=>QW aI M);rw[show(l.any _)=false by simp_all]at aA;have al:(a7 I.less l).length=n:=by rw[e0,aa]
 have aZ:D E 535 #[.slice U n ag,.func (.func 306) #[] #[]] O λv Y=>∃G J,v=.slice G n J/\(0<n->∃b,G=(ak b))/\n<=J/\J<=maxLen/\Y=own 43 3 G n J (flat (a7 I.less l))::O:=by
  have:=(rQ fX pP U n ag l O ar C aV).made;unfold yB at this;rw[al]at this;exact this
 refine ap λg F=> ?_;refine a9 (aA _ ar.skip) ?_;refine GE (aw p (D.frame [F] aZ (λ_ s=>s))) ?_;rintro _ _ ⟨aH,⟨G,J,rfl,aP,a0,aC,rfl⟩,rfl⟩;refine ad ?_;refine aL ?_;have au:∀Y,Rd (own 43 3 G n J (flat (a7 I.less l))::Y) G n (a7 I.less l):=λY=>aM.own (by rw[bU,al];rfl) aP;refine K ?_;refine GE (aw p (RA pP fX G n J (a7 I.less l) _ (by repeat' first|exact au _|apply Rd.skip) C)) ?_;rintro _ _ ⟨ba,aX,W,aO,rfl,a5,rfl⟩;iterate 4 refine ad ?_
 refine aL ?_;have aY:=aX.elim (λh=>h.2) (λh=>absurd ay h.1);subst aY;rw[al];refine aF ?_;refine b2 p (decide_eq_false Q) ?_;have aQ:=qz n G n J (a7 I.less l) (own 43 3 G n J (flat (a7 I.less l))::O) (bv _) (au O) C a0 aC;refine K ?_;refine GE (aw p (D.frame [own 43 3 W n aO (flat (a7 I.less l)),F] aQ aq)) ?_;rintro _ _ ⟨aH,⟨Z,ao,rfl,a1,rfl,a3⟩,rfl⟩;iterate 2 refine ad ?_
 refine aS λam=> ?_;refine af ?_;have ax:ae am 400 [.pointer Z.addr,.slice G n J]::(ao++own 43 3 G n J (flat (a7 I.less l))::O)=(ae am 400 [.pointer Z.addr,.slice G n J]::(ao++[own 43 3 G n J (flat (a7 I.less l))]))++O:=Q;refine aj (C:=ae am 400 [.pointer Z.addr,.slice G n J]::(ao++own 43 3 G n J (flat (a7 I.less l))::O)) p (.tmp p (.tmp p .nil)) aq ⟨am,Z,G,J,_,rfl,ax,?_⟩;rw[<- ax];exact⟨by rw[al];exact aB.ae p,a3.skip,a1,ay,by rw[al];exact Rd.skip (Rd.bE (au O)),C,aC⟩
section
variable{t:Nat}{T:a5}{A:bA}{c:Nat}{l:List I}{L:aG}(h:eb L t T A c l)
include h
theorem Px:D E 304 #[R t] L λv j=>v=.slice A l.length c/\j=L:=by
 have C:=h.z.at_ (i:=1) p;refine ap λg F=> ?_;refine af ?_;refine aj p (.tmp p .nil) az ⟨rfl,rfl⟩
theorem Zw:D E 230 #[R t] L λv C=>v=j (l.length:Nat)/\C=L:=by
 refine ap λg F=> ?_;refine a9 (Px h.skip) ?_;refine af ?_;refine aj p (.tmp p .nil) az ⟨rfl,rfl⟩
theorem ZA(K:l.length<=1000000):D E 232 #[R t] L λv C=>Made 43 l L v C:=by
 refine ap λg F=> ?_;refine bw p (Px h.skip) ?_;refine GE (aw p (lI A _ c l _ h.r.skip K)) ?_;rintro _ _ ⟨j,G,rfl,J,rfl⟩;refine ad ?_;refine af ?_;exact aj rfl (.tmp p .nil) aq ⟨j,G,rfl,J,rfl⟩
def fT(b:b9)(T:a5):a5:=if b.cC<=b.cx then T else .nil
theorem ZP(b):D E 571 #[R t,.agg #[j b.cB,j b.cI,j b.cC,j b.cx]] L λv am=>v=.agg #[.pointer (fT b T).addr,j ((fT b T).de.au.countP (ec b.cC):Nat),j ((fT b T).de.au.countP (ek b.cx):Nat)]/\am=L:=by
 have ar:aR L ⟨t,0+0,none⟩ (.pointer T.addr):=h.z.at_ (i:=0) p;have U:=h.i;have ak:=h.o.ok.1;cases ag:T with
 |nil=>
  have ao:fT b a5.nil=.nil:=by simp[fT]
  rw[ao];subst ag;refine ap λg F=> ?_;refine aU λZ=> ?_;refine aS λae=> ?_;refine af ?_;refine aj p (.cell p (c7 bS) .nil) az ⟨rfl,rfl⟩
 |node J q G Y v W Q=>
  subst ag;have av:=ar;have aw:=U.1.at_ (i:=0) p
  by_cases al:b.cC<=b.cx
  ·rw[show fT b (a5.node J q G Y v W Q)=a5.node J q G Y v W Q from if_pos al];refine ap λg F=> ?_;refine aU λZ=> ?_;refine aS λae=> ?_;refine af ?_;refine b2 p (decide_eq_false C) ?_;refine aW (aE [0,1,2,3,4,5,6,7,8,9,10,11,12,14,15,16,17,18,19,20,21,22] (.e 13 (.e 23 (.q 24 (.e 25 .nil))))) ?_;iterate 22 refine ai ?_
   refine cU p p (Q5 q G b.cC _ (by repeat' first|exact U.2.1|apply dU.skip) ak) ?_;refine cU p p (Q4 q G b.cx _ (by repeat' first|exact U.2.1|apply dU.skip) ak) ?_;refine ai ?_;refine an (cj O p p p (f1 p p p p cd) ?_);rintro _ _ ⟨rfl,rfl⟩;refine aF ?_;refine aj p (.cell p (c7 bS) .nil) az ⟨rfl,rfl⟩
  ·rw[show fT b (a5.node J q G Y v W Q)=.nil from if_neg al];refine ap λg F=> ?_;refine aU λZ=> ?_;refine aS λae=> ?_;refine af ?_;refine cD p (decide_eq_true C) ?_;refine K ?_;refine af ?_;refine aj p (.cell p (c7 bS) .nil) az ⟨rfl,rfl⟩
end
def li(b:b9)(l:List I):List Int:=bj ((l.filter (dI b)).map (·.id))
def R1{b C l}(o:C.of l)(D:dg I.less l):bj ((fT b C).d1 b)=li b l:=by
 unfold li fT
 by_cases j:b.cC<=b.cx
 ·rw[if_pos j];exact Bf (o.wH j D)
 ·rw[if_neg j];have:l.filter (dI b)=[]:=lA.2 λE _=>by unfold dI b9.has j1;grind
  rw[this];rfl
def R2{b j}(h:j.dF):(fT b j).dF/\(fT b j).dP<=j.dP/\(b.cC<=b.cx\/fT b j=.nil):=by
 unfold fT
 by_cases C:b.cC<=b.cx
 ·simp_all
 ·rw[if_neg C];exact⟨⟨[],rfl,.nil⟩,bu _,.inr p⟩
def R3{b C j}(h:c6 j C):c6 j (fT b C):=by
 unfold fT;split
 ·exact h
 ·trivial
section
variable{t:Nat}{T:a5}{A:bA}{c:Nat}{l:List I}{L:aG}(h:eb L t T A c l)
include h
theorem Zo(b):D E 518 #[R t,.agg #[j b.cB,j b.cI,j b.cC,j b.cx]] L λv C=>v=.agg #[.pointer (fT b T).addr,j ((fT b T).de.au.countP (ec b.cC):Nat),j ((fT b T).de.au.countP (ek b.cx):Nat)]/\C=L:=by
 refine ap λg F=> ?_;refine aU λG=> ?_;refine aS λJ=> ?_;refine a9 (ZP (by repeat' first|exact h|apply eb.skip) b) ?_;refine af ?_;refine aj p (.cell p (c7 bS) .nil) az ⟨rfl,rfl⟩
end
def _root_.Go.Proofs.YtioamnghkmcbbaaGreat.dU.mono{L M}(j:∀h,G M h->G L h):∀{D}{C},dU L C D->dU M C D
 | .nil,_,h=>h
 | .node Y ae Z,_,⟨b,E,I,W,U,J,aa,ab,K,O,Q,R⟩=>⟨b,E,I,W,U,J,aa.mono j,ab.mono j,K,O,Q.mono j,R.mono j⟩
def c6.mono{L M}(j:∀h,G M h->G L h):∀{C},c6 L C->c6 M C
 | .nil,_=>trivial
 | .node b q I O v K J,⟨aa,ab,D,E⟩=>⟨aa.mono j,ab.mono j,D.mono j,E.mono j⟩
def Vu(C j):(f3 C j).length<=j.length:=by cases C<;>simp[f3]
def Yp(K s Q b U G j l I)(aS:c6 I j)(ar:j.of l)(bc:l.length<=1000)(a8:G.length<=1000000):
  D E 661 #[R K,(uY b j).v] (jX K s b U G Q::I) λa0 aA=>∃W ag ap,a0=.slice W (fP b (j.bY b)).length ag/\aA=jX K s b U (G++j.ids b) Q::(ap++I)/\Rd (jX K s b U (G++j.ids b) Q::(ap++I)) W (fP b (j.bY b)).length (fP b (j.bY b)):=by
 have Z:=XE j b l I aS ar C;have a9:(j.ids b).length<=1000:=by
  have aa:(j.ids b).length<=j.de.au.countP (ek b.cx)-j.de.au.countP (ec b.cC):=by
   unfold a5.ids;split
   ·exact bu _
   ·split
    ·rw[Pb,LA _ nX];exact bv _
    ·exact bu _
  have ab:j.de.au.countP (ek b.cx)<=j.de.au.length:=nX;have a2:j.de.au.length=j.de.es.length:=gL _;have a3:=ar.len;omega
 unfold tI at Z;have aQ:(j.bY b).length=(fP b (j.bY b)).length:=(xo _ _).symm;rw[aQ]at Z;refine D.FB λW ag aO a4 a6=> ?_;generalize fP b (j.bY b)=bd at*
 generalize j.ids b=J at*
 have am:(G++J).length=G.length+J.length:=bP;have ba:=Vu U G;cases U with
 |true=>
  have al:f3 true G=G:=rfl;have Y:f3 true (G++J)=G++J:=rfl;rw[al]at*
  refine bH λg F=> ?_;refine aJ ?_;refine aU λaG=> ?_;refine ad ?_;refine aL ?_;refine aW (aE [0,1,2,3,4] (.e 5 (aE [6,7,8,9,10,11,12] .nil))) ?_;iterate 5 refine ai ?_
  refine an (a1 p p p (aw p (D.frame [_,_,_,_] Z (λ_ s=>s))) ?_);rintro _ _ ⟨aC,⟨ax,aH,ae,ak,O,rfl,rfl,av,ao,aV,aX,aY⟩,rfl⟩;refine cM ?_;iterate 7 refine ai ?_
  refine m3 ?_;iterate 8 refine ad ?_
  refine cF ?_;refine bD ?_;iterate 4 refine ad ?_
  refine f7 ?_;refine aJ ?_;iterate 6 refine ad ?_
  refine GE (bx p p aI ((by repeat' first|exact av|apply aM.skip|apply aM.bE)) ((cO _)) aZ bs ah ah) ?_;rintro _ _ ⟨ay,aK,rfl,a7,bb,aP,rfl⟩;iterate 2 refine ad ?_
  refine cF ?_;refine bD ?_;iterate 2 refine ad ?_
  refine af ?_;refine aj (C:=jX K s b true (G++J) Q::(O++I)) p (.tmp p .nil) ?_ ⟨ae,ak,O,rfl,rfl,ao.skip⟩;apply bR;focus ((repeat' first|exact aN.here|apply aN.skip|apply aN.bE);done)
  refine qF (E:=aK) (D:=ay) (by rw[Y,am];exact aP) ?_;rw[Y,am,fI];exact aq
 |false=>
  have al:f3 false G=[]:=rfl;have Y:f3 false (G++J)=[]:=rfl;rw[al]at*
  refine bH λg F=> ?_;refine aJ ?_;refine aU λaG=> ?_;refine ad ?_;refine aL ?_;refine aW (aE [0,1,2,3,4] (.e 5 (aE [6,7,8,9,10,11,12] .nil))) ?_;iterate 5 refine ai ?_
  refine an (a1 p p p (aw p (D.frame [_,_,_,_] Z (λ_ s=>s))) ?_);rintro _ _ ⟨aC,⟨ax,aH,ae,ak,O,rfl,rfl,av,ao,aV,aX,aY⟩,rfl⟩;refine cM ?_;iterate 7 refine ai ?_
  refine m3 ?_;iterate 8 refine ad ?_
  refine cF ?_;refine bD ?_;iterate 4 refine ad ?_
  refine dG ?_;refine aJ ?_;iterate 2 refine ad ?_
  refine af ?_;refine aj (C:=jX K s b false (G++J) Q::(O++I)) p (.tmp p .nil) ?_ ⟨ae,ak,O,rfl,rfl,ao.skip⟩;apply bR;focus ((repeat' first|exact aN.here|apply aN.skip|apply aN.bE);done)
  refine qF (E:=ag) (D:=W) aO ?_;rw[Y,am];exact aq
def Yo(I s b Q J O G)(ae:O.length<=1000000):(Om I s b Q J O G).Good G where
 pq:=inferInstanceAs (b4 E 661)
 qe:=λM j D Z C=>by
  obtain⟨⟨l,R,aa,ab,U⟩,W⟩:=C;have Y:c6 M j.T:=aa.mono Z;have:=Yp I s J b Q D j.T l M Y ab U W;rw[<- R]at this;exact this
 next:=λl j D K h=>h.next
 stop:=λD K h=>(h.done).1 p
 cap:=λl D K h=>by
  obtain⟨aa,ab⟩:=h.cap;exact⟨aa,λj C=>⟨⟨(ab j C).1,h.len ae⟩,(ab j C).2⟩⟩
def i7(C:Nat)(b:b9)(J:Bool)(I:List Int)(j:aG)(E D:Nat):aO:=λh=>∃y:Nat×List gS×List Int,jK b I j y.2.1 y.2.2 E/\G [jX C y.1 b J y.2.2 D,ba y.1 65536 y.2.1] h
def D.i7{O:Program}{Q:FuncId}{args:Array Value}{K j:aG}{C G E:Nat}{b:b9}{J:Bool}{I:List Int}{post:Value->List aO->Prop}
  (W:∀s l R,jK b I j l R G->D O Q args (jX C s b J R E::ba s 65536 l::K) post):D O Q args (i7 C b J I j G E::K) post:=
 D.open (ι:=Nat×List gS×List Int) (E:=λy=>jK b I j y.2.1 y.2.2 G) (J:=λy=>[jX C y.1 b J y.2.2 E,ba y.1 65536 y.2.1]) (λ_ h=>h) λy U=>W y.1 y.2.1 y.2.2 U
def zx{C M D E s J I b O K l j}(R:jK b K D l j J)(Q:∀h,G C h->G (jX E s b O j I::ba s 65536 l::M) h):∀h,G C h->G (i7 E b O K D J I::M) h:=λh U=>
 G.fold (N:=[_,_]) (λh q=>⟨(s,l,j),R,q⟩) (Q h U)
structure fm where
 t:Nat
 T:a5
 A:Option Addr
 c:Nat
 l:List I
instance aaI:e5 fm:=⟨1,λj=>[R j.t],λ_=>rfl,λ_ v h=>by simp at h;subst h;rfl⟩
def fm.at_(C:aG)(j:fm):Prop:=eb C j.t j.T j.A j.c j.l
def eb.mono{L M}(j:∀h,G M h->G L h){I D C E l}(h:eb L I D C E l):eb M I D C E l:=⟨h.z.mono j,h.i.mono j,h.o,h.a,h.r.mono j,h.dt,h.d5⟩
def ft(b:b9)(j:List fm):List a5:=j.map λC=>fT b C.T
def P3(j n G C):D E 516 #[.slice j n G] C λv I=>∃b,v=.func (.func 568) #[] #[R b]/\I=ae b 257 [.slice j n G]::C:=by
 refine ap λg F=> ?_;refine aS λJ=> ?_;refine af ?_;exact aj rfl (.tmp p .nil) aq ⟨J,rfl,rfl⟩
def Sh(y b O n U)(J:List fm)(I:Nat->List aO)(ag:∀G,G<=n->Rd (I G) O n J)(aK:n<=1000000)
  (aA:∀G am,J.reverse[G]?=some am->ic E y [j ((n-1-G:Nat):Int),R am.t] (I G) λq W=>q=true/\W=I (G+1)):
  D E 568 #[Value.func (.yield y) #[] #[],R b] (ae b 257 [.slice O n U]::I 0) λv W=>v=.tuple #[]/\W=ae b 257 [.slice O n U]::I n:=by
 have aI:J.length=n:=(ag 0 (bu _)).len bs;refine ap λg F=> ?_;refine af ?_;refine cJ (λG=>[(0,Value.func _ _ _),(1,.pointer _),(3,j ((n:Int)-1-(G:Nat)))]) (λG=>F::ae b 257 [.slice O n U]::I G) (λG=>G<=n) (λG=>n-G) 0 (bu _) ⟨rfl,rfl,by rw[show(n:Int)-1-((0:Nat):Int)=(n:Int)-1 by simp];rfl,trivial⟩ az ?_;intro G av;refine K ?_;refine aL ?_
 by_cases aH:G<n
 ·obtain⟨ar,aC,rfl,aE⟩:=(ag G av).at_ C;have Z:J.reverse[G]?=some (J.reverse[G]'(by simp_all)):=cb _;generalize J.reverse[G]'(by simp_all)=al at Z;have aw:J[n-1-G]?=some al:=by
   grind
  have ao:=(aE _ _ aw).at_ (i:=0) p;have ak:=aA G al Z;obtain⟨Y,ax⟩:∃Y,n-1-G=Y:=⟨_,rfl⟩;have ay:(n:Int)-1-(G:Nat)=(Y:Nat):=C;rw[ax]at ao ak;rw[ay];have aP:=ao;refine aF ?_;refine cD p (decide_eq_true Q) ?_;refine K ?_;refine ym p p p (ic.frame [F,ae b 257 [.slice (some ⟨ar,aC,none⟩) n U]] ak (λ_ s=>s)) ?_;rintro q W ⟨aG,⟨rfl,rfl⟩,rfl⟩;refine aD (cL p) ?_;refine K ?_;refine af ?_;exact bM (G+1) C C ⟨rfl,rfl,by rw[show(n:Int)-1-((G+1:Nat):Int)=(Y:Int)-1 by omega];rfl,trivial⟩ az
 ·have au:G=n:=C;subst au;refine aF ?_;refine b2 p (decide_eq_false C) ?_;refine aF ?_;exact e6 (D:=[]) (j:=[]) (C:=ae b 257 [.slice O G U]::I G) p .nil az ⟨rfl,rfl⟩
def R7{b}{C:List fm}{j D}(h:C.reverse[j]?=some D):ft b (C.reverse.take (j+1))=ft b (C.reverse.take j)++[fT b D.T]:=by simp_all[ft,List.take_add_one]
def Ym(b ap n aA J Y U al)(a4:∀h,G U h->G al h)(aQ:Rd U ap n J)(bn:n<=1000)(av:∀I∈J,I.at_ al)(aa:∀I∈J,I.l.length<=1000)(bb:eM b (ft b J)<=60000):
  D E 435 #[.agg #[j b.cB,j b.cI,j b.cC,j b.cx],.slice ap n aA,.bool Y] U λv aH=>∃aK,v=(R aK)/\aH=i7 aK b Y (ii b (ft b J)) al (eM b (ft b J)) 0::U:=by
 have bm:J.length=n:=aQ.len bs;refine yg Tryz.func435 p p p ?_;intro g F aP;refine aJ ?_;refine aS λao=> ?_;refine GE (aw p (pb _)) ?_;rintro _ _ ⟨s,rfl,rfl⟩;iterate 3 refine ad ?_
 refine aS λar=> ?_;refine aS λZ=> ?_;refine GE (aw p (P3 ap n aA _)) ?_;rintro _ _ ⟨aO,rfl,rfl⟩;refine af ?_;refine Qp (R:=568) (W:=[]) (Y:=[R aO]) (post:=λbg ax=>bg=none/\ax=ba s 65536 (fP b (ft b J.reverse))::ae Z 561 (p2 s b Y none 0 0 0 0)::F::U) (by rw[<- aP];rfl) p p p ?_ ?_ ?_
 ·intro y am aY a5;have bd:=Sh y aO ap n aA J (λW=>bz y (aY .ready none)::bz am (.deferred (some []))::ba s 65536 (fP b (ft b (J.reverse.take W)))::ae ar 555 [R s]::ae ao 23 [j b.cB,j b.cI,j b.cC,j b.cx]::ae Z 561 (p2 s b Y none 0 0 0 0)::F::U)
   (λW _=>aQ.skip.skip.skip.skip.skip.skip.skip) C ?_
  ·refine(D.pre aq bd).dR ?_;rintro v aH a7 ⟨rfl,rfl⟩ bc;refine⟨_,⟨.ready,none,_,Q,⟨rfl,rfl⟩,rfl⟩,?_⟩;rw[jE (by simp_all)]at bc;revert a7;exact aq
  ·intro W I ag;have be:I∈J:=oV.1 (List.mem_of_getElem? ag);have bl:W<n:=by
    grind
   have a1:=R7 (b:=b) ag;have bq:eb U I.t I.T I.A I.c I.l:=eb.mono a4 (av I be);refine a5 (ι:=Unit) (τ:=λ_=>[(3,R ao),(7,R ar),(9,R Z),(11,R I.t)]) (M:=λ_=>bz am (.deferred (some []))::ba s 65536 (fP b (ft b (J.reverse.take W)))::ae ar 555 [R s]::ae ao 23 [j b.cB,j b.cI,j b.cC,j b.cx]::ae Z 561 (p2 s b Y none 0 0 0 0)::F::U) (Fy:=λ_=>True) ?_ ?_
   ·intro g aX _ _;refine K ?_;refine aL ?_;exact yq () trivial a8 az
   ·intro g aX _ _ _ _;have bp:(fP b (ft b (J.reverse.take W))).length=W:=by
     grind[xo,ft,gL,lB,HM]
    have a6:=λM h=>Zo (L:=M) (t:=I.t) (T:=I.T) (A:=I.A) (c:=I.c) (l:=I.l) h b;have a9:∀(ay:Nat) (M:aG),Rd (ae ay 559 [.pointer (fT b I.T).addr,j ((fT b I.T).de.au.countP (ec b.cC):Nat),j ((fT b I.T).de.au.countP (ek b.cx):Nat)]::M) (ak ay) 1 (fP b [fT b I.T]):=λay M=>aM.ae p;rw[a1,show fP b (ft b (J.reverse.take W)++[fT b I.T])=fP b (ft b (J.reverse.take W))++fP b [fT b I.T]from gM];generalize fT b I.T=aC at*
    generalize fP b (ft b (J.reverse.take W))=aV at*
    refine aF ?_;refine aW (aE [0,1,2] (.e 3 (.e 4 (.e 5 .nil)))) ?_;refine n7 ir p p p p (d6 p dX) ?_;refine kA ir p p p p (fv p) ?_;refine n7 ir p p p p (er p bS) ?_;refine cU p p (a6 _ (by grind[eb.skip])) ?_;refine hu λaZ=> ?_;refine an (cj O p p p (aw p (D.pick aI (rO s (ak aZ) 1 1 aV (fP b [aC]) _ (by repeat' first|exact a9 _ _|apply Rd.skip) C))) ?_);rintro _ _ ⟨rfl,rfl⟩;refine aF ?_;exact yp (bz am (.deferred (some []))::ba s 65536 (aV++fP b [aC])::ae ar 555 [R s]::ae ao 23 [j b.cB,j b.cI,j b.cC,j b.cx]::ae Z 561 (p2 s b Y none 0 0 0 0)::F::U) ⟨rfl,rfl⟩ aq
 ·rintro am ax ⟨-,rfl⟩;refine K ?_;refine af ?_;have a0:(ft b J.reverse).reverse=ft b J:=by simp[ft,HR,HX]
  have a3:jK b (ii b (ft b J)) al (fP b (ft b J.reverse)) [] (eM b (ft b J)):=⟨⟨ft b J.reverse,rfl,by rw[<- a0,Mi],λaC bf=>by
   obtain⟨I,ag,rfl⟩:=jg.1 bf;have ag:=oV.1 ag;obtain⟨⟨q,o,_⟩,bh,ao⟩:=R2 (b:=b) (av I ag).dF;refine⟨R3 (av I ag).i,q,o,?_⟩;have bj:(fT b I.T).dP=q.length:=o.len;have bk:I.T.dP=I.l.length:=(av I ag).o.len;grind,by simp_all⟩,bb⟩
  refine b5 (own.nil_ 3 1) ?_;refine yo [am] rfl (by rw[<- aP];rfl) p (.tmp p .nil) (M:=i7 Z b Y (ii b (ft b J)) al (eM b (ft b J)) 0::F::U) (j:=i7 Z b Y (ii b (ft b J)) al (eM b (ft b J)) 0::U) ?_ aq ⟨Z,rfl,rfl⟩;apply bR;focus ((repeat' first|exact aN.here|apply aN.skip|apply aN.bE);done)
  refine zx (s:=s) a3 ?_;have a2:f3 Y []=[]:=by cases Y<;>rfl
  refine qF (E:=0) (D:=none) (λh=>absurd h (by simp_all)) ?_;rw[a2];exact aq
 ·rintro am bi ax ⟨h,_⟩;cases h
def Yh(b O n U C I J)(Y:∀h,G I h->G J h)(ae:Rd I O n C)(Z:n<=1000)(ak:∀Q∈C,Q.at_ J)(aa:∀Q∈C,Q.l.length<=1000)(ag:eM b (ft b C)<=60000):
  D E 348 #[.agg #[j b.cB,j b.cI,j b.cC,j b.cx],.slice O n U] I λv W=>∃K,v=(R K)/\W=i7 K b false (ii b (ft b C)) J (eM b (ft b C)) 0::I:=by
 refine ap λg F=> ?_;refine aS λal=> ?_;refine GE (aw p (D.frame [_,F] (Ym b O n U C _ I J Y ae Z ak aa ag) (λ_ s=>s))) ?_;rintro _ _ ⟨_,⟨K,rfl,rfl⟩,rfl⟩;refine ad ?_;refine af ?_;exact aj rfl (.tmp p .nil) aq ⟨K,rfl,rfl⟩
def Yk(J I O b U Y W Q n)(aA:∀h,G Q h->G W h)(aC:Y.length<=1000000)(aY:O<=1000000000):
  D E 656 #[R J,j n] (i7 J b U Y W I O::Q) λaE ao=>aE=.tuple #[j (min n.toNat I:Nat),.bool (decide (I-min n.toNat I=0))]/\ao=i7 J b U Y W (I-min n.toNat I) (O+min n.toNat I)::Q:=by
 refine D.i7 λs l al ag=> ?_;have aZ:=ag.small;refine bH λg F=> ?_;refine aJ ?_;iterate 2 refine ad ?_
 refine bD ?_;iterate 2 refine ad ?_
 refine dG ?_;refine b5 (j:=jX J s b U al O::ba s _ l::F::Q) aq ?_;refine Cg λaG aO au aP aS=> ?_;refine aJ ?_;iterate 5 refine ad ?_
 refine aD (sb p) ?_;iterate 2 refine ad ?_
 refine GE (aw p (D.pre (by(repeat first|exact bo|apply qF au|refine b7 ?_)<;>fail) (rR (Om J s b U O Y W) s n.toNat I l al (F::Q) W (Yo J s b U O Y W aC) (λh ae=>aA h ae.tail) ag C))) ?_;rintro _ _ ⟨Z,am,rfl,ay,rfl⟩;iterate 5 refine ad ?_
 refine aL ?_;refine b5 (j:=jX J s b U am O::ba s 65536 Z::F::Q) (λ_ ae=>ae.swap) ?_;refine Cg λaH ap av aQ aV=> ?_;refine aJ ?_;iterate 8 refine ad ?_
 refine cF ?_;refine aL ?_;refine b5 (j:=jX J s b U am (O+min n.toNat I)::ba s 65536 Z::F::Q) (by(repeat first|exact bo|apply qF (E:=ap) av|refine b7 ?_)<;>fail) ?_;have ak:=ay;refine Cg λaK ar ax aW aX=> ?_;refine K ?_;refine a9 (D.pick aI (m5 s Z _)) ?_;refine af ?_;rw[decide_eq_decide.2 ak.done];refine aj (C:=i7 J b U Y W (I-min n.toNat I) (O+min n.toNat I)::Q) p (.tmp p (.tmp p .nil)) ?_ ⟨rfl,rfl⟩;apply bR;focus ((repeat' first|exact aN.here|apply aN.skip|apply aN.bE);done)
 refine zx (s:=s) ak ?_;exact(by(repeat first|exact bo|apply qF (E:=ar) ax|refine b7 ?_)<;>fail)
def Yj(C O b Q G J I):D E 655 #[R C] (i7 C b Q G J 0 O::I) λZ U=>Z=j (G.length:Nat)/\U=i7 C b Q G J 0 O::I:=by
 refine D.i7 λs l ao Y=> ?_;obtain⟨ak,K⟩:=Y.end_;refine D.FB λae ag W al am=> ?_;rw[<- K];refine ap λg F=> ?_;refine af ?_;refine aj rfl (.tmp p .nil) ?_ ⟨rfl,rfl⟩;apply bR;focus ((repeat' first|exact aN.here|apply aN.skip|apply aN.bE);done)
 refine zx (s:=s) (by rw[K];omega) ?_;exact(by(repeat first|exact bo|apply qF W|refine b7 ?_)<;>fail)
def Yi(j C J b O K I G):D E 653 #[R j] (i7 j b O K I C J::G) λZ U=>Z=.bool (decide (C=0))/\U=i7 j b O K I C J::G:=by
 refine D.i7 λs l al Q=> ?_;refine D.FB λae W Y ag ak=> ?_;refine ap λg F=> ?_;refine br p p p p ?_;refine a9 (D.pick aI (m5 s l _)) ?_;refine af ?_;rw[decide_eq_decide.2 Q.done];refine aj (C:=i7 j b O K I C J::G) p (.tmp p .nil) ?_ ⟨rfl,rfl⟩;apply bR;focus ((repeat' first|exact aN.here|apply aN.skip|apply aN.bE);done)
 refine zx (s:=s) Q ?_;exact(by(repeat first|exact bo|apply qF (E:=W) Y|refine b7 ?_)<;>fail)
@[reducible] def w9:Option fm->Option Addr
 |none=>none
 |some j=>(ak j.t)
instance aaF:e5 (Option fm):=⟨1,λo=>[.pointer (w9 o)],λ_=>rfl,λ_ v h=>by simp at h;subst h;rfl⟩
def opts:Option fm->List I
 |none=>[]
 |some j=>j.l
def hk(C:aG)(o:Option fm):Prop:=∀j,o=some j->j.at_ C
theorem hk.skip{C j o}(h:hk j o):hk (C::j) o:=λE D=>(h E D).skip
def aax(j):D E 304 #[.pointer none] j λv C=>v=.slice none 0 0/\C=j:=by
 refine bH λg F=> ?_;refine aJ ?_;refine ad ?_;refine bD ?_;iterate 2 refine ad ?_
 refine f7 ?_;refine aJ ?_;refine ad ?_;refine af ?_;refine aj p (.tmp p .nil) az ⟨rfl,rfl⟩
def M6(o C)(h:hk C o):D E 230 #[.pointer (w9 o)] C λv G=>v=j ((opts o).length:Nat)/\G=C:=by
 cases o with
 |none=>
  refine bH λg F=> ?_;refine aJ ?_;refine ad ?_;refine bD ?_;refine ad ?_;refine bw p (aax _) ?_;iterate 2 refine ad ?_
  refine af ?_;refine aj p (.tmp p .nil) az ⟨rfl,rfl⟩
 |some I=>exact Zw (h I p)
def eG(j:List (Option fm)):List fm:=(j.filterMap id).filter λC=>decide (0<C.l.length)
def V6(C:List (Option fm))(o:Option fm):eG (C++[o])=eG C++(match o with|none=>[]|some j=>if 0<j.l.length then[j]else[]):=by
 unfold eG;rw[List.filterMap_append,List.filter_append]
 congr 1
 cases o with
 |none=>rfl
 |some j=>
  simp only[List.filterMap_cons,id,List.filterMap_nil,List.filter_cons,List.filter_nil,decide_eq_true_eq]
def VZ(s b n ae W a0 av aG I J)(h:aB J s 0 5 (hj W n ae b (aG:Nat) a0 av))(ap:Rd J W n I)(aV:∀o∈I,hk J o)(a7:n<=100000):
  D E 436 #[R s] J λv au=>Made 325 (eG I) J v au:=by
 have a6:aR J ⟨s,0+0,none⟩ (.slice W n ae):=h.at_ (i:=0) p;have aP:I.length=n:=ap.len bs;refine bH λg F=> ?_;refine aJ ?_;refine ad ?_;refine bD ?_;refine ad ?_;refine bD ?_;iterate 2 refine ad ?_
 refine dG ?_;refine aJ ?_;iterate 6 refine ad ?_
 refine af ?_;refine b5 (own.nil_ 325 1) ?_;refine cJ (ι:=Nat×Option Addr×Nat×List fm) (λy=>[(0,R s),(3,.slice y.2.1 y.2.2.2.length y.2.2.1),(11,.slice W n ae),(12,j (n:Nat)),(13,j (y.1:Nat))]) (λy=>own 325 1 y.2.1 y.2.2.2.length y.2.2.1 (flat y.2.2.2)::F::J)
  (λy=>y.1<=n/\y.2.2.2=eG (I.take y.1)/\y.2.2.2.length<=y.1/\(0<y.2.2.2.length->∃b,y.2.1=(ak b))/\y.2.2.2.length<=y.2.2.1/\y.2.2.1<=maxLen) (λy=>n-y.1) (0,none,0,[]) ⟨bu _,rfl,bv _,(λh=>absurd h (dc 0)),bv _,bu _⟩ a8 aq ?_
 rintro⟨G,Z,ag,O⟩ ⟨aA,Y,aC,al,am,ao⟩;simp only at aA Y aC al am ao;dsimp only;refine aJ ?_;refine ad ?_;refine af ?_;refine cp p (λaw=> ?_) (λaw=> ?_)
 ·obtain⟨aX,aY,rfl,aW⟩:=ap.at_ C;have aE:I[G]?=some I[G]:=cb C;have a4:=(aW _ _ aE).at_ (i:=0) p;have a2:I.take (G+1)=I.take G++[I[G]]:=gu C;have a1:=aV I[G] (hp _);have Q:=V6 (I.take G) I[G];rw[<- a2,<- Y]at Q;generalize I[G]=o at*
  have a9:aR J ⟨aX,aY+G*1,none⟩ (.pointer (w9 o)):=a4;have aH:=λM aK=>M6 o M aK;refine aJ ?_;iterate 3 refine ad ?_
  refine bD ?_;refine ad ?_;refine bw p (aH _ (by repeat' first|exact a1|apply hk.skip)) ?_;refine ad ?_;refine aL ?_
  by_cases K:0< (opts o).length
  ·cases o with
   |none=>exact absurd K (dc 0)
   |some U=>
    have K:0<U.l.length:=K;have Q:eG (I.take (G+1))=O++[U]:=by rw[Q];simp[K]
    refine aF ?_;refine cD p (decide_eq_true (by show(0:Int)< (U.l.length:Nat);omega)) ?_;refine aJ ?_;iterate 2 refine ad ?_
    refine aU λa5=> ?_;refine GE (bx p p aI cn (cS p) aZ bs ah ah) ?_;rintro _ _ ⟨ar,ax,rfl,aO,aQ,aS,rfl⟩;refine ad ?_;refine bD ?_;iterate 2 refine ad ?_
    refine af ?_;refine bM (G+1,ar,ax,O++[U]) ⟨by show G+1<=n;omega,Q.symm,by simp;omega,by simpa using aS,by simpa using aO,aQ⟩ (by show n-(G+1)<n-G;omega) ⟨rfl,by simp only[bP,fD];rfl,rfl,rfl,rfl,trivial⟩ ?_;simp only[bP,fD];rw[<- gm];exact aq
  ·have a3:eG (I.take (G+1))=O:=by
    rw[Q];cases o with
    |none=>simp
    |some U=>simp only[opts]at K;simp[K]
   refine aF ?_;refine b2 p (decide_eq_false C) ?_;refine aJ ?_;iterate 2 refine ad ?_
   refine af ?_;exact bM (G+1,Z,ag,O) ⟨by show G+1<=n;omega,a3.symm,by simp only;omega,al,am,ao⟩ (by show n-(G+1)<n-G;omega) a8 aq
 ·have ay:G=n:=C;subst ay;rw[<- aP,List.take_length]at Y;rw[<- Y];refine aJ ?_;iterate 2 refine ad ?_
  refine af ?_;exact aj (C:=own 325 1 Z O.length ag (flat O)::J) p (.tmp p .nil) aq ⟨Z,ag,rfl,al,rfl⟩
end W.bN
namespace W.bN
def V2{D C}(h:∀o∈D,hk C o):∀j∈eG D,j.at_ C:=λj I=>by
 have:=(gN.1 I).1;obtain⟨o,G,E⟩:=List.mem_filterMap.1 this;exact h o G j E
end W.bN
namespace W.bN
attribute [local irreducible] G bf cc
def e9(j:I)(C:List (Option fm)):List I:=a7 I.less (j::C.flatMap opts)
theorem Le(j):e9 j []=[j]:=by simp[e9,a7]
def Lf(j C):fG I.less (e9 j C):=l5 fX _
def Ug(j C o)(h:fG I.less (opts o)):e9 j (C++[o])=a7 I.less (e9 j C++opts o):=by
 have D:=l4 fX h (.refl _);unfold e9
 conv=>rhs;rw[D]
 rw[Pc fX];simp
def Ld(C j):(e9 C j).length=(j.flatMap opts).length+1:=by unfold e9;rw[e0,fc]
def zR(C):∀(l)(j),(flat l:cs).set j (.pointer (w9 C))=flat (l.set j C)
 | [],_=>rfl
 |x::l,0=>rfl
 |x::l,j+1=>by
  have:=zR C l j;rw[List.set_cons_succ,jo,jo];show Value.pointer _::(flat l).set j _= _;rw[this];rfl
def Nt{j o}(h:hk j o):fG I.less (opts o):=by
 cases o with
 |none=>exact .nil
 |some C=>
  exact(h C p).a.bj fX
def Rb(Q K n U l O)(ao:∀ae,Rd (Q::ae) K n l)(ap:n<=100000)(am:n<=U)(ak:lZ l=0):
  D E 451 #[.slice K n U] (Q::O) λv W=>∃(C:fm) (J:aG),v=.tuple #[R C.t,j 0]/\(C.l=a7 I.less l/\eb J C.t C.T C.A C.c C.l)/\W=f5 J::O:=by
 have aa:=Cu K n U l _ (ao []) ap am ak;refine(D.frame O aa (λh s=>s.perm (fZ))).dR ?_;rintro v W av ⟨au,⟨ar,Z,Y,ag,J,rfl,rfl,al⟩,rfl⟩ s;exact⟨_,⟨⟨ar,Z,Y,ag,a7 _ l⟩,J++[Q],rfl,⟨rfl,al⟩,rfl⟩,G.join (s.perm (fZ))⟩
structure Ct (J:I) (D:List (Option fm)) (C:Nat) (j:fm) (G:aG):Prop where
 le:C<=D.length
 full:∀E o,E<C->D[E]?=some o->0< (opts o).length
 end_:C=D.length\/∃o,D[C]?=some o/\opts o=[]
 l:j.l=e9 J (D.take C)
 t:eb G j.t j.T j.A j.c j.l
def jw(C:List (Option fm))(j:Nat)(D:fm):List (Option fm):=gP j none++some D::C.drop (j+1)
theorem NS{C j D}:(jw C j D).length=j+1+(C.length-(j+1)):=by simp[jw];omega
theorem Uh(j C):a7 I.less (e9 j C)=e9 j C:=(l4 fX (Lf j C) (.refl _)).symm
def VY(s b n al ax av ao au W J M am)(bn:0<n->∃b,ax=(ak b))(b1:J.length=n)(b8:∀o∈J,hk am o)(cr:n<=60)(cu:(J.flatMap opts).length<=50000)(ci:n<=al)(ck:al<=maxLen)(b4:∀G,lZ (e9 W (J.take G))=0)(cg:0<=ao/\ao<=1000000000000):
  D E 374 #[R s,W.v] (ae s 259 (hj ax n al b (au:Nat) av ao)::co b M::own 325 1 ax n al (flat J)::am) λv bB=>∃(a4:bA) (bk G:Nat) (U:fm) (ag:aG),v=.tuple #[]/\Ct W J G U ag/\(∃b,a4=(ak b))/\bB=ae s 259 (hj a4 (jw J G U).length bk b (au:Nat) av (ao+U.l.length))::co b (eY W false M)::own 325 1 a4 (jw J G U).length bk (flat (jw J G U))::f5 ag::am:=by
 refine ap λg F=> ?_;refine aS λay=> ?_;refine aS λbj=> ?_;refine aL ?_
 (repeat first|refine bZ ?_|refine fi ?_|refine gk ?_)
 refine hs (ι:=Nat×aO×Option Addr×Nat) (λy=>[(0,R s),(3,R ay),(4,.slice y.2.2.1 (e9 W (J.take y.1)).length y.2.2.2),(5,j (y.1:Nat))]) (λy=>ae s 259 (hj ax n al b (au:Nat) av ao)::co b M::own 325 1 ax n al (flat (gP y.1 none++J.drop y.1))::y.2.1::ae ay 43 [j W.id,j W.x,j W.y]::F::am)
  (λy=>(y.1<=n/\(e9 W (J.take y.1)).length<=y.2.2.2/\y.2.2.2<=maxLen/\(∀Z,Rd (y.2.1::Z) y.2.2.1 (e9 W (J.take y.1)).length (e9 W (J.take y.1)))/\∀ar o,ar<y.1->J[ar]?=some o->0< (opts o).length)/\(y.1=n\/∃o,J[y.1]?=some o/\opts o=[])) ?_ ?_
 ·refine aF ?_;refine cJ (ι:=Nat×aO×Option Addr×Nat) (λy=>[(0,R s),(3,R ay),(4,.slice y.2.2.1 (e9 W (J.take y.1)).length y.2.2.2),(5,j (y.1:Nat))]) (λy=>ae s 259 (hj ax n al b (au:Nat) av ao)::co b M::own 325 1 ax n al (flat (gP y.1 none++J.drop y.1))::y.2.1::ae ay 43 [j W.id,j W.x,j W.y]::F::am)
   (λy=>y.1<=n/\(e9 W (J.take y.1)).length<=y.2.2.2/\y.2.2.2<=maxLen/\(∀Z,Rd (y.2.1::Z) y.2.2.1 (e9 W (J.take y.1)).length (e9 W (J.take y.1)))/\∀ar o,ar<y.1->J[ar]?=some o->0< (opts o).length) (λy=>n-y.1) (0,ae bj 43 [j W.id,j W.x,j W.y],(ak bj),1) ⟨bu _,by simp[e9,a7],by show 1<=maxLen;decide,λZ=>by
    show Rd _ _ (e9 W (J.take 0)).length (e9 W (J.take 0));rw[BV,Le];exact aM.ae p,λar o h=>absurd h (Nat.not_lt_zero _)⟩ ⟨rfl,rfl,by simp only[BV,Le];rfl,rfl,trivial⟩ aq ?_
  rintro⟨G,aV,aQ,aX⟩ ⟨aY,aC,a0,aH,aP⟩;simp only at aY aC a0 aH aP;dsimp only;have a2:(gP G none++J.drop G:List (Option fm)).length=n:=by simp_all
  by_cases bl:G<n
  ·have bK:J[G]?=some J[G]:=cb C;have b9:J.take (G+1)=J.take G++[J[G]]:=gu C;have ba:J.drop G=J[G]::J.drop (G+1):=(HK C).symm;have a3:=b8 J[G] (hp _);have cv:(opts J[G]).length+((J.take G).flatMap opts).length<=(J.flatMap opts).length:=by
    conv=>rhs;rw[<- jD G J,ba]
    grind
   obtain⟨Y,rfl⟩:=bn C;have bb:0< (opts J[G]).length->∀ar o,ar<G+1->J[ar]?=some o->0< (opts o).length:=λcf ar o cp ct=>by
    grind
   generalize J[G]=o at*
   rw[ba]at a2 ⊢;have bL:(gP G none++o::J.drop (G+1):List (Option fm))[G]?=some o:=by
    simp
   have bz:∀Z,aR (own 325 1 (ak Y) n al (flat (gP G none++o::J.drop (G+1)))::Z) ⟨Y,0+G*1,none⟩ (.pointer (w9 o)):=λZ=>by
    have b7:Rd (own 325 1 (ak Y) n al (flat (gP G none++o::J.drop (G+1)))::Z) (ak Y) n (gP G none++o::J.drop (G+1)):=aM.own (by rw[bU,a2];rfl) (λ_=>⟨Y,rfl⟩);obtain⟨_,_,bF,aK⟩:=b7.at_ C;cases bF;exact(aK _ _ bL).at_ (i:=0) p
   have bT:=λZ bd=>M6 o Z bd;refine K ?_;refine dE 15 p (decide_eq_true C) ?_;iterate 6 refine ad ?_
   refine br p p p p ?_;refine aD (d6 p (by repeat' first|exact bz _|apply aR.skip)) ?_;refine br p p p p ?_;refine a9 (bT _ (by repeat' first|exact a3|apply hk.skip)) ?_;refine aL ?_
   by_cases bs:0< (opts o).length
   ·cases o with
    |none=>exact absurd bs (dc 0)
    |some U=>
     replace bb:=bb bs;have cx:eb am U.t U.T U.A U.c U.l:=a3 U p;have bh:U.l.length<=50000:=by grind[opts]
     have bY:=Ld W (J.take G);have b6:=λZ (bd:eb Z U.t U.T U.A U.c U.l)=>(ZA bd C).made;have bq:=λZ a5 a6 aa ab bN=>(QU fX pP aQ a5 (e9 W (J.take G)).length U.l.length aX a6 (e9 W (J.take G)) U.l Z aa ab C C aC bN (Lf W _) (Nt a3)).made;have bI:a7 I.less (e9 W (J.take G)++U.l)=e9 W (J.take (G+1)):=by rw[b9];exact(Ug W _ (some U) (Nt a3)).symm
     rw[bI]at bq;refine aF ?_;refine cD p (decide_eq_true C) ?_;refine K ?_;refine aD (d6 p (by repeat' first|exact bz _|apply aR.skip)) ?_;refine GE (aw p (b6 _ (by grind[eb.skip]))) ?_;rintro _ _ ⟨a5,a6,rfl,bQ,bV,cl,rfl⟩;refine GE (aw p (bq _ a5 a6 (by repeat' first|exact aH _|apply Rd.skip) (by repeat' first|exact aM.own (bU _) bQ|apply Rd.skip) bV)) ?_;rintro _ _ ⟨bi,bm,rfl,bO,bW,bX,rfl⟩;refine ad ?_;refine bD ?_;iterate 6 refine ad ?_
     refine GE (r3 p p p aI C) ?_;rintro _ _ ⟨rfl,rfl⟩;refine K ?_;refine af ?_;have bJ:(flat (gP G none++some U::J.drop (G+1)):cs).set (0+G*1) (.pointer none)=flat (gP (G+1) none++J.drop (G+1)):=by
      rw[show 0+G*1=G by simp];refine(zR none _ G).trans ?_;simp[BS,List.replicate_succ']
     rw[bJ];exact bM (G+1,own 43 3 bi (e9 W (J.take (G+1))).length bm (flat (e9 W (J.take (G+1)))),bi,bm) ⟨C,bW,bX,λZ=>aM.own (bU _) bO,bb⟩ C a8 aq
   ·refine aF ?_;refine b2 p (decide_eq_false C) ?_;refine aF ?_;rw[<- ba];exact ex (G,aV,aQ,aX) ⟨⟨aY,aC,a0,aH,aP⟩,.inr ⟨o,bK,e3 C⟩⟩ a8 az
  ·have bC:G=n:=C;subst bC;refine K ?_;refine dE 15 p (decide_eq_false Q) ?_;refine K ?_;refine aF ?_;exact ex (G,aV,aQ,aX) ⟨⟨aY,aC,a0,aH,aP⟩,.inl p⟩ a8 az
 ·rintro⟨G,aV,aQ,aX⟩ ⟨⟨aY,aC,a0,aH,aP⟩,bp⟩;simp only at aY aC a0 aH aP bp;dsimp only;have bY:=Ld W (J.take G);have cm:((J.take G).flatMap opts).length<=(J.flatMap opts).length:=by
   grind[jD,bP]
  have be:=λZ=>Rb aV aQ (e9 W (J.take G)).length aX (e9 W (J.take G)) Z aH C aC (b4 G);rw[Uh]at be;have bt:∀U ag,U.l=e9 W (J.take G)->eb ag U.t U.T U.A U.c U.l->Ct W J G U ag:=λU ag aa ab=>⟨C,aP,b1▸bp,aa,ab⟩;have bh:∀U:fm,U.l=e9 W (J.take G)->U.l.length=(e9 W (J.take G)).length:=λU h=>by grind
  generalize e9 W (J.take G)=all at*
  by_cases bl:G=n
  ·subst bl;have bE:J.drop G=[]:=HA C;have ce:J.drop (G+1)=[]:=HA C;rw[bE,dA];refine K ?_;refine af ?_;refine cD p (decide_eq_true aZ) ?_;refine K ?_;refine aU λcc=> ?_;refine GE (bx p p aI cn (cS p) aZ Q ah ah) ?_;rintro _ _ ⟨ca,aA,rfl,ch,cq,b3,rfl⟩;refine K ?_;refine aL ?_;obtain⟨Y,rfl⟩:=b3 Q;refine b5 (j:=ae s 259 (hj (ak Y) (G+1) aA b (au:Nat) av ao)::co b M::own 325 1 (ak Y) (G+1) aA (flat (gP G none++[none]:List (Option fm)))::aV::ae ay 43 [j W.id,j W.x,j W.y]::F::am) (by rw[fI];exact aq) ?_;refine hr 3 (aE [0,1,2,3,4,5] (.e 6 (aE [7,8,9,10] (.e 11 .nil)))) ?_;iterate 6 refine ai ?_
   refine an (a1 p p p (aw p (D.pick aI (be _))) ?_);rintro _ _ ⟨U,ag,rfl,⟨aK,bc⟩,rfl⟩;refine bg ?_;iterate 4 refine ai ?_
   refine an (cj O p p p (r3 p p p aI Q) ?_);rintro _ _ ⟨rfl,rfl⟩;have b0:=bh U aK;have bf:(flat (gP G none++[none]:List (Option fm)):cs).set (0+G*1) (R U.t)=flat (jw J G U):=by
    rw[show 0+G*1=G by simp];refine(zR (some U) _ G).trans ?_
    congr 1
    simp_all[jw,BS]
   have a2:(jw J G U).length=G+1:=by rw[NS];omega
   rw[bf];refine b5 (j:=ae s 259 (hj (ak Y) (G+1) aA b (au:Nat) av ao)::co b M::own 325 1 (ak Y) (G+1) aA (flat (jw J G U))::f5 ag::ae ay 43 [j W.id,j W.x,j W.y]::F::am) aq ?_;refine aW (aE [0,1,2,3,4] (.e 5 .nil)) ?_;iterate 5 refine ai ?_
   refine an (cj O p p p (pv p p p aI) ?_);rintro _ _ ⟨rfl,rfl⟩;refine K ?_;refine af ?_;exact e6 (D:=[]) (j:=[]) (C:=ae s 259 (hj (ak Y) (G+1) aA b (au:Nat) av (ao+(all.length:Nat)))::co b (eY W false M)::own 325 1 (ak Y) (G+1) aA (flat (jw J G U))::f5 ag::am) p .nil aq ⟨(ak Y),aA,G,U,ag,rfl,bt U ag aK bc,⟨Y,rfl⟩,by simp_all⟩
  ·obtain⟨Y,rfl⟩:=bn C;refine K ?_;refine af ?_;refine b2 p (decide_eq_false C) ?_;refine aF ?_;refine hr 3 (aE [0,1,2,3,4,5] (.e 6 (aE [7,8,9,10] (.e 11 .nil)))) ?_;iterate 6 refine ai ?_
   refine an (a1 p p p (aw p (D.pick aI (be _))) ?_);rintro _ _ ⟨U,ag,rfl,⟨aK,bc⟩,rfl⟩;refine bg ?_;iterate 4 refine ai ?_
   refine an (cj O p p p (r3 p p p aI C) ?_);rintro _ _ ⟨rfl,rfl⟩;have b0:=bh U aK;have bf:(flat (gP G none++J.drop G:List (Option fm)):cs).set (0+G*1) (R U.t)=flat (jw J G U):=by
    rw[show 0+G*1=G by simp];refine(zR (some U) _ G).trans ?_
    congr 1
    unfold jw;rw[BS _ _ Q,List.length_replicate,Nat.sub_self,<- HK (show G<J.length by omega),List.set_cons_zero]
   have a2:(jw J G U).length=n:=by rw[NS];omega
   rw[bf];refine b5 (j:=ae s 259 (hj (ak Y) (n) al b (au:Nat) av ao)::co b M::own 325 1 (ak Y) (n) al (flat (jw J G U))::f5 ag::ae ay 43 [j W.id,j W.x,j W.y]::F::am) aq ?_;refine aW (aE [0,1,2,3,4] (.e 5 .nil)) ?_;iterate 5 refine ai ?_
   refine an (cj O p p p (pv p p p aI) ?_);rintro _ _ ⟨rfl,rfl⟩;refine K ?_;refine af ?_;exact e6 (D:=[]) (j:=[]) (C:=ae s 259 (hj (ak Y) (n) al b (au:Nat) av (ao+(all.length:Nat)))::co b (eY W false M)::own 325 1 (ak Y) (n) al (flat (jw J G U))::f5 ag::am) p .nil aq ⟨(ak Y),al,G,U,ag,rfl,bt U ag aK bc,⟨Y,rfl⟩,by simp_all⟩
end W.bN
namespace W.bN
structure ct where
 Y:List (List I)
 d:List I
 ed:Nat
def h7:List I->List (List I)->List (List I)
 |j,[]=>[j]
 |j,l::C=>if l.length=0 then j::C else[]::h7 (j++l) C
def l2:List I->List (List I)->Nat
 |j,[]=>j.length
 |j,l::C=>if l.length=0 then j.length else l2 (j++l) C
def NR:∀(k)(C)(j),(∀D,D<k->∃l,C[D]?=some l/\0<l.length)->(k=C.length\/∃l,C[k]?=some l/\l.length=0)->
  h7 j C=gP k []++(j++(C.take k).flatten)::C.drop (k+1)/\l2 j C=(j++(C.take k).flatten).length
 |0,[],j,_,_=>by simp[h7,l2]
 |0,l::E,j,_,h=>by
  simp_all[h7,l2]
 |k+1,[],j,h,_=>by
  simp_all
 |k+1,l::E,j,h,ab=>by
  obtain⟨R,G,J⟩:=h 0 Q;obtain⟨K,O⟩:=NR k E (j++l) (λD I=>by grind) (by
   simp_all)
  unfold h7 l2;grind
theorem AQ(j C):(h7 j C).flatten.Perm (j++C.flatten):=by
 induction C generalizing j with
 |nil=>rfl
 |cons l E D=>
  grind[h7]
def NN(j C):l2 j C<=j.length+C.flatten.length:=by
 induction C generalizing j with
 |nil=>simp[l2]
 |cons l E D=>
  grind[l2]
def pd:Nat->List (List I)->Prop
 | _,[]=>True
 |j,l::C=>(l.length=0\/l.length=2 ^ j)/\pd (j+1) C
theorem pd.put:∀(D)(j)(C),C.length=2 ^ j->pd j D->pd j (h7 C D)
 | [],j,C,h,_=>⟨.inr h,trivial⟩
 |l::t,j,C,h,⟨aa,ab⟩=>by
  unfold h7;split
  ·exact⟨.inr h,ab⟩
  ·rename_i E
   exact⟨.inl p,pd.put t _ _ (by grind) ab⟩
def Fz:∀(C)(D)(j),j.length=2 ^ D->pd D C->(h7 j C).length=C.length\/(h7 j C).length=C.length+1/\2 ^ (D+C.length)<=j.length+C.flatten.length
 | [],D,j,h,_=> .inr ⟨rfl,by grind⟩
 |l::I,D,j,h,⟨aa,ab⟩=>by
  unfold h7;split
  ·simp
  ·have G:(j++l).length=2 ^ (D+1):=by grind
   rcases Fz I _ _ G ab with E|⟨E,J⟩
   ·simp_all
   grind
def ct.live(S:ct):List I:=a7 I.less (S.Y.flatten.filter λj=>!decide (j∈S.d))
def ct.put(S:ct)(j:I):ct:=⟨h7 [j] S.Y,S.d,S.ed+l2 [j] S.Y⟩
def ct.ins(C:Int)(S:ct)(j:I):ct:=if gX C S.live j=0 then(if j∈S.d then⟨S.Y,S.d.erase j,S.ed⟩else S.put j)else S
def ct.vV(S:ct):ct:=S.live.foldl ct.put ⟨[],[],S.ed⟩
def ct.mark(S:ct)(j:I):ct:=⟨S.Y,S.d++[j],S.ed⟩
def ct.del(S:ct)(j:I):ct:=if j∈S.live then(if(S.mark j).d.length<=S.live.length-1 then S.mark j else(S.mark j).vV)else S
theorem ct.kL{S:ct}{j}:j∈S.live<->j∈S.Y.flatten/\j∉S.d:=by unfold ct.live;rw[(e1 _).mem_iff,gN];simp
structure fQ (S:ct) (j:Nat):Prop where
 dP:pd 0 S.Y
 eQ:S.Y.flatten.Nodup
 a0:∀C∈S.Y.flatten,eg C=true
 mu:S.d.Nodup
 oi:∀C∈S.d,C∈S.Y.flatten
 hz:2*S.d.length<=S.Y.flatten.length
 e2:S.Y.flatten.length<=j
 fw:S.Y.length=0\/2 ^ (S.Y.length-1)<=j
 lN:S.ed<=100000*j
def fQ.zero:fQ ⟨[],[],0⟩ 0:=⟨trivial,Q,Q,Q,Q,Q,Q,.inl p,Q⟩
theorem fQ.up{S D C}(h:fQ S D)(j:D<=C):fQ S C:=
 ⟨h.dP,h.eQ,h.a0,h.mu,h.oi,h.hz,h0 h.e2 j,h.fw.imp_right λh=>h0 h j,h0 h.lN (Nat.mul_le_mul_left _ j)⟩
def su{S:ct}(G:S.Y.flatten.Nodup)(D:S.d.Nodup)(E:∀j∈S.d,j∈S.Y.flatten):S.live.length+S.d.length=S.Y.flatten.length:=by
 unfold ct.live;rw[e0];have aa:(S.Y.flatten.filter λj=>decide (j∈S.d)).Perm S.d:=by
  grind
 have ab:=List.filter_append_perm (λj=>decide (j∈S.d)) S.Y.flatten;have C:=ab.length_eq;rw[bP,aa.length_eq]at C;omega
def fQ.su{S j}(h:fQ S j):S.live.length+S.d.length=S.Y.flatten.length:=Proofs.YtioamnghkmcbbaaGreat.W.bN.su h.eQ h.mu h.oi
theorem fQ.wW{S j}(h:fQ S j):S.live.Nodup:=by exact(e1 _).nodup_iff.2 (h.eQ.filter _)
theorem fQ.put{S j D}(h:fQ S j)(K:D∉S.Y.flatten)(R:eg D=true)(U:j<=300):fQ (S.put D) (j+1):=by
 have E:=AQ [D] S.Y;have J:=E.length_eq;simp only[bP,fD]at J;have Q:=h.e2;refine⟨h.dP.put _ _ _ p,?_,?_,h.mu,?_,?_,?_,?_,?_⟩
 ·show(h7 _ _).flatten.Nodup;rw[E.nodup_iff];exact ix.2 ⟨K,h.eQ⟩
 ·intro q G;rcases cT.1 (E.mem_iff.1 G)with aa|aa
  ·simp_all
  ·exact h.a0 q aa
 ·intro q G;exact E.mem_iff.2 (cT.2 (.inr (h.oi q G)))
 ·have:=h.hz;show 2*S.d.length<=(h7 _ _).flatten.length;omega
 ·show(h7 _ _).flatten.length<=j+1;omega
 ·show(h7 _ _).length=0\/2 ^ ((h7 _ _).length-1)<=j+1;rcases Fz _ 0 [D] rfl h.dP with I|⟨I,O⟩
  ·rw[I];exact h.fw.imp_right λh=>C
  grind
 ·have:=NN [D] S.Y;have:=h.lN;simp[fD]at*
  show S.ed+l2 _ _<=100000*(j+1);omega
theorem fQ.ins{S C K D}(h:fQ S C)(G:C<=300):fQ (S.ins K D) (C+1):=by
 unfold ct.ins;split
 ·rename_i E
  split
  ·rename_i aa
   exact⟨h.dP,h.eQ,h.a0,h.mu.erase _,λq J=>h.oi q (List.mem_of_mem_erase J),by have:=h.hz;grind,qm h.e2,h.fw.imp_right λh=>qm h,by have:=h.lN;grind⟩
  ·rename_i aa
   have j:eg D=true:=by
    cases j:eg D
    ·simp[gX,j]at E
    rfl
   refine h.put (λI=> ?_) j G;have:=ct.kL.2 ⟨I,aa⟩;simp[gX,j,this]at E
 ·exact h.up (nZ C)
def zT:∀(l)(S:ct)(j),pd 0 S.Y->(S.Y.flatten++l).Nodup->(∀ag∈S.Y.flatten++l,eg ag=true)->S.d=[]->S.Y.flatten.length+l.length<=j->(S.Y.length=0\/2 ^ (S.Y.length-1)<=j)->
  pd 0 (l.foldl ct.put S).Y/\(l.foldl ct.put S).Y.flatten.Perm (S.Y.flatten++l)/\(l.foldl ct.put S).d=[]/\((l.foldl ct.put S).Y.length=0\/2 ^ ((l.foldl ct.put S).Y.length-1)<=j)/\(l.foldl ct.put S).ed<=S.ed+j*l.length
 | [],S,j,aa,ab,G,D,I,J=>⟨aa,Q,D,J,Q⟩
 |ag::l,S,j,aa,ab,G,D,I,J=>by
  have K:=AQ [ag] S.Y;have O:=K.length_eq;simp only[bP]at O;have E:=(K.append_right l).trans e4.symm;have am:=NN [ag] S.Y;simp only[fc]at I;have ao:(S.put ag).Y.flatten.length=1+S.Y.flatten.length:=O;obtain⟨U,W,Z,ae,ak⟩:=zT l (S.put ag) j (aa.put _ _ _ p) (E.nodup_iff.2 ab) (λq h=>G q (E.mem_iff.1 h)) D C (by
   show(h7 _ _).length=0\/2 ^ ((h7 _ _).length-1)<=j;rcases Fz _ 0 [ag] rfl aa with R|⟨R,al⟩
   ·simp_all
   grind)
  refine⟨U,W.trans E,Z,ae,h0 ak ?_⟩;show S.ed+l2 _ _+j*l.length<=S.ed+j*(l.length+1);grind
theorem fQ.del{S E j}(h:fQ S E)(J:E<=300):fQ (S.del j) (E+1):=by
 have al:=h.su;have K:=h.e2;have ae:=h.lN;unfold ct.del;split
 ·rename_i I
  have aa:=ct.kL.1 I;have mu:(S.mark j).d.Nodup:=by
   show(S.d++[j]).Nodup;rw[(List.perm_append_singleton j _).nodup_iff];exact ix.2 ⟨aa.2,h.mu⟩
  have oi:∀q∈(S.mark j).d,q∈S.Y.flatten:=λq D=>by
   rcases cT.1 (show q∈S.d++[j]from D)with ab|ab
   ·exact h.oi q ab
   simp_all
  have ak:(S.mark j).d.length=S.d.length+1:=by show(S.d++[j]).length= _;simp
  split
  ·rename_i ab
   exact⟨h.dP,h.eQ,h.a0,mu,oi,(by show 2*(S.mark j).d.length<=S.Y.flatten.length;omega),qm K,h.fw.imp_right λh=>qm h,by show S.ed<=_;omega⟩
  ·have ap:=Proofs.YtioamnghkmcbbaaGreat.W.bN.su (S:=S.mark j) h.eQ mu oi;have ar:(S.mark j).Y.flatten.length=S.Y.flatten.length:=rfl;have U:(S.mark j).live.Nodup:=(e1 _).nodup_iff.2 (h.eQ.filter _);obtain⟨O,G,am,Q,ao⟩:=zT (S.mark j).live ⟨[],[],(S.mark j).ed⟩ E trivial (by assumption) (λq D=>h.a0 q ((ct.kL (S:=S.mark j)).1 (by assumption)).1) p (by grind) (.inl p);have R:=G.length_eq;simp only[List.flatten_nil,mb]at G R;have ag:(S.mark j).ed=S.ed:=rfl;refine⟨O,G.nodup_iff.2 U,λq D=>h.a0 q ((ct.kL).1 (G.mem_iff.1 D)).1,?_,?_,?_,?_,?_,?_⟩
   ·unfold ct.vV;simp_all
   ·intro q D;have D:q∈((S.mark j).live.foldl ct.put ⟨[],[],(S.mark j).ed⟩).d:=D;simp_all
   ·show 2*((S.mark j).live.foldl ct.put ⟨[],[],(S.mark j).ed⟩).d.length<=_;simp_all
   ·show((S.mark j).live.foldl ct.put ⟨[],[],(S.mark j).ed⟩).Y.flatten.length<=_;omega
   ·exact Q.imp_right λh=>qm h
   ·show((S.mark j).live.foldl ct.put ⟨[],[],(S.mark j).ed⟩).ed<=_;have Z:E*(S.mark j).live.length<=300*300:=Nat.mul_le_mul J C;grind
 ·exact h.up (nZ E)
end W.bN
end
end Go.Proofs.YtioamnghkmcbbaaGreat
