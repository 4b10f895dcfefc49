/- TopBudget: a part of its proof. -/
import Derived.Test.YtioamnghkmcbbaaGreatMA3
import Derived.Test.YtioamnghkmcbbaaGreatMG
import Derived.Test.YtioamnghkmcbbaaGreatMI
import Derived.Test.YtioamnghkmcbbaaGreatMK
import Derived.Test.YtioamnghkmcbbaaGreatMP
import Derived.Test.YtioamnghkmcbbaaGreatMR1
import Derived.Test.YtioamnghkmcbbaaGreatMU
import Derived.Test.YtioamnghkmcbbaaGreatMV1
set_option linter.all false
set_option maxRecDepth 100000
set_option maxHeartbeats 4000000
open Bool renaming and_eq_true->bL,not_eq_false'->kU
open Function renaming comp_def->BA
open Go.IntWalk renaming i64_in->ry
open List renaming all_cons->ti,all_eq_true->lz,append_assoc->ho,append_nil->dA,eq_nil_of_length_eq_zero->e3,eraseP_sublist->HC,findIdx_cons->HG,getElem?_eq_getElem->cb,getElem?_map->HI,length_cons->fc,length_filter_le->hY,length_map->gL,length_mergeSort->ya,map_congr_left->rz,mem_cons->cQ,mem_map->jg,mem_range->lD,mem_range'_1->HS,nil_append->mb,nodup_nil->HU,not_mem_nil->rB,perm_append_comm->fZ,perm_cons_erase->lF,perm_middle->e4,range->hZ,range'->mc,rec->ch,replicate->gP,tail->tq,takeWhile_cons_of_pos->H1
open List.Perm renaming append_left->kX
open Nat renaming beq->aA,ble->cN,blt->dT,eq_of_beq_eq_true->bV,le_refl->bv,le_succ->nZ,le_succ_of_le->qm,not_lt_zero->H9,rec->iy,succ_le_succ->Ic,zero_le->bu
open Option renaming rec->bF
open Go.RowKit
namespace Go.Proofs.YtioamnghkmcbbaaGreat
noncomputable section
section
attribute [local irreducible] G
section
variable{b:Nat}{P S:List I}
def Pl(l:List I)(n):(l.takeWhile λq=>decide (q.id<n)).length<=l.length:=(List.takeWhile_prefix _).length_le
def KD{P j D C}{G:Option Nat}{Q O E J R y Y ag W K}[U:eo P j (Y,ag,W)](Z:aY C R=some (.slice none 0 0))(ae:aY C y=some (.int K (0:Nat))):bf P D C ⟨G,.slice j R (some y) none none,Q,O,E,J⟩ (.slice none 0 0):=
 uv (P:=P) (T:=j) (U:=U) (L:=D) (d:=G) (aQ:=Q) (a3:=O) (a2:=E) (a0:=J) (O:=none) (n:=0) (I:=0) (l:=0) (h:=0) Z (.inr ⟨y,K,rfl,ae⟩) (.inl ⟨rfl,rfl⟩) (bv _) (bv _)
def GB{n}:∀{l:List I}{j}{h},j< (l.takeWhile λq=>decide (q.id<n)).length->l[j].id<n
 | [],j,h,_=>absurd h (H9 _)
 |x::l,j,h,D=>by
  by_cases E:x.id<n
  ·rw[H1 (by simp_all),fc]at D;cases j with
   |zero=>trivial
   |succ j=>exact GB (l:=l) C
  simp_all
def GA{n}:∀{l:List I}{j},(l.takeWhile λq=>decide (q.id<n)).length=j->∀(h),¬l[j].id<n
 | [],j,_,h=>absurd h (H9 _)
 |x::l,j,C,h=>by
  by_cases D:x.id<n
  ·rw[H1 (by simp_all),fc]at C;subst C;exact GA rfl (by simp_all)
  grind[List.takeWhile_cons_of_neg]
theorem IU(l j):ds l j=l.take (l.takeWhile λq=>decide (q.id<j.id)).length++j::l.drop (l.takeWhile λq=>decide (q.id<j.id)).length:=by grind[ds,List.takeWhile_append_dropWhile,List.drop_left]
def Dl{n}:∀{l},dx l n=true->∃j:Nat,nh l n=(j:Nat)/\j<l.length/\gE l n=l.take j++l.drop (j+1)
 | [],h=>by cases h
 |x::l,h=>by
  by_cases C:x.id=n
  ·exact⟨0,by simp_all[nh,HG],Q,by simp[gE,C]⟩
  ·have D:dx l n=true:=by simpa[dx,C]using h
   obtain⟨j,aa,ab,E⟩:=Dl D;refine⟨j+1,?_,by simp_all,?_⟩
   ·simp_all[nh,HG]
   simp_all[gE]
end
def X5(b G S Z s)(a4:G.length+S.length<=1000)(a3:cA G S 30 ⟨2,Z,s⟩=0):D E 6 #[R b,(be.mk 2 Z s).v] [fp b G S] λv ay=>(∃bd:be,∃am:Int,v=.tuple #[bd.v,j am])/\ay=[fp b (gE G Z.id) S]:=by
 refine D.jY λU J W Y K=> ?_;have av:∀M,aB (ae b 41 (iN U G.length J W S.length Y)::M) b 0 3 (iN U G.length J W S.length Y):=λM=>aB.ae p;have al:∀M,Rd (own 43 3 U G.length J (flat G)::M) U G.length G:=λM=>aM.own (bU _) K.a;have aP:∀M,Rd (own 45 3 W S.length Y (flat S)::M) W S.length S:=λM=>aM.own (bU _) K.na;have ar:=λM h ab aO=>u7 (b:=b) (A:=U) (vE:=W) (y4:=J) (dt:=Y) (L:=M) h ab aO a4 ⟨2,Z,s⟩;rw[a3]at ar;have ba:0<G.length->∃b,U=(ak b):=K.a;have bA:0<S.length->∃b,W=(ak b):=K.na;have bb:G.length<=J:=K.c;have bB:S.length<=Y:=K.y3;have aV:J<=maxLen:=K.m;have aX:Y<=maxLen:=K.Ar;have bC:=K.d;have bI:=K.zi;clear K;unfold maxLen at aV aX;have aY:dx G Z.id=true:=by
  grind[dx,cA,be.jN,be.iq,be.id]
 obtain⟨I,aG,aH,aK⟩:=Dl aY;rw[aK];have ao:=λM h a0=>Oh b U W J Y G S Z.id M h a0 C;rw[aG]at ao;obtain⟨ag,au⟩:=ba C;have bf:∀M,aB (own 43 3 U G.length J (flat G)::M) ag (0+I*3) 3 [j G[I].id,j G[I].x,j G[I].y]:=λM=>by
  obtain⟨bt,bz,am,a6⟩:=(al M).at_ C;rw[au]at am;cases am;exact a6 _ _ (cb aH)
 generalize G[I]=bc at*
 have a2:=bb;subst au;have a7:∀M,aM (own 43 3 (ak ag) G.length J (flat G)::M) 3 (ak ag) I (flat (G.take I)):=λM=>(al M).take C;have a8:∀M,aM (own 43 3 (ak ag) G.length J (flat G)::M) 3 (some ⟨ag,(if J=I+1 then 0 else 0+(I+1)*3),none⟩) (G.length-(I+1)) (flat (G.drop (I+1))):=λM=>(al M).drop C a2;refine ap λg F=> ?_;refine aU λbj=> ?_;refine aS λbk=> ?_;refine a9 (ar _ (by repeat' first|exact av _|apply aB.skip) (by repeat' first|exact al _|apply Rd.skip) (by repeat' first|exact aP _|apply Rd.skip)) ?_;refine bw p (ao _ (by repeat' first|exact av _|apply aB.skip) (by repeat' first|exact al _|apply Rd.skip)) ?_;refine ad ?_;refine bD ?_;iterate 5 refine ad ?_
 refine aD (hx p p C) ?_;refine aD (er p (by repeat' first|exact bf _|apply aB.skip)) ?_;refine aS λbl=> ?_;refine aL ?_;refine aW (aE [0,2,3,4,5,6,7,9,10,11,12,13,14,15] (.e 1 (.e 8 (.e 16 (.q 17 (.q 18 (.e 19 .nil))))))) ?_;iterate 6 refine ai ?_
 refine cV p (h5 p p ah) ?_;iterate 6 refine ai ?_
 refine cV p (ga p p ah ah) ?_;refine an (a1 p p p jS ?_);rintro _ _ ⟨bi,rfl,rfl⟩;refine bg ?_;refine an (a1 p p p (bx p p aI ((by repeat' first|exact a7 _|apply aM.skip)) ((cO _)) aZ Q ah ah) ?_);rintro _ _ ⟨bh,bm,rfl,bn,bp,bs,rfl⟩;refine bg ?_;refine an (a1 p p p (bx p p aI ((by repeat' first|exact a8 _|apply aM.skip)) ((cO _)) aZ Q ah ah) ?_);rintro _ _ ⟨ax,aC,rfl,aQ,bq,a5,rfl⟩;refine bg ?_;iterate 2 refine ai ?_
 refine an (cj O p p p (c5 p p p cd) ?_);rintro _ _ ⟨rfl,rfl⟩
 all_goals
  have aw:0+I+(G.length-(I+1))=(G.take I++G.drop (I+1)).length:=by grind
  rw[aw]at aQ a5;rw[aw];refine aJ ?_;iterate 2 refine ad ?_
  refine cF ?_;refine ad ?_;refine af ?_;refine aj (C:=[fp b (G.take I++G.drop (I+1)) S]) p (.cell p (c7 bS) (.tmp p .nil)) ?_ ⟨⟨⟨1,bc,ci⟩,0,rfl⟩,rfl⟩;apply bR;focus ((repeat' first|exact aN.here|apply aN.skip|apply aN.bE);done)
  refine px (j:=ax) (E:=aC) (C:=W) (I:=Y) p p (by rw[fI]) p ?_;exact aq
def X7(b I S am s)(a4:I.length+S.length<=1000)(a3:cA I S 30 ⟨4,am,s⟩=0):D E 6 #[R b,(be.mk 4 am s).v] [fp b I S] λv ay=>(∃bd:be,∃al:Int,v=.tuple #[bd.v,j al])/\ay=[fp b I (gE S s.id)]:=by
 refine D.jY λU Y W J K=> ?_;have av:∀M,aB (ae b 41 (iN U I.length Y W S.length J)::M) b 0 3 (iN U I.length Y W S.length J):=λM=>aB.ae p;have aP:∀M,Rd (own 43 3 U I.length Y (flat I)::M) U I.length I:=λM=>aM.own (bU _) K.a;have ag:∀M,Rd (own 45 3 W S.length J (flat S)::M) W S.length S:=λM=>aM.own (bU _) K.na;have ar:=λM h ab aO=>u7 (b:=b) (A:=U) (vE:=W) (y4:=Y) (dt:=J) (L:=M) h ab aO a4 ⟨4,am,s⟩;rw[a3]at ar;have bA:0<I.length->∃b,U=(ak b):=K.a;have ba:0<S.length->∃b,W=(ak b):=K.na;have bB:I.length<=Y:=K.c;have bb:S.length<=J:=K.y3;have aV:Y<=maxLen:=K.m;have aX:J<=maxLen:=K.Ar;have bC:=K.d;have bI:=K.zi;clear K;unfold maxLen at aV aX;have aY:dx S s.id=true:=by
  grind[dx,cA,be.jN,be.iq,be.id]
 obtain⟨G,aG,aH,aK⟩:=Dl aY;rw[aK];have ao:=λM h a0=>Oi b U W Y J I S s.id M h a0 C;rw[aG]at ao;obtain⟨Z,au⟩:=ba C;have bf:∀M,aB (own 45 3 W S.length J (flat S)::M) Z (0+G*3) 3 [j S[G].id,j S[G].x,j S[G].y]:=λM=>by
  obtain⟨bt,bz,al,a6⟩:=(ag M).at_ C;rw[au]at al;cases al;exact a6 _ _ (cb aH)
 generalize S[G]=bc at*
 have a2:=bb;subst au;have a7:∀M,aM (own 45 3 (ak Z) S.length J (flat S)::M) 3 (ak Z) G (flat (S.take G)):=λM=>(ag M).take C;have a8:∀M,aM (own 45 3 (ak Z) S.length J (flat S)::M) 3 (some ⟨Z,(if J=G+1 then 0 else 0+(G+1)*3),none⟩) (S.length-(G+1)) (flat (S.drop (G+1))):=λM=>(ag M).drop C a2;refine ap λg F=> ?_;refine aU λbj=> ?_;refine aS λbl=> ?_;refine a9 (ar _ (by repeat' first|exact av _|apply aB.skip) (by repeat' first|exact aP _|apply Rd.skip) (by repeat' first|exact ag _|apply Rd.skip)) ?_;refine bw p (ao _ (by repeat' first|exact av _|apply aB.skip) (by repeat' first|exact ag _|apply Rd.skip)) ?_;refine ad ?_;refine bD ?_;iterate 5 refine ad ?_
 refine aD (hx p p C) ?_;refine aD (er p (by repeat' first|exact bf _|apply aB.skip)) ?_;refine aS λbi=> ?_;refine aL ?_;refine aW (aE [0,2,3,4,5,6,7,9,10,11,12,13,14,15] (.e 1 (.e 8 (.e 16 (.q 17 (.q 18 (.e 19 .nil))))))) ?_;iterate 6 refine ai ?_
 refine cV p (h5 p p ah) ?_;iterate 6 refine ai ?_
 refine cV p (ga p p ah ah) ?_;refine an (a1 p p p jS ?_);rintro _ _ ⟨bk,rfl,rfl⟩;refine bg ?_;refine an (a1 p p p (bx p p aI ((by repeat' first|exact a7 _|apply aM.skip)) ((cO _)) aZ Q ah ah) ?_);rintro _ _ ⟨bh,bm,rfl,bn,bp,bs,rfl⟩;refine bg ?_;refine an (a1 p p p (bx p p aI ((by repeat' first|exact a8 _|apply aM.skip)) ((cO _)) aZ Q ah ah) ?_);rintro _ _ ⟨ax,aC,rfl,aQ,bq,a5,rfl⟩;refine bg ?_;iterate 2 refine ai ?_
 refine an (cj O p p p (c5 p p p cd) ?_);rintro _ _ ⟨rfl,rfl⟩
 all_goals
  have aw:0+G+(S.length-(G+1))=(S.take G++S.drop (G+1)).length:=by simp;omega
  rw[aw]at aQ a5;rw[aw];refine aJ ?_;iterate 2 refine ad ?_
  refine cF ?_;refine ad ?_;refine af ?_;refine aj (C:=[fp b I (S.take G++S.drop (G+1))]) p (.cell p (c7 bS) (.tmp p .nil)) ?_ ⟨⟨⟨3,ci,bc⟩,0,rfl⟩,rfl⟩;apply bR;focus ((repeat' first|exact aN.here|apply aN.skip|apply aN.bE);done)
  refine px (j:=U) (E:=Y) (C:=ax) (I:=aC) p p p (by rw[fI]) ?_;exact aq
end
section
attribute [local irreducible] G bf cc
def X4(b G S W s)(bO:G.length+S.length<=1000)(bN:cA G S 30 ⟨1,W,s⟩=0):D E 6 #[R b,(be.mk 1 W s).v] [fp b G S] λv bm=>(∃bd:be,∃ao:Int,v=.tuple #[bd.v,j ao])/\bm=[fp b (ds G W) S]:=by
 refine D.jY λag Y al Z am=> ?_;have bz:∀M,aB (ae b 41 (iN ag G.length Y al S.length Z)::M) b 0 3 (iN ag G.length Y al S.length Z):=λM=>aB.ae p;have a6:∀M,Rd (own 43 3 ag G.length Y (flat G)::M) ag G.length G:=λM=>aM.own (bU _) am.a;have bq:∀M,Rd (own 45 3 al S.length Z (flat S)::M) al S.length S:=λM=>aM.own (bU _) am.na;have bh:=λM h ab bn=>u7 (b:=b) (A:=ag) (vE:=al) (y4:=Y) (dt:=Z) (L:=M) h ab bn bO ⟨1,W,s⟩;rw[bN]at bh;have bT:0<G.length->∃b,ag=(ak b):=am.a;have b6:0<S.length->∃b,al=(ak b):=am.na;have bW:G.length<=Y:=am.c;have b7:S.length<=Z:=am.y3;have bA:Y<=maxLen:=am.m;have bB:Z<=maxLen:=am.Ar;have bX:=am.d;have b8:=am.zi;clear am;unfold maxLen at bA bB;obtain⟨J,aO⟩:∃J,(G.takeWhile λbd=>decide (bd.id<W.id)).length=J:=⟨_,rfl⟩;have bi:J<=G.length:=aO▸Pl G W.id;have bJ:∀U (h:U<G.length),U<J->G[U].id<W.id:=λU h bI=>GB (aO▸bI);have b1:∀(h:J<G.length),¬G[J].id<W.id:=λh=>GA aO h;rw[IU,aO];clear aO;refine ap λg F=> ?_;refine aU λax=> ?_;refine aS λa5=> ?_;refine a9 (bh _ (by repeat' first|exact bz _|apply aB.skip) (by repeat' first|exact a6 _|apply Rd.skip) (by repeat' first|exact bq _|apply Rd.skip)) ?_;refine aL ?_
 (repeat first|refine bZ ?_|refine fi ?_|refine gk ?_)
 refine hs (ι:=Unit) (λ_=>[(0,R b),(3,R ax),(4,R a5),(7,j (J:Nat))]) (λ_=>ae a5 47 pV.l::ae ax 47 (be.l ⟨1,W,s⟩)::F::ae b 41 (iN ag G.length Y al S.length Z)::own 43 3 ag G.length Y (flat G)::own 45 3 al S.length Z (flat S):: []) (λ_=>True) ?_ ?_
 ·refine aF ?_;refine cJ (ι:=Nat) (λU=>[(0,R b),(3,R ax),(4,R a5),(7,j (U:Nat))]) (λ_=>ae a5 47 pV.l::ae ax 47 (be.l ⟨1,W,s⟩)::F::ae b 41 (iN ag G.length Y al S.length Z)::own 43 3 ag G.length Y (flat G)::own 45 3 al S.length Z (flat S):: []) (λU=>U<=J) (λU=>J-U) 0 (bu _) a8 az ?_;rintro U bY
  by_cases bf:U<G.length
  ·obtain⟨a4,bj⟩:=bT C;have bl:∀M,aR (own 43 3 ag G.length Y (flat G)::M) ⟨a4,0+U*3+0,none⟩ (j G[U].id):=λM=>by
    obtain⟨b4,b5,ao,bP⟩:=(a6 M).at_ C;rw[bj]at ao;cases ao;exact(bP _ _ (cb bf)).at_ (i:=0) p
   have bK:=bJ U bf;have bC:U=J->¬G[U].id<W.id:=λao=>by simp_all
   generalize G[U]=b9 at*
   subst bj
   by_cases Z:U<J
   ·refine aF ?_;refine o4 (aE [0,1,2,3,4,5,6,7,8,9,10,11,12,13,14,15,16,17,18,19,20] .nil) O O ?_;iterate 8 refine ai ?_
    refine dB 64 p (decide_eq_true C) ?_;iterate 5 refine ai ?_
    refine b0 aT p p p p ⟨_,rfl,rfl⟩ p (hx p p C) ?_;refine ai ?_;refine fF aT p p p p ⟨_,rfl,rfl⟩ p (d6 p (by repeat' first|exact bl _|apply aR.skip)) ?_;iterate 5 refine ai ?_
    refine cK ?_;refine cD p (decide_eq_true (bK Z)) ?_;refine K ?_;refine af ?_;exact bM (U+1) C C a8 az
   ·have ao:U=J:=C;refine aW (aE [0,1,2,3,4,5,6,7,8,9,10,11,12,13,14,15,16,17,18,19] (.q 20 .nil)) ?_;iterate 8 refine ai ?_
    refine dB 64 p (decide_eq_true C) ?_;iterate 5 refine ai ?_
    refine b0 aT p p p p ⟨_,rfl,rfl⟩ p (hx p p C) ?_;refine ai ?_;refine fF aT p p p p ⟨_,rfl,rfl⟩ p (d6 p (by repeat' first|exact bl _|apply aR.skip)) ?_;iterate 5 refine ai ?_
    refine cK ?_;refine b2 p (decide_eq_false (bC ao)) ?_;subst ao;refine aF ?_;exact ex () trivial a8 az
  ·have ao:U=J:=C;subst ao;refine aW (aE [0,1,2,3,4,5,6,7,8,9,10,11,12,13,14,15,16,17,18,19] (.q 20 .nil)) ?_;iterate 8 refine ai ?_
   refine dB 64 p (decide_eq_false C) ?_;refine K ?_;refine aF ?_;exact ex () trivial a8 az
 ·rintro _ _;have bb:∀M,aM (own 43 3 ag G.length Y (flat G)::M) 3 ag J (flat (G.take J)):=λM=>(a6 M).take bi;have a7:∀M,aB (ae ax 47 (be.l ⟨1,W,s⟩)::M) ax (0+1) 3 [j W.id,j W.x,j W.y]:=λM=>eO.pM (G:=1) (n:=7) (I:=be.l ⟨1,W,s⟩) (aB.ae p) p (λbk v b3=>by match bk with
   |0=>trivial
   |1=>trivial
   |2=>trivial
   |bk+3=>trivial)
  rcases bX with ⟨rfl,bQ,rfl⟩|⟨a4,rfl⟩
  ·have bt:J=0:=C;subst bt;have bp:G=[]:=e3 bQ;subst bp;refine aW (aE [0,2,3,4,5,6,7,9,10,13,14,15,16,17,18] (.hc 1 (.hc 8 (.e 11 (.e 12 (.e 19 (.q 20 (.q 21 (.e 22 .nil)))))) 11 (.e 8 (.e 12 (.e 19 (.q 20 (.q 21 (.e 22 .nil))))))) 11 (.e 1 (.e 8 (.e 12 (.e 19 (.q 20 (.q 21 (.e 22 .nil))))))))) ?_;iterate 6 refine ai ?_
   refine cV p (h5 p p ah) ?_;refine ai ?_;refine cV p (er p (by repeat' first|exact a7 _|apply aB.skip)) ?_;iterate 5 refine ai ?_
   refine cV p (KD p p) ?_;refine h1 ?x77_0 ?x77_1
   case' x77_1=>
    refine a1 p p p (e8 aZ p p) ?_;rintro _ _ ⟨aG,rfl,rfl⟩;refine bg ?_;refine an (a1 p p p jS ?_);rintro _ _ ⟨ba,rfl,rfl⟩;refine bg ?_;refine an (a1 p p p (bx p p aI ((Rd.nil (α:=I) _ _)) ((cO _)) aZ bs ah ah) ?_);rintro _ _ ⟨ay,aH,rfl,aP,aV,a0,rfl⟩;refine bg ?_;refine an (a1 p p p (bx p p aI cn (cS p) aZ Q ah ah) ?_);rintro _ _ ⟨aC,aK,rfl,aQ,aX,a2,rfl⟩;refine bg ?_;refine an (a1 p p p (bx p p aI ((Rd.nil (α:=I) _ _)) ((cO _)) aZ bs ah ah) ?_);rintro _ _ ⟨ar,au,rfl,av,aY,aw,rfl⟩;refine bg ?_;iterate 2 refine ai ?_
    refine an (dh O p p p (c5 p p p cd) ?_);rintro _ _ ⟨rfl,rfl⟩;refine dl ?_
   case' x77_0=>
    refine a1 p p p jS ?_;rintro _ _ ⟨ba,rfl,rfl⟩;refine bg ?_;refine h1 ?x78_0 ?x78_1
    case' x78_1=>
     refine a1 p p p (e8 aZ p p) ?_;rintro _ _ ⟨aG,rfl,rfl⟩;refine bg ?_;refine an (a1 p p p (bx p p aI ((Rd.nil (α:=I) _ _)) ((cO _)) aZ bs ah ah) ?_);rintro _ _ ⟨ay,aH,rfl,aP,aV,a0,rfl⟩;refine bg ?_;refine an (a1 p p p (bx p p aI cn (cS p) aZ Q ah ah) ?_);rintro _ _ ⟨aC,aK,rfl,aQ,aX,a2,rfl⟩;refine bg ?_;refine an (a1 p p p (bx p p aI ((Rd.nil (α:=I) _ _)) ((cO _)) aZ bs ah ah) ?_);rintro _ _ ⟨ar,au,rfl,av,aY,aw,rfl⟩;refine bg ?_;iterate 2 refine ai ?_
     refine an (dh O p p p (c5 p p p cd) ?_);rintro _ _ ⟨rfl,rfl⟩;refine dl ?_
    case' x78_0=>
     refine a1 p p p (bx p p aI ((Rd.nil (α:=I) _ _)) ((cO _)) aZ bs ah ah) ?_;rintro _ _ ⟨ay,aH,rfl,aP,aV,a0,rfl⟩;refine bg ?_;refine an (a1 p p p (e8 aZ p p) ?_);rintro _ _ ⟨aG,rfl,rfl⟩;refine bg ?_;refine an (a1 p p p (bx p p aI cn (cS p) aZ Q ah ah) ?_);rintro _ _ ⟨aC,aK,rfl,aQ,aX,a2,rfl⟩;refine bg ?_;refine an (a1 p p p (bx p p aI ((Rd.nil (α:=I) _ _)) ((cO _)) aZ bs ah ah) ?_);rintro _ _ ⟨ar,au,rfl,av,aY,aw,rfl⟩;refine bg ?_;iterate 2 refine ai ?_
     refine an (dh O p p p (c5 p p p cd) ?_);rintro _ _ ⟨rfl,rfl⟩;refine dl ?_
   all_goals
    have a3:0+0+1+0=(([]:List I).take 0++W::([]:List I).drop 0).length:=rfl;rw[a3]at av aw;rw[a3];refine aJ ?_;refine ad ?_;refine aD (er p (by repeat' first|exact a7 _|apply aB.skip)) ?_;refine ad ?_;refine cF ?_;refine ad ?_;refine af ?_;refine aj (C:=[fp b (([]:List I).take 0++W::([]:List I).drop 0) S]) p (.cell p (c7 bS) (.tmp p .nil)) ?_ ⟨⟨⟨2,W,ci⟩,0,rfl⟩,rfl⟩;apply bR;focus ((repeat' first|exact aN.here|apply aN.skip|apply aN.bE);done)
    apply px (j:=ar) (E:=au) (C:=al) (I:=Z) p p
    case f=>exact aq
    all_goals first|rfl|(rw[fI];rw[mb,ho];rfl)
  ·have bc:∀M,aM (own 43 3 (ak a4) G.length Y (flat G)::M) 3 (some ⟨a4,(if Y=J then 0 else 0+J*3),none⟩) (G.length-J) (flat (G.drop J)):=λM=>(a6 M).drop bi bW;refine aW (aE [0,2,3,4,5,6,7,9,10,13,14,15,16,17,18] (.hc 1 (.hc 8 (.e 11 (.e 12 (.e 19 (.q 20 (.q 21 (.e 22 .nil)))))) 11 (.e 8 (.e 12 (.e 19 (.q 20 (.q 21 (.e 22 .nil))))))) 11 (.e 1 (.e 8 (.e 12 (.e 19 (.q 20 (.q 21 (.e 22 .nil))))))))) ?_;iterate 6 refine ai ?_
   refine cV p (h5 p p ah) ?_;refine ai ?_;refine cV p (er p (by repeat' first|exact a7 _|apply aB.skip)) ?_;iterate 5 refine ai ?_
   refine cV p (ga p p ah ah) ?_;refine h1 ?x79_0 ?x79_1
   case' x79_1=>
    refine a1 p p p (e8 aZ p p) ?_;rintro _ _ ⟨aG,rfl,rfl⟩;refine bg ?_;refine an (a1 p p p jS ?_);rintro _ _ ⟨ba,rfl,rfl⟩;refine bg ?_;refine an (a1 p p p (bx p p aI ((by repeat' first|exact bb _|apply aM.skip)) ((cO _)) aZ Q ah ah) ?_);rintro _ _ ⟨ay,aH,rfl,aP,aV,a0,rfl⟩;refine bg ?_;refine an (a1 p p p (bx p p aI cn (cS p) aZ Q ah ah) ?_);rintro _ _ ⟨aC,aK,rfl,aQ,aX,a2,rfl⟩;refine bg ?_;refine an (a1 p p p (bx p p aI ((by repeat' first|exact bc _|apply aM.skip)) ((cO _)) aZ Q ah ah) ?_);rintro _ _ ⟨ar,au,rfl,av,aY,aw,rfl⟩;refine bg ?_;iterate 2 refine ai ?_
    refine an (dh O p p p (c5 p p p cd) ?_);rintro _ _ ⟨rfl,rfl⟩;refine dl ?_
   case' x79_0=>
    refine a1 p p p jS ?_;rintro _ _ ⟨ba,rfl,rfl⟩;refine bg ?_;refine h1 ?x80_0 ?x80_1
    case' x80_1=>
     refine a1 p p p (e8 aZ p p) ?_;rintro _ _ ⟨aG,rfl,rfl⟩;refine bg ?_;refine an (a1 p p p (bx p p aI ((by repeat' first|exact bb _|apply aM.skip)) ((cO _)) aZ Q ah ah) ?_);rintro _ _ ⟨ay,aH,rfl,aP,aV,a0,rfl⟩;refine bg ?_;refine an (a1 p p p (bx p p aI cn (cS p) aZ Q ah ah) ?_);rintro _ _ ⟨aC,aK,rfl,aQ,aX,a2,rfl⟩;refine bg ?_;refine an (a1 p p p (bx p p aI ((by repeat' first|exact bc _|apply aM.skip)) ((cO _)) aZ Q ah ah) ?_);rintro _ _ ⟨ar,au,rfl,av,aY,aw,rfl⟩;refine bg ?_;iterate 2 refine ai ?_
     refine an (dh O p p p (c5 p p p cd) ?_);rintro _ _ ⟨rfl,rfl⟩;refine dl ?_
    case' x80_0=>
     refine a1 p p p (bx p p aI ((by repeat' first|exact bb _|apply aM.skip)) ((cO _)) aZ Q ah ah) ?_;rintro _ _ ⟨ay,aH,rfl,aP,aV,a0,rfl⟩;refine bg ?_;refine an (a1 p p p (e8 aZ p p) ?_);rintro _ _ ⟨aG,rfl,rfl⟩;refine bg ?_;refine an (a1 p p p (bx p p aI cn (cS p) aZ Q ah ah) ?_);rintro _ _ ⟨aC,aK,rfl,aQ,aX,a2,rfl⟩;refine bg ?_;refine an (a1 p p p (bx p p aI ((by repeat' first|exact bc _|apply aM.skip)) ((cO _)) aZ Q ah ah) ?_);rintro _ _ ⟨ar,au,rfl,av,aY,aw,rfl⟩;refine bg ?_;iterate 2 refine ai ?_
     refine an (dh O p p p (c5 p p p cd) ?_);rintro _ _ ⟨rfl,rfl⟩;refine dl ?_
   all_goals
    have a3:0+J+1+(G.length-J)=(G.take J++W::G.drop J).length:=by grind
    rw[a3]at av aw;rw[a3];refine aJ ?_;refine ad ?_;refine aD (er p (by repeat' first|exact a7 _|apply aB.skip)) ?_;refine ad ?_;refine cF ?_;refine ad ?_;refine af ?_;refine aj (C:=[fp b (G.take J++W::G.drop J) S]) p (.cell p (c7 bS) (.tmp p .nil)) ?_ ⟨⟨⟨2,W,ci⟩,0,rfl⟩,rfl⟩;apply bR;focus ((repeat' first|exact aN.here|apply aN.skip|apply aN.bE);done)
    apply px (j:=ar) (E:=au) (C:=al) (I:=Z) p p
    case f=>exact aq
    all_goals first|rfl|(rw[fI];rw[mb,ho];rfl)
def X6(b U S aw s)(bN:U.length+S.length<=1000)(bK:cA U S 30 ⟨3,aw,s⟩=0):D E 6 #[R b,(be.mk 3 aw s).v] [fp b U S] λv bl=>(∃bd:be,∃am:Int,v=.tuple #[bd.v,j am])/\bl=[fp b U (ds S s)]:=by
 refine D.jY λZ ag Y W al=> ?_;have bt:∀M,aB (ae b 41 (iN Z U.length ag Y S.length W)::M) b 0 3 (iN Z U.length ag Y S.length W):=λM=>aB.ae p;have bp:∀M,Rd (own 43 3 Z U.length ag (flat U)::M) Z U.length U:=λM=>aM.own (bU _) al.a;have a6:∀M,Rd (own 45 3 Y S.length W (flat S)::M) Y S.length S:=λM=>aM.own (bU _) al.na;have bh:=λM h ab bm=>u7 (b:=b) (A:=Z) (vE:=Y) (y4:=ag) (dt:=W) (L:=M) h ab bm bN ⟨3,aw,s⟩;rw[bK]at bh;have b6:0<U.length->∃b,Z=(ak b):=al.a;have bQ:0<S.length->∃b,Y=(ak b):=al.na;have b7:U.length<=ag:=al.c;have bT:S.length<=W:=al.y3;have bz:ag<=maxLen:=al.m;have bA:W<=maxLen:=al.Ar;have b8:=al.d;have bW:=al.zi;clear al;unfold maxLen at bz bA;obtain⟨G,aO⟩:∃G,(S.takeWhile λbd=>decide (bd.id<s.id)).length=G:=⟨_,rfl⟩;have bi:G<=S.length:=aO▸Pl S s.id;have bI:∀J (h:J<S.length),J<G->S[J].id<s.id:=λJ h bC=>GB (aO▸bC);have bY:∀(h:G<S.length),¬S[G].id<s.id:=λh=>GA aO h;rw[IU,aO];clear aO;refine ap λg F=> ?_;refine aU λax=> ?_;refine aS λa5=> ?_;refine a9 (bh _ (by repeat' first|exact bt _|apply aB.skip) (by repeat' first|exact bp _|apply Rd.skip) (by repeat' first|exact a6 _|apply Rd.skip)) ?_;refine aL ?_
 (repeat first|refine bZ ?_|refine fi ?_|refine gk ?_)
 refine hs (ι:=Unit) (λ_=>[(0,R b),(3,R ax),(4,R a5),(10,j (G:Nat))]) (λ_=>ae a5 47 pV.l::ae ax 47 (be.l ⟨3,aw,s⟩)::F::ae b 41 (iN Z U.length ag Y S.length W)::own 43 3 Z U.length ag (flat U)::own 45 3 Y S.length W (flat S):: []) (λ_=>True) ?_ ?_
 ·refine aF ?_;refine cJ (ι:=Nat) (λJ=>[(0,R b),(3,R ax),(4,R a5),(10,j (J:Nat))]) (λ_=>ae a5 47 pV.l::ae ax 47 (be.l ⟨3,aw,s⟩)::F::ae b 41 (iN Z U.length ag Y S.length W)::own 43 3 Z U.length ag (flat U)::own 45 3 Y S.length W (flat S):: []) (λJ=>J<=G) (λJ=>G-J) 0 (bu _) a8 az ?_;rintro J bX
  by_cases bf:J<S.length
  ·obtain⟨a4,bj⟩:=bQ C;have bk:∀M,aR (own 45 3 Y S.length W (flat S)::M) ⟨a4,0+J*3+0,none⟩ (j S[J].id):=λM=>by
    obtain⟨b4,b5,am,bO⟩:=(a6 M).at_ C;rw[bj]at am;cases am;exact(bO _ _ (cb bf)).at_ (i:=0) p
   have bJ:=bI J bf;have bB:J=G->¬S[J].id<s.id:=λam=>by simp_all
   generalize S[J]=b9 at*
   subst bj
   by_cases W:J<G
   ·refine aF ?_;refine o4 (aE [0,1,2,3,4,5,6,7,8,9,10,11,12,13,14,15,16,17,18,19,20] .nil) O O ?_;iterate 8 refine ai ?_
    refine dB 149 p (decide_eq_true C) ?_;iterate 5 refine ai ?_
    refine b0 aT p p p p ⟨_,rfl,rfl⟩ p (hx p p C) ?_;refine ai ?_;refine fF aT p p p p ⟨_,rfl,rfl⟩ p (d6 p (by repeat' first|exact bk _|apply aR.skip)) ?_;iterate 5 refine ai ?_
    refine cK ?_;refine cD p (decide_eq_true (bJ W)) ?_;refine K ?_;refine af ?_;exact bM (J+1) C C a8 az
   ·have am:J=G:=C;refine aW (aE [0,1,2,3,4,5,6,7,8,9,10,11,12,13,14,15,16,17,18,19] (.q 20 .nil)) ?_;iterate 8 refine ai ?_
    refine dB 149 p (decide_eq_true C) ?_;iterate 5 refine ai ?_
    refine b0 aT p p p p ⟨_,rfl,rfl⟩ p (hx p p C) ?_;refine ai ?_;refine fF aT p p p p ⟨_,rfl,rfl⟩ p (d6 p (by repeat' first|exact bk _|apply aR.skip)) ?_;iterate 5 refine ai ?_
    refine cK ?_;refine b2 p (decide_eq_false (bB am)) ?_;subst am;refine aF ?_;exact ex () trivial a8 az
  ·have am:J=G:=C;subst am;refine aW (aE [0,1,2,3,4,5,6,7,8,9,10,11,12,13,14,15,16,17,18,19] (.q 20 .nil)) ?_;iterate 8 refine ai ?_
   refine dB 149 p (decide_eq_false C) ?_;refine K ?_;refine aF ?_;exact ex () trivial a8 az
 ·rintro _ _;have bb:∀M,aM (own 45 3 Y S.length W (flat S)::M) 3 Y G (flat (S.take G)):=λM=>(a6 M).take bi;have a7:∀M,aB (ae ax 47 (be.l ⟨3,aw,s⟩)::M) ax (0+4) 3 [j s.id,j s.x,j s.y]:=λM=>eO.pM (G:=4) (n:=7) (I:=be.l ⟨3,aw,s⟩) (aB.ae p) p (λb3 v b1=>by grind);rcases bW with ⟨rfl,bP,rfl⟩|⟨a4,rfl⟩
  ·have bq:G=0:=C;subst bq;have bn:S=[]:=e3 bP;subst bn;refine aW (aE [0,2,3,4,5,6,7,9,10,13,14,15,16,17,18] (.hc 1 (.hc 8 (.e 11 (.e 12 (.e 19 (.q 20 (.q 21 (.e 22 .nil)))))) 11 (.e 8 (.e 12 (.e 19 (.q 20 (.q 21 (.e 22 .nil))))))) 11 (.e 1 (.e 8 (.e 12 (.e 19 (.q 20 (.q 21 (.e 22 .nil))))))))) ?_;iterate 6 refine ai ?_
   refine cV p (h5 p p ah) ?_;refine ai ?_;refine cV p (er p (by repeat' first|exact a7 _|apply aB.skip)) ?_;iterate 5 refine ai ?_
   refine cV p (KD p p) ?_;refine h1 ?x81_0 ?x81_1
   case' x81_1=>
    refine a1 p p p (e8 aZ p p) ?_;rintro _ _ ⟨aG,rfl,rfl⟩;refine bg ?_;refine an (a1 p p p jS ?_);rintro _ _ ⟨ba,rfl,rfl⟩;refine bg ?_;refine an (a1 p p p (bx p p aI ((Rd.nil (α:=I) _ _)) ((cO _)) aZ bs ah ah) ?_);rintro _ _ ⟨ay,aH,rfl,aP,aV,a0,rfl⟩;refine bg ?_;refine an (a1 p p p (bx p p aI cn (cS p) aZ Q ah ah) ?_);rintro _ _ ⟨aC,aK,rfl,aQ,aX,a2,rfl⟩;refine bg ?_;refine an (a1 p p p (bx p p aI ((Rd.nil (α:=I) _ _)) ((cO _)) aZ bs ah ah) ?_);rintro _ _ ⟨ao,ar,rfl,au,aY,av,rfl⟩;refine bg ?_;iterate 2 refine ai ?_
    refine an (dh O p p p (c5 p p p cd) ?_);rintro _ _ ⟨rfl,rfl⟩;refine dl ?_
   case' x81_0=>
    refine a1 p p p jS ?_;rintro _ _ ⟨ba,rfl,rfl⟩;refine bg ?_;refine h1 ?x82_0 ?x82_1
    case' x82_1=>
     refine a1 p p p (e8 aZ p p) ?_;rintro _ _ ⟨aG,rfl,rfl⟩;refine bg ?_;refine an (a1 p p p (bx p p aI ((Rd.nil (α:=I) _ _)) ((cO _)) aZ bs ah ah) ?_);rintro _ _ ⟨ay,aH,rfl,aP,aV,a0,rfl⟩;refine bg ?_;refine an (a1 p p p (bx p p aI cn (cS p) aZ Q ah ah) ?_);rintro _ _ ⟨aC,aK,rfl,aQ,aX,a2,rfl⟩;refine bg ?_;refine an (a1 p p p (bx p p aI ((Rd.nil (α:=I) _ _)) ((cO _)) aZ bs ah ah) ?_);rintro _ _ ⟨ao,ar,rfl,au,aY,av,rfl⟩;refine bg ?_;iterate 2 refine ai ?_
     refine an (dh O p p p (c5 p p p cd) ?_);rintro _ _ ⟨rfl,rfl⟩;refine dl ?_
    case' x82_0=>
     refine a1 p p p (bx p p aI ((Rd.nil (α:=I) _ _)) ((cO _)) aZ bs ah ah) ?_;rintro _ _ ⟨ay,aH,rfl,aP,aV,a0,rfl⟩;refine bg ?_;refine an (a1 p p p (e8 aZ p p) ?_);rintro _ _ ⟨aG,rfl,rfl⟩;refine bg ?_;refine an (a1 p p p (bx p p aI cn (cS p) aZ Q ah ah) ?_);rintro _ _ ⟨aC,aK,rfl,aQ,aX,a2,rfl⟩;refine bg ?_;refine an (a1 p p p (bx p p aI ((Rd.nil (α:=I) _ _)) ((cO _)) aZ bs ah ah) ?_);rintro _ _ ⟨ao,ar,rfl,au,aY,av,rfl⟩;refine bg ?_;iterate 2 refine ai ?_
     refine an (dh O p p p (c5 p p p cd) ?_);rintro _ _ ⟨rfl,rfl⟩;refine dl ?_
   all_goals
    have a3:0+0+1+0=(([]:List I).take 0++s::([]:List I).drop 0).length:=rfl;rw[a3]at au av;rw[a3];refine aJ ?_;refine ad ?_;refine aD (er p (by repeat' first|exact a7 _|apply aB.skip)) ?_;refine ad ?_;refine cF ?_;refine ad ?_;refine af ?_;refine aj (C:=[fp b U (([]:List I).take 0++s::([]:List I).drop 0)]) p (.cell p (c7 bS) (.tmp p .nil)) ?_ ⟨⟨⟨4,ci,s⟩,0,rfl⟩,rfl⟩;apply bR;focus ((repeat' first|exact aN.here|apply aN.skip|apply aN.bE);done)
    apply px (j:=Z) (E:=ag) (C:=ao) (I:=ar) p p
    case f=>exact aq
    all_goals first|rfl|(rw[fI];rw[mb,ho];rfl)
  ·have bc:∀M,aM (own 45 3 (ak a4) S.length W (flat S)::M) 3 (some ⟨a4,(if W=G then 0 else 0+G*3),none⟩) (S.length-G) (flat (S.drop G)):=λM=>(a6 M).drop bi bT;refine aW (aE [0,2,3,4,5,6,7,9,10,13,14,15,16,17,18] (.hc 1 (.hc 8 (.e 11 (.e 12 (.e 19 (.q 20 (.q 21 (.e 22 .nil)))))) 11 (.e 8 (.e 12 (.e 19 (.q 20 (.q 21 (.e 22 .nil))))))) 11 (.e 1 (.e 8 (.e 12 (.e 19 (.q 20 (.q 21 (.e 22 .nil))))))))) ?_;iterate 6 refine ai ?_
   refine cV p (h5 p p ah) ?_;refine ai ?_;refine cV p (er p (by repeat' first|exact a7 _|apply aB.skip)) ?_;iterate 5 refine ai ?_
   refine cV p (ga p p ah ah) ?_;refine h1 ?x83_0 ?x83_1
   case' x83_1=>
    refine a1 p p p (e8 aZ p p) ?_;rintro _ _ ⟨aG,rfl,rfl⟩;refine bg ?_;refine an (a1 p p p jS ?_);rintro _ _ ⟨ba,rfl,rfl⟩;refine bg ?_;refine an (a1 p p p (bx p p aI ((by repeat' first|exact bb _|apply aM.skip)) ((cO _)) aZ Q ah ah) ?_);rintro _ _ ⟨ay,aH,rfl,aP,aV,a0,rfl⟩;refine bg ?_;refine an (a1 p p p (bx p p aI cn (cS p) aZ Q ah ah) ?_);rintro _ _ ⟨aC,aK,rfl,aQ,aX,a2,rfl⟩;refine bg ?_;refine an (a1 p p p (bx p p aI ((by repeat' first|exact bc _|apply aM.skip)) ((cO _)) aZ Q ah ah) ?_);rintro _ _ ⟨ao,ar,rfl,au,aY,av,rfl⟩;refine bg ?_;iterate 2 refine ai ?_
    refine an (dh O p p p (c5 p p p cd) ?_);rintro _ _ ⟨rfl,rfl⟩;refine dl ?_
   case' x83_0=>
    refine a1 p p p jS ?_;rintro _ _ ⟨ba,rfl,rfl⟩;refine bg ?_;refine h1 ?x84_0 ?x84_1
    case' x84_1=>
     refine a1 p p p (e8 aZ p p) ?_;rintro _ _ ⟨aG,rfl,rfl⟩;refine bg ?_;refine an (a1 p p p (bx p p aI ((by repeat' first|exact bb _|apply aM.skip)) ((cO _)) aZ Q ah ah) ?_);rintro _ _ ⟨ay,aH,rfl,aP,aV,a0,rfl⟩;refine bg ?_;refine an (a1 p p p (bx p p aI cn (cS p) aZ Q ah ah) ?_);rintro _ _ ⟨aC,aK,rfl,aQ,aX,a2,rfl⟩;refine bg ?_;refine an (a1 p p p (bx p p aI ((by repeat' first|exact bc _|apply aM.skip)) ((cO _)) aZ Q ah ah) ?_);rintro _ _ ⟨ao,ar,rfl,au,aY,av,rfl⟩;refine bg ?_;iterate 2 refine ai ?_
     refine an (dh O p p p (c5 p p p cd) ?_);rintro _ _ ⟨rfl,rfl⟩;refine dl ?_
    case' x84_0=>
     refine a1 p p p (bx p p aI ((by repeat' first|exact bb _|apply aM.skip)) ((cO _)) aZ Q ah ah) ?_;rintro _ _ ⟨ay,aH,rfl,aP,aV,a0,rfl⟩;refine bg ?_;refine an (a1 p p p (e8 aZ p p) ?_);rintro _ _ ⟨aG,rfl,rfl⟩;refine bg ?_;refine an (a1 p p p (bx p p aI cn (cS p) aZ Q ah ah) ?_);rintro _ _ ⟨aC,aK,rfl,aQ,aX,a2,rfl⟩;refine bg ?_;refine an (a1 p p p (bx p p aI ((by repeat' first|exact bc _|apply aM.skip)) ((cO _)) aZ Q ah ah) ?_);rintro _ _ ⟨ao,ar,rfl,au,aY,av,rfl⟩;refine bg ?_;iterate 2 refine ai ?_
     refine an (dh O p p p (c5 p p p cd) ?_);rintro _ _ ⟨rfl,rfl⟩;refine dl ?_
   all_goals
    have a3:0+G+1+(S.length-G)=(S.take G++s::S.drop G).length:=by grind
    rw[a3]at au av;rw[a3];refine aJ ?_;refine ad ?_;refine aD (er p (by repeat' first|exact a7 _|apply aB.skip)) ?_;refine ad ?_;refine cF ?_;refine ad ?_;refine af ?_;refine aj (C:=[fp b U (S.take G++s::S.drop G)]) p (.cell p (c7 bS) (.tmp p .nil)) ?_ ⟨⟨⟨4,ci,s⟩,0,rfl⟩,rfl⟩;apply bR;focus ((repeat' first|exact aN.here|apply aN.skip|apply aN.bE);done)
    apply px (j:=Z) (E:=ag) (C:=ao) (I:=ar) p p
    case f=>exact aq
    all_goals first|rfl|(rw[fI];rw[mb,ho];rfl)
def X8(b C S Q)(ar:C.length+S.length<=1000)(ao:cA C S 30 Q≠0):D E 6 #[R b,Q.v] [fp b C S] λv Y=>(∃au:be,∃U:Int,v=.tuple #[au.v,j U])/\Y=[fp b C S]:=by
 refine D.jY λG J I O W=> ?_;have am:∀M,aB (ae b 41 (iN G _ J I _ O)::M) b 0 3 (iN G C.length J I S.length O):=λM=>aB.ae p;have ak:∀M,Rd (own 43 3 G _ J _::M) G _ C:=λM=>aM.own (bU _) W.a;have al:∀M,Rd (own 45 3 I _ O _::M) I _ S:=λM=>aM.own (bU _) W.na;have Z:=λM h ab ag=>u7 (b:=b) (A:=G) (vE:=I) (y4:=J) (dt:=O) (L:=M) h ab ag ar Q;generalize cA C S 30 Q=U at*
 refine ap λg F=> ?_;refine aU λav=> ?_;refine aS λaw=> ?_;refine a9 (Z _ (by repeat' first|exact am _|apply aB.skip) (by repeat' first|exact ak _|apply Rd.skip) (by repeat' first|exact al _|apply Rd.skip)) ?_;refine af ?_;refine cD p (decide_eq_true ao) ?_;refine K ?_;refine af ?_;refine aj rfl (.cell p (c7 bS) (.tmp p .nil)) ?_ ⟨⟨pV,U,rfl⟩,rfl⟩;apply bR;focus ((repeat' first|exact aN.here|apply aN.skip|apply aN.bE);done)
 refine px (j:=G) (E:=J) (C:=I) (I:=O) p p p p ?_;exact aq
def Of(b C S I)(J:C.length+S.length<=1000):D E 6 #[R b,I.v] [fp b C S] λv Q=>(∃Y:be,∃U:Int,v=.tuple #[Y.v,j U])/\Q=[fp b (if cA C S 30 I=0 then zl C I else C) (if cA C S 30 I=0 then zm S I else S)]:=by
 by_cases G:cA C S 30 I=0
 ·rw[if_pos G,if_pos G];obtain⟨K,O,s⟩:=I;have W:K=1\/K=2\/K=3\/K=4:=by
   have Z:be.hT ⟨K,O,s⟩=0:=by
    unfold cA at G;omega
   grind[be.known,be.hT]
  rcases W with rfl|rfl|rfl|rfl
  ·exact X4 b C S O s J G
  ·exact X5 b C S O s J G
  ·exact X6 b C S O s J G
  ·exact X7 b C S O s J G
 ·rw[if_neg G,if_neg G];exact X8 b C S I J G
def YB(b C S G)(Z:C.length+S.length<=1000):D E 11 #[R b,G.v] [fp b C S] λv K=>v=j (cA C S 30 G)/\K=[fp b C S]:=
 D.jY λI O J Q U=>(u7 (b:=b) (A:=I) (vE:=J) (y4:=O) (dt:=Q) (aB.ae p) (Rd.skip (aM.own (bU _) U.a)) (Rd.skip (Rd.skip (aM.own (bU _) U.na))) Z G).dR λv K ag ⟨W,Y⟩ q=>⟨_,⟨W,rfl⟩,px (j:=I) (E:=O) (C:=J) (I:=Q) p p p p (λ_ s=>s) _ (Y▸q)⟩
def bl.only(q:bl):bl:=
 if q.kind=1\/q.kind=2 then⟨q.kind,q.cz,⟨0,0,0⟩,0,0⟩else if q.kind=3\/q.kind=4 then⟨q.kind,⟨0,0,0,0⟩,q.wn,0,0⟩
 else if q.kind=5 then⟨q.kind,⟨0,0,0,0⟩,⟨0,0,0⟩,q.x,0⟩else if q.kind=6\/q.kind=7 then⟨q.kind,⟨0,0,0,0⟩,⟨0,0,0⟩,q.x,q.hi⟩else⟨0,⟨0,0,0,0⟩,⟨0,0,0⟩,0,0⟩
def Ys{D C n}{S:List I}(h:Rd D C n S):Rd D C n (S.map λj=>(⟨j.id,j.x,j.y⟩:j8)):=by
 have E:flat (S.map λj=>(⟨j.id,j.x,j.y⟩:j8))=flat S:=by
  unfold flat;rw[List.flatMap_map];rfl
 show aM D 3 C n _;rw[E];exact h
@[reducible] def xF (l:Bool) (n:Int) (C:bA) (E D:Nat):Value:=.agg #[j 0,.bool true,.bool l,j n,.slice C E D]
def Yg(q:bl)(n G O J I):D E 37 #[q.v,.agg #[j n,.slice G O J],j 0] I λv Q=>v=(if q.bi then xF false n none 0 0 else xF true n G O J)/\Q=I:=by
 have C:=Ol q;cases K:q.bi with
 |true=>
  rw[K]at C;refine ap λg F=> ?_;refine aU λR=> ?_;refine aU λU=> ?_;refine aS λW=> ?_;refine a9 (C _) ?_;refine af ?_;refine aj p (.cell p (c7 bS) .nil) az ⟨rfl,rfl⟩
 |false=>
  rw[K]at C;refine ap λg F=> ?_;refine aU λR=> ?_;refine aU λU=> ?_;refine aS λW=> ?_;refine a9 (C _) ?_;refine af ?_;refine aj p (.cell p (c7 bS) .nil) az ⟨rfl,rfl⟩
def YA(l n I J K R)(j:List Int)(G)(W:Rd G I j.length j)(Y:Rd G J j.length j)(ag:j.length<=1000):
  D E 15 #[xF l n I j.length K,xF l n J j.length R] G λv U=>v=.bool true/\U=G:=by
 have O:=λM aa ab=>Ru I J j.length j.length K R j j M aa ab C;rw[decide_eq_true p]at O;refine ap λg F=> ?_;refine aU λZ=> ?_;refine aU λae=> ?_;refine ad ?_;refine bD ?_;iterate 6 refine ad ?_
 refine dE 10 p (decide_eq_true p) ?_;iterate 7 refine ad ?_
 refine dE 17 rfl aZ ?_;iterate 7 refine ad ?_
 refine dE 24 (C:=true) p Q ?_;iterate 9 refine ad ?_
 refine dE 33 (C:=true) p Q ?_;iterate 6 refine ad ?_
 refine br p p p p ?_;refine a9 (O _ (by repeat' first|exact W|apply Rd.skip) (by repeat' first|exact Y|apply Rd.skip)) ?_;refine af ?_;refine aj p (.tmp p .nil) az ⟨rfl,rfl⟩
end
namespace aX
def xz(n:Nat):List Nat:=iy [] (λj l=>l++[j]) n
def mJ{j:Type}(C:j->List Nat)(o:Option j):List Nat:=bF [] C o
def zQ(j:al->List Nat)(l:List al):List Nat:=ch [] (λv _ C=>j v++C) l
def XW(j:al->List Nat)(v:al):List Nat:=mJ (λq=>[q.1]) (iX v)++(mJ (λq=>[q.1]) (t5 v)++(mJ (λb=>[b]) (pn v)++(mJ (λq=>[q.1]) (lc v)++(mJ (λb=>[b]) (qx v)++(mJ (λq=>j q.2) (v7 v)++(mJ (λq=>zQ j q.2.1++zQ j q.2.2) (pk v)++mJ (zQ j) (n9 v)))))))
def nJ(n:Nat):al->List Nat:=iy (λ_=>[]) (λ_ j=>XW j) n
def Ul(l:List Nat):Option (Nat×List Nat):=ch none (λj l _=>some (j,l)) l
def Yn(h:bQ)(n:Nat):List Nat->List Nat->List Nat:=iy (λs _=>s) (λ_ j s C=>bF s (λq=>Z (mI q.1 s) (j s q.2) (j (s++[q.1]) (q.2++mJ (λo=>mJ (zQ (nJ 3)) (vZ o)) (h.get q.1)))) (Ul C)) n
def ov(j:ay):List Nat:=0::bF [] (λq=>tq (Yn q.2 200 [] (0::LR q.2))) j
def L4(j:ay):List cl:=bF [] (λq=>bF [] (λC=>C) (Ab (ov j) q.2)) j
def tN:List al:=[.i .i64 2147483647,.i .i64 (-3),.i .i64 3]
def nN:List al:=.i .i64 1:: .i .i64 3::(fM++tN++fB [cf] 10)
def jB(j n:Nat):List al:=iy (λ_=>[]) (λ_ C j=> .bb j::C (Nat.succ j)) n j
def xD(j:Nat):List al:=.i .i64 2::(fB [cf] 7++jB j 10)
def pW(args:List al)(j:al):List al->bQ->ay:=λC h=>bK (gA (gF (nat_lit 9)) C args) (some (j,h))
def E4(C b:List al->bQ->ay):List al->bQ->ay:=λj h=>bF (b j h) (λq=>some q) (C j h)
def q2:kz:=q4 [(44,sC),(45,E4 (pW [.bm nN] (.bm nN)) (pW [.bm (xD 51)] (.bm (xD 61)))),(116,E4 (pW [.bm nN] (.b true)) (pW [.bm (xD 51)] (.b true))),(144,pW [.bm (jB 61 10)] cf),
 (207,gI 12 0 0 (qB 3 fM tN) cf),(261,gI 12 0 10 (qB 3 fM tN) ug),(287,gI 16 4 14 [.bm tN] cf),(290,gI 17 5 15 [.bm tN] cf)]
def Ev(C n:Nat)(v:al):al:=bF v (λj=>Z (aA j C) (.i .i64 n) v) (j9 v)
def Me(j n:Nat)(l:List al):List al:=ch [] (λv _ l=>Ev j n v::l) l
def Ak(j n:Nat)(o:cl):cl:=bF o (λq=> .ce q.1 (Me j n q.2)) (rV o)
def fW(j n:Nat)(W:List cl):List cl:=ch [] (λo _ l=>Ak j n o::l) W
def Ly(n:Nat)(one:Bool):List cl:=fW 0 n (fU one λj=>j)
def q6:List (Nat×Nat×Nat):=[(20,0,4),(21,0,5),(22,0,6),(23,2,2),(24,2,4),(25,2,5),(26,2,7),(27,3,2),(28,3,4),(29,3,5),(30,3,7),(33,8,3),(34,10,2)]
def jA(D:List (Nat×Nat×Nat))(E:ay):Nat->al:=bF (λj=> .bb j) (λq j=>ch (.bb j) (λC _ g=>Z (aA j C.1) (bF (.bb j) (λv=>v) (ua q.2 C.2.1 C.2.2)) g) D) E
def WS(D:List (Nat×Nat×Nat))(o:cl)(b:Nat):cl:=bF o (λq=> .ce q.1 (ch q.2 (λj _ C=>Z (aA j.2.1 b) (OR C j.2.2 (.bb j.1)) C) D)) (rV o)
def ML(C:List (Nat×Nat×Nat))(W:List cl):Nat->List cl:=ch (λ_=>[]) (λo _ j b=>WS C o b::j (Nat.succ b)) W
def bY(j:ay):List cl:=ML q6 (L4 j) 0
def lj(j:ay)(v:al):Bool:=gq j (jA q6 j) (ov j) v (bY j)
def xT(n:Nat)(one:Bool):ay:=jZ q2 8 [cf,.bm nN] (Ly n one)
def vj(n:Nat)(one:Bool):ay:=jZ q2 8 [.i .i64 1,.bm (xD 51)] (bY (xT n one))
def oM(j:ay):ay:=jZ q2 13 [cf] (bY j)
def ve(j:ay):ay:=jZ q2 13 [.i .i64 1] (bY j)
def FV(n:Nat)(one:Bool):ay:=oM (vj n one)
def FW(n:Nat)(one:Bool):ay:=oM (FV n one)
def FX(n:Nat)(one:Bool):ay:=oM (FW n one)
def kP(n:Nat)(one:Bool)(j:Nat):ay:=iy (FX n one) (λ_ C=>ve C) j
def kn(n:Nat)(one:Bool)(j:Nat):ay:=jZ q2 14 [.i .i64 1] (bY (kP n one j))
def wv(n:Nat)(one:Bool):ay:=jZ q2 9 [cf,.i .i64 50] (bY (kP n one n))
def f6(j:Bool):List cl:=[.ce 88 [.ag 10 0,.cH 1 0 2 0,.ag 8 0,.fJ,.bb 20,.bb 21,.bb 22,.dK 18],.io 80 1 2 [.ag 2 0,.ag 3 0],.ce 107 [.ag 4 0,.ag 6 0,.bb 23,.fJ,.bb 24,.bb 25,.h8,.bb 26],.ce 107 [.ag 5 0,.ag 7 0,.bb 27,.fJ,.bb 28,.bb 29,.h8,.bb 30],
 .ce 132 (cf::GV++[.bb 31,.fL]),.ce 132 (.i .i64 2:: .i .i64 2::(fB [cf] 7++jB 61 10++[.fL,.fL])),.ce 162 [.eA,.i .i64 1000,.b false],.ce 162 [.eA,.i .i64 1000,.b false],.ce 160 [.ag 9 0,cf,.b false,.bb 33],.ce 219 (Z j [.dm 19 0 3 3,.i .i64 1,.i .i64 1,.i .i64 2] [.dm 19 0 1 1,cf,.i .i64 1,.i .i64 2]),.ce 155 [.ag 11 0,.ag 12 0,.bb 34,.fJ],
 .ce 204 [.ag 13 0,.ag 14 0,.ag 15 0,.ag 16 0,.ag 17 0],.b3 10,.b3 1,.b3 2,.b3 3,.b3 14,.b3 15,.b3 6,.ce 3 (Z j [cf,.i .i64 1,cf] [.i .i64 1])]
def Ki(n:Nat)(one:Bool):Bool:=gq (wv n one) (ks (wv n one)) (ow (wv n one)) (.b1 [.i .i64 2,.b true]) (f6 (aA n 0))
def jV:al:=.b1 [.bm [cf,.b false,.b false,cf,.eA],.b false,cf]
def AV(n:Nat)(one:Bool)(C:Nat):Bool:=iy true (λj D=>Z (gq (kn n one j) (jA q6 (kn n one j)) (ov (kn n one j)) (.i .i64 1) (bY (kP n one j))) (Z (lj (kP n one (Nat.succ j)) jV) D false) false) C
def za(n:Nat)(one:Bool):Bool:=Z (lj (xT n one) cf) (Z (lj (vj n one) cf) (Z (lj (FV n one) jV) (Z (lj (FW n one) jV) (Z (lj (FX n one) jV) (Z (AV n one n) (Z (gq (kn n one n) (jA q6 (kn n one n)) (ov (kn n one n)) (.i .i64 2) (bY (kP n one n))) (Ki n one) false) false) false) false) false) false) false
def JH(one:Bool):Bool:=ch true (λn _ j=>Z (za n one) j false) (xz 6)
def SF:JH true=true:=by decide+kernel
def SE:JH false=true:=by decide+kernel
end aX
section
theorem D.b3{J Q args}{R:Type}{bc E}{O:Value->Prop}{K:R->Prop}{I:R->List aO}(Y:∀h,bc h->∃j,K j/\G (I j) h)
  (W:∀j,K j->D J Q args (I j) λv C=>O v/\∀h,G C h->E h):D J Q args [bc] λv C=>O v/\C=[E]:=
 D.open Y λj q=>by
  rw[dA];exact(W j q).dR λv C ae ⟨Z,U⟩ s=>⟨[E],⟨Z,rfl⟩,G.fold U (by rw[dA];exact s)⟩
theorem D.mk{J K args}{A:Nat->aO}{I:Nat->aO}(W:D J K args [] λv E=>∃C,v=.tuple #[R C,j 0]/\∀h,G E h->I C h):
  D J K args [] λv E=>∃C,v=.tuple #[R C,j 0]/\E=[I C]:=
 W.dR λv E U ⟨C,Q,O⟩ s=>⟨[I C],⟨C,Q,rfl⟩,G.fold (N:=E) O (by rw[dA];exact s)⟩
variable{P:List I}{m:Nat}{ag:I}
def aa9{l:List I}(h:l.Perm P)(j:ag∉P):ag∉l:=λC=>j (h.mem_iff.1 C)
theorem z2{l}(j:l.Perm P)(D:eg ag=true)(E:ag∉P)(C:P.length<30):gX 30 l ag=0:=by
 have:=j.length_eq;unfold gX;grind
theorem CE{l}(j:l.Perm P):(l++[ag]).Perm (ds P ag):=((List.perm_append_singleton ag l).trans (j.cons ag)).trans (pg P ag).symm
theorem wm{l:List I}(C:l.Perm P)(j:hB P)(D:ag∈P):(l.erase ag).Perm (gE P ag.id):=by grind[J7]
theorem J5{l}(j:l.Perm P)(C:ag∈P):pt l ag=0:=if_pos (j.mem_iff.2 C)
def mE(P:List I)(m C _c:Nat):aO:=λh=>∃j:List I×Nat,(j.1.Perm P/\j.2<=m)/\G [eO.j0 C 30 j.1 j.2] h
def Vj(U:eg ag=true)(W:ag∉P)(Q:P.length<30)(ae:m<=900)(G O):D E 278 #[R G,ag.v] [mE P m G O] λv K=>v=j 0/\K=[mE (ds P ag) (m+1) G O]:=
 D.b3 (λ_ h=>h) λJ ⟨aH,aP⟩=>(eO.QI G 30 J.1 ag J.2 [] C).mono λv K ⟨Y,Z⟩=>⟨by rw[Y,z2 aH U W Q],λh s=>⟨(_,J.2+1),⟨CE aH,Ic aP⟩,by
  rw[Z,ou,if_pos (z2 aH U W Q)]at s;exact s⟩⟩
def Vi(Y:hB P)(Q:ag∈P)(Z:m<=900)(G O):D E 279 #[R G,ag.v] [mE P m G O] λv K=>v=j 0/\K=[mE (gE P ag.id) (m+1) G O]:=
 D.b3 (λ_ h=>h) λJ ⟨aH,aP⟩=>(eO.QF G 30 J.1 ag J.2 [] C).mono λv K ⟨U,W⟩=>⟨by rw[U,J5 aH Q],λh s=>⟨(_,J.2+1),⟨wm aH Y Q,Ic aP⟩,W▸s⟩⟩
def Vk:D E 108 #[j 30] [] λv G=>∃C,v=.tuple #[R C,j 0]/\G=[mE [] 0 C 0]:=
 D.mk (A:=λC=>eO.j0 C 30 [] 0) ((eO.U7 30 [] Q Q).mono λv G ⟨C,J,K⟩=>⟨C,J,λh s=>⟨([],0),⟨.refl _,bv _⟩,K▸s⟩⟩)
def mH(P:List I)(m j _c:Nat):aO:=λh=>∃S:W.bN.ct,(W.bN.fQ S m/\S.live.Perm P)/\G [W.bN.gY j 30 S] h
def VP(Q:eg ag=true)(U:ag∉P)(O:P.length<30)(ae:m<=300)(G K):D E 281 #[R G,ag.v] [mH P m G K] λv J=>v=j 0/\J=[mH (ds P ag) (m+1) G K]:=
 D.b3 (λ_ h=>h) λS ⟨aH,aP⟩=>(W.bN.QN G 30 S ag m [] aH C).mono λv J ⟨Y,Z⟩=>⟨by rw[Y,z2 aP Q U O],λh s=>⟨_,⟨aH.ins C,((aH.UP C (z2 aP Q U O)).trans (aP.cons ag)).trans (pg P ag).symm⟩,Z▸s⟩⟩
def VO(Y:hB P)(J:ag∈P)(Z:m<=300)(G O):D E 282 #[R G,ag.v] [mH P m G O] λv K=>v=j 0/\K=[mH (gE P ag.id) (m+1) G O]:=
 D.b3 (λ_ h=>h) λS ⟨aH,aP⟩=>(W.bN.QM G 30 S ag m [] aH C).mono λv K ⟨Q,U⟩=>⟨by rw[Q,J5 aP J],λh s=>⟨_,⟨aH.del C,(aH.S9 C (aP.mem_iff.2 J)).trans (wm aP Y J)⟩,U▸s⟩⟩
def VS:D E 109 #[j 30] [] λv G=>∃C,v=.tuple #[R C,j 0]/\G=[mH [] 0 C 0]:=
 D.mk (A:=λC=>W.bN.gY C 30 ⟨[],[],0⟩) ((W.bN.VT 30 [] Q Q).mono λv G ⟨C,J,K⟩=>⟨C,J,λh s=>⟨⟨[],[],0⟩,⟨.zero,(e1 _).trans (.refl _)⟩,K▸s⟩⟩)
theorem II{l}(C:l.Perm P)(j:eg ag=true)(G:ag∉P)(D:P.length<30):dj.gX 30 l ag=0:=by
 have:=C.length_eq;have E:dj.eg ag=true:=j;unfold dj.gX;grind
def mN(P:List I)(m j _c:Nat):aO:=λh=>∃l:List I,l.Perm P/\G [dj.kR j 30 l] h
def XS(O:eg ag=true)(Q:ag∉P)(K:P.length<30)(C J):D E 284 #[R C,ag.v] [mN P m C J] λv G=>v=j 0/\G=[mN (ds P ag) (m+1) C J]:=
 D.b3 (λ_ h=>h) λl q=>(dj.Q2 C 30 l ag [] (by have:=q.length_eq;omega)).mono λv G ⟨U,W⟩=>⟨by rw[U,II q O Q K],λh s=>⟨_,(q.cons ag).trans (pg P ag).symm,by
  rw[W,dj.ot,if_pos (II q O Q K)]at s;exact s⟩⟩
def XR(U:hB P)(K:ag∈P)(W:P.length<=1000)(C J):D E 285 #[R C,ag.v] [mN P m C J] λv G=>v=j 0/\G=[mN (gE P ag.id) (m+1) C J]:=
 D.b3 (λ_ h=>h) λl q=>(dj.Q0 C 30 l ag [] (by have:=q.length_eq;omega)).mono λv G ⟨O,Q⟩=>⟨by rw[O];exact congrArg _ (if_pos (q.mem_iff.2 K)),λh s=>⟨_,wm q U K,Q▸s⟩⟩
def XT:D E 110 #[j 30] [] λv G=>∃C,v=.tuple #[R C,j 0]/\G=[mN [] 0 C 0]:=
 D.mk (A:=λC=>dj.kR C 30 []) ((dj.Q3 30 [] ⟨Q,Q⟩).mono λv G ⟨C,J,K⟩=>⟨C,J,λh s=>⟨[],.refl _,K▸s⟩⟩)
def KI(j:eg ag=true)(C:ag.x<=ag.y):(kg ag.id&&dF ag.x&&dF ag.y&&decide (ag.x<=ag.y))=true:=by simp_all[eg,decide_eq_true]
theorem LH{l}(C:l.Perm P)(j:eg ag=true)(D:ag.x<=ag.y)(J:ag∉P)(E:P.length<30):S.en.fV 30 l ag=0:=by
 have:=C.length_eq;have G:S.en.hy ag=true:=KI j D;unfold S.en.fV;grind
theorem CA{l}(C:l.Perm P)(j:eg ag=true)(D:ag.x<=ag.y)(J:ag∉P)(E:P.length<30):S.eE.fV 30 l ag=0:=by
 have:=C.length_eq;have G:S.eE.hy ag=true:=KI j D;unfold S.eE.fV;grind
def lk(P:List I)(m j _c:Nat):aO:=λh=>∃l:List I,l.Perm P/\G [S.en.oO j 30 l] h
def LP(Q:eg ag=true)(W:ag.x<=ag.y)(U:ag∉P)(O:P.length<30)(C J):D E 287 #[R C,ag.v] [lk P m C J] λv G=>v=j 0/\G=[lk (ds P ag) (m+1) C J]:=
 D.b3 (λ_ h=>h) λl q=>(S.en.Qy (L:=[]) (t:=C) (bT:=30) (k:=l) (ag:=ag) (by have:=q.length_eq;omega)).mono λv G ⟨Y,K⟩=>⟨by grind[LH],λh s=>⟨_,CE q,by
  rw[K,S.en.ny,if_pos (LH q Q W U O)]at s;exact s⟩⟩
def U1(U:hB P)(K:ag∈P)(W:P.length<=1000)(C J):D E 288 #[R C,ag.v] [lk P m C J] λv G=>v=j 0/\G=[lk (gE P ag.id) (m+1) C J]:=
 D.b3 (λ_ h=>h) λl q=>(S.en.Qv (L:=[]) (t:=C) (bT:=30) (k:=l) (ag:=ag) (by have:=q.length_eq;omega)).mono λv G ⟨O,Q⟩=>⟨by rw[O];exact congrArg _ (if_pos (q.mem_iff.2 K)),λh s=>⟨_,wm q U K,Q▸s⟩⟩
def U2:D E 111 #[j 30] [] λv G=>∃C,v=.tuple #[R C,j 0]/\G=[lk [] 0 C 0]:=
 D.mk (A:=λC=>S.en.oO C 30 []) ((S.en.Ut 30 [] Q Q).mono λv G ⟨C,J,K⟩=>⟨C,J,λh s=>⟨[],.refl _,K▸s⟩⟩)
def lq(P:List I)(m j _c:Nat):aO:=λh=>∃s:S.eE.dM,(s.k.Perm P/\s.b<=m)/\G [S.eE.p6 j 30 s] h
def OV(Q:eg ag=true)(W:ag.x<=ag.y)(U:ag∉P)(O:P.length<30)(ak:m<=900)(G K):D E 290 #[R G,ag.v] [lq P m G K] λv J=>v=j 0/\J=[lq (ds P ag) (m+1) G K]:=
 D.b3 (λ_ h=>h) λs ⟨q,aP⟩=>(S.eE.Rp (L:=[]) (t:=G) (bT:=30) (s:=s) (ag:=ag) (by have:=q.length_eq;omega) C).mono λv J ⟨ae,Y⟩=>⟨by grind[CA],λh Z=>⟨_,⟨by
  rw[S.eE.dM.UO,S.eE.ny,if_pos (CA q Q W U O)];exact CE q,by
  rw[S.eE.dM.UN,if_pos (CA q Q W U O)];grind[S.eE.qQ]⟩,Y▸Z⟩⟩
def YV(Z:hB P)(U:ag∈P)(Y:P.length<=100)(ae:m<=900)(G K):D E 291 #[R G,ag.v] [lq P m G K] λv J=>v=j 0/\J=[lq (gE P ag.id) (m+1) G K]:=
 D.b3 (λ_ h=>h) λs ⟨q,aP⟩=>(S.eE.Ro (L:=[]) (t:=G) (bT:=30) (s:=s) (ag:=ag) (by have:=q.length_eq;omega) C).mono λv J ⟨O,Q⟩=>⟨by rw[O];exact congrArg _ (if_pos (q.mem_iff.2 U)),λh W=>⟨_,⟨by
  simp_all[S.eE.dM.S8,wm],by
  grind[S.eE.dM.S7,S.eE.qD]⟩,Q▸W⟩⟩
def YW:D E 112 #[j 30] [] λv G=>∃C,v=.tuple #[R C,j 0]/\G=[lq [] 0 C 0]:=
 D.mk (A:=λC=>S.eE.p6 C 30 ⟨[],[],0⟩) ((S.eE.pb (L:=[]) (bT:=30) Q Q).mono λv G ⟨C,J,K⟩=>⟨C,J,λh s=>⟨⟨[],[],0⟩,⟨.refl _,bv _⟩,K▸s⟩⟩)
end
section
abbrev IR:=Nat×Nat×List (Int×I)×List (Int×I)
def xO(D:Nat)(C:IR):List aO:=[ae D 197 [.map (some C.1),.map (some C.2.1),j 30],co C.1 C.2.2.1,co C.2.1 C.2.2.2]
def hW(D S:List I)(C _c:Nat):aO:=λh=>∃j:IR,(hH j.2.2.1 D/\hH j.2.2.2 S)/\G (xO C j) h
variable{P S:List I}{c:be}{ag:I}
def Pn(Z:P.length+S.length<=1000)(J U):D E 207 #[R J,c.v] [hW P S J U] λv K=>v=j (cA P S 30 c)/\K=[hW P S J U]:=
 D.b3 (λ_ h=>h) λG ⟨O,Q⟩=>(Zx c J G.1 G.2.1 30 G.2.2.1 G.2.2.2 (xO J G) P S O Q (aB.ae p) iA iA C).mono λv K ⟨W,Y⟩=>⟨W,λh s=>⟨G,⟨O,Q⟩,Y▸s⟩⟩
def Wo(h:cA P S 30 c=0)(j:c.k=1):dx P c.ag.id=false:=by grind[cA,be.jN,be.iq,be.id]
def Wp(h:cA P S 30 c=0)(j:c.k=3):dx S c.s.id=false:=by grind[cA,be.jN,be.iq,be.id]
theorem Wm(h:cA P S 30 c=0)(j:c.k=2):dx P c.ag.id=true:=by grind[cA,be.jN,be.iq,be.id]
theorem Wn(h:cA P S 30 c=0)(j:c.k=4):dx S c.s.id=true:=by grind[cA,be.jN,be.iq,be.id]
def wl(v:Value):Prop:=∃b:be,v=.tuple #[b.v,j 0]
section
variable(ez:cA P S 30 c=0)(DU:P.length+S.length<=1000)(B k:Nat)
include ez DU
theorem ZJ(J:c.k=1):D E 261 #[R B,c.v] [hW P S B k] λv G=>wl v/\G=[hW (ds P c.ag) S B k]:=
 D.b3 (λ_ h=>h) λj ⟨K,O⟩=>(Zr c B j.1 j.2.1 30 j.2.2.1 j.2.2.2 [] P S K O J ez C).mono λv G ⟨Q,U⟩=>⟨⟨_,Q⟩,λh s=>⟨(j.1,j.2.1,eY c.ag.id c.ag j.2.2.1,j.2.2.2),⟨K.put (Wo ez J),O⟩,by subst U;exact s⟩⟩
theorem Pm(J:c.k=3):D E 261 #[R B,c.v] [hW P S B k] λv G=>wl v/\G=[hW P (ds S c.s) B k]:=
 D.b3 (λ_ h=>h) λj ⟨K,O⟩=>(Zt c B j.1 j.2.1 30 j.2.2.1 j.2.2.2 [] P S K O J ez C).mono λv G ⟨Q,U⟩=>⟨⟨_,Q⟩,λh s=>⟨(j.1,j.2.1,j.2.2.1,eY c.s.id c.s j.2.2.2),⟨K,O.put (Wp ez J)⟩,by subst U;exact s⟩⟩
theorem ZK(U:hB P)(W:c.k=2):D E 261 #[R B,c.v] [hW P S B k] λv J=>wl v/\J=[hW (gE P c.ag.id) S B k]:=
 D.b3 (λ_ h=>h) λj ⟨G,K⟩=>(Zs c B j.1 j.2.1 30 j.2.2.1 j.2.2.2 [] P S G K W ez C).mono λv J ⟨O,Q⟩=>⟨⟨_,O⟩,λh s=>⟨(j.1,j.2.1,jn c.ag.id j.2.2.1,j.2.2.2),⟨by
  rcases G.get c.ag.id with ⟨_,g⟩|⟨q,g,_,_,_⟩
  ·grind[Wm]
  ·exact G.del U g,K⟩,by subst Q;exact s⟩⟩
theorem ZL(U:hB S)(W:c.k=4):D E 261 #[R B,c.v] [hW P S B k] λv J=>wl v/\J=[hW P (gE S c.s.id) B k]:=
 D.b3 (λ_ h=>h) λj ⟨K,G⟩=>(Zu c B j.1 j.2.1 30 j.2.2.1 j.2.2.2 [] P S K G W ez C).mono λv J ⟨O,Q⟩=>⟨⟨_,O⟩,λh s=>⟨(j.1,j.2.1,j.2.2.1,jn c.s.id j.2.2.2),⟨K,by
  rcases G.get c.s.id with ⟨_,g⟩|⟨q,g,_,_,_⟩
  ·grind[Wn]
  ·exact G.del U g⟩,by subst Q;exact s⟩⟩
end
theorem La{l M}(E:hH M l)(C:hB l)(D:ag∈l):c1 ag.id M=some ag:=by
 rcases E.get ag.id with ⟨_,g⟩|⟨q,g,j,G,_⟩
 ·grind[sl]
 ·rw[g,C.inj G D j]
def ZN(W:hB P)(Y:ag∈P)(G O):D E 275 #[R G,j ag.id] [hW P S G O] λv J=>v=.tuple #[ag.v,.bool true]/\J=[hW P S G O]:=
 D.b3 (λ_ h=>h) λC ⟨K,Z⟩=>(Zz ag.id G C.1 C.2.1 30 C.2.2.1 C.2.2.2 (xO G C) (aB.ae p) iA iA).mono λv J ⟨Q,U⟩=>⟨by rw[Q,La K W Y];rfl,λh s=>⟨C,⟨K,Z⟩,U▸s⟩⟩
def ZO(W:hB S)(Y:ag∈S)(G O):D E 276 #[R G,j ag.id] [hW P S G O] λv J=>v=.tuple #[ag.v,.bool true]/\J=[hW P S G O]:=
 D.b3 (λ_ h=>h) λC ⟨Z,K⟩=>(ZC ag.id G C.1 C.2.1 30 C.2.2.1 C.2.2.2 (xO G C) (aB.ae p) iA iA).mono λv J ⟨Q,U⟩=>⟨by rw[Q,La K W Y];rfl,λh s=>⟨C,⟨Z,K⟩,U▸s⟩⟩
def ZM:D E 70 #[j 30] [] λv J=>∃C,v=.tuple #[R C,j 0]/\J=[hW [] [] C 0]:=
 D.dR (Gy 30 Q Q []) λv J Y ⟨C,K,O,U,W⟩ s=>⟨[hW [] [] C 0],⟨C,U,rfl⟩,G.fold (N:=xO C (K,O,[],[])) (λh s=>⟨(K,O,[],[]),⟨.nil,.nil⟩,s⟩) (by rw[dA];subst W;exact s)⟩
end
namespace aX
structure bW (Ω:bX) (C S:List I) (j:Nat) (b:Int):Prop where
 g0:Ω.b6 0=hW C S
 g1:Ω.b6 1=mE C j
 g2:Ω.b6 2=mH C j
 g3:Ω.b6 3=mN C j
 g4:Ω.b6 4=lk S j
 g5:Ω.b6 5=lq S j
 g6:Ω.b6 6=lS
 b:Ω.int 0=b
structure jG (Ω:bX) (j:be) (E:I) (D S:List I) (C:Nat):Prop where
 nw:Ω.int 1=j.ag.id
 pD:Ω.int 2=j.ag.x
 lh:Ω.int 3=j.ag.y
 om:Ω.int 4=j.s.id
 qN:Ω.int 5=j.s.x
 qO:Ω.int 6=j.s.y
 ox:Ω.int 41=E.id
 oy:Ω.int 42=E.x
 oz:Ω.int 43=E.y
 g0:Ω.b6 10=hW D S
 g1:Ω.b6 11=mE D C
 g2:Ω.b6 12=mH D C
 g3:Ω.b6 13=mN D C
 g4:Ω.b6 14=lk S C
 g5:Ω.b6 15=lq S C
def ji(j S:List I)(D:Nat)(b:Int)(one:Bool)(s:Nat):aO:=λh=>∃Ω:bX,bW Ω j S D b/\G [gU Ω (fU one λC=>C) s] h
def IG(C S:List I)(j:Nat)(b:Int)(one:Bool)(O K:Nat)(J:be)(Q:I)(D E:List I)(s:Nat):aO:=λh=>∃Ω:bX,(bW Ω C S j b/\jG Ω J Q D E (j+1))/\G [gU Ω (xW O K one) s] h
def intOf(Ω:bX)(C:be)(D:I)(j:Nat):Int:=if j=0\/(20<=j/\j<=34)then Ω.int j else if j=1 then C.ag.id else if j=2 then C.ag.x else if j=3 then C.ag.y else if j=4 then C.s.id else if j=5 then C.s.x else if j=6 then C.s.y else if j=41 then D.id else if j=42 then D.x else D.y
def zW(Ω:bX)(D S:List I)(C:Nat)(j:Nat):Nat->Nat->aO:=if j<=6 then Ω.b6 j else if j=10 then hW D S else if j=11 then mE D C else if j=12 then mH D C else if j=13 then mN D C else if j=14 then lk S C else lq S C
section
variable{P S hI gT:List I}{m:Nat}{b:Int}{one:Bool}{s k e:Nat}{c:be}{ag:I}{Ω:bX}
def bW.of(h:bW Ω P S m b):bW ⟨intOf Ω c ag,zW Ω hI gT (m+1)⟩ P S m b:=⟨h.g0,h.g1,h.g2,h.g3,h.g4,h.g5,h.g6,h.b⟩
def jG.of:jG ⟨intOf Ω c ag,zW Ω hI gT (m+1)⟩ c ag hI gT (m+1):=⟨rfl,rfl,rfl,rfl,rfl,rfl,rfl,rfl,rfl,rfl,rfl,rfl,rfl,rfl,rfl⟩
def Lz:∀one,nP (λC=>Z (aA C 0) (some C) (Z (cN 20 C) (Z (cN C 34) (some C) none) none)) (λj=>Z (cN j 6) (some j) none) (fU one λj=>j)=some (fU one λj=>j):=λone=>by cases one<;>rfl
def y1{C c}{j y:C}(h:Z c (some j) none=some y):c=true/\j=y:=by cases c<;>cases h;simp
def ys.of(h:bW Ω P S m b){C}(q:G [gU Ω (fU one λD=>D) s] C):G [gU ⟨intOf Ω c ag,zW Ω hI gT (m+1)⟩ (fU one λD=>D) s] C:=
 fg (λC q=>yG (Lz one) (λj E e=>by
  have:j=E/\(j=0\/(20<=j/\j<=34)):=by
   revert e;cases K:aA j 0
   ·cases aa:cN 20 j
    ·intro e;cases e
    ·cases ab:cN j 34
     ·intro e;cases e
     ·intro e;cases e;simp_all
   ·intro e;cases e;simp_all
  obtain⟨rfl,ab⟩:=this;show intOf Ω c ag j=Ω.int j;unfold intOf;omega) (λD O e J c C q=>by
  obtain⟨aa,rfl⟩:=y1 e;unfold zW;simp_all) C q) q
theorem ZV(C){j:Nat}(h:(sM.all λag=>!aA j ag.1)=true):ks C j=.bb j:=by
 cases C with
 |none=>rfl
 |some q=>
  show @ch _ (λ_=>al) _ (λag _ g=>Z (aA j ag.1) (@bF _ (λ_=>al) _ _ (ua _ ag.2.1 ag.2.2)) g) sM= _;simp_all[sM,Z]
def nF(C){j:Nat}(h:(sM.all λag=>!aA j ag.1)=true):(Ω.cR (ks C)).int j=Ω.int j:=by
 show(ks C j).num Ω= _;rw[ZV C h];rfl
theorem bW.cR(h:bW Ω P S m b)(j):bW (Ω.cR (ks j)) P S m b:=⟨h.g0,h.g1,h.g2,h.g3,h.g4,h.g5,h.g6,(nF j aZ).trans h.b⟩
theorem jG.cR(h:jG Ω c ag hI gT m)(j):jG (Ω.cR (ks j)) c ag hI gT m:=
 ⟨(nF j aZ).trans h.nw,(nF j aZ).trans h.pD,(nF j aZ).trans h.lh,(nF j aZ).trans h.om,(nF j aZ).trans h.qN,(nF j aZ).trans h.qO,(nF j aZ).trans h.ox,(nF j aZ).trans h.oy,(nF j aZ).trans h.oz,h.g0,h.g1,h.g2,h.g3,h.g4,h.g5⟩
def jx(c:be):Value:=.agg #[.int .i64 1,.int .i64 c.k,.int .i64 c.ag.id,.int .i64 c.ag.x,.int .i64 c.ag.y,.int .i64 c.s.id,.int .i64 c.s.x,.int .i64 c.s.y,.int .i64 0,.int .i64 0,.int .i64 0,.int .i64 0,.int .i64 0,.int .i64 0,.int .i64 0,.int .i64 0,.int .i64 0,.int .i64 0]
def du{C:aV Ω}{j n}(h:Ω.int j=n):bq C (.bb j) (.int .i64 n):=h▸ .bb
def aah{j:aV Ω}{n:Int}(h:n=(k:Nat)):bq j (.i .i64 (k:Nat)) (.int .i64 n):=h▸ .i
def vS{W J:List cl}{R:kz}(j:ay)(ao:k8 Ω E R){n:Nat}{K:FuncId}{Z:List al}{C:Nat->al}{Q:List Nat}{U:al}{Y:cs}{ay:Value->Prop}(ap:j=ka E 162 R n (λ_ _ _=>none) K (.ag 0 0::Z) (fa W))
  (h:gq j C Q U J=true) (am:∃O,Q=0::O) (ar:∀G:aV Ω,bh G Z Y) (ak:∀(G:aV (Ω.cR C)) j,bq G U j->ay j):
  D E K (.pointer (some ⟨s,0,none⟩)::Y).toArray [gU Ω W s] λj ae=>ay j/\ae=[gU (Ω.cR C) J s]:=by
 subst ap;obtain⟨O,rfl⟩:=am;exact Rs t9 sx ao h ar ak
def aap(R:c.k=k)(Q:vk k e one=true)(U:∀Ω,bW Ω P S m b->jG Ω c ag hI gT (m+1)->k8 Ω E (xa k e)):
  D E 8 #[.pointer (some ⟨s,0,none⟩),.int .i64 0,jx c] [ji P S m b one s] λv G=>v=.int .i64 0/\G=[IG P S m b one k e c ag hI gT s]:=
 D.b3 (R:=bX) (K:=λΩ=>bW Ω P S m b/\jG Ω c ag hI gT (m+1)) (I:=λΩ=>[gU Ω (fU one λW=>W) s]) (λh ⟨Ω,C,q⟩=>⟨_,⟨C.of,.of⟩,ys.of C q⟩) λΩ ⟨C,j⟩=>
  (vS (n:=100) (Z:=[cf,.bm (Ot k)]) (Y:=[.int .i64 0,jx c]) (ay:=λJ=>J=.int .i64 0) (rn k e one) (U Ω C j) p (show gq (rn k e one) (ks (rn k e one)) (ow (rn k e one)) cf (xW k e one)=true from Q) ⟨_,rfl⟩ (λY=> .cons .i (.cons (.bm (.cons .i (.cons (aah R) (.cons (du j.nw) (.cons (du j.pD) (.cons (du j.lh) (.cons (du j.om) (.cons (du j.qN) (.cons (du j.qO) (.cons .i (.cons .i (.cons .i (.cons .i (.cons .i (.cons .i (.cons .i (.cons .i (.cons .i (.cons .i .nil))))))))))))))))))) .nil)) λY J q=>by cases q;rfl).mono λv G ⟨K,O⟩=>
   ⟨K,λh q=>⟨_,⟨C.cR _,j.cR _⟩,by subst O;exact q⟩⟩
end
end aX
namespace aX
def qM(D S:List I)(C:Nat)(j:Nat):Nat->Nat->aO:=if j=0 then hW D S else if j=1 then mE D C else if j=2 then mH D C else if j=3 then mN D C else if j=4 then lk S C else if j=5 then lq S C else lS
def Wg{l:List (Nat×Nat)}{j C}(h:l.lookup j=some C):(j,C)∈l:=by
 induction l with
 |nil=>grind
 |cons E l D=>
  grind
section
variable{P S hI gT Cs Cz:List I}{m:Nat}{b:Int}{one:Bool}{s k e:Nat}{c:be}{ag:I}{Ω:bX}
def LW{j q h}:mE P m j q h->mE P (m+1) j q h:=λ⟨D,⟨C,l⟩,E⟩=>⟨D,⟨C,qm l⟩,E⟩
def L9{j q h}:mH P m j q h->mH P (m+1) j q h:=λ⟨D,⟨C,l⟩,E⟩=>⟨D,⟨C.up (nZ m),l⟩,E⟩
def abe{j q h}:mN P m j q h->mN P (m+1) j q h:=id
def aa5{j q h}:lk P m j q h->lk P (m+1) j q h:=id
def OU{j q h}:lq P m j q h->lq P (m+1) j q h:=λ⟨D,⟨C,l⟩,E⟩=>⟨D,⟨C,qm l⟩,E⟩
def RH(ak:tR k e one=true)(al:∀Ω,bW Ω P S m b->jG Ω c ag hI gT (m+1)->k8 Ω E (xa k e))(U:List (Nat×Nat))(aa:nP some (λJ=>U.lookup J) (fU true (zV k e))=some (fU true λJ=>J))
  (am:∀Ω,bW Ω P S m b->jG Ω c ag hI gT (m+1)->∀R∈U,∀G q j,Ω.b6 R.1 G q j->qM Cs Cz (m+1) R.2 G q j):
  D E 9 #[.pointer (some ⟨s,0,none⟩),.int .i64 0,.int .i64 50] [IG P S m b one k e c ag hI gT s] λv K=>v=.tuple #[.int .i64 (zX k e),.bool true]/\K=[ji Cs Cz (m+1) b true s]:=
 D.b3 (R:=bX) (K:=λΩ=>bW Ω P S m b/\jG Ω c ag hI gT (m+1)) (I:=λΩ=>[gU Ω (xW k e one) s]) (λh ⟨Ω,C,q⟩=>⟨Ω,C,q⟩) λΩ ⟨C,O⟩=>
  (vS (n:=100) (Z:=[cf,.i .i64 50]) (Y:=[.int .i64 0,.int .i64 50]) (ay:=λQ=>Q=.tuple #[.int .i64 (zX k e),.bool true]) (qw k e one) (al Ω C O) p (show gq (qw k e one) (ks (qw k e one)) (ow (qw k e one)) (.b1 [.i .i64 (zX k e),.b true]) (fU true (zV k e))=true from ak) ⟨_,rfl⟩
   (λao=> .cons .i (.cons .i .nil)) λao Q q=>by cases q with|b1 q=>cases q with|cons W q=>cases q with|cons Y q=>cases q;cases W;cases Y;rfl).mono λv K ⟨Z,ae⟩=>
   ⟨Z,λh q=>⟨⟨(Ω.cR (ks (qw k e one))).int,qM Cs Cz (m+1)⟩,⟨rfl,rfl,rfl,rfl,rfl,rfl,rfl,(nF _ aZ).trans C.b⟩,by
    subst ae;exact fg (λj q=>yG (Ω:=Ω.cR _) aa (λar au e=>by simp_all) (λJ ap e G c j q=>am Ω C O _ (Wg e) G c j q) j q) q⟩⟩
def cm(Ω:bX)(J:Nat×(List al->bQ->ay)):Prop:=∀Q h v G,J.2 Q h=some (v,G)->b4 E J.1/\
 ∀(R j:aV Ω) (K:aG) O,bh j Q O->hq R j h->D E J.1 O.toArray (K++bJ j h) λW U=>∃C,j.le C/\bq C v W/\hq R C G/\U=K++bJ C G
def mK{l}(h:∀G∈l,cm Ω G):k8 Ω E (q4 l):=by
 induction l with
 |nil=>intro C F e;cases e
 |cons G l K=>
  intro C F e;have j:Z _ _ _=some F:=e;cases D:aA C _
  ·rw[D]at j;exact K (λy J=>h y (List.mem_cons_of_mem _ J)) C F j
  ·rw[D]at j;have:=bV D;cases j;subst this;exact h G List.mem_cons_self
def cm.note(h:bW Ω P S m b):cm Ω (44,sC):=Fh λj c=>by rw[h.g6]
theorem cm.fC{G:Nat}[al:b4 E G]{k O Q args R U bc K}(ae:Ω.b6 O=bc)(ak:Ω.b6 Q=K)(Z:∀J:aV Ω,bh J args U){ay:Value->Prop}(Y:∀(J:aV Ω) j,ay j->bq J R j)
  (h:∀C c,D E G (.pointer (some ⟨C,0,none⟩)::U).toArray [bc C c] λj W=>ay j/\W=[K C c]):cm Ω (G,gI k O Q args R):=by
 subst ae ak;exact Xv Z Y h
theorem gp{n}(C:aV Ω)(j)(h:j=.int .i64 (n:Nat)):bq C (.i .i64 (n:Nat)) j:=h▸ .i
def xx(C:aV Ω)(j)(h:wl j):bq C ug j:=by
 obtain⟨b,rfl⟩:=h;exact .b1 (.cons (.bm (.cons .fL (.cons .fL (.cons .fL (.cons .fL (.cons .fL (.cons .fL (.cons .fL .nil)))))))) (.cons .i .nil))
theorem oQ{E:aV Ω}{j C l}{ag:I}(aa:Ω.int j=ag.id)(ab:Ω.int C=ag.x)(D:Ω.int l=ag.y):bh E (nb j C l) [ag.v]:=.cons (.bm (.cons (du aa) (.cons (du ab) (.cons (du D) .nil)))) .nil
def Og{ag:I}(aa:Ω.int 41=ag.id)(ab:Ω.int 42=ag.x)(C:Ω.int 43=ag.y)(D:aV Ω)(j)(h:j=.tuple #[ag.v,.bool true]):bq D DL j:=by
 subst h;exact .b1 (.cons (.bm (.cons (du aa) (.cons (du ab) (.cons (du C) .nil)))) (.cons .b .nil))
end
end aX
namespace aX
def dQ(j:be):be:=if j.k=1 then⟨1,j.ag,ci⟩else if j.k=2 then⟨2,⟨j.ag.id,0,0⟩,ci⟩else if j.k=3 then⟨3,ci,j.s⟩else⟨4,ci,⟨j.s.id,0,0⟩⟩
structure Inv (C S:List I):Prop where
 ip:hB C
 is:hB S
 zY:∀j∈C,eg j=true
 gs:∀j∈S,eg j=true/\j.x<=j.y
 hz:C.length+S.length<=30
section
variable{P S:List I}{m:Nat}{b:Int}{one:Bool}{s k e:Nat}{c:be}{ag:I}{Ω:bX}{hI gT:List I}
theorem FT:∀{l:List (Nat×Nat)},@ch _ (λ_=>Bool) true (λj _ E=>Z (vk j.1 j.2 one) (Z (tR j.1 j.2 one) E false) false) l=true->∀j∈l,vk j.1 j.2 one=true/\tR j.1 j.2 one=true
 | [],_,j,C=>by trivial
 |y::l,h,j,C=>by
  have D:Z _ _ _=true:=h;cases aa:vk _ y.2 _<;>rw[aa]at D
  ·trivial
  cases ab:tR _ y.2 _<;>rw[ab]at D
  ·trivial
  rcases cQ.1 C with rfl|C
  ·simp_all
  ·exact FT D j C
def OK(j)(C:j∈zf):vk j.1 j.2 one=true/\tR j.1 j.2 one=true:=by
 cases one
 ·grind[FT,YH,A7]
 grind[FT,YI,A7]
def Mx(h:cA P S 30 ⟨1,ag,ci⟩=0):eg ag=true/\dx P ag.id=false/\P.length+S.length<30:=by
 simp[cA,be.hT,be.id,be.jN,eg,kg,oo]at*
 grind
def ER(h:cA P S 30 ⟨3,ci,ag⟩=0):eg ag=true/\ag.x<=ag.y/\dx S ag.id=false/\P.length+S.length<30:=by
 simp only[cA,be.hT,be.id,be.jN,eg,kg,oo]at*
 grind
theorem EQ(q):cA P S 30 ⟨2,ag,q⟩=if oo ag.id=false then 1 else if dx P ag.id then 0 else 6:=by
 simp[cA,be.hT,be.known,be.id,be.iq,be.jN];simp_all
theorem ES(q):cA P S 30 ⟨4,q,ag⟩=if oo ag.id=false then 1 else if dx S ag.id then 0 else 6:=by
 simp[cA,be.hT,be.known,be.id,be.iq,be.jN];simp_all
def UK(aa:1<=c.k)(ab:c.k<=4):∃k e:Nat,c.k=(k:Nat)/\cA P S 30 (dQ c)=(e:Nat)/\(k,e)∈zf:=by
 have j:c.k=1\/c.k=2\/c.k=3\/c.k=4:=C;rcases j with j|j|j|j
 ·have D:dQ c=⟨1,c.ag,ci⟩:=by simp[dQ,j]
  have:cA P S 30 ⟨1,c.ag,ci⟩=0\/cA P S 30 ⟨1,c.ag,ci⟩=1\/cA P S 30 ⟨1,c.ag,ci⟩=2\/cA P S 30 ⟨1,c.ag,ci⟩=4\/cA P S 30 ⟨1,c.ag,ci⟩=5:=by
   simp[cA,be.hT,be.jN];grind
  rcases this with h|h|h|h|h
  ·exact⟨1,0,j,by simp_all,bs⟩
  ·exact⟨1,1,j,by simp_all,bs⟩
  ·exact⟨1,2,j,by simp_all,bs⟩
  ·exact⟨1,4,j,by simp_all,bs⟩
  ·exact⟨1,5,j,by simp_all,bs⟩
 ·have D:dQ c=⟨2,⟨c.ag.id,0,0⟩,ci⟩:=by simp[dQ,j]
  have:cA P S 30 (dQ c)=0\/cA P S 30 (dQ c)=1\/cA P S 30 (dQ c)=6:=by
   rw[D,EQ];omega
  rcases this with h|h|h
  ·exact⟨2,0,j,h,bs⟩
  ·exact⟨2,1,j,h,bs⟩
  ·exact⟨2,6,j,h,bs⟩
 ·have D:dQ c=⟨3,ci,c.s⟩:=by simp[dQ,j]
  have:cA P S 30 ⟨3,ci,c.s⟩=0\/cA P S 30 ⟨3,ci,c.s⟩=1\/cA P S 30 ⟨3,ci,c.s⟩=2\/cA P S 30 ⟨3,ci,c.s⟩=3\/cA P S 30 ⟨3,ci,c.s⟩=4\/cA P S 30 ⟨3,ci,c.s⟩=5:=by
   simp[cA,be.hT,be.jN];grind
  rcases this with h|h|h|h|h|h
  ·exact⟨3,0,j,by simp_all,bs⟩
  ·exact⟨3,1,j,by simp_all,bs⟩
  ·exact⟨3,2,j,by simp_all,bs⟩
  ·exact⟨3,3,j,by simp_all,bs⟩
  ·exact⟨3,4,j,by simp_all,bs⟩
  ·exact⟨3,5,j,by simp_all,bs⟩
 ·have D:dQ c=⟨4,ci,⟨c.s.id,0,0⟩⟩:=by simp[dQ,j]
  have:cA P S 30 (dQ c)=0\/cA P S 30 (dQ c)=1\/cA P S 30 (dQ c)=6:=by
   rw[D,ES];omega
  rcases this with h|h|h
  ·exact⟨4,0,j,h,bs⟩
  ·exact⟨4,1,j,h,bs⟩
  ·exact⟨4,6,j,h,bs⟩
def Xd(D:c.k=(k:Nat))(aa:1<=k)(Q:k<=4)(R:cA P S 30 (dQ c)=(e:Nat))(U:P.length+S.length<=30)(h:bW Ω P S m b)(j:jG Ω c ag hI gT (m+1)):cm Ω (207,gI 12 0 0 (As k) (.i .i64 (e:Nat))):=by
 refine cm.fC h.g0 h.g0 (λW=> ?_) gp λE q=>(Pn (c:=dQ c) C E q).mono λv K ⟨O,G⟩=>⟨by simp_all,G⟩;have J:k=1\/k=2\/k=3\/k=4:=C;rcases J with rfl|rfl|rfl|rfl
 ·rw[show dQ c=⟨1,c.ag,ci⟩ by simp[dQ,D]];exact .cons (.bm (.cons .i (.cons (du j.nw) (.cons (du j.pD) (.cons (du j.lh) (.cons .i (.cons .i (.cons .i .nil)))))))) .nil
 ·rw[show dQ c=⟨2,⟨c.ag.id,0,0⟩,ci⟩ by simp[dQ,D]];exact .cons (.bm (.cons .i (.cons (du j.nw) (.cons .i (.cons .i (.cons .i (.cons .i (.cons .i .nil)))))))) .nil
 ·rw[show dQ c=⟨3,ci,c.s⟩ by simp[dQ,D]];exact .cons (.bm (.cons .i (.cons .i (.cons .i (.cons .i (.cons (du j.om) (.cons (du j.qN) (.cons (du j.qO) .nil)))))))) .nil
 ·rw[show dQ c=⟨4,ci,⟨c.s.id,0,0⟩⟩ by simp[dQ,D]];exact .cons (.bm (.cons .i (.cons .i (.cons .i (.cons .i (.cons (du j.om) (.cons .i (.cons .i .nil)))))))) .nil
end
end aX
namespace aX
def q0(j S:List I)(C:be):List I:=if cA j S 30 (dQ C)=0 then zl j (dQ C)else j
def q1(C S:List I)(j:be):List I:=if cA C S 30 (dQ j)=0 then zm S (dQ j)else S
def A8:List (Nat×Nat):=[(10,0),(11,1),(12,2),(13,3),(4,4),(5,5),(6,6)]
def A9:List (Nat×Nat):=[(10,0),(1,1),(2,2),(3,3),(14,4),(15,5),(6,6)]
def FU:List (Nat×Nat):=[(0,0),(1,1),(2,2),(3,3),(4,4),(5,5),(6,6)]
section
variable{P S:List I}{m:Nat}{b:Int}{one:Bool}{s k e:Nat}{c:be}{ag:I}{Ω:bX}{hI gT:List I}
def Lr(h:bW Ω P S m b)(C:jG Ω c ag hI S (m+1)):∀G∈A8,∀D q E,Ω.b6 G.1 D q E->qM hI S (m+1) G.2 D q E:=by
 intro G J D q E j;simp[A8,cQ,rB,or_false]at J;rcases J with rfl|rfl|rfl|rfl|rfl|rfl|rfl
 ·rw[C.g0]at j;exact j
 ·rw[C.g1]at j;exact j
 ·rw[C.g2]at j;exact j
 ·rw[C.g3]at j;exact j
 ·rw[h.g4]at j;trivial
 ·rw[h.g5]at j;exact OU j
 ·rw[h.g6]at j;exact j
def Ls(h:bW Ω P S m b)(D:jG Ω c ag P gT (m+1)):∀G∈A9,∀C q E,Ω.b6 G.1 C q E->qM P gT (m+1) G.2 C q E:=by
 intro G J C q E j;simp[A9,cQ,rB,or_false]at J;rcases J with rfl|rfl|rfl|rfl|rfl|rfl|rfl
 ·rw[D.g0]at j;exact j
 ·rw[h.g1]at j;exact LW j
 ·rw[h.g2]at j;exact L9 j
 ·rw[h.g3]at j;trivial
 ·rw[D.g4]at j;exact j
 ·rw[D.g5]at j;exact j
 ·rw[h.g6]at j;exact j
def Up(h:bW Ω P S m b):∀E∈FU,∀C q D,Ω.b6 E.1 C q D->qM P S (m+1) E.2 C q D:=by
 intro E G C q D j;simp[FU,cQ,rB,or_false]at G;rcases G with rfl|rfl|rfl|rfl|rfl|rfl|rfl
 ·rw[h.g0]at j;exact j
 ·rw[h.g1]at j;exact LW j
 ·rw[h.g2]at j;exact L9 j
 ·rw[h.g3]at j;trivial
 ·rw[h.g4]at j;trivial
 ·rw[h.g5]at j;exact OU j
 ·rw[h.g6]at j;exact j
def sA(h:dx P ag.id=false):ag∉P:=λj=>by
 rw[sl.2 (List.mem_map_of_mem j)]at h;grind
def hb{D:Type}{q:D->Prop}{C y l}(E:q C)(G:q y)(h:∀j∈l,q j):∀j∈C::y::l,q j:=λj J=>by
 grind
def yM{D:Type}{q:D->Prop}{C l}(E:q C)(h:∀j∈l,q j):∀j∈C::l,q j:=λj G=>by
 grind
def mm{C:Type}{q:C->Prop}:∀j∈([]:List C),q j:=λj D=>by trivial
def Ik(P S:List I)(m:Nat)(b:Int)(one:Bool)(s:Nat)(c:be)(G J:List I):Prop:=∃C:aO,
 (D E 8 #[.pointer (some ⟨s,0,none⟩),.int .i64 0,jx c] [ji P S m b one s] λv j=>v=.int .i64 0/\j=[C])/\
 ∃n:Int,D E 9 #[.pointer (some ⟨s,0,none⟩),.int .i64 0,.int .i64 50] [C] λv j=>v=.tuple #[.int .i64 n,.bool true]/\j=[ji G J (m+1) b true s]
def wd(U:c.k=(k:Nat))(Q:(k,e)∈zf)(ag)(O:∀Ω,bW Ω P S m b->jG Ω c ag hI gT (m+1)->k8 Ω E (xa k e))(C:List (Nat×Nat))(aa:nP some (λj=>C.lookup j) (fU true (zV k e))=some (fU true λj=>j)){G J}
  (W:∀Ω,bW Ω P S m b->jG Ω c ag hI gT (m+1)->∀R∈C,∀D q K,Ω.b6 R.1 D q K->qM G J (m+1) R.2 D q K):Ik P S m b one s c G J:=
 ⟨_,aap U (OK (k,e) Q).1 O,_,RH (OK (k,e) Q).2 O C aa W⟩
def change(J:Inv P S)(ax:m<=250)(aa:1<=c.k)(au:c.k<=4):Ik P S m b one s c (q0 P S c) (q1 P S c):=by
 obtain⟨k,e,K,ao,Z⟩:=UK aa au;have Y:∀{hI gT ag} Ω,bW Ω P S m b->jG Ω c ag hI gT _->cm Ω _:=λΩ h j=>Xd K C C ao J.hz h j;have aw:=J.hz;cases e with
 |succ e=>
  have ap:cA P S 30 (dQ c)≠0:=C;rw[q0,q1,if_neg ap,if_neg ap];exact wd (hI:=P) (gT:=S) K Z ci (λΩ h j=>mK (hb (cm.note h) (Y Ω h j) mm)) FU p λΩ h j=>Up h
 |zero=>
  have G:cA P S 30 (dQ c)=0:=ao;rw[q0,q1,if_pos G,if_pos G];have av:k=1\/k=2\/k=3\/k=4:=C;rcases av with rfl|rfl|rfl|rfl
  ·have Q:dQ c=⟨1,c.ag,ci⟩:=by simp[dQ,K]
   rw[Q]at G ⊢;obtain⟨R,U,ar⟩:=Mx G;refine wd (hI:=ds P c.ag) (gT:=S) K Z ci (λΩ h j=>mK (hb (cm.note h) (Y Ω h j) (hb ?_ ?_ (hb ?_ ?_ mm)))) A8 p λΩ h j=>Lr h j
   ·exact cm.fC (U:=[(be.mk 1 c.ag ci).v]) h.g0 j.g0 (λE=> .cons (.bm (.cons .i (.cons (du j.nw) (.cons (du j.pD) (.cons (du j.lh) (.cons .i (.cons .i (.cons .i .nil)))))))) .nil) xx λD q=>ZJ (c:=⟨1,c.ag,ci⟩) G C D q p
   ·exact cm.fC (U:=[c.ag.v]) h.g1 j.g1 (λE=>oQ j.nw j.pD j.lh) gp λD q=>Vj R (sA U) C C D q
   ·exact cm.fC (U:=[c.ag.v]) h.g2 j.g2 (λE=>oQ j.nw j.pD j.lh) gp λD q=>VP R (sA U) C C D q
   ·exact cm.fC (U:=[c.ag.v]) h.g3 j.g3 (λE=>oQ j.nw j.pD j.lh) gp λD q=>XS R (sA U) C D q
  ·have Q:dQ c=⟨2,⟨c.ag.id,0,0⟩,ci⟩:=by simp[dQ,K]
   rw[Q]at G ⊢;rw[EQ]at G;have ak:dx P c.ag.id=true/\oo c.ag.id=true:=by
    grind
   obtain⟨ag,O,W⟩:=jg.1 (sl.1 ak.1);have al:cA P S 30 ⟨2,ag,ci⟩=0:=by simp_all[EQ]
   have ae:zl P (be.mk 2 ⟨c.ag.id,0,0⟩ ci)=gE P ag.id:=by rw[W];rfl
   rw[ae];refine wd (hI:=gE P ag.id) (gT:=S) K Z ag (λΩ h j=>mK (hb (cm.note h) (Y Ω h j) (yM ?_ (hb ?_ ?_ (hb ?_ ?_ mm))))) A8 p λΩ h j=>Lr h j
   ·exact cm.fC (U:=[.int .i64 ag.id]) h.g0 h.g0 (λE=> .cons (du (j.nw.trans W.symm)) .nil) (Og j.ox j.oy j.oz) λD q=>ZN J.ip O D q
   ·exact cm.fC (U:=[(be.mk 2 ag ci).v]) h.g0 j.g0 (λE=> .cons (.bm (.cons .i (.cons (du j.ox) (.cons (du j.oy) (.cons (du j.oz) (.cons .i (.cons .i (.cons .i .nil)))))))) .nil) xx λD q=>ZK (c:=⟨2,ag,ci⟩) al C D q J.ip p
   ·exact cm.fC (U:=[ag.v]) h.g1 j.g1 (λE=>oQ j.ox j.oy j.oz) gp λD q=>Vi J.ip O C D q
   ·exact cm.fC (U:=[ag.v]) h.g2 j.g2 (λE=>oQ j.ox j.oy j.oz) gp λD q=>VO J.ip O C D q
   ·exact cm.fC (U:=[ag.v]) h.g3 j.g3 (λE=>oQ j.ox j.oy j.oz) gp λD q=>XR J.ip O C D q
  ·have Q:dQ c=⟨3,ci,c.s⟩:=by simp[dQ,K]
   rw[Q]at G ⊢;obtain⟨R,am,U,ar⟩:=ER G;refine wd (hI:=P) (gT:=ds S c.s) K Z ci (λΩ h j=>mK (hb (cm.note h) (Y Ω h j) (yM ?_ (hb ?_ ?_ mm)))) A9 p λΩ h j=>Ls h j
   ·exact cm.fC (U:=[(be.mk 3 ci c.s).v]) h.g0 j.g0 (λE=> .cons (.bm (.cons .i (.cons .i (.cons .i (.cons .i (.cons (du j.om) (.cons (du j.qN) (.cons (du j.qO) .nil)))))))) .nil) xx λD q=>Pm (c:=⟨3,ci,c.s⟩) G C D q p
   ·exact cm.fC (U:=[c.s.v]) h.g4 j.g4 (λE=>oQ j.om j.qN j.qO) gp λD q=>LP R am (sA U) C D q
   ·exact cm.fC (U:=[c.s.v]) h.g5 j.g5 (λE=>oQ j.om j.qN j.qO) gp λD q=>OV R am (sA U) C C D q
  ·have Q:dQ c=⟨4,ci,⟨c.s.id,0,0⟩⟩:=by simp[dQ,K]
   rw[Q]at G ⊢;rw[ES]at G;have ak:dx S c.s.id=true/\oo c.s.id=true:=by
    grind
   obtain⟨ag,O,W⟩:=jg.1 (sl.1 ak.1);have al:cA P S 30 ⟨4,ci,ag⟩=0:=by simp_all[ES]
   have ae:zm S (be.mk 4 ci ⟨c.s.id,0,0⟩)=gE S ag.id:=by rw[W];rfl
   rw[ae];refine wd (hI:=P) (gT:=gE S ag.id) K Z ag (λΩ h j=>mK (hb (cm.note h) (Y Ω h j) (hb ?_ ?_ (hb ?_ ?_ mm)))) A9 p λΩ h j=>Ls h j
   ·exact cm.fC (U:=[.int .i64 ag.id]) h.g0 h.g0 (λE=> .cons (du (j.om.trans W.symm)) .nil) (Og j.ox j.oy j.oz) λD q=>ZO J.is O D q
   ·exact cm.fC (U:=[(be.mk 4 ci ag).v]) h.g0 j.g0 (λE=> .cons (.bm (.cons .i (.cons .i (.cons .i (.cons .i (.cons (du j.ox) (.cons (du j.oy) (.cons (du j.oz) .nil)))))))) .nil) xx λD q=>ZL (c:=⟨4,ci,ag⟩) al C D q J.is p
   ·exact cm.fC (U:=[ag.v]) h.g4 j.g4 (λE=>oQ j.ox j.oy j.oz) gp λD q=>U1 J.is O C D q
   ·exact cm.fC (U:=[ag.v]) h.g5 j.g5 (λE=>oQ j.ox j.oy j.oz) gp λD q=>YV J.is O C C D q
end
end aX
namespace aX
def A1:List al:=.i .i64 1:: .bb 1:: .bb 2:: .bb 3:: .bb 4:: .bb 5:: .bb 6:: .bb 7::fB [cf] 10
def E0(j:List al)(h:bQ):ay:=match j with
 | [.ag b 0,.bm l]=>bK (gA (gF 9) l A1) (match h.get b with
  |some (.ce _ (.i .i64 0:: _))=>some (.i .i64 8,h)
  | _=>none)
 | _=>none
section
variable{Ω:bX}{P S:List I}{m:Nat}{b:Int}{one:Bool}{s:Nat}{c:be}
structure B1 (Ω:bX) (c:be):Prop where
 nw:Ω.int 1=c.k
 pD:Ω.int 2=c.ag.id
 lh:Ω.int 3=c.ag.x
 om:Ω.int 4=c.ag.y
 qN:Ω.int 5=c.s.id
 qO:Ω.int 6=c.s.x
 Uq:Ω.int 7=c.s.y
def Ou(h:B1 Ω c)(j:aV Ω):bq j (.bm A1) (jx c):=.bm (.cons .i (.cons (du h.nw) (.cons (du h.pD) (.cons (du h.lh) (.cons (du h.om) (.cons (du h.qN) (.cons (du h.qO) (.cons (du h.Uq) (.cons .i (.cons .i (.cons .i (.cons .i (.cons .i (.cons .i (.cons .i (.cons .i (.cons .i (.cons .i .nil))))))))))))))))))
def cm.bad(h:B1 Ω c)(aG: ¬(1<=c.k/\c.k<=4)):cm Ω (43,E0):=by
 intro ar C v a5 E;unfold E0 at E;dsimp only at E;split at E
 case h_2=>grind
 rename_i b l
 obtain⟨ak,al⟩:=cu.1 E;split at al
 case h_2=>trivial
 rename_i O Y am
 cases al;refine⟨inferInstance,λa8 j Q a7 K Z=> ?_⟩;cases K with|cons av K=> ?_
 cases av with| @ag _ _ J dO gp=> ?_
 cases K with|cons R K=> ?_
 cases K;cases R with|bm R=> ?_
 obtain⟨ap,a6⟩:∃ap,jx c=.agg ap:=⟨_,rfl⟩;have aL:=Ou h j;have aH:=nd (λE au b=>lf 9 E au b) ak R (by cases aL with|bm q=>omega);subst aH;intro g F W aK;have fC:ST g _ j C W:=⟨Z.dp,aK.mono λ_ s=>G.join (N:=F::Q) s⟩;have ao:=fC.open gp am
 obtain⟨aa,ab,ax,aY,aZ,⟨ar,U,a0⟩,l⟩:=ao.s;have aP:a4 g (ae J O ar::(λD=>G _ D)::eB j C b) W:=⟨ao.g,aa,ab,ax,aY,aZ,a0,l⟩;cases U with|cons aw U=> ?_
 cases aw;have aQ:=aP.mono λD s=>G.join (G.perm (fZ (l₁:=[_])) s);refine(Ry J _ _ _ _ _ _ _ aG _ (.ae p) g _ W aQ).mono λa3 a1 ⟨aW,a2,ay,⟨aC,aE⟩,aI⟩=> ?_;subst aE;have aS:a4 g (ea j (.ce O _) J dO::(λD=>G _ D)::eB j C b) a1:=a4.Ln (λD s=>⟨_,.cons .i U,s⟩) (aI.mono λD s=>G.perm (fZ) (G.part s));have aO:(bJ j C).Perm (ea j (.ce O (.i .i64 0::Y)) J dO::eB j C b):=by
  have ag:(bJ j C).Perm (c9 j C b::eB j C b):=(lF (l:=hZ C.n) (lD.2 (fC.lt gp))).map _;have ak:c9 j C b=ea j (.ce O (.i .i64 0::Y)) J dO:=by simp[c9,am,gp]
  simp_all
 exact⟨aW,Q++bJ j C,ay,⟨j,aV.le.refl _,aC▸ .i,Z,rfl⟩,aS.mono λD s=>by
  have aX:=G.perm ((List.Perm.swap ..).trans (aO.symm.cons _)) s;exact G.part (N:=F::Q) aX⟩
end
def Xg:kz:=q4 [(44,sC),(43,E0)]
def st(one:Bool):ay:=jZ Xg 8 [cf,.bm A1] (fU one λj=>j)
def Ec(one:Bool):Bool:=gq (st one) (ks (st one)) (ow (st one)) (.i .i64 8) (fU one λj=>j)
def sU(one:Bool):ay:=jZ (λ_=>none) 9 [cf,.i .i64 50] (fU one λj=>j)
def FI(one:Bool):Bool:=gq (sU one) (ks (sU one)) (ow (sU one)) (.b1 [cf,.b true]) (fU one λj=>j)
def R0:Z (Ec true) (Z (Ec false) (Z (FI true) (FI false) false) false) false=true:=by rfl
theorem Jn(one):Ec one=true/\FI one=true:=by
 have j:=R0;have D:∀{C y:Bool},Z C y false=true->C=true/\y=true:=λ{C y} h=>by
  cases C with
  |false=>cases h
  |true=>trivial
 obtain⟨E,j⟩:=D j;obtain⟨G,j⟩:=D j;obtain⟨I,J⟩:=D j;cases one
 ·trivial
 trivial
section
variable{Ω:bX}{P S:List I}{m:Nat}{b:Int}{one:Bool}{s:Nat}{c:be}
def ys.Oq{J}(U:∀j,(j=0\/(20<=j/\j<=34))->J.int j=Ω.int j)(R:∀D,D<=6->J.b6 D=Ω.b6 D){E}(q:G [gU Ω (fU one λD=>D) s] E):G [gU J (fU one λD=>D) s] E:=
 fg (λE q=>yG (Lz one) (λj K C=>by
  have:j=K/\(j=0\/(20<=j/\j<=34)):=by
   revert C;cases Q:aA j 0
   ·cases aa:cN 20 j
    ·intro C;cases C
    ·cases ab:cN j 34
     ·intro C;cases C
     ·intro C;cases C;simp_all
   ·intro C;cases C;simp_all
  grind) (λD W C O c E q=>by
  obtain⟨aa,rfl⟩:=y1 C;simp_all) E q) q
def D0(Ω:bX)(c:be)(j:Nat):Int:=if j=0\/(20<=j/\j<=34)then Ω.int j else if j=1 then c.k else if j=2 then c.ag.id else if j=3 then c.ag.x else if j=4 then c.ag.y else if j=5 then c.s.id else if j=6 then c.s.x else c.s.y
def aao(U: ¬(1<=c.k/\c.k<=4)):D E 8 #[.pointer (some ⟨s,0,none⟩),.int .i64 0,jx c] [ji P S m b one s] λv G=>v=.int .i64 8/\G=[ji P S m b one s]:=
 D.b3 (R:=bX) (K:=λΩ=>bW Ω P S m b/\B1 Ω c) (I:=λΩ=>[gU Ω (fU one λC=>C) s]) (λh ⟨Ω,j,q⟩=>⟨⟨D0 Ω c,Ω.b6⟩,⟨⟨j.g0,j.g1,j.g2,j.g3,j.g4,j.g5,j.g6,j.b⟩,⟨rfl,rfl,rfl,rfl,rfl,rfl,rfl⟩⟩,ys.Oq (Ω:=Ω) (J:=⟨D0 Ω c,Ω.b6⟩) (λY W=>by
   simp_all[D0]) (λ_ _=>rfl) q⟩) λΩ ⟨j,J⟩=>
  (vS (n:=100) (Z:=[cf,.bm A1]) (Y:=[.int .i64 0,jx c]) (ay:=λK=>K=.int .i64 8) (st one) (mK (hb (cm.note j) (cm.bad J U) mm)) p (show gq (st one) (ks (st one)) (ow (st one)) (.i .i64 8) (fU one λC=>C)=true from(Jn one).1) ⟨_,rfl⟩
   (λO=> .cons .i (.cons (Ou J O) .nil)) λO K q=>by cases q;rfl).mono λv G ⟨Q,R⟩=>
   ⟨Q,λh q=>⟨_,j.cR _,by subst R;exact q⟩⟩
def RG:D E 9 #[.pointer (some ⟨s,0,none⟩),.int .i64 0,.int .i64 50] [ji P S m b one s] λv G=>v=.tuple #[.int .i64 0,.bool true]/\G=[ji P S m b one s]:=
 D.b3 (R:=bX) (K:=λΩ=>bW Ω P S m b) (I:=λΩ=>[gU Ω (fU one λC=>C) s]) (λh ⟨Ω,j,q⟩=>⟨Ω,j,q⟩) λΩ j=>
  (vS (n:=100) (Z:=[cf,.i .i64 50]) (Y:=[.int .i64 0,.int .i64 50]) (ay:=λJ=>J=.tuple #[.int .i64 0,.bool true]) (R:=λ_=>none) (sU one) (λY F W=>by grind) p (show gq (sU one) (ks (sU one)) (ow (sU one)) (.b1 [cf,.b true]) (fU one λC=>C)=true from(Jn one).2) ⟨_,rfl⟩
   (λU=> .cons .i (.cons .i .nil)) λU J q=>by cases q with|b1 q=>cases q with|cons K q=>cases q with|cons O q=>cases q;cases K;cases O;rfl).mono λv G ⟨Q,R⟩=>
   ⟨Q,λh q=>⟨_,j.cR _,by subst R;exact q⟩⟩
end
end aX
namespace aX
theorem Inv.nil:Inv [] []:=⟨HU,HU,(λ_ h=>by grind),(λ_ h=>by grind),Q⟩
theorem Inv.new{D S}(j:Inv D S){c}(aa:1<=c.k)(Y:c.k<=4):Inv (q0 D S c) (q1 D S c):=by
 by_cases I:cA D S 30 (dQ c)=0
 ·rw[q0,q1,if_pos I,if_pos I];have hz:=j.hz;have G:c.k=1\/c.k=2\/c.k=3\/c.k=4:=C;rcases G with G|G|G|G
  ·have J:dQ c=⟨1,c.ag,ci⟩:=by simp[dQ,G]
   rw[J]at I ⊢;obtain⟨R,Q,U⟩:=Mx I;show Inv (ds D _) S;exact⟨Lw j.ip Q,j.is,λK E=>by
    rcases cQ.1 ((pg D _).mem_iff.1 E)with rfl|E
    ·omega
    ·exact j.zY K E,j.gs,by rw[qs];omega⟩
  ·have J:dQ c=⟨2,⟨c.ag.id,0,0⟩,ci⟩:=by simp[dQ,G]
   rw[J];show Inv (gE D c.ag.id) S;have O:(gE D c.ag.id).Sublist D:=HC ..;have:=O.length_le;exact⟨Lx j.ip,j.is,λK E=>j.zY K (O.subset E),j.gs,C⟩
  ·have J:dQ c=⟨3,ci,c.s⟩:=by simp[dQ,G]
   rw[J]at I ⊢;obtain⟨R,W,Q,U⟩:=ER I;show Inv D (ds S _);exact⟨j.ip,Lw j.is Q,j.zY,λK E=>by
    rcases cQ.1 ((pg S _).mem_iff.1 E)with rfl|E
    ·trivial
    ·exact j.gs K E,by rw[qs];omega⟩
  ·have J:dQ c=⟨4,ci,⟨c.s.id,0,0⟩⟩:=by simp[dQ,G]
   rw[J];show Inv D (gE S c.s.id);have O:(gE S c.s.id).Sublist S:=HC ..;have:=O.length_le;exact⟨j.ip,Lx j.is,j.zY,λK E=>j.gs K (O.subset E),C⟩
 ·rw[q0,q1,if_neg I,if_neg I];omega
def qu(C S:List I)(j:be):List I:=if 1<=j.k/\j.k<=4 then q0 C S j else C
def qv(C S:List I)(j:be):List I:=if 1<=j.k/\j.k<=4 then q1 C S j else S
def Inv.a2{j S}(D:Inv j S)(C):Inv (qu j S C) (qv j S C):=by
 unfold qu qv;split
 ·rename_i h;exact D.new h.1 h.2
 omega
def RN{J S C b one s}(G)(R:Inv J S)(Q:C<=250):∃(I:aO) (W n:Int) (O:Nat) (U:Bool),O<=C+1/\
  (D E 8 #[.pointer (some ⟨s,0,none⟩),.int .i64 0,jx G] [ji J S C b one s] λv K=>v=.int .i64 W/\K=[I])/\
  D E 9 #[.pointer (some ⟨s,0,none⟩),.int .i64 0,.int .i64 50] [I] λv K=>v=.tuple #[.int .i64 n,.bool true]/\K=[ji (qu J S G) (qv J S G) O b U s]:=by
 by_cases j:1<=G.k/\G.k<=4
 ·obtain⟨I,aa,n,ab⟩:=change R Q j.1 j.2;rw[qu,qv,if_pos j,if_pos j];exact⟨I,0,n,C+1,true,bv _,aa,ab⟩
 ·rw[qu,qv,if_neg j,if_neg j];exact⟨_,8,0,C,one,nZ C,aao j,RG⟩
end aX
namespace aX
def la(j:bX->Prop)(W:List cl)(s:Nat):aO:=λh=>∃Ω:bX,j Ω/\G [gU Ω W s] h
def vf{C R W O s Z}(j){U:FuncId}{K J ag Y ae}{ay:Value->Prop}(au:j=jZ Z U K W)(h:gq j ag Y ae O=true)(ap:∃aw,Y=0::aw)
  (ar:∀Ω,C Ω->k8 Ω E Z) (av:∀Ω,C Ω->∀I:aV Ω,bh I K J) (ao:∀Ω (I:aV Ω) j,bq I ae j->ay j) (am:∀Ω,C Ω->R (Ω.cR ag)):
  D E U (.pointer (some ⟨s,0,none⟩)::J).toArray [la C W s] λv Q=>ay v/\Q=[la R O s]:=
 D.b3 (R:=bX) (K:=C) (I:=λΩ=>[gU Ω W s]) (λh ⟨Ω,G,q⟩=>⟨Ω,G,q⟩) λΩ G=>
  (vS (n:=100) (Z:=K) (Y:=J) (ay:=ay) j (ar Ω G) au h ap (av Ω G) (λI=>ao _ I)).mono λv Q ⟨ak,al⟩=>⟨ak,λh q=>⟨_,am Ω G,by subst al;exact q⟩⟩
@[reducible] def i6 (q:bl):List Int:=[q.kind,q.cz.cB,q.cz.cI,q.cz.cC,q.cz.cx,q.wn.cB,q.wn.cI,q.wn.y,q.x,q.hi]
@[reducible] def A0 (q:bl):List Int:=2::(gP 7 0++i6 q)
def nO(q:bl):Value:=.agg ((A0 q).map (Value.int .i64)).toArray
theorem Od(q:bl):q.v=.agg ((i6 q).map (Value.int .i64)).toArray:=rfl
def fK(q:bl):bl:=if q.kind<=2 then⟨q.kind,q.cz,⟨0,0,0⟩,0,0⟩else if q.kind<=4 then⟨q.kind,⟨0,0,0,0⟩,q.wn,0,0⟩else if q.kind=5 then⟨q.kind,⟨0,0,0,0⟩,⟨0,0,0⟩,q.x,0⟩else⟨q.kind,⟨0,0,0,0⟩,⟨0,0,0⟩,q.x,q.hi⟩
section
variable{Ω:bX}
def qb(C:aV Ω):∀n j,bh C (jB j n) (((mc j n).map Ω.int).map (Value.int .i64))
 |0,_=> .nil
 |n+1,j=> .cons .bb (qb C n (j+1))
def iM(j:aV Ω):∀n,bh j (fB [cf] n) ((gP n (0:Int)).map (Value.int .i64))
 |0=> .nil
 |n+1=> .cons .i (iM j n)
def AZ{q j}(h:(mc j 10).map Ω.int=i6 q)(C:aV Ω):bq C (.bm (xD j)) (nO q):=by
 refine .bm ?_;rw[List.map_cons,List.map_append,<- h];exact .cons .i ((iM C 7).append (qb C 10 j))
def xu(Ω:bX){C:FuncId}{R:List al}{Q:cs}{O:al}{ay:Value->Prop}(h:gq (ka E 162 (λ_=>none) 100 (λ_ _ _=>none) C R (fa [])) (λI=> .bb I) [] O []=true)(Y:bh (Ω:=Ω) (λ_=>none) R Q)(W:∀(ag:aV (Ω.cR λI=> .bb I)) v,bq ag O v->ay v)(j:aG):
  D E C Q.toArray j λv J=>ay v/\J=j:=by
 refine D.dR (D.frame j (xG t9 sx (λC F K=>by grind) h (λ_ _=>rfl) Y) λh s=> ?_) λv J am ⟨ak,⟨ao,_,_,Z,_⟩,K⟩ s=>⟨j,⟨W _ _ Z,rfl⟩,?_⟩
 ·show G (j++[]) h;rwa[dA]
 ·subst K;obtain⟨_,_,_,ae,_,U,_⟩:=G.split s;exact U.up ae
def V1{D:aV Ω}{j n:Nat}(h:Ω.int j=n){v C}(E:bq D v C):bq D (Ev j n v) C:=by
 unfold Ev;cases I:j9 v with
 |none=>omega
 |some J=>
  have:=oa I;subst this;show bq D (Z _ _ _) C;cases G:aA J j with
  |false=>exact E
  |true=>
   have:=bV G;subst this;cases E;rw[h];exact .i
def Mf{D:aV Ω}{j n:Nat}(h:Ω.int j=n):∀{l}{C},bh D l C->bh D (Me j n l) C
 | _,_,.nil=> .nil
 | _,_,.cons E b=> .cons (V1 h E) (Mf h b)
theorem Md(j n):∀W,fW j n W=W.map (Ak j n)
 | []=>rfl
 |o::W=>congrArg (Ak j n o:: ·) (Md j n W)
def IN{W}{s E n:Nat}(h:Ω.int E=n):∀C,gU Ω W s C->gU Ω (fW E n W) s C:=λC ⟨I,aH,aP,Q⟩=>by
 rw[Md];refine⟨I,λD ak=>aH D (by simp_all),aP,?_⟩;have J:(fa (W.map (Ak E n))).n=(fa W).n:=by simp_all[qW]
 show G ((hZ _).map _) C;rw[J];refine vb _ (λD _ ag j=> ?_) C Q;unfold c9 at j ⊢;rw[pQ]at j ⊢;rw[HI];cases K:W[D]? with
 |none=>simp
 |some o=>
  rw[K]at j;cases O:I D with
  |none=>simp_all
  |some al=>
   rw[O]at j;cases o with
   |ce Z ae=>obtain⟨R,U,Y⟩:=j;exact⟨R,Mf h U,Y⟩
   | _=>exact j
theorem ZU{C}(E){j}(h:(C.all λD=>!aA j D.1)=true):jA C E j=.bb j:=by
 cases E with
 |none=>rfl
 |some q=>
  show @ch _ _ _ _ _= _
  induction C with
  |nil=>rfl
  |cons D l G=>
   simp only[ti,bL]at h;simp_all[Z]
def MK{D}(C){j}(h:(D.all λE=>!aA j E.1)=true):(Ω.cR (jA D C)).int j=Ω.int j:=by
 show(jA _ C j).num Ω= _;rw[ZU C h];rfl
end
@[reducible] def dS:I:=⟨2147483647,-3,3⟩
structure mf (C S:List I) (j:Nat) (q:bl) (Ω:bX):Prop where
 g0:Ω.b6 0=hW C S
 g1:Ω.b6 1=mE C j
 g2:Ω.b6 2=mH C j
 g3:Ω.b6 3=mN C j
 g4:Ω.b6 4=lk S j
 g5:Ω.b6 5=lq S j
 g6:Ω.b6 6=lS
 Lg:Ω.b6 10=hW C (ds S dS)
 DN:Ω.b6 14=lk (ds S dS) (j+1)
 DO:Ω.b6 15=lq (ds S dS) (j+1)
 a:(List.range' 51 10).map Ω.int=i6 q
 o:(List.range' 61 10).map Ω.int=i6 (fK q)
section
variable{Ω:bX}{P S:List I}{m n s:Nat}{q:bl}{one:Bool}
theorem mf.cR(h:mf P S m q Ω){E}(J:((mc 51 20).all λj=>E.all λK=>!aA j K.1)=true)(G):mf P S m q (Ω.cR (jA E G)):=by
 have D:∀j∈mc 51 20,(Ω.cR _).int j=Ω.int j:=λj C=>MK G (lz.1 J j C);exact⟨h.g0,h.g1,h.g2,h.g3,h.g4,h.g5,h.g6,h.Lg,h.DN,h.DO,(rz λj C=>D j (by grind)).trans h.a,(rz λj C=>D j (by grind)).trans h.o⟩
def D1(Ω:bX)(q:bl)(j:Nat):Int:=if j=0\/(20<=j/\j<=34)then Ω.int j else if j<61 then(i6 q).getD (j-51) 0 else(i6 (fK q)).getD (j-61) 0
def DK(Ω:bX)(P S:List I)(m:Nat)(j:Nat):Nat->Nat->aO:=if j<=6 then Ω.b6 j else if j=10 then hW P (ds S dS)else if j=14 then lk (ds S dS) (m+1)else lq (ds S dS) (m+1)
def UF(h):ji P S m (n:Int) one s h->la (mf P S m q) (Ly n one) s h:=λ⟨Ω,j,E⟩=>
 ⟨⟨D1 Ω q,DK Ω P S m⟩,⟨j.g0,j.g1,j.g2,j.g3,j.g4,j.g5,j.g6,rfl,rfl,rfl,rfl,rfl⟩,fg (IN (Ω:=⟨D1 Ω q,DK Ω P S m⟩) ((if_pos (.inl p)).trans j.b)) (ys.Oq (J:=⟨D1 Ω q,DK Ω P S m⟩) (λJ D=>if_pos D) (λG C=>if_pos C) E)⟩
structure gw (P S:List I) (m:Nat) (q:bl):Prop where
 inv:Inv P S
 may:cA P S 30 ⟨3,ci,dS⟩=0
 m:m<=250
 dn:q.dn=0
theorem gw.kind(h:gw P S m q):1<=q.kind/\q.kind<=7:=by
 have:=h.dn;unfold bl.dn at this;omega
theorem gw.Nr(h:gw P S m q):(fK q).dn=0:=by
 have D:=h.dn;obtain⟨E,G⟩:=h.kind;have j:q.kind=1\/q.kind=2\/q.kind=3\/q.kind=4\/q.kind=5\/q.kind=6\/q.kind=7:=C;rcases j with j|j|j|j|j|j|j<;>(simp[fK,bl.dn,j]at D ⊢;assumption)
end
def FH(j:Nat):List al:=.i .i64 2::(fB [cf] 7++(.i .i64 j::jB 52 9))
def AH(j:Nat):List al:=.i .i64 2::(fB [cf] 7++(.i .i64 j::Z (cN j 2) (jB 52 4++fB [cf] 5) (Z (cN j 4) (fB [cf] 4++(jB 56 3++fB [cf] 2)) (fB [cf] 7++(.bb 59::Z (cN j 5) [cf] [.bb 60])))))
def rc(j:Nat)(G:List al)(D:al):Bool:=gq (ka E 162 (λ_=>none) 100 (λ_ _ _=>none) j G (fa [])) (λC=> .bb C) [] D []
def JU(j:Nat):Bool:=Z (rc 45 [.bm (FH j)] (.bm (AH j))) (rc 116 [.bm (FH j)] (.b true)) false
def Dd:Bool:=ch (Z (rc 45 [.bm nN] (.bm nN)) (rc 116 [.bm nN] (.b true)) false) (λj _ C=>Z (JU j) C false) [1,2,3,4,5,6,7]
def JX:Dd=true:=by decide+kernel
theorem fz{j y}(h:Z j y false=true):j=true/\y=true:=by
 cases j with
 |false=>cases h
 |true=>trivial
def ra{j:Nat->Bool}{C:Bool}:∀{l:List Nat},@ch _ (λ_=>Bool) C (λn _ D=>Z (j n) D false) l=true->C=true/\∀n∈l,j n=true
 | [],h=>⟨h,λ_ h=>by grind⟩
 |x::l,h=>by
  obtain⟨E,b⟩:=fz (show Z _ _ _=true from h);obtain⟨G,I⟩:=ra b;simp_all
def JW{j}(h:j∈ [1,2,3,4,5,6,7]):JU j=true:=(ra (l:=[1,2,3,4,5,6,7]) (by have:=JX;unfold Dd at this;omega)).2 j h
section
variable{P S:List I}{m:Nat}{q:bl}
def NT(q:bl):bX:=⟨λj=>(i6 q).getD (j-51) 0,λ_ _ _ _=>False⟩
def Or{C}(D:q.kind=(C:Nat))(j:aV (NT q)):bq j (.bm (FH C)) (nO q):=by
 refine .bm (.cons .i ((iM j 7).append ?_));rw[D];exact .cons .i (qb j 9 52)
def Xq{C}(D:C∈ [1,2,3,4,5,6,7])(E:q.kind=(C:Nat))(j:aV (NT q)):bq j (.bm (AH C)) (nO (fK q)):=by
 obtain⟨K,G,O,Q,J⟩:=q;cases E;simp[cQ,rB,or_false]at D;rcases D with rfl|rfl|rfl|rfl|rfl|rfl|rfl
 ·exact .bm (.cons .i ((iM j 7).append (.cons .i ((qb j 4 52).append (iM j 5)))))
 ·exact .bm (.cons .i ((iM j 7).append (.cons .i ((qb j 4 52).append (iM j 5)))))
 ·exact .bm (.cons .i ((iM j 7).append (.cons .i ((iM j 4).append ((qb j 3 56).append (iM j 2))))))
 ·exact .bm (.cons .i ((iM j 7).append (.cons .i ((iM j 4).append ((qb j 3 56).append (iM j 2))))))
 ·exact .bm (.cons .i ((iM j 7).append (.cons .i ((iM j 7).append (.cons .bb (.cons .i .nil))))))
 ·exact .bm (.cons .i ((iM j 7).append (.cons .i ((iM j 7).append (.cons .bb (.cons .bb .nil))))))
 ·exact .bm (.cons .i ((iM j 7).append (.cons .i ((iM j 7).append (.cons .bb (.cons .bb .nil))))))
theorem gw.mem(h:gw P S m q):∃j∈ [1,2,3,4,5,6,7],q.kind=(j:Nat):=by
 obtain⟨C,D⟩:=h.kind;grind
def Xp{j}(C:j∈ [1,2,3,4,5,6,7]):gF 9 (.bm (AH j)) (.bm (AH j))=true:=by
 simp[cQ,rB,or_false]at C;rcases C with rfl|rfl|rfl|rfl|rfl|rfl|rfl<;>decide+kernel
def QY(h:gw P S m q)(j):D E 45 #[nO q] j λv J=>v=nO (fK q)/\J=j:=by
 obtain⟨Q,C,G⟩:=h.mem;exact xu _ (fz (JW C)).1 (.cons (Or G _) .nil) (λO v K=>lf 9 (Xp C) K (Xq C G O)) j
def Qr(h:gw P S m q)(j):D E 116 #[nO q] j λv C=>v=.bool true/\C=j:=by
 obtain⟨O,J,G⟩:=h.mem;exact xu _ (fz (JW J)).2 (.cons (Or G _) .nil) (λQ v K=>by cases K;rfl) j
end
end aX
namespace aX
section
variable{Ω:bX}
def cm.val{G:Nat}[O:b4 E G]{args K us}(Z:∀j:aV Ω,bh j args us){v0}(Y:∀j:aV Ω,bq j K v0)
  (h:∀I,D E G us.toArray I λv J=>v=v0/\J=I):cm Ω (G,pW args K):=λap al v ak C=>by
 obtain⟨U,W⟩:=cu.1 (show bK _ _=some _ from C);cases W;refine⟨O,λar j ag ao ae R=> ?_⟩;have:=nd (λC Q b=>lf 9 C Q b) U ae (Z j);subst this;exact(h _).mono λam J ⟨aH,aP⟩=>⟨j,aV.le.refl _,aH▸Y j,R,aP⟩
def cm.or{D C b}(K:cm Ω (D,C))(O:cm Ω (D,b)):cm Ω (D,E4 C b):=λG h v I J=>by
 have j:bF _ _ _=some _:=J;cases E:C G h with
 |none=>rw[E]at j;exact O G h v I j
 |some q=>rw[E]at j;cases j;exact K G h v I E
def sT(j:aV Ω):bq j (.bm nN) (jx ⟨3,ci,dS⟩):=.bm (.cons .i (.cons .i (.cons .i (.cons .i (.cons .i (.cons .i (.cons .i (.cons .i (iM j 10)))))))))
def JV:rc 45 [.bm nN] (.bm nN)=true/\rc 116 [.bm nN] (.b true)=true:=
 fz (ra (l:=[1,2,3,4,5,6,7]) (by have:=JX;unfold Dd at this;omega)).1
def QX(j):D E 45 #[jx ⟨3,ci,dS⟩] j λv C=>v=jx ⟨3,ci,dS⟩/\C=j:=
 xu ⟨λ_=>0,λ_ _ _ _=>False⟩ (Q:=[jx ⟨3,ci,dS⟩]) (ay:=λv=>v=jx ⟨3,ci,dS⟩) JV.1 (.cons (sT _) .nil) (λI v G=>lf 9 aZ G (sT I)) j
def Qq(j):D E 116 #[jx ⟨3,ci,dS⟩] j λv C=>v=.bool true/\C=j:=
 xu ⟨λ_=>0,λ_ _ _ _=>False⟩ (Q:=[jx ⟨3,ci,dS⟩]) (ay:=λv=>v=.bool true) JV.2 (.cons (sT _) .nil) (λI v G=>by cases G;rfl) j
variable{P S:List I}{m n s:Nat}{q:bl}{one:Bool}
def ZY(h:(mc 61 10).map Ω.int=i6 (fK q))(j:aV Ω):bq j (.bm (jB 61 10)) (fK q).v:=by
 rw[Od,<- h];exact .bm (qb j 10 61)
def cm.check(C:gw P S m q)(h:mf P S m q Ω):cm Ω (144,pW [.bm (jB 61 10)] cf):=
 cm.val (us:=[(fK q).v]) (v0:=.int .i64 0) (λj=> .cons (ZY h.o j) .nil) (λj=> .i) λD=>(ND (fK q) D).mono λv J ⟨E,G⟩=>⟨by rw[E,C.Nr],G⟩
def E5(G:gw P S m q)(h:mf P S m q Ω):k8 Ω E q2:=by
 obtain⟨K,Q,O,ag⟩:=ER G.may;have ak:=G.m;have J:∀j:aV Ω,bh j tN _:=λj=> .cons .i (.cons .i (.cons .i .nil));have R:∀j:aV Ω,bh j _ [(be.mk 3 ci dS).v]:=λj=> .cons (.bm (.cons .i (.cons .i (.cons .i (.cons .i (J j)))))) .nil;refine mK (hb ?_ ?_ (hb ?_ (cm.check G h) (hb ?_ ?_ (hb ?_ ?_ mm))))
 ·exact Fh λD ae=>by rw[h.g6]
 ·exact cm.or (cm.val (λj=> .cons (sT j) .nil) sT QX) (cm.val (λj=> .cons (AZ h.a j) .nil) (λj=>AZ h.o j) (QY G))
 ·exact cm.or (cm.val (λj=> .cons (sT j) .nil) (λj=> .b) Qq) (cm.val (λj=> .cons (AZ h.a j) .nil) (λj=> .b) (Qr G))
 ·exact cm.fC h.g0 h.g0 R (gp) λD Y=>(Pn C D Y).mono λv Z ⟨U,W⟩=>⟨by rw[U,G.may];rfl,W⟩
 ·exact cm.fC h.g0 h.Lg R xx λD q=>Pm G.may C D q p
 ·exact cm.fC h.g4 h.DN (λj=> .cons (.bm (J j)) .nil) (gp) λD q=>LP K Q (sA O) C D q
 ·exact cm.fC h.g5 h.DO (λj=> .cons (.bm (J j)) .nil) (gp) λD q=>OV K Q (sA O) C C D q
def zb(C:n<=5)(one):za n one=true:=by
 have j:n∈xz 6:=by
  rw[show xz 6=[0,1,2,3,4,5]from rfl];simp[cQ,or_false];omega
 cases one
 ·exact(ra (j:=λn=>za n false) (C:=true) (l:=xz 6) SE).2 n j
 ·exact(ra (j:=λn=>za n true) (C:=true) (l:=xz 6) SF).2 n j
def NG:((mc 51 20).all λj=>q6.all λC=>!aA j C.1)=true:=by rfl
theorem XO:((mc 51 20).all λj=>sM.all λC=>!aA j C.1)=true:=by rfl
def AR(U:gw P S m q){W j}{J:FuncId}{R O K Q}(ae:j=jZ q2 J R W)(h:lj j K=true)(ag:∀Ω,mf P S m q Ω->∀G:aV Ω,bh G R O)(Z:∀Ω (G:aV Ω) j,bq G K j->j=Q):
  D E J (.pointer (some ⟨s,0,none⟩)::O).toArray [la (mf P S m q) W s] λv Y=>v=Q/\Y=[la (mf P S m q) (bY j) s]:=
 vf j ae h ⟨_,rfl⟩ (λΩ C=>E5 U C) ag Z λΩ C=>C.cR NG j
def oE:Value:=.tuple #[.agg #[.int .i64 0,.bool false,.bool false,.int .i64 0,.slice none 0 0],.bool false,.int .i64 0]
theorem w5:∀Ω (C:aV Ω) j,bq C jV j->j=oE:=λΩ C j h=>lf 9 (show gF 9 jV jV=true by rfl) h (.b1 (.cons (.bm (.cons .i (.cons .b (.cons .b (.cons .i (.cons .eA .nil)))))) (.cons .b (.cons .i .nil))))
def D3{C}:∀Ω (D:aV Ω) j,bq D (.i .i64 (C:Nat)) j->j=.int .i64 (C:Nat):=λΩ D j h=>by cases h;rfl
@[reducible] def k9 (P S:List I) (m:Nat) (q:bl) (s:Nat) (j:ay):aO:=la (mf P S m q) (bY j) s
def aai(j:gw P S m q)(G:n<=5):D E 8 #[.pointer (some ⟨s,0,none⟩),.int .i64 0,jx ⟨3,ci,dS⟩] [ji P S m (n:Int) one s] λv C=>v=.int .i64 0/\C=[k9 P S m q s (xT n one)]:=
 (AR (O:=[.int .i64 0,jx ⟨3,ci,dS⟩]) (Q:=.int .i64 0) j (j:=xT n one) p (fz (zb G one)).1 (λΩ K J=> .cons .i (.cons (sT J) .nil)) D3).pre λh s=>fg UF s
def aaj(j:gw P S m q)(J:n<=5):D E 8 #[.pointer (some ⟨s,0,none⟩),.int .i64 1,nO q] [k9 P S m q s (xT n one)] λv C=>v=.int .i64 0/\C=[k9 P S m q s (vj n one)]:=
 AR (O:=[.int .i64 1,nO q]) (Q:=.int .i64 0) j (j:=vj n one) p (fz (fz (zb J one)).2).1 (λΩ G K=> .cons .i (.cons (AZ G.a K) .nil)) D3
def Ze(C:gw P S m q){j}(h:lj (oM j) jV=true):D E 13 #[.pointer (some ⟨s,0,none⟩),.int .i64 0] [k9 P S m q s j] λv G=>v=oE/\G=[k9 P S m q s (oM j)]:=
 AR (O:=[.int .i64 0]) (Q:=oE) C (j:=oM j) p h (λΩ J K=> .cons .i .nil) w5
def Zf(C:gw P S m q){j}(h:lj (ve j) jV=true):D E 13 #[.pointer (some ⟨s,0,none⟩),.int .i64 1] [k9 P S m q s j] λv G=>v=oE/\G=[k9 P S m q s (ve j)]:=
 AR (O:=[.int .i64 1]) (Q:=oE) C (j:=ve j) p h (λΩ J K=> .cons .i .nil) w5
def YL(j:n<=5):lj (oM (vj n one)) jV=true/\lj (oM (FV n one)) jV=true/\lj (oM (FW n one)) jV=true:=by
 have h:=(fz (fz (zb j one)).2).2;exact⟨(fz h).1,(fz (fz h).2).1,(fz (fz (fz h).2).2).1⟩
def Oo:∀{k},AV n one k=true->∀j<k,gq (kn n one j) (jA q6 (kn n one j)) (ov (kn n one j)) (.i .i64 1) (bY (kP n one j))=true/\lj (ve (kP n one j)) jV=true
 |k+1,h,j,C=>by
  obtain⟨E,b⟩:=fz (show Z _ (Z (lj (ve (kP n one k)) jV) (AV n one k) false) false=true from h);obtain⟨b,D⟩:=fz b;rcases Nat.lt_or_eq_of_le (Nat.le_of_lt_succ C)with C|rfl
  ·exact Oo D j C
  simp_all
def Du(j:n<=5):AV n one n=true/\gq (kn n one n) (jA q6 (kn n one n)) (ov (kn n one n)) (.i .i64 2) (bY (kP n one n))=true/\Ki n one=true:=by
 have h:=(fz (fz (fz (fz (fz (zb j one)).2).2).2).2).2;grind[fz]
def NF(J:gw P S m q){j G}(h:gq (kn n one j) (jA q6 (kn n one j)) (ov (kn n one j)) (.i .i64 (G:Nat)) (bY (kP n one j))=true):
  D E 14 #[.pointer (some ⟨s,0,none⟩),.int .i64 1] [k9 P S m q s (kP n one j)] λv K=>v=.int .i64 (G:Nat)/\K=[k9 P S m q s (kP n one j)]:=
 vf (J:=[.int .i64 1]) (kn n one j) p h ⟨_,rfl⟩ (λΩ C=>E5 J C) (λΩ C O=> .cons .i .nil) D3 λΩ C=>C.cR NG _
@[reducible] def pe (P S:List I) (m:Nat) (q:bl) (j:Bool) (s:Nat):aO:=la (mf P S m q) (f6 j) s
def Tp(C:gw P S m q)(O:n<=5):D E 9 #[.pointer (some ⟨s,0,none⟩),.int .i64 0,.int .i64 50] [k9 P S m q s (kP n one n)] λv G=>(∃Q:Int,v=.tuple #[.int .i64 Q,.bool true])/\G=[pe P S m q (aA n 0) s]:=
 vf (J:=[.int .i64 0,.int .i64 50]) (wv n one) p (Du O).2.2 ⟨_,rfl⟩ (λΩ j=>E5 C j) (λΩ j R=> .cons .i (.cons .i .nil)) (λΩ R U q=>by cases q with|b1 q=>cases q with|cons J q=>cases q with|cons K q=>cases q;cases J;cases K;simp) λΩ j=>j.cR XO (wv n one)
end
end aX
namespace aX
def AD(I:List al->Option Nat)(C D E:Nat)(args:Nat->List al)(G:Nat->al):List al->bQ->ay:=λj h=>U (I j) λb=>bK (gA (gF (nat_lit 9)) j (args b)) (bK (dT b h.n) (U (h.get b) λo=>U (v1 o) λg=>bK (aA g C) (some (G h.n,(h.put b (.b3 D)).new (.b3 E)))))
def lm(b j C D:Nat)(args:List al)(E:Nat->al):List al->bQ->ay:=AD (λ_=>some b) j C D (λb=> .ag b 0::args) E
def YP(j:List al):Option Nat:=U (pA j 0) λv=>U (lc v) λq=>some q.1
def YQ(j:List al):Option Nat:=U (pA j 1) pn
def mO(n:Nat):al:=.ag n 0
def y2:List al:=[.bm (jB 62 4)]
def sy(j:Nat):List (Nat×(List al->bQ->ay)):=
 Z (aA j 1) [(354,lm 13 1 30 31 y2 mO)]
 (Z (aA j 2) [(349,lm 14 2 37 36 [] .dK),(348,AD YQ 36 30 31 (λb=>[.bm (jB 62 4),.dK b]) mO),(350,lm 14 37 37 33 y2 (λn=> .fq n 73))]
 (Z (aA j 3) [(353,lm 15 3 30 31 [.bm (jB 66 3)] mO)]
 (Z (aA j 4) [(352,lm 15 3 30 31 [.bm (jB 66 3)] mO)]
 (Z (aA j 5) [(359,lm 17 15 30 31 [.bb 69] mO)]
 [(358,lm 16 14 30 31 [.bb 69,.bb 70] mO)]))))
def E6(j:Nat):kz:=q4 ((144,pW [.bm (.i .i64 j::jB 62 9)] cf)::sy j)
def oI:List (Nat×Nat×Nat):=[(22,0,6),(33,8,3)]
def AC(j:ay):List cl:=ML oI (L4 j) 0
def ue(j:Nat)(C:Bool):ay:=jZ (λ_=>none) 13 [.i .i64 1] (fW 61 j (f6 C))
def zj(j:Nat)(C:Bool):ay:=jZ (E6 j) 13 [.i .i64 1] (AC (ue j C))
def Bh(C b:Nat)(o:cl):cl:=bF o (λj=> .b3 (Z (aA j C) b j)) (v1 o)
def Gx(j b:Nat)(W:List cl):List cl:=ch [] (λo _ l=>Bh j b o::l) W
def Gu(j:Nat):Nat:=Z (aA j 1) 701 (Z (aA j 2) 656 (Z (cN j 4) 678 (Z (aA j 5) 747 726)))
def Dk(j:Nat):Nat:=Z (aA j 1) 698 (Z (aA j 2) 653 (Z (cN j 4) 675 (Z (aA j 5) 744 723)))
def AA(j:Nat):Nat:=Z (aA j 2) 655 (Z (cN j 4) 677 725)
def z1(j:Nat):Nat:=Z (aA j 1) 699 (Z (cN j 4) 676 (Z (aA j 5) 745 724))
def jl(j:Nat):Bool:=Z (aA j 2) true (Z (aA j 4) true (aA j 7))
def Gv(C:Nat)(j:Bool):Nat×(List al->bQ->ay):=(Gu C,gI 21 31 32 [.i .i64 1] (.b1 [.fL,.b j]))
def Xj(j:Nat):kz:=q4 [Gv j false]
def Nj(j:Nat):kz:=q4 [Gv j true,(44,sC),(Dk j,gI 21 32 32 [] (.b true)),(104,AD YP 34 34 34 (λb=>[.dK b]) (λn=> .fq n 72)),Z (jl j) (AA j,gI 21 32 32 [] (.bb 71)) (z1 j,lm 21 32 32 34 [] (λn=> .fq n 72))]
def t4(j:Nat)(C:Bool):List cl:=AC (zj j C)
def Dg(j:Nat)(C:Bool):ay:=jZ (Xj j) 13 [.i .i64 1] (t4 j C)
def Dh(j:Nat)(C:Bool):ay:=jZ (Nj j) 13 [.i .i64 1] (t4 j C)
def Z3(j:ay):List al:=bF [] (λq=>bF [] (λl=>bF [] (λv=>IX v) (pA l 0)) (tZ q.1)) j
def W3(j:Nat):al:=Z (jl j) (Z (aA j 2) (.xs 71 73) (.gj 71 0)) (.bb 72)
def Pp(C j:Nat):al:=Z (aA j 80) (W3 C) (.bb j)
def U4(j:ay):List Nat:=mJ (λv=>mJ (λq=>[q.1]) (lc v)) (pA (Z3 j) 4)
def Ow(j:Nat):al:=.b1 [.bm [cf,.b true,.b (gg (jl j)),.bb 80,Z (jl j) .eA (.dK 0)],.b true,cf]
def Ek(j:Nat):List cl:=Z (jl j) [] [.b3 34]
def EX(b:Nat)(W:List cl):Bool:=ch true (λo _ C=>Z (bF true (λj=>gg (aA j b)) (v1 o)) C false) W
def il(j:Nat)(C:Bool):Bool:=Z (gq (ue j C) (jA oI (ue j C)) (ov (ue j C)) jV (AC (ue j C))) (Z (gq (zj j C) (jA oI (zj j C)) (ov (zj j C)) jV (t4 j C)) (Z (gq (Dg j C) (jA oI (Dg j C)) (ov (Dg j C)) jV (Gx 31 32 (t4 j C))) (Z (gq (Dh j C) (Pp j) (U4 (Dh j C)) (Ow j) (Ek j)) (EX 32 (t4 j C)) false) false) false) false
def Jf(D:Bool):Bool:=ch true (λj _ C=>Z (il j D) C false) [1,2,3,4,5,6,7]
def RY:Jf true=true:=by decide+kernel
def RX:Jf false=true:=by decide+kernel
end aX
namespace aX
section
variable{Ω:bX}
theorem cm.mk{am:Nat}[aK:b4 E am]{bi aC K W args aI}{us:Nat->Nat->List Value}{ay:Value->Nat->Nat->Prop}(a5:∀(j:aV Ω) b C I,j b=some (C,I)->bh j (args b) (us C I))(a3:∀(j:aV Ω) n C I Y,j n=some (C,I)->ay Y C I->bq j (aI n) Y)
  (h:∀C I,D E am (us C I).toArray [Ω.b6 aC C I] λY au=>∃Q R,ay Y Q R/\au=[Ω.b6 K C I,Ω.b6 W Q R]):cm Ω (am,AD bi aC K W args aI):=λbt J v bn Z=>by
 obtain⟨b,bl,Z⟩:=ao.1 (show U _ _=some _ from Z);obtain⟨aL,aO⟩:=cu.1 Z;obtain⟨a2,aP⟩:=cu.1 aO;obtain⟨o,aQ,aS⟩:=ao.1 aP;obtain⟨g,aW,aX⟩:=ao.1 aS;obtain⟨aY,aZ⟩:=cu.1 aX;have:=bV aY;subst this;have a7:o=.b3 g:=by cases o<;>cases aW;rfl
 subst a7;cases aZ;have a6:b<J.n:=Nat.le_of_ble_eq_true a2;refine⟨aK,λbz j O bs a9 av=>λaw F bj ax=> ?_⟩;have ap:∀ae:bQ,ae.n=J.n->(bJ j ae).Perm (c9 j ae b::eB j ae b):=λae a1=>(lF (lD.2 (a1▸a6))).map _;obtain⟨C,I,ar⟩:∃C I,j b=some (C,I):=by
  cases bp:j b with
  |some bx=>grind
  |none=>
   have s:=G.perm ((kX _ (ap J p)).trans e4) (show G ((F::O)++bJ j J) _ from ax.s);obtain⟨_,_,_,_,_,al,_⟩:=s;unfold c9 at al;simp_all
 have:=nd (λZ al b=>lf 9 Z al b) aL a9 (a5 j b C I ar);subst this;have a0:c9 j J b=Ω.b6 g C I:=by simp[c9,aQ,ar,ea]
 have aH:=ax.mono λak s=>G.join (N:=F::(O++eB j J b)) (by
  have ag:=ap J p;rw[a0]at ag;refine G.perm ?_ s;exact((ag.append_left O).trans (e4.trans (fZ (l₁:=[_])))).cons F)
 refine(h C I aw _ bj aH).mono λbm bk ⟨Y,au,ba,⟨Q,R,be,bf⟩,a8⟩=> ?_;subst bf;have bd:a4 aw (ea (ext j J.n (Q,R)) (.b3 W) Q R::(λak=>G _ ak)::bJ j _) bk:=a8.mono λak s=>by
  have bg:=G.part s;have ag:=ap (J.put b (.b3 K)) p;rw[A4,show c9 j (J.put b (.b3 K)) b=Ω.b6 K C I by simp[c9,zU,ar,ea]]at ag;refine G.ep (C:=(F::O)++bJ j (J.put b (.b3 K))) (λak s=>G.join s) (G.perm ?_ bg);show((F::(O++eB j J b))++[Ω.b6 K C I,Ω.b6 W Q R]).Perm (Ω.b6 W Q R::(F::O++bJ j (J.put b (.b3 K))));have bc:(F::O++bJ j (J.put b (.b3 K))).Perm ((F::(O++eB j J b))++[Ω.b6 K C I]):=((ag.append_left O).trans (e4.trans (fZ (l₁:=[_])))).cons F;refine List.Perm.trans ?_ (bc.symm.cons _);rw[show[Ω.b6 K C I,Ω.b6 W Q R]=[Ω.b6 K C I]++[Ω.b6 W Q R]from rfl,<- ho];grind[fZ]
 obtain⟨aE,bb,aG⟩:=ST.new (h:=J.put b (.b3 K)) (o:=.b3 W) (B:=Q) (c:=R) av.dp bd;exact⟨Y,O++bJ _ _,ba,⟨_,aE,a3 _ _ _ _ _ bb be,⟨aG.dp,av.kK.trans aE⟩,rfl⟩,aG.dC.mono λ_ s=>G.part (N:=F::O) s⟩
theorem Pi(j b):∀W,Gx j b W=W.map (Bh j b)
 | []=>rfl
 |o::W=>congrArg (Bh j b o:: ·) (Pi j b W)
theorem MM{b}:∀{W},EX b W=true->∀{j C:Nat},W[j]?=some (.b3 C)->C≠b
 | [],_,_,_,D=>by trivial
 |o::W,h,j,C,D=>by
  obtain⟨aa,ab⟩:=fz (show Z _ _ _=true from h);cases j with
  |zero=>
   cases D;have E:gg _=true:=aa;intro G;rw[G,Nat.beq_refl]at E;trivial
  |succ j=>exact MM ab (by assumption)
def Rt{O I b s W}(ag:∀ak,O.int ak=Ω.int ak)(au:O.b6 I=Ω.b6 b)(aw:∀j,j≠I->j≠b->O.b6 j=Ω.b6 j)(av:EX b W=true):∀J,gU Ω (Gx I b W) s J->gU O W s J:=λJ ⟨Z,aH,aP,al⟩=>by
 rw[Pi]at aH al;refine⟨λC=>Z C,λC aE=>aH C (by simp_all),aP,?_⟩;have ar:(fa (W.map (Bh I b))).n=(fa W).n:=by simp_all[qW]
 have am:G ((hZ _).map _) J:=al;rw[ar]at am;refine vb _ (λC _ U K=> ?_) J am;unfold c9 at K ⊢;rw[pQ]at K ⊢;rw[HI]at K;cases ae:W[C]? with
 |none=>simp
 |some o=>
  rw[ae]at K;have D:=K;show(match Z C with|none=>(λ_=>False:aO)|some ay=>ea _ o _ _) U;cases ax:Z C with
  |none=>simp_all
  |some ay=>
   rw[ax]at D;have Q:=D;cases o with
   |b3 j=>
    have E:Ω.b6 _ _ _ U:=Q;show O.b6 j _ _ U;cases R:aA j I with
    |true=>
     rw[R]at E;rw[bV R,au];trivial
    |false=>
     rw[R]at E;rw[aw j (λaC=>by simp_all) (MM av ae)];trivial
   |ce ao ap=>obtain⟨Y,D,E⟩:=Q;exact⟨Y,bh.mr ag D,E⟩
   |io ao n aG ap=>obtain⟨Y,D,E⟩:=Q;exact⟨Y,bh.mr ag D,E⟩
   | _=>exact Q
def Za{C W J s U}(Y){Q:FuncId}{ak ae al av Z}(ar:Y=jZ U Q ak W)(h:gq Y al av Z J=true)
  (ap:∀Ω,C Ω->k8 Ω E U) (au:∀Ω,C Ω->∀j:aV Ω,bh j ak ae):
  D E Q (.pointer (some ⟨s,0,none⟩)::ae).toArray [la C W s] λv K=>∃(Ω:bX) (j:aV (Ω.cR al)),C Ω/\bq j Z v/\K=bJ j (fa J):=by
 subst ar;refine D.open (J:=λI:(Ω:bX)×aV Ω=>bJ I.2 (fa W)) (E:=λI=>C I.1/\(∀R,W.length<=R->I.2 R=none)/\∃O,I.2 0=some (s,O)) (λh ⟨Ω,G,q⟩=> ?_) λ⟨Ω,j⟩ ⟨G,ao,O,am⟩=> ?_
 ·obtain⟨aa,ab,aI,aC,aO,⟨j,aH,aP,ay⟩,_⟩:=q;exact⟨⟨Ω,j⟩,⟨G,aH,aP⟩,ay.up aC⟩
 ·rw[dA];exact D.dR (xG t9 sx (ap Ω G) h ao (.cons (.ag am) (au Ω G j))) λv K aK ⟨aG,_,aL,aw,ax⟩ aE=>⟨_,⟨Ω,aG,G,aw,rfl⟩,ax _ aE⟩
end
def nx(l:List Int)(D C:Nat):aO:=λh=>∃j n,h4 D C=.slice j l.length n/\mG C=(l.length:Nat)/\own 3 1 j l.length n (flat l) h
def Dj{E}(D){j}(h:j<=maxLen)(C:E=none/\D=0/\j=0\/∃b,E=some ⟨b,0,none⟩):∃G C,h4 G C=.slice E D j/\mG C=(D:Nat):=by
 unfold h4 mG;have I:j<9223372036854775808:=by unfold maxLen at h;omega
 rcases C with ⟨rfl,rfl,rfl⟩|⟨b,rfl⟩
 ·exact⟨0,1,rfl,rfl⟩
 ·refine⟨b,2*(D*9223372036854775808+j),?_⟩;grind
theorem D.ids{Z ae X Q l}(h:D E Z ae [X] λv J=>∃I K O,v=.slice I l.length K/\J=own 3 1 I l.length K (flat l)::O/\∀R,G O R->Q R):
  D E Z ae [X] λv J=>∃C j,(v=h4 C j/\mG j=(l.length:Nat))/\J=[Q,nx l C j]:=
 h.dR λv J R ⟨I,K,O,ag,ak,al⟩ s=>by
  subst ak;obtain⟨_,_,am,ao⟩:=own.facts s;obtain⟨C,j,W,Y⟩:=Dj _ am ao;refine⟨[Q,nx l C j],⟨C,j,⟨ag.trans W.symm,Y⟩,rfl⟩,?_⟩;exact G.swap (fg (λh U=>⟨I,K,W,Y,U⟩) (s.ep λh U=>G.fold al (by rw[dA];exact U)))
end aX
namespace aX
structure m9 (G:Nat) (I:Nat->Nat->Nat->aO) (K:List Int):Prop where
 eK:b4 E (Gu G)
 Sz:b4 E (Dk G)
 SQ:b4 E (Z (jl G) (AA G) (z1 G))
 fC:∀Q j C,D E (Gu G) #[.pointer (some ⟨j,0,none⟩),.int .i64 1] [I Q j C] λv J=>(∃n:Int,v=.tuple #[.int .i64 n,.bool (decide (Q<=1))])/\J=[I (Q-1) j C]
 mu:∀j C,D E (Dk G) #[.pointer (some ⟨j,0,none⟩)] [I 0 j C] λv J=>v=.bool true/\J=[I 0 j C]
 W1:jl G=true->∀j C,D E (AA G) #[.pointer (some ⟨j,0,none⟩)] [I 0 j C] λv J=>v=.int .i64 (K.length:Nat)/\J=[I 0 j C]
 id:jl G=false->∀j C,D E (z1 G) #[.pointer (some ⟨j,0,none⟩)] [I 0 j C] λv J=>∃R O,(v=h4 R O/\mG O=(K.length:Nat))/\J=[I 0 j C,nx (bj K) R O]
 hz:K.length<=1000
structure qo (C:Nat->Nat->Nat->aO) (j:List Int) (E D:Nat) (Ω:bX):Prop where
 g6:Ω.b6 6=lS
 w:Ω.b6 31=C D
 Bq:Ω.b6 32=C (D-1)
 i:Ω.b6 34=nx (bj j)
 t1:Ω.int 71=(j.length:Nat)
 t2:Ω.int 72=(j.length:Nat)
 t3:Ω.int 73=(E:Nat)
def mj(j:Nat)(C:List Int)(I:Nat)(v:Value)(E:aG):Prop:=∃D n,v=.tuple #[.agg #[.int .i64 0,.bool true,.bool (!jl j),.int .i64 (if j=2 then(C.length:Int)-(I:Nat)else(C.length:Nat)),.slice D (if jl j then[]else bj C).length n],.bool true,.int .i64 0]/\
 (∃G,E=G/\Rd E D (if jl j then[]else bj C).length (if jl j then[]else bj C))
def Told(s:Nat)(G:Value->List aO->Prop):Nat->aO->Prop
 |0,_=>False
 |n+1,j=>D E 13 #[.pointer (some ⟨s,0,none⟩),.int .i64 1] [j] G\/
  ∃C,D E 13 #[.pointer (some ⟨s,0,none⟩),.int .i64 1] [j] (λv I=>v=oE/\I=[C])/\Told s G n C
def Told.mono{s out}:∀{n C}{j},Told s out n j->n<=C->Told s out C j
 |n+1,C+1,j,h,E=>by
  rcases h with h|⟨D,h,G⟩
  ·exact .inl h
  ·exact .inr ⟨D,h,Told.mono G (Nat.le_of_succ_le_succ E)⟩
def sJ{X h}(q:X h):G [X] h:=⟨h,λ_=>none,λ_=> .inr p,d7.refl _,λ_ _ j=>(by grind),q,trivial⟩
section
variable{Ω:bX}{k s d r gp:Nat}{z:Bool}{fh:Nat->Nat->Nat->aO}{c2:List Int}
def CN(j:k∈ [1,2,3,4,5,6,7])(z):il k z=true:=by
 cases z
 ·exact(ra (j:=λk=>il k false) (C:=true) (l:=[1,2,3,4,5,6,7]) RX).2 k j
 ·exact(ra (j:=λk=>il k true) (C:=true) (l:=[1,2,3,4,5,6,7]) RY).2 k j
def Az{j}(aa:j≠22)(ab:j≠33)(r):(Ω.cR (jA oI r)).int j=Ω.int j:=MK r (by
 simp[oI,ti,bL];exact⟨by cases h:aA j 22<;>simp_all,by cases h:aA j 33<;>simp_all⟩)
theorem qo.cR(h:qo fh c2 d r Ω)(q):qo fh c2 d r (Ω.cR (jA oI q)):=
 ⟨h.g6,h.w,h.Bq,h.i,(Az Q Q q).trans h.t1,(Az Q Q q).trans h.t2,(Az Q Q q).trans h.t3⟩
@[reducible] def vG (k:Nat) (z:Bool) (fh:Nat->Nat->Nat->aO) (c2:List Int) (d r s:Nat):aO:=la (qo fh c2 d r) (t4 k z) s
theorem cm.step(j:m9 k fh c2)(h:qo fh c2 d r Ω){b}(G:decide (r<=1)=b):cm Ω (Gv k b):=by
 have:=j.eK;exact cm.fC h.w h.Bq (λI=> .cons .i .nil) (λI v ⟨n,E⟩=>by rw[E,G];exact .b1 (.cons .fL (.cons .b .nil))) λC D=>j.fC r C D
def RW(K:m9 k fh c2)(R:k∈ [1,2,3,4,5,6,7])(Y:2<=r):D E 13 #[.pointer (some ⟨s,0,none⟩),.int .i64 1] [vG k z fh c2 d r s] λv I=>v=oE/\I=[vG k z fh c2 d (r-1) s]:=by
 have J:=fz (fz (fz (CN R z)).2).2;have W:=(fz J.2).2;refine(vf _ rfl J.1 ⟨_,rfl⟩ (λΩ j=>mK (yM (cm.step K j (decide_eq_false C)) mm)) (λΩ j Z=> .cons .i .nil) w5 λΩ j=>j.cR _).dR λv I U ⟨O,Q⟩ q=>⟨_,⟨O,rfl⟩,?_⟩;subst Q;refine fg (λU ⟨Ω,j,q⟩=> ?_) q;refine⟨⟨Ω.int,λG=>if G=31 then fh _ else if G=32 then fh _ else Ω.b6 G⟩,⟨j.g6,rfl,rfl,j.i,j.t1,j.t2,j.t3⟩,fg (Rt (Ω:=Ω) (O:=⟨Ω.int,λG=>if G=31 then fh _ else if G=32 then fh _ else Ω.b6 G⟩) (λ_=>rfl) ?_ (λG aa ab=> ?_) W) q⟩
 ·exact j.Bq.symm
 ·simp_all
theorem W4{k}(j:k∈ [1,2,3,4,5,6,7])(D:Ω.int 71=(c2.length:Nat))(G:Ω.int 72=(c2.length:Nat))(E:Ω.int 73=(d:Nat))(aa:c2.length<=1000)(ab:d<=1000):
  (Ω.cR (Pp k)).int 80=(if k=2 then(c2.length:Int)-(d:Nat)else(c2.length:Nat)):=by
 have I:IntKind.i64.wrap (Ω.int 71+0)=(c2.length:Nat):=by rw[D,Int.add_zero];exact ry _ C
 have J:IntKind.i64.wrap (Ω.int 71-Ω.int 73)=(c2.length:Int)-(d:Nat):=by rw[D,E];exact ry _ C
 simp[cQ,rB,or_false]at j;rcases j with rfl|rfl|rfl|rfl|rfl|rfl|rfl
 ·trivial
 ·trivial
 ·trivial
 ·trivial
 ·trivial
 ·trivial
 assumption
def Yu{k}(G:aV Ω){v}(h:bq G (Ow k) v):∃C n E,v=.tuple #[.agg #[.int .i64 0,.bool true,.bool (!jl k),.int .i64 (Ω.int 80),.slice C E n],.bool true,.int .i64 0]/\bq G (Z (jl k) .eA (.dK 0)) (.slice C E n):=by
 cases h with|b1 h=> ?_
 cases h with|cons I h=> ?_
 cases h with|cons J h=> ?_
 cases h with|cons K h=> ?_
 cases h;cases I with|bm b=> ?_
 cases b with|cons O b=> ?_
 cases b with|cons Q b=> ?_
 cases b with|cons R b=> ?_
 cases b with|cons U b=> ?_
 cases b with|cons j b=> ?_
 cases b;cases J;cases K;cases O;cases Q;cases R;cases U;rw[l0];cases D:jl k with
 |true=>
  rw[D,df]at j;cases j;exact⟨none,0,0,rfl,.eA⟩
 |false=>
  rw[D,cZ]at j;cases j with
  | @dK _ W Y q=>exact⟨_,_,_,rfl,.dK q⟩
def Je(R:m9 k fh c2)(au:k∈ [1,2,3,4,5,6,7])(a1:r<=1)(aW:d<=1000):D E 13 #[.pointer (some ⟨s,0,none⟩),.int .i64 1] [vG k z fh c2 d r s] (mj k c2 d):=by
 have aS:=(fz (fz (fz (fz (CN au z)).2).2).2).1;have a2:r-1=0:=C;have a0:∀Ω,qo fh c2 d r Ω->k8 Ω _ (Nj k):=λΩ J=>by
  have:=R.Sz;have Z:=R.SQ;have W:Ω.b6 32=fh 0:=by rw[J.Bq,a2]
  refine mK (hb (cm.step R J (decide_eq_true a1)) (Fh λI j=>by rw[J.g6]) (hb ?_ ?_ (yM ?_ mm)))
  ·exact cm.fC W W (λK=> .nil) (λK v J=>by rw[J];exact .b) λI j=>R.mu I j
  ·refine cm.mk (ay:=λv I j=>v=h4 I j/\mG j=((bj c2).length:Nat)) (λK b I j h=> .cons (.dK h) .nil) (λK n I j v h ⟨aa,ab⟩=>by
    rw[aa];exact .fq h (J.t2.trans (by rw[ab,bj,ya]))) λI j=> ?_
   rw[J.i];refine D.open (J:=λU:Option Addr×Nat=>[own 3 1 U.1 (bj c2).length U.2 (flat (bj c2))]) (E:=λU=>(h4 I j=.slice U.1 (bj c2).length U.2/\mG j=((bj c2).length:Nat))/\(0< (bj c2).length->∃b,U.1=some ⟨b,0,none⟩)) (λh ⟨Q,n,Y,b,q⟩=>⟨(Q,n),⟨⟨Y,b⟩,λaY=> ?_⟩,sJ q⟩) λ⟨Q,n⟩ ⟨⟨Y,b⟩,aQ⟩=> ?_
   ·rcases q.de with ⟨_,J,_⟩|⟨b,_,J,_⟩
    ·omega
    simp_all
   rw[Y,dA];refine(Il Q (bj c2).length n (bj c2) _ (aM.own (bU _) aQ) (by rw[bj,ya];have:=R.hz;omega)).dR λv aC ak ⟨al,aE,aH,_,ae⟩ q=> ?_;subst ae;obtain⟨_,_,aI,ar⟩:=own.facts q;obtain⟨am,aw,ao,ap⟩:=Dj (bj c2).length aI ar;exact⟨[nx (bj c2) I j,nx (bj c2) am aw],⟨am,aw,⟨aH.trans ao.symm,ap⟩,rfl⟩,G.swap (fg (λh z=>⟨al,aE,ao,ap,z⟩) (q.ep λh z=>fg (λh z=>⟨Q,n,Y,b,z⟩) z))⟩
  ·cases O:jl k with
   |true=>
    rw[O]at Z;have:b4 E (AA k):=Z;exact cm.fC (U:=[]) (ay:=λv=>v=.int .i64 (c2.length:Nat)) W W (λK=> .nil) (λK v h=>by rw[h];exact du J.t1) λI j=>R.W1 O I j
   |false=>
    rw[O]at Z;have:b4 E (z1 k):=Z;exact cm.mk (us:=λI j=>[.pointer (some ⟨I,0,none⟩)]) (ay:=λv I j=>v=h4 I j/\mG j=(c2.length:Nat)) (λK b I j h=> .cons (.ag h) .nil) (λK n I j v h ⟨aa,ab⟩=>by
     rw[aa];exact .fq h (J.t2.trans ab.symm)) λI j=>by rw[W,J.i];exact R.id O I j
 refine(Za (ae:=[.int .i64 1]) (Dh k z) p aS a0 (λΩ J K=> .cons .i .nil)).dR λv aC ak ⟨Ω,K,J,h,ae⟩ q=> ?_;subst ae;obtain⟨Q,n,a3,aa,ab⟩:=Yu K h;rw[W4 au J.t1 J.t2 J.t3 R.hz aW]at aa;cases O:jl k with
 |true=>
  rw[O,df]at ab;cases ab;refine⟨[],⟨none,0,by simp_all,[],rfl,?_⟩,trivial⟩;rw[O];exact Rd.nil _ _
 |false=>
  rw[O,cZ]at ab;have aV:Ek k=[.b3 34]:=by unfold Ek;rw[O];rfl
  rw[aV]at q;generalize av:Value.slice Q a3 n=a9 at ab;cases ab with
  | @dK _ I j aK=>
   have ay:G [Ω.b6 34 I j] ak:=by
    have aX:bJ K (fa [.b3 34])=[c9 K (fa [.b3 34]) 0]:=rfl;rw[aX,xt (o:=.b3 34) aZ,aK]at q;exact q
   rw[J.i]at ay;obtain⟨aL,aP,aG,a4,a5,⟨al,a8,a6,ba,fM⟩,a7⟩:=ay;rw[a6]at av;cases av;have ax:G [own 3 1 Q (bj c2).length n (flat (bj c2))] ak:=⟨aL,aP,aG,a4,a5,fM,a7⟩;obtain⟨_,_,_,ar⟩:=own.facts ax;refine⟨_,⟨Q,n,by simp_all,_,rfl,?_⟩,ax⟩;rw[O];refine aM.own (bU _) λaY=> ?_;grind
def Pv(j:m9 k fh c2)(C:k∈ [1,2,3,4,5,6,7])(D:d<=1000):∀r,Told s (mj k c2 d) (r+1) (vG k z fh c2 d r s)
 |0=> .inl (Je j C (bu _) D)
 |1=> .inl (Je j C (bv _) D)
 |r+2=> .inr ⟨_,RW j C Q,Pv j C D (r+1)⟩
def Pw(I:m9 k fh c2)(G:k∈ [1,2,3,4,5,6,7])(K:d<=1000){j}(O:∀Ω r,j Ω->j (Ω.cR (jA oI r)))(Q:∀Ω,j Ω->k8 Ω E (E6 k))(J:∀Ω,j Ω->qo fh c2 d r Ω):Told s (mj k c2 d) (r+3) (la j (fW 61 k (f6 z)) s):=by
 have D:=fz (CN G z);refine .inr ⟨la j (AC (ue k z)) s,?_,.inr ⟨vG k z fh c2 d r s,?_,Pv I G K r⟩⟩
 ·exact vf _ rfl D.1 ⟨_,rfl⟩ (λΩ C U F h=>by grind) (λΩ C R=> .cons .i .nil) w5 λΩ C=>O Ω _ C
 ·exact vf _ rfl (fz D.2).1 ⟨_,rfl⟩ Q (λΩ C R=> .cons .i .nil) w5 λΩ C=>(J Ω C).cR _
end
end aX
section
attribute [local irreducible] G bf cc
def XU(J G K j C)(h:aB C J 0 2 (dj.kQ G K))(U:dj.fl C G)(R:G.t.size<=50000):
  D E 353 #[.pointer (some ⟨J,0,none⟩),.agg #[.int .i64 j.cB,.int .i64 j.cI,.int .i64 j.y]] C λv O=>∃I,v=.pointer (some ⟨I,0,none⟩)/\O=dj.hN I j true (G.seen j) C (G.r0 j) 0::C:=by
 refine ap λg F=> ?_;refine aS λQ=> ?_;refine GE (aw p (D.frame [ae Q 25 _,F] (dj.JF J G K j _ C h U R) (λ_ s=>s))) ?_;rintro _ _ ⟨_,⟨I,rfl,rfl⟩,rfl⟩;refine ad ?_;refine af ?_;exact aj rfl (.tmp p .nil) aq ⟨I,rfl,rfl⟩
def XQ(J G K j C)(h:aB C J 0 2 (dj.kQ G K))(U:dj.fl C G)(R:G.t.size<=50000):
  D E 352 #[.pointer (some ⟨J,0,none⟩),.agg #[.int .i64 j.cB,.int .i64 j.cI,.int .i64 j.y]] C λv O=>∃I,v=.pointer (some ⟨I,0,none⟩)/\O=dj.hN I j false (G.seen j) C (G.r0 j) 0::C:=by
 refine ap λg F=> ?_;refine aS λQ=> ?_;refine GE (aw p (D.frame [ae Q 25 _,F] (dj.JF J G K j _ C h U R) (λ_ s=>s))) ?_;rintro _ _ ⟨_,⟨I,rfl,rfl⟩,rfl⟩;refine ad ?_;refine af ?_;exact aj rfl (.tmp p .nil) aq ⟨I,rfl,rfl⟩
def U3(J j K G v C)(h:S.en.lb C J j K)(o:j.ok)(Q:j.bp.length<=1000):
  D E 358 #[.pointer (some ⟨J,0,none⟩),.int .i64 G,.int .i64 v] C λR O=>∃I,R=.pointer (some ⟨I,0,none⟩)/\O=S.en.hR I G v (j.iG G v) C (j.gf G v) 0::C:=by
 refine ap λg F=> ?_;refine GE (aw p (D.frame [F] (S.en.UB J j K G v C h o Q) (λ_ s=>s))) ?_;rintro _ _ ⟨_,⟨I,rfl,rfl⟩,rfl⟩;refine ad ?_;refine af ?_;exact aj rfl (.tmp p .nil) aq ⟨I,rfl,rfl⟩
namespace aX
def kc(I:Nat->Nat->Nat->aO)(E:aG)(C D _c:Nat):aO:=λh=>∃j,j+C<=1000/\G (I C j D::E) h
section
variable{f:FuncId}{mV:Array Value}{ib:Nat->Nat->Nat->aO}{ht:aG}{c2:List Int}{B c r:Nat}
def D.wg{post}(h:∀j,j+r<=1000->D E f mV (ib r j B::ht) post):D E f mV [kc ib ht r B c] post:=
 D.open (J:=λj=>ib r j B::ht) (E:=λj=>j+r<=1000) (λ_ h=>h) λj C=>by rw[dA];exact h j C
def wj(h:∀j,j<=1000->D E f mV (ib r j B::ht) λv G=>v=.tuple #[.int .i64 (min (1:Int).toNat r:Nat),.bool (decide (r-min (1:Int).toNat r=0))]/\G=ib (r-min (1:Int).toNat r) (j+min (1:Int).toNat r) B::ht):
  D E f mV [kc ib ht r B c] λv G=>(∃n:Int,v=.tuple #[.int .i64 n,.bool (decide (r<=1))])/\G=[kc ib ht (r-1) B c]:=
 D.wg λj O=>(h j C).dR λv G Q ⟨I,J⟩ q=>by
  have K:r-min (1:Int).toNat r=r-1:=C;rw[K]at I J;rw[show decide _=decide (r<=1)from decide_eq_decide.2 C]at I;exact⟨_,⟨⟨_,I⟩,rfl⟩,sJ ⟨j+min _ r,C,J▸q⟩⟩
def wh(h:∀j,D E f mV (ib 0 j B::ht) λv C=>v=.bool (decide (0=0))/\C=ib 0 j B::ht):
  D E f mV [kc ib ht 0 B c] λv C=>v=.bool true/\C=[kc ib ht 0 B c]:=
 D.wg λj J=>(h j).dR λv C K ⟨G,I⟩ q=>⟨_,⟨G,rfl⟩,sJ ⟨j,J,I▸q⟩⟩
def Df(h:∀j,D E f mV (ib 0 j B::ht) λv C=>v=.int .i64 (c2.length:Nat)/\C=ib 0 j B::ht):
  D E f mV [kc ib ht 0 B c] λv C=>v=.int .i64 (c2.length:Nat)/\C=[kc ib ht 0 B c]:=
 D.wg λj J=>(h j).dR λv C K ⟨G,I⟩ q=>⟨_,⟨G,rfl⟩,sJ ⟨j,J,I▸q⟩⟩
def zg{R:Option Addr->Nat->Prop}(h:∀G,D E f mV (ib 0 G B::ht) λv I=>∃j C,v=.slice j c2.length C/\R j C/\I=own 3 1 j c2.length C (flat (bj c2))::ib 0 G B::ht):
  D E f mV [kc ib ht 0 B c] λv I=>∃K J,(v=h4 K J/\mG J=(c2.length:Nat))/\I=[kc ib ht 0 B c,nx (bj c2) K J]:=by
 have Q:(bj c2).length=c2.length:=by rw[bj,ya]
 rw[<- Q];exact D.ids (D.wg λG O=>(h G).mono λv I ⟨j,C,U,_,W⟩=>⟨j,C,_,by simp_all,by simp_all,λY q=>⟨G,O,q⟩⟩)
def wi{bc:aO}{I:Prop}(R:∀h,bc h->I/\G ht h)(Y:r<=1000)(h:I->D E f mV ht λv j=>∃b,v=.pointer (some ⟨b,0,none⟩)/\j=ib r 0 b::ht):
  D E f mV [bc] λv j=>∃J K,v=.pointer (some ⟨J,0,none⟩)/\j=[λ_=>True,kc ib ht r J K]:=
 D.open (J:=λ_:Unit=>ht) (E:=λ_=>I) (λh q=>⟨(),R h q⟩) λ_ U=>by
  rw[dA];exact(h U).dR λv j W ⟨b,O,Q⟩ q=>⟨_,⟨b,0,O,rfl⟩,rf trivial (sJ ⟨0,C,Q▸q⟩)⟩
end
end aX
end
namespace aX
theorem L3(q):(fK q).kind=q.kind:=by grind[fK]
structure ty (D:Nat) (bc:Nat->Nat->aO) (j:Nat->Nat->Nat->aO) (E:List Int) (C G:Nat) (q:bl) (X:bX->Prop) (Ω:bX):Prop where
 a:qo j E C G Ω
 g:Ω.b6 D=bc
 t:Ω.b6 30=λ_ _ _=>True
 o:(List.range' 61 10).map Ω.int=i6 (fK q)
 x:X Ω
section
variable{Ω:bX}{k s d r i b m:Nat}{z:Bool}{fh:Nat->Nat->Nat->aO}{c2:List Int}{bc:Nat->Nat->aO}{q:bl}{P S:List I}{X:bX->Prop}
theorem ty.cR(D:∀Ω r,X Ω->X (Ω.cR (jA oI r)))(h:ty i bc fh c2 d r q X Ω)(j):ty i bc fh c2 d r q X (Ω.cR (jA oI j)):=
 ⟨h.a.cR j,h.g,h.t,(rz λG E=>by
  have:=(HS.1 E).1;exact Az C C j).trans h.o,D _ j h.x⟩
theorem cm.dn(C:gw P S m q)(J:q.kind=(k:Nat))(o:(mc 61 10).map Ω.int=i6 (fK q)):cm Ω (144,pW [.bm (.i .i64 k::jB 62 9)] cf):=
 cm.val (us:=[(fK q).v]) (v0:=.int .i64 0) (λj=>by
  have O:=congrArg tq o;have K:=(L3 q).trans J;rw[Od];refine .cons (.bm ?_) .nil;show bh j _ (.int _ _::(i6 _).tail.map _);rw[K,<- O];exact .cons .i (qb j 9 62)) (λj=> .i) λD=>(ND (fK q) D).mono λv Q ⟨E,G⟩=>⟨by rw[E,C.Nr],G⟩
def ta(j:Nat):Option Nat:=Z (dT j 71) (some j) none
def s9(i:Nat):Option Nat:=Z (dT i 30) (some i) none
def Rr{E W}(G:nP ta s9 W=some W)(Q:∀j,j<71->E.int j=Ω.int j)(O:∀i,i<30->E.b6 i=Ω.b6 i):∀D,gU Ω W s D->gU E W s D:=
 yG G (λj U C=>by
  obtain⟨aa,rfl⟩:=y1 C;simp_all) λi R C J K D z=>by
  obtain⟨aa,rfl⟩:=y1 C;simp_all
def UR(Ω:bX)(n d j:Nat):Int:=if j<71 then Ω.int j else if j=73 then(d:Nat)else(n:Nat)
def wI(Ω:bX)(i:Nat)(bc:Nat->Nat->aO)(fh:Nat->Nat->Nat->aO)(c2:List Int)(r:Nat)(C:Nat->Nat->Nat->aO)(j:Nat):Nat->Nat->aO:=
 if j<30 then(if j=i then bc else Ω.b6 j)else if j=30 then λ_ _=>λ_=>True else if j=31 then fh r else if j=32 then fh (r-1)else if j=34 then nx (bj c2)else C j
def xU{ι:Type}{bc:ι->Nat->Nat->aO}(aE:gw P S m q)(av:q.kind=(k:Nat))(am:nP ta s9 (fW 61 k (f6 z))=some (fW 61 k (f6 z)))(ar:(fW 61 k (f6 z))[b]?=some (.b3 i))(aa:∀j,j≠b->(fW 61 k (f6 z))[j]?≠some (.b3 i))(aG:i<30)(al:i≠6)
  (ao:∀Ω,mf P S m q Ω->∀R W J,Ω.b6 i R W J->∃K,bc K R W J) {Y}
  (Z:∀K,∃(fh:Nat->Nat->Nat->aO) (c2:List Int) (d r:Nat) (X:bX->Prop) (G:Nat->Nat->Nat->aO),Told s Y 600 (la (ty i (bc K) fh c2 d r q X) (fW 61 k (f6 z)) s)/\∀Ω:bX,(∀j,34<j->Ω.b6 j=G j)->Ω.b6 33=G 33->X Ω) {J} (D:pe P S m q z s J):∃U,Told s Y 600 U/\U J:=by
 obtain⟨Ω,O,D⟩:=D;obtain⟨ag,ak,ae,aw,ax,D,aC⟩:=D;have au:Ω.int 61=(k:Nat):=by
  have:Ω.int 61=(fK q).kind:=congrArg (λl=>l.headD 0) O.o;rw[this,L3,av]
 obtain⟨K,D⟩:=Rq ar aa (ao Ω O) _ (IN au _ D);obtain⟨fh,c2,d,r,X,G,ay,ap⟩:=Z K;refine⟨_,ay,⟨UR Ω _ d,wI Ω i _ fh c2 r G⟩,⟨⟨?_,rfl,rfl,rfl,rfl,rfl,rfl⟩,?_,rfl,?_,ap _ (λj E=> ?_) p⟩,ag,ak,ae,aw,ax,Rr am (λj E=>if_pos E) (λj E=>if_pos E) _ D,aC⟩
 ·show wI Ω i _ fh c2 r G 6=lS;unfold wI;rw[if_pos Q,if_neg (Ne.symm al)];exact O.g6
 ·unfold wI;simp_all
 ·refine(rz λj E=> ?_).trans O.o;have:=(HS.1 E).2;exact if_pos C
 ·unfold wI;grind
def xQ(U:gw P S m q)(ao:q.kind=(k:Nat))(am:k∈ [1,2,3,4,5,6,7]){K:FuncId}[b4 E K]{args:List al}{R:Nat->Nat->List Value}(ae:sy k=[(K,lm b i 30 31 args mO)])(Y:m9 k fh c2)(ar:r<=590)
  (ak:∀Ω:bX,(mc 61 10).map Ω.int=i6 (fK q)->∀(O:aV Ω) b G J,O b=some (G,J)->bh O (.ag b 0::args) (R G J))
  (h:∀G J,D E K (R G J).toArray [bc G J] λv W=>∃Q Z,v=.pointer (some ⟨Q,0,none⟩)/\W=[λ_=>True,fh r Q Z]):
  Told s (mj k c2 0) 600 (la (ty i bc fh c2 0 r q λ_=>True) (fW 61 k (f6 z)) s):=
 Told.mono (Pw Y am (bu _) (λΩ ap j=>j.cR (λ_ _ _=>trivial) ap) (λΩ j=>by
  unfold E6;rw[ae];refine mK (hb (cm.dn U ao j.o) (cm.mk (ay:=λv G J=>v=.pointer _) (ak Ω j.o) (λO n G J v h j=>by rw[j];exact .ag h) λG J=> ?_) mm);rw[j.g,j.t,j.a.w];exact h G J) (λΩ j=>j.a)) C
end
end aX
namespace aX
@[reducible] def mS (j:I):j8:=⟨j.id,j.x,j.y⟩
def gC(q:bl)(j S:List I):List Int:=q.ids j (S.map mS)
theorem tS{q:bl}{j S:List I}(h:q.au=true):gC q j S=(j.filter q.gG).map (·.id):=by
 unfold gC bl.ids bl.kN bl.mR;simp[h]
theorem yO{q:bl}{j S:List I}(h:q.au=false):gC q j S=(S.filter λs=>q.met (mS s)).map (·.id):=by
 unfold gC bl.ids bl.kN bl.mR;simp_all[List.filter_map,BA]
def o5(q:bl)(j:List Int)(v:Value)(D:aG):Prop:=∃C n,v=.tuple #[.agg #[.int .i64 0,.bool true,.bool (!q.bi),.int .i64 (j.length:Nat),.slice C (if q.bi then[]else bj j).length n],.bool true,.int .i64 0]/\
 Rd D C (if q.bi then[]else bj j).length (if q.bi then[]else bj j)
theorem Told.out{s E G}(h:∀v D,E v D->G v D):∀{n}{C},Told s E n C->Told s G n C
 |n+1,C,j=>by
  rcases j with j|⟨I,J,j⟩
  ·exact .inl (j.mono h)
  ·exact .inr ⟨I,J,Told.out h j⟩
def Y9{l j}(h:l.Perm j):bj l=bj j:=Bf h
theorem mj.jd{k G j D q}(J:jl k=q.bi)(O:q.bi=false->j.Perm D)(K:(if k=2 then(j.length:Int)-(G:Nat)else(j.length:Nat))=(D.length:Nat)):∀v E,mj k j G v E->o5 q D v E:=λv E ⟨I,n,C,_,U,h⟩=>by
 rw[J]at h C;rw[K]at C;have R:(if q.bi then[]else bj j)=(if q.bi then[]else bj D):=by
  cases Q:q.bi with
  |true=>rfl
  |false=>exact Y9 (O Q)
 rw[R]at h C;exact⟨I,n,C,h⟩
def uV(C b:Nat)(W:List cl):Bool:=W.zipIdx.all λj=>match j.1 with| .b3 g=>if g=C then decide (j.2=b)else true| _=>true
def xf{C b W}(h:uV C b W=true):∀j,j≠b->W[j]?≠some (.b3 C):=λj E D=>by
 have:=lz.1 h (.b3 C,j) (List.mem_zipIdx_iff_getElem?.2 D);simp_all
section
variable{k s m:Nat}{z:Bool}{q:bl}{P S:List I}{ez:iV}
structure Cl (P:List I) (m:Nat)where
 t:Nat
 l:List I
 k:Nat
 T:eO.ax
 v:Nat
 ag:l.Perm P
 Um:k<=m
 g:eO.mg T v l k
@[reducible] def Cl.L (j:Cl P m):List aO:=[eO.di j.T,ae j.t 255 (eO.ff j.T.addr (j.l.length:Nat) 30 j.v)]
def lu{Ω:bX}{j n}(o:(mc 61 10).map Ω.int=i6 (fK q))(C:(i6 (fK q)).getD j 0=n)(h:j<10):Ω.int (61+j)=n:=by grind
def aak(K:gw P S m q)(U:q.kind=(1:Nat))(aC:pe P S m q z s ez):∃Y,Told s (o5 q (gC q P (ds S dS))) 600 Y/\Y ez:=by
 have am:(fW 61 1 (f6 z))[13]?=some (.b3 1):=by rfl
 have al:nP ta s9 (fW 61 1 (f6 z))=some (fW 61 1 (f6 z)):=by cases z<;>rfl
 have aa:uV 1 13 (fW 61 1 (f6 z))=true:=by rfl
 refine xU (ι:=Cl P m) (bc:=λj D J h=>D=j.t/\G j.L h) K U al am (xf aa) Q Q (λΩ O D J ez g=> ?_) (λj=> ?_) aC
 ·rw[O.g1]at g;obtain⟨⟨l,k⟩,⟨ax,ay⟩,g⟩:=g;obtain⟨Z,v,aw,g⟩:=eO.Z0 g;exact⟨⟨D,l,k,Z,v,ax,ay,aw⟩,rfl,g⟩
 ·have ap:eO.ck j.L _:=eO.hh _ _;have av:aR j.L ⟨j.t,0+0,none⟩ _:=(aR.ae p).skip;have aH:=j.g.bi;have ar:=j.Um;have ez:=K.m;have aG:=K.inv.hz;have aI:=j.T.Al q.cz;have aE:(fK q).cz=q.cz:=by simp_all[fK]
  have R:(j.T.ih q.cz).Perm (gC q P (ds S dS)):=by
   rw[j.g.ok.fd,tS (by unfold bl.au;simp_all)];refine((j.g.au.trans j.ag).filter _).map _|>.trans ?_
   have:eO.dI q.cz=q.gG:=by funext aK;unfold eO.dI bl.gG;simp_all
   simp_all
  have ao:(j.T.ih q.cz).length<=1000:=by
   rw[R.length_eq,tS (by unfold bl.au;simp_all),gL];grind
  have ak:m9 1 (kc (λW k D=>eO.jq D q.cz (j.T.ih q.cz) j.L W k) j.L) (j.T.ih q.cz):=⟨(inferInstance:b4 E 701),(inferInstance:b4 E 698),(inferInstance:b4 E 699),
   λW D J=>wj λk ar=>eO.Vc D W k q.cz _ j.L j.L 1 (λ_ s=>s) C C,λD J=>wh λk=>eO.U9 D 0 k q.cz _ j.L j.L,(λh=>by cases h),λ_ D J=>zg λk=>eO.Va D k q.cz _ j.L j.L C,ao⟩
  refine⟨_,_,0,_,λ_=>True,λ_ _ _ _=>True,Told.out (mj.jd (k:=1) ?_ (λ_=>R) ?_) (xQ (b:=13) (r:=j.T.kk q.cz) (R:=λD J=>[.pointer (some ⟨D,0,none⟩),q.cz.v]) K U Q (rfl:sy 1=[(354,lm 13 1 30 31 y2 mO)]) ak C (λΩ o aL b D J h=> ?_) λD J=> ?_),λ_ _ _=>trivial⟩
  ·unfold bl.bi;rw[U];rfl
  ·rw[if_neg Q,R.length_eq]
  ·refine .cons (.ag h) (.cons (.bm (.cons (du (lu (j:=1) o ?_ Q)) (.cons (du (lu (j:=2) o ?_ Q)) (.cons (du (lu (j:=3) o ?_ Q)) (.cons (du (lu (j:=4) o ?_ Q)) .nil))))) .nil);all_goals simp_all
  ·exact wi (I:=D=j.t) (λh g=>g) C λO=>by subst O;exact eO.Vb j.t j.T q.cz j.L av ap C
structure CC (P:List I)where
 t:Nat
 l:List I
 x:dj.bd
 ag:l.Perm P
 g:x.t.k7 l
@[reducible] def CC.L (x:CC P):List aO:=[ae x.t 262 (dj.kQ x.x 30),dj.mM x.x]
def SO(C)(j:dj.bd):j.r0 C<=j.t.size:=by
 unfold dj.bd.r0;cases h:j.iH with
 |true=>simp
 |false=>exact j.ze C h
def PK{D}(O:gw P S m q)(K:q.kind=((Z D 4 3:Nat):Nat))(aI:pe P S m q z s ez):∃am,Told s (o5 q (gC q P (ds S dS))) 600 am/\am ez:=by
 have aC:(fW 61 (Z D 4 3) (f6 z))[15]?=some (.b3 3):=by rfl
 have ay:nP ta s9 (fW 61 (Z D 4 3) (f6 z))=some (fW 61 (Z D 4 3) (f6 z)):=by cases z<;>cases D<;>rfl
 have aa:uV 3 15 (fW 61 (Z D 4 3) (f6 z))=true:=by rfl
 have aS: ¬q.kind<=2/\q.kind<=4:=by
  cases D
  ·have:q.kind=3:=K;omega
  ·have:q.kind=4:=K;omega
 have av:Z D 4 3∈ [1,2,3,4,5,6,7]:=by grind
 refine xU (ι:=CC P) (bc:=λj J D h=>J=j.t/\G j.L h) O K ay aC (xf aa) Q Q (λΩ R J D ez g=> ?_) (λj=> ?_) aI
 ·rw[R.g3]at g;obtain⟨l,aG,g⟩:=g;obtain⟨aK,b,W,aH,aX,⟨j,o,g⟩,_⟩:=g;exact⟨⟨J,l,j,aG,o⟩,rfl,g.up aH⟩
 ·have ap:dj.fl j.L j.x:=(dj.xm _ _).skip;have ar:aB j.L j.t 0 2 (dj.kQ j.x 30):=aB.ae p;have aO:=O.inv.hz;have aW:j.x.t.size<=30:=by rw[j.g.size,j.ag.length_eq];omega
  have aP:=SO q.wn j.x;have aL:(fK q).wn=q.wn:=by simp_all[fK,if_neg,if_pos]
  have aw:q.au=true:=by
   have:=O.kind;unfold bl.au;simp_all
  have Y:(j.x.seen q.wn).Perm (gC q P (ds S dS)):=by
   rw[tS aw];refine(dj.bd.F1 q.wn j.x j.g.ok).trans (((j.g.perm.trans j.ag).filter _).map _|>.trans ?_);have:(λak:I=>q.wn.iv ak.x ak.y)=q.gG:=by funext ak;unfold bl.gG;grind
   simp_all
  have aE:(j.x.seen q.wn).length<=1000:=by
   rw[Y.length_eq,tS aw,gL];grind
  have ao:m9 (Z D 4 3) (kc (λU k J=>dj.hN J q.wn (!D) (j.x.seen q.wn) j.L U k) j.L) (j.x.seen q.wn):=⟨by cases D<;>exact(inferInstance:b4 E 678),by cases D<;>exact(inferInstance:b4 E 675),by
    cases D
    ·exact(inferInstance:b4 E 676)
    ·exact(inferInstance:b4 E 677),
   λU J W=>by cases D<;>exact wj λk aQ=>dj.C2 J U k q.wn _ _ j.L j.L 1 (λ_ s=>s) Q C C,λJ W=>by cases D<;>exact wh λk=>dj.C0 J 0 k q.wn _ _ j.L j.L,
   λh J W=>by cases D with
    |false=>cases h
    |true=>exact Df λk=>dj.So J k q.wn _ _ j.L j.L,
   λh J W=>(by cases D with
    |false=>exact zg λk=>dj.C1 J k q.wn true _ j.L j.L C
    |true=>cases h),aE⟩
  have ax:∀Ω:bX,(mc 61 10).map Ω.int=i6 (fK q)->∀(al:aV Ω) b J D,al b=some (J,D)->bh al (.ag b 0:: [.bm (jB 66 3)]) [.pointer (some ⟨J,0,none⟩),.agg #[.int .i64 q.wn.cB,.int .i64 q.wn.cI,.int .i64 q.wn.y]]:=λΩ o al b J D h=>by
   refine .cons (.ag h) (.cons (.bm (.cons (du (lu (j:=5) o ?_ Q)) (.cons (du (lu (j:=6) o ?_ Q)) (.cons (du (lu (j:=7) o ?_ Q)) .nil)))) .nil);all_goals simp_all
  refine⟨_,_,0,_,λ_=>True,λ_ _ _ _=>True,Told.out (mj.jd (k:=Z D 4 3) ?_ (λ_=>Y) ?_) (?_:Told s (mj (Z D 4 3) (j.x.seen q.wn) 0) 600 (la (ty 3 _ (kc (λU k J=>dj.hN J q.wn (!D) (j.x.seen q.wn) j.L U k) j.L) (j.x.seen q.wn) 0 (j.x.r0 q.wn) q λ_=>True) _ s)),λ_ _ _=>trivial⟩
  ·unfold bl.bi;rw[K];cases D<;>rfl
  ·rw[if_neg C,Y.length_eq]
  ·cases D with
   |false=>exact xQ (b:=15) (R:=λJ D=>[.pointer (some ⟨J,0,none⟩),.agg #[.int .i64 q.wn.cB,.int .i64 q.wn.cI,.int .i64 q.wn.y]]) O K av (rfl:sy 3=[(353,lm 15 3 30 31 [.bm (jB 66 3)] mO)]) ao C ax λJ D=>wi (I:=J=j.t) (λh g=>g) C λR=>by subst R;exact XU j.t j.x 30 q.wn j.L ar ap C
   |true=>exact xQ (b:=15) (R:=λJ D=>[.pointer (some ⟨J,0,none⟩),.agg #[.int .i64 q.wn.cB,.int .i64 q.wn.cI,.int .i64 q.wn.y]]) O K av (rfl:sy 4=[(352,lm 15 3 30 31 [.bm (jB 66 3)] mO)]) ao C ax λJ D=>wi (I:=J=j.t) (λh g=>g) C λR=>by subst R;exact XQ j.t j.x 30 q.wn j.L ar ap C
end
section
variable{k s m:Nat}{z:Bool}{q:bl}{P eN:List I}{ez:iV}
structure Cj (eN:List I)where
 t:Nat
 l:List I
 T:S.en.av
 ag:l.Perm eN
 o:S.en.oP l T
@[reducible] def Cj.L (j:Cj eN):List aO:=S.en.Bm j.t 30 j.T
def Wr{q:bl}(G:q.kind=6\/q.kind=7)(D:q.x<=q.hi){j}(E:j.x<=j.y):q.met (mS j)=S.en.mL q.x q.hi j:=by
 unfold bl.met;rw[if_neg C];exact decide_eq_decide.2 ⟨λh=>⟨D,h.2.2.1,h.2.2.2⟩,λh=>⟨E,D,h.2.1,h.2.2⟩⟩
def Ub{C l}(E:C.x<=C.y)(h:∀j∈l,j.x<=j.y):∀j∈ds l C,j.x<=j.y:=λj D=>by
 rcases cQ.1 ((pg l C).mem_iff.1 D)with rfl|D
 ·omega
 simp_all
def PL{D}(K:gw P eN m q)(O:q.kind=((Z D 7 6:Nat):Nat))(aQ:pe P eN m q z s ez):∃al,Told s (o5 q (gC q P (ds eN dS))) 600 al/\al ez:=by
 have ax:(fW 61 (Z D 7 6) (f6 z))[16]?=some (.b3 14):=by rfl
 have aw:nP ta s9 (fW 61 (Z D 7 6) (f6 z))=some (fW 61 (Z D 7 6) (f6 z)):=by cases z<;>cases D<;>rfl
 have aa:uV 14 16 (fW 61 (Z D 7 6) (f6 z))=true:=by rfl
 have ap:q.kind=6\/q.kind=7:=by
  cases D
  ·exact .inl O
  ·exact .inr O
 have aE:Z D 7 6∈ [1,2,3,4,5,6,7]:=by grind
 have aK:q.x<=q.hi:=by
  have h:=K.dn;unfold bl.dn at h;rw[if_neg C,if_neg C,if_neg C,if_pos ap]at h;unfold ri at h;omega
 refine xU (ι:=Cj (ds eN dS)) (bc:=λj J D h=>J=j.t/\G j.L h) K O aw ax (xf aa) Q Q (λΩ W J D ez g=> ?_) (λj=> ?_) aQ
 ·rw[W.DN]at g;obtain⟨l,aO,g⟩:=g;obtain⟨aS,b,U,aP,a0,⟨ar,o,g⟩,_⟩:=g;exact⟨⟨J,l,ar,aO,o⟩,rfl,g.up aP⟩
 ·have aC:S.en.lb j.L j.t j.T 30:=⟨aR.ae p,aR.ae p,(S.en.sq j.T _ j.o.2.1).skip⟩;have aW:=K.inv.hz;have aZ:j.T.bp.length<=31:=by rw[j.o.2.2.length_eq,j.ag.length_eq,qs];omega
  have aY:=j.o.1.Mj (C:=q.x) (v:=q.hi);have am:(fK q).x=q.x/\(fK q).hi=q.hi:=by unfold fK;grind
  have ao:q.au=false:=by unfold bl.au;grind
  have Y:(j.T.iG q.x q.hi).Perm (gC q P (ds eN dS)):=by
   rw[yO ao];refine j.o.1.T6.trans (((j.o.2.2.trans j.ag).filter _).map _|>.trans ?_);have:(ds eN dS).filter (S.en.mL q.x q.hi)=(ds eN dS).filter λs=>q.met (mS s):=List.filter_congr λaL aG=>(Wr ap aK (Ub Q (λR aH=>(K.inv.gs R aH).2) aL aG)).symm;simp_all
  have ay:(j.T.iG q.x q.hi).length<=1000:=by
   rw[Y.length_eq,yO ao,gL];have:=hY (λs=>q.met (mS s)) (ds eN dS);rw[qs]at this;omega
  have av:m9 (Z D 7 6) (kc (λR k J=>S.en.hR J q.x q.hi (j.T.iG q.x q.hi) j.L R k) j.L) (j.T.iG q.x q.hi):=⟨by cases D<;>exact(inferInstance:b4 E 726),by cases D<;>exact(inferInstance:b4 E 723),by
    cases D
    ·exact(inferInstance:b4 E 724)
    ·exact(inferInstance:b4 E 725),
   λR J U=>by cases D<;>exact wj λk aX=>S.en.UA J R k q.x q.hi _ j.L j.L 1 (λ_ s=>s) C C,λJ U=>by cases D<;>exact wh λk=>S.en.Ux J 0 k q.x q.hi _ j.L j.L,
   λh J U=>by cases D with
    |false=>cases h
    |true=>exact Df λk=>S.en.Uz J k q.x q.hi _ j.L j.L,
   λh J U=>(by cases D with
    |false=>exact zg λk=>S.en.Uy J k q.x q.hi _ j.L j.L C
    |true=>cases h),ay⟩
  have aI:∀Ω:bX,(mc 61 10).map Ω.int=i6 (fK q)->∀(ak:aV Ω) b J D,ak b=some (J,D)->bh ak (.ag b 0:: [.bb 69,.bb 70]) [.pointer (some ⟨J,0,none⟩),.int .i64 q.x,.int .i64 q.hi]:=λΩ o ak b J D h=>
   .cons (.ag h) (.cons (du (lu (j:=8) o am.1 Q)) (.cons (du (lu (j:=9) o am.2 Q)) .nil))
  refine⟨_,_,0,_,λ_=>True,λ_ _ _ _=>True,Told.out (mj.jd (k:=Z D 7 6) ?_ (λ_=>Y) ?_) (xQ (b:=16) (r:=j.T.gf q.x q.hi) (K:=358) (R:=λJ D=>[.pointer (some ⟨J,0,none⟩),.int .i64 q.x,.int .i64 q.hi]) K O aE (by cases D<;>exact(rfl:sy 6=[(358,lm 16 14 30 31 [.bb 69,.bb 70] mO)])) av C aI λJ D=>wi (I:=J=j.t) (λh g=>g) C λW=>by subst W;exact U3 j.t j.T 30 q.x q.hi j.L aC j.o.1 C),λ_ _ _=>trivial⟩
  ·unfold bl.bi;rw[O];cases D<;>rfl
  ·rw[if_neg C,Y.length_eq]
end
end aX
section
attribute [local irreducible] G bf cc
def X9(b G S q)(aP:G.length+S.length<=1000)(aL:q.dn=0):D E 16 #[R b,aX.nO q] [fp b G S] λv aH=>∃I n,v=xF (!q.bi) ((aX.gC q G S).length:Nat) I (if q.bi then[]else bj (aX.gC q G S)).length n/\Rd aH I (if q.bi then[]else bj (aX.gC q G S)).length (if q.bi then[]else bj (aX.gC q G S)):=by
 refine D.jY λI K J U aG=> ?_;have av:∀M,Rd (own 43 3 I G.length K (flat G)::M) I G.length G:=λM=>aM.own (bU _) aG.a;have ax:∀M,Rd (own 45 3 J S.length U (flat S)::M) J S.length (S.map aX.mS):=λM=>Ys (aM.own (bU _) aG.na);have am:=FD q;rw[aL]at am;have Z:=λM aa ab=>Yf q I J G.length K S.length U G (S.map aX.mS) M aa ab C C;have aI:q.n G (S.map aX.mS)=(aX.gC q G S).length:=if_neg C;have aK:q.q8 G (S.map aX.mS)=(if q.bi then[]else bj (aX.gC q G S)):=by
  rw[bl.Ye];exact if_neg C
 rw[aI,aK]at Z;have ag:=Yg q;generalize aX.gC q G S=aQ at*
 have Y:∀W M,aB (ae W 53 ((aX.A0 q).map (Value.int .i64))::M) W (0+8) 10 ((aX.i6 q).map (Value.int .i64)):=λW M=>eO.pM (G:=8) (n:=18) (I:=(aX.A0 q).map (Value.int .i64)) (aB.ae p) p (λaC v aO=>by
  have:(aX.A0 q).map (Value.int .i64)=((2:Int)::gP 7 0).map (Value.int .i64)++(aX.i6 q).map (Value.int .i64):=rfl;rw[this,List.getElem?_append_right Q,show 8+aC-((((2:Int)::gP 7 0).map (Value.int .i64)).length)=aC by simp];omega)
 cases ay:q.bi with
 |true=>
  rw[ay]at ag Z;refine ap λg F=> ?_;refine aU λW=> ?_;refine aU λal=> ?_;refine bD ?_;iterate 3 refine ad ?_
  refine dG ?_;refine aJ ?_;refine ad ?_;refine aD (er p (by repeat' first|exact Y _ _|apply aB.skip)) ?_;refine a9 (am _) ?_;refine aW (aE [0,1,2,3,4,5,6,7,8,9,10,11] (.e 12 (.e 13 (.e 14 .nil)))) ?_;refine ai ?_;refine cV p (er p (by repeat' first|exact Y _ _|apply aB.skip)) ?_;refine ai ?_;refine cV p (er p (by repeat' first|exact Y _ _|apply aB.skip)) ?_;iterate 8 refine ai ?_
  refine an (a1 p p p (aw p (D.frame [ae al 63 [j 0,.bool false,.bool false,j 0,.slice none 0 0],ae W 53 (ee (aX.nO q)),F,ae b 41 (iN I G.length K J S.length U)] (Z [own 43 3 I G.length K (flat G),own 45 3 J S.length U (flat S)] (av _) (Rd.skip (ax _))) aq)) ?_);rintro _ _ ⟨_,⟨ao,au,ak,rfl,aa,ab,rfl,ar⟩,rfl⟩;refine cM ?_;refine cU p p (ag _ _ _ _ _) ?_;refine an (cj O p p p (f1 p p p p cd) ?_);rintro _ _ ⟨rfl,rfl⟩;refine aF ?_;exact aj (C:=ak++[own 43 3 I G.length K (flat G),own 45 3 J S.length U (flat S)]) p (.cell p (c7 bS) .nil) aq ⟨none,0,rfl,Rd.nil _ _⟩
 |false=>
  rw[ay]at ag Z;refine ap λg F=> ?_;refine aU λW=> ?_;refine aU λal=> ?_;refine bD ?_;iterate 3 refine ad ?_
  refine dG ?_;refine aJ ?_;refine ad ?_;refine aD (er p (by repeat' first|exact Y _ _|apply aB.skip)) ?_;refine a9 (am _) ?_;refine aW (aE [0,1,2,3,4,5,6,7,8,9,10,11] (.e 12 (.e 13 (.e 14 .nil)))) ?_;refine ai ?_;refine cV p (er p (by repeat' first|exact Y _ _|apply aB.skip)) ?_;refine ai ?_;refine cV p (er p (by repeat' first|exact Y _ _|apply aB.skip)) ?_;iterate 8 refine ai ?_
  refine an (a1 p p p (aw p (D.frame [ae al 63 [j 0,.bool false,.bool false,j 0,.slice none 0 0],ae W 53 (ee (aX.nO q)),F,ae b 41 (iN I G.length K J S.length U)] (Z [own 43 3 I G.length K (flat G),own 45 3 J S.length U (flat S)] (av _) (Rd.skip (ax _))) aq)) ?_);rintro _ _ ⟨_,⟨ao,au,ak,rfl,aa,ab,rfl,ar⟩,rfl⟩;refine cM ?_;refine cU p p (ag _ _ _ _ _) ?_;refine an (cj O p p p (f1 p p p p cd) ?_);rintro _ _ ⟨rfl,rfl⟩;refine aF ?_;exact aj (C:=ak++[own 43 3 I G.length K (flat G),own 45 3 J S.length U (flat S)]) p (.cell p (c7 bS) .nil) aq ⟨ao,au,rfl,ar⟩
namespace aX
def LG(j:Nat):List al:=[.bm (.i .i64 j:: .bb 1:: .bb 2:: .bb 3:: .bb 4:: .bb 5:: [.bb 6])]
def oG(j:Nat):al:=.bm (.i .i64 j::Z (aA j 1) (.bb 1:: .bb 2:: .bb 3::fM) (Z (aA j 2) (.bb 1::cf::cf::fM) (Z (aA j 3) (cf::cf::cf:: .bb 4:: .bb 5:: [.bb 6]) (cf::cf::cf:: .bb 4::cf:: [cf]))))
def Xs:Bool:=ch true (λj _ C=>Z (rc 7 (LG j) (oG j)) C false) [1,2,3,4]
def Xr:Xs=true:=by rfl
def St(j:be):bX:=⟨λC=>if C=1 then j.ag.id else if C=2 then j.ag.x else if C=3 then j.ag.y else if C=4 then j.s.id else if C=5 then j.s.x else j.s.y,λ_ _ _ _=>False⟩
def SU{j}(J:j∈ [1,2,3,4])(C:be)(O:C.k=(j:Nat))(I):D E 7 #[C.v] I λv K=>v=(dQ C).v/\K=I:=by
 have h:=(ra (j:=λj=>rc 7 (LG j) (oG j)) (C:=true) Xr).2 j J;obtain⟨Q,R,s⟩:=C;cases O;refine xu (St _) h (.cons (.bm (.cons .i (.cons .bb (.cons .bb (.cons .bb (.cons .bb (.cons .bb (.cons .bb .nil)))))))) .nil) (λU v G=> ?_) I;simp[cQ,rB,or_false]at J;rcases J with rfl|rfl|rfl|rfl
 ·exact lf 9 (show gF 9 (oG 1) (oG 1)=true by rfl) G (.bm (.cons .i (.cons .bb (.cons .bb (.cons .bb (.cons .i (.cons .i (.cons .i .nil))))))))
 ·exact lf 9 (show gF 9 (oG 2) (oG 2)=true by rfl) G (.bm (.cons .i (.cons .bb (.cons .i (.cons .i (.cons .i (.cons .i (.cons .i .nil))))))))
 ·exact lf 9 (show gF 9 (oG 3) (oG 3)=true by rfl) G (.bm (.cons .i (.cons .i (.cons .i (.cons .i (.cons .bb (.cons .bb (.cons .bb .nil))))))))
 ·exact lf 9 (show gF 9 (oG 4) (oG 4)=true by rfl) G (.bm (.cons .i (.cons .i (.cons .i (.cons .i (.cons .bb (.cons .i (.cons .i .nil))))))))
end aX
def Yz(b Z ae ag ak al h)(av: ¬(1<=b/\b<=4))(W):D E 20 #[.agg #[.int .i64 1,.int .i64 b,.int .i64 Z,.int .i64 ae,.int .i64 ag,.int .i64 ak,.int .i64 al,.int .i64 h,.int .i64 0,.int .i64 0,.int .i64 0,.int .i64 0,.int .i64 0,.int .i64 0,.int .i64 0,.int .i64 0,.int .i64 0,.int .i64 0]] W λv Y=>v=.bool false/\Y=W:=by
 refine ap λg F=> ?_;refine aU λau=> ?_;refine ad ?_;refine bD ?_;iterate 4 refine ad ?_
 refine f0 p p p (λG=> ?y1271) (λG=> ?n1271)
 case' n1271=>
  refine el p p p G ?_;refine el p p p G ?_;refine el p p p G ?_;refine aD (eW p G p) ?_;iterate 11 refine ad ?_
  refine f0 p p p (λQ=> ?y1372) (λQ=> ?n1372)
  case' n1372=>
   refine bI ?_;exact⟨by simp_all[bG]<;>(intros;omega),rfl⟩
  case' y1372=>
   refine ad ?_;refine br p p p Q ?_;refine ad ?_;refine br p p p Q ?_;refine ad ?_;refine br p p p Q ?_;refine ad ?_;refine br p p p p ?_;refine aD (eP p Q p) ?_;refine ad ?_;refine f0 p p p (λao=> ?y1377) (λao=> ?n1377)
   case' n1377=>
    refine bI ?_;exact⟨by simp_all[bG]<;>(intros;omega),rfl⟩
   case' y1377=>
    refine bI ?_;exact⟨by simp_all[bG]<;>(intros;omega),rfl⟩
 case' y1271=>
  refine ad ?_;refine br p p p G ?_;refine ad ?_;refine br p p p G ?_;refine ad ?_;refine br p p p G ?_;refine ad ?_;refine aD (eP p G p) ?_;refine ad ?_;refine f0 p p p (λJ=> ?y1276) (λJ=> ?n1276)
  case' n1276=>
   refine el p p p J ?_;refine el p p p J ?_;refine el p p p J ?_;refine aD (eW p J p) ?_;iterate 5 refine ad ?_
   refine f0 p p p (λO=> ?y1334) (λO=> ?n1334)
   case' n1334=>
    refine bI ?_;exact⟨by simp_all[bG]<;>(intros;omega),rfl⟩
   case' y1334=>
    refine ad ?_;refine br p p p O ?_;refine ad ?_;refine br p p p O ?_;refine ad ?_;refine br p p p O ?_;refine ad ?_;refine br p p p p ?_;refine aD (eP p O p) ?_;refine ad ?_;refine f0 p p p (λam=> ?y1339) (λam=> ?n1339)
    case' n1339=>
     refine bI ?_;exact⟨by simp_all[bG]<;>(intros;omega),rfl⟩
    case' y1339=>
     refine bI ?_;exact⟨by simp_all[bG]<;>(intros;omega),rfl⟩
  case' y1276=>
   refine K ?_;refine f0 p p p (λj=> ?y1281) (λj=> ?n1281)
   case' n1281=>
    have R:=j;try simp only[jQ]at R
    refine bI ?_;exact⟨by simp_all[bG]<;>(intros;omega),rfl⟩
   case' y1281=>
    have R:=j;try simp only[jQ]at R
    refine ad ?_;refine br p p p j ?_;refine ad ?_;refine br p p p j ?_;refine ad ?_;refine br p p p j ?_;refine ad ?_;refine f0 p p p (λC=> ?y1285) (λC=> ?n1285)
    case' n1285=>
     have U:=C;try simp only[jQ]at U
     refine el p p p C ?_;refine el p p p C ?_;refine el p p p C ?_;refine br p p p j ?_;refine aD (eW p C p) ?_;refine br p p p j ?_;iterate 5 refine ad ?_
     refine br p p p j ?_;refine ad ?_;refine aD (eW p j p) ?_;refine ad ?_;refine af ?_;refine aj p (.tmp p .nil) az ⟨by simp_all[bG]<;>(intros;omega),rfl⟩
    case' y1285=>
     have U:=C;try simp only[jQ]at U
     refine ad ?_;refine br p p p C ?_;refine ad ?_;refine br p p p C ?_;refine ad ?_;refine br p p p C ?_;refine ad ?_;refine br p p p j ?_;refine aD (eP p C p) ?_;refine br p p p j ?_;refine ad ?_;refine f0 p p p (λI=> ?y1290) (λI=> ?n1290)
     case' n1290=>
      try simp[kU]at ar
      refine el p p p I ?_;refine el p p p I ?_;refine el p p p I ?_;refine br p p p j ?_;refine aD (eW p I p) ?_;refine aD (eW p j p) ?_;refine ad ?_;refine af ?_;refine aj p (.tmp p .nil) az ⟨by simp_all[bG]<;>(intros;omega),rfl⟩
     case' y1290=>
      try simp[kU]at ar
      refine ad ?_;refine br p p p I ?_;refine ad ?_;refine br p p p I ?_;refine ad ?_;refine br p p p I ?_;refine ad ?_;refine br p p p j ?_;refine aD (eP p I p) ?_;refine aD (eW p j p) ?_;refine ad ?_;refine af ?_;refine aj p (.tmp p .nil) az ⟨by simp_all[bG]<;>(intros;omega),rfl⟩
def Ya(j)(I: ¬(1<=j.k/\j.k<=4))(C):D E 20 #[aX.jx j] C λv G=>v=.bool false/\G=C:=Yz j.k j.ag.id j.ag.x j.ag.y j.s.id j.s.x j.s.y I C
def SR(j:be)(J: ¬(1<=j.k/\j.k<=4))(C):D E 7 #[j.v] C λv G=>v=pV.v/\G=C:=by
 have I:=Ya j J;refine ap λg F=> ?_;refine aU λK=> ?_;refine aS λO=> ?_;refine aS λQ=> ?_;refine a9 (I _) ?_;refine af ?_;refine aj p (.cell p (c7 bS) .nil) az ⟨rfl,rfl⟩
def qC(j:be):be:=if 1<=j.k/\j.k<=4 then aX.dQ j else pV
def SS(j G):D E 7 #[j.v] G λv J=>v=(qC j).v/\J=G:=by
 unfold qC
 by_cases I:1<=j.k/\j.k<=4
 ·rw[if_pos I];exact aX.SU (j:=j.k.toNat) (by grind) j C G
 ·rw[if_neg I];exact SR j I G
theorem My(j S):cA j S 30 pV≠0:=by
 have:be.hT pV=1:=by rfl
 simp_all[cA]
theorem IV(j S C):(if cA j S 30 (qC C)=0 then zl j (qC C)else j)=aX.qu j S C/\(if cA j S 30 (qC C)=0 then zm S (qC C)else S)=aX.qv j S C:=by
 unfold aX.qu aX.qv aX.q0 aX.q1 qC
 by_cases D:1<=C.k/\C.k<=4
 ·simp_all
 ·rw[if_neg D,if_neg D,if_neg D,if_neg (My j S),if_neg (My j S)];simp
end
namespace aX
section
variable{k s m:Nat}{z:Bool}{q:bl}{P eN:List I}{ez:iV}
structure ad (eN:List I)where
 t:Nat
 s:S.eE.dM
 z:S.eE.fN×Go.Proofs.YtioamnghkmcbbaaGreat.bt×Option Addr×Nat×List I
 ag:s.k.Perm eN
 o:S.eE.F2 s z
@[reducible] def ad.L (j:ad eN):List aO:=S.eE.F3 j.t 30 j.s j.z
def aam(O:gw P eN m q)(K:q.kind=(5:Nat))(aH:pe P eN m q z s ez):∃Z,Told s (o5 q (gC q P (ds eN dS))) 600 Z/\Z ez:=by
 have aC:q.kind=5:=K;have ax:(fW 61 5 (f6 z))[17]?=some (.b3 15):=by rfl
 have aw:nP ta s9 (fW 61 5 (f6 z))=some (fW 61 5 (f6 z)):=by cases z<;>rfl
 have aa:uV 15 17 (fW 61 5 (f6 z))=true:=by rfl
 refine xU (ι:=ad (ds eN dS)) (bc:=λj E J h=>E=j.t/\G j.L h) O K aw ax (xf aa) Q Q (λΩ R E J ez g=> ?_) (λj=> ?_) aH
 ·rw[R.DO]at g;obtain⟨s,⟨aE,_⟩,g⟩:=g;obtain⟨aK,b,aL,aG,aW,⟨y,o,g⟩,_⟩:=g;exact⟨⟨E,s,y,aE,o⟩,rfl,g.up aG⟩
 ·have o:=j.o;have ae:=S.eE.hJ.wO o j.t 30 j.s.b [];have aO:=O.inv.hz;have aQ:j.z.2.2.2.2.length<=31:=by rw[S.eE.hJ.perm o|>.length_eq,j.ag.length_eq,qs];omega
  have aP:j.s.ay.length<=200:=by have:=S.eE.hJ.small o;omega
  have aV:=(S.eE.hJ.ku o C q.x).2;have av:(fK q).x=q.x:=by simp_all[fK,if_pos]
  have al:q.au=false:=by unfold bl.au;simp_all
  have U:(S.eE.d8 (j.z.2.1.hm (fu j.s.ay q.x))).Perm (gC q P (ds eN dS)):=by
   rw[yO al];refine((S.eE.hJ.hm o _).map _).trans ((j.ag.filter _).map _|>.trans ?_);have:(λs:I=>decide (s.x<=q.x/\q.x<=s.y))=λs=>q.met (mS s):=by funext s;unfold bl.met;rw[if_pos aC];rfl
   simp_all
  have W:(S.eE.d8 (j.z.2.1.hm (fu j.s.ay q.x))).length<=1000:=by
   rw[U.length_eq,yO al,gL];have:=hY (λs=>q.met (mS s)) (ds eN dS);rw[qs]at this;omega
  have am:m9 5 (kc (λY k E=>S.eE.lP _ (S.eE.bI j.s.ay) j.z.2.2.2.2 (fu j.s.ay q.x) _ E Y k) j.L) _:=⟨(inferInstance:b4 _ 747),(inferInstance:b4 _ 744),(inferInstance:b4 _ 745),
   λY E J=>by
    by_cases aS:Y<=9000
    ·exact wj λk ak=>S.eE.SZ C W C 1
    ·exact D.wg λk ak=>absurd ak C,λE J=>wh λk=>S.eE.SX,(λh=>by cases h),λ_ E J=>zg λk=>S.eE.SY W,W⟩
  refine⟨_,_,0,_,λ_=>True,λ_ _ _ _=>True,Told.out (mj.jd ?_ (λ_=>U) ?_) (xQ (r:=j.z.2.1.wn (fu j.s.ay q.x)) (R:=λE J=>[.pointer (some ⟨E,0,none⟩),.int .i64 q.x]) O K Q (rfl:sy 5=[(359,lm 17 15 30 31 [.bb 69] mO)]) am C (λΩ o aX b E J h=> .cons (.ag h) (.cons (du (lu (j:=8) o av Q)) .nil)) λE J=> ?_),λ_ _ _=>trivial⟩
  ·unfold bl.bi;rw[K];rfl
  ·rw[if_neg Q,U.length_eq]
  ·refine wi (I:=E=j.t) (λh g=>g) C λR=> ?_;subst R;refine(S.eE.Ss q.x j.L ae o C).dR λv aI ez ⟨ao,ap,ar⟩ g=>⟨_,⟨ao,ap,rfl⟩,?_⟩;subst ar;exact S.eE.zv (C:=none) (E:=0) (j:=[]) ⟨ae.X,S.eE.hJ.leads o q.x,by simp[S.eE.Fo],rfl,.inl p⟩ (λh=>absurd h (Nat.lt_irrefl 0)) (g.ep λh z=>rf ⟨rfl,bv _,bu _,.inl ⟨rfl,rfl,rfl⟩⟩ z)
end
end aX
namespace aX
section
variable{k s m:Nat}{z:Bool}{q:bl}{P eN:List I}{ez:iV}
structure m7 (P:List I) (m:Nat)where
 t:Nat
 S:W.bN.ct
 x:W.bN.mh
 ok:W.bN.fQ S m
 ag:S.live.Perm P
 mD:W.bN.qq x S
@[reducible] def m7.H (x:m7 P m):List aO:=[co x.x.b x.x.M,ae x.t 259 (W.bN.hj x.x.A x.x.da.length x.x.c x.x.b (x.S.d.length:Nat) 30 (x.S.ed:Nat)),own 325 1 x.x.A x.x.da.length x.x.c (flat x.x.da)]
def m7.wL(x:m7 P m)(j _c:Nat):aO:=λh=>j=x.t/\G x.H h
def m7.FY(x:m7 P m)(j C:Nat):aO:=λh=>∃y:Option Addr×Nat,(h4 j C=.slice y.1 (W.bN.eG x.x.da).length y.2/\(0< (W.bN.eG x.x.da).length->∃b,y.1=some ⟨b,0,none⟩))/\G [own 325 1 y.1 (W.bN.eG x.x.da).length y.2 (flat (W.bN.eG x.x.da)),f5 x.x.N] h
def VV(j:m7 P m)(ez:m<=250)(J Y):D E 349 #[.pointer (some ⟨J,0,none⟩)] [λh=>J=j.t/\G (W.bN.uN j.t 30 j.x j.S) h] λv R=>∃K O,v=h4 K O/\R=[j.wL J Y,j.FY K O]:=
 D.open (J:=λ_:Unit=>W.bN.uN j.t 30 j.x j.S) (E:=λ_=>J=j.t) (λh q=>⟨(),q.1,q.2⟩) λ_ Z=>by
  subst Z;rw[dA];have aw:=j.ok.Am C;have ax:=j.mD.og.len;refine(W.bN.QC j.mD (aB.ae p) (Rd.skip (Rd.skip (aM.own (bU _) j.mD.A))) (λo ar=>W.bN.hk.skip (W.bN.hk.skip (W.bN.hk.skip (j.mD.tojj.CO o ar)))) C).dR λv R ez ⟨Q,n,ag,ak,al⟩ g=> ?_;subst al;obtain⟨_,_,am,ao⟩:=own.facts g;obtain⟨K,O,U,av⟩:=Dj _ am ao;refine⟨_,⟨K,O,ag.trans U.symm,rfl⟩,?_⟩;have ap:G ([co j.x.b j.x.M,ae j.t 259 (W.bN.hj j.x.A j.x.da.length j.x.c j.x.b (j.S.d.length:Nat) 30 (j.S.ed:Nat)),own 325 1 j.x.A j.x.da.length j.x.c (flat j.x.da)]++[own 325 1 Q (W.bN.eG j.x.da).length n (flat (W.bN.eG j.x.da)),f5 j.x.N]) ez:=by
   have au:=g;refine G.perm ?_ au;exact(List.Perm.swap ..).trans ((List.Perm.cons _ (List.Perm.swap ..)).trans ((List.Perm.swap ..).trans (List.Perm.cons _ (List.Perm.cons _ (List.Perm.swap ..)))))
  exact fg (λh z=>⟨rfl,z⟩) ((G.join ap).ep λh z=>G.fold (λh z=>⟨(Q,n),⟨U,ak⟩,z⟩) z)
def VM(j:m7 P m)(ez:m<=250)(J G R):D E 350 #[.pointer (some ⟨G,0,none⟩),J.v] [j.wL G R] λv Q=>∃O K,(v=h4 O K/\mG K=((W.bN.li J j.S.d).length:Nat))/\Q=[j.wL G R,nx (W.bN.li J j.S.d) O K]:=
 D.ids (D.open (J:=λ_:Unit=>j.H) (E:=λ_=>G=j.t) (λh q=>⟨(),q.1,q.2⟩) λ_ Y=>by
  subst Y;rw[dA];refine(W.bN.QA j.mD j.ok C (aB.ae p) J).mono λv Q ⟨U,n,Z,_,ag⟩=>⟨U,n,_,Z,ag,λh g=>⟨rfl,g⟩⟩)
end
end aX
namespace aX
section
variable{k s m:Nat}{z:Bool}{q:bl}{P eN:List I}{ez:iV}
def m7.Am(x:m7 P m)(ez:m<=250):x.S.Y.length<=8:=by
 rcases x.ok.fw with h|h
 ·omega
 ·rcases Nat.lt_or_ge x.S.Y.length 9 with j|j
  ·omega
  ·have:=Nat.pow_le_pow_right (n:=2) bs (show 8<=x.S.Y.length-1 by omega);omega
def aal(Y:gw P eN m q)(U:q.kind=(2:Nat))(a0:pe P eN m q z s ez):∃ao,Told s (o5 q (gC q P (ds eN dS))) 600 ao/\ao ez:=by
 have bc:q.kind=2:=U;have aS:(fW 61 2 (f6 z))[14]?=some (.b3 2):=by cases z<;>rfl
 have aP:nP ta s9 (fW 61 2 (f6 z))=some (fW 61 2 (f6 z)):=by cases z<;>rfl
 have aa:uV 2 14 (fW 61 2 (f6 z))=true:=by cases z<;>rfl
 refine xU (ι:=m7 P m) (bc:=λj J K h=>J=j.t/\G (W.bN.uN j.t 30 j.x j.S) h) Y U aP aS (xf aa) bs bs (λΩ O J K ez g=> ?_) (λj=> ?_) a0
 ·rw[O.g2]at g;obtain⟨S,⟨aY,ak⟩,g⟩:=g;obtain⟨Z,b,a3,aZ,bd,g,_⟩:=g;obtain⟨j,ae,g⟩:=W.bN.L8 g;exact⟨⟨J,S,j,aY,ak,ae⟩,rfl,g.up aZ⟩
 ·have ez:=Y.m;have a4:=Y.inv.hz;have aw:=j.ok.e2;have a8:=j.Am ez;have a9:=j.mD.og.len;have bb:=W.bN.V5 j.x.da;have ba:=W.bN.Jo q.cz (E:=f5 j.x.N:: []) (W.bN.eG j.x.da) j.mD.tojj.eG (λR al=>by have:=j.mD.tojj.M5 aw _ (W.bN.Mg al);simp only[W.bN.opts]at this;omega);have aK:(fK q).cz=q.cz:=by unfold fK;rw[if_pos C]
  have av:q.au=true:=by unfold bl.au;exact decide_eq_true C
  have aW:(W.bN.hO q.cz j.x.M).length=(W.bN.li q.cz j.S.d).length:=by rw[<- j.mD.tojj.dead q.cz,bj,ya]
  have ar:=(j.mD.tojj.d1 j.ok.eQ q.cz).length_eq;rw[List.length_append,aW]at ar;have aQ:((j.S.live.filter (W.bN.dI q.cz)).map (·.id)).length=(gC q P (ds eN dS)).length:=by
   rw[tS av,gL,gL,(j.ag.filter _).length_eq];have:W.bN.dI q.cz=q.gG:=by funext ak;unfold W.bN.dI bl.gG;rw[if_pos C]
   rw[this]
  rw[aQ]at ar;have a5:(gC q P (ds eN dS)).length<=30:=by
   rw[tS av,gL];have:=hY q.gG P;omega
  have a6:(W.bN.li q.cz j.S.d).length<=250:=by
   rw[W.bN.UG];have aa:=hY (W.bN.dI q.cz) j.S.d;have ab:=j.ok.hz;omega
  have aX:∀R∈W.bN.eG j.x.da,R.l.length<=1000:=λR al=>by have:=j.mD.tojj.M5 aw _ (W.bN.Mg al);simp only[W.bN.opts]at this;omega
  have aE:m9 2 (kc (λR k J=>W.bN.i7 J q.cz false (W.bN.ii q.cz (W.bN.ft q.cz (W.bN.eG j.x.da))) [f5 j.x.N] R k) [f5 j.x.N]) (W.bN.ii q.cz (W.bN.ft q.cz (W.bN.eG j.x.da))):=⟨(inferInstance:b4 E 656),(inferInstance:b4 E 653),(inferInstance:b4 E 655),
   λR J K=>wj λk a7=>W.bN.Yk J R k q.cz false _ _ _ 1 (λ_ s=>s) C C,λJ K=>wh λk=>W.bN.Yi J 0 k q.cz false _ _ _,λ_ J K=>Df λk=>W.bN.Yj J k q.cz false _ _ _,(λh=>by cases h),C⟩
  refine⟨_,_,(W.bN.li q.cz j.S.d).length,W.bN.eM q.cz (W.bN.ft q.cz (W.bN.eG j.x.da)),λΩ=>Ω.b6 36=j.FY/\Ω.b6 37=j.wL/\Ω.b6 33=nx (W.bN.li q.cz j.S.d),λae=>if ae=36 then j.FY else if ae=37 then j.wL else nx (W.bN.li q.cz j.S.d),Told.out (mj.jd (k:=2) ?_ (λh=> ?_) ?_) (Told.mono (Pw aE bs C (λΩ ak O=>O.cR (λΩ R h=>h) ak) (λΩ O=> ?_) λΩ O=>O.a) C),λΩ ap aL=>⟨(ap 36 bs).trans p,(ap 37 bs).trans p,aL.trans p⟩⟩
  ·unfold bl.bi;rw[U];rfl
  ·unfold bl.bi at h;rw[U]at h;cases h
  ·rw[if_pos p];omega
  ·obtain⟨ay,aC,a1⟩:=O.x;have ax:∀Q:aV Ω,bh Q y2 [q.cz.v]:=λQ=>by
    refine .cons (.bm (.cons (du (lu (j:=1) O.o ?_ bs)) (.cons (du (lu (j:=2) O.o ?_ bs)) (.cons (du (lu (j:=3) O.o ?_ bs)) (.cons (du (lu (j:=4) O.o ?_ bs)) .nil))))) .nil;all_goals rw[<- aK];rfl
   refine mK (hb (cm.dn Y U O.o) ?_ (hb ?_ ?_ mm))
   ·refine cm.mk (us:=λJ K=>[.pointer (some ⟨J,0,none⟩)]) (ay:=λv J K=>v=h4 J K) (λQ b J K h=> .cons (.ag h) .nil) (λQ n J K v h O=>by rw[O];exact .dK h) λJ K=> ?_;rw[O.g,ay,aC];exact VV j ez J K
   ·refine cm.mk (us:=λJ K=>[q.cz.v,h4 J K]) (ay:=λv J K=>v=.pointer (some ⟨J,0,none⟩)) (λQ b J K h=> .cons (by cases ax Q with|cons Z _=>exact Z) (.cons (.dK h) .nil)) (λQ n J K v h O=>by rw[O];exact .ag h) λJ K=> ?_;rw[ay,O.t,O.a.w];refine D.open (J:=λy:Option Addr×Nat=>[own 325 1 y.1 (W.bN.eG j.x.da).length y.2 (flat (W.bN.eG j.x.da)),f5 j.x.N]) (E:=λy=>h4 J K=.slice y.1 (W.bN.eG j.x.da).length y.2/\(0< (W.bN.eG j.x.da).length->∃b,y.1=some ⟨b,0,none⟩)) (λh q=>q) λ⟨am,n⟩ ⟨aG,aO⟩=> ?_
    rw[aG,dA];refine(W.bN.Yh q.cz am (W.bN.eG j.x.da).length n (W.bN.eG j.x.da) [own 325 1 am (W.bN.eG j.x.da).length n (flat (W.bN.eG j.x.da)),f5 j.x.N] [f5 j.x.N] (λh s=>s.tail) (aM.own (bU _) aO) C (j.mD.tojj.eG (C:=[])) aX C).dR λv a2 ez ⟨Z,aH,aI⟩ g=>⟨_,⟨Z,0,aH,rfl⟩,rf trivial (sJ ⟨0,C,?_⟩)⟩;subst aI;exact g.swap.tail
   ·refine cm.mk (us:=λJ K=>[.pointer (some ⟨J,0,none⟩),q.cz.v]) (ay:=λv J K=>v=h4 J K/\mG K=((W.bN.li q.cz j.S.d).length:Nat)) (λQ b J K h=> .cons (.ag h) (ax Q)) (λQ n J K v h ⟨aa,ab⟩=>by rw[aa];exact .fq h (O.a.t3.trans ab.symm)) λJ K=> ?_;rw[aC,a1];exact VM j ez q.cz J K
def aan(j:gw P eN m q)(D:pe P eN m q z s ez):∃E,Told s (o5 q (gC q P (ds eN dS))) 600 E/\E ez:=by
 obtain⟨J,K⟩:=j.kind;have G:q.kind=1\/q.kind=2\/q.kind=3\/q.kind=4\/q.kind=5\/q.kind=6\/q.kind=7:=C;rcases G with h|h|h|h|h|h|h
 ·exact aak j h D
 ·exact aal j h D
 ·exact PK (D:=false) j h D
 ·exact PK (D:=true) j h D
 ·exact aam j h D
 ·exact PL (D:=false) j h D
 ·exact PL (D:=true) j h D
end
end aX
end
end Go.Proofs.YtioamnghkmcbbaaGreat
