/- TopWhole: a part of its proof. -/
import Derived.Shelf.SlSortCmp.NoneTotal
import Derived.Shelf.SlSortCmp.WholeK
import Derived.Test.YteinodmjohkmmaaGreatSf
import Derived.Test.YteinodmjohkmmaaGreatMA2
set_option linter.all false
set_option maxRecDepth 100000
set_option maxHeartbeats 4000000
open BitVec renaming ofInt->hf,ofInt_natCast->Ko,toNat_ofNat->Kp
open Bool renaming false->al,not_eq_false'->gm,not_false->nI,true->ag
open Go renaming Value->a2
open Go.IntWalk renaming i64_in->oD
open Go.Lib renaming compareInt->sm
open Int renaming toNat->tL
open List renaming append_nil->dC,eq_nil_of_length_eq_zero->gX,getElem?_eq_getElem->b8,length->aa,length_append->b4,map_append->ez,mem_cons->df,pairwise_cons->gH
open List.Pairwise renaming of_map->U4
open List.Perm renaming cons_inv->U6
open Nat renaming eq_zero_or_pos->hh,le_refl->bC,lt_or_ge->dZ,mod_eq_of_lt->LO,zero_add->h3,zero_le->bO
open Option renaming none->af,some->ab
open Go.RowKit
namespace Go.Proofs.YteinodmjohkmmaaGreat
noncomputable section
section
attribute [local irreducible] C bh b6
@[reducible] def S7 (D:Nat) (id:Int) (C:Bool) (E:Int):List Value:=[I D,j id,.bool C,j E]
@[reducible] def u3 (q j:Nat) (id:Int) (C:Bool) (D:Int):List aG:=[ah q 141 (S7 j id C D),nx j]
def cb(q:Nat):aG:=λh=>∃y:Nat×Int×Bool×Int,C (u3 q y.1 y.2.1 y.2.2.1 y.2.2.2) h
variable{q:Nat}
def O.Aq{U args}{Q:a2->Prop}(R:∀ai id ah am,Y U args (u3 q ai id ah am) λv D=>Q v/\∃I H E J,D=u3 q I H E J):Y U args [cb q] λv D=>Q v/\D=[cb q]:=
 O.open (E:=λy:Nat×Int×Bool×Int=>u3 q y.1 y.2.1 y.2.2.1 y.2.2.2) (D:=λ_=>True) (λh ⟨y,j⟩=>⟨y,trivial,j⟩) λy _=>by
  rw[dC];exact(R _ _ _ _).cr λv D ap ⟨W,I,H,E,J,Z⟩ j=>⟨_,⟨W,rfl⟩,by
   subst Z;exact C.fold (λh j=>⟨(I,H,E,J),j⟩) (by rw[dC];exact j)⟩
def IU(O id J Q v C)(h:aU C q 0 4 (S7 O id J Q)):Y 96 #[I q,j v] C λR D=>(∃U,R=.bool U)/\D=C:=by
 have h1:=h.at_ (i:=1) p;have ae:=h.at_ (i:=2) p;refine aD ?_;refine h4 p p p (λE=>?y352) (λE=>?n352)
 case' n352=>
  try simp[gm]at H
  refine dk ?_;exact⟨⟨_,rfl⟩,rfl⟩
 case' y352=>
  try simp[gm]at H
  refine dk ?_;exact⟨⟨_,rfl⟩,rfl⟩
def afe:Y 195 #[I q] [cb q] λE C=>(∃D H,E=.tuple #[j D,.bool H])/\C=[cb q]:=O.Aq λQ id J R=>by
 refine bt ?_;exact aR ⟨⟨_,_,rfl⟩,_,_,_,_,rfl⟩
def afi(v):Y 128 #[I q,j v] [cb q] λQ E=>(∃C,Q=j C)/\E=[cb q]:=O.Aq λD id U J=>by
 have H:=afz (r:=D) v;refine aD ?_;refine aP (IU D id _ J v _ cA) ?_;rintro _ _ ⟨⟨R,rfl⟩,rfl⟩;refine ak ?_;cases R with
 |true=>
  refine ak ?_;exact aR ⟨⟨_,rfl⟩,_,_,_,_,rfl⟩
 |false=>
  refine aC ?_;refine aP (b3 H) ?_;rintro _ _ ⟨_,⟨⟨C,rfl⟩,rfl⟩,rfl⟩;refine ak ?_;exact aR ⟨⟨_,rfl⟩,_,_,_,_,rfl⟩
def afd:Y 197 #[I q] [cb q] λR E=>(∃D C,R=.tuple #[j D,.bool C])/\E=[cb q]:=O.Aq λQ id H U=>by
 have J:=afy (r:=Q);refine bt ?_;cases H with
 |true=>
  refine ak ?_;exact aR ⟨⟨_,_,rfl⟩,_,_,_,_,rfl⟩
 |false=>
  refine aC ?_;refine aP (b3 J) ?_;rintro _ _ ⟨_,⟨⟨D,C,rfl⟩,rfl⟩,rfl⟩;refine ak ?_;cases C with
  |true=>
   refine dY ?_;exact aR ⟨⟨_,_,rfl⟩,_,_,_,_,rfl⟩
  |false=>
   refine ak ?_;exact aR ⟨⟨_,_,rfl⟩,_,_,_,_,rfl⟩
def SM(v):Y 61 #[I q,j v] [cb q] λJ C=>(∃D,J=j D)/\C=[cb q]:=O.Aq λE id R H=>by
 refine aD ?_;refine aP (IU E id _ H v _ cA) ?_;rintro _ _ ⟨⟨Q,rfl⟩,rfl⟩;refine ak ?_;cases Q with
 |false=>
  refine ak ?_;exact aR ⟨⟨_,rfl⟩,_,_,_,_,rfl⟩
 |true=>
  refine ak ?_;exact aR ⟨⟨_,rfl⟩,_,_,_,_,rfl⟩
def afg(v):Y 60 #[I q,j v] [cb q] λR E=>(∃H,R=j H)/\E=[cb q]:=O.Aq λD id U Q=>by
 have J:=afu (r:=D) v;refine aD ?_;refine aP (IU D id _ Q v _ cA) ?_;rintro _ _ ⟨⟨C,rfl⟩,rfl⟩;refine ak ?_;cases C with
 |true=>
  refine ak ?_;exact aR ⟨⟨_,rfl⟩,_,_,_,_,rfl⟩
 |false=>
  refine aC ?_;refine aP (b3 J) ?_;rintro _ _ ⟨_,⟨⟨C,rfl⟩,rfl⟩,rfl⟩;refine ak ?_;cases C with
  |true=>
   refine ak ?_;exact aR ⟨⟨_,rfl⟩,_,_,_,_,rfl⟩
  |false=>
   refine ak ?_;exact aR ⟨⟨_,rfl⟩,_,_,_,_,rfl⟩
def afh:Y 196 #[I q] [cb q] λW Q=>∃(j:a3) (D:Nat) (o:List Int),W=.slice j (aa o) D/\(0<aa o->∃b,j=(U b))/\Q=[E 3 1 j (aa o) D (J o),cb q]:=
 O.open (E:=λy:Nat×Int×Bool×Int=>u3 q y.1 y.2.1 y.2.2.1 y.2.2.2) (D:=λ_=>True) (λh ⟨y,H⟩=>⟨y,trivial,H⟩) λ⟨R,id,Z,ah⟩ _=>by
  rw[dC];refine O.cr (I:=λW Q=>∃(j:Option _) (D:Nat) (o:List _),W=.slice j _ D/\(0<aa o->∃b,j=ab _)/\Q=E 3 1 j (aa o) D (J o)::u3 q R id Z ah) ?_ λv Q av ⟨j,D,o,ai,am,ap⟩ H=>⟨_,⟨j,D,o,ai,am,rfl⟩,by
   subst ap;exact C.bl (λh H=>C.fold (λh H=>⟨(R,id,Z,ah),H⟩) (by rw[dC];exact H)) H⟩
  have ar:=afn (r:=R);refine aD ?_;refine aP (b3 ar) ?_;rintro _ _ ⟨_,⟨j,D,o,rfl,aq,rfl⟩,rfl⟩;refine ak ?_;exact aR ⟨j,D,o,rfl,aq,rfl⟩
def k6(A:a3)(n c:Nat):aG:=λh=>∃j:List a2,C [E 213 27 A n c j] h
def O.fact{D E args j J}{I:Prop}(Q:∀h,C j h->I)(R:I->O D E args j J):O D E args j J:=λg F U H=>R (Q _ H.s.tail) g F U H
def mT(S A Q c Z ai am ap aq ar R a4 id a8 a3 n aF aG aQ aR aS aT aV aW aX aY aH aI aJ aK aL aM aO aP aZ a7 aA aE aB):
  Y 58 #[I S,j a4,j id,j a8,.agg #[j aF,j aG,j aQ,j aR,j aS,j aT,j aV,j aW,j aX,j aY,j aH,j aI,j aJ,j aK,j aL,j aM,j aO,j aP],.agg #[j a3,.bool aZ,.bool a7,j n,.slice aA aE aB]] [ah S 80 [Z,ai,am,ap,aq,ar,j R,.slice A Q c],k6 A Q c] λv av=>v=.tuple #[]/\∃H J D,D<=maxLen/\J<=D/\(H=af/\J=0/\D=0\/∃b,H=(U b))/\av=[ah S 80 [Z,ai,am,ap,aq,ar,j R,(.slice H J D)],k6 H J D]:=by
 apply O.pre (M:=k6 A Q c:: [ah S 80 [Z,ai,am,ap,aq,ar,j R,.slice A Q c]]) (λh s=>s.perm (List.Perm.swap ..));apply O.open (E:=λW=>[E 213 27 A Q c W]) (D:=λ_=>True) (λh ⟨W,s⟩=>⟨W,trivial,s⟩) λW _=>?_
 refine O.cr (I:=λv av=>v=.tuple #[]/\∃H J D ax,D<=maxLen/\J<=D/\(H=af/\J=0/\D=0\/∃b,H=(U b))/\av=[ah S 80 [Z,ai,am,ap,aq,ar,j R,(.slice H J D)],E 213 27 H J D ax]) ?_ λv av bp ⟨a9,H,J,D,ax,h1,ae,an,bb⟩ s=>⟨_,⟨a9,H,J,D,h1,ae,an,rfl⟩,?_⟩
 .refine O.fact (λh s=>E.facts (L:=[_]) s) λ⟨bo,bc,be,bg⟩=>?_;refine aD ?_;refine bd λbl=>?_;apply bd λbm=>?_;apply ee _;iterate 5 apply ay _
  (first|refine a6 (rB (q:=1048576) p p) ?_|refine a6 (rA p p) ?_)
  apply ak _;refine c0 p (λbh=>?_) (λbh=>?_)
  .apply bs _;refine pu (bE [0,1,2,3,4,5,6,7,8,9,10,11,12,13,14] (.e 15 (.e 16 (.q 17 (.q 18 (.e 19 .nil)))))) cq cq ?_;apply ak _;apply h5 λbn=>?_;apply nH λaz a0 bi bj bk=>?_;exact er (D:=[]) (j:=[]) (C:=[ah S 80 [Z,ai,am,ap,aq,ar,j R,.slice az (Q+1) a0],E 213 27 az (Q+1) a0 (W++[j a4,j R,j id,j a8,j aF,j aG,j aQ,j aR,j aS,j aT,j aV,j aW,j aX,j aY,j aH,j aI,j aJ,j aK,j aL,j aM,j aO,j aP,j a3,.bool aZ,.bool a7,j n,.slice aA aE aB])]) p .nil au ⟨rfl,_,_,_,_,bj,bi,.inr (bk ao),rfl⟩
  .exact bs (er (D:=[]) (j:=[]) (C:=[ah S 80 [Z,ai,am,ap,aq,ar,j R,.slice A Q c],E 213 27 A Q c W]) p .nil au ⟨rfl,A,Q,c,W,be,bc,bg,rfl⟩)
 .subst bb;exact(C.fold (N:=[_]) (λh s=>⟨ax,s⟩) (s.perm (List.Perm.swap ..))).perm (List.Perm.swap ..)
def xS(C j:Int):Int:=if ew C&&ew j then(if C>j then 3 else 0)else 2
def JJ(H C I):aY 341 #[j H,j C] I (j (xS H C)) I:=by
 apply aD λ{g F}=>?_;apply dQ (pw H _) _;refine h4 p p p (λE=>?y85) (λE=>?n85)
 case' n85=>
  have D:=E;try simp[nI]at D
  apply dl _
 case' y85=>
  have D:=E;try simp[nI]at D
  apply aC _;apply a9 (pw C _) _
 all_goals
  apply bs _;apply eG p (λh1=>?_) (λh1=>?_)
  .apply eO _;exact⟨by simp_all[cs,xS]<;>(try omega),rfl⟩
  .apply ak _;apply c0 p (λae=>?_) (λae=>?_)
   .apply ak _;refine ba p (.tmp p .nil) a1 ⟨by simp_all[cs,xS]<;>(try omega),rfl⟩
   .apply ak _;refine ba p (.tmp p .nil) a1 ⟨by simp_all[cs,xS]<;>(try omega),rfl⟩
structure d4 where
 kind:Int
 dy:cS
 wn:j8
 x:Int
 hi:Int
@[reducible] def d4.v (q:d4):Value:=.agg #[j q.kind,j q.dy.cN,j q.dy.cQ,j q.dy.c9,j q.dy.cZ,j q.wn.cN,j q.wn.cQ,j q.wn.y,j q.x,j q.hi]
def d4.aQ(q:d4):Bool:=decide (1<=q.kind/\q.kind<=4)
def d4.cj(q:d4):Bool:=decide (q.kind=2\/q.kind=4\/q.kind=7)
def YN(q:d4)(H):aY 263 #[q.v] H (.bool q.cj) H:=by
 apply aD λ{g F}=>?_;apply bP λI=>?_;refine h4 p p p (λD=>?y367) (λD=>?n367)
 case' n367=>
  have j:=D;try simp[nI]at j
  apply ak _
 case' y367=>
  have j:=D;try simp[nI]at j
  apply aC _;refine h4 p p p (λE=>?y368) (λE=>?n368)
  case' n368=>
   have C:=E;try simp[nI]at C
   apply ak _
  case' y368=>
   have C:=E;try simp[nI]at C
   apply ak _
 all_goals
  apply bs _;refine ba p (.tmp p .nil) a1 ⟨by simp_all[cs,d4.cj]<;>(try omega),rfl⟩
def d4.kI(q:d4)(j:aj):Bool:=if q.kind<=2 then q.dy.has j.x j.y else q.wn.u7 j.x j.y
def d4.met(q:d4)(s:t0):Bool:=if q.kind=5 then qc q.x s.lo s.hi else s.DG ⟨0,q.x,q.hi⟩
def abi(A n c l D)(I:Rd D A n l)(ar:n<=100000):
  Y 359 #[.slice A n c,.func (.func 427) #[] #[]] D λv R=>(∃O:Int,v=j O/\decide (0<=O)=l.any (λE=>!ew E))/\R=D:=by
 have h1:=I.len bL;apply bt λ{g F}=>?_;apply cL (λC=>[(0,.slice A n c),(1,.func _ _ _),(7,.int _ _),(8,.int _ (C:Nat))]) (λ_=>F::D) (λC=>C<=n/\(l.take C).any (λE=>!ew E)=al) (λC=>n-C) 0 ⟨bO _,by rfl⟩ aZ a1;rintro C ⟨aq,J⟩;apply ak _;apply c0 p (λZ=>?_) (λZ=>?_)
 .obtain⟨ap,av,rfl,ai⟩:=I.at_ ad;have W:l[C]?=ab _:=b8 ad;have am:=(ai _ _ W).at_ (i:=0) p;have ax:l.take _=l.take C++[l[C]]:=List.take_succ_eq_append_getElem ad;have ah:l[C] ∈l:=List.getElem_mem _;generalize l[C]=Q at*
  have az:=am;apply aC _;apply GE (f4 p p (aec Q _)) _;rintro _ _ ⟨rfl,rfl⟩;apply ak _;apply eG p (λH=>?_) (λH=>?_)
  .apply eO _;exact⟨⟨C,rfl,by rw[cO ad];exact(List.any_eq_true.2 ⟨Q,ah,H⟩).symm⟩,rfl⟩
  .apply ak _;exact b7 (C+1) ⟨ad,by simp_all⟩ ad aZ a1
 .have U:C=n:=ad;subst U;rw[<- h1,List.take_length]at J;apply dk _;exact⟨⟨-1,rfl,by rw[J];rfl⟩,rfl⟩
def YM(A n c l j)(D:Rd j A n l)(E:n<=100000):
  aY 298 #[.slice A n c,.func (.func 427) #[] #[]] j (.bool (l.any (λH=>!ew H))) j:=by
 apply aD λ{g F}=>?_;apply aP (b3 (abi A n c l j D E)) _;rintro _ _ ⟨I,⟨⟨J,rfl,C⟩,rfl⟩,rfl⟩;apply dk _;exact⟨congrArg _ C,rfl⟩
def NQ(b o c E H I J C)(Q:Rd C (ab ⟨b,o,af⟩) 4 [E,H,I,J]):
  aY 377 #[.slice (ab ⟨b,o,af⟩) 4 c] C (j (cS.e7 ⟨E,H,I,J⟩)) C:=by
 have aB:a5 C ⟨b,o+0*1,af⟩ (j E):=by
  let⟨R,W,O,h⟩:=Q.at_ ao;cases O;exact(h 0 E p).at_ (i:=0) p
 have aE:a5 C ⟨b,o+1*1,af⟩ (j H):=by
  let⟨R,W,O,h⟩:=Q.at_ ao;cases O;exact(h 1 H p).at_ (i:=0) p
 have aF:a5 C ⟨b,o+2*1,af⟩ (j I):=by
  let⟨R,W,O,h⟩:=Q.at_ ao;cases O;exact(h 2 I p).at_ (i:=0) p
 have aG:a5 C ⟨b,o+3*1,af⟩ (j J):=by
  let⟨R,W,O,h⟩:=Q.at_ ao;cases O;exact(h 3 J p).at_ (i:=0) p
 apply aD λ{g F}=>?_;apply aP (b3 (YM (ab ⟨b,o,af⟩) 4 c [E,H,I,J] C Q ao)) _;rintro _ _ ⟨ah,⟨rfl,Z⟩,rfl⟩;rw[Z];clear Z ah;apply ak _;apply eG p (λh1=>?_) (λh1=>?_)
 .apply eO _;exact⟨congrArg (Value.int .i64) (by unfold cS.e7;rw[a8 (by intro ae;simp at h1 ae;simp_all)]),rfl⟩
 .have g:ew E=ag/\ew H=ag/\ew I=ag/\ew J=ag:=bo;let⟨av,ax,az,aA⟩:=g;have ap:cS.e7 ⟨E,H,I,J⟩=if E>H\/I>J then 3 else 0:=by simp_all[cS.e7]
  rw[ap];apply ak _;apply cL (ι:=Nat) (λD=>[(0,.slice (ab ⟨b,o,af⟩) 4 c),(3,j (2*D:Nat))]) (λ_=>F::C) (λD=>D<=2/\(0<D->E<=H)/\(1<D->I<=J)) (λD=>2-D) 0 ⟨ao,ao,ao⟩ aZ a1;rintro D ⟨ar,Y,am⟩
  match D with
  |0=>
   apply ak _;apply c0 p (λU=>?_) (λU=>?_)
   .apply eO _;exact⟨congrArg (Value.int .i64) (by rw[bJ ad]),rfl⟩
   .apply ak _;exact b7 1 ⟨ao,ad,ao⟩ ao aZ a1
  |1=>
   have ai:=Y ao;apply ak _;apply c0 p (λU=>?_) (λU=>?_)
   .apply eO _;exact⟨congrArg (Value.int .i64) (by rw[bJ ad]),rfl⟩
   .apply ak _;exact b7 2 ⟨ao,ad,ad⟩ ao aZ a1
  |2=>
   have ai:=Y ao;have aq:=am ao;apply dk _;exact⟨congrArg (Value.int .i64) (by rw[a8 ad]),rfl⟩
def LE(b:cS)(C):aY 339 #[.agg #[j b.cN,j b.cQ,j b.c9,j b.cZ]] C (j b.e7) C:=by
 apply aD λ{g F}=>?_;apply bP λE=>?_;apply bd λD=>?_;apply a9 (NQ D 0 4 _ _ _ _ _ (bf.ah p)) _;refine ba p (.tmp p .nil) a1 bD
def LT(C:j8)(D):Y 340 #[.agg #[j C.cN,j C.cQ,j C.y]] D λv E=>(∃I J O Q:Int,v=.tuple #[.agg #[j I,j J,j O,j Q],j C.dy.e7])/\E=D:=by
 apply aD λ{g F}=>?_;apply bd λR=>?_;apply bP λU=>?_;apply bd λH=>?_;apply a9 (NQ H 0 4 _ _ _ _ _ (bf.ah p)) _;apply c0 p (λh1=>?_) (λh1=>?_)
 .apply ak _;refine ba p (.cell p (eQ cA) (.tmp p .nil)) a1 ⟨⟨_,_,_,_,rfl⟩,rfl⟩
 .have ae:C.dy.e7=0:=by
   show cS.e7 ⟨C.cN,C.cQ,C.y,1099511627776⟩=0;omega
  rw[ae];apply ak _;refine ba p (.cell p (eQ cA) (.tmp p .nil)) a1 ⟨⟨_,_,_,_,rfl⟩,rfl⟩
def d4.e7(q:d4):Int:=
 if q.kind=1\/q.kind=2 then q.dy.e7 else if q.kind=3\/q.kind=4 then q.wn.dy.e7
 else if q.kind=5 then xS q.x q.x else if q.kind=6\/q.kind=7 then xS q.x q.hi else 1
def II(q:d4)(C):aY 259 #[q.v] C (j q.e7) C:=by
 apply aD λ{g F}=>?_;apply bg λah=>?_;refine eG p (λE=>?y105) (λE=>?n105)
 case' n105=>
  apply ak _;refine eG p (λH=>?y110) (λH=>?n110)
  case' n110=>
   apply ak _;refine eG p (λI=>?y115) (λI=>?n115)
   case' n115=>
    apply ak _;refine eG p (λJ=>?y123) (λJ=>?n123)
    case' n123=>
     apply ak _;refine eG p (λO=>?y131) (λO=>?n131)
     case' n131=>
      apply ak _;refine eG p (λQ=>?y141) (λQ=>?n141)
      case' n141=>
       apply ak _;refine eG p (λR=>?y148) (λR=>?n148)
       case' n148=>
        apply dk _;exact⟨congrArg (Value.int .i64) tm,rfl⟩
       case' y148=>
        apply ak _;apply a9 (JJ _ _ _) _;refine ba p (.tmp p .nil) a1 ⟨congrArg (Value.int .i64) tm,rfl⟩
      case' y141=>
       apply ak _;apply a9 (JJ _ _ _) _;refine ba p (.tmp p .nil) a1 ⟨congrArg (Value.int .i64) tm,rfl⟩
     case' y131=>
      apply ak _;apply a9 (JJ _ _ _) _;refine ba p (.tmp p .nil) a1 ⟨congrArg (Value.int .i64) tm,rfl⟩
    case' y123=>
     apply ak _;apply aP (LT q.wn _) _;rintro _ _ ⟨⟨U,W,Y,Z,rfl⟩,rfl⟩;apply ak _;apply bg λD=>?_;refine ba p (.tmp p .nil) a1 ⟨congrArg (Value.int .i64) tm,rfl⟩
   case' y115=>
    apply ak _;apply aP (LT q.wn _) _;rintro _ _ ⟨⟨U,W,Y,Z,rfl⟩,rfl⟩;apply ak _;apply bg λD=>?_;refine ba p (.tmp p .nil) a1 ⟨congrArg (Value.int .i64) tm,rfl⟩
  case' y110=>
   apply ak _;apply a9 (LE q.dy _) _;refine ba p (.tmp p .nil) a1 ⟨congrArg (Value.int .i64) tm,rfl⟩
 case' y105=>
  apply ak _;apply a9 (LE q.dy _) _;refine ba p (.tmp p .nil) a1 ⟨congrArg (Value.int .i64) tm,rfl⟩
def Wv(q:d4)(C):aY 269 #[q.v] C (j q.e7) C:=by
 have D:=II q;apply cR λ{g F}=>?_;repeat' first|apply aF _|apply bd λ_=>?_|refine aM _ _|fail
 all_goals first|contradiction|(apply dk _;exact bD)
def Mv(q:d4)(j):aY 285 #[q.v] j (.bool q.cj) j:=by
 have C:=YN q;apply cR λ{g F}=>?_;repeat' first|apply aF _|apply bd λ_=>?_|refine aM _ _|fail
 all_goals first|contradiction|(apply dk _;exact bD)
def d4.choice(q:d4):List Int:=
 if q.e7≠0 then[]else if q.kind=1 then[1,2]else if q.kind=2 then[2,1]else if q.kind=3\/q.kind=4 then[3,1]else if q.kind=5 then[5,4]else[4,5]
def oS(l:List Int)(C:Q)(v:a2)(j:Q):Prop:=∃A c D,v=.slice A (aa l) c/\aa l<=c/\c<=2/\j=D++C/\Rd j A (aa l) l
theorem oS.nil{j}:oS [] j (.slice af 0 0) j:=⟨af,0,[],rfl,bC _,ao,rfl,Rd.nil _ _⟩
def oS.two{C b E y D l}(H:l=[E,y]):oS l C (.slice (U b) 2 2) (ah b D [j E,j y]::C):=by
 subst H;exact⟨_,2,[ah b D _],rfl,bC 2,bC 2,rfl,bf.ah p⟩
def Yv(q:d4)(U):Y 265 #[q.v] U λv W=>oS q.choice U v W:=by
 apply aD λ{g F}=>?_;apply bP λai=>?_;apply a9 (II q _) _;apply c0 p (λh1=>?_) (λh1=>?_)
 .have ah:q.choice=[]:=by simp[d4.choice,h1]
  rw[ah];apply dk _;exact oS.nil
 .apply ak _;refine eG p (λj=>?y427) (λj=>?n427)
  case' n427=>
   have I:=j;try simp only[decide_eq_true_eq,decide_eq_false_iff_not,gm]at I
   apply ak _;refine eG p (λC=>?y430) (λC=>?n430)
   case' n430=>
    have J:=C;try simp[gm]at J
    apply ak _;refine eG p (λD=>?y433) (λD=>?n433)
    case' n433=>
     have O:=D;try simp[gm]at O
     apply ak _;refine eG p (λE=>?y436) (λE=>?n436)
     case' n436=>
      have Q:=E;try simp[gm]at Q
      apply ak _;refine eG p (λH=>?y439) (λH=>?n439)
      case' n439=>
       have R:=H;try simp[gm]at R
       apply bQ _;apply bg λav=>?_;exact aR (oS.two xz) (cP (.ap (.ap .here)) (k4 (kG cf)))
      case' y439=>
       have R:=H;try simp[gm]at R
       apply bQ _;apply bg λar=>?_;exact aR (oS.two xz) (cP (.ap (.ap .here)) (k4 (kG cf)))
     case' y436=>
      have Q:=E;try simp[gm]at Q
      apply bQ _;apply bg λZ=>?_;exact aR (oS.two xz) (cP (.ap (.ap .here)) (k4 (kG cf)))
    case' y433=>
     have O:=D;try simp[gm]at O
     apply ak _;apply bg λZ=>?_;exact aR (oS.two xz) (cP (.ap (.ap .here)) (k4 (kG cf)))
   case' y430=>
    have J:=C;try simp[gm]at J
    apply bQ _;apply bg λaq=>?_;exact aR (oS.two xz) (cP (.ap (.ap .here)) (k4 (kG cf)))
  case' y427=>
   have I:=j;try simp[gm]at I
   apply bQ _;apply bg λam=>?_;exact aR (oS.two xz) (cP (.ap (.ap .here)) (k4 (kG cf)))
end
structure bM where
 P:List aj
 S:List aj
 v:Int
 k:Nat
 dD:Nat
 ai:aj
structure A8 (D:Nat) (C S:List aj):Prop where
 ip:hU C
 is:hU S
 zy:∀j∈C,fe j=ag
 gs:∀j∈S,fe j=ag/\j.x<=j.y
 h8:C.length+S.length<=D
def k2(j:Nat)(C:aj):bZ:=if j<=2 then⟨j,C,f2⟩else⟨j,f2,C⟩
def bM.c(j:bM):bZ:=k2 j.k j.ai
def bM.hm(j:bM):List aj:=mM j.P j.c
def bM.hn(j:bM):List aj:=mN j.S j.c
def nS(E:Nat)(D S:List aj)(j:Nat)(C:aj):Prop:=ex D S E (k2 j C)=0/\(j=2->C∈D)/\(j=4->C∈S)
structure bM.ok (C:Nat) (j:bM):Prop where
 i:A8 C j.P j.S
 le:C<=30
 u:j.k=0\/(1<=j.k/\j.k<=4/\j.dD< (if j.k<=2 then 4 else 3)/\nS C j.P j.S j.k j.ai)
section
variable{P S:List aj}{D k:Nat}{ai q s:aj}{c:bZ}
def Dn(h:ex P S D ⟨1,ai,s⟩=0):fe ai=ag/\dW P ai.id=al/\aa P+aa S<D:=by
 simp[ex,bZ.iA,bZ.id,bZ.mH,fe,l7,qG]at*
 grind
def Do(h:ex P S D ⟨3,s,ai⟩=0):fe ai=ag/\ai.x<=ai.y/\dW S ai.id=al/\aa P+aa S<D:=by
 simp only[ex,bZ.iA,bZ.id,bZ.jZ,bZ.mH,fe,l7,qG]at*
 grind
theorem H7(D ai q):ex P S D ⟨2,ai,q⟩=if qG ai.id=al then 1 else if dW P ai.id then 0 else 6:=by simp_all[ex,bZ.iA,bZ.known,bZ.id,bZ.jZ,bZ.mH,qG]
theorem H8(D ai q):ex P S D ⟨4,q,ai⟩=if qG ai.id=al then 1 else if dW S ai.id then 0 else 6:=by simp_all[ex,bZ.iA,bZ.known,bZ.id,bZ.jZ,bZ.mH,qG]
def ado(h:ex P S D c=0):c.k=1\/c.k=2\/c.k=3\/c.k=4:=by
 by_cases h1:c.known=al
 .simp_all[ex,bZ.iA]
 .have:c.known=ag:=bo;simp[bZ.known,Bool.and_eq_true,decide_eq_true_eq]at this;omega
def adq(P S D c):ex P S D c=0\/∃j∈ [1,2,3,4,5,6],ex P S D c=(j:Nat):=by
 have C:c.iA=0\/c.iA=1\/c.iA=2\/c.iA=3:=by
  grind[bZ.iA]
 unfold ex;grind
def G1{l n}(h:dW l n=ag):∃q∈l,q.id=n:=by simp_all[wZ]
theorem nS.of(h:ex P S D c=0):∃k ai,c.k=(k:Nat)/\1<=k/\k<=4/\nS D P S k ai/\(k=1->ai=c.ai)/\(k=3->ai=c.s)/\(k=2->ai.id=c.ai.id)/\(k=4->ai.id=c.s.id):=by
 let⟨k,ai,s⟩:=c;rcases ado h with e|e|e|e<;>(replace e:=e;subst e)
 .exact⟨1,ai,rfl,ao,ao,⟨by assumption,λh=>ad,λh=>ad⟩,λ_=>rfl,λh=>ad,λh=>by rfl,λh=>ad⟩
 .have ae:=h;rw[H7]at ae;have j:dW P ai.id=ag:=by
   grind
  let⟨q,aF,aM⟩:=G1 j;exact⟨2,q,rfl,ao,ao,⟨by rw[k2,bJ ao];show ex P S D ⟨2,q,f2⟩=0;rw[H7,aM,<- H7 D ai s];exact h,λ_=>aF,λh=>ad⟩,λh=>ad,λh=>ad,λ_=>aM,λh=>ad⟩
 .exact⟨3,s,rfl,ao,ao,⟨by assumption,λh=>ad,λh=>ad⟩,λh=>ad,λ_=>rfl,λh=>ad,λh=>by rfl⟩
 .have ae:=h;rw[H8]at ae;have j:dW S s.id=ag:=by
   grind
  let⟨q,aF,aM⟩:=G1 j;exact⟨4,q,rfl,ao,ao,⟨by rw[k2,a8 ao];show ex P S D ⟨4,f2,q⟩=0;rw[H8,aM,<- H8 D s ai];exact h,λh=>ad,λ_=>aF⟩,λh=>ad,λh=>ad,λh=>ad,λ_=>aM⟩
def uJ{l ai}(h:dW l ai.id=al):ai∉l:=λk=>by
 grind[wZ]
def zU{l ai}:ai∈gN l ai:=(oV l ai).mem_iff.2 List.mem_cons_self
def Od{l ai}(j:hU l)(h:dW l ai.id=al):(hT (gN l ai) ai.id).Perm l:=by grind[sQ,zF,oV]
def MM{l ai}(j:hU l)(h:ai∈l):(gN (hT l ai.id) ai).Perm l:=by grind[oV,sQ]
def PI{l ai}(j:hU l)(h:ai∈l):dW (hT l ai.id) ai.id=al:=by
 cases H:dW _ _ with
 |false=>rfl
 |true=>
  let⟨q,aF,aM⟩:=G1 H;rw[sQ j h]at aF;have:=j.inj (List.mem_of_mem_erase aF) h aM;have I:l.Nodup:=(U4 _ (λa b E C=>E (congrArg _ C)) j);grind
theorem Ci{l ai}(j:hU l)(h:ai∈l):aa (hT l ai.id)+1=aa l:=by grind[sQ,List.length_pos_of_mem]
def A8.idle(h:A8 D P S)(J:nS D P S k ai)(R:1<=k)(U:k<=4):A8 D (mM P (k2 k ai)) (mN S (k2 k ai)):=by
 let⟨C,E,H⟩:=J;have O:k=1\/k=2\/k=3\/k=4:=ad;rcases O with rfl|rfl|rfl|rfl
 .rw[show k2 1 ai=⟨1,ai,f2⟩from rfl]at*
  rw[show mM P _=gN P ai by rfl,show mN S _=S by rfl];let⟨a,b,I⟩:=Dn C;exact⟨zF h.ip b,h.is,λq j=>by
   rcases df.1 ((oV P ai).mem_iff.1 j)with rfl|j
   .omega
   .exact h.zy q j,h.gs,by rw[v8];omega⟩
 .rw[show k2 2 ai=⟨2,ai,f2⟩from rfl]at*
  rw[show mM P _=hT P ai.id by rfl,show mN S _=S by rfl];exact⟨PU h.ip,h.is,λq j=>h.zy q (by rw[sQ h.ip (E p)]at j;grind),h.gs,by have:=Ci h.ip (E p);have:=h.h8;omega⟩
 .rw[show k2 3 ai=⟨3,f2,ai⟩from rfl]at*
  rw[show mM P _=P by rfl,show mN S _=gN S ai by rfl];let⟨a,Q,b,I⟩:=Do C;exact⟨h.ip,zF h.is b,h.zy,λq j=>by
   rcases df.1 ((oV S ai).mem_iff.1 j)with rfl|j
   .trivial
   .exact h.gs q j,by rw[v8];omega⟩
 .rw[show k2 4 ai=⟨4,f2,ai⟩from rfl]at*
  rw[show mM P _=P by rfl,show mN S _=hT S ai.id by rfl];exact⟨h.ip,PU h.is,h.zy,λq j=>h.gs q (by rw[sQ h.is (H p)]at j;grind),by have:=Ci h.is (H p);have:=h.h8;omega⟩
end
section
attribute [local irreducible] C bh b6
def BI(A n c j):Y 670 #[.slice A n c] j λv C=>∃b,v=.func (.func 675) #[] #[I b]/\C=ah b 156 [.slice A n c]::j:=by
 refine aD ?_;refine bg λD=>?_;exact aR ⟨D,rfl,rfl⟩
def aiN{S:Type}(l b A n c J)(E:Nat->S->List aG)(Inv:Nat->S->Prop)(Z:∀C s,Inv C s->Rd (E C s) A n J)(aH:n<=1000000000)
  (ax:∀C s ai,J[C]?=ab ai->Inv C s->iP ar l [j ai] (E C s) λq O=>q=ag/\∃H,Inv (C+1) H/\O=E (C+1) H) (Q) (W:Inv 0 Q):
  Y 675 #[Value.func (.yield l) #[] #[],I b] (ah b 156 [.slice A n c]::E 0 Q) λv O=>v=.tuple #[]/\∃H,Inv n H/\O=ah b 156 [.slice A n c]::E n H:=by
 have aF:=(Z 0 Q W).len bL;refine bt λ{g F}=>?_;apply cL (ι:=Nat×S) (λD=>[(0,Value.func (.yield l) #[] #[]),(5,.slice A n c),(6,j (n:Nat)),(7,j (D.1:Nat))]) (λD=>F::ah b 156 [.slice A n c]::E D.1 D.2) (λD=>D.1<=n/\Inv D.1 D.2) (λD=>n-D.1) (0,Q) ⟨bO _,W⟩ aZ a1;rintro⟨C,s⟩ ⟨aE,R⟩;apply ak _;refine c0 p (λap=>?_) (λap=>?_)
 .obtain⟨am,aA,rfl,aB⟩:=(Z C s R).at_ ad;have U:J[C]?=ab J[C]:=b8 ad;have aJ:=(aB _ _ U).at_ (i:=0) p;have az:=ax C s _ U R;generalize J[C]=aI at*
  apply ak _;refine vN p p p (iP.frame [F,ah b 156 [.slice (ab ⟨am,aA,af⟩) n c]] az cT) ?_;rintro q O ⟨aD,⟨rfl,H,av,rfl⟩,rfl⟩;refine a6 (gz p) ?_;apply ak _;exact b7 (C+1,H) ⟨ad,av⟩ ad aZ a1
 .have aq:C=n:=ad;subst aq;exact bs (er (D:=[]) (j:=[]) (C:=ah b 156 [.slice A C c]::E C s) p .nil a1 ⟨rfl,s,R,rfl⟩)
def U9(b A n c)(D:List Int)(Q)(az:Rd Q A n D)(aJ:n<=1000000000):
  Y 680 #[.slice af 0 0,.func (.func 675) #[] #[I b]] (ah b 156 [.slice A n c]::Q) λv ax=>∃R H,v=.slice R (aa D) H/\((0<aa D->∃b,R=(U b))/\aa D<=H/\H<=maxLen)/\ax=E 3 1 R (aa D) H (J D)::ah b 156 [.slice A n c]::Q:=by
 have aG:=az.len bL;refine vI Tryz.func680 p p p ?_;intro g F aA;apply bQ _;apply bg λW=>?_;apply bp (E.c7 3 1);refine yw (U:=λaR aq=>aR=af/\∃s:Option _×Nat,((0<n->∃b,s.1=(U b))/\n<=s.2/\s.2<=maxLen)/\aq=E 3 1 s.1 n s.2 (J (D.take n))::ah W 156 [.slice s.1 n s.2]::F::ah b 156 [.slice A n c]::Q) (by rw[<- aA];rfl) p p ?_ ?_ ?_
 .intro l Z aD aE;have aM:=aiN (S:=Option Addr×Nat) l b A n c D
   (λC s=>bR l (aD .ready af)::bR Z (.deferred (ab []))::E 3 1 s.1 C s.2 (J (D.take C))::ah W 156 [.slice s.1 C s.2]::F::Q)
   (λC s=>(0<C->∃b,s.1=(U b))/\C<=s.2/\s.2<=maxLen)
   (λC s _=>az.ap.ap.ap.ap.ap) aJ ?_ (af,0) ⟨db,bC _,bO _⟩
  .apply(O.pre au aM).cr;rintro v ax aH ⟨rfl,s,aL,rfl⟩ aW;refine⟨_,⟨.ready,af,_,ao,⟨rfl,s,aL,rfl⟩,rfl⟩,?_⟩;revert aH;exact au
  .intro C s ai aY ⟨aO,aP,aQ⟩;have aV:C<n:=bv;have av:D.take (C+1)=D.take C++[ai]:=by
    simp_all[List.take_add_one]
   have aX:aa (D.take C)=C:=bv;apply aE (ι:=Unit) (τ:=λ_=>[(2,I W),(5,j ai)]) (M:=λ_=>bR Z (.deferred (ab []))::E 3 1 s.1 C s.2 (J (D.take C))::ah W 156 [.slice s.1 C s.2]::F::Q) (Fy:=λ_=>True) _ _
   .intro g aB _ _;apply ak _;exact vR () trivial aZ a1
   .intro g aB _ _ _ _;apply aC _;apply bd λaS=>?_;apply fz λam ar aF aI aK=>?_;have aT:J (D.take (C+1))=J (D.take C)++[j ai]:=by rw[av,<- gi];rfl
    exact vQ (bR Z (.deferred (ab []))::E 3 1 am (C+1) ar (J (D.take C)++[j ai])::ah W 156 [.slice am (C+1) ar]::F::Q) ⟨rfl,(am,ar),⟨aK,aF,aI⟩,by grind⟩ au
 .rintro Z aq ⟨-,⟨R,H⟩,⟨aO,aP,aQ⟩,rfl⟩;have av:D.take n=D:=List.take_of_length_le ad;rw[av];apply ak _;exact vP [Z] rfl (by rw[<- aA];rfl) p ds (M:=E 3 1 R n H (J D)::ah W 156 [.slice R n H]::F::ah b 156 [.slice A n c]::Q) (j:=E 3 1 R n H (J D)::ah b 156 [.slice A n c]::Q) au au ⟨R,H,by rw[aG];rfl,by simp_all,by simp_all⟩
 .rintro Z H aq ⟨h,_⟩;cases h
def Vg(b A n c)(j:List Int)(H)(R:Rd H A n j)(W:n<=1000000000):
  Y 674 #[.func (.func 675) #[] #[I b]] (ah b 156 [.slice A n c]::H) λv Q=>∃D C,v=.slice D (aa j) C/\((0<aa j->∃b,D=(U b))/\aa j<=C/\C<=maxLen)/\Q=E 3 1 D (aa j) C (J j)::ah b 156 [.slice A n c]::H:=by
 refine aD ?_;refine aP (O.pick aN (U9 b A n c j _ R.ap W)) ?_;rintro _ _ ⟨D,C,rfl,⟨Z,ai,am⟩,rfl⟩;apply ak _;exact aR ⟨D,C,rfl,⟨Z,ai,am⟩,rfl⟩
def BH(b A n c j H)(Q:Rd H A n j)(Z:n<=1000000000):
  Y 669 #[.func (.func 675) #[] #[I b]] (ah b 156 [.slice A n c]::H) λv W=>∃D C,v=.slice D (aa j) C/\((0<aa j->∃b,D=(U b))/\aa j<=C/\C<=maxLen)/\W=E 3 1 D (aa j) C (J (b5 j))::ah b 156 [.slice A n c]::H:=by
 have aq:=Q.len bL;refine aD ?_;refine aP (O.pick aN (Vg b A n c j _ Q.ap Z)) ?_;rintro _ _ ⟨D,C,rfl,⟨R,ai,am⟩,rfl⟩;apply aC _;refine a9 (O.pick aN (En D _ C j _ R p ad)) ?_;exact aR ⟨D,C,rfl,⟨R,ai,am⟩,rfl⟩
instance:su ar 371:=⟨cq⟩
@[reducible] def hR (C b:Nat) (q:d4) (E:Int) (A:a3) (n D:Nat):List Value:=[.iface C (I b),j q.kind,j q.dy.cN,j q.dy.cQ,j q.dy.c9,j q.dy.cZ,j q.wn.cN,j q.wn.cQ,j q.wn.y,j q.x,j q.hi,j E,.slice A n D]
def O.GU{E I args}{j M:Q}{H:a2->Prop}(D:Q)(h:O E I args j λv C=>H v/\C=j)(J:aS M (D++j)):O E I args M λv C=>H v/\C=D++j:=
 (O.frame D h J).mono λv C ⟨U,⟨R,W⟩,Y⟩=>⟨R,by simp_all⟩
section
variable(c b T:Nat)(q:d4)(of:Int)(A:a3)(n d:Nat)(L:Q)
def Gj:aY 283 #[I c] (ah c 373 (hR T b q of A n d)::L) (.bool ag) (ah c 373 (hR T b q of A n d)::L):=by
 refine bt ?_;refine a6 (ZZ p) ?_;apply ak _;exact aR bD
def y9{E:FuncId}[g8 ar T "Step" E][cu ar E]{H:List aG->Prop}(R:Y E #[I b,j 1] L λv D=>(∃n d,v=.tuple #[j n,.bool d])/\H D):
  Y 200 #[I c,j 1] (ah c 373 (hR T b q of A n d)::L) λv D=>(∃n d,v=.tuple #[j n,.bool d])/\∃C,H C/\D=ah c 373 (hR T b q of A n d)::C:=by
 refine aD ?_;refine dQ (O.pick aN (Gj c b T q of A n d _)) ?_;refine GE (Cm p p (b3 R)) ?_;rintro _ _ ⟨_,⟨⟨W,U,rfl⟩,J⟩,rfl⟩;apply ak _
 rename_i C
 apply ak _;exact aR ⟨⟨_,_,rfl⟩,C,J,rfl⟩ (λ_ s=>s.swap)
def YT{C:FuncId}[g8 ar T "Done" C][cu ar C](D:Y C #[I b] L λv j=>(∃d,v=.bool d)/\j=L):
  Y 267 #[I c] (ah c 373 (hR T b q of A n d)::L) λv j=>(∃d,v=.bool d)/\j=ah c 373 (hR T b q of A n d)::L:=by
 refine aD λ{g F}=>?_;apply a9 (O.pick aN (Gj c b T q of A n d _)) _;refine GE (Cm p p (O.GU [ah c 373 (hR T b q of A n d),F] D cT)) ?_;rintro _ _ ⟨⟨E,rfl⟩,rfl⟩;apply ak _;exact aR ⟨⟨_,rfl⟩,rfl⟩ (λ_ s=>s.swap)
def y7{W Z ai:FuncId}[g8 ar T "Done" W][cu ar W][g8 ar T "N" Z][cu ar Z][g8 ar T "IDs" ai][cu ar ai](az:Y W #[I b] L λv R=>(∃d,v=.bool d)/\R=L)
  (aE:Y Z #[I b] L λv R=>(∃d,v=j d)/\R=L) (aA:q.cj=al->n=0/\Y ai #[I b] L (yy L)):
  Y 203 #[I c] (ah c 373 (hR T b q of A n d)::L) λv R=>∃(aG:Int) (C:a3) (D:Nat) (l:List Int) (aH:Bool),v=.tuple #[.agg #[j aG,.slice C (aa l) D],.bool aH]/\((0<aa l->∃b,C=(U b))/\aa l<=100000000)/\R=E 3 1 C (aa l) D (J l)::ah c 373 (hR T b q of A n d)::L:=by
 have ap:∀(h:0<aa ([]:List Int)),∃b,(af:a3)=(U b):=db;refine aD λ{g F}=>?_;apply bP λH=>?_;apply a9 (O.pick aN (Gj c b T q of A n d _)) _;apply aP (O.GU [F,ah H _ _] (YT c b T q of A n d L az) au) _;rintro _ _ ⟨⟨aq,rfl⟩,rfl⟩;apply ak _;cases aq with
 |false=>
  apply ak _;apply bp (E.c7 3 1);apply eX _;exact⟨_,⟨0,af,0,[],al,rfl,⟨ap,ao⟩,rfl⟩,au⟩
 |true=>
  apply aC _;apply a9 (Mv q _) _;refine c0 p (λam=>?_) (λam=>?_)
  .apply bs _;refine pu (bE [0,1,2,3,5,6,7,8,9] (.e 4 (.q 10 (.q 11 (.e 12 (.q 13 .nil)))))) bN cq ?_;apply ak _;refine bF (bW p p p (Cm p p (O.GU [ah c 373 (hR T b q of A n d),F,ah H 158 [j 0,.slice af 0 0]] aE au)) ?_);rintro _ _ ⟨⟨aI,rfl⟩,rfl⟩;apply cV _;refine fc p (O2 p p) ?_;apply ak _;apply bp (E.c7 3 1);apply eX _;exact⟨_,⟨_,af,0,[],ag,rfl,⟨ap,ao⟩,rfl⟩,au⟩
  .obtain⟨av,aB⟩:=aA (cw am);subst av;apply aC _;refine GE (Cm p p (b3 aB)) ?_;rintro _ _ ⟨_,⟨C,D,l,rfl,ax,aF,rfl⟩,rfl⟩;apply aC _;apply cc;apply fV _;apply ef (ι:=Unit) (λ_=>[(2,I H),(4,.slice C (aa l) D)]) (λ_=>E 3 1 C (aa l) D (J l)::ah c 373 (hR T b q of A 0 d)::F::ah H 158 [j 0,.slice af 0 0]::L) (λ_=>True) _ _
   .apply bs _;apply cL (ι:=Unit) (λ_=>[(2,I H),(4,.slice C (aa l) D),(42,j 0),(43,j 0)]) (λ_=>E 3 1 C (aa l) D (J l)::ah c 373 (hR T b q of A 0 d)::F::ah H 158 [j 0,.slice af 0 0]::L) (λ_=>True) (λ_=>0) () trivial aZ au;rintro⟨⟩-;apply ak _;exact cC () trivial aZ a1
   .rintro⟨⟩-;apply eX _;exact⟨_,⟨_,C,D,l,ag,rfl,⟨ax,aF⟩,rfl⟩,au⟩
end
def d4.aeA(q:d4)(l:List aj):List Int:=(l.filter λj=>q.aQ&&q.kI j).map (·.id)
def d4.agj(q:d4)(l:List t0):List Int:=(l.filter λs=>!q.aQ&&q.met s).map (·.id)
def d4.ids(q:d4)(l:List aj)(j:List t0):List Int:=q.aeA l++q.agj j
def d4.n(q:d4)(l:List aj)(j:List t0):Nat:=if q.e7≠0 then 0 else aa (q.ids l j)
def d4.out(q:d4)(l:List aj)(j:List t0):List Int:=if q.e7≠0 then[]else if q.cj then[]else b5 (q.ids l j)
end
section
open Go.RowKit Go.Sort
instance:Inhabited aj:=⟨f2⟩
theorem Pg(l):flatK (λQ:aj=>d3.hq Q) 3 l.toArray=(J l).toArray:=by
 have R:aa (J l)=aa l*3:=ck l;apply Array.ext
 .simp_all
 .intro j h1 ae;have U:j<aa l*3:=bo;have an:j/3<aa l:=ad;have H:=b8 an;have I:j % 3<aa (d3.hq l[j/3]):=by rw[d3.len];show j % 3<3;omega
  have C:=uo H _ _ (b8 I);have D:j/3*3+j % 3=j:=ad;have E:=(congrArg _ D).symm.trans C;have O:j<aa (J l):=ad;rw[b8 O]at E;simp[flatK,List.getElem_toArray];simp_all
theorem Sp{l}{j:Array aj}(h:PermIn 0 l.toArray.size l.toArray j):j.toList.Perm l:=by
 obtain⟨h1,ae,an⟩:=h;grind[Array.extract_size]
def ag1{j}{C:aj->aj->Bool}(h:SortedIn C 0 j.size j):j.toList.Pairwise λI y=>C y I=al:=by
 rw[List.pairwise_iff_getElem];intro E H J O D;have:=h E H (bO _) D ad;grind
theorem Dm(j y):ltOf (λj y:aj=>sm j.id y.id) j y=decide (j.id<y.id):=by
 unfold ltOf sm;grind
def Ui:SWO (ltOf λj y:aj=>sm j.id y.id)where
 irrefl:=λj=>by rw[Dm];simp
 trans:=λj y C h1 ae=>by grind[Dm]
 ntrans:=λj y C h1 ae=>by grind[Dm]
theorem I8:∀{l j:List aj},l.Perm j->l.Pairwise (λx y=>decide (y.id<x.id)=al)->j.Pairwise (λx y=>x.id<y.id)->l=j
 | [],j,C,_,_=>by simp_all
 |x::l,[],C,_,_=>by simp_all
 |x::l,y::j,C,h1,ae=>by
  have E:=gH.1 h1;have H:=gH.1 ae;have D:x=y:=by
   grind
  subst D;rw[I8 (U6 C) E.2 H.2]
end
section
open Go.RowKit Go.Sort Go.Shelf
def XV(C y:aj)(D):Calls ar 42 #[.agg #[j C.id,j C.x,j C.y],.agg #[j y.id,j y.x,j y.y]] D λE I=>E=.returned (j (sm C.id y.id))/\∃q O,I=grow (D.drewN q) O:=by
 have H:=λJ=>Tryz.cmp_Compare_int C.id y.id J;generalize sm _ _=Q at H ⊢
 go_enter Tryz.func42,Tryz.ntmps42
 go_wp2_with (go_at_call 43;apply(H _).mono;rintro E I ⟨rfl,rfl⟩)
 go_ret
 exact⟨rfl,0,_,by rw[alloc_eq_grow,alloc_eq_grow,grow_grow];rfl⟩
def XW(C y:aj)(D):Calls ar 46 #[.agg #[j C.id,j C.x,j C.y],.agg #[j y.id,j y.x,j y.y]] D λE I=>E=.returned (j (sm C.id y.id))/\∃q O,I=grow (D.drewN q) O:=by
 have H:=λJ=>Tryz.cmp_Compare_int C.id y.id J;generalize sm _ _=Q at H ⊢
 go_enter Tryz.func46,Tryz.ntmps46
 go_wp2_with (go_at_call 43;apply(H _).mono;rintro E I ⟨rfl,rfl⟩)
 go_ret
 exact⟨rfl,0,_,by rw[alloc_eq_grow,alloc_eq_grow,grow_grow];rfl⟩
def tt(l:List aj):Prop:=l.Pairwise λj y=>decide (y.id<j.id)=al
def T8{ah ai g H}(b n c l)(W:Q)(aP:aa l=n)(aO:n<=1000000)
  (h:∀D,HoldsK (λR:aj=>d3.hq R) 3 D b 0 l.toArray->b<D.heap.size->Calls ah ai #[.slice (U b) l.toArray.size c,.func (.func g) #[] #[]] D λH am=>H=.returned (.tuple #[])/\∃C n Y,PermIn 0 l.toArray.size l.toArray C/\SortedIn (ltOf λap y:aj=>sm ap.id y.id) 0 l.toArray.size C/\am=sortWorldK (λR:aj=>d3.hq R) 3 D b 0 n C Y):
  O ah ai #[.slice (U b) n c,.func (.func g) #[] #[]] (E H 3 (U b) n c (J l)::W) λv Z=>v=.tuple #[]/\∃j:List aj,j.Perm l/\tt j/\Z=E H 3 (U b) n c (J j)::W:=by
 have ae:=Tt (Y:=H) (am:=3) (eA:=λaq=>∃j:List aj,j.Perm l/\tt j/\aq=J j) b n c _ W λD aL ax=>by
  have av:HoldsK (λR:aj=>d3.hq R) 3 D b 0 l.toArray:=by unfold HoldsK;rw[Pg];omega
  have I:l.toArray.size=n:=ad;have an:=h D av ax;rw[I]at an;refine an.mono λaK am ⟨aF,C,aA,Y,aM,aG,aH⟩=>⟨aF,J _,aA,Y,⟨C.toList,Sp (I.symm▸aM),?_,rfl⟩,?_,?_⟩
  .have az:C.size=n:=by rw[aM.1];omega
   have aI:=ag1 (az.symm▸aG);exact aI.imp λ{ap y} aJ=>by rw[Dm]at aJ;omega
  .rw[ck,ck,(Sp (I.symm▸aM)).length_eq]
  .rw[aH];unfold sortWorldK putRowK;rw[show C=C.toList.toArray by rfl,Pg]
 exact ae.mono λv Z ⟨I,aq,⟨j,aB,aD,aE⟩,ar⟩=>⟨I,j,aB,aD,aE▸ar⟩
def R8(j:aj):∀v∈(d3.hq j:bz),v.oneCell'=ag:=d3.one j
def agW(A:a3)(n c l)(j:Q)(W:0<n->∃b,A=(U b))(I:aa l=n)(ai:n<=1000000):
  Y 69 #[.slice A n c,.func (.func 42) #[] #[]] (E 42 3 A n c (J l)::j) λv O=>v=.tuple #[]/\∃D:List aj,D.Perm l/\tt D/\O=E 42 3 A n c (J D)::j:=by
 rcases hh n with C|C
 .subst C;have ap:=gX I;subst ap;intro g F H am;refine(AnyF.slices_SortFunc_none Tryz.sortP A c _ H).mono λav ax ⟨h1,ae⟩=>?_;subst ae;exact⟨_,_,h1,⟨rfl,[],.refl _,.nil,rfl⟩,am⟩
 .obtain⟨b,rfl⟩:=W C;apply T8 b n c l j I ai λH Z ah=>?_;have R:=enters_of Tryz.func42 bN p;exact AnyQ.slices_SortFunc Tryz.sortP 3 Tryz.isAgg42 Tryz.sizeOf42 _ (λaq=>d3.len aq) R8 _ Ui 42 _ b 0 c _ H R (λ_ _ _ _ ar y=>XV ar y _) Z ah bv
def agX(A:a3)(n c l)(j:Q)(W:0<n->∃b,A=(U b))(I:aa l=n)(ai:n<=1000000):
  Y 73 #[.slice A n c,.func (.func 46) #[] #[]] (E 44 3 A n c (J l)::j) λv O=>v=.tuple #[]/\∃D:List aj,D.Perm l/\tt D/\O=E 44 3 A n c (J D)::j:=by
 rcases hh n with C|C
 .subst C;have ap:=gX I;subst ap;intro g F H am;refine(AnyF.slices_SortFunc_none Tryz.sortS A c _ H).mono λav ax ⟨h1,ae⟩=>?_;subst ae;exact⟨_,_,h1,⟨rfl,[],.refl _,.nil,rfl⟩,am⟩
 .obtain⟨b,rfl⟩:=W C;apply T8 b n c l j I ai λH Z ah=>?_;have R:=enters_of Tryz.func46 bN p;exact AnyQ.slices_SortFunc Tryz.sortS 3 Tryz.isAgg44 Tryz.sizeOf44 _ (λaq=>d3.len aq) R8 _ Ui 46 _ b 0 c _ H R (λ_ _ _ _ ar y=>XW ar y _) Z ah bv
end
section
attribute [local irreducible] C bh b6
structure dJ where
 n:Nat
 lt:n<256
instance:d3 dJ:=⟨1,λa=>[.int .u8 (a.n:Int)],λ_=>rfl,λ_ v h=>by simp at h;subst h;rfl⟩
def Ng(A n c)(l:List dJ)(j)(H:Rd j A n l)(Z:n<=100000000):
  Y 208 #[.slice A n c] j λv I=>Made 5 l j v I:=by
 have h1:=H.len bL;refine AN ?_;refine eG p (λae=>?_) (λae=>?_)
 .have O:A=af:=bo;have an:n=0:=by
   rcases hh n with h|h
   .omega
   .obtain⟨b,o,O,_⟩:=H.at_ h;grind
  subst an;have:=gX h1;subst this;apply ak _;refine ba rfl ds ?_ ⟨af,0,rfl,db,rfl⟩;exact λh s=>(E.c7 5 1 h s).swap
 .apply ak _;apply bP λU=>?_;apply fz λC D Q W R=>?_;rw[h3]at Q R;apply bs _;refine ba (C:=E 5 1 C (aa l) D (J l)::j) p ds ?_ ⟨C,D,by rw[h1];simp[cs],by simp_all,rfl⟩;rw[h1,h3,List.nil_append];apply cP (.ap (.here));exact cP (.here) a1
instance:qo ar 5 .u8:=⟨cq⟩
instance:qo ar 3 .i64:=⟨cq⟩
theorem UT(a:dJ):IntKind.i64.wrap (a.n:Int)=(a.n:Nat):=oD _ (by have:=a.lt;omega)
def ait(a b:dJ):∃j:Nat,j<=65535/\qw .or .i64 (IntKind.i64.wrap ((a.n:Int)*2 ^ min (tL 8) IntKind.i64.bits)) (b.n:Int)=(j:Int):=by
 have h1:=a.lt;have ae:=b.lt;have C:IntKind.i64.wrap ((a.n:Int)*2 ^ min (tL 8) IntKind.i64.bits)=((a.n*256:Nat):Int):=by
  have:((a.n:Int)*2 ^ min (tL 8) IntKind.i64.bits)=((a.n*256:Nat):Int):=by
   rfl
  rw[this];exact oD _ ad
 rw[C];have an:a.n*256|||b.n<65536:=Nat.or_lt_two_pow (n:=16) ad ad
 refine⟨a.n*256|||b.n,ad,?_⟩;show IntKind.i64.wrap (hf 64 _|||hf 64 _).toNat= _;have D:(hf 64 ((a.n*256:Nat):Int)|||hf 64 (b.n:Int)).toNat=a.n*256|||b.n:=by
  rw[BitVec.toNat_or,Ko,Ko,Kp,Kp,LO ad,LO ad]
 rw[D];exact oD _ ad
@[reducible] def JQ (A:a3) (n c:Nat) (C:Int) (D:Bool):List Value:=[.slice A n c,j C,.bool D]
section
variable(t:Nat)(A:a3)(n c:Nat)(bT:Int)(z:Bool)(l:List dJ)
def ag8(C)(h:aU C t 0 3 (JQ A n c bT z))(E:Rd C A n l):Y 290 #[I t] C λv O=>(∃(D:Nat) (J:Bool),v=.tuple #[j (D:Nat),.bool J]/\D<=65535/\(J=ag->2<=n))/\O=C:=by
 have ai:=h.at_ (i:=0) p;have am:=E.len bL;refine cR ?_;refine bQ ?_;iterate 2 apply ay _
 apply ee _;iterate 5 apply ay _
 (first|refine a6 _ ?_|refine a6 (rA p p) ?_)
 refine ak ?_;rcases dZ n 2 with ae|ae
 .apply eO _;exact⟨⟨0,al,rfl,ad,λh=>(by cases h)⟩,rfl⟩
 .apply bs _;refine e9 p (cw ad) ?_;have R:l[0]?=ab _:=b8 ad;have U:l[1]?=ab _:=b8 ad;obtain⟨ap,aq,rfl,H⟩:=E.at_ ad;have Z:=(H _ _ R).at_ (i:=0) p;have ah:=(H _ _ U).at_ (i:=0) p;generalize l[0]=a at*
  generalize l[1]=b at*
  have ar:=Z;have av:=ah;obtain⟨D,W,Q⟩:=ait a b;apply ak _;refine fc p (n2 rfl) ?_;refine fc p (GH p p ao) ?_;iterate 4 apply bu _
  refine fc p (iV (j:=1) p p ad) ?_;apply bu _;refine fc p (n2 (k:=.u8) (rJ:=.i64) p) ?_;apply dY _;rw[UT,UT,Q];apply dk _;exact⟨⟨D,ag,rfl,W,λ_=>ae⟩,rfl⟩
end
structure ja where
 A:Option Addr
 n:Nat
 c:Nat
 bT:Int
 z:Bool
 l:List dJ
 M:aG
structure ja.ok (y:ja) (k:Nat):Prop where
 r:∀L,Rd (y.M::L) y.A y.n y.l
 c:y.n<=y.c
 k:y.n<=k
@[reducible] def ja.L (y:ja) (j:Nat):List aG:=[ah j 146 (JQ y.A y.n y.c y.bT y.z),y.M]
def Wt(H:Nat)(y:ja)(C:Nat)(v:a2)(D:Q):Prop:=
 (v=.tuple #[.slice af 0 0,.bool al]/\∃j:ja,j.ok C/\j.n<=y.n/\D=j.L H)\/∃(A:a3) (c:Nat) (l:List dJ) (j:ja),v=.tuple #[.slice A (aa l) c,.bool ag]/\(0<aa l->∃b,A=(U b))/\aa l<=C/\j.ok C/\j.n<y.n/\D=E 5 1 A (aa l) c (J l)::j.L H
def agS(C y U)(aq:y.ok U)(aI:U<=100000000):Y 209 #[I C] (y.L C) (Wt C y U):=by
 have ar:=aq;let⟨A,n,c,O,W,l,M⟩:=y;let⟨D,am,aB⟩:=aq;simp at D am aB;have aD:=λax=>ag8 C A n c O W l (ax::M:: [ah C 146 (JQ A n c O W)]) (aU.ap (aU.ap (aU.ah p))) (Rd.ap (D _));refine cR λ{g F}=>?_;apply bp (j:=F::M:: [ah C _ _]) au;apply aC _;apply aP (aD _) _;rintro _ _ ⟨⟨j,aH,rfl,aK,aE⟩,rfl⟩;apply ak _;cases aH with
 |false=>
  apply ak _;exact aR (.inl ⟨rfl,_,ar,bC _,rfl⟩)
 |true=>
  have ae:=aE p;apply ak _
  by_cases an:O< (j:Nat)
  .apply ak _;exact ba (C:=ja.L ⟨af,0,0,O,ag,[],M⟩ C) p (.tmp p ds) au (.inl ⟨rfl,_,⟨λ_=>Rd.nil _ _,bC _,bO _⟩,bO _,rfl⟩)
  .apply bs _;refine e9 p (cw an) ?_;apply bQ _;iterate 6 apply ay _
   refine a6 (pP (C:=2) p p ad) ?_;apply ak _;rcases dZ n (2+j)with R|R
   .apply ak _;exact aR (.inl ⟨rfl,_,ar,bC _,rfl⟩)
   .apply bs _;refine e9 p (cw ad) ?_;obtain⟨av,Q,rfl,_⟩:=(D []).at_ ad;have aJ:=(D []).len bL;have aF:=λH=>((D H).take (k:=2+j) R).drop (k:=2) (c:=c) ao ad;have aG:=λH=>(D H).drop (k:=2+j) (c:=c) R am;have aA:=λH h=>Ng (ab ⟨av,(if c=2 then Q else Q+2*1),af⟩) (2+j-2) (c-2) ((l.take (2+j)).drop 2) H h ad;apply dY _;refine a6 (O0 (l:=2) (h:=2+j) p p p ao ad) ?_;apply aP (aA _ (bx aF)) _;rintro _ _ ⟨Z,ai,rfl,az,rfl⟩;apply dY _;exact ba (C:=E 5 1 Z (aa ((l.take (2+j)).drop 2)) ai (J ((l.take (2+j)).drop 2))::ja.L ⟨ab ⟨av,(if c=2+j then Q else Q+(2+j)*1),af⟩,n-(2+j),c-(2+j),O,W,l.drop (2+j),M⟩ C) p (.tmp p ds) au (.inr ⟨Z,ai,_,_,rfl,az,by grind,⟨aG,by grind,by grind⟩,by grind,rfl⟩)
end
structure gd where
 A:Option Addr
 c:Nat
 l:List dJ
instance:d3 gd:=⟨1,λj=>[.slice j.A (aa j.l) j.c],λ_=>rfl,λ_ v h=>by simp at h;subst h;rfl⟩
@[reducible] def zx (j:gd):aG:=E 5 1 j.A (aa j.l) j.c (J j.l)
def e0(j:List gd):aG:=λh=>C (j.map zx) h
def gd.ok(j:gd):Prop:=(0<aa j.l->∃b,j.A=(U b))/\aa j.l<=100000000
def Ol{j M:Q}(D:aS j M):aS j (e0 []::M):=λh q=>C.fold (N:=[]) (λ_ _=>trivial) (D h q)
def Gr{E M:Q}{j D}(H:aS E (e0 j::zx D::M)):aS E (e0 (j++[D])::M):=λh q=>by
 apply C.fold (N:=[e0 j,zx D]) (λh I=>?_) (H h q);show C _ h;rw[ez];exact C.part I
def GV{H}{W:Nat}{j}(R:H[W]?=ab j)(Y:j.ok)(I:Q):Rd (e0 H::I) j.A (aa j.l) j.l:=by
 have U:=List.mem_of_getElem? R;have Z:Rd [zx j] _ _ j.l:=bf.E (by rw[ck];rfl) Y.1;let⟨s,ax,O⟩:=List.append_of_mem U;exact bf.mono (λh q=>by
  let⟨h1,ae,am,ah,ar,a,_⟩:=q;have D:C _ h1:=a;rw[O,ez,List.map_cons]at D;let⟨an,aq,ap,ai,av,J,_⟩:=C.perm List.perm_middle D;exact C.up (C.one J) (ai.trans ah)) Z
def L5(W H:Nat)(v:a2)(I:Q):Prop:=∃(D:a3) (c:Nat) (C:List gd) (O:Int) (y:ja),v=.tuple #[.slice D (aa C) c,j O]/\(0<aa C->∃b,D=(U b))/\(∀R∈C,R.ok)/\aa C<=H/\y.ok H/\I=E 55 1 D (aa C) c (J C)::e0 C::y.L W
section
attribute [local irreducible] C bh b6
structure Ff where
 B:Option Addr
 e:Nat
 jX:List gd
 y:ja
 w:Bool
 f:gd
def Cb(C:Bool)(j:gd):aG:=λh=>if C then zx j h else True
def agT(H)(y:ja)(E)(Z:y.ok E)(W:E<=100000000):Y 209 #[I H] (y.L H) λv R=>∃(Q:Bool) (D:gd) (j:ja),v=.tuple #[.slice D.A (aa D.l) D.c,.bool Q]/\D.ok/\j.ok E/\j.n+(if Q then 1 else 0)<=y.n/\R=Cb Q D::j.L H:=
 (agS H y E Z W).cr λv R ai h q=>by
  rcases h with ⟨J,j,h1,ae,O⟩|⟨A,c,l,j,J,U,ah,h1,ae,O⟩
  .subst O;exact⟨_,⟨al,⟨af,0,[]⟩,j,J,⟨db,ao⟩,h1,by assumption,rfl⟩,C.fold (N:=[]) (λ_ _=>trivial) q⟩
  .subst O;exact⟨_,⟨ag,⟨A,c,l⟩,j,J,⟨U,by grind⟩,h1,by assumption,rfl⟩,q⟩
def Z8(O)(y:ja)(Z)(D:y.ok Z)(A n c)(av:List dJ)(ah)(aM:∀ax,Rd (ah::ax) A n av)(bc:Z+n<=100000000):Y 136 #[I O,.slice A n c] (ah::y.L O) λv aX=>∃aJ,L5 O (Z+n) v aJ/\aX=ah::aJ:=by
 have aO:=λy D=>agT O y _ D bc;have be:=(D.r []).len bL;have a4:=(aM []).len bL;have bA:=D;let⟨aW,bj,aY,aT,aV,l,M⟩:=y;let⟨aL,Q,bh⟩:=D;simp only at aL Q bh be;have a9:=λax h=>Ng aW bj aY l ax h ad;refine cR λ{g F}=>?_;apply bQ _;iterate 2 apply ay _
 apply ee _;apply ay _;apply cc;apply bp au;apply aC _;apply aP (a9 _ (bx aL)) _;rintro _ _ ⟨bn,bt,rfl,bv,rfl⟩;apply ay _;refine GE (dH p p aN ((bx aM)) ((e8 _)) bN ao aw aw) ?_;rintro _ _ ⟨aA,az,rfl,a7,bw,bi,rfl⟩;iterate 2 apply ay _
 apply fv _;apply cc;have aB:ja.ok ⟨aA,aa l+n,az,aT,aV,l++av,E 5 1 _ _ az _⟩ (Z+n):=⟨λax=>by
  show bf _ _ _ _ _;rw[gS];exact bf.E (by rw[b4,ck l,ck av,a4];show aa l*1+n*1=(aa l+n)*1;simp) bi,a7,by simp_all⟩
 generalize aS:ja.mk aA (aa l+n) az aT aV (l++av) (E 5 1 aA (aa l+n) az (J l++J av))=aG at aB;refine bp (j:=F::ah::aG.L O) (by rw[<- aS];exact au) ?_;clear aS;apply dl _;apply bp (E.c7 55 1);apply ef (ι:=Ff) (λj=>[(0,I O),(6,.slice j.B (aa j.jX) j.e),(7,.slice j.f.A (aa j.f.l) j.f.c),(8,.bool j.w)]) (λj=>E 55 1 j.B (aa j.jX) j.e (J j.jX)::e0 j.jX::Cb j.w j.f::F::ah::j.y.L O) (λj=>(0<aa j.jX->∃b,j.B=(U b))/\(∀C∈j.jX,C.ok)/\j.f.ok/\j.y.ok (Z+n)/\aa j.jX+j.y.n+(if j.w then 1 else 0)<=Z+n) _ _
 .apply bs _;apply bp (j:=F::ah::E 55 1 af 0 0 []::aG.L O) au;apply aC _;apply aP (b3 (aO aG aB)) _;rintro _ _ ⟨_,⟨ar,C,aH,rfl,R,aD,ae,rfl⟩,rfl⟩;apply ak _;exact cC ⟨af,0,[],aH,ar,C⟩ ⟨db,(λC h=>by grind),R,aD,by have:=aB.k;grind⟩ aZ DK
 .rintro⟨am,ap,H,y,ar,C⟩ ⟨ai,W,R,D,Q⟩;simp only at ai W R D Q;dsimp only;apply oL (λh s=>E.facts s);rintro⟨_,aE,aF,_⟩;apply fV _;apply ef (ι:=Ff) (λj=>[(0,I O),(6,.slice j.B (aa j.jX) j.e)]) (λj=>E 55 1 j.B (aa j.jX) j.e (J j.jX)::e0 j.jX::Cb j.w j.f::F::ah::j.y.L O) (λj=>(0<aa j.jX->∃b,j.B=(U b))/\(∀C∈j.jX,C.ok)/\j.f.ok/\j.y.ok (Z+n)/\aa j.jX+j.y.n+(if j.w then 1 else 0)<=Z+n) _ _
  .apply bs _;apply cL (ι:=Ff) (λj=>[(0,I O),(6,.slice j.B (aa j.jX) j.e),(7,.slice j.f.A (aa j.f.l) j.f.c),(8,.bool j.w)]) (λj=>E 55 1 j.B (aa j.jX) j.e (J j.jX)::e0 j.jX::Cb j.w j.f::F::ah::j.y.L O) (λj=>(λj=>(0<aa j.jX->∃b,j.B=(U b))/\(∀C∈j.jX,C.ok)/\j.f.ok/\j.y.ok (Z+n)/\aa j.jX+j.y.n+(if j.w then 1 else 0)<=Z+n) j/\aa j.jX<=j.e/\j.e<=maxLen) (λj=>j.y.n+(if j.w then 1 else 0)) ⟨am,ap,H,y,ar,C⟩ ⟨⟨ai,W,R,D,Q⟩,aE,aF⟩ aZ au;rintro⟨am,ap,H,y,ar,C⟩ ⟨⟨ai,W,R,D,Q⟩,aE,aF⟩;simp only at ai W R D Q aE aF;dsimp only;apply ak _;cases ar with
   |false=>
    apply ak _;exact cC ⟨am,ap,H,y,al,C⟩ ⟨ai,W,R,D,Q⟩ aZ a1
   |true=>
    simp only[if_true]at Q;apply aC _;apply bd λbq=>?_;refine GE (dH p p aN gL (hA p) bN ao aw aw) ?_;rintro _ _ ⟨aI,aK,rfl,a8,bg,bz,rfl⟩;apply ay _;apply cc;apply bp (j:=F::ah::E 55 1 aI (aa H+1) aK (J H++[Value.slice C.A (aa C.l) C.c])::e0 (H++[C])::y.L O) (dp @Gr);apply aC _;apply aP (b3 (aO y D)) _;rintro _ _ ⟨_,⟨bk,a3,aH,rfl,bb,aD,ae,rfl⟩,rfl⟩;apply ak _;refine b7 ⟨aI,aK,H++[C],aH,bk,a3⟩ ⟨⟨by simp_all,λg aq=>?_,bb,aD,by grind⟩,by simpa using a8,bg⟩ (by simp only[if_true];omega) ⟨rfl,by simp;rfl,rfl,rfl,trivial⟩ ?_
    .rcases List.mem_append.1 aq with aq|aq
     .exact W g aq
     .rw[List.mem_singleton]at aq;subst aq;exact R
    .have a0:J H++[.slice C.A (aa C.l) C.c]=J (H++[C]):=gi H C;rw[a0,b4];exact au
  .rintro⟨am,ap,H,y,ar,C⟩ ⟨ai,W,R,D,Q⟩;simp at ai W R D Q;let⟨bm,bG,br,bE,bl,bB,bo⟩:=y;have aQ:=D;apply ak _;cases bl with
   |true=>
    apply ak _;exact aR ⟨_,⟨am,ap,H,_,_,rfl,ai,W,ad,aQ,rfl⟩,rfl⟩
   |false=>
    apply ak _;exact aR ⟨_,⟨am,ap,H,_,_,rfl,ai,W,ad,aQ,rfl⟩,rfl⟩
def Vt(H)(y:ja)(j)(D:y.ok j)(A n c)(O:List dJ)(C)(av:∀ai,Rd (C::ai) A n O)(aA:j+n<=100000000):Y 98 #[I H,.slice A n c] (C::y.L H) λv am=>∃J,L5 H (j+n) v J/\am=C::J:=by
 have ax:=Z8 H y j D A n c O C av aA;have W:0<aa ([]:List gd)->∃b,(af:a3)=(U b):=db;have Z:∀Q∈([]:List gd),Q.ok:=λQ h=>by grind
 have R:y.ok (j+n):=⟨D.r,D.c,Nat.le_trans D.k (Nat.le_add_right ..)⟩;obtain⟨aG,aJ,aH,aK,aF,l,M⟩:=y;refine cR ?_;refine bQ ?_;iterate 2 apply ay _
 apply cc
 by_cases h1:65536<n
 .apply ak _;exact bp (E.c7 55 1) (aR ⟨_,⟨af,0,[],_,_,rfl,W,Z,bO _,R,rfl⟩,rfl⟩ DK)
 .apply ak _;cases aF with
  |true=>
   apply ak _;exact bp (E.c7 55 1) (aR ⟨_,⟨af,0,[],_,_,rfl,W,Z,bO _,R,rfl⟩,rfl⟩ DK)
  |false=>
   apply aC _;apply aP (b3 ax) _;rintro _ _ ⟨_,⟨J,⟨ah,ap,aq,aI,aE,rfl,ar,az,aB,aD,rfl⟩,rfl⟩,rfl⟩;apply ak _;exact aR ⟨_,⟨ah,ap,aq,_,aE,rfl,ar,az,aB,aD,rfl⟩,rfl⟩
end
end
end Go.Proofs.YteinodmjohkmmaaGreat
