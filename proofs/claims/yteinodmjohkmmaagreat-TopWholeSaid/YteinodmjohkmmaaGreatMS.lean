/- TopWhole: a part of its proof. -/
import Derived.Test.YteinodmjohkmmaaGreatMA3
set_option linter.all false
set_option maxRecDepth 100000
set_option maxHeartbeats 4000000
open Bool renaming false->al,true->ag
open Go renaming Addr->cg,FuncId->dc
open List renaming append_nil->dC,getElem?_eq_getElem->b8,getElem?_eq_none->mw,getElem_mem->gG,length->aa,length_append->b4,length_filter_le->kj,length_singleton->hg
open Nat renaming le_refl->bC,le_trans->hj,lt_or_ge->dZ,mul_one->ym,zero_le->bO
open Option renaming none->af,some->ab
open Go.RowKit
namespace Go.Proofs.YteinodmjohkmmaaGreat
noncomputable section
namespace S
attribute [local irreducible] C bh b6
abbrev mW:Nat:=44
def rM(C q:aj)(D):aY 252 #[.agg #[j C.id,j C.x,j C.y],.agg #[j q.id,j q.x,j q.y]] D (.bool (C.less q)) D:=by
 refine bt ?_;refine bd λE=>?_;apply bg λH=>?_;refine c0 p (λh1=>?_) (λh1=>?_)
 .apply eO _;exact⟨by simp[cs,aj.less,h1],rfl⟩
 .apply ak _;refine c0 p (λae=>?_) (λae=>?_)
  .apply eO _;exact⟨by simp[cs,aj.less,h1,ae],rfl⟩
  .apply eO _;exact⟨by simp[cs,aj.less,h1,ae],rfl⟩
def nT(A n c)(l:List aj)(j)(C:Rd j A n l)(R:n<=1000000):
  Y 467 #[.slice A n c] j λv D=>Made 44 l j v D:=TV
def qn(A n c R D l)(H:aj)(I)(h1:l.length=n)(aX:n<=1000000)(am:D<=n):
  Y 555 #[.slice A n c,j (D:Nat),.slice (U R) 1 1] (E 44 3 A n c (J l)::ah R 44 [j H.id,j H.x,j H.y]::I) λv Q=>Made 44 (l.take D++[H]++l.drop D) I v Q:=TW
def Bd(b n c C)(l:List aj)(D)(h1:l.length=n)(ai:n<=1000000)(ah:C<n):
  Y 561 #[.slice (U b) n c,j (C:Nat),j (C+1:Nat)] (E 44 3 (U b) n c (J l)::D) λv H=>Made 44 (l.take C++l.drop (C+1)) D v H:=TX
def Fo(D C)(R:D<=1000000):
  Y 421 #[.slice none 0 0,j (D:Nat)] C λv H=>∃A c,v=.slice A 0 c/\H=E 44 3 A 0 c []::C:=TY
def r7(R:dc)[cu ar R](U W:bz)(av:aj->Bool)(A:a3)(n c H:Nat)(l:List aj)(I:Q)(ai:Rd I A n l)(aP:n<=1000000)(aH:H<=n)(aJ:∀(aq:Nat)(a:aj),l[aq]?=ab a->(av a=ag<->H<=aq))
  (aG:∀a:aj,Y R (U++[a.v]++W).toArray I λv az=>v=.bool (av a)/\az=I):
  aY 468 #[.slice A n c,.func (.func R) U.toArray W.toArray] I (j (H:Nat)) I:=by
 have h1:=ai.len bL;refine bt λ{g F}=>?_;apply cL (λD=>[(0,.slice A n c),(1,.func _ _ _),(5,.int _ (D.1:Nat)),(6,j (D.2:Nat))]) (λ_=>F::I) (λD=>D.1<=H/\H<=D.2/\D.2<=n) (λD=>D.2-D.1) (0,n) ⟨bO _,aH,bC _⟩ aZ a1;rintro⟨C,E⟩ ⟨aB,aD,aE⟩;apply ak _;refine c0 p (λaF=>?_) (λaF=>?_)
 .obtain⟨aM,aQ,rfl,aL⟩:=ai.at_ ad;have aI:C+(E-C)/2<E:=ad;have Z:l[C+(E-C)/2]?=ab l[C+(E-C)/2]:=b8 ad;have ax:=aL _ _ Z;have ap:=aJ _ _ Z;generalize l[C+(E-C)/2]=aK at*
  apply aC _
  (first|refine a6 (l6 (q:=2) p p aw aw) ?_|refine a6 (jC p p aw aw aw) ?_)
  apply dl _;obtain⟨J,am⟩:∃J,C+(E-C)/2=J:=⟨_,rfl⟩;have aO:C<=J:=ad;rw[am]at aI ax ap;rw[am];have aR:=ax;apply aC _;refine GE (f4 p p (O.frame [F] (aG aK) cf)) ?_;rintro _ _ ⟨_,⟨rfl,rfl⟩,rfl⟩;apply ak _;refine eG p (λah=>?_) (λah=>?_)
  .have:=ap.1 ah;apply ak _;exact b7 (C,J) ⟨aB,this,ad⟩ ad aZ a1
  .have: ¬H<=J:=λh=>by simp_all
   apply ak _;exact b7 (J+1,E) ⟨ad,aD,aE⟩ ad aZ a1
 .have aA:C=H:=ad;subst aA;exact fG
def yV(a v:aj)(D E C)(Q:aU C D 0 3 [j v.id,j v.x,j v.y])(R:a5 C ⟨E,0,af⟩ (.func (.func 252) #[] #[])):
  Y 581 #[a.v,I E,I D] C λJ H=>J=.bool (v.less a)/\H=C:=by
 refine aD ?_;refine bP λO=>?_;refine GE (f4 p p (rM v a _)) ?_;rintro _ _ ⟨rfl,rfl⟩;exact fG
def rq(A n c l v C)(I:Rd C A n l)(J:n<=1000000)(O:d9 l):
  Y 556 #[.slice A n c,v.v,.func (.func 252) #[] #[]] C λQ D=>Q=j (lf v l:Nat)/\D=C:=by
 have h1:=I.len bL;have R:=DW v l;refine aD ?_;refine bd λE=>?_;apply bP λH=>?_;refine a9 (r7 _ [] _ _ A n c _ l _ cX J ad (IQ v l O) (λa=>yV a v E H _ cA ec)) ?_;exact c8
def BC(A n c l v H)(W:Rd H A n l)(am:n<=100000)(R:d9 l):
  Y 514 #[.slice A n c,v.v,.func (.func 252) #[] #[]] H λah U=>Made 44 (eR v l) H ah U:=by
 have h1:=W.len bL;have J:=DW v l;rw[SI];refine aD ?_;refine bg λai=>?_;apply fK (bE [0,2,3,4,6] (.iw 1 (.iw 5 (.e 7 (.e 8 (.q 9 .nil))) 7 (.e 5 (.e 8 (.q 9 .nil)))) 7 (.e 1 (.e 5 (.e 8 (.q 9 .nil)))))) _;refine jt ?x663_0 ?x663_1
 case' x663_1=>
  refine bW p p p (gR bN p p) ?_;rintro _ _ ⟨j,rfl,rfl⟩;apply bX _;refine dV (nT A n c l _ cX ad) ?_;rintro _ _ ⟨C,D,rfl,Z,rfl⟩;apply bX _;refine bF (bW p p p (c5 p (rq A n c l v _ cX ad R)) ?_);rintro _ _ ⟨rfl,rfl⟩;apply bX _;refine dV (O.pick aN (O.pre (cP (.ap .here) cf) (qn C _ D j (lf v l) l v _ p ad J))) ?_;rintro _ _ ⟨E,I,rfl,Q,rfl⟩;apply bX _;apply ak _
 case' x663_0=>
  refine bW p p p (c5 p (nT A n c l _ cX ad)) ?_;rintro _ _ ⟨C,D,rfl,Z,rfl⟩;apply bX _;refine jt ?x664_0 ?x664_1
  case' x664_1=>
   refine bW p p p (gR bN p p) ?_;rintro _ _ ⟨j,rfl,rfl⟩;apply bX _;refine bF (bW p p p (c5 p (rq A n c l v _ cX ad R)) ?_);rintro _ _ ⟨rfl,rfl⟩;apply bX _;refine dV (O.pick aN (O.pre (cP (.ap .here) cf) (qn C _ D j (lf v l) l v _ p ad J))) ?_;rintro _ _ ⟨E,I,rfl,Q,rfl⟩;apply bX _;apply ak _
  case' x664_0=>
   refine bW p p p (c5 p (rq A n c l v _ cX ad R)) ?_;rintro _ _ ⟨rfl,rfl⟩;apply bX _;refine bF (bW p p p (gR bN p p) ?_);rintro _ _ ⟨j,rfl,rfl⟩;refine bX ?_;refine dV (O.pick aN (O.pre (cP (.ap .here) cf) (qn C _ D j (lf v l) l v _ p ad J))) ?_;rintro _ _ ⟨E,I,rfl,Q,rfl⟩;refine bX ?_;apply ak _
 all_goals
  apply ak _;exact aR ⟨E,I,rfl,Q,rfl⟩
abbrev qe:Nat:=44
structure m7 (D:dc) (E:aj->aj->Bool):Prop where
 o1:∀(C q:aj) (j:Q),aY D #[C.v,q.v] j (.bool (E C q)) j
def nn{b n c i D l}{x:aj}(H:l.length=n)(h:l[i]?=some x)(C):aU (E D 3 (U b) n c (J l)::C) b (0+i*3) 3 [j x.id,j x.x,j x.y]:=TQ
def NA{A R}{x p:aj}{k}(j:k=aa A+1):((A++p::x::R).set k p).set (k-1) x=A++x::p::R/\(A++p::x::R)[k]?=ab x/\(A++p::x::R)[k-1]?=ab p:=by simp_all
theorem Jl(l C)(a:aj)(D:C<aa l):eS (J l) (0+C*3) [j a.id,j a.x,j a.y]=J (l.set C a):=by rw[Nat.zero_add];exact Pn l C a D
section
variable{f:dc}[cu ar f]{av:aj->aj->Bool}(o:fl av)(fo:m7 f av)
include o fo
theorem F4(A:a3)(n c:Nat)(l:List aj)(Z:Q)(aK:Rd Z A n l)(aO:n<=1000000):
  Y 422 #[.slice A n c,.func (.func f) #[] #[]] Z λv aE=>Made 44 (bw av l) Z v aE:=TR
theorem Ia(A ah:a3)(n W c ai:Nat)(l q:List aj)(H:Q)(aS:Rd H A n l)(aV:Rd H ah W q)(bB:n<=1000000)(bx:W<=1000000)(bo:n<=c)(bt:W<=ai)(a9:gM av l)(bb:gM av q):
  Y 423 #[.slice A n c,.slice ah W ai,.func (.func f) #[] #[]] H λv aL=>Made 44 (bw av (l++q)) H v aL:=TS
theorem T7:∀(C:Nat)(A:a3)(n c:Nat)(l:List aj)(j:Q)(_:n<=C)(_:Rd j A n l)(_:n<=1000000)(_:n<=c),
  Y 373 #[.slice A n c,.func (.func f) #[] #[]] j λv U=>Made 44 (bw av l) j v U:=TT
theorem tZ(A:a3)(n c:Nat)(l:List aj)(j:Q)(R:Rd j A n l)(E:n<=1000000)(D:n<=c):
  Y 330 #[.slice A n c,.func (.func f) #[] #[]] j λv C=>Made 44 (bw av l) j v C:=TU
end
section
variable{f:dc}[cu ar f]{av:aj->aj->Bool}(fo:m7 f av)
include fo
theorem aah(a v:aj)(D E:Nat)(C:Q)(R:aU C D 0 3 [j v.id,j v.x,j v.y])(U:a5 C ⟨E,0,af⟩ (.func (.func f) #[] #[])):
  Y 469 #[a.v,I E,I D] C λJ H=>J=.bool (!av a v)/\H=C:=by
 refine bt ?_;refine bg λO=>?_;refine GE (f4 p p (fo.o1 a v _)) ?_;rintro _ _ ⟨rfl,rfl⟩;exact a6 (gz p) fG
theorem Pe(A:a3)(n c C:Nat)(l:List aj)(v:aj)(D:Q)(Z:Rd D A n l)(R:n<=1000000)(O:C<=n)(U:∀(E:Nat)(a:aj),l[E]?=ab a->((!av a v)=ag<->C<=E)):
  Y 425 #[.slice A n c,v.v,.func (.func f) #[] #[]] D λW H=>W=j (C:Nat)/\H=D:=by
 refine bt ?_;refine bd λI=>?_;apply bg λJ=>?_;apply a9 (r7 _ [] _ _ A n c C l _ cX R O U (λa=>aah fo a v I J _ cA ec)) _;exact c8
theorem L6(A:a3)(n c C:Nat)(l:List aj)(v:aj)(D:Q)(W:Rd D A n l)(J:n<=1000000)(I:C<=n)(O:∀(E:Nat)(a:aj),l[E]?=ab a->((!av a v)=ag<->C<=E)):
  Y 730 #[.slice A n c,v.v,.func (.func f) #[] #[]] D λR H=>R=j (C:Nat)/\H=D:=by
 refine bt ?_;refine bg λU=>?_;apply a9 (Pe fo A n c C l v _ cX J I O) _;exact c8
theorem XJ(a v:aj)(D E:Nat)(C:Q)(R:aU C D 0 3 [j v.id,j v.x,j v.y])(U:a5 C ⟨E,0,af⟩ (.func (.func f) #[] #[])):
  Y 581 #[a.v,I E,I D] C λJ H=>J=.bool (av v a)/\H=C:=by
 refine bt ?_;refine bg λO=>?_;refine GE (f4 p p (fo.o1 v a _)) ?_;rintro _ _ ⟨rfl,rfl⟩;exact fG
theorem BY(A:a3)(n c C:Nat)(l:List aj)(v:aj)(D:Q)(Z:Rd D A n l)(R:n<=1000000)(O:C<=n)(U:∀(E:Nat)(a:aj),l[E]?=ab a->(av v a=ag<->C<=E)):
  Y 556 #[.slice A n c,v.v,.func (.func f) #[] #[]] D λW H=>W=j (C:Nat)/\H=D:=by
 refine bt ?_;refine bd λI=>?_;apply bg λJ=>?_;apply a9 (r7 _ [] _ _ A n c C l _ cX R O U (λa=>XJ fo a v I J _ cA ec)) _;exact c8
theorem Vc(A:a3)(n c C:Nat)(l:List aj)(v:aj)(D:Q)(W:Rd D A n l)(J:n<=1000000)(I:C<=n)(O:∀(E:Nat)(a:aj),l[E]?=ab a->(av v a=ag<->C<=E)):
  Y 538 #[.slice A n c,v.v,.func (.func f) #[] #[]] D λR H=>R=j (C:Nat)/\H=D:=by
 refine bt ?_;refine bg λU=>?_;apply a9 (BY fo A n c C l v _ cX J I O) _;exact c8
theorem PK(o:fl av)(A:a3)(n c:Nat)(l:List aj)(v:aj)(C:Q)(I:Rd C A n l)(O:n<=1000000)(E:d0 av l):
  Y 375 #[.slice A n c,v.v,.func (.func f) #[] #[]] C λU J=>U=.tuple #[j (kM av v l:Nat),.bool (decide (v∈l))]/\J=C:=by
 have h1:=I.len bL;have aq:=ac4 (av:=av) v l;refine bt ?_;refine bg λam=>?_;refine dQ (Pe fo A n c (kM av v l) l v _ cX O ad (λR a h=>o9 _ l (E.n4 o v) R a h)) ?_;apply cc
 by_cases ap:kM av v l<n
 .obtain⟨ai,ax,rfl,Z⟩:=I.at_ ad;have H:l[kM av v l]?=ab l[kM av v l]:=b8 ad;have D:=QU o E v _ H;have ah:=Z _ _ H;generalize l[kM av v l]=W at*
  have az:=ah;rw[<- D];apply ak _;refine bF (jQ p p p ⟨_,rfl,rfl⟩ p (f4 p p (fo.o1 v W _)) ?_);rintro _ _ ⟨rfl,rfl⟩;apply cV _;exact f3 dm p p p p ⟨_,rfl,rfl⟩ p (gz p) fG
 .have D:=QV o E v ad;rw[cw D];apply eO _;exact⟨by simp[cs],rfl⟩
theorem VP(o:fl av)(A:a3)(n c:Nat)(l:List aj)(v:aj)(j:Q)(J:Rd j A n l)(E:n<=1000000)(D:d0 av l):
  Y 337 #[.slice A n c,v.v,.func (.func f) #[] #[]] j λH C=>H=.bool (decide (v∈l))/\C=j:=by
 refine bt ?_;refine bg λI=>?_;apply a9 (PK fo o A n c l v _ cX E D) _;exact c8
theorem My(o:fl av)(A:a3)(n c:Nat)(l:List aj)(v:aj)(H:Q)(Z:Rd H A n l)(aq:n<=100000)(J:d0 av l):
  Y 514 #[.slice A n c,v.v,.func (.func f) #[] #[]] H λai W=>Made 44 (fU av v l) H ai W:=by
 have h1:=Z.len bL;have R:=ae6 (av:=av) v l;rw[ae7];refine bt ?_;refine bg λam=>?_;apply fK (bE [0,2,3,4,6] (.iw 1 (.iw 5 (.e 7 (.e 8 (.q 9 .nil))) 7 (.e 5 (.e 8 (.q 9 .nil)))) 7 (.e 1 (.e 5 (.e 8 (.q 9 .nil)))))) _;refine jt ?x665_0 ?x665_1
 case' x665_1=>
  refine bW p p p (gR bN p p) ?_;rintro _ _ ⟨j,rfl,rfl⟩;apply bX _;refine dV (nT A n c l _ cX ad) ?_;rintro _ _ ⟨C,D,rfl,ah,rfl⟩;apply bX _;refine bF (bW p p p (c5 p (BY fo A n c (mj av v l) l v _ cX ad ad (DV o v l J))) ?_);rintro _ _ ⟨rfl,rfl⟩;apply bX _;refine dV (O.pick aN (O.pre (cP (.ap .here) cf) (qn C _ D j (mj av v l) l v _ p ad R))) ?_;rintro _ _ ⟨E,I,rfl,U,rfl⟩;apply bX _;apply ak _
 case' x665_0=>
  refine bW p p p (c5 p (nT A n c l _ cX ad)) ?_;rintro _ _ ⟨C,D,rfl,ah,rfl⟩;apply bX _;refine jt ?x666_0 ?x666_1
  case' x666_1=>
   refine bW p p p (gR bN p p) ?_;rintro _ _ ⟨j,rfl,rfl⟩;apply bX _;refine bF (bW p p p (c5 p (BY fo A n c (mj av v l) l v _ cX ad ad (DV o v l J))) ?_);rintro _ _ ⟨rfl,rfl⟩;apply bX _;refine dV (O.pick aN (O.pre (cP (.ap .here) cf) (qn C _ D j (mj av v l) l v _ p ad R))) ?_;rintro _ _ ⟨E,I,rfl,U,rfl⟩;apply bX _;apply ak _
  case' x666_0=>
   refine bW p p p (c5 p (BY fo A n c (mj av v l) l v _ cX ad ad (DV o v l J))) ?_;rintro _ _ ⟨rfl,rfl⟩;apply bX _;refine bF (bW p p p (gR bN p p) ?_);rintro _ _ ⟨j,rfl,rfl⟩;refine bX ?_;refine dV (O.pick aN (O.pre (cP (.ap .here) cf) (qn C _ D j (mj av v l) l v _ p ad R))) ?_;rintro _ _ ⟨E,I,rfl,U,rfl⟩;refine bX ?_;apply ak _
 all_goals
  apply ak _;exact aR ⟨E,I,rfl,U,rfl⟩
theorem L2(o:fl av)(A:a3)(n c:Nat)(l:List aj)(v:aj)(C:Q)(am:Rd C A n l)(aE:n<=100000)(H:d0 av l)(az:v∈l):
  Y 518 #[.slice A n c,v.v,.func (.func f) #[] #[]] C λaA R=>∃j D,aA=.tuple #[.slice j (aa (l.erase v)) D,.bool ag]/\(0<aa (l.erase v)->∃b,j=(U b))/\R=E 44 3 j (aa (l.erase v)) D (J (l.erase v))::C:=by
 have h1:=am.len bL;let⟨ap,ai⟩:=ac3 o H v az;refine bt ?_;refine bg λaD=>?_;refine f1 p (PK fo o A n c l v _ cX ad H) ?_;iterate 5 apply ay _
 apply ee _;apply ay _;refine a6 (gz p) ?_;apply cd _;refine e9 p bo ?_;rw[<- ai];apply ak _;refine aP (nT A n c l _ cX ad) ?_;rintro _ _ ⟨aB,ah,rfl,ax,rfl⟩;apply ak _;obtain⟨W,rfl⟩:=ax ad;refine st p p (c5 p (O.pick aN (Bd W _ ah (kM av v l) l _ p ad ap))) ?_;rintro _ _ ⟨I,Z,rfl,aq,rfl⟩;apply ak _;exact aR ⟨I,Z,rfl,aq,rfl⟩
end
abbrev ai8:Nat:=156
def Gf(a b C):aY 287 #[j a,j b] C (.bool (dq a b)) C:=wv a b C
def ahS{l:List Int}{j C}(h:l[j]?=ab C):l.take (j+1)=l.take j++[C]:=by simp_all[List.take_add_one]
def HW(v j l):el dq v (l++[j])=el dq v l++if dq j v=ag then[j]else[]:=by unfold el;grind
def HK(v j)(l:List Int):eL v (l++[j])=eL v l++if j=v then[j]else[]:=by unfold eL;grind
def G6(v j l):fp dq v (l++[j])=fp dq v l++if dq v j=ag then[j]else[]:=by unfold fp;grind
structure m8 where
 ln:Option cg
 c1:Nat
 nR:Option cg
 c2:Nat
 lp:Option cg
 lx:Nat
structure m8.Ok (s:m8) (j C D:Nat):Prop where
 h1:0<j->∃b,s.ln=(U b)
 ae:0<C->∃b,s.nR=(U b)
 an:0<D->∃b,s.lp=(U b)
 uD:j<=s.c1
 xa:C<=s.c2
 uE:D<=s.lx
def Sm(A n c l v W)(ai:Rd W A n l)(a4:n<=1000000):
  Y 606 #[.slice A n c,j v,.func (.func 287) #[] #[]] W λaP ar=>∃s:m8,aP=.tuple #[.slice s.ln (aa (el dq v l)) s.c1,.slice s.nR (aa (eL v l)) s.c2,.slice s.lp (aa (fp dq v l)) s.lx]/\s.Ok (aa (el dq v l)) (aa (eL v l)) (aa (fp dq v l))/\
   ar=E 3 1 s.ln (aa (el dq v l)) s.c1 (J (el dq v l))::E 3 1 s.nR (aa (eL v l)) s.c2 (J (eL v l))::E 3 1 s.lp (aa (fp dq v l)) s.lx (J (fp dq v l))::W:=by
 have h1:aa l=n:=ai.len bL;refine bt λ{g F}=>?_;apply bp (E.c7 3 1);apply bp (E.c7 3 1);apply bp (E.c7 3 1);refine cL (ι:=Nat×m8) (λC=>[(1,j v),(2,.func (.func 287) #[] #[]),(6,.slice C.2.ln (aa (el dq v (l.take C.1))) C.2.c1),(7,.slice C.2.nR (aa (eL v (l.take C.1))) C.2.c2),(8,.slice C.2.lp (aa (fp dq v (l.take C.1))) C.2.lx),(11,.slice A n c),(12,j (n:Nat)),(13,j (C.1:Nat))])
  (λC=>E 3 1 C.2.ln (aa (el dq v (l.take C.1))) C.2.c1 (J (el dq v (l.take C.1)))::E 3 1 C.2.nR (aa (eL v (l.take C.1))) C.2.c2 (J (eL v (l.take C.1)))::E 3 1 C.2.lp (aa (fp dq v (l.take C.1))) C.2.lx (J (fp dq v (l.take C.1)))::F::W)
  (λC=>C.1<=n/\C.2.Ok (aa (el dq v (l.take C.1))) (aa (eL v (l.take C.1))) (aa (fp dq v (l.take C.1)))) (λC=>n-C.1) (0,⟨af,0,af,0,af,0⟩) ⟨bO _,⟨db,db,db,bC _,bC _,bC _⟩⟩ aZ a1 ?_
 rintro⟨I,s⟩ ⟨aG,D⟩;simp only at aG D;dsimp only;have aS:aa (el dq v (l.take I))<=1000000:=hj (kj _ _) bv;have aV:aa (eL v (l.take I))<=1000000:=hj (kj _ _) bv;have aX:aa (fp dq v (l.take I))<=1000000:=hj (kj _ _) bv;apply ak _;refine c0 p (λaF=>?_) (λaF=>?_)
 .obtain⟨av,ax,rfl,az⟩:=ai.at_ ad;have ah:l[I]?=ab l[I]:=b8 ad;have aQ:=(az _ _ ah).at_ (i:=0) p;have aO:=ahS ah;generalize l[I]=H at*
  have a7:a5 W ⟨av,ax+I*1,af⟩ (j H):=aQ;have O:=HW v H (l.take I);have Q:=HK v H (l.take I);have R:=G6 v H (l.take I);rw[<- aO]at O Q R;apply aC _;refine GE (f4 p p (Gf H v _)) ?_;rintro _ _ ⟨rfl,rfl⟩;apply ak _;rcases Int.lt_trichotomy H v with q|q|q
  .have U:dq H v=ag:=by simp[dq,q]
   have Z:dq v H=al:=by simp[dq];omega
   rw[U,bJ p]at O;rw[a8 ad,dC]at Q;rw[Z,a8 ao,dC]at R;apply aC _;apply bd λaW=>?_;apply fz λap aB aI a2 aL=>?_;exact b7 (I+1,{s with ln:=ap,c1:=aB}) ⟨ad,by
    simp only;rw[O,Q,R,b4];exact⟨λ_=>aL ao,D.ae,D.an,aI,D.xa,D.uE⟩⟩ ad ⟨rfl,rfl,by simp only;rw[O,b4];rfl,by simp only;rw[Q];rfl,by simp only;rw[R];rfl,rfl,rfl,rfl,trivial⟩ (by
    simp only;rw[O,Q,R,b4,<- gi];exact au)
  .subst q;have U:dq H H=al:=by simp[dq]
   rw[U,a8 ao,dC]at O;rw[bJ p]at Q;rw[U,a8 ao,dC]at R;apply aC _;refine GE (f4 p p (Gf H H _)) ?_;rintro _ _ ⟨rfl,rfl⟩;apply aC _;apply bd λaT=>?_;apply fz λam aA aH a0 aK=>?_;exact b7 (I+1,{s with nR:=am,c2:=aA}) ⟨ad,by
    simp only;rw[O,Q,R,b4];exact⟨D.h1,λ_=>aK ao,D.an,D.uD,aH,D.uE⟩⟩ ad ⟨rfl,rfl,by simp only;rw[O];rfl,by simp only;rw[Q,b4];rfl,by simp only;rw[R];rfl,rfl,rfl,rfl,trivial⟩ (by
    simp only;rw[O,Q,R,b4,<- gi];exact au)
  .have U:dq H v=al:=by simp[dq];omega
   have Z:dq v H=ag:=by simp[dq];omega
   rw[U,a8 ao,dC]at O;rw[a8 ad,dC]at Q;rw[Z,bJ p]at R;apply aC _;refine GE (f4 p p (Gf v H _)) ?_;rintro _ _ ⟨rfl,rfl⟩;apply aC _;apply bd λaY=>?_;apply fz λaq aD aJ a3 aM=>?_;exact b7 (I+1,{s with lp:=aq,lx:=aD}) ⟨ad,by
    simp only;rw[O,Q,R,b4];exact⟨D.h1,D.ae,λ_=>aM ao,D.uD,D.xa,aJ⟩⟩ ad ⟨rfl,rfl,by simp only;rw[O];rfl,by simp only;rw[Q];rfl,by simp only;rw[R,b4];rfl,rfl,rfl,rfl,trivial⟩ (by
    simp only;rw[O,Q,R,b4,<- gi];exact au)
 .have aE:l.take I=l:=List.take_of_length_le ad;rw[aE]at D ⊢;apply ak _;exact aR ⟨s,rfl,D,rfl⟩
def Fa(A n c E):Y 610 #[.slice A n c,j 5] E λv H=>∃C D,v=.func (.func 612) #[] #[I C,I D]/\H=ah C 156 [.slice A n c]::ah D 3 [j 5]::E:=TZ
def Ge{S:Type}(y O Q b o n c)(aB:List Int)(J:Nat->S->List aG)(Inv:Nat->S->Prop)(aE:∀C s,Inv C s->Rd (J C s) (ab ⟨b,o,af⟩) n aB)(aI:n<=1000000)(aH:n<=c)
  (aA:∀C s,5*C<n->Inv C s->iP ar y [.slice (ab ⟨b,o+5*C,af⟩) (min 5 (n-5*C)) (min 5 (n-5*C))] (J C s) λq U=>q=ag/\∃R,Inv (C+1) R/\U=J (C+1) R) (Z) (aq:Inv 0 Z):
  Y 612 #[Value.func (.yield y) #[] #[],I O,I Q] (ah O 156 [.slice (ab ⟨b,o,af⟩) n c]::ah Q 3 [j 5]::J 0 Z) λv U=>v=.tuple #[]/\∃C R,n<=5*C/\5*C<n+5/\Inv C R/\U=ah O 156 [.slice (ab ⟨b,o,af⟩) n c]::ah Q 3 [j 5]::J C R:=by
 refine bt λ{g F}=>?_;refine cL (ι:=Nat×S) (λE=>[(0,Value.func (.yield y) #[] #[]),(1,I O),(2,I Q),(4,j ((5*E.1:Nat):Int))]) (λE=>F::ah O 156 [.slice (ab ⟨b,o,af⟩) n c]::ah Q 3 [j 5]::J E.1 E.2) (λE=>5*E.1<n+5/\Inv E.1 E.2) (λE=>n+5-5*E.1) (0,Z) ⟨ao,aq⟩ aZ a1 ?_;rintro⟨C,s⟩ ⟨ai,am⟩;apply ak _;refine c0 p (λaF=>?_) (λaF=>?_)
 .have W:=aA C s ad am;obtain⟨D,ap⟩:∃D,D=5*C:=⟨_,rfl⟩;obtain⟨H,av⟩:∃H,H=min 5 (n-D):=⟨_,rfl⟩;have ax:(min (5:Int) ((n-D:Nat):Int))=(H:Int):=ad;rw[<- ap]at W aF ai ⊢;rw[<- av]at W;apply ak _;refine eh p (iW p p ad ad) ?_;apply dl _;rw[ax];apply aC _;refine a6 (GJ (l:=D) (h:=D+H) (j:=D+H) p p p p ao ao ad) ?_;rw[show D+H-D=H by simp,a8 (show ¬D+H=D by omega),ym];refine vN p p p (iP.frame [F,ah O 156 [.slice (ab ⟨b,o,af⟩) n c],ah Q 3 [j 5]] W cT) ?_;rintro q U ⟨aD,⟨rfl,R,az,rfl⟩,rfl⟩;refine a6 (gz p) ?_;apply ak _;exact b7 (C+1,R) ⟨ad,az⟩ ad ⟨rfl,rfl,rfl,by rw[ap];rfl,trivial⟩ a1
 .exact bs (er (D:=[]) (j:=[]) (C:=ah O 156 [.slice (ab ⟨b,o,af⟩) n c]::ah Q 3 [j 5]::J C s) p .nil a1 ⟨rfl,C,s,ad,ai,am,rfl⟩)
def MG(A n c l j)(E:Rd j A n l)(H:n<=1000000)(D:n<=c):
  Y 475 #[.slice A n c,.func (.func 287) #[] #[]] j λv C=>Made 3 (bw dq l) j v C:=by rw[ag5];exact FH A n c l j E H D
def adv(A n c l W)(aD:Rd W A n l)(a0:0<n)(bj:n<=1000000)(aQ:n<=c):
  Y 608 #[.slice A n c,.func (.func 287) #[] #[]] W λbz aq=>∃D:List Int,((∀H∈D,H∈l)/\5*aa D<n+5/\n<=5*aa D)/\Bx 3 D W bz aq:=by
 have h1:aa l=n:=aD.len bL;obtain⟨b,o,rfl,_⟩:=aD.at_ a0;refine vI (fn:=Tryz.f608) (n:=24) Tryz.func608 p p p ?_;intro g F aS;apply bQ _;apply bg λaB=>?_;apply bg λar=>?_;apply aP (Fa (ab ⟨b,o,af⟩) n c _) _;rintro _ _ ⟨aK,aL,rfl,rfl⟩;apply ak _;apply bp (E.c7 3 1);refine yw (R:=612) (W:=[]) (Y:=[I aK,I aL]) (U:=λbv aG=>bv=af/\∃s:Option cg×Nat×List Int,((∀H∈s.2.2,H∈l)/\5*s.2.2.length<n+5/\n<=5*s.2.2.length)/\((0<s.2.2.length->∃b,s.1=(U b))/\s.2.2.length<=s.2.1/\s.2.1<=maxLen)/\aG=E 3 1 s.1 s.2.2.length s.2.1 (J s.2.2)::ah ar 156 [.slice s.1 s.2.2.length s.2.1]::F::W) (by rw[<- aS];rfl) p p ?_ ?_ ?_
 .intro y av aX a3;have bn:=Ge (S:=Option cg×Nat×List Int) y aK aL b o n c l
   (λax s=>bR y (aX .ready af)::bR av (.deferred (ab []))::E 3 1 s.1 s.2.2.length s.2.1 (J s.2.2)::ah ar 156 [.slice s.1 s.2.2.length s.2.1]::ah aB 386 [.func (.func 287) #[] #[]]::F::W)
   (λax s=>s.2.2.length=ax/\(∀H∈s.2.2,H∈l)/\(0<s.2.2.length->∃b,s.1=(U b))/\s.2.2.length<=s.2.1/\s.2.1<=maxLen)
   (λax s _=>aD.ap.ap.ap.ap.ap.ap) bj aQ ?_ (af,0,[]) ⟨rfl,ao,db,bC _,bO _⟩
  .apply(O.pre au bn).cr;rintro v aq aI ⟨rfl,ax,s,bH,bI,⟨bE,bl,bm⟩,rfl⟩ bG;refine⟨_,⟨.ready,af,_,bL,⟨rfl,s,⟨bl,ad,ad⟩,bm,rfl⟩,rfl⟩,?_⟩;revert aI;exact au
  .rintro ax ⟨am,ai,D⟩ be ⟨az,aA,aE,br,bt⟩;simp only at az aA aE br bt;dsimp only;obtain⟨Q,bc⟩:∃Q,Q=5*ax:=⟨_,rfl⟩;obtain⟨C,aI⟩:∃C,C=min 5 (n-Q):=⟨_,rfl⟩;rw[<- bc]at be ⊢;rw[<- aI];have aR:=aD.drop (k:=Q) (c:=c) ad aQ;rw[a8 ad]at aR;have a7:Rd W (ab ⟨b,o+Q,af⟩) C ((l.drop Q).take C):=by
    have a2:Rd W (ab ⟨b,o+Q*1,af⟩) C ((l.drop Q).take C):=aR.take (k:=C) ad;rwa[ym]at a2
   have a9:aa ((l.drop Q).take C)=C:=a7.len bL;have bb:∀H∈(l.drop Q).take C,H∈l:=λH aJ=>List.mem_of_mem_drop (List.mem_of_mem_take aJ);generalize(l.drop Q).take C=Z at*
   apply a3 (ι:=Unit) (τ:=λ_=>[(3,I aB),(5,I ar),(6,.slice (ab ⟨b,o+Q,af⟩) C C)]) (M:=λ_=>bR av (.deferred (ab []))::E 3 1 am (aa D) ai (J D)::ah ar 156 [.slice am (aa D) ai]::ah aB 386 [.func (.func 287) #[] #[]]::F::W) (Fy:=λ_=>True) _ _
   .intro g aW _ _;apply ak _;exact vR () trivial aZ a1
   .intro g aW _ _ _ _;have aV:aa (bw dq Z)=C:=by rw[gV,a9]
    have aJ:(bw dq Z)[C/2]?=ab (bw dq Z)[C/2]:=b8 ad;have bo:(bw dq Z)[C/2] ∈l:=bb _ ((f8 Z).subset (gG _));generalize(bw dq Z)[C/2]=H at*
    apply ak _;refine aP ((MG (ab ⟨b,o+Q,af⟩) C C Z _ cX ad (bC _))) ?_;rintro _ _ ⟨R,aY,rfl,aO,rfl⟩;apply dl _;rw[aV]at aO ⊢;obtain⟨aM,rfl⟩:=aO ad;have bh:∀aq,a5 (E 3 1 (U aM) C aY (J (bw dq Z))::aq) ⟨aM,0+(C/2)*1,af⟩ (j H):=λaq=>pX aV aJ aq;generalize bw dq Z=bJ at*
    apply ak _;refine qq ki p p p p (fC p ec) ?_;refine mC ki p p p p (l5 p) ?_;refine mC ki p p p p (l5 p) ?_;refine qq ki p p p p (zp p) ?_
    (first|refine mC ki p p p p (l6 (q:=2) p p aw aw) ?_|refine mC ki p p p p (jC p p aw aw aw) ?_)
    (first|refine mC ki p p p p (iV p p aw) ?_|refine mC ki p p p p (CC p p aw aw) ?_)
    refine qq ki p p p p (fC p (bx bh)) ?_;apply h5 λbB=>?_;apply nH λaF aH a4 bi bk=>?_;exact vQ (bR av (.deferred (ab []))::E 3 1 aF (aa (D++[H])) aH (J (D++[H]))::ah ar 156 [.slice aF (aa (D++[H])) aH]::ah aB 386 [.func (.func 287) #[] #[]]::F::W) ⟨rfl,(aF,aH,D++[H]),⟨by simp only[b4,hg,az],λbA bq=>(List.mem_append.1 bq).elim (aA bA) (λh=>by simp at h;exact h▸bo),by simp only[b4,hg];exact λ_=>bk ad,by simp only[b4,hg];exact a4,bi⟩,rfl⟩ (by
     rw[b4,<- gi];exact au)
 .rintro av aG ⟨-,⟨am,ai,D⟩,aT,⟨az,aA,aE⟩,rfl⟩;simp only at aT az aA aE;dsimp only;apply ak _;exact vP [av] rfl (by rw[<- aS];rfl) p ds (M:=E 3 1 am (aa D) ai (J D)::ah ar 156 [.slice am (aa D) ai]::F::W) (j:=E 3 1 am (aa D) ai (J D)::W) au au ⟨D,aT,am,ai,rfl,az,aA,aE,rfl⟩
 .rintro av ai aG ⟨h,_⟩;cases h
def adU:∀(ah:Nat)(A:a3)(n c:Nat)(l:List Int)(D:Nat)(v:Int)(I:Q)(_:n<=ah)(_:Rd I A n l)(_:n<=1000000)(_:n<=c) (_:(bw dq l)[D]?=ab v),
  Y 605 #[.slice A n c,j (D:Nat),.func (.func 287) #[] #[]] I λbb W=>bb=j v/\W=I:=by
 intro ah
 induction ah using Nat.strongRecOn with
 | _ ah a2=>
 intro A n c l D v I bg aq bj aL az;have h1:aa l=n:=aq.len bL;refine aD λ{g F}=>?_;apply cc;apply fV _;apply ef (ι:=Option cg×Nat×List Int×Nat×List aG) (λC=>[(0,.slice C.1 C.2.2.1.length C.2.1),(1,j (C.2.2.2.1:Nat)),(2,.func (.func 287) #[] #[])]) (λC=>C.2.2.2.2++F::I) (λC=>Rd (C.2.2.2.2++F::I) C.1 C.2.2.1.length C.2.2.1/\C.2.2.1.length<=C.2.1/\C.2.2.1.length<=n/\(bw dq C.2.2.1)[C.2.2.2.1]?=ab v) _ _
 .apply bs _;refine cL (ι:=Option cg×Nat×List Int×Nat×List aG) (λC=>[(0,.slice C.1 C.2.2.1.length C.2.1),(1,j (C.2.2.2.1:Nat)),(2,.func (.func 287) #[] #[])]) (λC=>C.2.2.2.2++F::I) (λC=>Rd (C.2.2.2.2++F::I) C.1 C.2.2.1.length C.2.2.1/\C.2.2.1.length<=C.2.1/\C.2.2.1.length<=n/\(bw dq C.2.2.1)[C.2.2.2.1]?=ab v) (λC=>C.2.2.1.length) (A,c,l,D,[]) ⟨by simp only[List.nil_append];rw[h1];exact aq.ap,by simp_all,by simp_all,az⟩ ⟨by simp only;rw[h1];rfl,rfl,rfl,trivial⟩ a1 ?_;rintro⟨A,c,l,D,aH⟩ ⟨ai,R,am,O⟩;simp only at ai R am O;dsimp only;clear aq aL az h1;have aT:D<aa l:=by
   rcases dZ D (aa l)with h|h
   .omega
   .rw[mw uV]at O;trivial
  apply ak _;refine c0 p (λaF=>?_) (λaF=>?_)
  .apply ak _;refine aP (adv A (aa l) c l _ cX ad ad R) ?_;rintro _ _ ⟨H,⟨a4,bm,bn⟩,aE,aI,rfl,aY,a0,bl,rfl⟩;apply dl _;have bi:aa H/2<aa H:=ad;have aA:(bw dq H)[aa H/2]?=ab ((bw dq H)[aa H/2]'uV):=b8 _;generalize(bw dq H)[aa H/2]'bv=C at aA;have aW:C∈l:=a4 C (z3 aA);have bq:=xB sd C l;have a8:=Di aW;apply aC _
   (first|refine a6 (l6 (q:=2) p p aw aw) ?_|refine a6 (jC p p aw aw aw) ?_)
   apply ay _;refine dQ (a2 (aa H) ad aE (aa H) aI H (aa H/2) C _ (bC _) (bf.E (ck _) aY) ad a0 aA) ?_;refine aP (Sm A (aa l) c l C _ cX ad) ?_;rintro _ _ ⟨s,rfl,Z,rfl⟩;apply dl _;have bo:∀h,_:=Ig (j:=D) sd C l;have a7:∀h be,_:=Rr (j:=D) sd C l;have bp:∀h,_:=If (j:=D) sd C l;have bh:∀aO∈eL C l,aO=C:=λaO aX=>td aX;generalize el dq C l=av at*
   generalize eL C l=ar at*
   generalize fp dq C l=ax at*
   apply ak _;refine c0 p (λaM=>?_) (λaM=>?_)
   .apply ak _;exact b7 (s.ln,s.c1,av,D,[E 3 1 s.ln (aa av) s.c1 (J av)]) ⟨bf.E (ck _) Z.h1,Z.uD,by grind,by simp_all⟩ bv aZ au
   .apply ak _;refine c0 p (λa9=>?_) (λa9=>?_)
    .let⟨aB,aK⟩:=Z.ae a8;have aJ:=a7 ad ad;rw[O]at aJ;have aQ:ar[0]?=ab C:=by
      grind[b8,gG]
     cases aJ;let⟨br,bA,bt,bc,bz,bB⟩:=s;simp only at aK;subst aK;dsimp only;have aV:∀W,a5 (E 3 1 (U aB) (aa ar) bc (J ar)::W) ⟨aB,0+0*1,af⟩ (j v):=λW=>pX p aQ W;apply aC _;refine a6 (fC p (bx aV)) ?_;apply ak _;refine ba p ds ?_ bD;exact λh q=>sS cf h q.tail.tail.tail.tail
    .apply ak _;exact b7 (s.lp,s.lx,ax,D-aa av-aa ar,[E 3 1 s.lp (aa ax) s.lx (J ax)]) ⟨bf.E (ck _) Z.an,Z.uE,by grind,by simp_all⟩ bv ⟨rfl,by rfl,rfl,trivial⟩ au
  .apply bs _;exact cC (A,c,l,D,aH) ⟨ai,R,am,O⟩ aZ a1
 .rintro⟨A,c,l,D,aH⟩ ⟨ai,R,am,O⟩;simp only at ai R am O;dsimp only;clear aq aL az h1;have aT:D<aa l:=by
   rcases dZ D (aa l)with h|h
   .omega
   .rw[mw uV]at O;trivial
  have bk:aa (bw dq l)=aa l:=gV l;apply aC _;refine aP (MG A (aa l) c l _ cX ad R) ?_;rintro _ _ ⟨aE,aI,rfl,aS,rfl⟩;apply ay _;obtain⟨aB,rfl⟩:=aS ad;apply dY _;refine a6 (fC p (pX p O _)) ?_;apply ak _;exact aR bD (λh q=>sS cf h q.tail)
def aeO(A n c l C v O)(aq:Rd O A n l)(ah:n<=1000000)(ap:n<=c)(H:(bw dq l)[C]?=ab v):
  Y 598 #[.slice A n c,j (C:Nat),.func (.func 287) #[] #[]] O λaB D=>aB=.tuple #[j v,.bool ag]/\D=O:=by
 have h1:aa l=n:=aq.len bL;have aI:C<n:=by
  rcases dZ C n with h|h
  .omega
  .rw[mw uV]at H;trivial
 have aA:=Di (z3 H);have aE:=xj sd H;have aF:=Dr sd H;have aJ:∀am∈eL v l,am=v:=λam av=>td av;have R:(eL v l)[C-aa (el dq v l)]?=ab v:=by
  grind[b8,gG]
 refine bt ?_;refine dQ (adU n A n c l C v _ (bC _) cX ah ap H) ?_;apply aP (Sm A n c l v _ cX ah) _;rintro _ _ ⟨s,rfl,az,rfl⟩;apply dl _;generalize el dq v l=ax at*
 generalize eL v l=Q at*
 generalize fp dq v l=aG at*
 let⟨ai,W⟩:=az.ae aA;let⟨aK,aO,aL,aD,aM,aQ⟩:=s;simp at W;subst W;obtain⟨I,Z⟩:∃I,C-aa ax=I:=⟨_,rfl⟩;rw[Z]at R;have aH:I<aa Q:=ad;have ar:∀D,a5 (E 3 1 (U ai) (aa Q) aD (J Q)::D) ⟨ai,0+I*1,af⟩ (j v):=λD=>pX p R D;apply bQ _;iterate 4 apply ay _
 refine a6 (wR p p ad) ?_;rw[Z];apply dY _;exact a6 (fC p (bx ar)) fG
def aeN(A c C):Y 598 #[.slice A 0 c,j 0,.func (.func 287) #[] #[]] C λE D=>E=.tuple #[j 0,.bool al]/\D=C:=by
 refine bt ?_;exact c8
def Wn(A n c l v C)(O:Rd C A n l)(H:n<=1000000)(E:n<=c)(I:(bw dq l)[n/2]?=ab v):
  Y 590 #[.slice A n c,.func (.func 287) #[] #[]] C λJ D=>J=.tuple #[j v,.bool ag]/\D=C:=by
 refine aD ?_
 (first|apply a6 _ _|refine a6 (jC p p aw aw aw) ?_)
 apply ay _;apply a9 (aeO A n c l (n/2) v _ cX H E I) _;refine ba p (.tmp p (.tmp p .nil)) a1 bD
def Wm(A c C):Y 590 #[.slice A 0 c,.func (.func 287) #[] #[]] C λE D=>E=.tuple #[j 0,.bool al]/\D=C:=by
 refine aD ?_
 (first|apply a6 _ _|refine a6 (jC p p aw aw aw) ?_)
 apply ay _;apply a9 (aeN A c _) _;refine ba p (.tmp p (.tmp p .nil)) a1 bD
end S
end
end Go.Proofs.YteinodmjohkmmaaGreat
