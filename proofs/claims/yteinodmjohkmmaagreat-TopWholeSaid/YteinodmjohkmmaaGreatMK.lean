/- TopWhole: a part of its proof. -/
import Derived.Test.YteinodmjohkmmaaGreatMA3
set_option linter.all false
set_option maxRecDepth 100000
set_option maxHeartbeats 4000000
open Bool renaming false->al,true->ag
open Decidable renaming of_not_not->U1
open Go renaming FuncId->dc,Program->bk,Value->a2
open Go.Op renaming equal->eo
open Go.Result renaming andThen_ok->dG
open Go.Sem renaming run_bind->cM
open List renaming append_assoc->jm,filter_append->vy,filter_eq_self->yb,getElem?_eq_getElem->b8,getElem_mem->gG,length->aa,length_append->b4,length_cons->f0,length_filter_le->kj,length_mergeSort->ky,map_append->ez,mem_append->b9,mem_cons->df,mem_cons_of_mem->gn,mem_filter->ii,mem_flatMap->kz,mem_of_getElem?->lQ,nodup_append->tN,nodup_cons->j3,not_mem_nil->Lw,perm_append_comm->ep,perm_middle->fA,take_length->nN,take_succ_eq_append_getElem->j4
open List.Perm renaming append_left->qh
open List.cons renaming injEq->so
open Nat renaming le_add_right->E5,le_refl->bC,le_succ->gp,le_trans->hj,zero_le->bO
open Option renaming none->af,some->ab
open Go.RowKit
namespace Go.Proofs.YteinodmjohkmmaaGreat
noncomputable section
namespace fb
def cF(j q:aj):Bool:=decide (up j q<0)
theorem J6(j q):cF j q=j.kw.less q.kw:=by
 unfold cF up aj.cmp
 by_cases h:j.kw=q.kw
 .rw[bJ h,h,aj.pY];rfl
 grind
def JZ{j q:aj}(h:j.kw=q.kw):j=q:=by
 cases j;cases q;simp[aj.kw,aj.mk.injEq]at h ⊢;omega
def aho:fl cF:=⟨λD=>by rw[J6];exact hu.jE _,λh j=>by rw[J6]at h j ⊢;exact hu.gu h j,λh j=>by rw[J6]at j ⊢;exact hu.hY (λC=>h (JZ C)) j⟩
def gx(j:Nat):aj->aj->Bool:=if j % 2=0 then aj.less else cF
def ty(j):fl (gx j):=by
 unfold gx;split
 .exact hu
 .exact aho
inductive aA where
 |nil
 |node (b:Nat) (E:aj) (g:Bool) (D:Nat) (H:cS) (C j:aA)
def aA.Z:aA->Option Addr
 | .nil=>af
 | .node b _ _ _ _ _ _=>(U b)
def aA.cj:aA->Nat
 | .nil=>0
 | .node _ _ _ _ _ C j=>C.cj+j.cj+1
def aA.size:aA->Nat
 | .nil=>0
 | .node _ _ _ j _ _ _=>j
def aA.all:aA->List aj
 | .nil=>[]
 | .node _ D _ _ _ C j=>D::(C.all++j.all)
def aA.aQ:aA->List aj
 | .nil=>[]
 | .node _ D g _ _ C j=>(if g then[]else[D])++(C.aQ++j.aQ)
def aA.depth:aA->Nat
 | .nil=>0
 | .node _ _ _ _ _ C j=>max C.depth j.depth+1
@[reducible] def _root_.Go.Proofs.YteinodmjohkmmaaGreat.aj.dy (j:aj):cS:=⟨j.x,j.x,j.y,j.y⟩
def M1(a b:cS):cS:=⟨min a.cN b.cN,max a.cQ b.cQ,min a.c9 b.c9,max a.cZ b.cZ⟩
def oW(a:cS):aA->cS
 | .nil=>a
 | .node _ _ _ _ j _ _=>M1 a j
def dg(n:Nat):Nat:=3*n/4
def aA.ok:Nat->aA->Prop
 | _,.nil=>True
 |D,.node b E g H I C j=>((∀q∈C.all,gx D q E=ag)/\(∀q∈j.all,gx D E q=ag))/\(H=C.cj+j.cj+1/\I=oW (oW E.dy C) j/\C.cj<=dg (C.cj+j.cj+1)/\j.cj<=dg (C.cj+j.cj+1))/\C.ok (D+1)/\j.ok (D+1)
theorem aA.wa:∀j:aA,aa j.all=j.cj
 | .nil=>rfl
 | .node b H g E I D C=>by simp[aA.all,aA.cj,f0,b4,D.wa,C.wa]
def aA.qR:∀j:aA,j.aQ.Sublist j.all
 | .nil=> .slnil
 | .node b H g E I D C=>by
  have h:=D.qR.append C.qR;unfold aA.aQ aA.all;grind
def aA.An(j:aA):aa j.aQ<=j.cj:=by rw[<- j.wa];exact j.qR.length_le
theorem aA.ok.size{C}{j:aA}(h:j.ok C):j.size=j.cj:=by
 cases j with
 |nil=>rfl
 |node=>exact h.2.1.1
def aA.Ce:∀j:aA,j.depth<=j.cj
 | .nil=>bC _
 | .node b H g E I D C=>by
  have h1:=D.Ce;have ae:=C.Ce;simp[aA.depth,aA.cj];omega
theorem aA.ok.nodup:∀{D:aA}{C},D.ok C->D.all.Nodup
 | .nil,_,_=> .nil
 | .node b E g R U Q O,C,h=>by
  have o:=ty C;apply j3.2 ⟨λj=>?_,tN.2 ⟨h.2.2.1.nodup,h.2.2.2.nodup,λa I c J H=>?_⟩⟩
  .rcases b9.1 j with j|j
   .have:=h.1.1 E j;rw[o.jE]at this;trivial
   .have:=h.1.2 E j;rw[o.jE]at this;trivial
  .subst H;have:=o.gu (h.1.1 a I) (h.1.2 a J);rw[o.jE]at this;trivial
def aA.fd(q:aj):Nat->aA->aA
 | _,.nil=> .nil
 |j,.node b C g H I E D=>if C=q then .node b C g H I E D else if gx j q C=ag then E.fd q (j+1)else D.fd q (j+1)
def aA.live:aA->Bool
 | .nil=>al
 | .node _ _ g _ _ _ _=>!g
theorem aA.ok.has:∀{J:aA}{H},J.ok H->∀q,(J.fd q H).live=ag<->q∈J.aQ
 | .nil,_,_,q=>by simp[aA.fd,aA.live,aA.aQ]
 | .node b j g ah ai I E,H,h,q=>by
  have o:=ty H;have h1:=h.2.2.1.has q;have ae:=h.2.2.2.has q;have W:∀D,D∈I.aQ->D∈I.all:=λD O=>I.qR.subset O;have Y:∀D,D∈E.aQ->D∈E.all:=λD O=>E.qR.subset O;unfold aA.fd aA.aQ
  by_cases Q:j=q
  .subst Q;rw[bJ p];have R:j∉I.aQ:=λC=>by have:=h.1.1 j (W j C);rw[o.jE]at this;trivial
   have U:j∉E.aQ:=λC=>by have:=h.1.2 j (Y j C);rw[o.jE]at this;trivial
   cases g<;>simp[aA.live,R,U]
  .rw[a8 Q];have Z:q∉(if g then[]else[j]):=bv
   by_cases c:gx H q j=ag
   .rw[bJ c,h1];have U:q∉E.aQ:=λC=>by have:=o.gu c (h.1.2 q (Y q C));rw[o.jE]at this;trivial
    simp_all
   .rw[a8 c,ae];have R:=λC=>c (h.1.1 q (W q C));simp_all
def aA.mark(q:aj):Nat->aA->aA
 | _,.nil=> .nil
 |E,.node b j g H I D C=>if j=q then .node b j ag H I D C else if gx E q j=ag then .node b j g H I (D.mark q (E+1)) C else .node b j g H I D (C.mark q (E+1))
theorem aA.H4(q C)(j:aA):(j.mark q C).Z=j.Z:=by
 cases j with
 |nil=>rfl
 |node=>unfold aA.mark;split<;>(try split)<;>rfl
theorem aA.zT(q):∀(j:aA)(C),(j.mark q C).all=j.all
 | .nil,_=>rfl
 | .node b I g H J E D,C=>by
  unfold aA.mark;split
  .rfl
  .split
   .simp[aA.all,E.zT q _]
   .simp[aA.all,D.zT q _]
theorem aA.uH(q)(j:aA)(C):(j.mark q C).cj=j.cj:=by rw[<- aA.wa,aA.zT,aA.wa]
theorem aA.Rb(q a j C):oW a (j.mark q C)=oW a j:=by
 cases j with
 |nil=>rfl
 |node=>unfold aA.mark;split<;>(try split)<;>rfl
theorem aA.ok.mark{q}:∀{C:aA}{j},C.ok j->(C.mark q j).ok j
 | .nil,_,h=>h
 | .node b I g H J E D,j,h=>by
  have h1:=h.2.2.1.mark (q:=q);have ae:=h.2.2.2.mark (q:=q);unfold aA.mark;split
  .exact h
  .split
   .refine⟨⟨by rw[aA.zT];exact h.1.1,h.1.2⟩,⟨?_,?_,?_,?_⟩,h1,h.2.2.2⟩
    .rw[aA.uH];exact h.2.1.1
    .rw[aA.Rb];exact h.2.1.2.1
    .rw[aA.uH];exact h.2.1.2.2.1
    .rw[aA.uH];exact h.2.1.2.2.2
   .refine⟨⟨h.1.1,by rw[aA.zT];exact h.1.2⟩,⟨?_,?_,?_,?_⟩,h.2.2.1,ae⟩
    .rw[aA.uH];exact h.2.1.1
    .rw[aA.Rb];exact h.2.1.2.1
    .rw[aA.uH];exact h.2.1.2.2.1
    .rw[aA.uH];exact h.2.1.2.2.2
def aA.ok.H6:∀{J:aA}{I}{q},J.ok I->q∈J.aQ->(J.mark q I).aQ=J.aQ.erase q
 | .nil,_,_,_,R=>by rfl
 | .node b j g ai am H E,I,q,h,R=>by
  have o:=ty I;have Z:∀D,D∈H.aQ->D∈H.all:=λD U=>H.qR.subset U;have ah:∀D,D∈E.aQ->D∈E.all:=λD U=>E.qR.subset U;unfold aA.mark
  by_cases W:j=q
  .subst W;have O:j∉H.aQ:=λC=>by have:=h.1.1 j (Z j C);rw[o.jE]at this;trivial
   have Q:j∉E.aQ:=λC=>by have:=h.1.2 j (ah j C);rw[o.jE]at this;trivial
   rw[bJ p];unfold aA.aQ at R ⊢;simp_all
  .rw[a8 W];have Y:q∈H.aQ++E.aQ:=by
    unfold aA.aQ at R;grind
   by_cases c:gx I q j=ag
   .rw[bJ c];have Q:q∉E.aQ:=λC=>by have:=o.gu c (h.1.2 q (ah q C));rw[o.jE]at this;trivial
    have O:=(b9.1 Y).resolve_right Q;have:=h.2.2.1.H6 O;simp[aA.aQ];grind
   .rw[a8 c];have O:=λC=>c (h.1.1 q (Z q C));have Q:=(b9.1 Y).resolve_left O;have:=h.2.2.2.H6 Q;simp[aA.aQ];grind
def aA.run{α:Type}(step:α->aj->Bool->cS->Bool×α):α->aA->α
 |s,.nil=>s
 |s,.node _ j g _ C E D=>if(step s j g C).1 then D.run step (E.run step (step s j g C).2)else(step s j g C).2
def aA.Jh{α step}{ok:α->Nat->Prop}(h1:∀s n C g D,ok s (n+1)->ok (step s C g D).2 n)(ae:∀s n j,ok s n->j<=n->ok s j):∀(E:aA)(s)(n),ok s (E.cj+n)->ok (E.run step s) n
 | .nil,s,n,h=>by simpa[aA.run,aA.cj]using h
 | .node b C g j D I H,s,n,h=>by
  unfold aA.run;have an:ok (step s C g D).2 (I.cj+(H.cj+n)):=h1 _ _ _ _ _ (ae _ _ _ h (by simp[aA.cj];omega));split
  .exact H.Jh h1 ae _ _ (I.Jh h1 ae _ _ an)
  .exact ae _ _ _ an ad
def xE(l:List aj)(j:aj)(g:Bool)(_:cS):Bool×List aj:=(ag,if g then l else l++[j])
theorem aA.Ji:∀(j:aA)(l),j.run xE l=l++j.aQ
 | .nil,l=>by simp[aA.run,aA.aQ]
 | .node b H g E I D C,l=>by
  unfold aA.run;simp[xE];rw[D.Ji,C.Ji];cases g<;>simp[aA.aQ]
def fD(b:cS)(j:aj):Bool:=b.has j.x j.y
def oe(a b:cS):Bool:=(decide (a.cN<=a.cQ)&&decide (a.c9<=a.cZ))&&((decide (b.cN<=b.cQ)&&decide (b.c9<=b.cZ))&&(decide (max a.cN b.cN<=min a.cQ b.cQ)&&decide (max a.c9 b.c9<=min a.cZ b.cZ)))
@[reducible] def iB (D:aj) (g:Bool) (H E:a3) (I:Nat) (C:cS):List Value:=[j D.id,j D.x,j D.y,.bool g,.pointer H,.pointer E,j (I:Nat),j C.cN,j C.cQ,j C.c9,j C.cZ]
def d6:aA->aG
 | .nil=>λ_=>True
 | .node b H g E I D j=>λh=>C [ah b 397 (iB H g D.Z j.Z E I),d6 D,d6 j] h
def d2(j:Q):aA->Prop
 | .nil=>True
 | .node b H g E I D C=>aU j b 0 11 (iB H g D.Z C.Z E I)/\d2 j D/\d2 j C
theorem _root_.Go.Proofs.YteinodmjohkmmaaGreat.aU.of{A N D b o n j}(E:∀h,A h->C N h)(l:aU N b o n j):aU (A::D) b o n j:=⟨l.1,λI v H=>(l.2 I v H).of E⟩
def d2.mono{L M:Q}(f:aS M L):∀{j},d2 L j->d2 M j
 | .nil,_=>trivial
 | .node b H g E j D C,h=>⟨h.1.mono f,h.2.1.mono f,h.2.2.mono f⟩
theorem d2.ap{D j C}(h:d2 j C):d2 (D::j) C:=h.mono λ_ s=>s.tail
theorem d2.of{A}{N D:Q}(f:∀h,A h->C N h):∀{j},d2 N j->d2 (A::D) j
 | .nil,_=>trivial
 | .node b J g I j H E,h=>⟨h.1.of f,h.2.1.of f,h.2.2.of f⟩
def xc:∀(j)(E:Q),d2 (d6 j::E) j
 | .nil,_=>trivial
 | .node b I g H j D C,E=>d2.of (N:=[ah b 397 (iB I g D.Z C.Z H j),d6 D,d6 C]) (λ_ h=>h) ⟨aU.ah p,(xc D _).ap,(xc C []).ap.ap⟩
section
variable{P:bk}{B:Exit->Act->World->Prop}{ajC:d1}{n:Nat}{K:List fj}{H:cU}{L M:Q}{b:Nat}{ai:aj}{g:Bool}{m:Nat}{x:cS}{lo hi:aA}
def O.ab6{j args C}(R:O P j args (ah b 397 (iB ai g lo.Z hi.Z m x)::d6 lo::d6 hi::L) C):O P j args (d6 (.node b ai g m x lo hi)::L) C:=
 O.open (ι:=Unit) (D:=λ_=>True) (E:=λ_=>[ah b 397 (iB ai g lo.Z hi.Z m x),d6 lo,d6 hi]) (λ_ h=>⟨(),trivial,h⟩) λ_ _=>R
theorem Cr(j:aS L (ah b 397 (iB ai g lo.Z hi.Z m x)::d6 lo::d6 hi::M)):aS L (d6 (.node b ai g m x lo hi)::M):=λh s=>
 C.fold (N:=[ah b 397 (iB ai g lo.Z hi.Z m x),d6 lo,d6 hi]) (λ_ h=>h) (j h s)
theorem Gs(j:aS L M):aS L (d6 .nil::M):=λh s=>
 ⟨λ_=>af,h,λ_=> .inl p,λ_ _ C=>bv,eV.refl _,trivial,j h s⟩
end
structure V7 (C:Q) (b:Nat) (D:aj) (g:Bool) (J:Nat) (E:cS) (I H:aA):Prop where
 uj:aU C b (0+0) 3 [j D.id,j D.x,j D.y]
 ajp:a5 C ⟨b,0+3,af⟩ (.bool g)
 O5:a5 C ⟨b,0+4+0*1,af⟩ (.pointer I.Z)
 O4:a5 C ⟨b,0+4+1*1,af⟩ (.pointer H.Z)
 ajr:aU C b (0+4) 2 [.pointer I.Z,.pointer H.Z]
 ajs:a5 C ⟨b,0+6,af⟩ (j (J:Nat))
 ajA:aU C b (0+7) 4 [j E.cN,j E.cQ,j E.c9,j E.cZ]
 ajq:a5 C ⟨b,0+0+0,af⟩ (j D.id)
 aa3:d2 C I
 aa2:d2 C H
def uF{D b o n E c H C}(h:aU D b o n H)(J:aa C=c)(O:∀(j)(v),C[j]?=ab v->H[E+j]?=ab v):aU D b (o+E) c C:=⟨J,λj v I=>by
 have:=h.2 _ v (O j v I);rwa[<- Nat.add_assoc]at this⟩
theorem d2.f{j b J g I O H C}(h:d2 j (.node b J g I O H C)):V7 j b J g I O H C:=
 ⟨uF h.1 p (λE v D=>by grind),h.1.at_ (i:=3) p,h.1.at_ (i:=4) p,h.1.at_ (i:=5) p,
  uF h.1 p (λE v D=>by grind),h.1.at_ (i:=6) p,
  uF h.1 p (λE v D=>by grind),h.1.at_ (i:=0) p,h.2.1,h.2.2⟩
def aA.bG:aA->List Nat
 | .nil=>[]
 | .node b _ _ _ _ C j=>b::(C.bG++j.bG)
def gr(j:List aA):aG:=λh=>C (j.map d6) h
def kf(C:aA)(j:List aA)(a:Nat):Prop:=a∈C.bG\/∃D∈j,a∈D.bG
def Oq{E M:Q}{D j}(H:aS E (d6 D::gr j::M)):aS E (gr (D::j)::M):=λh s=>
 C.fold (N:=[d6 D,gr j]) (λh q=>C.bl (λ_ s=>by simpa[gr]using C.part s) q) (H h s)
theorem zg{j M:Q}(C:aS j M):aS j (gr []::M):=λh s=>
 ⟨λ_=>af,h,λ_=> .inl p,λ_ _ D=>bv,eV.refl _,trivial,C h s⟩
def Qk:∀{j}{D}{E:Q},D∈j->d2 (gr j::E) D
 |y::j,D,E,h=>by
  have H:=λh s=>C.bl (λ_ s=>C.join (L:=[]) (by simpa using s)) (show C (d6 y::j.map d6) h from s);rcases df.1 h with rfl|h
  .exact d2.of H (xc _ _)
  .exact d2.of H ((Qk h).ap)
theorem aA.at_{a}:∀{E},a∈E.bG->∃D:aA,D.Z=(U a)/\(∀j,d2 j E->d2 j D)/\∀c∈D.bG,c∈E.bG
 | .node b Q g O D J I,C=>by
  simp[aA.bG,df,b9]at C;rcases C with rfl|C|C
  .exact⟨_,rfl,λ_ h=>h,λ_ h=>h⟩
  .obtain⟨y,h1,ae,an⟩:=aA.at_ C;exact⟨y,h1,λj h=>ae j h.2.1,λc H=>gn _ (b9.2 (.inl (an c H)))⟩
  .obtain⟨y,h1,ae,an⟩:=aA.at_ C;exact⟨y,h1,λj h=>ae j h.2.2,λc H=>gn _ (b9.2 (.inr (an c H)))⟩
def acF{D j a}(h:kf D j a):∃E:aA,E.Z=(U a)/\(∀C,d2 C D->(∀y∈j,d2 C y)->d2 C E)/\∀c∈E.bG,c∈D.bG++j.flatMap aA.bG:=by
 rcases h with h|⟨y,H,h⟩
 .grind[aA.at_]
 grind[aA.at_]
def QM{C j}:∀a∈C.bG++j.flatMap aA.bG,kf C j a:=λa D=>(b9.1 D).imp id λh=>kz.1 h
theorem kf.mem{C j a}(h:kf C j a):a∈C.bG++j.flatMap aA.bG:=b9.2 (h.imp id λh=>kz.2 h)
attribute [local irreducible] C bh b6
def Ht(C D)(h:d2 D C):aY 233 #[.pointer C.Z] D (j (C.size:Nat)) D:=by
 cases C with
 |nil=>
  refine bt ?_;exact c8
 |node b J g I am H E=>
  obtain⟨aF,aM,Q,R,U,W,Y,ah,ai,O⟩:=h.f;refine bt ?_;exact c8
def ab2(n C)(E:n<=9223372036854775807):aY 307 #[j (n:Nat)] C (j (dg n:Nat)) C:=by
 refine aD ?_
 (first|apply a6 _ _|refine a6 (jC p p aw aw aw) ?_)
 apply ak _;refine a6 (CG rfl p ao) ?_;apply ay _
 (first|refine a6 _ ?_|refine a6 (jC p p aw aw aw) ?_)
 refine ak ?_;refine ba (C:=C) p ds a1 ⟨?_,rfl⟩;show Value.int .i64 _= _
 congr 1
 have D:n/4*3+n % 4*3/4=dg n:=by unfold dg;omega
 exact_mod_cast D
def t2(j:Nat):dc:=if j % 2=0 then 311 else 413
instance(j:Nat):cu ar (t2 j):=by
 unfold t2;split
 .infer_instance
 .infer_instance
def Xh(j q C):aY 413 #[j.v,q.v] C (.bool (cF j q)) C:=by
 refine aD ?_;refine bd λD=>?_;apply bP λE=>?_;apply a9 (J9 j q _) _;exact c8
def MP(j):m7 (t2 j) (gx j):=⟨λD q C=>by
 unfold t2 gx
 by_cases h:j % 2=0
 .rw[bJ h,bJ h];exact rM D q C
 .rw[a8 h,a8 h];exact Xh D q C⟩
def MO(C D)(E:C<=9223372036854775807):aY 362 #[j (C:Nat)] D (.func (.func (t2 C)) #[] #[]) D:=by
 unfold t2;refine cR ?_;refine bQ ?_;apply ay _;apply cc
 by_cases h:C % 2=0
 .rw[bJ h];apply aC _;exact a6 (CG (q:=2) p p ao) c8
 .rw[a8 h];apply aC _;exact a6 (CG (q:=2) p p ao) c8
def r9(b D q C E)(h:aU E b (0+0) 3 [j D.id,j D.x,j D.y])(Q:C<=1000000):aY 306 #[I b,q.v,j (C:Nat)] E (j (if gx C q D=ag then 0 else 1)) E:=by
 have H:=(MP C).o1 q D;generalize gx C q D=J at*
 refine aD ?_;refine bg λO=>?_;apply fK (bE [0,2,3,4,5,6] (.e 1 (.e 7 .nil))) _;refine dM (MO C _ ad) ?_;refine bF (hD cq p p p (f4 p p (H _)) ?_);rintro _ _ ⟨rfl,rfl⟩
 all_goals
  cases J with
  |true=>
   exact fG
  |false=>
   exact fG
def Va(C:aj)(A c D)(h:Rd D A 1 [C])(R:1<=c):Y 360 #[.slice A 1 c] D λv J=>v=.tuple #[C.dy.v,.bool ag]/\J=D:=by
 obtain⟨Q,U,rfl,O⟩:=h.at_ ao;have y:=O 0 C p;have W:=y.at_ (i:=1) p;have Z:=y.at_ (i:=2) p;refine aD λ{g F}=>?_;apply bg λE=>?_;apply h5 λH=>?_;apply oP _
 all_goals
  apply dY _;apply cL (ι:=Unit) (λ_=>[(2,I E),(4,I H),(30,j 0),(31,j 0)]) (λ_=>ah H 48 [j C.x,j C.x,j C.y,j C.y]::ah E 48 [j 0,j 0,j 0,j 0]::F::D) (λ_=>True) (λ_=>0) () trivial aZ au;rintro _-;apply ak _;refine ba p (.cell p (eQ cA) (.tmp p .nil)) a1 bD
def tw(b:cS):Bool:=decide (b.cN<=b.cQ)&&decide (b.c9<=b.cZ)
def Dq(a b:cS):cS:=⟨max a.cN b.cN,min a.cQ b.cQ,max a.c9 b.c9,min a.cZ b.cZ⟩
theorem ads(a b):oe a b=(tw a&&(tw b&&tw (Dq a b))):=rfl
def JI(b j):aY 709 #[b.v] j (.bool (tw b)) j:=by
 unfold tw;refine aD ?_;refine bd λC=>?_;apply ay _;apply cc
 by_cases h1:b.cN<=b.cQ
 .apply eO _;exact⟨by simp[cs,h1],rfl⟩
 .apply eO _;exact⟨by simp[cs,h1],rfl⟩
def Wo(a b j):Y 706 #[a.v,b.v] j λv E=>∃c:cS,v=.tuple #[c.v,.bool (oe a b)]/\E=j:=by
 rw[ads];have C:=JI a;have D:=JI b;have O:=JI (Dq a b);generalize tw a=H at*
 generalize tw b=I at*
 generalize tw (Dq a b)=J at*
 refine aD ?_;refine bd λQ=>?_;apply bd λR=>?_;apply bP λU=>?_;apply bd λW=>?_;apply fv _;apply cc;cases H with
 |false=>
  apply aC _;apply a9 (C _) _;exact ba (C:=j) p (.cell p (eQ cA) ds) a1 ⟨⟨0,0,0,0⟩,rfl,rfl⟩
 |true=>
  cases I with
  |false=>
   apply aC _;apply a9 (C _) _;apply a9 (D _) _;exact ba (C:=j) p (.cell p (eQ cA) ds) a1 ⟨⟨0,0,0,0⟩,rfl,rfl⟩
  |true=>
   apply aC _;apply a9 (C _) _;apply a9 (D _) _;apply a9 (O _) _;cases J with
   |false=>
    apply eO _;exact⟨⟨0,0,0,0⟩,rfl,rfl⟩
   |true=>
    apply eO _;exact⟨Dq a b,rfl,rfl⟩
def Xs(a b j):Y 361 #[a.v,b.v] j λv C=>v=(M1 a b).v/\C=j:=by
 refine aD ?_;refine bd λD=>?_;apply bd λE=>?_;apply bg λH=>?_;refine ba p (.cell p (eQ cA) .nil) a1 bD
def s8(C j:aA):Nat->aA
 |0=>C
 | _=>j
def xo(j C:aA):Nat->Nat
 |0=>1
 |1=>1+j.size
 | _=>1+j.size+C.size
def Dv(j:aj)(C D:aA):Nat->cS
 |0=>j.dy
 |1=>oW j.dy C
 | _=>oW (oW j.dy C) D
def adI(D C){j}(h:j<2):xo D C (j+1)=xo D C j+(s8 D C j).size:=by rcases(by omega:j=0\/j=1)with rfl|rfl<;>rfl
def adK(E D C){j}(h:j<2):Dv E D C (j+1)=oW (Dv E D C j) (s8 D C j):=by rcases(by omega:j=0\/j=1)with rfl|rfl<;>rfl
def mT(b D Q ap aq lo hi E)(h1:d2 E lo)(ae:d2 E hi)(a0:lo.size<=100000)(a3:hi.size<=100000):
  aY 303 #[I b] (ah b 397 (iB D Q lo.Z hi.Z ap aq)::E) (I b) (ah b 397 (iB D Q lo.Z hi.Z (1+lo.size+hi.size) (oW (oW D.dy lo) hi))::E):=by
 refine aD λ{g F}=>?_;apply bd λaz=>?_;refine a9 (Va D _ 1 _ (bf.ah p) bL) ?_;refine cL (ι:=Nat) (λC=>[(0,I b),(23,.agg #[.pointer lo.Z,.pointer hi.Z]),(24,j (C:Nat))]) (λC=>ah b 397 (iB D Q lo.Z hi.Z (xo lo hi C) (Dv D lo hi C))::F::E) (λC=>C<=2) (λC=>2-C) 0 ao aZ au ?_;rintro C aG;have am:C<2->([.pointer lo.Z,.pointer hi.Z]:bz)[C*1]?=ab (.pointer (s8 lo hi C).Z):=λh=>by
  rcases(by omega:C=0\/C=1)with rfl|rfl<;>rfl
 have U:d2 E (s8 lo hi C):=by
  unfold s8;split
  .exact h1
  .exact ae
 have W:(s8 lo hi C).size<=100000:=by
  grind[s8]
 have aH:xo lo hi C<=300000:=by
  unfold xo;grind
 apply bQ _
 (first|refine a6 (rB (q:=2) p p) ?_|refine a6 (rA p p) ?_)
 apply ak _;refine c0 p (λai=>?_) (λai=>?_)
 .have H:C<2:=ad;have J:=adI lo hi H;have O:=adK D lo hi H;have R:=am H;generalize s8 lo hi C=Y at J O R U W;generalize xo lo hi C=aK at*
  generalize Dv D lo hi C=av at*
  apply bQ _;refine a6 (CB (C:=[.pointer lo.Z,.pointer hi.Z]) (j:=C) p p ad R) ?_;apply dl _;cases Y with
  |nil=>
   apply ak _;refine b7 (C+1) ad ad aZ ?_;rw[J,O];exact a1
  |node ax aL aB aJ ar aI aE=>
   let⟨aF,aM,aP,aQ,aS,aT,aV,aW,aX,aO⟩:=U.f;simp[aA.size]at W J;apply ak _;apply dM (Xs av ar _) _;refine b7 (C+1) ad ad aZ ?_;rw[J,O];exact au
 .have H:C=2:=ad;subst H;apply ak _;exact aR bD
def CW(b J H j R E D C)(h:d2 C (.node b J H j R E D))(U:j<=1000000):
  aY 542 #[I b] C (.bool (decide (dg j<max E.size D.size))) C:=by
 let⟨aF,aM,W,Y,Z,ah,ai,am,Q,O⟩:=h.f;refine bt ?_;refine pn (bE [0,1,2,3,4,6,7,8,9,10,13,14,15,16] (.e 5 (.e 11 (.q 12 (.e 17 (.q 18 (.q 19 .nil))))))) ?_;apply dM (Ht E _ Q.ap) _;apply dM (Ht D _ O.ap) _;refine dM (ab2 j _ ad) ?_;apply eO _;exact⟨congrArg Value.bool (decide_eq_decide.2 ad),rfl⟩
def Hm{α:Type}{ap:dc}{aE aH:bz}[cu ar ap](O:α->aG)(E:Q)(step:α->aj->Bool->cS->Bool×α)(R:α->Nat->Prop)(ah:aj->Prop)
  (am:∀s n j C D,R s (n+1)->R (step s j C D).2 n) (az:∀s n U,R s n->U<=n->R s U)
  (aq:∀s n b j C U D J H,R s (n+1)->ah j->d2 E (.node b j C U D J H)->Y ap (aE++[I b]++aH).toArray (O s::E) λv aK=>v=.bool (step s j C D).1/\aK=O (step s j C D).2::E):
  ∀(W:aA) (s:α) (n:Nat),R s (W.cj+n)->(∀j∈W.all,ah j)->d2 E W->aY 304 #[.pointer W.Z,.func (.func ap) aE.toArray aH.toArray] (O s::E) (.tuple #[]) (O (W.run step s)::E)
 | .nil,s,n,aI,ai,av=>by
  refine bt ?_;exact ba (D:=[]) (j:=[]) (C:=O s::E) p .nil a1 bD
 | .node b j C U D J H,s,n,aI,ai,av=>by
  obtain⟨aF,aM,aZ,a0,a3,a4,a7,a8,aW,aV⟩:=av.f;simp only[aA.cj]at aI;have aX:=am s (J.cj+H.cj+n) j C D bv;have aQ:=aq s (J.cj+H.cj+n) b j C U D J H bv (ai j (by simp[aA.all])) av;have aR:=Hm O E step R ah am az aq J (step s j C D).2 (H.cj+n) bv (λaB ax=>ai aB (by simp[aA.all,ax])) aW;have aT:=J.Jh am az (step s j C D).2 (H.cj+n) bv;have aS:=Hm O E step R ah am az aq H (J.run step (step s j C D).2) n aT (λaB ax=>ai aB (by simp[aA.all,ax])) aV;have aO:aA.run step s (.node b j C U D J H)=if(step s j C D).1 then H.run step (J.run step (step s j C D).2)else(step s j C D).2:=rfl;rw[aO];generalize(step s j C D).1=aL at*
  generalize(step s j C D).2=aJ at*
  refine bt ?_;refine GE (f4 p p (b3 aQ)) ?_;rintro _ _ ⟨aD,⟨rfl,rfl⟩,rfl⟩;apply ak _;cases aL with
  |false=>
   apply ak _;exact ba (D:=[]) (j:=[]) (C:=O aJ::E) p .nil a1 bD
  |true=>
   apply dY _;apply aP (b3 aR) _;rintro _ _ ⟨aD,⟨rfl,rfl⟩,rfl⟩;apply dY _;apply aP (b3 aS) _;rintro _ _ ⟨aD,⟨rfl,rfl⟩,rfl⟩;apply ak _;exact er (D:=[]) (j:=[]) (C:=O (H.run step (J.run step aJ))::E) p .nil a1 bD
def uZ(j:Nat)(l:List aj):aG:=λh=>∃a c,((0<aa l->∃b,a=(U b))/\aa l<=c/\c<=maxLen)/\C [E 42 3 a (aa l) c (J l),ah j 37 [.slice a (aa l) c]] h
def Mf{O D Q n H R I C l}(h:∀a c,((0<aa l->∃b,a=(U b))/\aa l<=c/\c<=maxLen)->G O D Q n H R (E 42 3 a (aa l) c (J l)::ah C 37 [.slice a (aa l) c]::I)):G O D Q n H R (uZ C l::I):=
 qm (ι:=Option Addr×Nat) (F:=λj=>(0<aa l->∃b,j.1=(U b))/\aa l<=j.2/\j.2<=maxLen) (D:=λj=>[E 42 3 j.1 (aa l) j.2 (J l),ah C 37 [.slice j.1 (aa l) j.2]]) (λ_ ⟨a,c,W,Z⟩=>⟨(a,c),W,Z⟩) λj Y=>h j.1 j.2 Y
def Gu{j M H n l D a c}(Y:aa l=n)(Z:J l=D)(O:0<n->∃b,a=(U b))(Q:n<=c)(R:c<=maxLen)(I:aS j (E 42 3 a n c D::ah H 37 [.slice a n c]::M)):aS j (uZ H l::M):=λh s=>by
 subst Y Z;exact C.fold (λ_ W=>⟨a,c,⟨O,Q,R⟩,W⟩) (I h s)
def xD(l:List aj)(n:Nat):Prop:=aa l+n<=500000
def ab3(E l n b j D ar H aq Z C)(ap:xD l (n+1))(ah:d2 C (.node b j D ar H aq Z)):
  aY 308 #[I b,I E] (uZ E l::C) (.bool (xE l j D H).1) (uZ E (xE l j D H).2::C):=by
 unfold xD at ap;obtain⟨aF,aM,az,aA,aB,aD,aE,aG,aH,ax⟩:=ah.f;refine cR ?_;refine bQ ?_;apply ay _;apply cc;apply pb [1] _;apply Mf;rintro a c ⟨R,U,W⟩;apply ak _;apply ak _;cases D with
 |true=>
  apply ak _;exact aR bD (dp (Gu p p R U W))
 |false=>
  apply ak _;apply h5 λav=>?_;refine bF (py cq p p p (dH p p aN gL (hA p) bN ao aw aw) ?_);rintro _ _ ⟨O,Q,rfl,Y,ai,am,rfl⟩;apply oP _;apply aC _;apply cd _;exact ba (C:=uZ E (l++[j])::C) p ds (by(repeat first|exact cf|refine Gu (a:=O) (c:=Q) (n:=aa l+1) (D:=J l++J [j]) ao (by simp[J]) am Y ai ?_|refine ek ?_)<;>fail) bD
def Hr(j C)(az:d2 C j)(aE:j.cj<=400000):
  Y 237 #[.pointer j.Z] C λv ai=>∃a c,v=.slice a (aa j.aQ) c/\((0<aa j.aQ->∃b,a=(U b))/\aa j.aQ<=c/\c<=maxLen)/\ai=E 42 3 a (aa j.aQ) c (J j.aQ)::C:=by
 have Q:=j.Ji [];rw[List.nil_append]at Q;refine aD λ{g F}=>?_;apply bd λD=>?_;apply cc;apply bp (E.c7 42 3);refine bp (j:=uZ D []::F::C) (by(repeat first|exact cf|refine Gu (a:=af) rfl p db (bC 0) (bO _) ?_|apply ek _)<;>fail) ?_;have O:=Hm (ap:=308) (aE:=[]) (aH:=[I D]) (uZ D) (F::C) xE xD (λ_=>True) (λs n W H ah h=>by grind[xD,xE]) (λs n R h aB=>by unfold xD at*;omega)
  (λs n b W H R ah aA av h _ ax=>ab3 D s n b W H R ah aA av (F::C) h ax) j [] 0 (by unfold xD;grind) (λ_ _=>trivial) az.ap
 rw[Q]at O;apply aC _;refine f1 p (O) ?_;apply cc;apply Mf;rintro a c ⟨am,aq,ar⟩;apply ak _;exact aR ⟨a,c,rfl,⟨am,aq,ar⟩,rfl⟩
theorem d2.fd{j q}:∀{C}{D},d2 j C->d2 j (C.fd q D)
 | .nil,_,_=>trivial
 | .node b O E J Q I H,D,h=>by
  unfold aA.fd;split
  .exact h
  .split
   .exact d2.fd h.2.1
   .exact d2.fd h.2.2
theorem aA.aat{b C q E I J D H j}(h1:C≠q)(ae:gx j q C=ag):aA.fd q j (.node b C E I J D H)=D.fd q (j+1):=by
 conv=>lhs;unfold aA.fd
 simp_all
theorem aA.aas{b C q E I J H D j}(h1:C≠q)(ae:gx j q C=al):aA.fd q j (.node b C E I J H D)=D.fd q (j+1):=by
 conv=>lhs;unfold aA.fd
 simp_all
def Qw(am D q H)(h:a5 H ⟨am,0+0,af⟩ (.pointer D.Z))(aB:d2 H D)(aJ:D.depth<=500000):
  aY 494 #[I am,q.v] H (.pointer (D.fd q 0).Z) H:=by
 refine aD λ{g F}=>?_;apply bg λU=>?_;refine cL (ι:=aA×Nat) (λC=>[(3,I U),(5,.pointer C.1.Z),(6,j (C.2:Nat))]) (λ_=>ah U 42 [j q.id,j q.x,j q.y]::F::H) (λC=>C.1.fd q C.2=D.fd q 0/\d2 H C.1/\C.2+C.1.depth<=500000) (λC=>C.1.depth) (D,0) ⟨rfl,aB,by simp_all⟩ aZ au ?_;rintro⟨aq,R⟩ ⟨Y,ar,av⟩;cases aq with
 |nil=>
  rw[<- Y];exact c8
 |node b E az aE aI O J=>
  obtain⟨aF,aM,aL,aO,aP,aQ,aR,aS,aH,aG⟩:=ar.f;simp only[aA.depth]at av;apply ak _;refine f3 dm p p p p ⟨_,rfl,rfl⟩ p (uh p p p p p p) ?_;apply aC _
  all_goals
   apply bs _;refine c0 p (λh1=>?_) (λh1=>?_)
   .have aK:E≠q:=λW=>h1 bv;have Q:=r9 b E q R;cases ai:gx R q E with
    |true=>
     rw[ai]at Q;apply fK (bE [0,1,2,3,5,6] (.e 4 (.q 7 (.q 8 (.q 9 .nil))))) _;refine dM (Q _ aF.ap.ap ad) ?_;refine fc p (iU p p aw aw) ?_;apply dl _
     all_goals
      apply ak _;refine b7 (O,R+1) ⟨?_,aH,?_⟩ ?_ aZ au
      .simp_all[aA.aat]
      .grind
      .show O.depth<max O.depth J.depth+1;omega
    |false=>
     rw[ai]at Q;apply fK (bE [0,1,2,3,5,6] (.e 4 (.q 7 (.q 8 (.q 9 .nil))))) _;refine dM (Q _ aF.ap.ap ad) ?_;refine fc p (iU p p aw aw) ?_;apply dl _
     all_goals
      apply ak _;refine b7 (J,R+1) ⟨?_,aG,?_⟩ ?_ aZ au
      .simp_all[aA.aas]
      .grind
      .show J.depth<max O.depth J.depth+1;omega
   .have W:E=q:=by
     have ae:=U1 h1;cases E;simp_all
    subst W;have ax:D.fd E 0=.node b E az aE aI O J:=by
     rw[<- Y];unfold aA.fd;simp
    rw[ax];exact fG
def Qx(D j q C)(h:a5 C ⟨D,0+0,af⟩ (.pointer j.Z))(E:d2 C j)(O:j.depth<=500000)(U:j.ok 0):
  aY 491 #[I D,q.v] C (.bool (decide (q∈j.aQ))) C:=by
 have J:decide (q∈j.aQ)=(j.fd q 0).live:=by
  have:=U.has q;grind
 have Q:=λM h1 ae=>Qw D j q M h1 ae O;have R:d2 C (j.fd q 0):=E.fd;rw[J];generalize j.fd q 0=H at*
 refine aD ?_;refine bP λW=>?_;refine f1 p (Q _ h.ap.ap E.ap.ap) ?_;apply ay _;apply cc;cases H with
 |nil=>
  exact fG
 |node b aq Y am aH ai ah=>
  obtain⟨aF,aM,av,ax,az,aA,aB,aE,aG,ar⟩:=R.f;apply bQ _;iterate 7 apply ay _
  refine hC p p p p ?_;exact a6 (gz p) fG
def ids(C:cS)(j:aA):List Int:=b5 ((j.aQ.filter (fD C)).map (·.id))
def ab7(D)(C:aA)(j)(h:a5 j ⟨D,0+0,af⟩ (.pointer C.Z)):aY 530 #[I D] j (.pointer C.Z) j:=by
 refine cR ?_;refine bQ ?_;apply ay _;apply ee _;iterate 2 apply ay _
 apply hl _;apply bQ _;iterate 3 apply ay _
 exact a6 (fC p (bx h)) fG
def abI(D)(C:aA)(j)(h:a5 j ⟨D,0+0,af⟩ (.pointer C.Z)):aY 480 #[I D] j (.pointer C.Z) j:=by
 refine aD ?_;refine a9 (ab7 D C _ (bx h)) ?_;exact c8
end fb
namespace fb
@[reducible] def hb (H:a3) (D E:Int) (C:Nat):List Value:=[.pointer H,j D,j E,j (C:Nat)]
structure nU (j:aA) (v:Nat) (l:List aj) (C:Nat):Prop where
 ok:j.ok 0
 aQ:j.aQ.Perm l
 cj:j.cj<=C
 h8:j.cj-l.length<=(j.cj+1)/2
 nh:v<=3000000*C
def pk(H:Nat)(E:Int)(l:List aj)(D:Nat)(S:List Nat):aG:=λh=>∃j:aA×Nat×List aA,(nU j.1 j.2.1 l D/\∀a∈S,kf j.1 j.2.2 a)/\C [d6 j.1,ah H 242 (hb j.1.Z (aa l:Nat) E j.2.1),gr j.2.2] h
theorem O.ei{U W args}{J:Q}{H E l D S ai}(R:∀C v I,nU C v l D->(∀a∈S,kf C I a)->O U W args (d6 C::ah H 242 (hb C.Z (aa l:Nat) E v)::gr I::J) ai):O U W args (pk H E l D S::J) ai:=
 O.open (ι:=aA×Nat×List aA) (D:=λj=>nU j.1 j.2.1 l D/\∀a∈S,kf j.1 j.2.2 a) (E:=λj=>[d6 j.1,ah H 242 (hb j.1.Z (aa l:Nat) E j.2.1),gr j.2.2]) (λ_ h=>h) λj Y=>R j.1 j.2.1 j.2.2 Y.1 Y.2
def sW{E M:Q}{J I l H S j v D}(g:nU j v l H)(R:∀a∈S,kf j D a)(O:aS E (d6 j::ah J 242 (hb j.Z (aa l:Nat) I v)::gr D::M)):aS E (pk J I l H S::M):=λh s=>
 C.fold (N:=[_,_,_]) (λh q=>⟨(j,v,D),⟨g,R⟩,q⟩) (O h s)
def Oz{D M:Q}{I H l E n S j v C}(R:aa l=n)(g:nU j v l E)(O:∀a∈S,kf j C a)(J:aS D (d6 j::ah I 242 (hb j.Z (n:Nat) H v)::gr C::M)):aS D (pk I H l E S::M):=by subst R;exact sW g O J
theorem nU.mU{j v C D l E}(g:nU j v l C)(H:l.Perm E)(h:C<=D):nU j v E D:=
 ⟨g.ok,g.aQ.trans H,hj g.cj h,by rw[<- H.length_eq];exact g.h8,by have:=g.nh;omega⟩
def nU.wT{j v C l}(g:nU j v l C):j.cj<=2*aa l+1:=by have:=g.h8;omega
attribute [local irreducible] C bh b6
@[reducible] def aA.mk (b:Nat) (D:aj) (E:Bool) (C j:aA):aA:=.node b D E (1+C.size+j.size) (oW (oW D.dy C) j) C j
def aA.It{b E J C j D}(h1:C.ok (D+1))(ae:j.ok (D+1))(O:∀q∈C.all,gx D q E=ag)(Q:∀q∈j.all,gx D E q=ag)(H:C.cj<=dg (C.cj+j.cj+1))(I:j.cj<=dg (C.cj+j.cj+1)):(aA.mk b E J C j).ok D:=
 ⟨⟨O,Q⟩,⟨by rw[h1.size,ae.size];omega,rfl,H,I⟩,h1,ae⟩
theorem aA.wx{j:aA}{l}(h:j.all.Perm l):j.cj=aa l:=by rw[<- j.wa];exact h.length_eq
structure q7 (C:Nat) (l:List aj) (j:aA):Prop where
 ok:j.ok C
 all:j.all.Perm l
 aQ:j.aQ=j.all
def q7.adx{j l v D C b}(R:l.Nodup)(H:(bw (gx j) l)[aa l/2]?=ab v)(h1:q7 (j+1) (el (gx j) v l) D)(ae:q7 (j+1) (fp (gx j) v l) C):q7 j l (.mk b v al D C):=by
 have o:=ty j;have U:=(f8 l).subset (lQ H);have W:=xj o H;have Y:=Dr o H;have Z:=xB o v l;have Q:=HJ R U;have ah:aa (eL v l)=1:=bo;have I:=aA.wx h1.all;have J:=aA.wx ae.all;refine⟨aA.It h1.ok ae.ok ?_ ?_ ?_ ?_,?_,?_⟩
 .intro q E;exact(ii.1 (h1.all.subset E)).2
 .intro q E;exact(ii.1 (ae.all.subset E)).2
 .rw[I,J];unfold dg;omega
 .rw[I,J];unfold dg;omega
 .have O:=DP o v l;rw[Q]at O;apply List.Perm.trans _ O;exact((h1.all.append ae.all).cons v).trans fA.symm
 .show[v]++(D.aQ++C.aQ)=v::(D.all++C.all);rw[h1.aQ,ae.aQ];rfl
def Hl(U aq ai am):∀(n)(A)(c)(l)(C D)(R),l.Nodup->Rd R A n l->n<=c->n<=50000->C+n<=900000->D+n<=9000000000000000000->
  Y 543 #[I U,.slice A n c,j (C:Nat)] (ah U 242 (hb aq ai am D)::R) λv aW=>∃aF:aA,q7 C l aF/\v=.pointer aF.Z/\aW=d6 aF::ah U 242 (hb aq ai am (D+n))::R:=by
 intro n
 induction n using Nat.strongRecOn with
 | _ n aS=>
  intro A c l C D R W bb a4 bz bx bv;have bc:aa l=n:=bb.len bL;have aQ:=λM=>MO C M ad;rcases Nat.eq_zero_or_pos n with aO|aO
  .subst aO;have aZ:l=[]:=List.eq_nil_of_length_eq_zero bc;subst aZ;refine aD ?_
   (first|refine a6 (l6 (q:=2) p p aw aw) ?_|refine a6 (jC p p aw aw aw) ?_)
   apply ay _;apply a9 (aQ _) _;apply dQ (W1 (t2 C) A c _) _;apply bg λaM=>?_;exact aR ⟨.nil,⟨trivial,.nil,rfl⟩,rfl,rfl⟩ (dp @Gs)
  .have a8:n/2<aa (bw (gx C) l):=uV;obtain⟨v,az⟩:∃v,(bw (gx C) l)[n/2]?=ab v:=⟨_,b8 a8⟩;have bi:(bw (gx C) l)[aa l/2]?=ab v:=bo;have a3:=λb bm a7=>q7.adx (b:=b) (D:=bm) (C:=a7) W bi;have bh:=λM h=>W2 (ty C) (MP C) A n c l (n/2) v M h ad a4 W az;have o:=ty C;have bn:=xj o az;have bq:=Ib o az;have be:=(f8 l).subset (lQ az);have br:=xB o v l;have bt:aa (eL v l)=1:=by rw[HJ W be];rfl
   have aX:(el (gx C) v l).Nodup:=W.filter _;have aY:(fp (gx C) v l).Nodup:=W.filter _;generalize el (gx C) v l=H at*
   generalize fp (gx C) v l=Q at*
   have bj:=λA c M aL aK=>aS (aa H) ad A c H (C+1) (D+1) M aX aL aK ad ad ad;have bl:=λA c M aL aK=>aS (aa Q) ad A c Q (C+1) (D+1+aa H) M aY aL aK ad ad ad;refine aD λ{g F}=>?_
   (first|refine a6 (l6 (q:=2) p p aw aw) ?_|refine a6 (jC p p aw aw aw) ?_)
   apply ay _;apply a9 (aQ _) _;apply aP (bh _ cX) _;rintro _ _ ⟨aB,aG,aE,aH,rfl,aT,aV,rfl⟩;apply ak _;apply bd λaM=>?_;apply ay _;apply fv _;iterate 2 apply ay _
   apply ee _;iterate 2 apply ay _
   apply hl _;apply bp (j:=ah U 242 (hb aq ai am D)::ah aM 42 [j v.id,j v.x,j v.y]::E 42 3 aB (aa H) aG (J H)::E 42 3 aE (aa Q) aH (J Q)::F::R) au;apply aC _;apply bg λax=>?_;apply bp (j:=ah ax 397 (iB v al af af 0 ⟨0,0,0,0⟩)::ah U 242 (hb aq ai am (D+1))::E 42 3 aB (aa H) aG (J H)::E 42 3 aE (aa Q) aH (J Q)::F::R) au;apply fK (bE [0,1,2,3,4,5,7,8,9,10,12,13,16,17] (.e 6 (.e 11 (.q 14 (.e 15 (.q 18 (.e 19 .nil))))))) _;refine jl (O.pick aN (bj aB aG _ (by repeat' first|exact bf.E (ck _) aT.1|apply Rd.ap) aT.2.1)) ?_;rintro _ _ ⟨ar,aI,rfl,rfl⟩;refine jl (O.pick aN (bl aE aH _ (by repeat' first|exact bf.E (ck _) aV.1|apply Rd.ap) aV.2.1)) ?_;rintro _ _ ⟨av,aJ,rfl,rfl⟩;refine fc p (iU p p aw aw) ?_;apply ak _;refine fc p (iU p p aw aw) ?_;apply dl _;have bA:=aI.ok.size;have bB:=aJ.ok.size;have bG:=aA.wx aI.all;have bH:=aA.wx aJ.all;apply bp (j:=ah ax 397 (iB v al ar.Z av.Z 0 ⟨0,0,0,0⟩)::d6 ar::d6 av::ah U 242 (hb aq ai am (D+1+aa H+aa Q))::F::R) au;apply aC _;refine a9 (O.pick aN (mT ax v al 0 ⟨0,0,0,0⟩ ar av _ kh kh ad ad)) ?_;have a0:D+1+aa H+aa Q=D+n:=ad;rw[a0];apply ak _;exact aR ⟨_,a3 ax ar av aI aJ,rfl,rfl⟩ IC
structure lW (E:Nat) (q:aj) (C j:aA):Prop where
 ok:j.ok E
 aQ:j.aQ.Perm (q::C.aQ)
 all:∀D∈j.all,D=q\/D∈C.all
 cj:j.cj<=C.cj+1
def lW.R5{D q H b j I lo hi}(Q:lo.ok (D+1))(R:hi.ok (D+1))(Y:∀E∈lo.all,gx D E j=ag)(Z:∀E∈hi.all,gx D j E=ag)
  (C:(aA.mk b j I lo hi).aQ.Perm (q::H.aQ)) (O:∀E∈(aA.mk b j I lo hi).all,E=q\/E∈H.all) (W:(aA.mk b j I lo hi).cj<=H.cj+1):
  (¬dg (1+lo.size+hi.size)<max lo.size hi.size->lW D q H (.mk b j I lo hi))/\(∀U,q7 D (aA.mk b j I lo hi).aQ U->lW D q H U)/\(aA.mk b j I lo hi).aQ.Nodup:=by
 have o:=ty D;refine⟨λah=>⟨aA.It Q R Y Z ?_ ?_,C,O,W⟩,λU J=>⟨J.ok,J.aQ▸J.all.trans C,λE am=>O E ?_,?_⟩,?_⟩
 .rw[Q.size,R.size]at ah;grind
 .rw[Q.size,R.size]at ah;grind
 .exact(aA.qR _).subset (J.all.subset am)
 .rw[aA.wx J.all,C.length_eq,f0];have:=H.An;omega
 .apply(aA.qR _).nodup;apply j3.2 ⟨λC=>?_,tN.2 ⟨Q.nodup,R.nodup,λa O c W ai=>?_⟩⟩
  .rcases b9.1 C with C|C
   .have:=Y j C;rw[o.jE]at this;trivial
   .have:=Z j C;rw[o.jE]at this;trivial
  .subst ai;have:=o.gu (Y a O) (Z a W);rw[o.jE]at this;trivial
theorem lW.lo{H q b C D O Q lo hi E}(J:(aA.node b C D O Q lo hi).ok H)(U:gx H q C=ag)(h:lW (H+1) q lo E):
  (¬dg (1+E.size+hi.size)<max E.size hi.size->lW H q (.node b C D O Q lo hi) (.mk b C D E hi))/\(∀R,q7 H (aA.mk b C D E hi).aQ R->lW H q (.node b C D O Q lo hi) R)/\(aA.mk b C D E hi).aQ.Nodup:=by
 refine lW.R5 h.ok J.2.2.2 (λI j=>?_) J.1.2 ?_ (λI j=>?_) ?_
 .rcases h.all I j with rfl|j
  .omega
  .exact J.1.1 I j
 .show((if D then[]else[C])++(E.aQ++hi.aQ)).Perm (q::((if D then[]else[C])++(lo.aQ++hi.aQ)));apply List.Perm.trans (qh _ (h.aQ.append_right _)) _;simp
 .simp[aA.all,df,b9]at j ⊢;rcases j with rfl|j|j
  .simp
  .rcases h.all I j with rfl|j
   .simp
   simp_all
  simp_all
 .have:=h.cj;simp[aA.cj];omega
theorem lW.hi{H q b C D O Q lo hi E}(J:(aA.node b C D O Q lo hi).ok H)(U:gx H C q=ag)(h:lW (H+1) q hi E):
  (¬dg (1+lo.size+E.size)<max lo.size E.size->lW H q (.node b C D O Q lo hi) (.mk b C D lo E))/\(∀R,q7 H (aA.mk b C D lo E).aQ R->lW H q (.node b C D O Q lo hi) R)/\(aA.mk b C D lo E).aQ.Nodup:=by
 refine lW.R5 J.2.2.1 h.ok J.1.1 (λI j=>?_) ?_ (λI j=>?_) ?_
 .rcases h.all I j with rfl|j
  .omega
  .exact J.1.2 I j
 .show((if D then[]else[C])++(lo.aQ++E.aQ)).Perm (q::((if D then[]else[C])++(lo.aQ++hi.aQ)));apply List.Perm.trans (qh _ (qh _ h.aQ)) _;grind
 .simp[aA.all,df,b9]at j ⊢;rcases j with rfl|j|j
  .simp
  .simp_all
  .rcases h.all I j with rfl|j
   .simp
   simp_all
 .have:=h.cj;simp[aA.cj];omega
def Nu{b C H D E I J M}:aU (ah b 397 (iB C H D E I J)::M) b (0+0) 3 [j C.id,j C.x,j C.y]:=
 have h:aU (ah b 397 (iB C H D E I J)::M) b 0 11 (iB C H D E I J):=aU.ah p
 uF (E:=0) h p (λQ v O=>by grind)
def QR{b J E O Q I H D C}(h:∀a∈I.bG,kf D C a):∀a∈(aA.node b J E O Q I H).bG,kf (.mk b J E D H) C a:=λa j=>by
 simp[aA.bG,df,b9]at j;rcases j with rfl|j|j
 .exact .inl (by simp[aA.bG])
 .rcases h a j with h|h
  .exact .inl (by simp[aA.bG,h])
  .exact .inr h
 .exact .inl (by simp[aA.bG,j])
def QQ{b J E O Q I H D C}(h:∀a∈H.bG,kf D C a):∀a∈(aA.node b J E O Q I H).bG,kf (.mk b J E I D) C a:=λa j=>by
 simp[aA.bG,df,b9]at j;rcases j with rfl|j|j
 .exact .inl (by simp[aA.bG])
 .exact .inl (by simp[aA.bG,j])
 .rcases h a j with h|h
  .exact .inl (by simp[aA.bG,h])
  .exact .inr h
def QP{j D C a}(h:kf j C a):kf D (j::C) a:=by
 rcases h with h|⟨y,E,h⟩
 .exact .inr ⟨j,.head _,h⟩
 .exact .inr ⟨y,.tail _ E,h⟩
def Hs(ai W aq ar q):∀(az)(U av)(ax:Q),az.ok U->q∉az.aQ->az.cj<=1000->U+az.cj<=800000->av+2000*az.depth<=8000000000000000000->
  Y 492 #[I ai,.pointer az.Z,q.v,j (U:Nat)] (d6 az::ah ai 242 (hb W aq ar av)::ax) λv bm=>∃am aL be,lW U q az am/\(∀a∈az.bG,kf am be a)/\aL<=av+2000*az.depth/\v=.pointer am.Z/\bm=d6 am::ah ai 242 (hb W aq ar aL)::gr be::ax
 | .nil,U,av,ax,aE,a3,bl,bj,bi=>by
  refine aD ?_;refine bP λaM=>?_;refine bd λbn=>?_;refine a9 (mT _ q _ 0 ⟨0,0,0,0⟩ .nil .nil _ trivial trivial bL bL) ?_;exact aR ⟨.mk bn q al .nil .nil,av,[],⟨aA.It trivial trivial (by simp[aA.all]) (by simp[aA.all]) bL bL,.refl _,λW a4=>by simpa[aA.all]using a4,by simp[aA.cj]⟩,λa aT=>by trivial,E5 _ _,rfl,rfl⟩ (by(repeat first|exact cf|refine Cr ?_|apply Gs|apply zg|refine ek ?_)<;>fail)
 | .node b C H aI aK R J,U,av,ax,aE,a3,bl,bj,bi=>by
  simp only[aA.cj]at bl bj;simp only[aA.depth]at bi;have o:=ty U;have bz:=λam h=>lW.lo (E:=am) (q:=q) aE h;have bA:=λam h=>lW.hi (E:=am) (q:=q) aE h;have bt:=λaL M h=>Hs ai W aq ar q R (U+1) aL M aE.2.2.1 h ad ad;have bv:=λaL M h=>Hs ai W aq ar q J (U+1) aL M aE.2.2.2 h ad ad;have bw:q∉R.aQ:=λh=>a3 (by simp[aA.aQ,h]);have bx:=λh:q∈J.aQ=>a3 (by simp[aA.aQ,h]);have bM:=aE.2.2.1.size;have bR:=aE.2.2.2.size;apply O.ab6
  by_cases aY:C=q
  .subst aY;have bo:H=ag:=by simp_all[aA.aQ]
   subst bo;refine aD ?_;refine AM λaM=>?_
   all_goals
    apply bs _;refine gJ p (cO p) ?_;apply aC _;exact cd (aR ⟨.node b C al aI aK R J,av,[],⟨aE,.refl _,λW a4=> .inr a4,E5 _ _⟩,λa aT=> .inl fs,E5 _ _,rfl,rfl⟩ (k3 @Cr @zg))
  .have bK: [C.id,C.x,C.y] ≠ [q.id,q.x,q.y]:=λbh=>aY (by
    cases C;simp_all)
   have aW:=r9 b C q U;cases aV:gx U q C with
   |true=>
    rw[aV]at aW;have bB:=λam h=>bz am aV h;refine aD λ{g F}=>?_;apply bg λaM=>?_;refine fc p (zo p p p p p p) ?_;apply dl _
    all_goals
     apply ak _;refine a9 (aW _ (by repeat' first|exact Nu|apply aU.ap) ad) ?_;apply bp (j:=d6 R::ah ai 242 (hb W aq ar av)::ah b 397 (iB C H R.Z J.Z aI aK)::ah aM 42 [j q.id,j q.x,j q.y]::d6 J::F::ax) au;apply pn (bE [0,1,2,3,4,5,6,7,8,9,10,11,13,14] (.e 12 (.q 15 (.e 16 .nil)))) _;refine jl (bt av _ bw ad) ?_;rintro _ _ ⟨D,aB,aF,aH,aS,br,rfl,rfl⟩;refine fc p (iU p p aw aw) ?_;apply dl _
     all_goals
      obtain⟨a7,a8,bb⟩:=bB D aH;have bI:=aH.ok.size;have bJ:=aH.cj;have bc:=(aA.mk b C H D J).An;simp only[aA.cj]at bc;apply bp (j:=ah b 397 (iB C H D.Z J.Z aI aK)::d6 D::ah ai 242 (hb W aq ar aB)::gr aF::d6 J::F::ax) au;apply aC _;refine a9 (O.pick aN (mT b C H aI aK D J _ kh kh ad ad)) ?_;refine a9 (CW b C H _ _ D J _ ⟨cA,kh,kh⟩ ad) ?_;refine c0 p (λc=>?_) (λc=>?_)
      .have a0:=Hr (.mk b C H D J);generalize(aA.mk b C H D J).aQ=aJ at*
       apply aC _;refine aP (a0 _ ⟨cA,kh,kh⟩ (by simp only[aA.cj];omega)) ?_;rintro _ _ ⟨a,aX,rfl,aO,rfl⟩;apply ay _;refine aP (O.pick aN (Hl ai W aq ar (aa aJ) a aX aJ U aB _ bb (by repeat' first|exact bf.E (ck _) aO.1|apply Rd.ap) aO.2.1 ad ad ad)) ?_;rintro _ _ ⟨aG,aZ,rfl,rfl⟩;apply ak _;exact ba (C:=d6 aG::ah ai 242 (hb W aq ar (aB+aa aJ))::gr (.mk b C H D J::aF)::ax) p ds Sh ⟨aG,_,_,a8 aG aZ,λa aT=>QP (QR aS a aT),by simp only[aA.depth];omega,rfl,rfl⟩
      .apply ak _;exact aR ⟨_,aB,aF,a7 c,QR aS,by simp only[aA.depth];omega,rfl,rfl⟩ IC
   |false=>
    rw[aV]at aW;have bq:gx U C q=ag:=o.hY (λbh=>aY bh.symm) aV;have bH:=λam h=>bA am bq h;refine aD λ{g F}=>?_;apply bg λaM=>?_;refine fc p (zo p p p p p p) ?_;apply dl _
    all_goals
     apply ak _;refine a9 (aW _ (by repeat' first|exact Nu|apply aU.ap) ad) ?_;apply bp (j:=d6 J::ah ai 242 (hb W aq ar av)::ah b 397 (iB C H R.Z J.Z aI aK)::ah aM 42 [j q.id,j q.x,j q.y]::d6 R::F::ax) au;apply pn (bE [0,1,2,3,4,5,6,7,8,9,10,11,13,14] (.e 12 (.q 15 (.e 16 .nil)))) _;refine jl (bv av _ bx ad) ?_;rintro _ _ ⟨D,aB,aF,aH,aS,br,rfl,rfl⟩;refine fc p (iU p p aw aw) ?_;apply dl _
     all_goals
      obtain⟨a7,a8,bb⟩:=bH D aH;have bI:=aH.ok.size;have bJ:=aH.cj;have bc:=(aA.mk b C H R D).An;simp only[aA.cj]at bc;apply bp (j:=ah b 397 (iB C H R.Z D.Z aI aK)::d6 D::ah ai 242 (hb W aq ar aB)::gr aF::d6 R::F::ax) au;apply aC _;refine a9 (O.pick aN (mT b C H aI aK R D _ kh kh ad ad)) ?_;refine a9 (CW b C H _ _ R D _ ⟨cA,kh,kh⟩ ad) ?_;refine c0 p (λc=>?_) (λc=>?_)
      .have a0:=Hr (.mk b C H R D);generalize(aA.mk b C H R D).aQ=aJ at*
       apply aC _;refine aP (a0 _ ⟨cA,kh,kh⟩ (by simp only[aA.cj];omega)) ?_;rintro _ _ ⟨a,aX,rfl,aO,rfl⟩;apply ay _;refine aP (O.pick aN (Hl ai W aq ar (aa aJ) a aX aJ U aB _ bb (by repeat' first|exact bf.E (ck _) aO.1|apply Rd.ap) aO.2.1 ad ad ad)) ?_;rintro _ _ ⟨aG,aZ,rfl,rfl⟩;apply ak _;exact ba (C:=d6 aG::ah ai 242 (hb W aq ar (aB+aa aJ))::gr (.mk b C H R D::aF)::ax) p ds Sh ⟨aG,_,_,a8 aG aZ,λa aT=>QP (QQ aS a aT),by simp[aA.depth];omega,rfl,rfl⟩
      .apply ak _;exact aR ⟨_,aB,aF,a7 c,QQ aS,by simp[aA.depth];omega,rfl,rfl⟩ IC
def Hu(q){b ap av am ar O J}:∀(U)(Q),U.fd q Q=.node b ap av am ar O J->
  ∃E:aG,(∀h,d6 U h->C [ah b 397 (iB ap av O.Z J.Z am ar),E] h)/\(∀h,C [ah b 397 (iB ap av O.Z J.Z am ar),E] h->d6 U h)/\(∀h,C [ah b 397 (iB ap ag O.Z J.Z am ar),E] h->d6 (U.mark q Q) h)
 | .nil,Q,D=>by cases D
 | .node aH aq aI aJ aK ai Y,Q,D=>by
  unfold aA.fd at D
  by_cases I:aq=q
  .rw[bJ I]at D;cases D;refine⟨λh=>C [d6 O,d6 J] h,λh s=>?_,λh s=>?_,λh s=>?_⟩
   .exact C.bl (λ_ s=>C.join s) (show C _ h from s)
   .exact C.bl (λ_ s=>C.part s) s
   .unfold aA.mark;rw[bJ I];exact C.bl (λ_ s=>C.part s) s
  .rw[a8 I]at D
   by_cases W:gx Q q aq=ag
   .rw[bJ W]at D;let⟨E,az,aB,aD⟩:=Hu q ai _ D;refine⟨λh=>C [E,ah aH 397 (iB aq aI ai.Z Y.Z aJ aK),d6 Y] h,λh s=>?_,λh s=>?_,λh s=>?_⟩
    .have aE:=s;have j:=C.head az aE.swap;exact C.bl (λ_ s=>C.join s) j
    .have j:=C.bl (λ_ s=>C.part s) s;have H:=C.fold aB j;exact H.swap
    .have j:=C.bl (λ_ s=>C.part s) s;have H:=C.fold aD j;unfold aA.mark;rw[a8 I,bJ W];show C _ h;rw[aA.H4];exact H.swap
   .rw[a8 W]at D;let⟨E,az,aB,aD⟩:=Hu q Y _ D;have ax:∀A aF R:aG,List.Perm _ _:=λA aF R=>((List.Perm.swap R aF []).cons A).trans (.swap R A _);refine⟨λh=>C [E,ah aH 397 (iB aq aI ai.Z Y.Z aJ aK),d6 ai] h,λh s=>?_,λh s=>?_,λh s=>?_⟩
    .have aE:=s;have j:=C.head az (aE.perm (ax _ _ _));exact C.bl (λ_ s=>C.join s) j
    .have j:=C.bl (λ_ s=>C.part s) s;have H:=C.fold aB j;exact H.perm (ax _ _ _).symm
    .have j:=C.bl (λ_ s=>C.part s) s;have H:=C.fold aD j;unfold aA.mark;rw[a8 I,a8 W];show C _ h;rw[aA.H4];exact H.perm (ax _ _ _).symm
structure Vf (D:Nat) (C j:aA) (E:Nat):Prop where
 ok:j.ok 0
 aQ:j.aQ.Perm C.aQ
 cj:j.cj<=C.cj
 h8:j.cj-C.aQ.length<=(j.cj+1)/2
 nh:E<=D+2000
def Qo(D j aq H C)(J:Q)(am:j.ok 0)(aG:aa j.aQ=aq)(aM:j.cj<=2000)(aK:C<=8000000000000000000):
  Y 493 #[I D] (d6 j::ah D 242 (hb j.Z (aq:Nat) H C)::J) λv aB=>∃R az ar,Vf C j R az/\(∀a∈j.bG,kf R ar a)/\v=.tuple #[]/\aB=d6 R::ah D 242 (hb R.Z (aq:Nat) H az)::gr ar::J:=by
 have aI:=am.size;have av:=λM h=>Ht j M h;rw[aI]at av;have aO:=j.An;have aF:=λM h=>Hr j M h ad;have aH:=j.qR.nodup am.nodup;subst aG;refine aD ?_;refine f1 p (av _ kh) ?_;apply ay _;apply cc
 by_cases aL:(j.cj+1)/2<j.cj-aa j.aQ
 .apply ak _
  (first|refine a6 _ ?_|refine a6 (jC p p aw aw aw) ?_)
  refine ak ?_;apply aP (aF _ kh) _;rintro _ _ ⟨a,aE,rfl,ax,rfl⟩;refine aP (O.pick aN (Hl D j.Z (aa j.aQ:Nat) H (aa j.aQ) a aE j.aQ 0 C _ aH (by repeat' first|exact bf.E (ck _) ax.1|apply Rd.ap) ax.2.1 ad ad ad)) ?_;rintro _ _ ⟨W,U,rfl,rfl⟩;apply gD _;have aJ:=aA.wx U.all;exact er (D:=[]) (j:=[]) (C:=d6 W::ah D 242 (hb W.Z (aa j.aQ:Nat) H (C+aa j.aQ))::gr [j]::J) p .nil (k3 @Oq @zg) ⟨W,_,[j],⟨U.ok,U.aQ▸U.all,ad,ad,ad⟩,λa ai=> .inr ⟨j,.head _,ai⟩,rfl,rfl⟩
 .apply ak _
  (first|refine a6 (l6 (q:=2) p p aw aw) ?_|refine a6 (jC p p aw aw aw) ?_)
  apply ak _;exact er (D:=[]) (j:=[]) (C:=d6 j::ah D 242 (hb j.Z (aa j.aQ:Nat) H C)::gr []::J) p .nil (dp @zg) ⟨j,C,[],⟨am,.refl _,bC _,ad,ao⟩,λa ai=> .inl ai,rfl,rfl⟩
theorem aA.H5(q):∀(C:aA)(j),(C.mark q j).bG=C.bG
 | .nil,j=>rfl
 | .node b I g H J E D,j=>by
  unfold aA.mark;split
  .rfl
  .split
   .simp[aA.bG,E.H5]
   .simp[aA.bG,D.H5]
def Or{E M:Q}{j D}(H:aS E (gr j::gr D::M)):aS E (gr (j++D)::M):=λh s=>
 C.fold (N:=[gr j,gr D]) (λh q=>by
  show C _ h;rw[ez];have:=C.part q;exact(C.perm (ep) (by simpa using C.part (C.perm (ep) this)))) (H h s)
def HH{H I D E}(h:∀a∈H.bG,kf I E a){a}(j:kf H D a):kf I (E++D) a:=by
 rcases j with j|⟨y,C,j⟩
 .rcases h a j with h|⟨y,C,h⟩
  .exact .inl h
  .exact .inr ⟨y,b9.2 (.inl C),h⟩
 .exact .inr ⟨y,b9.2 (.inr C),j⟩
def abG(C D)(h1:1<=C)(ae:C<=1048576):Y 83 #[j C] D λv H=>∃E,v=.tuple #[I E,j 0]/\H=pk E C [] 0 []::D:=by
 refine bt ?_;refine bg λJ=>?_;exact aR ⟨J,rfl,rfl⟩ (by(repeat first|exact cf|refine sW (j:=.nil) (v:=0) (D:=[]) ⟨trivial,.refl _,bC _,bL,bC _⟩ (λ_ h=>by cases h) ?_|apply Gs|apply zg|apply ek _)<;>fail)
def V9(H E l C J S)(am:Q)(a4:J<=1000000)(bb:aa l<=400):
  aY 447 #[I H,C.v] (pk H E l J S::am) (j (jD E l C)) (pk H E (qI E l C) (J+1) S::am):=by
 apply O.ei λR v av D ar=>?_;have W:=yA C;have bc:=D.aQ.length_eq;have aM:decide _=decide (C∈l):=decide_eq_decide.2 D.aQ.mem_iff;have a3:=R.Ce;have be:=R.An;have aZ:=D.cj;have a0:=D.wT;have aX:=D.nh;have U:=λM h1 ae=>Qx H R C M h1 ae ad D.ok;rw[aM]at U;unfold jD qI;unfold jD;cases aB:fe C with
 |false=>
  rw[aB]at W;rw[bJ p,a8 ao];refine aD ?_;refine bg λY=>?_;apply a9 (W _) _;exact aR bD (dp (sW (D.mU (.refl _) (gp J)) ar))
 |true=>
  rw[aB]at W;rw[a8 ao]
  by_cases ai:C∈l
  .rw[cO ai]at U;rw[bJ ai,a8 ao];refine aD ?_;refine bg λY=>?_;apply a9 (W _) _;apply a9 (U _ ec kh) _;exact aR bD (dp (sW (D.mU (.refl _) (gp J)) ar))
  .rw[cw ai]at U;rw[a8 ai];have aO:=λh=>ai (D.aQ.mem_iff.1 h)
   by_cases aA:E<=aa l
   .rw[bJ aA,a8 ao];refine aD ?_;refine bg λY=>?_;apply a9 (W _) _;apply a9 (U _ ec kh) _;exact aR bD (dp (sW (D.mU (.refl _) (gp J)) ar))
   .rw[a8 aA,bJ p];have aS:=λaV M=>Hs H aV ((aa l:Nat)+1:Nat) E C R 0 v M D.ok aO ad ad ad;refine aD λ{g F}=>?_;apply bg λY=>?_;apply a9 (W _) _;apply dQ (U _ ec kh) _;apply ed (bE [0,1,2,3,4,5,6,7,8] (.q 9 .nil)) _;iterate 10 apply bu _
    apply fO _;refine e9 p (cw ad) ?_;apply aC _;apply bp (j:=d6 R::ah H 242 (hb R.Z ((aa l+1:Nat):Int) E v)::ah Y 42 [j C.id,j C.x,j C.y]::F::gr av::am) au;apply ak _;apply jl (aS _ _) _;rintro _ _ ⟨ax,aE,az,ap,aJ,a7,rfl,rfl⟩;apply dl _;have aW:=ap.aQ.length_eq;have bj:=ap.cj;rw[f0]at aW;apply bp (j:=d6 ax::ah H 242 (hb ax.Z ((aa l+1:Nat):Int) E aE)::ah Y 42 [j C.id,j C.x,j C.y]::F::gr az::gr av::am) au;apply aC _;refine aP (Qo H ax (aa l+1) E aE _ ap.ok ad ad ad) ?_;rintro _ _ ⟨aG,aT,aF,aq,aK,rfl,rfl⟩;apply gD _;have aH:aa (l++[C])=aa l+1:=ao;have bh:=aq.cj;have bi:=aq.nh;have aI:nU aG aT (l++[C]) (J+1):=⟨aq.ok,aq.aQ.trans (ap.aQ.trans ((D.aQ.cons C).trans (List.perm_append_singleton C l).symm)),ad,ad,ad⟩;exact aR bD (k3 (Oz aH aI (C:=aF++(az++av)) (λa aL=>HH aK (HH aJ (ar a aL)))) @Or)
def V6(J U l D ar S)(W:Q)(bm:ar<=1000000)(bn:aa l<=400):
  aY 448 #[I J,D.v] (pk J U l ar S::W) (j (qB l D)) (pk J U (l.erase D) (ar+1) S::W):=by
 apply O.ei λE v Y H aF=>?_;have bq:=H.aQ.length_eq;have a0:decide _=decide (D∈l):=decide_eq_decide.2 H.aQ.mem_iff;have bl:=E.Ce;have bi:=H.cj;have bj:=H.wT;have bh:=H.nh;have ap:=λM h1 ae=>Qx J E D M h1 ae ad H.ok;rw[a0]at ap;unfold qB
 by_cases R:D∈l
 .rw[cO R]at ap;rw[bJ R];have aI:=H.aQ.mem_iff.2 R;have aZ:=(H.ok.has D).2 aI;have aV:=λM h1 ae=>Qw J E D M h1 ae ad;have aW:=λb az aB ax aA av aq=>Hu D (b:=b) (ap:=az) (av:=aB) (am:=ax) (ar:=aA) (O:=av) (J:=aq) E 0;generalize E.fd D 0=aL at*
  cases aL with
  |nil=>cases aZ
  |node b az aB ax aA av aq=>
   let⟨aE,a4,a7,bb⟩:=aW b az aB ax aA av aq p;have aX:=λM=>(xc E M).mono λ_ s=>C.fold a7 s;have be:=H.ok.H6 aI;have aJ:aa (E.mark D 0).aQ=aa l-1:=bo;have bv:=E.uH D 0;have bw:=List.length_pos_of_mem R;have aK:=List.length_erase_of_mem R;have aH:=λM=>Qo J _ _ U v M (H.ok.mark) aJ ad ad;rw[E.H4]at aH;refine aD λ{g F}=>?_;apply bP λai=>?_;refine f1 p (ap _ ec kh) ?_;refine a6 (gz p) ?_;apply ay _;apply hl _;apply bp (j:=d6 E::ah ai 42 [j D.id,j D.x,j D.y]::ah J 242 (hb E.Z (aa l:Nat) U v)::F::gr Y::W) au;apply bp (j:=ah b 397 (iB az aB av.Z aq.Z ax aA)::aE::ah ai 42 [j D.id,j D.x,j D.y]::ah J 242 (hb E.Z (aa l:Nat) U v)::F::gr Y::W) (λ_ s=>C.head a4 s);apply aC _;refine f1 p (aV _ ec (aX _)) ?_;iterate 2 apply ay _
   apply fv _;apply cc;apply bp (j:=ah b 397 (iB az ag av.Z aq.Z ax aA)::aE::ah ai 42 [j D.id,j D.x,j D.y]::ah J 242 (hb E.Z (aa l:Nat) U v)::F::gr Y::W) au;apply bp (j:=d6 (E.mark D 0)::ah ai 42 [j D.id,j D.x,j D.y]::ah J 242 (hb E.Z (aa l:Nat) U v)::F::gr Y::W) (λ_ s=>C.fold (N:=[_,_]) bb s);apply bQ _;iterate 7 apply ay _
   apply fv _;apply cc;apply bp (j:=d6 (E.mark D 0)::ah J 242 (hb E.Z ((aa l-1:Nat):Int) U v)::ah ai 42 [j D.id,j D.x,j D.y]::F::gr Y::W) au;apply aC _;apply aP (aH _) _;rintro _ _ ⟨aO,a3,aM,am,aT,rfl,rfl⟩;apply gD _;have br:=am.cj;have bt:=am.nh;have bc:=am.h8;have aS:nU aO a3 (l.erase D) (ar+1):=⟨am.ok,am.aQ.trans (be▸H.aQ.erase D),ad,by rw[aK,<- aJ];exact bc,ad⟩;exact aR bD (k3 (Oz aK aS (C:=aM++Y) (λa aG=>HH (λa aG=>aT a (by rw[E.H5];omega)) (aF a aG))) @Or)
 .rw[cw R]at ap;rw[a8 R,List.erase_of_not_mem R];refine aD ?_;refine bg λai=>?_;apply a9 (ap _ ec kh) _;exact aR bD (dp (sW (H.mU (.refl _) (gp ar)) aF))
end fb
namespace fb
instance ajf:d3 aA:=⟨1,λj=>[.pointer j.Z],λ_=>rfl,λ_ v h=>by simp at h;subst h;rfl⟩
def be(b:Nat)(H:Int)(l:List aA):aG:=λh=>∃D:Option Addr×Nat,(0<aa l->∃b,D.1=(U b))/\C [ah b 598 [.slice D.1 (aa l) D.2,j H],E 240 1 D.1 (aa l) D.2 (J l)] h
def va{s D l M H}(h:C (be s D l::M) H):∃A c,(0<aa l->∃b,A=(U b))/\aa l<=c/\c<=maxLen/\C (ah s 598 [.slice A (aa l) c,j D]::E 240 1 A (aa l) c (J l)::M) H:=by
 let⟨h1,ae,O,W,Y,⟨⟨A,c⟩,R,q⟩,Z⟩:=h;have I:=E.facts (L:=[]) q.tail;exact⟨A,c,R,I.2.1,I.2.2.1,C.head (A:=λh=>h=h1) (N:=[ah s 598 [.slice A (aa l) c,j D],E 240 1 A (aa l) c (J l)]) (λ_ Q=>Q▸q) ⟨h1,ae,O,W,Y,rfl,Z⟩⟩
def O.p8{D H args C b Q l W}
  (R:∀A c,(0<aa l->∃b,A=(U b))->aa l<=c->c<=maxLen->O D H args (ah b 598 [.slice A (aa l) c,j Q]::E 240 1 A (aa l) c (J l)::C) W):O D H args (be b Q l::C) W:=λg F Z I=>by
 let⟨A,c,h1,ae,an,Y⟩:=va I.s.swap;exact R A c h1 ae an g F Z ⟨I.g,Y.perm (fA (l₁:=[_,_]))⟩
def n1{D M b c A H l}(O:0<aa l->∃b,A=(U b))(I:aS D (ah b 598 [.slice A (aa l) c,j H]::E 240 1 A (aa l) c (J l)::M)):aS D (be b H l::M):=λh s=>
 C.fold (N:=[_,_]) (λh q=>⟨(A,c),O,q⟩) (I h s)
theorem tx{b C l j}(h:l.map aA.Z=j.map aA.Z):be b C l=be b C j:=by
 have D:∀{l j:List aA},l.map aA.Z=j.map aA.Z->J l=J j:=λ{l}=>by
  induction l with
  |nil=>simp
  |cons I l H=>intro j h;cases j with
   |nil=>grind
   |cons y j=>
    simp[so]at h;rw[h9,h9,H h.2];show[Value.pointer _]++ _=[Value.pointer _]++ _;grind
 have E:aa l=aa j:=by have:=congrArg aa h;grind
 unfold be;rw[E,D h]
def IB{D b c H j v C}(J:aa (v::j::C)=c*1)(O:2<=c)(Q:c<=maxLen):aS (ah b H (j::v::C)::D) (E H 1 (U b) 2 c [j,v]::D):=λh s=>by
 let⟨h1,ae,I,R,W,q,Y⟩:=s;exact⟨h1,ae,I,R,W,E.gP (n:=2) (c:=c) (eF:=1) (j:=j::v::C) q J O Q,Y⟩
theorem JR(j v C):eS (eS (j::v::C) (0+0*1) [v]) (0+1*1) [j]=v::j::C:=by
 rw[lh (j::v::C) _ _ ao,lh _ _ _ ao];simp
attribute [local irreducible] C
abbrev mV:Nat:=240
abbrev Ke:Nat:=561
abbrev Kf:Nat:=596
abbrev tF:Nat:=694
abbrev qZ:Nat:=696
abbrev vn:Type:=aA
def sr{D}{c1 c2:bz}{E}{po_:List aG->Prop}[H:cu ar D](h:Y D (c1++[]++c2).toArray E λv C=>po_ C):
  Y 166 #[.func (.func D) c1.toArray c2.toArray] E λv C=>v=.tuple #[.agg #[j 0,j 0],.bool false]/\po_ C:=Jn
def tY(C):Y 479 #[j 65536] C λv D=>∃b,v=.tuple #[I b,j 0]/\D=be b 65536 []::C:=Jx
def m9(b l C):aY 691 #[I b] (be b 65536 l::C) (j (l.length:Nat)) (be b 65536 l::C):=Jy
def AI(b A c C)(h:aU C b 0 2 [.slice A 0 c,j 65536]):aY 708 #[I b] C (.tuple #[.pointer none,.bool false]) C:=Jz
def AH(b A n c l)(D:aA)(C)(h:aU C b 0 2 [.slice A n c,j 65536])(E:Rd C A n (l++[D]))(J:n=l.length+1)(H:n<=65536):aY 708 #[I b] C (.tuple #[.pointer D.Z,.bool true]) C:=JA
def Al(b j):aY 701 #[I b] (be b 65536 []::j) (.tuple #[.pointer none,.bool false]) (be b 65536 []::j):=JB
def Ak(b l j C)(H:l.length+1<=65536):aY 701 #[I b] (be b 65536 (l++[j])::C) (.tuple #[.pointer j.Z,.bool true]) (be b 65536 l::C):=JC
def u1(b A C q l D j)(E:Rd j A C D)(H:l.length+C<=65536):aY 532 #[I b,.slice A C q] (be b 65536 l::j) (.tuple #[]) (be b 65536 (l++D)::j):=JD
def Ao(E H b A C q l D j)(ae:a5 j ⟨E,0,none⟩ (I b))(an:a5 j ⟨H,0,none⟩ (.slice A C q))(R:Rd j A C D)(Q:l.length+C<=65536):
  Y 531 #[I E,I H] (be b 65536 l::j) λv J=>J=be b 65536 (l++D)::j:=JE
def tW(b A D q l E C)(R:Rd C A D E)(Q:l.length+D<=65536):aY 481 #[I b,.slice A D q] (be b 65536 l::C) (j 0) (be b 65536 (l++E)::C):=JF
def vU(A n c)(l:List aA)(j)(D:Rd j A n l)(O:n<=1000000):
  Y 702 #[.slice A n c] j λv C=>Made 240 l j v C:=Jo
def yB(A c)(l:List aA)(D)(Q:0<l.length->∃b,A=(U b))(ae:l.length<=2):
  aY 703 #[.slice A l.length c] (E 240 1 A l.length c (J l)::D) (.tuple #[]) (E 240 1 A l.length c (J l.reverse)::D):=Jp
def lG(j:bk)(C:TypeId):Bool:=match j.underlying C with
 |some (.func _ _ _)=>ag
 | _=>al
class kC (j:bk) (C:TypeId):Prop where
 h:lG j C=ag
def kC.spec{j C}(D:kC j C):∃a b c,j.underlying C=some (.func a b c):=Jq
def wM{j O H}{U:Option Nat}{am C Q ai R W I y E a b}[J:kC j C](Z:aX H I=ab (.func E a b))(ah:aX H y=ab .nilFunc):bh j O H ⟨U,.binOp .eql C I y Q,am,ai,R,W⟩ (.bool al):=
 jU _ _ _ _ (λD=>by unfold eqGuard;split<;>rfl) Z ah λD=>by
  obtain⟨_,_,_,Y⟩:=J.spec;have ae:(eo C (.func E a b) .nilFunc).run j D=.ok al D:=by
   unfold eo;rw[show Op.maxDepth=9999+1 from rfl];unfold Op.equalIn;simp only[cM,run_underlying Y,dG];rfl
  show((do pure (.bool (<- eo C (.func E a b) .nilFunc)):Sem a2)).run j D= _;simp only[cM,ae,dG,Sem.run_pure]
instance:kC ar 693:=⟨cq⟩
structure h6 (S:Type)where
 V:S->aG
 ok:aA->S->Prop
 kids:aA->List aA
 gl:aA->S->S
 f:dc
 c1:List a2
 c2:List a2
 il:List aA->S->Nat->Prop
@[reducible] def e3 {S} (C:h6 S) (s n:Nat):List Value:=[I s,.func (.func C.f) C.c1.toArray C.c2.toArray,j (n:Nat)]
def AS{S}(D:h6 S)(j s n C):aY 696 #[I j] (ah j 696 (e3 D s n)::be s 65536 []::C) (.bool false) (ah j 696 (e3 D s n)::be s 65536 []::C):=Jr
def AR{S}(j J s n l C)(D:S)(H:Q)(U:cu ar j.f)(ai:∀M:List aG,(aS M H)->Y j.f (j.c1++[Value.pointer C.Z]++j.c2).toArray (j.V D::M) λv R=>Made 240 (j.kids C) (j.V (j.gl C D)::M) v R)(W:(j.kids C).length<=2)(ax:l.length<=60000)(az:n<=1000000000000):
  aY 696 #[I J] (ah J 696 (e3 j s n)::be s 65536 (l++[C])::j.V D::H) (.bool true) (ah J 696 (e3 j s (n+1))::be s 65536 (l++(j.kids C).reverse)::j.V (j.gl C D)::H):=Js
def Kb{S}(C R J E s l D)(H:S)(U:Q)(ai:cu ar C.f)(aq:∀M:List aG,(aS M U)->Y C.f (C.c1++[Value.pointer D.Z]++C.c2).toArray (C.V H::M) λv W=>Made 240 (C.kids D) (C.V (C.gl D H)::M) v W)(am:(C.kids D).length<=2)(ap:l.length<=60000):
  Y 695 #[I R,I J] (ah R 694 [I E]::ah J 3 [j (1:Nat)]::ah E 696 (e3 C s 0)::be s 65536 (l++[D])::C.V H::U)
   λv W=>W=ah R 694 [I E]::ah J 3 [j (1:Nat)]::ah E 696 (e3 C s 1)::be s 65536 (l++(C.kids D).reverse)::C.V (C.gl D H)::U:=Jt
def yI{S}(C:h6 S)(s l D E)(H:Q)(R:cu ar C.f)(ah:∀M:List aG,(aS M H)->Y C.f (C.c1++[Value.pointer D.Z]++C.c2).toArray (C.V E::M) λv J=>Made 240 (C.kids D) (C.V (C.gl D E)::M) v J)(U:(C.kids D).length<=2)(W:l.length<=60000):
  Y 692 #[I s,j (1:Nat),.func (.func C.f) C.c1.toArray C.c2.toArray] (be s 65536 (l++[D])::C.V E::H)
   λv J=>v=.tuple #[j (1:Nat),j 0]/\J=be s 65536 (l++(C.kids D).reverse)::C.V (C.gl D E)::H:=Ju
def Kc{S}(H:h6 S)(E D C s)(J:Q):
  Y 695 #[I E,I D] (ah E 694 [I C]::ah D 3 [j (1:Nat)]::ah C 696 (e3 H s 0)::be s 65536 []::J)
   λv R=>R=ah E 694 [I C]::ah D 3 [j (1:Nat)]::ah C 696 (e3 H s 0)::be s 65536 []::J:=Jv
def yH{S}(C:h6 S)(s)(D:Q):
  Y 692 #[I s,j (1:Nat),.func (.func C.f) C.c1.toArray C.c2.toArray] (be s 65536 []::D)
   λv E=>v=.tuple #[j (0:Nat),j 0]/\E=be s 65536 []::D:=Jw
end fb
namespace fb
attribute [local irreducible] C bh b6
def V8(H:dc)[cu ar H](R U:bz)(E:aA->Bool)(A:a3)(n c:Nat)(l:List aA)(D:Q)(ai:Rd D A n l)(aJ:n<=1000000)
  (az:∀a∈l,Y H (R++[Value.pointer a.Z]++U).toArray D λv J=>v=.bool (E a)/\J=D):
  Y 704 #[.slice A n c,.func (.func H) R.toArray U.toArray] D λv J=>((v=j (-1)/\l.filter E=[])\/∃I:Nat,v=j (I:Nat)/\I<n/\(l.take (I+1)).filter (λa=>!E a)=l.take I)/\J=D:=by
 have h1:aa l=n:=ai.len bL;refine bt λ{g F}=>?_;refine cL (ι:=Nat) (λC=>[(0,.slice A n c),(1,.func (.func H) R.toArray U.toArray),(7,j (n:Nat)),(8,j (C:Nat))]) (λ_=>F::D) (λC=>C<=n/\(l.take C).filter E=[]) (λC=>n-C) 0 ⟨bO _,by rfl⟩ aZ a1 ?_;rintro C ⟨aI,W⟩;apply ak _;refine c0 p (λav=>?_) (λav=>?_)
 .obtain⟨aH,aK,rfl,aF⟩:=ai.at_ ad;have aq:l[C]?=ab l[C]:=b8 ad;have aG:=(aF _ _ aq).at_ (i:=0) p;have aE:l.take (C+1)=l.take C++[l[C]]:=j4 ad;have aD:l[C] ∈l:=gG _;have aB:=az _ aD;generalize l[C]=aL at*
  have aM:=aG;apply aC _;refine GE (f4 p p (O.frame [F] aB cf)) ?_;rintro _ _ ⟨_,⟨rfl,rfl⟩,rfl⟩;apply ak _;refine eG p (λah=>?_) (λah=>?_)
  .apply eO _;exact⟨.inr ⟨C,rfl,ad,by
    rw[aE,vy];have ap:(l.take C).filter (λa=>!E a)=l.take C:=yb.2 λa ax=>by
     have:=List.filter_eq_nil_iff.1 W a ax;simpa using this
    rw[ap];simp[ah]⟩,rfl⟩
  .apply ak _;exact b7 (C+1) ⟨ad,by simp_all⟩ ad aZ a1
 .have am:C=n:=ad;subst am;rw[<- h1,nN]at W;apply dk _;exact⟨.inl ⟨rfl,W⟩,rfl⟩
theorem Pl(C):∀(l:List aA)(j),(J l:bz).set j (.pointer C.Z)=J (l.set j C)
 | [],_=>rfl
 |x::l,0=>rfl
 |x::l,j+1=>by
  have:=Pl C l j;rw[List.set_cons_succ,h9,h9];show Value.pointer _::(J l).set j _= _;rw[this];rfl
def Bq(ap:dc)[cu ar ap](av ax:bz)(ai:aA->Bool)(A:a3)(n c:Nat)(l:List aA)(W:Q)(aF:0<n->∃b,A=(U b))(h1:aa l=n)(a4:n<=1000000)
  (a0:∀a∈l,Y ap (av++[Value.pointer a.Z]++ax).toArray W λv am=>v=.bool (ai a)/\am=W):
  Y 698 #[.slice A n c,.func (.func ap) av.toArray ax.toArray] (E 240 1 A n c (J l)::W) λv am=>Made 240 (l.filter λa=>!ai a) W v am:=by
 have aY:aa (J l)=n*1:=by rw[ck,h1];rfl
 have aG:∀F a,a∈l->∀aq,Y ap (av++[Value.pointer a.Z]++ax).toArray (E 240 1 A n c aq::F::W) λv am=>v=.bool (ai a)/\am=E 240 1 A n c aq::F::W:=λF a aB aq=>
  (O.frame [E 240 1 A n c aq,F] (a0 a aB) cT).mono λv am ⟨M,⟨aD,az⟩,aE⟩=>⟨aD,by simp_all⟩
 have aJ:=λF=>V8 ap av ax ai A n c l (E 240 1 A n c (J l)::F::W) (bf.E aY aF) a4 (λa aB=>aG F a aB _);refine cR λ{g F}=>?_;apply pb [1] _;apply oL (λh s=>E.facts s);rintro⟨bn,bq,br,bt⟩;apply aC _;apply aP (aJ F) _;rintro _ _ ⟨bg,rfl⟩;apply dl _;rcases bg with ⟨rfl,bA⟩|⟨ah,rfl,bw,bb⟩
 .have aQ:l.filter (λa=>!ai a)=l:=yb.2 λa aB=>by
   simp_all
  rw[aQ];subst h1;apply ak _;exact aR ⟨A,c,rfl,aF,rfl⟩
 .obtain⟨b,rfl⟩:=aF ad;have aX:l.take ah++([l[ah]]++l.drop (ah+1))=l:=by
   simp
  have bc:aa (l.take ah)=ah:=bv;apply ak _;refine cL (ι:=Nat×List aA×List aA) (λy=>[(0,.slice (U b) n c),(1,.func (.func ap) av.toArray ax.toArray),(5,j (y.2.1.length:Nat)),(6,j (y.1:Nat))]) (λy=>E 240 1 (U b) n c (J (y.2.1++(y.2.2++l.drop y.1)))::F::W)
   (λy=>y.1<=n/\y.2.1=(l.take y.1).filter (λa=>!ai a)/\y.2.1.length+y.2.2.length=y.1/\0<y.2.2.length) (λy=>n-y.1) (ah+1,l.take ah,[l[ah]]) ⟨ad,bb.symm,by simp_all,Nat.one_pos⟩ ⟨rfl,rfl,by show _=ab (Value.int .i64 (aa (l.take ah):Nat));rw[bc];rfl,rfl,trivial⟩ (by dsimp only;rw[aX];exact λ_ s=>s) ?_
  rintro⟨D,H,R⟩ ⟨aD,az,aE,aH⟩;simp only at aD az aE aH;dsimp only;have aL:aa (H++(R++l.drop D))=n:=bv;apply ak _;refine c0 p (λaM=>?_) (λaM=>?_)
  .have aK:D<aa l:=ad;have aI:(H++(R++l.drop D))[D]?=ab l[D]:=by
    rw[<- jm,List.getElem?_append_right bo,List.getElem?_drop];simp_all
   have bl:l.take (D+1)=l.take D++[l[D]]:=j4 aK;have aO:l.drop D=l[D]::l.drop (D+1):=(List.getElem_cons_drop aK).symm;have bj:l[D] ∈l:=gG _;have be:=λaq=>aG F _ bj aq;generalize l[D]=I at*
   rw[aO]at aI aL ⊢;have bm:∀M,a5 (E 240 1 (U b) n c (J (H++(R++I::l.drop (D+1))))::M) ⟨b,0+D*1,af⟩ (.pointer I.Z):=λM=>by
    have a9:Rd (E 240 1 (U b) n c (J (H++(R++I::l.drop (D+1))))::M) (U b) n (H++(R++I::l.drop (D+1))):=bf.E (by rw[ck,aL];rfl) (λ_=>⟨b,rfl⟩);let⟨_,_,aS,bh⟩:=a9.at_ ad;cases aS;exact(bh _ _ aI).at_ (i:=0) p
   apply aC _;refine a6 (fC p (bx bm)) ?_;apply aC _;refine GE (f4 p p (be _)) ?_;rintro _ _ ⟨rfl,rfl⟩;refine a6 (gz p) ?_;apply ak _;cases a7:ai I with
   |true=>
    apply ak _;refine b7 (D+1,H,R++[I]) ⟨ad,by simp_all,by grind,ao⟩ ad aZ ?_;show ∀h,_->C (E 240 1 (U b) n c (J (H++((R++[I])++l.drop (D+1))))::F::W) h;rw[jm R,List.singleton_append];exact a1
   |false=>
    cases R with
    |nil=>exact absurd aH ao
    |cons bi R=>
     apply kB _;apply bQ _;iterate 4 apply ay _
     refine GE (lB p p p aN ad) ?_;rintro _ _ ⟨rfl,rfl⟩;apply ee _;iterate 3 apply ay _
     apply cd _;have aW:(J (H++((bi::R)++I::l.drop (D+1))):bz).set (0+aa H*1) (.pointer I.Z)=J ((H++[I])++((R++[I])++l.drop (D+1))):=by
      simp[Pl,List.set_append]
     apply ak _;refine b7 (D+1,H++[I],R++[I]) ⟨by show D+1<=n;omega,by show H++[I]= _;rw[bl,vy,<- az];simp[a7],by simp at aE ⊢;omega,ao⟩ (by show n-(D+1)<n-D;omega) ⟨rfl,rfl,by show _=ab (Value.int .i64 (aa (H++[I]):Nat));rw[b4];rfl,rfl,trivial⟩ ?_;show ∀h,_->C (E 240 1 (U b) n c (J ((H++[I])++((R++[I])++l.drop (D+1))))::F::W) h;rw[<- aW];exact a1
  .have aT:D=n:=ad;subst aT;have aV:H=l.filter λa=>!ai a:=by rw[az,<- h1,nN]
   rw[<- aV];clear aJ aG;refine bp (j:=E 240 1 (U b) (aa H) c (J H)::F::W) (Cs .here ad (by rw[gS];exact List.take_left' (ck _)) cf) ?_;apply dY _;refine GE (Og (W:=aa H) p p p aN (λ_=>by rw[a8 ad];omega) ad ad) ?_;rintro _ _ ⟨rfl,rfl⟩;apply dY _;exact aR ⟨(U b),c,rfl,λ_=>⟨b,rfl⟩,rfl⟩
end fb
namespace fb
def aA.pK:aA->cS
 | .nil=>⟨0,0,0,0⟩
 | .node _ _ _ _ j _ _=>j
def aA.ob:aA->List aA
 | .nil=>[]
 | .node _ _ _ _ _ C j=>[C,j].filter λa=>a.Z.isSome
def aA.oi(C:cS)(j:aA):List aA:=j.ob.filter λa=>oe C a.pK
def aA.qF(C:cS):aA->List Int
 | .nil=>[]
 | .node _ j g _ _ _ _=>if !g&&C.has j.x j.y then[j.id]else[]
def aA.HM(j:cS):aA->Nat
 | .nil=>0
 | .node _ _ _ _ _ D C=>1+((if oe j D.pK then D.HM j else 0)+(if oe j C.pK then C.HM j else 0))
def aA.GN(j:cS):aA->List Int
 | .nil=>[]
 | .node b H g E I D C=>(aA.node b H g E I D C).qF j++((if oe j D.pK then D.GN j else[])++(if oe j C.pK then C.GN j else[]))
def HN(j:cS)(l:List aA):Nat:=(l.map (aA.HM j)).sum
def Z7(j:cS)(l:List aA):List Int:=l.flatMap (aA.GN j)
def aA.Qt(j:aA):aa j.ob<=2:=by
 cases j with
 |nil=>trivial
 |node b H g E I D C=>exact kj _ _
def aA.Rs(C)(j:aA):aa (j.oi C)<=2:=hj (kj _ _) j.Qt
def aA.Qu{j C:aA}(h:C∈j.ob):C.Z.isSome=ag/\C.cj<=j.cj:=by
 cases j with
 |nil=>trivial
 |node b I g H J E D=>
  obtain⟨h1,ae⟩:=ii.1 h;refine⟨ae,?_⟩;simp[aA.cj];grind
def aA.adY{D}{C j:aA}(h:j∈C.oi D):j.Z.isSome=ag/\j.cj<=C.cj:=aA.Qu (ii.1 h).1
def CF{E D W}{I:Option Nat}{R Q O H J U C}(Z:aX W U=ab (j C)):
  bh E D W ⟨I,.call ⟨.builtin .max,#[U,.const (j 0)],Q⟩,R,O,H,J⟩ (j (C.toNat:Nat)):=by
 have h:=wP (P:=E) (L:=D) (d:=I) (aO:=R) (J:=Q) (pos:=O) (aT:=H) (a7:=J) (y:=.const (.int _ 0)) Z p;have Y:max C 0=((C.toNat:Nat):Int):=ao;rwa[Y]at h
@[reducible] def rK (s:Nat) (C:cS) (A:a3) (D c E:Nat):List Value:=[I s,j C.cN,j C.cQ,j C.c9,j C.cZ,.bool true,.slice A D c,j (D:Nat),j (E:Nat)]
def jF(b s:Nat)(D:cS)(ids:List Int)(j:Nat):aG:=λh=>∃y:Option Addr×Nat,(0<aa ids->∃b,y.1=(U b))/\C [ah b 566 (rK s D y.1 (aa ids) y.2 j),E 3 1 y.1 (aa ids) y.2 (J ids)] h
def Qn{b s j D ids M H}(h:C (jF b s D ids j::M) H):∃A c,(0<aa ids->∃b,A=(U b))/\aa ids<=c/\c<=maxLen/\C (ah b 566 (rK s D A (aa ids) c j)::E 3 1 A (aa ids) c (J ids)::M) H:=by
 let⟨h1,ae,O,W,Y,⟨⟨A,c⟩,R,q⟩,Z⟩:=h;have I:=E.facts (L:=[]) q.tail;exact⟨A,c,R,I.2.1,I.2.2.1,C.head (A:=λh=>h=h1) (N:=[ah b 566 (rK s D A (aa ids) c j),E 3 1 A (aa ids) c (J ids)]) (λ_ Q=>Q▸q) ⟨h1,ae,O,W,Y,rfl,Z⟩⟩
def O.C6{D H args C b s Q j ids W}
  (R:∀A c,(0<aa ids->∃b,A=(U b))->aa ids<=c->c<=maxLen->O D H args (ah b 566 (rK s j A (aa ids) c Q)::E 3 1 A (aa ids) c (J ids)::C) W):O D H args (jF b s j ids Q::C) W:=λg F j I=>by
 let⟨A,c,h1,ae,an,Y⟩:=Qn I.s.swap;exact R A c h1 ae an g F j ⟨I.g,Y.perm (fA (l₁:=[_,_]))⟩
def Bm{I j g H C W D b s Q R ids}
  (h:∀A c,(0<aa ids->∃b,A=(U b))->aa ids<=c->c<=maxLen->G I j g H C W (ah b 566 (rK s R A (aa ids) c Q)::E 3 1 A (aa ids) c (J ids)::D)):G I j g H C W (jF b s R ids Q::D):=λa v Z O=>by
 let⟨A,c,h1,ae,an,Y⟩:=Qn O.s;exact h A c h1 ae an a v Z ⟨O.g,Y⟩
def o5{j M b s c D n A I ids H}(R:aa ids=n)(W:J ids=H)(Q:0<n->∃b,A=(U b))(O:aS j (ah b 566 (rK s I A n c D)::E 3 1 A n c H::M)):aS j (jF b s I ids D::M):=λh Y=>by
 subst R W;exact C.fold (N:=[_,_]) (λh q=>⟨(A,c),Q,q⟩) (O h Y)
structure Wa (D:cS) (H:List Int) (E:Q) (l:List aA) (ids:List Int) (C:Nat):Prop where
 rest:C=HN D l
 small:C<=60000
 ok:∀j∈l,d2 E j/\j.Z.isSome=ag/\j.cj<=1000
 ids:ids++Z7 D l.reverse=H
theorem d2.ob{C j E}(h:d2 C j)(D:E∈j.ob):d2 C E:=by
 cases j with
 |nil=>simp[aA.ob]at D
 |node b O g J Q I H=>
  have:=(ii.1 D).1;simp only[df,Lw,or_false]at this;rcases this with rfl|rfl
  .exact h.2.1
  .exact h.2.2
attribute [local irreducible] C
variable{P:bk}{L:Q}{H:cU}{d:Option Nat}{T aO:TypeId}{pos:String}{aT:Array Edge}{a7:Option (Nat×Bool)}{x:Operand}
def Z3{b o n O C}[j:mZ P T (n,C,O)](J:aX H x=ab (.pointer (ab ⟨b,o,af⟩)))(R:0<n):
  bh P L H ⟨d,.slice T x af af af,aO,pos,aT,a7⟩ (.slice (ab ⟨b,o,af⟩) n n):=λa Y E _=>by
 let⟨I,W,D,U⟩:=j.spec;simp[execOp,E.eval J];simp[Instr.sliceAt,Instr.sliceBounds,run_underlying I,sizeOf,typeInfo,D,Addr.add_lit,Instr.sureAddr]
def adJ(b C j O x J E L)(h:d2 L (.node b C j O x J E)):Y 697 #[I b] L λv D=>v=.tuple #[C.v,.bool (!j)]/\D=L:=by
 let⟨aF,aM,W,Z,ah,ai,am,ap,aq,U⟩:=h.f;refine aD ?_;refine bP λR=>?_;apply hZ 0 (bE [0,1,2,3,4,5,6,7,8] (.e 9 (.q 10 .nil))) _;refine bF (bW p p p (rz p p p p oU) ?_);rintro _ _ ⟨rfl,rfl⟩;apply bX _;apply aC _
 all_goals
  apply bs _;refine ba p (.cell p (eQ cA) (.tmp p .nil)) a1 bD
def adG(b O C J x E D L)(h:d2 L (.node b O C J x E D)):Y 707 #[I b] L λv j=>v=x.v/\j=L:=by
 let⟨aF,aM,W,Z,ah,ai,am,ap,aq,U⟩:=h.f;refine aD ?_;refine bg λR=>?_;refine ba p (.cell p (eQ cA) .nil) a1 bD
def abU(x:aA)(L):aY 705 #[.pointer x.Z] L (.bool (!x.Z.isSome)) L:=by
 have j:(!x.Z.isSome)=x.Z.isNone:=ao;rw[j];refine bt ?_;exact c8
def adH(b J D E x C j L)(h:d2 L (.node b J D E x C j)):Y 699 #[I b] L λv ah=>Made 240 (aA.ob (.node b J D E x C j)) L v ah:=by
 let⟨aF,aM,aD,aE,ax,aG,aH,aI,aJ,aB⟩:=h.f;have az:Rd L _ 2 [C,j]:=⟨rfl,λ_=>⟨b,0+4,rfl,λav v ar=>ax.2 av v ar⟩⟩;refine bt ?_;refine a6 (Z3 p ao) ?_;refine aP (vU _ _ _ _ _ cX ao) ?_;rintro _ _ ⟨W,am,rfl,aq,rfl⟩;refine aP (O.pick aN (Bq 705 [] [] (λa=>!a.Z.isSome) W _ am [C,j] _ aq p ao (λa _=>abU a _))) ?_;rintro _ _ ⟨U,ai,rfl,R,rfl⟩;apply ak _;have ap:([C,j].filter λa=>!(!a.Z.isSome))=aA.ob (.node b J D E x C j):=by
  show _=[C,j].filter λa=>a.Z.isSome;simp
 rw[ap]at R ⊢;exact aR ⟨U,ai,rfl,R,rfl⟩
def GM(b C a L)(h:aU L b (0+1) 4 [j C.cN,j C.cQ,j C.c9,j C.cZ])(Y:d2 L a)(aq:a.Z.isSome=ag):
  aY 700 #[I b,.pointer a.Z] L (.bool (!oe C a.pK)) L:=by
 cases a with
 |nil=>cases aq
 |node E am R ai x ah W=>
  have D:=Wo C x;have U:=λM h=>adG E am R ai x ah W M h;have ap:(aA.node E am R ai x ah W).pK=x:=rfl;rw[ap];generalize oe C x=ar at*
  refine bt ?_;refine fK (bE [0,1,2,3,4] (.iw 5 (.iw 6 (bE [7,8,9] (.e 10 (.e 11 (.q 12 .nil)))) 10 (.e 6 (bE [7,8,9] (.e 11 (.q 12 .nil))))) 10 (.e 5 (.e 6 (bE [7,8,9] (.e 11 (.q 12 .nil))))))) ?_;refine jt ?x1243_0 ?x1243_1
  case' x1243_1=>
   refine bW p p p rx ?_;rintro _ _ ⟨J,rfl,rfl⟩;apply cV _;apply dM (U _ (bx Y)) _;apply dV (D _) _;rintro _ _ ⟨O,rfl,rfl⟩;apply cV _;apply dl _
  case' x1243_0=>
   refine bW p p p (c5 p (U _ (bx Y))) ?_;rintro _ _ ⟨rfl,rfl⟩;apply cV _;refine jt ?x1244_0 ?x1244_1
   case' x1244_1=>
    refine bW p p p rx ?_;rintro _ _ ⟨J,rfl,rfl⟩;apply cV _;apply dV (D _) _;rintro _ _ ⟨O,rfl,rfl⟩;apply cV _;apply dl _
   case' x1244_0=>
    refine bW p p p (c5 p (D _)) ?_;rintro _ _ ⟨O,rfl,rfl⟩;apply cV _;apply ak _;apply h5 λJ=>?_;apply lX _;apply bu _;apply jR
  all_goals
   apply bQ _;apply ay _;exact a6 (gz p) fG
def XN{b s C A E c D M}:aU (ah b 566 (rK s C A E c D)::M) b (0+1) 4 [j C.cN,j C.cQ,j C.c9,j C.cZ]:=
 have h:aU (ah b 566 (rK s C A E c D)::M) b 0 9 (rK s C A E c D):=aU.ah p
 uF (E:=1) h p (λJ v I=>by grind)
def abM(b s aJ j ids x L)(aE:d2 L x)(aY:x.Z.isSome=ag)(bb:aa ids<=1000000000):
  Y 693 #[I b,.pointer x.Z] (jF b s j ids aJ::L) λaZ aL=>Made 240 (x.oi j) (jF b s j (ids++x.qF j) aJ::L) aZ aL:=by
 cases x with
 |nil=>cases aY
 |node R C E ah ai W U=>
  have aV:=λM h=>adJ R C E ah ai W U M h;have aF:=λM h=>adH R C E ah ai W U M h;have am:∀a∈aA.ob _,d2 L a/\a.Z.isSome=ag:=λa D=>⟨aE.ob D,(aA.Qu D).1⟩;have bc:=aA.Qt (.node R C E ah ai W U);have aQ:aA.qF j (.node R C E ah ai W U)=if !E&&j.has _ _ then[C.id]else[]:=rfl
  have aS:aA.oi j (.node R C E ah ai W U)=(aA.ob (.node R C E ah ai W U)).filter λa=>!(!oe j a.pK):=by
   simp[aA.oi]
  rw[aQ,aS];generalize aA.ob (.node R C E ah ai W U)=aG at*
  have aI:=Mi j C;generalize j.has C.x C.y=aX at*
  apply O.C6 λA c aH a4 a8=>?_;refine aD ?_;refine dQ (aV _ (bx aE)) ?_;apply bP λa3=>?_;apply cc;cases E with
  |true=>
   apply ed (bE [0,1,2,3,4,5,6] (.e 7 (.q 8 .nil))) _;iterate 7 apply bu _
   refine bF (sz p p p ⟨_,rfl,rfl⟩ p ?_);apply bu _;apply jR
   all_goals
    apply aC _;apply aP (aF _ (bx aE)) _;rintro _ _ ⟨aq,av,rfl,az,rfl⟩;apply ak _;refine aP (O.pick aN (Bq 700 [I b] [] (λa=>!oe j a.pK) aq _ av aG _ az p ad (λa D=>GM b j a _ IE (by repeat' first|exact(am a D).1|apply d2.ap) (am a D).2))) ?_;rintro _ _ ⟨ar,ax,rfl,aB,rfl⟩;apply ak _;exact aR ⟨ar,ax,rfl,aB,rfl⟩ (by(repeat first|exact cf|refine o5 (c:=c) (A:=A) (n:=aa ids) (H:=J ids) ao ao aH ?_|apply ek _)<;>fail)
  |false=>
   cases aX with
   |false=>
    apply ed (bE [0,1,2,3,4,5,6] (.e 7 (.q 8 .nil))) _;iterate 7 apply bu _
    refine bF (jQ p p p ⟨_,rfl,rfl⟩ p (c5 p (aI _)) ?_);rintro _ _ ⟨rfl,rfl⟩;apply cV _;apply dl _
    all_goals
     apply aC _;apply aP (aF _ (bx aE)) _;rintro _ _ ⟨aq,av,rfl,az,rfl⟩;apply ak _;refine aP (O.pick aN (Bq 700 [I b] [] (λa=>!oe j a.pK) aq _ av aG _ az p ad (λa D=>GM b j a _ IE (by repeat' first|exact(am a D).1|apply d2.ap) (am a D).2))) ?_;rintro _ _ ⟨ar,ax,rfl,aB,rfl⟩;apply ak _;exact aR ⟨ar,ax,rfl,aB,rfl⟩ (by(repeat first|exact cf|refine o5 (c:=c) (A:=A) (n:=aa ids) (H:=J ids) ao ao aH ?_|apply ek _)<;>fail)
   |true=>
    apply ed (bE [0,1,2,3,4,5,6] (.e 7 (.q 8 .nil))) _;iterate 7 apply bu _
    refine bF (jQ p p p ⟨_,rfl,rfl⟩ p (c5 p (aI _)) ?_);rintro _ _ ⟨rfl,rfl⟩;apply cV _;apply dl _
    all_goals
     apply ak _;apply h5 λa0=>?_;apply nH λaK aM a9 be aW=>?_;apply aP (aF _ (bx aE)) _;rintro _ _ ⟨aq,av,rfl,az,rfl⟩;apply ak _;refine aP (O.pick aN (Bq 700 [I b] [] (λa=>!oe j a.pK) aq _ av aG _ az p ad (λa D=>GM b j a _ IE (by repeat' first|exact(am a D).1|apply d2.ap) (am a D).2))) ?_;rintro _ _ ⟨ar,ax,rfl,aB,rfl⟩;apply ak _;exact aR ⟨ar,ax,rfl,aB,rfl⟩ (by(repeat first|exact cf|refine o5 (c:=aM) (A:=aK) (n:=aa ids+1) (H:=J ids++J [C.id]) ao (by simp[J]) aW ?_|apply ek _)<;>fail)
@[reducible] def Qp (b s:Nat) (C:cS) (E:Nat) (J:List Int) (D:Q):h6 (List Int)where
 V:=λj=>jF b s C j E
 ok:=λx j=>(d2 D x/\x.Z.isSome=ag)/\aa j<=1000000
 kids:=λx=>x.oi C
 gl:=λx j=>j++x.qF C
 f:=693
 c1:=[I b]
 c2:=[]
 il:=Wa C J D
def abL(b s W Z j L)(av:aa j<=100000000):Y 687 #[I b] (jF b s Z j W::L) λv ah=>
  ∃D C,v=.slice D (aa j) C/\((0<aa j->∃b,D=(U b))/\aa j<=C/\C<=maxLen)/\ah=E 3 1 D (aa j) C (J (b5 j))::jF b s Z j W::L:=by
 apply O.C6 λA c R ax az=>?_;have am:∀M:List aG,Rd (E 3 1 A _ c _::M) A _ j:=λM=>bf.E (ck _) R;refine aD ?_;refine aP (BI A (aa j) c _) ?_;rintro _ _ ⟨ai,rfl,rfl⟩;refine aP (O.pick aN (BH ai A (aa j) c j _ (bx am) ad)) ?_;rintro _ _ ⟨D,C,rfl,⟨ap,aq,ar⟩,rfl⟩;apply ak _;exact aR ⟨D,C,rfl,⟨ap,aq,ar⟩,rfl⟩ (dp (o5 (c:=c) p p R))
end fb
namespace fb
attribute [local irreducible] C bh b6
def aA.rt(j:aA):List aA:=if j.Z.isSome then[j]else[]
def abK(ah)(j:aA)(am)(C:Q)(h:a5 C ⟨ah,0+0,af⟩ (.pointer j.Z)):
  Y 435 #[I ah,am.v,.bool ag] C λax ap=>∃c s,ax=(I c)/\ap=jF c s am [] 0::be s 65536 j.rt::C:=by
 refine aD λ{g F}=>?_;apply bP λaz=>?_;apply aP (tY _) _;rintro _ _ ⟨s,rfl,rfl⟩;apply aC _;apply a9 (abI ah j _ (bx h)) _;cases j with
 |nil=>
  apply aC _;apply bg λD=>?_;exact bp (E.c7 3 1) (aR ⟨D,s,rfl,rfl⟩ (dp (o5 (c:=0) (A:=af) (n:=0) (H:=[]) p p db)))
 |node b W g R ai J H=>
  have ar:(aA.node b W g R ai J H).rt=[aA.node b W g R ai J H]:=rfl;rw[ar];generalize av:aA.node b W g R ai J H=j at*
  have aB:j.Z=(U b):=by rw[<- av];rfl
  apply bs _;refine gJ p bo ?_;apply aC _;apply bd λaq=>?_;refine dQ (O.pick aN (tW s (U aq) 1 1 [] [j] _ ID bL)) ?_;apply bg λD=>?_;exact bp (E.c7 3 1) (aR ⟨D,s,rfl,rfl⟩ (dp (o5 (c:=0) (A:=af) (n:=0) (H:=[]) p p db)))
def abH(D)(C:aA)(E)(j:Q)(h:a5 j ⟨D,0+0,af⟩ (.pointer C.Z)):
  Y 393 #[I D,E.v] j λJ H=>∃c s,J=(I c)/\H=jF c s E [] 0::be s 65536 C.rt::j:=by
 refine aD ?_;refine bP λO=>?_;apply aP (b3 (abK D C E j h)) _;rintro _ _ ⟨_,⟨c,s,rfl,rfl⟩,rfl⟩;apply gD _;exact aR ⟨c,s,rfl,rfl⟩
def ab4(b s E C l D H J)(av:d2 J D)(aq:D.Z.isSome=ag)(ai:aa l<=60000)(ar:aa H<=1000000000)(aI:E<=1000000000):
  aY 689 #[I b,j 1] (jF b s C H E::be s 65536 (l++[D])::J) (.tuple #[j (1:Nat),.bool (decide ((aa (l++(D.oi C).reverse):Int)=0))]) (jF b s C (H++D.qF C) (E+1)::be s 65536 (l++(D.oi C).reverse)::J):=by
 have ah:=λM h=>yI (Qp b s C E [] []) s l D H M (inferInstanceAs (cu _ _)) h (D.Rs C) ai;refine cR λ{g F}=>?_;apply bQ _;iterate 2 apply ay _
 apply ee _;iterate 2 apply ay _
 apply hl _;apply pb [1,1] _;apply Bm λA c U aB aE=>?_;apply dY _;refine f1 p (O.pre (dp (o5 (c:=c) p p U)) (ah (F::J) (λM am=>abM b s E C H D M (av.ap.mono am) aq ar))) ?_;iterate 5 apply ay _
 apply ee _;iterate 2 apply ay _
 apply hl _;apply bp (j:=jF b s C (H++D.qF C) E::be s 65536 (l++(D.oi C).reverse)::F::J) (λ_ ax=>ax.swap);apply Bm λaz Q W aD aF=>?_;apply bQ _;iterate 8 apply ay _
 apply fv _;apply cc;refine bp (j:=jF b s C (H++D.qF C) (E+1)::be s 65536 (l++(D.oi C).reverse)::F::J) (dp (o5 (c:=Q) p p W)) ?_;apply Bm λaA R Y aG aH=>?_;apply aC _;apply a9 (O.pick aN (m9 s _ _)) _;exact aR bD (dp (o5 (c:=R) p p Y))
def ab5(b s C D H)(E:Q)(Y:C<=1000000000):
  aY 689 #[I b,j 1] (jF b s D H C::be s 65536 []::E) (.tuple #[j (0:Nat),.bool ag]) (jF b s D H C::be s 65536 []::E):=by
 have R:=λM=>yH (Qp b s D C [] []) s M;refine cR ?_;refine bQ ?_;iterate 2 apply ay _
 apply ee _;iterate 2 apply ay _
 apply hl _;apply pb [1,1] _;apply Bm λA c J U W=>?_;apply dY _;apply dQ (O.pick aN (R _)) _;apply a9 (O.pick aN (m9 s _ _)) _;exact aR bD (dp (o5 (c:=c) p p J))
def abR(b s C E l D)(j:Q):aY 686 #[I b] (jF b s E D C::be s 65536 l::j) (.bool (decide ((aa l:Int)=0))) (jF b s E D C::be s 65536 l::j):=by
 apply O.C6 λA c H J R=>?_;refine bt ?_;refine a9 (O.pick aN (m9 s l _)) ?_;exact aR bD (dp (o5 (c:=c) p p H))
def aA.pl(a:Nat):aA:=.node a ⟨0,0,0⟩ al 0 ⟨0,0,0,0⟩ .nil .nil
def aA.jb:aA->Nat
 | .nil=>0
 | .node b _ _ _ _ _ _=>b
theorem aA.F0{j:aA}(h:j.Z.isSome=ag):j.Z=(aA.pl j.jb).Z/\j.jb∈j.bG:=by
 cases j with
 |nil=>cases h
 |node b H g E j D C=>exact⟨rfl,List.mem_cons_self⟩
def aA.abS{j y:aA}(h:y∈j.ob):∀a∈y.bG,a∈j.bG:=by
 cases j with
 |nil=>trivial
 |node b I g H J E D=>
  have:=(ii.1 h).1;simp[df,Lw,or_false]at this;intro a C;rcases this with rfl|rfl
  .exact gn _ (b9.2 (.inl C))
  .exact gn _ (b9.2 (.inr C))
abbrev kV:=Nat×cS×List Int×Nat×List Nat
def sO(b:Nat)(y:kV):List aG:=[jF b y.1 y.2.1 y.2.2.1 y.2.2.2.1,be y.1 65536 (y.2.2.2.2.map aA.pl)]
def jz(b j:Nat)(S:List Nat):aG:=λh=>∃y:kV,jo j S y.2.2.2.2 y.2.2.1.length y.2.2.2.1/\C (sO b y) h
def YP{b C D S j}(H:C<=D)(E:∀a∈S,a∈j):∀h,jz b C S h->jz b D j h:=λh ⟨y,o,q⟩=>⟨y,o.up H E,q⟩
theorem O.jz{D:bk}{H:dc}{args:Array a2}{C:Q}{b j:Nat}{S:List Nat}{J:a2->List aG->Prop}(R:∀s W U I E,jo j S E (aa U) I->O D H args (jF b s W U I::be s 65536 (E.map aA.pl)::C) J):O D H args (jz b j S::C) J:=
 O.open (ι:=kV) (D:=λy=>jo j S y.2.2.2.2 y.2.2.1.length y.2.2.2.1) (E:=sO b) (λ_ h=>h) λy o=>R y.1 y.2.1 y.2.2.1 y.2.2.2.1 y.2.2.2.2 o
def wG{H M:Q}{b J s D O S j E l}(o:jo J S j (aa E) D)(R:l.map aA.Z=(j.map aA.pl).map aA.Z)(I:aS H (jF b s O E D::be s 65536 l::M)):aS H (jz b J S::M):=by
 rw[tx R]at I;exact λh U=>C.fold (λh q=>⟨(s,O,E,D,j),o,q⟩) (I h U)
def abJ(b aq ax ar l aI S)(W:Q)(aG:aq<=50000):Y 689 #[I b,j 1] (jz b aq S::pk ax ar l aI S::W) λv az=>∃aB n aK,v=.tuple #[j (n:Nat),.bool aK]/\(∀a∈S,a∈aB)/\az=jz b (aq+1) aB::pk ax ar l aI aB::W:=by
 apply O.jz λs E av am aJ o=>?_;rcases List.eq_nil_or_concat aJ with h|⟨J,a,h⟩
 .subst h;exact(ab5 b s am E av _ (by have:=o.k;omega)).cr λv az aG ⟨aD,aE⟩ q=>⟨_,⟨S,0,ag,aD,λa h=>h,rfl⟩,wG (o.up (gp aq) λa h=>h) p cT _ (aE▸q)⟩
 .rw[List.concat_eq_append]at h;subst h;have aQ:=o.n;rw[b4]at aQ;apply O.pre Jc;apply O.ei λH v R g aF=>?_;obtain⟨D,aX,aR,aS⟩:=acF (aF a (o.a a ao));have aL:((J++[a]).map aA.pl).map aA.Z=(J.map aA.pl++[D]).map aA.Z:=by
   rw[ez,ez,ez];show _++[(U a)]= _++[D.Z];grind
  rw[tx aL];have aP:∀M,d2 (d6 H::ah ax 242 (hb H.Z (aa l:Nat) ar v)::gr R::M) D:=λM=>aR _ (xc H _) λy ai=>(Qk (E:=M) ai).ap.ap;have aO:D.Z.isSome=ag:=bo;apply O.pre (M:=jF b s E av am::be s 65536 (J.map aA.pl++[D])::d6 H::ah ax 242 (hb H.Z (aa l:Nat) ar v)::gr R::W) au;refine(ab4 b s am E (J.map aA.pl) D av _ (aP W) aO bv (by have:=o.i;omega) (by have:=o.k;omega)).cr λaW az aG ⟨aD,aE⟩ q=>⟨_,⟨H.bG++R.flatMap aA.bG,1,_,aD,λa aM=>(aF a aM).mem,rfl⟩,?_⟩;subst aE;have aV:∀y∈D.oi E,y.Z=(aA.pl y.jb).Z/\y.jb∈H.bG++R.flatMap aA.bG:=λy ai=>by
   have h1:=aA.F0 (aA.adY ai).1;exact⟨h1.1,aS _ (aA.abS (ii.1 ai).1 _ h1.2)⟩
  have aT:aa (D.qF E)<=1:=by cases D<;>simp[aA.qF];grind
  refine wG (s:=s) (O:=E) (l:=J.map aA.pl++(D.oi E).reverse) (j:=J++((D.oi E).map aA.jb).reverse) (E:=av++D.qF E) (D:=am+1) (o.next (λc aH=>(aF c aH).mem) (λc aH=>?_) (by rw[List.length_map];exact D.Rs E) bv) ?_ ?_ aG q
  .grind
  .simp_all
  .exact λh q=>C.bl (λh q=>C.bl (λh q=>sW g QM cT h q) q) q
def abD(b D S)(j:Q):Y 686 #[I b] (jz b D S::j) λv C=>(∃E,v=.bool E)/\C=jz b D S::j:=
 O.jz λs W U R Z o=>(abR b s R W _ U j).cr λv C ah ⟨H,J⟩ q=>⟨_,⟨⟨_,H⟩,rfl⟩,wG o p cT _ (J▸q)⟩
def abF(b D S)(C:Q):Y 688 #[I b] (jz b D S::C) λv E=>(∃n,v=j n)/\E=jz b D S::C:=by
 apply O.jz λs J ah Z R o=>?_;apply O.C6 λA c H U W=>?_;refine bt ?_;refine ba rfl ds ?_ ⟨⟨_,rfl⟩,rfl⟩;apply cP;exact aN;exact wG (s:=s) (O:=J) o p (dp (o5 (c:=c) p p H))
def abE(b D S)(H:Q)(Z:D<=50000):Y 687 #[I b] (jz b D S::H) (yy (jz b D S::H)):=
 O.jz λs ai j ah ap o=>(abL b s ah ai j _ (by have:=o.i;omega)).cr λv am Z ⟨R,U,aq,⟨ar,_,_⟩,W⟩ q=>⟨E 3 1 R (aa (b5 j)) U (J (b5 j))::jz b D S::H,⟨R,U,b5 j,by rw[b5,ky];omega,by rw[b5,ky];omega,by rw[b5,ky];have:=o.i;omega,rfl⟩,by
  subst W;rw[show aa (b5 j)=aa j by rw[b5,ky]];exact C.bl (wG o p cT) q⟩
end fb
end
end Go.Proofs.YteinodmjohkmmaaGreat
