/- TopBudget: a part of its proof. -/
import Derived.Test.YtioamnghkmcbbaaGreatMA3
set_option linter.all false
set_option maxRecDepth 100000
set_option maxHeartbeats 4000000
open Decidable renaming of_not_not->PW
open Go.Op renaming equal->dD
open Go.Result renaming andThen_ok->db
open Go.Sem renaming run_bind->cg
open Int renaming le_refl->x6
open List renaming append_assoc->ho,eq_nil_of_length_eq_zero->e3,filter_append->l9,filter_cons->nY,filter_eq_nil_iff->lA,filter_eq_self->vx,getElem?_eq_getElem->cb,getElem_mem->hp,length_append->bP,length_cons->fc,length_filter_le->hY,mem_append->cT,mem_cons->cQ,mem_filter->gN,mem_of_getElem?->kZ,nodup_append->rA,nodup_cons->ix,perm_middle->e4,reverse_append->mY,take_length->k0,take_succ_eq_append_getElem->gu
open List.Perm renaming append_left->kX
open Nat renaming le_add_right->BY,le_refl->bv,le_succ->nZ,le_trans->h0,lt_irrefl->dc,zero_le->bu
open Option renaming isSome->Ih
open Go.RowKit
namespace Go.Proofs.YtioamnghkmcbbaaGreat
noncomputable section
namespace eO
def fr(j q:I):Bool:=decide (up j q<0)
theorem GJ(j q):fr j q=j.iP.less q.iP:=by
 unfold fr up I.cmp
 by_cases h:j.iP=q.iP
 ·rw[if_pos h,h,I.nC];rfl
 grind
def GC{j q:I}(h:j.iP=q.iP):j=q:=by
 cases j;cases q;simp[I.iP,I.mk.injEq]at h ⊢;omega
def Zh:ev fr:=⟨λD=>by rw[GJ];exact fX.hS _,λh j=>by rw[GJ]at h j ⊢;exact fX.fx h j,λh j=>by rw[GJ]at j ⊢;exact fX.e2 (λC=>h (GC C)) j⟩
def fy(j:Nat):I->I->Bool:=if j % 2=0 then I.less else fr
def rk(j):ev (fy j):=by
 unfold fy;split
 ·exact fX
 ·exact Zh
inductive ax where
 |nil
 |node (b:Nat) (E:I) (g:Bool) (D:Nat) (G:b9) (C j:ax)
def ax.addr:ax->Option Addr
 | .nil=>none
 | .node b _ _ _ _ _ _=>(ak b)
def ax.bi:ax->Nat
 | .nil=>0
 | .node _ _ _ _ _ C j=>C.bi+j.bi+1
def ax.size:ax->Nat
 | .nil=>0
 | .node _ _ _ j _ _ _=>j
def ax.all:ax->List I
 | .nil=>[]
 | .node _ D _ _ _ C j=>D::(C.all++j.all)
def ax.au:ax->List I
 | .nil=>[]
 | .node _ D g _ _ C j=>(if g then[]else[D])++(C.au++j.au)
def ax.depth:ax->Nat
 | .nil=>0
 | .node _ _ _ _ _ C j=>max C.depth j.depth+1
@[reducible] def _root_.Go.Proofs.YtioamnghkmcbbaaGreat.I.cz (j:I):b9:=⟨j.x,j.x,j.y,j.y⟩
def yP(j b:b9):b9:=⟨min j.cB b.cB,max j.cI b.cI,min j.cC b.cC,max j.cx b.cx⟩
def kC(j:b9):ax->b9
 | .nil=>j
 | .node _ _ _ _ C _ _=>yP j C
def c9(n:Nat):Nat:=3*n/4
def ax.ok:Nat->ax->Prop
 | _,.nil=>True
 |D,.node b E g G I C j=>((∀q∈C.all,fy D q E=true)/\(∀q∈j.all,fy D E q=true))/\(G=C.bi+j.bi+1/\I=kC (kC E.cz C) j/\C.bi<=c9 (C.bi+j.bi+1)/\j.bi<=c9 (C.bi+j.bi+1))/\C.ok (D+1)/\j.ok (D+1)
theorem ax.tP:∀j:ax,j.all.length=j.bi
 | .nil=>rfl
 | .node b G g E I D C=>by simp[ax.all,ax.bi,fc,bP,D.tP,C.tP]
def ax.nK:∀j:ax,j.au.Sublist j.all
 | .nil=> .slnil
 | .node b G g E I D C=>by
  have h:=D.nK.append C.nK;unfold ax.au ax.all;grind
def ax.u2(j:ax):j.au.length<=j.bi:=by rw[<- j.tP];exact j.nK.length_le
theorem ax.ok.size{C}{j:ax}(h:j.ok C):j.size=j.bi:=by
 cases j with
 |nil=>rfl
 |node=>exact h.2.1.1
def ax.zk:∀j:ax,j.depth<=j.bi
 | .nil=>bv _
 | .node b G g E I D C=>by
  have aa:=D.zk;have ab:=C.zk;simp[ax.depth,ax.bi];omega
theorem ax.ok.nodup:∀{D:ax}{C},D.ok C->D.all.Nodup
 | .nil,_,_=> .nil
 | .node b G g U W R Q,C,h=>by
  have o:=rk C;refine ix.2 ⟨λj=> ?_,rA.2 ⟨h.2.2.1.nodup,h.2.2.2.nodup,λE J O K I=> ?_⟩⟩
  ·rcases cT.1 j with j|j
   ·have:=h.1.1 G j;rw[o.hS]at this;trivial
   ·have:=h.1.2 G j;rw[o.hS]at this;trivial
  ·subst I;have:=o.fx (h.1.1 E J) (h.1.2 E K);rw[o.hS]at this;trivial
def ax.d1(q:I):Nat->ax->ax
 | _,.nil=> .nil
 |j,.node b C g G J E D=>if C=q then .node b C g G J E D else if fy j q C=true then E.d1 q (j+1)else D.d1 q (j+1)
def ax.live:ax->Bool
 | .nil=>false
 | .node _ _ g _ _ _ _=>!g
theorem ax.ok.has:∀{K:ax}{G},K.ok G->∀q,(K.d1 q G).live=true<->q∈K.au
 | .nil,_,_,q=>by simp[ax.d1,ax.live,ax.au]
 | .node b j g ae ag J E,G,h,q=>by
  have o:=rk G;have aa:=h.2.2.1.has q;have ab:=h.2.2.2.has q;have W:∀D,D∈J.au->D∈J.all:=λD O=>J.nK.subset O;have Y:∀D,D∈E.au->D∈E.all:=λD O=>E.nK.subset O;unfold ax.d1 ax.au
  by_cases Q:j=q
  ·subst Q;rw[if_pos p];have R:j∉J.au:=λC=>by have:=h.1.1 j (W j C);rw[o.hS]at this;trivial
   have U:j∉E.au:=λC=>by have:=h.1.2 j (Y j C);rw[o.hS]at this;trivial
   cases g<;>simp[ax.live,R,U]
  ·rw[if_neg Q];have Z:q∉(if g then[]else[j]):=by grind
   by_cases I:fy G q j=true
   ·rw[if_pos I,aa];have U:q∉E.au:=λC=>by have:=o.fx I (h.1.2 q (Y q C));rw[o.hS]at this;trivial
    simp_all
   ·rw[if_neg I,ab];have R:=λC=>I (h.1.1 q (W q C));simp_all
def ax.mark(q:I):Nat->ax->ax
 | _,.nil=> .nil
 |E,.node b j g G J D C=>if j=q then .node b j true G J D C else if fy E q j=true then .node b j g G J (D.mark q (E+1)) C else .node b j g G J D (C.mark q (E+1))
theorem ax.EO(q C)(j:ax):(j.mark q C).addr=j.addr:=by
 cases j with
 |nil=>rfl
 |node=>unfold ax.mark;split<;>(try split)<;>rfl
theorem ax.wZ(q):∀(j:ax)(C),(j.mark q C).all=j.all
 | .nil,_=>rfl
 | .node b I g G J E D,C=>by
  unfold ax.mark;split
  ·rfl
  ·split
   ·simp[ax.all,E.wZ q _]
   ·simp[ax.all,D.wZ q _]
theorem ax.sw(q)(j:ax)(C):(j.mark q C).bi=j.bi:=by rw[<- ax.tP,ax.wZ,ax.tP]
theorem ax.Mw(q C j D):kC C (j.mark q D)=kC C j:=by
 cases j with
 |nil=>rfl
 |node=>unfold ax.mark;split<;>(try split)<;>rfl
theorem ax.ok.mark{q}:∀{C:ax}{j},C.ok j->(C.mark q j).ok j
 | .nil,_,h=>h
 | .node b I g G J E D,j,h=>by
  have aa:=h.2.2.1.mark (q:=q);have ab:=h.2.2.2.mark (q:=q);unfold ax.mark;split
  ·exact h
  ·split
   ·refine⟨⟨by rw[ax.wZ];exact h.1.1,h.1.2⟩,⟨?_,?_,?_,?_⟩,aa,h.2.2.2⟩
    ·rw[ax.sw];exact h.2.1.1
    ·rw[ax.Mw];exact h.2.1.2.1
    ·rw[ax.sw];exact h.2.1.2.2.1
    ·rw[ax.sw];exact h.2.1.2.2.2
   ·refine⟨⟨h.1.1,by rw[ax.wZ];exact h.1.2⟩,⟨?_,?_,?_,?_⟩,h.2.2.1,ab⟩
    ·rw[ax.sw];exact h.2.1.1
    ·rw[ax.Mw];exact h.2.1.2.1
    ·rw[ax.sw];exact h.2.1.2.2.1
    ·rw[ax.sw];exact h.2.1.2.2.2
def ax.ok.EP:∀{J:ax}{I}{q},J.ok I->q∈J.au->(J.mark q I).au=J.au.erase q
 | .nil,_,_,_,R=>by rfl
 | .node b j g ag ak G E,I,q,h,R=>by
  have o:=rk I;have Z:∀D,D∈G.au->D∈G.all:=λD U=>G.nK.subset U;have ae:∀D,D∈E.au->D∈E.all:=λD U=>E.nK.subset U;unfold ax.mark
  by_cases W:j=q
  ·subst W;have O:j∉G.au:=λC=>by have:=h.1.1 j (Z j C);rw[o.hS]at this;trivial
   have Q:j∉E.au:=λC=>by have:=h.1.2 j (ae j C);rw[o.hS]at this;trivial
   rw[if_pos p];unfold ax.au at R ⊢;simp_all
  ·rw[if_neg W];have Y:q∈G.au++E.au:=by
    unfold ax.au at R;grind
   by_cases K:fy I q j=true
   ·rw[if_pos K];have Q:q∉E.au:=λC=>by have:=o.fx K (h.1.2 q (ae q C));rw[o.hS]at this;trivial
    have O:=(cT.1 Y).resolve_right Q;have:=h.2.2.1.EP O;simp[ax.au];grind
   ·rw[if_neg K];have O:=λC=>K (h.1.1 q (Z q C));have Q:=(cT.1 Y).resolve_left O;have:=h.2.2.2.EP Q;simp[ax.au];grind
def lY(C:b9)(j:I):Prop:=(C.cB<=j.x/\j.x<=C.cI)/\C.cC<=j.y/\j.y<=C.cx
def DZ{C b j}(h:lY C j\/lY b j):lY (yP C b) j:=by grind[lY,yP]
def DY{C j D}(h:lY C D):lY (kC C j) D:=by
 cases j with
 |nil=>exact h
 |node=>exact DZ (.inl h)
theorem ax.ok.lY:∀{C:ax}{I:Nat},C.ok I->∀b K g J G E D,C=.node b K g J G E D->∀q∈C.all,lY G q
 | .nil,_,_,_,_,_,_,_,_,_,ae,_,_=>by grind
 | .node b K g J G E D,I,h,_,_,_,_,_,_,_,rfl,q,j=>by
  rw[h.2.1.2.1];rcases cQ.1 j with rfl|j
  ·exact DY (DY ⟨⟨x6 _,x6 _⟩,x6 _,x6 _⟩)
  ·rcases cT.1 j with j|j
   ·refine DY ?_;cases E with
    |nil=>trivial
    |node O Y Q W Z U R=>exact DZ (.inr (h.2.2.1.lY _ _ _ _ _ _ _ p q j))
   ·cases D with
    |nil=>trivial
    |node O Y Q W Z U R=>exact DZ (.inr (h.2.2.2.lY _ _ _ _ _ _ _ p q j))
def ax.run{j:Type}(step:j->I->Bool->b9->Bool×j):j->ax->j
 |s,.nil=>s
 |s,.node _ C g _ D G E=>if(step s C g D).1 then E.run step (G.run step (step s C g D).2)else(step s C g D).2
def ax.FQ{O step}{ok:O->Nat->Prop}(aa:∀s n D g E,ok s (n+1)->ok (step s D g E).2 n)(ab:∀s n j,ok s n->j<=n->ok s j):∀(G:ax)(s)(n),ok s (G.bi+n)->ok (G.run step s) n
 | .nil,s,n,h=>by simpa[ax.run,ax.bi]using h
 | .node b D g j E K J,s,n,h=>by
  unfold ax.run;have I:ok (step s D g E).2 (K.bi+(J.bi+n)):=aa _ _ _ _ _ (ab _ _ _ h (by simp[ax.bi];omega));split
  ·exact J.FQ aa ab _ _ (K.FQ aa ab _ _ I)
  ·exact ab _ _ _ I C
def u0(l:List I)(j:I)(g:Bool)(_:b9):Bool×List I:=(true,if g then l else l++[j])
theorem ax.FR:∀(j:ax)(l),j.run u0 l=l++j.au
 | .nil,l=>by simp[ax.run,ax.au]
 | .node b G g E I D C,l=>by
  unfold ax.run;simp[u0];rw[D.FR,C.FR];cases g<;>simp[ax.au]
def dI(b:b9)(j:I):Bool:=b.has j.x j.y
def f4(j b:b9):Bool:=(decide (j.cB<=j.cI)&&decide (j.cC<=j.cx))&&((decide (b.cB<=b.cI)&&decide (b.cC<=b.cx))&&(decide (max j.cB b.cB<=min j.cI b.cI)&&decide (max j.cC b.cC<=min j.cx b.cx)))
def WW{b C j}(h:f4 b C=false)(D:lY C j):dI b j=false:=by
 unfold f4 at h;unfold lY at D;unfold dI b9.has j1;grind
@[reducible] def gd (D:I) (g:Bool) (G E:bA) (J:Nat) (C:b9):List Value:=[j D.id,j D.x,j D.y,.bool g,.pointer G,.pointer E,j (J:Nat),j C.cB,j C.cI,j C.cC,j C.cx]
def di:ax->aO
 | .nil=>λ_=>True
 | .node b E g D I C j=>λh=>G [ae b 392 (gd E g C.addr j.addr D I),di C,di j] h
def ck(j:aG):ax->Prop
 | .nil=>True
 | .node b G g E I D C=>aB j b 0 11 (gd G g D.addr C.addr E I)/\ck j D/\ck j C
def _root_.Go.Proofs.YtioamnghkmcbbaaGreat.aB.of{j N D b o n C}(E:∀h,j h->G N h)(l:aB N b o n C):aB (j::D) b o n C:=⟨l.1,λJ v I=>(l.2 J v I).of E⟩
def ck.mono{L M}(f:∀h,G M h->G L h):∀{j},ck L j->ck M j
 | .nil,_=>trivial
 | .node b I g E j D C,h=>⟨h.1.mono f,h.2.1.mono f,h.2.2.mono f⟩
theorem ck.skip{D j C}(h:ck j C):ck (D::j) C:=h.mono λ_ s=>s.tail
def ck.of{C N D}(f:∀h,C h->G N h):∀{j},ck N j->ck (C::D) j
 | .nil,_=>trivial
 | .node b K g J j I E,h=>⟨h.1.of f,h.2.1.of f,h.2.2.of f⟩
def hh:∀(j)(E),ck (di j::E) j
 | .nil,_=>trivial
 | .node b I g G j D C,E=>ck.of (N:=[ae b 392 (gd I g D.addr C.addr G j),di D,di C]) (λ_ h=>h) ⟨aB.ae p,(hh D _).skip,(hh C []).skip.skip⟩
section
variable{P:Program}{B:Exit->Act->World->Prop}{aa0:c0}{n:Nat}{aK:List eU}{J:bW}{L M:aG}{b:Nat}{ag:I}{g:Bool}{m:Nat}{x:b9}{lo hi:ax}
def D.Vx{j args post}(W:D P j args (ae b 392 (gd ag g lo.addr hi.addr m x)::di lo::di hi::L) post):D P j args (di (.node b ag g m x lo hi)::L) post:=
 D.open (ι:=Unit) (E:=λ_=>True) (J:=λ_=>[ae b 392 (gd ag g lo.addr hi.addr m x),di lo,di hi]) (λ_ h=>⟨(),trivial,h⟩) λ_ _=>W
def wt(j:∀h,G L h->G (ae b 392 (gd ag g lo.addr hi.addr m x)::di lo::di hi::M) h):∀h,G L h->G (di (.node b ag g m x lo hi)::M) h:=λh s=>
 G.fold (N:=[ae b 392 (gd ag g lo.addr hi.addr m x),di lo,di hi]) (λ_ h=>h) (j h s)
def Dr(j:∀h,G L h->G M h):∀h,G L h->G (di .nil::M) h:=λh s=>
 ⟨λ_=>none,h,λ_=> .inl p,λ_ _ C=>(by grind),d7.refl _,trivial,j h s⟩
end
structure QG (C:aG) (b:Nat) (D:I) (g:Bool) (K:Nat) (E:b9) (J G:ax):Prop where
 KG:aB C b (0+0) 3 [j D.id,j D.x,j D.y]
 aaN:aR C ⟨b,0+3,none⟩ (.bool g)
 KF:aR C ⟨b,0+4+0*1,none⟩ (.pointer J.addr)
 KE:aR C ⟨b,0+4+1*1,none⟩ (.pointer G.addr)
 aaP:aB C b (0+4) 2 [.pointer J.addr,.pointer G.addr]
 aaQ:aR C ⟨b,0+6,none⟩ (j (K:Nat))
 aaY:aB C b (0+7) 4 [j E.cB,j E.cI,j E.cC,j E.cx]
 aaO:aR C ⟨b,0+0+0,none⟩ (j D.id)
 Uw:ck C J
 Uv:ck C G
def pM{D b o n G E I C}(h:aB D b o n I)(K:C.length=E)(O:∀(j)(v),C[j]?=some v->I[G+j]?=some v):aB D b (o+G) E C:=⟨K,λj v J=>by
 have:=h.2 _ v (O j v J);rwa[<- Nat.add_assoc]at this⟩
theorem ck.f{j b J g I K G C}(h:ck j (.node b J g I K G C)):QG j b J g I K G C:=
 ⟨pM h.1 p (λE v D=>by grind),h.1.at_ (i:=3) p,h.1.at_ (i:=4) p,h.1.at_ (i:=5) p,
  pM h.1 p (λE v D=>by grind),h.1.at_ (i:=6) p,
  pM h.1 p (λE v D=>by grind),h.1.at_ (i:=0) p,h.2.1,h.2.2⟩
end eO
namespace eO
attribute [local irreducible] G bf cc
def Ei(C G)(h:ck G C):D E 224 #[.pointer C.addr] G λv I=>v=j (C.size:Nat)/\I=G:=by
 cases C with
 |nil=>
  refine ap λg F=> ?_;refine af ?_;refine aj p (.tmp p .nil) az ⟨rfl,rfl⟩
 |node b Q g O al K J=>
  obtain⟨aH,aP,U,W,Y,Z,ae,ag,ak,R⟩:=h.f;refine ap λg F=> ?_;refine af ?_;refine aj p (.tmp p .nil) az ⟨rfl,rfl⟩
def Vv(n C)(J:n<=9223372036854775807):D E 302 #[j (n:Nat)] C λv G=>v=j (c9 n:Nat)/\G=C:=by
 refine ap λg F=> ?_
 (first|refine aD _ ?_|refine aD (hQ p p ah ah ah) ?_)
 iterate 2 refine ad ?_
 refine aD (zK rfl p Q) ?_;refine ad ?_
 (first|refine aD _ ?_|refine aD (hQ p p ah ah ah) ?_)
 iterate 2 refine ad ?_
 refine af ?_;refine aj (C:=C) p (.tmp p .nil) az ⟨?_,rfl⟩;show Value.int .i64 _= _
 congr 1
 have I:n/4*3+n % 4*3/4=c9 n:=by unfold c9;omega
 exact_mod_cast I
def rS(j:Nat):FuncId:=if j % 2=0 then 306 else 480
instance(j:Nat):b4 E (rS j):=by
 unfold rS;split
 ·infer_instance
 ·infer_instance
def RF(j q C):D E 480 #[j.v,q.v] C λv G=>v=.bool (fr j q)/\G=C:=by
 refine ap λg F=> ?_;refine aU λI=> ?_;refine aS λJ=> ?_;refine a9 (GL j q _) ?_;refine af ?_;refine aj p (.tmp p .nil) az ⟨rfl,rfl⟩
def IZ(j):k6 (rS j) (fy j):=⟨λD q C=>by
 unfold rS fy
 by_cases h:j % 2=0
 ·rw[if_pos h,if_pos h];exact pO D q C
 ·rw[if_neg h,if_neg h];exact RF D q C⟩
def IY(G I)(O:G<=9223372036854775807):D E 405 #[j (G:Nat)] I λv J=>v=.func (.func (rS G)) #[] #[]/\J=I:=by
 unfold rS;refine bH λg F=> ?_;refine aJ ?_;refine ad ?_;refine aL ?_
 by_cases h:G % 2=0
 ·rw[if_pos h];refine K ?_;refine aD (zK (q:=2) p p Q) ?_;refine ad ?_;refine af ?_;refine cD p (decide_eq_true C) ?_;exact dq
 ·rw[if_neg h];refine K ?_;refine aD (zK (q:=2) p p Q) ?_;refine ad ?_;refine af ?_;refine b2 p (decide_eq_false C) ?_;exact dq
def p7(b I q G J)(h:aB J b (0+0) 3 [j I.id,j I.x,j I.y])(Y:G<=1000000):D E 301 #[R b,q.v,j (G:Nat)] J λv K=>v=j (if fy G q I=true then 0 else 1)/\K=J:=by
 have Q:=(IZ G).mt q I;generalize fy G q I=U at*
 refine ap λg F=> ?_;refine aS λW=> ?_;refine aL ?_;refine aW (aE [0,2,3,4,5,6] (.e 1 (.e 7 .nil))) ?_;iterate 6 refine ai ?_
 refine cU p p (IY G _ C) ?_;refine an (cj O p p p (eV p p (Q _)) ?_);rintro _ _ ⟨rfl,rfl⟩
 all_goals
  cases U with
  |true=>
   exact dq
  |false=>
   exact dq
def P2(C:I)(J Y G)(h:Rd G J 1 [C])(ao:1<=Y):D E 403 #[.slice J 1 Y] G λv ak=>v=.tuple #[C.cz.v,.bool true]/\ak=G:=by
 obtain⟨am,ar,rfl,al⟩:=h.at_ Q;have y:=al 0 C p;have Z:=y.at_ (i:=1) p;have ag:=y.at_ (i:=2) p;refine ap λg F=> ?_;refine aS λU=> ?_;refine aW (aE [0,1,2,3,4,5,6,7,8,9,10,11,12,13,14,15,16] (.e 17 (.e 18 .nil))) ?_;iterate 3 refine ai ?_
 refine cV p (d6 p (by repeat' first|exact Z|apply aR.skip)) ?_;iterate 3 refine ai ?_
 refine cV p (d6 p (by repeat' first|exact Z|apply aR.skip)) ?_;iterate 3 refine ai ?_
 refine cV p (d6 p (by repeat' first|exact ag|apply aR.skip)) ?_;iterate 3 refine ai ?_
 refine cV p (d6 p (by repeat' first|exact ag|apply aR.skip)) ?_;refine ai ?_;refine hu λW=> ?_;refine an (cj O p p p (f1 p p p p cd) ?_);rintro _ _ ⟨rfl,rfl⟩
 all_goals
  refine K ?_;refine aD (ga p p ah ah) ?_;iterate 2 refine ad ?_
  refine af ?_;refine cJ (ι:=Unit) (λ_=>[(2,R U),(4,R W),(30,j 0),(31,j 0)]) (λ_=>ae W 23 [j C.x,j C.x,j C.y,j C.y]::ae U 23 [j 0,j 0,j 0,j 0]::F::G) (λ_=>True) (λ_=>0) () trivial a8 aq ?_;rintro _-;refine K ?_;refine af ?_;refine aj p (.cell p (c7 bS) (.tmp p .nil)) az ⟨rfl,rfl⟩
def rh(b:b9):Bool:=decide (b.cB<=b.cI)&&decide (b.cC<=b.cx)
def At(j b:b9):b9:=⟨max j.cB b.cB,min j.cI b.cI,max j.cC b.cC,min j.cx b.cx⟩
theorem Wq(j b):f4 j b=(rh j&&(rh b&&rh (At j b))):=rfl
def Gp(b j):D E 721 #[b.v] j λv C=>v=.bool (rh b)/\C=j:=by
 unfold rh;refine ap λg F=> ?_;refine aU λG=> ?_;refine ad ?_;refine aL ?_
 by_cases aa:b.cB<=b.cI
 ·refine aF ?_;refine cv ?_;iterate 6 refine ad ?_
  refine dE 8 p (decide_eq_true aa) ?_;refine bI ?_;exact⟨by simp[bG,aa],rfl⟩
 ·refine aF ?_;refine cv ?_;iterate 6 refine ad ?_
  refine dE 8 p (decide_eq_false aa) ?_;refine bI ?_;exact⟨by simp[bG,aa],rfl⟩
def QS(j b C):D E 718 #[j.v,b.v] C λv J=>∃O:b9,v=.tuple #[O.v,.bool (f4 j b)]/\J=C:=by
 rw[Wq];have G:=Gp j;have I:=Gp b;have W:=Gp (At j b);generalize rh j=Q at*
 generalize rh b=R at*
 generalize rh (At j b)=U at*
 refine ap λg F=> ?_;refine aU λY=> ?_;refine aU λZ=> ?_;refine aS λae=> ?_;refine aU λag=> ?_;refine cF ?_;refine aL ?_;cases Q with
 |false=>
  refine K ?_;refine bw p (G _) ?_;refine aD (cL p) ?_;refine K ?_;refine af ?_;exact aj (C:=C) p (.cell p (c7 bS) (.tmp p .nil)) az ⟨⟨0,0,0,0⟩,rfl,rfl⟩
 |true=>
  cases R with
  |false=>
   refine K ?_;refine bw p (G _) ?_;refine aD (cL p) ?_;iterate 2 refine ad ?_
   refine br p p p p ?_;refine bw p (I _) ?_;refine br p p p p ?_;refine aD (cL p) ?_;refine K ?_;refine af ?_;exact aj (C:=C) p (.cell p (c7 bS) (.tmp p .nil)) az ⟨⟨0,0,0,0⟩,rfl,rfl⟩
  |true=>
   refine K ?_;refine bw p (G _) ?_;refine aD (cL p) ?_;iterate 2 refine ad ?_
   refine br p p p p ?_;refine bw p (I _) ?_;refine br p p p p ?_;refine aD (cL p) ?_;iterate 3 refine ad ?_
   refine br p p p p ?_;refine bw p (W _) ?_;refine br p p p p ?_;refine aD (cL p) ?_;refine ad ?_;refine aL ?_;cases U with
   |false=>
    refine K ?_;refine af ?_;exact aj (C:=C) p (.cell p (c7 bS) (.tmp p .nil)) az ⟨⟨0,0,0,0⟩,rfl,rfl⟩
   |true=>
    refine K ?_;refine af ?_;exact aj (C:=C) p (.cell p (c7 bS) (.tmp p .nil)) az ⟨At j b,rfl,rfl⟩
def RP(C b j):D E 404 #[C.v,b.v] j λv G=>v=(yP C b).v/\G=j:=by
 refine ap λg F=> ?_;refine aU λI=> ?_;refine aU λJ=> ?_;refine aS λK=> ?_;refine af ?_;refine aj p (.cell p (c7 bS) .nil) az ⟨rfl,rfl⟩
def qS(C j:ax):Nat->ax
 |0=>C
 | _=>j
def uU(j C:ax):Nat->Nat
 |0=>1
 |1=>1+j.size
 | _=>1+j.size+C.size
def Ax(j:I)(C D:ax):Nat->b9
 |0=>j.cz
 |1=>kC j.cz C
 | _=>kC (kC j.cz C) D
def WF(D C){j}(h:j<2):uU D C (j+1)=uU D C j+(qS D C j).size:=by rcases(by omega:j=0\/j=1)with rfl|rfl<;>rfl
def WH(E D C){j}(h:j<2):Ax E D C (j+1)=kC (Ax E D C j) (qS D C j):=by rcases(by omega:j=0\/j=1)with rfl|rfl<;>rfl
def jW(b I Y av aw lo hi J)(aa:ck J lo)(ab:ck J hi)(a7:lo.size<=100000)(ba:hi.size<=100000):
  D E 298 #[R b] (ae b 392 (gd I Y lo.addr hi.addr av aw)::J) λv am=>v=(R b)/\am=ae b 392 (gd I Y lo.addr hi.addr (1+lo.size+hi.size) (kC (kC I.cz lo) hi))::J:=by
 refine ap λg F=> ?_;refine aU λaG=> ?_;refine a9 (P2 I _ 1 _ (aM.ae p) bs) ?_;refine af ?_;refine cJ (ι:=Nat) (λG=>[(0,R b),(23,.agg #[.pointer lo.addr,.pointer hi.addr]),(24,j (G:Nat))]) (λG=>ae b 392 (gd I Y lo.addr hi.addr (uU lo hi G) (Ax I lo hi G))::F::J) (λG=>G<=2) (λG=>2-G) 0 Q a8 aq ?_;rintro G aO;have au:G<2->([.pointer lo.addr,.pointer hi.addr]:cs)[G*1]?=some (.pointer (qS lo hi G).addr):=λh=>by
  rcases(by omega:G=0\/G=1)with rfl|rfl<;>rfl
 have ak:ck J (qS lo hi G):=by
  unfold qS;split
  ·exact aa
  ·exact ab
 have al:(qS lo hi G).size<=100000:=by
  grind[qS]
 have aQ:uU lo hi G<=300000:=by
  unfold uU;grind
 refine aJ ?_
 (first|refine aD (nt (q:=2) p p) ?_|refine aD (py p p) ?_)
 refine af ?_;refine cp p (λar=> ?_) (λar=> ?_)
 ·have U:G<2:=C;have W:=WF lo hi U;have Z:=WH I lo hi U;have ag:=au U;generalize qS lo hi G=ao at W Z ag ak al;generalize uU lo hi G=aX at*
  generalize Ax I lo hi G=aA at*
  refine aJ ?_;refine aD (zG (C:=[.pointer lo.addr,.pointer hi.addr]) (j:=G) p p C ag) ?_;refine ad ?_;refine aL ?_;cases ao with
  |nil=>
   refine K ?_;refine af ?_;refine bM (G+1) C C a8 ?_;rw[W,Z];exact az
  |node aC aY aI aV ay aS aK=>
   obtain⟨aH,aP,a0,a1,a2,a3,a4,a5,a6,aZ⟩:=ak.f;simp[ax.size]at al W;refine K ?_;refine aW (aE [0,1,2,3,4,5,6,7,8,9,10] (.e 11 .nil)) ?_;iterate 11 refine ai ?_
   refine an (cj O p p p (c5 p p p cd) ?_);rintro _ _ ⟨rfl,rfl⟩;refine aW (aE [0,1,2,3,4,5,6,7,8] (.e 9 (.q 10 (.q 11 (.e 12 .nil))))) ?_;iterate 9 refine ai ?_
   refine cU p p (RP aA ay _) ?_;iterate 2 refine ai ?_
   refine an (cj O p p p (f1 p p p p cd) ?_);rintro _ _ ⟨rfl,rfl⟩;refine K ?_;refine af ?_;refine bM (G+1) C C a8 ?_;rw[W,Z];exact aq
 ·have U:G=2:=C;subst U;refine K ?_;refine af ?_;exact aj (C:=ae b 392 (gd I Y lo.addr hi.addr (1+lo.size+hi.size) (kC (kC I.cz lo) hi))::J) p (.tmp p .nil) aq ⟨rfl,rfl⟩
def uA(b Q O j Y J I G)(h:ck G (.node b Q O j Y J I))(Z:j<=1000000):
  D E 448 #[R b] G λv K=>v=.bool (decide (c9 j<max J.size I.size))/\K=G:=by
 obtain⟨aH,aP,ae,ag,ak,al,am,ao,W,U⟩:=h.f;refine ap λg F=> ?_;refine aL ?_;refine aW (aE [0,1,2,3,4,6,7,8,9,10,13,14,15,16] (.e 5 (.e 11 (.q 12 (.e 17 (.q 18 (.q 19 .nil))))))) ?_;iterate 3 refine ai ?_
 refine dd p (dV p p ah ah) ?_;iterate 4 refine ai ?_
 refine dd p (dV p p ah ah) ?_;iterate 5 refine ai ?_
 refine cU p p (Ei J _ W.skip) ?_;refine cU p p (Ei I _ U.skip) ?_;refine ai ?_;refine cU p p (Vv j _ C) ?_;refine bI ?_;exact⟨congrArg Value.bool (decide_eq_decide.2 C),rfl⟩
def Ea{ae:Type}{ao:FuncId}{aE aI:cs}[b4 E ao](U:ae->aO)(J:aG)(step:ae->I->Bool->b9->Bool×ae)(W:ae->Nat->Prop)(ag:I->Prop)
  (al:∀s n j C G,W s (n+1)->W (step s j C G).2 n) (ay:∀s n Y,W s n->Y<=n->W s Y)
  (ar:∀s n b j C Y G Q O,W s (n+1)->ag j->ck J (.node b j C Y G Q O)->D E ao (aE++[R b]++aI).toArray (U s::J) λv am=>v=.bool (step s j C G).1/\am=U (step s j C G).2::J):
  ∀(Z:ax) (s:ae) (n:Nat),W s (Z.bi+n)->(∀j∈Z.all,ag j)->ck J Z->D E 299 #[.pointer Z.addr,.func (.func ao) aE.toArray aI.toArray] (U s::J) λv am=>v=.tuple #[]/\am=U (Z.run step s)::J
 | .nil,s,n,aK,ak,au=>by
  refine ap λg F=> ?_;refine aF ?_;exact aj (D:=[]) (j:=[]) (C:=U s::J) p .nil az ⟨rfl,rfl⟩
 | .node b j C Y G Q O,s,n,aK,ak,au=>by
  obtain⟨aH,aP,a3,a4,a5,a6,a7,a8,a1,a0⟩:=au.f;simp only[ax.bi]at aK;have a2:=al s (Q.bi+O.bi+n) j C G (by grind);have aW:=ar s (Q.bi+O.bi+n) b j C Y G Q O (by grind) (ak j (by simp[ax.all])) au;have aX:=Ea U J step W ag al ay ar Q (step s j C G).2 (O.bi+n) (by grind) (λaA av=>ak aA (by simp[ax.all,av])) a1;have aZ:=Q.FQ al ay (step s j C G).2 (O.bi+n) (by grind);have aY:=Ea U J step W ag al ay ar O (Q.run step (step s j C G).2) n aZ (λaA av=>ak aA (by simp[ax.all,av])) a0;have aV:ax.run step s (.node b j C Y G Q O)=if(step s j C G).1 then O.run step (Q.run step (step s j C G).2)else(step s j C G).2:=rfl;rw[aV];generalize(step s j C G).1=aS at*
  generalize(step s j C G).2=aQ at*
  refine ap λg F=> ?_;refine br p p p p ?_;refine GE (eV p p (D.frame [F] aW (λ_ s=>s))) ?_;rintro _ _ ⟨aC,⟨rfl,rfl⟩,rfl⟩;refine br p p p p ?_;refine aD (cL p) ?_;refine ad ?_;refine aL ?_;cases aS with
  |false=>
   refine jJ ?_;refine aF ?_;exact aj (D:=[]) (j:=[]) (C:=U aQ::J) p .nil az ⟨rfl,rfl⟩
  |true=>
   refine K ?_;refine aD (dV p p ah ah) ?_;iterate 2 refine ad ?_
   refine GE (aw p (D.frame [F] aX (λ_ s=>s))) ?_;rintro _ _ ⟨aC,⟨rfl,rfl⟩,rfl⟩;refine K ?_;refine aD (dV p p ah ah) ?_;iterate 2 refine ad ?_
   refine GE (aw p (D.frame [F] aY (λ_ s=>s))) ?_;rintro _ _ ⟨aC,⟨rfl,rfl⟩,rfl⟩;refine af ?_;exact e6 (D:=[]) (j:=[]) (C:=U (O.run step (Q.run step aQ))::J) p .nil az ⟨rfl,rfl⟩
def nJ(D:Nat)(l:List I):aO:=λh=>∃C j,((0<l.length->∃b,C=(ak b))/\l.length<=j/\j<=maxLen)/\G [own 43 3 C l.length j (flat l),ae D 38 [.slice C l.length j]] h
def Iw{K G O n I Q J E l}(h:∀D C,((0<l.length->∃b,D=(ak b))/\l.length<=C/\C<=maxLen)->bc K G O n I Q (own 43 3 D l.length C (flat l)::ae E 38 [.slice D l.length C]::J)):bc K G O n I Q (nJ E l::J):=
 qp (ι:=Option Addr×Nat) (F:=λj=>(0<l.length->∃b,j.1=(ak b))/\l.length<=j.2/\j.2<=maxLen) (D:=λj=>[own 43 3 j.1 l.length j.2 (flat l),ae E 38 [.slice j.1 l.length j.2]]) (λ_ ⟨D,C,R,W⟩=>⟨(D,C),R,W⟩) λj U=>h j.1 j.2 U
def Ds{D M I n l E C j}(U:l.length=n)(W:flat l=E)(K:0<n->∃b,C=(ak b))(O:n<=j)(Q:j<=maxLen)(J:∀h,G D h->G (own 43 3 C n j E::ae I 38 [.slice C n j]::M) h):∀h,G D h->G (nJ I l::M) h:=λh s=>by
 subst U W;exact G.fold (λ_ R=>⟨C,j,⟨K,O,Q⟩,R⟩) (J h s)
def uZ(l:List I)(n:Nat):Prop:=l.length+n<=500000
def Vw(C l n b G I av J au al j)(ar:uZ l (n+1))(am:ck j (.node b G I av J au al)):
  D E 303 #[R b,R C] (nJ C l::j) λv W=>v=.bool (u0 l G I J).1/\W=nJ C (u0 l G I J).2::j:=by
 unfold uZ at ar;obtain⟨aH,aP,aC,aG,aK,aO,aQ,aS,aV,aA⟩:=am.f;refine bH λg F=> ?_;refine aJ ?_;refine ad ?_;refine aL ?_;refine b5 (j:=nJ C l::F::j) aq ?_;refine Iw ?_;rintro aw ay ⟨Z,ae,ag⟩;refine aJ ?_;iterate 4 refine ad ?_
 refine aD (cL p) ?_;refine aL ?_;cases I with
 |true=>
  refine K ?_;refine af ?_;exact aj (C:=nJ C l::j) p (.tmp p .nil) (by(repeat first|exact bo|refine Ds p p Z ae ag ?_|refine b7 ?_)<;>fail) ⟨rfl,rfl⟩
 |false=>
  refine jJ ?_;refine aW (aE [0,1,2,3,4] (.e 5 (.e 6 (.e 7 .nil)))) ?_;iterate 5 refine ai ?_
  refine hu λax=> ?_;refine an (dh O p p p (bx p p aI cn (cS p) aZ Q ah ah) ?_);rintro _ _ ⟨U,Y,rfl,ak,ao,ap,rfl⟩;refine an (cj O p p p (c5 p p p cd) ?_);rintro _ _ ⟨rfl,rfl⟩;refine K ?_;refine af ?_;exact aj (C:=nJ C (l++[G])::j) p (.tmp p .nil) (by(repeat first|exact bo|refine Ds (C:=U) (j:=Y) (n:=l.length+1) (E:=flat l++flat [G]) Q (by simp[flat]) ap ak ao ?_|refine b7 ?_)<;>fail) ⟨rfl,rfl⟩
def Eg(j C)(av:ck C j)(ay:j.bi<=400000):
  D E 228 #[.pointer j.addr] C λv ae=>∃I G,v=.slice I j.au.length G/\((0<j.au.length->∃b,I=(ak b))/\j.au.length<=G/\G<=maxLen)/\ae=own 43 3 I j.au.length G (flat j.au)::C:=by
 have U:=j.FR [];rw[List.nil_append]at U;refine ap λg F=> ?_;refine aU λJ=> ?_;refine aL ?_;refine b5 (own.nil_ 43 3) ?_;refine b5 (j:=nJ J []::F::C) (by(repeat first|exact bo|refine Ds (C:=none) rfl p (λh=>absurd h (dc 0)) (bv 0) (bu _) ?_|refine b7 ?_)<;>fail) ?_;have Q:=Ea (ao:=303) (aE:=[]) (aI:=[R J]) (nJ J) (F::C) u0 uZ (λ_=>True) (λs n Y O Z h=>by grind[uZ,u0]) (λs n W h ax=>by unfold uZ at*;omega)
  (λs n b Y O W Z aw ao h _ ar=>Vw J s n b Y O W Z aw ao (F::C) h ar) j [] 0 (by unfold uZ;grind) (λ_ _=>trivial) av.skip
 rw[U]at Q;refine K ?_;refine bw p (Q) ?_;refine aL ?_;refine Iw ?_;rintro I G ⟨ag,al,am⟩;refine K ?_;refine af ?_;exact aj (C:=own 43 3 I j.au.length G (flat j.au)::C) p (.tmp p .nil) aq ⟨I,G,rfl,⟨ag,al,am⟩,rfl⟩
theorem ck.d1{j q}:∀{C}{D},ck j C->ck j (C.d1 q D)
 | .nil,_,_=>trivial
 | .node b K E J O I G,D,h=>by
  unfold ax.d1;split
  ·exact h
  ·split
   ·exact ck.d1 h.2.1
   ·exact ck.d1 h.2.2
theorem ax.T8{b C q E I J D G j}(aa:C≠q)(ab:fy j q C=true):ax.d1 q j (.node b C E I J D G)=D.d1 q (j+1):=by
 conv=>lhs;unfold ax.d1
 simp_all
theorem ax.T7{b C q E I J G D j}(aa:C≠q)(ab:fy j q C=false):ax.d1 q j (.node b C E I J G D)=D.d1 q (j+1):=by
 conv=>lhs;unfold ax.d1
 simp_all
def L0(am I q O)(h:aR O ⟨am,0+0,none⟩ (.pointer I.addr))(aA:ck O I)(aL:I.depth<=500000):
  D E 370 #[R am,q.v] O λv ao=>v=.pointer (I.d1 q 0).addr/\ao=O:=by
 refine ap λg F=> ?_;refine aS λZ=> ?_;refine af ?_;refine cJ (ι:=ax×Nat) (λG=>[(3,R Z),(5,.pointer G.1.addr),(6,j (G.2:Nat))]) (λ_=>ae Z 43 [j q.id,j q.x,j q.y]::F::O) (λG=>G.1.d1 q G.2=I.d1 q 0/\ck O G.1/\G.2+G.1.depth<=500000) (λG=>G.1.depth) (I,0) ⟨rfl,aA,by simp_all⟩ a8 aq ?_;rintro⟨ar,Y⟩ ⟨ak,au,av⟩;cases ar with
 |nil=>
  rw[<- ak];refine aW (aE [0,1,2,3,4,5,6,7,8] (.q 9 .nil)) ?_;exact dq
 |node b J ay aC aK U Q=>
  obtain⟨aH,aP,aQ,aV,aX,aY,aZ,a0,aI,aG⟩:=au.f;simp only[ax.depth]at av;refine aW (aE [0,1,2,3,4,5,6,7,8] (.q 9 .nil)) ?_;iterate 8 refine ai ?_
  refine b0 aT p p p p ⟨_,rfl,rfl⟩ p (zJ p p p p p p) ?_;refine K ?_
  all_goals
   refine aF ?_;refine cp p (λaa=> ?_) (λaa=> ?_)
   ·have aO:J≠q:=λag=>aa (by grind);have W:=p7 b J q Y;cases al:fy Y q J with
    |true=>
     rw[al]at W;refine aW (aE [0,1,2,3,5,6] (.e 4 (.q 7 (.q 8 (.q 9 .nil))))) ?_;iterate 6 refine ai ?_
     refine cU p p (W _ aH.skip.skip C) ?_;refine dd p (dV p p ah ah) ?_;iterate 2 refine ai ?_
     refine dl ?_
     all_goals
      refine K ?_;refine af ?_;refine bM (U,Y+1) ⟨?_,aI,?_⟩ ?_ a8 aq
      ·simp_all[ax.T8]
      ·grind
      ·show U.depth<max U.depth Q.depth+1;omega
    |false=>
     rw[al]at W;refine aW (aE [0,1,2,3,5,6] (.e 4 (.q 7 (.q 8 (.q 9 .nil))))) ?_;iterate 6 refine ai ?_
     refine cU p p (W _ aH.skip.skip C) ?_;refine dd p (dV p p ah ah) ?_;iterate 2 refine ai ?_
     refine dl ?_
     all_goals
      refine K ?_;refine af ?_;refine bM (Q,Y+1) ⟨?_,aG,?_⟩ ?_ a8 aq
      ·simp_all[ax.T7]
      ·grind
      ·show Q.depth<max U.depth Q.depth+1;omega
   ·have ag:J=q:=by
     have ab:=PW aa;cases J;simp_all
    subst ag;have aw:I.d1 J 0=.node b J ay aC aK U Q:=by
     rw[<- ak];unfold ax.d1;simp
    rw[aw];exact dq
def L1(G j q C)(h:aR C ⟨G,0+0,none⟩ (.pointer j.addr))(I:ck C j)(Q:j.depth<=500000)(Y:j.ok 0):
  D E 367 #[R G,q.v] C λv K=>v=.bool (decide (q∈j.au))/\K=C:=by
 have O:decide (q∈j.au)=(j.d1 q 0).live:=by
  have:=Y.has q;grind
 have U:=λM aa ab=>L0 G j q M aa ab Q;have W:ck C (j.d1 q 0):=I.d1;rw[O];generalize j.d1 q 0=J at*
 refine ap λg F=> ?_;refine aS λZ=> ?_;refine bw p (U _ h.skip.skip I.skip.skip) ?_;refine ad ?_;refine aL ?_;cases J with
 |nil=>
  exact dq
 |node b am ae al aE ak ag=>
  obtain⟨aH,aP,ar,av,aw,ax,ay,aA,aC,ao⟩:=W.f;refine aJ ?_;iterate 7 refine ad ?_
  refine br p p p p ?_;refine aD (cL p) ?_;exact dq
def ids(C:b9)(j:ax):List Int:=bj ((j.au.filter (dI C)).map (·.id))
def Vy(G)(C:ax)(j)(h:aR j ⟨G,0+0,none⟩ (.pointer C.addr)):D E 576 #[R G] j λv I=>v=.pointer C.addr/\I=j:=by
 refine bH λg F=> ?_;refine aJ ?_;refine ad ?_;refine bD ?_;iterate 2 refine ad ?_
 refine dG ?_;refine aJ ?_;iterate 3 refine ad ?_
 refine aD (d6 p (by repeat' first|exact h|apply aR.skip)) ?_;exact dq
def U8(G)(C:ax)(j)(h:aR j ⟨G,0+0,none⟩ (.pointer C.addr)):D E 524 #[R G] j λv I=>v=.pointer C.addr/\I=j:=by
 refine ap λg F=> ?_;refine a9 (Vy G C _ (by repeat' first|exact h|apply aR.skip)) ?_;refine af ?_;refine aj p (.tmp p .nil) az ⟨rfl,rfl⟩
def oc:Nat->Nat->Nat
 |0,_=>0
 |f+1,n=>if n<1 then 0 else oc f (3*n/4)+1
def CW(n:Nat):Nat:=oc n n
def Se(n:Nat):Nat:=if n<1 then 0 else CW n+1
end eO
namespace eO
@[reducible] def ff (G:bA) (D E:Int) (C:Nat):List Value:=[.pointer G,j D,j E,j (C:Nat)]
structure mg (j:ax) (v:Nat) (l:List I) (C:Nat):Prop where
 ok:j.ok 0
 au:j.au.Perm l
 bi:j.bi<=C
 hz:j.bi-l.length<=(j.bi+1)/2
 lN:v<=3000000*C
def j0(E:Nat)(D:Int)(l:List I)(C:Nat):aO:=λh=>∃j:ax×Nat,mg j.1 j.2 l C/\G [di j.1,ae E 255 (ff j.1.addr (l.length:Nat) D j.2)] h
theorem D.dK{K O args J I G l E post}(W:∀C v,mg C v l E->D K O args (di C::ae I 255 (ff C.addr (l.length:Nat) G v)::J) post):D K O args (j0 I G l E::J) post:=
 D.open (ι:=ax×Nat) (E:=λj=>mg j.1 j.2 l E) (J:=λj=>[di j.1,ae I 255 (ff j.1.addr (l.length:Nat) G j.2)]) (λ_ h=>h) λj Q=>W j.1 j.2 Q
def Z0{I E l D M C}(h:G (j0 I E l D::M) C):∃j v,mg j v l D/\G (di j::ae I 255 (ff j.addr (l.length:Nat) E v)::M) C:=by
 obtain⟨aa,ab,K,Q,R,⟨J,g,q⟩,U⟩:=h;exact⟨J.1,J.2,g,G.head (λ_ O=>O▸q) ⟨aa,ab,K,Q,R,rfl,U⟩⟩
def um{C M I E l D j v}(g:mg j v l D)(J:∀h,G C h->G (di j::ae I 255 (ff j.addr (l.length:Nat) E v)::M) h):∀h,G C h->G (j0 I E l D::M) h:=λh s=>
 G.fold (N:=[_,_]) (λh q=>⟨(j,v),g,q⟩) (J h s)
def Kh{C M I E l D n j v}(K:l.length=n)(g:mg j v l D)(J:∀h,G C h->G (di j::ae I 255 (ff j.addr (n:Nat) E v)::M) h):∀h,G C h->G (j0 I E l D::M) h:=by subst K;exact um g J
theorem mg.jd{j v k C l D}(g:mg j v l k)(E:l.Perm D)(h:k<=C):mg j v D C:=
 ⟨g.ok,g.au.trans E,h0 g.bi h,by rw[<- E.length_eq];exact g.hz,by have:=g.lN;omega⟩
end eO
namespace eO
attribute [local irreducible] G bf cc
@[reducible] def ax.mk (b:Nat) (D:I) (E:Bool) (C j:ax):ax:=.node b D E (1+C.size+j.size) (kC (kC D.cz C) j) C j
def ax.Fb{b E J C j D}(aa:C.ok (D+1))(ab:j.ok (D+1))(K:∀q∈C.all,fy D q E=true)(O:∀q∈j.all,fy D E q=true)(G:C.bi<=c9 (C.bi+j.bi+1))(I:j.bi<=c9 (C.bi+j.bi+1)):(ax.mk b E J C j).ok D:=
 ⟨⟨K,O⟩,⟨by rw[aa.size,ab.size];omega,rfl,G,I⟩,aa,ab⟩
theorem ax.ud{j:ax}{l}(h:j.all.Perm l):j.bi=l.length:=by rw[<- j.tP];exact h.length_eq
structure oY (C:Nat) (l:List I) (j:ax):Prop where
 ok:j.ok C
 all:j.all.Perm l
 au:j.au=j.all
def oY.Wv{j l v D C b}(Q:l.Nodup)(G:(a7 (fy j) l)[l.length/2]?=some v)(aa:oY (j+1) (dk (fy j) v l) D)(ab:oY (j+1) (d2 (fy j) v l) C):oY j l (.mk b v false D C):=by
 have o:=rk j;have R:=(e1 l).subset (kZ G);have U:=uQ o G;have W:=Au o G;have Y:=uX o v l;have O:=Es Q R;have Z:(dy v l).length=1:=by simp_all
 have I:=ax.ud aa.all;have J:=ax.ud ab.all;refine⟨ax.Fb aa.ok ab.ok ?_ ?_ ?_ ?_,?_,?_⟩
 ·intro q E;exact(gN.1 (aa.all.subset E)).2
 ·intro q E;exact(gN.1 (ab.all.subset E)).2
 ·rw[I,J];unfold c9;omega
 ·rw[I,J];unfold c9;omega
 ·have K:=AJ o v l;rw[O]at K;refine List.Perm.trans ?_ K;exact((aa.all.append ab.all).cons v).trans e4.symm
 ·show[v]++(D.au++C.au)=v::(D.all++C.all);rw[aa.au,ab.au];rfl
def D8(Z al ag ak):∀(n)(J)(U)(l)(G I)(Q),l.Nodup->Rd Q J n l->n<=U->n<=50000->G+n<=900000->I+n<=9000000000000000000->
  D E 449 #[R Z,.slice J n U,j (G:Nat)] (ae Z 255 (ff al ag ak I)::Q) λv a2=>∃aC:ax,oY G l aC/\v=.pointer aC.addr/\a2=di aC::ae Z 255 (ff al ag ak (I+n))::Q:=by
 intro n
 induction n using Nat.strongRecOn with
 | _ n aZ=>
  intro J U l G I Q au bd ba bx bt bq;have be:l.length=n:=bd.len bs;have aY:=λM=>IY G M C;rcases Nat.eq_zero_or_pos n with aX|aX
  ·subst aX;have a5:l=[]:=e3 be;subst a5;refine ap λg F=> ?_
   (first|refine aD (kH (q:=2) p p ah ah) ?_|refine aD (hQ p p ah ah ah) ?_)
   refine ad ?_;refine bw p (aY _) ?_;refine a9 (Rw (rS G) J U _) ?_;refine aS λaV=> ?_;refine af ?_;exact aj (C:=di .nil::ae Z 255 (ff al ag ak (I+0))::Q) p (.tmp p .nil) (by(repeat first|exact bo|refine Dr ?_|refine b7 ?_)<;>fail) ⟨.nil,⟨trivial,.nil,rfl⟩,rfl,rfl⟩
  ·have bc:n/2< (a7 (fy G) l).length:=by rw[e0];omega
   obtain⟨v,av⟩:∃v,(a7 (fy G) l)[n/2]?=some v:=⟨_,cb bc⟩;have bh:(a7 (fy G) l)[l.length/2]?=some v:=by simp_all
   have a8:=λb bk bb=>oY.Wv (b:=b) (D:=bk) (C:=bb) au bh;have bg:=λM h=>Rx (rk G) (IZ G) J n U l (n/2) v M h C ba au av;have o:=rk G;have bl:=uQ o av;have bm:=EU o av;have bf:=(e1 l).subset (kZ av);have bn:=uX o v l;have bp:(dy v l).length=1:=by rw[Es au bf];rfl
   have a3:(dk (fy G) v l).Nodup:=au.filter _;have a4:(d2 (fy G) v l).Nodup:=au.filter _;generalize dk (fy G) v l=W at*
   generalize d2 (fy G) v l=Y at*
   have bi:=λJ U M aQ aP=>aZ W.length C J U W (G+1) (I+1) M a3 aQ aP C C C;have bj:=λJ U M aQ aP=>aZ Y.length C J U Y (G+1) (I+1+W.length) M a4 aQ aP C C C;refine ap λg F=> ?_
   (first|refine aD (kH (q:=2) p p ah ah) ?_|refine aD (hQ p p ah ah ah) ?_)
   refine ad ?_;refine bw p (aY _) ?_;refine GE (aw p (bg _ cr)) ?_;rintro _ _ ⟨ay,aG,aA,aH,rfl,a0,a1,rfl⟩;iterate 5 refine ad ?_
   refine aU λaV=> ?_;refine ad ?_;refine cF ?_;iterate 2 refine ad ?_
   refine bD ?_;iterate 2 refine ad ?_
   refine dG ?_;refine b5 (j:=ae Z 255 (ff al ag ak I)::ae aV 43 [j v.id,j v.x,j v.y]::own 43 3 ay W.length aG (flat W)::own 43 3 aA Y.length aH (flat Y)::F::Q) aq ?_;refine K ?_;refine aS λar=> ?_;refine aL ?_;refine b5 (j:=ae ar 392 (gd v false none none 0 ⟨0,0,0,0⟩)::ae Z 255 (ff al ag ak (I+1))::own 43 3 ay W.length aG (flat W)::own 43 3 aA Y.length aH (flat Y)::F::Q) aq ?_;refine aW (aE [0,1,2,3,4,5,7,8,9,10,12,13,16,17] (.e 6 (.e 11 (.q 14 (.e 15 (.q 18 (.e 19 .nil))))))) ?_;iterate 14 refine ai ?_
   refine an (dh O p p p (aw p (D.pick aI (bi ay aG _ (by repeat' first|exact aM.own (bU _) a0.1|apply Rd.skip) a0.2.1))) ?_);rintro _ _ ⟨am,aK,rfl,rfl⟩;refine an (dh O p p p (aw p (D.pick aI (bj aA aH _ (by repeat' first|exact aM.own (bU _) a1.1|apply Rd.skip) a1.2.1))) ?_);rintro _ _ ⟨ao,aO,rfl,rfl⟩;refine dd p (dV p p ah ah) ?_;refine an (dh O p p p (c5 p p p cd) ?_);rintro _ _ ⟨rfl,rfl⟩;refine dd p (dV p p ah ah) ?_;refine an (cj O p p p (c5 p p p cd) ?_);rintro _ _ ⟨rfl,rfl⟩;have bz:=aK.ok.size;have bA:=aO.ok.size;have bB:=ax.ud aK.all;have bC:=ax.ud aO.all;refine b5 (j:=ae ar 392 (gd v false am.addr ao.addr 0 ⟨0,0,0,0⟩)::di am::di ao::ae Z 255 (ff al ag ak (I+1+W.length+Y.length))::F::Q) aq ?_;refine K ?_;refine a9 (D.pick aI (jW ar v false 0 ⟨0,0,0,0⟩ am ao _ (by repeat' first|exact hh _ _|apply ck.skip) (by repeat' first|exact hh _ _|apply ck.skip) C C)) ?_;refine aL ?_;have a6:I+1+W.length+Y.length=I+n:=C;rw[a6];refine aF ?_;exact aj (C:=di (.mk ar v false am ao)::ae Z 255 (ff al ag ak (I+n))::Q) p (.tmp p .nil) (by(repeat first|exact bo|refine wt ?_|refine b7 ?_)<;>fail) ⟨_,a8 ar am ao aK aO,rfl,rfl⟩
structure j7 (E:Nat) (q:I) (C j:ax):Prop where
 ok:j.ok E
 au:j.au.Perm (q::C.au)
 all:∀D∈j.all,D=q\/D∈C.all
 bi:j.bi<=C.bi+1
def j7.Nm{D q G b j I lo hi}(O:lo.ok (D+1))(Q:hi.ok (D+1))(W:∀E∈lo.all,fy D E j=true)(Y:∀E∈hi.all,fy D j E=true)
  (C:(ax.mk b j I lo hi).au.Perm (q::G.au)) (K:∀E∈(ax.mk b j I lo hi).all,E=q\/E∈G.all) (U:(ax.mk b j I lo hi).bi<=G.bi+1):
  (¬c9 (1+lo.size+hi.size)<max lo.size hi.size->j7 D q G (.mk b j I lo hi))/\(∀R,oY D (ax.mk b j I lo hi).au R->j7 D q G R)/\(ax.mk b j I lo hi).au.Nodup:=by
 have o:=rk D;refine⟨λae=>⟨ax.Fb O Q W Y ?_ ?_,C,K,U⟩,λR J=>⟨J.ok,J.au▸J.all.trans C,λE ak=>K E ?_,?_⟩,?_⟩
 ·rw[O.size,Q.size]at ae;grind
 ·rw[O.size,Q.size]at ae;grind
 ·exact(ax.nK _).subset (J.all.subset ak)
 ·rw[ax.ud J.all,C.length_eq,fc];have:=G.u2;omega
 ·refine(ax.nK _).nodup ?_;refine ix.2 ⟨λC=> ?_,rA.2 ⟨O.nodup,Q.nodup,λZ K al U ag=> ?_⟩⟩
  ·rcases cT.1 C with C|C
   ·have:=W j C;rw[o.hS]at this;trivial
   ·have:=Y j C;rw[o.hS]at this;trivial
  ·subst ag;have:=o.fx (W Z K) (Y Z U);rw[o.hS]at this;trivial
theorem j7.lo{G q b C D K O lo hi E}(J:(ax.node b C D K O lo hi).ok G)(R:fy G q C=true)(h:j7 (G+1) q lo E):
  (¬c9 (1+E.size+hi.size)<max E.size hi.size->j7 G q (.node b C D K O lo hi) (.mk b C D E hi))/\(∀Q,oY G (ax.mk b C D E hi).au Q->j7 G q (.node b C D K O lo hi) Q)/\(ax.mk b C D E hi).au.Nodup:=by
 refine j7.Nm h.ok J.2.2.2 (λI j=> ?_) J.1.2 ?_ (λI j=> ?_) ?_
 ·rcases h.all I j with rfl|j
  ·omega
  ·exact J.1.1 I j
 ·show((if D then[]else[C])++(E.au++hi.au)).Perm (q::((if D then[]else[C])++(lo.au++hi.au)));refine List.Perm.trans (kX _ (h.au.append_right _)) ?_;simp
 ·simp[ax.all,cQ,cT]at j ⊢;rcases j with rfl|j|j
  ·simp
  ·rcases h.all I j with rfl|j
   ·simp
   simp_all
  simp_all
 ·have:=h.bi;simp[ax.bi];omega
theorem j7.hi{G q b C D K O lo hi E}(J:(ax.node b C D K O lo hi).ok G)(R:fy G C q=true)(h:j7 (G+1) q hi E):
  (¬c9 (1+lo.size+E.size)<max lo.size E.size->j7 G q (.node b C D K O lo hi) (.mk b C D lo E))/\(∀Q,oY G (ax.mk b C D lo E).au Q->j7 G q (.node b C D K O lo hi) Q)/\(ax.mk b C D lo E).au.Nodup:=by
 refine j7.Nm J.2.2.1 h.ok J.1.1 (λI j=> ?_) ?_ (λI j=> ?_) ?_
 ·rcases h.all I j with rfl|j
  ·omega
  ·exact J.1.2 I j
 ·show((if D then[]else[C])++(lo.au++E.au)).Perm (q::((if D then[]else[C])++(lo.au++hi.au)));refine List.Perm.trans (kX _ (kX _ h.au)) ?_;grind
 ·simp[ax.all,cQ,cT]at j ⊢;rcases j with rfl|j|j
  ·simp
  ·simp_all
  ·rcases h.all I j with rfl|j
   ·simp
   simp_all
 ·have:=h.bi;simp[ax.bi];omega
def Ju{b C G D E I J M}:aB (ae b 392 (gd C G D E I J)::M) b (0+0) 3 [j C.id,j C.x,j C.y]:=
 have h:aB (ae b 392 (gd C G D E I J)::M) b 0 11 (gd C G D E I J):=aB.ae p
 pM (G:=0) h p (λO v K=>by grind)
def Eh(U J Y ag q):∀(av)(al am)(ak),av.ok al->q∉av.au->av.bi<=1000->al+av.bi<=800000->am+2000*av.depth<=8000000000000000000->
  D E 368 #[R U,.pointer av.addr,q.v,j (al:Nat)] (di av::ae U 255 (ff J Y ag am)::ak) λv bh=>∃ao aO,j7 al q av ao/\aO<=am+2000*av.depth/\v=.pointer ao.addr/\bh=di ao::ae U 255 (ff J Y ag aO)::ak
 | .nil,al,am,ak,ay,a5,bf,be,bd=>by
  refine ap λg F=> ?_;refine aS λaP=> ?_;refine aU λa0=> ?_;refine a9 (jW a0 q false 0 ⟨0,0,0,0⟩ .nil .nil _ trivial trivial bs bs) ?_;refine af ?_;exact aj (C:=di (.mk a0 q false .nil .nil)::ae U 255 (ff J Y ag am)::ak) p (.tmp p .nil) (by(repeat first|exact bo|refine wt ?_|apply Dr|refine b7 ?_)<;>fail) ⟨.mk a0 q false .nil .nil,am,⟨ax.Fb trivial trivial (by simp[ax.all]) (by simp[ax.all]) bs bs,.refl _,λJ a6=>by simpa[ax.all]using a6,by simp[ax.bi]⟩,BY _ _,rfl,rfl⟩
 | .node b G Q aA aC Z W,al,am,ak,ay,a5,bf,be,bd=>by
  simp only[ax.bi]at bf be;simp only[ax.depth]at bd;have o:=rk al;have bt:=λao h=>j7.lo (E:=ao) (q:=q) ay h;have bx:=λao h=>j7.hi (E:=ao) (q:=q) ay h;have bm:=λaO M h=>Eh U J Y ag q Z (al+1) aO M ay.2.2.1 h C C;have bn:=λaO M h=>Eh U J Y ag q W (al+1) aO M ay.2.2.2 h C C;have bp:q∉Z.au:=λh=>a5 (by simp[ax.au,h]);have bq:=λh:q∈W.au=>a5 (by simp[ax.au,h]);have bE:=ay.2.2.1.size;have bF:=ay.2.2.2.size;refine D.Vx ?_
  by_cases a2:G=q
  ·subst a2;have bj:Q=true:=by simp_all[ax.au]
   subst bj;refine ap λg F=> ?_;refine aS λaP=> ?_;refine aW (aE [0,1,2,3,4] (.q 5 .nil)) ?_;iterate 5 refine ai ?_
   refine dd p (sa p p p p p p) ?_;refine dl ?_
   all_goals
    refine aF ?_;refine cD p (decide_eq_true p) ?_;refine K ?_;refine af ?_;exact aj (C:=di (.node b G false aA aC Z W)::ae U 255 (ff J Y ag am)::ak) p (.tmp p .nil) (by(repeat first|exact bo|refine wt ?_|refine b7 ?_)<;>fail) ⟨.node b G false aA aC Z W,am,⟨ay,.refl _,λJ a6=> .inr a6,BY _ _⟩,BY _ _,rfl,rfl⟩
  ·have bg: [G.id,G.x,G.y] ≠ [q.id,q.x,q.y]:=λbc=>a2 (by
    cases G;simp_all)
   have aY:=p7 b G q al;cases aX:fy al q G with
   |true=>
    rw[aX]at aY;have bz:=λao h=>bt ao aX h;refine ap λg F=> ?_;refine aS λaP=> ?_;refine aW (aE [0,1,2,3,4] (.q 5 .nil)) ?_;iterate 5 refine ai ?_
    refine dd p (sa p p p p p p) ?_;refine dl ?_
    all_goals
     refine aF ?_;refine b2 p (decide_eq_false bg) ?_;refine K ?_;refine a9 (aY _ (by repeat' first|exact Ju|apply aB.skip) C) ?_;refine aL ?_;refine b5 (j:=di Z::ae U 255 (ff J Y ag am)::ae b 392 (gd G Q Z.addr W.addr aA aC)::ae aP 43 [j q.id,j q.x,j q.y]::di W::F::ak) aq ?_;refine aW (aE [0,1,2,3,4,5,6,7,8,9,10,11,13,14] (.e 12 (.q 15 (.e 16 .nil)))) ?_;iterate 7 refine ai ?_
     refine dd p (dV p p ah ah) ?_;iterate 6 refine ai ?_
     refine an (dh O p p p (aw p (bm am _ bp C)) ?_);rintro _ _ ⟨I,ar,aH,bl,rfl,rfl⟩;refine dd p (dV p p ah ah) ?_;refine an (cj O p p p (c5 p p p cd) ?_);rintro _ _ ⟨rfl,rfl⟩
     all_goals
      obtain⟨a7,a8,ba⟩:=bz I aH;have bB:=aH.ok.size;have bC:=aH.bi;have bb:=(ax.mk b G Q I W).u2;simp only[ax.bi]at bb;refine b5 (j:=ae b 392 (gd G Q I.addr W.addr aA aC)::di I::ae U 255 (ff J Y ag ar)::di W::F::ak) aq ?_;refine K ?_;refine bw p (D.pick aI (jW b G Q aA aC I W _ (by repeat' first|exact hh _ _|apply ck.skip) (by repeat' first|exact hh _ _|apply ck.skip) C C)) ?_;refine bw p (uA b G Q _ _ I W _ ⟨bS,(by repeat' first|exact hh _ _|apply ck.skip),(by repeat' first|exact hh _ _|apply ck.skip)⟩ C) ?_;refine af ?_;refine cp p (λaQ=> ?_) (λaQ=> ?_)
      ·have a4:=Eg (.mk b G Q I W);generalize(ax.mk b G Q I W).au=aK at*
       refine aJ ?_;iterate 2 refine ad ?_
       refine GE (aw p (a4 _ ⟨bS,(by repeat' first|exact hh _ _|apply ck.skip),(by repeat' first|exact hh _ _|apply ck.skip)⟩ (by simp only[ax.bi];omega))) ?_;rintro _ _ ⟨aZ,a1,rfl,aV,rfl⟩;refine ad ?_;refine GE (aw p (D.pick aI (D8 U J Y ag aK.length aZ a1 aK al ar _ ba (by repeat' first|exact aM.own (bU _) aV.1|apply Rd.skip) aV.2.1 C C C))) ?_;rintro _ _ ⟨aG,a3,rfl,rfl⟩;refine ad ?_;refine af ?_;exact aj (C:=di aG::ae U 255 (ff J Y ag (ar+aK.length))::ak) p (.tmp p .nil) aq ⟨aG,_,a8 aG a3,by simp only[ax.depth];omega,rfl,rfl⟩
      ·refine aF ?_;refine cv ?_;iterate 2 refine ad ?_
       refine af ?_;exact aj (C:=di (.mk b G Q I W)::ae U 255 (ff J Y ag ar)::ak) p (.tmp p .nil) (by(repeat first|exact bo|refine wt ?_|refine b7 ?_)<;>fail) ⟨_,ar,a7 aQ,by simp only[ax.depth];omega,rfl,rfl⟩
   |false=>
    rw[aX]at aY;have bk:fy al G q=true:=o.e2 (λbc=>a2 bc.symm) aX;have bA:=λao h=>bx ao bk h;refine bH λg F=> ?_;refine aJ ?_;refine aU λaP=> ?_;refine ad ?_;refine bD ?_;iterate 2 refine ad ?_
    refine dG ?_;refine aW (aE [0,1,2,3,4] (.q 5 .nil)) ?_;iterate 5 refine ai ?_
    refine dd p (sa p p p p p p) ?_;refine dl ?_
    all_goals
     refine aF ?_;refine b2 p (decide_eq_false bg) ?_;refine aJ ?_;iterate 3 refine ad ?_
     refine bw p (aY _ (by repeat' first|exact Ju|apply aB.skip) C) ?_;refine ad ?_;refine aL ?_;refine b5 (j:=di W::ae U 255 (ff J Y ag am)::ae b 392 (gd G Q Z.addr W.addr aA aC)::ae aP 43 [j q.id,j q.x,j q.y]::di Z::F::ak) aq ?_;refine aW (aE [0,1,2,3,4,5,6,7,8,9,10,11,13,14] (.e 12 (.q 15 (.e 16 .nil)))) ?_;iterate 7 refine ai ?_
     refine dd p (dV p p ah ah) ?_;iterate 6 refine ai ?_
     refine an (dh O p p p (aw p (bn am _ bq C)) ?_);rintro _ _ ⟨I,ar,aH,bl,rfl,rfl⟩;refine dd p (dV p p ah ah) ?_;refine an (cj O p p p (c5 p p p cd) ?_);rintro _ _ ⟨rfl,rfl⟩
     all_goals
      obtain⟨a7,a8,ba⟩:=bA I aH;have bB:=aH.ok.size;have bC:=aH.bi;have bb:=(ax.mk b G Q Z I).u2;simp only[ax.bi]at bb;refine b5 (j:=ae b 392 (gd G Q Z.addr I.addr aA aC)::di I::ae U 255 (ff J Y ag ar)::di Z::F::ak) aq ?_;refine aJ ?_;refine ad ?_;refine bw p (D.pick aI (jW b G Q aA aC Z I _ (by repeat' first|exact hh _ _|apply ck.skip) (by repeat' first|exact hh _ _|apply ck.skip) C C)) ?_;refine bw p (uA b G Q _ _ Z I _ ⟨bS,(by repeat' first|exact hh _ _|apply ck.skip),(by repeat' first|exact hh _ _|apply ck.skip)⟩ C) ?_;refine af ?_;refine cp p (λaQ=> ?_) (λaQ=> ?_)
      ·have a4:=Eg (.mk b G Q Z I);generalize(ax.mk b G Q Z I).au=aK at*
       refine aJ ?_;iterate 2 refine ad ?_
       refine GE (aw p (a4 _ ⟨bS,(by repeat' first|exact hh _ _|apply ck.skip),(by repeat' first|exact hh _ _|apply ck.skip)⟩ (by simp only[ax.bi];omega))) ?_;rintro _ _ ⟨aZ,a1,rfl,aV,rfl⟩;refine ad ?_;refine GE (aw p (D.pick aI (D8 U J Y ag aK.length aZ a1 aK al ar _ ba (by repeat' first|exact aM.own (bU _) aV.1|apply Rd.skip) aV.2.1 C C C))) ?_;rintro _ _ ⟨aG,a3,rfl,rfl⟩;refine ad ?_;refine af ?_;exact aj (C:=di aG::ae U 255 (ff J Y ag (ar+aK.length))::ak) p (.tmp p .nil) aq ⟨aG,_,a8 aG a3,by simp only[ax.depth];omega,rfl,rfl⟩
      ·refine aF ?_;refine cv ?_;iterate 2 refine ad ?_
       refine af ?_;exact aj (C:=di (.mk b G Q Z I)::ae U 255 (ff J Y ag ar)::ak) p (.tmp p .nil) (by(repeat first|exact bo|refine wt ?_|refine b7 ?_)<;>fail) ⟨_,ar,a7 aQ,by simp only[ax.depth];omega,rfl,rfl⟩
def Ej(q){b ag ao Z al K J}:∀(Q)(O),Q.d1 q O=.node b ag ao Z al K J->
  ∃D:aO,(∀h,di Q h->G [ae b 392 (gd ag ao K.addr J.addr Z al),D] h)/\(∀h,G [ae b 392 (gd ag ao K.addr J.addr Z al),D] h->di Q h)/\(∀h,G [ae b 392 (gd ag true K.addr J.addr Z al),D] h->di (Q.mark q O) h)
 | .nil,O,C=>by cases C
 | .node aA ak aC aE aG Y U,O,C=>by
  unfold ax.d1 at C
  by_cases I:ak=q
  ·rw[if_pos I]at C;cases C;refine⟨λh=>G [di K,di J] h,λh s=> ?_,λh s=> ?_,λh s=> ?_⟩
   ·exact G.ep (λ_ s=>G.join s) (show G _ h from s)
   ·exact G.ep (λ_ s=>G.part s) s
   ·unfold ax.mark;rw[if_pos I];exact G.ep (λ_ s=>G.part s) s
  ·rw[if_neg I]at C
   by_cases R:fy O q ak=true
   ·rw[if_pos R]at C;obtain⟨D,ar,au,av⟩:=Ej q Y _ C;refine⟨λh=>G [D,ae aA 392 (gd ak aC Y.addr U.addr aE aG),di U] h,λh s=> ?_,λh s=> ?_,λh s=> ?_⟩
    ·have aw:=s;have j:=G.head ar aw.swap;exact G.ep (λ_ s=>G.join s) j
    ·have j:=G.ep (λ_ s=>G.part s) s;have E:=G.fold au j;exact E.swap
    ·have j:=G.ep (λ_ s=>G.part s) s;have E:=G.fold av j;unfold ax.mark;rw[if_neg I,if_pos R];show G _ h;rw[ax.EO];exact E.swap
   ·rw[if_neg R]at C;obtain⟨D,ar,au,av⟩:=Ej q U _ C;have ap:∀am ay W:aO,List.Perm _ _:=λam ay W=>((List.Perm.swap W ay []).cons am).trans (.swap W am _);refine⟨λh=>G [D,ae aA 392 (gd ak aC Y.addr U.addr aE aG),di Y] h,λh s=> ?_,λh s=> ?_,λh s=> ?_⟩
    ·have aw:=s;have j:=G.head ar (aw.perm (ap _ _ _));exact G.ep (λ_ s=>G.join s) j
    ·have j:=G.ep (λ_ s=>G.part s) s;have E:=G.fold au j;exact E.perm (ap _ _ _).symm
    ·have j:=G.ep (λ_ s=>G.part s) s;have E:=G.fold av j;unfold ax.mark;rw[if_neg I,if_neg R];show G _ h;rw[ax.EO];exact E.perm (ap _ _ _).symm
structure P7 (D:Nat) (C j:ax) (E:Nat):Prop where
 ok:j.ok 0
 au:j.au.Perm C.au
 bi:j.bi<=C.bi
 hz:j.bi-C.au.length<=(j.bi+1)/2
 lN:E<=D+2000
def LU(I j ag J G O)(Z:j.ok 0)(aA:j.au.length=ag)(aO:j.bi<=2000)(aH:G<=8000000000000000000):
  D E 369 #[R I] (di j::ae I 255 (ff j.addr (ag:Nat) J G)::O) λv ao=>∃W am,P7 G j W am/\v=.tuple #[]/\ao=di W::ae I 255 (ff W.addr (ag:Nat) J am)::O:=by
 have aE:=Z.size;have ak:=λM h=>Ei j M h;rw[aE]at ak;have aP:=j.u2;have ay:=λM h=>Eg j M h C;have aC:=j.nK.nodup Z.nodup;subst aA;refine ap λg F=> ?_;refine bw p (ak _ (by repeat' first|exact hh _ _|apply ck.skip)) ?_;refine ad ?_;refine aL ?_
 by_cases aK:(j.bi+1)/2<j.bi-j.au.length
 ·refine aF ?_;refine cv ?_;iterate 8 refine ad ?_
  (first|refine aD _ ?_|refine aD (hQ p p ah ah ah) ?_)
  refine ad ?_;refine af ?_;refine cD p (decide_eq_true C) ?_;refine K ?_;refine GE (aw p (ay _ (by repeat' first|exact hh _ _|apply ck.skip))) ?_;rintro _ _ ⟨ar,av,rfl,al,rfl⟩;refine GE (aw p (D.pick aI (D8 I j.addr (j.au.length:Nat) J j.au.length ar av j.au 0 G _ aC (by repeat' first|exact aM.own (bU _) al.1|apply Rd.skip) al.2.1 C C C))) ?_;rintro _ _ ⟨Y,U,rfl,rfl⟩;refine K ?_;refine af ?_;have aG:=ax.ud U.all;exact e6 (D:=[]) (j:=[]) (C:=di Y::ae I 255 (ff Y.addr (j.au.length:Nat) J (G+j.au.length))::O) p .nil aq ⟨Y,_,⟨U.ok,U.au▸U.all,C,C,C⟩,rfl,rfl⟩
 ·refine aF ?_;refine cv ?_;iterate 8 refine ad ?_
  (first|refine aD (kH (q:=2) p p ah ah) ?_|refine aD (hQ p p ah ah ah) ?_)
  refine ad ?_;refine af ?_;refine b2 p (decide_eq_false C) ?_;refine aF ?_;exact e6 (D:=[]) (j:=[]) (C:=di j::ae I 255 (ff j.addr (j.au.length:Nat) J G)::O) p .nil aq ⟨j,G,⟨Z,.refl _,bv _,C,Q⟩,rfl,rfl⟩
def U7(G I)(aa:1<=G)(ab:G<=1048576):D E 108 #[j G] I λv O=>∃J,v=.tuple #[R J,j 0]/\O=j0 J G [] 0::I:=by
 refine ap λg F=> ?_;refine dE 6 p (decide_eq_false C) ?_;iterate 3 refine ad ?_
 refine af ?_;refine b2 p (decide_eq_false C) ?_;refine K ?_;refine aS λQ=> ?_;refine af ?_;exact aj rfl (.tmp p (.tmp p .nil)) (by(repeat first|exact bo|refine um (j:=.nil) (v:=0) ⟨trivial,.refl _,bv _,bs,bv _⟩ ?_|apply Dr|refine b7 ?_)<;>fail) ⟨Q,rfl,rfl⟩
def QI(J I l G U Z)(a1:U<=900):
  D E 278 #[R J,G.v] (j0 J I l U::Z) λv aC=>v=j (gX I l G)/\aC=j0 J I (ou I l G) (U+1)::Z:=by
 refine D.dK λY v W=> ?_;have ak:=tF G;have a3:Y.au.length=l.length:=W.au.length_eq;have aK:decide (G∈Y.au)=decide (G∈l):=decide_eq_decide.2 W.au.mem_iff;have a0:=Y.zk;have a4:=Y.u2;have aZ:=W.bi;have aY:=W.lN;have ag:=λM aa ab=>L1 J Y G M aa ab C W.ok;rw[aK]at ag;unfold gX ou;unfold gX;cases ay:eg G with
 |false=>
  rw[ay]at ak;rw[if_pos p,if_neg Q];refine ap λg F=> ?_;refine aS λal=> ?_;refine br p p p p ?_;refine bw p (ak _) ?_;refine br p p p p ?_;refine aD (cL p) ?_;refine K ?_;refine af ?_;exact aj (C:=j0 J I l (U+1)::Z) p (.tmp p .nil) (by(repeat first|exact bo|refine um (W.jd (.refl _) (nZ U)) ?_|refine b7 ?_)<;>fail) ⟨rfl,rfl⟩
 |true=>
  rw[ay]at ak;rw[if_neg Q]
  by_cases ao:G∈l
  ·rw[decide_eq_true ao]at ag;rw[if_pos ao,if_neg Q];refine ap λg F=> ?_;refine aS λal=> ?_;refine br p p p p ?_;refine bw p (ak _) ?_;refine br p p p p ?_;refine aD (cL p) ?_;refine K ?_;refine a9 (ag _ dX (by repeat' first|exact hh _ _|apply ck.skip)) ?_;refine af ?_;exact aj (C:=j0 J I l (U+1)::Z) p (.tmp p .nil) (by(repeat first|exact bo|refine um (W.jd (.refl _) (nZ U)) ?_|refine b7 ?_)<;>fail) ⟨rfl,rfl⟩
  ·rw[decide_eq_false ao]at ag;rw[if_neg ao];have aO:G∉Y.au:=λh=>ao (W.au.mem_iff.1 h)
   by_cases ax:I<=l.length
   ·rw[if_pos ax,if_neg Q];refine ap λg F=> ?_;refine aS λal=> ?_;refine br p p p p ?_;refine bw p (ak _) ?_;refine br p p p p ?_;refine aD (cL p) ?_;refine K ?_;refine a9 (ag _ dX (by repeat' first|exact hh _ _|apply ck.skip)) ?_;refine aW (aE [0,1,2,3,4,5,6,7,8] (.q 9 .nil)) ?_;iterate 10 refine ai ?_
    refine cK ?_;refine cD p (decide_eq_true C) ?_;refine K ?_;refine af ?_;exact aj (C:=j0 J I l (U+1)::Z) p (.tmp p .nil) (by(repeat first|exact bo|refine um (W.jd (.refl _) (nZ U)) ?_|refine b7 ?_)<;>fail) ⟨rfl,rfl⟩
   ·rw[if_neg ax,if_pos p];have aP:=λaV M=>Eh J aV ((l.length:Nat)+1:Nat) I G Y 0 v M W.ok aO C C C;refine ap λg F=> ?_;refine aS λal=> ?_;refine br p p p p ?_;refine bw p (ak _) ?_;refine br p p p p ?_;refine aD (cL p) ?_;refine K ?_;refine a9 (ag _ dX (by repeat' first|exact hh _ _|apply ck.skip)) ?_;refine aW (aE [0,1,2,3,4,5,6,7,8] (.q 9 .nil)) ?_;iterate 10 refine ai ?_
    refine cK ?_;refine b2 p (decide_eq_false C) ?_;refine K ?_;refine aL ?_;refine b5 (j:=di Y::ae J 255 (ff Y.addr ((l.length+1:Nat):Int) I v)::ae al 43 [j G.id,j G.x,j G.y]::F::Z) aq ?_;refine aW (aE [0,1,2,3,4,5,6] (.e 7 (.q 8 (.q 9 (.e 10 .nil))))) ?_;iterate 7 refine ai ?_
    refine an (dh O p p p (aw p (aP _ _)) ?_);rintro _ _ ⟨av,aA,ar,a2,rfl,rfl⟩;iterate 2 refine ai ?_
    refine an (cj O p p p (c5 p p p cd) ?_);rintro _ _ ⟨rfl,rfl⟩;have aX:=ar.au.length_eq;have a8:=ar.bi;rw[fc]at aX;refine b5 (j:=di av::ae J 255 (ff av.addr ((l.length+1:Nat):Int) I aA)::ae al 43 [j G.id,j G.x,j G.y]::F::Z) aq ?_;refine K ?_;refine GE (aw p (LU J av (l.length+1) I aA _ ar.ok C C C)) ?_;rintro _ _ ⟨aG,aQ,am,rfl,rfl⟩;refine K ?_;refine af ?_;have aH:(l++[G]).length=l.length+1:=Q;have a5:=am.bi;have a6:=am.lN;have a7:=am.hz;have aI:mg aG aQ (l++[G]) (U+1):=⟨am.ok,am.au.trans (ar.au.trans ((W.au.cons G).trans (List.perm_append_singleton G l).symm)),C,C,C⟩;exact aj (C:=j0 J I (l++[G]) (U+1)::Z) p (.tmp p .nil) (by(repeat first|exact bo|refine Kh aH aI ?_|refine b7 ?_)<;>fail) ⟨rfl,rfl⟩
def QF(O U l I ag W)(a8:ag<=900):
  D E 279 #[R O,I.v] (j0 O U l ag::W) λv aH=>v=j (pt l I)/\aH=j0 O U (l.erase I) (ag+1)::W:=by
 refine D.dK λJ v Q=> ?_;have a9:J.au.length=l.length:=Q.au.length_eq;have aX:decide _=decide (I∈l):=decide_eq_decide.2 Q.au.mem_iff;have a7:=J.zk;have ba:=J.u2;have a6:=Q.bi;have a5:=Q.lN;have ay:=λM aa ab=>L1 O J I M aa ab C Q.ok;rw[aX]at ay;unfold pt
 by_cases Y:I∈l
 ·rw[decide_eq_true Y]at ay;rw[if_pos Y];have aE:I∈J.au:=Q.au.mem_iff.2 Y;have aW:=(Q.ok.has I).2 aE;have aP:=λM aa ab=>L0 O J I M aa ab C;have aQ:=λb am av al ao ak Z=>Ej I (b:=b) (ag:=am) (ao:=av) (Z:=al) (al:=ao) (K:=ak) (J:=Z) J 0;generalize J.d1 I 0=aG at*
  cases aG with
  |nil=>cases aW
  |node b am av al ao ak Z=>
   obtain⟨aA,aZ,a0,a1⟩:=aQ b am av al ao ak Z p;have aV:∀M:List aO,ck (ae b 392 (gd am av ak.addr Z.addr al ao)::aA::M) J:=λM=>(hh J M).mono λ_ s=>G.fold (N:=[ae b 392 (gd am av ak.addr Z.addr al ao),aA]) a0 s;have a2:=Q.ok.EP aE;have a3:(J.mark I 0).au.length=l.length-1:=by simp_all
   have be:=J.sw I 0;have bf:=List.length_pos_of_mem Y;have a4:=List.length_erase_of_mem Y;have aC:=λM=>LU O (J.mark I 0) (l.length-1) U v M (Q.ok.mark) a3 C C;rw[J.EO]at aC;refine ap λg F=> ?_;refine aS λar=> ?_;refine bw p (ay _ dX (by repeat' first|exact hh _ _|apply ck.skip)) ?_;refine aD (cL p) ?_;refine ad ?_;refine dG ?_;refine b5 (j:=di J::ae ar 43 [j I.id,j I.x,j I.y]::ae O 255 (ff J.addr (l.length:Nat) U v)::F::W) aq ?_;refine b5 (j:=ae b 392 (gd am av ak.addr Z.addr al ao)::aA::ae ar 43 [j I.id,j I.x,j I.y]::ae O 255 (ff J.addr (l.length:Nat) U v)::F::W) (λ_ s=>G.head aZ s) ?_;refine K ?_;refine bw p (aP _ dX (aV _)) ?_;iterate 2 refine ad ?_
   refine cF ?_;refine aL ?_;refine b5 (j:=ae b 392 (gd am true ak.addr Z.addr al ao)::aA::ae ar 43 [j I.id,j I.x,j I.y]::ae O 255 (ff J.addr (l.length:Nat) U v)::F::W) aq ?_;refine b5 (j:=di (J.mark I 0)::ae ar 43 [j I.id,j I.x,j I.y]::ae O 255 (ff J.addr (l.length:Nat) U v)::F::W) (λ_ s=>G.fold (N:=[_,_]) a1 s) ?_;refine aJ ?_;iterate 7 refine ad ?_
   refine cF ?_;refine aL ?_;refine b5 (j:=di (J.mark I 0)::ae O 255 (ff J.addr ((l.length-1:Nat):Int) U v)::ae ar 43 [j I.id,j I.x,j I.y]::F::W) aq ?_;refine K ?_;refine GE (aw p (aC _)) ?_;rintro _ _ ⟨aI,aY,ax,rfl,rfl⟩;refine K ?_;refine af ?_;have bb:=ax.bi;have bc:=ax.lN;have bd:=ax.hz;have aK:mg aI aY (l.erase I) (ag+1):=⟨ax.ok,ax.au.trans (a2▸Q.au.erase I),C,C,C⟩;exact aj (C:=j0 O U (l.erase I) (ag+1)::W) p (.tmp p .nil) (by(repeat first|exact bo|refine Kh a4 aK ?_|refine b7 ?_)<;>fail) ⟨rfl,rfl⟩
 ·rw[decide_eq_false Y]at ay;rw[if_neg Y,List.erase_of_not_mem Y];refine ap λg F=> ?_;refine aU λar=> ?_;refine ad ?_;refine af ?_;refine aJ ?_;iterate 3 refine ad ?_
  refine dG ?_;refine aJ ?_;iterate 2 refine ad ?_
  refine bw p (ay _ dX (by repeat' first|exact hh _ _|apply ck.skip)) ?_;refine aD (cL p) ?_;refine ad ?_;refine f7 ?_;refine aJ ?_;refine ad ?_;refine af ?_;exact aj (C:=j0 O U l (ag+1)::W) p (.tmp p .nil) (by(repeat first|exact bo|refine um (Q.jd (.refl _) (nZ ag)) ?_|refine b7 ?_)<;>fail) ⟨rfl,rfl⟩
end eO
namespace eO
instance aaE:e5 ax:=⟨1,λj=>[.pointer j.addr],λ_=>rfl,λ_ v h=>by simp at h;subst h;rfl⟩
def ba(b:Nat)(D:Int)(l:List ax):aO:=λh=>∃C:Option Addr×Nat,(0<l.length->∃b,C.1=(ak b))/\G [ae b 615 [.slice C.1 l.length C.2,j D],own 253 1 C.1 l.length C.2 (flat l)] h
def sX{s E l M I}(h:G (ba s E l::M) I):∃D C,(0<l.length->∃b,D=(ak b))/\l.length<=C/\C<=maxLen/\G (ae s 615 [.slice D l.length C,j E]::own 253 1 D l.length C (flat l)::M) I:=by
 obtain⟨aa,ab,K,R,U,⟨⟨D,C⟩,Q,q⟩,W⟩:=h;have J:=own.facts (L:=[]) q.tail;exact⟨D,C,Q,J.2.1,J.2.2.1,G.head (A:=λh=>h=aa) (N:=[ae s 615 [.slice D l.length C,j E],own 253 1 D l.length C (flat l)]) (λ_ O=>O▸q) ⟨aa,ab,K,R,U,rfl,W⟩⟩
def D.nR{I J args G b O l post}
  (W:∀E C,(0<l.length->∃b,E=(ak b))->l.length<=C->C<=maxLen->D I J args (ae b 615 [.slice E l.length C,j O]::own 253 1 E l.length C (flat l)::G) post):D I J args (ba b O l::G) post:=λg F U K=>by
 obtain⟨E,C,aa,ab,Q,R⟩:=sX K.s.swap;exact W E C aa ab Q g F U ⟨K.g,R.perm (e4 (l₁:=[_,_]))⟩
def lR{C M b c A D l}(I:0<l.length->∃b,A=(ak b))(E:∀h,G C h->G (ae b 615 [.slice A l.length c,j D]::own 253 1 A l.length c (flat l)::M) h):∀h,G C h->G (ba b D l::M) h:=λh s=>
 G.fold (N:=[_,_]) (λh q=>⟨(A,c),I,q⟩) (E h s)
def Fj{E b j I C v D}(K:(v::C::D).length=j*1)(O:2<=j)(Q:j<=maxLen):∀h,G (ae b I (C::v::D)::E) h->G (own I 1 (ak b) 2 j [C,v]::E) h:=λh s=>by
 obtain⟨aa,ab,J,R,U,q,W⟩:=s;exact⟨aa,ab,J,R,U,own.kF (n:=2) (c:=j) (dP:=1) (j:=C::v::D) q K O Q,W⟩
theorem Gw(j v C):ej (ej (j::v::C) (0+0*1) [v]) (0+1*1) [j]=v::j::C:=by
 rw[jy (j::v::C) _ _ Q,jy _ _ _ Q];simp
end eO
namespace eO
attribute [local irreducible] G
abbrev kS:Nat:=253
abbrev GS:Nat:=573
abbrev GT:Nat:=613
abbrev s6:Nat:=696
abbrev qg:Nat:=698
abbrev rr:Type:=ax
def rF{G c1 c2 I}{post:List aO->Prop}[J:b4 E G](h:D E G (c1++[]++c2).toArray I λv C=>post C):
  D E 114 #[.func (.func G) c1.toArray c2.toArray] I λv C=>v=.tuple #[.agg #[j 0,j 0],.bool false]/\post C:=F6
def pb(L):D E 523 #[j 65536] L λv C=>∃b,v=.tuple #[R b,j 0]/\C=ba b 65536 []::L:=Gd
def m5(b l C):D E 703 #[R b] (ba b 65536 l::C) λv G=>v=j (l.length:Nat)/\G=ba b 65536 l::C:=Ge
def xM(b G J C)(h:aB C b 0 2 [.slice G 0 J,j 65536]):D E 720 #[R b] C λv I=>v=.tuple #[.pointer none,.bool false]/\I=C:=Gf
def xL(b J n O l)(I:ax)(G)(h:aB G b 0 2 [.slice J n O,j 65536])(U:Rd G J n (l++[I]))(Y:n=l.length+1)(W:n<=65536):D E 720 #[R b] G λv K=>v=.tuple #[.pointer I.addr,.bool true]/\K=G:=Gg
def xq(b j):D E 713 #[R b] (ba b 65536 []::j) λv C=>v=.tuple #[.pointer none,.bool false]/\C=ba b 65536 []::j:=Gh
def xp(b l j G)(W:l.length+1<=65536):D E 713 #[R b] (ba b 65536 (l++[j])::G) λv I=>v=.tuple #[.pointer j.addr,.bool true]/\I=ba b 65536 l::G:=Gi
def sO(b J G q l I j)(U:Rd j J G I)(W:l.length+G<=65536):D E 578 #[R b,.slice J G q] (ba b 65536 l::j) λv O=>v=.tuple #[]/\O=ba b 65536 (l++I)::j:=Gj
def xv(J K b G C q l I j)(ab:aR j ⟨J,0,none⟩ (R b))(W:aR j ⟨K,0,none⟩ (.slice G C q))(U:Rd j G C I)(Q:l.length+C<=65536):
  D E 577 #[R J,R K] (ba b 65536 l::j) λv O=>O=ba b 65536 (l++I)::j:=Gk
def rO(b J G q l I C)(W:Rd C J G I)(U:l.length+G<=65536):D E 525 #[R b,.slice J G q] (ba b 65536 l::C) λv K=>v=j 0/\K=ba b 65536 (l++I)::C:=Gl
def tE(C n I)(l:List ax)(j)(J:Rd j C n l)(R:n<=1000000):
  D E 714 #[.slice C n I] j λv G=>Made 253 l j v G:=F7
def vL(I C)(l:List ax)(J)(Y:0<l.length->∃b,I=(ak b))(ab:l.length<=2):
  D E 715 #[.slice I l.length C] (own 253 1 I l.length C (flat l)::J) λv ag=>v=.tuple #[]/\ag=own 253 1 I l.length C (flat l.reverse)::J:=F8
def i1(j:Program)(C:TypeId):Bool:=match j.underlying C with
 |some (.func _ _ _)=>true
 | _=>false
class iU (j:Program) (C:TypeId):Prop where
 h:i1 j C=true
def iU.spec{j C}(D:iU j C):∃E b G,j.underlying C=some (.func E b G):=by
 have h:=D.h;unfold i1 at h;split at h
 ·exact⟨_,_,_,by assumption⟩
 ·cases h
def wy{j O I}{U:Option Nat}{ak C Q ag R W J y G E b}[K:iU j C](Z:aY I J=some (.func G E b))(ae:aY I y=some .nilFunc):bf j O I ⟨U,.binOp .eql C J y Q,ak,ag,R,W⟩ (.bool false):=
 iY _ _ _ _ (λD=>by unfold eqGuard;split<;>rfl) Z ae λD=>by
  obtain⟨_,_,_,Y⟩:=K.spec;have ab:(dD C (.func G E b) .nilFunc).run j D=.ok false D:=by
   unfold dD;rw[show Op.maxDepth=9999+1 from rfl];unfold Op.equalIn;simp only[cg,run_underlying Y,db];rfl
  show((do pure (.bool (<- dD C (.func G E b) .nilFunc)):Sem Value)).run j D= _;simp only[cg,ab,db,Sem.run_pure]
instance:iU E 695:=⟨O⟩
structure gz (S:Type)where
 V:S->aO
 ok:ax->S->Prop
 kids:ax->List ax
 g8:ax->S->S
 f:FuncId
 dt:List Value
 d5:List Value
 dL:List ax->S->Nat->Prop
structure gz.Good {S:Type} (j:gz S) (O:aG):Prop where
 pq:b4 E j.f
 qe:∀(M:aG) (I:ax) (C:S),(∀h,G M h->G O h)->j.ok I C->D E j.f (j.dt++[Value.pointer I.addr]++j.d5).toArray (j.V C::M) λv Q=>Made 253 (j.kids I) (j.V (j.g8 I C)::M) v Q
 next:∀(l:List ax) (I:ax) (C:S) (J:Nat),j.dL (l++[I]) C J->∃K,J=K+1/\j.dL (l++(j.kids I).reverse) (j.g8 I C) K
 stop:∀(C:S) (J:Nat),j.dL [] C J->J=0
 cap:∀(l:List ax) (C:S) (J:Nat),j.dL l C J->l.length<=60000/\∀I∈l,j.ok I C/\(j.kids I).length<=2
@[reducible] def eH {S} (C:gz S) (s n:Nat):List Value:=[R s,.func (.func C.f) C.dt.toArray C.d5.toArray,j (n:Nat)]
def xZ{S}(G:gz S)(j s n C):D E 708 #[R j] (ae j 698 (eH G s n)::ba s 65536 []::C) λv I=>v=.bool false/\I=ae j 698 (eH G s n)::ba s 65536 []::C:=F9
def xY{S}(j O s n l I)(Q:S)(J U)(Y:j.Good U)(Z:∀h,G J h->G U h)(ak:j.ok I Q)(ag:(j.kids I).length<=2)(ar:l.length<=60000)(au:n<=1000000000000):
  D E 708 #[R O] (ae O 698 (eH j s n)::ba s 65536 (l++[I])::j.V Q::J) λv W=>v=.bool true/\W=ae O 698 (eH j s (n+1))::ba s 65536 (l++(j.kids I).reverse)::j.V (j.g8 I Q)::J:=Ga
def xV{S}(I Y W J s Q U l)(al:S)(Z ag)(au:I.Good ag)(aC:∀h,G Z h->G ag h)(aA:I.dL l al U)(aH:U<=100000000):
  D E 707 #[R Y,R W] (ae Y 696 [R J]::ae W 3 [j (Q:Nat)]::ae J 698 (eH I s 0)::ba s 65536 l::I.V al::Z)
   λv av=>∃am ao,I.dL am ao (U-min Q U)/\av=ae Y 696 [R J]::ae W 3 [j (Q:Nat)]::ae J 698 (eH I s (min Q U))::ba s 65536 am::I.V ao::Z:=Gb
def rR{S}(C:gz S)(s K I l Y J W)(ak:C.Good W)(ag:∀h,G J h->G W h)(ae:C.dL l Y I)(al:I<=100000000):
  D E 704 #[R s,j (K:Nat),.func (.func C.f) C.dt.toArray C.d5.toArray] (ba s 65536 l::C.V Y::J)
   λv Z=>∃O U,v=.tuple #[j (min K I:Nat),j 0]/\C.dL O U (I-min K I)/\Z=ba s 65536 O::C.V U::J:=Gc
end eO
namespace eO
attribute [local irreducible] G bf cc
def QH(Q:FuncId)[b4 E Q](Y Z:cs)(O:ax->Bool)(U:bA)(n ag:Nat)(l:List ax)(J:aG)(al:Rd J U n l)(aL:n<=1000000)
  (aw:∀I∈l,D E Q (Y++[Value.pointer I.addr]++Z).toArray J λv W=>v=.bool (O I)/\W=J):
  D E 716 #[.slice U n ag,.func (.func Q) Y.toArray Z.toArray] J λv W=>((v=j (-1)/\l.filter O=[])\/∃R:Nat,v=j (R:Nat)/\R<n/\(l.take (R+1)).filter (λI=>!O I)=l.take R)/\W=J:=by
 have aa:l.length=n:=al.len bs;refine ap λg F=> ?_;refine af ?_;refine cJ (ι:=Nat) (λG=>[(0,.slice U n ag),(1,.func (.func Q) Y.toArray Z.toArray),(7,j (n:Nat)),(8,j (G:Nat))]) (λ_=>F::J) (λG=>G<=n/\(l.take G).filter O=[]) (λG=>n-G) 0 ⟨bu _,by rfl⟩ a8 az ?_;rintro G ⟨aK,ae⟩;refine K ?_;refine af ?_;refine cp p (λau=> ?_) (λau=> ?_)
 ·obtain⟨aI,aO,rfl,aE⟩:=al.at_ C;have ar:l[G]?=some l[G]:=cb C;have aH:=(aE _ _ ar).at_ (i:=0) p;have aC:l.take (G+1)=l.take G++[l[G]]:=gu C;have aA:l[G] ∈l:=hp _;have ay:=aw _ aA;generalize l[G]=aP at*
  have aQ:=aH;refine K ?_;refine GE (eV p p (D.frame [F] ay bo)) ?_;rintro _ _ ⟨_,⟨rfl,rfl⟩,rfl⟩;refine af ?_;refine d3 p (λak=> ?_) (λak=> ?_)
  ·refine aF ?_;refine cv ?_;refine bI ?_;exact⟨.inr ⟨G,rfl,C,by
    rw[aC,l9];have ao:(l.take G).filter (λI=>!O I)=l.take G:=vx.2 λI av=>by
     have:=lA.1 ae I av;simpa using this
    rw[ao];simp[ak]⟩,rfl⟩
  ·refine aF ?_;refine cv ?_;iterate 2 refine ad ?_
   refine af ?_;exact bM (G+1) ⟨C,by simp_all⟩ C a8 az
 ·have am:G=n:=C;subst am;rw[<- aa,k0]at ae;refine bI ?_;exact⟨.inl ⟨rfl,ae⟩,rfl⟩
theorem KV(C):∀(l:List ax)(j),(flat l:cs).set j (.pointer C.addr)=flat (l.set j C)
 | [],_=>rfl
 |x::l,0=>rfl
 |x::l,j+1=>by
  have:=KV C l j;rw[List.set_cons_succ,jo,jo];show Value.pointer _::(flat l).set j _= _;rw[this];rfl
def yu(am:FuncId)[b4 E am](ap ar:cs)(ag:ax->Bool)(Z:bA)(n R:Nat)(l:List ax)(W:aG)(aC:0<n->∃b,Z=(ak b))(aa:l.length=n)(a4:n<=1000000)
  (a3:∀O∈l,D E am (ap++[Value.pointer O.addr]++ar).toArray W λv al=>v=.bool (ag O)/\al=W):
  D E 710 #[.slice Z n R,.func (.func am) ap.toArray ar.toArray] (own 253 1 Z n R (flat l)::W) λv al=>Made 253 (l.filter λO=>!ag O) W v al:=by
 have a2:(flat l).length=n*1:=by rw[bU,aa];rfl
 have aE:∀F O,O∈l->∀ao,D E am (ap++[Value.pointer O.addr]++ar).toArray (own 253 1 Z n R ao::F::W) λv al=>v=.bool (ag O)/\al=own 253 1 Z n R ao::F::W:=λF O av ao=>
  (D.frame [own 253 1 Z n R ao,F] (a3 O av) (λ_ s=>s)).mono λv al ⟨M,⟨ay,au⟩,aA⟩=>⟨ay,by simp_all⟩
 have aO:=λF=>QH am ap ar ag Z n R l (own 253 1 Z n R (flat l)::F::W) (aM.own a2 aC) a4 (λO av=>aE F O av _);refine bH λg F=> ?_;refine b5 (j:=own 253 1 Z n R (flat l)::F::W) aq ?_;refine tC (λh s=>own.facts s) ?_;rintro⟨bh,bi,bj,bk⟩;refine K ?_;refine GE (aw p (aO F)) ?_;rintro _ _ ⟨bb,rfl⟩;refine ad ?_;refine aL ?_;rcases bb with ⟨rfl,bm⟩|⟨ae,rfl,bl,a7⟩
 ·have aW:l.filter (λO=>!ag O)=l:=vx.2 λO av=>by
   simp_all
  rw[aW];subst aa;refine K ?_;refine af ?_;exact aj (C:=own 253 1 Z l.length R (flat l)::W) p (.tmp p .nil) aq ⟨Z,R,rfl,aC,rfl⟩
 ·obtain⟨b,rfl⟩:=aC C;have a1:l.take ae++([l[ae]]++l.drop (ae+1))=l:=by
   simp
  have a9:(l.take ae).length=ae:=by grind
  refine aJ ?_;iterate 2 refine ad ?_
  refine af ?_;refine b2 p (decide_eq_false Q) ?_;refine K ?_;refine af ?_;refine cJ (ι:=Nat×List ax×List ax) (λy=>[(0,.slice (ak b) n R),(1,.func (.func am) ap.toArray ar.toArray),(5,j (y.2.1.length:Nat)),(6,j (y.1:Nat))]) (λy=>own 253 1 (ak b) n R (flat (y.2.1++(y.2.2++l.drop y.1)))::F::W)
   (λy=>y.1<=n/\y.2.1=(l.take y.1).filter (λO=>!ag O)/\y.2.1.length+y.2.2.length=y.1/\0<y.2.2.length) (λy=>n-y.1) (ae+1,l.take ae,[l[ae]]) ⟨C,a7.symm,by simp_all,Nat.one_pos⟩ ⟨rfl,rfl,by show _=some (Value.int .i64 ((l.take ae).length:Nat));rw[a9];rfl,rfl,trivial⟩ (by dsimp only;rw[a1];exact λ_ s=>s) ?_
  rintro⟨I,J,Y⟩ ⟨ay,au,aA,aH⟩;simp only at ay au aA aH;dsimp only;have aQ:(J++(Y++l.drop I)).length=n:=by grind
  refine K ?_;refine af ?_;refine cp p (λaS=> ?_) (λaS=> ?_)
  ·have aP:I<l.length:=C;have aK:(J++(Y++l.drop I))[I]?=some l[I]:=by
    rw[<- ho,List.getElem?_append_right (by simp_all),List.getElem?_drop];simp_all
   have bf:l.take (I+1)=l.take I++[l[I]]:=gu aP;have aV:l.drop I=l[I]::l.drop (I+1):=(List.getElem_cons_drop aP).symm;have be:l[I] ∈l:=hp _;have ba:=λao=>aE F _ be ao;generalize l[I]=U at*
   rw[aV]at aK aQ ⊢;have bg:∀M,aR (own 253 1 (ak b) n R (flat (J++(Y++U::l.drop (I+1))))::M) ⟨b,0+I*1,none⟩ (.pointer U.addr):=λM=>by
    have a6:Rd (own 253 1 (ak b) n R (flat (J++(Y++U::l.drop (I+1))))::M) (ak b) n (J++(Y++U::l.drop (I+1))):=aM.own (by rw[bU,aQ];rfl) (λ_=>⟨b,rfl⟩);obtain⟨_,_,aX,bc⟩:=a6.at_ C;cases aX;exact(bc _ _ aK).at_ (i:=0) p
   refine K ?_;refine aD (d6 p (by repeat' first|exact bg _|apply aR.skip)) ?_;refine K ?_;refine GE (eV p p (ba _)) ?_;rintro _ _ ⟨rfl,rfl⟩;refine aD (cL p) ?_;refine aL ?_;cases a5:ag U with
   |true=>
    refine K ?_;refine af ?_;refine bM (I+1,J,Y++[U]) ⟨C,by simp_all,by grind,Q⟩ C a8 ?_;show ∀h,_->G (own 253 1 (ak b) n R (flat (J++((Y++[U])++l.drop (I+1))))::F::W) h;rw[ho Y,List.singleton_append];exact az
   |false=>
    cases Y with
    |nil=>exact absurd aH Q
    |cons bd Y=>
     refine jJ ?_;refine aJ ?_;iterate 4 refine ad ?_
     refine GE (r3 p p p aI C) ?_;rintro _ _ ⟨rfl,rfl⟩;refine bD ?_;iterate 3 refine ad ?_
     refine af ?_;have a0:(flat (J++((bd::Y)++U::l.drop (I+1))):cs).set (0+J.length*1) (.pointer U.addr)=flat ((J++[U])++((Y++[U])++l.drop (I+1))):=by
      simp[KV,List.set_append]
     refine K ?_;refine af ?_;refine bM (I+1,J++[U],Y++[U]) ⟨by show I+1<=n;omega,by show J++[U]= _;rw[bf,l9,<- au];simp[a5],by simp at aA ⊢;omega,Q⟩ (by show n-(I+1)<n-I;omega) ⟨rfl,rfl,by show _=some (Value.int .i64 ((J++[U]).length:Nat));rw[bP];rfl,rfl,trivial⟩ ?_;show ∀h,_->G (own 253 1 (ak b) n R (flat ((J++[U])++((Y++[U])++l.drop (I+1))))::F::W) h;rw[<- a0];exact az
  ·have aY:I=n:=C;subst aY;have aZ:J=l.filter λO=>!ag O:=by rw[au,<- aa,k0]
   rw[<- aZ];clear aO aE;refine b5 (j:=own 253 1 (ak b) J.length R (flat J)::F::W) (zw .here C (by rw[fI];exact List.take_left' (bU _)) bo) ?_;refine aJ ?_;iterate 2 refine ad ?_
   refine aD (ga p p ah ah) ?_;refine GE (Ka (R:=J.length) p p p aI (λ_=>by rw[if_neg C];omega) C C) ?_;rintro _ _ ⟨rfl,rfl⟩;refine bD ?_;iterate 2 refine ad ?_
   refine aD (h5 p p ah) ?_;refine ad ?_;refine af ?_;exact aj (C:=own 253 1 (ak b) J.length R (flat J)::W) p (.tmp p .nil) aq ⟨(ak b),R,rfl,λ_=>⟨b,rfl⟩,rfl⟩
end eO
namespace eO
def ax.hv:ax->b9
 | .nil=>⟨0,0,0,0⟩
 | .node _ _ _ _ j _ _=>j
def ax.kJ:ax->List ax
 | .nil=>[]
 | .node _ _ _ _ _ D C=>[D,C].filter λj=>j.addr.isSome
def ax.kl(D:b9)(j:ax):List ax:=j.kJ.filter λC=>f4 D C.hv
def ax.pF(C:b9):ax->List Int
 | .nil=>[]
 | .node _ j g _ _ _ _=>if !g&&C.has j.x j.y then[j.id]else[]
def ax.kk(j:b9):ax->Nat
 | .nil=>0
 | .node _ _ _ _ _ D C=>1+((if f4 j D.hv then D.kk j else 0)+(if f4 j C.hv then C.kk j else 0))
def ax.ih(j:b9):ax->List Int
 | .nil=>[]
 | .node b G g E I D C=>(ax.node b G g E I D C).pF j++((if f4 j D.hv then D.ih j else[])++(if f4 j C.hv then C.ih j else[]))
def ei(j:b9)(l:List ax):Nat:=(l.map (ax.kk j)).sum
def iF(j:b9)(l:List ax):List Int:=l.flatMap (ax.ih j)
theorem Ex(j l C):ei j (l++C)=ei j l+ei j C:=by simp[ei]
theorem DF(j l C):iF j (l++C)=iF j l++iF j C:=by simp[iF]
theorem Ez(j l):ei j l.reverse=ei j l:=by simp[ei,List.sum_reverse]
theorem Mh(C j):ei C ((([j].filter λD=>D.addr.isSome)).filter λD=>f4 C D.hv)=if f4 C j.hv then j.kk C else 0:=by
 cases j with
 |nil=>simp[ax.addr,ei,ax.kk]
 |node b J g I K G E=>
  simp[ax.addr,Ih,nY,if_true];split<;>simp[ei]
theorem KJ(C j):iF C ((([j].filter λD=>D.addr.isSome)).filter λD=>f4 C D.hv)=if f4 C j.hv then j.ih C else[]:=by
 cases j with
 |nil=>simp[iF,ax.ih]
 |node b J g I K G E=>
  simp[ax.addr,Ih,nY,if_true];split<;>simp[iF]
theorem ax.pR{C}{j:ax}(h:j.addr.isSome=true):j.kk C=1+ei C (j.kl C):=by
 cases j with
 |nil=>cases h
 |node b J g I K E D=>
  show _=1+ei C (([E,D].filter λG=>G.addr.isSome).filter _);rw[show[E,D]=[E]++[D]from rfl,l9,l9,Ex,Mh,Mh];rfl
theorem ax.TU{j}{C:ax}(h:C.addr.isSome=true):C.ih j=C.pF j++iF j (C.kl j):=by
 cases C with
 |nil=>rfl
 |node b J g I K E D=>
  show _=ax.pF j _++iF j (([E,D].filter λG=>G.addr.isSome).filter _);rw[show[E,D]=[E]++[D]from rfl,l9,l9,DF,KJ,KJ];rfl
theorem ax.Al(j):∀C:ax,C.kk j<=C.bi
 | .nil=>bv _
 | .node b I g G J E D=>by
  have aa:=E.Al j;have ab:=D.Al j;simp[ax.kk,ax.bi];grind
def ax.LX(j:ax):j.kJ.length<=2:=by
 cases j with
 |nil=>trivial
 |node b G g E I D C=>exact hY _ _
def ax.W6(C)(j:ax):(j.kl C).length<=2:=h0 (hY _ _) j.LX
def ax.LY{j C:ax}(h:C∈j.kJ):C.addr.isSome=true/\C.bi<=j.bi:=by
 cases j with
 |nil=>trivial
 |node b I g G J E D=>
  obtain⟨aa,ab⟩:=gN.1 h;refine⟨ab,?_⟩;simp[ax.bi];grind
def ax.W7{D}{C j:ax}(h:j∈C.kl D):j.addr.isSome=true/\j.bi<=C.bi:=ax.LY (gN.1 h).1
theorem ax.ED{C}{j:ax}(h:j.addr.isSome=true):1<=j.kk C:=by rw[ax.pR h];simp
def sv{j}:∀{l},(∀x∈l,x.addr.isSome=true)->l.length<=ei j l
 | [],_=>bv _
 |x::l,h=>by
  have aa:=sv (j:=j) λy C=>h y (List.mem_cons_of_mem _ C);grind[ax.ED,ei,fc]
theorem ax.ok.none{C:b9}{j:ax}{J:Nat}(h:j.ok J)(E:f4 C j.hv=false):(j.au.filter (dI C)).map (·.id)=[]:=by
 cases j with
 |nil=>rfl
 |node b O g K Q I D=>
  have:(ax.node b O g K Q I D).au.filter (dI C)=[]:=lA.2 λq G=>by
   have:=WW E (h.lY _ _ _ _ _ _ _ p q ((ax.nK _).subset G));simp_all
  simp_all
theorem ax.ok.fd{w:b9}:∀{j:ax}{G:Nat},j.ok G->j.ih w=(j.au.filter (dI w)).map (·.id)
 | .nil,_,_=>rfl
 | .node b O g K R E C,G,h=>by
  have aa:=h.2.2.1.fd (w:=w);have ab:=h.2.2.2.fd (w:=w);have I:(if f4 w E.hv then E.ih w else[])=(E.au.filter (dI w)).map (·.id):=by
   cases D:f4 w _ with
   |true=>assumption
   |false=>rw[if_neg Q,h.2.2.1.none D]
  have J:(if f4 w C.hv then C.ih w else[])=(C.au.filter (dI w)).map (·.id):=by
   cases D:f4 w _ with
   |true=>assumption
   |false=>rw[if_neg Q,h.2.2.2.none D]
  unfold ax.ih;rw[I,J];simp[ax.au,List.map_append]
  congr 1
  unfold ax.pF dI;grind
def sb{I G W}{K:Option Nat}{U R Q J O E D}(Z:aY W E=some (j D)):
  bf I G W ⟨K,.call ⟨.builtin .max,#[E,.const (j 0)],R⟩,U,Q,J,O⟩ (j (D.toNat:Nat)):=by
 have h:=uu (P:=I) (L:=G) (d:=K) (aQ:=U) (K:=R) (a3:=Q) (a2:=J) (a0:=O) (x:=E) (y:=.const (j 0)) Z p;have Y:max D 0=((D.toNat:Nat):Int):=C;rwa[Y]at h
@[reducible] def pK (s:Nat) (C:b9) (E:bA) (D G I:Nat):List Value:=[R s,j C.cB,j C.cI,j C.cC,j C.cx,.bool true,.slice E D G,j (D:Nat),j (I:Nat)]
def hC(b s:Nat)(C:b9)(ids:List Int)(j:Nat):aO:=λh=>∃y:Option Addr×Nat,(0<ids.length->∃b,y.1=(ak b))/\G [ae b 578 (pK s C y.1 ids.length y.2 j),own 3 1 y.1 ids.length y.2 (flat ids)] h
def LT{b s D E ids M I}(h:G (hC b s E ids D::M) I):∃C j,(0<ids.length->∃b,C=(ak b))/\ids.length<=j/\j<=maxLen/\G (ae b 578 (pK s E C ids.length j D)::own 3 1 C ids.length j (flat ids)::M) I:=by
 obtain⟨aa,ab,K,R,U,⟨⟨C,j⟩,Q,q⟩,W⟩:=h;have J:=own.facts (L:=[]) q.tail;exact⟨C,j,Q,J.2.1,J.2.2.1,G.head (A:=λh=>h=aa) (N:=[ae b 578 (pK s E C ids.length j D),own 3 1 C ids.length j (flat ids)]) (λ_ O=>O▸q) ⟨aa,ab,K,R,U,rfl,W⟩⟩
def D.D9{I J args G b s O E ids post}
  (W:∀C j,(0<ids.length->∃b,C=(ak b))->ids.length<=j->j<=maxLen->D I J args (ae b 578 (pK s E C ids.length j O)::own 3 1 C ids.length j (flat ids)::G) post):D I J args (hC b s E ids O::G) post:=λg F E K=>by
 obtain⟨C,j,aa,ab,Q,R⟩:=LT K.s.swap;exact W C j aa ab Q g F E ⟨K.g,R.perm (e4 (l₁:=[_,_]))⟩
def Ce{J D g I E R G b s O Q ids}
  (h:∀C j,(0<ids.length->∃b,C=(ak b))->ids.length<=j->j<=maxLen->bc J D g I E R (ae b 578 (pK s Q C ids.length j O)::own 3 1 C ids.length j (flat ids)::G)):bc J D g I E R (hC b s Q ids O::G):=λU v Z K=>by
 obtain⟨C,j,aa,ab,W,Y⟩:=LT K.s;exact h C j aa ab W U v Z ⟨K.g,Y⟩
def oj{D M b s C E n j J ids I}(Q:ids.length=n)(R:flat ids=I)(O:0<n->∃b,j=(ak b))(K:∀h,G D h->G (ae b 578 (pK s J j n C E)::own 3 1 j n C I::M) h):∀h,G D h->G (hC b s J ids E::M) h:=λh U=>by
 subst Q R;exact G.fold (N:=[_,_]) (λh q=>⟨(j,C),O,q⟩) (K h U)
structure iz (D:b9) (G:List Int) (E:aG) (l:List ax) (ids:List Int) (C:Nat):Prop where
 rest:C=ei D l
 small:C<=60000
 ok:∀j∈l,ck E j/\j.addr.isSome=true/\j.bi<=1000
 ids:ids++iF D l.reverse=G
theorem ck.kJ{C j E}(h:ck C j)(D:E∈j.kJ):ck C E:=by
 cases j with
 |nil=>simp[ax.kJ]at D
 |node b K g J O I G=>
  have:=(gN.1 D).1;simp only[cQ,List.not_mem_nil,or_false]at this;rcases this with rfl|rfl
  ·exact h.2.1
  ·exact h.2.2
theorem iz.len{E j C l ids D}(h:iz E j C l ids D)(G:j.length<=1000000):ids.length<=1000000:=by
 have:=congrArg List.length h.ids;rw[bP]at this;omega
theorem iz.next{j K G l D ids I}(h:iz j K G (l++[D]) ids I):
  ∃J,I=J+1/\iz j K G (l++(D.kl j).reverse) (ids++D.pF j) J:=by
 have aa:=h.rest;have ab:=h.small;obtain⟨W,O,Z⟩:=h.ok D (cT.2 (.inr (List.mem_singleton.2 p)));have Y:ei j (l++[D])=ei j l+(1+ei j (D.kl j)):=by rw[Ex,<- ax.pR O];simp[ei]
 have Q:iF j (l++[D]).reverse=D.pF j++(iF j (D.kl j)++iF j l.reverse):=by
  rw[mY,List.reverse_singleton,DF];have:iF j [D]=D.ih j:=by simp[iF]
  rw[this,ax.TU O,ho]
 have R:iF j (l++(D.kl j).reverse).reverse=iF j (D.kl j)++iF j l.reverse:=by rw[mY,List.reverse_reverse,DF]
 have U:ei j (l++(D.kl j).reverse)=ei j l+ei j (D.kl j):=by rw[Ex,Ez]
 refine⟨ei j l+ei j (D.kl j),C,U.symm,C,λy E=> ?_,?_⟩
 ·rcases cT.1 E with E|E
  ·exact h.ok y (cT.2 (.inl E))
  ·have E:=List.mem_reverse.1 E;have:=ax.W7 E;exact⟨W.kJ (gN.1 E).1,this.1,C⟩
 ·rw[R,<- h.ids,Q];simp only[ho]
theorem iz.done{E J G l ids D}(j:iz E J G l ids D):(l.length:Int)=0<->D=0:=by
 have aa:=j.rest;have ab:=sv (j:=E) (l:=l) λK I=>(j.ok K I).2.1;constructor
 ·intro h;have:l=[]:=e3 C;subst this;rw[aa];rfl
 ·intro h;omega
def iz.end_{E C D l ids}(j:iz E C D l ids 0):l=[]/\ids=C:=by
 have aa:l=[]:=e3 (by have:=j.done.2 p;omega);subst aa;exact⟨rfl,by simpa[iF]using j.ids⟩
def iz.start{w C j}(h:ck C j)(E:j.bi<=1000)(G:j.addr.isSome=true):iz w (j.ih w) C [j] [] (j.kk w):=
 ⟨by simp[ei],by have:=j.Al w;omega,λI D=>by simp at D;subst D;exact⟨h,G,E⟩,by simp[iF]⟩
end eO
namespace eO
attribute [local irreducible] G
section
variable{P:Program}{L:aG}{J:bW}{d:Option Nat}{T aQ:TypeId}{a3:String}{a2:Array Edge}{a0:Option (Nat×Bool)}{x:Operand}
def TP{b o n K C}[j:lH P T (n,C,K)](I:aY J x=some (.pointer (some ⟨b,o,none⟩)))(Q:0<n):
  bf P L J ⟨d,.slice T x none none none,aQ,a3,a2,a0⟩ (.slice (some ⟨b,o,none⟩) n n):=λO W E _=>by
 obtain⟨G,U,D,R⟩:=j.spec;simp[execOp,E.eval I];simp[Instr.sliceAt,Instr.sliceBounds,run_underlying G,sizeOf,typeInfo,D,Addr.add_lit,Instr.sureAddr]
end
def WG(b G C Q U O J j)(h:ck j (.node b G C Q U O J)):D E 709 #[R b] j λv I=>v=.tuple #[G.v,.bool (!C)]/\I=j:=by
 obtain⟨aH,aP,Z,ae,ag,ak,al,am,ao,Y⟩:=h.f;refine ap λg F=> ?_;refine aS λW=> ?_;refine hr 0 (aE [0,1,2,3,4,5,6,7,8] (.e 9 (.q 10 .nil))) ?_;iterate 8 refine ai ?_
 refine dd p (cL p) ?_;refine an (a1 p p p (f1 p p p p cd) ?_);rintro _ _ ⟨rfl,rfl⟩;refine bg ?_;refine K ?_
 all_goals
  refine aF ?_;refine aj p (.cell p (c7 bS) (.tmp p .nil)) az ⟨rfl,rfl⟩
def WD(b Q I O C K J j)(h:ck j (.node b Q I O C K J)):D E 719 #[R b] j λv G=>v=C.v/\G=j:=by
 obtain⟨aH,aP,Y,Z,ae,ag,ak,al,am,W⟩:=h.f;refine ap λg F=> ?_;refine aU λU=> ?_;refine bD ?_;iterate 2 refine ad ?_
 refine dG ?_;refine aJ ?_;iterate 4 refine ad ?_
 refine cF ?_;refine af ?_;refine aj p (.cell p (c7 bS) .nil) az ⟨rfl,rfl⟩
def Vn(j:ax)(C):D E 717 #[.pointer j.addr] C λv G=>v=.bool (!j.addr.isSome)/\G=C:=by
 have I:(!j.addr.isSome)=j.addr.isNone:=Q;rw[I];refine ap λg F=> ?_;refine af ?_;refine aj p (.tmp p .nil) az ⟨rfl,rfl⟩
def WE(b O J K U C j I)(h:ck I (.node b O J K U C j)):D E 711 #[R b] I λv ag=>Made 253 (ax.kJ (.node b O J K U C j)) I v ag:=by
 obtain⟨aH,aP,ay,aA,ar,aC,aE,aG,aK,av⟩:=h.f;have au:Rd I _ 2 [C,j]:=⟨rfl,λ_=>⟨b,0+4,rfl,λap v ao=>ar.2 ap v ao⟩⟩;refine bH λg F=> ?_;refine aJ ?_;refine ad ?_;refine bD ?_;iterate 2 refine ad ?_
 refine dG ?_;refine aJ ?_;iterate 3 refine ad ?_
 refine aD (TP p Q) ?_;refine GE (aw p (tE _ _ _ _ _ cr Q)) ?_;rintro _ _ ⟨ae,ak,rfl,am,rfl⟩;refine GE (aw p (D.pick aI (yu 717 [] [] (λG=>!G.addr.isSome) ae _ ak [C,j] _ am p Q (λG _=>Vn G _)))) ?_;rintro _ _ ⟨W,Y,rfl,Z,rfl⟩;refine ad ?_;refine af ?_;have al:([C,j].filter λG=>!(!G.addr.isSome))=ax.kJ (.node b O J K U C j):=by
  show _=[C,j].filter λG=>G.addr.isSome;simp
 rw[al]at Z ⊢;exact aj (C:=own 253 1 W (ax.kJ (.node b O J K U C j)).length Y (flat (ax.kJ (.node b O J K U C j)))::I) p (.tmp p .nil) aq ⟨W,Y,rfl,Z,rfl⟩
def DE(b C G J)(h:aB J b (0+1) 4 [j C.cB,j C.cI,j C.cC,j C.cx])(ag:ck J G)(au:G.addr.isSome=true):
  D E 712 #[R b,.pointer G.addr] J λv ao=>v=.bool (!f4 C G.hv)/\ao=J:=by
 cases G with
 |nil=>cases au
 |node Q am Y al I ak ae=>
  have K:=QS C I;have Z:=λM h=>WD Q am Y al I ak ae M h;have ar:(ax.node Q am Y al I ak ae).hv=I:=rfl;rw[ar];generalize f4 C I=av at*
  refine ap λg F=> ?_;refine aL ?_;refine aW (aE [0,1,2,3,4] (.hc 5 (.hc 6 (aE [7,8,9] (.e 10 (.e 11 (.q 12 .nil)))) 10 (.e 6 (aE [7,8,9] (.e 11 (.q 12 .nil))))) 10 (.e 5 (.e 6 (aE [7,8,9] (.e 11 (.q 12 .nil))))))) ?_;iterate 5 refine ai ?_
  refine h1 ?x1243_0 ?x1243_1
  case' x1243_1=>
   refine a1 p p p r2 ?_;rintro _ _ ⟨U,rfl,rfl⟩;refine cM ?_;refine cU p p (Z _ (by repeat' first|exact ag|apply ck.skip)) ?_;refine an (a1 p p p (aw p (K _)) ?_);rintro _ _ ⟨W,rfl,rfl⟩;refine cM ?_;iterate 3 refine ai ?_
   refine an (dh O p p p (f1 p p p p cd) ?_);rintro _ _ ⟨rfl,rfl⟩;refine ai ?_;refine dl ?_
  case' x1243_0=>
   refine a1 p p p (aw p (Z _ (by repeat' first|exact ag|apply ck.skip))) ?_;rintro _ _ ⟨rfl,rfl⟩;refine cM ?_;refine h1 ?x1244_0 ?x1244_1
   case' x1244_1=>
    refine a1 p p p r2 ?_;rintro _ _ ⟨U,rfl,rfl⟩;refine cM ?_;refine an (a1 p p p (aw p (K _)) ?_);rintro _ _ ⟨W,rfl,rfl⟩;refine cM ?_;iterate 3 refine ai ?_
    refine an (dh O p p p (f1 p p p p cd) ?_);rintro _ _ ⟨rfl,rfl⟩;refine ai ?_;refine dl ?_
   case' x1244_0=>
    refine a1 p p p (aw p (K _)) ?_;rintro _ _ ⟨W,rfl,rfl⟩;refine cM ?_;iterate 3 refine ai ?_
    refine hu λU=> ?_;refine an (dh O p p p (f1 p p p p cd) ?_);rintro _ _ ⟨rfl,rfl⟩;refine ai ?_;refine dl ?_
  all_goals
   refine aJ ?_;refine ad ?_;refine aD (cL p) ?_;exact dq
def CV{b s C D I E G M}:aB (ae b 578 (pK s C D I E G)::M) b (0+1) 4 [j C.cB,j C.cI,j C.cC,j C.cx]:=
 have h:aB (ae b 578 (pK s C D I E G)::M) b 0 9 (pK s C D I E G):=aB.ae p
 pM (G:=1) h p (λK v J=>by grind)
def Vh(b s aH G ids au ae)(aG:ck ae au)(a6:au.addr.isSome=true)(be:ids.length<=1000000):
  D E 705 #[R b,.pointer au.addr] (hC b s G ids aH::ae) λa7 aY=>Made 253 (au.kl G) (hC b s G (ids++au.pF G) aH::ae) a7 aY:=by
 cases au with
 |nil=>cases a6
 |node ag I U am ao al ak=>
  have a3:=λM h=>WG ag I U am ao al ak M h;have aK:=λM h=>WE ag I U am ao al ak M h;have ar:∀j∈ax.kJ _,ck ae j/\j.addr.isSome=true:=λj J=>⟨aG.kJ J,(ax.LY J).1⟩;have bf:=ax.LX (.node ag I U am ao al ak);have a1:ax.pF G (.node ag I U am ao al ak)=if !U&&G.has _ _ then[I.id]else[]:=rfl
  have a2:ax.kl G (.node ag I U am ao al ak)=(ax.kJ (.node ag I U am ao al ak)).filter λj=>!(!f4 G j.hv):=by
   simp[ax.kl]
  rw[a1,a2];generalize ax.kJ (.node ag I U am ao al ak)=W at*
  have aV:=Iy G I;generalize G.has I.x I.y=a5 at*
  refine D.D9 λaO aP aQ bb bc=> ?_;refine ap λg F=> ?_;refine a9 (a3 _ (by repeat' first|exact aG|apply ck.skip)) ?_;refine aS λba=> ?_;refine aL ?_;cases U with
  |true=>
   refine aW (aE [0,1,2,3,4,5,6] (.e 7 (.q 8 .nil))) ?_;iterate 7 refine ai ?_
   refine an (gy p p p ⟨_,rfl,rfl⟩ p ?_);refine ai ?_;refine dl ?_
   all_goals
    refine K ?_;refine GE (aw p (aK _ (by repeat' first|exact aG|apply ck.skip))) ?_;rintro _ _ ⟨av,ay,rfl,aA,rfl⟩;iterate 2 refine ad ?_
    refine GE (aw p (D.pick aI (yu 712 [R b] [] (λj=>!f4 G j.hv) av _ ay W _ aA p C (λj J=>DE b G j _ (by repeat' first|exact CV|apply aB.skip) (by repeat' first|exact(ar j J).1|apply ck.skip) (ar j J).2)))) ?_;rintro _ _ ⟨Y,Z,rfl,aC,rfl⟩;refine ad ?_;refine af ?_;exact aj (C:=own 253 1 Y (W.filter λj=>!(!f4 G j.hv)).length Z (flat (W.filter λj=>!(!f4 G j.hv)))::hC b s G (ids++[]) aH::ae) p (.tmp p .nil) (by(repeat first|exact bo|refine oj (C:=aP) (j:=aO) (n:=ids.length) (I:=flat ids) Q Q aQ ?_|refine b7 ?_)<;>fail) ⟨Y,Z,rfl,aC,rfl⟩
  |false=>
   cases a5 with
   |false=>
    refine aW (aE [0,1,2,3,4,5,6] (.e 7 (.q 8 .nil))) ?_;iterate 7 refine ai ?_
    refine an (f9 p p p ⟨_,rfl,rfl⟩ p (aw p (aV _)) ?_);rintro _ _ ⟨rfl,rfl⟩;refine cM ?_;refine ai ?_;refine dl ?_
    all_goals
     refine K ?_;refine GE (aw p (aK _ (by repeat' first|exact aG|apply ck.skip))) ?_;rintro _ _ ⟨av,ay,rfl,aA,rfl⟩;iterate 2 refine ad ?_
     refine GE (aw p (D.pick aI (yu 712 [R b] [] (λj=>!f4 G j.hv) av _ ay W _ aA p C (λj J=>DE b G j _ (by repeat' first|exact CV|apply aB.skip) (by repeat' first|exact(ar j J).1|apply ck.skip) (ar j J).2)))) ?_;rintro _ _ ⟨Y,Z,rfl,aC,rfl⟩;refine ad ?_;refine af ?_;exact aj (C:=own 253 1 Y (W.filter λj=>!(!f4 G j.hv)).length Z (flat (W.filter λj=>!(!f4 G j.hv)))::hC b s G (ids++[]) aH::ae) p (.tmp p .nil) (by(repeat first|exact bo|refine oj (C:=aP) (j:=aO) (n:=ids.length) (I:=flat ids) Q Q aQ ?_|refine b7 ?_)<;>fail) ⟨Y,Z,rfl,aC,rfl⟩
   |true=>
    refine aW (aE [0,1,2,3,4,5,6] (.e 7 (.q 8 .nil))) ?_;iterate 7 refine ai ?_
    refine an (f9 p p p ⟨_,rfl,rfl⟩ p (aw p (aV _)) ?_);rintro _ _ ⟨rfl,rfl⟩;refine cM ?_;refine ai ?_;refine dl ?_
    all_goals
     refine K ?_;refine aW (aE [0,1,2,3,4,5,6] (.e 7 (.e 8 (.q 9 (.q 10 (.e 11 .nil)))))) ?_;iterate 7 refine ai ?_
     refine hu λa8=> ?_;refine an (dh O p p p (bx p p aI cn (cS p) aZ Q ah ah) ?_);rintro _ _ ⟨aX,a0,rfl,bd,bg,a4,rfl⟩;iterate 2 refine ai ?_
     refine an (cj O p p p (c5 p p p cd) ?_);rintro _ _ ⟨rfl,rfl⟩;refine K ?_;refine GE (aw p (aK _ (by repeat' first|exact aG|apply ck.skip))) ?_;rintro _ _ ⟨av,ay,rfl,aA,rfl⟩;iterate 2 refine ad ?_
     refine GE (aw p (D.pick aI (yu 712 [R b] [] (λj=>!f4 G j.hv) av _ ay W _ aA p C (λj J=>DE b G j _ (by repeat' first|exact CV|apply aB.skip) (by repeat' first|exact(ar j J).1|apply ck.skip) (ar j J).2)))) ?_;rintro _ _ ⟨Y,Z,rfl,aC,rfl⟩;refine ad ?_;refine af ?_;exact aj (C:=own 253 1 Y (W.filter λj=>!(!f4 G j.hv)).length Z (flat (W.filter λj=>!(!f4 G j.hv)))::hC b s G (ids++[I.id]) aH::ae) p (.tmp p .nil) (by(repeat first|exact bo|refine oj (C:=a0) (j:=aX) (n:=ids.length+1) (I:=flat ids++flat [I.id]) Q (by simp[flat]) a4 ?_|refine b7 ?_)<;>fail) ⟨Y,Z,rfl,aC,rfl⟩
@[reducible] def LV (b s:Nat) (D:b9) (G:Nat) (I:List Int) (E:aG):gz (List Int)where
 V:=λC=>hC b s D C G
 ok:=λj C=>(ck E j/\j.addr.isSome=true)/\C.length<=1000000
 kids:=λj=>j.kl D
 g8:=λj C=>C++j.pF D
 f:=705
 dt:=[R b]
 d5:=[]
 dL:=iz D I E
def Vg(b s G J O I)(R:O.length<=1000000):(LV b s G J O I).Good I where
 pq:=inferInstanceAs (b4 E 705)
 qe:=λM C D Q j=>Vh b s J G D C M (j.1.1.mono Q) j.1.2 j.2
 next:=λl C D K h=>h.next
 stop:=λD K h=>by rw[h.rest];rfl
 cap:=λl D K h=>⟨by
  have:=sv (j:=G) λC j=>(h.ok C j).2.1;have:=h.rest;have:=h.small;omega,λC j=>⟨⟨⟨(h.ok C j).1,(h.ok C j).2.1⟩,h.len R⟩,C.W6 G⟩⟩
def jq(b:Nat)(j:b9)(I:List Int)(C:aG)(E D:Nat):aO:=λh=>∃y:Nat×List ax×List Int,iz j I C y.2.1 y.2.2 E/\G [hC b y.1 j y.2.2 D,ba y.1 65536 y.2.1] h
def D.jq{K:Program}{O:FuncId}{args:Array Value}{J C:aG}{b G E:Nat}{j:b9}{I:List Int}{post:Value->List aO->Prop}
  (W:∀s l Q,iz j I C l Q G->D K O args (hC b s j Q E::ba s 65536 l::J) post):D K O args (jq b j I C G E::J) post:=
 D.open (ι:=Nat×List ax×List Int) (E:=λy=>iz j I C y.2.1 y.2.2 G) (J:=λy=>[hC b y.1 j y.2.2 E,ba y.1 65536 y.2.1]) (λ_ h=>h) λy R=>W y.1 y.2.1 y.2.2 R
def ws{D M E b s J I C K l j}(Q:iz C K E l j J)(O:∀h,G D h->G (hC b s C j I::ba s 65536 l::M) h):∀h,G D h->G (jq b C K E J I::M) h:=λh R=>
 G.fold (N:=[_,_]) (λh q=>⟨(s,l,j),Q,q⟩) (O h R)
def Vd(K C j G)(h:aR G ⟨K,0+0,none⟩ (.pointer C.addr))(al:ck G C)(am:C.bi<=1000):
  D E 439 #[R K,j.v,.bool true] G λav Q=>∃O,av=(R O)/\Q=jq O j (C.ih j) G (C.kk j) 0::G:=by
 refine ap λg F=> ?_;refine aS λaA=> ?_;refine GE (aw p (pb _)) ?_;rintro _ _ ⟨s,rfl,rfl⟩;iterate 5 refine ad ?_
 refine bD ?_;refine ad ?_;refine bw p (U8 K C _ (by repeat' first|exact h|apply aR.skip)) ?_;refine ad ?_;refine bD ?_;iterate 2 refine ad ?_
 refine aL ?_;cases C with
 |nil=>
  refine iT ?_;refine aJ ?_;iterate 4 refine ad ?_
  refine aU λI=> ?_;refine ad ?_;refine af ?_;refine b5 (own.nil_ 3 1) ?_;have J:iz j (ax.nil.ih j) G [] [] (ax.nil.kk j):=⟨rfl,bu _,(λ_ h=>by cases h),rfl⟩;refine aj (C:=jq I j (ax.nil.ih j) G (ax.nil.kk j) 0::G) p (.tmp p .nil) ?_ ⟨I,rfl,rfl⟩;apply bR;focus ((repeat' first|exact aN.here|apply aN.skip|apply aN.bE);done)
  refine ws (s:=s) J ?_;refine oj (C:=0) (j:=none) (n:=0) (I:=[]) p p (λh=>absurd h (dc 0)) ?_;exact aq
 |node b au W ar ay ao ag=>
  have J:=iz.start (w:=j) al am p;generalize Y:ax.node b au W ar ay ao ag=C at*
  have Z:C.addr=(ak b):=by rw[<- Y];rfl
  refine aF ?_;refine cD p (by rw[Z];rfl) ?_;refine aJ ?_;iterate 2 refine ad ?_
  refine aU λU=> ?_;refine bw p (D.pick aI (rO s (ak U) 1 1 [] [C] _ (by repeat' first|exact aM.ae p|apply aM.skip) bs)) ?_;refine bD ?_;iterate 4 refine ad ?_
  refine aU λI=> ?_;refine ad ?_;refine af ?_;refine b5 (own.nil_ 3 1) ?_;refine aj (C:=jq I j (C.ih j) G (C.kk j) 0::G) p (.tmp p .nil) ?_ ⟨I,rfl,rfl⟩;apply bR;focus ((repeat' first|exact aN.here|apply aN.skip|apply aN.bE);done)
  refine ws (s:=s) J ?_;refine oj (C:=0) (j:=none) (n:=0) (I:=[]) p p (λh=>absurd h (dc 0)) ?_;exact aq
def Vb(J C G j)(h:aR j ⟨J,0+0,none⟩ (.pointer C.addr))(Q:ck j C)(U:C.bi<=1000):
  D E 354 #[R J,G.v] j λW K=>∃I,W=(R I)/\K=jq I G (C.ih G) j (C.kk G) 0::j:=by
 refine bH λg F=> ?_;refine aJ ?_;refine aU λO=> ?_;refine ad ?_;refine bD ?_;iterate 2 refine ad ?_
 refine GE (aw p (D.frame [ae O 23 _,F] (Vd J C G j h Q U) (λ_ s=>s))) ?_;rintro _ _ ⟨_,⟨I,rfl,rfl⟩,rfl⟩;refine ad ?_;refine af ?_;exact aj rfl (.tmp p .nil) aq ⟨I,rfl,rfl⟩
def Vf(b s O J I ae l Z Y Q n)(ak:iz I ae Y l Z O)(aA:∀h,G Q h->G Y h)(aC:ae.length<=1000000)(aW:J<=1000000000):
  D E 701 #[R b,j n] (hC b s I Z J::ba s 65536 l::Q) λv am=>∃U W,v=.tuple #[j (min n.toNat O:Nat),.bool (decide (O-min n.toNat O=0))]/\iz I ae Y U W (O-min n.toNat O)/\am=hC b s I W (J+min n.toNat O)::ba s 65536 U::Q:=by
 have aX:=ak.small;refine bH λg F=> ?_;refine aJ ?_;iterate 2 refine ad ?_
 refine bD ?_;iterate 2 refine ad ?_
 refine dG ?_;refine b5 (j:=hC b s I Z J::ba s _ l::F::Q) aq ?_;refine Ce λaE ao au aK aP=> ?_;refine aJ ?_;iterate 5 refine ad ?_
 refine aD (sb p) ?_;iterate 2 refine ad ?_
 refine GE (aw p (D.pre (M:=ba s 65536 l::hC b s I Z J::F::Q) (by(repeat first|exact bo|refine oj (C:=ao) p p au ?_|refine b7 ?_)<;>fail) (rR (LV b s I J ae Y) s n.toNat O l Z (F::Q) Y (Vg b s I J ae Y aC) (λh ag=>aA h ag.tail) ak C))) ?_;rintro _ _ ⟨U,W,rfl,ay,rfl⟩;iterate 5 refine ad ?_
 refine bD ?_;iterate 2 refine ad ?_
 refine dG ?_;refine b5 (j:=hC b s I W J::ba s 65536 U::F::Q) (λ_ ag=>ag.swap) ?_;refine Ce λaG ap av aO aQ=> ?_;refine aJ ?_;iterate 8 refine ad ?_
 refine cF ?_;refine aL ?_;refine b5 (j:=hC b s I W (J+min n.toNat O)::ba s 65536 U::F::Q) (by(repeat first|exact bo|refine oj (C:=ap) p p av ?_|refine b7 ?_)<;>fail) ?_;have al:=ay;refine Ce λaH ar ax aS aV=> ?_;refine K ?_;refine a9 (D.pick aI (m5 s U _)) ?_;refine af ?_;rw[decide_eq_decide.2 al.done];exact aj (C:=hC b s I W (J+min n.toNat O)::ba s 65536 U::Q) p (.tmp p (.tmp p .nil)) (by(repeat first|exact bo|refine oj (C:=ar) p p ax ?_|refine b7 ?_)<;>fail) ⟨U,W,rfl,al,rfl⟩
def Vc(b C K Q O J I n)(ag:∀h,G I h->G J h)(ak:O.length<=1000000)(al:K<=1000000000):
  D E 701 #[R b,j n] (jq b Q O J C K::I) λv U=>v=.tuple #[j (min n.toNat C:Nat),.bool (decide (C-min n.toNat C=0))]/\U=jq b Q O J (C-min n.toNat C) (K+min n.toNat C)::I:=
 D.jq λs l am Z=>(Vf b s C K Q O l am J I n Z ag ak al).dR λv U ap ⟨ar,au,W,ae,Y⟩ h=>⟨_,⟨W,rfl⟩,ws ae (λ_ ao=>ao) _ (Y▸h)⟩
def U9(b j I K J G C):D E 698 #[R b] (jq b K J G j I::C) λv Q=>v=.bool (decide (j=0))/\Q=jq b K J G j I::C:=by
 refine D.jq λs l ag O=> ?_;refine D.D9 λY U W Z ae=> ?_;refine ap λg F=> ?_;refine br p p p p ?_;refine a9 (D.pick aI (m5 s l _)) ?_;refine af ?_;rw[decide_eq_decide.2 O.done];refine aj (C:=jq b K J G j I::C) p (.tmp p .nil) ?_ ⟨rfl,rfl⟩;apply bR;focus ((repeat' first|exact aN.here|apply aN.skip|apply aN.bE);done)
 refine ws (s:=s) O ?_;exact(by(repeat first|exact bo|refine oj (C:=U) p p W ?_|refine b7 ?_)<;>fail)
def Ve(b s Q U j O)(ao:j.length<=100000):D E 699 #[R b] (hC b s U j Q::O) λv Y=>
  ∃I G,v=.slice I j.length G/\((0<j.length->∃b,I=(ak b))/\j.length<=G/\G<=maxLen)/\Y=own 3 1 I j.length G (flat (bj j))::hC b s U j Q::O:=by
 refine D.D9 λJ K W ar au=> ?_;have ae:∀M:List aO,Rd (own 3 1 J _ K _::M) J _ j:=λM=>aM.own (bU _) W;refine ap λg F=> ?_;refine GE (aw p (yI J j.length K _)) ?_;rintro _ _ ⟨Z,rfl,rfl⟩;refine GE (aw p (D.pick aI (yH Z J j.length K j _ (by repeat' first|exact ae _|apply Rd.skip) C))) ?_;rintro _ _ ⟨I,G,rfl,⟨ag,al,am⟩,rfl⟩;refine ad ?_;refine af ?_;exact aj (C:=own 3 1 I j.length G (flat (bj j))::hC b s U j Q::O) p (.tmp p .nil) (by(repeat first|exact bo|refine oj (C:=K) p p W ?_|refine b7 ?_)<;>fail) ⟨I,G,rfl,⟨ag,al,am⟩,rfl⟩
def Va(b J K j U O)(ae:j.length<=100000):D E 699 #[R b] (jq b K j U 0 J::O) λv Q=>
  ∃G C,v=.slice G j.length C/\((0<j.length->∃b,G=(ak b))/\j.length<=C/\C<=maxLen)/\Q=own 3 1 G j.length C (flat (bj j))::jq b K j U 0 J::O:=
 D.jq λs l ag Y=>by
  obtain⟨W,I⟩:=Y.end_;subst I;exact(Ve b s J K ag _ ae).dR λv Q am ⟨G,C,W,I,Z⟩ h=>⟨_,⟨G,C,W,I,rfl⟩,(nm (ws Y (λ_ al=>al))) _ (Z▸h)⟩
end eO
end
end Go.Proofs.YtioamnghkmcbbaaGreat
