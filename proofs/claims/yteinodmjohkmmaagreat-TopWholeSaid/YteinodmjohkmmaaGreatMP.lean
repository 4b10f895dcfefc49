/- TopWhole: a part of its proof. -/
import Derived.Test.YteinodmjohkmmaaGreatMA3
set_option linter.all false
set_option maxRecDepth 100000
set_option maxHeartbeats 4000000
open Bool renaming false->al,not_eq_false'->gm,true->ag
open Go renaming Addr->cg,Program->bk,Value->a2
open Go.Op renaming equal->eo
open Go.Result renaming andThen_ok->dG
open Go.Sem renaming run_bind->cM
open List renaming append_nil->dC,drop_sublist->ya,eq_nil_of_length_eq_zero->gX,getElem?_eq_getElem->b8,getElem?_eq_some_iff->h2,length->aa,length_append->b4,length_cons->f0,length_erase_of_mem->vA,length_mergeSort->ky,length_singleton->hg,map_append->ez,map_map->yi,mem_append->b9,mem_cons->df,mem_cons_of_mem->gn,mem_flatMap->kz,mem_iff_getElem?->EZ,mem_of_mem_erase->q3,mem_singleton->oF,perm_append_comm->ep,perm_middle->fA,take_append_drop->kk
open List.Perm renaming refl->vv
open List.cons renaming injEq->so
open Nat renaming lt_or_ge->dZ
open Option renaming none->af,some->ab
open Go.RowKit
namespace Go.Proofs.YteinodmjohkmmaaGreat
noncomputable section
namespace et
attribute [local irreducible] C bh b6
def l7(n:Int):Bool:=decide (1<=n)&&decide (n<=2147483647)
def fe(j:aj):Bool:=l7 j.id&&(ew j.x&&ew j.y)
def zJ(n E):aY 540 #[j n] E (.bool (l7 n)) E:=by
 refine aD ?_;refine h4 p p p (λC=>?y634) (λC=>?n634)
 case' n634=>
  have D:=C;try simp only[jV]at D
  apply dk _;exact⟨by simp_all[cs,l7]<;>(intros;omega),rfl⟩
 case' y634=>
  have D:=C;try simp[gm]at D
  apply dk _;exact⟨by simp_all[cs,l7]<;>(intros;omega),rfl⟩
def HI(D:aj)(E):aY 541 #[D.v] E (.bool (ew D.x&&ew D.y)) E:=by
 refine aD ?_;refine bP λH=>?_;apply dQ (pw _ _) _;refine h4 p p p (λj=>?y644) (λj=>?n644)
 case' n644=>
  have C:=j;try simp[gm]at C
  apply dk _;exact⟨by simp_all[cs],rfl⟩
 case' y644=>
  have C:=j;try simp[gm]at C
  apply aC _;apply a9 (pw _ _) _;refine ba p (.tmp p .nil) a1 ⟨by simp_all[cs],rfl⟩
def yA(D E):aY 490 #[D.v] E (.bool (fe D)) E:=by
 refine aD ?_;refine bP λH=>?_;apply dQ (zJ _ _) _;refine h4 p p p (λj=>?y657) (λj=>?n657)
 case' n657=>
  have C:=j;try simp only[jV]at C
  apply dk _;exact⟨by simp_all[cs,fe],rfl⟩
 case' y657=>
  have C:=j;try simp only[decide_eq_true_eq,decide_eq_false_iff_not,Bool.not_true,Bool.not_false,gm]at C
  apply aC _;apply a9 (HI D _) _;refine ba p (.tmp p .nil) a1 ⟨by simp_all[cs,fe],rfl⟩
def cF(j q:aj):Bool:=decide (up j q<0)
def AP(j q C):aY 316 #[j.v,q.v] C (.bool (cF j q)) C:=by
 refine aD ?_;refine bd λD=>?_;apply bP λE=>?_;apply a9 (J9 j q _) _;exact c8
def V5(C q:aj)(D):aY 369 #[C.v,q.v] D (j (C.cmp q)) D:=by
 refine aD ?_;refine bd λE=>?_;apply bP λH=>?_;apply a9 (N1 C q _) _;exact c8
def aeI(n C)(D:n<=1000000000000):aY 321 #[j (n:Nat)] C (j (3*n/4:Nat)) C:=by
 refine aD ?_
 (first|apply a6 _ _|refine a6 (jC p p aw aw aw) ?_)
 exact fG
inductive b0 where
 |nil
 |node (D s:aj) (C j:b0)
def b0.size:b0->Nat
 | .nil=>0
 | .node _ _ C j=>C.size+1+j.size
@[reducible] def ib (C s:aj) (l h:a3) (n:Nat):List Value:=[j C.id,j C.x,j C.y,j s.id,j s.x,j s.y,.pointer l,.pointer h,j (n:Nat)]
def iG:b0->Option cg->aG
 | .nil,a=>λ_=>a=af
 | .node H s E D,a=>λh=>∃j:Nat×Option cg×Option cg,a=(U j.1)/\C [ah j.1 414 (ib H s j.2.1 j.2.2 (E.size+1+D.size)),iG E j.2.1,iG D j.2.2] h
def Ct{j M}(D:aS j M):aS j (iG .nil af::M):=λh s=>
 C.fold (N:=[]) (λ_ _=>rfl) (D h s)
def Ov{I M J s H E b D j}(O:aS I (ah b 414 (ib J s D j (H.size+1+E.size))::iG H D::iG E j::M)):aS I (iG (.node J s H E) (U b)::M):=λh s=>
 C.fold (N:=[_,_,_]) (λ_ Q=>⟨(b,D,j),rfl,Q⟩) (O h s)
def VM{O H g n I Y J Q E s D C a}
  (h:∀b W R,a=(U b)->G O H g n I Y (ah b 414 (ib E s W R (D.size+1+C.size))::iG D W::iG C R::Q::J)):G O H g n I Y (Q::iG (.node E s D C) a::J):=
 bp (λ_ s=>s.swap) (qm (ι:=Nat×Option cg×Option cg) (F:=λj=>a=(U j.1)) (D:=λj=>[ah j.1 414 (ib E s j.2.1 j.2.2 (D.size+1+C.size)),iG D j.2.1,iG C j.2.2]) (λ_ h=>h) λj Z=>h j.1 j.2.1 j.2.2 Z)
def VL{H j g n D J E I a}(h:a=af->G H j g n D J (I::E)):G H j g n D J (I::iG .nil a::E):=
 bp (λ_ s=>s.swap) (qm (ι:=Unit) (F:=λ_=>a=af) (D:=λ_=>[]) (λ_ h=>⟨(),h,C.none_⟩) λ_ O=>h O)
theorem b0.AG(D s C j):(b0.node D s C j).size=C.size+1+j.size:=rfl
def lM(C a D):aY 247 #[.pointer a] (iG C a::D) (j (C.size:Nat)) (iG C a::D):=by
 cases C with
 |nil=>
  refine cR ?_;refine VL ?_;rintro rfl;apply ak _;exact aR bD (k4 (Ct cf))
 |node O s J I=>
  refine cR ?_;refine VM ?_;rintro b H E rfl;apply ak _;refine ba rfl ds ?_ bD;apply cP;exact aN;exact Ov au
def j9(q s:aj):Bool:=decide (0<q.cmp s)
def adL(q s b C)(D:aU C b 3 3 [j s.id,j s.x,j s.y]):aY 319 #[I b,q.v] C (.bool (j9 q s)) C:=by
 have H:=D;refine aD ?_;refine bg λE=>?_;apply dM (V5 q s _) _;exact c8
def C9(q s b C)(E:aU C b 3 3 [j s.id,j s.x,j s.y]):aY 547 #[I b,q.v] C (.pointer (ab ⟨b,(if j9 q s then 7 else 6),af⟩)) C:=by
 refine aD ?_;refine bP λD=>?_;apply a9 (adL q s b _ cA) _;refine eG p (λh1=>?_) (λh1=>?_)
 .rw[h1];exact fG
 .rw[h1];exact fG
def mT(E s lo hi b H D C j)(J:lo.size+hi.size<=1000000):
  aY 548 #[I b] (ah b 414 (ib E s D C H)::iG lo D::iG hi C::j) (I b) (iG (.node E s lo hi) (U b)::j):=by
 refine bt ?_;refine fK (bE [0,1,2,3,4,7,8,9,10] (.e 5 (.q 6 (.e 11 (bE [12,13,14] (.e 15 .nil)))))) ?_;apply dM (O.pick aN (lM lo D _)) _;apply jl (O.pick aN (lM hi C _)) _;rintro _ _ ⟨rfl,rfl⟩;apply ak _;refine ba (C:=iG (.node E s lo hi) (U b)::j) p ds ?_ bD;apply cP;exact aN;exact Ov au
def b0.G5:b0->Bool
 | .nil=>al
 | .node _ _ C j=>decide (3*(C.size+1+j.size)/4<max C.size j.size)
end et
namespace et
theorem aiC(j):cF j j=al:=by simp[cF,up,aj.cmp]
theorem No(q s):j9 q s=al<->s.less q=al:=by
 unfold j9;rw[decide_eq_false_iff_not];exact aj.NZ q s
theorem Np(q s):j9 q s=ag<->s.less q=ag:=by
 unfold j9;rw[decide_eq_true_eq];exact aj.YJ q s
def ack{a b s}(h1:j9 a s=al)(ae:j9 b s=ag):a.less b=ag:=by
 rw[No]at h1;rw[Np]at ae
 by_cases j:s=a
 .simp_all
 .exact aj.tc (aj.tb j h1) ae
theorem Ey(j q):cF j q=ag<->j.kw.less q.kw=ag:=by
 unfold cF up;rw[decide_eq_true_eq];unfold aj.cmp
 by_cases h:j.kw=q.kw
 .simp[h,aj.pY]
 grind
def JZ{j q:aj}(h:j.kw=q.kw):j=q:=by
 obtain⟨a,b,c⟩:=j;obtain⟨C,D,E⟩:=q;simp[aj.kw]at h;grind
def Ez{j q C}(h:cF j q=ag)(D:cF q C=ag):cF j C=ag:=by rw[Ey]at*;exact aj.tc h D
theorem aiw{j q}(h:cF j q=ag):cF q j=al:=by
 cases C:cF q j with
 |false=>rfl
 |true=>rw[Ey]at*;rw[aj.Dg h]at C;grind
def J8{j q}(h:j≠q)(D:cF j q=al):cF q j=ag:=by
 rw[Ey];apply aj.tb (λC=>h (JZ C));grind[Ey]
def aiF{j q}(h:cF j q=ag):j≠q:=λC=>by simp_all[aiC]
def b0.cD:b0->List aj
 | .nil=>[]
 | .node D _ C j=>D::(C.cD++j.cD)
def b0.aQ:b0->List aj
 | .nil=>[]
 | .node D _ C j=>eR D (C.aQ++j.aQ)
def b0.Ok:b0->Prop
 | .nil=>True
 | .node D s C j=>C.Ok/\j.Ok/\(∀q∈C.cD,j9 q s=al)/\(∀q∈j.cD,j9 q s=ag)/\(∀q∈C.cD++j.cD,cF q D=ag)
theorem b0.o3:∀j:b0,aa j.cD=j.size
 | .nil=>rfl
 | .node E s D C=>by simp[b0.cD,b0.size,f0,b4,o3 D,o3 C];omega
theorem b0.r0:∀C:b0,C.aQ.Perm C.cD
 | .nil=> .refl _
 | .node j s E D=>(u2 j _).trans (((r0 E).append (r0 D)).cons j)
def b0.IP(j:b0):aa j.aQ=j.size:=by rw[j.r0.length_eq,j.o3]
def b0.Qy{H s C j}(h:(b0.node H s C j).Ok)(h1:d9 C.aQ)(ae:d9 j.aQ):d9 (C.aQ++j.aQ):=
 d9.append h1 ae λa D b E=>ack (h.2.2.1 a (C.r0.subset D)) (h.2.2.2.1 b (j.r0.subset E))
def b0.ain{D s C j}(h:(b0.node D s C j).Ok):D∉C.aQ++j.aQ:=λH=>by
 have:D∈C.cD++j.cD:=by
  rcases b9.1 H with E|E
  .exact b9.2 (.inl (C.r0.subset E))
  .exact b9.2 (.inr (j.r0.subset E))
 exact aiF (h.2.2.2.2 D this) p
def b0.xF:∀{j:b0},j.Ok->d9 j.aQ
 | .nil,_=>List.Pairwise.nil
 | .node C s E D,h=>SH C _ (b0.Qy h (xF h.1) (xF h.2.1)) (b0.ain h)
def b0.Zd{j:b0}(h:j.Ok):j.cD.Nodup:=j.r0.nodup_iff.1 (b0.xF h).nodup
attribute [local irreducible] C bh b6
def b0.sq:b0->Prop
 | .nil=>True
 | .node D s C j=>C.sq/\j.sq/\max C.size j.size<=3*(C.size+1+j.size)/4
structure b0.i9 (j:b0) (l:List aj):Prop where
 ok:j.Ok
 pI:j.sq
 perm:j.cD.Perm l
theorem b0.i9.size{j:b0}{l}(h:j.i9 l):j.size=aa l:=by rw[<- j.o3,h.perm.length_eq]
theorem b0.i9.congr{C:b0}{l j}(h:C.i9 l)(D:l.Perm j):C.i9 j:=⟨h.ok,h.pI,h.perm.trans D⟩
def b0.of_nil:b0.nil.i9 []:=⟨trivial,trivial,.refl _⟩
def b0.Ip{D s H E l j}(h1:H.i9 l)(ae:E.i9 j)(a:∀q∈l,j9 q s=al)(b:∀q∈j,j9 q s=ag)(c:∀q∈l++j,cF q D=ag)(I:max (aa l) (aa j)<=3*(aa l+1+aa j)/4):
  (b0.node D s H E).i9 (D::(l++j)):=by
 refine⟨⟨h1.ok,ae.ok,λq C=>a q (h1.perm.subset C),λq C=>b q (ae.perm.subset C),λq C=>c q ((h1.perm.append ae.perm).subset C)⟩,⟨h1.pI,ae.pI,?_⟩,(h1.perm.append ae.perm).cons D⟩;rw[h1.size,ae.size];omega
def Ms(l:List aj)(C:Q)(v:a2)(D:Q):Prop:=∃(a:a3) (j:b0),v=.pointer a/\j.i9 l/\D=iG j a::C
theorem BV{l}(h:d9 l){j C:Nat}{a b}(D:l[j]?=ab a)(H:l[C]?=ab b)(E:j<C):a.less b=ag:=by
 obtain⟨h1,rfl⟩:=h2.1 D;obtain⟨ae,rfl⟩:=h2.1 H;exact List.pairwise_iff_getElem.1 h j C h1 ae E
def Xy{l}(h:d9 l){j C:Nat}{a b}(E:l[j]?=ab a)(H:l[C]?=ab b)(J:j≠C):a≠b:=λI=>by
 subst I;rcases dZ j C with D|D
 .have:=BV h E H D;rw[aj.pY]at this;trivial
 .have:=BV h H E ad;rw[aj.pY]at this;trivial
def Y7{l j}{C:aj}(h:l[j]?=ab C):(C::(l.take j++l.drop (j+1))).Perm l:=by
 obtain⟨h1,rfl⟩:=h2.1 h;grind[List.drop_eq_getElem_cons,kk]
def Y8{l:List aj}{j}:(l.take j++l.drop (j+1)).Sublist l:=by grind[kk,ya]
def sL:∀(aJ)(A)(n c)(l)(ai),Rd ai A n l->n<=aJ->n<=100000->n<=c->c<=maxLen->d9 l->Y 576 #[.slice A n c] ai λv Q=>Ms l ai v Q:=by
 intro aJ
 induction aJ with
 |zero=>
  intro A n c l ai aD bI bP bG bH aO;have h1:aa l=n:=aD.len bL;have ae:l=[]:=gX ad;obtain rfl:n=0:=ad;subst ae;refine bt ?_;exact aR ⟨af,.nil,rfl,b0.of_nil,rfl⟩ (k4 (Ct cf))
 |succ aJ bi=>
  intro A n c l ai aD bI bP bG bH aO;have h1:aa l=n:=aD.len bL;have ch:c<=9223372036854775807:=fs;refine bt λ{g F}=>?_;refine c0 p (λbn=>?_) (λbn=>?_)
  .have ae:l=[]:=gX ad;subst ae;apply ak _;exact aR ⟨af,.nil,rfl,b0.of_nil,rfl⟩ (k4 (Ct cf))
  .apply bs _;apply jP;apply aC _;apply cc;apply fV _;apply ef (ι:=Nat) (λR=>[(0,.slice A n c),(3,j (R:Nat))]) (λ_=>F::ai) (λR=>R<n/\∀(H:Nat) (a b:aj),l[H]?=ab a->l[R]?=ab b->H=R\/cF a b=ag) _ _
   .apply bs _;refine cL (ι:=Nat×Nat) (λR=>[(0,.slice A n c),(3,j (R.2:Nat)),(13,.slice A n c),(14,j (n:Nat)),(15,j (R.1:Nat))]) (λ_=>F::ai) (λR=>R.1<=n/\R.2<n/\∀(H:Nat) (a b:aj),H<R.1->l[H]?=ab a->l[R.2]?=ab b->H=R.2\/cF a b=ag) (λR=>n-R.1) (0,0) ⟨Nat.zero_le _,ad,λH a b W=>absurd W (Nat.not_lt_zero _)⟩ aZ a1 ?_;rintro⟨am,I⟩ ⟨bz,aK,aB⟩;simp only at bz aK aB;dsimp only;apply ak _;refine c0 p (λbp=>?_) (λbp=>?_)
    .obtain⟨aG,aH,rfl,aS⟩:=aD.at_ ad;have aL:l[am]?=ab l[am]:=b8 ad;have aq:l[I]?=ab l[I]:=b8 ad;have b1:=aS _ _ aL;have bb:=aS _ _ aq;generalize l[am]=aW at*
     generalize l[I]=aI at*
     have cm:aU ai aG (aH+am*3) 3 [j aW.id,j aW.x,j aW.y]:=b1;have b3:aU ai aG (aH+I*3) 3 [j aI.id,j aI.x,j aI.y]:=bb;apply aC _;apply bg λca=>?_;apply qb (AP aI aW _) _;rintro _ _ ⟨rfl,rfl⟩;apply bs _;refine eG p (λa0=>?_) (λa0=>?_)
     .apply ak _;refine b7 (am+1,am) ⟨ad,ad,λH a b W aA ar=>?_⟩ ad aZ a1;simp only at W ar;rw[aL]at ar;cases ar;rcases dZ H am with ax|ax
      .right;rcases aB H a aI ax aA aq with rfl|bc
       .simp_all
       .exact Ez bc a0
      .omega
     .apply ak _;refine b7 (am+1,I) ⟨ad,aK,λH a b W aA ar=>?_⟩ ad aZ a1;simp only at W ar;rw[aq]at ar;cases ar;rcases dZ H am with ax|ax
      .simp_all
      .have:H=am:=ad;subst this;rw[aL]at aA;cases aA
       by_cases a3:H=I
       .omega
       .exact .inr (J8 (Xy aO aq aL (Ne.symm a3)) a0)
    .have a3:am=n:=ad;subst a3;apply bs _;exact cC I ⟨aK,λH a b aA ar=>aB H a b bv aA ar⟩ aZ a1
   .rintro I ⟨aK,aB⟩;obtain⟨aG,aH,rfl,aS⟩:=aD.at_ ad;have aq:l[I]?=ab l[I]:=b8 ad;have bb:=aS _ _ aq;have aE:=Y7 aq;have a9:=Y8 (l:=l) (j:=I);have bh:∀q∈l.take I++l.drop (I+1),cF q l[I]=ag:=λq aF=>by
     let⟨H,W⟩:=EZ.1 (a9.subset aF);rcases aB H q _ W aq with rfl|bc
     .rw[aq]at W;cases W;have ci:=(aE.nodup_iff.2 aO.nodup);simp_all
     omega
    have aQ:=aO.sub a9;have bS:aa (l.take I++l.drop (I+1))=n-1:=bv;generalize l[I]=Z at*
    have b3:aU ai aG (aH+I*3) 3 [j Z.id,j Z.x,j Z.y]:=bb;apply ak _;apply bg λaz=>?_;refine aP (nT (ab ⟨aG,aH,af⟩) n c l _ cX ad) ?_;rintro _ _ ⟨b5,bq,rfl,bA,rfl⟩;obtain⟨bm,rfl⟩:=bA ad;apply ak _;refine aP (O.pick aN (O.made (Bd bm _ bq I l _ p ad ad))) ?_;rintro _ _ ⟨b6,av,rfl,be,aM,bU,rfl⟩;apply dl _;obtain⟨C,a8⟩:∃bV,l.take I++l.drop (I+1)=bV:=⟨_,rfl⟩;rw[a8]at aE bh aQ bS be aM;rw[a8];clear a9 a8;apply aC _
    (first|refine a6 (l6 (q:=2) p p aw aw) ?_|refine a6 (jC p p aw aw aw) ?_)
    apply aC _;apply cd _;refine c0 p (λbr=>?_) (λbr=>?_)
    .obtain⟨ap,rfl⟩:=be ad;apply bQ _;iterate 4 apply ay _
     apply cc;obtain⟨D,bB⟩:∃am:Nat,max (((aa C/2:Nat):Int)-1) 0=(am:Nat):=⟨aa C/2-1,ad⟩;rw[bB];have bC:D<aa C:=ad;have ce:D=aa C/2-1:=ad;have a7:∀Q,Rd (E 42 3 (U ap) (aa C) av (J C)::Q) (U ap) (aa C) C:=λQ=>bf.E (ck _) (λ_=>⟨ap,rfl⟩);have a4:C[D]?=ab C[D]:=b8 bC;have b2:∀Q,aU (E 42 3 (U ap) (aa C) av (J C)::Q) ap (0+D*3) 3 [j C[D].id,j C[D].x,j C[D].y]:=λQ=>by
      let⟨cb,cj,bw,bT⟩:=(a7 Q).at_ ad;cases bw;exact bT _ _ a4
     have bM:∀q∈C.take (D+1),j9 q C[D]=al:=λq aF=>by
      let⟨H,W⟩:=EZ.1 aF;rw[List.getElem?_take]at W;split at W
      .rw[No];rcases dZ H D with ax|ax
       .exact aj.Dg (BV aQ W a4 ax)
       .have:H=D:=ad;subst this;rw[a4]at W;cases W;exact aj.pY _
      trivial
     have bJ:∀q∈C.drop (D+1),j9 q C[D]=ag:=λq aF=>by
      grind[EZ,Np,BV]
     generalize C[D]=s at*
     apply aC _;refine a6 (gh p (bx b2)) ?_;apply aC _;apply cc;have cl:av<=9223372036854775807:=fs;have bY:aa (C.take (D+1))=D+1:=bv;have bZ:aa (C.drop (D+1))=aa C-(D+1):=List.length_drop ..;have bO:∀Q,Rd (E 42 3 (U ap) (aa C) av (J C)::Q) (U ap) (D+1) (C.take (D+1)):=λQ=>(a7 Q).take ad;have bK:∀Q,Rd (E 42 3 (U ap) (aa C) av (J C)::Q) (ab ⟨ap,(if av=D+1 then 0 else 0+(D+1)*3),af⟩) (aa C-(D+1)) (C.drop (D+1)):=λQ=>(a7 Q).drop ad aM;apply yv 1 (bE [0,1,2,3,4,5,7,8,9,10] (.e 6 (.e 11 (.q 12 (.q 13 (.e 14 (.q 15 (.q 16 (.e 17 .nil))))))))) _;iterate 5 apply bu _
     refine eh p (kH p p aw) ?_;iterate 3 apply bu _
     refine eh p (iW p p aw aw) ?_;refine bF (bW p p p (c5 p (bi _ (D+1) av (C.take (D+1)) _ (bx bO) ad ad ad bU (aQ.sub (List.take_sublist _ _)))) ?_);rintro _ _ ⟨aY,aV,rfl,bl,rfl⟩;apply bX _;refine bF (bW p p p (c5 p (bi _ (aa C-(D+1)) (av-(D+1)) (C.drop (D+1)) _ (bx bK) ad ad ad ad (aQ.sub (ya _ _)))) ?_);rintro _ _ ⟨aX,aT,rfl,bj,rfl⟩;apply bX _;iterate 2 apply bu _
     apply lX _;iterate 2 apply bu _
     apply oP _;apply aC _;refine dQ (O.pre (M:=ah az 414 (ib Z s aY aX 0)::iG aV aY::iG aT aX::F::ai) au (mT Z s aV aT az 0 aY aX _ (by rw[bl.size,bj.size,bY,bZ];omega))) ?_;apply cd _;refine ba (C:=iG (.node Z s aV aT) (U az)::ai) p ds au ⟨_,.node Z s aV aT,rfl,?_,rfl⟩;refine(b0.Ip bl bj bM bJ (λq aF=>bh q bo) ad).congr ?_;rw[kk];exact aE
    .have bR:C=[]:=gX ad;apply aC _;refine dQ (O.pre (M:=ah az 414 (ib Z Z af af 0)::iG .nil af::iG .nil af::F::ai) (dp @Ct) (mT Z Z .nil .nil az 0 af af _ bL)) ?_;apply cd _;refine ba (C:=iG (.node Z Z .nil .nil) (U az)::ai) p ds au ⟨_,.node Z Z .nil .nil,rfl,?_,rfl⟩;refine(b0.Ip b0.of_nil b0.of_nil (λ_ h=>by grind) (λ_ h=>by grind) (λ_ h=>by grind) ao).congr ?_;rw[bR]at aE;exact aE
end et
namespace et
instance:d3 (Option cg):=⟨1,λa=>[.pointer a],λ_=>rfl,λ_ v h=>by simp at h;subst h;rfl⟩
def _root_.Go.Proofs.YteinodmjohkmmaaGreat.aU.sub{j b o n H I}(h:aU j b o n H)(D E)(C:mr (qC H D) E=ab I):aU j b (o+D) E I:=
 ⟨(nB C).1,λO v J=>by
  have h1:=(nB C).2 O v J;rw[sP,List.getElem?_drop]at h1;rw[Nat.add_assoc];exact h.2 _ _ h1⟩
def _root_.Go.Proofs.YteinodmjohkmmaaGreat.a5.rW{A N j a v}(D:∀h,A h->C N h)(l:a5 N a v):a5 (A::j) a v:=⟨λh s=>by
 let⟨h1,ae,I,E,J,H,O⟩:=s;exact iR.sub (l.1 _ (D _ H)) E⟩
def _root_.Go.Proofs.YteinodmjohkmmaaGreat.aU.rW{A N D b o n j}(E:∀h,A h->C N h)(l:aU N b o n j):aU (A::D) b o n j:=⟨l.1,λI v H=>(l.2 I v H).rW E⟩
inductive bi where
 |nil
 |node (b:Nat) (D s:aj) (C j:bi)
def bi.Z:bi->Option cg
 | .nil=>af
 | .node b _ _ _ _=>(U b)
def bi.t:bi->b0
 | .nil=> .nil
 | .node _ D s C j=> .node D s C.t j.t
def dr:bi->aG
 | .nil=>λ_=>True
 | .node b E s D j=>λh=>C [ah b 414 (ib E s D.Z j.Z (D.t.size+1+j.t.size)),dr D,dr j] h
def fM(j:Q):bi->Prop
 | .nil=>True
 | .node b E s D C=>aU j b 0 9 (ib E s D.Z C.Z (D.t.size+1+C.t.size))/\fM j D/\fM j C
def fM.mono{L M:Q}(f:aS M L):∀{j},fM L j->fM M j
 | .nil,_=>trivial
 | .node b E s D C,h=>⟨h.1.mono f,h.2.1.mono f,h.2.2.mono f⟩
theorem fM.ap{D j C}(h:fM j C):fM (D::j) C:=h.mono λ_ s=>s.tail
def fM.rW{A}{N D:Q}(f:∀h,A h->C N h):∀{j},fM N j->fM (A::D) j
 | .nil,_=>trivial
 | .node b I s H E,h=>⟨h.1.rW f,h.2.1.rW f,h.2.2.rW f⟩
def ph:∀(E)(D:Q),fM (dr E::D) E
 | .nil,_=>trivial
 | .node b H s C j,D=>fM.rW (N:=[ah b 414 (ib H s C.Z j.Z (C.t.size+1+j.t.size)),dr C,dr j]) (λ_ h=>h) ⟨aU.ah p,(ph C _).ap,(ph j []).ap.ap⟩
def IK:∀(D)(a)(h),iG D a h->∃j:bi,j.t=D/\j.Z=a/\dr j h
 | .nil,a,h,C=>⟨.nil,rfl,Eq.symm C,trivial⟩
 | .node ai s ah J,a,h,⟨⟨b,aE,aD⟩,C,h1,ae,E,aq,ar,q,W,Y,H,av,ax,ap,R,U,I,az,aA,am,aB⟩=>by
  obtain⟨j,rfl,rfl,O⟩:=IK ah _ _ ap;obtain⟨y,rfl,rfl,Q⟩:=IK J _ _ am;exact⟨.node b ai s j y,rfl,C.symm,h1,ae,E,aq,ar,q,W,Y,H,av,ax,O,R,U,I,az,aA,Q,aB⟩
structure Ww (C:Q) (b:Nat) (D s:aj) (H E:bi):Prop where
 O5:a5 C ⟨b,0+6,af⟩ (.pointer H.Z)
 O4:a5 C ⟨b,0+7,af⟩ (.pointer E.Z)
 O6:a5 C ⟨b,0+8,af⟩ (j (H.t.size+1+E.t.size:Nat))
 uj:aU C b (0+0) 3 [j D.id,j D.x,j D.y]
 ajy:aU C b (0+3) 3 [j s.id,j s.x,j s.y]
 aju:a5 C ⟨b,0+0+0,af⟩ (j D.id)
 ajv:a5 C ⟨b,0+0+1,af⟩ (j D.x)
 ajw:a5 C ⟨b,0+0+2,af⟩ (j D.y)
 ajz:a5 C ⟨b,0+3+1,af⟩ (j s.x)
theorem fM.f{C b I s H D}(h:fM C (.node b I s H D)):Ww C b I s H D:=
 have j:=h.1.sub 0 3 p;have E:=h.1.sub 3 3 p
 ⟨h.1.at_ (i:=6) p,h.1.at_ (i:=7) p,h.1.at_ (i:=8) p,j,E,j.at_ (i:=0) p,j.at_ (i:=1) p,j.at_ (i:=2) p,E.at_ (i:=1) p⟩
def bi.bG:bi->List Nat
 | .nil=>[]
 | .node b _ _ C j=>b::(C.bG++j.bG)
def ha(j:List bi):aG:=λh=>C (j.map dr) h
def iD(C:bi)(j:List bi)(a:Nat):Prop:=a∈C.bG\/∃y∈j,a∈y.bG
def Ot{E M:Q}{D j}(H:aS E (dr D::ha j::M)):aS E (ha (D::j)::M):=λh s=>
 C.fold (N:=[dr D,ha j]) (λh q=>by
  exact C.bl (λ_ s=>by simpa[ha]using C.part s) q) (H h s)
def Cq{j M:Q}(D:aS j M):aS j (ha []::M):=λh s=>C.fold (N:=[]) (λ_ _=>trivial) (D h s)
def Ou{E M:Q}{j D}(H:aS E (ha j::ha D::M)):aS E (ha (j++D)::M):=λh s=>
 C.fold (N:=[ha j,ha D]) (λh q=>by
  show C _ h;rw[ez];have:=C.part q;exact(C.perm (ep) (by simpa using C.part (C.perm (ep) this)))) (H h s)
def HE{b U s W Y Q O J D E C}(h1:∀a∈Q.bG,iD J E a)(R:∀a∈(bi.node b W Y J O).bG,iD D C a):∀a∈(bi.node b U s Q O).bG,iD D (C++E) a:=λa j=>by
 have up:∀a,iD D C a->iD D (C++E) a:=λa h=>h.imp_right λ⟨I,H,h⟩=>⟨I,b9.2 (.inl H),h⟩;simp[bi.bG,df,b9]at j R;rcases j with rfl|j|j
 .simp_all
 .rcases h1 a j with h|⟨I,H,h⟩
  .simp_all
  .exact .inr ⟨I,b9.2 (.inr H),h⟩
 simp_all
def HD{b U s W Y Q O J D E C}(h1:∀a∈O.bG,iD J E a)(R:∀a∈(bi.node b W Y Q J).bG,iD D C a):∀a∈(bi.node b U s Q O).bG,iD D (C++E) a:=λa j=>by
 have up:∀a,iD D C a->iD D (C++E) a:=λa h=>h.imp_right λ⟨I,H,h⟩=>⟨I,b9.2 (.inl H),h⟩;simp[bi.bG,df,b9]at j R;rcases j with rfl|j|j
 .simp_all
 .simp_all
 .rcases h1 a j with h|⟨I,H,h⟩
  .simp_all
  .exact .inr ⟨I,b9.2 (.inr H),h⟩
def acH{H I D E}(h:∀a∈H.bG,iD I E a){a}(j:iD H D a):iD I (E++D) a:=by
 rcases j with j|⟨y,C,j⟩
 .rcases h a j with h|⟨y,C,h⟩
  .exact .inl h
  .exact .inr ⟨y,b9.2 (.inl C),h⟩
 .exact .inr ⟨y,b9.2 (.inr C),j⟩
def Ow{E M:Q}{b H s D j}(I:aS E (ah b 414 (ib H s D.Z j.Z (D.t.size+1+j.t.size))::dr D::dr j::M)):aS E (dr (.node b H s D j)::M):=λh s=>
 C.fold (N:=[_,_,_]) (λ_ J=>J) (I h s)
def Gt{j M:Q}(D:aS j M):aS j (dr .nil::M):=λh s=>C.fold (N:=[]) (λ_ _=>trivial) (D h s)
def By(H:List Nat)(l:List aj)(D:Q)(v:a2)(E:Q):Prop:=∃(j:bi) (C:List bi),j.t.i9 l/\(∀a∈H,iD j C a)/\v=.pointer j.Z/\E=dr j::ha C::D
def O.adj{E H args D M l}(h:O E H args D λv C=>Ms l M v C):O E H args D λv C=>∃j:bi,j.t.i9 l/\v=.pointer j.Z/\C=dr j::M:=
 h.cr λv C ai ⟨a,Y,J,o,Q⟩ s=>by
  subst Q;let⟨h1,ae,I,U,W,q,ah⟩:=s;obtain⟨j,rfl,rfl,R⟩:=IK Y a _ q;exact⟨_,⟨j,o,J,rfl⟩,h1,ae,I,U,W,R,ah⟩
attribute [local irreducible] C bh b6
def xO(C D)(h:fM D C):aY 247 #[.pointer C.Z] D (j (C.t.size:Nat)) D:=by
 cases C with
 |nil=>
  refine bt ?_;exact c8
 |node b I s H E=>
  obtain⟨aF,aM,J,O,Q,R,U,W,Y⟩:=h.f;refine bt ?_;exact c8
def bi.qJ:bi->Bool
 | .nil=>ag
 | .node _ _ _ _ _=>al
theorem bi.w5(j:bi):j.Z.isSome=!j.qJ:=by cases j<;>rfl
def bi.kI(C:j8):bi->Bool
 | .nil=>al
 | .node _ j _ _ _=>C.u7 j.x j.y
def bi.th(C:j8):bi->List bi
 | .nil=>[]
 | .node _ D s j E=>if D.y<C.y then[]else if !j.qJ&&decide (C.cN<=s.x)then[j]else[]
def bi.ti(C:j8):bi->List bi
 | .nil=>[]
 | .node _ D s E j=>if D.y<C.y then[]else if !j.qJ&&decide (s.x<=C.cQ)then[j]else[]
def bi.next(j:j8)(C:bi):List bi:=C.th j++C.ti j
def sE(l:List bi):List (Option cg):=l.map bi.Z
def Mq(D:Bool)(l:List bi)(j:Q)(v:a2)(C:Q):Prop:=∃A c,v=.tuple #[.bool D,.slice A (aa l) c]/\(0<aa l->∃b,A=(U b))/\C=E 247 1 A (aa l) c (J (sE l))::j
def aiY(C:j8)(j:aj)(h:j.y<C.y):C.u7 j.x j.y=al:=by
 unfold j8.u7;simp_all
def HU(D C am)(h:fM am D):Y 684 #[.pointer D.Z,.agg #[j C.cN,j C.cQ,j C.y]] am λv aL=>Mq (D.kI C) (D.next C) am v aL:=by
 cases D with
 |nil=>
  refine aD ?_;refine bP λaq=>?_;apply cc;apply ed (bE [0,1,2,3,4,5,6,7,8,9,10] (.q 11 .nil)) _;apply aC _;exact cd (ba (C:=E 247 1 af 0 0 []::am) p (.tmp p ds) (λh s=>cP (.ap (.ap .here)) (k4 (kG cf)) h (E.c7 247 1 h s)) ⟨af,0,rfl,db,rfl⟩)
 |node b ai s R Q=>
  obtain⟨aF,aM,a4,a7,a8,a9,bb,bc,be⟩:=h.f
  by_cases av:ai.y<C.y
  .have aG:(bi.node b ai s R Q).next C=[]:=by simp_all[bi.next,bi.th,bi.ti]
   have aH:(bi.node b ai s R Q).kI C=al:=aiY C ai av;rw[aG,aH];refine aD ?_;refine bP λaq=>?_;apply cc;apply ed (bE [0,1,2,3,4,5,6,7,8,9,10] (.q 11 .nil)) _;iterate 12 apply bu _
   apply fO _;refine gJ p (cO av) ?_;apply aC _;exact cd (ba (C:=E 247 1 af 0 0 []::am) p (.tmp p ds) (λh s=>cP (.ap (.ap .here)) (k4 (kG cf)) h (E.c7 247 1 h s)) ⟨af,0,rfl,db,rfl⟩)
  .have aG:(bi.node b ai s R Q).th C=if !R.qJ&&decide (C.cN<=s.x)then[R]else[]:=by simp[bi.th,av]
   have aH:(bi.node b ai s R Q).ti C=if !Q.qJ&&decide (s.x<=C.cQ)then[Q]else[]:=by simp[bi.ti,av]
   unfold bi.next
   generalize(bi.node b ai s R Q).th C=H at*
   generalize(bi.node b ai s R Q).ti C=W at*
   refine aD λ{g F}=>?_;apply bP λaq=>?_;apply cc;apply ed (bE [0,1,2,3,4,5,6,7,8,9,10] (.q 11 .nil)) _;iterate 12 apply bu _
   apply fO _;refine e9 p (cw av) ?_;apply bp (E.c7 247 1);repeat apply yx
   apply vS;apply ef (ι:=Option cg×Nat) (λD=>[(0,I b),(3,I aq),(5,.slice D.1 (aa H) D.2)]) (λD=>E 247 1 D.1 (aa H) D.2 (J (sE H))::ah aq 50 [j C.cN,j C.cQ,j C.y]::F::am) (λD=>0<aa H->∃b,D.1=(U b)) _ _
   .cases aQ:R.qJ with
    |true=>
     have O:H=[]:=bo;subst O;apply ed (bE [0,1,2,3,4,5,6,7,8,9,10,11,12,13] (.q 14 .nil)) _;iterate 6 apply bu _
     refine jS 23 (C:=al) p (by grind[bi.w5]) ?_;iterate 9 apply bu _
     apply fO _;refine e9 p bN ?_;apply bs _;exact cC (af,0) db aZ au
    |false=>
     by_cases ar:C.cN<=s.x
     .have O:H=[R]:=bo;subst O;apply ed (bE [0,1,2,3,4,5,6,7,8,9,10,11,12,13] (.q 14 .nil)) _;iterate 6 apply bu _
      refine jS 23 (C:=ag) p (by simp_all[bi.w5]) ?_;iterate 9 apply bu _
      apply fO _;refine gJ p (cO ar) ?_;apply aC _;apply bd λaT=>?_;refine GE (dH p p aN gL (hA p) bN ao aw aw) ?_;rintro _ _ ⟨aJ,aO,rfl,aX,a0,aR,rfl⟩;apply ay _;apply cd _;exact cC (aJ,aO) (λ_=>aR ao) aZ au
     .have O:H=[]:=bo;subst O;apply ed (bE [0,1,2,3,4,5,6,7,8,9,10,11,12,13] (.q 14 .nil)) _;iterate 6 apply bu _
      refine jS 23 (C:=ag) p (by grind[bi.w5]) ?_;iterate 9 apply bu _
      apply fO _;refine e9 p (cw ar) ?_;apply bs _;exact cC (af,0) db aZ au
   .rintro⟨az,aB⟩ ax;simp only at ax;dsimp only;apply vS;apply ef (ι:=Option cg×Nat) (λD=>[(0,I b),(3,I aq),(5,.slice D.1 (aa (H++W)) D.2)]) (λD=>E 247 1 D.1 (aa (H++W)) D.2 (J (sE (H++W)))::ah aq 50 [j C.cN,j C.cQ,j C.y]::F::am) (λD=>0<aa (H++W)->∃b,D.1=(U b)) _ _
    .have aW:aa H<=1:=bv;cases aQ:Q.qJ with
     |true=>
      have O:W=[]:=bo;subst O;apply ed (bE [0,1,2,3,4,5,6,7,8,9,10,11,12,13] (.q 14 .nil)) _;iterate 6 apply bu _
      refine jS 45 (C:=al) p (by grind[bi.w5]) ?_;iterate 9 apply bu _
      apply fO _;refine e9 p bN ?_;apply bs _;exact cC (az,aB) (λh=>ax bv) ⟨rfl,rfl,by rw[dC];rfl,trivial⟩ DN
     |false=>
      by_cases ar:s.x<=C.cQ
      .have O:W=[Q]:=bo;subst O;apply ed (bE [0,1,2,3,4,5,6,7,8,9,10,11,12,13] (.q 14 .nil)) _;iterate 6 apply bu _
       refine jS 45 (C:=ag) p (by simp_all[bi.w5]) ?_;iterate 9 apply bu _
       apply fO _;refine gJ p (cO ar) ?_;apply aC _;apply bd λaV=>?_;refine GE (dH p p aN gL (hA p) bN ao aw aw) ?_;rintro _ _ ⟨aK,aP,rfl,aY,a3,aS,rfl⟩;apply ay _;apply cd _;exact cC (aK,aP) (λ_=>aS ao) ⟨rfl,rfl,by simp only[b4,hg];rfl,trivial⟩ (by
        simp only[b4,hg,sE,ez,List.map_cons,List.map_nil];rw[gS];exact au)
      .have O:W=[]:=bo;subst O;apply ed (bE [0,1,2,3,4,5,6,7,8,9,10,11,12,13] (.q 14 .nil)) _;iterate 6 apply bu _
       refine jS 45 (C:=ag) p (by grind[bi.w5]) ?_;iterate 9 apply bu _
       apply fO _;refine e9 p (cw ar) ?_;apply bs _;exact cC (az,aB) (λh=>ax bv) ⟨rfl,rfl,by rw[dC];rfl,trivial⟩ DN
    .rintro⟨aA,aE⟩ aI;simp only at aI;dsimp only;apply ed (bE [0,1,2,3,4,6] (.e 5 (.q 7 (.q 8 .nil)))) _;iterate 6 apply bu _
     refine nW p p (W0 C ai _) ?_;iterate 2 apply bu _
     exact fO (ba (C:=E 247 1 aA (aa (H++W)) aE (J (sE (H++W)))::am) p (.tmp p ds) au ⟨aA,aE,rfl,aI,rfl⟩)
end et
namespace et
def bi.id:bi->Int
 | .nil=>0
 | .node _ j _ _ _=>j.id
def bi.seen(j:j8):bi->List Int
 | .nil=>[]
 | .node _ C s E D=>(if j.u7 C.x C.y then[C.id]else[])++(if C.y<j.y then[]else(if !E.qJ&&decide (j.cN<=s.x)then E.seen j else[])++(if !D.qJ&&decide (s.x<=j.cQ)then D.seen j else[]))
def vl(l:List bi):Nat:=(l.map λj=>2*j.t.size+1).sum
attribute [local irreducible] C bh b6
@[reducible] def jI (D:bi) (C:Int):List Value:=[.pointer D.Z,j C]
def aim(b C D j)(h:aU j b 0 2 (jI C D)):aY 527 #[I b] j (.pointer C.Z) j:=by
 have h1:=h.at_ (i:=0) p;refine bt ?_;exact c8
def WR(b C D j)(h:aU j b 0 2 (jI C D)):aY 477 #[I b] j (.pointer C.Z) j:=by
 refine aD ?_;refine a9 (aim b C D _ h.ap) ?_;exact c8
def IL(j q:aj): [j.id,j.x,j.y]=[q.id,q.x,q.y]<->j=q:=by rw[aj.CJ];simp
def Zf{j s D C}(h:(b0.node j s D C).Ok){q}(E:q∈(b0.node j s D C).cD):q=j\/cF q j=ag:=by
 rcases df.1 E with h1|h1
 .simp_all
 .exact .inr (h.2.2.2.2 q h1)
def Ze{D s C j}(h:(b0.node D s C j).Ok){q}(H:q≠D):q∈(b0.node D s C j).cD<->q∈(if j9 q s then j else C).cD:=by
 have E:q∈(b0.node D s C j).cD<->q∈C.cD\/q∈j.cD:=by simp[b0.cD,H]
 rw[E];cases I:j9 q s with
 |true=>
  simp only[if_true];constructor
  .intro h1;rcases h1 with ae|ae
   .have:=h.2.2.1 q ae;simp_all
   omega
  simp_all
 |false=>
  rw[a8 ao];constructor
  .intro h1;rcases h1 with ae|ae
   .omega
   .have:=h.2.2.2.1 q ae;simp_all
  simp_all
def PM(b E aE C D)(h:aU D b 0 2 (jI E aE))(aB:fM D E)(az:E.t.Ok):
  aY 502 #[I b,C.v] D (.bool (decide (C∈E.t.cD))) D:=by
 have h1:a5 D ⟨b,0+0,af⟩ (.pointer E.Z):=h.at_ (i:=0) p;refine aD λ{g F}=>?_;apply bP λO=>?_;apply cc;apply fV _;apply ef (ι:=bi) (λy=>[(3,I O),(5,.pointer y.Z)]) (λy=>ah O 42 [j C.id,j C.x,j C.y]::F::D) (λy=>fM D y/\match y with| .nil=>C∉E.t.cD| .node _ q _ _ _=>(C∈E.t.cD<->q=C)) _ _
 .apply bs _;refine cL (ι:=bi) (λy=>[(3,I O),(5,.pointer y.Z)]) (λy=>ah O 42 [j C.id,j C.x,j C.y]::F::D) (λy=>fM D y/\y.t.Ok/\(C∈E.t.cD<->C∈y.t.cD)) (λy=>y.t.size) E ⟨aB,az,Iff.rfl⟩ aZ a1 ?_;rintro y ⟨H,J,Q⟩;cases y with
  |nil=>
   apply ak _;exact cC bi.nil ⟨trivial,λaA=>by have:=Q.1 aA;trivial⟩ aZ a1
  |node c q s ai U=>
   obtain⟨aF,aM,aG,aH,am,aI,aJ,aK,aL⟩:=H.f
   by_cases W:q=C
   .have aq: [q.id,q.x,q.y]=[C.id,C.x,C.y]:=(IL q C).2 W;apply ak _;refine f3 dm p p p p ⟨_,rfl,rfl⟩ p (uh p p p p p p) ?_;iterate 2 apply bu _
    refine jS 22 p (cw (λh=>h aq)) ?_;iterate 5 apply bu _
    refine bF (sz p p p ⟨_,rfl,rfl⟩ p ?_);apply aC _;apply bs _;exact cC (bi.node c q s ai U) ⟨H,by simp_all[bi.t,b0.cD]⟩ aZ a1
   .have aq: ¬ [q.id,q.x,q.y]=[C.id,C.x,C.y]:=λh=>W ((IL q C).1 h);cases aO:cF q C with
    |true=>
     apply ak _;refine f3 dm p p p p ⟨_,rfl,rfl⟩ p (uh p p p p p p) ?_;apply ak _;refine bF (jQ p p p ⟨_,rfl,rfl⟩ p (c5 p (AP q C _)) ?_);rintro _ _ ⟨rfl,rfl⟩;apply cV _;refine f3 dm p p p p ⟨_,rfl,rfl⟩ p (gz p) ?_;apply bu _;apply fO _;refine e9 p bo ?_;apply bs _;refine cC (bi.node c q s ai U) ⟨H,?_⟩ aZ a1;rw[Q];refine⟨λax=>?_,λar=>absurd ar W⟩;rcases Zf J ax with av|av
     .simp_all
     .simp_all[aiw]
    |false=>
     apply ak _;refine f3 dm p p p p ⟨_,rfl,rfl⟩ p (uh p p p p p p) ?_;apply ak _;refine bF (jQ p p p ⟨_,rfl,rfl⟩ p (c5 p (AP q C _)) ?_);rintro _ _ ⟨rfl,rfl⟩;apply cV _;refine f3 dm p p p p ⟨_,rfl,rfl⟩ p (gz p) ?_;apply bu _;apply fO _;refine gJ p bo ?_;have Y:=Ze J (Ne.symm W);cases R:j9 C s with
     |true=>
      rw[R]at Y;apply aC _;refine a9 ((by have:=C9 C s c (ah O 42 [j C.id,j C.x,j C.y]::F::D) am.ap.ap;rw[R]at this;exact this)) ?_;exact b7 U ⟨H.2.2,J.2.1,Q.trans Y⟩ (by simp[bi.t,b0.size]) aZ a1
     |false=>
      rw[R]at Y;apply aC _;refine a9 ((by have:=C9 C s c (ah O 42 [j C.id,j C.x,j C.y]::F::D) am.ap.ap;rw[R]at this;exact this)) ?_;exact b7 ai ⟨H.2.1,J.1,Q.trans Y⟩ (by grind[bi.t,b0.size]) aZ a1
 .rintro y ⟨H,J⟩;cases y with
  |nil=>
   apply eO _;exact⟨congrArg Value.bool (cw J).symm,rfl⟩
  |node c q s ai U=>
   obtain⟨aF,aM,aG,aH,am,aI,aJ,aK,aL⟩:=H.f;apply ak _;refine f3 dm p p p p ⟨_,rfl,rfl⟩ p (zo p p p p p p) ?_;apply dk _;exact⟨congrArg Value.bool (decide_eq_decide.2 ((IL q C).trans J.symm)),rfl⟩
def Jd:∀(I)(j),fM j I->I.t.Ok->I.t.size<=100000->Y 317 #[.pointer I.Z] j λv av=>Made 42 I.t.aQ j v av
 | .nil,j,_,_,_=>by
  refine bt ?_;exact aR ⟨af,0,rfl,db,rfl⟩ (λh s=>(E.c7 42 3 h s)|>(λs=>cP (.ap .here) cf h s))
 | .node b aL s D C,j,ai,H,aI=>by
  have aJ:=λj h=>Jd D j h H.1 (by grind[bi.t,b0.size]);have aK:=λj h=>Jd C j h H.2.1 (by grind[bi.t,b0.size]);have aO:=D.t.IP;have aP:=C.t.IP;have aH:=b0.Qy H (b0.xF H.1) (b0.xF H.2.1);simp[bi.t,b0.size]at aI;obtain⟨aF,aM,aS,aT,aV,aW,aX,aY,aZ⟩:=ai.f;refine aD ?_;refine fK (bE [0,1,2,3,5,6,7,8,12,13,14,15] (.e 4 (.e 9 (.e 10 (.e 11 (.e 16 (.q 17 .nil))))))) ?_;apply dV (aJ _ ai.2.1.ap) _;rintro _ _ ⟨R,W,rfl,aG,rfl⟩;apply bX _;apply dV (aK _ ai.2.2.ap.ap) _;rintro _ _ ⟨Q,U,rfl,aA,rfl⟩;apply bX _;refine bF (bW p p p (zd bN p p) ?_);rintro _ _ ⟨am,rfl,rfl⟩;refine bX ?_;refine dV (O.pre (M:=ah am 37 [.slice R (aa D.t.aQ) W,.slice Q (aa C.t.aQ) U]::E 42 3 R (aa D.t.aQ) W (J D.t.aQ)::E 42 3 Q (aa C.t.aQ) U (J C.t.aQ):: _) au (Vi R Q _ _ W U am D.t.aQ C.t.aQ _ p p ad ad aG aA)) ?_;rintro _ _ ⟨aq,ax,rfl,aB,rfl⟩;refine bX ?_;refine dV (BC aq _ ax (D.t.aQ++C.t.aQ) aL _ (bf.E (ck _) aB) bv aH) ?_;rintro _ _ ⟨ar,az,rfl,aE,rfl⟩;refine bX ?_;apply ak _;exact aR ⟨ar,az,rfl,aE,rfl⟩
def Rp(E s C j b H)(D:Q)(J:C.t.size+j.t.size<=1000000):
  aY 548 #[I b] (ah b 414 (ib E s C.Z j.Z H)::dr C::dr j::D) (I b) (dr (.node b E s C j)::D):=by
 have h1:=λM=>ph C M;have ae:=λM=>ph j M;refine bt ?_;refine fK (bE [0,1,2,3,4,7,8,9,10] (.e 5 (.q 6 (.e 11 (bE [12,13,14] (.e 15 .nil)))))) ?_;apply dM (xO C _ (bx h1)) _;apply dM (xO j _ (bx ae)) _;refine ba rfl ds ?_ bD;apply cP;exact aN;exact Ow au
def aaM(E s C j b D)(h:fM D (.node b E s C j))(H:C.t.size+j.t.size<=1000000):
  aY 575 #[I b] D (.bool (b0.node E s C.t j.t).G5) D:=by
 let⟨aF,aM,J,O,Q,R,U,W,Y⟩:=h.f;refine bt ?_;refine fK (bE [0,1,2,3,5,6,7,8,11,12,13,14] (.e 4 (.e 9 (.q 10 (.e 15 (.q 16 (.q 17 .nil))))))) ?_;apply dM (xO C _ h.2.1.ap) _;apply dM (xO j _ h.2.2.ap) _;refine wr p p (aeI _ _ ad) ?_;exact aR ⟨congrArg Value.bool (by unfold b0.G5;grind),rfl⟩
def n3(D s C j b ai l)(H:Q)(R:(b0.node D s C.t j.t).Ok)(aq:C.t.sq)(ar:j.t.sq)(aH:C.t.size+j.t.size+1<=100000)(W:(b0.node D s C.t j.t).cD.Perm l):
  Y 549 #[I b] (ah b 414 (ib D s C.Z j.Z ai)::dr C::dr j::H) λv ap=>By (bi.node b D s C j).bG l H v ap:=by
 have aA:=(b0.node D s C.t j.t).IP;have az:=b0.xF R;have aB:=(b0.node D s C.t j.t).r0;rw[b0.AG]at aA;have U:∀M,fM _ (.node b D s C j):=λM=>ph _ M;refine aD ?_;refine a9 (O.pre au (Rp D s C j b ai _ ad)) ?_;refine a9 (aaM D s C j b _ (bx U) ad) ?_;refine eG p (λh1=>?_) (λh1=>?_)
 .apply ak _;refine aP (O.made (Jd (.node b D s C j) _ (bx U) R (by grind[bi.t,b0.size]))) ?_;rintro _ _ ⟨am,av,rfl,ax,aM,aF,rfl⟩;refine aP (O.adj (sL 100000 am _ av _ _ (bf.E (ck _) ax) (by simp[bi.t];omega) (by simp[bi.t];omega) aM aF az)) ?_;rintro _ _ ⟨aG,aE,rfl,rfl⟩;apply gD _;exact aR ⟨aG,[.node b D s C j],aE.congr (aB.trans W),λa J=> .inr ⟨_,oF.2 p,J⟩,rfl,rfl⟩ (k3 @Ot @Cq)
 .apply ak _;refine ba (C:=dr (.node b D s C j)::ha []::H) p ds xw ⟨.node b D s C j,[],⟨R,⟨aq,ar,?_⟩,W⟩,λa J=> .inl J,rfl,rfl⟩;unfold b0.G5 at h1;rw[decide_eq_false_iff_not]at h1;omega
def r1:∀(H)(E)(U:Q),H.t.Ok->H.t.sq->E∉H.t.cD->H.t.size+1<=100000->
  Y 503 #[.pointer H.Z,E.v] (dr H::U) λv aV=>By H.bG (E::H.t.cD) U v aV
 | .nil,E,U,_,_,_,_=>by
  refine aD ?_;refine bP λaA=>?_;refine bd λaz=>?_;refine a9 (O.pre (dp @Gt) (Rp E E .nil .nil az 0 _ bL)) ?_;refine ba (C:=dr (.node az E E .nil .nil)::ha []::U) p (.tmp p .nil) xw ⟨.node az E E .nil .nil,[],?_,λa be=>(by trivial),rfl,rfl⟩;exact b0.Ip b0.of_nil b0.of_nil (λ_ h=>by grind) (λ_ h=>by grind) (λ_ h=>by grind) ao
 | .node b q s D C,E,U,ai,av,aO,aW=>by
  have aX:=λE U=>r1 D E U ai.1 av.1;have aY:=λE U=>r1 C E U ai.2.1 av.2.1;simp only[bi.t,b0.AG]at aW;simp only[bi.t,b0.cD,df,b9,not_or]at aO;let⟨a4,a7,a8⟩:=aO;have aM:=b0.Zd ai;simp only[bi.t,b0.cD,List.nodup_cons,b9,not_or]at aM;let⟨⟨a0,a3⟩,bj⟩:=aM;apply O.open (ι:=Unit) (D:=λ_=>True) (E:=λ_=>[ah b 414 (ib q s D.Z C.Z (D.t.size+1+C.t.size)),dr D,dr C]) (λ_ h=>⟨(),trivial,h⟩) λ_ _=>?_
  show O _ _ _ (ah b 414 (ib q s D.Z C.Z (D.t.size+1+C.t.size))::dr D::dr C::U) _;refine aD λ{g F}=>?_;apply bg λaA=>?_;apply qb (AP q E _) _;rintro _ _ ⟨rfl,rfl⟩;apply aC _;refine ef (ι:=aj×aj) (λH=>[(0,I b),(3,I aA)]) (λH=>ah aA 42 [j H.2.id,j H.2.x,j H.2.y]::ah b 414 (ib H.1 s D.Z C.Z (D.t.size+1+C.t.size))::dr D::dr C::F::U)
   (λH=>cF H.2 H.1=ag/\(∀J∈D.t.cD++C.t.cD,cF J H.1=ag)/\H.2∉D.t.cD/\H.2∉C.t.cD/\((H.1=q/\H.2=E)\/(H.1=E/\H.2=q))) ?_ ?_
  .apply bs _;refine eG p (λh1=>?_) (λh1=>?_)
   .apply bs _;refine pu (bE [0,1,2,3,4,5,6,7] (.e 8 (.e 9 .nil))) bN cq ?_;apply ak _;exact cC (E,q) ⟨h1,λJ am=>Ez (ai.2.2.2.2 J am) h1,a0,a3,.inr bD⟩ aZ au
   .apply bs _;exact cC (q,E) ⟨J8 (Ne.symm a4) h1,ai.2.2.2.2,a7,a8,.inl bD⟩ aZ au
  .rintro⟨W,ar⟩ ⟨bb,aL,aS,aT,bc⟩;simp only at bb aL aS aT bc;dsimp only;have aQ:∀l:List aj,(W::ar::l).Perm (E::q::l):=λl=>by
    grind
   apply aC _;apply dQ (C9 ar s b _ cA) _;apply aC _;cases bh:j9 ar s with
   |true=>
    apply bs _;apply hZ 3 (bE [0,1,2,3,4] (.e 5 (.q 6 (.e 7 .nil)))) _;refine jl (O.pick aN (aY ar _ aT ad)) ?_;rintro _ _ ⟨R,aq,ap,aB,rfl,rfl⟩;apply dl _;have aI:∀J∈R.t.cD,cF J W=ag/\j9 J s=ag:=λJ am=>by
     rcases df.1 (ap.perm.subset am)with rfl|h
     .trivial
     .exact⟨aL J (b9.2 (.inr h)),ai.2.2.2.1 J h⟩
    have aF:(b0.node W s D.t R.t).Ok:=⟨ai.1,ap.ok,ai.2.2.1,λJ am=>(aI J am).2,λJ am=>by
     grind⟩
    have aG:(b0.node W s D.t R.t).cD.Perm (E::(b0.node q s D.t C.t).cD):=by
     refine .trans ?_ (aQ (D.t.cD++C.t.cD));refine .cons W ?_;exact((vv D.t.cD).append ap.perm).trans fA
    have aH:D.t.size+R.t.size+1<=100000:=by rw[ap.size,f0,b0.o3];omega
    apply aC _;apply aP (O.pre (M:=ah b 414 (ib W s D.Z R.Z (D.t.size+1+C.t.size))::dr D::dr R::F::ha aq::U) au (n3 W s D R b _ (E::(b0.node q s D.t C.t).cD) _ aF av.1 ap.pI aH aG)) _;rintro _ _ ⟨aK,ax,aJ,aE,rfl,rfl⟩;apply gD _;exact aR ⟨aK,ax++aq,aJ,HD aB aE,rfl,rfl⟩ xx
   |false=>
    apply bs _;apply hZ 2 (bE [0,1,2,3,4] (.e 5 (.q 6 (.e 7 .nil)))) _;refine jl (O.pick aN (aX ar _ aS ad)) ?_;rintro _ _ ⟨R,aq,ap,aB,rfl,rfl⟩;apply dl _;have aI:∀J∈R.t.cD,cF J W=ag/\j9 J s=al:=λJ am=>by
     rcases df.1 (ap.perm.subset am)with rfl|h
     .trivial
     .exact⟨aL J (b9.2 (.inl h)),ai.2.2.1 J h⟩
    have aF:(b0.node W s R.t C.t).Ok:=⟨ap.ok,ai.2.1,λJ am=>(aI J am).2,ai.2.2.2.1,λJ am=>by
     grind⟩
    have aG:(b0.node W s R.t C.t).cD.Perm (E::(b0.node q s D.t C.t).cD):=by
     refine .trans ?_ (aQ (D.t.cD++C.t.cD));refine .cons W ?_;exact ap.perm.append (vv C.t.cD)
    have aH:R.t.size+C.t.size+1<=100000:=by rw[ap.size,f0,b0.o3];omega
    apply aC _;apply aP (O.pre (M:=ah b 414 (ib W s R.Z C.Z (D.t.size+1+C.t.size))::dr R::dr C::F::ha aq::U) au (n3 W s R C b _ (E::(b0.node q s D.t C.t).cD) _ aF ap.pI av.2.1 aH aG)) _;rintro _ _ ⟨aK,ax,aJ,aE,rfl,rfl⟩;apply gD _;exact aR ⟨aK,ax++aq,aJ,HE aB aE,rfl,rfl⟩ xx
def acK:∀(aG)(b)(ap s)(D j)(aq:Q),D.t.size+j.t.size<=aG->(b0.node ap s D.t j.t).Ok->(b0.node ap s D.t j.t).sq->D.t.size+j.t.size+1<=100000->
  Y 550 #[I b] (dr (.node b ap s D j)::aq) λv bg=>By (bi.node b ap s D j).bG (D.t.cD++j.t.cD) aq v bg:=by
 intro aG
 induction aG with
 |zero=>
  intro b ap s D j aq aH W ax aJ
  match D,j,aH with
  | .nil,.nil,_=>
   apply O.open (D:=λ_=>True) (E:=λ_=>[ah b _ _]) (λh q=>⟨(),trivial,C.bl (λ_ _=>C.none_) q⟩) λ_ _=>?_
   show O _ _ _ _ _;refine bt ?_;exact aR ⟨.nil,[.node b ap s .nil .nil],b0.of_nil,λa bh=> .inr ⟨_,oF.2 p,bh⟩,rfl,rfl⟩ (by(repeat first|exact cf|apply Gt|apply Ot|apply Cq|apply Ow|apply ek _)<;>fail)
  | .node _ _ _ _ _,_,h=>simp only[bi.t,b0.size]at h;omega
  | .nil,.node _ _ _ _ _,h=>simp only[bi.t,b0.size]at h;omega
 |succ aG aV=>
  intro b ap s D j aq aH W ax aJ
  by_cases be:D=.nil/\j=.nil
  .obtain⟨rfl,rfl⟩:=be;exact aV b ap s .nil .nil aq (by simp[bi.t,b0.size]) W ax aJ
  apply O.open (ι:=Unit) (D:=λ_=>True) (E:=λ_=>[ah b 414 (ib ap s D.Z j.Z (D.t.size+1+j.t.size)),dr D,dr j]) (λ_ h=>⟨(),trivial,h⟩) λ_ _=>?_
  show O _ _ _ (ah b 414 (ib ap s D.Z j.Z (D.t.size+1+j.t.size))::dr D::dr j::aq) _;have bc:∀M,fM (dr D::M) D:=λM=>ph D M;have bb:∀M,fM (dr j::M) j:=λM=>ph j M;refine cR λ{g F}=>?_;apply bQ _;apply ay _;apply ee _;apply ay _;apply cc;apply fV _;refine ef (ι:=Bool) (λaK=>[(0,I b),(3,.pointer (ab ⟨b,(if aK then 7 else 6),af⟩))]) (λaK=>ah b 414 (ib ap s D.Z j.Z (D.t.size+1+j.t.size))::dr D::dr j::F::aq)
   (λaK=>if aK then ∃aE c R J H,j=.node aE c R J H/\∀E∈D.t.cD,cF E c=ag else ∃aE c R J H,D=.node aE c R J H/\∀E∈j.t.cD,cF E c=ag) ?_ ?_
  .match D,j,be with
   | .nil,.nil,h=>exact absurd bD h
   | .nil,.node aB c R J H,_=>
    apply ak _;refine bF (WF p p p p p ?_);apply gD _;exact cC ag ⟨aB,c,R,J,H,rfl,λE U=>by trivial⟩ aZ au
   | .node aD c R J H,.nil,_=>
    apply ak _;exact cC al ⟨aD,c,R,J,H,rfl,λE U=>by trivial⟩ aZ au
   | .node aD c R J H,.node aB av a9 a7 a4,_=>
    have aQ:=λM=>(bc M).f.uj;have aO:=λM=>(bb M).f.uj;apply ak _;refine j6 dm p p p p ⟨_,rfl,rfl⟩ p (gh p (bx aQ)) ?_;apply aC _;refine j6 dm p p p p ⟨_,rfl,rfl⟩ p (gh p (bx aO)) ?_;refine bF (jQ p p p ⟨_,rfl,rfl⟩ p (c5 p (AP c av _)) ?_);rintro _ _ ⟨rfl,rfl⟩;apply cV _;apply aC _;have bn:∀E∈(bi.node aD c R J H).t.cD,E=c\/cF E c=ag:=λE U=>by
     rcases df.1 U with h|h
     .simp_all
     .exact .inr (W.1.2.2.2.2 E h)
    have bm:∀E∈(bi.node aB av a9 a7 a4).t.cD,E=av\/cF E av=ag:=λE U=>by
     rcases df.1 U with h|h
     .simp_all
     .exact .inr (W.2.1.2.2.2.2 E h)
    have bj:c≠av:=λaE=>by
     have aF:=W.2.2.1 c (by simp[bi.t,b0.cD]);have aM:=W.2.2.2.1 av (by simp[bi.t,b0.cD]);simp_all
    apply bs _;refine eG p (λh1=>?_) (λh1=>?_)
    .apply ak _;refine cC ag ⟨aB,av,a9,a7,a4,rfl,λE U=>?_⟩ aZ au;rcases bn E U with rfl|h
     .omega
     .exact Ez h h1
    .apply ak _;refine cC al ⟨aD,c,R,J,H,rfl,λE U=>?_⟩ aZ au;have ae:=J8 bj h1;rcases bm E U with rfl|h
     .omega
     .exact Ez h ae
  .rintro bp aI;cases bp with
   |true=>
    rw[bJ p]at aI;obtain⟨ar,c,R,J,H,rfl,bo⟩:=aI;have aA:=W.2.1;have aO:=λM=>(bb M).f.uj;simp only[bi.t,b0.AG]at aH aJ;apply aC _;refine a6 (gh p (bx aO)) ?_;apply aC _;refine aP (O.pick aN (aV ar c R J H _ ad aA ax.2.1 ad)) ?_;rintro _ _ ⟨am,az,ai,aS,rfl,rfl⟩;apply aC _;have aW:(b0.node c s D.t am.t).Ok:=⟨W.1,ai.ok,W.2.2.1,λE U=>W.2.2.2.1 E (gn _ (ai.perm.subset U)),λE U=>by
     rcases b9.1 U with h|h
     .simp_all
     .exact aA.2.2.2.2 E (ai.perm.subset h)⟩
    have aX:(b0.node c s D.t am.t).cD.Perm (D.t.cD++(bi.node ar c R J H).t.cD):=by
     refine .trans (.cons c ((vv D.t.cD).append ai.perm)) ?_;exact fA.symm
    have aY:D.t.size+am.t.size+1<=100000:=by rw[ai.size,b4,b0.o3,b0.o3];omega
    apply aC _;apply aP (O.pre (M:=ah b 414 (ib c s D.Z am.Z (D.t.size+1+(bi.node ar c R J H).t.size))::dr D::dr am::F::ha az::aq) au (n3 c s D am b _ _ _ aW ax.1 ai.pI aY aX)) _;rintro _ _ ⟨a3,aL,a0,aT,rfl,rfl⟩;apply gD _;exact aR ⟨a3,aL++az,a0,HD aS aT,rfl,rfl⟩ xx
   |false=>
    rw[a8 ao]at aI;obtain⟨ar,c,R,J,H,rfl,bo⟩:=aI;have aA:=W.1;have aQ:=λM=>(bc M).f.uj;simp[bi.t,b0.AG]at aH aJ;apply aC _;refine a6 (gh p (bx aQ)) ?_;apply aC _;refine aP (O.pick aN (aV ar c R J H _ ad aA ax.1 ad)) ?_;rintro _ _ ⟨am,az,ai,aS,rfl,rfl⟩;apply aC _;have aW:(b0.node c s am.t j.t).Ok:=⟨ai.ok,W.2.1,λE U=>W.2.2.1 E (gn _ (ai.perm.subset U)),W.2.2.2.1,λE U=>by
     rcases b9.1 U with h|h
     .exact aA.2.2.2.2 E (ai.perm.subset h)
     simp_all⟩
    have aX:(b0.node c s am.t j.t).cD.Perm ((bi.node ar c R J H).t.cD++j.t.cD):=.cons c (ai.perm.append (vv j.t.cD));have aY:am.t.size+j.t.size+1<=100000:=by rw[ai.size,b4,b0.o3,b0.o3];omega
    apply aC _;apply aP (O.pre (M:=ah b 414 (ib c s am.Z j.Z ((bi.node ar c R J H).t.size+1+j.t.size))::dr am::dr j::F::ha az::aq) au (n3 c s am j b _ _ _ aW ai.pI ax.2.1 aY aX)) _;rintro _ _ ⟨a3,aL,a0,aT,rfl,rfl⟩;apply gD _;exact aR ⟨a3,aL++az,a0,HE aS aT,rfl,rfl⟩ xx
def uc:∀(W)(C)(R:Q),W.t.Ok->W.t.sq->C∈W.t.cD->W.t.size<=100000->
  Y 504 #[.pointer W.Z,C.v] (dr W::R) λv aK=>By W.bG (W.t.cD.erase C) R v aK
 | .nil,C,R,_,_,aA,_=>by cases aA
 | .node b q s j D,C,R,I,aq,aA,aQ=>by
  have aS:=λC R=>uc j C R I.1 aq.1;have aT:=λC R=>uc D C R I.2.1 aq.2.1;simp only[bi.t,b0.AG]at aQ;show O _ _ _ _ _
  by_cases aJ:q=C
  .subst aJ;have az:(bi.node b q s j D).t.cD.erase q=j.t.cD++D.t.cD:=by simp[bi.t,b0.cD]
   rw[az];have aM:∀M,aU _ b _ 3 _:=λM=>(ph (.node b q s j D) M).f.uj;refine aD ?_;refine bg λaL=>?_;refine eh p (gh p (bx aM)) ?_;apply bu _;refine fc p (zo p p p p p p) ?_;apply fO _;refine gJ p (cO p) ?_;apply aC _;refine aP (O.pick aN (acK 200000 b q s j D _ ad I aq ad)) ?_;rintro _ _ ⟨H,ai,J,ap,rfl,rfl⟩;apply gD _;exact aR ⟨H,ai,J,ap,rfl,rfl⟩
  .have aW: ¬ [q.id,q.x,q.y]=[C.id,C.x,C.y]:=λh=>aJ (by
    simp only[so,and_true]at h;rw[aj.CJ];omega)
   have aI:C∈j.t.cD++D.t.cD:=by
    rcases df.1 aA with h|h
    .simp_all
    omega
   have az:(bi.node b q s j D).t.cD.erase C=q::(j.t.cD++D.t.cD).erase C:=by
    show(q::(j.t.cD++D.t.cD)).erase C= _;simp_all
   rw[az];apply O.open (ι:=Unit) (D:=λ_=>True) (E:=λ_=>[ah b 414 (ib q s j.Z D.Z (j.t.size+1+D.t.size)),dr j,dr D]) (λ_ h=>⟨(),trivial,h⟩) λ_ _=>?_
   show O _ _ _ (ah b 414 (ib q s j.Z D.Z (j.t.size+1+D.t.size))::dr j::dr D::R) _;refine aD λ{g F}=>?_;apply AM λaL=>?_;apply dQ (C9 C s b _ cA) _;apply aC _;cases aV:j9 C s with
   |true=>
    have am:C∈D.t.cD:=by
     rcases b9.1 aI with h|h
     .have:=I.2.2.1 C h;simp_all
     omega
    have aO:C∉j.t.cD:=λh=>by have:=I.2.2.1 C h;simp_all
    apply hZ 4 (bE [0,1,2,3,4] (.e 5 (.q 6 (.e 7 .nil)))) _;refine jl (O.pick aN (aT C _ am ad)) ?_;rintro _ _ ⟨H,ai,J,ap,rfl,rfl⟩;apply dl _;have ar:∀E∈H.t.cD,E∈D.t.cD:=λE U=>q3 (J.perm.subset U);have aB:(b0.node q s j.t H.t).Ok:=⟨I.1,J.ok,I.2.2.1,λE U=>I.2.2.2.1 E (ar E U),λE U=>by
     rcases b9.1 U with h|h
     .exact I.2.2.2.2 E (b9.2 (.inl h))
     .exact I.2.2.2.2 E (b9.2 (.inr (ar E h)))⟩
    have aE:(b0.node q s j.t H.t).cD.Perm (q::(j.t.cD++D.t.cD).erase C):=by
     rw[List.erase_append_right _ aO];exact .cons q ((vv j.t.cD).append J.perm)
    have aF:j.t.size+H.t.size+1<=100000:=by
     have:=vA am;rw[J.size,this,b0.o3];omega
    apply aC _;apply aP (O.pre (M:=ah b 414 (ib q s j.Z H.Z (j.t.size+1+D.t.size))::dr j::dr H::F::ha ai::R) au (n3 q s j H b _ _ _ aB aq.1 J.pI aF aE)) _;rintro _ _ ⟨aH,av,aG,ax,rfl,rfl⟩;apply gD _;exact aR ⟨aH,av++ai,aG,HD ap ax,rfl,rfl⟩ xx
   |false=>
    have am:C∈j.t.cD:=by
     rcases b9.1 aI with h|h
     .omega
     .have:=I.2.2.2.1 C h;simp_all
    apply hZ 3 (bE [0,1,2,3,4] (.e 5 (.q 6 (.e 7 .nil)))) _;refine jl (O.pick aN (aS C _ am ad)) ?_;rintro _ _ ⟨H,ai,J,ap,rfl,rfl⟩;apply dl _;have ar:∀E∈H.t.cD,E∈j.t.cD:=λE U=>q3 (J.perm.subset U);have aB:(b0.node q s H.t D.t).Ok:=⟨J.ok,I.2.1,λE U=>I.2.2.1 E (ar E U),I.2.2.2.1,λE U=>by
     rcases b9.1 U with h|h
     .exact I.2.2.2.2 E (b9.2 (.inl (ar E h)))
     .exact I.2.2.2.2 E (b9.2 (.inr h))⟩
    have aE:(b0.node q s H.t D.t).cD.Perm (q::(j.t.cD++D.t.cD).erase C):=by
     rw[List.erase_append_left _ am];exact .cons q (J.perm.append (vv D.t.cD))
    have aF:H.t.size+D.t.size+1<=100000:=by
     have:=vA am;rw[J.size,this,b0.o3];omega
    apply aC _;apply aP (O.pre (M:=ah b 414 (ib q s H.Z D.Z (j.t.size+1+D.t.size))::dr H::dr D::F::ha ai::R) au (n3 q s H D b _ _ _ aB J.pI aq.2.1 aF aE)) _;rintro _ _ ⟨aH,av,aG,ax,rfl,rfl⟩;apply gD _;exact aR ⟨aH,av++ai,aG,HE ap ax,rfl,rfl⟩ xx
def jD(C:Int)(l:List aj)(j:aj):Int:=if fe j=al then 1 else if j∈l then 5 else if C<=aa l then 4 else 0
def C1(C:Int)(l:List aj)(j:aj):List aj:=if jD C l j=0 then j::l else l
def qB(l:List aj)(j:aj):Int:=if j∈l then 0 else 6
def aeB(b H l C)(ax:Q)(D)(o:D.t.i9 l)(aH:aa l+1<=100000):
  Y 453 #[I b,C.v] (ah b 249 (jI D H)::dr D::ax) λv U=>v=j (jD H l C)/\∃ap ai,ap.t.i9 (C1 H l C)/\(∀a∈D.bG,iD ap ai a)/\U=ah b 249 (jI ap H)::dr ap::ha ai::ax:=by
 have aA:C∈D.t.cD<->C∈l:=o.perm.mem_iff;have aI:=o.size;have av:∀U,aU (ah b 249 (jI D H)::U) b 0 2 _:=λU=>aU.ah p;have Z:=λU=>ph D U;have R:=λM h1 ae=>PM b D H C M h1 ae o.ok;have J:=yA C;rw[decide_eq_decide.2 aA]at R;unfold C1
 by_cases am:jD H l C=0
 .rw[bJ am,am];have ar:fe C=ag/\C∉l/\¬H<=aa l:=by
   grind[jD]
  obtain⟨ar,az,aG⟩:=ar;rw[ar]at J;rw[cw az]at R;refine aD ?_;refine bg λaq=>?_;apply a9 (J _) _;apply dQ (R _ (bx av) (bx Z)) _;apply fK (bE [0,1,2,3,5,6,7,8] (.e 4 (.q 9 (.q 10 .nil)))) _;refine nW p p (xO D _ (bx Z)) ?_;iterate 2 apply bu _
  apply fO _;refine e9 p (cw ad) ?_;apply hZ 3 (bE [0,1,2,3,4,5] (.e 6 (.q 7 (.q 8 (.e 9 .nil))))) _;refine jl (O.pick aN (r1 D C _ o.ok o.pI (λh=>az (aA.1 h)) ad)) ?_;rintro _ _ ⟨aF,ai,aE,aB,rfl,rfl⟩;apply ak _;exact aR ⟨rfl,aF,ai,aE.congr (o.perm.cons C),aB,rfl⟩
 .rw[a8 am];generalize E:jD H l C=c at*
  unfold jD at E;cases h1:fe C with
  |false=>
   rw[bJ h1]at E;subst E;rw[h1]at J;refine aD ?_;refine bg λaq=>?_;apply a9 (J _) _;exact aR ⟨rfl,D,[],o,λa W=> .inl W,rfl⟩ xw
  |true=>
   rw[a8 bo]at E;rw[h1]at J
   by_cases ae:C∈l
   .rw[bJ ae]at E;subst E;rw[cO ae]at R;refine aD ?_;refine bg λaq=>?_;apply a9 (J _) _;apply a9 (R _ (bx av) (bx Z)) _;exact aR ⟨rfl,D,[],o,λa W=> .inl W,rfl⟩ xw
   .rw[a8 ae]at E;rw[cw ae]at R
    by_cases an:H<=aa l
    .rw[bJ an]at E;subst E;refine aD ?_;refine bg λaq=>?_;apply a9 (J _) _;apply dQ (R _ (bx av) (bx Z)) _;apply fK (bE [0,1,2,3,5,6,7,8] (.e 4 (.q 9 (.q 10 .nil)))) _;apply dM (xO D _ (bx Z)) _;exact aR ⟨rfl,D,[],o,λa W=> .inl W,rfl⟩ xw
    .rw[a8 an]at E;exact absurd E.symm am
def aev(b U l C)(ai:Q)(D)(o:D.t.i9 l)(aB:aa l<=100000):
  Y 454 #[I b,C.v] (ah b 249 (jI D U)::dr D::ai) λv E=>v=j (qB l C)/\∃W R,W.t.i9 (l.erase C)/\(∀a∈D.bG,iD W R a)/\E=ah b 249 (jI W U)::dr W::ha R::ai:=by
 have am:C∈D.t.cD<->C∈l:=o.perm.mem_iff;have aE:=o.size;have aq:∀E,aU (ah b 249 (jI D U)::E) b 0 2 _:=λE=>aU.ah p;have ap:=λE=>ph D E;have J:=λM h1 ae=>PM b D U C M h1 ae o.ok;rw[decide_eq_decide.2 am]at J
 by_cases H:C∈l
 .have Z:qB l C=0:=bJ H;rw[Z];rw[cO H]at J;refine aD ?_;refine bP λar=>?_;refine f1 p (J _ (bx aq) (bx ap)) ?_;refine a6 (gz p) ?_;apply aC _;apply hZ 3 (bE [0,1,2,3,4,5] (.e 6 (.q 7 (.q 8 (.e 9 .nil))))) _;refine jl (O.pick aN (uc D C _ o.ok o.pI (am.2 H) ad)) ?_;rintro _ _ ⟨aA,R,az,av,rfl,rfl⟩;apply ak _;exact aR ⟨rfl,aA,R,az.congr (o.perm.erase C),av,rfl⟩
 .have Z:qB l C=6:=a8 H;rw[Z,List.erase_of_not_mem H];rw[cw H]at J;refine aD ?_;refine bP λar=>?_;apply a9 (J _ (bx aq) (bx ap)) _;exact aR ⟨rfl,D,[],o,λa ax=> .inl ax,rfl⟩ xw
def nF(E:Nat)(D:Int)(l:List aj)(S:List Nat):aG:=λh=>∃j:bi×List bi,(j.1.t.i9 l/\∀a∈S,iD j.1 j.2 a)/\C [ah E 249 (jI j.1 D),dr j.1,ha j.2] h
section
variable{P:bk}{f:FuncId}{args:Array a2}{L:Q}{t:Nat}{bT:Int}{l:List aj}{S:List Nat}
def O.Ux{J:a2->Prop}{I}(R:∀(j)(M:Q),j.t.i9 l->O P f args (ah t 249 (jI j bT)::dr j::M) λv D=>J v/\∃E H,E.t.i9 I/\(∀a∈j.bG,iD E H a)/\D=ah t 249 (jI E bT)::dr E::ha H::M):
  O P f args (nF t bT l S::L) λv D=>J v/\D=nF t bT I S::L:=by
 have ai:∀(j:bi×List bi),(j.1.t.i9 l/\∀a∈S,iD _ _ a)->O P f _ _ λv D=>J v/\D=nF t bT I S::L:=λj o=>
  (R _ (ha j.2::L) o.1).cr λv D ap ⟨U,E,H,am,Y,W⟩ q=>⟨_,⟨U,rfl⟩,by
   subst W;have aM:=C.bl (λ_ s=>C.bl (λ_ s=>Ou cT _ s) s) q;exact C.fold (λh q=>⟨(E,H++j.2),⟨am,λa Z=>acH Y (o.2 a Z)⟩,q⟩) aM⟩
 exact O.open (ι:=bi×List bi) (λ_ h=>h) ai
end
def Wz(H D C E S)(J:Q)(U:aa C<=1000):aY 453 #[I H,E.v] (nF H D C S::J) (j (jD D C E)) (nF H D (C1 D C E) S::J):=
 O.Ux λR M o=>aeB H D C E M R o ad
def Wy(E H C D S)(J:Q)(U:aa C<=1000):aY 454 #[I E,D.v] (nF E H C S::J) (j (qB C D)) (nF E H (C.erase D) S::J):=
 O.Ux λR M o=>aev E H C D M R o ad
def WA(D E)(Q:1<=D/\D<=1048576):Y 85 #[j D] E λv J=>∃b,v=.tuple #[I b,j 0]/\J=nF b D [] []::E:=by
 refine bt ?_;refine bg λH=>?_;refine ba rfl (.tmp p ds) ?_ ⟨H,rfl,rfl⟩;apply cP;exact aN;exact λh s=>C.fold (N:=[_,_,_]) (λh q=>⟨(.nil,[]),⟨b0.of_nil,λa O=>by trivial⟩,q⟩) ((show aS _ (ah H 249 (jI .nil D)::dr .nil::ha []:: _)from(k3 @Gt @Cq)) h s)
end et
namespace et
instance ajh:d3 bi:=⟨1,λj=>[.pointer j.Z],λ_=>rfl,λ_ v h=>by simp at h;subst h;rfl⟩
def be(b:Nat)(H:Int)(l:List bi):aG:=λh=>∃D:Option cg×Nat,(0<aa l->∃b,D.1=(U b))/\C [ah b 594 [.slice D.1 (aa l) D.2,j H],E 247 1 D.1 (aa l) D.2 (J l)] h
def va{s H l M D}(h:C (be s H l::M) D):∃A c,(0<aa l->∃b,A=(U b))/\aa l<=c/\c<=maxLen/\C (ah s 594 [.slice A (aa l) c,j H]::E 247 1 A (aa l) c (J l)::M) D:=by
 let⟨h1,ae,O,W,Y,⟨⟨A,c⟩,R,q⟩,Z⟩:=h;have I:=E.facts q.tail;exact⟨A,c,R,I.2.1,I.2.2.1,C.head (A:=λh=>h=h1) (λ_ Q=>Q▸q) ⟨h1,ae,O,W,Y,rfl,Z⟩⟩
def O.p8{D H args C b Q l W}
  (R:∀A c,(0<aa l->∃b,A=(U b))->aa l<=c->c<=maxLen->O D H args (ah b 594 [.slice A (aa l) c,j Q]::E 247 1 A (aa l) c (J l)::C) W):O D H args (be b Q l::C) W:=λg F Z I=>by
 let⟨A,c,h1,ae,an,Y⟩:=va I.s.swap;exact R A c h1 ae an g F Z ⟨I.g,Y.perm (fA (l₁:=[_,_]))⟩
def n1{D M b c A H l}(O:0<aa l->∃b,A=(U b))(I:aS D (ah b 594 [.slice A (aa l) c,j H]::E 247 1 A (aa l) c (J l)::M)):aS D (be b H l::M):=λh s=>
 C.fold (N:=[_,_]) (λh q=>⟨(A,c),O,q⟩) (I h s)
theorem tx{b C l j}(h:l.map bi.Z=j.map bi.Z):be b C l=be b C j:=by
 have D:∀{l j:List bi},l.map bi.Z=j.map bi.Z->J l=J j:=λ{l}=>by
  induction l with
  |nil=>simp
  |cons I l H=>intro j h;cases j with
   |nil=>grind
   |cons y j=>
    simp[so]at h;rw[h9,h9,H h.2];show[Value.pointer _]++ _=[Value.pointer _]++ _;grind
 have E:aa l=aa j:=by have:=congrArg aa h;grind
 unfold be;rw[E,D h]
def IB{D b c H j v C}(J:aa (v::j::C)=c*1)(O:2<=c)(Q:c<=maxLen):aS (ah b H (j::v::C)::D) (E H 1 (U b) 2 c [j,v]::D):=λh s=>by
 let⟨h1,ae,I,R,W,q,Y⟩:=s;exact⟨h1,ae,I,R,W,E.gP (n:=2) (c:=c) (eF:=1) (j:=j::v::C) q J O Q,Y⟩
theorem JR(j v C):eS (eS (j::v::C) (0+0*1) [v]) (0+1*1) [j]=v::j::C:=by
 rw[lh (j::v::C) _ _ ao,lh _ _ _ ao];simp
attribute [local irreducible] C
abbrev mV:Nat:=247
abbrev Ke:Nat:=554
abbrev Kf:Nat:=592
abbrev tF:Nat:=683
abbrev qZ:Nat:=685
abbrev vn:Type:=bi
def sr{D}{c1 c2:bz}{E}{po_:List aG->Prop}[H:cu ar D](h:Y D (c1++[]++c2).toArray E λv C=>po_ C):
  Y 166 #[.func (.func D) c1.toArray c2.toArray] E λv C=>v=.tuple #[.agg #[j 0,j 0],.bool false]/\po_ C:=Jn
def tY(C):Y 476 #[j 65536] C λv D=>∃b,v=.tuple #[I b,j 0]/\D=be b 65536 []::C:=Jx
def m9(b l C):aY 668 #[I b] (be b 65536 l::C) (j (l.length:Nat)) (be b 65536 l::C):=Jy
def AI(b A c C)(h:aU C b 0 2 [.slice A 0 c,j 65536]):aY 685 #[I b] C (.tuple #[.pointer none,.bool false]) C:=Jz
def AH(b A n c l)(D:bi)(C)(h:aU C b 0 2 [.slice A n c,j 65536])(E:Rd C A n (l++[D]))(J:n=l.length+1)(H:n<=65536):aY 685 #[I b] C (.tuple #[.pointer D.Z,.bool true]) C:=JA
def Al(b j):aY 681 #[I b] (be b 65536 []::j) (.tuple #[.pointer none,.bool false]) (be b 65536 []::j):=JB
def Ak(b l j C)(H:l.length+1<=65536):aY 681 #[I b] (be b 65536 (l++[j])::C) (.tuple #[.pointer j.Z,.bool true]) (be b 65536 l::C):=JC
def u1(b A C q l D j)(E:Rd j A C D)(H:l.length+C<=65536):aY 529 #[I b,.slice A C q] (be b 65536 l::j) (.tuple #[]) (be b 65536 (l++D)::j):=JD
def Ao(E H b A C q l D j)(ae:a5 j ⟨E,0,none⟩ (I b))(an:a5 j ⟨H,0,none⟩ (.slice A C q))(R:Rd j A C D)(Q:l.length+C<=65536):
  Y 528 #[I E,I H] (be b 65536 l::j) λv J=>J=be b 65536 (l++D)::j:=JE
def tW(b A D q l E C)(R:Rd C A D E)(Q:l.length+D<=65536):aY 478 #[I b,.slice A D q] (be b 65536 l::C) (j 0) (be b 65536 (l++E)::C):=JF
def vU(A n c)(l:List bi)(j)(D:Rd j A n l)(O:n<=1000000):
  Y 682 #[.slice A n c] j λv C=>Made 247 l j v C:=Jo
def yB(A c)(l:List bi)(D)(Q:0<l.length->∃b,A=(U b))(ae:l.length<=2):
  aY 683 #[.slice A l.length c] (E 247 1 A l.length c (J l)::D) (.tuple #[]) (E 247 1 A l.length c (J l.reverse)::D):=Jp
def lG(j:bk)(C:TypeId):Bool:=match j.underlying C with
 |some (.func _ _ _)=>ag
 | _=>al
class kC (j:bk) (C:TypeId):Prop where
 h:lG j C=ag
def kC.spec{j C}(D:kC j C):∃a b c,j.underlying C=some (.func a b c):=Jq
def wM{j O H}{U:Option Nat}{am C Q ai R W I y E a b}[J:kC j C](Z:aX H I=ab (.func E a b))(ah:aX H y=ab .nilFunc):bh j O H ⟨U,.binOp .eql C I y Q,am,ai,R,W⟩ (.bool al):=
 jU _ _ _ _ (λD=>by unfold eqGuard;split<;>rfl) Z ah λD=>by
  obtain⟨_,_,_,Y⟩:=J.spec;have ae:(eo C (.func E a b) .nilFunc).run j D=.ok al D:=by
   unfold eo;rw[show Op.maxDepth=9999+1 from rfl];unfold Op.equalIn;simp only[cM,run_underlying Y,dG];rfl
  show((do pure (.bool (<- eo C (.func E a b) .nilFunc)):Sem a2)).run j D= _;simp only[cM,ae,dG,Sem.run_pure]
instance:kC ar 682:=⟨cq⟩
structure h6 (S:Type)where
 V:S->aG
 ok:bi->S->Prop
 kids:bi->List bi
 gl:bi->S->S
 f:FuncId
 c1:List a2
 c2:List a2
 il:List bi->S->Nat->Prop
@[reducible] def e3 {S} (C:h6 S) (s n:Nat):List Value:=[I s,.func (.func C.f) C.c1.toArray C.c2.toArray,j (n:Nat)]
def AS{S}(D:h6 S)(j s n C):aY 677 #[I j] (ah j 685 (e3 D s n)::be s 65536 []::C) (.bool false) (ah j 685 (e3 D s n)::be s 65536 []::C):=Jr
def AR{S}(j J s n l C)(D:S)(H:Q)(U:cu ar j.f)(ai:∀M:List aG,(aS M H)->Y j.f (j.c1++[Value.pointer C.Z]++j.c2).toArray (j.V D::M) λv R=>Made 247 (j.kids C) (j.V (j.gl C D)::M) v R)(W:(j.kids C).length<=2)(ax:l.length<=60000)(az:n<=1000000000000):
  aY 677 #[I J] (ah J 685 (e3 j s n)::be s 65536 (l++[C])::j.V D::H) (.bool true) (ah J 685 (e3 j s (n+1))::be s 65536 (l++(j.kids C).reverse)::j.V (j.gl C D)::H):=Js
def Kb{S}(C R J E s l D)(H:S)(U:Q)(ai:cu ar C.f)(aq:∀M:List aG,(aS M U)->Y C.f (C.c1++[Value.pointer D.Z]++C.c2).toArray (C.V H::M) λv W=>Made 247 (C.kids D) (C.V (C.gl D H)::M) v W)(am:(C.kids D).length<=2)(ap:l.length<=60000):
  Y 676 #[I R,I J] (ah R 683 [I E]::ah J 3 [j (1:Nat)]::ah E 685 (e3 C s 0)::be s 65536 (l++[D])::C.V H::U)
   λv W=>W=ah R 683 [I E]::ah J 3 [j (1:Nat)]::ah E 685 (e3 C s 1)::be s 65536 (l++(C.kids D).reverse)::C.V (C.gl D H)::U:=Jt
def yI{S}(C:h6 S)(s l D E)(H:Q)(R:cu ar C.f)(ah:∀M:List aG,(aS M H)->Y C.f (C.c1++[Value.pointer D.Z]++C.c2).toArray (C.V E::M) λv J=>Made 247 (C.kids D) (C.V (C.gl D E)::M) v J)(U:(C.kids D).length<=2)(W:l.length<=60000):
  Y 671 #[I s,j (1:Nat),.func (.func C.f) C.c1.toArray C.c2.toArray] (be s 65536 (l++[D])::C.V E::H)
   λv J=>v=.tuple #[j (1:Nat),j 0]/\J=be s 65536 (l++(C.kids D).reverse)::C.V (C.gl D E)::H:=Ju
def Kc{S}(H:h6 S)(E D C s)(J:Q):
  Y 676 #[I E,I D] (ah E 683 [I C]::ah D 3 [j (1:Nat)]::ah C 685 (e3 H s 0)::be s 65536 []::J)
   λv R=>R=ah E 683 [I C]::ah D 3 [j (1:Nat)]::ah C 685 (e3 H s 0)::be s 65536 []::J:=Jv
def yH{S}(C:h6 S)(s)(D:Q):
  Y 671 #[I s,j (1:Nat),.func (.func C.f) C.c1.toArray C.c2.toArray] (be s 65536 []::D)
   λv E=>v=.tuple #[j (0:Nat),j 0]/\E=be s 65536 []::D:=Jw
end et
namespace et
def CF{E D W}{I:Option Nat}{R Q O H J U C}(Z:aX W U=ab (j C)):
  bh E D W ⟨I,.call ⟨.builtin .max,#[U,.const (j 0)],Q⟩,R,O,H,J⟩ (j (C.toNat:Nat)):=by
 have h:=wP (P:=E) (L:=D) (d:=I) (aO:=R) (J:=Q) (pos:=O) (aT:=H) (a7:=J) (y:=.const (.int _ 0)) Z p;have Y:max C 0=((C.toNat:Nat):Int):=ao;rwa[Y]at h
@[reducible] def hR (s:Nat) (C:j8) (H:Bool) (A:a3) (E c n D:Nat):List Value:=[I s,j C.cN,j C.cQ,j C.y,.bool H,.slice A E c,j (n:Nat),j (D:Nat)]
def iT(b s:Nat)(H:j8)(I:Bool)(j:List Int)(n D:Nat):aG:=λh=>∃y:Option cg×Nat,(0<aa j->∃b,y.1=(U b))/\C [ah b 560 (hR s H I y.1 (aa j) y.2 n D),E 3 1 y.1 (aa j) y.2 (J j)] h
def N5{b s n H O Q j M D}(h:C (iT b s O Q j n H::M) D):∃A c,(0<aa j->∃b,A=(U b))/\aa j<=c/\c<=maxLen/\C (ah b 560 (hR s O Q A (aa j) c n H)::E 3 1 A (aa j) c (J j)::M) D:=by
 let⟨h1,ae,R,Z,ai,⟨⟨A,c⟩,Y,q⟩,am⟩:=h;have I:=E.facts q.tail;exact⟨A,c,Y,I.2.1,I.2.2.1,C.head (A:=λh=>h=h1) (λ_ W=>W▸q) ⟨h1,ae,R,Z,ai,rfl,am⟩⟩
theorem O.bH{D H args C b s n Q Y Z j W}
  (R:∀A c,(0<aa j->∃b,A=(U b))->aa j<=c->c<=maxLen->O D H args (ah b 560 (hR s Y Z A (aa j) c n Q)::E 3 1 A (aa j) c (J j)::C) W):O D H args (iT b s Y Z j n Q::C) W:=λg F v I=>by
 let⟨A,c,h1,ae,an,ai⟩:=N5 I.s.swap;exact R A c h1 ae an g F v ⟨I.g,ai.perm (fA (l₁:=[_,_]))⟩
def Bj{O C g I D Z H b s n R W Y j}
  (h:∀A c,(0<aa j->∃b,A=(U b))->aa j<=c->c<=maxLen->G O C g I D Z (ah b 560 (hR s W Y A (aa j) c n R)::E 3 1 A (aa j) c (J j)::H)):G O C g I D Z (iT b s W Y j n R::H):=λa v am Q=>by
 let⟨A,c,h1,ae,an,ai⟩:=N5 Q.s;exact h A c h1 ae an a v am ⟨Q.g,ai⟩
def o4{D M b s c n H A I O j}(R:0<aa j->∃b,A=(U b))(Q:aS D (ah b 560 (hR s I O A (aa j) c n H)::E 3 1 A (aa j) c (J j)::M)):aS D (iT b s I O j n H::M):=λh W=>
 C.fold (N:=[_,_]) (λh q=>⟨(A,c),R,q⟩) (Q h W)
theorem Ph:∀l:List bi,J (sE l)=J l
 | []=>rfl
 |x::l=>by
  have j:sE (x::l)=x.Z::sE l:=rfl;rw[j,h9,h9,Ph l];rfl
attribute [local irreducible] C bh b6
def Fs(D C E)(h:fM E D):Y 678 #[.pointer D.Z,.agg #[j C.cN,j C.cQ,j C.y]] E λv I=>Mq (D.kI C) (D.next C) E v I:=by
 refine aD ?_;refine bP λQ=>?_;apply aP (HU D C _ h.ap.ap) _;rintro _ _ ⟨H,J,rfl,O,rfl⟩;apply ak _;exact aR ⟨H,J,rfl,O,rfl⟩
def bi.jZ:bi->aj
 | .nil=>⟨0,0,0⟩
 | .node _ j _ _ _=>j
def Wr(j C)(h:fM C j):Y 679 #[.pointer j.Z] C λv D=>v=j.jZ.v/\D=C:=by
 cases j with
 |nil=>
  refine aD ?_;refine bg λE=>?_;refine ba p (.cell p (eQ cA) .nil) a1 bD
 |node b J s I H=>
  obtain⟨aF,aM,O,Q,R,U,W,ah,ai⟩:=h.f;refine aD ?_;refine bg λE=>?_;refine ba p (.cell p (eQ cA) .nil) a1 bD
theorem Ro(C)(j:bi):aa (j.next C)<=2:=by
 cases j with
 |nil=>simp[bi.next,bi.th,bi.ti]
 |node b H s E D=>
  grind[bi.next,bi.th,bi.ti]
def Ft(D C H)(h:fM H D):Y 678 #[.pointer D.Z,.agg #[j C.cN,j C.cQ,j C.y]] H λv I=>∃A c,v=.tuple #[.bool (D.kI C),.slice A (aa (D.next C)) c]/\(0<aa (D.next C)->∃b,A=(U b))/\I=E 247 1 A (aa (D.next C)) c (J (D.next C))::H:=
 (Fs D C H h).mono λv I ⟨A,c,O,Q,R⟩=>⟨A,c,O,Q,by rw[R,Ph]⟩
def YZ(b s av j aq D n C ai)(az:fM ai C)(aQ:n<=1000000000)(aM:aa D<=1000000000):
  Y 672 #[I b,.pointer C.Z] (iT b s j aq D n av::ai) λv aB=>Made 247 (C.next j) (iT b s j aq (if C.kI j&&aq then D++[C.id]else D) (if C.kI j then n+1 else n) av::ai) v aB:=by
 apply O.bH λA c ax aJ aK=>?_;refine aD ?_;refine aP (Ft C j _ az.ap.ap.ap) ?_;rintro _ _ ⟨ah,am,rfl,ar,rfl⟩;apply dl _;cases aF:C.kI j with
 |false=>
  apply ak _;exact aR ⟨ah,am,rfl,ar,rfl⟩ (dp (o4 (c:=c) ax))
 |true=>
  cases C with
  |nil=>cases aF
  |node H U W R Q=>
   cases aq with
   |true=>
    apply ak _;apply dM (Wr (bi.node H U W R Q) _ az.ap.ap.ap.ap) _;apply h5 λaI=>?_;apply nH λaA aE aL aO aH=>?_;have aG:aa (D++[(bi.node H U W R Q).id])=aa D+1:=ao;refine ba (C:=E 247 1 ah (aa ((bi.node H U W R Q).next j)) am (J ((bi.node H U W R Q).next j))::iT b s j ag (D++[(bi.node H U W R Q).id]) (n+1) av::ai) p ds ?_ ⟨ah,am,rfl,ar,rfl⟩;apply cP;exact aN;apply cP;exact aN;refine o4 (c:=aE) (A:=aA) (λ_=>aH ao) ?_;rw[aG,<- gi];exact au
   |false=>
    apply ak _;exact aR ⟨ah,am,rfl,ar,rfl⟩ (dp (o4 (c:=c) ax))
def bi.rt(j:bi):List bi:=if j.Z.isSome then[j]else[]
@[reducible] def N8 (b s:Nat) (D:j8) (E:Bool) (H:Nat):h6 (List Int×Nat)where
 V:=λj=>iT b s D E j.1 j.2 H
 ok:=λ_ _=>True
 kids:=λC=>C.next D
 gl:=λC j=>(if C.kI D&&E then j.1++[C.id]else j.1,if C.kI D then j.2+1 else j.2)
 f:=672
 c1:=[I b]
 c2:=[]
 il:=λ_ _ _=>True
def So(Q D R C W H)(h:aU H Q 0 2 (jI D R)):
  Y 434 #[I Q,.agg #[j C.cN,j C.cQ,j C.y],.bool W] H λar Z=>∃c s,ar=(I c)/\Z=iT c s C W [] 0 0::be s 65536 D.rt::H:=by
 refine aD ?_;refine bP λav=>?_;apply aP (tY _) _;rintro _ _ ⟨s,rfl,rfl⟩;apply aC _;apply a9 (WR Q D R _ h.ap.ap.ap) _;cases D with
 |nil=>
  apply aC _;apply bg λJ=>?_;apply bp (E.c7 3 1);exact aR ⟨J,s,rfl,rfl⟩ (by(repeat first|exact cf|apply o4 (c:=0) (A:=af) db|apply ek _)<;>fail)
 |node b aq q am ai=>
  apply aC _;apply bd λah=>?_;refine dQ (O.pick aN (tW s (U ah) 1 1 [] [bi.node b aq q am ai] _ ID bL)) ?_;apply bg λJ=>?_;apply bp (E.c7 3 1);exact aR ⟨J,s,rfl,rfl⟩ (by(repeat first|exact cf|apply o4 (c:=0) (A:=af) db|apply ek _)<;>fail)
def aeG(E H J C D)(h:aU D E 0 2 (jI H J)):
  Y 392 #[I E,.agg #[j C.cN,j C.cQ,j C.y]] D λQ O=>∃c s,Q=(I c)/\O=iT c s C ag [] 0 0::be s 65536 H.rt::D:=by
 refine aD ?_;refine bP λR=>?_;apply aP (b3 (So E H J C ag D h)) _;rintro _ _ ⟨_,⟨c,s,rfl,rfl⟩,rfl⟩;apply gD _;exact aR ⟨c,s,rfl,rfl⟩
def aeu(E H J C D)(h:aU D E 0 2 (jI H J)):
  Y 391 #[I E,.agg #[j C.cN,j C.cQ,j C.y]] D λQ O=>∃c s,Q=(I c)/\O=iT c s C al [] 0 0::be s 65536 H.rt::D:=by
 refine aD ?_;refine bP λR=>?_;apply aP (b3 (So E H J C al D h)) _;rintro _ _ ⟨_,⟨c,s,rfl,rfl⟩,rfl⟩;apply gD _;exact aR ⟨c,s,rfl,rfl⟩
def ae0(b s J n D H l C E Q)(ax:fM Q C)(ai:aa l<=60000)(ar:aa E<=1000000000)(aq:n<=1000000000)(aL:J<=1000000000):
  aY 666 #[I b,j 1] (iT b s D H E n J::be s 65536 (l++[C])::Q) (.tuple #[j (1:Nat),.bool (decide ((aa (l++(C.next D).reverse):Int)=0))]) (iT b s D H (if C.kI D&&H then E++[C.id]else E) (if C.kI D then n+1 else n) (J+1)::be s 65536 (l++(C.next D).reverse)::Q):=by
 have R:=λM h=>yI (N8 b s D H J) s l C (E,n) M (inferInstanceAs (cu _ _)) h (Ro D C) ai;have av:=λM h=>YZ b s J D H E n C M h aq ar;dsimp only at R;generalize(if C.kI D&&H then E++[C.id]else E)=aA at*
 generalize(if C.kI D then n+1 else n)=az at*
 refine cR λ{g F}=>?_;apply bQ _;iterate 2 apply ay _
 apply ee _;iterate 2 apply ay _
 apply hl _;apply pb [1,1] _;apply Bj λA c Y aF aH=>?_;apply dY _;refine f1 p (O.pre (dp (o4 (c:=c) Y)) (R _ (λM am=>av M (ax.ap.mono am)))) ?_;iterate 5 apply ay _
 apply ee _;iterate 2 apply ay _
 apply hl _;apply bp (λ_ aB=>aB.swap);apply Bj λaD U Z aG aI=>?_;apply bQ _;iterate 8 apply ay _
 apply fv _;apply cc;apply bp (j:=iT b s D H aA az (J+1)::be s 65536 (l++(C.next D).reverse)::F::Q) (dp (o4 (c:=U) Z));apply Bj λaE W ah aJ aK=>?_;apply aC _;apply a9 (O.pick aN (m9 s _ _)) _;exact aR bD (dp (o4 (c:=W) ah))
def ae1(b s C n D E J)(H:Q)(Z:C<=1000000000):
  aY 666 #[I b,j 1] (iT b s D E J n C::be s 65536 []::H) (.tuple #[j (0:Nat),.bool ag]) (iT b s D E J n C::be s 65536 []::H):=by
 have U:=λM=>yH (N8 b s D E C) s M;refine cR ?_;refine bQ ?_;iterate 2 apply ay _
 apply ee _;iterate 2 apply ay _
 apply hl _;apply pb [1,1] _;apply Bj λA c R W Y=>?_;apply dY _;apply dQ (O.pick aN (U _)) _;apply a9 (O.pick aN (m9 s _ _)) _;exact aR bD (dp (o4 (c:=c) R))
def aeM(b s C n E H l D)(j:Q):aY 663 #[I b] (iT b s E H D n C::be s 65536 l::j) (.bool (decide ((aa l:Int)=0))) (iT b s E H D n C::be s 65536 l::j):=by
 apply O.bH λA c J R U=>?_;refine bt ?_;refine a9 (O.pick aN (m9 s l _)) ?_;exact aR bD (dp (o4 (c:=c) J))
def Ql:∀{j}{D}{E:Q},D∈j->fM (ha j::E) D
 |y::j,D,E,h=>by
  have H:=λh s=>C.bl (λ_ s=>C.join (L:=[]) (by simpa using s)) (show C (dr y::j.map dr) h from s);rcases df.1 h with rfl|h
  .exact fM.rW H (ph _ _)
  .exact fM.rW H ((Ql h).ap)
theorem bi.at_{a}:∀{D},a∈D.bG->∃H:bi,H.Z=(U a)/\(∀j,fM j D->fM j H)/\∀c∈H.bG,c∈D.bG
 | .node b O s J I,C=>by
  simp[bi.bG,df,b9]at C;rcases C with rfl|C|C
  .exact⟨_,rfl,λ_ h=>h,λ_ h=>h⟩
  .let⟨y,h1,ae,an⟩:=bi.at_ C;exact⟨y,h1,λj h=>ae j h.2.1,λc E=>gn _ (b9.2 (.inl (an c E)))⟩
  .let⟨y,h1,ae,an⟩:=bi.at_ C;exact⟨y,h1,λj h=>ae j h.2.2,λc E=>gn _ (b9.2 (.inr (an c E)))⟩
def acG{D j a}(h:iD D j a):∃E:bi,E.Z=(U a)/\(∀C,fM C D->(∀y∈j,fM C y)->fM C E)/\∀c∈E.bG,c∈D.bG++j.flatMap bi.bG:=by
 rcases h with h|⟨y,H,h⟩
 .grind[bi.at_]
 grind[bi.at_]
def QN{C j}:∀a∈C.bG++j.flatMap bi.bG,iD C j a:=λa D=>(b9.1 D).imp id λh=>kz.1 h
def HF{C j a}(h:iD C j a):a∈C.bG++j.flatMap bi.bG:=b9.2 (h.imp id λh=>kz.2 h)
def bi.pl(a:Nat):bi:=.node a ⟨0,0,0⟩ ⟨0,0,0⟩ .nil .nil
def bi.jb:bi->Nat
 | .nil=>0
 | .node b _ _ _ _=>b
theorem Rn{H}{D y:bi}(h:y∈D.next H):y.Z=(bi.pl y.jb).Z/\y.jb∈D.bG:=by
 have C:∀{c:Bool} {j:bi},y∈(if !j.qJ&&c then[j]else[])->y.Z=(bi.pl y.jb).Z/\y.jb∈j.bG:=λ{c j} h=>by
  split at h
  .rename_i O
   rw[oF]at h;subst h;cases y with
   |nil=>trivial
   |node b E s J I=>exact⟨rfl,List.mem_cons_self⟩
  trivial
 cases D with
 |nil=>trivial
 |node b E s J I=>
  simp only[bi.next,bi.th,bi.ti]at h
  by_cases c:E.y<H.y
  .simp_all
  .rw[a8 c,a8 c]at h;rcases b9.1 h with h|h
   .exact⟨(C h).1,gn _ (b9.2 (.inl (C h).2))⟩
   .exact⟨(C h).1,gn _ (b9.2 (.inr (C h).2))⟩
structure kV where
 s:Nat
 w:j8
 tC:Bool
 di:List Int
 n:Nat
 k:Nat
 a:List Nat
def sO(b:Nat)(y:kV):List aG:=[iT b y.s y.w y.tC y.di y.n y.k,be y.s 65536 (y.a.map bi.pl)]
def iS(b j:Nat)(S:List Nat):aG:=λh=>∃y:kV,(jo j S y.a (aa y.di) y.k/\y.n<=j)/\C (sO b y) h
def YQ{b D E S j}(C:D<=E)(H:∀a∈S,a∈j):∀h,iS b D S h->iS b E j h:=λh ⟨y,o,q⟩=>⟨y,⟨o.1.up C H,Nat.le_trans o.2 C⟩,q⟩
theorem O.iS{D:bk}{H:FuncId}{args:Array a2}{C:Q}{b j:Nat}{S:List Nat}{J:a2->List aG->Prop}(R:∀s W Y U n I E,jo j S E (aa U) I->n<=j->O D H args (iT b s W Y U n I::be s 65536 (E.map bi.pl)::C) J):O D H args (iS b j S::C) J:=
 O.open (ι:=kV) (D:=λy=>jo j S y.a (aa y.di) y.k/\y.n<=j) (E:=sO b) (λ_ h=>h) λy o=>R y.s y.w y.tC y.di y.n y.k y.a o.1 o.2
def wH{I M:Q}{b E s D n O R S j H l}(o:jo E S j (aa H) D)(W:n<=E)(U:l.map bi.Z=(j.map bi.pl).map bi.Z)(J:aS I (iT b s O R H n D::be s 65536 l::M)):aS I (iS b E S::M):=by
 rw[tx U]at J;exact λh Y=>C.fold (λh q=>⟨⟨s,O,R,H,n,D,j⟩,⟨o,W⟩,q⟩) (J h Y)
def OA{E M:Q}{I H l S j D}(o:j.t.i9 l)(O:∀a∈S,iD j D a)(J:aS E (ah I 249 (jI j H)::dr j::ha D::M)):aS E (nF I H l S::M):=λh s=>
 C.fold (N:=[_,_,_]) (λh q=>⟨(j,D),⟨o,O⟩,q⟩) (J h s)
theorem O.aio{I J args}{H:Q}{D C l S W}(R:∀j E,b0.i9 (bi.t j) l->(∀a∈S,iD j E a)->O I J args (ah D 249 (jI j C)::dr j::ha E::H) W):O I J args (nF D C l S::H) W:=
 O.open (ι:=bi×List bi) (D:=λj=>j.1.t.i9 l/\∀a∈S,iD j.1 j.2 a) (E:=λj=>[ah D 249 (jI j.1 C),dr j.1,ha j.2]) (λ_ h=>h) λj U=>R j.1 j.2 U.1 U.2
def aeH(b ai av ar l S)(am:Q)(aG:ai<=50000):Y 666 #[I b,j 1] (iS b ai S::nF av ar l S::am) λv az=>∃aA n aL,v=.tuple #[j (n:Nat),.bool aL]/\(∀a∈S,a∈aA)/\az=iS b (ai+1) aA::nF av ar l aA::am:=by
 apply O.iS λs E W H n aq aI o aS=>?_;have aX:=o.i;have aY:=o.k;rcases List.eq_nil_or_concat aI with h|⟨R,a,h⟩
 .subst h;exact(ae1 b s aq n E W H _ ad).cr λv az aG ⟨aB,aD⟩ q=>⟨_,⟨S,0,ag,aB,λa h=>h,rfl⟩,wH (o.up (Nat.le_succ ai) λa h=>h) (Nat.le_succ_of_le aS) p cT _ (aD▸q)⟩
 .rw[List.concat_eq_append]at h;subst h;have aR:=o.n;rw[b4]at aR;apply O.pre Jc;apply O.aio λJ ax g aE=>?_;let⟨D,a0,aV,aW⟩:=acG (aE a (o.a a ao));have aM:((R++[a]).map bi.pl).map bi.Z=(R.map bi.pl++[D]).map bi.Z:=by
   rw[ez,ez,ez];show _++[(U a)]= _++[D.Z];grind
  rw[tx aM];have aP:∀M,fM (ah av 249 (jI J ar)::dr J::ha ax::M) D:=λM=>aV _ (ph J _).ap λy aH=>(Ql (E:=M) aH).ap.ap;apply O.pre (M:=iT b s E W H n aq::be s 65536 (R.map bi.pl++[D])::ah av 249 (jI J ar)::dr J::ha ax::am) au;refine(ae0 b s aq n E W (R.map bi.pl) D H _ (aP am) bv ad ad ad).cr λaZ az aG ⟨aB,aD⟩ q=>⟨_,⟨J.bG++ax.flatMap bi.bG,1,_,aB,λa aO=>HF (aE a aO),rfl⟩,?_⟩;subst aD;have aJ:aa (if D.kI E&&W then H++[D.id]else H)<=aa H+1000:=bv;have aK:(if D.kI E then n+1 else n)<=ai+1:=bv;generalize(if D.kI E&&W then H++[D.id]else H)=aT at*
  generalize(if D.kI E then n+1 else n)=aQ at*
  refine wH (s:=s) (O:=E) (R:=W) (H:=aT) (n:=aQ) (l:=R.map bi.pl++(D.next E).reverse) (j:=R++((D.next E).map bi.jb).reverse) (D:=aq+1) (o.next (λc aF=>HF (aE c aF)) (λc aF=>?_) (by simp[Ro]) aJ) aK ?_ ?_ aG q
  .obtain⟨y,aH,rfl⟩:=List.mem_map.1 aF;exact aW _ (Rn aH).2
  .rw[ez,ez,ez,<- List.map_reverse,yi (l:=(D.next E).reverse),yi (l:=(D.next E).reverse)];grind[List.map_congr_left,Rn]
  .exact λh q=>C.bl (λh q=>C.bl (λh q=>OA g QN cT h q) q) q
def aey(b s W n Z ah j)(H:Q)(ar:aa j<=100000000):Y 664 #[I b] (iT b s Z ah j n W::H) λv ai=>
  ∃C D,v=.slice C (aa j) D/\(0<aa j->∃b,C=(U b))/\ai=E 3 1 C (aa j) D (J (b5 j))::iT b s Z ah j n W::H:=by
 refine O.bH λA c R av ax=>?_;have ap:∀M:List aG,Rd (E 3 1 A _ c _::M) A _ j:=λM=>bf.E (ck _) R;refine aD ?_;refine aP (BI A _ c _) ?_;rintro _ _ ⟨am,rfl,rfl⟩;refine aP (O.pick aN (BH am A _ c j _ (bx ap) ad)) ?_;rintro _ _ ⟨C,D,rfl,⟨aq,az,aA⟩,rfl⟩;apply gD _;exact aR ⟨C,D,rfl,aq,rfl⟩ (dp (o4 (c:=c) R))
def aex(b D S)(j:Q):Y 663 #[I b] (iS b D S::j) λv C=>(∃E,v=.bool E)/\C=iS b D S::j:=
 O.iS λs Z ah W n R ai o U=>(aeM b s R n Z ah _ W j).cr λv C am ⟨H,J⟩ q=>⟨_,⟨⟨_,H⟩,rfl⟩,wH o U p cT _ (J▸q)⟩
def aeD(b D S)(C:Q):Y 665 #[I b] (iS b D S::C) λv E=>(∃n,v=j n)/\E=iS b D S::C:=by
 apply O.iS λs R U am n ai W o J=>?_;apply O.bH λA c H Z ah=>?_;refine bt ?_;refine ba rfl ds ?_ ⟨⟨_,rfl⟩,rfl⟩;apply cP;exact aN;exact wH (s:=s) (O:=R) (R:=U) o J p (dp (o4 (c:=c) H))
def aez(b D S)(H:Q)(Z:D<=50000):Y 664 #[I b] (iS b D S::H) (yy (iS b D S::H)):=
 O.iS λs am ap j n ah ar o ai=>(aey b s ah n am ap j _ (by have:=o.i;omega)).cr λv aq Z ⟨R,U,av,ax,W⟩ q=>⟨E 3 1 R (aa (b5 j)) U (J (b5 j))::iS b D S::H,⟨R,U,b5 j,by rw[b5,ky];omega,by rw[b5,ky];omega,by rw[b5,ky];have:=o.i;omega,rfl⟩,by
  subst W;rw[show aa (b5 j)=aa j by rw[b5,ky]];exact C.bl (wH o ai p cT) q⟩
end et
end
end Go.Proofs.YteinodmjohkmmaaGreat
