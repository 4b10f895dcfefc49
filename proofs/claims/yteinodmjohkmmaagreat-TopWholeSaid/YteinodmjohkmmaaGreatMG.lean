/- TopWhole: a part of its proof. -/
import Derived.Test.YteinodmjohkmmaaGreatMA3
import Derived.Test.YteinodmjohkmmaaGreatMS
set_option linter.all false
set_option maxRecDepth 100000
set_option maxHeartbeats 4000000
open Bool renaming false->al,true->ag
open Classical renaming em->vs
open Go renaming Addr->cg,FuncId->dc,Value->a2
open Int renaming le_of_lt->tK
open List renaming getElem?_eq_getElem->b8,getElem?_of_mem->ye,getElem_mem->gG,length->aa,length_append->b4,length_cons->f0,length_mergeSort->ky,length_nil->yf,map_append->ez,mem_append->b9,mem_cons->df,mem_cons_of_mem->gn,mem_cons_self->ll,mem_flatMap->kz,mem_of_mem_erase->q3,perm_append_comm->ep,take_length->nN,take_sublist->vC,take_succ_eq_append_getElem->j4
open Nat renaming le_refl->bC,lt_or_ge->dZ,zero_le->bO
open Option renaming none->af,some->ab,toList->LZ
open Go.RowKit
namespace Go.Proofs.YteinodmjohkmmaaGreat
noncomputable section
namespace S.fw
attribute [local irreducible] C bh b6
inductive io where
 |nil
 |mk (b:Nat) (A:a3) (c:Nat) (aK:List Int)
def io.Z:io->Option cg
 | .nil=>af
 | .mk b _ _ _=>(U b)
def io.A:io->Option cg
 | .nil=>af
 | .mk _ A _ _=>A
def io.c:io->Nat
 | .nil=>0
 | .mk _ _ c _=>c
def io.aK:io->List Int
 | .nil=>[]
 | .mk _ _ _ aK=>aK
def ml:io->aG
 | .nil=>λ_=>True
 | .mk b A c j=>λh=>C [ah b 450 [.slice A (aa j) c],E 3 1 A (aa j) c (J j)] h
structure io.ok (j:io):Prop where
 a:0<j.aK.length->∃b,j.A=(U b)
 c:j.aK.length<=j.c
 up:kD j.aK
def eB(C:Q):io->Prop
 | .nil=>True
 | .mk b A c j=>aU C b 0 1 [.slice A (aa j) c]/\Rd C A (aa j) j
theorem eB.ap{D j}:∀{C},eB j C->eB (D::j) C
 | .nil,_=>trivial
 | .mk _ _ _ _,h=>⟨h.1.ap,h.2.ap⟩
def D2{j}(o:j.ok)(C):eB (ml j::C) j:=by
 cases j with
 |nil=>trivial
 |mk b A c D=>exact⟨aU.z6 (λ_ h=>h) (aU.ah p),bf.z6 (λ_ h=>h) (bf.ap (bf.E (ck D) o.a))⟩
theorem eB.rd{C j}(h:eB C j):Rd C j.A (aa j.aK) j.aK:=by
 cases j with
 |nil=>exact Rd.nil _ _
 |mk b A c D=>exact h.2
theorem Ox{D M b c A j}(H:aS D (ah b 450 [.slice A (aa j) c]::E 3 1 A (aa j) c (J j)::M)):aS D (ml (.mk b A c j)::M):=λh s=>
 C.fold (N:=[_,_]) (λh q=>q) (H h s)
def D3(j C)(h:eB C j):aY 333 #[.pointer j.Z] C (.slice j.A (aa j.aK) j.c) C:=by
 cases j with
 |nil=>
  refine bt ?_;exact c8
 |mk b A c D=>
  have E:=h.1.at_ (i:=0) p;refine bt ?_;exact c8
def Mz(C D)(h:eB D C):aY 250 #[.pointer C.Z] D (j (aa C.aK:Nat)) D:=by
 refine aD ?_;refine a9 (D3 C _ h.ap) ?_;exact c8
def Tp(C v D)(h:eB D C)(o:C.ok)(H:aa C.aK<=1000000):Y 376 #[.pointer C.Z,j v] D λJ E=>J=j (low C.aK v:Nat)/\E=D:=by
 have O:=h.rd;have I:=o.up;refine aD ?_;refine dQ (D3 C _ h.ap) ?_;apply a9 (Vv _ _ _ _ v _ cX H I) _;exact c8
def Tx(D v E)(h:eB E D)(o:D.ok)(O:aa D.aK<=1000000):Y 338 #[.pointer D.Z,j v] E λaq R=>aq=.tuple #[j (low D.aK v:Nat),.bool (n8 D.aK v)]/\R=E:=by
 have I:=Tp D v E h o O;have H:=D3 D E h;have Q:=o.up;cases D with
 |nil=>
  refine aD ?_;refine aP (b3 I) ?_;rintro _ _ ⟨_,⟨rfl,rfl⟩,rfl⟩;apply ak _;apply dV (b3 H) _;rintro _ _ ⟨_,⟨rfl,rfl⟩,rfl⟩;apply cV _;exact fG
 |mk b A c C=>
  have av:a5 E ⟨b,0+0,af⟩ (.slice A (aa C) c):=h.1.at_ (i:=0) p;have ai:=h.2;have ax:=adg C v Q;have aA:=HY C v;have az:=λh=>HX C (C:=v) h;simp only[io.aK]at I H Q O ⊢
  by_cases W:low C v<aa C
  .obtain⟨U,ap,rfl,ar⟩:=ai.at_ ad;have ah:C[low C v]?=ab C[low C v]:=b8 W;have aB:a5 E ⟨U,ap+low C v*1,af⟩ (j C[low C v]):=(ar _ _ ah).at_ (i:=0) p;have J:n8 C v=decide (C[low C v]=v):=by
    unfold n8;simp_all
   rw[J];generalize C[low C v]=y at*
   generalize low C v=am at*
   refine aD ?_;refine aP (b3 I) ?_;rintro _ _ ⟨_,⟨rfl,rfl⟩,rfl⟩;apply ak _;apply dV (b3 H) _;rintro _ _ ⟨_,⟨rfl,rfl⟩,rfl⟩;apply cV _;exact c8
  .have J:n8 C v=al:=cw λh=>by simp_all
   rw[J];generalize low C v=am at*
   refine aD ?_;refine aP (b3 I) ?_;rintro _ _ ⟨_,⟨rfl,rfl⟩,rfl⟩;apply ak _;apply dV (b3 H) _;rintro _ _ ⟨_,⟨rfl,rfl⟩,rfl⟩;apply cV _;exact c8
def I0(C v D)(h:eB D C)(o:C.ok)(O:aa C.aK<=1000000):Y 334 #[.pointer C.Z,j v] D λQ J=>Q=j (lY C.aK v:Nat)/\J=D:=by
 have E:=Tx C v D h o O;have R:=HY C.aK v;unfold lY
 by_cases H:v∈C.aK
 .have I:n8 C.aK v=ag:=cO H;rw[I]at E;rw[bJ H];refine aD ?_;refine aP (b3 E) ?_;rintro _ _ ⟨_,⟨rfl,rfl⟩,rfl⟩;apply dk _;exact⟨by simp[cs],rfl⟩
 .have I:n8 C.aK v=al:=cw H;rw[I]at E;rw[a8 H];refine aD ?_;refine aP (b3 E) ?_;rintro _ _ ⟨_,⟨rfl,rfl⟩,rfl⟩;apply dk _;exact⟨by simp[cs],rfl⟩
def WD(C v D)(h:eB D C)(o:C.ok)(H:aa C.aK<=1000000):Y 568 #[.pointer C.Z,j v] D λI E=>I=j (lY C.aK v:Nat)/\E=D:=by
 refine aD ?_;refine a9 (I0 C v _ h.ap o H) ?_;exact c8
def WE(C D v E)(h:eB E C)(o:C.ok)(H:aa C.aK<=1000000)(O:D<=v):Y 253 #[.pointer C.Z,j D,j v] E λJ I=>J=.tuple #[j (lY C.aK D:Nat),j (lY C.aK v:Nat),.bool ag]/\I=E:=by
 refine bt ?_;refine dQ (I0 C D _ h.ap o H) ?_;apply a9 (I0 C v _ h.ap o H) _;refine ba p (.tmp p (.tmp p (.tmp p .nil))) a1 bD
def Tr(A n c l j)(U:Rd j A n l)(W:n<=1000000)(R:n<=c):
  Y 560 #[.slice A n c] j λv H=>Made 3 (hr l) j v H:=by
 refine aD ?_;refine aP (FH A n c l _ cX W R) ?_;rintro _ _ ⟨C,I,rfl,O,rfl⟩;refine aP (MJ C _ I (b5 l) _ (bf.E (ck _) O) (by rw[sc,U.len bL];omega)) ?_;rintro _ _ ⟨D,J,rfl,Q,rfl⟩;apply ak _;exact aR ⟨D,J,rfl,Q,rfl⟩
def Fv(E:List Int)(C:Q)(v:a2)(D:Q):Prop:=∃j:io,j.aK=E/\j.ok/\j.Z≠af/\v=.pointer j.Z/\D=ml j::C
def FB(A n c l j)(R:Rd j A n l)(O:n<=1000000)(J:n<=c):
  Y 562 #[.slice A n c] j λv D=>Fv (hr l) j v D:=by
 refine aD ?_;refine aP ((Tr A n c l _ cX O J).made) ?_;rintro _ _ ⟨C,H,rfl,I,Q,U,rfl⟩;apply ay _;apply bg λE=>?_;exact aR ⟨.mk E C H (hr l),rfl,⟨I,Q,uP l⟩,by simp[io.Z],rfl,rfl⟩ (dp @Ox)
def WM(j A n c l C)(h:eB C j)(o:j.ok)(az:aa j.aK<=400000)(av:Rd C A n l)(aB:n<=400000)(ar:n<=c):
  Y 517 #[.pointer j.Z,.slice A n c] C λv R=>Fv (hr (j.aK++l)) C v R:=by
 have aE:=h.rd;have aA:=In l;have h1:aa l=n:=av.len bL;have D:qY (b5 (j.aK++hr l))=hr (j.aK++l):=kD.unique (uP _) (uP _) λy=>by
  have:=uO (j.aK++hr l) y;unfold hr at this;unfold hr;rw[this];have ae:=uO (j.aK++l) y;unfold hr at ae;rw[ae,b9,b9];have an:=uO l y;unfold hr at an;grind
 refine aD ?_;refine dQ (D3 j _ h.ap) ?_;refine aP ((Tr A n c l _ cX ad ar).made) ?_;rintro _ _ ⟨O,ah,rfl,am,ax,aG,rfl⟩;refine aP (Wp j.A O _ _ j.c ah j.aK (hr l) _ cX (bf.E (ck _) am) ad ad o.c ax (o.up.imp λh=>tK h) ((uP l).imp λh=>tK h)) ?_;rintro _ _ ⟨Q,ai,rfl,aq,rfl⟩;refine aP ((MJ Q _ ai (b5 (j.aK++hr l)) _ (bf.E (ck _) aq) (by rw[sc,b4];omega)).made) ?_;rintro _ _ ⟨J,W,rfl,H,I,aF,rfl⟩;apply ay _;apply bg λU=>?_;rw[D]at H I;rw[D];apply ak _;exact aR ⟨.mk U J W (hr (j.aK++l)),rfl,⟨H,I,uP _⟩,by simp[io.Z],rfl,rfl⟩ (dp @Ox)
def WO(D A n c l E)(h:eB E D)(o:D.ok)(W:aa D.aK<=1000000)(J:Rd E A n l)(ar:n<=1000000):
  aY 255 #[.pointer D.Z,.slice A n c] E (.bool (l.all (n8 D.aK))) E:=by
 have h1:aa l=n:=J.len bL;refine bt λ{g F}=>?_;refine cL (ι:=Nat) (λC=>[(0,.pointer D.Z),(9,.slice A n c),(10,j (n:Nat)),(11,j (C:Nat))]) (λ_=>F::E) (λC=>C<=n/\((l.take C).all (n8 D.aK))=ag) (λC=>n-C) 0 ⟨bO _,by rfl⟩ aZ a1 ?_;rintro C ⟨aq,O⟩;apply ak _;refine c0 p (λU=>?_) (λU=>?_)
 .obtain⟨am,av,rfl,ah⟩:=J.at_ ad;have R:l[C]?=ab l[C]:=b8 ad;have ai:=(ah _ _ R).at_ (i:=0) p;have ax:l.take (C+1)=l.take C++[l[C]]:=j4 ad;have Y:l[C] ∈l:=gG _;generalize l[C]=H at*
  have az:=ai;apply aC _;apply a9 (Tx D H _ h.ap o W) _;apply ak _;cases I:n8 D.aK H with
  |true=>
   apply ak _;exact b7 (C+1) ⟨ad,by simp_all⟩ ad aZ a1
  |false=>
   apply eO _;exact⟨congrArg Value.bool (Bool.eq_false_iff.2 λh=>by rw[List.all_eq_true.1 h H Y]at I;cases I).symm,rfl⟩
 .have Q:C=n:=ad;subst Q;rw[<- h1,nN]at O;apply dk _;exact⟨by rw[O];rfl,rfl⟩
@[reducible] def j2 (C E:Nat) (A:a3) (n c:Nat) (D q:a3):List Value:=[j (C:Nat),j (E:Nat),.slice A n c,.pointer D,.pointer q]
def d7:bS->aG
 | .nil=>λ_=>True
 | .node b H I A c l D j=>λh=>C [ah b 311 (j2 H I A (aa l) c D.Z j.Z),E 44 3 A (aa l) c (J l),d7 D,d7 j] h
def iL(A:a3)(c:Nat)(j:List aj):Prop:=(0<aa j->∃b,A=(U b))/\aa j<=c
def ho(j:Q):bS->Prop
 | .nil=>True
 | .node b E H A c l D C=>aU j b 0 5 (j2 E H A (aa l) c D.Z C.Z)/\Rd j A (aa l) l/\ho j D/\ho j C
theorem ho.ap{D j}:∀{C},ho j C->ho (D::j) C
 | .nil,_=>trivial
 | .node _ _ _ _ _ _ _ _,h=>⟨h.1.ap,h.2.1.ap,h.2.2.1.ap,h.2.2.2.ap⟩
theorem ho.of{A}{N E:Q}(j:∀h,A h->C N h):∀{D},ho N D->ho (A::E) D
 | .nil,_=>trivial
 | .node _ _ _ _ _ _ _ _,h=>⟨h.1.z6 j,bf.z6 j h.2.1,h.2.2.1.of j,h.2.2.2.of j⟩
def Ej:∀{C:bS},(C.each λ_ _ A c O=>iL A c O)->∀j,ho (d7 C::j) C
 | .nil,_,j=>trivial
 | .node b I Q A c l H D,o,j=>ho.of (N:=[ah b 311 (j2 I Q A (aa l) c H.Z D.Z),E 44 3 A (aa l) c (J l),d7 H,d7 D]) (λ_ h=>h)
   ⟨aU.ah p,Rd.ap (bf.E (ck l) o.1.1),(Ej o.2.1 _).ap.ap,(Ej o.2.2 []).ap.ap.ap⟩
def Cv{H M:Q}{b I R c A l}{D j:bS}{O q:a3}(U:D.Z=O)(eq:j.Z=q)(g:aS H (ah b 311 (j2 I R A (aa l) c O q)::E 44 3 A (aa l) c (J l)::d7 D::d7 j::M)):aS H (d7 (.node b I R A c l D j)::M):=λh s=>by
 subst U eq;exact C.fold (λh q=>q) (g h s)
section
variable{S:Type}{uk:dc}[cu ar uk]{c1 c2:bz}{x y:Nat}{R:S->List aG}{step:S->Nat->Nat->List aj->S}{il:S->Nat->Prop}{vl:Nat->Nat->List aj->Nat}{yu:Option cg->Nat->List aj->Option cg->Nat->List aj->Prop}{yD:Nat->Nat->Option cg->Nat->List aj->Prop}
def adM
  (aV:∀(s:S) (am b H U:Nat) (A:a3) (c:Nat) (D:List aj) (aR q:a3) (M:Q),yD H U A c D->il s (vl H U D+am)->Y uk (c1++[I b]++c2).toArray (R s++ah b 311 (j2 H U A (aa D) c aR q)::E 44 3 A (aa D) c (J D)::M) λv aI=>v=.tuple #[]/\∃aB aD aA,(yu A c D aB aD aA/\il (step s H U D) am)/\aI=R (step s H U D)++ah b 311 (j2 H U aB (aa aA) aD aR q)::E 44 3 aB (aa aA) aD (J aA)::M):
  ∀(ap:bS) (s:S) (am:Nat) (M:Q),ap.each yD->il s (ap.at_ x y vl+am)->Y 335 #[.pointer ap.Z,j (x:Nat),j (y:Nat),.func (.func uk) c1.toArray c2.toArray] ((λh=>C (R s) h)::d7 ap::M) λv aI=>v=.tuple #[]/\∃aM,(Laid x y yu ap aM/\il (ap.run x y step s) am)/\aI=(λh=>C (R (ap.run x y step s)) h)::d7 aM::M:=by
 intro ap
 induction ap with
 |nil=>
  intro s am M _ av;refine bt ?_;exact er (D:=[]) (j:=[]) (C:=(λh=>C (R s) h)::d7 .nil::M) p .nil a1 ⟨rfl,.nil,⟨rfl,by simpa[bS.at_,bS.run]using av⟩,rfl⟩
 |node b H U A c D ai W aW aQ=>
  intro s am M aH av;unfold bS.at_ at av;refine cR λ{g F}=>?_;apply pb [2] _;apply qm (ι:=Unit) (F:=λ_=>True) (D:=λ_=>[ah b 311 (j2 H U A (aa D) c ai.Z W.Z),E 44 3 A (aa D) c (J D),d7 ai,d7 W]) (λh q=>⟨(),trivial,q⟩) λ_ _=>?_;show G _ _ _ _ _ _ (ah b 311 (j2 H U A (aa D) c ai.Z W.Z)::E 44 3 A (aa D) c (J D)::d7 ai::d7 W::F::(λh=>C (R s) h)::M);apply bs _
  by_cases h1:y<H
  .rw[bJ (.inl h1)]at av;apply ak _;exact er (D:=[]) (j:=[]) (C:=(λh=>C (R s) h)::d7 (.node b H U A c D ai W)::M) p .nil DH ⟨rfl,.node b H U A c D ai W,⟨by unfold Laid;simp_all,by rw[Ef (.inl h1)];simp_all⟩,by rw[Ef (.inl h1)]⟩
  .by_cases ae:U<x
   .rw[bJ (.inr ae)]at av;apply ak _;exact er (D:=[]) (j:=[]) (C:=(λh=>C (R s) h)::d7 (.node b H U A c D ai W)::M) p .nil DH ⟨rfl,.node b H U A c D ai W,⟨by unfold Laid;simp_all,by rw[Ef (.inr ae)];simp_all⟩,by rw[Ef (.inr ae)]⟩
   .have aq: ¬(y<H\/U<x):=ad;rw[a8 aq]at av;apply aC _;refine hN 37 p (cw h1) ?_;iterate 8 apply ay _
    apply cd _;refine e9 p (cw ae) ?_
    by_cases an:x<=H/\U<=y
    .rw[bJ an]at av;apply aC _;refine hN 52 p (cO ad) ?_;iterate 8 apply ay _
     apply cd _;refine gJ p (cO ad) ?_;have aT:=λM=>aV s am b H U A c D ai.Z W.Z M aH.1 av;apply aC _;refine GE (f4 p p (O.pre (M:=R s++ah b 311 (j2 H U A (aa D) c ai.Z W.Z)::E 44 3 A (aa D) c (J D)::d7 ai::d7 W::F::M) (λh q=>C.part ((show ∀h,C _ h->C ((λh=>C (R s) h)::ah b 311 (j2 H U A (aa D) c ai.Z W.Z)::E 44 3 A (aa D) c (J D)::d7 ai::d7 W::F::M) h from au) h q)) (aT _))) ?_;rintro _ _ ⟨rfl,aB,aD,aA,⟨aZ,aX⟩,rfl⟩;apply ak _;apply bp (λ_ q=>C.join q);exact bs (er (D:=[]) (j:=[]) (C:=(λh=>C (R (step s H U D)) h)::d7 (.node b H U aB aD aA ai W)::M) p .nil DH ⟨rfl,.node b H U aB aD aA ai W,⟨by unfold Laid;grind,by rw[Tz aq an];omega⟩,by rw[Tz aq an]⟩)
    .rw[a8 an]at av;have aY:(if x<=H then decide (U<=y)else al)=al:=by
      simp_all
     have aO:=λM=>aW s (W.at_ x y vl+am) M aH.2.1 bv;rcases dZ H x with aS|aS
     .apply dY _;apply aP (O.pre (M:=(λh=>C (R s) h)::d7 ai::ah b 311 (j2 H U A (aa D) c ai.Z W.Z)::E 44 3 A (aa D) c (J D)::d7 W::F::M) au (aO _)) _;rintro _ _ ⟨rfl,ax,⟨aE,aK⟩,rfl⟩;apply dl _;have aJ:=λM=>aQ _ am M aH.2.2 aK;apply dY _;apply aP (O.pre (M:=(λh=>C (R (ai.run x y step s)) h)::d7 W::d7 ax::ah b 311 (j2 H U A (aa D) c ai.Z W.Z)::E 44 3 A (aa D) c (J D)::F::M) au (aJ _)) _;rintro _ _ ⟨rfl,az,⟨aF,aL⟩,rfl⟩;apply ak _;exact er (D:=[]) (j:=[]) (C:=(λh=>C (R (W.run x y step (ai.run x y step s))) h)::d7 (.node b H U A c D ax az)::M) p .nil (dp (Cv aE.Z aF.Z)) ⟨rfl,.node b H U A c D ax az,⟨by unfold Laid;rw[a8 aq,a8 an];exact⟨ax,az,aE,aF,rfl⟩,by rw[Ed aq an];exact aL⟩,by rw[Ed aq an]⟩
     .apply dY _;apply aP (O.pre (M:=(λh=>C (R s) h)::d7 ai::ah b 311 (j2 H U A (aa D) c ai.Z W.Z)::E 44 3 A (aa D) c (J D)::d7 W::F::M) au (aO _)) _;rintro _ _ ⟨rfl,ax,⟨aE,aK⟩,rfl⟩;apply dl _;have aJ:=λM=>aQ _ am M aH.2.2 aK;apply dY _;apply aP (O.pre (M:=(λh=>C (R (ai.run x y step s)) h)::d7 W::d7 ax::ah b 311 (j2 H U A (aa D) c ai.Z W.Z)::E 44 3 A (aa D) c (J D)::F::M) au (aJ _)) _;rintro _ _ ⟨rfl,az,⟨aF,aL⟩,rfl⟩;apply ak _;exact er (D:=[]) (j:=[]) (C:=(λh=>C (R (W.run x y step (ai.run x y step s))) h)::d7 (.node b H U A c D ax az)::M) p .nil (dp (Cv aE.Z aF.Z)) ⟨rfl,.node b H U A c D ax az,⟨by unfold Laid;rw[a8 aq,a8 an];exact⟨ax,az,aE,aF,rfl⟩,by rw[Ed aq an];exact aL⟩,by rw[Ed aq an]⟩
end
def _root_.Go.Proofs.YteinodmjohkmmaaGreat.aU.ahv{j b o n}{H I:bz}(h:aU j b o n H)(D E)(C:mr (qC H D) E=ab I):aU j b (o+D) E I:=
 ⟨(nB C).1,λO v J=>by
  have h1:=(nB C).2 O v J;rw[sP,List.getElem?_drop]at h1;rw[Nat.add_assoc];exact h.2 _ _ h1⟩
def _root_.Go.Proofs.YteinodmjohkmmaaGreat.bS.k8(c:Nat):bS->Bool
 | .nil=>al
 | .node _ j C _ _ _ _ _=>decide (j<=c/\c<=C)
def _root_.Go.Proofs.YteinodmjohkmmaaGreat.bS.qL:bS->List aj
 | .nil=>[]
 | .node _ _ _ _ _ l _ _=>l
def _root_.Go.Proofs.YteinodmjohkmmaaGreat.bS.dF(c:Nat):bS->bS
 | .nil=> .nil
 | .node _ _ _ _ _ _ C j=>if j.k8 c then j else if C.k8 c then C else .nil
def gj(l:List aj):List Int:=l.map (·.id)
def Dw(D c C)(h:ho C D):aY 741 #[.pointer D.Z,j (c:Nat)] C (.bool (D.k8 c)) C:=by
 cases D with
 |nil=>
  refine bt ?_;exact c8
 |node b E I A J U R Q=>
  have O:a5 C ⟨b,0+0,af⟩ (j (E:Nat)):=h.1.at_ (i:=0) p;have h1:a5 C ⟨b,0+1,af⟩ (j (I:Nat)):=h.1.at_ (i:=1) p;rcases dZ c E with H|H
  .skip
   refine bt ?_;refine eO ?_;exact⟨by simp[cs,bS.k8];omega,rfl⟩
  .skip
   refine bt ?_;refine eO ?_;exact⟨by simp[cs,bS.k8];omega,rfl⟩
def yC(j:List Int)(H:a3)(C:Q)(v:a2)(D:Q):Prop:=∃A c,v=.tuple #[.slice A (aa j) c,.pointer H]/\((0<aa j->∃b,A=(U b))/\aa j<=c/\c<=maxLen)/\D=E 3 1 A (aa j) c (J j)::C
def ada(D c C)(h:ho C D)(O:D.k8 c=al):Y 740 #[.pointer D.Z,j (c:Nat)] C λv I=>yC [] af C v I:=by
 have H:=Dw D c C h;rw[O]at H;refine aD ?_;refine aP (b3 H) ?_;rintro _ _ ⟨Q,⟨rfl,J⟩,rfl⟩;refine a6 (gz p) ?_;apply dl _;subst J;apply ak _;exact bp (E.c7 3 1) (aR ⟨af,0,rfl,⟨db,bC _,bO _⟩,rfl⟩)
def adb(b ar av A ah C Q R c W)(h:ho W (.node b ar av A ah C Q R))(a0:(bS.node b ar av A ah C Q R).k8 c=ag)(bq:aa C<=1000000):
  Y 740 #[I b,j (c:Nat)] W λv aL=>yC (b5 (gj C)) (bS.dF c (.node b ar av A ah C Q R)).Z W v aL:=by
 have aG:=Dw _ c W h;rw[a0]at aG;have a8:=Dw Q c;have a3:=Dw R c;have ae:a5 W _ _:=h.1.at_ (i:=2) p;have an:aU W b _ 2 _:=h.1.ahv 3 2 p;have bc:=h.2.1;have a7:=h.2.2.1;have a4:=h.2.2.2;have be:=λA c M aX=>En A _ c (gj C) M aX p (by grind[gj,List.length_map]);have aI:aa (gj C)=aa (b5 (gj C)):=by simp[b5]
 have aH:aa (gj C)=aa C:=by simp[gj]
 generalize bt:b5 _=aB at*
 refine aD λ{g F}=>?_;apply aP (b3 aG) _;rintro _ _ ⟨az,⟨rfl,aY⟩,rfl⟩;refine a6 (gz p) ?_;apply dl _;subst aY;apply mx _;apply bp (E.c7 3 1);apply ak _;apply cL (ι:=Nat×Option _×Nat) (λH=>[(0,I b),(1,j (c:Nat)),(4,.slice H.2.1 H.1 H.2.2),(5,.pointer af),(17,.slice A (aa C) ah),(18,j (aa C:Nat)),(19,j (H.1:Nat))]) (λH=>E 3 1 H.2.1 H.1 H.2.2 (J (gj (C.take H.1)))::F::az) (λH=>H.1<=aa C/\(0<H.1->∃b,H.2.1=(U b))) (λH=>aa C-H.1) (0,af,0) ⟨bO _,db⟩ aZ cT;rintro⟨D,am,aq⟩ ⟨aV,ai⟩;simp only at aV ai;dsimp only;apply ak _;refine c0 p (λaE=>?_) (λaE=>?_)
 .obtain⟨aM,bg,rfl,bj⟩:=bc.at_ ad;have aW:C[D]?=ab C[D]:=b8 ad;have bk:=bj _ _ aW;have bh:gj (C.take (D+1))=gj (C.take D)++[C[D].id]:=by grind[gj,j4]
  generalize C[D]=ax at*
  have bx:aU az aM (bg+D*3) 3 [j ax.id,j ax.x,j ax.y]:=bk;apply aC _;apply bP λbm=>?_;apply bd λbl=>?_;apply fz λaK aQ bn br bb=>?_;refine b7 (D+1,aK,aQ) ⟨aE,λ_=>bb ao⟩ ad aZ ?_;have aT:J (gj (C.take (D+1)))=J (gj (C.take D))++[Value.int .i64 ax.id]:=by rw[bh];exact(gi _ _).symm
  simp only[aT];exact au
 .have aS:D=aa C:=ad;subst aS;rw[nN,<- aH];rw[<- aH]at ai;apply aC _;refine f1 p (O.pick aN (be am aq _ ai)) ?_;apply cc;apply oL (λh s=>E.facts s);rintro⟨bv,aJ,bi,bw⟩;rw[aI]at ai aJ;rw[aI];apply ak _;apply cL (ι:=Nat) (λD=>[(1,j (c:Nat)),(4,.slice am (aa aB) aq),(5,.pointer (if D=0 then af else if D=1 then(if Q.k8 c then Q.Z else af)else(bS.dF c (.node b ar av A ah C Q R)).Z)),(34,.agg #[.pointer Q.Z,.pointer R.Z]),(35,j (D:Nat))]) (λD=>E 3 1 am (aa aB) aq (J aB)::F::az) (λD=>D<=2) (λD=>2-D) 0 (bO _) aZ cT;intro D bo;apply bQ _
  (first|refine a6 (rB (q:=2) p p) ?_|refine a6 (rA p p) ?_)
  apply ak _;refine c0 p (λaO=>?_) (λaO=>?_)
  .rcases Nat.eq_zero_or_pos D with aF|aF
   .subst aF;apply bQ _;refine a6 (CB (C:=[.pointer Q.Z,.pointer R.Z]) (j:=0) p p ao p) ?_;apply aC _;apply a9 (a8 _ a7.ap.ap) _;cases aA:Q.k8 c with
    |true=>
     apply ak _;exact b7 1 ao ao aZ cT
    |false=>
     apply ak _;exact b7 1 ao ao aZ cT
   .have h1:D=1:=ad;subst h1;apply bQ _;refine a6 (CB (C:=[.pointer Q.Z,.pointer R.Z]) (j:=1) p p ao p) ?_;apply aC _;apply a9 (a3 _ a4.ap.ap) _;cases aA:R.k8 c with
    |true=>
     apply ak _;exact b7 2 ao ao ⟨rfl,rfl,by simp only[bS.dF,aA];rfl,rfl,rfl,trivial⟩ cT
    |false=>
     apply ak _;exact b7 2 ad ad ⟨rfl,rfl,by simp[bS.dF,aA];cases Q.k8 c<;>rfl,rfl,rfl,trivial⟩ cT
  .have ae:D=2:=ad;subst ae;apply ak _;exact aR ⟨am,aq,rfl,⟨ai,aJ,bi⟩,rfl⟩ (λ_ s=>s.swap)
def Wg(C c D)(h:ho D C)(J:C.k8 c=al):Y 739 #[.pointer C.Z,j (c:Nat)] D λv E=>yC [] af D v E:=by
 refine aD ?_;refine aP (ada C c _ h.ap J) ?_;rintro _ _ ⟨A,H,rfl,I,rfl⟩;apply ak _;exact aR ⟨A,H,rfl,I,rfl⟩
def Wh(b E O A D C J H c Q)(h:ho Q (.node b E O A D C J H))(ai:(bS.node b E O A D C J H).k8 c=ag)(am:aa C<=1000000):
  Y 739 #[I b,j (c:Nat)] Q λv U=>yC (b5 (gj C)) (bS.dF c (.node b E O A D C J H)).Z Q v U:=by
 refine aD ?_;refine aP (adb b E O A D C J H c _ h.ap ai am) ?_;rintro _ _ ⟨R,W,rfl,ah,rfl⟩;apply ak _;exact aR ⟨R,W,rfl,ah,rfl⟩
def Zq{j M}(g:aS j M):aS j (d7 .nil::M):=λh s=>C.fold (N:=[]) (λ_ _=>trivial) (g h s)
def Ny(C:Nat)(H:Q):Y 123 #[j (C:Nat),j (C:Nat)] H λv I=>∃D:bS,v=.pointer D.Z/\((∀q o,hv q [] D C C o)/\D.each λ_ _ A c O=>iL A c O)/\I=d7 D::H:=by
 refine aD ?_;refine bg λJ=>?_;apply bp (E.c7 44 3);apply ak _;exact aR ⟨.node J C C _ 0 [] _ _,rfl,⟨λq o=>⟨rfl,rfl,rfl,.inr ⟨rfl,rfl,rfl⟩⟩,⟨⟨db,bC _⟩,trivial,trivial⟩⟩,rfl⟩ (k3 (Cv p p) @Zq)
def sL:∀(J C D:Nat)(H:Q),C<=D->D-C<=J->D<=1000000->Y 123 #[j (C:Nat),j (D:Nat)] H λv U=>∃I:bS,v=.pointer I.Z/\((∀q o,hv q [] I C D o)/\I.each λ_ _ A c az=>iL A c az)/\U=d7 I::H:=by
 intro J
 induction J with
 |zero=>
  intro C D H h1 ae an;have O:C=D:=ad;subst O;exact Ny C H
 |succ J R=>
  intro C D H h1 ae an
  by_cases O:C=D
  .subst O;exact Ny C H
  have ar:=λH=>R C (C+(D-C)/2) H ao ad ad;have av:=λH=>R (C+(D-C)/2+1) D H ad ad ad;refine aD ?_;refine bg λap=>?_
  (first|refine a6 _ ?_|refine a6 (jC p p aw aw aw) ?_)
  refine dl ?_;apply bp (E.c7 44 3);apply aC _;apply aP (ar _) _;rintro _ _ ⟨ax,rfl,⟨W,ah⟩,rfl⟩;apply ak _;apply aP (av _) _;rintro _ _ ⟨aq,rfl,⟨ai,am⟩,rfl⟩;apply ak _;exact aR ⟨.node ap C D af 0 [] ax aq,rfl,⟨λq o=>⟨rfl,rfl,rfl,.inl ⟨ad,W q _,ai q _⟩⟩,⟨⟨db,bC _⟩,ah,am⟩⟩,rfl⟩ DH
end S.fw
namespace S.fw
def _root_.Go.Proofs.YteinodmjohkmmaaGreat.bS.bG:bS->List Nat
 | .nil=>[]
 | .node b _ _ _ _ _ C j=>b::(C.bG++j.bG)
theorem _root_.Go.Proofs.YteinodmjohkmmaaGreat.Laid.bG{D y G}:∀{C j},Laid D y G C j->j.bG=C.bG
 | .nil,j,h=>by cases h;rfl
 | .node b I W A c l R J,j,h=>by
  unfold Laid at h;split at h
  .grind
  .split at h
   .obtain⟨E,H,Q,_,rfl⟩:=h;rfl
   .obtain⟨U,O,h1,ae,rfl⟩:=h;simp[bS.bG,Laid.bG h1,Laid.bG ae]
def hV(D:List bS):aG:=λh=>(∀E∈D,E.each λ_ _ A c j=>iL A c j/\aa j<=1000/\d9 j)/\C (D.map d7) h
def mR(C:bS)(j:List bS)(a:Nat):Prop:=a∈C.bG\/∃D∈j,a∈D.bG
def Zi{H M:Q}{j:bS}{D:List bS}(R:j.each λ_ _ A c E=>iL A c E/\aa E<=1000/\d9 E)(O:aS H (d7 j::hV D::M)):aS H (hV (j::D)::M):=λh s=>
 C.fold (N:=[d7 j,hV D]) (λh q=>by
  let⟨h1,ae,I,W,Y,a,ai,am,ah,Z,ap,⟨b,c⟩,l⟩:=q;exact⟨λy U=>(df.1 U).elim (λJ=>J▸R) (b y),h1,ae,I,W,Y,a,c.up Z⟩) (O h s)
def zh{j M:Q}(C:aS j M):aS j (hV []::M):=λh s=>
 ⟨λ_=>af,h,λ_=> .inl p,λ_ _ D=>bv,eV.refl _,⟨λ_ h=>bv,trivial⟩,C h s⟩
def Zj{E M:Q}{j D}(O:aS E (hV j::hV D::M)):aS E (hV (j++D)::M):=λh s=>
 C.fold (N:=[hV j,hV D]) (λh q=>by
  let⟨h1,ae,I,Y,Z,⟨a,H⟩,U,W,J,ah,ai,⟨b,c⟩,l⟩:=q;refine⟨λy R=>(b9.1 R).elim (a y) (b y),?_⟩;rw[ez];have am:C [λh=>C _ h,λh=>C _ h] h:=⟨h1,ae,I,Y,Z,H,U,W,J,ah,ai,c,l⟩;have:=C.part am;exact(C.perm (ep) (by simpa using C.part (C.perm (ep) this)))) (O h s)
def acJ{H I D E}(h:∀a∈H.bG,mR I E a){a}(j:mR H D a):mR I (E++D) a:=by
 rcases j with j|⟨y,C,j⟩
 .rcases h a j with h|⟨y,C,h⟩
  .exact .inl h
  .exact .inr ⟨y,b9.2 (.inl C),h⟩
 .exact .inr ⟨y,b9.2 (.inr C),j⟩
attribute [local irreducible] C bh b6
theorem _root_.Go.Proofs.YteinodmjohkmmaaGreat.d9.n4{l}(h:d9 l)(v):l.Pairwise (λa b=>b.less v=ag->a.less v=ag):=h.imp λj C=>aj.tc j C
def la(v:aj)(l:List aj):Nat:=l.countP (λj=>j.less v)
def ac6(v l):la v l<=aa l:=List.countP_le_length
def QW{l}(h:d9 l)(v a)(C:l[la v l]?=ab a):(!v.less a)=decide (v∈l):=by
 have h1:=(o9 _ l (h.n4 v) _ a C).2 (bC _);have I:a.less v=al:=bo;have O:=List.mem_of_getElem? C
 by_cases j:v∈l
 .rw[cO j];let⟨E,D⟩:=ye j;have ae:=(o9 _ l (h.n4 v) _ v D).1 (by simp[aj.pY]);have J:la v l<=E:=ae;rcases Nat.lt_or_eq_of_le J with an|an
  .have Q:=(List.getElem?_eq_some_iff.1 D).1;have U:=List.pairwise_iff_getElem.1 h _ E ad Q an;grind
  simp_all
 .rw[cw j];have R:a≠v:=λH=>j (H▸O);simp[aj.tb R I]
theorem QX{l}(h:d9 l)(v)(D: ¬la v l<aa l):v∉l:=λC=>by
 let⟨E,j⟩:=ye C;have ae:=(o9 _ l (h.n4 v) _ v j).1 (by simp[aj.pY]);grind[la]
def ac5{l}(h:d9 l)(v)(D:v∈l):la v l<aa l/\l.take (la v l)++l.drop (la v l+1)=l.erase v:=by
 have C:la v l<aa l:=by
  grind[QX]
 refine⟨C,?_⟩;have j:=b8 C;have h1:=QW h v _ j;rw[cO D]at h1;have ae:=(o9 _ l (h.n4 v) _ _ j).2 (bC _);have E:l[la v l]=v:=by
  rcases vs _ with an|an
  .omega
  .have:=aj.tb an bo;simp_all
 have H:v∉l.take (la v l):=by
  rw[show l.take (la v l)=l.filter _ from zs _ l (h.n4 v)];simp_all
 grind[List.take_append_drop,List.drop_eq_getElem_cons,List.erase_cons_head]
def aaf(a v:aj)(D E C)(Q:aU C D 0 3 [j v.id,j v.x,j v.y])(R:a5 C ⟨E,0,af⟩ (.func (.func 252) #[] #[])):
  Y 469 #[a.v,I E,I D] C λJ H=>J=.bool (!a.less v)/\H=C:=by
 refine aD ?_;refine bP λO=>?_;refine GE (f4 p p (rM a v _)) ?_;rintro _ _ ⟨rfl,rfl⟩;exact a6 (gz p) fG
def aaj(A n c l v C)(I:Rd C A n l)(J:n<=1000000)(O:d9 l):
  Y 425 #[.slice A n c,v.v,.func (.func 252) #[] #[]] C λR D=>R=j (la v l:Nat)/\D=C:=by
 have h1:=I.len bL;have U:=ac6 v l;have Q:=o9 _ l (O.n4 v);refine aD ?_;refine bd λE=>?_;apply bP λH=>?_;refine a9 (r7 _ [] _ _ A n c (la v l) l _ cX J ad Q (λa=>aaf a v E H _ cA ec)) ?_;exact c8
def PL(A n c l v C)(E:Rd C A n l)(ai:n<=1000000)(I:d9 l):
  Y 375 #[.slice A n c,v.v,.func (.func 252) #[] #[]] C λap Q=>ap=.tuple #[j (la v l:Nat),.bool (decide (v∈l))]/\Q=C:=by
 have h1:aa l=n:=E.len bL;have O:=λC E=>aaj A n c l v C E ai I;have ah:=QW I v;have aA:=QX I v;generalize az:la v l=D at*
 generalize ax:decide (v∈l)=W at*
 by_cases av:D<n
 .obtain⟨R,am,rfl,aq⟩:=E.at_ ad;have J:l[D]?=ab l[D]:=b8 ad;have ar:=aq _ _ J;have Z:=ah _ J;generalize l[D]=H at*
  have aB:aU C R (am+D*3) 3 [j H.id,j H.x,j H.y]:=ar;subst Z;refine aD ?_;refine bP λU=>?_;apply a9 (O _ cX) _;refine bF (jQ p p p ⟨_,rfl,rfl⟩ p (f4 p p (rM v H _)) ?_);rintro _ _ ⟨rfl,rfl⟩;apply cV _;exact f3 dm p p p p ⟨_,rfl,rfl⟩ p (gz p) fG
 .have:W=al:=bo;subst this;refine aD ?_;refine bP λU=>?_;apply a9 (O _ cX) _;exact c8
def VQ(A n c l v j)(J:Rd j A n l)(D:n<=1000000)(E:d9 l):
  Y 337 #[.slice A n c,v.v,.func (.func 252) #[] #[]] j λH C=>H=.bool (decide (v∈l))/\C=j:=by
 refine aD ?_;refine bP λI=>?_;apply a9 (PL A n c l v _ cX D E) _;exact c8
def L3(A n c l v C)(W:Rd C A n l)(Z:n<=1000000)(am:d9 l):
  Y 518 #[.slice A n c,v.v,.func (.func 252) #[] #[]] C λaG aq=>∃H j,aG=.tuple #[.slice H (aa (l.erase v)) j,.bool (decide (v∈l))]/\((0<aa (l.erase v)->∃b,H=(U b))/\aa (l.erase v)<=j/\j<=maxLen)/\aq=E 44 3 H (aa (l.erase v)) j (J (l.erase v))::C:=by
 have h1:=W.len bL;have Q:=λC W=>PL A n c l v C W Z am
 by_cases D:v∈l
 .rw[cO D]at Q;rw[cO D];let⟨aB,aA⟩:=ac5 am v D;generalize la v l=ap at*
  refine aD λ{g F}=>?_;apply bP λar=>?_;refine f1 p (Q _ cX) ?_;iterate 5 apply ay _
  apply ee _;apply ay _;refine a6 (gz p) ?_;apply hl _;apply bp (j:=F::C) a1;have ai:=λb j M=>(Bd b (aa l) j ap l M p ad aB).made;rw[aA]at ai;apply aC _;apply aP (nT A n c l _ cX Z) _;rintro _ _ ⟨R,I,rfl,ah,rfl⟩;apply ak _;refine GE (c5 p (O.pick aN (show O _ _ _ (E 44 3 R (aa l) I (J l):: _) _ from by obtain⟨b,rfl⟩:=ah ad;exact ai b I _))) ?_;rintro _ _ ⟨H,j,rfl,av,ax,aE,rfl⟩;apply ak _;exact aR ⟨H,j,rfl,⟨av,ax,aE⟩,rfl⟩
 .rw[cw D]at Q;rw[cw D,List.erase_of_not_mem D];generalize la v l=ap at*
  refine aD λ{g F}=>?_;apply bP λar=>?_;refine f1 p (Q _ cX) ?_;iterate 5 apply ay _
  apply ee _;apply ay _;refine a6 (gz p) ?_;apply m3 _;apply bp (j:=F::C) a1;apply aC _;apply aP ((nT A n c l _ cX Z).made) _;rintro _ _ ⟨R,I,rfl,ah,az,aF,rfl⟩;apply ak _;exact aR ⟨R,I,rfl,⟨ah,az,aF⟩,rfl⟩
def dk(j:List Int)(s:aj):Nat×Nat:=(lY j s.x,lY j s.y)
@[reducible] def ms (H:io) (C:a3) (A:a3) (n c:Nat) (E:Int) (D:Nat):List Value:=[.pointer H.Z,.pointer C,.slice A n c,j E,j (D:Nat)]
@[reducible] def _root_.Go.Proofs.YteinodmjohkmmaaGreat.aj.cv (s:aj):List Value:=[j s.id,j s.x,j s.y]
@[reducible] def uK:aj->Bool:=λ_=>false
def Bo(s:aj)(A:a3)(c:Nat)(E:List aj)(C:a3)(D:Nat)(j:List aj):Prop:=j=eR s E/\iL C D j
def Bn(s:aj)(A:a3)(c:Nat)(E:List aj)(C:a3)(D:Nat)(j:List aj):Prop:=j=E.erase s/\iL C D j
theorem _root_.Go.Proofs.YteinodmjohkmmaaGreat.hv.put{q l s D E H t}(h:hv q l D H t uK)(I:d9 l)(O:(q s).1<=(q s).2)(J:Laid (q s).1 (q s).2 (Bo s) D E):hv q (eR s l) E H t uK:=
 hv.laid (g:=eR s) (λ_ _ _ _ _ _ h=>h.1) (λC j=>by rw[GQ C s l I,j];rfl) (λC j=>by rw[GQ C s l I,j];rfl) O h p J
def _root_.Go.Proofs.YteinodmjohkmmaaGreat.hv.cut{q l s j C D I}(h:hv q l j D I uK)(O:(q s).1<=(q s).2)(J:Laid (q s).1 (q s).2 (Bn s) j C):hv q (l.erase s) C D I uK:=
 hv.laid (g:=λQ=>Q.erase s) (λ_ _ _ _ _ _ h=>h.1) (λH E=>by rw[Pc H s l,E];rfl) (λH E=>by grind) O h p J
def acd(s O b R W A c j U q)(M:Q)(ap:iL A c j)(ax:aa j<=1000)(aq:d9 j):
  Y 557 #[I b,I O] (ah O 44 s.cv::ah b 311 (j2 R W A (aa j) c U q)::E 44 3 A (aa j) c (J j)::M) λv Z=>v=.tuple #[]/\∃C D H,(Bo s A c j C D H/\True)/\Z=ah O 44 s.cv::ah b 311 (j2 R W C (aa H) D U q)::E 44 3 C (aa H) D (J H)::M:=by
 have ar:∀M,Rd (E 44 3 A _ c _::M) A _ j:=λM=>bf.E (ck j) ap.1;refine bt ?_;refine dV ((BC A (aa j) c j s _ (bx ar) ad aq).made) ?_;rintro _ _ ⟨C,D,rfl,ai,am,av,rfl⟩;apply cV _;apply ak _;exact er (D:=[]) (j:=[]) (C:=ah O 44 s.cv::ah b 311 (j2 R W C (aa (eR s j)) D U q)::E 44 3 C (aa (eR s j)) D (J (eR s j))::M) p .nil au ⟨rfl,C,D,eR s j,⟨⟨rfl,ai,am⟩,trivial⟩,rfl⟩
def YY(s O b R W A c j U q)(M:Q)(ap:iL A c j)(ax:aa j<=1000)(aq:d9 j):
  Y 520 #[I b,I O] (ah O 44 s.cv::ah b 311 (j2 R W A (aa j) c U q)::E 44 3 A (aa j) c (J j)::M) λv Z=>v=.tuple #[]/\∃C D H,(Bn s A c j C D H/\True)/\Z=ah O 44 s.cv::ah b 311 (j2 R W C (aa H) D U q)::E 44 3 C (aa H) D (J H)::M:=by
 have ar:∀M,Rd (E 44 3 A _ c _::M) A _ j:=λM=>bf.E (ck j) ap.1;refine bt ?_;refine dV (L3 A (aa j) c j s _ (bx ar) ad aq) ?_;rintro _ _ ⟨C,D,rfl,⟨ai,am,av⟩,rfl⟩;apply cV _;apply ak _;exact er (D:=[]) (j:=[]) (C:=ah O 44 s.cv::ah b 311 (j2 R W C (aa (j.erase s)) D U q)::E 44 3 C (aa (j.erase s)) D (J (j.erase s))::M) p .nil au ⟨rfl,C,D,j.erase s,⟨⟨rfl,ai,am⟩,trivial⟩,rfl⟩
section
variable{S:Type}{uk:dc}[cu ar uk]{c1 c2:bz}{R:S->List aG}{step:S->Nat->Nat->List aj->S}{il:S->Nat->Prop}{vl:Nat->Nat->List aj->Nat}{yu:Option cg->Nat->List aj->Option cg->Nat->List aj->Prop}{yD:Nat->Nat->Option cg->Nat->List aj->Prop}
def Un
  (aM:∀(s:S) (am b ai H:Nat) (A:a3) (c:Nat) (U:List aj) (aB q:a3) (M:Q),yD ai H A c U->il s (vl ai H U+am)->Y uk (c1++[I b]++c2).toArray (R s++ah b 311 (j2 ai H A (aa U) c aB q)::E 44 3 A (aa U) c (J U)::M) λv ax=>v=.tuple #[]/\∃av az aq,(yu A c U av az aq/\il (step s ai H U) am)/\ax=R (step s ai H U)++ah b 311 (j2 ai H av (aa aq) az aB q)::E 44 3 av (aa aq) az (J aq)::M)
  (H:Nat) (j:io) (D:bS) (A:a3) (n c:Nat) (aS:Int) (aH:Nat) (s:aj) (W:S) (am:Nat) (M:Q) (aA:aU M H 0 5 (ms j D.Z A n c aS aH)) (aR:eB M j) (o:j.ok) (aW:aa j.aK<=1000) (aQ:s.x<=s.y) (aJ:D.each yD) (aI:il W (D.at_ (dk j.aK s).1 (dk j.aK s).2 vl+am)):
  Y 256 #[I H,s.v,.func (.func uk) c1.toArray c2.toArray] ((λh=>C (R W) h)::d7 D::M) λv ax=>v=.tuple #[]/\∃ap,(Laid (dk j.aK s).1 (dk j.aK s).2 yu D ap/\il (D.run (dk j.aK s).1 (dk j.aK s).2 step W) am)/\ax=(λh=>C (R (D.run (dk j.aK s).1 (dk j.aK s).2 step W)) h)::d7 ap::M:=by
 have aV:=aA.at_ (i:=0) p;have h1:=aA.at_ (i:=1) p;have aL:=λaD h=>WE j _ _ aD h o ad aQ;have aO:=λM=>adM aM D W am M aJ aI;refine bt λ{g F}=>?_;apply bg λaT=>?_;apply dM (aL _ (bx aR)) _;apply aP (O.pre (M:=(λh=>C (R W) h)::d7 D::F::M) au (aO _)) _;rintro _ _ ⟨rfl,ap,⟨aE,aF⟩,rfl⟩;apply ak _;exact er (D:=[]) (j:=[]) (C:=(λh=>C (R (D.run (lY j.aK s.x) (lY j.aK s.y) step W)) h)::d7 ap::M) p .nil au ⟨rfl,ap,⟨aE,aF⟩,rfl⟩
end
def QB(R:Nat)(E:io)(D:bS)(A:a3)(n c:Nat)(ap:Int)(am:Nat)(s:aj)(M:Q)(W:aU M R 0 5 (ms E D.Z A n c ap am))(ai:eB M E)(o:E.ok)(aA:aa E.aK<=1000)(aB:s.x<=s.y)(ax:D.each λ_ _ A c j=>iL A c j/\aa j<=1000/\d9 j):
  Y 515 #[I R,s.v] (d7 D::M) λv aq=>v=.tuple #[]/\∃J,Laid (dk E.aK s).1 (dk E.aK s).2 (Bo s) D J/\aq=d7 J::M:=by
 refine bt λ{g F}=>?_;apply bd λH=>?_;apply cc;have az:=λM W ai=>Un (c1:=[]) (R:=λ_=>[ah H 44 s.cv]) (step:=λs _ _ _=>s) (il:=λ_ _=>True) (vl:=λ_ _ _=>0) (yu:=Bo s) (yD:=λ_ _ A c j=>iL A c j/\aa j<=1000/\d9 j) (λ_ aE b av R A c j aD q M U _=>acd s H b av R A c j aD q M U.1 U.2.1 U.2.2) R E D A n c ap am s () 0 M W ai o aA aB ax trivial;apply ak _;apply aP (O.pre (M:=(λh=>C [ah H 44 s.cv] h)::d7 D::F::M) (λh q=>(show ∀h,C _ h->C ((λh=>C [ah H 44 s.cv] h)::d7 D::F::M) h from λh q=>C.join (N:=[ah H 44 s.cv]) ((show aS _ (ah H 44 s.cv::d7 D::F::M)from au) h q)) h q) (az _ (bx W) (bx ai))) _;rintro _ _ ⟨rfl,J,⟨ar,_⟩,rfl⟩;apply ak _;exact er (D:=[]) (j:=[]) (C:=d7 J::M) p .nil au ⟨rfl,J,ar,rfl⟩
def ah7(O:Nat)(D:io)(H:bS)(A:a3)(n c:Nat)(ai:Int)(W:Nat)(s:aj)(E:Nat)(M:Q)(aA:aU M O 0 5 (ms D H.Z A n c ai W))(aB:eB M D)(o:D.ok)(ax:aa D.aK<=1000)(az:s.x<=s.y)(av:H.each λ_ _ A c j=>iL A c j/\aa j<=1000/\d9 j):
  Y 256 #[I O,s.v,.func (.func 520) #[] #[I E]] (ah E 44 s.cv::d7 H::M) λv U=>v=.tuple #[]/\∃J,Laid (dk D.aK s).1 (dk D.aK s).2 (Bn s) H J/\U=d7 J::M:=
 ((Un (S:=Unit) (uk:=520) (c1:=[]) (c2:=[I E]) (R:=λ_=>[ah E 44 s.cv]) (step:=λs _ _ _=>s) (il:=λ_ _=>True) (vl:=λ_ _ _=>0) (yu:=Bn s) (yD:=λ_ _ A c j=>iL A c j/\aa j<=1000/\d9 j) (λ_ aF b ar O A c j aD q M R _=>YY s E b ar O A c j aD q M R.1 R.2.1 R.2.2) O D H A n c ai W s () 0 M aA aB o ax az av trivial).pre (λh q=>C.join (N:=[ah E 44 s.cv]) q)).cr λv U aE ⟨am,J,⟨ap,_⟩,aq⟩ q=>⟨d7 J::M,⟨am,J,ap,rfl⟩,(aq▸q).tail⟩
def _root_.Go.Proofs.YteinodmjohkmmaaGreat.hv.nX{q:aj->Nat×Nat}{l:List aj}{C:bS}{D J:Nat}{o:aj->Bool}(h:hv q l C D J o)(E:C.each λ_ _ A c j=>iL A c j)(H:aa l<=1000)(I:d9 l):C.each λ_ _ A c j=>iL A c j/\aa j<=1000/\d9 j:=
 (E.and h.sub).mono λ_ _ _ _ _ h=>⟨h.1,Nat.le_trans h.2.1.length_le H,I.sub h.2.1⟩
def ahU{l}(D:d9 l){j}(C):l.take (j+1)=eR l[j] (l.take j):=by
 rw[j4 C,ae9];intro a E;have h1:=j4 C;have ae:=h1▸D.sub (vC _ _);unfold d9 at ae;grind
def MT(R:Nat)(bb C:io)(a7 A:a3)(c:Nat)(l:List aj)(ap:Int)(W:Nat)(M:Q)(o:C.ok)(aV:aa C.aK<=1000)(bi:aa l<=1000)(aH:d9 l)(aS:iL A c l)(aY:∀s∈l,s.x<=s.y)(bh:W<=1000000):
  Y 516 #[I R,.pointer C.Z] (ah R 257 (ms bb a7 A (aa l) c ap W)::ml C::E 44 3 A (aa l) c (J l)::M) λv aL=>v=.tuple #[]/\∃U,(hv (dk C.aK) l U 0 (2*aa C.aK) uK/\U.each λ_ _ A c am=>iL A c am)/\aL=ah R 257 (ms C U.Z A (aa l) c ap (W+1))::ml C::E 44 3 A (aa l) c (J l)::d7 U::M:=by
 have av:∀M,eB (ml C::M) C:=λM=>D2 o M;refine bt λ{g F}=>?_;apply a9 (Mz C _ (bx av)) _;refine aP (sL (2*aa C.aK) 0 (2*aa C.aK) _ ao ao ad) ?_;rintro _ _ ⟨aq,rfl,⟨aW,aT⟩,rfl⟩;apply ak _;refine cL (ι:=Nat×bS) (λD=>[(0,I R),(27,.slice A (aa l) c),(28,j (aa l:Nat)),(29,j (D.1:Nat))]) (λD=>d7 D.2::F::ah R 257 (ms C aq.Z A (aa l) c ap (W+1))::ml C::E 44 3 A (aa l) c (J l)::M) (λD=>D.1<=aa l/\hv (dk C.aK) (l.take D.1) D.2 0 (2*aa C.aK) uK/\(D.2.each λ_ _ A c am=>iL A c am)/\D.2.Z=aq.Z) (λD=>aa l-D.1) (0,aq) ⟨bO _,aW _ _,aT,rfl⟩ aZ au ?_;rintro⟨H,az⟩ ⟨aQ,ai,ar,aF⟩;simp only at aQ ai ar aF;dsimp only;apply ak _;refine c0 p (λaE=>?_) (λaE=>?_)
 .have aX:Rd (E 44 3 A (aa l) c (J l)::M) A (aa l) l:=bf.E (ck l) aS.1;obtain⟨aA,aD,rfl,bc⟩:=aX.at_ ad;have aR:l[H]?=ab l[H]:=b8 ad;have be:=bc _ _ aR;have a8:=ahU aH aE;have aI:=aY l[H] (gG _);generalize l[H]=ax at*
  have bj:aU (E 44 3 (ab ⟨aA,aD,af⟩) (aa l) c (J l)::M) aA (aD+H*3) 3 [j ax.id,j ax.x,j ax.y]:=be;have a4:aa (l.take H)<=1000:=bv;have aJ:d9 (l.take H):=aH.sub (vC _ _);apply ak _;apply bd λbg=>?_;apply fv _;apply cc;have aG:=λaM a0 av=>QB R C az (ab ⟨aA,aD,af⟩) (aa l) c ap (W+1) ax aM a0 av o aV aI (ai.nX ar a4 aJ);rw[aF]at aG;apply ak _;apply aP (O.pick aN (aG _ cA (bx av))) _;rintro _ _ ⟨rfl,U,aB,rfl⟩;apply ak _;refine b7 (H+1,U) ⟨ad,?_,?_,by rw[aB.Z];omega⟩ ad aZ au
  .rw[a8];exact ai.put aJ (Gb _ aI) aB
  .exact aB.each (P:=λ_ _ A c am=>iL A c am) (λ_ _ _ _ _ _ _ _ _ g=>g.2) ar
 .have aO:H=aa l:=ad;subst aO;rw[nN]at ai;apply bs _;refine er (D:=[]) (j:=[]) (C:=ah R 257 (ms C aq.Z A (aa l) c ap (W+1))::ml C::E 44 3 A (aa l) c (J l)::d7 az::M) p .nil au ⟨rfl,az,⟨ai,ar⟩,by grind⟩
def fB(l:List aj):List Int:=l.flatMap λs=>[s.x,s.y]
theorem Zx(l s):fB (l++[s])=fB l++[s.x,s.y]:=by simp[fB]
theorem sX(l):aa (fB l)=2*aa l:=by
 induction l with
 |nil=>rfl
 |cons a l j=>grind[fB,yf]
def ahJ(W aO aL A c l aJ av H)(aI:aU H W 0 5 (ms aO aL A (aa l) c aJ av))(aH:Rd H A (aa l) l)(aY:aa l<=1000):
  Y 519 #[I W] H λv ah=>Fv (hr (fB l)) H v ah:=by
 have ae:a5 H ⟨W,0+2,af⟩ (.slice A (aa l) c):=aI.at_ (i:=2) p;refine cR λ{g F}=>?_;apply bp (E.c7 3 1);apply ak _;apply cL (ι:=Nat×Option cg×Nat) (λC=>[(3,.slice C.2.1 (2*C.1) C.2.2),(9,.slice A (aa l) c),(10,j (aa l:Nat)),(11,j (C.1:Nat))]) (λC=>E 3 1 C.2.1 (2*C.1) C.2.2 (J (fB (l.take C.1)))::F::H) (λC=>C.1<=aa l/\2*C.1<=C.2.2/\(0<2*C.1->∃b,C.2.1=(U b))) (λC=>aa l-C.1) (0,af,0) ⟨bO _,bO _,db⟩ aZ cT;rintro⟨D,ai,aA⟩ ⟨aE,Q,R⟩;simp only at aE Q R;dsimp only;apply ak _;refine c0 p (λax=>?_) (λax=>?_)
 .obtain⟨ar,aK,rfl,aS⟩:=aH.at_ ad;have aF:l[D]?=ab l[D]:=b8 ad;have aT:=aS _ _ aF;have aM:fB (l.take (D+1))=fB (l.take D)++[l[D].x,l[D].y]:=by grind[j4,Zx]
  generalize l[D]=O at*
  have a3:aU H ar (aK+D*3) 3 [j O.id,j O.x,j O.y]:=aT;apply ak _;apply bg λaW=>?_;apply bd λaV=>?_;apply fz λZ az aX a0 aG=>?_;refine b7 (D+1,Z,az) ⟨ad,ad,λ_=>aG ao⟩ ad aZ ?_;have aD:J (fB (l.take (D+1)))=J (fB (l.take D))++[Value.int .i64 O.x,j O.y]:=by rw[aM,gS];rfl
  simp[aD];exact au
 .have aB:D=aa l:=ad;subst aB;rw[nN];rw[<- sX]at Q R;rw[<- sX];apply ak _;refine aP (FB ai (aa (fB l)) aA (fB l) _ (bf.E (ck _) R) (by rw[sX];omega) Q) ?_;rintro _ _ ⟨aQ,am,ap,aq,rfl,rfl⟩;apply ak _;exact aR ⟨aQ,am,ap,aq,rfl,rfl⟩
def je(s:aj):Bool:=l7 s.id&&ew s.x&&ew s.y&&decide (s.x<=s.y)
def Br(s J):aY 507 #[s.v] J (.bool (je s)) J:=by
 refine bt ?_;refine bg λO=>?_;apply a9 (zJ _ _) _;refine h4 p p p (λj=>?y109) (λj=>?n109)
 case' n109=>
  have E:=j;try simp only[jV]at E
  apply ak _;refine ba p (.tmp p .nil) a1 ⟨by simp_all[cs,je],rfl⟩
 case' y109=>
  have E:=j;try simp only[jV]at E
  apply ak _;apply a9 (pw _ _) _;refine h4 p p p (λC=>?y113) (λC=>?n113)
  case' n113=>
   have H:=C;try simp only[jV]at H
   apply ak _;refine ba p (.tmp p .nil) a1 ⟨by simp_all[cs,je],rfl⟩
  case' y113=>
   have H:=C;try simp only[jV]at H
   apply ak _;apply a9 (pw _ _) _;refine h4 p p p (λD=>?y117) (λD=>?n117)
   case' n117=>
    have I:=D;try simp only[jV]at I
    apply ak _;refine ba p (.tmp p .nil) a1 ⟨by simp_all[cs,je],rfl⟩
   case' y117=>
    have I:=D;try simp only[jV]at I
    apply ak _;refine ba p (.tmp p .nil) a1 ⟨by simp_all[cs,je],rfl⟩
structure mG (D:io) (C:bS) (A:a3) (c:Nat) (l E:List aj) (j:List Int):Prop where
 qd:D.ok
 vm:D.aK=j
 nX:C.each λ_ _ A c H=>iL A c H
 a:iL A c l
 nf:d9 l
 fJ:hv (dk j) l C 0 (2*j.length) uK
 ends:∀s∈l,s.x∈j/\s.y∈j/\s.x<=s.y
 small:j.length<=4*l.length+6
 perm:l.Perm E
structure pB (j:Q) (t:Nat) (x:io) (X:bS) (A:a3) (c:Nat) (l:List aj) (D:Int) (C:Nat):Prop where
 t:aU j t 0 5 (ms x X.Z A l.length c D C)
 x:eB j x
 X:ho j X
 l:Rd j A l.length l
theorem pB.ap{E j t x X A c l D C}(h:pB j t x X A c l D C):pB (E::j) t x X A c l D C:=⟨h.t.ap,h.x.ap,h.X.ap,h.l.ap⟩
def gb(I:Nat)(C:io)(j:bS)(A:a3)(c:Nat)(l:List aj)(H:Int)(D:Nat)(M:Q):List aG:=ah I 257 (ms C j.Z A (aa l) c H D)::ml C::d7 j::E 44 3 A (aa l) c (J l)::M
def mG.w2{C j A c l O J}(o:mG C j A c l O J)(I H D M):pB (gb I C j A c l H D M) I C j A c l H D:=
 ⟨aU.ah p,eB.ap (D2 o.qd _),ho.ap (ho.ap (Ej o.nX _)),Rd.ap (Rd.ap (Rd.ap (bf.E (ck l) o.a.1)))⟩
def Uo(E U H A c l R J s j)(h:pB j E U H A c l R J)(Q:d9 l)(Z:aa l<=1000):
  aY 513 #[I E,s.v] j (.bool (decide (s∈l))) j:=by
 have ae:=h.t.at_ (i:=2) p;have D:=h.l;generalize O:decide (s∈l)=Y;have C:=λj D=>VQ A (aa l) c l s j D ad Q;rw[O]at C;refine bt ?_;refine bg λW=>?_;refine bF (jQ p p p ⟨_,rfl,rfl⟩ p (c5 p (C _ cX)) ?_);rintro _ _ ⟨rfl,rfl⟩;apply cV _;exact fG
def hF(C:Int)(j:List aj)(s:aj):Int:=if je s=al then 1 else if s∈j then 5 else if C<=(aa j:Nat)then 4 else 0
def wo(j:List Int)(s:aj):Bool:=n8 j s.x&&n8 j s.y
def qI(j:List Int)(s:aj):List Int:=if wo j s then j else hr (j++[s.x,s.y])
def ux(j:List Int)(s:aj)(b:Nat):Nat:=if wo j s then b else b+1
theorem je.le{s}(h:je s=ag):s.x<=s.y:=by unfold je at h;simp_all
def Ev{H I j A c l E D M h}(s:C (gb H I j A c l E D M) h):C (gb H I j A c l E D (hV []::M)) h:=
 C.bl (λ_ s=>C.bl (λ_ s=>C.bl (λ_ s=>C.bl (λh s=>zh cT h s) s) s) s) s
def ahG(R C H A c l ai W D Q s M)(o:mG C H A c l ai W)(bY:aa ai<=100)(bV:Q<=100000):
  Y 459 #[I R,s.v] (gb R C H A c l D Q M) λv ar=>v=j (hF D ai s)/\∃aA aI am aq aX aY,(if hF D ai s=0 then mG aA aI am aq aX (ai++[s]) (qI W s)else aA=C/\aI=H/\am=A/\aq=c/\aX=l)/\(∀a∈H.bG,mR aI aY a)/\ar=gb R aA aI am aq aX D (if hF D ai s=0 then ux W s Q else Q) (hV aY::M):=by
 have aH:=o.w2 R D Q M;have b0:aa l=aa ai:=o.perm.length_eq;have ae:∀ar,a5 (ah R 257 (ms C H.Z A (aa l) c D Q)::ar) ⟨R,0+2,af⟩ (.slice A (aa l) c):=λar=>a5.ah p;have aE:=λaF h=>Uo R C H A c l D Q s aF h o.nf ad;have bA:decide (s∈l)=decide (s∈ai):=decide_eq_decide.2 o.perm.mem_iff;rw[bA]at aE
 by_cases bi:je s=al
 .have aB:hF D ai s=1:=by simp_all[hF,bJ]
  have aD:=Br s;rw[bi]at aD;rw[aB];refine O.cr (I:=λv ar=>v=j 1/\ar=gb R C H A c l D Q M) ?_ (λv ar a7 h q=>⟨_,⟨h.1,C,H,A,c,l,[],⟨rfl,rfl,rfl,rfl,rfl⟩,λa ax=> .inl ax,rfl⟩,Ev (h.2▸q)⟩);generalize gb R C H A c l D Q M=aZ at*
  refine bt ?_;refine bg λaJ=>?_;refine f1 p (aD _) ?_;refine hC p p p p ?_;exact a6 (gz p) fG
 .have aD:=Br s;have a0:je s=ag:=bo;have be:=je.le a0;rw[a0]at aD
  by_cases aL:s∈ai
  .have aB:hF D ai s=5:=by simp_all[hF,a8,bJ]
   rw[cO aL]at aE;rw[aB];refine O.cr (I:=λv ar=>v=j 5/\ar=gb R C H A c l D Q M) ?_ (λv ar a7 h q=>⟨_,⟨h.1,C,H,A,c,l,[],⟨rfl,rfl,rfl,rfl,rfl⟩,λa ax=> .inl ax,rfl⟩,Ev (h.2▸q)⟩);generalize gb R C H A c l D Q M=aZ at*
   refine bt ?_;refine bg λaJ=>?_;apply a9 (aD _) _;apply a9 (aE _ aH.ap.ap) _;exact c8
  .rw[cw aL]at aE
   by_cases bM:D<=(aa ai:Nat)
   .have aB:hF D ai s=4:=by simp_all[hF,a8,bJ]
    rw[aB];refine O.cr (I:=λv ar=>v=j 4/\ar=gb R C H A c l D Q M) ?_ (λv ar a7 h q=>⟨_,⟨h.1,C,H,A,c,l,[],⟨rfl,rfl,rfl,rfl,rfl⟩,λa ax=> .inl ax,rfl⟩,Ev (h.2▸q)⟩);have bS:a5 (gb R C H A c l D Q M) ⟨R,0+2,af⟩ (.slice A (aa l) c):=aH.t.at_ (i:=2) p;have bT:a5 (gb R C H A c l D Q M) ⟨R,0+3,af⟩ (j D):=aH.t.at_ (i:=3) p;generalize gb R C H A c l D Q M=aZ at*
    refine bt ?_;refine bg λaJ=>?_;apply a9 (aD _) _;apply a9 (aE _ aH.ap.ap) _;exact c8
   .have aB:hF D ai s=0:=by simp_all[hF,a8]
    have bn:aa C.aK<=1000:=by rw[o.vm];have:=o.small;omega
    have b2:=λaF h=>Tp C s.x aF h o.qd ad;have aW:=o.vm;have bH:s∉l:=λh=>aL (o.perm.mem_iff.1 h);rw[aB];simp only[if_true];unfold gb;refine bt λ{g F}=>?_;apply bg λaJ=>?_;apply a9 (aD _) _;apply dQ (aE _ aH.ap.ap) _;apply ed (bE [0,1,2,3,4,5,6,7,8,9] (.q 10 .nil)) _;iterate 11 apply bu _
    apply fO _;refine e9 p (cw ad) ?_;apply bs _;have bZ:=afa s l;have aT:=SH s l o.nf bH;have bw:([s.x,s.y].all (n8 C.aK))=wo W s:=by simp[wo,aW]
    have bB:∀M,Rd (E 44 3 A (aa l) c (J l)::M) A (aa l) l:=λM=>bf.E (ck l) o.a.1;have aV:∀M,eB (ml C::M) C:=λM=>D2 o.qd M;apply ak _;refine dV ((BC A (aa l) c l s _ (bx bB) ad o.nf).made) ?_;rintro _ _ ⟨am,aq,rfl,aM,aO,bR,rfl⟩;apply cV _;apply dl _;apply bp (j:=ah aJ 44 s.cv::ah R 257 (ms C H.Z am (aa (eR s l)) aq D Q)::ml C::d7 H::E 44 3 am (aa (eR s l)) aq (J (eR s l))::F::M) au;apply ak _;apply h5 λbh=>?_;refine qb (WO C (U bh) 2 2 [s.x,s.y] _ (bx aV) o.qd ad (by repeat' first|exact bf.ah p|apply Rd.ap) ao) ?_;rintro _ _ ⟨rfl,rfl⟩;rw[bw];have bz:∀az∈eR s l,az.x<=az.y:=λaz av=>by
     rcases df.1 ((u2 s l).subset av)with rfl|av
     .omega
     .exact(o.ends az av).2.2
    have bb:(eR s l).Perm (ai++[s]):=(u2 s l).trans ((o.perm.cons s).trans (List.perm_append_singleton s ai).symm);cases bj:wo W s with
    |true=>
     have aR:qI W s=W:=by simp_all[qI,bJ]
     have aQ:ux W s Q=Q:=by simp_all[ux,bJ]
     have b1:s.x∈W/\s.y∈W:=by unfold wo n8 at bj;simp_all
     rw[aR,aQ];apply ak _;refine aP (O.pick aN (QB R C H am (aa (eR s l)) aq D Q s _ cA (bx aV) o.qd bn be (o.fJ.nX o.nX ad o.nf))) ?_;rintro _ _ ⟨rfl,aG,aS,rfl⟩;apply dl _;have bl:=aS.Z;have bc:=o.fJ.put (s:=s) o.nf (Gb _ be) (by rw[<- aW];omega);apply ak _;refine ba (C:=gb R C aG am aq (eR s l) D Q (hV []::M)) p ds ?_ ⟨rfl,C,aG,am,aq,eR s l,[],⟨o.qd,o.vm,aS.each (P:=λ_ _ A c bI=>iL A c bI) (λ_ _ _ _ _ _ _ _ _ g=>g.2) o.nX,⟨aM,aO⟩,aT,bc,λaz av=>?_,by have:=o.small;omega,bb⟩,λa ax=> .inl (by rw[aS.bG];omega),rfl⟩
     .unfold gb;rw[bl];exact(dp @zh)
     .rcases df.1 ((u2 s l).subset av)with rfl|av
      .simp_all
      .exact o.ends az av
    |false=>
     have aR:qI W s=hr (W++[s.x,s.y]):=by unfold qI;simp_all
     have aQ:ux W s Q=Q+1:=by unfold ux;simp_all
     have bq:=In (W++[s.x,s.y]);rw[b4,f0,f0,yf]at bq;have bU:=uO (W++[s.x,s.y]);rw[aR,aQ];have b3:=o.small;apply mx _;generalize bm:hr (W++[s.x,s.y])=bK at*
     have a4:=λb aF h=>WM C (U b) 2 2 [s.x,s.y] aF h o.qd ad;rw[aW,bm]at a4;apply ak _;apply h5 λbL=>?_;refine dV (a4 _ _ (bx aV) (by repeat' first|exact bf.ah p|apply Rd.ap) ao ao) ?_;rintro _ _ ⟨aA,bk,a3,bP,rfl,rfl⟩;apply cV _;refine qb (O.pre (M:=ah R 257 (ms C H.Z am (aa (eR s l)) aq D Q)::ml aA::E 44 3 am (aa (eR s l)) aq (J (eR s l))::d7 H::F::M) au (MT R C aA H.Z am aq (eR s l) D Q _ a3 bv ad aT ⟨aM,aO⟩ bz ad)) ?_;rintro _ _ ⟨rfl,aG,⟨bc,br⟩,rfl⟩;apply ak _;refine ba (C:=gb R aA aG am aq (eR s l) D (Q+1) (hV [H]::M)) p ds ?_ ⟨rfl,aA,aG,am,aq,eR s l,[H],⟨a3,bk,br,⟨aM,aO⟩,aT,by simp_all,λaz av=>?_,ad,bb⟩,λa ax=> .inr ⟨H,.head _,ax⟩,rfl⟩
     .unfold gb;exact Sg
     .rcases df.1 ((u2 s l).subset av)with rfl|av
      .simp_all
      .have:=o.ends az av;simp_all
def mL(j:List aj)(s:aj):Int:=if s∈j then 0 else 6
def wy(j:List Int)(C:List aj):List Int:=if 4*aa C+4<aa j then hr (fB C)else j
def ud(j:List Int)(C:List aj)(b:Nat):Nat:=if 4*aa C+4<aa j then b+1 else b
theorem Cx(l v):v∈fB l<->∃s∈l,v=s.x\/v=s.y:=by simp[fB]
theorem aed{l j}(h:l.Perm j):hr (fB l)=hr (fB j):=kD.unique (uP _) (uP _) λv=>by
 rw[uO,uO,Cx,Cx];grind
def ahB(W C D A c l Q am ai H s M)(o:mG C D A c l Q am)(bI:aa Q<=100)(bH:H<=100000):
  Y 460 #[I W,s.v] (gb W C D A c l ai H M) λv aA=>v=j (mL Q s)/\∃ar aB R U aS aT,(if mL Q s=0 then mG ar aB R U aS (Q.erase s) (wy am (Q.erase s))else ar=C/\aB=D/\R=A/\U=c/\aS=l)/\(∀a∈D.bG,mR aB aT a)/\aA=gb W ar aB R U aS ai (if mL Q s=0 then ud am (Q.erase s) H else H) (hV aT::M):=by
 have aX:=o.w2 W ai H M;have bL:aa l=aa Q:=o.perm.length_eq;have az:=λaH h=>Uo W C D A c l ai H s aH h o.nf ad;have bk:decide (s∈l)=decide (s∈Q):=decide_eq_decide.2 o.perm.mem_iff;rw[bk]at az
 by_cases aI:s∈Q
 .have aJ:mL Q s=0:=by simp_all[mL,bJ]
  rw[cO aI]at az;have bc:aa C.aK<=1000:=by rw[o.vm];have:=o.small;omega
  have bn:=o.vm;have bm:s∈l:=o.perm.mem_iff.2 aI;have a3:=(o.ends s bm).2.2;rw[aJ];simp only[if_true];have bK:aa (l.erase s)<=aa l:=List.length_erase_le;have aR:d9 (l.erase s):=o.nf.sub List.erase_sublist;have aG:(l.erase s).Perm (Q.erase s):=o.perm.erase s;have aY:∀aq∈l.erase s,aq.x<=aq.y:=λaq av=>(o.ends aq (q3 av)).2.2;have bl:∀M,Rd (E 44 3 A (aa l) c (J l)::M) A (aa l) l:=λM=>bf.E (ck l) o.a.1;have aZ:∀M,eB (ml C::M) C:=λM=>D2 o.qd M;have bP:=o.small;have bj:aa (Q.erase s)=aa (l.erase s):=aG.length_eq.symm;have bB:aa C.aK=aa am:=bv;unfold gb;refine bt λ{g F}=>?_;apply bg λaD=>?_;apply a9 (az _ aX.ap.ap) _;refine dV (L3 A (aa l) c l s _ (bx bl) ad o.nf) ?_;rintro _ _ ⟨R,U,rfl,⟨aE,aL,bz⟩,rfl⟩;apply cV _;apply ak _;apply bp (j:=ah aD 44 s.cv::ah W 257 (ms C D.Z R (aa (l.erase s)) U ai H)::ml C::d7 D::E 44 3 R (aa (l.erase s)) U (J (l.erase s))::F::M) au;apply ed (bE [0,1,2,3,5,6,7,8,9,10,11] (.e 4 (.q 12 .nil))) _;iterate 10 apply bu _
  (first|refine fc p (pP (q:=4) p p aw) ?_|refine fc p (GD p p aw) ?_)
  apply dM (Mz C _ (bx aZ)) _
  by_cases a4:4*aa (l.erase s)+4<aa am
  .have aO:wy am (Q.erase s)=hr (fB (l.erase s)):=by unfold wy;rw[bj,bJ a4,aed aG]
   have aM:ud am (Q.erase s) H=H+1:=by simp_all[ud,bJ]
   have be:=In (fB (l.erase s));have aW:=uO (fB (l.erase s));rw[sX]at be;rw[aO,aM];have bh:=λaH h1 ae=>ahJ W C D.Z R U (l.erase s) ai H aH h1 ae ad;generalize bA:hr (fB (l.erase s))=br at*
   apply bs _;refine gJ p (cO bv) ?_;apply aC _;refine aP (bh _ cA (by repeat' first|exact bf.E (ck _) aE|apply Rd.ap)) ?_;rintro _ _ ⟨ar,a7,aV,bw,rfl,rfl⟩;refine aP (O.pre (M:=ah W 257 (ms C D.Z R (aa (l.erase s)) U ai H)::ml ar::E 44 3 R (aa (l.erase s)) U (J (l.erase s))::d7 D::F::M) au (MT W C ar D.Z R U (l.erase s) ai H _ aV bv ad aR ⟨aE,aL⟩ aY ad)) ?_;rintro _ _ ⟨rfl,ax,⟨a0,bi⟩,rfl⟩;apply ak _;refine ba (C:=gb W ar ax R U (l.erase s) ai (H+1) (hV [D]::M)) p ds ?_ ⟨rfl,ar,ax,R,U,l.erase s,[D],⟨aV,a7,bi,⟨aE,aL⟩,aR,by simp_all,λaq av=>?_,ad,aG⟩,λa aF=> .inr ⟨D,.head _,aF⟩,rfl⟩
   .unfold gb;exact Sg
   .exact⟨(aW _).2 ((Cx _ _).2 ⟨aq,av,.inl p⟩),(aW _).2 ((Cx _ _).2 ⟨aq,av,.inr p⟩),aY aq av⟩
  .have aO:wy am (Q.erase s)=am:=by simp_all[wy,a8]
   have aM:ud am (Q.erase s) H=H:=by simp_all[ud,a8]
   rw[aO,aM];apply bs _;refine e9 p (cw bv) ?_;apply aC _;refine aP (O.pre (M:=ah aD 44 s.cv::d7 D::ah W 257 (ms C D.Z R (aa (l.erase s)) U ai H)::ml C::E 44 3 R (aa (l.erase s)) U (J (l.erase s))::F::M) au (ah7 W C D R (aa (l.erase s)) U ai H s aD _ cA (bx aZ) o.qd bc a3 (o.fJ.nX o.nX ad o.nf))) ?_;rintro _ _ ⟨rfl,ax,aQ,rfl⟩;apply dl _;have bb:=aQ.Z;have a0:=o.fJ.cut (s:=s) (Gb _ a3) (by rw[<- bn];omega);apply ak _;refine ba (C:=gb W C ax R U (l.erase s) ai H (hV []::M)) p ds ?_ ⟨rfl,C,ax,R,U,l.erase s,[],⟨o.qd,o.vm,aQ.each (P:=λ_ _ A c bo=>iL A c bo) (λ_ _ _ _ _ _ _ _ _ g=>g.2) o.nX,⟨aE,aL⟩,aR,a0,λaq av=>o.ends aq (q3 av),ad,aG⟩,λa aF=> .inl (by rw[aQ.bG];omega),rfl⟩;unfold gb;rw[bb];exact(dp @zh)
 .have aJ:mL Q s=6:=by simp_all[mL,a8]
  rw[cw aI]at az;rw[aJ];refine O.cr (I:=λv aA=>v=j 6/\aA=gb W C D A c l ai H M) ?_ (λv aA bM h q=>⟨_,⟨h.1,C,D,A,c,l,[],⟨rfl,rfl,rfl,rfl,rfl⟩,λa aF=> .inl aF,rfl⟩,Ev (h.2▸q)⟩);generalize gb W C D A c l ai H M=bq at*
  refine bt ?_;refine bg λaD=>?_;refine f1 p (az _ aX.ap.ap) ?_;exact a6 (gz p) fG
def JS(J D)(h1:1<=J)(ae:J<=1048576):Y 87 #[j J] D λv W=>∃R U H A c l,v=.tuple #[I R,j 0]/\mG U H A c l [] []/\W=gb R U H A c l J 0 D:=by
 refine aD λ{g F}=>?_;refine hN 6 p (cw ad) ?_;iterate 3 apply ay _
 apply cd _;refine e9 p (cw ad) ?_;have ah:=λD=>sL 0 0 0 D (bC _) (bC _) ao;apply bQ _;apply aP (ah _) _;rintro _ _ ⟨H,rfl,⟨am,ai⟩,rfl⟩;apply ak _;apply bg λO=>?_;apply bp (E.c7 44 3);have Z:∀{D M:Q},(aS D M)->aS D _:=λg h s=>C.fold (N:=[]) (λ_ _=>trivial) (g h s);apply bs _;refine ba (C:=gb O .nil H af 0 [] J 0 D) p (.tmp p ds) ?_ ⟨O,.nil,H,af,0,[],rfl,⟨⟨db,bC _,.nil⟩,rfl,ai,⟨db,bC _⟩,.nil,am _ _,λs h=>bv,bO _,.nil⟩,rfl⟩;exact(dp @Z)
section
variable{t:Nat}{x:io}{X:bS}{A:a3}{c:Nat}{l:List aj}{bT:Int}{ni:Nat}
def ahQ(j)(h:pB j t x X A c l bT ni):aY 536 #[I t] j (.pointer X.Z) j:=by
 have C:=h.t.at_ (i:=1) p;refine bt ?_;exact c8
def ahO(j)(h:pB j t x X A c l bT ni):aY 485 #[I t] j (.pointer X.Z) j:=by
 refine bt ?_;refine a9 (ahQ _ h.ap) ?_;exact c8
def ah6(v C)(h:pB C t x X A c l bT ni)(o:x.ok)(O:aa x.aK<=1000):Y 537 #[I t,j v] C λH D=>H=j (lY x.aK v:Nat)/\D=C:=by
 have J:=h.t.at_ (i:=0) p;have E:=h.x;refine bt ?_;refine a9 (WD x v _ E.ap o ad) ?_;exact c8
def ahA(v C)(h:pB C t x X A c l bT ni)(o:x.ok)(E:aa x.aK<=1000):Y 486 #[I t,j v] C λH D=>H=j (lY x.aK v:Nat)/\D=C:=by
 refine bt ?_;refine a9 (ah6 v _ h.ap o E) ?_;exact c8
end
end S.fw
namespace S.fw
structure na where
 k:List aj
 aK:List Int
 b:Nat
abbrev yF:=io×bS×Option cg×Nat×List aj×List bS
def nz(E:Nat)(D:Int)(s:na)(S:List Nat):aG:=λh=>∃j:yF,(mG j.1 j.2.1 j.2.2.1 j.2.2.2.1 j.2.2.2.2.1 s.k s.aK/\∀a∈S,mR j.2.1 j.2.2.2.2.2 a)/\C (gb E j.1 j.2.1 j.2.2.1 j.2.2.2.1 j.2.2.2.2.1 D s.b [hV j.2.2.2.2.2]) h
def na.ins(s:na)(C:Int)(j:aj):na:=if hF C s.k j=0 then⟨s.k++[j],qI s.aK j,ux s.aK j s.b⟩else s
def na.del(s:na)(j:aj):na:=if mL s.k j=0 then⟨s.k.erase j,wy s.aK (s.k.erase j),ud s.aK (s.k.erase j) s.b⟩else s
section
variable{P:Program}{f:dc}{args:Array a2}{L:Q}{t:Nat}{bT:Int}{s:na}{S:List Nat}{ai:aj}
def O.TI{ah:a2->Prop}{H}(R:∀(am)(Z)(A)(c)(l)(M),mG am Z A c l s.k s.aK->O P f args (gb t am Z A c l bT s.b M) λv D=>ah v/\∃Y E I U W J,mG Y E I U W H.k H.aK/\(∀a∈Z.bG,mR E J a)/\D=gb t Y E I U W bT H.b (hV J::M)):
  O P f args (nz t bT s S::L) λv D=>ah v/\D=nz t bT H S::L:=by
 have ax:∀(j:yF),(mG _ _ _ _ _ _ _/\∀a∈S,mR _ _ a)->O P f _ _ λv D=>ah v/\D=nz t bT H S::L:=λj o=>
  (R j.1 j.2.1 j.2.2.1 j.2.2.2.1 j.2.2.2.2.1 (hV j.2.2.2.2.2::L) o.1).cr λv D aA ⟨ap,Y,E,I,U,W,J,az,ar,aq⟩ q=>⟨_,⟨ap,rfl⟩,by
   subst aq;have aM:=C.bl (λ_ s=>C.bl (λ_ s=>C.bl (λ_ s=>C.bl (λ_ s=>Zj cT _ s) s) s) s) q;exact C.fold (λh q=>⟨(Y,E,I,U,W,J++j.2.2.2.2.2),⟨az,λa av=>acJ ar (o.2 a av)⟩,q⟩) aM⟩
 exact O.open (ι:=yF) (λ_ h=>h) ax
def WT(H:aa s.k<=100)(E:s.b<=100000):aY 459 #[I t,ai.v] (nz t bT s S::L) (j (hF bT s.k ai)) (nz t bT (s.ins bT ai) S::L):=
 O.TI λJ C A c l M o=>(ahG t J C A c l s.k s.aK bT s.b ai M o H E).mono λv W ⟨D,ar,Y,R,Z,ap,U,aq,am,ah⟩=>⟨D,by
  unfold na.ins;grind⟩
def WS(H:aa s.k<=100)(E:s.b<=100000):aY 460 #[I t,ai.v] (nz t bT s S::L) (j (mL s.k ai)) (nz t bT (s.del ai) S::L):=
 O.TI λJ C A c l M o=>(ahB t J C A c l s.k s.aK bT s.b ai M o H E).mono λv W ⟨D,ar,Y,R,Z,ap,U,aq,am,ah⟩=>⟨D,by
  unfold na.del;grind⟩
end
abbrev r8:Nat->Nat->Option cg->Nat->List aj->Prop:=λ_ _ A c j=>iL A c j/\aa j<=1000/\d9 j
def abB{j}{D:Q}{h}(s:C (hV j::D) h):∀E∈j,E.each r8:=by
 let⟨_,_,_,_,_,q,_⟩:=s;exact q.1
def Qm:∀{j}{D}{J:Q},(∀D∈j,D.each r8)->D∈j->ho (hV j::J) D
 |y::j,D,J,H,h=>by
  have O:∀h,hV (y::j) h->C _ h:=λh s=>C.bl (λ_ s=>by
   obtain⟨h1,ae,U,R,W,a,_⟩:=C.join (L:=[]) (by simpa using s);exact C.up (C.one (X:=hV j) ⟨λI E=>H I (gn _ E),a⟩) R) (show C _ h from s.2)
  rcases df.1 h with rfl|h
  .exact ho.of O (Ej ((H _ ll).mono λ_ _ _ _ _ h=>h.1) _)
  .exact ho.of O ((Qm (λI E=>H I (gn _ E)) h).ap)
theorem _root_.Go.Proofs.YteinodmjohkmmaaGreat.bS.to{a}:∀{D},a∈D.bG->D.each r8->∃E:bS,E.Z=(U a)/\(∀j,ho j D->ho j E)/\(∀c∈E.bG,c∈D.bG)/\E.each r8
 | .node b O W A c l R Q,C,J=>by
  simp[bS.bG,df,b9]at C;rcases C with rfl|C|C
  .exact⟨_,rfl,λ_ h=>h,λ_ h=>h,J⟩
  .let⟨y,h1,ae,an,H⟩:=bS.to C J.2.1;exact⟨y,h1,λj h=>ae j h.2.2.1,λc I=>gn _ (b9.2 (.inl (an c I))),H⟩
  .let⟨y,h1,ae,an,H⟩:=bS.to C J.2.2;exact⟨y,h1,λj h=>ae j h.2.2.2,λc I=>gn _ (b9.2 (.inr (an c I))),H⟩
def acI{D C a}(h:mR D C a)(J:D.each r8)(I:∀j∈C,j.each r8):∃j:bS,j.Z=(U a)/\(∀E,ho E D->(∀y∈C,ho E y)->ho E j)/\(∀c∈j.bG,c∈D.bG++C.flatMap bS.bG)/\j.each r8:=by
 rcases h with h|⟨y,O,h⟩
 .let⟨j,h1,ae,an,H⟩:=bS.to h J;grind
 .let⟨j,h1,ae,an,H⟩:=bS.to h (I y O);grind
def QO{C j}:∀a∈C.bG++j.flatMap bS.bG,mR C j a:=λa D=>(b9.1 D).imp id λh=>kz.1 h
def HG{C j a}(h:mR C j a):a∈C.bG++j.flatMap bS.bG:=b9.2 (h.imp id λh=>kz.2 h)
def Gx{J M:Q}{I H s S E j A c l D}(o:mG E j A c l s.k s.aK)(R:∀a∈S,mR j D a)(O:aS J (gb I E j A c l H s.b (hV D::M))):aS J (nz I H s S::M):=λh q=>
 C.fold (N:=gb I E j A c l H s.b [hV D]) (λh q=>⟨(E,j,A,c,l,D),⟨o,R⟩,q⟩) (O h q)
def O.agP{U W args}{J:Q}{I H s S Y}(R:∀Z E A c l D,mG Z E A c l s.k s.aK->(∀a∈S,mR E D a)->(∀y∈D,bS.each r8 y)->O U W args (gb I Z E A c l H s.b (hV D::J)) Y):O U W args (nz I H s S::J) Y:=
 O.open (ι:=yF) (E:=λj=>gb I j.1 j.2.1 j.2.2.1 j.2.2.2.1 j.2.2.2.2.1 H s.b [hV j.2.2.2.2.2]) (D:=λj=>mG j.1 j.2.1 j.2.2.1 j.2.2.2.1 j.2.2.2.2.1 s.k s.aK/\(∀a∈S,mR j.2.1 j.2.2.2.2.2 a)/\∀y∈j.2.2.2.2.2,bS.each r8 y) (λ_ ⟨j,o,q⟩=>⟨j,⟨o.1,o.2,abB (C.tail (C.tail (C.tail (C.tail q))))⟩,q⟩) λj o=>R _ _ _ _ _ _ o.1 o.2.1 o.2.2
def WU{H D}(h1:1<=D)(ae:D<=1048576):Y 87 #[j D] H λv J=>∃E,v=.tuple #[I E,j 0]/\J=nz E D ⟨[],[],0⟩ []::H:=
 (JS D H h1 ae).cr λv J R ⟨E,W,U,A,c,l,O,o,Q⟩ q=>⟨_,⟨E,O,rfl⟩,by
  subst Q;refine Gx (D:=[]) o (λa h=>by grind) (λh s=>?_) R q;exact C.bl (λ_ s=>C.bl (λ_ s=>C.bl (λ_ s=>C.bl (λ_ s=>zh cT _ s) s) s) s) s⟩
attribute [local irreducible] C bh b6
@[reducible] def mn (C:a3) (c:Nat) (A:a3) (n D E:Nat):List Value:=[.pointer C,j (c:Nat),.nilFunc,.slice A n D,j (E:Nat)]
section
variable{B6 c:Nat}{ca:a3}{A:a3}{n d k:Nat}
def Ek(j)(h:aU j B6 0 5 (mn ca c A n d k)):aY 738 #[I B6] j (.bool ca.isNone) j:=by
 have C:=h.at_ (i:=0) p;have ae:=h.at_ (i:=2) p;cases ca with
 |none=>
  refine bt ?_;exact a6 (ZO bN p p) fG
 |some a=>
  refine bt ?_;exact aR bD
def aga(j)(h:aU j B6 0 5 (mn ca c A n d k)):aY 732 #[I B6] j (.bool ca.isNone) j:=by
 refine aD ?_;refine a9 (Ek _ h.ap) ?_;exact aR bD
end
def agi(Q c W A O ar j H)(h:aU H Q 0 5 (mn W c A (aa j) O ar))(ah:Rd H A (aa j) j)(ax:aa j<=100000000):
  Y 733 #[I Q] H λv R=>∃D C,v=.slice D (aa j) C/\((0<aa j->∃b,D=(U b))/\aa j<=C/\C<=maxLen)/\R=E 3 1 D (aa j) C (J (b5 j))::H:=by
 have av:=h.at_ (i:=3) p;refine aD ?_;refine aP (BI A _ O _) ?_;rintro _ _ ⟨Z,rfl,rfl⟩;refine aP (BH Z A _ O j _ ah.ap ad) ?_;rintro _ _ ⟨D,C,rfl,⟨ai,am,aq⟩,rfl⟩;apply gD _;exact aR ⟨D,C,rfl,⟨ai,am,aq⟩,rfl⟩
def _root_.Go.Proofs.YteinodmjohkmmaaGreat.bS.mP(c:Nat)(j:bS):List Int:=if j.k8 c then b5 (gj j.qL)else[]
def _root_.Go.Proofs.YteinodmjohkmmaaGreat.bS.me(c:Nat)(j:bS):bS:=if j.k8 c then bS.dF c j else .nil
def WV(C c D)(h:ho D C)(Q:aa C.qL<=1000):Y 739 #[.pointer C.Z,j (c:Nat)] D λv H=>yC (C.mP c) (C.me c).Z D v H:=by
 unfold bS.mP bS.me;cases E:C.k8 c with
 |false=>exact Wg C c D h E
 |true=>
  cases C with
  |nil=>cases E
  |node b J W A I U R O=>exact Wh b J W A I U R O c D h E (by simp[bS.qL]at Q;omega)
def agU(D C c)(A:a3)(ai H j M)(aE:0<aa j->∃b,A=(U b))(h:ho M C)(aB:C.Z.isSome=ag)(aA:aa C.qL<=1000)(aL:aa j<=1000000000)(aG:H<=1000000000):
  Y 737 #[I D] (ah D 507 (mn C.Z c A (aa j) ai H)::E 3 1 A (aa j) ai (J j)::M) λv aq=>v=.tuple #[]/\∃O am,(0<aa (j++C.mP c)->∃b,O=(U b))/\aq=ah D 507 (mn (C.me c).Z c O (aa (j++C.mP c)) am (H+1))::E 3 1 O (aa (j++C.mP c)) am (J (j++C.mP c))::M:=by
 have ap:=λM h=>WV C c M h aA;have aJ:aa (C.mP c)<=1000:=by
  unfold bS.mP;split
  .rw[sc];simp_all[gj]
  simp
 generalize C.me c=ar at*
 generalize C.mP c=q at*
 obtain⟨a,az⟩:=Option.isSome_iff_exists.1 aB;rw[az]at ap ⊢;refine bt ?_;refine dV (ap _ (bx h)) ?_;rintro _ _ ⟨W,av,rfl,⟨aD,aM,aO⟩,rfl⟩;apply cV _;apply aC _;have aK:∀M,bf (E 3 1 W _ av _::M) 1 W (aa q) (J q):=λM=>bf.E (ck _) aD;apply aC _;apply fz λQ R aF aH aI=>?_;have ax:aa (j++q)=aa j+aa q:=b4;refine er (D:=[]) (j:=[]) (C:=ah D 507 (mn ar.Z c Q (aa (j++q)) R (H+1))::E 3 1 Q (aa (j++q)) R (J (j++q))::M) p .nil ?_ ⟨rfl,Q,R,by simp_all,rfl⟩;rw[ax,gS];exact au
def i4(b:Nat)(D:a3)(c:Nat)(j:List Int)(H:Nat):aG:=λh=>∃y:Option cg×Nat,(0<aa j->∃b,y.1=(U b))/\C [ah b 507 (mn D c y.1 (aa j) y.2 H),E 3 1 y.1 (aa j) y.2 (J j)] h
def O.AA{I Y args}{H:Q}{b c D C j Z}
  (R:∀A W,(0<aa j->∃b,A=(U b))->O I Y args (ah b 507 (mn C c A (aa j) W D)::E 3 1 A (aa j) W (J j)::H) Z):O I Y args (i4 b C c j D::H) Z:=
 O.open (ι:=Option cg×Nat) (D:=λy=>0<aa j->∃b,y.1=(U b)) (E:=λy=>[ah b 507 (mn C c y.1 (aa j) y.2 D),E 3 1 y.1 (aa j) y.2 (J j)]) (λ_ h=>h) λy ai=>R y.1 y.2 ai
def Mh{W H g R I Z}{O:Q}{b c D C j}
  (h:∀A Y,(0<aa j->∃b,A=(U b))->G W H g R I Z (ah b 507 (mn C c A (aa j) Y D)::E 3 1 A (aa j) Y (J j)::O)):G W H g R I Z (i4 b C c j D::O):=
 qm (ι:=Option cg×Nat) (F:=λy=>0<aa j->∃b,y.1=(U b)) (D:=λy=>[ah b 507 (mn C c y.1 (aa j) y.2 D),E 3 1 y.1 (aa j) y.2 (J j)]) (λ_ h=>h) λy ai=>h y.1 y.2 ai
def sV{H M:Q}{b c D O}{I A:a3}{j}(W:0<aa j->∃b,A=(U b))(R:aS H (ah b 507 (mn I c A (aa j) D O)::E 3 1 A (aa j) D (J j)::M)):aS H (i4 b I c j O::M):=λh Y=>
 C.fold (N:=[_,_]) (λh q=>⟨(A,D),W,q⟩) (R h Y)
def agn(C j c E D M)(h:ho M j)(Y:j.Z.isSome=ag)(H:aa j.qL<=1000)(ah:aa D<=1000000000)(W:E<=1000000000):
  aY 737 #[I C] (i4 C j.Z c D E::M) (.tuple #[]) (i4 C (j.me c).Z c (D++j.mP c) (E+1)::M):=
 O.AA λA J U=>(agU C j c A J E D M U h Y H ah W).cr λv am H ⟨Q,ai,ap,h1,R⟩ q=>⟨_,⟨Q,rfl⟩,sV h1 cT _ (R▸q)⟩
def ahb(b c D C E H)(h:ho H C)(aq:C.Z.isSome=ag)(am:aa C.qL<=1000)(av:aa E<=1000000000)(ai:D<=1000000000):
  aY 735 #[I b,j 1] (i4 b C.Z c E D::H) (.tuple #[j (1:Nat),.bool (C.me c).Z.isNone]) (i4 b (C.me c).Z c (E++C.mP c) (D+1)::H):=by
 have Y:=λM h=>agn b C c D E M h aq am av ai;have ar:C.Z.isNone=al:=bo;generalize(C.me c).Z=R at*
 generalize E++C.mP c=W at*
 refine aD λ{g F}=>?_;apply cc;apply fV _;apply ef (ι:=Unit) (λ_=>[(0,I b),(6,j (1:Nat))]) (λ_=>i4 b R c W (D+1)::F::H) (λ_=>True) _ _
 .apply bs _;apply cL (λy=>[(0,.pointer _),(1,.int _ 1),(6,.int _ (cond y 1 0:Nat))]) (λy=>cond y (i4 b R c W (D+1)) (i4 b C.Z c E D)::F::H) (λ_=>True) (λy=>cond y 0 1) al trivial aZ au;rintro(_| _) _
  .apply Mh λA J Q=>?_;have U:=λM=>Ek (B6:=b) (c:=c) (ca:=C.Z) (A:=A) (n:=aa E) (d:=J) (k:=D) (ah b 507 (mn C.Z c A (aa E) J D)::M) (aU.ah p);rw[ar]at U;apply ak _;apply a9 (U _) _;apply a9 (O.pre (M:=i4 b C.Z c E D::F::H) (dp (sV (D:=J) Q)) (Y _ h.ap)) _;exact b7 ag trivial ao aZ au
  .apply ak _;exact cC () trivial aZ au
 .rintro _ _;apply Mh λA J Q=>?_;apply aC _;refine a9 (Ek _ (aU.ah p)) ?_;exact aR bD (dp (sV (D:=J) Q))
def ahc(b c H C)(R:Q):
  aY 735 #[I b,j 1] (i4 b af c C H::R) (.tuple #[j (0:Nat),.bool ag]) (i4 b af c C H::R):=by
 apply O.AA λA D W=>?_;have U:=λM=>Ek (B6:=b) (c:=c) (ca:=af) (A:=A) (n:=aa C) (d:=D) (k:=H) M;refine aD λ{g F}=>?_;apply cc;apply fV _;apply ef (ι:=Unit) (λ_=>[(0,I b),(6,j (0:Nat))]) (λ_=>ah b 507 (mn af c A (aa C) D H)::E 3 1 A (aa C) D (J C)::F::R) (λ_=>True) _ _
 .apply bs _;apply cL (λ_=>[(0,I b),(1,j 1),(6,j (0:Nat))]) (λ_=>ah b 507 (mn af c A (aa C) D H)::E 3 1 A (aa C) D (J C)::F::R) (λ_=>True) (λ_=>0) () trivial aZ au;rintro _ _;apply ak _;refine a9 (U _ (aU.ah p)) ?_;exact cC () trivial aZ au
 .rintro _ _;apply aC _;refine a9 (U _ (aU.ah p)) ?_;exact aR bD (dp (sV (D:=D) W))
def agp{O H J A c l R W}(v C)(h:pB C O H J A c l R W)(o:H.ok)(am:aa H.aK<=1000):Y 398 #[I O,j v] C λU Q=>∃D,U=(I D)/\Q=i4 D J.Z (lY H.aK v) [] 0::C:=by
 have ai:=λC h=>ahA (t:=O) (X:=J) (A:=A) (c:=c) (l:=l) (bT:=R) (ni:=W) v C h o am;have aq:∀C,pB C O H J A c l R _->Y 437 #[.pointer (ab _),.int _ v,.nilFunc] C λU Q=>∃D,U=(I D)/\Q=i4 D J.Z (lY H.aK v) [] 0::C:=λC h=>by
  refine aD ?_;refine dQ (ahO _ h.ap) ?_;refine dQ (ai _ h.ap) ?_;apply bg λah=>?_;apply bp (E.c7 3 1);exact aR ⟨ah,rfl,rfl⟩ (by(repeat first|exact cf|apply sV (A:=af) (D:=0) db|refine ek ?_)<;>fail)
 refine aD ?_;refine aP (aq _ h.ap) ?_;rintro _ _ ⟨D,rfl,rfl⟩;apply gD _;exact aR ⟨D,rfl,rfl⟩
def agm{D c E A n H J}(C)(h:aU C D 0 5 (mn E c A n H J)):aY 734 #[I D] C (j (n:Nat)) C:=by
 have O:=h.at_ (i:=3) p;refine bt ?_;exact aR bD
def af8(C c E j H)(D:Q):aY 732 #[I C] (i4 C j c H E::D) (.bool j.isNone) (i4 C j c H E::D):=
 O.AA λA Y U=>(aga _ (aU.ah p)).cr λv W Z ⟨J,R⟩ q=>⟨_,⟨J,rfl⟩,sV U cT _ (R▸q)⟩
def agk(C c J H D)(E:Q):aY 734 #[I C] (i4 C H c D J::E) (j (aa D:Nat)) (i4 C H c D J::E):=
 O.AA λA Z W=>(agm _ (aU.ah p)).cr λv Y ai ⟨R,U⟩ q=>⟨_,⟨R,rfl⟩,sV W cT _ (U▸q)⟩
def agf(H c Z W j)(ai:Q)(aA:aa j<=100000000):Y 733 #[I H] (i4 H W c j Z::ai) λv am=>∃D R,v=.slice D (aa j) R/\(0<aa j->∃b,D=(U b))/\am=E 3 1 D (aa j) R (J (b5 j))::i4 H W c j Z::ai:=
 O.AA λA ar aq=>(agi H c W A ar Z j _ (aU.ah p) (Rd.ap (bf.E (ck _) aq)) aA).cr λv am aB ⟨D,R,av,⟨ax,_⟩,az⟩ q=>⟨_,⟨D,R,av,ax,rfl⟩,C.bl (sV aq cT) (az▸q)⟩
end S.fw
namespace S.fw
def v7:Option Nat->Option cg
 |none=>af
 |some a=>(U a)
def _root_.Go.Proofs.YteinodmjohkmmaaGreat.bS.qx:bS->Option Nat
 | .nil=>af
 | .node b _ _ _ _ _ _ _=>ab b
def _root_.Go.Proofs.YteinodmjohkmmaaGreat.bS.Nw(j:bS):v7 j.qx=j.Z:=by cases j<;>rfl
def _root_.Go.Proofs.YteinodmjohkmmaaGreat.bS.adZ{c}{H:bS}:∀a∈(H.me c).qx.toList,a∈H.bG:=by
 have O:∀{C:bS},∀a∈C.qx.toList,a∈C.bG:=λ{C} a j=>by
  cases C with
  |nil=>trivial
  |node b J R A I Q E D=>simp[bS.qx,LZ,List.mem_singleton]at j;subst j;exact ll
 intro a j;unfold bS.me at j;split at j
 .cases H with
  |nil=>trivial
  |node b J R A I Q E D=>
   have U:bS.dF c (.node b J R A I Q E D)=if D.k8 c then D else if E.k8 c then E else .nil:=rfl
   rw[U]at j;split at j
   .exact gn _ (b9.2 (.inr (O a j)))
   .split at j
    .exact gn _ (b9.2 (.inl (O a j)))
    trivial
 trivial
structure kV where
 y:Option Nat
 c:Nat
 di:List Int
 k:Nat
def jA(b j:Nat)(S:List Nat):aG:=λh=>∃y:kV,jo j S y.y.toList (aa y.di) y.k/\C [i4 b (v7 y.y) y.c y.di y.k] h
def YS{b C D S j}(H:C<=D)(E:∀a∈S,a∈j):∀h,jA b C S h->jA b D j h:=λh ⟨y,o,q⟩=>⟨y,o.up H E,q⟩
theorem O.jA{D:Program}{E:dc}{args:Array a2}{C:Q}{b j:Nat}{S:List Nat}{I:a2->List aG->Prop}(R:∀y c J H,jo j S (LZ y) (aa J) H->O D E args (i4 b (v7 y) c J H::C) I):O D E args (jA b j S::C) I:=
 O.open (ι:=kV) (D:=λy=>jo j S y.y.toList (aa y.di) y.k) (E:=λy=>[i4 b (v7 y.y) y.c y.di y.k]) (λ_ h=>h) λy o=>R y.y y.c y.di y.k o
def wI{E M:Q}{b I c j y}{H:a3}{S D}(o:jo I S y.toList (aa D) j)(J:v7 y=H)(O:aS E (i4 b H c D j::M)):aS E (jA b I S::M):=by
 subst J;exact λh R=>C.fold (λh q=>⟨⟨y,c,D,j⟩,o,q⟩) (O h R)
def agr(b H R av s S)(U:Q)(ar:H<=50000)(aV:aa s.k<=1000):Y 735 #[I b,j 1] (jA b H S::nz R av s S::U) λv W=>∃ah n E,v=.tuple #[j (n:Nat),.bool E]/\(∀a∈S,a∈ah)/\W=jA b (H+1) ah::nz R av s ah::U:=by
 apply O.jA λy c J az o=>?_;have aW:=o.i;have aX:=o.k;cases y with
 |none=>
  exact(ahc b c az J _).cr λv W ar ⟨ai,am⟩ q=>⟨_,⟨S,0,ag,ai,λa h=>h,rfl⟩,wI (o.up (Nat.le_succ H) λa h=>h) p cT _ (am▸q)⟩
 |some a=>
  apply O.pre (λh q=>C.perm (List.Perm.swap ..) q);apply O.agP λa3 aD A E l aB g aq ax=>?_;have aG:=g.fJ.nX g.nX (by rw[g.perm.length_eq];omega) g.nf;obtain⟨D,aO,aP,aQ,aR⟩:=acI (aq a (o.a a ao)) aG ax;have aM:=aP _ (g.w2 R av s.b _).X λy aL=>(Qm (J:=U) ax aL).ap.ap.ap.ap;have aK:aa D.qL<=1000:=by
   cases D with
   |nil=>trivial
   |node b aS R A E H aY aT=>exact aR.1.2.1
  rw[show v7 (ab a)=D.Z from aO.symm];apply O.pre (λh q=>C.perm (List.perm_middle (l₁:=[_,_,_,_,_])) q);refine(ahb b c az D J _ aM bo aK ad ad).cr λaZ W ar ⟨ai,am⟩ q=>⟨_,⟨aD.bG++aB.flatMap _,1,_,ai,λa aH=>HG (aq a aH),rfl⟩,?_⟩;subst am;have aE:aa (J++D.mP c)<=aa J+1000:=by
   rw[b4];unfold bS.mP;split
   .rw[sc];simp_all[gj]
   simp
  generalize J++D.mP c=a0 at*
  have aA:=jo.next (as0:=[]) (ks:=(D.me c).qx.toList) o (λc aI=>HG (aq c aI)) (λE aJ=>aQ _ (bS.adZ E aJ)) bv aE
  have aF: []++(D.me c).qx.toList.reverse=(D.me c).qx.toList:=by cases(D.me c).qx<;>rfl
  rw[aF]at aA;apply wI (c:=c) (y:=(D.me c).qx) aA (D.me c).Nw _ ar q;exact λh q=>C.bl (λh q=>Gx g QO cT h q) q
def af9(b D S)(j:Q):Y 732 #[I b] (jA b D S::j) λv C=>(∃E,v=.bool E)/\C=jA b D S::j:=
 O.jA λy c U R o=>(af8 b c R _ U j).cr λv C W ⟨H,J⟩ q=>⟨_,⟨⟨_,H⟩,rfl⟩,wI o p cT _ (J▸q)⟩
def agl(b E S)(C:Q):Y 734 #[I b] (jA b E S::C) λv D=>(∃n,v=j n)/\D=jA b E S::C:=
 O.jA λy c U R o=>(agk b c R _ U C).cr λv D W ⟨H,J⟩ q=>⟨_,⟨⟨_,H⟩,rfl⟩,wI o p cT _ (J▸q)⟩
def agh(b D S)(H:Q)(Z:D<=50000):Y 733 #[I b] (jA b D S::H) (yy (jA b D S::H)):=
 O.jA λy c j ah o=>(agf b c ah _ j _ (by have:=o.i;omega)).cr λv ai Z ⟨R,U,am,ap,W⟩ q=>⟨E 3 1 R (aa (b5 j)) U (J (b5 j))::jA b D S::H,⟨R,U,b5 j,by rw[b5,ky];omega,by rw[b5,ky];omega,by rw[b5,ky];have:=o.i;omega,rfl⟩,by
  subst W;rw[show aa (b5 j)=aa j by rw[b5,ky]];exact C.bl (wI o p cT) q⟩
end S.fw
end
end Go.Proofs.YteinodmjohkmmaaGreat
