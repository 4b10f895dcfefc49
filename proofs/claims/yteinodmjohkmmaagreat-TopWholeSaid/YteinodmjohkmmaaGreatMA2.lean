/- TopWhole: a part of its proof. -/
import Derived.Laws.MakeOwn
import Derived.Test.YteinodmjohkmmaaGreatShelf
import Derived.Test.YteinodmjohkmmaaGreatMA1
set_option linter.all false
set_option maxRecDepth 100000
set_option maxHeartbeats 4000000
open BitVec renaming ofInt->hf
open Bool renaming false->al,true->ag
open Go renaming Addr->cg,FuncId->dc,Operand->cJ,Program->bk,TypeId->bq,Value->a2
open Go.Code renaming wpIn_mono->oA
open Go.Op renaming intArith->tJ,intBits->q2,shift->x6
open Int renaming le_of_lt->tK
open List renaming append_assoc->jm,append_nil->dC,countP_cons->mv,countP_eq_zero->K8,drop_eq_getElem_cons->sp,drop_of_length_le->vw,eq_nil_of_length_eq_zero->gX,filter_cons->tM,getElem?_eq_getElem->b8,getElem?_eq_none->mw,getElem?_eq_some_iff->h2,getElem_mem->gG,length->aa,length_append->b4,length_cons->f0,length_filter_le->kj,length_nil->yf,length_singleton->hg,map_cons->fu,map_set->Ls,mem_append->b9,mem_cons->df,mem_map->lm,nil_append->oG,nodup_cons->j3,pairwise_append->pr,pairwise_cons->gH,replicate->gv,take_append_drop->kk,take_append_of_le_length->yk,take_of_length_le->lR,take_succ_eq_append_getElem->j4
open Nat renaming blt->eY,eq_zero_or_pos->hh,le_refl->bC,le_trans->hj,lt_or_ge->dZ,mod_lt->q6,mul_one->ym,zero_add->h3,zero_le->bO
open Option renaming none->af,some->ab
open Go.RowKit
namespace Go.Proofs.YteinodmjohkmmaaGreat
noncomputable section
def Jn {I:Prop} (h:I:=by
  apply cR λ{g F}=>?_;apply bQ _;apply bd λJ=>?_;apply ay _;apply ee _;apply ay _;refine GE (c5 p (O.frame [ah J _ _,F] (B5 h) cT)) ?_;rintro _ _ ⟨R,⟨rfl,Q⟩,rfl⟩;iterate 2 apply ay _
  apply fv _;apply ay _;apply cd _;exact ba rfl (.cell p (eQ cA) (.tmp p .nil)) a1 ⟨rfl,Q⟩):I:=h
def Jx {H:Prop} (h:H:=by
  apply aD λ{g F}=>?_;apply bP λJ=>?_;apply cd _;apply bp (E.c7 mV 1);exact ba rfl (.tmp p (.tmp p .nil)) (by(repeat first|exact cf|apply n1 (A:=none) (c:=0) (l:=[]) db|apply ek _)<;>fail) ⟨J,rfl,rfl⟩):H:=h
def Jy {D:Prop} (h:D:=by
  apply O.p8 λA c h1 ae an=>?_;apply aD λ{g F}=>?_;apply cd _;exact ba rfl (.tmp p .nil) (by(repeat first|exact cf|apply n1 h1|apply ek _)<;>fail) bD):D:=h
def Jz {D:Prop} (h:D:=by
  have h1:=h.at_ (i:=0) p;apply aD λ{g F}=>?_;apply cd _;refine ba p (.tmp p (.tmp p .nil)) a1 bD):D:=h
def JA {O:Prop} (h:O:=by
  have h1:=h.at_ (i:=0) p;obtain⟨R,U,rfl,Q⟩:=E.at_ ad;have W:=Q l.length D ao;have Y:a5 C ⟨R,U+(n-1)*1,none⟩ (.pointer D.Z):=by
   have:=W.at_ (i:=0) p;rw[show n-1=l.length by omega];exact this
  apply aD λ{g F}=>?_;apply cd _;refine e9 p (cw ad) ?_;apply ed (bE [0,1,2,3,4,5,6,7,8,9,10,11,12] (.q 13 .nil)) _;iterate 14 apply bu _
  apply fO _;refine ba p (.tmp p (.tmp p .nil)) a1 bD):O:=h
def JB {C:Prop} (h:C:=by
  apply O.p8 λA c h1 ae an=>?_;apply cR λ{g F}=>?_;apply bQ _;iterate 2 apply ay _
  apply ee _;apply ay _;refine dQ (AI b A c _ (aU.ap (aU.ah p))) ?_;apply cd _;exact ba rfl (.tmp p (.tmp p .nil)) (by(repeat first|exact cf|apply n1 h1|apply ek _)<;>fail) bD):C:=h
def JC {J:Prop} (h:J:=by
  apply O.p8 λA c h1 ae an=>?_;have R:(l++[j]).length=l.length+1:=ao;obtain⟨D,rfl⟩:=h1 ao;generalize U:(l++[j]).length=n at*
  apply aD λ{g F}=>?_;refine dQ (AH b _ n c l j _ (aU.ap (aU.ah p)) (Rd.ap (Rd.ap (bf.E (by rw[ck,U];rfl) (λ_ ↦ ⟨D,rfl⟩)))) R ad) ?_;apply ed (bE [0,1,2,3,4,5,6,7,8,9,10,11,12,13] (.e 14 .nil)) _;iterate 11 apply bu _
  refine eh p (kH p p aw) ?_;iterate 2 apply bu _
  refine bF (hD cq p p p (o2 p p p oU) ?_);rintro _ _ ⟨rfl,rfl⟩;apply aC _;apply cd _;have Q:n-1=l.length:=ad;rw[Q];refine ba (C:=be b 65536 l::C) p (.tmp p (.tmp p .nil)) ?_ bD;apply cP;exact aN;refine n1 (c:=c) (λ_=>⟨D,rfl⟩) ?_;refine Cn .here p ?_;refine Cs .here ad ?_ cf;rw[gS];exact List.take_left' (ck _)):J:=h
def JD {Q:Prop} (h:Q:=by
  have ah:=E.len bL;apply O.p8 λY c h1 ae an=>?_;apply cR λ{g F}=>?_;apply ed (bE [0,1,2,3,4,5,6,7,8,9,10,11] (.q 12 .nil)) _;iterate 11 apply bu _
  refine fc p (zr p p ad) ?_;apply bu _;apply fO _;refine e9 p (cw ad) ?_;apply aC _;refine GE (dH p p aN ((bx E)) ((e8 _)) bN ao aw aw) ?_;rintro _ _ ⟨W,R,rfl,Z,ai,J,rfl⟩;apply aC _;apply cd _;have U:l.length+C=(l++D).length:=bo;rw[U]at J ⊢;refine er (C:=be b 65536 (l++D)::j) p .nil ?_ bD;apply cP;exact aN;apply n1 (c:=R) J;rw[gS];exact au):Q:=h
def JE {U:Prop} (h:U:=by
  apply cR λ{g F}=>?_;apply bQ _;iterate 2 apply ay _
  refine f1 p (O.pick aN (u1 b A C q l D _ (bx R) Q)) ?_;apply cd _;exact er rfl .nil au p):U:=h
def JF {U:Prop} (h:U:=by
  apply aD λ{g F}=>?_;apply bd λH=>?_;apply bP λJ=>?_;refine f1 p (O.pick aN (sr (c1:=[]) (c2:=[I H,I J]) (po_:=λW=>W=be b 65536 (l++E)::ah J Kf [.slice A D q]::ah H Ke [I b]::F::C) (Ao H J b A D q l E _ (a5.ap (a5.ah p)) (a5.ah p) (bx R) Q))) ?_;iterate 3 apply ay _
  apply bd λY=>?_;apply fv _;apply ay _;apply ee _;iterate 3 apply ay _
  apply cd _;exact ba (C:=be b 65536 (l++E)::C) p (.tmp p .nil) au bD):U:=h
def Jo {Q:Prop} (h:Q:=by
  have h1:=D.len bL;apply aD λ{g F}=>?_;refine a6 (GG p p) ?_;apply cd _;refine eG p (λae=>?_) (λae=>?_)
  .have R:A=none:=bo;have an:n=0:=by
    rcases Nat.eq_zero_or_pos n with h|h
    .omega
    .obtain⟨b,o,R,_⟩:=D.at_ h;grind
   subst an;have:=List.eq_nil_of_length_eq_zero h1;subst this;apply aC _;apply cd _;refine ba (C:=E mV 1 none 0 0 []::j) p (.tmp p .nil) ?_ ⟨none,0,rfl,db,rfl⟩;exact λh s=>(E.c7 mV 1 h s).swap
  .apply bs _;apply jP;apply bd λZ=>?_;apply ay _;refine GE (dH p p aN (bf.ap (bf.ap D)) ((e8 _)) bN bL aw aw) ?_;rintro _ _ ⟨H,I,rfl,U,ah,W,rfl⟩;apply ay _;apply cc;rw[Nat.zero_add]at U W;apply bs _;refine ba (C:=E mV 1 H l.length I (J l)::j) p (.tmp p .nil) ?_ ⟨H,I,by rw[h1];simp[cs],by simp_all,rfl⟩;rw[h1,Nat.zero_add,List.nil_append];apply cP (.ap (.here));apply cP (.here);exact a1):Q:=h
def Jp {Y:Prop} (h:Y:=by
  match l,ae,Q with
  | [],_,Q=>
   apply aD λ{g F}=>?_;apply cd _;apply cL (ι:=Unit) (λ_=>[(0,.slice A ([]:List vn).length c),(2,j 0),(3,j (-1))]) (λ_=>F::E mV 1 A ([]:List vn).length c (J ([]:List vn))::D) (λ_=>True) (λ_=>0) () trivial aZ cf;intro _ _;apply aC _;apply bs _;exact er (C:=E mV 1 A ([]:List vn).length c (J ([]:List vn).reverse)::D) p .nil cf bD
  | [H],_,Q=>
   apply aD λ{g F}=>?_;apply cd _;apply cL (ι:=Unit) (λ_=>[(0,.slice A [H].length c),(2,j 0),(3,j 0)]) (λ_=>F::E mV 1 A [H].length c (J [H])::D) (λ_=>True) (λ_=>0) () trivial aZ cf;intro _ _;apply aC _;apply bs _;exact er (C:=E mV 1 A [H].length c (J [H].reverse)::D) p .nil cf bD
  | [H,y],_,Q=>
   obtain⟨R,rfl⟩:=Q ao;apply cR λ{g F}=>?_;apply bp (j:=E mV 1 (U R) 2 c [.pointer H.Z,.pointer y.Z]::F::D) (λ_ s=>s.swap);refine qm (ι:=List Value) (F:=λO=>(Value.pointer H.Z:: .pointer y.Z::O).length=c*1/\2<=c/\c<=maxLen) (D:=λO=>[ah R mV (.pointer H.Z:: .pointer y.Z::O)]) (λh o=>by
    obtain⟨W,am,av,ax⟩:=o.rX;have ai:W=.pointer H.Z:: .pointer y.Z::W.drop 2:=by
     have:=List.take_append_drop 2 W;simp_all
    exact⟨W.drop 2,⟨by grind,o.le,o.cap⟩,C.one (ai▸am)⟩) ?_
   rintro O ⟨ap,aq,ar⟩;apply bp (j:=F::ah R mV (.pointer H.Z:: .pointer y.Z::O)::D) (λ_ s=>s.swap);apply aC _;apply cd _;refine cL (ι:=List Value×Nat×Nat) (λI=>[(0,.slice (U R) 2 c),(2,j (I.2.1:Nat)),(3,j (I.2.2:Nat))]) (λI=>F::ah R mV I.1::D) (λI=>I=(.pointer H.Z:: .pointer y.Z::O,0,1)\/I=(.pointer y.Z:: .pointer H.Z::O,1,0)) (λI=>I.2.2) (.pointer H.Z:: .pointer y.Z::O,0,1) (.inl p) aZ cf ?_;rintro I (rfl|rfl)
   .apply aC _;apply ed (bE [0,1,2,3,4,5,6,7,8,9,10,11,12] (.e 13 (.q 14 (.e 15 .nil)))) _;iterate 13 apply bu _
    refine bF (py cq p p p (o2 p p p oU) ?_);rintro _ _ ⟨rfl,rfl⟩;apply bu _;refine bF (hD cq p p p (o2 p p p oU) ?_);rintro _ _ ⟨rfl,rfl⟩;apply aC _;apply cd _;exact b7 (.pointer y.Z:: .pointer H.Z::O,1,0) (.inr p) (Nat.zero_lt_one) aZ (by rw[JR];exact au)
   .apply aC _;apply bs _;refine er (C:=E mV 1 (U R) 2 c [.pointer y.Z,.pointer H.Z]::D) p .nil (k4 ?_) bD;exact IB ap aq ar):Y:=h
def Jq {E:Prop} (h:E:=by
  have h:=D.h;unfold lG at h;split at h
  .exact⟨_,_,_,by assumption⟩
  .cases h):E:=h
def Jr {E:Prop} (h:E:=by
  apply cR λ{g F}=>?_;apply bQ _;apply ay _;apply ee _;iterate 4 apply ay _
  refine f1 p (O.pick aN (Al s _)) ?_;iterate 5 apply ay _
  apply ee _;apply ay _;refine a6 (gz p) ?_;apply aC _;apply cd _;exact ba rfl (.tmp p .nil) au bD):E:=h
def Js {aA:Prop} (h:aA:=by
  haveI:=U;apply cR λ{g F}=>?_;apply bQ _;apply ay _;apply ee _;iterate 4 apply ay _
  refine f1 p (O.pick aN (Ak s l C _ ad)) ?_;iterate 5 apply ay _
  apply ee _;apply ay _;refine a6 (gz p) ?_;apply hl _;apply bQ _;iterate 7 apply ay _
  apply fv _;apply ee _;iterate 5 apply ay _
  refine GE (f4 p p (O.pre (M:=j.V D::ah J qZ (e3 j s (n+1))::be s 65536 l::F::H) au (ai (ah J qZ (e3 j s (n+1))::be s 65536 l::F::H) λh aF=>aF.tail.tail.tail))) ?_;rintro _ _ ⟨aB,aD,rfl,aE,rfl⟩;refine GE (c5 p (vU aB _ aD (j.kids C) _ (bf.E (ck _) aE) ad)) ?_;rintro _ _ ⟨am,aq,rfl,av,rfl⟩;apply ay _;apply ee _;apply ay _;refine f1 p (O.pick aN (yB am aq (j.kids C) _ av W)) ?_;apply ee _;iterate 5 apply ay _
  refine f1 p (O.pick aN (u1 s am _ aq l (j.kids C).reverse _ (by repeat' first|exact bf.E (by rw[ck,List.length_reverse];rfl) av|apply Rd.ap) ad)) ?_;apply ee _;apply ay _;apply cd _;exact ba (C:=ah J qZ (e3 j s (n+1))::be s 65536 (l++(j.kids C).reverse)::j.V (j.gl C D)::H) p (.tmp p .nil) au bD):aA:=h
def Jt {av:Prop} (h:av:=by
  apply cR λ{g F}=>?_;apply bs _;apply cL (ι:=Bool) (λ_=>[(0,I R),(1,I J)]) (λy=>ah R tF [I E]::ah J 3 [j (1:Nat)]::ah E qZ (e3 C s (cond y 1 0))::be s 65536 (cond y (l++(C.kids D).reverse) (l++[D]))::C.V (cond y (C.gl D H) H)::F::U) (λ_=>True) (λy=>cond y 0 1) false trivial aZ au;rintro(_| _) _
  .dsimp only[cond];apply ed (bE [0,1,2,3,4,5,6,7] (.e 8 (.q 9 .nil))) _;iterate 8 apply bu _
   refine bF (BD cq p p p ⟨_,rfl,rfl⟩ p (c5 p (O.frame [ah R tF [I E],ah J 3 [j (1:Nat)],F] (AR C E s 0 l D H U ai aq am ap ad) au)) ?_);rintro _ _ ⟨_,⟨rfl,rfl⟩,rfl⟩;apply bu _;apply fO _;refine gJ p p ?_;apply bs _;exact b7 true trivial bL aZ au
  .dsimp only[cond];apply ed (bE [0,1,2,3,4,5,6,7] (.e 8 (.q 9 .nil))) _;iterate 8 apply bu _
   refine bF (sz p p p ⟨_,rfl,rfl⟩ p ?_);apply bu _;apply fO _;refine e9 p p ?_;apply bs _;exact er (C:=ah R tF [I E]::ah J 3 [j (1:Nat)]::ah E qZ (e3 C s 1)::be s 65536 (l++(C.kids D).reverse)::C.V (C.gl D H)::U) p .nil au p):av:=h
def Ju {ap:Prop} (h:ap:=by
  apply cR λ{g F}=>?_;apply bQ _;apply bd λai=>?_;iterate 2 apply ay _
  apply ee _;iterate 4 apply ay _
  refine hC p p p p ?_;refine a6 (wM p p) ?_;iterate 5 apply ay _
  apply hl _;apply bQ _;iterate 3 apply ay _
  apply bd λaq=>?_;apply bd λam=>?_;apply fv _;apply ee _;apply ay _;refine GE (c5 p (O.frame [F] (sr (c1:=[]) (c2:=[I am,I ai]) (Kb C am ai aq s l D E H R ah U W)) au)) ?_;rintro _ _ ⟨_,⟨rfl,rfl⟩,rfl⟩;iterate 3 apply ay _
  apply bd λav=>?_;apply fv _;apply ay _;apply cc;apply ed (bE [0,1,2,3,4,5,6] (.q 7 .nil)) _;iterate 8 apply bu _
  apply fO _;exact ba (C:=be s 65536 (l++(C.kids D).reverse)::C.V (C.gl D E)::H) p (.tmp p (.tmp p .nil)) au bD):ap:=h
def Jv {U:Prop} (h:U:=by
  apply cR λ{g F}=>?_;apply bs _;apply cL (ι:=Unit) (λ_=>[(0,I E),(1,I D)]) (λ_=>ah E tF [I C]::ah D 3 [j (1:Nat)]::ah C qZ (e3 H s 0)::be s 65536 []::F::J) (λ_=>True) (λ_=>0) () trivial aZ au;rintro _ _;apply ed (bE [0,1,2,3,4,5,6,7] (.e 8 (.q 9 .nil))) _;iterate 8 apply bu _
  refine bF (BD cq p p p ⟨_,rfl,rfl⟩ p (c5 p (O.pre (M:=ah C qZ (e3 H s 0)::be s 65536 []::ah E tF [I C]::ah D 3 [j (1:Nat)]::F::J) au (AS H C s 0 _))) ?_);rintro _ _ ⟨rfl,rfl⟩;apply bu _;apply fO _;refine e9 p p ?_;apply bs _;exact er (C:=ah E tF [I C]::ah D 3 [j (1:Nat)]::ah C qZ (e3 H s 0)::be s 65536 []::J) p .nil au p):U:=h
def Jw {R:Prop} (h:R:=by
  apply cR λ{g F}=>?_;apply bQ _;apply bd λH=>?_;iterate 2 apply ay _
  apply ee _;iterate 4 apply ay _
  refine hC p p p p ?_;refine a6 (wM p p) ?_;iterate 5 apply ay _
  apply hl _;apply bQ _;iterate 3 apply ay _
  apply bd λU=>?_;apply bd λJ=>?_;apply fv _;apply ee _;apply ay _;refine GE (c5 p (O.frame [F] (sr (c1:=[]) (c2:=[I J,I H]) (Kc C J H U s D)) au)) ?_;rintro _ _ ⟨_,⟨rfl,rfl⟩,rfl⟩;iterate 3 apply ay _
  apply bd λW=>?_;apply fv _;apply ay _;apply cc;apply ed (bE [0,1,2,3,4,5,6] (.q 7 .nil)) _;iterate 8 apply bu _
  apply fO _;exact ba (C:=be s 65536 []::D) p (.tmp p (.tmp p .nil)) au bD):R:=h
def TQ {I:Prop} (h:I:=by
  have W:=(List.getElem?_eq_some_iff.1 h).1;have R:Rd (E D 3 _ n c _::C) _ n l:=bf.E (by rw[ck,H];rfl) (λ_=>⟨b,rfl⟩);obtain⟨_,_,O,Q⟩:=R.at_ ad;cases O;exact Q i x h):I:=h
def TR {O:Prop} (h:O:=by
  have h1:l.length=n:=aK.len bL;apply aD λ{g F}=>?_;refine GE (c5 p (nT A n c l _ cX aO)) ?_;rintro _ _ ⟨ax,am,rfl,a0,rfl⟩;apply aC _;apply cd _;refine cL (λah=>[(1,.func _ #[] #[]),(5,.slice ax n am),(11,j (n:Nat)),(12,j (ah.1:Nat))]) (λah=>E qe 3 ax n am (J ah.2)::F::Z) (λah=>ah.1<=n/\ah.2.Perm l/\gM av (ah.2.take ah.1)) (λah=>n-ah.1) (0,l) ⟨Nat.zero_le _,.refl _,by simp[gM]⟩ ⟨rfl,by rw[<- h1];rfl,by rw[<- h1];rfl,rfl,trivial⟩ (by rw[<- h1];exact au) ?_;rintro⟨I,W⟩ ⟨aY,aH,ai⟩;simp only at aY aH ai;dsimp only;have aL:W.length=n:=by rw[aH.length_eq,h1]
  apply aC _;apply cd _;refine c0 p (λaR=>?_) (λaR=>?_)
  .apply bs _;apply jP;apply aC _;apply cc;have bg:W[I]?=some W[I]:=List.getElem?_eq_getElem ad;have a4:W=W.take I++W[I]::W.drop (I+1):=by
    simp
   have bb:(W.take I).length=I:=bv;obtain⟨b,rfl⟩:=a0 ad;generalize W[I]=H at*
   generalize W.take I=D at*
   generalize W.drop (I+1)=R at*
   apply bs _;refine cL (ι:=Nat) (λC=>[(1,.func (.func f) #[] #[]),(5,.slice (U b) n am),(11,j (n:Nat)),(12,j (I:Nat)),(7,j (C:Nat))]) (λC=>E qe 3 (U b) n am (J (D.take C++H::(D.drop C++R)))::F::Z) (λC=>C<=I/\∀y∈D.drop C,av H y=true) (λC=>C) I ⟨Nat.le_refl _,by grind⟩ aZ (by rw[List.take_of_length_le ad,List.drop_of_length_le ad,List.nil_append,<- a4];exact λ_ s=>s) ?_;rintro C ⟨aF,aM⟩
   by_cases a7:0<C
   .have bc:D[C-1]?=some D[C-1]:=List.getElem?_eq_getElem ad;have aI:D.take C=D.take (C-1)++[D[C-1]]:=by
     have:=List.take_succ_eq_append_getElem (l:=D) (i:=C-1) ad;grind
    have a8:D.drop (C-1)=D[C-1]::D.drop C:=by
     grind[List.drop_eq_getElem_cons]
    have a9:(D.take (C-1)).length=C-1:=bv;have aq:(D.take C++H::(D.drop C++R)).length=n:=by
     grind
    generalize D[C-1]=O at*
    obtain⟨aQ,aA,aB⟩:=NA (A:=D.take (C-1)) (R:=D.drop C++R) (x:=H) (p:=O) (k:=C) ad;have aT:D.take C++H::(D.drop C++R)=D.take (C-1)++O::H::(D.drop C++R):=bo;have aV:D.take (C-1)++H::(D.drop (C-1)++R)=D.take (C-1)++H::O::(D.drop C++R):=bo;rw[<- aT]at aQ aA aB;cases aG:av H O with
    |true=>
     apply ed (bE [0,1,2,3,4,5,6,7,8,9,10,11,12] (.e 13 (.q 14 .nil))) _;iterate 3 apply bu _
     refine jS 18 p (cO ad) ?_;iterate 4 apply bu _
     refine j6 dm p p p p ⟨_,rfl,rfl⟩ p (gh p (by repeat' first|exact nn aq aA _|apply aU.ap)) ?_;iterate 4 apply bu _
     refine j6 dm p p p p ⟨_,rfl,rfl⟩ p (gh p (by repeat' first|exact nn aq aB _|apply aU.ap)) ?_;refine bF (jQ p p p ⟨_,rfl,rfl⟩ p (f4 p p (fo.o1 H O _)) ?_);rintro _ _ ⟨rfl,rfl⟩;apply cV _;apply bu _;apply fO _;refine gJ p aG ?_;apply ed (bE [0,1,2,3,4,5,6,7,8,9,10,11,12,13,14] (.e 15 (.q 16 (.e 17 .nil)))) _;iterate 9 apply bu _
     refine eh p (gh p (by repeat' first|exact nn aq aB _|apply aU.ap)) ?_;iterate 3 apply bu _
     refine eh p (gh p (by repeat' first|exact nn aq aA _|apply aU.ap)) ?_;apply bu _;refine bF (py cq p p p ((Gq (j:=[j O.id,j O.x,j O.y]) p p p p aN bv)) ?_);rintro _ _ ⟨rfl,rfl⟩;apply bu _;refine bF (hD cq p p p ((Gq (j:=[j H.id,j H.x,j H.y]) p p p p aN bv)) ?_);rintro _ _ ⟨rfl,rfl⟩;rw[Jl _ _ _ ad,Jl _ _ _ bv,aQ,<- aV];apply aC _;apply cd _;exact b7 (C-1) ⟨ad,by simp_all⟩ ad aZ cT
    |false=>
     apply ed (bE [0,1,2,3,4,5,6,7,8,9,10,11,12] (.e 13 (.q 14 .nil))) _;iterate 3 apply bu _
     refine jS 18 p (cO ad) ?_;iterate 4 apply bu _
     refine j6 dm p p p p ⟨_,rfl,rfl⟩ p (gh p (by repeat' first|exact nn aq aA _|apply aU.ap)) ?_;iterate 4 apply bu _
     refine j6 dm p p p p ⟨_,rfl,rfl⟩ p (gh p (by repeat' first|exact nn aq aB _|apply aU.ap)) ?_;refine bF (jQ p p p ⟨_,rfl,rfl⟩ p (f4 p p (fo.o1 H O _)) ?_);rintro _ _ ⟨rfl,rfl⟩;apply cV _;apply bu _;apply fO _;refine e9 p aG ?_;apply aC _;apply cd _;refine b7 (I+1,D.take C++H::(D.drop C++R)) ⟨ad,?_,?_⟩ ad aZ cT
     .grind[List.Perm.trans,List.perm_middle,List.append_assoc,List.take_append_drop]
     .simp only;have aW:(D.take C++H::(D.drop C++R)).take (I+1)=D.take C++H::D.drop C:=by
       have:D.take C++H::(D.drop C++R)=(D.take C++H::D.drop C)++R:=ao;rw[this,List.take_append_of_le_length bv,List.take_of_length_le bv]
      rw[aW];unfold gM at ai ⊢;rw[<- List.take_append_drop C D,List.pairwise_append]at ai;rw[List.pairwise_append];refine⟨ai.1,List.pairwise_cons.2 ⟨λy aP=>o.asym (aM y aP),ai.2.1⟩,?_⟩;have be:∀a∈D.take C,av H a=false:=by
       rw[aI];intro a az;rcases List.mem_append.1 az with az|az
       .have aJ:=ai.1;rw[aI,List.pairwise_append]at aJ;exact o.Dd (aJ.2.2 a az O ao) aG
       simp_all
      simp_all
   .have aS:C=0:=ad;subst aS;apply ed (bE [0,1,2,3,4,5,6,7,8,9,10,11,12] (.e 13 (.q 14 .nil))) _;iterate 3 apply bu _
    refine jS 18 p (cw ao) ?_;iterate 10 apply bu _
    refine bF (sz p p p ⟨_,rfl,rfl⟩ p ?_);apply aC _;apply cd _;refine b7 (I+1,H::(D++R)) ⟨ad,?_,?_⟩ ad aZ cT
    .grind
    .simp only;unfold gM at ai ⊢;rw[List.take_succ_cons,List.take_append_of_le_length ad,List.take_of_length_le ad];exact List.pairwise_cons.2 ⟨λy aP=>o.asym (aM y fs),ai⟩
  .have aX:I=n:=ad;subst aX;have:W=bw av l:=ou o bv aH;subst this;apply aC _;apply cd _;refine ba (C:=E qe 3 ax (bw av l).length am (J (bw av l))::Z) p (.tmp p .nil) ?_ ⟨ax,am,by rw[aL];rfl,by simp_all,rfl⟩;rw[aL];exact au):O:=h
def TS {a8:Prop} (h:a8:=by
  have h1:l.length=n:=aS.len bL;have ae:q.length=W:=aV.len bL;apply aD λ{g F}=>?_;refine GE (Oi p p ad ad) ?_;rintro _ _ ⟨aZ,rfl,rfl⟩;apply ay _;apply cd _;refine cL (λC=>[(2,.func (.func f) #[] #[]),(0,.slice C.1.1 C.1.2.2.length C.1.2.1),(1,.slice C.2.1.1 C.2.1.2.2.length C.2.1.2.1),(7,.slice C.2.2.1 C.2.2.2.2.length C.2.2.2.1)]) (λC=>E qe 3 C.2.2.1 C.2.2.2.2.length C.2.2.2.1 (J C.2.2.2.2)::F::H)
   (λC=>(Rd H C.1.1 C.1.2.2.length C.1.2.2/\C.1.2.2.length<=C.1.2.1/\gM av C.1.2.2)/\(Rd H C.2.1.1 C.2.1.2.2.length C.2.1.2.2/\C.2.1.2.2.length<=C.2.1.2.1/\gM av C.2.1.2.2)/\(C.2.2.2.2++(C.1.2.2++C.2.1.2.2)).Perm (l++q)/\gM av C.2.2.2.2/\(∀O∈C.2.2.2.2,∀D∈C.1.2.2++C.2.1.2.2,av D O=false)/\(0<C.2.2.2.2.length->∃b,C.2.2.1=(U b))) (λC=>C.1.2.2.length+C.2.1.2.2.length) ((A,c,l),(ah,ai,q),(some ⟨aZ,0,none⟩,n+W,[])) ⟨⟨by rw[h1];exact aS,by simp_all,a9⟩,⟨by rw[ae];exact aV,by simp_all,bb⟩,.refl _,.nil,ao,λ_=>⟨aZ,rfl⟩⟩ ⟨rfl,by rw[<- h1];rfl,by rw[<- ae];rfl,rfl,trivial⟩ au ?_
  rintro⟨⟨bP,aE,Z⟩,⟨bR,aG,aF⟩,⟨bS,bV,O⟩⟩ ⟨⟨aH,aR,am⟩,⟨aJ,aX,ap⟩,aT,aY,a0,bn⟩;simp only at aH aR am aJ aX ap aT aY a0 bn;dsimp only;have b0:O.length+(Z.length+aF.length)=n+W:=by
   have:=aT.length_eq;simp_all
  apply oL (λh s=>E.facts (s));rintro⟨b3,b5,bM,b6⟩;unfold maxLen at bM
  by_cases a4:0<Z.length/\0<aF.length
  .obtain⟨aO,aA,rfl,bh⟩:=aH.at_ a4.1;obtain⟨aP,aB,rfl,bi⟩:=aJ.at_ a4.2;obtain⟨D,az,rfl⟩:∃D az,Z=D::az:=by cases Z with
    |nil=>simp_all
    |cons D az=>simp
   obtain⟨y,aM,rfl⟩:∃y aM,aF=y::aM:=by cases aF with
    |nil=>simp_all
    |cons y aM=>simp
   have ca:aU H aO (aA+0*3) 3 [j D.id,j D.x,j D.y]:=bh 0 D p;have cb:aU H aP (aB+0*3) 3 [j y.id,j y.x,j y.y]:=bi 0 y p;unfold gM at am ap aY;rw[List.pairwise_cons]at am ap;simp only[List.length_cons]at*
   apply aC _;refine hN 17 p (cO ao) ?_;iterate 4 apply ay _
   apply cd _;refine gJ p (cO ao) ?_;apply ed (bE [0,1,2,3,4,5,6] (.e 7 .nil)) _;iterate 7 apply bu _
   refine bF (hD cq p p p (f4 p p (fo.o1 y D _)) ?_);rintro _ _ ⟨rfl,rfl⟩;cases aW:av y D with
   |true=>
    apply kB _;apply yv 0 (bE [0,1,2,3,6,7] (.e 4 (.e 5 (.q 8 (.q 9 .nil))))) _;iterate 5 apply bu _
    refine eh p (iW p p aw aw) ?_;refine bF (bW p p p (gR bN p p) ?_);rintro _ _ ⟨bT,rfl,rfl⟩;apply bX _;refine bF (bW p p p (dH p p aN gL (hA p) bN ao aw aw) ?_);rintro _ _ ⟨bc,bj,rfl,bY,b1,bG,rfl⟩;apply bX _;iterate 2 apply bu _
    apply fO _;exact b7 ((some ⟨aO,aA,none⟩,aE,D::az),(some ⟨aP,(if aG=1 then aB else aB+1*3),none⟩,aG-1,aM),(bc,bj,O++[y])) ⟨⟨aH,aR,List.pairwise_cons.2 am⟩,⟨aJ.drop (k:=1) (c:=aG) ao aX,by grind,ap.2⟩,by
      grind,by
      simp_all[gM,List.pairwise_append],by
      simp only;intro a R b I;rcases List.mem_append.1 R with R|R
      .grind
      .simp at R;subst R;rcases List.mem_append.1 I with I|I
       .rcases List.mem_cons.1 I with rfl|I
        .exact o.asym aW
        .exact o.Dd (o.asym aW) (am.1 b I)
       simp_all,λ_=>bG ao⟩ ao ⟨rfl,rfl,rfl,by rw[List.length_append];rfl,trivial⟩ (by
      have aQ:J (O++[y])=J O++[j y.id,j y.x,j y.y]:=(gi O y).symm;simp only[List.length_append,List.length_singleton,aQ];exact au)
   |false=>
    apply mx _;apply yv 0 (bE [0,1,2,3,6,7] (.e 4 (.e 5 (.q 8 (.q 9 .nil))))) _;iterate 5 apply bu _
    refine eh p (iW p p aw aw) ?_;refine bF (bW p p p (gR bN p p) ?_);rintro _ _ ⟨bU,rfl,rfl⟩;apply bX _;refine bF (bW p p p (dH p p aN gL (hA p) bN ao aw aw) ?_);rintro _ _ ⟨be,bl,rfl,bZ,b2,bH,rfl⟩;apply bX _;iterate 2 apply bu _
    apply fO _;exact b7 ((some ⟨aO,(if aE=1 then aA else aA+1*3),none⟩,aE-1,az),(some ⟨aP,aB,none⟩,aG,y::aM),(be,bl,O++[D])) ⟨⟨aH.drop (k:=1) (c:=aE) ao aR,by grind,am.2⟩,⟨aJ,aX,List.pairwise_cons.2 ap⟩,by
      simp_all,by
      simp_all[gM,List.pairwise_append],by
      simp only;intro a R b I;rcases List.mem_append.1 R with R|R
      .simp_all
      .simp at R;subst R;rcases List.mem_append.1 I with I|I
       .simp_all
       .rcases List.mem_cons.1 I with rfl|I
        .omega
        .exact o.Dd aW (ap.1 b I),λ_=>bH ao⟩ ao ⟨rfl,rfl,rfl,by rw[List.length_append];rfl,trivial⟩ (by
      have aQ:J (O++[D])=J O++[j D.id,j D.x,j D.y]:=(gi O D).symm;simp[aQ];exact au)
  .have bK:O++Z++aF=bw av (l++q):=by
    rw[List.append_assoc];apply ou o (List.pairwise_append.2 ⟨aY,?_,λa R b I=>a0 a R b I⟩) aT;rcases Nat.eq_zero_or_pos Z.length with aI|aI
    .rw[List.eq_nil_of_length_eq_zero aI];trivial
    .rw[List.eq_nil_of_length_eq_zero (by omega:aF.length=0),List.append_nil];trivial
   have aK:(bw av (l++q)).length=O.length+Z.length+aF.length:=bv;have a7:J (bw av (l++q))=J O++J Z++J aF:=by rw[<- bK];simp[gS]
   rcases Nat.eq_zero_or_pos Z.length with aI|aI
   .apply bs _;apply jP;iterate 4 apply ay _
    refine hN 17 p (cw ad) ?_;apply aC _;refine GE (dH p p aN (gL) ((e8 _)) bN ao aw aw) ?_;rintro _ _ ⟨bg,bm,rfl,bp,bz,bI,rfl⟩;apply ay _;refine GE (dH p p aN (gL) ((e8 _)) bN ao aw aw) ?_;rintro _ _ ⟨aq,ax,rfl,br,bA,bJ,rfl⟩;apply ay _;apply cd _;refine ba (C:=E qe 3 aq (bw av (l++q)).length ax (J (bw av (l++q)))::H) p (.tmp p .nil) ?_ ⟨aq,ax,by rw[aK];rfl,by simp_all,rfl⟩;rw[aK,a7];exact au
   .apply bs _;apply jP;iterate 4 apply ay _
    refine hN 17 p (cO ad) ?_;iterate 4 apply ay _
    apply cd _;refine e9 p (cw ad) ?_;apply aC _;refine GE (dH p p aN (gL) ((e8 _)) bN ao aw aw) ?_;rintro _ _ ⟨bg,bm,rfl,bp,bz,bI,rfl⟩;apply ay _;refine GE (dH p p aN (gL) ((e8 _)) bN ao aw aw) ?_;rintro _ _ ⟨aq,ax,rfl,br,bA,bJ,rfl⟩;apply ay _;apply cd _;refine ba (C:=E qe 3 aq (bw av (l++q)).length ax (J (bw av (l++q)))::H) p (.tmp p .nil) ?_ ⟨aq,ax,by rw[aK];rfl,by simp_all,rfl⟩;rw[aK,a7];exact au):a8:=h
def TT {aB:Prop} (h:aB:=by
  intro C
  induction C with
  |zero=>
   intro A n c l j aI R Z az;apply aD λ{g F}=>?_;apply cd _;refine gJ p (cO ad) ?_;apply aC _;refine GE (c5 p (F4 o fo A n c l _ cX Z)) ?_;rintro _ _ ⟨H,O,rfl,W,rfl⟩;apply ay _;apply cd _;exact ba (C:=E qe 3 H (bw av l).length O (J (bw av l))::j) p (.tmp p .nil) au ⟨H,O,rfl,W,rfl⟩
  |succ C aA=>
   intro A n c l j aI R Z az;have h1:=R.len bL;apply aD λ{g F}=>?_;apply cd _;refine c0 p (λaG=>?_) (λaG=>?_)
   .apply bs _;apply jP;iterate 2 apply ay _
    refine GE (c5 p (F4 o fo A n c l _ cX Z)) ?_;rintro _ _ ⟨H,O,rfl,W,rfl⟩;apply ay _;apply cd _;exact ba (C:=E qe 3 H (bw av l).length O (J (bw av l))::j) p (.tmp p .nil) au ⟨H,O,rfl,W,rfl⟩
   .obtain⟨b,D,rfl,_⟩:=R.at_ ad;have ax:bw av (bw av (l.take (n/2))++bw av (l.drop (n/2)))=bw av l:=by rw[Ua o,List.take_append_drop]
    have aK:∀I,Rd (I++j) (some ⟨b,D,none⟩) (n/2) (l.take (n/2)):=λI=>Rd.ev (R.take ad);have aJ:∀I,Rd (I++j) (some ⟨b,(if c=n/2 then D else D+(n/2)*3),none⟩) (n-n/2) (l.drop (n/2)):=λI=>Rd.ev (R.drop (k:=n/2) (c:=c) ad az);apply aC _
    (first|refine a6 (l6 (q:=2) p p aw aw) ?_|refine a6 (jC p p aw aw aw) ?_)
    apply ay _;apply cc;apply ed (bE [0,1,2,3,5,6,7,8,10] (.e 4 (.e 9 (.e 11 (.q 12 .nil))))) _;iterate 2 apply bu _
    refine eh p (kH p p aw) ?_;iterate 3 apply bu _
    refine eh p (iW p p aw aw) ?_;iterate 2 apply bu _
    refine bF (bW p p p (c5 p ((aA (some ⟨b,D,none⟩) (n/2) c (l.take (n/2)) _ ad (aK [F]) ad ad).made)) ?_);rintro _ _ ⟨ah,am,rfl,aL,aO,aQ,rfl⟩;apply cV _;refine bF (bW p p p (c5 p ((aA (some ⟨b,(if c=n/2 then D else D+(n/2)*3),none⟩) (n-n/2) (c-n/2) (l.drop (n/2)) _ ad (aJ [E qe 3 ah (bw av (l.take (n/2))).length am (J (bw av (l.take (n/2)))),F]) ad ad).made)) ?_);rintro _ _ ⟨aF,aH,rfl,aM,aP,aR,rfl⟩;apply cV _;refine bF (bW p p p (c5 p (Ia o fo ah aF _ _ am aH (bw av (l.take (n/2))) (bw av (l.drop (n/2))) _ (Rd.ap (bf.E (ck _) aL)) (bf.E (ck _) aM) (by grind[gV]) (by grind[gV]) aO aP (ov o _) (ov o _))) ?_);rintro _ _ ⟨ai,aq,rfl,aE,rfl⟩;apply cV _;apply aC _;rw[ax]at aE;rw[ax];apply bs _;exact ba (C:=E qe 3 ai (bw av l).length aq (J (bw av l))::j) p (.tmp p .nil) au ⟨ai,aq,rfl,aE,rfl⟩):aB:=h
def TU {H:Prop} (h:H:=by
  apply aD λ{g F}=>?_;refine GE (c5 p (T7 o fo n A n c l _ (Nat.le_refl _) cX E D)) ?_;rintro _ _ ⟨I,J,rfl,O,rfl⟩;apply ay _;apply cd _;exact ba rfl (.tmp p .nil) au ⟨I,J,rfl,O,rfl⟩):H:=h
def TV {H:Prop} (h:H:=by
  have h1:=C.len bL;apply aD λ{g F}=>?_;refine a6 (GG p p) ?_;apply cd _;refine eG p (λae=>?_) (λae=>?_)
  .have O:A=none:=bo;have an:n=0:=by
    rcases Nat.eq_zero_or_pos n with h|h
    .omega
    .obtain⟨b,o,O,_⟩:=C.at_ h;grind
   subst an;have:=List.eq_nil_of_length_eq_zero h1;subst this;apply aC _;apply cd _;refine ba rfl (.tmp p .nil) ?_ ⟨none,0,rfl,db,rfl⟩;exact λh s=>(E.c7 mW 3 h s).swap
  .apply bs _;apply jP;apply bP λW=>?_;refine GE (dH p p aN (bf.ap (bf.ap C)) ((e8 _)) bN bL aw aw) ?_;rintro _ _ ⟨I,J,rfl,Q,Z,U,rfl⟩;apply ay _;apply cc;rw[Nat.zero_add]at Q U;apply bs _;refine ba rfl (.tmp p .nil) ?_ ⟨I,J,by rw[h1];simp[cs],by simp_all,rfl⟩;rw[h1,Nat.zero_add,List.nil_append];apply cP (.ap (.here));apply cP (.here);exact a1):H:=h
def TW {H:Prop} (h:H:=by
  have W:(l.take D++[H]++l.drop D).length=n+1:=bv;refine cR λ{g F}=>?_;refine oL (λh s=>E.facts (s.tail)) ?_;rintro⟨a0,aM,aO,aP⟩;rcases aP with ⟨rfl,aQ,aR⟩|⟨b,rfl⟩
  .subst aQ aR;have aV:l=[]:=List.eq_nil_of_length_eq_zero h1;have aT:D=0:=ad;subst aV aT;refine aC ?_;refine a6 (wQ p (.inr ⟨_,_,rfl,rfl⟩) (.inl bD) (Nat.le_refl _) (Nat.le_refl _)) ?_;refine aC ?_;refine GE (dH p p aN gL (hA p) bN ao aw aw) ?_;rintro _ _ ⟨Z,ai,rfl,aS,aW,aA,rfl⟩;refine ay ?_;refine cd ?_;refine ba (C:=E mW 3 Z 1 ai (J [H])::I) p (.tmp p .nil) ?_ ⟨Z,ai,rfl,λ_=>aA ao,rfl⟩;exact au
  .have av:J (l.take D++[H]++l.drop D)=(J l).take (D*3)++[j H.id,j H.x,j H.y]++(J l).drop (D*3):=by
    have aH:=zw l D;have aI:=zu l D;rw[gS,gS,aH,aI];rfl
   have ar:(J l).length=n*3:=ad;have a3:c<=maxLen:=aO;have a4:c<=9223372036854775807:=fs;refine aC ?_;refine a6 (iW p p aw aw) ?_;refine aC ?_;refine cd ?_;refine c0 p (λaJ=>?_) (λaJ=>?_)
   .have aL:D=n:=ad;subst aL;refine aC ?_;refine GE (dH p p aN gL (hA p) bN ao aw aw) ?_;rintro _ _ ⟨Z,ai,rfl,aS,aW,aA,rfl⟩;refine ay ?_;refine cd ?_;refine ba (C:=E mW 3 Z (l.take D++[H]++l.drop D).length ai (J (l.take D++[H]++l.drop D))::I) p (.tmp p .nil) ?_ ⟨Z,ai,by rw[W];rfl,λ_=>aA ao,rfl⟩;rw[W,av,List.take_of_length_le ad,List.drop_of_length_le ad,List.append_nil];exact au
   .refine bs ?_;refine jP ?_;iterate 6 refine ay ?_
    refine cd ?_;refine c0 p (λaK=>?_) (λaK=>?_)
    .have aG:D+(n+1-D)=n+1:=ad;refine aC ?_;refine a6 (kH p p aw) ?_;iterate 5 refine ay ?_
     refine GE (Za p ao p p aN am ad ad ad ad) ?_;rintro _ _ ⟨aq,aF,O,rfl,aD,a7,a8,rfl⟩;refine ay ?_;refine cc ?_;have ax:min 1 (D+(n+1-D)-D)=1:=ad;have az:min (n-D) (D+(n+1-D)-(D+1))=n-D:=ad;have aB:∀Q,bf (E mW 3 (U b) n c (J l)::Q) 3 (some ⟨b,(if c=D then 0 else 0+D*3),none⟩) (n-D) (J (l.drop D)):=λQ=>Rd.drop (α:=aj) (bf.E ar (λ_=>⟨b,rfl⟩)) am aM;refine aC ?_;refine a6 (iW p p aw aw) ?_;refine ay ?_;refine GE (Cl (R:=D) p p aN gL (Iy (hA p) _) (λ_=>by grind) ad) ?_;rintro _ _ ⟨rfl,rfl⟩;refine cc ?_;rw[ax];refine ed (bE [0,1,2,3,4,5,6,7] (.e 8 .nil)) ?_;iterate 4 refine bu ?_
     refine eh p (iW p p aw aw) ?_;iterate 2 refine bu ?_
     refine eh p (iW p p aw aw) ?_;refine bF (hD cq p p p (Cl (R:=D+1) p p aN (bx aB) (Iy (e8 _) _) (λ_=>by grind) ad) ?_);rintro _ _ ⟨rfl,rfl⟩;rw[az];refine aC ?_;refine cd ?_;refine ba (C:=E mW 3 (U aq) (l.take D++[H]++l.drop D).length aF (J (l.take D++[H]++l.drop D))::I) p (.tmp p .nil) ?_ ⟨(U aq),aF,by rw[W,aG];rfl,λ_=>⟨aq,rfl⟩,rfl⟩;rw[W,av,aG,zu];have aE:=afb (J l) O [j H.id,j H.x,j H.y] D n ar aD p am;apply cP;exact aN;refine zi .here aE ?_;exact au
    .have ax:min 1 (n+1-D)=1:=ad;have az:min (n+1-D) (n+1-(D+1))=n-D:=ad;refine aC ?_;refine a6 (kH p p aw) ?_;refine ay ?_;refine cd ?_;refine bp (j:=E mW 3 (U b) n c (J l)::F::ah R mW [j H.id,j H.x,j H.y]::I) (cP (.ap .here) cf) ?_;refine qm (ι:=List Value) (F:=λO=>O.length=3) (D:=λO=>[E mW 3 (U b) (n+1) c (J l++O)]) (λh o=>?_) ?_
     .obtain⟨bc,a9,bb⟩:=o.more (k:=n+1) ao ad;grind[C.one]
     intro O aD;have aB:∀Q,bf (E mW 3 (U b) (n+1) c (J l++O)::Q) 3 (some ⟨b,(if c=D then 0 else 0+D*3),none⟩) (n+1-D) ((J l++O).drop (D*3)):=λQ=>bf.drop (bf.E bv (λ_=>⟨b,rfl⟩)) ad ad;have aY:∀aZ∈((J l++O).drop (D*3)).take (min (n+1-D) (n+1-(D+1))*3),aZ.oneCell'=true:=by
      grind[List.length_drop,e8,List.mem_of_mem_drop]
     refine aC ?_;refine a6 (iW p p aw aw) ?_;refine a6 (Z2 p p aN aN ad ao) ?_;refine aC ?_;refine ed (bE [0,1,2,3,4,5,6,7] (.e 8 .nil)) ?_;iterate 4 refine bu ?_
     refine eh p (iW p p aw aw) ?_;iterate 2 refine bu ?_
     refine eh p (iW p p aw aw) ?_;refine bF (hD cq p p p (Cl (R:=D+1) p p aN (bx aB) aY (λ_=>by grind) ad) ?_);rintro _ _ ⟨rfl,rfl⟩;rw[az];refine aC ?_;refine a6 (iW p p aw aw) ?_;refine ay ?_;refine GE (Cl (R:=D) p p aN gL (Iy (hA p) _) (λ_=>by grind) ad) ?_;rintro _ _ ⟨rfl,rfl⟩;refine cc ?_;rw[ax];refine aC ?_;refine cd ?_;refine ba (C:=E mW 3 (U b) (l.take D++[H]++l.drop D).length c (J (l.take D++[H]++l.drop D))::I) p (.tmp p .nil) ?_ ⟨(U b),c,by rw[W];rfl,λ_=>⟨b,rfl⟩,rfl⟩;rw[W,av];have aE:=afc (J l) O [j H.id,j H.x,j H.y] D n ar aD p am;apply cP;exact aN;refine zi .here aE ?_;exact au):H:=h
def TX {O:Prop} (h:O:=by
  have I:(l.take C++l.drop (C+1)).length=C+(n-(C+1)):=bv;have Z:J (l.take C++l.drop (C+1))=(J l).take (C*3)++J (l.drop (C+1)):=by
   have Q:=zw l C;rw[gS,Q];rfl
  have W:(J l).length=n*3:=by rw[ck,h1];rfl
  apply cR λ{g F}=>?_;apply oL (λh s=>E.facts (s.tail));rintro⟨ap,R,aq,ar⟩;have am:∀H,bf (E mW 3 _ n c _::H) 3 _ _ (J (l.drop (C+1))):=λH=>Rd.drop (bf.E W (λ_=>⟨b,rfl⟩)) ad R;apply aC _;refine a6 (GJ p p p p aw aw aw) ?_;apply aC _;apply cd _;refine e9 p (cw ad) ?_;apply aC _;apply cc;apply yv 1 (bE [0,1,2,3,4,5] (.e 6 (.q 7 .nil))) _;iterate 2 apply bu _
  refine eh p (kH p p aw) ?_;iterate 2 apply bu _
  refine eh p (iW p p aw aw) ?_;refine bF (py cq p p p (Y9 p p aN (bx am) (e8 _) ad ad) ?_);rintro _ _ ⟨rfl,rfl⟩;apply aC _;refine a6 (O0 p p p aw aw) ?_;refine GE (Og (W:=C+(n-(C+1))) p p p aN (λ_=>by grind) ao ad) ?_;rintro _ _ ⟨rfl,rfl⟩;apply aC _;apply cd _;refine ba (C:=E mW 3 (U b) (l.take C++l.drop (C+1)).length c (J (l.take C++l.drop (C+1)))::D) p (.tmp p .nil) ?_ ⟨(U b),c,by rw[I];rfl,λ_=>⟨b,rfl⟩,rfl⟩;rw[I,Z];exact au):O:=h
def TY {O:Prop} (h:O:=by
  apply aD λ{g F}=>?_;apply cc
  by_cases Q:D=0
  .subst Q;apply aC _;apply cd _;refine ba rfl (.tmp p .nil) ?_ ⟨none,0,rfl,rfl⟩;exact λh s=>(E.c7 mW 3 h s).swap
  .apply bs _;refine gJ p bv ?_;apply aC _;refine a6 (kH p p aw) ?_;apply ay _;refine GE (Zb p ao p p ad ad ad) ?_;rintro _ _ ⟨I,J,ai,rfl,ah,W,Z,rfl⟩;iterate 2 apply ay _
   refine a6 (kH p p aw) ?_;apply aC _;apply cd _;refine ba (C:=E mW 3 (U I) 0 J []::C) p (.tmp p .nil) ?_ ⟨(U I),J,rfl,rfl⟩;apply cP;exact aN;exact Cs .here (Nat.zero_le _) bN cf):O:=h
def TZ {J:Prop} (h:J:=by
  apply aD λ{g F}=>?_;apply bd λC=>?_;apply bP λD=>?_;apply cd _;exact ba rfl (.tmp p .nil) au ⟨C,D,rfl,rfl⟩):J:=h
section
attribute [local irreducible] C bh b6
abbrev mW:Nat:=42
def O.pre{P f args L M po_}(j:aS L M)(h:O P f args M po_):O P f args L po_:=
 λg F D C=>h g F D (C.mono λ_ s=>s.bl j)
def O.pick{C E args j M D H}(I:eH D j M)(h:O C E args (D::M) H):O C E args j H:=
 h.pre λ_ s=>s.perm I.perm
def Made(H:bq){α}[j:d3 α](l:List α)(C:Q)(v:a2)(D:Q):Prop:=∃A c,v=.slice A (aa l) c/\(0<aa l->∃b,A=(U b))/\D=E H j.eF A (aa l) c (J l)::C
def nT(A n c)(l:List aj)(j)(C:Rd j A n l)(R:n<=1000000):
  Y 314 #[.slice A n c] j λv D=>Made 42 l j v D:=TV
def afb(F D C:bz)(j n)(Q:aa F=n*3)(Y:aa D=(n+1-j)*3)(R:aa C=3)(W:j<=n):
  (((F.take (j*3)++D).take (j*3)++C++(F.take (j*3)++D).drop ((j+1)*3)).take ((j+1)*3)++(F.drop (j*3)).take ((n-j)*3)++((F.take (j*3)++D).take (j*3)++C++(F.take (j*3)++D).drop ((j+1)*3)).drop ((j+1+(n-j))*3))=F.take (j*3)++C++F.drop (j*3):=by
 have h1:aa (F.take (j*3))=j*3:=bo;have H:(F.take (j*3)++D).take (j*3)=F.take (j*3):=bo;have ae:aa (F.take (j*3)++C)=(j+1)*3:=bv;rw[H];generalize U:(F.take _++D).drop _=E;have an:aa E=(n-j)*3:=bv;have I:(F.take (j*3)++C++E).take ((j+1)*3)=F.take (j*3)++C:=bv;have J:(F.take (j*3)++C++E).drop ((j+1+(n-j))*3)=[]:=vw bv;have O:(F.drop _).take ((n-j)*3)=F.drop (j*3):=lR (by rw[List.length_drop];omega);simp_all
def afc(F C D:bz)(j n)(J:aa F=n*3)(U:aa C=3)(O:aa D=3)(Q:j<=n):
  (((F++C).take ((j+1)*3)++((F++C).drop (j*3)).take ((n-j)*3)++(F++C).drop ((j+1+(n-j))*3)).take (j*3)++D++((F++C).take ((j+1)*3)++((F++C).drop (j*3)).take ((n-j)*3)++(F++C).drop ((j+1+(n-j))*3)).drop ((j+1)*3))=F.take (j*3)++D++F.drop (j*3):=by
 have R:aa (F++C)=(n+1)*3:=bv;have H:(F++C).drop ((j+1+(n-j))*3)=[]:=vw ad;have I:aa ((F++C).take ((j+1)*3))=(j+1)*3:=bo;have E:((F++C).drop (j*3)).take ((n-j)*3)=F.drop (j*3):=by
  rw[List.drop_append_of_le_length ad,yk bv,lR bv]
 rw[H,E,dC,yk ad,List.take_take,Nat.min_eq_left ad,yk ad];simp_all
def qn(A n c R D l)(H:aj)(I)(h1:l.length=n)(aX:n<=1000000)(am:D<=n):
  Y 418 #[.slice A n c,j (D:Nat),.slice (U R) 1 1] (E 42 3 A n c (J l)::ah R 42 [j H.id,j H.x,j H.y]::I) λv Q=>Made 42 (l.take D++[H]++l.drop D) I v Q:=TW
def Bd(b n c C)(l:List aj)(D)(h1:l.length=n)(ai:n<=1000000)(ah:C<n):
  Y 589 #[.slice (U b) n c,j (C:Nat),j (C+1:Nat)] (E 42 3 (U b) n c (J l)::D) λv H=>Made 42 (l.take C++l.drop (C+1)) D v H:=TX
def Fo(D C)(R:D<=1000000):
  Y 420 #[.slice none 0 0,j (D:Nat)] C λv H=>∃A c,v=.slice A 0 c/\H=E 42 3 A 0 c []::C:=TY
def Vi(A H n D c O I)(l q:List aj)(Q)(aq:aa l=n)(av:aa q=D)(aT:n<=500000)(aR:D<=500000)(aE:0<n->∃b,A=(U b))(aF:0<D->∃b,H=(U b)):
  Y 367 #[.slice (U I) 2 2] (ah I 37 [.slice A n c,.slice H D O]::E 42 3 A n c (J l)::E 42 3 H D O (J q)::Q) λv aB=>Made 42 (l++q) Q v aB:=by
 have aG:aa (J l)=n*3:=by rw[ck,aq];rfl
 have aH:aa (J q)=D*3:=by rw[ck,av];rfl
 refine cR λ{g F}=>?_;have aO:a5 (ah I 37 [.slice A n c,.slice H D O]::E 42 3 A n c (J l)::E 42 3 H D O (J q)::Q) ⟨I,0+0*1,af⟩ _:=a5.ah p;have aQ:a5 (ah I 37 [.slice A n c,.slice H D O]::E 42 3 A n c (J l)::E 42 3 H D O (J q)::Q) ⟨I,0+1*1,af⟩ _:=a5.ah p;have aX:bf (ah I 37 [.slice A n c,.slice H D O]::E 42 3 A n c _::E 42 3 H D O (J q)::Q) 3 A n _:=bf.ap (bf.E aG aE);have aL:bf (ah I 37 [.slice A n c,.slice H D O]::E 42 3 A n c (J l)::E 42 3 H D O (J q)::Q) 3 H D (J q):=bf.ap (bf.ap (bf.E aH aF));have aI:aS (ah I 37 [.slice A n c,.slice H D O]::E 42 3 A n c (J l)::E 42 3 H D O (J q)::Q) Q:=kG (kG (kG cf));generalize(ah I 37 [.slice A n c,.slice H D O]::E 42 3 A n c (J l)::E 42 3 H D O (J q)::Q)=M at*
 apply aC _;apply cc;apply fV _;apply ef (ι:=Unit) (λ_=>[(0,.slice (U I) 2 2),(3,j (n+D:Nat))]) (λ_=>F::M) (λ_=>True) _ _
 .apply bs _;refine cL (ι:=Nat×Nat) (λC=>[(0,.slice (U I) 2 2),(3,j (C.2:Nat)),(9,.slice (U I) 2 2),(10,j 2),(11,j (C.1:Nat))]) (λ_=>F::M) (λC=>C=(0,0)\/C=(1,n)\/C=(2,n+D)) (λC=>2-C.1) (0,0) (.inl p) aZ a1 ?_;rintro C (rfl|rfl|rfl)
  .dsimp only;apply ak _;exact b7 (1,n) (.inr (.inl p)) ao ⟨rfl,by simp only[h3];rfl,rfl,rfl,rfl,trivial⟩ a1
  .dsimp only;apply ak _;exact b7 (2,n+D) (.inr (.inr p)) ao aZ a1
  .dsimp only;apply ak _;exact cC () trivial aZ a1
 .rintro _ _;apply aC _;refine aP (Fo (n+D) _ ad) ?_;rintro _ _ ⟨aA,aD,rfl,rfl⟩;apply aC _;apply cc;apply fV _;apply ef (ι:=Option cg×Nat) (λC=>[(6,.slice C.1 (aa (l++q)) C.2)]) (λC=>E 42 3 C.1 (aa (l++q)) C.2 (J (l++q))::F::M) (λC=>0<aa (l++q)->∃b,C.1=(U b)) _ _
  .apply bs _;refine cL (ι:=Nat×Option cg×Nat×List aj) (λC=>[(6,.slice C.2.1 C.2.2.2.length C.2.2.1),(25,.slice (U I) 2 2),(26,j 2),(27,j (C.1:Nat))]) (λC=>E 42 3 C.2.1 C.2.2.2.length C.2.2.1 (J C.2.2.2)::F::M)
    (λC=>(C.1=0/\C.2.2.2=[]\/C.1=1/\C.2.2.2=l\/C.1=2/\C.2.2.2=l++q)/\(0<C.1->0<C.2.2.2.length->∃b,C.2.1=(U b))) (λC=>2-C.1) (0,aA,aD,[]) ⟨.inl bD,db⟩ aZ a1 ?_
   rintro⟨aW,R,W,aM⟩ ⟨az,Z⟩;simp only at az Z;dsimp only;rcases az with ⟨rfl,rfl⟩|⟨rfl,rfl⟩|⟨rfl,rfl⟩
   .apply ak _;apply fz λai am aJ aK ar=>?_;exact b7 (1,ai,am,l) ⟨.inr (.inl bD),λ_ h=>ar bo⟩ ao ⟨by simp only[yf,h3,aq];rfl,rfl,rfl,rfl,trivial⟩ (by
     simp only[yf,h3,aq];exact a1)
   .apply bs _;apply jP;apply ay _;apply m3 _;apply bQ _;iterate 3 apply ay _
    apply cc;have aV:∀ax,bf (ax::F::M) 3 H D (J q):=λax=>bf.ap (bf.ap aL);apply aC _;apply fz λai am aJ aK ar=>?_;exact b7 (2,ai,am,aM++q) ⟨.inr (.inr bD),λ_ h=>ar bo⟩ ao ⟨by simp only[b4,av];rfl,rfl,rfl,rfl,trivial⟩ (by
     simp only[b4,av];apply zi .here _ cf;rw[gS])
   .apply ak _;exact cC (R,W) (Z ao) ⟨rfl,trivial⟩ a1
  .rintro⟨R,W⟩ Z;apply ak _;refine ba (C:=E 42 3 R (aa (l++q)) W (J (l++q))::Q) p ds ?_ ⟨R,W,rfl,Z,rfl⟩;exact cP (.ap .here) (k4 aI)
@[reducible] def aj.v (C:aj):Value:=.agg #[j C.id,j C.x,j C.y]
def Bx(H:bq){α}[j:d3 α](l:List α)(C:Q)(v:a2)(D:Q):Prop:=∃A c,v=.slice A (aa l) c/\(0<aa l->∃b,A=(U b))/\aa l<=c/\c<=maxLen/\D=E H j.eF A (aa l) c (J l)::C
def O.made{H J args D C I α}[ai:d3 α]{l:List α}(h:O H J args D λv j=>Made I l C v j):O H J args D λv j=>Bx I l C v j:=λg F ah Z=>
 (h g F ah Z).mono λam ap ⟨v,j,R,⟨A,c,U,W,Y⟩,Q⟩=>by
  subst Y;have q:=E.facts Q.s.tail;exact⟨v,_,R,⟨A,c,U,W,q.2.1,q.2.2.1,rfl⟩,Q⟩
def VU(H:dc)[cu ar H](J R:bz)(I:aj->Bool)(A:a3)(n c:Nat)(l:List aj)(D:Q)(W:Rd D A n l)(aE:n<=1000000)
  (av:∀a:aj,Y H (J++[a.v]++R).toArray D λv E=>v=.bool (I a)/\E=D):
  Y 368 #[.slice A n c,.func (.func H) J.toArray R.toArray] D λv E=>(∃ah:Int,v=j ah/\decide (0<=ah)=l.any I)/\E=D:=by
 have h1:=W.len bL;refine bt λ{g F}=>?_;refine cL (λC=>[(0,.slice A n c),(1,.func _ _ _),(7,.int _ _),(8,.int _ (C:Nat))]) (λ_=>F::D) (λC=>C<=n/\(l.take C).any I=al) (λC=>n-C) 0 ⟨bO _,by rfl⟩ aZ a1 ?_;rintro C ⟨aD,Z⟩;apply ak _;refine c0 p (λaq=>?_) (λaq=>?_)
 .obtain⟨aB,aF,rfl,az⟩:=W.at_ ad;have ap:l[C]?=ab l[C]:=b8 ad;have aA:=az _ _ ap;have aG:l.take (C+1)=l.take C++[l[C]]:=j4 ad;have ax:l[C] ∈l:=gG _;generalize l[C]=ai at*
  have aH:=aA;apply aC _;refine GE (f4 p p (O.frame [F] (av ai) cf)) ?_;rintro _ _ ⟨_,⟨rfl,rfl⟩,rfl⟩;apply ak _;refine eG p (λU=>?_) (λU=>?_)
  .apply eO _;exact⟨⟨C,rfl,by rw[cO ad];exact(List.any_eq_true.2 ⟨ai,ax,U⟩).symm⟩,rfl⟩
  .apply ak _;exact b7 (C+1) ⟨ad,by simp_all⟩ ad aZ a1
 .have am:C=n:=ad;subst am;rw[<- h1,List.take_length]at Z;apply dk _;exact⟨⟨-1,rfl,by rw[Z];rfl⟩,rfl⟩
def Vj(C:dc)[cu ar C](D E:bz)(H:aj->Bool)(A:a3)(n c:Nat)(l:List aj)(j:Q)(U:Rd j A n l)(W:n<=1000000)
  (J:∀a:aj,Y C (D++[a.v]++E).toArray j λv I=>v=.bool (H a)/\I=j):
  aY 318 #[.slice A n c,.func (.func C) D.toArray E.toArray] j (.bool (l.any H)) j:=by
 refine aD λ{g F}=>?_;apply aP (O.frame [F] (VU C D E H A n c l j U W J) cf) _;rintro _ _ ⟨_,⟨⟨Z,rfl,R⟩,rfl⟩,rfl⟩;apply dk _;exact⟨congrArg _ R,rfl⟩
def r7(R:dc)[cu ar R](U W:bz)(av:aj->Bool)(A:a3)(n c H:Nat)(l:List aj)(I:Q)(ai:Rd I A n l)(aP:n<=1000000)(aH:H<=n)(aJ:∀(aq:Nat)(a:aj),l[aq]?=ab a->(av a=ag<->H<=aq))
  (aG:∀a:aj,Y R (U++[a.v]++W).toArray I λv az=>v=.bool (av a)/\az=I):
  aY 465 #[.slice A n c,.func (.func R) U.toArray W.toArray] I (j (H:Nat)) I:=by
 have h1:=ai.len bL;refine bt λ{g F}=>?_;apply cL (λD=>[(0,.slice A n c),(1,.func _ _ _),(5,.int _ (D.1:Nat)),(6,j (D.2:Nat))]) (λ_=>F::I) (λD=>D.1<=H/\H<=D.2/\D.2<=n) (λD=>D.2-D.1) (0,n) ⟨bO _,aH,bC _⟩ aZ a1;rintro⟨C,E⟩ ⟨aB,aD,aE⟩;apply ak _;refine c0 p (λaF=>?_) (λaF=>?_)
 .obtain⟨aM,aQ,rfl,aL⟩:=ai.at_ ad;have aI:C+(E-C)/2<E:=ad;have Z:l[C+(E-C)/2]?=ab l[C+(E-C)/2]:=b8 ad;have ax:=aL _ _ Z;have ap:=aJ _ _ Z;generalize l[C+(E-C)/2]=aK at*
  apply aC _
  (first|refine a6 (l6 (q:=2) p p aw aw) ?_|refine a6 (jC p p aw aw aw) ?_)
  apply dl _;obtain⟨J,am⟩:∃J,C+(E-C)/2=J:=⟨_,rfl⟩;have aO:C<=J:=ad;rw[am]at aI ax ap;rw[am];have aR:=ax;apply aC _;refine GE (f4 p p (O.frame [F] (aG aK) cf)) ?_;rintro _ _ ⟨_,⟨rfl,rfl⟩,rfl⟩;apply ak _;refine eG p (λah=>?_) (λah=>?_)
  .have:=ap.1 ah;apply ak _;exact b7 (C,J) ⟨aB,this,ad⟩ ad aZ a1
  .have: ¬H<=J:=λh=>by simp_all
   apply ak _;exact b7 (J+1,E) ⟨ad,aD,aE⟩ ad aZ a1
 .have aA:C=H:=ad;subst aA;exact fG
def yV(a v:aj)(D E C)(Q:aU C D 0 3 [j v.id,j v.x,j v.y])(R:a5 C ⟨E,0,af⟩ (.func (.func 311) #[] #[])):
  Y 466 #[a.v,I E,I D] C λJ H=>J=.bool (v.less a)/\H=C:=by
 refine aD ?_;refine bP λO=>?_;refine GE (f4 p p (rM v a _)) ?_;rintro _ _ ⟨rfl,rfl⟩;exact fG
def rq(A n c l v C)(I:Rd C A n l)(J:n<=1000000)(O:d9 l):
  Y 419 #[.slice A n c,v.v,.func (.func 311) #[] #[]] C λQ D=>Q=j (lf v l:Nat)/\D=C:=by
 have h1:=I.len bL;have R:=DW v l;refine aD ?_;refine bd λE=>?_;apply bP λH=>?_;refine a9 (r7 _ [] _ _ A n c _ l _ cX J ad (IQ v l O) (λa=>yV a v E H _ cA ec)) ?_;exact c8
def BC(A n c l v H)(W:Rd H A n l)(am:n<=100000)(R:d9 l):
  Y 366 #[.slice A n c,v.v,.func (.func 311) #[] #[]] H λah U=>Made 42 (eR v l) H ah U:=by
 have h1:=W.len bL;have J:=DW v l;rw[SI];refine aD ?_;refine bg λai=>?_;apply fK (bE [0,2,3,4,6] (.iw 1 (.iw 5 (.e 7 (.e 8 (.q 9 .nil))) 7 (.e 5 (.e 8 (.q 9 .nil)))) 7 (.e 1 (.e 5 (.e 8 (.q 9 .nil)))))) _;refine jt ?x22_0 ?x22_1
 case' x22_1=>
  refine bW p p p (gR bN p p) ?_;rintro _ _ ⟨j,rfl,rfl⟩;apply bX _;refine dV (nT A n c l _ cX ad) ?_;rintro _ _ ⟨C,D,rfl,Z,rfl⟩;apply bX _;refine bF (bW p p p (c5 p (rq A n c l v _ cX ad R)) ?_);rintro _ _ ⟨rfl,rfl⟩;apply bX _;refine dV (O.pick aN (O.pre (cP (.ap .here) cf) (qn C _ D j (lf v l) l v _ p ad J))) ?_;rintro _ _ ⟨E,I,rfl,Q,rfl⟩;apply bX _;apply ak _
 case' x22_0=>
  refine bW p p p (c5 p (nT A n c l _ cX ad)) ?_;rintro _ _ ⟨C,D,rfl,Z,rfl⟩;apply bX _;refine jt ?x23_0 ?x23_1
  case' x23_1=>
   refine bW p p p (gR bN p p) ?_;rintro _ _ ⟨j,rfl,rfl⟩;apply bX _;refine bF (bW p p p (c5 p (rq A n c l v _ cX ad R)) ?_);rintro _ _ ⟨rfl,rfl⟩;apply bX _;refine dV (O.pick aN (O.pre (cP (.ap .here) cf) (qn C _ D j (lf v l) l v _ p ad J))) ?_;rintro _ _ ⟨E,I,rfl,Q,rfl⟩;apply bX _;apply ak _
  case' x23_0=>
   refine bW p p p (c5 p (rq A n c l v _ cX ad R)) ?_;rintro _ _ ⟨rfl,rfl⟩;apply bX _;refine bF (bW p p p (gR bN p p) ?_);rintro _ _ ⟨j,rfl,rfl⟩;refine bX ?_;refine dV (O.pick aN (O.pre (cP (.ap .here) cf) (qn C _ D j (lf v l) l v _ p ad J))) ?_;rintro _ _ ⟨E,I,rfl,Q,rfl⟩;refine bX ?_;apply ak _
 all_goals
  apply ak _;exact aR ⟨E,I,rfl,Q,rfl⟩
end
def l7(n:Int):Bool:=decide (1<=n)&&decide (n<=2147483647)
def fe(j:aj):Bool:=l7 j.id&&(ew j.x&&ew j.y)
def jD(C:Int)(l:List aj)(j:aj):Int:=if fe j=al then 1 else if j∈l then 5 else if C<=aa l then 4 else 0
def qB(l:List aj)(j:aj):Int:=if j∈l then 0 else 6
def JO{l j}(h:l.Perm j):b5 l=b5 j:=by rw[<- To l l (.refl _),To l j h]
theorem a5.of{A N j a v}(D:∀h,A h->C N h)(l:a5 N a v):a5 (A::j) a v:=⟨λh s=>by
 obtain⟨h1,ae,d,E,I,H,J⟩:=s;exact iR.sub (l.1 _ (D _ H)) E⟩
def zJ(n C):aY 540 #[j n] C (.bool (l7 n)) C:=by
 have D:=pw;refine cR ?_;repeat' first|refine aF ?_|refine bd λ_=>?_|refine aM (λ_=>?_) (λ_=>?_)|fail
 all_goals first|contradiction|(refine dk ?_;exact⟨by simp_all[cs,l7]<;>(omega),rfl⟩)
def HI(j:aj)(C):aY 541 #[j.v] C (.bool (ew j.x&&ew j.y)) C:=by
 have D:=pw;refine cR ?_;repeat' first|refine aF ?_|refine bd λ_=>?_|refine aM (λ_=>?_) (λ_=>?_)|fail
 all_goals first|contradiction|(refine dk ?_;exact⟨by simp_all[cs],rfl⟩)
def yA(j C):aY 490 #[j.v] C (.bool (fe j)) C:=by
 have D:=zJ;have E:=HI j;refine cR ?_;repeat' first|refine aF ?_|refine bd λ_=>?_|refine aM (λ_=>?_) (λ_=>?_)|fail
 all_goals first|contradiction|(refine dk ?_;exact⟨by simp_all[cs,fe],rfl⟩)
def WG(n C):aY 65 #[j n] C (.bool (l7 n)) C:=by
 have D:=Fc;refine cR ?_;repeat' first|refine aF ?_|refine bd λ_=>?_|refine aM (λ_=>?_) (λ_=>?_)|fail
 all_goals first|contradiction|(refine dk ?_;exact⟨by simp_all[cs,l7]<;>(omega),rfl⟩)
def WH(j:aj)(C):aY 66 #[j.v] C (.bool (ew j.x&&ew j.y)) C:=by
 have D:=Fc;refine cR ?_;repeat' first|refine aF ?_|refine bd λ_=>?_|refine aM (λ_=>?_) (λ_=>?_)|fail
 all_goals first|contradiction|(refine dk ?_;exact⟨by simp_all[cs],rfl⟩)
def qI(C:Int)(l:List aj)(j:aj):List aj:=if jD C l j=0 then l++[j]else l
section
attribute [local irreducible] C bh b6
abbrev qe:Nat:=42
structure m7 (D:dc) (E:aj->aj->Bool):Prop where
 o1:∀(C q:aj) (j:Q),aY D #[C.v,q.v] j (.bool (E C q)) j
def nn{b n c i D l}{x:aj}(H:l.length=n)(h:l[i]?=some x)(C):aU (E D 3 (U b) n c (J l)::C) b (0+i*3) 3 [j x.id,j x.x,j x.y]:=TQ
def NA{A R}{x p:aj}{k}(j:k=aa A+1):((A++p::x::R).set k p).set (k-1) x=A++x::p::R/\(A++p::x::R)[k]?=ab x/\(A++p::x::R)[k-1]?=ab p:=by simp_all
theorem Jl(l C)(a:aj)(D:C<aa l):eS (J l) (0+C*3) [j a.id,j a.x,j a.y]=J (l.set C a):=by rw[h3];exact Pn l C a D
section
variable{f:dc}[cu ar f]{av:aj->aj->Bool}(o:fl av)(fo:m7 f av)
include o fo
theorem F4(A:a3)(n c:Nat)(l:List aj)(Z:Q)(aK:Rd Z A n l)(aO:n<=1000000):
  Y 596 #[.slice A n c,.func (.func f) #[] #[]] Z λv aE=>Made 42 (bw av l) Z v aE:=TR
theorem Ia(A ah:a3)(n W c ai:Nat)(l q:List aj)(H:Q)(aS:Rd H A n l)(aV:Rd H ah W q)(bB:n<=1000000)(bx:W<=1000000)(bo:n<=c)(bt:W<=ai)(a9:gM av l)(bb:gM av q):
  Y 570 #[.slice A n c,.slice ah W ai,.func (.func f) #[] #[]] H λv aL=>Made 42 (bw av (l++q)) H v aL:=TS
theorem Wq(A D:a3)(n j c E:Nat)(l q:List aj)(C:Q)(am:Rd C A n l)(ap:Rd C D j q)(Z:n<=1000000)(W:j<=1000000)(R:n<=c)(U:j<=E)(ah:gM av l)(ai:gM av q):
  Y 544 #[.slice A n c,.slice D j E,.func (.func f) #[] #[]] C λv I=>Made 42 (bw av (l++q)) C v I:=by
 refine aD ?_;refine aP (Ia o fo A D n j c E l q _ cX cX Z W R U ah ai) ?_;rintro _ _ ⟨H,J,rfl,O,rfl⟩;apply ak _;exact aR ⟨H,J,rfl,O,rfl⟩
theorem T7:∀(C:Nat)(A:a3)(n c:Nat)(l:List aj)(j:Q)(_:n<=C)(_:Rd j A n l)(_:n<=1000000)(_:n<=c),
  Y 586 #[.slice A n c,.func (.func f) #[] #[]] j λv U=>Made 42 (bw av l) j v U:=TT
theorem tZ(A:a3)(n c:Nat)(l:List aj)(j:Q)(R:Rd j A n l)(E:n<=1000000)(D:n<=c):
  Y 572 #[.slice A n c,.func (.func f) #[] #[]] j λv C=>Made 42 (bw av l) j v C:=TU
end
end
def En(A n c C H)(Q:0<n->∃b,A=(U b))(I:aa C=n)(Z:n<=1000000000):
  aY 264 #[.slice A n c] (E 3 1 A n c (J C)::H) (.tuple #[]) (E 3 1 A n c (J (b5 C))::H):=by
 rcases hh n with D|D
 .subst D;have ah:=gX I;intro g F j O;refine(Tryz.slices_Sort_int_none A c j).mono λY ai ⟨h1,ae⟩=>?_;exact⟨_,_,h1,bD,by simp_all[b5]⟩
 .intro g F j O;obtain⟨b,rfl⟩:=Q D;exact agY b n c C H I D (λj R W=>Tryz.slices_Sort_int b 0 c C j R W ad) g F j O
section
attribute [local irreducible] C bh b6
abbrev ai8:Nat:=37
def ahT{l:List aj}{j C}(h:l[j]?=ab C):l.take (j+1)=l.take j++[C]:=by simp_all[List.take_add_one]
variable{av:aj->aj->Bool}
def HW(v j l):el av v (l++[j])=el av v l++if av j v=ag then[j]else[]:=by simp[el,tM]
def HK(v j)(l:List aj):eL v (l++[j])=eL v l++if j=v then[j]else[]:=by simp[eL,tM]
def G6(v j l):fp av v (l++[j])=fp av v l++if av v j=ag then[j]else[]:=by simp[fp,tM]
structure m8 where
 ln:Option cg
 c1:Nat
 nR:Option cg
 c2:Nat
 lp:Option cg
 lx:Nat
structure m8.Ok (s:m8) (j C D:Nat):Prop where
 h1:0<j->∃b,s.ln=(U b)
 ae:0<C->∃b,s.nR=(U b)
 an:0<D->∃b,s.lp=(U b)
 uD:j<=s.c1
 xa:C<=s.c2
 uE:D<=s.lx
section
variable{f:dc}[cu ar f]{av:aj->aj->Bool}(dw:fl av)(fo:m7 f av)
include dw
theorem aiq(j v):av j v=ag\/j=v\/av v j=ag:=by
 by_cases h:av j v=ag
 .simp_all
 .by_cases C:j=v
  .simp_all
  .exact .inr (.inr (dw.hY C bo))
include fo
theorem IH(A:a3)(n c:Nat)(l:List aj)(v:aj)(ai:Q)(aB:Rd ai A n l)(bo:n<=1000000):
  Y 595 #[.slice A n c,v.v,.func (.func f) #[] #[]] ai λa4 aI=>∃s:m8,a4=.tuple #[.slice s.ln (aa (el av v l)) s.c1,.slice s.nR (aa (eL v l)) s.c2,.slice s.lp (aa (fp av v l)) s.lx]/\s.Ok (aa (el av v l)) (aa (eL v l)) (aa (fp av v l))/\
   aI=E 42 3 s.ln (aa (el av v l)) s.c1 (J (el av v l))::E 42 3 s.nR (aa (eL v l)) s.c2 (J (eL v l))::E 42 3 s.lp (aa (fp av v l)) s.lx (J (fp av v l))::ai:=by
 have h1:aa l=n:=aB.len bL;refine aD λ{g F}=>?_;apply bg λap=>?_;apply bp (E.c7 42 3);apply bp (E.c7 42 3);apply bp (E.c7 42 3);refine cL (ι:=Nat×m8) (λD=>[(4,I ap),(2,.func (.func f) #[] #[]),(6,.slice D.2.ln (aa (el av v (l.take D.1))) D.2.c1),(7,.slice D.2.nR (aa (eL v (l.take D.1))) D.2.c2),(8,.slice D.2.lp (aa (fp av v (l.take D.1))) D.2.lx),(11,.slice A n c),(12,j (n:Nat)),(13,j (D.1:Nat))])
  (λD=>E 42 3 D.2.ln (aa (el av v (l.take D.1))) D.2.c1 (J (el av v (l.take D.1)))::E 42 3 D.2.nR (aa (eL v (l.take D.1))) D.2.c2 (J (eL v (l.take D.1)))::E 42 3 D.2.lp (aa (fp av v (l.take D.1))) D.2.lx (J (fp av v (l.take D.1)))::ah ap 42 [j v.id,j v.x,j v.y]::F::ai)
  (λD=>D.1<=n/\D.2.Ok (aa (el av v (l.take D.1))) (aa (eL v (l.take D.1))) (aa (fp av v (l.take D.1)))) (λD=>n-D.1) (0,⟨af,0,af,0,af,0⟩) ⟨bO _,⟨db,db,db,bC _,bC _,bC _⟩⟩ aZ (by show ∀h,_->C (E 42 3 af 0 0 []::E 42 3 af 0 0 []::E 42 3 af 0 0 []::ah ap 42 [j v.id,j v.x,j v.y]::F::ai) h;exact a1) ?_
 rintro⟨R,s⟩ ⟨aQ,O⟩;simp only at aQ O;dsimp only;have a9:aa (el av v (l.take R))<=1000000:=hj (kj _ _) bv;have be:aa (eL v (l.take R))<=1000000:=hj (kj _ _) bv;have bi:aa (fp av v (l.take R))<=1000000:=hj (kj _ _) bv;apply ak _;refine c0 p (λaF=>?_) (λaF=>?_)
 .obtain⟨aJ,aK,rfl,aL⟩:=aB.at_ ad;have aA:l[R]?=ab l[R]:=b8 ad;have a7:=aL _ _ aA;have a0:=ahT aA;generalize l[R]=H at*
  have br:aU ai aJ (aK+R*3) 3 [j H.id,j H.x,j H.y]:=a7;have U:=HW (av:=av) v H (l.take R);have W:=HK v H (l.take R);have Z:=G6 (av:=av) v H (l.take R);rw[<- a0]at U W Z;apply aC _;apply bP λbb=>?_;refine GE (f4 p p (fo.o1 H v _)) ?_;rintro _ _ ⟨rfl,rfl⟩;apply ak _;rcases aiq dw H v with q|q|q
  .have am:av H v=ag:=q;have ax:av v H=al:=dw.asym q;have az:H≠v:=λaq=>by simp_all
   rw[am,bJ p]at U;rw[a8 az,dC]at W;rw[ax,a8 ao,dC]at Z;apply aC _;apply bd λbh=>?_;apply fz λaG aO aT bm aX=>?_;exact b7 (R+1,{s with ln:=aG,c1:=aO}) ⟨ad,by
    simp only;rw[U,W,Z,b4];exact⟨λ_=>aX ao,O.ae,O.an,aT,O.xa,O.uE⟩⟩ ad ⟨rfl,rfl,by simp only;rw[U,b4];rfl,by simp only;rw[W];rfl,by simp only;rw[Z];rfl,rfl,rfl,rfl,trivial⟩ (by
    simp only;rw[U,W,Z,b4,<- gi];exact au)
  .subst q;have am:av H H=al:=dw.jE H;rw[am,a8 ao,dC]at U;rw[bJ p]at W;rw[am,a8 ao,dC]at Z;apply aC _;refine GE (f4 p p (fo.o1 H H _)) ?_;rintro _ _ ⟨rfl,rfl⟩;apply aC _;apply bd λbc=>?_;apply fz λaE aM aS bl aW=>?_;exact b7 (R+1,{s with nR:=aE,c2:=aM}) ⟨ad,by
    simp only;rw[U,W,Z,b4];exact⟨O.h1,λ_=>aW ao,O.an,O.uD,aS,O.uE⟩⟩ ad ⟨rfl,rfl,by simp only;rw[U];rfl,by simp only;rw[W,b4];rfl,by simp only;rw[Z];rfl,rfl,rfl,rfl,trivial⟩ (by
    simp only;rw[U,W,Z,b4,<- gi];exact au)
  .have am:av H v=al:=dw.asym q;have ax:av v H=ag:=q;have az:H≠v:=λaq=>by simp_all
   rw[am,a8 ao,dC]at U;rw[a8 az,dC]at W;rw[ax,bJ p]at Z;apply aC _;refine GE (f4 p p (fo.o1 v H _)) ?_;rintro _ _ ⟨rfl,rfl⟩;apply aC _;apply bd λbj=>?_;apply fz λaH aP aV bn aY=>?_;exact b7 (R+1,{s with lp:=aH,lx:=aP}) ⟨ad,by
    simp only;rw[U,W,Z,b4];exact⟨O.h1,O.ae,λ_=>aY ao,O.uD,O.xa,aV⟩⟩ ad ⟨rfl,rfl,by simp only;rw[U];rfl,by simp only;rw[W];rfl,by simp only;rw[Z,b4];rfl,rfl,rfl,rfl,trivial⟩ (by
    simp only;rw[U,W,Z,b4,<- gi];exact au)
 .have aq:l.take R=l:=lR ad;rw[aq]at O ⊢;apply ak _;exact aR ⟨s,rfl,O,rfl⟩
end
def Fa(A n c E):Y 609 #[.slice A n c,j 5] E λv H=>∃C D,v=.func (.func 611) #[] #[I C,I D]/\H=ah C 37 [.slice A n c]::ah D 3 [j 5]::E:=TZ
def Ge{S:Type}(y Q R b o n c)(aD:List aj)(J:Nat->S->List aG)(Inv:Nat->S->Prop)(aH:∀C s,Inv C s->Rd (J C s) (ab ⟨b,o,af⟩) n aD)(aJ:n<=1000000)(aI:n<=c)
  (aB:∀C s,5*C<n->Inv C s->iP ar y [.slice (ab ⟨b,o+5*C*3,af⟩) (min 5 (n-5*C)) (min 5 (n-5*C))] (J C s) λq U=>q=ag/\∃O,Inv (C+1) O/\U=J (C+1) O) (Z) (aq:Inv 0 Z):
  Y 611 #[Value.func (.yield y) #[] #[],I Q,I R] (ah Q 37 [.slice (ab ⟨b,o,af⟩) n c]::ah R 3 [j 5]::J 0 Z) λv U=>v=.tuple #[]/\∃C O,n<=5*C/\5*C<n+5/\Inv C O/\U=ah Q 37 [.slice (ab ⟨b,o,af⟩) n c]::ah R 3 [j 5]::J C O:=by
 refine bt λ{g F}=>?_;refine cL (λE=>[(0,Value.func _ _ _),(1,.pointer _),(2,.pointer _),(4,.int _ ((5*E.1:Nat):Int))]) (λE=>F::ah Q 37 _::ah R 3 [j 5]::J E.1 E.2) (λE=>5*E.1<n+5/\Inv E.1 E.2) (λE=>n+5-5*E.1) (0,Z) ⟨ao,aq⟩ aZ a1 ?_;rintro⟨C,s⟩ ⟨ai,am⟩;apply ak _;refine c0 p (λaF=>?_) (λaF=>?_)
 .have W:=aB C s ad am;obtain⟨D,ap⟩:∃D,D=5*C:=⟨_,rfl⟩;obtain⟨H,ax⟩:∃H,H=min 5 (n-D):=⟨_,rfl⟩;have az:(min (5:Int) ((n-D:Nat):Int))=(H:Int):=ad;rw[<- ap]at W aF ai ⊢;rw[<- ax]at W;apply ak _;refine eh p (iW p p ad ad) ?_;apply dl _;rw[az];apply aC _;refine a6 (GJ (l:=D) (h:=D+H) (j:=D+H) p p p p ao ao ad) ?_;rw[show D+H-D=H by simp,a8 (show ¬D+H=D by omega)];refine vN p p p (iP.frame [F,ah Q 37 [.slice (ab ⟨b,o,af⟩) n c],ah R 3 [j 5]] W cT) ?_;rintro q U ⟨aE,⟨rfl,O,aA,rfl⟩,rfl⟩;refine a6 (gz p) ?_;apply ak _;exact b7 (C+1,O) ⟨ad,aA⟩ ad ⟨rfl,rfl,rfl,by rw[ap];rfl,trivial⟩ a1
 .exact bs (er (D:=[]) (j:=[]) (C:=ah Q 37 [.slice (ab ⟨b,o,af⟩) n c]::ah R 3 [j 5]::J C s) p .nil a1 ⟨rfl,C,s,ad,ai,am,rfl⟩)
section
variable{f:dc}[cu ar f]{av:aj->aj->Bool}(dw:fl av)(fo:m7 f av)
include dw fo
theorem adw(A:a3)(n c:Nat)(l:List aj)(W:Q)(aE:Rd W A n l)(a7:0<n)(bn:n<=1000000)(aR:n<=c):
  Y 607 #[.slice A n c,.func (.func f) #[] #[]] W λbE ax=>∃C:List aj,((∀H∈C,H∈l)/\5*aa C<n+5/\n<=5*aa C)/\Bx 42 C W bE ax:=by
 have h1:=aE.len bL;obtain⟨b,o,rfl,_⟩:=aE.at_ a7;refine vI Tryz.func607 p p p ?_;intro g F aT;apply bQ _;apply bP λaD=>?_;apply bP λaz=>?_;apply aP (Fa _ n c _) _;rintro _ _ ⟨aY,a0,rfl,rfl⟩;apply ak _;apply bp (E.c7 42 3);refine yw (U:=λbB aH=>bB=af/\∃s:Option _×Nat×List aj,((∀H∈s.2.2,H∈l)/\5*s.2.2.length<n+5/\n<=5*s.2.2.length)/\((0<s.2.2.length->∃b,s.1=(U b))/\s.2.2.length<=s.2.1/\s.2.1<=maxLen)/\aH=E 42 3 s.1 s.2.2.length s.2.1 (J s.2.2)::ah az 37 [.slice s.1 s.2.2.length s.2.1]::F::W) (by rw[<- aT];rfl) p p ?_ ?_ ?_
 .intro y aA aX bb;have bt:=Ge y aY a0 b o n c l
   (λaB s=>bR y (aX .ready af)::bR aA (.deferred (ab []))::E 42 3 s.1 s.2.2.length s.2.1 (J s.2.2)::ah az 37 [.slice s.1 s.2.2.length s.2.1]::ah aD 406 [.func (.func f) #[] #[]]::F::W)
   (λaB s=>s.2.2.length=aB/\(∀H∈s.2.2,H∈l)/\(0<s.2.2.length->∃b,s.1=(U b))/\s.2.2.length<=s.2.1/\s.2.1<=maxLen)
   (λaB s _=>aE.ap.ap.ap.ap.ap.ap) bn aR ?_ (af,0,[]) ⟨rfl,ao,db,bC _,bO _⟩
  .apply(O.pre au bt).cr;rintro v ax aJ ⟨rfl,aB,s,bT,bU,⟨bK,bo,br⟩,rfl⟩ bM;refine⟨_,⟨.ready,af,_,ao,⟨rfl,s,⟨bo,ad,ad⟩,br,rfl⟩,rfl⟩,?_⟩;revert aJ;exact au
  .rintro aB ⟨aq,am,C⟩ bi ⟨aL,aF,aM,bz,bA⟩;simp at aL aF aM bz bA;obtain⟨Z,bh⟩:∃Z,Z=5*aB:=⟨_,rfl⟩;obtain⟨D,aJ⟩:∃D,D=min 5 (n-Z):=⟨_,rfl⟩;rw[<- bh]at bi ⊢;rw[<- aJ];have aS:=aE.drop (k:=Z) (c:=c) ad aR;rw[a8 ad]at aS;have bc:Rd W (ab ⟨b,o+Z*3,af⟩) D ((l.drop Z).take D):=by
    have a9:=aS.take (k:=D) ad;exact a9
   have be:=bc.len bL;have bg:∀H∈(l.drop Z).take D,H∈l:=λH aK=>List.mem_of_mem_drop (List.mem_of_mem_take aK);generalize(l.drop Z).take D=ai at*
   apply bb (ι:=Unit) (τ:=λ_=>[(3,I aD),(5,I az),(6,.slice (ab ⟨b,o+Z*3,af⟩) D D)]) (M:=λ_=>bR aA (.deferred (ab []))::E 42 3 aq (aa C) am (J C)::ah az 37 [.slice aq (aa C) am]::ah aD 406 [.func (.func f) #[] #[]]::F::W) (Fy:=λ_=>True) _ _
   .intro g aW _ _;apply aC _;exact vR () trivial aZ a1
   .intro g aW _ _ _ _;have aV:aa (bw av ai)=D:=by rw[gV,be]
    have aK:(bw av ai)[D/2]?=ab (bw av ai)[D/2]:=b8 ad;have bS:(bw av ai)[D/2] ∈l:=bg _ ((f8 ai).subset (gG _));generalize(bw av ai)[D/2]=H at*
    apply aC _;refine aP ((tZ dw fo (ab ⟨b,o+Z*3,af⟩) D D ai _ cX ad (bC _))) ?_;rintro _ _ ⟨R,a4,rfl,aQ,rfl⟩;apply aC _;rw[aV]at aQ ⊢;obtain⟨aO,rfl⟩:=aQ ad;have bj:∀ax,aU (E 42 3 (U aO) D a4 (J (bw av ai))::ax) aO (0+(D/2)*3) 3 [j H.id,j H.x,j H.y]:=λax=>nn aV aK ax;generalize bw av ai=bV at*
    apply ak _;refine qq ki p p p p (fC p ec) ?_;refine mC ki p p p p (l5 p) ?_;refine mC ki p p p p (l5 p) ?_;refine qq ki p p p p (zp p) ?_
    (first|refine mC ki p p p p (l6 (q:=2) p p aw aw) ?_|refine mC ki p p p p (jC p p aw aw aw) ?_)
    (first|refine mC ki p p p p (iV p p aw) ?_|refine mC ki p p p p (CC p p aw aw) ?_)
    refine qq ki p p p p (gh p (bx bj)) ?_;apply h5 λbH=>?_;apply nH λaG aI bI bl bJ=>?_;exact vQ (bR aA (.deferred (ab []))::E 42 3 aG (aa (C++[H])) aI (J (C++[H]))::ah az 37 [.slice aG (aa (C++[H])) aI]::ah aD 406 [.func (.func f) #[] #[]]::F::W) ⟨rfl,(aG,aI,C++[H]),⟨by simp_all,λbG bv=>(b9.1 bv).elim (aF bG) (λh=>by simp_all),by simp_all,by simp_all,bl⟩,rfl⟩ (by
     rw[b4,<- gi];exact au)
 .rintro aA aH ⟨-,⟨aq,am,C⟩,bm,⟨aL,aF,aM⟩,rfl⟩;apply gD _;exact vP [aA] rfl (by rw[<- aT];rfl) p ds (M:=E 42 3 aq (aa C) am (J C)::ah az 37 [.slice aq (aa C) am]::F::W) (j:=E 42 3 aq (aa C) am (J C)::W) au au ⟨C,bm,aq,am,rfl,aL,aF,aM,rfl⟩
 .rintro aA am aH ⟨h,_⟩;cases h
theorem adV:∀(ax:Nat)(A:a3)(n c:Nat)(l:List aj)(D:Nat)(v:aj)(R:Q)(_:n<=ax)(_:Rd R A n l)(_:n<=1000000)(_:n<=c) (_:(bw av l)[D]?=ab v),
  Y 603 #[.slice A n c,j (D:Nat),.func (.func f) #[] #[]] R λbn am=>bn=v.v/\am=R:=by
 intro ax
 induction ax using Nat.strongRecOn with
 | _ ax bg=>
 intro A n c l D v R br aE bt aV aI;have h1:aa l=n:=aE.len bL;refine aD λ{g F}=>?_;apply bd λaz=>?_;apply cc;apply fV _;apply ef (ι:=Option cg×Nat×List aj×Nat×List aG) (λC=>[(0,.slice C.1 C.2.2.1.length C.2.1),(1,j (C.2.2.2.1:Nat)),(2,.func (.func f) #[] #[]),(6,I az)]) (λC=>ah az 42 [j 0,j 0,j 0]::(C.2.2.2.2++F::R)) (λC=>Rd (C.2.2.2.2++F::R) C.1 C.2.2.1.length C.2.2.1/\C.2.2.1.length<=C.2.1/\C.2.2.1.length<=n/\(bw av C.2.2.1)[C.2.2.2.1]?=ab v) _ _
 .apply bs _;refine cL (ι:=Option cg×Nat×List aj×Nat×List aG) (λC=>[(0,.slice C.1 C.2.2.1.length C.2.1),(1,j (C.2.2.2.1:Nat)),(2,.func (.func f) #[] #[]),(6,I az)]) (λC=>ah az 42 [j 0,j 0,j 0]::(C.2.2.2.2++F::R)) (λC=>Rd (C.2.2.2.2++F::R) C.1 C.2.2.1.length C.2.2.1/\C.2.2.1.length<=C.2.1/\C.2.2.1.length<=n/\(bw av C.2.2.1)[C.2.2.2.1]?=ab v) (λC=>C.2.2.1.length) (A,c,l,D,[]) ⟨by simp only[oG];rw[h1];exact aE.ap,by simp only;omega,by simp only;omega,aI⟩ ⟨by simp only;rw[h1];rfl,rfl,rfl,rfl,trivial⟩ a1 ?_;rintro⟨A,c,l,D,aQ⟩ ⟨aA,W,aB,H⟩;simp only at aA W aB H;dsimp only;clear aE aV aI h1;have a4:D<aa l:=by
   rcases dZ D (aa l)with h|h
   .exact h
   .rw[mw (by rw[gV];exact h)]at H;cases H
  apply gD _;refine c0 p (λaF=>?_) (λaF=>?_)
  .apply ak _;refine aP (adw dw fo A (aa l) c l _ cX ad ad W) ?_;rintro _ _ ⟨O,⟨bh,bA,bB⟩,aO,aR,rfl,bc,be,bz,rfl⟩;apply aC _;have aW:aa O/2<aa O:=ad;have aJ:(bw av O)[aa O/2]?=ab ((bw av O)[aa O/2]'(by rw[gV];exact aW)):=b8 _;generalize(bw av O)[aa O/2]'(by rw[gV];exact aW)=C at aJ;have a9:C∈l:=bh C (z3 aJ);have bE:=xB dw C l;have aL:=Di a9;apply aC _
   (first|refine a6 (l6 (q:=2) p p aw aw) ?_|refine a6 (jC p p aw aw aw) ?_)
   apply ay _;refine dQ (bg (aa O) ad aO (aa O) aR O (aa O/2) C _ (bC _) (bf.E (ck _) bc) ad be aJ) ?_;refine aP (IH dw fo A (aa l) c l C _ cX ad) ?_;rintro _ _ ⟨s,rfl,aq,rfl⟩;apply dl _;have bi:∀h,_:=Ig (j:=D) dw C l;have bj:∀h bp,_:=Rr (j:=D) dw C l;have bl:∀h,_:=If (j:=D) dw C l;have a8:∀aX∈eL C l,aX=C:=λaX bb=>td bb;generalize el av C l=ai at*
   generalize eL C l=Z at*
   generalize fp av C l=aH at*
   apply gD _;refine c0 p (λaM=>?_) (λaM=>?_)
   .apply ak _;exact b7 (s.ln,s.c1,ai,D,[E 42 3 s.ln (aa ai) s.c1 (J ai)]) ⟨bf.E (ck _) aq.h1,aq.uD,by simp only;omega,by simp only;rw[<- bi ad];exact H⟩ tn aZ au
   .apply ak _;refine c0 p (λbm=>?_) (λbm=>?_)
    .let⟨aK,aT⟩:=aq.ae aL;have aS:=bj ad ad;rw[H]at aS;have aY:Z[0]?=ab C:=by
      rw[b8 aL,a8 _ (gG aL)]
     cases aS;let⟨bG,bJ,bH,bo,bI,bK⟩:=s;simp only at aT;subst aT;dsimp only;have a7:∀am,aU (E 42 3 (U aK) (aa Z) bo (J Z)::am) aK (0+0*3) 3 [j v.id,j v.x,j v.y]:=λam=>nn p aY am;apply aC _;refine a6 (gh p (bx a7)) ?_;apply gD _;refine ba p (.cell p (eQ cA) .nil) ?_ bD;exact(by(repeat first|exact cf|apply kG|apply sS)<;>fail)
    .apply ak _;exact b7 (s.lp,s.lx,aH,D-aa ai-aa Z,[E 42 3 s.lp (aa aH) s.lx (J aH)]) ⟨bf.E (ck _) aq.an,aq.uE,by simp only;omega,by simp only;rw[<- bl ad];exact H⟩ tn ⟨rfl,by simp only;rw[show((D-aa ai-aa Z:Nat):Int)=(D:Int)-(aa ai:Int)-(aa Z:Int) by omega];rfl,rfl,rfl,trivial⟩ au
  .apply bs _;exact cC (A,c,l,D,aQ) ⟨aA,W,aB,H⟩ aZ a1
 .rintro⟨A,c,l,D,aQ⟩ ⟨aA,W,aB,H⟩;simp only at aA W aB H;dsimp only;clear aE aV aI h1;have a4:D<aa l:=by
   rcases dZ D (aa l)with h|h
   .exact h
   .rw[mw (by rw[gV];exact h)]at H;cases H
  have bv:aa (bw av l)=aa l:=gV l;apply aC _;refine aP (tZ dw fo A (aa l) c l _ cX ad W) ?_;rintro _ _ ⟨aO,aR,rfl,a0,rfl⟩;apply ay _;obtain⟨aK,rfl⟩:=a0 ad;apply dY _;refine a6 (gh p (nn p H _)) ?_;apply eX _;exact⟨_,bD,(by(repeat first|exact cf|apply kG|apply sS)<;>fail)⟩
theorem aeP(A:a3)(n c:Nat)(l:List aj)(C:Nat)(v:aj)(O:Q)(az:Rd O A n l)(am:n<=1000000)(ax:n<=c)(D:(bw av l)[C]?=ab v):
  Y 594 #[.slice A n c,j (C:Nat),.func (.func f) #[] #[]] O λaI H=>aI=.tuple #[v.v,.bool ag]/\H=O:=by
 have h1:aa l=n:=az.len bL;have aS:C<n:=by
  rcases dZ C n with h|h
  .exact h
  .rw[mw uV]at D;cases D
 have aH:=Di (z3 D);have aM:=xj dw D;have aO:=Dr dw D;have aB:∀aq∈eL v l,aq=v:=λaq aE=>td aE;have W:(eL v l)[C-aa (el av v l)]?=ab v:=by
  have Z:C-aa (el av v l)<aa (eL v l):=ad;rw[b8 Z,aB _ (gG Z)]
 refine aD ?_;refine bg λaK=>?_;apply a9 (adV dw fo n A n c l C v _ (bC _) cX am ax D) _;apply bP λaL=>?_;apply aP (IH dw fo A n c l v _ cX am) _;rintro _ _ ⟨s,rfl,aG,rfl⟩;apply dl _;generalize el av v l=aF at*
 generalize eL v l=R at*
 generalize fp av v l=aQ at*
 let⟨ap,ah⟩:=aG.ae aH;let⟨aT,aX,aV,aJ,aW,aY⟩:=s;simp only at ah;subst ah;dsimp only;obtain⟨I,ai⟩:∃I,C-aa aF=I:=⟨_,rfl⟩;rw[ai]at W;have aR:I<aa R:=ad;have aA:∀H,aU (E 42 3 (U ap) (aa R) aJ (J R)::H) ap (0+I*3) 3 [j v.id,j v.x,j v.y]:=λH=>nn p W H;apply bQ _;iterate 4 apply ay _
 refine a6 (wR p p ad) ?_;rw[ai];apply dY _;refine a6 (gh p (bx aA)) ?_;apply gD _;refine ba p (.cell p (eQ cA) (.tmp p .nil)) a1 bD
end
theorem HJ{l}(C:l.Nodup){v:aj}(D:v∈l):eL v l=[v]:=by
 induction l with
 |nil=>trivial
 |cons a l E=>
  have h:=j3.1 C;unfold eL at*
  rw[tM]
  by_cases j:a=v
  .subst j;rw[bJ ao];grind[List.filter_eq_nil_iff]
  grind
def MH(v:aj)(C j:List aj)(R:Q)(Y:a2)(W:Q):Prop:=∃I D O H,Y=.tuple #[.slice I (aa C) D,v.v,.slice O (aa j) H,.bool ag]/\((0<aa C->∃b,I=(U b))/\aa C<=D/\D<=maxLen)/\((0<aa j->∃b,O=(U b))/\aa j<=H/\H<=maxLen)/\
 W=E 42 3 I (aa C) D (J C)::E 42 3 O (aa j) H (J j)::R
section
variable{f:dc}[cu ar f]{av:aj->aj->Bool}(dw:fl av)(fo:m7 f av)
include dw fo
theorem ag3(A:a3)(n c:Nat)(l:List aj)(I:Nat)(v:aj)(C:Q)(O:Rd C A n l)(a8:n<=100000)(aK:n<=c)(aO:l.Nodup)(H:(bw av l)[I]?=ab v):
  Y 585 #[.slice A n c,j (I:Nat),.func (.func f) #[] #[]] C λaY D=>MH v (el av v l) (fp av v l) C aY D:=by
 have h1:aa l=n:=O.len bL;have aR:=z3 H;have a0:=xj dw H;have aI:=Dr dw H;have az:=HJ aO aR;rw[az]at aI;have aJ:I=aa (el av v l):=bv;have aH:=λM h=>aeP dw fo A n c l I v M h ad aK H;have ap:=λM h=>IH dw fo A n c l v M h ad;rw[az]at ap;have a4:aa (el av v l)<=100000:=hj (kj _ _) ad;have a7:aa (fp av v l)<=100000:=hj (kj _ _) ad;generalize el av v l=aA at*
 generalize fp av v l=ax at*
 subst aJ;refine aD λ{g F}=>?_;apply bP λaZ=>?_;apply dQ (aH _ (bx O)) _;apply bg λaG=>?_;apply aP (ap _ (bx O)) _;rintro _ _ ⟨s,rfl,aB,rfl⟩;apply dl _;obtain⟨a9,be,bb,aE,bc,bh⟩:=s;obtain⟨R,aq⟩:=aB.ae ao;have aX:=aB.xa;simp only[hg]at aq aX;subst aq;dsimp only;have aQ:∀D,aU (E 42 3 (U R) 1 aE (J [v])::D) R (0+0*3) 3 [j v.id,j v.x,j v.y]:=λD=>nn (l:=[v]) (i:=0) (x:=v) p p D;apply bQ _;iterate 3 apply ay _
 refine a6 (wR p p ad) ?_;rw[Nat.sub_self];apply ak _;refine Md (E 42 3 (U R) 1 aE (J [v])::ah aG 42 [j v.id,j v.x,j v.y]::F::C) (bE [0,1,2,3,5,6,7,8,9,10,11,12,13] (.e 4 (.e 14 (.q 15 (.e 16 (.q 17 (.q 18 .nil))))))) a1 cq cq ?_;apply dY _;refine eh p (gh p (bx aQ)) ?_;apply dY _;apply nH λW ai aL aS aV=>?_;apply nH λZ am aM aT aW=>?_
 all_goals
  apply bs _;have aF:∀q:List aj,J q++J ([]:List aj)=J q:=λq=>by rw[Pk,dC]
  rw[aF,aF];refine ba (C:=E 42 3 W (aa aA) ai (J aA)::E 42 3 Z (aa ax) am (J ax)::C) p (.tmp p (.cell p (eQ cA) (.tmp p (.tmp p .nil)))) au ⟨W,ai,Z,am,rfl,⟨aV,aL,aS⟩,⟨aW,aM,aT⟩,rfl⟩
theorem W2(A:a3)(n c:Nat)(l:List aj)(D:Nat)(v:aj)(C:Q)(W:Rd C A n l)(Z:n<=100000)(R:n<=c)(U:l.Nodup)(ah:(bw av l)[D]?=ab v):
  Y 569 #[.slice A n c,j (D:Nat),.func (.func f) #[] #[]] C λai I=>MH v (el av v l) (fp av v l) C ai I:=by
 refine aD ?_;refine bP λaq=>?_;apply aP (ag3 dw fo A n c l D v _ (bx W) Z R U ah) _;rintro _ _ ⟨E,J,H,O,rfl,am,ap,rfl⟩;apply eX _;exact⟨_,⟨E,J,H,O,rfl,am,ap,rfl⟩,au⟩
end
def W1(E A c H):Y 569 #[.slice A 0 c,j 0,.func (.func E) #[] #[]] H λD C=>D=.tuple #[.slice af 0 0,.agg #[j 0,j 0,j 0],.slice af 0 0,.bool al]/\C=H:=by
 have h1:∀M,Y 594 #[.slice A 0 c,j 0,.func (.func E) #[] #[]] M λD C=>D=.tuple #[.agg #[j 0,j 0,j 0],.bool al]/\C=M:=λM=>by
  refine aD ?_;refine bg λO=>?_;refine ba p (.cell p (eQ cA) (.tmp p .nil)) a1 bD
 have ae:∀M,Y 585 #[.slice A 0 c,j 0,.func (.func E) #[] #[]] M λD C=>D=.tuple #[.slice af 0 0,.agg #[j 0,j 0,j 0],.slice af 0 0,.bool al]/\C=M:=λM=>by
  refine aD ?_;refine bP λI=>?_;apply dQ (h1 _) _;apply bg λJ=>?_;refine ba p (.tmp p (.cell p (eQ cA) (.tmp p (.tmp p .nil)))) a1 bD
 refine aD ?_;refine bP λI=>?_;apply a9 (ae _) _;refine ba p (.tmp p (.cell p (eQ cA) (.tmp p (.tmp p .nil)))) a1 bD
end
def aU.z6{A j E b o n D}(H:∀h,A h->C j h)(l:aU j b o n D):aU (A::E) b o n D:=⟨l.1,λJ v I=>⟨λh s=>by
 let⟨h1,ae,R,O,U,Q,W⟩:=s;exact iR.sub ((l.2 J v I).1 _ (H _ Q)) O⟩⟩
def bf.z6{D j I E n A H}(O:∀h,D h->C j h)(h:bf j E A n H):bf (D::I) E A n H:=
 ⟨h.1,λR=>let⟨b,o,J,W⟩:=h.2 R;⟨b,o,J,λU v Q=>⟨λh s=>by
  let⟨h1,ae,ah,Y,ai,Z,am⟩:=s;exact iR.sub ((W U v Q).1 _ (O _ Z)) Y⟩⟩⟩
def kD(j:List Int):Prop:=j.Pairwise (· < ·)
theorem kD.unique:∀{l C},kD l->kD C->(∀D,D∈l<->D∈C)->l=C
 | [],[],_,_,_=>rfl
 | [],b::C,_,_,j=>absurd ((j b).2 ao) ao
 |a::l,[],_,_,j=>absurd ((j a).1 ao) ao
 |a::l,b::C,h1,ae,j=>by
  unfold kD at h1 ae;rw[gH]at h1 ae;have E:a=b:=by
   have H:=(j a).1 ao;have I:=(j b).2 ao;grind
  subst E;rw[kD.unique h1.2 ae.2 _];grind
def n8(j:List Int)(v:Int):Bool:=decide (v∈j)
def low(j:List Int)(C:Int):Nat:=j.countP (λy=>decide (y<C))
def lY(j:List Int)(C:Int):Nat:=if C∈j then 2*low j C+1 else 2*low j C
def HY(j C):low j C<=aa j:=List.countP_le_length
def Q4(j){C y}(h:C<=y):low j C<=low j y:=List.countP_mono_left λE _ D=>by grind
def Q3:∀(j){C y},C∈j->C<y->low j C+1<=low j y
 | [],C,y,h,_=>by grind
 |a::j,C,y,h,D=>by
  unfold low;rw[mv,mv];rcases df.1 h with h|h
  .have:=Q4 j (tK D);simp_all[low]
  .have:=Q3 j h D;grind[low]
def HX:∀(j){C},C∈j->low j C+1<=aa j
 | [],C,h=>by grind
 |a::j,C,h=>by
  unfold low;rw[mv,f0];rcases df.1 h with h|h
  .grind
  .have:=HX j h;grind[low]
def Gb(j){C y}(h:C<=y):lY j C<=lY j y:=by
 rcases Int.lt_or_eq_of_le h with h|h
 .unfold lY;have:=Q4 j (tK h);split
  .rename_i D;have:=Q3 j D h;grind
  grind
 simp_all
def Dl:∀(C)(D),kD C->∀(j)(y),C[j]?=ab y->(y<D<->j<low C D)
 | [],D,_,j,y,h=>by trivial
 |a::C,D,E,j,y,h=>by
  unfold kD at E;rw[gH]at E;unfold low;rw[mv];cases j with
  |zero=>
   grind[K8]
  |succ j=>
   have H:=Dl C D E.2 j y fs;grind[low,K8]
def adg(j C)(D:kD j):j[low j C]?=ab C<->C∈j:=by
 constructor
 .grind
 .intro h;let⟨E,H⟩:=List.getElem?_of_mem h;have h1:=(Dl j C D E C H);have U:=HX j h;have I:j[low j C]?=ab _:=b8 ad;have ae:=Dl j C D _ _ I;have W: ¬j[low j C]<C:=λh=>ad;have J: ¬E<low j C:=λQ=>by omega
  rcases Nat.lt_or_eq_of_le (Nat.le_of_not_lt J)with an|an
  .have O:=(h2.1 H).1;have R:=List.pairwise_iff_getElem.1 D _ E ad O an;grind
  simp_all
theorem GQ(j v):∀(l),d9 l->(eR v l).filter j=if j v then eR v (l.filter j)else l.filter j
 | [],_=>by cases h:j v<;>simp[eR,h]
 |b::l,D=>by
  unfold d9 at D;rw[gH]at D;cases E:v.less b with
  |true=>
   have C:eR v (b::l)=v::b::l:=by simp[eR,E]
   rw[C];have Q:∀a∈(b::l).filter j,v.less a=ag:=λa I=>by
    rcases df.1 (List.mem_filter.1 I).1 with rfl|h
    .omega
    grind[aj.tc]
   have O:eR v ((b::l).filter j)=v::(b::l).filter j:=by
    generalize(b::l).filter j=H at*
    cases H with
    |nil=>rfl
    |cons a H=>simp_all[eR]
   grind
  |false=>
   have C:eR v (b::l)=b::eR v l:=by simp[eR,E]
   rw[C];have J:=GQ j v l D.2;cases h:j v with
   |true=>
    rw[h]at J;cases R:j b with
    |true=>simp_all[eR]
    |false=>simp_all
   |false=>
    grind
theorem Pc(j v):∀(l:List aj),(l.erase v).filter j=if j v then(l.filter j).erase v else l.filter j
 | []=>ao
 |b::l=>by
  have C:=Pc j v l;grind
theorem ae9(v l)(h:∀a∈l,a.less v=ag):eR v l=l++[v]:=by
 induction l with
 |nil=>rfl
 |cons b l j=>
  simp_all[aj.Dg,eR]
inductive bS where
 |nil
 |node (b:Nat) (j E:Nat) (A:a3) (c:Nat) (l:List aj) (D C:bS)
def bc(q:aj->Nat×Nat)(s:aj)(j C:Nat):Bool:=decide ((q s).1<=j)&&decide (C<=(q s).2)
def hv(q:aj->Nat×Nat)(l:List aj):bS->Nat->Nat->(aj->Bool)->Prop
 | .nil,_,_,_=>False
 | .node _ H J _ _ I E D,j,C,o=>H=j/\J=C/\I=l.filter (λs=>bc q s j C&&!o s)/\
  (j<C/\hv q l E j (j+(C-j)/2) (λs=>bc q s j C)/\hv q l D (j+(C-j)/2+1) C (λs=>bc q s j C)\/j=C/\E=.nil/\D=.nil)
theorem hv.le{q l j C D o}(h:hv q l j C D o):C<=D:=by
 cases j with
 |nil=>cases h
 |node b E O A c J I H=>obtain⟨_,_,_,h|h⟩:=h<;>omega
def bS.at_(j y:Nat)(g:Nat->Nat->List aj->Nat):bS->Nat
 | .nil=>0
 | .node _ C D _ _ l H E=>if y<C\/D<j then 0 else if j<=C/\D<=y then g C D l else H.at_ j y g+E.at_ j y g
def bS.Z:bS->Option cg
 | .nil=>af
 | .node b _ _ _ _ _ _ _=>(U b)
def bS.each(P:Nat->Nat->Option cg->Nat->List aj->Prop):bS->Prop
 | .nil=>True
 | .node _ j E A c l D C=>P j E A c l/\D.each P/\C.each P
def bS.each.mono{j C}(h:∀E H A c l,j E H A c l->C E H A c l):∀{D:bS},D.each j->D.each C
 | .nil,_=>trivial
 | .node _ _ _ _ _ _ _ _,⟨a,b,c⟩=>⟨h _ _ _ _ _ a,b.mono h,c.mono h⟩
def bS.each.and{C D}:∀{j:bS},j.each C->j.each D->j.each λE H A c l=>C E H A c l/\D E H A c l
 | .nil,_,_=>trivial
 | .node _ _ _ _ _ _ _ _,⟨a,b,c⟩,⟨I,J,O⟩=>⟨⟨a,I⟩,b.and J,c.and O⟩
def Laid(E y:Nat)(G:Option cg->Nat->List aj->Option cg->Nat->List aj->Prop):bS->bS->Prop
 | .nil,j=>j=.nil
 | .node b C D A c l I H,j=>if y<C\/D<E then j=.node b C D A c l I H else if E<=C/\D<=y then ∃J O R,G A c l J O R/\j=.node b C D J O R I H
  else ∃U Q,Laid E y G I U/\Laid E y G H Q/\j=.node b C D A c l U Q
theorem Laid.Z{D y G j C}(h:Laid D y G j C):C.Z=j.Z:=by
 cases j with
 |nil=>cases h;rfl
 |node b E J A c l I H=>
  unfold Laid at h;split at h
  .simp_all
  .split at h
   .obtain⟨_,_,_,_,rfl⟩:=h;rfl
   .obtain⟨_,_,_,_,rfl⟩:=h;rfl
def Laid.each{W y G P}(D:∀C E A c l H R U,P C E A c l->G A c l H R U->P C E H R U):∀{I j},Laid W y G I j->I.each P->j.each P
 | .nil,_,h,_=>by cases h;omega
 | .node b C E A c l Z Y,j,h,⟨J,O,Q⟩=>by
  unfold Laid at h;split at h
  .subst h;trivial
  .split at h
   .obtain⟨_,_,_,g,rfl⟩:=h;exact⟨D _ _ _ _ _ _ _ _ J g,O,Q⟩
   .obtain⟨_,_,h1,ae,rfl⟩:=h;exact⟨J,h1.each D O,ae.each D Q⟩
def hv.yT{q l Q s}(J:∀H:aj->Bool,H s=al->Q.filter H=l.filter H)(O:(q s).1<=(q s).2):∀{I}{j C}{o},hv q l I j C o->
  (((q s).2<j\/C< (q s).1)\/o s=ag/\bc q s j C=ag)->hv q Q I j C o
 | .nil,_,_,_,h,_=>h
 | .node b W am A c ah ai Y,j,C,o,⟨h1,ae,an,D⟩,E=>by
  have Z:(bc q s j C&&!o s)=al:=by
   rcases E with h|⟨h,_⟩
   .have:bc q s j C=al:=by
     unfold bc;grind
    simp_all
   simp_all
  refine⟨h1,ae,by simp_all,?_⟩;rcases D with ⟨D,R,U⟩|D
  .refine .inl ⟨D,R.yT J O ?_,U.yT J O ?_⟩
   .rcases E with h|⟨_,h⟩
    .omega
    .right;refine⟨h,?_⟩;unfold bc at h ⊢;grind
   .rcases E with h|⟨_,h⟩
    .omega
    .right;refine⟨h,?_⟩;unfold bc at h ⊢;grind
  simp_all
def hv.laid{q l Z s}{g:List aj->List aj}{G}(W:∀A c l am aq Y,G A c l am aq Y->Y=g l)(H:∀C:aj->Bool,C s=al->Z.filter C=l.filter C)(az:∀C:aj->Bool,C s=ag->Z.filter C=g (l.filter C))(I:(q s).1<=(q s).2):∀{ap Q}{R ah}{o},hv q l ap R ah o->
  o s=al->Laid (q s).1 (q s).2 G ap Q->hv q Z Q R ah o
 | .nil,_,_,_,_,h,_,_=>by cases h
 | .node b U ai A c aG aH ax,Q,R,ah,o,⟨h1,ae,an,j⟩,aF,D=>by
  subst h1 ae;unfold Laid at D;split at D
  .rename_i ar
   subst D;exact hv.yT H I ⟨rfl,rfl,an,j⟩ (.inl ar)
  .rename_i ar
   split at D
   .rename_i ax
    obtain⟨am,aq,Y,av,rfl⟩:=D;have av:=W _ _ _ _ _ _ av;have E:bc q s U ai=ag:=by unfold bc;simp_all
    refine⟨rfl,rfl,by simp_all,?_⟩;rcases j with ⟨j,J,O⟩|j
    .refine .inl ⟨j,J.yT H I (.inr ⟨E,?_⟩),O.yT H I (.inr ⟨E,?_⟩)⟩
     .unfold bc;grind
     .unfold bc;grind
    simp_all
   .rename_i ax
    have E:bc q s U ai=al:=by
     cases aA:bc q s U ai with
     |false=>rfl
     |true=>unfold bc at aA;grind
    obtain⟨aI,aE,aB,aD,rfl⟩:=D;refine⟨rfl,rfl,by simp_all,?_⟩;rcases j with ⟨j,J,O⟩|⟨j,J,O⟩
    .exact .inl ⟨j,J.laid W H az I E aB,O.laid W H az I E aD⟩
    omega
def bS.UR(c:Nat):bS->List aj
 | .nil=>[]
 | .node _ j E _ _ l D C=>if j<=c/\c<=E then l++(D.UR c++C.UR c)else[]
theorem hv.cells{q:aj->Nat×Nat}{l:List aj}{E y:Nat}(O:E<=y):∀{H:bS}{j C:Nat}{o:aj->Bool},hv q l H j C o->H.at_ E y (λj C _=>C-j+1)=min y C+1-max E j
 | .nil,_,_,_,h=>by cases h
 | .node b R Z A Q W Y U,j,C,o,h=>by
  let⟨h1,ae,an,D⟩:=h;unfold bS.at_;split
  .omega
  .split
   .omega
   .rcases D with ⟨D,I,J⟩|⟨D,I,J⟩
    .rw[I.cells O,J.cells O];omega
    omega
def bS.run{S:Type}(j y:Nat)(step:S->Nat->Nat->List aj->S):bS->S->S
 | .nil,s=>s
 | .node _ f C _ _ l E D,s=>if y<f\/C<j then s else if j<=f/\C<=y then step s f C l else D.run j y step (E.run j y step s)
theorem Ef{S D y b j C c A l H E step}{s:S}(h:y<j\/C<D):bS.run D y step (.node b j C A c l H E) s=s:=bJ h
theorem Tz{S D y b j C c A l I H step}{s:S}(h: ¬(y<j\/C<D))(E:D<=j/\C<=y):bS.run D y step (.node b j C A c l I H) s=step s j C l:=(a8 h).trans (bJ E)
theorem Ed{S j y b C D c A l H E step}{s:S}(h: ¬(y<C\/D<j))(I: ¬(j<=C/\D<=y)):bS.run j y step (.node b C D A c l H E) s=E.run j y step (H.run j y step s):=(a8 h).trans (a8 I)
def hv.sub{q:aj->Nat×Nat}{l:List aj}:∀{I:bS}{J E:Nat}{o:aj->Bool},hv q l I J E o->I.each λO H _ _ R=>R.Sublist l/\O<=H/\H<=E
 | .nil,_,_,_,h=>by cases h
 | .node b O H A U Y Z W,J,E,o,h=>by
  have Q:=h.le;let⟨h1,ae,an,j⟩:=h;subst h1 ae;refine⟨⟨an▸List.filter_sublist,Q,bC _⟩,?_⟩;rcases j with ⟨j,C,D⟩|⟨j,C,D⟩
  .exact⟨C.sub.mono λ_ _ _ _ _ h=>⟨h.1,h.2.1,ad⟩,D.sub.mono λ_ _ _ _ _ h=>⟨h.1,h.2.1,ad⟩⟩
  .subst C D;trivial
def bS.all:bS->Nat
 | .nil=>0
 | .node _ _ _ _ _ l C j=>aa l+C.all+j.all
section
attribute [local irreducible] C bh b6
def Hi(a C):aY 71 #[j a] C (.bool al) C:=by
 refine bt ?_;refine ba p (.tmp p .nil) a1 ⟨by simp[cs],rfl⟩
def wv(a b C):aY 287 #[j a,j b] C (.bool (decide (a<b))) C:=by
 refine aD ?_;refine a9 (Hi a _) ?_;exact c8
def L1(A n c)(l:List Int)(j)(H:Rd j A n l)(Z:n<=100000000):
  Y 110 #[.slice A n c] j λv I=>Made 3 l j v I:=by
 have h1:=H.len bL;refine AN ?_;refine eG p (λae=>?_) (λae=>?_)
 .have O:A=af:=bo;have an:n=0:=by
   rcases hh n with h|h
   .omega
   .let⟨b,o,O,_⟩:=H.at_ h;grind
  subst an;have:=gX h1;subst this;apply ak _;refine ba rfl ds ?_ ⟨af,0,rfl,db,rfl⟩;exact λh s=>(E.c7 3 1 h s).swap
 .apply ak _;apply bP λU=>?_;apply fz λC D Q W R=>?_;rw[h3]at Q R;apply bs _;refine ba (C:=E 3 1 C (aa l) D (J l)::j) p ds ?_ ⟨C,D,by rw[h1];simp[cs],by simp_all,rfl⟩;rw[h1,h3,oG];apply cP (.ap (.here));exact cP (.here) a1
def agv(R:dc)[cu ar R](U W:bz)(aA:Int->Bool)(A:a3)(n c H:Nat)(l:List Int)(I:Q)(aq:Rd I A n l)(aQ:n<=1000000)(aH:H<=n)(aJ:∀(az:Nat)(a:Int),l[az]?=ab a->(aA a=ag<->H<=az))
  (aG:∀a:Int,Y R (U++[Value.int .i64 a]++W).toArray I λv aD=>v=.bool (aA a)/\aD=I):
  aY 442 #[.slice A n c,.func (.func R) U.toArray W.toArray] I (j (H:Nat)) I:=by
 have h1:aa l=n:=aq.len bL;refine bt λ{g F}=>?_;apply cL (ι:=Nat×Nat) (λD=>[(0,.slice A n c),(1,.func (.func R) U.toArray W.toArray),(5,j (D.1:Nat)),(6,j (D.2:Nat))]) (λ_=>F::I) (λD=>D.1<=H/\H<=D.2/\D.2<=n) (λD=>D.2-D.1) (0,n) ⟨bO _,aH,bC _⟩ aZ a1;rintro⟨C,E⟩ ⟨Z,ah,ai⟩;simp only at Z ah ai;dsimp only;apply ak _;refine c0 p (λaF=>?_) (λaF=>?_)
 .obtain⟨aO,aR,rfl,aL⟩:=aq.at_ ad;have aI:C+(E-C)/2<E:=ad;have am:l[C+(E-C)/2]?=ab l[C+(E-C)/2]:=b8 ad;have aB:=aL _ _ am;have ax:=aJ _ _ am;generalize l[C+(E-C)/2]=aK at*
  apply aC _
  (first|refine a6 (l6 (q:=2) p p aw aw) ?_|refine a6 (jC p p aw aw aw) ?_)
  apply dl _;obtain⟨J,av⟩:∃J,C+(E-C)/2=J:=⟨_,rfl⟩;have aP:C<=J:=ad;rw[av]at aI aB ax;rw[av];have aM:=aB;have aS:=aM.at_ (i:=0) p;apply aC _;refine GE (f4 p p (O.frame [F] (aG aK) cf)) ?_;rintro _ _ ⟨_,⟨rfl,rfl⟩,rfl⟩;apply ak _;refine eG p (λap=>?_) (λap=>?_)
  .have:=ax.1 ap;apply ak _;exact b7 (C,J) ⟨Z,this,ad⟩ ad aZ a1
  .have: ¬H<=J:=λh=>by simp_all
   apply ak _;exact b7 (J+1,E) ⟨ad,ah,ai⟩ ad aZ a1
 .have aE:C=H:=ad;subst aE;exact fG
def aae(a v D E)(C:Q)(O:a5 C ⟨D,0,af⟩ (j v))(R:a5 C ⟨E,0,af⟩ (.func (.func 287) #[] #[])):
  Y 443 #[j a,I E,I D] C λJ H=>J=.bool (!decide (a<v))/\H=C:=by
 refine aD ?_;refine GE (f4 p p (wv a v _)) ?_;rintro _ _ ⟨rfl,rfl⟩;exact a6 (gz p) fG
def aai(A n c C v D)(J:Rd D A n C)(O:n<=1000000)(Q:kD C):
  Y 404 #[.slice A n c,j v,.func (.func 287) #[] #[]] D λU E=>U=j (low C v:Nat)/\E=D:=by
 have h1:=J.len bL;have W:=HY C v;refine aD ?_;refine bd λH=>?_;apply bP λI=>?_;refine a9 (agv _ [] _ _ A n c (low C v) C _ cX O ad (λR a h=>by have:=Dl C v Q R a h;simp;omega) (λa=>aae a v H I _ ec ec)) ?_;exact c8
def Vv(A n c C v D)(O:Rd D A n C)(H:n<=1000000)(I:kD C):
  Y 426 #[.slice A n c,j v,.func (.func 287) #[] #[]] D λJ E=>J=j (low C v:Nat)/\E=D:=by
 refine aD ?_;refine a9 (aai A n c C v _ cX H I) ?_;exact c8
theorem GR:∀l:List Int,J l=l.map (Value.int .i64)
 | []=>rfl
 |a::l=>by rw[h9,GR l];rfl
theorem Pj(l C D):(J l).set (0+C*1) (j D)=J (l.set C D):=by rw[h3,ym,GR,GR,Ls]
def pX{b n c C l D}(O:aa l=n)(h:l[C]?=ab D)(H:Q):a5 (E 3 1 (U b) n c (J l)::H) ⟨b,0+C*1,af⟩ (j D):=by
 have Y:=(h2.1 h).1;have W:Rd (E 3 1 _ n c _::H) _ n l:=bf.E (by rw[ck,O];rfl) (λ_=>⟨b,rfl⟩);let⟨_,_,I,R⟩:=W.at_ ad;cases I;exact(R C D h).at_ (i:=0) p
def XY{A E}{C j:Int}{D}(H:D=aa A+1):((A++j::C::E).set D j).set (D-1) C=A++C::j::E/\(A++j::C::E)[D]?=ab C/\(A++j::C::E)[D-1]?=ab j:=by simp_all
def Nz(A n c l Z)(aT:Rd Z A n l)(a8:n<=1000000):
  Y 566 #[.slice A n c,.func (.func 287) #[] #[]] Z λv aH=>Made 3 (b5 l) Z v aH:=by
 have h1:aa l=n:=aT.len bL;refine aD λ{g F}=>?_;refine aP (L1 A n c l _ cX ad) ?_;rintro _ _ ⟨aq,ah,rfl,aS,rfl⟩;apply ak _;refine cL (ι:=Nat×List Int) (λR=>[(1,.func (.func 287) #[] #[]),(5,.slice aq n ah),(11,j (n:Nat)),(12,j (R.1:Nat))]) (λR=>E 3 1 aq n ah (J R.2)::F::Z) (λR=>R.1<=n/\R.2.Perm l/\(R.2.take R.1).Pairwise (·<= ·)) (λR=>n-R.1) (0,l) ⟨bO _,.refl _,ao⟩ ⟨rfl,by rw[<- h1];rfl,by rw[<- h1];rfl,rfl,trivial⟩ (by rw[<- h1];exact au) ?_;rintro⟨I,Q⟩ ⟨aR,ar,am⟩;simp only at aR ar am;dsimp only;have aE:aa Q=n:=by rw[ar.length_eq,h1]
 apply ak _;refine c0 p (λaI=>?_) (λaI=>?_)
 .apply ak _;have bb:Q[I]?=ab Q[I]:=b8 ad;have aV:Q=Q.take I++Q[I]::Q.drop (I+1):=by
   simp
  have a4:aa (Q.take I)=I:=bv;obtain⟨b,rfl⟩:=aS ad;generalize Q[I]=H at*
  generalize Q.take I=D at*
  generalize Q.drop (I+1)=O at*
  apply bs _;refine cL (ι:=Nat) (λC=>[(1,.func (.func 287) #[] #[]),(5,.slice (U b) n ah),(11,j (n:Nat)),(12,j (I:Nat)),(7,j (C:Nat))]) (λC=>E 3 1 (U b) n ah (J (D.take C++H::(D.drop C++O)))::F::Z) (λC=>C<=I/\∀y∈D.drop C,H<y) (λC=>C) I ⟨bC _,by grind⟩ aZ (by rw[lR ad,vw ad,oG,<- aV];exact λ_ s=>s) ?_;rintro C ⟨aF,aM⟩
  by_cases aX:0<C
  .have a7:D[C-1]?=ab D[C-1]:=b8 ad;have aA:D.take C=D.take (C-1)++[D[C-1]]:=by
    have:=j4 (l:=D) (i:=C-1) ad;grind
   have a0:D.drop (C-1)=D[C-1]::D.drop C:=by
    grind[sp]
   have a3:aa (D.take (C-1))=C-1:=bv;have ai:aa (D.take C++H::(D.drop C++O))=n:=by
    grind
   generalize D[C-1]=W at*
   let⟨aG,ax,az⟩:=XY (A:=D.take (C-1)) (E:=D.drop C++O) (C:=H) (j:=W) (D:=C) ad;have aK:D.take C++H::(D.drop C++O)=D.take (C-1)++W::H::(D.drop C++O):=bo;have aL:D.take (C-1)++H::(D.drop (C-1)++O)=D.take (C-1)++H::W::(D.drop C++O):=bo;rw[<- aK]at aG ax az
   by_cases aY:H<W
   .apply bs _;refine pu (bE [0,1,2,3,4,5,6,7,8,9,10,11,12] (.e 13 (.q 14 .nil))) bN cq ?_;apply ak _;refine j6 dm p p p p ⟨_,rfl,rfl⟩ p (fC p (by repeat' first|exact pX ai ax _|apply a5.ap)) ?_;apply ak _;refine j6 dm p p p p ⟨_,rfl,rfl⟩ p (fC p (by repeat' first|exact pX ai az _|apply a5.ap)) ?_;refine bF (jQ p p p ⟨_,rfl,rfl⟩ p (f4 p p (wv H W _)) ?_);rintro _ _ ⟨rfl,rfl⟩;apply cV _;apply ak _;refine eh p (fC p (by repeat' first|exact pX ai az _|apply a5.ap)) ?_;apply ak _;refine eh p (fC p (by repeat' first|exact pX ai ax _|apply a5.ap)) ?_;apply bu _;refine bF (py bN p p p (lB p p p aN ad) ?_);rintro _ _ ⟨rfl,rfl⟩;apply bu _;refine bF (hD bN p p p (lB p p p aN ad) ?_);rintro _ _ ⟨rfl,rfl⟩;rw[Pj,Pj,aG,<- aL];apply ak _;exact b7 (C-1) ⟨ad,by simp_all⟩ ad aZ cT
   .apply bs _;refine pu (bE [0,1,2,3,4,5,6,7,8,9,10,11,12] (.e 13 (.q 14 .nil))) bN cq ?_;apply ak _;refine j6 dm p p p p ⟨_,rfl,rfl⟩ p (fC p (by repeat' first|exact pX ai ax _|apply a5.ap)) ?_;apply ak _;refine j6 dm p p p p ⟨_,rfl,rfl⟩ p (fC p (by repeat' first|exact pX ai az _|apply a5.ap)) ?_;refine bF (jQ p p p ⟨_,rfl,rfl⟩ p (f4 p p (wv H W _)) ?_);rintro _ _ ⟨rfl,rfl⟩;apply cV _;apply ak _;refine b7 (I+1,D.take C++H::(D.drop C++O)) ⟨ad,?_,?_⟩ ad aZ cT
    .apply List.Perm.trans _ ar;grind[List.perm_middle,List.Perm.trans,jm,kk]
    .simp only;have aO:(D.take C++H::(D.drop C++O)).take (I+1)=D.take C++H::D.drop C:=by
      have:D.take C++H::(D.drop C++O)=(D.take C++H::D.drop C)++O:=ao;rw[this,yk bv,lR bv]
     rw[aO];rw[<- kk C D,pr]at am;rw[pr];refine⟨am.1,gH.2 ⟨λy aW=>tK (aM y aW),am.2.1⟩,?_⟩;have a9:∀a∈D.take C,a<=H:=by
      rw[aA];intro a av;rcases b9.1 av with av|av
      .have aB:=am.1;rw[aA,pr]at aB;have:=aB.2.2 a av W ao;omega
      simp_all
     simp_all
  .have aJ:C=0:=ad;subst aJ;apply ak _;refine b7 (I+1,H::(D++O)) ⟨ad,?_,?_⟩ ad aZ cT
   .grind
   .simp_all[List.take_succ_cons,yk,lR,gH,tK]
 .have aQ:I=n:=ad;subst aQ;have:Q=b5 l:=zl _ _ (ar.trans (nA l).symm) bv (qW l);subst this;apply ak _;refine ba (C:=E 3 1 aq (aa (b5 l)) ah (J (b5 l))::Z) p ds ?_ ⟨aq,ah,by rw[aE];rfl,by simp_all,rfl⟩;rw[aE];exact au
def Rg(A aA:a3)(n O c aG:Nat)(l q:List Int)(H:Q)(aO:Rd H A n l)(aQ:Rd H aA O q)(bS:n<=1000000)(bM:O<=1000000)(bG:n<=c)(bJ:O<=aG)(bo:l.Pairwise (·<= ·))(bp:q.Pairwise (·<= ·)):
  Y 567 #[.slice A n c,.slice aA O aG,.func (.func 287) #[] #[]] H λv aY=>Made 3 (b5 (l++q)) H v aY:=by
 have h1:aa l=n:=aO.len bL;have ae:aa q=O:=aQ.len bL;refine aD λ{g F}=>?_;refine GE (Oi p p ad ad) ?_;rintro _ _ ⟨aL,rfl,rfl⟩;apply ak _;refine cL (ι:=(Option cg×Nat×List Int)×(Option cg×Nat×List Int)×(Option cg×Nat×List Int)) (λC=>[(2,.func (.func 287) #[] #[]),(0,.slice C.1.1 C.1.2.2.length C.1.2.1),(1,.slice C.2.1.1 C.2.1.2.2.length C.2.1.2.1),(7,.slice C.2.2.1 C.2.2.2.2.length C.2.2.2.1)]) (λC=>E 3 1 C.2.2.1 C.2.2.2.2.length C.2.2.2.1 (J C.2.2.2.2)::F::H)
  (λC=>(Rd H C.1.1 C.1.2.2.length C.1.2.2/\C.1.2.2.length<=C.1.2.1/\C.1.2.2.Pairwise (·<= ·))/\(Rd H C.2.1.1 C.2.1.2.2.length C.2.1.2.2/\C.2.1.2.2.length<=C.2.1.2.1/\C.2.1.2.2.Pairwise (·<= ·))/\(C.2.2.2.2++(C.1.2.2++C.2.1.2.2)).Perm (l++q)/\C.2.2.2.2.Pairwise (·<= ·)/\(∀o∈C.2.2.2.2,∀D∈C.1.2.2++C.2.1.2.2,o<=D)/\(0<C.2.2.2.2.length->∃b,C.2.2.1=(U b))) (λC=>C.1.2.2.length+C.2.1.2.2.length) ((A,c,l),(aA,aG,q),(ab ⟨aL,0,af⟩,n+O,[])) ⟨⟨by rw[h1];exact aO,by simp_all,bo⟩,⟨by rw[ae];exact aQ,by simp_all,bp⟩,.refl _,.nil,ao,λ_=>⟨aL,rfl⟩⟩ ⟨rfl,by rw[<- h1];rfl,by rw[<- ae];rfl,rfl,trivial⟩ au ?_
 rintro⟨⟨bt,am,I⟩,⟨bw,ap,aF⟩,⟨bx,bB,o⟩⟩ ⟨⟨aq,aI,ar⟩,⟨av,aK,ax⟩,aJ,aT,aP,bb⟩;simp only at aq aI ar av aK ax aJ aT aP bb;dsimp only;have bK:aa o+(aa I+aa aF)=n+O:=by
  have:=aJ.length_eq;simp_all
 apply oL (λh s=>E.facts (s));rintro⟨bU,bV,br,bY⟩;unfold maxLen at br
 by_cases aR:0<aa I/\0<aa aF
 .obtain⟨aB,ah,rfl,aZ⟩:=aq.at_ aR.1;obtain⟨aE,ai,rfl,a0⟩:=av.at_ aR.2;obtain⟨D,Z,rfl⟩:∃D Z,I=D::Z:=by cases I with
   |nil=>simp_all
   |cons D Z=>simp
  obtain⟨y,aM,rfl⟩:∃y aM,aF=y::aM:=by cases aF with
   |nil=>simp_all
   |cons y aM=>simp
  have bZ:a5 H ⟨aB,ah+0*1,af⟩ (j D):=(aZ 0 D p).at_ (i:=0) p;have b0:a5 H ⟨aE,ai+0*1,af⟩ (j y):=(a0 0 y p).at_ (i:=0) p;rw[gH]at ar ax;simp only[f0]at*
  apply ak _;refine bF (hD bN p p p (f4 p p (wv y D _)) ?_);rintro _ _ ⟨rfl,rfl⟩
  by_cases bT:y<D
  .apply ak _;apply hZ 0 (bE [0,1,2,3,6,7] (.e 4 (.e 5 (.q 8 (.q 9 .nil))))) _;refine eh p (iW p p aw aw) ?_;refine bF (bW p p p (gR bN p p) ?_);rintro _ _ ⟨bz,rfl,rfl⟩;refine bX ?_;refine nH λaV a4 bH bP bi=>?_;exact b7 ((ab ⟨aB,ah,af⟩,am,D::Z),(ab ⟨aE,(if ap=1 then ai else ai+1*1),af⟩,ap-1,aM),(aV,a4,o++[y])) ⟨⟨aq,aI,gH.2 ar⟩,⟨av.drop (k:=1) (c:=ap) ao aK,by grind,ax.2⟩,by
     grind,by
     grind,by
     grind,λ_=>bi ao⟩ ao ⟨rfl,rfl,rfl,by rw[b4];rfl,trivial⟩ (by
     have aH:J (o++[y])=J o++[Value.int .i64 y]:=(gi o y).symm;simp only[b4,hg,aH];exact au)
  .apply ak _;apply hZ 0 (bE [0,1,2,3,6,7] (.e 4 (.e 5 (.q 8 (.q 9 .nil))))) _;refine eh p (iW p p aw aw) ?_;refine bF (bW p p p (gR bN p p) ?_);rintro _ _ ⟨bA,rfl,rfl⟩;refine bX ?_;refine nH λaW a7 bI bR bj=>?_;exact b7 ((ab ⟨aB,(if am=1 then ah else ah+1*1),af⟩,am-1,Z),(ab ⟨aE,ai,af⟩,ap,y::aM),(aW,a7,o++[D])) ⟨⟨aq.drop (k:=1) (c:=am) ao aI,by grind,ar.2⟩,⟨av,aK,gH.2 ax⟩,by
     simp_all,by
     grind,by
     grind,λ_=>bj ao⟩ ao ⟨rfl,rfl,rfl,by rw[b4];rfl,trivial⟩ (by
     have aH:J (o++[D])=J o++[Value.int .i64 D]:=(gi o D).symm;simp only[b4,hg,aH];exact au)
 .have bn:o++I++aF=b5 (l++q):=by
   rw[jm];apply zl _ _ (aJ.trans (nA _).symm) (pr.2 ⟨aT,_,aP⟩) (qW _);grind
  have az:aa (b5 (l++q))=aa o+aa I+aa aF:=bv;have aS:J (b5 (l++q))=J o++J I++J aF:=by rw[<- bn];simp[gS]
  rcases hh (aa I)with a9|a9
  .apply ak _;apply fz λaX a8 bc bg bl=>?_;apply fz λR W be bh bm=>?_;refine ba (C:=E 3 1 R (aa (b5 (l++q))) W (J (b5 (l++q)))::H) p ds ?_ ⟨R,W,by rw[az];rfl,by simp_all,rfl⟩;rw[az,aS];exact au
  .apply ak _;apply fz λaX a8 bc bg bl=>?_;apply fz λR W be bh bm=>?_;refine ba (C:=E 3 1 R (aa (b5 (l++q))) W (J (b5 (l++q)))::H) p ds ?_ ⟨R,W,by rw[az];rfl,by simp_all,rfl⟩;rw[az,aS];exact au
def Wp(A D:a3)(n j c E:Nat)(l q:List Int)(C:Q)(am:Rd C A n l)(ap:Rd C D j q)(Z:n<=1000000)(W:j<=1000000)(R:n<=c)(U:j<=E)(ah:l.Pairwise (·<= ·))(ai:q.Pairwise (·<= ·)):
  Y 559 #[.slice A n c,.slice D j E,.func (.func 287) #[] #[]] C λv I=>Made 3 (b5 (l++q)) C v I:=by
 refine aD ?_;refine aP (Rg A D n j c E l q _ cX cX Z W R U ah ai) ?_;rintro _ _ ⟨H,J,rfl,O,rfl⟩;apply ak _;exact aR ⟨H,J,rfl,O,rfl⟩
theorem ag6(l q):b5 (b5 l++b5 q)=b5 (l++q):=
 zl _ _ ((nA _).trans (((nA l).append (nA q)).trans (nA _).symm)) (qW _) (qW _)
theorem sc(l):aa (b5 l)=aa l:=(nA l).length_eq
def agV:∀(H:Nat)(A:a3)(n c:Nat)(l:List Int)(j:Q)(_:n<=H)(_:Rd j A n l)(_:n<=1000000)(_:n<=c),
  Y 526 #[.slice A n c,.func (.func 287) #[] #[]] j λv ax=>Made 3 (b5 l) j v ax:=by
 intro H
 induction H with
 |zero=>
  intro A n c l j aD D U ai;refine bt ?_;refine aP (Nz A n c l _ cX U) ?_;rintro _ _ ⟨I,O,rfl,R,rfl⟩;apply ak _;exact aR ⟨I,O,rfl,R,rfl⟩
 |succ H am=>
  intro A n c l j aD D U ai;have h1:aa l=n:=D.len bL;refine bt λ{g F}=>?_;refine c0 p (λaz=>?_) (λaz=>?_)
  .apply ak _;apply aP (Nz A n c l _ cX U) _;rintro _ _ ⟨I,O,rfl,R,rfl⟩;apply ak _;exact aR ⟨I,O,rfl,R,rfl⟩
  .obtain⟨b,o,rfl,_⟩:=D.at_ ad;have ah:b5 (b5 (l.take (n/2))++b5 (l.drop (n/2)))=b5 l:=by rw[ag6,kk]
   have aF:∀C,Rd (C++j) (ab ⟨b,o,af⟩) (n/2) (l.take (n/2)):=λC=>Rd.ev (D.take ad);have aE:∀C,Rd (C++j) (ab ⟨b,(if c=n/2 then o else o+(n/2)*1),af⟩) (n-n/2) (l.drop (n/2)):=λC=>Rd.ev (D.drop (k:=n/2) (c:=c) ad ai);apply aC _
   (first|refine a6 (l6 (q:=2) p p aw aw) ?_|refine a6 (jC p p aw aw aw) ?_)
   apply ak _;apply pn (bE [0,1,2,3,5,6,7,8,10] (.e 4 (.e 9 (.e 11 (.q 12 .nil))))) _;refine dV ((am (ab ⟨b,o,af⟩) (n/2) c (l.take (n/2)) _ ad (aF [F]) ad ad).made) ?_;rintro _ _ ⟨W,Z,rfl,aG,aI,aK,rfl⟩;apply cV _;refine dV ((am (ab ⟨b,(if c=n/2 then o else o+(n/2)*1),af⟩) (n-n/2) (c-n/2) (l.drop (n/2)) _ ad (aE [E 3 1 W (aa (b5 (l.take (n/2)))) Z (J (b5 (l.take (n/2)))),F]) ad ad).made) ?_;rintro _ _ ⟨ar,aA,rfl,aH,aJ,aL,rfl⟩;apply cV _;refine dV (Rg W ar _ _ Z aA (b5 (l.take (n/2))) (b5 (l.drop (n/2))) _ (Rd.ap (bf.E (ck _) aG)) (bf.E (ck _) aH) (by grind[sc]) (by grind[sc]) aI aJ (qW _) (qW _)) ?_;rintro _ _ ⟨av,aB,rfl,aq,rfl⟩;apply cV _;apply aC _;rw[ah]at aq;rw[ah];apply ak _;exact aR ⟨av,aB,rfl,aq,rfl⟩
def FH(A n c l j)(O:Rd j A n l)(J:n<=1000000)(I:n<=c):
  Y 475 #[.slice A n c,.func (.func 287) #[] #[]] j λv D=>Made 3 (b5 l) j v D:=by
 refine aD ?_;refine aP (agV n A n c l _ (bC _) cX J I) ?_;rintro _ _ ⟨C,E,rfl,H,rfl⟩;apply ak _;exact aR ⟨C,E,rfl,H,rfl⟩
def qa(o:List Int)(v:Int):List Int:=match o.getLast? with
 |none=>o++[v]
 |some j=>if j<v then o++[v]else o
def qY(l:List Int):List Int:=l.foldl qa []
def Ka:∀(l o:List Int),kD o->l.Pairwise (·<= ·)->(∀a∈o,∀b∈l,a<=b)->kD (l.foldl qa o)/\∀j,j∈l.foldl qa o<->j∈o\/j∈l
 | [],o,h1,_,_=>⟨h1,ao⟩
 |v::l,o,h1,ae,an=>by
  rw[gH]at ae;have E:kD (qa o v)/\∀j,j∈qa o v<->j∈o\/j=v:=by
   unfold qa;cases D:o.getLast? with
   |none=>
    simp_all[kD]
   |some C=>
    have H:=List.mem_of_getLast? D;simp only;split
    .rename_i I
     refine⟨?_,ao⟩;grind[kD,List.getLast?_eq_some_iff]
    .rename_i I
     have:C=v:=by have:=an C H v ao;omega
     simp_all
  let⟨J,O⟩:=Ka l _ E.1 ae.2 λa Q b R=>by
   grind
  grind
def hr(l:List Int):List Int:=qY (b5 l)
def uP(l):kD (hr l):=(Ka (b5 l) [] .nil (qW l) ao).1
theorem uO(l j):j∈hr l<->j∈l:=by
 have h:=(Ka _ [] .nil (qW l) ao).2 j;simp_all[hr,b5,qY]
theorem UJ(l):aa (qY l)<=aa l:=by
 have:∀(l o:List _),aa (l.foldl qa o)<=aa o+aa l:=λl=>by
  induction l with
  |nil=>simp
  |cons v l j=>
   grind[qa,f0]
 grind[qY]
def In(l):aa (hr l)<=aa l:=by
 have:=UJ (b5 l);rw[sc]at this;trivial
def MJ(A n c l O)(av:Rd O A n l)(aS:n<=1000000):
  Y 558 #[.slice A n c,.func (.func 287) #[] #[]] O λv ax=>Made 3 (qY l) O v ax:=by
 have h1:aa l=n:=av.len bL;refine cR λ{g F}=>?_;apply bp (E.c7 3 1);apply ak _;refine cL (ι:=Nat×Option _×Nat×List _) (λC=>[(1,.func _ _ _),(5,.slice C.2.1 C.2.2.2.length C.2.2.1),(9,.slice A n c),(10,.int _ _),(11,j (C.1:Nat))]) (λC=>E 3 1 C.2.1 C.2.2.2.length C.2.2.1 (J C.2.2.2)::F::O) (λC=>C.1<=n/\C.2.2.2=qY (l.take C.1)/\(0<C.2.2.2.length->∃b,C.2.1=(U b))) (λC=>n-C.1) (0,af,0,[]) ⟨bO _,by rfl,db⟩ aZ cT ?_;rintro⟨H,az,ai,o⟩ ⟨aF,R,am⟩;simp only at aF R am;dsimp only;have aT:aa o<=H:=by
  grind[UJ,List.length_take]
 apply ak _;refine c0 p (λaD=>?_) (λaD=>?_)
 .obtain⟨aA,aM,rfl,aO⟩:=av.at_ ad;have aG:l[H]?=ab l[H]:=b8 ad;have I:qY (l.take (H+1))=qa (qY (l.take H)) l[H]:=by grind[qY,j4]
  have aP:=(aO _ _ aG).at_ (i:=0) p;generalize l[H]=v at*
  have aW:a5 O ⟨aA,aM+H*1,af⟩ (j v):=aP;rw[<- R]at I;apply bQ _;iterate 3 apply ay _
  apply cc;rcases hh (aa o)with ap|ap
  .have aK:o=[]:=gX ap;subst aK;apply aC _;apply bd λaB=>?_;apply fz λZ ah aH aJ aq=>?_;refine b7 (H+1,Z,ah,[v]) ⟨ad,I.symm,λ_=>aq ao⟩ ad aZ au
  .obtain⟨D,C,rfl⟩:∃D C,o=D++[C]:=by
    rcases List.eq_nil_or_concat o with h|⟨a,b,h⟩
    .simp_all
    grind
   have Q:aa (D++[C])=aa D+1:=ao;obtain⟨W,rfl⟩:=am ap;have aI:(D++[C])[aa D]?=ab C:=ao;have aL:qa (D++[C]) v=if C<v then D++[C]++[v]else D++[C]:=by unfold qa;simp
   rw[aL]at I;have aV:a5 (E 3 1 (U W) (aa D+1) ai (J (D++[C]))::F::O) ⟨W,0+aa D*1,af⟩ (j C):=pX Q aI _;rw[Q];apply ak _;refine GE (f4 p p (wv C v _)) ?_;rintro _ _ ⟨rfl,rfl⟩;apply ak _
   by_cases ar:C<v
   .rw[bJ ar]at I;apply ak _;apply bd λaB=>?_;apply fz λZ ah aH aJ aq=>?_;refine b7 (H+1,Z,ah,D++[C]++[v]) ⟨ad,I.symm,λ_=>aq ao⟩ ad ⟨rfl,by rw[b4,Q];rfl,rfl,rfl,rfl,trivial⟩ ?_;have aE:J (D++[C]++[v])=J (D++[C])++[Value.int .i64 v]:=(gi _ v).symm;simp only[aE];rw[b4,Q];exact au
   .rw[a8 ar]at I;apply ak _;refine b7 (H+1,(U W),ai,D++[C]) ⟨ad,I.symm,λ_=>⟨W,rfl⟩⟩ ad ⟨rfl,by rw[Q];rfl,rfl,rfl,rfl,trivial⟩ ?_;simp only[Q];exact λ_ s=>s
 .have aQ:H=n:=ad;rw[lR ad]at R;subst R;apply ak _;exact aR ⟨az,ai,rfl,am,rfl⟩
end
section
variable{P:bk}{fn:Func}{g:d1}{n:Nat}{K:List fj}{H:cU}{L:Q}{B:Exit->Act->World->Prop}
def W9{ι:Type}{τ:ι->cU}{M:ι->List aG}{Fy:ι->Prop}{l Y:Nat}{W:dc}{I:Array a2}{D E:Tmp}{ah ai:a2}{J O:Code}{az:cU}{ax:Bool->List aG->Prop}{U:LoopState->Option Code->Obj}(aF:U=λaQ q=> .loop ⟨aQ,q,W,I,#[D,E],J,O,Y⟩)(aK:I.size=n)(aP:fP az ⟨I,[]⟩)(aH:eY D n=ag)(R:eY E n=ag)
  (aD:∀g F,g.ie=ab l->g.l3=[]->G P (λ_ _ _=>False) g n [.code J,.inv (λa aq=>∃y,Fy y/\fW g n (τ y) a/\bj g (F::bR l (U .ready af)::M y) aq)] ((E,ai)::(D,ah)::az) (F::bR l (U .ready af)::L))
  (aE:∀g F y,Fy y->g.ie=ab l->g.l3=[]->G P (xM g F l U ax) g n [.code O] (τ y) (F::bR l (U .busy af)::M y)):
  iP P l [ah,ai] (bR l (U .ready af)::L) ax:=λg F aq ap=>by
 subst aF;have aL:=ap.mono λ_ s=>s.swap;have aS:=run_yield (P:=P) (args:=[ah,ai].toArray) aL.jH p;refine⟨W,(I.setIfInBounds D ah).setIfInBounds E ai,J,O,by simp_all,roundIn_of_wpIn trivial ?_⟩;have aI:fW ⟨g.os,g.tape,g.output,[],ab l⟩ n _ _:=⟨aK,rfl,aP⟩;have h1:=aD _ F p p _ aq ((aI.put ah aH).put ai R) ⟨ap.g,ap.s⟩;apply oA (λam aA aT h=>?_) h1;cases am with
 |normal=>
  let⟨y,aB,aJ,aM⟩:=h;have av:=aM.mono λ_ s=>s.swap;refine⟨_,run_beginRound av.jH p,?_⟩;have aO:=(av.fU (.loop ⟨.busy,af,W,I,#[D,E],J,O,Y⟩)).mono λ_ s=>s.swap;have ae:=aE _ F y aB p p aA _ aJ aO;apply oA (λam aR aV an=>?_) ae;cases am with
  |normal=>
   let⟨ar,R,Z⟩:=an;have j:=Z.mono λ_ s=>s.swap;have C:=(j.fU (.loop ⟨.ready,af,W,I,#[D,E],J,O,Y⟩)).mono λ_ s=>s.swap;exact⟨_,_,run_endRound _ j.jH,ag,_,rfl,R,⟨C.g,C.s⟩⟩
  |ret=>
   let⟨ar,R,Z⟩:=an;have j:=Z.mono λ_ s=>s.swap;have C:=(j.fU (.loop ⟨.done,ab .ret,W,I,#[D,E],J,O,Y⟩)).mono λ_ s=>s.swap;exact⟨_,_,run_endRound _ j.jH,al,_,rfl,R,⟨C.g,C.s⟩⟩
  |exit id=>
   let⟨ar,R,Z⟩:=an;have j:=Z.mono λ_ s=>s.swap;have C:=(j.fU (.loop ⟨.done,ab (.exit id),W,I,#[D,E],J,O,Y⟩)).mono λ_ s=>s.swap;exact⟨_,_,run_endRound _ j.jH,al,_,rfl,R,⟨C.g,C.s⟩⟩
  | _=>trivial
 | _=>exact h.elim
def WQ(P:bk)(n:Nat)(H:cU)(l:Nat)(O R:Tmp)(I J:Code)(j:LoopState->Option Code->Obj):Prop:=
 ∀{ι:Type} {τ:ι->cU} {M:ι->List aG} {Fy:ι->Prop} {D E:a2} {L:Q} {C:Bool->List aG->Prop},
  (∀g F,g.ie=ab l->g.l3=[]->G P (λ_ _ _=>False) g n [.code I,.inv (λa U=>∃y,Fy y/\fW g n (τ y) a/\bj g (F::bR l (j .ready af)::M y) U)] ((R,E)::(O,D)::H) (F::bR l (j .ready af)::L))->
  (∀g F y,Fy y->g.ie=ab l->g.l3=[]->G P (xM g F l j C) g n [.code J] (τ y) (F::bR l (j .busy af)::M y))->
  iP P l [D,E] (bR l (j .ready af)::L) C
def VN{ai}{D E:Tmp}{R U W Z ah}{Y:Option Code->List aG->Prop}[aJ:cu P W](aE:g.ie=af)(aA:eY D n=ag)(aB:eY E n=ag)(aD:aX H ai=ab (.func (.func W) Z.toArray ah.toArray))
  (az:∀(l j) (J),WQ P n H l D E R U J->O P W (Z++[Value.func (.yield l) #[] #[]]++ah).toArray (bR l (J .ready af)::bR j (.deferred (ab []))::L)
   λv am=>∃I q C,I≠ .busy/\Y q C/\am=bR l (J I q)::bR j (.deferred (ab []))::C)
  (av:∀j C,Y af C->G P B (g.vj j) n K H (bR j (.deferred (ab []))::C))
  (ax:∀j c C,Y (ab c) C->G P B (g.vj j) n (.code c::K) H (bR j (.deferred (ab []))::C)):
  G P B g n (.code (.rangeFunc ai #[D,E] R U)::K) H L:=
 Mg aE aD (λl j ap aI aF aH=>az l j (λI q=> .loop ⟨I,q,ap,aI,#[D,E],R,U,j⟩) λaq ar=>W9 p aF aH aA aB aq ar) av ax
end
structure bZ where
 k:Int
 ai:aj
 s:aj
@[reducible] def bZ.l (c:bZ):List Value:=[j c.k,j c.ai.id,j c.ai.x,j c.ai.y,j c.s.id,j c.s.x,j c.s.y]
@[reducible] def bZ.v (c:bZ):Value:=.agg c.l.toArray
@[reducible] def f2:aj:=⟨0,0,0⟩
@[reducible] def hz:bZ:=⟨0,f2,f2⟩
def bZ.known(c:bZ):Bool:=decide (1<=c.k)&&decide (c.k<=4)
def bZ.jZ(c:bZ):Bool:=decide (c.k=1)||decide (c.k=2)
def bZ.mH(c:bZ):Bool:=decide (c.k=1)||decide (c.k=3)
def bZ.id(c:bZ):Int:=if c.jZ then c.ai.id else if c.k=3\/c.k=4 then c.s.id else 0
def qG(n:Int):Bool:=decide (1<=n)&&decide (n<=2147483647)
def bZ.iA(c:bZ):Int:=
 if c.known=al\/qG c.id=al then 1
 else if c.k=1/\(ew c.ai.x&&ew c.ai.y)=al then 2
 else if c.k=3/\(ew c.s.x&&ew c.s.y)=al then 2
 else if c.k=3/\c.s.y<c.s.x then 3 else 0
def dW(l:List aj)(n:Int):Bool:=l.any λj=>decide (j.id=n)
def ex(j S:List aj)(C:Int)(c:bZ):Int:=
 if c.iA≠0 then c.iA
 else if c.mH then(if dW (if c.jZ then j else S) c.id then 5 else if C<=(aa j+aa S:Nat)then 4 else 0)
 else if dW (if c.jZ then j else S) c.id then 0 else 6
def gN(l:List aj)(j:aj):List aj:=(l.takeWhile λq=>decide (q.id<j.id))++j::(l.dropWhile λq=>decide (q.id<j.id))
def hT(l:List aj)(n:Int):List aj:=l.eraseP λj=>decide (j.id=n)
def mM(j:List aj)(c:bZ):List aj:=if c.k=1 then gN j c.ai else if c.k=2 then hT j c.ai.id else j
def mN(S:List aj)(c:bZ):List aj:=if c.k=3 then gN S c.s else if c.k=4 then hT S c.s.id else S
theorem oV(l j):(gN l j).Perm (j::l):=by grind[gN,List.takeWhile_append_dropWhile]
theorem v8(l j):aa (gN l j)=aa l+1:=by rw[(oV l j).length_eq];rfl
def hU(l:List aj):Prop:=(l.map (·.id)).Nodup
theorem wZ{l:List aj}{n:Int}:dW l n=ag<->n∈l.map (·.id):=by simp[dW,lm]
theorem PJ{l j}(h:l.Perm j)(n):dW l n=dW j n:=by
 have:=(h.map (·.id)).mem_iff (a:=n);rw[Bool.eq_iff_iff,wZ,wZ];omega
theorem zF{l j}(h:hU l)(C:dW l j.id=al):hU (gN l j):=by grind[hU,oV,wZ]
def PU{l n}(h:hU l):hU (hT l n):=((List.eraseP_sublist ..).map _).nodup h
theorem hU.inj{l}(h:hU l){j q}(E:j∈l)(H:q∈l)(D:j.id=q.id):j=q:=by
 induction l with
 |nil=>trivial
 |cons I l C=>
  unfold hU at h C;grind
theorem sQ{l}(h:hU l){j}(J:j∈l):hT l j.id=l.erase j:=by
 induction l with
 |nil=>rfl
 |cons H l O=>
  have C:=h;unfold hU at C;rw[fu,j3]at C;unfold hT
  by_cases I:H=j
  .simp_all
  .have E:=(df.1 J).resolve_left λD=>I D.symm;have Q:H.id≠j.id:=λD=>C.1 (D▸lm.2 ⟨j,E,rfl⟩);rw[List.eraseP_cons_of_neg bo,List.erase_cons_tail bo];rw[<- O C.2 E];rfl
structure js (M:List (Int×aj)) (l:List aj):Prop where
 k:∀j∈M,j.1=j.2.id
 ai:(M.map (·.2)).Perm l
theorem js.nil:js [] []:=⟨ao,.refl _⟩
theorem js.len{M l}(h:js M l):aa M=aa l:=by rw[<- h.ai.length_eq,List.length_map]
theorem s2:∀(M:List (Int×aj)) (n:Int),(∀x∈M,x.1=x.2.id)->((dL n M=af/\dW (M.map (·.2)) n=al)\/∃p,dL n M=ab p/\p.id=n/\p∈M.map (·.2)/\dW (M.map (·.2)) n=ag)
 | [],n,_=> .inl bD
 |x::M,n,h=>by
  by_cases j:n=x.1
  .simp_all[dL,dW]
  .rcases s2 M n (λy D=>h y bo)with ⟨h1,ae⟩|⟨p,h1,ae,an,C⟩
   .grind[dL,dW]
   simp_all[dL,dW]
theorem js.get{M l}(h:js M l)(n):(dL n M=af/\dW l n=al)\/∃ai,dL n M=ab ai/\ai.id=n/\ai∈l/\dW l n=ag:=by
 rcases s2 M n h.k with ⟨h1,ae⟩|⟨ai,h1,ae,an,j⟩
 .exact .inl ⟨h1,by rw[<- PJ h.ai];omega⟩
 .exact .inr ⟨ai,h1,ae,h.ai.mem_iff.1 an,by rw[<- PJ h.ai];omega⟩
theorem js.is{M l}(h:js M l)(n):(dL n M).isSome=dW l n:=by
 rcases h.get n with ⟨h1,ae⟩|⟨ai,h1,ae,an,j⟩
 .simp_all
 simp_all
theorem Ap{E H:Type}[DecidableEq E](j:E)(C:H):∀M:List (E×H),dL j M=af->f6 j C M=M++[(j,C)]
 | [],_=>rfl
 |x::M,h=>by
  by_cases D:j=x.1
  .simp[dL,D]at h
  .simp[dL,D]at h;simp[f6,D,Ap j C M h]
theorem js.put{M l}(h:js M l){ai}(H:dW l ai.id=al):js (f6 ai.id ai M) (gN l ai):=by
 have C:dL ai.id M=af:=by
  rcases h.get _ with ⟨h1,_⟩|⟨q,_,_,_,E⟩
  .omega
  simp_all
 rw[Ap _ _ _ C];refine⟨λD j=>?_,?_⟩
 .rcases b9.1 j with j|j
  .exact h.k D j
  simp_all
 .rw[List.map_append];exact((h.ai.append_right _).trans List.perm_append_comm).trans (oV l ai).symm
def Oc:∀(M:List (Int×aj)) (n:Int) (j:aj),dL n M=ab j->(M.map (·.2)).Perm (j::(l2 n M).map (·.2))/\∀x∈l2 n M,x∈M
 | [],n,j,h=>by cases h
 |x::M,n,j,h=>by
  by_cases C:n=x.1
  .simp_all[dL,l2]
  .simp[dL,C]at h;obtain⟨h1,ae⟩:=Oc M n j h;simp[l2,fu];grind
theorem js.del{M l}(h:js M l)(H:hU l){n ai}(j:dL n M=ab ai):js (l2 n M) (hT l n):=by
 obtain⟨h1,ae⟩:=Oc M n ai j;rcases h.get n with ⟨an,_⟩|⟨q,an,E,C,_⟩
 .simp_all
 .rw[an]at j;cases j;subst E;refine⟨λD I=>h.k D (ae D I),?_⟩;rw[sQ H C];have J:=h1.symm.trans (h.ai.trans (List.perm_cons_erase C));simp_all
section
attribute [local irreducible] C bh b6
def km{j D:Type}[dE j][dE D][DecidableEq j]{C:Q}{b:Nat}{M:List (j×D)}(h:fL C b M:=by repeat' first|exact fL.here|assumption|apply fL.ap):fL C b M:=h
def fL.ev{j D:Type}[dE j][dE D][DecidableEq j]{C:Q}{b:Nat}{M:List (j×D)}(h:fL C b M):∀{N:Q},fL (N++C) b M
 | []=>h
 | _:: _=>(fL.ev h).ap
instance:nV ar 120 (3,42):=⟨cq⟩
instance:nV ar 121 (3,44):=⟨cq⟩
instance:Fq ar 3:=⟨cq⟩
instance:FK ar 42:=⟨cq⟩
instance:FK ar 44:=⟨cq⟩
def ah9(n j):aY 378 #[.int .i64 n] j (.bool (ew n)) j:=by
 apply cR λ{g F}=>?_;repeat' first|apply aF _|apply bd λ_=>?_|apply aM (λ_=>?_) (λ_=>?_)|fail
 all_goals first|contradiction|(apply dk _;exact⟨by simp_all[cs,ew]<;>(omega),rfl⟩)
def Us(c:bZ)(j):aY 440 #[c.v] j (.tuple #[.int .i64 c.id,.bool c.known]) j:=by
 apply cR λ{g F}=>?_;repeat' first|apply aF _|apply bd λ_=>?_|apply aM (λ_=>?_) (λ_=>?_)|fail
 all_goals first|contradiction|(apply dk _;exact⟨by simp_all[cs,bZ.id,bZ.known,bZ.jZ]<;>omega,rfl⟩)
def vc(c:bZ)(j):aY 402 #[c.v] j (.bool c.mH) j:=by
 apply cR λ{g F}=>?_;repeat' first|apply aF _|apply bd λ_=>?_|apply aM (λ_=>?_) (λ_=>?_)|fail
 all_goals first|contradiction|(apply dk _;exact⟨by simp_all[cs,bZ.mH],rfl⟩)
def bZ.to(c:bZ):Int:=if c.k=1/\(ew c.ai.x&&ew c.ai.y)=al then 2 else if c.k=3/\(ew c.s.x&&ew c.s.y)=al then 2 else if c.k=3/\c.s.y<c.s.x then 3 else 0
def aip(c:bZ)(j):aY 441 #[c.v] j (.int .i64 c.to) j:=by
 have C:=ah9;apply cR λ{g F}=>?_;repeat' first|apply aF _|apply bd λ_=>?_|apply aM (λ_=>?_) (λ_=>?_)|fail
 all_goals first|contradiction|(apply dk _;exact⟨by simp_all[cs,bZ.to]<;>(intros;omega),rfl⟩)
theorem bZ.abC(c:bZ):c.iA=if c.known=al\/qG c.id=al then 1 else c.to:=by rfl
def aig(c:bZ)(j):aY 400 #[c.v] j (.int .i64 c.iA) j:=by
 rw[bZ.abC];have C:=Us c;have D:=aip c;apply cR λ{g F}=>?_;repeat' first|apply aF _|apply bd λ_=>?_|apply aM (λ_=>?_) (λ_=>?_)|fail
 all_goals first|contradiction|(apply dk _;exact⟨by simp_all[cs,qG]<;>(omega),rfl⟩)
section
variable(c:bZ)(t fQ fR:Nat)(bT:Int)(g6 g7:List (Int×aj))(L:Q)
def aie(h:aU L t 0 3 [.map (ab fQ),.map (ab fR),.int .i64 bT])(C:fL L fQ g6)(D:fL L fR g7):aY 401 #[.pointer (ab ⟨t,0,af⟩),c.v] L (.bool (if c.jZ then(dL c.id g6).isSome else(dL c.id g7).isSome)) L:=by
 have j:a5 L ⟨t,0+0,af⟩ (.map (ab fQ)):=h.at_ (i:=0) p;have h1:a5 L ⟨t,0+1,af⟩ (.map (ab fR)):=h.at_ (i:=1) p;have E:=Us c;apply cR λ{g F}=>?_;repeat' first|apply aF _|apply a6 (wO (b2:=Int) (e4:=aj) (j:=c.id) p p km) _|apply bd λ_=>?_|apply aM (λ_=>?_) (λ_=>?_)|fail
 all_goals first|contradiction|(apply dk _;exact⟨by simp_all[cs,bZ.jZ],rfl⟩)
def air(h:aU L t 0 3 [.map (ab fQ),.map (ab fR),.int .i64 bT])(D:fL L fQ g6)(E:fL L fR g7)(C:aa g6+aa g7<=1000000):aY 169 #[.pointer (ab ⟨t,0,af⟩)] L (.int .i64 (aa g6+aa g7:Nat)) L:=by
 have j:=h.at_ (i:=0) p;have h1:=h.at_ (i:=1) p;apply cR λ{g F}=>?_;repeat' first|apply aF _|apply eh p (CD (b2:=Int) (e4:=aj) p km) _|apply bd λ_=>?_|apply aM (λ_=>?_) (λ_=>?_)|fail
 all_goals first|contradiction|(apply dk _;exact⟨by rfl,rfl⟩)
variable(P S:List aj)(ip:js g6 P)(is:js g7 S)
include ip is
theorem AL(h:aU L t 0 3 [.map (ab fQ),.map (ab fR),.int .i64 bT])(R:fL L fQ g6)(U:fL L fR g7)(az:aa P+aa S<=1000000):aY 349 #[.pointer (ab ⟨t,0,af⟩),c.v] L (.int .i64 (ex P S bT c)) L:=by
 have ae:a5 L ⟨t,0+2,af⟩ (.int .i64 bT):=h.at_ (i:=2) p;have E:=λD=>aie c t fQ fR bT g6 g7 (D++L) (.ev h) (.ev R) (.ev U);have H:=λD=>air t fQ fR bT g6 g7 (D++L) (.ev h) (.ev R) (.ev U) (by rw[ip.len,is.len];omega);rw[ip.len,is.len]at H;rw[ip.is,is.is]at E;have W:ex P S bT c=if c.iA≠0 then c.iA else if c.mH=ag then(if(if c.jZ=ag then dW P c.id else dW S c.id)=ag then 5 else if bT<=(aa P+aa S:Nat)then 4 else 0)else if(if c.jZ=ag then dW P c.id else dW S c.id)=ag then 0 else 6:=by
  grind[ex]
 rw[W];generalize(if c.jZ=ag then dW P c.id else dW S c.id)=b at E;apply aD λ{g F}=>?_;apply bd λax=>?_;apply ay _;apply ee _;iterate 2 apply ay _
 apply cd _;refine eG p (λai=>?y5) (λai=>?n5)
 case' n5=>
  apply fK (bE [0,2,3] (.e 1 (.e 4 (.q 5 (.q 6 .nil))))) _;apply dM (aig c _) _;apply dM (E [_,_]) _;refine eG p (λY=>?y12) (λY=>?n12)
  case' n12=>
   apply aC _;apply dQ (vc c _) _;refine h4 p p p (λZ=>?y15) (λZ=>?n15)
   case' n15=>
    apply aC _;apply fK (.q 0 (.e 1 (bE [2,3,5,6,7,8] (.e 4 (.q 9 (.q 10 (.q 11 .nil))))))) _;apply nW p p (vc c _) _;apply bu _;refine FC (C:=27) ag p (λC=>?y60) (λC=>?n60)
    case' n60=>
     apply ak _;apply dQ (vc c _) _;refine h4 p p p (λar=>?y91) (λar=>?n91)
     case' n91=>
      apply dk _;exact⟨by simp_all[cs]<;>(intros;omega),rfl⟩
     case' y91=>
      apply ak _;refine eG p (λav=>?y93) (λav=>?n93)
      case' n93=>
       apply dk _;exact⟨by simp_all[cs]<;>(intros;omega),rfl⟩
      case' y93=>
       apply dk _;exact⟨by simp_all[cs]<;>(intros;omega),rfl⟩
    case' y60=>
     apply f3 dm p p p p ⟨_,rfl,C⟩ p (l5 p);apply f3 dm p p p p ⟨_,rfl,C⟩ p (l5 p)
     (first|apply f3 dm p p p p ⟨_,rfl,C⟩ p (ui p)|apply f3 dm p p p p ⟨_,rfl,C⟩ p (rC ao p))
     apply f3 dm p p p p ⟨_,rfl,C⟩ p (ug p);apply j6 dm p p p p ⟨_,rfl,C⟩ p (fC p ec);apply bF (jQ p p p ⟨_,rfl,C⟩ p (c5 p (H [_,_])) _);rintro _ _ ⟨rfl,rfl⟩;apply cV _;apply f3 dm p p p p ⟨_,rfl,C⟩ p (CA p p);apply fc p (pQ p C p) _;apply ak _;refine eG p (λam=>?y66) (λam=>?n66)
     case' n66=>
      apply aC _;apply dQ (vc c _) _;refine h4 p p p (λap=>?y71) (λap=>?n71)
      case' n71=>
       apply ak _;refine ba p (.tmp p .nil) a1 ⟨by simp_all[cs]<;>(intros;omega),rfl⟩
      case' y71=>
       apply ak _;refine eG p (λaq=>?y73) (λaq=>?n73)
       case' n73=>
        apply ak _;refine ba p (.tmp p .nil) a1 ⟨by simp_all[cs]<;>(intros;omega),rfl⟩
       case' y73=>
        apply ak _;refine ba p (.tmp p .nil) a1 ⟨by simp_all[cs]<;>(intros;omega),rfl⟩
     case' y66=>
      apply ak _;refine ba p (.tmp p .nil) a1 ⟨by simp_all[cs]<;>(intros;omega),rfl⟩
   case' y15=>
    apply ak _;refine eG p (λI=>?y16) (λI=>?n16)
    case' n16=>
     apply fK (.q 0 (.e 1 (bE [2,3,5,6,7,8] (.e 4 (.q 9 (.q 10 (.q 11 .nil))))))) _;apply nW p p (vc c _) _;apply bu _;refine FC (C:=27) ag p (λj=>?y20) (λj=>?n20)
     case' n20=>
      apply sA dm p p p ⟨_,rfl,j⟩ p;apply sA dm p p p ⟨_,rfl,j⟩ p;apply sA dm p p p ⟨_,rfl,j⟩ p;apply sA dm p p p ⟨_,rfl,j⟩ p;apply sA dm p p p ⟨_,rfl,j⟩ p;apply bF (sz p p p ⟨_,rfl,j⟩ p _);apply sA dm p p p ⟨_,rfl,j⟩ p;apply fc p (rD p j p) _;apply ak _;apply a9 (vc c _) _;refine h4 p p p (λO=>?y49) (λO=>?n49)
      case' n49=>
       apply ak _;refine ba p (.tmp p .nil) a1 ⟨by simp_all[cs]<;>(intros;omega),rfl⟩
      case' y49=>
       apply ay _;apply hC p p p O;apply ay _;apply a6 (pQ p O p) _;apply ay _;apply cd _;apply gJ p (by simp[I]);apply bQ _;apply ay _;apply cd _;refine ba p (.tmp p .nil) a1 ⟨by simp_all[cs]<;>(intros;omega),rfl⟩
     case' y20=>
      apply f3 dm p p p p ⟨_,rfl,j⟩ p (l5 p);apply f3 dm p p p p ⟨_,rfl,j⟩ p (l5 p)
      (first|apply f3 dm p p p p ⟨_,rfl,j⟩ p (ui p)|apply f3 dm p p p p ⟨_,rfl,j⟩ p (rC ao p))
      apply f3 dm p p p p ⟨_,rfl,j⟩ p (ug p);apply j6 dm p p p p ⟨_,rfl,j⟩ p (fC p ec);apply bF (jQ p p p ⟨_,rfl,j⟩ p (c5 p (H [_,_])) _);rintro _ _ ⟨rfl,rfl⟩;apply cV _;apply f3 dm p p p p ⟨_,rfl,j⟩ p (CA p p);apply fc p (pQ p j p) _;apply ak _;refine eG p (λah=>?y26) (λah=>?n26)
      case' n26=>
       apply ak _;apply a9 (vc c _) _;refine h4 p p p (λJ=>?y31) (λJ=>?n31)
       case' n31=>
        apply ak _;refine ba p (.tmp p .nil) a1 ⟨by simp_all[cs]<;>(intros;omega),rfl⟩
       case' y31=>
        apply ay _;apply hC p p p J;apply ay _;apply a6 (pQ p J p) _;apply ay _;apply cd _;apply gJ p (by simp[I]);apply bQ _;apply ay _;apply cd _;refine ba p (.tmp p .nil) a1 ⟨by simp_all[cs]<;>(intros;omega),rfl⟩
      case' y26=>
       apply ak _;refine ba p (.tmp p .nil) a1 ⟨by simp_all[cs]<;>(intros;omega),rfl⟩
    case' y16=>
     apply ak _;refine ba p (.tmp p .nil) a1 ⟨by simp_all[cs]<;>(intros;omega),rfl⟩
  case' y12=>
   apply ak _;refine ba p (.tmp p .nil) a1 ⟨by simp_all[cs]<;>(intros;omega),rfl⟩
 case' y5=>
  apply ak _;refine ba p (.tmp p .nil) a1 ⟨by simp_all[cs]<;>(intros;omega),rfl⟩
theorem ahC(R:c.k=1)(E:ex P S bT c=0)(H:aa P+aa S<=1000000):Y 268 #[.pointer (ab ⟨t,0,af⟩),c.v] (ah t 123 [.map (ab fQ),.map (ab fR),.int .i64 bT]::ct fQ g6::ct fR g7::L) λv C=>v=.tuple #[(bZ.mk 2 c.ai f2).v,.int .i64 0]/\C=ah t 123 [.map (ab fQ),.map (ab fR),.int .i64 bT]::ct fQ (f6 c.ai.id c.ai g6)::ct fR g7::L:=by
 have j:=λD=>AL c t fQ fR bT g6 g7 (D++(ah t 123 [.map _,.map _,.int _ bT]::ct fQ g6::ct fR g7::L)) P S ip is (.ev (aU.ah p)) (.ev km) (.ev km) H;rw[E]at j;apply aD λ{g F}=>?_;apply bd λI=>?_;apply bP λJ=>?_;apply dQ (j [_,_,_]) _;apply bg λO=>?_;apply bF (hD cq p p p (ry (b2:=Int) (e4:=aj) (j:=c.ai.id) (v:=c.ai) p p p aN) _);rintro _ _ ⟨rfl,rfl⟩;apply eX _;exact⟨_,bD,au⟩
end
section
variable(c:bZ)(t fQ fR:Nat)(bT:Int)(g6 g7:List (Int×aj))(L:Q)
variable(P S:List aj)(ip:js g6 P)(is:js g7 S)
include ip is
theorem ahD(W:c.k=2)(H:ex P S bT c=0)(J:aa P+aa S<=1000000):Y 268 #[I t,c.v] (ah t 123 [.map (ab fQ),.map (ab fR),j bT]::ct fQ g6::ct fR g7::L) λv D=>v=.tuple #[(bZ.mk 1 ((dL c.ai.id g6).getD f2) f2).v,j 0]/\D=ah t 123 [.map (ab fQ),.map (ab fR),j bT]::ct fQ (l2 c.ai.id g6)::ct fR g7::L:=by
 have C:=λE=>AL c t fQ fR bT g6 g7 (E++(ah t 123 [.map (ab fQ),.map (ab fR),j bT]::ct fQ g6::ct fR g7::L)) P S ip is (.ev (aU.ah p)) (.ev km) (.ev km) J;rw[H]at C;have Z: ¬c.k=1:=ad;apply aD λ{g F}=>?_;apply bd λO=>?_;apply bP λR=>?_;apply dQ (C [_,_,_]) _;apply bg λU=>?_;apply eh p (CE (b2:=Int) (e4:=aj) (j:=c.ai.id) p p km) _;apply ak _;apply bF (hD cq p p p (Oh (b2:=Int) (e4:=aj) (j:=c.ai.id) p p aN) _);rintro _ _ ⟨rfl,rfl⟩;apply eX _;exact⟨_,bD,au⟩
theorem ahE(W:c.k=3)(H:ex P S bT c=0)(J:aa P+aa S<=1000000):Y 268 #[I t,c.v] (ah t 123 [.map (ab fQ),.map (ab fR),j bT]::ct fQ g6::ct fR g7::L) λv D=>v=.tuple #[(bZ.mk 4 f2 c.s).v,j 0]/\D=ah t 123 [.map (ab fQ),.map (ab fR),j bT]::ct fQ g6::ct fR (f6 c.s.id c.s g7)::L:=by
 have C:=λE=>AL c t fQ fR bT g6 g7 (E++(ah t 123 [.map (ab fQ),.map (ab fR),j bT]::ct fQ g6::ct fR g7::L)) P S ip is (.ev (aU.ah p)) (.ev km) (.ev km) J;rw[H]at C;have Z: ¬c.k=1:=ad;have ai: ¬c.k=2:=ad;apply aD λ{g F}=>?_;apply bd λO=>?_;apply bP λR=>?_;apply dQ (C [_,_,_]) _;apply bg λU=>?_;apply bF (hD cq p p p (ry (b2:=Int) (e4:=aj) (j:=c.s.id) (v:=c.s) p p p aN) _);rintro _ _ ⟨rfl,rfl⟩;apply eX _;exact⟨_,bD,au⟩
theorem ahF(W:c.k=4)(H:ex P S bT c=0)(J:aa P+aa S<=1000000):Y 268 #[I t,c.v] (ah t 123 [.map (ab fQ),.map (ab fR),j bT]::ct fQ g6::ct fR g7::L) λv D=>v=.tuple #[(bZ.mk 3 f2 ((dL c.s.id g7).getD f2)).v,j 0]/\D=ah t 123 [.map (ab fQ),.map (ab fR),j bT]::ct fQ g6::ct fR (l2 c.s.id g7)::L:=by
 have C:=λE=>AL c t fQ fR bT g6 g7 (E++(ah t 123 [.map (ab fQ),.map (ab fR),j bT]::ct fQ g6::ct fR g7::L)) P S ip is (.ev (aU.ah p)) (.ev km) (.ev km) J;rw[H]at C;have Z: ¬c.k=1:=ad;have ai: ¬c.k=2:=ad;have am: ¬c.k=3:=ad;apply aD λ{g F}=>?_;apply bd λO=>?_;apply bP λR=>?_;apply dQ (C [_,_,_]) _;apply bg λU=>?_;apply eh p (CE (b2:=Int) (e4:=aj) (j:=c.s.id) p p km) _;apply ak _;apply bF (hD cq p p p (Oh (b2:=Int) (e4:=aj) (j:=c.s.id) p p aN) _);rintro _ _ ⟨rfl,rfl⟩;apply eX _;exact⟨_,bD,au⟩
end
def ahI(c R J O Q E H C D S)(ai:js E D)(am:js H S)(h:aU C R 0 3 [.map (ab J),.map (ab O),j Q])(Z:fL C J E)(ah:fL C O H)(Y:aa D+aa S<=1000000):aY 406 #[I R,c.v] C (j (ex D S Q c)) C:=by
 have W:=λU=>AL c R J O Q E H (U++C) D S ai am (.ev h) (.ev Z) (.ev ah) Y;apply aD λ{g F}=>?_;apply bP λap=>?_;apply a9 (W [_,_]) _;exact aR bD
section
variable(n:Int)(t fQ fR:Nat)(bT:Int)(g6 g7:List (Int×aj))(L:Q)(h:aU L t 0 3 [.map (ab fQ),.map (ab fR),j bT])(eD:fL L fQ g6)(aaP:fL L fR g7)
include h eD aaP
theorem ahK:Y 444 #[I t,j n] L λv C=>v=.tuple #[dE.v ((dL n g6).getD f2),.bool (dL n g6).isSome]/\C=L:=by
 have E:=h.at_ (i:=0) p;apply aD λ{g F}=>?_;apply bP λD=>?_;apply a6 (wO (e4:=aj) (j:=n) p p km) _;apply eX _;exact⟨_,bD,au⟩
theorem ahP:Y 445 #[I t,j n] L λv C=>v=.tuple #[dE.v ((dL n g7).getD f2),.bool (dL n g7).isSome]/\C=L:=by
 have h1:=h.at_ (i:=1) p;apply aD λ{g F}=>?_;apply bP λD=>?_;apply a6 (wO (e4:=aj) (j:=n) p p km) _;apply eX _;exact⟨_,bD,au⟩
end
def JS(C)(h1:1<=C)(ae:C<=1048576)(D):Y 49 #[j C] D λv O=>∃J E H,v=.tuple #[I J,j 0]/\O=ah J 123 [.map (ab E),.map (ab H),j C]::ct E ([]:List (Int×aj))::ct H ([]:List (Int×aj))::D:=by
 apply bt λ{g F}=>?_;apply GE (ze (b2:=Int) (e4:=aj)) _;rintro _ _ ⟨Q,rfl,rfl⟩;apply GE (ze (b2:=Int) (e4:=aj)) _;rintro _ _ ⟨R,rfl,rfl⟩;apply ak _;apply bg λU=>?_;exact aR ⟨_,_,_,rfl,rfl⟩
end
structure jo (j:Nat) (S C:List Nat) (D k:Nat):Prop where
 a:∀a∈C,a∈S
 n:C.length<=j+1
 i:D<=1000*j
 k:k<=j
theorem jo.up{E H S C D I k}(h:jo E S D I k)(j:E<=H)(J:∀a∈S,a∈C):jo H C D I k:=⟨λa O=>J a (h.a a O),hj h.n (Nat.succ_le_succ j),hj h.i (Nat.mul_le_mul_left _ j),hj h.k j⟩
def Jc{M:Q}{A j R}:aS (A::j::R::M) (R::A::j::M):=λh q=>C.perm ((List.Perm.cons A (List.Perm.swap R j M)).trans (List.Perm.swap R A (j::M))) q
theorem jo.next{D}{S C as0 ks:List Nat}{a E H k}(h:jo D S (as0++[a]) E k)(I:∀a∈S,a∈C)(Q:∀c∈ks,c∈C)(R:aa ks<=2)(O:H<=E+1000):jo (D+1) C (as0++ks.reverse) H (k+1):=by
 have J:=h.n;have U:=h.i;have W:=h.k;rw[b4]at J;refine⟨λc j=>?_,?_,ad,ad⟩
 .rcases b9.1 j with j|j
  .exact I c (h.a c (b9.2 (.inl j)))
  simp_all
 grind
def yy(M:Q)(v:a2)(j:Q):Prop:=∃(A:a3) (c:Nat) (l:List Int),v=.slice A (aa l) c/\(0<aa l->∃b,A=(U b))/\aa l<=100000000/\j=E 3 1 A (aa l) c (J l)::M
section
attribute [local irreducible] C bh b6
@[reducible] def lD (C q:Int):Value:=.iface 293 (.agg #[j C,j q])
def Uq(D q)(J:q≠0)(C):m4 ar 275 #[j D,j q] C (lD D q) λE=>E=C:=by
 apply pt Tryz.func275 p p p;intro g F;apply ak _;apply a6 (OU p) _;exact VC (U:= #[]) p λa O H I=>pj p H p I
def FJ(C q)(I:q≠0)(D):m4 ar 190 #[j C,j q] D (lD C q) λE=>E=D:=by
 apply pt Tryz.func190 p p p;intro g F;apply aC _;exact oK p (Uq C q I _) λa Q E J H O=>pj p J p (H▸O)
section
variable(s:Nat)(b c d e f g1 h:Int)(zC: ¬(1<=b/\b<=4))(L:Q)(aaQ:a5 L ⟨s,0,af⟩ (j 0))
include zC aaQ
end
end
def qw(D:BinOp)(j:IntKind)(C q:Int):Int:=match D with
 | .and=>j.wrap (hf j.bits C&&&hf j.bits q).toNat
 | .or=>j.wrap (hf j.bits C|||hf j.bits q).toNat
 | .xor=>j.wrap (hf j.bits C ^^^ hf j.bits q).toNat
 | _=>j.wrap (hf j.bits C&&& ~~~ hf j.bits q).toNat
section
variable{P:bk}{L:Q}{H:cU}{d:Option Nat}{aO T ci:bq}{pos:String}{aT:Array Edge}{a7:Option (Nat×Bool)}{x y:cJ}{k UU rJ:IntKind}{ai q:Int}
def GF(j:aX H x=ab (.int k ai))(C:aX H y=ab (.int k q)):bh P L H ⟨d,.binOp .add T x y ci,aO,pos,aT,a7⟩ (.int k (k.wrap (ai+q))):=kF _ _ ai q _ j C λD=>by simp[binOp,tJ]
def O2(j:aX H x=ab (.int k ai))(C:aX H y=ab (.int k q)):bh P L H ⟨d,.binOp .sub T x y ci,aO,pos,aT,a7⟩ (.int k (k.wrap (ai-q))):=kF _ _ ai q _ j C λD=>by simp[binOp,tJ]
def OX(j:aX H x=ab (.int k ai))(C:aX H y=ab (.int k q)):bh P L H ⟨d,.binOp .mul T x y ci,aO,pos,aT,a7⟩ (.int k (k.wrap (ai*q))):=kF _ _ ai q _ j C λD=>by simp[binOp,tJ]
def ZK(j:aX H x=ab (.int k ai))(C:aX H y=ab (.int k q)):bh P L H ⟨d,.binOp .and T x y ci,aO,pos,aT,a7⟩ (.int k (qw .and k ai q)):=kF _ _ ai q _ j C λD=>by simp[binOp,q2,qw]
def Z1(j:aX H x=ab (.int k ai))(C:aX H y=ab (.int k q)):bh P L H ⟨d,.binOp .or T x y ci,aO,pos,aT,a7⟩ (.int k (qw .or k ai q)):=kF _ _ ai q _ j C λD=>by simp[binOp,q2,qw]
def O3(j:aX H x=ab (.int k ai))(C:aX H y=ab (.int k q)):bh P L H ⟨d,.binOp .xor T x y ci,aO,pos,aT,a7⟩ (.int k (qw .xor k ai q)):=kF _ _ ai q _ j C λD=>by simp[binOp,q2,qw]
def ZJ(j:aX H x=ab (.int k ai))(C:aX H y=ab (.int k q)):bh P L H ⟨d,.binOp .andNot T x y ci,aO,pos,aT,a7⟩ (.int k (qw .andNot k ai q)):=kF _ _ ai q _ j C λD=>by simp[binOp,q2,qw]
def GH(j:aX H x=ab (.int k ai))(C:aX H y=ab (.int UU q))(E:0<=q):bh P L H ⟨d,.binOp .shl T x y ci,aO,pos,aT,a7⟩ (.int k (k.wrap (ai*2 ^ min q.toNat k.bits))):=
 jU .shl _ _ _ (λD=>rfl) j C λD=>by simp[binOp,x6,show ¬q<0 by omega]
def GI(j:aX H x=ab (.int k ai))(C:aX H y=ab (.int UU q))(E:0<=q):bh P L H ⟨d,.binOp .shr T x y ci,aO,pos,aT,a7⟩ (.int k (ai.fdiv (2 ^ min q.toNat k.bits))):=
 jU .shr _ _ _ (λD=>rfl) j C λD=>by simp[binOp,x6,show ¬q<0 by omega]
def n2[C:qo P T k][j:qo P ci rJ](I:aX H x=ab (.int k ai)):bh P L H ⟨d,.convert T ci x,aO,pos,aT,a7⟩ (.int rJ (rJ.wrap ai)):=λa J E _=>by
 simp[execOp,E.eval I];have D:P.intKind ci=rJ:=by unfold Program.intKind;rw[j.h]
 have O:=run_convert_int J T ci k ai (by rw[C.h];rfl) (by rw[D];exact j.h);simp_all
end
section
attribute [local irreducible] C bh b6
@[reducible] def gE (C:Nat->Int):List Value:=[j (C 0),j (C 1),j (C 2),j (C 3),j (C 4),j (C 5),j (C 6),j (C 7),j (C 8),j (C 9),j (C 10),j (C 11),j (C 12),j (C 13),j (C 14),j (C 15),j (C 16),j (C 17)]
@[reducible] def gF (C:Nat->Int):Value:=.agg #[j (C 0),j (C 1),j (C 2),j (C 3),j (C 4),j (C 5),j (C 6),j (C 7),j (C 8),j (C 9),j (C 10),j (C 11),j (C 12),j (C 13),j (C 14),j (C 15),j (C 16),j (C 17)]
@[reducible] def agz (D:Int) (C:Nat->Int) (E b:Int):List Value:=[j D,j (C 0),j (C 1),j (C 2),j (C 3),j (C 4),j (C 5),j (C 6),j (C 7),j (C 8),j (C 9),j (C 10),j (C 11),j (C 12),j (C 13),j (C 14),j (C 15),j (C 16),j (C 17),j E,j b]
@[reducible] def dX (s:Nat) (j:Int) (C:Nat->Int) (D b:Int):aG:=ah s 144 (agz j C D b)
section
variable(s:Nat)(ai:Int)(r:Nat->Int)(t b:Int)
def Ei(C:Q):aY 56 #[I s] (dX s ai r t b::C) (j ai) (dX s ai r t b::C):=by
 refine bt ?_;exact aR bD
def ago(j:Q):Y 129 #[I s] (dX s ai r t b::j) λv C=>(∃(D:Nat->Int) (E:Bool),v=.tuple #[gF D,.bool E])/\C=dX s ai r t b::j:=by
 refine aD ?_;refine bd λH=>?_;apply ay _;apply cc
 by_cases J:ai=0
 .apply eX _;exact⟨_,⟨⟨λ_=>0,_,rfl⟩,rfl⟩,au⟩
 .apply ak _
  by_cases O:ai=4
  .apply eX _;exact⟨_,⟨⟨λ_=>0,_,rfl⟩,rfl⟩,au⟩
  .apply eX _;exact⟨_,⟨⟨r,_,rfl⟩,rfl⟩,au⟩
def u9(E A l n)(Z:aa l=n)(Y:n<=100)(ah:ai∈l)(D)(J:Rd D A n l)(h:a5 D ⟨s,0,af⟩ (j ai)):aY 189 #[I s,j E,.slice A n n] D (.tuple #[]) D:=by
 refine bt λ{g F}=>?_;refine cL (λC=>[(0,.pointer _),(1,.int _ E),(8,.slice A n n),(9,.int _ _),(10,.int _ (C:Nat))]) (λ_=>F::D) (λC=>C<=n/\ai∈l.drop C) (λC=>n-C) 0 ⟨bO _,by assumption⟩ aZ cf ?_;rintro C ⟨am,R⟩;have W:C<n:=by
  grind
 obtain⟨ap,aq,rfl,Q⟩:=J.at_ ad;have H:l[C]?=ab _:=b8 ad;have U:=(Q _ _ H).at_ (i:=0) p;rw[sp ad]at R;generalize l[C]=ar at*
 have av:=U;apply ak _;refine c0 p (λO=>?_) (λO=>?_)
 .exact ba (D:=[]) (j:=[]) (C:=D) p .nil au bD
 .apply ak _;exact b7 (C+1) ⟨ad,by
   simp_all⟩ ad aZ a1
def AF(E)(R:E≠0)(A l n)(aq:aa l=n)(ap:n<=100)(W:ai∉l)(D)(Q:Rd D A n l)(h:a5 D ⟨s,0,af⟩ (j ai)):m4 ar 189 #[I s,j E,.slice A n n] D (lD ai E) λJ=>J=D:=by
 refine pt Tryz.func189 p p p ?_;intro g F;apply aC _;apply cc;apply fV _;apply ef (ι:=Unit) (λ_=>[(0,I s),(1,j E)]) (λ_=>F::D) (λ_=>True) _ _
 .apply bs _;apply cL (λC=>[(0,.pointer _),(1,.int _ E),(8,.slice A n n),(9,.int _ _),(10,.int _ (C:Nat))]) (λ_=>F::D) _ (λC=>n-C) 0 (bO _) aZ cf;rintro C ax;rcases dZ C n with U|U
  .obtain⟨az,aA,rfl,ah⟩:=Q.at_ ad;have O:l[C]?=ab l[C]:=b8 ad;have am:=(ah _ _ O).at_ (i:=0) p;have av: ¬ai=l[C]:=λH=>W (H▸gG _);generalize l[C]=aD at*
   have aE:=am;apply ak _;exact b7 (C+1) ad ad aZ a1
  .apply ak _;exact cC () trivial aZ a1
 .rintro⟨⟩-;apply aC _;exact oK p (FJ ai E R (F::D)) λa aB J Y H Z=>pj p Y p (H▸Z)
def xJ(b)(E:Nat)(C)(D:Q):Rd (ah b E [j C]::D) (U b) 1 [C]:=bf.ah p
def agD(D:ai=1):Y 353 #[I s] [dX s ai r t b] λv j=>∃E H,j=[dX s E r H b]:=by
 subst D;refine aD ?_;refine bd λJ=>?_;refine sf (u9 s 1 10 _ _ 1 p bL ao _ (xJ _ _ _ _) ec) ?_;refine c0 p (λC=>?_) (λC=>?_)
 .apply ak _;exact er (D:=[]) (j:=[]) (C:=[dX s 2 r (IntKind.i64.wrap (t+1)) b]) p .nil au ⟨_,_,rfl⟩
 .exact bs (er (D:=[]) (j:=[]) (C:=[dX s 1 r (IntKind.i64.wrap (t+1)) b]) p .nil au ⟨_,_,rfl⟩)
def agE(Q:ai≠1):m4 ar 353 #[I s] [dX s ai r t b] (lD ai 10) λj=>∃H J,j=[dX s H r J b]:=by
 refine pt Tryz.func353 p p p ?_;intro g F;apply aC _;apply bd λO=>?_;exact oK p (AF s ai 10 ao _ _ 1 p ao bo _ (xJ _ _ _ _) ec) λa R j D C E=>pj rfl D ⟨_,_,rfl⟩ ((C▸E).mono au)
def agN(C:ai=2):Y 280 #[I s] [dX s ai r t b] λv j=>∃D,j=[dX s D r t b]:=by
 subst C;refine aD ?_;refine bd λE=>?_;refine a9 (u9 s 2 10 _ _ 1 p bL ao _ (xJ _ _ _ _) ec) ?_;exact er rfl .nil au ⟨_,rfl⟩
def agO(O:ai≠2):m4 ar 280 #[I s] [dX s ai r t b] (lD ai 10) λj=>∃H,j=[dX s H r t b]:=by
 refine pt Tryz.func280 p p p ?_;intro g F;apply aC _;apply bd λJ=>?_;exact oK p (AF s ai 10 ao _ _ 1 p ao bo _ (xJ _ _ _ _) ec) λa Q j D C E=>pj rfl D ⟨_,rfl⟩ ((C▸E).mono au)
def TJ(q:Int)(C:Q):aY 95 #[I s,j q] (dX s ai r t b::C) (gF r) (dX s q (λ_=>0) t b::C):=by
 refine aD ?_;refine bP λD=>?_;apply bg λE=>?_;apply eX _;exact⟨_,bD,au⟩
def af6(C:Q):Y 57 #[I s] (dX s ai r t b::C) λv D=>∃(J:Nat->Int) (q H:Int) (R:Nat->Int),v=.tuple #[gF J,j q]/\D=dX s H R t b::C:=by
 refine aD ?_;refine bg λU=>?_;refine c0 p (λE=>?_) (λE=>?_)
 .apply eX _;exact⟨_,⟨λ_=>0,_,ai,r,rfl,rfl⟩,au⟩
 .apply ak _;apply a9 (O.pick aN (TJ s ai r t b 4 _)) _;apply eX _;exact⟨_,⟨r,_,4,λ_=>0,rfl,rfl⟩,au⟩
end
@[reducible] def lL (A:a3) (C c a n:Nat) (D:Int):List Value:=[.slice A C c,j (a:Nat),j (n:Nat),j D]
section
variable(r:Nat)(A:a3)(m c a n:Nat)(bT:Int)
def xN(D C)(h:aU C r 0 4 (lL A m c a n bT))(O:0<m)(H:a<=1000)(J:D<=1000)(Q:m<=1000):aY 207 #[I r,j (D:Nat)] C (j ((a+D) % m:Nat)) C:=by
 have E:=h.at_ (i:=0) p;have h1:=h.at_ (i:=1) p;refine AN ?_;refine dY ?_;exact c8
variable(l:List Int)(nl:n<=m)(zB:a<=m)(fX:m<=200)
include nl zB fX
theorem Ty(v D)(h:aU D r 0 4 (lL A m c a n bT))(ar:aa l=m)(R:Rd D A m l):Y 134 #[I r,j v] D λai O=>(∃(C:Nat) (J:Bool),ai=.tuple #[j (C:Nat),.bool J]/\(J=ag->C<n))/\O=D:=by
 have aq:=h.at_ (i:=0) p;have ae:=h.at_ (i:=2) p;have E:=λah D h h1 ae=>xN r A m c a n bT ah D h h1 ad ae ad;refine aD λ{g F}=>?_;apply cc;apply fV _;apply ef (ι:=Unit) (λ_=>[]) (λ_=>F::D) (λ_=>True) _ _
 .apply bs _;apply cL (λC=>[(0,.pointer _),(1,.int _ v),(12,.int _ _),(13,.int _ (C:Nat))]) (λ_=>F::D) _ (λC=>n-C) 0 (bO _) aZ cf;rintro C az;rcases dZ C n with H|H
  .have av:(a+C) % m<m:=q6 _ ad;have Q:l[(a+C) % m]?=ab _:=b8 ad;obtain⟨aA,aB,rfl,Z⟩:=R.at_ ad;have am:=(Z _ _ Q).at_ (i:=0) p;generalize l[(a+C) % m]=aE at*
   generalize W:(a+C) % m=ax at*
   have aF:=am;have E:=E C (F::D) h.ap ad ad;rw[W]at E;apply ak _;apply fK (bE [0,1,2,3,4,5,9] (.e 6 (.q 7 (.q 8 (.q 10 .nil))))) _;apply dM (E) _;refine c0 p (λU=>?_) (λU=>?_)
   .apply ak _;exact aR ⟨⟨C,ag,rfl,λ_=>H⟩,rfl⟩
   .apply ak _;exact b7 (C+1) ad ad aZ a1
  .apply ak _;exact cC () trivial trivial a1
 .rintro⟨⟩-;apply dk _;exact⟨⟨0,al,rfl,λh=>(by cases h)⟩,rfl⟩
theorem afm(C)(h:aU C r 0 4 (lL A m c a n bT))(aP:aa l=m)(ar:Rd C A m l):Y 278 #[I r] C λaE W=>∃(H:a3) (O:Nat) (o:List Int),aE=.slice H (aa o) O/\(0<aa o->∃b,H=(U b))/\W=E 3 1 H (aa o) O (J o)::C:=by
 have aM:=h.at_ (i:=0) p;have ae:=h.at_ (i:=2) p;have Q:=λaB C h h1 ae=>xN r A m c a n bT aB C h h1 ad ae ad;refine aD λ{g F}=>?_;apply cc;apply fV _;apply bp (E.c7 3 1);apply ef (ι:=Option _×Nat×List Int) (λy=>[(3,.slice y.1 y.2.2.length y.2.1)]) (λy=>E 3 1 y.1 y.2.2.length y.2.1 (J y.2.2)::F::C) (λy=>0<y.2.2.length->∃b,y.1=(U b)) _ _
 .apply bs _;refine cL (ι:=Nat×Option _×Nat×List Int) (λy=>[(0,.pointer _),(3,.slice y.2.1 y.2.2.2.length y.2.2.1),(10,j (n:Nat)),(11,j (y.1:Nat))]) (λy=>E 3 1 y.2.1 y.2.2.2.length y.2.2.1 (J y.2.2.2)::F::C)
   (λy=>y.1<=n/\y.2.2.2.length=y.1/\(0<y.2.2.2.length->∃b,y.2.1=(U b))/\y.2.2.2.length<=y.2.2.1/\y.2.2.1<=maxLen) (λy=>n-y.1) (0,af,0,[]) ⟨bO _,rfl,db,bC _,bO _⟩ aZ au ?_
  rintro⟨D,H,O,o⟩ ⟨aI,aJ,am,aK,aL⟩;rcases dZ D n with ax|ax
  .have aQ:(a+D) % m<m:=q6 _ ad;have aq:l[(a+D) % m]?=ab l[(a+D) % m]:=b8 ad;obtain⟨aV,aW,rfl,aA⟩:=ar.at_ ad;have aG:=(aA _ _ aq).at_ (i:=0) p;generalize l[(a+D) % m]=aF at*
   generalize av:(a+D) % m=aT at*
   have aX:=aG;have Q:=λZ=>Q D (Z::F::C) h.ap.ap ad ad;rw[av]at Q;apply ak _;apply dM (Q _) _;apply h5 λaH=>?_;apply nH λR ah aO az aS=>?_;refine b7 (D+1,R,ah,o++[aF]) ⟨ad,by simp_all,bo,bo,az⟩ ad ⟨rfl,by simp;rfl,rfl,rfl,trivial⟩ ?_;rw[<- gi,b4];exact au
  .apply ak _;exact cC (H,O,o) am ⟨rfl,trivial⟩ a1
 .rintro⟨H,O,o⟩ ai;apply ak _;exact aR ⟨H,O,o,rfl,ai,rfl⟩
end
end
theorem adi(j n):(madeCells #[j] n).toList=gv n j:=by
 apply List.ext_getElem
 .simp[size_madeCells]
 .intro C h1 ae;simp[madeCells,Nat.mod_one]
section
variable{P:bk}{g:d1}{L M:Q}{H:cU}{d:Option Nat}{aO T ci:bq}{pos:String}{aT:Array Edge}{a7:Option (Nat×Bool)}{x y:cJ}{v:a2}
def zf{C Y j:Nat}{am ai I}[aq:eu P T (C,1,Y)][R:cG P C [I]](aH:aX H x=ab (.int am (j:Int)))(aI:aX H y=ab (.int ai (j:Int)))
  (aW:j*Y<=140737488355328) (aZ:j<=140737488355328):
  b6 P g L H ⟨d,.makeSlice T x y,aO,pos,aT,a7⟩ λaM ar=>∃W,aM=.slice (U W) j j/\ar=E C 1 (U W) j j (gv j I)::L:=λa ap ah aG aR aS az=>by
 obtain⟨D,J,aF,aB,a0,aY,aD,-⟩:=aq.zero R;have a3:J.cells= #[I]:=by
  have h:=R.h;grind
 have aA:(D.bytes:Int)*(j:Int)<=281474976710656:=by
  grind
 have aE:=run_make ap T C D J aF aB aD am ai j j ao (Int.le_refl _) aA ad;unfold Oper.wp;simp[execOp,ah.eval aH,ah.eval aI];simp[aE];have O:=aG.alloc C (madeCells J.cells (j*D.size)).toList;rw[Array.toArray_toList]at O;apply az _ _ _ ⟨ap.heap.size,rfl,rfl⟩;obtain⟨aJ,aK,av,aP,aQ,Z,aL⟩:=O.s;refine⟨O.g,aJ,aK,av,aP,aQ,?_,aL⟩;have ax:(madeCells J.cells (j*D.size)).toList=gv j I:=by
  simp_all[adi]
 rw[ax]at Z;have aV:=E.gP (eF:=1) (c:=j) Z ao (bC _) (by unfold maxLen;omega);simp_all
end
section
attribute [local irreducible] C bh b6
theorem CM:∀l:List Int,J l=l.map (Value.int .i64)
 | []=>rfl
 |a::l=>by rw[h9,CM l];rfl
theorem zv(l C D):(J l).set (0+C*1) (j D)=J (l.set C D):=by rw[h3,ym,CM,CM,Ls]
def Hw{b n c C l D}(O:aa l=n)(h:l[C]?=ab D)(H:Q):a5 (E 3 1 (U b) n c (J l)::H) ⟨b,0+C*1,af⟩ (j D):=by
 have Y:=(h2.1 h).1;have W:Rd (E 3 1 _ n c _::H) _ n l:=bf.E (by rw[ck,O];rfl) (λ_=>⟨b,rfl⟩);obtain⟨_,_,I,R⟩:=W.at_ ad;cases I;exact(R C D h).at_ (i:=0) p
@[reducible] def r4 (D b j c a n:Nat) (C:Int) (l:List Int):List aG:=[ah D 203 (lL (U b) j c a n C),E 3 1 (U b) j c (J l)]
section
variable(r b m c a n:Nat)(bT:Int)(l:List Int)(w0:l.length=m)(nl:n<=m)(zB:a<m)(fX:m<=200)(wY:0<n)
include w0 nl zB fX wY
theorem afG:Y 135 #[I r,j (0:Nat)] (r4 r b m c a n bT l) λv D=>∃C,aa C=m/\D=r4 r b m c ((a+1) % m) (n-1) bT C:=by
 have O:=λH h=>xN r (U b) m c a n bT 1 H h ad ad ao ad;generalize R:(a+1) % m=Q at*
 refine aD ?_;refine ed (bE [0,1,2,3,4,5,6,7,8,9] (.e 10 .nil)) ?_;iterate 9 apply bu _
 refine fc p (iV p p ad) ?_;refine bF (hD bN p p p (lB p p p aN ad) ?_);rintro _ _ ⟨rfl,rfl⟩;refine aC ?_;refine sf (O _ cA) ?_;exact ba (D:=[]) (j:=[]) (C:=[ah r 203 (lL (U b) m c Q (n-1) bT),E 3 1 (U b) m c ((J l).set (0+a*1) (j 0))]) p .nil au ⟨l.set a 0,by simp_all,by rw[zv]⟩
theorem afH(H)(av:H<n)(aB:H≠0):Y 135 #[I r,j (H:Nat)] (r4 r b m c a n bT l) λv aq=>∃am,aa am=m/\aq=r4 r b m c a (n-1) bT am:=by
 have W:=λH D h=>xN r (U b) m c a n bT H D h ad ad;have R:∀C,(a+C) % m<m:=λC=>q6 _ ad;refine aD λ{g F}=>?_;apply cd _;refine e9 p (cw ad) ?_;apply fV _;apply ef (λ_=>[(0,I r),(4,j 0)]) (λy=>F::r4 r b m c a n bT y) (λy=>aa y=m) _ _
 .apply bs _;apply cL (λy=>[(0,.pointer _),(1,.int _ (y.1:Nat)),(4,.int _ 0)]) (λy=>F::r4 r b m c a n bT y.2) (λy=>y.1<n/\y.2.length=m) (λy=>n-y.1) (H,l) ⟨av,w0⟩ aZ au;rintro⟨C,y⟩ ⟨aA,Q⟩;rcases dZ C _ with ax|ax
  .obtain⟨ai,ar⟩:∃ai,y[(a+(C+1)) % m]?=ab ai:=⟨_,b8 bo⟩;have h1:=R C;have ae:=R (C+1);have Z:=λD h=>W C D h ad ad;have az:=λD h=>W (C+1) D h ad ad;generalize(a+C) % m=O at*
   generalize(a+(C+1)) % m=aE at*
   apply dY _;apply pn (bE [0,1,2,3,4,5,7,8,9,10,11,12,13] (.e 6 (.e 14 (bE [15,16,17] (.e 18 .nil))))) _;apply dM (Z _ cA) _;apply UD (az _ cA) _;refine eh p (fC p (by repeat' first|exact Hw Q ar _|apply a5.ap)) ?_;refine fc p (iV p p ad) ?_;refine bF (hD bN p p p (lB p p p aN ad) ?_);rintro _ _ ⟨rfl,rfl⟩;refine dY ?_;refine b7 (C+1,y.set O ai) ⟨ad,by simp_all⟩ ad aZ ?_;simp only[r4];rw[<- zv];exact au
  .apply dY _;exact cC y Q aZ a1
 .rintro y Q;have h1:=R (n-1);have Z:=λD h=>W (n-1) D h ad ad;generalize(a+(n-1)) % m=O at*
  apply pn (bE [0,1,2,3,4,5,6,7,8,9,11] (.e 10 (.q 12 (.e 13 .nil)))) _;refine nW p p (Z _ cA) ?_;refine fc p (iV p p ad) ?_;refine bF (hD bN p p p (lB p p p aN ad) ?_);rintro _ _ ⟨rfl,rfl⟩;refine dY ?_;exact er (D:=[]) (j:=[]) (C:=[ah r 203 (lL (U b) m c a (n-1) bT),E 3 1 (U b) m c ((J y).set (0+O*1) (j 0))]) p .nil au ⟨y.set O 0,by simp_all,by rw[zv]⟩
end
end
section
attribute [local irreducible] C
section
variable{P:bk}{L:Q}{H:cU}{d:Option Nat}{aO T ci:bq}{pos:String}{aT:Array Edge}{a7:Option (Nat×Bool)}{x y:cJ}
def ZW{q:Nat}(D:aX H x=ab (j 2))(E:aX H y=ab (j (q:Int)))(I:q<=1000000):bh P L H ⟨d,.binOp .mul T x y ci,aO,pos,aT,a7⟩ (j ((2*q:Nat):Int)):=by
 have C:((2*q:Nat):Int)=2*(q:Int):=by rfl
 rw[C];exact OW D E ad
end
section
variable(r:Nat)(A:a3)(m c a n:Nat)(bT:Int)(l:List Int)(w0:l.length=m)(nl:n<=m)(zB:a<=m)(fX:m<=70)(GZ:0<m->∃b,A=(U b))
include w0 nl zB fX GZ
theorem afU:Y 277 #[I r] [ah r 203 (lL A m c a n bT),E 3 1 A m c (J l)] λv Z=>∃b R,aa R=2*m+1/\Z=r4 r b (2*m+1) (2*m+1) 0 n bT R:=by
 have Q:=λaq C h=>xN r A m c a n bT aq C h;have az:∀C,Rd (E 3 1 A m c _::C) A m l:=λC=>bf.E (by rw[ck,w0];rfl) GZ;refine cR λ{g F}=>?_;apply bQ _;iterate 5 apply ay _
 refine a6 (ZW p p ad) ?_;refine a6 (pP (q:=1) p p ad) ?_;refine st p p (zf p p ad ad) ?_;rintro _ _ ⟨H,rfl,rfl⟩;apply aC _;apply cc;have ai:gv (2*m+1) (Value.int .i64 0)=J (gv (2*m+1) (0:Int)):=by rw[CM,List.map_replicate]
 rw[ai];apply fV _;apply ef (ι:=List Int) (λ_=>[(0,I r),(2,.slice (U H) (2*m+1) (2*m+1))]) (λy=>E 3 1 (U H) (2*m+1) (2*m+1) (J y)::F:: [ah r 203 (lL A m c a n bT),E 3 1 A m c (J l)]) (λy=>aa y=2*m+1) _ _
 .apply bs _;refine cL (ι:=Nat×List Int) (λy=>[(0,.pointer _),(2,.slice _ _ _),(15,.int _ _),(16,.int _ (y.1:Nat))]) (λy=>E 3 1 (U H) (2*m+1) (2*m+1) (J y.2)::F:: [ah r 203 (lL A m c a n bT),E 3 1 A m c (J l)]) (λy=>y.1<=n/\y.2.length=2*m+1) (λy=>n-y.1) (0,gv (2*m+1) 0) ⟨bO _,ao⟩ aZ au ?_;rintro⟨D,y⟩ ⟨ax,O⟩;rcases dZ D n with ap|ap
  .have aB:(a+D) % m<m:=q6 _ ad;have am:l[(a+D) % m]?=ab l[(a+D) % m]:=b8 ad;have Q:=λC h=>Q D C h ad ad ad ad;generalize l[(a+D) % m]=W at*
   generalize aA:(a+D) % m=ar at*
   obtain⟨b,rfl⟩:=GZ ad;have av:∀C,a5 (E 3 1 (U b) m c (J l)::C) ⟨b,0+ar*1,af⟩ (j W):=λC=>Hw w0 am C;apply ak _;apply UD (Q _ cA) _;refine eh p (fC p (bx av)) ?_;refine fc p (iV p p ad) ?_;refine bF (hD bN p p p (lB p p p aN ad) ?_);rintro _ _ ⟨rfl,rfl⟩;refine ak ?_;refine b7 (D+1,y.set D W) ⟨ad,by simp_all⟩ ad aZ ?_;rw[<- zv];exact au
  .apply ak _;exact cC y O aZ a1
 .rintro y O;apply bQ _;iterate 5 apply ay _
  refine st p p (o2 p p p oU) ?_;rintro _ _ ⟨rfl,rfl⟩;apply ak _;exact er (D:=[]) (j:=[]) (C:=r4 r H (2*m+1) (2*m+1) 0 n bT y) p .nil au ⟨H,y,O,rfl⟩
end
end
section
attribute [local irreducible] C bh b6
structure j7 where
 A:Option cg
 m:Nat
 c:Nat
 a:Nat
 n:Nat
 bT:Int
 l:List Int
structure j7.ok (y:j7):Prop where
 l:y.l.length=y.m
 n:y.n<=y.m
 a:y.a<y.m\/(y.m=0/\y.a=0)
 m:y.m<=130
 bT:y.bT<=64
 A:0<y.m->∃b,y.A=(U b)
@[reducible] def j7.L (y:j7) (j:Nat):List aG:=[ah j 203 (lL y.A y.m y.c y.a y.n y.bT),E 3 1 y.A y.m y.c (J y.l)]
def nx(j:Nat):aG:=λh=>∃y:j7,y.ok/\C (y.L j) h
variable{r:Nat}
def O.rg{H args}{E:a2->Prop}(R:∀y:j7,y.ok->Y H args (y.L r) λv j=>E v/\∃D:j7,D.ok/\j=D.L r):Y H args [nx r] λv j=>E v/\j=[nx r]:=
 O.open (E:=λy:j7=>y.L r) (λ_ h=>h) λy Q=>by
  rw[dC];exact(R y Q).cr λv j W ⟨I,D,U,J⟩ q=>⟨_,⟨I,rfl⟩,by
   subst J;exact C.fold (λh q=>⟨D,U,q⟩) (by rw[dC];exact q)⟩
theorem j7.rd{y:j7}(j:y.ok)(C:Q):Rd (E 3 1 y.A y.m y.c (J y.l)::C) y.A y.m y.l:=bf.E (by rw[ck,j.l];rfl) j.A
def Te(y:j7)(am:y.ok)(D)(ah:D<y.n):Y 135 #[I r,j (D:Nat)] (y.L r) λv H=>∃ai:j7,ai.ok/\H=ai.L r:=by
 let⟨A,C,c,a,n,E,l⟩:=y;let⟨h1,ae,an,Q,R,Z⟩:=am;simp at h1 ae an Q R Z ah;obtain⟨b,rfl⟩:=Z ad
 by_cases W:D=0
 .subst W;exact(afG r b C c a n E l h1 ae ad ad ad).mono λv H ⟨U,J,O⟩=>⟨⟨ab _,C,c,(a+1) % C,n-1,E,U⟩,⟨J,by grind,.inl (q6 _ ad),Q,R,λ_=>⟨b,rfl⟩⟩,O⟩
 .exact(afH r b C c a n E l h1 ae ad ad ad D ah W).mono λv H ⟨U,J,O⟩=>⟨⟨ab _,C,c,a,n-1,E,U⟩,⟨J,by grind,an,Q,R,λ_=>⟨b,rfl⟩⟩,O⟩
def afu(v):Y 97 #[I r,j v] [nx r] λam H=>(∃D,am=.bool D)/\H=[nx r]:=O.rg λy C=>by
 have U:=λQ=>Ty r _ _ _ _ _ _ _ C.n (by have:=C.a;omega) (by have:=C.m;omega) v (Q::E 3 1 _ _ _ _::ah r 203 (lL _ _ y.c y.a _ y.bT):: []) (aU.ap (aU.ap (aU.ah p))) C.l (Rd.ap (j7.rd C _));refine cR λ{g F}=>?_;apply bp (j:=F::E 3 1 _ _ y.c (J y.l)::ah r 203 (lL y.A y.m y.c y.a y.n y.bT):: []) au;apply aC _;apply aP (U _) _;rintro _ _ ⟨⟨ai,D,rfl,W⟩,rfl⟩;apply ak _;cases D with
 |false=>
  apply ak _;exact aR ⟨⟨_,rfl⟩,y,C,rfl⟩
 |true=>
  apply kB _;have R:=Te (r:=r) y C ai (W p);apply aC _;apply aP (b3 R) _;rintro _ _ ⟨_,⟨D,Z,rfl⟩,rfl⟩;apply ak _;exact aR ⟨⟨_,rfl⟩,D,Z,rfl⟩
def afv(y:j7)(R:y.ok)(C)(h:aU C r 0 4 (lL y.A y.m y.c y.a y.n y.bT))(O:Rd C y.A y.m y.l):Y 351 #[I r] C λW H=>(∃U E,W=.tuple #[j U,.bool E]/\(E=ag->0<y.n))/\H=C:=by
 have av:=h.at_ (i:=0) p;have h1:=h.at_ (i:=1) p;have ae:=h.at_ (i:=2) p;let⟨A,aA,c,a,n,aB,l⟩:=y;let⟨ah,ai,am,ap,aq,ar⟩:=R;simp only at*
 refine cR ?_;refine bQ ?_;iterate 2 apply ay _
 apply cc;rcases hh n with D|D
 .apply eO _;exact⟨⟨_,al,rfl,λh=>(by cases h)⟩,rfl⟩
 .apply bs _;apply jP;iterate 9 apply ay _
  apply cd _;refine e9 p (cw ad) ?_;have J:l[a]?=ab _:=b8 ad;obtain⟨ax,az,rfl,Q⟩:=O.at_ ad;have Z:=(Q _ _ J).at_ (i:=0) p;generalize l[a]=aD at*
  have aE:=Z;apply eO _;exact⟨⟨_,ag,rfl,λ_=>D⟩,rfl⟩
def afy:Y 279 #[I r] [nx r] λai J=>(∃H C,ai=.tuple #[j H,.bool C])/\J=[nx r]:=O.rg λy D=>by
 have U:=λQ=>afv y D (Q::E 3 1 _ _ _ _::ah r 203 (lL _ _ _ _ _ _):: []) (aU.ap (aU.ap (aU.ah p))) (Rd.ap (j7.rd D _));refine cR λ{g F}=>?_;apply bp (j:=F::E 3 1 _ _ _ _::ah r _ _:: []) au;apply aC _;apply aP (U _) _;rintro _ _ ⟨⟨H,C,rfl,W⟩,rfl⟩;apply ak _;cases C with
 |false=>
  apply ak _;exact aR ⟨⟨_,_,rfl⟩,y,D,rfl⟩
 |true=>
  apply kB _;have R:=Te (r:=r) y D 0 (W p);apply aC _;apply aP (b3 R) _;rintro _ _ ⟨_,⟨C,Z,rfl⟩,rfl⟩;apply ak _;exact aR ⟨⟨_,_,rfl⟩,C,Z,rfl⟩
def afn:Y 278 #[I r] [nx r] λai Q=>∃(D:a3) (H:Nat) (o:List Int),ai=.slice D (aa o) H/\(0<aa o->∃b,D=(U b))/\Q=[E 3 1 D (aa o) H (J o),nx r]:=
 O.open (E:=λy:j7=>y.L r) (λ_ h=>h) λy j=>by
  rw[dC];exact(afm r _ _ _ _ _ _ _ j.n (by have:=j.a;omega) (by have:=j.m;omega) _ (aU.ah p) j.l (Rd.ap (j7.rd j _))).cr λv Q am ⟨D,H,o,R,W,Z⟩ q=>⟨_,⟨D,H,o,R,W,rfl⟩,by
   subst Z;exact C.bl (λh q=>C.fold (λh q=>⟨y,j,q⟩) (by rw[dC];exact q)) q⟩
def afz(v):Y 194 #[I r,j v] [nx r] λaI ax=>(∃az,aI=j az)/\ax=[nx r]:=O.rg λy D=>by
 have aF:=λar=>Ty r _ _ _ _ _ _ _ D.n (by have:=D.a;omega) (by have:=D.m;omega) v (ar::E 3 1 _ _ _ _::ah r 203 (lL _ _ y.c y.a _ y.bT):: []) (aU.ap (aU.ap (aU.ah p))) D.l (Rd.ap (j7.rd D _));let⟨A,C,c,a,n,H,l⟩:=y;have aG:=D;let⟨W,Z,ai,am,Q,R⟩:=aG;simp at W Z ai am Q R;refine cR λ{g F}=>?_;apply bp (j:=F::E 3 1 A C c _::ah r _ _:: []) au;apply aC _;apply aP (aF _) _;rintro _ _ ⟨⟨aQ,aJ,rfl,aO⟩,rfl⟩;apply ak _;cases aJ with
 |true=>
  apply ak _;exact aR ⟨⟨_,rfl⟩,_,D,rfl⟩
 |false=>
  apply ak _;refine c0 p (λav=>?_) (λav=>?_)
  .apply ak _;exact aR ⟨⟨_,rfl⟩,_,D,rfl⟩
  .replace av: ¬H<=((n:Nat):Int):=av;apply ak _;apply ef (ι:=j7) (λ_=>[(0,I r),(1,j v)]) (λy=>F::y.L r) (λy=>y.ok/\y.n<y.m/\y.n=n/\y.bT=H) _ _
   .apply bs _
    by_cases aM:n=C
    .refine gJ p (cO (show((n:Nat):Int)=((C:Nat):Int) by omega)) ?_;have aB:=afU r A C c a n H l W Z ad ad R;apply aC _;apply aP (b3 aB) _;rintro _ _ ⟨_,⟨b,aH,aD,rfl⟩,rfl⟩;apply ak _;exact cC ⟨(U b),2*C+1,2*C+1,0,n,H,aH⟩ ⟨⟨aD,by grind,.inl ao,by grind,Q,λ_=>⟨b,rfl⟩⟩,by grind,rfl,rfl⟩ aZ au
    .refine e9 p (cw (show ¬((n:Nat):Int)=((C:Nat):Int) by omega)) ?_;apply bs _;exact cC ⟨A,C,c,a,n,H,l⟩ ⟨D,by grind,rfl,rfl⟩ aZ au
   .rintro⟨A,C,c,a,n,H,l⟩ ⟨⟨W,Z,ai,am,Q,R⟩,ae,an,aA⟩;simp at W Z ai am Q R ae an aA;obtain⟨b,rfl⟩:=R ad;have aE:=λar h=>xN r (U b) C c a n H n ar h ad ad ad ad;have aL:(a+n) % C<C:=q6 _ ad;generalize aK:(a+n) % C=aq at*
    apply fK (bE [0,1,2,3,4,5,6,7,8,10] (.e 9 (.q 11 (.e 12 .nil)))) _;refine nW p p (aE _ cA) ?_;refine fc p (iV p p (show aq<C by omega)) ?_;refine bF (hD bN p p p (lB p p p aN (show 0+aq*1<C*1 by omega)) ?_);rintro _ _ ⟨rfl,rfl⟩;refine ak ?_;exact ba (C:=[ah r 203 (lL (U b) C c a (n+1) H),E 3 1 (U b) C c ((J l).set (0+aq*1) (j v))]) p (.tmp p .nil) au ⟨⟨_,rfl⟩,⟨(U b),C,c,a,n+1,H,l.set aq v⟩,⟨by simp_all,by assumption,ai,am,Q,λ_=>⟨b,rfl⟩⟩,by rw[zv]⟩
end
end
end Go.Proofs.YteinodmjohkmmaaGreat
