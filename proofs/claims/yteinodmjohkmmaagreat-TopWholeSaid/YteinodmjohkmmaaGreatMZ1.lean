/- TopWhole: a part of its proof. -/
import Derived.Laws.BytesArg
import Derived.Test.YteinodmjohkmmaaGreatMZ0
set_option linter.all false
set_option maxRecDepth 100000
set_option maxHeartbeats 4000000
open BitVec renaming ofInt->hf
open Bool renaming false->al,not_eq_false'->gm,true->ag
open Go renaming Addr->cg,FuncId->dc,Value->a2
open Go.IntWalk renaming i64_in->oD
open Go.Sem renaming run_pure->e5
open Int renaming toNat->tL
open List renaming append_assoc->jm,append_nil->dC,eq_nil_of_length_eq_zero->gX,findIdx_cons->Lg,getElem?_eq_getElem->b8,getElem?_eq_some_iff->h2,getElem_mem->gG,length->aa,length_append->b4,length_cons->f0,length_map->jM,map_append->ez,map_inj_left->nM,nil_append->oG,pairwise_cons->gH,perm_append_comm->ep,perm_middle->fA,replicate->gv,replicate_succ->Lz,takeWhile_cons_of_neg->LG,takeWhile_cons_of_pos->LH
open List.Pairwise renaming sublist->U5
open List.Perm renaming append_right->ET
open Nat renaming eq_zero_or_pos->hh,le_refl->bC,le_succ->gp,le_trans->hj,lt_or_ge->dZ,not_lt_zero->E7,zero_add->h3,zero_le->bO,zero_lt_one->LV
open Option renaming none->af,rec->cK,some->ab
open Go.RowKit
namespace Go.Proofs.YteinodmjohkmmaaGreat
noncomputable section
section
attribute [local irreducible] C bh b6
def jJ(M:List (Int×aj)):List aj:=M.map Prod.snd
def UK(A R)(j:Int×aj):([j.2]++jJ (A++R)).Perm (jJ (A++j::R)):=by grind[jJ,List.singleton_append]
def aiQ(b C):Y 41 #[.map (ab b)] C λv D=>∃j,v=.func (.func 70) #[] #[I j]/\D=ah j 120 [.map (ab b)]::C:=by
 refine aD ?_;refine bg λj=>?_;exact aR ⟨j,rfl,rfl⟩
def aiL{U:Type}(l W b M)(C:List aj->U->List aG)(Inv:List aj->U->Prop)(h1:∀o j,a5 (C o j) ⟨W,0,af⟩ (.map (ab b)))
  (az:∀o j Q,aa o<aa M->Inv o j->iP ar l [Q.v] (C o j) λq E=>q=ag/\∃D,Inv (o++[Q]) D/\E=C (o++[Q]) D) (R) (ax:Inv [] R):
  Y 70 #[Value.func (.yield l) #[] #[],I W] (ct b M::C [] R) λv E=>v=.tuple #[]/\∃o D,o.Perm (jJ M)/\Inv o D/\E=ct b M::C o D:=by
 refine aD λ{g F}=>?_;refine a6 (fC p (bx h1)) ?_;refine GE (wE p aN) ?_;rintro _ _ ⟨ap,rfl,rfl⟩;apply ak _;refine cL (λy=>[(0,Value.func _ _ _),(6,.pointer _)]) (λy=>hK ap b M y.1 y.2.1::F::C y.2.2.1 y.2.2.2)
  (λy=>(y.2.2.1++jJ y.1).Perm (jJ M)/\y.2.2.1.length+y.1.length<=aa M/\Inv y.2.2.1 y.2.2.2) (λy=>y.1.length) (M,af,[],R) ⟨.refl _,ao,ax⟩ aZ au ?_
 rintro⟨H,q,o,j⟩ ⟨Z,av,ah⟩;cases H with
 |nil=>
  apply bQ _;refine GE (wD p aN) ?_;rintro _ _ ⟨rfl,rfl⟩;apply ak _;exact er (D:=[]) (j:=[]) (C:=ct b M::C o j) p .nil DL ⟨rfl,o,j,by simpa[jJ]using Z,ah,rfl⟩
 |cons aJ H=>
  apply bQ _;refine GE (wC p aN) ?_;rintro _ _ ⟨J,am,O,aq,rfl,rfl⟩;apply ay _;apply m3 _;have aI:aa H+1=aa J+(aa O+1):=by
   grind
  have ai:=UK J O am;rw[<- aq]at ai;obtain⟨aE,up⟩:=am;simp[f0]at av;have aA:=az o j up ad ah;apply bQ _;refine a6 (wL p DM) ?_;apply ay _;apply bP λaH=>?_;refine vN p p p (iP.frame [_,_,F] aA au) ?_;rintro aM E ⟨aF,⟨rfl,D,aB,rfl⟩,rfl⟩;refine a6 (gz p) ?_;apply ak _;refine b7 (J++O,ab (aE,up),o++[up],D) ⟨?_,by grind,aB⟩ bo aZ au;rw[jm];exact(ai.append_left o).trans Z
def Xq(av b M)(H:Q)(h1:a5 H ⟨av,0,af⟩ (.map (ab b)))(aO:aa M<=100000):
  Y 104 #[.slice af 0 0,.func (.func 70) #[] #[I av]] (ct b M::H) λv aA=>∃(o:List aj) (R:a3) (W:Nat),v=.slice R (aa o) W/\(0<aa o->∃b,R=(U b))/\o.Perm (jJ M)/\aA=E 42 3 R (aa o) W (J o)::ct b M::H:=by
 refine vI Tryz.func104 p p p ?_;intro g F aB;apply bQ _;apply bg λZ=>?_;apply bp (E.c7 42 3);refine yw (U:=λD ar=>D=af/\∃(o:List aj) (C:Option _×Nat),(0<aa o->∃b,C.1=(U b))/\o.Perm (jJ M)/\ar=E 42 3 C.1 (aa o) C.2 (J o)::ah Z 37 [.slice C.1 (aa o) C.2]::F::ct b M::H) (by rw[<- aB];rfl) p p ?_ ?_ ?_
 .intro l am aE aH;have aK:=aiL l av b M
   (λo C=>bR l (aE .ready af)::bR am (.deferred (ab []))::E 42 3 C.1 (aa o) C.2 (J o)::ah Z 37 [.slice C.1 (aa o) C.2]::F::H)
   (λo C=>(0<aa o->∃b,C.1=(U b))/\aa o<=C.2/\C.2<=maxLen)
   (λo C=>h1.ap.ap.ap.ap.ap) ?_ (af,0) ⟨db,bC _,bO _⟩
  .apply(O.pre au aK).cr;rintro v aA aI ⟨rfl,o,C,az,aL,rfl⟩ aS;refine⟨_,⟨.ready,af,_,ao,⟨rfl,o,C,aL.1,az,rfl⟩,rfl⟩,?_⟩;revert aI;exact au
  .intro o C D aQ ⟨aT,aV,aW⟩;apply aH (ι:=Nat) (τ:=λai=>[(2,I Z),(5,I ai)]) (M:=λai=>ah ai 42 [j D.id,j D.x,j D.y]::bR am (.deferred (ab []))::E 42 3 C.1 (aa o) C.2 (J o)::ah Z 37 [.slice C.1 (aa o) C.2]::F::H) (Fy:=λ_=>True) _ _
   .intro g aD _ _;apply bQ _;apply bg λai=>?_;exact vR ai trivial aZ au
   .intro g aD ai _ _ _;apply aC _;apply bd λaM=>?_;apply fz λaq ax aP aJ aR=>?_;have aF:J (o++[D])=J o++[j D.id,j D.x,j D.y]:=by rw[<- gi];rfl
    exact vQ (bR am (.deferred (ab []))::E 42 3 aq (aa (o++[D])) ax (J (o++[D]))::ah Z 37 [.slice aq (aa (o++[D])) ax]::F::H) ⟨rfl,(aq,ax),⟨by simp_all,by simp_all,aJ⟩,rfl⟩ (by
     rw[aF];simp[b4];exact au)
 .rintro am ar ⟨-,o,⟨R,W⟩,aG,az,rfl⟩;apply gD _;exact vP [am] rfl (by rw[<- aB];rfl) p ds (M:=E 42 3 R (aa o) W (J o)::ah Z 37 [.slice R (aa o) W]::F::ct b M::H) (j:=E 42 3 R (aa o) W (J o)::ct b M::H) au au ⟨o,R,W,rfl,aG,az,rfl⟩
 .rintro am W ar ⟨h,_⟩;cases h
def YK(H b M)(D:Q)(h1:a5 D ⟨H,0,af⟩ (.map (ab b)))(Z:aa M<=100000):
  Y 68 #[.func (.func 70) #[] #[I H]] (ct b M::D) λv R=>∃(o:List aj) (j:a3) (C:Nat),v=.slice j (aa o) C/\(0<aa o->∃b,j=(U b))/\o.Perm (jJ M)/\R=E 42 3 j (aa o) C (J o)::ct b M::D:=by
 refine aD ?_;refine aP (O.pick aN (Xq H b M _ h1.ap Z)) ?_;rintro _ _ ⟨o,j,C,rfl,W,ah,rfl⟩;apply gD _;exact aR ⟨o,j,C,rfl,W,ah,rfl⟩
def agZ(R b M)(H:Q)(h1:a5 H ⟨R,0,af⟩ (.map (ab b)))(ai:aa M<=100000):
  Y 40 #[.func (.func 70) #[] #[I R],.func (.func 42) #[] #[]] (ct b M::H) λv Z=>∃(o:List aj) (j:a3) (C:Nat),v=.slice j (aa o) C/\(0<aa o->∃b,j=(U b))/\o.Perm (jJ M)/\tt o/\Z=E 42 3 j (aa o) C (J o)::ct b M::H:=by
 refine aD ?_;refine aP (O.pick aN (YK R b M _ h1.ap ai)) ?_;rintro _ _ ⟨o,j,C,rfl,ah,W,rfl⟩;apply aC _;have am:aa o<=1000000:=by rw[W.length_eq,jJ,jM];omega
 apply aC _;refine aP (O.pick aN (agW j _ C o _ ah p am)) ?_;rintro _ _ ⟨rfl,ar,D,aq,rfl⟩;apply gD _;exact aR ⟨ar,j,C,by rw[D.length_eq];rfl,by rw[D.length_eq];omega,D.trans W,aq,rfl⟩ (by rw[D.length_eq];exact au)
def aiR(b C):Y 45 #[.map (ab b)] C λv D=>∃j,v=.func (.func 74) #[] #[I j]/\D=ah j 121 [.map (ab b)]::C:=by
 refine aD ?_;refine bg λj=>?_;exact aR ⟨j,rfl,rfl⟩
def aiM{U:Type}(l W b M)(C:List aj->U->List aG)(Inv:List aj->U->Prop)(h1:∀o j,a5 (C o j) ⟨W,0,af⟩ (.map (ab b)))
  (az:∀o j Q,aa o<aa M->Inv o j->iP ar l [Q.v] (C o j) λq E=>q=ag/\∃D,Inv (o++[Q]) D/\E=C (o++[Q]) D) (R) (ax:Inv [] R):
  Y 74 #[Value.func (.yield l) #[] #[],I W] (ct b M::C [] R) λv E=>v=.tuple #[]/\∃o D,o.Perm (jJ M)/\Inv o D/\E=ct b M::C o D:=by
 refine aD λ{g F}=>?_;refine a6 (fC p (bx h1)) ?_;refine GE (wE p aN) ?_;rintro _ _ ⟨ap,rfl,rfl⟩;apply ak _;refine cL (λy=>[(0,Value.func _ _ _),(6,.pointer _)]) (λy=>hK ap b M y.1 y.2.1::F::C y.2.2.1 y.2.2.2)
  (λy=>(y.2.2.1++jJ y.1).Perm (jJ M)/\y.2.2.1.length+y.1.length<=aa M/\Inv y.2.2.1 y.2.2.2) (λy=>y.1.length) (M,af,[],R) ⟨.refl _,ao,ax⟩ aZ au ?_
 rintro⟨H,q,o,j⟩ ⟨Z,av,ah⟩;cases H with
 |nil=>
  apply bQ _;refine GE (wD p aN) ?_;rintro _ _ ⟨rfl,rfl⟩;apply ak _;exact er (D:=[]) (j:=[]) (C:=ct b M::C o j) p .nil DL ⟨rfl,o,j,by simpa[jJ]using Z,ah,rfl⟩
 |cons aJ H=>
  apply bQ _;refine GE (wC p aN) ?_;rintro _ _ ⟨J,am,O,aq,rfl,rfl⟩;apply ay _;apply m3 _;have aI:aa H+1=aa J+(aa O+1):=by
   grind
  have ai:=UK J O am;rw[<- aq]at ai;obtain⟨aE,up⟩:=am;simp[f0]at av;have aA:=az o j up ad ah;apply bQ _;refine a6 (wL p DM) ?_;apply ay _;apply bP λaH=>?_;refine vN p p p (iP.frame [_,_,F] aA au) ?_;rintro aM E ⟨aF,⟨rfl,D,aB,rfl⟩,rfl⟩;refine a6 (gz p) ?_;apply ak _;refine b7 (J++O,ab (aE,up),o++[up],D) ⟨?_,by grind,aB⟩ bo aZ au;rw[jm];exact(ai.append_left o).trans Z
def Xr(av b M)(H:Q)(h1:a5 H ⟨av,0,af⟩ (.map (ab b)))(aO:aa M<=100000):
  Y 107 #[.slice af 0 0,.func (.func 74) #[] #[I av]] (ct b M::H) λv aA=>∃(o:List aj) (R:a3) (W:Nat),v=.slice R (aa o) W/\(0<aa o->∃b,R=(U b))/\o.Perm (jJ M)/\aA=E 44 3 R (aa o) W (J o)::ct b M::H:=by
 refine vI Tryz.func107 p p p ?_;intro g F aB;apply bQ _;apply bg λZ=>?_;apply bp (E.c7 44 3);refine yw (U:=λD ar=>D=af/\∃(o:List aj) (C:Option _×Nat),(0<aa o->∃b,C.1=(U b))/\o.Perm (jJ M)/\ar=E 44 3 C.1 (aa o) C.2 (J o)::ah Z 38 [.slice C.1 (aa o) C.2]::F::ct b M::H) (by rw[<- aB];rfl) p p ?_ ?_ ?_
 .intro l am aE aH;have aK:=aiM l av b M
   (λo C=>bR l (aE .ready af)::bR am (.deferred (ab []))::E 44 3 C.1 (aa o) C.2 (J o)::ah Z 38 [.slice C.1 (aa o) C.2]::F::H)
   (λo C=>(0<aa o->∃b,C.1=(U b))/\aa o<=C.2/\C.2<=maxLen)
   (λo C=>h1.ap.ap.ap.ap.ap) ?_ (af,0) ⟨db,bC _,bO _⟩
  .apply(O.pre au aK).cr;rintro v aA aI ⟨rfl,o,C,az,aL,rfl⟩ aS;refine⟨_,⟨.ready,af,_,ao,⟨rfl,o,C,aL.1,az,rfl⟩,rfl⟩,?_⟩;revert aI;exact au
  .intro o C D aQ ⟨aT,aV,aW⟩;apply aH (ι:=Nat) (τ:=λai=>[(2,I Z),(5,I ai)]) (M:=λai=>ah ai 44 [j D.id,j D.x,j D.y]::bR am (.deferred (ab []))::E 44 3 C.1 (aa o) C.2 (J o)::ah Z 38 [.slice C.1 (aa o) C.2]::F::H) (Fy:=λ_=>True) _ _
   .intro g aD _ _;apply bQ _;apply bg λai=>?_;exact vR ai trivial aZ au
   .intro g aD ai _ _ _;apply aC _;apply bd λaM=>?_;apply fz λaq ax aP aJ aR=>?_;have aF:J (o++[D])=J o++[j D.id,j D.x,j D.y]:=by rw[<- gi];rfl
    exact vQ (bR am (.deferred (ab []))::E 44 3 aq (aa (o++[D])) ax (J (o++[D]))::ah Z 38 [.slice aq (aa (o++[D])) ax]::F::H) ⟨rfl,(aq,ax),⟨by simp_all,by simp_all,aJ⟩,rfl⟩ (by
     rw[aF];simp[b4];exact au)
 .rintro am ar ⟨-,o,⟨R,W⟩,aG,az,rfl⟩;apply gD _;exact vP [am] rfl (by rw[<- aB];rfl) p ds (M:=E 44 3 R (aa o) W (J o)::ah Z 38 [.slice R (aa o) W]::F::ct b M::H) (j:=E 44 3 R (aa o) W (J o)::ct b M::H) au au ⟨o,R,W,rfl,aG,az,rfl⟩
 .rintro am W ar ⟨h,_⟩;cases h
def YL(H b M)(D:Q)(h1:a5 D ⟨H,0,af⟩ (.map (ab b)))(Z:aa M<=100000):
  Y 72 #[.func (.func 74) #[] #[I H]] (ct b M::D) λv R=>∃(o:List aj) (j:a3) (C:Nat),v=.slice j (aa o) C/\(0<aa o->∃b,j=(U b))/\o.Perm (jJ M)/\R=E 44 3 j (aa o) C (J o)::ct b M::D:=by
 refine aD ?_;refine aP (O.pick aN (Xr H b M _ h1.ap Z)) ?_;rintro _ _ ⟨o,j,C,rfl,W,ah,rfl⟩;apply gD _;exact aR ⟨o,j,C,rfl,W,ah,rfl⟩
def ag0(R b M)(H:Q)(h1:a5 H ⟨R,0,af⟩ (.map (ab b)))(ai:aa M<=100000):
  Y 44 #[.func (.func 74) #[] #[I R],.func (.func 46) #[] #[]] (ct b M::H) λv Z=>∃(o:List aj) (j:a3) (C:Nat),v=.slice j (aa o) C/\(0<aa o->∃b,j=(U b))/\o.Perm (jJ M)/\tt o/\Z=E 44 3 j (aa o) C (J o)::ct b M::H:=by
 refine aD ?_;refine aP (O.pick aN (YL R b M _ h1.ap ai)) ?_;rintro _ _ ⟨o,j,C,rfl,ah,W,rfl⟩;apply aC _;have am:aa o<=1000000:=by rw[W.length_eq,jJ,jM];omega
 apply aC _;refine aP (O.pick aN (agX j (aa o) C o _ ah p am)) ?_;rintro _ _ ⟨rfl,ar,D,aq,rfl⟩;apply gD _;exact aR ⟨ar,j,C,by rw[D.length_eq];rfl,by rw[D.length_eq];omega,D.trans W,aq,rfl⟩ (by rw[D.length_eq];exact au)
def ht(l:List aj):Prop:=l.Pairwise λj y=>j.id<y.id
def ahM(Z C R ap)(H am:List (Int×aj))(ai:Q)(ax:aa H<=100000):Y 26 #[I Z] (ah Z 123 [.map (ab C),.map (ab R),j ap]::ct C H::ct R am::ai) λv aq=>∃(o:List aj) (D:a3) (W:Nat),v=.slice D (aa o) W/\(0<aa o->∃b,D=(U b))/\o.Perm (jJ H)/\tt o/\aq=E 42 3 D (aa o) W (J o)::ah Z 123 [.map (ab C),.map (ab R),j ap]::ct C H::ct R am::ai:=by
 refine aD ?_;refine aP (aiQ C _) ?_;rintro _ _ ⟨ar,rfl,rfl⟩;refine aP (O.pick aN (agZ ar C H _ (a5.ah p) ax)) ?_;rintro _ _ ⟨o,D,W,rfl,av,az,aA,rfl⟩;apply ak _;exact aR ⟨o,D,W,rfl,av,az,aA,rfl⟩
def SA(l:List aj)(j c:Nat):aG:=λh=>∃y:Option cg×Nat,(aV.l1 j c=.slice y.1 (aa l) y.2/\(0<aa l->∃b,y.1=(U b)))/\C [E 42 3 y.1 (aa l) y.2 (J l)] h
def ah2{U D S}(aL:aa D+aa S<=1000)(aB:ht D)(j R):Y 26 #[I j] [ig U D S j R] λv ah=>∃H J,v=aV.l1 H J/\ah=[ig U D S j R,SA D H J]:=by
 refine O.open (λh ⟨W,a,q⟩=>⟨W,a,q⟩) λW ⟨Q,ap⟩=>?_
 have aI:=Q.len;have aJ:=ap.len;refine(ahM j _ _ _ _ _ [] ad).cr λv ah aK ⟨o,A,aq,aX,aA,aD,aE,ar⟩ s=>?_;subst ar;have av:=I8 (aD.trans Q.ai) aE aB;subst av;let⟨_,aH,ax,az⟩:=E.facts s;let⟨H,J,am⟩:=aV.Cd _ ax az;refine⟨_,⟨H,J,aX.trans am.symm,rfl⟩,?_⟩;have aF:=C.perm (ep (l₁:=[_])) s;have aG:=C.fold (A:=ig U _ _ j R) (λh Z=>⟨W,⟨Q,ap⟩,Z⟩) aF;exact C.bl (λh s=>aV.d8 (λh Z=>⟨(A,aq),⟨am,aA⟩,C.one Z⟩) s) aG
def ahN(Z R C ap)(am H:List (Int×aj))(ai:Q)(ax:aa H<=100000):Y 27 #[I Z] (ah Z 123 [.map (ab R),.map (ab C),j ap]::ct R am::ct C H::ai) λv aq=>∃(o:List aj) (D:a3) (W:Nat),v=.slice D (aa o) W/\(0<aa o->∃b,D=(U b))/\o.Perm (jJ H)/\tt o/\aq=E 44 3 D (aa o) W (J o)::ah Z 123 [.map (ab R),.map (ab C),j ap]::ct R am::ct C H::ai:=by
 refine aD ?_;refine aP (aiR C _) ?_;rintro _ _ ⟨ar,rfl,rfl⟩;refine aP (O.pick aN (ag0 ar C H _ (a5.ah p) ax)) ?_;rintro _ _ ⟨o,D,W,rfl,av,az,aA,rfl⟩;apply ak _;exact aR ⟨o,D,W,rfl,av,az,aA,rfl⟩
def SB(l:List aj)(j c:Nat):aG:=λh=>∃y:Option cg×Nat,(aV.l1 j c=.slice y.1 (aa l) y.2/\(0<aa l->∃b,y.1=(U b)))/\C [E 44 3 y.1 (aa l) y.2 (J l)] h
def ah4{U J S}(aL:aa J+aa S<=1000)(aB:ht S)(j R):Y 27 #[I j] [ig U J S j R] λv ah=>∃D H,v=aV.l1 D H/\ah=[ig U J S j R,SB S D H]:=by
 refine O.open (λh ⟨W,a,q⟩=>⟨W,a,q⟩) λW ⟨ap,Q⟩=>?_
 have aI:=ap.len;have aJ:=Q.len;refine(ahN j _ _ _ _ _ [] ad).cr λv ah aK ⟨o,A,aq,aX,aA,aD,aE,ar⟩ s=>?_;subst ar;have av:=I8 (aD.trans Q.ai) aE aB;subst av;let⟨_,aH,ax,az⟩:=E.facts s;let⟨D,H,am⟩:=aV.Cd _ ax az;refine⟨_,⟨D,H,aX.trans am.symm,rfl⟩,?_⟩;have aF:=C.perm (ep (l₁:=[_])) s;have aG:=C.fold (A:=ig U _ _ j R) (λh Z=>⟨W,⟨ap,Q⟩,Z⟩) aF;exact C.bl (λh s=>aV.d8 (λh Z=>⟨(A,aq),⟨am,aA⟩,C.one Z⟩) s) aG
end
def I9{j}:∀{l},ht l->dW l j.id=al->ht (gN l j)
 | [],_,_=>by simp[gN,ht]
 |q::l,h,J=>by
  have I:=gH.1 h;have H: ¬q.id=j.id/\dW l j.id=al:=by
   simpa[dW]using J
  by_cases E:q.id<j.id
  .have C:gN (q::l) j=q::gN l j:=by simp[gN,E]
   rw[C];apply gH.2 ⟨λy D=>?_,I9 I.2 H.2⟩;rcases List.mem_cons.1 ((oV l j).mem_iff.1 D)with rfl|D
   .omega
   simp_all
  .have C:gN (q::l) j=j::q::l:=by simp[gN,E]
   rw[C];apply gH.2 ⟨λy D=> _,h⟩;grind
theorem Tm{n l}(h:ht l):ht (hT l n):=U5 List.eraseP_sublist h
variable{D:Nat}{x ch:bM}
def afW(h1:ht x.P)(ae:ht x.S)(I:1<=x.k)(J:x.k<=4)(E:nS D x.P x.S x.k x.ai):ht x.hm/\ht x.hn:=by
 obtain⟨C,O,Q⟩:=E;unfold bM.hm bM.hn bM.c;generalize x.k=j at*
 have H:j=1\/j=2\/j=3\/j=4:=ad;rcases H with rfl|rfl|rfl|rfl
 .rw[show k2 1 _=⟨1,x.ai,f2⟩from rfl]at*
  exact⟨by simpa[mM]using I9 h1 (Dn C).2.1,by assumption⟩
 .rw[show k2 2 _=⟨2,x.ai,f2⟩from rfl]at*
  simp_all[mM,Tm,mN]
 .rw[show k2 3 _=⟨3,f2,x.ai⟩from rfl]at*
  exact⟨by assumption,by simpa[mN]using I9 ae (Do C).2.2.1⟩
 .rw[show k2 4 _=⟨4,f2,x.ai⟩from rfl]at*
  simp_all[mM,mN,Tm]
def lV.two(h:lV D x ch)(O:x.ok D)(h1:ht x.P)(ae:ht x.S)(Y:0<=x.v)(Z:x.v<=40000):
  (x.k≠0/\ch.k=0/\ch.v=x.v+1/\ch.P=x.hm/\ch.S=x.hn/\ex x.P x.S D x.c=0/\ht ch.P/\ht ch.S)\/(ch.v=x.v/\ch.P=x.P/\ch.S=x.S/\(x.k≠0->ch.k≠0->ch.c=x.c)):=by
 have Q:IntKind.i64.wrap _=x.v+1:=oD _ ad;rcases h with rfl|rfl|rfl|⟨j,U,W,H,I,E,rfl⟩
 .simp
 .unfold bM.n7
  by_cases j:x.k=0
  .simp_all
  .rw[a8 j];obtain⟨H,I,R,E⟩:=O.un j
   by_cases C:x.dD+1=(if x.k<=2 then 4 else 3)
   .rw[bJ C];have J:=afW h1 ae H I E;exact .inl ⟨j,rfl,Q,rfl,rfl,E.1,J.1,J.2⟩
   .rw[a8 C];exact .inr ⟨rfl,rfl,rfl,λ_ _=>rfl⟩
 .unfold bM.qy
  by_cases j:x.k=0
  .simp_all
  .rw[a8 j]
   by_cases C:x.dD<=1
   .simp_all
   .rw[a8 C];exact .inr ⟨rfl,rfl,rfl,λ_ _=>rfl⟩
 .exact .inr ⟨rfl,rfl,rfl,λh=>absurd j h⟩
section
attribute [local irreducible] C bh b6
@[reducible] def As (id H:Int) (C:Nat->Int) (E:Bool):List Value:=[j id,j H,j (C 0),j (C 1),j (C 2),j (C 3),j (C 4),j (C 5),j (C 6),j (C 7),j (C 8),j (C 9),j (C 10),j (C 11),j (C 12),j (C 13),j (C 14),j (C 15),j (C 16),j (C 17),.bool E]
def dT:Option Nat->aG
 |none=>λ_=>True
 |some q=>λh=>∃y:Int×Int×(Nat->Int)×Bool,ah q 163 (As y.1 y.2.1 y.2.2.1 y.2.2.2) h
def Gv{j M:Q}{q id E H C}(I:aS j (ah q 163 (As id E H C)::M)):aS j (dT (ab q)::M):=λh s=>aV.d8 (j:=dT (ab q)) (λh J=>⟨(id,E,H,C),J⟩) (I h s)
def Gw{j M:Q}(C:aS j M):aS j (dT af::M):=λh q=>aV.xP (A:=dT af) trivial (C h q)
theorem O.rest{E args}{j:Q}{q H}(R:∀id J U I,Y E args (ah q 163 (As id J U I)::j) H):Y E args (dT (ab q)::j) H:=
 O.open (ι:=Int×Int×(Nat->Int)×Bool) (E:=λy=>[ah q 163 (As y.1 y.2.1 y.2.2.1 y.2.2.2)]) (D:=λ_=>True) (λh ⟨y,W⟩=>⟨y,trivial,C.one W⟩) λy _=>R y.1 y.2.1 y.2.2.1 y.2.2.2
attribute [local irreducible] aV.bA cn dT
section
variable{m:Nat}{W:ej}{S aJ:Nat}{bI:a3}{a4 a0 aL:Nat}{aW:Option Nat}
def Ba(D m:Nat)(x:bM)(W:ej)(S aJ:Nat)(bI:a3)(a4 a0 aL:Nat)(C:Q):Prop:=∃ch j,lV D x ch/\C=[cn S aJ bI a4 a0 aL j,dT j,aV.bA D ch W (m+1) aJ]
def NU(H:x.ok D)(Q:m<=40000):Y 64 #[I S] [cn S aJ bI a4 a0 aL aW,dT aW,aV.bA D x W m aJ] λv j=>(∃J,v=.bool J)/\Ba D m x W S aJ bI a4 a0 aL j:=by
 have am:=aV.NF (s:=aJ) (W:=W) H Q;have ai:=aV.XZ (s:=aJ) (W:=W) H Q;cases aW with
 |none=>
  have aq:=O.pre (P:=ar) (L:=[cn S aJ bI a4 a0 aL af,dT af,aV.bA D x W m aJ]) (f:=64) (args:= #[I S]) (po_:=λv j=>(∃J,v=.bool J)/\Ba D m x W S aJ bI a4 a0 aL j) (λh q=>C.bl (λh q=>C.bl (λh q=>aV.d8 (aV.ws H (gp m)) q) q) q);apply aq (O.li λy=>?_);refine bt ?_;exact aR ⟨⟨_,rfl⟩,x,af,.inl p,rfl⟩ (dp (k5 (aW:=af) p))
 |some q=>
  apply O.pre (M:=dT (ab q):: [cn S aJ bI a4 a0 aL (ab q),aV.bA D x W m aJ]) au (O.rest λid U Z R=>?_);apply O.pre (M:=cn S aJ bI a4 a0 aL (ab q):: [ah q 163 (As id U Z R),aV.bA D x W m aJ]) au (O.li λy=>?_);have ap:=Dy S aJ bI a4 a0 aL af y.jv y.op y.di y.i7 y.jd y.jc;cases R with
  |true=>
   refine aD ?_;refine aP (b3 am) ?_;rintro _ _ ⟨_,⟨⟨n,E,rfl⟩,rfl⟩,rfl⟩;apply ak _;cases E with
   |true=>
    apply ak _;apply dM (ub 0 _) _;apply qb (b3 (ap Z 2 id U 0 al al 0 af 0 0)) _;rintro _ _ ⟨_,⟨rfl,av,az,ax,rfl⟩,rfl⟩;apply ak _;exact aR ⟨⟨_,rfl⟩,x.n7,af,.inr (.inl p),rfl⟩ (k3 (k5 (aW:=af) p) @Gw)
   |false=>
    apply ak _;exact aR ⟨⟨_,rfl⟩,x.n7,ab q,.inr (.inl p),rfl⟩ (k3 (k5 (aW:=ab q) p) @Gv)
  |false=>
   refine aD ?_;refine aP (b3 ai) ?_;rintro _ _ ⟨_,⟨⟨n,E,rfl⟩,rfl⟩,rfl⟩;apply ak _;cases E with
   |true=>
    apply ak _;exact aR ⟨⟨_,rfl⟩,x.qy,af,.inr (.inr (.inl p)),rfl⟩ (k3 (k5 (aW:=af) p) @Gw)
   |false=>
    apply ak _;exact aR ⟨⟨_,rfl⟩,x.qy,ab q,.inr (.inr (.inl p)),rfl⟩ (k3 (k5 (aW:=ab q) p) @Gv)
end
end
section
variable{m k:Nat}{W:ej}{S aJ:Nat}{bI:a3}{a4 a0 aL:Nat}{aW:Option Nat}{c bn bc:Nat}{b:Int}{bH:Option Nat}
def y8{C j}(H:k<=C)(E:W.le j):∀h,dA k W bH h->dA C j bH h:=λh q=>by
 cases bH with
 |none=>trivial
 |some c=>exact aV.N3 H E h q
@[reducible] def kR (D m k:Nat) (x:bM) (W:ej) (S aJ:Nat) (bI:a3) (a4 a0 aL:Nat) (aW:Option Nat) (c bn bc:Nat) (b:Int) (bH:Option Nat):List aG:=[cn S aJ bI a4 a0 aL aW,cb aL,dT aW,aV.bA D x W m aJ,c4 c bn bc b bH,dA k W bH]
def ri(D m k:Nat)(x:bM)(W:ej)(S aJ:Nat)(bI:a3)(a4 a0 aL:Nat)(c bn bc:Nat)(b:Int)(C:Q):Prop:=∃ch j H E,lV D x ch/\W.le j/\C=kR D (m+1) (k+1) ch j S aJ bI a4 a0 aL H c bn bc b E
def Na(R:x.ok D)(J:m<=40000)(ai:k<=40000)(q:d4)(id):Y 132 #[I S,j id,I c,q.v] (kR D m k x W S aJ bI a4 a0 aL aW c bn bc b bH) λv Q=>oT v/\ri D m k x W S aJ bI a4 a0 aL c bn bc b Q:=
 (O.frame [dT aW] (Xz (D:=D) (m:=m) (x:=x) (W:=W) (S:=S) (aJ:=aJ) (bI:=bI) (a4:=a4) (a0:=a0) (aL:=aL) (aW:=aW) (c:=c) (bn:=bn) (bc:=bc) (b:=b) (bH:=bH) R J q id k ai) (λh s=>by
  apply C.perm _ s;exact(ep (l₂:=dT aW:: [aV.bA D x W m aJ,c4 c bn bc b bH,dA k W bH])).trans (List.Perm.cons _ (ep (l₂:=[cn S aJ bI a4 a0 aL aW,cb aL]))))).cr λv Q J ⟨ap,⟨a,E,H,ah,U⟩,Z⟩ s=>⟨_,⟨a,x,E,aW,H,.inl p,ah,rfl⟩,by
  subst Z U;have am:C ([cn S aJ bI a4 a0 aL aW,cb aL]++(dT aW:: [aV.bA D x E m aJ,c4 c bn bc b H,dA (k+1) E H])) J:=by
   apply C.perm _ s;exact(ep).trans (List.perm_append_comm_assoc (l₁:=[cn S aJ bI a4 a0 aL aW,cb aL]) (l₂:=[aV.bA D x E m aJ,c4 c bn bc b H,dA (k+1) E H]) (l₃:=[dT aW])|>λ_=>by
    grind[ep])
  exact C.bl (λh s=>C.bl (λh s=>C.bl (λh s=>aV.d8 (aV.ws R (gp m)) s) s) s) am⟩
def ai5(ai:x.ok D)(H:m<=40000)(Q:bZ)(id):Y 206 #[I S,j id,I c,Q.v] (kR D m k x W S aJ bI a4 a0 aL aW c bn bc b bH) λv J=>oT v/\ri D m k x W S aJ bI a4 a0 aL c bn bc b J:=
 (O.frame [dT aW,dA k W bH] (ai6 (D:=D) (m:=m) (x:=x) (W:=W) (S:=S) (aJ:=aJ) (bI:=bI) (a4:=a4) (a0:=a0) (aL:=aL) (aW:=aW) (c:=c) (bn:=bn) (bc:=bc) (b:=b) (bH:=bH) ai H Q id) (λh s=>by
  apply C.perm _ s;exact(ep (l₂:=dT aW::([aV.bA D x W m aJ,c4 c bn bc b bH]++[dA k W bH]))).trans (List.Perm.cons _ ((ET _ (ep)).trans (List.Perm.cons _ (ep (l₂:=[cn S aJ bI a4 a0 aL aW,cb aL]))))))).cr λv J H ⟨ar,⟨a,ch,E,Z,ah,R⟩,U⟩ s=>⟨_,⟨a,ch,W,aW,E,Z,W.refl,rfl⟩,by
  subst U R;have am:=s;have ap:C (dT aW::dA (k+1) W E:: [cn S aJ bI a4 a0 aL aW,cb aL,aV.bA D ch W _ aJ,c4 c bn bc b _]) H:=C.bl (λh s=>aV.d8 (λh aq=>by
   rcases ah with rfl|rfl
   .exact y8 (gp k) W.refl h aq
   trivial) s) am
  apply C.perm _ ap;apply List.Perm.trans _ (ep (l₁:=dT aW::([aV.bA D ch W (m+1) aJ,c4 c bn bc b E]++[dA (k+1) W E])) (l₂:=[cn S aJ bI a4 a0 aL aW,cb aL]));grind[List.Perm.cons,ep,cb]⟩
end
section
attribute [local irreducible] C bh b6
section
variable{m k:Nat}{W:ej}{S aJ:Nat}{bI:a3}{a4 a0 aL:Nat}{aW:Option Nat}{c bn bc:Nat}{b:Int}{bH:Option Nat}
def YC(U:x.ok D)(j:m<=40000):Y 64 #[I S] (kR D m k x W S aJ bI a4 a0 aL aW c bn bc b bH) λv H=>(∃ai,v=.bool ai)/\ri D m k x W S aJ bI a4 a0 aL c bn bc b H:=
 (O.frame [cb aL,c4 c bn bc b bH,dA k W bH] (NU (D:=D) (m:=m) (x:=x) (W:=W) (S:=S) (aJ:=aJ) (bI:=bI) (a4:=a4) (a0:=a0) (aL:=aL) (aW:=aW) U j) (λh s=>by
  apply C.perm _ s;apply(List.Perm.swap _ _ _).trans (List.Perm.cons _ _);exact ep (l₁:=[cn S aJ bI a4 a0 aL aW,dT aW,aV.bA D x W m aJ]))).cr λv H j ⟨am,⟨a,ch,E,R,J⟩,Q⟩ s=>⟨_,⟨a,ch,W,E,bH,R,W.refl,rfl⟩,by
  subst Q J;have Z:=s;have ah:C (cn S aJ bI a4 a0 aL E::cb aL:: [dT E,aV.bA D ch W (m+1) aJ,c4 c bn bc b bH,dA k W bH]) j:=by
   apply C.perm _ Z;exact(List.Perm.cons _ (ep)).trans (List.Perm.swap _ _ _)
  exact C.bl (λh s=>C.bl (λh s=>C.bl (λh s=>C.bl (λh s=>C.bl (λh s=>aV.d8 (y8 (gp k) W.refl) s) s) s) s) s) ah⟩
attribute [local irreducible] aV.bA cn dT cb c4 dA
def aaN(Q:x.ok D)(J:m<=40000)(aF:k<=40000)(E id):Y 133 #[I S,j id,I c,gF E] (kR D m k x W S aJ bI a4 a0 aL aW c bn bc b bH) λv av=>oT v/\ri D m k x W S aJ bI a4 a0 aL c bn bc b av:=by
 have aB:=YC (k:=k) (aW:=aW) (c:=c) (bn:=bn) (bc:=bc) (b:=b) (bH:=bH) (W:=W) (S:=S) (aJ:=aJ) (bI:=bI) (a4:=a4) (a0:=a0) (aL:=aL) Q J;have aE:=ai5 (k:=k) (aW:=aW) (c:=c) (bn:=bn) (bc:=bc) (b:=b) (bH:=bH) (W:=W) (S:=S) (aJ:=aJ) (bI:=bI) (a4:=a4) (a0:=a0) (aL:=aL) Q J ⟨E 1,⟨E 2,E 3,E 4⟩,⟨E 5,E 6,E 7⟩⟩ id;have aA:=Na (aW:=aW) (c:=c) (bn:=bn) (bc:=bc) (b:=b) (bH:=bH) (W:=W) (S:=S) (aJ:=aJ) (bI:=bI) (a4:=a4) (a0:=a0) (aL:=aL) Q J aF ⟨E 8,⟨E 9,E 10,E 11,E 12⟩,⟨E 13,E 14,E 15⟩,E 16,E 17⟩ id;apply O.li λy=>?_;refine aD λ{g F}=>?_;apply bd λax=>?_;apply bg λaz=>?_;apply bp (j:=[F,ah ax 54 _,ah az _ _,cn S aJ bI a4 a0 aL aW,cb aL,dT aW,aV.bA D x W m aJ,c4 c bn bc b bH,dA k W bH]) rZ;cases aW with
 |some q=>
  apply aC _;apply aP (b3 aB) _;rintro _ _ ⟨R,⟨⟨aG,rfl⟩,H⟩,rfl⟩;apply ak _;apply aP (uM _) _;rintro _ _ ⟨⟨Z,aq,ar,n,A,ap,U,am,ai,rfl⟩,rfl⟩;apply eX _;exact⟨_,⟨⟨_,_,_,_,_,_,_,_,_,rfl⟩,H⟩,(λ_ s=>C.bl (λ_ s=>s.tail.tail) s)⟩
 |none=>
  apply ak _
  by_cases h1:E 0=1
  .apply ak _;apply aP (b3 aE) _;rintro _ _ ⟨R,⟨⟨Z,aq,ar,n,A,ap,U,am,ai,rfl⟩,H⟩,rfl⟩;apply eX _;exact⟨_,⟨⟨_,_,_,_,_,_,_,_,_,rfl⟩,H⟩,(λ_ s=>C.bl (λ_ s=>s.tail.tail) s)⟩
  .apply ak _;apply aP (b3 aA) _;rintro _ _ ⟨R,⟨⟨Z,aq,ar,n,A,ap,U,am,ai,rfl⟩,H⟩,rfl⟩;apply eX _;exact⟨_,⟨⟨_,_,_,_,_,_,_,_,_,rfl⟩,H⟩,(λ_ s=>C.bl (λ_ s=>s.tail.tail) s)⟩
end
end
section
attribute [local irreducible] C bh b6
attribute [local irreducible] aV.bA cn dT cb c4 dA
section
variable{m k:Nat}{W:ej}{S aJ:Nat}{bI:a3}{a4 a0 aL:Nat}{aW:Option Nat}{c bn bc:Nat}{b:Int}{bH:Option Nat}
def aiS(id):aY 130 #[I S,j id,I c] [cn S aJ bI a4 a0 aL aW,cb aL,c4 c bn bc b bH] (.tuple #[]) [cn S aJ bI a4 a0 aL aW,cb aL,c4 c bn bc b bH]:=by
 have ah:=afe (q:=aL);have ap:=afh (q:=aL);have Z:=afd (q:=aL);apply O.pre au (O.cl λH=>?_);apply O.pre au (O.li λy=>?_);refine aD ?_;refine aP (b3 ah) ?_;rintro _ _ ⟨_,⟨⟨k,aq,rfl⟩,rfl⟩,rfl⟩;apply ak _;cases aq with
 |true=>
  exact kB (aR bD ol)
 |false=>
  apply aC _;apply aP (b3 ap) _;rintro _ _ ⟨_,⟨ar,R,l,rfl,Y,rfl⟩,rfl⟩;apply dl _;cases l with
  |nil=>
   apply ak _;exact er (D:=[]) (j:=[]) (C:=[cn S aJ bI a4 a0 aL aW,cb aL,c4 c bn bc b bH]) p .nil ol bD
  |cons a l=>
   obtain⟨Q,rfl⟩:=Y ao;have am:∀C,a5 (E 3 1 (U Q) (aa (a::l)) R (J (a::l))::C) ⟨Q,0+0*1,af⟩ (j a):=λC=>Hw p p C;apply aC _;refine hN 26 p (cO ao) ?_;apply ay _;refine hC p p p p ?_;refine a6 (iV (j:=0) p p ao) ?_;apply ak _;refine a6 (fC p (bx am)) ?_;apply ak _
   by_cases h1:a=id
   .apply ak _;apply aP (b3 Z) _;rintro _ _ ⟨_,⟨⟨ax,aA,rfl⟩,rfl⟩,rfl⟩;apply aC _;apply aP (b3 (age bn H.ai H.r H.t b)) _;rintro _ _ ⟨_,⟨⟨av,rfl⟩,az,rfl⟩,rfl⟩;apply ak _;exact er (D:=[]) (j:=[]) (C:=[cn S aJ bI a4 a0 aL aW,cb aL,c4 c bn bc b bH]) p .nil ol bD
   .apply ak _;exact er (D:=[]) (j:=[]) (C:=[cn S aJ bI a4 a0 aL aW,cb aL,c4 c bn bc b bH]) p .nil ol bD
end
end
section
attribute [local irreducible] C bh b6
@[reducible] def gQ (C J H:Nat) (j:List Nat):aG:=E 105 1 (U C) J H (j.map λc=>(I c))
def Db{H J R C c j}(U:aa j=J)(h:j[C]?=ab c)(O:Q):a5 (gQ H J R j::O) ⟨H,0+C*1,af⟩ (I c):=
 a5.E bv
section
variable{m k:Nat}{W:ej}{S aJ:Nat}{bI:a3}{a4 a0 c6 aL:Nat}{aW:Option Nat}{c bn bc:Nat}{b:Int}{bH:Option Nat}{cv:List Nat}{i:Nat}
def B9(y:v2)(H:aa cv=a4)(E:cv[i]?=ab c)(C:Q)(h1:a5 C ⟨S,0+1,af⟩ (.slice (U c6) a4 a0))(ae:a5 C ⟨c6,0+i*1,af⟩ (I c)):aY 53 #[I S,j (i:Nat)] C (I c) C:=by
 have J:=(h2.1 E).1;refine AN ?_;refine dY ?_;exact c8
def B8(id)(H:id<0\/(a4:Int)<=id)(C:Q)(h1:a5 C ⟨S,0+1,af⟩ (.slice bI a4 a0)):aY 53 #[I S,j id] C (.pointer af) C:=by
 refine cR ?_;refine bQ ?_;apply ay _;apply cc
 by_cases E:id<0
 .exact c8
 .exact c8
attribute [local irreducible] aV.bA cn dT cb c4 dA
def ahl(aA:aa cv=a4)(ax:cv[i]?=ab c)(am:x.ok D)(aB:m<=40000)(az:k<=40000):Y 94 #[I S,j (i:Nat)] (gQ c6 a4 a0 cv::kR D m k x W S aJ (U c6) a4 a0 aL aW c bn bc b bH) λv aI=>oT v/\∃J,ri D m k x W S aJ (U c6) a4 a0 aL c bn bc b J/\aI=gQ c6 a4 a0 cv::J:=by
 have aO:=aiS (S:=S) (aJ:=aJ) (bI:=(U c6)) (a4:=a4) (a0:=a0) (aL:=aL) (aW:=aW) (c:=c) (bn:=bn) (bc:=bc) (b:=b) (bH:=bH) (i:Nat);have aK:=λq=>Na (aW:=aW) (c:=c) (bn:=bn) (bc:=bc) (b:=b) (bH:=bH) (W:=W) (S:=S) (aJ:=aJ) (bI:=(U c6)) (a4:=a4) (a0:=a0) (aL:=aL) am aB az q (i:Nat);have aM:=λE=>aaN (aW:=aW) (c:=c) (bn:=bn) (bc:=bc) (b:=b) (bH:=bH) (W:=W) (S:=S) (aJ:=aJ) (bI:=(U c6)) (a4:=a4) (a0:=a0) (aL:=aL) am aB az E (i:Nat);have up:aS _ (kR D _ _ x W S aJ (U c6) a4 a0 aL aW c bn bc b bH):=λh s=>C.bl (λh s=>C.bl (λh s=>C.bl (λh s=>C.bl (λh s=>C.bl (λh s=>aV.d8 (y8 (gp k) W.refl) s) s) (aV.d8 (aV.ws am (gp m)) s)) s) s) s;apply O.pre au (O.cl λH=>?_);apply O.pre au (O.li λy=>?_);refine aD λ{g F}=>?_;apply bP λQ=>?_;refine sf (B9 y aA ax _ ec (by repeat' first|exact Db aA ax _|apply a5.ap)) ?_;apply aP (O.pick aN (ago bn H.ai H.r H.t b _)) _;rintro _ _ ⟨⟨E,aQ,rfl⟩,rfl⟩;apply ak _;apply bP λR=>?_;refine f1 p (O.pick aN (Ei bn H.ai H.r H.t b _)) ?_;apply cc;apply bp (j:=[F,ah Q 160 [j 0,.bool al,.bool al,j 0,.slice af 0 0],ah R 54 (gE E),gQ c6 a4 a0 cv,cn S aJ (U c6) a4 a0 aL aW,cb aL,dT aW,aV.bA D x W m aJ,c4 c bn bc b bH,dA k W bH]) ol;apply ak _
 by_cases ae:H.ai=2
 .apply ak _;apply aP (b3 aO) _;rintro _ _ ⟨_,⟨rfl,rfl⟩,rfl⟩;apply dl _;apply bp (j:=F::ah Q 160 [j 0,.bool al,.bool al,j 0,.slice af 0 0]::ah R 54 (gE E)::gQ c6 a4 a0 cv::kR D m k x W S aJ (U c6) a4 a0 aL aW c bn bc b bH) au;apply bp (j:=F::ah Q 160 [j 0,.bool al,.bool al,j 0,.slice af 0 0]::ah R 54 (gE E)::gQ c6 a4 a0 cv::kR D (m+1) (k+1) x W S aJ (U c6) a4 a0 aL aW c bn bc b bH) (λh s=>C.bl (λh s=>C.bl (λh s=>C.bl (λh s=>C.bl up s) s) s) s);apply bQ _;apply aP (uM _) _;rintro _ _ ⟨⟨ar,aG,aH,n,A,aF,aq,aE,av,rfl⟩,rfl⟩;apply eX _;exact⟨_,⟨⟨_,_,_,_,_,_,_,_,_,rfl⟩,_,⟨x,W,aW,bH,.inl p,W.refl,rfl⟩,rfl⟩,(λ_ s=>C.bl (λ_ s=>s.tail.tail) s)⟩
 .apply ak _
  by_cases h1:H.ai=1
  .apply ak _;apply aP (b3 (aK ⟨E 8,⟨E 9,E 10,E 11,E 12⟩,⟨E 13,E 14,E 15⟩,E 16,E 17⟩)) _;rintro _ _ ⟨J,⟨⟨ar,aG,aH,n,A,aF,aq,aE,av,rfl⟩,Z⟩,rfl⟩;apply eX _;exact⟨_,⟨⟨_,_,_,_,_,_,_,_,_,rfl⟩,J,Z,rfl⟩,(λ_ s=>C.bl (λ_ s=>s.tail.tail) s)⟩
  .apply ak _
   by_cases an:H.ai=3
   .apply ak _;apply aP (b3 (aM E)) _;rintro _ _ ⟨J,⟨⟨ar,aG,aH,n,A,aF,aq,aE,av,rfl⟩,Z⟩,rfl⟩;apply eX _;exact⟨_,⟨⟨_,_,_,_,_,_,_,_,_,rfl⟩,J,Z,rfl⟩,(λ_ s=>C.bl (λ_ s=>s.tail.tail) s)⟩
   .apply bs _;refine e9 p (cw an) ?_;apply bp (j:=F::ah Q 160 [j 0,.bool al,.bool al,j 0,.slice af 0 0]::ah R 54 (gE E)::gQ c6 a4 a0 cv::kR D m k x W S aJ (U c6) a4 a0 aL aW c bn bc b bH) au;apply bp (j:=F::ah Q 160 [j 0,.bool al,.bool al,j 0,.slice af 0 0]::ah R 54 (gE E)::gQ c6 a4 a0 cv::kR D (m+1) (k+1) x W S aJ (U c6) a4 a0 aL aW c bn bc b bH) (λh s=>C.bl (λh s=>C.bl (λh s=>C.bl (λh s=>C.bl up s) s) s) s);apply eX _;exact⟨_,⟨⟨_,_,_,_,_,_,_,_,_,rfl⟩,_,⟨x,W,aW,bH,.inl p,W.refl,rfl⟩,rfl⟩,(λ_ s=>C.bl (λ_ s=>s.tail.tail) s)⟩
end
end
section
attribute [local irreducible] C bh b6
attribute [local irreducible] aV.bA cn dT cb c4 dA
section
variable{S aJ:Nat}{bI:a3}{a4 a0 c6 aL:Nat}{aW:Option Nat}{c bn bc:Nat}{b:Int}{bH:Option Nat}{cv:List Nat}{i:Nat}
def UO(H id):Y 54 #[I S,j id,I c,gF H] [cn S aJ bI a4 a0 aL aW,cb aL,c4 c bn bc b bH] λv ap=>(∃E,v=j E)/\∃C,(C=bH\/C=af)/\ap=[cn S aJ bI a4 a0 aL aW,cb aL,c4 c bn bc b C]:=by
 have av:=S8 (S:=S) (aJ:=aJ) (bI:=bI) (a4:=a4) (a0:=a0) (aL:=aL) (aW:=aW) (c:=c) (bn:=bn) (bc:=bc) (b:=b) (bH:=af) id;have J:=Dy S aJ bI a4 a0 aL (kp aW);apply O.pre au (O.cl λR=>?_);apply O.pre au (O.li λy=>?_);have aq:=agq bn R.ai H R.r R.t b;refine aD λ{g F}=>?_;apply bP λW=>?_;apply cc;apply bp (j:=dX bn _ _ _ b:: [F,ah W 54 _,ah S 80 _,k6 _ _ _,cb aL,ah c _ _]) au;apply hZ 0 (bE [0,1,2,3,4] (.e 5 (.q 6 .nil))) _;apply dV (b3 aq) _;rintro _ _ ⟨_,⟨⟨E,rfl⟩,aB,aE,aF,rfl⟩,rfl⟩;apply bX _;apply ak _;apply ef (ι:=Option Nat) (λ_=>[(9,j E)]) (λC=>[F,cn S aJ bI a4 a0 aL aW,cb aL,c4 c bn bc b C]) (λC=>C=bH\/C=af) _ _
 .by_cases ax:E=0
  .apply dY _;apply fK (bE [0,1,2,3,4,5,6,8] (.e 7 (.e 9 .nil))) _;apply dV (IX H _) _;rintro _ _ ⟨⟨Q,rfl⟩,rfl⟩;apply cV _;apply qb (b3 (J y.jv (IntKind.i64.wrap (y.op+1)) y.di y.i7 y.jd y.jc Q 1 id (IntKind.i64.wrap (y.op+1)) 0 al al 0 af 0 0)) _;rintro _ _ ⟨_,⟨rfl,U,am,Z,rfl⟩,rfl⟩;refine bp (j:=[F,ah W 54 (gE H),cn S aJ bI a4 a0 aL aW,cb aL,c4 c bn bc b af]) (k3 (k5 p) (lC (bH:=af) p)) ?_;apply aC _;apply aP (b3 av) _;rintro _ _ ⟨_,⟨rfl,rfl⟩,rfl⟩;apply ak _;exact cC af (.inr p) ⟨rfl,trivial⟩ au
  .apply ak _
   by_cases az:E=7
   .apply dY _;apply fK (bE [0,1,2,3,4,5,6,8] (.e 7 (.e 9 (.e 10 .nil)))) _;apply dV (IX H _) _;rintro _ _ ⟨⟨Q,rfl⟩,rfl⟩;apply cV _;apply dM (ub _ _) _;apply qb (b3 (J y.jv (IntKind.i64.wrap (y.op+1)) y.di y.i7 y.jd y.jc Q 5 id (IntKind.i64.wrap (y.op+1)) E al al 0 af 0 0)) _;rintro _ _ ⟨_,⟨rfl,U,am,Z,rfl⟩,rfl⟩;apply bs _;exact cC bH (.inl p) ⟨rfl,trivial⟩ ol
   .apply ak _
    by_cases aA:E=8
    .apply ak _;apply a9 (ub _ _) _;apply aP (b3 (J y.jv y.op y.di y.i7 y.jd y.jc (λ_=>0) 5 id 0 E al al 0 af 0 0)) _;rintro _ _ ⟨_,⟨rfl,U,am,Z,rfl⟩,rfl⟩;apply ak _;exact cC bH (.inl p) ⟨rfl,trivial⟩ ol
    .apply ak _;exact cC bH (.inl p) ⟨rfl,trivial⟩ ol
 .rintro C ar;apply ak _;exact aR ⟨⟨_,rfl⟩,C,ar,rfl⟩
end
end
section
attribute [local irreducible] C bh b6
section
variable{m k:Nat}{W:ej}{S aJ:Nat}{bI:a3}{a4 a0 c6 aL:Nat}{aW:Option Nat}{c bn bc:Nat}{b:Int}{bH:Option Nat}{cv:List Nat}{i:Nat}
def Ep(H:x.ok D){j}(E:j=bH\/j=af):aS [cn S aJ bI a4 a0 aL aW,cb aL,dT aW,aV.bA D x W m aJ,c4 c bn bc b j,dA k W bH] (kR D (m+1) (k+1) x W S aJ bI a4 a0 aL aW c bn bc b j):=λh s=>
 C.bl (λh s=>C.bl (λh s=>C.bl (λh s=>C.bl (λh s=>C.bl (λh s=>aV.d8 (λh I=>by
  rcases E with rfl|rfl
  .exact y8 (gp k) W.refl h I
  trivial) s) s) (aV.d8 (aV.ws H (gp m)) s)) s) s) s
def G0(C:bZ)(n E):Y 59 #[C.v,j n] E λv H=>(∃I,v=.bool I)/\H=E:=by
 refine aD ?_;refine bd λJ=>?_;apply ay _;apply cc
 by_cases h1:C.k=1
 .apply eO _;exact⟨⟨_,rfl⟩,rfl⟩
 .apply ak _
  by_cases ae:C.k=2
  .apply eO _;exact⟨⟨_,rfl⟩,rfl⟩
  .apply dY _;apply eO _;exact⟨⟨_,rfl⟩,rfl⟩
attribute [local irreducible] aV.bA cn dT cb c4 dA
def aiU(R:aa cv=a4)(Q:cv[i]?=ab c)(ar:x.ok D)(Z):Y 34 #[I S,j (i:Nat),gF Z] (gQ c6 a4 a0 cv::kR D m k x W S aJ (U c6) a4 a0 aL aW c bn bc b bH) λv ai=>(∃J,v=j J)/\∃H,ri D m k x W S aJ (U c6) a4 a0 aL c bn bc b H/\ai=gQ c6 a4 a0 cv::H:=by
 have av:=UO (S:=S) (aJ:=aJ) (bI:=(U c6)) (a4:=a4) (a0:=a0) (aL:=aL) (aW:=aW) (c:=c) (bn:=bn) (bc:=bc) (b:=b) (bH:=bH) Z (i:Nat);apply O.pre au (O.li λy=>?_);refine aD λ{g F}=>?_;apply bP λam=>?_;refine dQ (B9 y R Q _ ec (by repeat' first|exact Db R Q _|apply a5.ap)) ?_;refine a6 (GF p p) ?_;apply dl _;apply bp (j:=[F,ah am 54 _,gQ c6 a4 a0 cv,cn S aJ _ a4 a0 aL aW,cb aL,dT aW,aV.bA D x W m aJ,c4 c bn bc b bH,dA k W bH]) rZ;apply aC _;apply aP (b3 av) _;rintro _ _ ⟨_,⟨⟨J,rfl⟩,E,aq,rfl⟩,rfl⟩;apply ak _;apply bp (j:=F::gQ c6 a4 a0 cv:: [cn S aJ (U c6) a4 a0 aL aW,cb aL,dT aW,aV.bA D x W m aJ,c4 c bn bc b E,dA k W bH]) au;apply bp (j:=F::gQ c6 a4 a0 cv::kR D (m+1) (k+1) x W S aJ (U c6) a4 a0 aL aW c bn bc b E) (λh s=>C.bl (λh s=>C.bl (λh s=>Ep ar aq h s) s) s);apply ak _;exact aR ⟨⟨_,rfl⟩,_,⟨x,W,aW,E,.inl p,W.refl,rfl⟩,rfl⟩ cT
def YD(Q:x.ok D)(J:m<=40000):Y 38 #[I S] [cn S aJ bI a4 a0 aL aW,dT aW,aV.bA D x W m aJ] λv C=>(∃j,v=.bool j)/\Ba D m x W S aJ bI a4 a0 aL C:=by
 have H:=NU (W:=W) (S:=S) (aJ:=aJ) (bI:=bI) (a4:=a4) (a0:=a0) (aL:=aL) (aW:=aW) Q J;apply O.li λy=>?_;refine aD λ{g F}=>?_;refine a6 (GF p p) ?_;apply dl _;apply bp (j:=[F,cn S aJ bI a4 a0 aL aW,dT aW,aV.bA D x W m aJ]) rZ;apply aC _;apply aP (b3 H) _;rintro _ _ ⟨R,⟨⟨j,rfl⟩,E⟩,rfl⟩;apply ak _;exact aR ⟨⟨_,rfl⟩,E⟩ cT
end
end
section
attribute [local irreducible] C bh b6
attribute [local irreducible] aV.bA cn dT cb c4 dA
section
variable{m k:Nat}{W:ej}{S aJ:Nat}{bI:a3}{a4 a0 c6 aL:Nat}{aW:Option Nat}{c bn bc:Nat}{b:Int}{bH:Option Nat}{cv:List Nat}{i:Nat}
def Xa(aT:aa cv=a4)(aQ:cv[i]?=ab c)(bi:x.ok D):Y 36 #[I S,j (i:Nat)] (gQ c6 a4 a0 cv::kR D m k x W S aJ (U c6) a4 a0 aL aW c bn bc b bH) λv a7=>(∃aq,v=j aq)/\∃aI,ri D m k x W S aJ (U c6) a4 a0 aL c bn bc b aI/\a7=gQ c6 a4 a0 cv::aI:=by
 have bh:=λaW=>Dy S aJ (U c6) a4 a0 aL aW;have aA:=afg (q:=aL) (i:Nat);have aB:=SM (q:=aL) (i:Nat);apply O.pre au (O.cl λ⟨o,az,seen,aH,am,aE,aX,R⟩=>?_);apply O.pre au (O.li λy=>?_);have ar:∀{bj:Option _} {aM:Option _} {F:aG},(aM=bH\/aM=af)->aS _ (F::gQ c6 a4 a0 cv::kR D (m+1) (k+1) x W S aJ (U c6) a4 a0 aL bj c bn bc b _):=λbe h s=>C.bl (λh s=>C.bl (λh s=>Ep bi be h s) s) s;refine aD λ{g F}=>?_;refine sf (B9 y aT aQ _ ec (by repeat' first|exact Db aT aQ _|apply a5.ap)) ?_;apply a9 (O.pick aN (Ei bn aE aX R b _)) _
 by_cases bm:aE=4
 .apply ak _;apply bp (j:=F::gQ c6 a4 a0 cv:: [cn S aJ _ a4 a0 aL aW,cb aL,dT aW,aV.bA D x W m aJ,c4 c bn bc b bH,dA k W bH]) ol;refine bp (ar (.inl p)) ?_;apply ak _;exact aR ⟨⟨_,rfl⟩,_,⟨x,W,aW,bH,.inl p,W.refl,rfl⟩,rfl⟩ cT
 .apply ak _;apply aP (O.pick aN (af6 bn aE aX R b _)) _;rintro _ _ ⟨E,aF,av,ax,rfl,rfl⟩;apply aC _;apply bg λaK=>?_;apply ef (ι:=Option cg×Nat×Nat) (λ_=>[(0,I S),(1,j (i:Nat)),(5,I c),(6,I aK),(7,j aF)]) (λZ=>[F,ah aK 54 (gE E),ah S 80 (lN aJ (U c6) a4 a0 aL (kp aW) y.jv y.op (IntKind.i64.wrap (y.di+1)) Z.1 Z.2.1 Z.2.2),k6 Z.1 Z.2.1 Z.2.2,ah c 108 (lZ bn bc o (kp bH) az seen aH am),dX bn av ax R b,gQ c6 a4 a0 cv,cb aL,dT aW,aV.bA D x W m aJ,dA k W bH]) (λ_=>True) _ _
  .by_cases bk:aF=0
   .apply ak _;exact cC (y.i7,y.jd,y.jc) trivial aZ au
   .apply ak _;apply qb (b3 (bh (kp aW) y.jv y.op (IntKind.i64.wrap (y.di+1)) y.i7 y.jd y.jc E 4 (i:Nat) o 0 al al 0 af 0 0)) _;rintro _ _ ⟨_,⟨rfl,aY,bb,a8,rfl⟩,rfl⟩;apply bs _;exact cC (aY,bb,a8) trivial aZ au
  .rintro⟨H,Q,J⟩-
   by_cases an:aF=3
   .apply ak _;cases aH with
    |true=>
     apply ak _;apply dV (G0 ⟨E 1,⟨E 2,E 3,E 4⟩,⟨E 5,E 6,E 7⟩⟩ am _) _;rintro _ _ ⟨⟨bo,rfl⟩,rfl⟩;apply cV _;apply bu _;apply h5 λai=>?_;apply aC _;apply oP _;apply bp (j:=[F,ah S 80 (lN aJ (U c6) a4 a0 aL (kp (ab ai)) y.jv y.op (IntKind.i64.wrap (y.di+1)) H Q J),k6 H Q J,ah c 108 (lZ bn bc o (kp bH) az seen ag am),dX bn av ax R b,gQ c6 a4 a0 cv,cb aL,dT (ab ai),aV.bA D x W m aJ,dA k W bH]) (dp @Gv);apply aC _;apply aP (b3 aA) _;rintro _ _ ⟨_,⟨⟨aq,rfl⟩,rfl⟩,rfl⟩;apply aC _;apply aP (b3 aB) _;rintro _ _ ⟨_,⟨⟨aO,rfl⟩,rfl⟩,rfl⟩;apply aC _;refine bp (j:=F::gQ c6 a4 a0 cv:: [cn S aJ (U c6) a4 a0 aL (ab ai),cb aL,dT (ab ai),aV.bA D x W m aJ,c4 c bn bc b af,dA k W bH]) (k3 (k5 p) (lC (bH:=af) p)) ?_;refine bp (ar (.inr p)) ?_;apply ak _;exact aR ⟨⟨_,rfl⟩,_,⟨x,W,(ab ai),af,.inl p,W.refl,rfl⟩,rfl⟩ cT
    |false=>
     apply mx _;refine bp (j:=[F,ah S 80 (lN aJ (U c6) a4 a0 aL (kp aW) y.jv y.op (IntKind.i64.wrap (y.di+1)) H Q J),k6 H Q J,ah c 108 (lZ bn bc o (kp bH) az seen al am),dX bn av ax R b,gQ c6 a4 a0 cv,cb aL,dT aW,aV.bA D x W m aJ,dA k W bH]) (by(repeat first|exact cf|fail|apply ek _)<;>fail) ?_;apply aC _;apply aP (b3 aA) _;rintro _ _ ⟨_,⟨⟨aq,rfl⟩,rfl⟩,rfl⟩;apply aC _;apply aP (b3 aB) _;rintro _ _ ⟨_,⟨⟨aO,rfl⟩,rfl⟩,rfl⟩;apply aC _;refine bp (j:=F::gQ c6 a4 a0 cv:: [cn S aJ (U c6) a4 a0 aL aW,cb aL,dT aW,aV.bA D x W m aJ,c4 c bn bc b af,dA k W bH]) (k3 (k5 p) (lC (bH:=af) p)) ?_;refine bp (ar (.inr p)) ?_;apply ak _;exact aR ⟨⟨_,rfl⟩,_,⟨x,W,aW,af,.inl p,W.refl,rfl⟩,rfl⟩ cT
   .apply bs _;apply jP;apply aC _;refine hN 47 p (cw an) ?_;iterate 5 apply ay _
    apply hl _;refine bp (j:=[F,ah S 80 (lN aJ (U c6) a4 a0 aL (kp aW) y.jv y.op (IntKind.i64.wrap (y.di+1)) H Q J),k6 H Q J,ah c 108 (lZ bn bc o (kp bH) az seen aH am),dX bn av ax R b,gQ c6 a4 a0 cv,cb aL,dT aW,aV.bA D x W m aJ,dA k W bH]) (by(repeat first|exact cf|fail|apply ek _)<;>fail) ?_;apply aC _;apply aP (b3 aA) _;rintro _ _ ⟨_,⟨⟨aq,rfl⟩,rfl⟩,rfl⟩;apply aC _;apply aP (b3 aB) _;rintro _ _ ⟨_,⟨⟨aO,rfl⟩,rfl⟩,rfl⟩;apply aC _;refine bp (j:=F::gQ c6 a4 a0 cv:: [cn S aJ (U c6) a4 a0 aL aW,cb aL,dT aW,aV.bA D x W m aJ,c4 c bn bc b af,dA k W bH]) (k3 (k5 p) (lC (bH:=af) p)) ?_;refine bp (ar (.inr p)) ?_;apply ak _;exact aR ⟨⟨_,rfl⟩,_,⟨x,W,aW,af,.inl p,W.refl,rfl⟩,rfl⟩ cT
end
end
section
attribute [local irreducible] C bh b6
section
variable{S aJ:Nat}{bI:a3}{a4 a0 aL:Nat}{aW:Option Nat}{id:Int}(hi:id<0\/(a4:Int)<=id)
include hi
theorem aiV(H):Y 34 #[I S,j id,gF H] [cn S aJ bI a4 a0 aL aW] λv C=>(∃E,v=j E)/\C=[cn S aJ bI a4 a0 aL aW]:=by
 apply O.li λy=>?_;refine aD ?_;refine bP λJ=>?_;apply a9 (B8 id hi _ ec) _;exact aR ⟨⟨_,rfl⟩,rfl⟩ rZ
theorem Xb:Y 36 #[I S,j id] [cn S aJ bI a4 a0 aL aW] λv C=>(∃E,v=j E)/\C=[cn S aJ bI a4 a0 aL aW]:=by
 apply O.li λy=>?_;refine aD ?_;refine a9 (B8 id hi _ ec) ?_;exact aR ⟨⟨_,rfl⟩,rfl⟩ rZ
end
end
def i5(E j:Nat):aG:=λh=>∃y:ja,y.ok j/\C (y.L E) h
def aaB{I j}(R:j∈I){J:Q}{h}(s:C (e0 I::J) h):aa j.l<=j.c:=by
 obtain⟨h1,ae,U,Y,Z,a,_⟩:=s;have H:C _ h1:=a;obtain⟨W,q,O⟩:=List.append_of_mem R;rw[O,ez,List.map_cons]at H;exact(E.facts (C.perm fA H)).2.1
def O.str{H I args E J C j}(R:∀y:ja,y.ok j->O H I args (y.L C++E) J):O H I args (i5 C j::E) J:=
 O.open (E:=λy=>y.L C) (D:=λy=>ja.ok y j) (λh ⟨y,a,q⟩=>⟨y,a,q⟩) R
def Gy{J M:Q}{H O}{A:a3}{n c E I l j}(U:ja.ok ⟨A,n,c,E,I,l,j⟩ O)(R:aS J (ja.L ⟨A,n,c,E,I,l,j⟩ H++M)):aS J (i5 H O::M):=λh q=>C.fold (N:=ja.L ⟨A,n,c,E,I,l,j⟩ H) (λh q=>⟨_,U,q⟩) (R h q)
def Uh{E j C}(H:j<=C):∀h,i5 E j h->i5 E C h:=λh ⟨y,a,b⟩=>⟨y,⟨a.r,a.c,hj a.k H⟩,b⟩
def aht{A:aG}{j:Q}{h:j5}(s:C (A::j) h):C (A::(λ_=>True)::j) h:=C.bl (λh s=>aV.xP (A:=λ_=>True) trivial s) s
namespace aV
def uN(j:Nat)(args:List aB):List aB->cE->aK:=λC h=>cm (iu (ka (nat_lit 9)) C args) (ab (.cB [.ai h.n (nat_lit 0),eW],h.new (.cx j)))
variable{Ω:dO}
theorem dK.new{Q:Nat}[ap:cu ar Q]{R args}{am:bz}(ax:∀j:bb Ω,bK j args am)
  (h:Y Q am.toArray [] λv U=>∃E,v=.tuple #[.pointer (ab ⟨E,0,af⟩),.int .i64 0]/\U=[Ω.d5 R E 0]):dK Ω (Q,uN R args):=λaQ H v aO O=>by
 obtain⟨aq,av⟩:=de.1 (show cm _ _=ab _ from O);cases av;refine⟨ap,λaR j J aP aA W=>?_⟩;have:=qu (λO a b=>sY 9 O a b) aq aA (ax j);subst this;intro g F aJ aB;refine(h g _ aJ (aB.mono λI s=>C.join (N:=F::(J++cz j H)) (by rw[dC];exact s))).mono λaL aK ⟨aH,U,aF,⟨E,aM,aE⟩,az⟩=>?_;subst aE;have aG:bj g (fk (ext j H.n (E,0)) (.cx R) E 0::(λI=>C _ I)::cz j H) aK:=az.mono λI s=>by
  have aI:=C.part s;apply C.bl (j:=(F::J)++cz j H) (λI s=>C.join s) (C.perm _ aI);exact ep
 obtain⟨Z,aD,ah⟩:=ST.new W.eU aG;exact⟨aH,J++cz _ _,aF,⟨_,Z,aM▸ .cB (.cons (.ai aD) (.cons .i .nil)),⟨ah.eU,W.nq.trans Z⟩,rfl⟩,ah.eD.mono λ_ s=>C.part s⟩
def Ys(h:cE)(b C:Nat):Option aB:=aq (h.get b) λo=>aq (BO o) λj=>wX j C
def yJ{α:Type}{q:α->Prop}{x y l}(C:q x)(E:q y)(h:∀j∈l,q j):∀j∈x::y::l,q j:=λj H=>by
 grind
def Xi{α:Type}{q:α->Prop}:∀j∈([]:List α),q j:=λj C=>by trivial
def sG:List aB:=[.dU 50]
def RX:mA:=tl [(49,uN 0 sG),(83,uN 1 sG),(84,uN 2 sG),(85,uN 3 sG),(86,uN 4 sG),(87,uN 5 sG)]
def Rm:aK:=nj ar 210 RX 100 (λ_ _ _=>af) 29 sG (fS [])
def uY(h:cE)(b j:Nat):Nat:=cK 999 (λv=>cK 999 (λq=>q.1) (k1 v)) (Ys h b j)
def aby:List Nat:=cK [] (λq=>cK [] (λl=>cK [] (λv=>cK [] (λE=>(λC=>(λj=>[C,j,uY q.2 C 1,uY q.2 j 0,uY q.2 j 1,uY q.2 j 2,uY q.2 j 3,uY q.2 j 4]) (uY q.2 C 0)) E.1) (k1 v)) (wX l 0)) (yS q.1)) Rm
def aic(j:Nat):aB:=ax (Nat.beq j 34) (.i .i64 0) (.dU j)
def adO:f7 Rm aic aby (.cB [.ai 0 0,eW]) dj=ag:=by rfl
end aV
def ly:bM:=⟨[],[],0,0,0,f2⟩
def n9:ej:=⟨[],[],[],[],[]⟩
namespace aV
def vh{D:Nat}{g:Nat->Nat->Nat->aG}:∀j:bb ⟨λ_=>(D:Int),g⟩,bK j sG [.int .i64 (D:Nat)]:=λj=> .cons .dU .nil
def ad9{D:Nat}(h1:1<=D)(ae:D<=30):mB ⟨λ_=>(D:Int),eP D ly n9 0 0⟩ ar RX:=jY (yJ (dK.new vh (ah0 h1 ad)) (dK.new vh (abN h1 ad)) (yJ (dK.new vh (acu h1 ad)) (dK.new vh (aeW h1 ad)) (yJ (dK.new vh (abx h1 ad)) (dK.new vh (agI h1 ad)) Xi)))
def Yk{D}(h1:1<=D)(ae:D<=30):Y 29 #[.int .i64 (D:Nat)] [] λv j=>∃s,v=.tuple #[.pointer (ab ⟨s,0,af⟩),.int .i64 0]/\j=[bA D ly n9 0 s]:=by
 have h:=Ec y1 xk (ad9 h1 ae) adO (λ_ _=>rfl) (vh _);apply O.cr h λv j ah ⟨W,_,J,Q,R⟩ s=>?_;cases Q with|cB q=>?_
 cases q with|cons a q=>?_
 cases q with|cons H q=>?_
 cases q;cases H;cases a with| @ai _ _ E c U=>?_
 refine⟨[bA D ly n9 0 E],⟨E,rfl,rfl⟩,?_⟩;refine C.fold (λh s=>?_) (by rw[dC];exact R _ s);exact Hd rfl (λam _ Z c h q=>q) h ⟨λI=>W I,J,⟨c,U⟩,s⟩
end aV
section
def zm{α:Type}:∀{l}{j}{x:α},l[j]?=ab x->(x::l.eraseIdx j).Perm l
 | [],j,x,h=>by grind
 |y::l,0,x,h=>by simp_all
 |y::l,j+1,x,h=>(List.Perm.swap ..).trans (.cons _ (zm (l:=l) (j:=j) h))
structure oJ where
 c:Nat
 bn:Nat
 bc:Nat
 b:Int
def sN(I:Nat)(H:ej)(J:Nat)(j:oJ):aG:=λh=>∃E,C [c4 j.c j.bn j.bc j.b E,dA I H E,i5 j.bc J] h
def hQ(E:Nat)(j:ej)(H:Nat)(I:List oJ):aG:=λh=>C (I.map (sN E j H)) h
structure nb where
 S:Nat
 aJ:Nat
 c6:Nat
 a0:Nat
 aL:Nat
 bV:List oJ
abbrev nb.bI(s:nb):Option cg:=(U s.c6)
abbrev nb.gP(s:nb):aG:=gQ s.c6 (aa s.bV) s.a0 (s.bV.map oJ.c)
@[reducible] def JP (s:nb) (D j:Nat) (x:bM) (C:ej) (E:Option Nat):List aG:=[s.gP,cn s.S s.aJ s.bI (aa s.bV) s.a0 s.aL E,cb s.aL,dT E,aV.bA D x C j s.aJ,hQ j C (1000*j) s.bV]
def dx(s:nb)(D j:Nat)(x:bM):aG:=λh=>∃y:ej×Option Nat,C (JP s D j x y.1 y.2) h
variable{s:nb}{m k rJ oc Da:Nat}{W hO:ej}{aW:Option Nat}{bV:List oJ}{i:Nat}{z:oJ}
def YF(H:k<=rJ)(E:W.le hO)(I:oc<=Da)(z):∀h,sN k W oc z h->sN rJ hO Da z h:=λh ⟨j,q⟩=>⟨j,C.bl (λh q=>aV.d8 (y8 H E) (C.bl (λh q=>aV.d8 (Uh I) q) q)) q⟩
def B7(E:k<=rJ)(j:W.le hO)(H:oc<=Da):∀(bV)(h),hQ k W oc bV h->hQ rJ hO Da bV h
 | [],h,q=>q
 |z::bV,h,q=>aV.d8 (YF E j H z) (C.bl (λh q=>B7 E j H bV h q) q)
def Yz(I:bV[i]?=ab z){E:Q}{h}(q:C (hQ k W oc bV::E) h):∃j,C ([c4 z.c z.bn z.bc z.b j,dA k W j,i5 z.bc oc]++(hQ k W oc (bV.eraseIdx i)::E)) h:=by
 have J:=zm I;have aF:=C.head (λh a=>a) q;have aM:=C.perm (((J.map _).symm).append_right E) aF;let⟨h1,ae,H,O,R,⟨j,a⟩,l⟩:=aM;refine⟨j,C.head (λh a=>a) ⟨h1,ae,H,O,R,a,?_⟩⟩;exact C.fold (λh a=>a) l
def YB(H:bV[i]?=ab z){j:Q}{h E}(q:C ([c4 z.c z.bn z.bc z.b E,dA k W E,i5 z.bc oc]++(hQ k W oc (bV.eraseIdx i)::j)) h):C (hQ k W oc bV::j) h:=by
 have I:=zm H;have aF:=C.fold (A:=sN k W oc z) (λh a=>⟨E,a⟩) q;have aM:=C.bl (λh q=>C.head (λh a=>a) q) aF;exact C.fold (λh a=>a) (C.perm ((I.map _).append_right j) aM)
attribute [local irreducible] C
def t1(s:nb)(D m:Nat)(x:bM)(j:Q):Prop:=∃ch,lV D x ch/\j=[dx s D (m+1) ch]
def Ub(E:s.bV[i]?=ab z)(h)(q:dx s D m x h):∃y:ej×Option Nat×Option Nat,True/\C (i5 z.bc (1000*m)::s.gP::kR D m m x y.1 s.S s.aJ s.bI (aa s.bV) s.a0 s.aL y.2.1 z.c z.bn z.bc z.b y.2.2++[hQ m y.1 (1000*m) (s.bV.eraseIdx i)]) h:=by
 let⟨⟨W,aW⟩,q⟩:=q;have aF:C (hQ m W _ _:: [s.gP,cn _ _ _ _ _ _ aW,cb _,dT aW,aV.bA D x W m _]) h:=(mg:∀h,C _ h->_) h q;let⟨j,aM⟩:=Yz E aF;exact⟨(W,aW,j),trivial,(mg:∀h,C _ h->_) h aM⟩
def Uc(H:s.bV[i]?=ab z)(E:W.le hO)(I:oc<=1000*(m+1)){j h}(q:C [hQ m W (1000*m) (s.bV.eraseIdx i),i5 z.bc oc,s.gP,cn s.S s.aJ s.bI (aa s.bV) s.a0 s.aL aW,cb s.aL,dT aW,aV.bA D x hO (m+1) s.aJ,c4 z.c z.bn z.bc z.b j,dA (m+1) hO j] h):dx s D (m+1) x h:=by
 have J:C [hQ _ hO (1000*(m+1)) _,i5 _ _,s.gP,cn _ _ _ _ _ _ aW,cb _,dT aW,aV.bA D x hO _ _,c4 _ _ _ _ j,dA _ hO j] h:=aV.d8 (B7 (gp m) E ad _) (C.bl (λh q=>aV.d8 (Uh I) q) q);have aF:C ([c4 _ _ _ _ j,dA _ hO j,i5 _ _]++(hQ _ hO _ _:: [s.gP,cn _ _ _ _ _ _ aW,cb _,dT aW,aV.bA D x hO _ _])) h:=(mg:∀h,C _ h->_) h J;have aM:=YB H aF;exact⟨(hO,aW),(mg:aS _ _) h aM⟩
def Ud(j:x.ok D):∀h,dx s D m x h->dx s D (m+1) x h:=λh ⟨y,q⟩=>⟨y,C.bl (λh q=>C.bl (λh q=>C.bl (λh q=>C.bl (λh q=>aV.d8 (aV.ws j (gp m)) (C.bl (λh q=>aV.d8 (B7 (gp m) y.1.refl ad _) q) q)) q) q) q) q⟩
section
variable{f:dc}{args:Array a2}{aK:a2->Prop}
theorem O.one(H:s.bV[i]?=ab z)(R:∀W aW I,Y f args (s.gP::kR D m m x W s.S s.aJ s.bI (aa s.bV) s.a0 s.aL aW z.c z.bn z.bc z.b I) λv j=>aK v/\∃E,ri D m m x W s.S s.aJ s.bI (aa s.bV) s.a0 s.aL z.c z.bn z.bc z.b E/\j=s.gP::E):Y f args [dx s D m x] λv j=>aK v/\t1 s D m x j:=by
 apply O.open (Ub H) λy _=>?_
 apply(O.frame [hQ m y.1 (1000*m) (s.bV.eraseIdx i),i5 z.bc (1000*m)] (R y.1 y.2.1 y.2.2) (λh q=>?_)).cr λv j aq ⟨E,⟨ai,am,⟨ch,hO,ar,ap,ah,Z,U⟩,Q⟩,J⟩ q=>?_
 .exact(mg:∀h,C _ h->_) h q
 .subst J Q U;exact⟨[dx s D _ ch],⟨ai,ch,ah,rfl⟩,C.one (Uc H Z ad q)⟩
def O.Dx(I:x.ok D)(R:∀aW,Y f args [cn s.S s.aJ s.bI (aa s.bV) s.a0 s.aL aW] λv j=>aK v/\j=[cn s.S s.aJ s.bI (aa s.bV) s.a0 s.aL aW]):Y f args [dx s D m x] λv j=>aK v/\t1 s D m x j:=by
 apply O.open (λh ⟨y,q⟩=>⟨y,trivial,q⟩) λy _=>?_
 apply(O.frame (s.gP:: [cb s.aL,dT y.2,aV.bA D x y.1 m s.aJ,hQ m y.1 (1000*m) s.bV]) (R y.2) (λh q=>?_)).cr λv j U ⟨Q,⟨J,H⟩,E⟩ q=>?_
 .exact(mg:∀h,C _ h->_) h q
 .subst E H;exact⟨[dx s D _ x],⟨J,x,.inl p,rfl⟩,C.one (Ud I _ ⟨y,(mg:∀h,C _ h->_) _ q⟩)⟩
def O.YG(R:∀W aW,Y f args [cn s.S s.aJ s.bI (aa s.bV) s.a0 s.aL aW,dT aW,aV.bA D x W m s.aJ] λv j=>aK v/\Ba D m x W s.S s.aJ s.bI (aa s.bV) s.a0 s.aL j):Y f args [dx s D m x] λv j=>aK v/\t1 s D m x j:=by
 apply O.open (λh ⟨y,q⟩=>⟨y,trivial,q⟩) λy _=>?_
 apply(O.frame (s.gP:: [cb s.aL,hQ m y.1 (1000*m) s.bV]) (R y.1 y.2) (λh q=>?_)).cr λv j E ⟨ah,⟨Q,ch,Z,J,I⟩,H⟩ q=>?_
 .exact(mg:∀h,C _ h->_) h q
 .subst H I;refine⟨[dx s D _ ch],⟨Q,ch,J,rfl⟩,C.one ⟨(y.1,Z),?_⟩⟩;have aM:C [hQ m _ _ _,s.gP,cn _ _ _ _ _ _ _,cb _,dT _,aV.bA D ch _ _ _] E:=(mg:∀h,C _ h->_) E q;have U:C [hQ _ _ (1000*(m+1)) _,s.gP,cn _ _ _ _ _ _ _,cb _,dT _,aV.bA D ch _ _ _] E:=aV.d8 (B7 (gp m) y.1.refl ad _) aM;exact(mg:aS _ _) E U
theorem O.aJ(R:∀W,Y f args [aV.bA D x W m s.aJ] λv j=>aK v/\j=[aV.bA D x W m s.aJ]):Y f args [dx s D m x] λv j=>aK v/\j=[dx s D m x]:=by
 apply O.open (λh ⟨y,q⟩=>⟨y,trivial,q⟩) λy _=>?_
 apply(O.frame ([s.gP,cn s.S s.aJ s.bI (aa s.bV) s.a0 s.aL y.2,cb s.aL,dT y.2]++[hQ m y.1 (1000*m) s.bV]) (R y.1) (λh q=>?_)).cr λv j Q ⟨J,⟨I,H⟩,E⟩ q=>?_
 .exact(mg:∀h,C _ h->_) h q
 .subst E H;exact⟨[dx s D m x],⟨I,rfl⟩,C.one ⟨y,(mg:∀h,C _ h->_) _ q⟩⟩
end
end
section
attribute [local irreducible] C bh b6
instance:qo ar 28 .i64:=⟨cq⟩
instance:qo ar 5 .u8:=⟨cq⟩
def afT(j C):Y 140 #[p7 j al al 0 af 0 0] C λv E=>(∃H,v=.bool H)/\E=C:=by
 refine aD ?_;refine bP λI=>?_;apply cc;apply ed (bE [0,1,2,3,4,5,6] (.q 7 .nil)) _;iterate 8 apply bu _
 apply jR
 by_cases h1:j<0
 .apply eO _;exact⟨⟨_,rfl⟩,rfl⟩
 .apply ak _
  by_cases ae:12<j
  .apply eO _;exact⟨⟨_,rfl⟩,rfl⟩
  .apply eO _;exact⟨⟨_,rfl⟩,rfl⟩
def yX(j):∃a:dJ,IntKind.u8.wrap j=(a.n:Int):=by
 have h:IntKind.u8.wrap j=j % 256:=by rfl
 refine⟨⟨(j % 256).toNat,ad⟩,?_⟩;grind
def afM(I H):Y 141 #[p7 I al al 0 af 0 0] H λv O=>∃A c l,v=.slice A (aa (α:=dJ) l) c/\(0<aa l->∃b,A=(U b))/\aa l<=10/\O=E 5 1 A (aa l) c (J l)::H:=by
 obtain⟨a,Q⟩:=yX I;refine aD λ{g F}=>?_;apply bP λR=>?_;refine a6 (n2 rfl) ?_;apply bd λC=>?_;apply ay _;apply cc;rw[Q];apply aC _;apply cc;apply fV _;apply ef (ι:=Unit) (λ_=>[(3,.slice (U C) 1 1)]) (λ_=>F::ah C 5 [.int .u8 (a.n:Int)]::H) (λ_=>True) _ _
 .apply bs _;apply cL (ι:=Unit) (λ_=>[(3,.slice (U C) 1 1),(34,j 0),(35,j 0)]) (λ_=>F::ah C 5 [.int .u8 (a.n:Int)]::H) (λ_=>True) (λ_=>0) () trivial aZ au;rintro⟨⟩-;apply ak _;exact cC () trivial ⟨rfl,trivial⟩ a1
 .rintro⟨⟩-;apply ak _;exact bp (j:=E 5 1 (U C) 1 1 (J [a])::F::H) (λh s=>aV.d8 (E.R4 (n:=1) (j:=[.int .u8 (a.n:Int)]) p bL) s.swap) (aR ⟨(U C),1,[a],rfl,λ_=>⟨C,rfl⟩,ao,rfl⟩)
def Zt(C H):Y 100 #[p7 C al al 0 af 0 0] H λv I=>∃A c l O,v=.tuple #[.slice A (aa (α:=dJ) l) c,j O]/\(0<aa l->∃b,A=(U b))/\aa l<=10/\I=E 5 1 A (aa l) c (J l)::H:=by
 have W:=afT C;have R:=afM C;refine aD ?_;refine bP λai=>?_;apply aP (W _) _;rintro _ _ ⟨⟨ah,rfl⟩,rfl⟩;apply ak _;cases ah with
 |false=>
  apply ak _;exact bp (E.c7 5 1) (aR ⟨af,0,[],_,rfl,db,ao,rfl⟩)
 |true=>
  apply aC _;apply aP (R _) _;rintro _ _ ⟨A,c,l,rfl,Q,Z,rfl⟩;apply ak _;exact aR ⟨A,c,l,_,rfl,Q,Z,rfl⟩
def W7(Z am)(I:List gd)(O)(aq:Rd O Z (aa I) I)(aH:∀H∈I,Rd O H.A (aa H.l) H.l)(aJ:aa I<=100000000):Y 101 #[.slice Z (aa I) am] O λv av=>∃A c l az,v=.tuple #[.slice A (aa (α:=dJ) l) c,j az]/\(0<aa l->∃b,A=(U b))/\aa l<=65536/\av=E 5 1 A (aa l) c (J l)::O:=by
 obtain⟨n,aK⟩:∃n,aa I=n:=⟨_,rfl⟩;rw[aK]at aq aJ ⊢;refine aD λ{g F}=>?_;apply cc;apply fV _;apply bp (E.c7 5 1);apply ef (ι:=Option _×Nat×List dJ) (λy=>[(4,.slice y.1 y.2.2.length y.2.1)]) (λy=>E 5 1 y.1 y.2.2.length y.2.1 (J y.2.2)::F::O) (λy=>(0<y.2.2.length->∃b,y.1=(U b))/\y.2.2.length<=65536) _ _
 .apply bs _;refine cL (ι:=Nat×Option _×Nat×List dJ) (λy=>[(4,.slice y.2.1 y.2.2.2.length y.2.2.1),(7,.slice Z n am),(8,.int _ _),(9,.int _ (y.1:Nat))]) (λy=>E 5 1 y.2.1 y.2.2.2.length y.2.2.1 (J y.2.2.2)::F::O)
   (λy=>y.1<=n/\(0<y.2.2.2.length->∃b,y.2.1=(U b))/\y.2.2.2.length<=65536) (λy=>n-y.1) (0,af,0,[]) ⟨bO _,db,ao⟩ aZ au ?_
  rintro⟨Q,A,c,o⟩ ⟨aF,R,W⟩;simp at aF R W;dsimp only;rcases dZ Q n with aI|aI
  .have aG:I[Q]?=ab I[Q]:=b8 ad;obtain⟨a3,a4,rfl,aL⟩:=aq.at_ ad;have aM:=(aL _ _ aG).at_ (i:=0) p;have aV:=aH I[Q] (gG _);generalize I[Q]=H at*
   have a7:=aM;apply aC _;apply cd _;refine gJ p (cO ad) ?_;apply bQ _;iterate 3 apply ay _
   apply cc
   by_cases h1:65535<aa H.l
   .apply ak _;apply bp (E.c7 5 1);exact ba (C:=E 5 1 af 0 0 []::O) p (.tmp p (.tmp p .nil)) (λh s=>by
     exact C.swap (C.bl (λh s=>s.tail) s)) ⟨af,0,[],_,rfl,db,ao,rfl⟩
   .apply bs _;apply jP;iterate 4 apply ay _
    refine hN 16 p (cw ad) ?_;iterate 2 apply ay _
    refine hC p p p p ?_;refine a6 (pP (q:=2) p p ad) ?_;iterate 2 apply ay _
    refine hC p p p p ?_;refine a6 (wR (C:=65536) p p ad) ?_;apply ak _
    by_cases ae:65536-aa o<aa H.l+2
    .apply ak _;apply bp (E.c7 5 1);exact ba (C:=E 5 1 af 0 0 []::O) p (.tmp p (.tmp p .nil)) (λh s=>by
      exact C.swap (C.bl (λh s=>s.tail) s)) ⟨af,0,[],_,rfl,db,ao,rfl⟩
    .apply bs _;refine e9 p (cw ad) ?_;let⟨ah,aA⟩:=yX (((aa H.l:Nat):Int).fdiv (2 ^ min (tL 8) IntKind.i64.bits));let⟨ai,aB⟩:=yX ((aa H.l:Nat):Int);apply dY _;apply bd λaP=>?_;apply fz λaO aQ aS aW aY=>?_;apply fz λar ax aT aX a0=>?_;have aE:J o++[Value.int .u8 (IntKind.u8.wrap (((aa H.l:Nat):Int).fdiv (2 ^ min (tL 8) IntKind.i64.bits))),Value.int .u8 (IntKind.u8.wrap ((aa H.l:Nat):Int))]++J H.l=J (o++[ah,ai]++H.l):=by
      rw[aA,aB,gS,gS];rfl
     have ap:aa (o++[ah,ai]++H.l)=aa o+2+aa H.l:=bv;refine b7 (Q+1,ar,ax,o++[ah,ai]++H.l) ⟨ad,by simp_all,by grind⟩ ad ⟨by rw[ap];rfl,rfl,rfl,rfl,trivial⟩ ?_;rw[<- aE,ap];exact au
  .apply ak _;exact cC (A,c,o) ⟨R,W⟩ ⟨rfl,trivial⟩ a1
 .rintro⟨A,c,o⟩ ⟨R,W⟩;apply ak _;exact aR ⟨A,c,o,_,rfl,R,W,rfl⟩
instance:qo ar 283 .u64:=⟨cq⟩
instance:qo ar 3 .i64:=⟨cq⟩
def ai4(x):∃j:Nat,j<2 ^ 64/\IntKind.u64.wrap x=(j:Int):=by
 refine⟨(x % 18446744073709551616).toNat,ad,?_⟩;rw[IntKind.wrap_u64];omega
def aaz(v E):Y 358 #[j v] E λO H=>(∃C:Nat,C<2 ^ 64/\O=.int .u64 (C:Int))/\H=E:=by
 refine aD ?_;refine a6 (n2 rfl) ?_;refine a6 (GH p p ao) ?_;apply ay _;refine a6 (GI p p ao) ?_;refine a6 (n2 rfl) ?_;apply dY _;obtain⟨C,J,I⟩:=ai4 _;apply dk _;exact⟨⟨C,J,congrArg (Value.int .u64) I⟩,rfl⟩
def r1(A:a3)(c)(l:List dJ)(v)(I:Q)(R:0<aa l->∃b,A=(U b))(aQ:aa l<=100000):Y 295 #[.slice A (aa l) c,j v] (E 5 1 A (aa l) c (J l)::I) λaG ax=>∃Z am H,aG=.slice Z (aa (α:=dJ) H) am/\(0<aa H->∃b,Z=(U b))/\aa H<=aa l+65/\0<aa H/\ax=E 5 1 Z (aa H) am (J H)::I:=by
 refine aD λ{g F}=>?_;apply aP (aaz v _) _;rintro _ _ ⟨⟨aH,aE,rfl⟩,rfl⟩;apply ay _;apply cc;apply fV _;apply ef (ι:=Nat×Option _×Nat×List dJ) (λy=>[(0,.slice y.2.1 y.2.2.2.length y.2.2.1),(5,.int .u64 (y.1:Int))]) (λy=>E 5 1 y.2.1 y.2.2.2.length y.2.2.1 (J y.2.2.2)::F::I) (λy=>(0<y.2.2.2.length->∃b,y.2.1=(U b))/\y.2.2.2.length<=aa l+64) _ _
 .apply bs _;apply cL (λy=>[(0,.slice y.2.2.1 y.2.2.2.2.length y.2.2.2.1),(5,.int .u64 (y.2.1:Int))]) (λy=>E 5 1 y.2.2.1 y.2.2.2.2.length y.2.2.2.1 (J y.2.2.2.2)::F::I) (λy=>(0<y.2.2.2.2.length->∃b,y.2.2.1=(U b))/\y.2.2.2.2.length+y.1<=aa l+64/\y.2.1<2 ^ y.1) (λy=>y.1) (64,aH,A,c,l) ⟨R,bC _,aE⟩ aZ au;rintro⟨ah,C,A,c,o⟩ ⟨R,ar,aA⟩;simp only at R ar aA;dsimp only;apply ak _;rcases dZ C 128 with aB|aB
  .apply ak _;exact cC (C,A,c,o) ⟨R,by grind⟩ aZ a1
  .apply bs _;refine gJ p (cO ad) ?_;let⟨a,O⟩:=yX ((hf IntKind.u8.bits (IntKind.u8.wrap (C:Int))|||hf IntKind.u8.bits 128).toNat:Int);have O:qw .or .u8 (IntKind.u8.wrap (C:Int)) 128=(a.n:Int):=O;have aO:ah≠0:=λaK=>by simp_all
   obtain⟨W,rfl⟩:∃W,ah=W+1:=⟨ah-1,ad⟩;have aF:((C:Int).fdiv (2 ^ min (tL 7) IntKind.u64.bits))=((C/128:Nat):Int):=by
    show(C:Int).fdiv (2 ^ 7)= _;grind
   have an:C/128<2 ^ W:=by
    omega
   apply aC _;refine a6 (n2 (k:=.u64) (rJ:=.u8) p) ?_;apply dY _;apply bd λaI=>?_;apply fz λav az aL aR aT=>?_;apply dY _;rw[aF,O];have aq:J o++eS [Value.int .u8 0] (0*1) (hp (Value.int .u8 (a.n:Int)))=J (o++[a]):=gi o a;refine b7 (W,C/128,av,az,o++[a]) ⟨by simp_all,by grind,an⟩ ao ⟨by simp;rfl,rfl,trivial⟩ ?_;rw[aq,b4];exact au
 .rintro⟨C,A,c,o⟩ ⟨R,ar⟩;let⟨a,O⟩:=yX (C:Int);apply aC _;refine a6 (n2 (k:=.u64) (rJ:=.u8) p) ?_;apply bd λaJ=>?_;apply fz λai ap aM aS aV=>?_;rw[O];have aq:J o++eS [Value.int .u8 0] (0*1) (hp (Value.int .u8 (a.n:Int)))=J (o++[a]):=gi o a;exact ba (C:=E 5 1 ai (aa o+1) ap (J o++eS [Value.int .u8 0] (0*1) (hp (Value.int .u8 (a.n:Int))))::I) p ds au ⟨ai,ap,o++[a],by simp;rfl,by simp_all,by simp_all,ao,by simp_all⟩
end
section
attribute [local irreducible] C
def ahq(l:List dJ):ByteArray:=strOfNums (l.map λa=>(a.n:Int))
variable{P:Program}{L:Q}{H:cU}{d:Option Nat}{aO T ci:TypeId}{pos:String}{aT:Array Edge}{a7:Option (Nat×Bool)}{x y:Operand}
def OQ{A:a3}{n c j ar Z:Nat}{l}[Y:eu P T (j,ar,Z)](O:P.underlying j=ab (.int .u8))(J:P.underlying ci=ab .string)(E:aX H x=ab (.slice A n c))(am:A=af\/∃b o,A=ab ⟨b,o,af⟩)(C:Rd L A n l):bh P L H ⟨d,.convert T ci x,aO,pos,aT,a7⟩ (.string (ahq l)):=λa I ap aq=>by
 have aB:=C.len bL;let⟨R,_⟩:=Y.spec;simp[execOp,ap.eval E];rcases am with rfl|⟨b,o,rfl⟩
 .have ax:n=0:=by
   rcases hh n with h|h
   .omega
   .let⟨b,o,j,_⟩:=C.at_ h;grind
  have:l=[]:=gX ad;subst this;have:=run_convert_bytes_nil I T j R O n c ci J;simp[Sem.run_bind,this,e5];rfl
 .have:=run_convert_bytes_arg I T j R O b o n c (l.map λa=>(a.n:Int)) bo (λU aA=>by
   have ai:l[U]?=ab _:=b8 ad;let⟨aD,aE,ah,E⟩:=C.at_ ad;cases ah;have av:=(E _ _ ai).at_ (i:=0) p;have W:a5 L ⟨b,o+U*1,af⟩ _:=av;rw[Nat.mul_one]at W;have az:I.cell? _=ab _:=W.1 _ aq;simp_all) ci J
  simp[this,e5];rfl
def ZT{s j}(C:aX H x=ab (.string s))(E:aX H y=ab (.string j)):bh P L H ⟨d,.binOp .eql T x y ci,aO,pos,aT,a7⟩ (.bool (s.toList==j.toList)):=
 jU _ _ _ _ (λI=>by rfl) C E λI=>by rfl
def XA(A j:a3)(n C c O)(l W:List dJ)(L)(R:A=af\/∃b o,A=ab ⟨b,o,af⟩)(U:j=af\/∃b o,j=ab ⟨b,o,af⟩)(h1:Rd L A n l)(ae:Rd L j C W):Y 294 #[.slice A n c,.slice j C O] L λv J=>(∃Z,v=.bool Z)/\J=L:=by
 have E:ar.underlying 5=ab (.int .u8):=by rfl
 have I:ar.underlying 9=ab .string:=by rfl
 refine bt ?_;refine a6 (OQ E I p R (bx h1)) ?_;apply ay _;refine a6 (OQ E I p U (bx ae)) ?_;refine a6 (ZT p p) ?_;apply dk _;exact⟨⟨_,rfl⟩,rfl⟩
def ZX{P L H}{d:Option Nat}{aO T pos aT a7 x j C}(I:aX H x=ab (.int j C)):bh P L H ⟨d,.unOp .neg T x,aO,pos,aT,a7⟩ (.int j (j.wrap (0-C))):=λa J E _=>by
 simp only[execOp,E.eval I];rfl
def aiH(v L):Y 293 #[.int .u64 v] L λI C=>(∃E:Int,I=j E)/\C=L:=by
 refine bt ?_;refine a6 (GI p p ao) ?_;refine a6 (n2 rfl) ?_;apply ay _;refine a6 (ZK p p) ?_;refine a6 (n2 rfl) ?_;refine a6 (ZX p) ?_;refine a6 (O3 p p) ?_;apply dk _;exact⟨⟨_,rfl⟩,rfl⟩
def afL(A n c)(l:List dJ)(L)(R:Rd L A n l)(aK:n<=c)(aR:n<=100000000):Y 214 #[.slice A n c] L λaF am=>(∃(U:Int) (s:Nat),aF=.tuple #[j U,j (s:Nat)]/\s<=n)/\am=L:=by
 have aL:=R.len bL;refine aD λ{g F}=>?_;apply cc;apply fV _;apply ef (ι:=Unit) (λ_=>[]) (λ_=>F::L) (λ_=>True) _ _
 .apply bs _;apply cL (λy=>[(0,.slice A n c),(4,.int _ y.2),(5,.int _ (y.1:Nat))]) (λ_=>F::L) (λy=>y.1<=n) (λy=>n-y.1) (0,0) (bO _) aZ cf;rintro⟨I,aW⟩ aI;rcases dZ I n with ax|ax
  .by_cases aJ:I<10
   .have ar:l[I]?=ab _:=b8 ad;obtain⟨Z,ah,rfl,aA⟩:=R.at_ ad;have aG:=(aA _ _ ar).at_ (i:=0) p;generalize l[I]=a at*
    have aV:=aG;apply aC _;refine hN 10 p (cO ad) ?_;apply ay _;refine hC p p p p ?_
    (first|refine a6 _ ?_|refine a6 (rA p p) ?_)
    refine ay ?_;apply cd _;refine gJ p (cO ad) ?_;apply bQ _;iterate 3 apply ay _
    refine a6 (iV p p ad) ?_;apply ay _;refine a6 (ZJ p p) ?_;refine a6 (n2 (k:=.u8) (rJ:=.u64) p) ?_;apply ay _;refine a6 (OX p p) ?_;refine a6 (GH p p (by rw[oD _ ad];omega)) ?_;apply dY _
    by_cases aQ:128<=a.n
    .apply dY _;exact b7 (I+1,_) ad ad aZ a1
    .apply ak _;apply aP (aiH _ _) _;rintro _ _ ⟨⟨U,rfl⟩,rfl⟩;apply ak _;have az:=λJ=>r1 af 0 [] U J db ao;have aB:∀J,Rd (J++L) (ab ⟨Z,ah,af⟩) (I+1) (l.take (I+1)):=λJ=>Rd.mono (λh s=>by
      obtain⟨_,_,_,_,aE,_,a⟩:=C.split s;exact a.up aE) (R.take (k:=I+1) ad)
     apply bp (E.c7 5 1);apply hZ 0 (bE [0,2,3,4,5] (.e 1 (.e 6 (.q 7 .nil)))) _;refine eh p (kH (h:=I+1) p p ad) ?_;apply dV (O.pick aN (az _)) _;rintro _ _ ⟨ai,aq,W,rfl,av,aM,aS,rfl⟩;apply bX _;refine dV (XA ai (ab ⟨Z,ah,af⟩) (aa W) (I+1) aq c W (l.take (I+1)) _ bv (.inr ⟨_,_,rfl⟩) (by repeat' first|exact bf.E (ck _) av|apply Rd.ap) (by repeat' first|exact aB []|apply Rd.ap)) ?_;rintro _ _ ⟨⟨aH,rfl⟩,rfl⟩;apply bX _;apply aC _;cases aH with
     |false=>
      apply dk _;exact⟨⟨_,0,rfl,bO _⟩,rfl⟩
     |true=>
      apply dY _;apply eO _;exact⟨⟨_,I+1,rfl,ad⟩,rfl⟩
   .apply bs _;apply jP;iterate 5 apply ay _
    refine hN 10 p (cO ad) ?_;apply ay _;refine hC p p p p ?_
    (first|refine a6 (rB (q:=10) p p) ?_|refine a6 (rA p p) ?_)
    apply ak _;exact cC () trivial trivial a1
  .apply ak _;exact cC () trivial trivial a1
 .rintro⟨⟩-;apply dk _;exact⟨⟨_,0,rfl,bO _⟩,rfl⟩
end
section
attribute [local irreducible] C bh b6
@[reducible] def DU (b o:Nat):Value:=.pointer (some ⟨b,o,none⟩)
def Ay(l:List Int):Nat->Int:=λj=>l.getD j 0
def Tu(C:Nat->Int)(o:Nat)(v:Int):Nat->Int:=λj=>if j=o then v else C j
def Cg(j:Nat):iM:=bE (List.range j) (.e j (.q (j+1) .nil))
def aiI{b H o:Nat}{C v}{E:Q}(J:o<18):iN b o [j v] (ah b H (gE C)::E) (ah b H (gE (Tu C o v))::E):=by
 have I:eS (gE C) o [j v]=gE (Tu C o v):=by
  have h:o=0\/o=1\/o=2\/o=3\/o=4\/o=5\/o=6\/o=7\/o=8\/o=9\/o=10\/o=11\/o=12\/o=13\/o=14\/o=15\/o=16\/o=17:=ad;rcases h with rfl|rfl|rfl|rfl|rfl|rfl|rfl|rfl|rfl|rfl|rfl|rfl|rfl|rfl|rfl|rfl|rfl|rfl<;>rfl
 rw[<- I];exact iN.here (by show Nat.ble (o+1) 18=ag;exact Nat.ble_eq_true_of_le ad)
def aab(b H)(E:Q):Y 193 #[I b] (ah b 54 (gE H)::E) λv J=>∃C j,v=.slice (U C) (aa (α:=Nat) j) (aa j)/\aa j<=4/\(∀o∈j,o<18)/\J=ah C 318 (j.map (DU b))::ah b 54 (gE H)::E:=by
 refine cR λ{g F}=>?_;refine bQ ?_;refine ay ?_;refine cc ?_;refine Fg ?_
 repeat' first
  |refine ay ?_|refine bu ?_|refine bQ ?_|refine ee ?_|refine FA ?_|refine m3 ?_|refine hl ?_|refine kB ?_|refine mx ?_|refine Bf ?_|refine Vz ?_|refine VE ?_|refine vO (y:=ag) ?_|refine vO (y:=al) ?_|refine Fh ?_|refine Ma ?_|refine Fi ?_|refine Mb ?_
  |(refine ed (Cg 9) ?_;iterate 9 refine bu ?_
    refine h5 λ_=>?_)
  |(refine ed (Cg 16) ?_;iterate 16 refine bu ?_
    refine h5 λ_=>?_)
  |(refine ed (Cg 12) ?_;iterate 12 refine bu ?_
    refine h5 λ_=>?_)
  |(refine ed (Cg 6) ?_;iterate 6 refine bu ?_
    refine h5 λ_=>?_)
  |refine aM (λ_=>?_) (λ_=>?_)
  |refine bd λ_=>?_
  |refine jP ?_
  |refine fO ?_
  |refine cd ?_
 all_goals first|exact ba p (.tmp p .nil) au ⟨_,[2,3,4],rfl,bL,bL,rfl⟩|exact ba p (.tmp p .nil) au ⟨_,[5,6,7],rfl,bL,bL,rfl⟩|exact ba p (.tmp p .nil) au ⟨_,[2],rfl,bL,bL,rfl⟩|exact ba p (.tmp p .nil) au ⟨_,[5],rfl,bL,bL,rfl⟩|exact ba p (.tmp p .nil) au ⟨_,[9,10,11,12],rfl,bL,bL,rfl⟩|exact ba p (.tmp p .nil) au ⟨_,[13,14,15],rfl,bL,bL,rfl⟩|exact ba p (.tmp p .nil) au ⟨_,[16],rfl,bL,bL,rfl⟩|exact ba p (.tmp p .nil) au ⟨_,[16,17],rfl,bL,bL,rfl⟩
def VV(A n c a)(l:List dJ)(C)(E:Rd C A n (a::l)):aY 213 #[.slice A n c,j 0] C (.int .u8 (a.n:Int)) C:=by
 have H:=E.len bL;simp only[f0]at H;obtain⟨J,O,rfl,I⟩:=E.at_ ad;have Q:=(I 0 a p).at_ (i:=0) p;have R:a5 C ⟨J,O+0*1,af⟩ (.int .u8 (a.n:Int)):=Q;refine bt ?_;exact c8
def VW(A:a3)(c C):m4 ar 213 #[.slice A 0 c,j 0] C (lD 0 1) λE=>E=C:=by
 refine pt (fn:=Tryz.f213) (n:=18) Tryz.func213 p p p ?_;intro g F;apply ak _;exact oK p (Uq 0 1 bL _) λa O E I H J=>pj (j:=C) p I p ((H▸J).mono au)
def JX{Z}{g:d1}{F n R O}{H E:Q}{ax av l}{W:Option Nat}{J aA aB az U}(C q)(ai:hw O J=ab [j C,j q])(am:q≠0)(ah:aS H (F::E)):
  du ar (r3 ar Z g.base F ax λv I=>(∃C q,v=lD C q)/\I=E) g.base n av (⟨W,.call ⟨.value (.func 190),J.toArray,aA⟩,aB,az,U,af⟩::l) R O H:=
 oK ai (FJ C q am _) λa aD I ap Y aq=>D9 (j:=E) p ap ⟨⟨_,_,rfl⟩,rfl⟩ ((Y▸aq).mono ah)
def NJ{W}{g:d1}{F n R O}{E H:Q}{Z U Y l I J ah}{args:bz}{aE aF aD ai}[aG:cu ar J](aq:hw O ah=ab args)(av:eb n I=ag)(aA:ls ar J args.toArray E U λv j=>(∃C q,v=lD C q)/\j=E)(ap:aS E (F::H))(aB:∀v j,U v j->du ar (r3 ar W g.base F Z λv j=>(∃C q,v=lD C q)/\j=H) g.base n Y l R (eM O I v) j):
  du ar (r3 ar W g.base F Z λv j=>(∃C q,v=lD C q)/\j=H) g.base n Y (⟨I,.call ⟨.value (.func J),ah.toArray,aE⟩,aF,aD,ai,af⟩::l) R O E:=
 VA aq av aA (λv a aH j ax am az=>by
  obtain⟨⟨C,q,rfl⟩,rfl⟩:=am;exact D9 (j:=H) p ax ⟨⟨_,_,rfl⟩,rfl⟩ (az.mono ap)) aB
def abV(c C):ls ar 212 #[.int .u8 c] C (λv E=>(∃j,v=gF j)/\E=C) λv E=>(∃R q,v=lD R q)/\E=C:=by
 refine Bb (fn:=Tryz.f212) (n:=20) Tryz.func212 p p p ?_;intro g F;apply bQ _;apply bg λJ=>?_;refine a6 (n2 (k:=.u8) (rJ:=.i64) p) ?_;apply ak _;apply bg λO=>?_;apply ef (ι:=Nat->Int) (λ_=>[(2,I J),(3,I O)]) (λj=>ah J 54 (gE (Ay []))::ah O 54 (gE j)::F::C) (λ_=>True) _ _
 .by_cases U:16<c
  .apply ak _;refine a6 (n2 (k:=.u8) (rJ:=.i64) p) ?_;refine a6 (O2 p p) ?_;apply ak _;exact cC (Ay [2,0,0,0,0,0,0,0,IntKind.i64.wrap (IntKind.i64.wrap c-16)]) trivial aZ au
  .apply ak _;exact cC (Ay [1,IntKind.i64.wrap c]) trivial aZ au
 .intro j _;have Q:=D0 j;cases H:s5 j with
  |false=>
   rw[H]at Q;apply ak _;apply a9 (Ea j _) _;rw[H];apply ak _;exact JX 0 8 p bL au
  |true=>
   apply ak _;apply a9 (Ea j _) _;rw[H];apply ak _;exact Fl (j:=C) p (.cell p (eQ cA) .nil) au ⟨⟨j,rfl⟩,rfl⟩
structure L4 where
 r:Nat->Int
 A:Option cg
 n:Nat
 c:Nat
 l:List dJ
def ace{j I b C o:Nat}{E:List Nat}(h:E[C]?=ab o)(H:Q):a5 (ah j I (E.map (DU b))::H) ⟨j,0+C*1,af⟩ (DU b o):=
 a5.ah bv
def Y2(A n c)(l:List dJ)(E)(ax:Rd E A n l)(aE:n<=c)(a0:n<=100000000):ls ar 139 #[.slice A n c] E (λv Z=>(∃H,v=gF H)/\Z=E) λv Z=>(∃aV q,v=lD aV q)/\Z=E:=by
 have aL:aa l=n:=ax.len bL;refine Bb Tryz.func139 p p p ?_;intro g F;apply bQ _;apply bd λai=>?_;apply cc;cases l with
 |nil=>
  have av:n=0:=bo;subst av;apply aC _;exact oK p (VW A c _) λa a4 Z aS W aT=>D9 rfl aS ⟨⟨_,_,rfl⟩,rfl⟩ ((W▸aT).mono au)
 |cons a l=>
  have aM:=aL;simp only[f0]at aM;obtain⟨aA,az,W,_⟩:=ax.at_ ad;subst W;have aJ:=λR h=>VV (ab ⟨aA,az,af⟩) n c a l R h;have aK:=λc R=>abV c R;apply aC _;apply a9 (aJ _ (bx ax)) _;refine NJ p p (aK _ _) au ?_;rintro _ _ ⟨⟨H,rfl⟩,rfl⟩;apply bP λJ=>?_;refine a6 (iW (l:=1) p p ad aE) ?_;apply dl _;have aW:Rd E (ab ⟨aA,(if c=1 then az else az+1*1),af⟩) (n-1) l:=ax.drop (k:=1) (c:=c) ad aE;apply bQ _;apply aP (O.pick aN (aab J H _)) _;rintro _ _ ⟨aB,C,rfl,aY,aQ,rfl⟩;iterate 2 apply ay _
  apply cc;apply fV _;apply ef (ι:=L4) (λy=>[(0,.slice y.A y.n y.c),(2,I ai),(3,I J)]) (λy=>ah J 54 (gE y.r)::ah ai 54 (gE (Ay []))::F::E) (λ_=>True) _ _
  .apply bs _;refine cL (ι:=Nat×L4) (λy=>[(0,.slice y.2.A y.2.n y.2.c),(2,I ai),(3,I J),(12,.slice (U aB) (aa C) (aa C)),(13,j (aa C:Nat)),(14,j (y.1:Nat))]) (λy=>ah aB 318 (C.map (DU J))::ah J 54 (gE y.2.r)::ah ai 54 (gE (Ay []))::F::E) (λy=>y.1<=aa C/\Rd E y.2.A y.2.n y.2.l/\y.2.n<=y.2.c/\y.2.n<=100000000) (λy=>aa C-y.1) (0,⟨H,_,n-1,c-1,l⟩) ⟨bO _,aW,by grind,by grind⟩ aZ au ?_;rintro⟨Q,H,A,n,c,l⟩ ⟨aG,am,aq,aD⟩;simp only at aG am aq aD;dsimp only;rcases dZ Q (aa C)with aI|aI
   .have aH:C[Q]?=ab C[Q]:=b8 ad;have aO:=aQ C[Q] (gG _);generalize C[Q]=o at*
    have aR:=λR h=>afL A n c l R h aq aD;apply dY _;refine a6 (fC p (by repeat' first|exact ace aH _|apply a5.ap)) ?_;apply aC _;apply aP (aR _ (bx am)) _;rintro _ _ ⟨⟨a3,Y,rfl,aF⟩,rfl⟩;iterate 4 apply ay _
    refine GE (o2 p p p (by repeat' first|exact aiI aO|apply iN.ap)) ?_;rintro _ _ ⟨rfl,rfl⟩;apply ak _
    by_cases av:Y=0
    .apply ak _;exact JX 1 8 p ao au
    .apply bs _;refine e9 p (cw ad) ?_;obtain⟨aA,az,W,_⟩:=am.at_ ad;subst W;have aX:=am.drop (k:=Y) (c:=c) aF aq;apply ak _;refine a6 (iW (l:=Y) p p aF aq) ?_;apply dY _;exact b7 (Q+1,⟨_,_,n-Y,c-Y,_⟩) ⟨ad,aX,by simp only;omega,by simp only;omega⟩ ad aZ au
   .apply ak _;exact cC ⟨H,A,n,c,l⟩ trivial aZ au
  .rintro⟨H,A,n,c,l⟩-;dsimp only;apply ak _;rcases hh n with av|av
   .apply ak _;exact Fl (j:=E) p (.cell p (eQ cA) .nil) au ⟨⟨H,rfl⟩,rfl⟩
   .apply ak _;exact JX 2 8 p bL au
def Y1(H A n c)(l:List dJ)(j)(O:Rd j A n l)(Q:n<=c)(U:n<=100000000)(Z:a5 j ⟨H,0,af⟩ (.slice A n c)):ls ar 138 #[I H] j (λv C=>(∃E,v=gF E)/\C=j) λv C=>(∃W q,v=lD W q)/\C=j:=by
 refine Bb Tryz.func138 p p p ?_;intro g F;have R:=λJ h=>Y2 A n c l J h Q U;apply bQ _;apply bP λY=>?_;refine NJ p p (R _ (bx O)) au ?_;rintro _ _ ⟨⟨E,rfl⟩,rfl⟩;apply ak _;exact Fl rfl (.cell p (eQ cA) .nil) au ⟨⟨E,rfl⟩,rfl⟩
def aiO(O R U:Nat)(E:dc)[cu ar E](H:bz)(Z:Nat->Int)(C:Q)(h:∀Y:List aG,ls ar E H.toArray (Y++C) (λv j=>(∃J,v=gF J)/\j=Y++C) λv j=>(∃W q,v=lD W q)/\j=Y++C):
  ls ar 211 #[I O,I R] (ah R 54 (gE Z)::ah O U [.func (.func E) #[] H.toArray]::C) (λ_ j=>∃J,j=ah R 54 (gE J)::ah O U [.func (.func E) #[] H.toArray]::C) λv j=>(∃W q,v=lD W q)/\j=ah R 54 (gE Z)::ah O U [.func (.func E) #[] H.toArray]::C:=by
 refine Bb Tryz.func211 p p p ?_;intro g F;have h1:=h [F,ah R 54 (gE Z),ah O U [.func (.func E) #[] H.toArray]];apply aC _;refine VB rfl p p fs (λv a aq j am ai ap=>?_) ?_;obtain⟨⟨W,q,rfl⟩,rfl⟩:=ai;exact D9 p am ⟨⟨_,_,rfl⟩,rfl⟩ ap;rintro _ _ ⟨⟨J,rfl⟩,rfl⟩;apply ak _;exact VK (I:=[]) (C:=[]) p .nil cT ⟨J,rfl⟩
def aiP(J:dc)[cu ar J](R:bz)(H:Q)(h:∀U:List aG,ls ar J R.toArray (U++H) (λv C=>(∃E,v=gF E)/\C=U++H) λv C=>(∃ai q,v=lD ai q)/\C=U++H):
  Y 137 #[.func (.func J) #[] R.toArray] H λv C=>(∃E am,v=.tuple #[gF E,j am])/\C=H:=by
 have h1:=λaB aE U=>aiO aB aE 268 J R (λ_=>0) (U++H) (λav=>by have:=h (av++U);simp_all);refine aD λ{g F}=>?_;apply bd λW=>?_;apply bP λZ=>?_;apply bd λax=>?_;apply cc;have aA:O _ _ _ _ λv C=>(∃ai q aq,v=.tuple #[.agg #[.int _ ai,.int _ q],.bool aq])/\∃E,C=ah Z 54 _::ah W _ [.func (.func J) #[] R.toArray]::H:=
  (F9 (R:=[]) (U:=[I W,I Z]) (aI:=λC=>∃E,C=ah Z 54 (gE E)::ah W 268 [.func (.func J) #[] R.toArray]::H) (aB:=λ_ C=>C=ah Z 54 (gE λ_=>0)::ah W 268 [.func (.func J) #[] R.toArray]::H) (h1 W Z [])).mono λv C h=>by
   rcases h with ⟨am,E,ap⟩|⟨ai,q,am,ap⟩
   .exact⟨⟨_,_,_,am⟩,E,ap⟩
   .exact⟨⟨_,_,_,am⟩,_,ap⟩
 apply aC _;apply aP (b3 aA) _;rintro _ _ ⟨_,⟨⟨ai,q,aq,rfl⟩,E,rfl⟩,rfl⟩;apply ak _;apply bd λaz=>?_;apply fv _;apply ay _;apply cc;apply bp (j:=ah az 293 [j ai,j q]::ah ax 54 (gE λ_=>0)::F::ah Z 54 (gE E)::ah W 268 [.func (.func J) #[] R.toArray]::H) au;apply ak _;cases aq with
 |true=>
  apply kB _;apply hZ 3 (bE [0,1,2] (.e 3 (.q 4 .nil))) _;refine bF (bW p p p (rz p p p p oU) ?_);rintro _ _ ⟨rfl,rfl⟩;apply bX _;apply eX _;exact⟨_,⟨⟨λ_=>0,_,rfl⟩,rfl⟩,au⟩
 |false=>
  apply eX _;exact⟨_,⟨⟨E,_,rfl⟩,rfl⟩,au⟩
def Vl(A n c)(l:List dJ)(C)(Z:Rd C A n l)(ai:n<=c)(am:n<=100000000):Y 99 #[.slice A n c] C λv O=>(∃E H,v=.tuple #[gF E,j H])/\O=C:=by
 have aq:=λJ (R:Q)=>aiP _ _ (R++(ah J 55 [.slice A n c]::C)) (λav=>Y1 J A n c l _ (by
  rw[<- jm];exact Rd.ev (Rd.ap Z)) ai am (by
  rw[<- jm];exact a5.ev (a5.ah p)))
 refine aD λ{g F}=>?_;apply bd λI=>?_;apply bd λU=>?_;apply ay _;apply cc;have ar:=aq I [];apply aC _;apply aP (b3 ar) _;rintro _ _ ⟨_,⟨⟨E,H,rfl⟩,rfl⟩,rfl⟩;apply ak _;apply bd λW=>?_;apply fv _;apply ay _;apply cc;apply bp (j:=ah W 54 (gE E)::ah U 54 (gE λ_=>0)::F::ah I 55 [.slice A n c]::C) au;apply ak _
 by_cases ax:H=0
 .apply eX _;exact⟨_,⟨⟨E,_,rfl⟩,rfl⟩,au⟩
 .apply eX _;exact⟨_,⟨⟨λ_=>0,_,rfl⟩,rfl⟩,au⟩
end
section
attribute [local irreducible] C bh b6
attribute [local irreducible] aV.bA cn dT cb c4 dA
structure MF where
 B:Option cg
 e:Nat
 gs:List gd
 bH:Option Nat
section
variable{m k:Nat}{W:ej}{S aJ:Nat}{bI:a3}{a4 a0 c6 aL:Nat}{aW:Option Nat}{c bn bc:Nat}{b:Int}{bH:Option Nat}{cv:List Nat}{i:Nat}
def WY(D m k:Nat)(x:bM)(W:ej)(S aJ c6 a4 a0 aL c bn bc:Nat)(b:Int)(cv:List Nat)(O:aG)(Y:Nat)(v:a2)(I:Q):Prop:=∃(A:a3) (H:Nat) (l:List dJ) (R:Int) (C:Q),v=.tuple #[.slice A (aa l) H,j R]/\(0<aa l->∃b,A=(U b))/\aa l<=65536/\ri D m k x W S aJ (U c6) a4 a0 aL c bn bc b C/\I=E 5 1 A (aa l) H (J l)::O::i5 bc Y::gQ c6 a4 a0 cv::C
def agw(bE:aa cv=a4)(bB:cv[i]?=ab c)(bJ:x.ok D){aq}(A n bq)(bk:List dJ)(ar)(b1:∀am,Rd (ar::am) A n bk)(b9:aq+n<=100000000):Y 62 #[I S,j (i:Nat),.slice A n bq] (ar::i5 bc aq::gQ c6 a4 a0 cv::kR D m k x W S aJ (U c6) a4 a0 aL aW c bn bc b bH) (WY D m k x W S aJ c6 a4 a0 aL c bn bc b cv ar (aq+n)):=by
 have cm:=λbH a8=>UO (S:=S) (aJ:=aJ) (bI:=(U c6)) (a4:=a4) (a0:=a0) (aL:=aL) (aW:=aW) (c:=c) (bn:=bn) (bc:=bc) (b:=b) (bH:=bH) a8 (i:Nat);apply O.pre au (O.str λbe aX=>?_);apply O.pre au (O.cl λcq=>?_);apply O.pre au (O.li λy=>?_);have bZ:=Vt bc be aq aX A n bq bk ar b1 b9;have cp:be.ok (aq+n):=⟨aX.r,aX.c,hj aX.k (Nat.le_add_right ..)⟩;let⟨cI,cS,cM,cQ,cT,cN,cJ⟩:=be;refine aD λ{g F}=>?_;refine sf (B9 y bE bB _ ec (by repeat' first|exact Db bE bB _|apply a5.ap)) ?_;apply a9 (O.pick aN (Ei bn _ _ _ b _)) _
 by_cases cy:cq.ai=4
 .apply ak _;apply bp (E.c7 5 1);refine bp (j:=F::E 5 1 af 0 0 []::ar::i5 bc (aq+n)::gQ c6 a4 a0 cv:: [cn S aJ (U c6) a4 a0 aL aW,cb aL,dT aW,aV.bA D x W m aJ,c4 c bn bc b bH,dA k W bH]) (by(repeat first|exact cf|first|apply Gy cp|apply k5 p|apply lC p|refine ek ?_)<;>fail) ?_;apply ak _;exact aR ⟨af,0,[],_,_,rfl,db,ao,⟨x,W,aW,bH,.inl p,W.refl,rfl⟩,rfl⟩ (λ_ s=>C.bl (λ_ s=>C.bl (λ_ s=>C.bl (λ_ s=>C.bl (λ_ s=>C.bl (λh s=>Ep bJ (.inl p) h s) s) s) s) s) s)
 .apply ak _;apply aP (b3 bZ) _;rintro _ _ ⟨_,⟨ct,⟨aM,aB,R,br,cH,rfl,bV,b5,cF,co,rfl⟩,rfl⟩,rfl⟩;apply aC _;refine bp (j:=E 55 1 aM (aa R) aB (J R)::e0 R::F::ar::i5 bc (aq+n)::gQ c6 a4 a0 cv:: [cn S aJ (U c6) a4 a0 aL aW,cb aL,c4 c bn bc b bH,dT aW,aV.bA D x W m aJ,dA k W bH]) (by(repeat first|exact cf|first|apply Gy co|apply k5 p|apply lC p|refine ek ?_)<;>fail) ?_;apply oL (D:=∀H∈R,aa H.l<=H.c) (λh s H aT=>aaB aT (C.tail s)) λb2=>?_;apply aC _;apply bp (E.c7 55 1);apply ef (ι:=MF) (λZ=>[(10,j br),(11,.slice Z.B (aa Z.gs) Z.e)]) (λZ=>E 55 1 Z.B (aa Z.gs) Z.e (J Z.gs)::e0 Z.gs::E 55 1 aM (aa R) aB (J R)::e0 R::F::ar::i5 bc (aq+n)::gQ c6 a4 a0 cv:: [cn S aJ (U c6) a4 a0 aL aW,cb aL,c4 c bn bc b Z.bH,dT aW,aV.bA D x W m aJ,dA k W bH]) (λZ=>(Z.bH=bH\/Z.bH=af)/\(0<aa Z.gs->∃b,Z.B=(U b))/\(∀H∈Z.gs,H.ok)/\aa Z.gs<=100000000) _ _
  .apply bs _;refine cL (ι:=Nat×MF) (λy=>[(0,I S),(1,j (i:Nat)),(8,I c),(10,j br),(11,.slice y.2.B y.2.gs.length y.2.e),(48,.slice aM (aa R) aB),(49,j (aa R:Nat)),(50,j (y.1:Nat))]) (λy=>E 55 1 y.2.B y.2.gs.length y.2.e (J y.2.gs)::e0 y.2.gs::E 55 1 aM (aa R) aB (J R)::e0 R::F::ar::i5 bc (aq+n)::gQ c6 a4 a0 cv:: [cn S aJ (U c6) a4 a0 aL aW,cb aL,c4 c bn bc b y.2.bH,dT aW,aV.bA D x W m aJ,dA k W bH]) (λy=>(y.2.bH=bH\/y.2.bH=af)/\(0<y.2.gs.length->∃b,y.2.B=(U b))/\(∀H∈y.2.gs,H.ok)/\y.2.gs.length<=y.1/\y.1<=aa R) (λy=>aa R-y.1) (0,⟨af,0,[],bH⟩) ⟨.inl p,db,(λH h=>by grind),ao,bO _⟩ aZ DK ?_;rintro⟨av,aO,aQ,ah,aI⟩ ⟨aS,aK,aE,aY,bS⟩;simp only at aS aK aE aY bS;dsimp only;rcases dZ av (aa R)with b6|b6
   .have bz:R[av]?=ab R[av]:=b8 ad;have bG:R[av] ∈R:=gG _;generalize R[av]=H at*
    obtain⟨bb,rfl⟩:=bV ad;have bK:=b5 H bG;have bY:=λam h=>Vl H.A (aa H.l) H.c H.l am h (b2 H bG) bK.2;have cr:∀am,a5 (E 55 1 (U bb) (aa R) aB (J R)::am) ⟨bb,0+av*1,af⟩ (.slice H.A (aa H.l) H.c):=λam=>a5.E (by
     have:(J R)[av*1+0]?=ab (.slice H.A (aa H.l) H.c):=uo bz 0 (.slice H.A (aa H.l) H.c) p;simp_all)
    apply dY _;refine a6 (fC p (bx cr)) ?_;apply aC _;refine aP (bY _ (by repeat' first|exact GV bz bK _|apply Rd.ap)) ?_;rintro _ _ ⟨⟨a8,bt,rfl⟩,rfl⟩;apply aC _;apply bP λcu=>?_;apply aP (b3 (cm aI a8)) _;rintro _ _ ⟨_,⟨⟨bj,rfl⟩,aH,cB,rfl⟩,rfl⟩;apply aC _;have bw:aH=bH\/aH=af:=bv;apply aC _
    by_cases cz:bj=0
    .apply dY _;exact b7 (av+1,⟨aO,aQ,ah,aH⟩) ⟨bw,aK,aE,by grind,ad⟩ ad aZ au
    .apply ak _;apply a9 (ub _ _) _;apply aP (Zt bj _) _;rintro _ _ ⟨az,aA,ax,bR,rfl,bT,cE,rfl⟩;apply aC _;apply bd λcx=>?_;refine GE (dH p p aN gL (hA p) bN bL aw aw) ?_;rintro _ _ ⟨bh,bo,rfl,cD,cG,ce,rfl⟩;apply ay _;apply cc;apply bp (j:=E 55 1 bh (aa ah+1) bo (J ah++[Value.slice az (aa ax) aA])::e0 (ah++[⟨az,aA,ax⟩])::E 55 1 (U bb) (aa R) aB (J R)::e0 R::F::ar::i5 bc (aq+n)::gQ c6 a4 a0 cv:: [cn S aJ (U c6) a4 a0 aL aW,cb aL,c4 c bn bc b aH,dT aW,aV.bA D x W m aJ,dA k W bH]) (dp @Gr);apply dY _;refine b7 (av+1,⟨bh,bo,ah++[⟨az,aA,ax⟩],aH⟩) ⟨bw,by simpa using ce,λg aF=>?_,by simp only[b4,List.length_singleton];omega,by simp only;omega⟩ tn ⟨rfl,rfl,rfl,rfl,by simp;rfl,rfl,rfl,rfl,trivial⟩ ?_
     .rcases List.mem_append.1 aF with aF|aF
      .exact aE g aF
      .rw[List.mem_singleton]at aF;subst aF;exact⟨bT,by show aa ax<=_;omega⟩
     .have bt:J ah++[Value.slice az (aa ax) aA]=J (ah++[⟨az,aA,ax⟩]):=gi ah (⟨az,aA,ax⟩:gd);rw[bt,b4];exact au
   .apply ak _;exact cC ⟨aO,aQ,ah,aI⟩ ⟨aS,aK,aE,by simp only;omega⟩ aZ au
  .rintro⟨aO,aQ,ah,aI⟩ ⟨aS,aK,aE,aY⟩;have b0:=λam h1 ae=>W7 aO aQ ah am h1 ae aY;have cj:∀(bi:aG) (am:Q) (H:gd),H∈ah->Rd (bi::e0 ah::am) H.A (aa H.l) H.l:=λbi am H aT=>by
    let⟨q,ci⟩:=List.getElem?_of_mem aT;exact Rd.ap (GV ci (aE H aT) _)
   apply aC _;refine aP (b0 _ (by repeat' first|exact bf.E (ck _) aK|apply Rd.ap) (cj _ _)) ?_;rintro _ _ ⟨bg,bm,a7,bR,rfl,bU,ca,rfl⟩;apply aC _;apply bp (j:=E 5 1 bg (aa a7) bm (J a7)::F::ar::i5 bc (aq+n)::gQ c6 a4 a0 cv:: [cn S aJ (U c6) a4 a0 aL aW,cb aL,dT aW,aV.bA D x W m aJ,c4 c bn bc b aI,dA k W bH]) au;apply ak _;exact aR ⟨bg,bm,a7,_,_,rfl,bU,ca,⟨x,W,aW,aI,.inl p,W.refl,rfl⟩,rfl⟩ (λ_ s=>C.swap (C.bl (λ_ s=>C.bl (λ_ s=>C.bl (λ_ s=>C.bl (λ_ s=>C.bl (λh s=>Ep bJ aS h s) s) s) s) s) s))
end
end
section
attribute [local irreducible] C bh b6
attribute [local irreducible] aV.bA cn dT cb c4 dA i5 hQ
section
variable{S aJ:Nat}{bI:a3}{a4 a0 aL:Nat}{aW:Option Nat}{id:Int}(hi:id<0\/(a4:Int)<=id)
include hi
theorem ahm:aY 94 #[I S,j id] [cn S aJ bI a4 a0 aL aW] (.tuple #[p7 0 al al 0 af 0 0,.bool al,j 1]) [cn S aJ bI a4 a0 aL aW]:=by
 apply O.li λy=>?_;refine aD ?_;refine bP λC=>?_;apply a9 (B8 id hi _ ec) _;apply eX _;exact⟨_,bD,rZ⟩
theorem agx(A:a3)(n C):aY 62 #[I S,j id,.slice A n C] [cn S aJ bI a4 a0 aL aW] (.tuple #[.slice af 0 0,j 1]) [cn S aJ bI a4 a0 aL aW]:=by
 apply O.li λy=>?_;refine aD ?_;refine a9 (B8 id hi _ ec) ?_;exact aR bD rZ
end
section
variable{s:nb}{D m:Nat}{x:bM}(iz:x.ok D)(fX:m<=40000)
theorem CY(s:nb)(id):(id<0\/(aa s.bV:Int)<=id)\/∃(j:Nat) (C:oJ),id=(j:Int)/\s.bV[j]?=ab C/\(s.bV.map oJ.c)[j]?=ab C.c:=by
 by_cases h:id<0\/(aa s.bV:Int)<=id
 .omega
 .have ae:id.toNat<aa s.bV:=ad;have E:=b8 ae;grind
def W3(s:nb)(id:Int)(v:a2):Prop:=∃E x y n A I c C H,v=.tuple #[p7 E x y n A I c,.bool C,j H]/\(C=ag->0<=id/\id<aa s.bV)
include iz fX
theorem ahn(id):Y 94 #[I s.S,j id] [dx s D m x] λv C=>W3 s id v/\t1 s D m x C:=by
 rcases CY s id with h|⟨az,aA,rfl,E,ap⟩
 .exact O.Dx iz λaq=>(ahm h).mono λv C ⟨a,b⟩=>⟨⟨_,_,_,_,_,_,_,_,_,a,λh=>by grind⟩,b⟩
 .have ax:=(h2.1 E).1;exact O.one E λar aq av=>(ahl ao ap iz fX fX).mono λv C ⟨⟨H,J,Q,R,U,W,Z,ah,ai,am⟩,b⟩=>⟨⟨H,J,Q,R,U,W,Z,ah,ai,am,λ_=>⟨ao,ad⟩⟩,b⟩
theorem aiW(id C):Y 34 #[I s.S,j id,gF C] [dx s D m x] λv E=>(∃H,v=j H)/\t1 s D m x E:=by
 rcases CY s id with h|⟨Z,ah,rfl,Q,J⟩
 .exact O.Dx iz λR=>aiV h C
 .exact O.one Q λU R W=>aiU ao J iz C
theorem Xc(id):Y 36 #[I s.S,j id] [dx s D m x] λv C=>(∃E,v=j E)/\t1 s D m x C:=by
 rcases CY s id with h|⟨W,Z,rfl,J,H⟩
 .exact O.Dx iz λQ=>Xb h
 .exact O.one J λR Q U=>Xa ao H iz
theorem YE:Y 38 #[I s.S] [dx s D m x] λv j=>(∃C,v=.bool C)/\t1 s D m x j:=
 O.YG λE H=>YD iz fX
def WZ(s:nb)(D m:Nat)(x:bM)(I:aG)(v:a2)(H:Q):Prop:=∃(A:a3) (C:Nat) (l:List dJ) (O:Int) (ch:bM),v=.tuple #[.slice A (aa l) C,j O]/\(0<aa l->∃b,A=(U b))/\aa l<=65536/\lV D x ch/\H=[E 5 1 A (aa l) C (J l),I,dx s D (m+1) ch]
theorem agy(id A n J)(ai:List dJ)(H)(aE:∀aq,Rd (H::aq) A n ai)(aP:n<=1000):Y 62 #[I s.S,j id,.slice A n J] [H,dx s D m x] (WZ s D m x H):=by
 rcases CY s id with h|⟨aH,W,rfl,ap,aF⟩
 .refine(O.frame [H] (O.Dx iz λaQ=>agx h A n J) cT).cr λv ar fX ⟨av,⟨ax,ch,U,R⟩,Q⟩ q=>?_;subst Q R;refine⟨_,⟨af,0,[],1,ch,ax,db,ao,U,rfl⟩,E.c7 5 1 _ q⟩
 .apply O.pre (λ_ s=>s.swap) (O.open (Ub ap) λy _=>?_);refine(O.frame [hQ m y.1 (1000*m) (s.bV.eraseIdx aH)] (agw (m:=m) (k:=m) (W:=y.1) (aJ:=s.aJ) (c6:=s.c6) (a4:=aa s.bV) (a0:=s.a0) (aL:=s.aL) (aW:=y.2.1) (bn:=W.bn) (bc:=W.bc) (b:=W.b) (bH:=y.2.2) (aq:=1000*m) ao aF iz A n J ai H aE ad) (λh q=>?_)).cr λv ar fX ⟨av,⟨Z,am,aI,Q,aK,aX,aB,aG,⟨ch,ah,aR,aO,U,aD,aA⟩,R⟩,az⟩ q=>?_
  .exact(au:aS _ _) h q
  .subst az R aA;refine⟨_,⟨Z,am,aI,Q,ch,aX,aB,aG,U,rfl⟩,?_⟩;have aM:C ([E 5 1 Z _ am _,H]++[hQ m _ _ _,i5 _ _,s.gP,cn _ _ _ _ _ _ _,cb _,dT _,aV.bA D ch ah _ _,c4 _ _ _ _ _,dA _ ah _]) fX:=(au:∀h,C _ h->_) fX q;refine C.bl (λh q=>C.bl (λh q=>C.one (Uc ap aD ad q)) q) aM
end
end
section
attribute [local irreducible] C bh b6
def agA(b:Int)(J:0<=b)(h1:b<=1000)(C:Q):Y 31 #[j b] C λv E=>∃s,v=.tuple #[I s,j 0]/\E=dX s 0 (λ_=>0) 0 b::C:=by
 refine bt ?_;refine bg λH=>?_;exact aR ⟨H,rfl,rfl⟩
def ahr(C):Y 32 #[j 1000] C λv E=>∃s,v=.tuple #[I s,j 0]/\E=i5 s 0::C:=by
 refine aD ?_;refine bg λH=>?_;have J:ja.ok ⟨af,0,0,1000,al,[],λ_=>True⟩ 0:=⟨λ_=>Rd.nil _ _,bC _,bC _⟩;exact bp (λh s=>aht s) (aR ⟨H,rfl,rfl⟩ (dp (Gy J)))
def afV(n)(W:1<=n)(h1:n<=64)(H):Y 51 #[j n] H λv Q=>∃s,v=.tuple #[I s,j 0]/\Q=nx s::H:=by
 refine bt λ{g F}=>?_;apply bg λO=>?_;have R:j7.ok ⟨af,0,0,0,0,n,[]⟩:=⟨rfl,bC _,.inr bD,bO _,h1,db⟩;apply bp (E.c7 3 1);apply bp (j:=ah _ 203 (lL af 0 0 0 0 n)::E 3 1 af 0 0 (J ([]:List Int))::F::H) au;exact ba (C:=nx O::H) p (.tmp p (.tmp p .nil)) (λh s=>by
  refine C.swap (C.fold (A:=nx O) (N:=j7.L ⟨af,0,0,0,0,n,[]⟩ O) (λh U=>⟨_,R,U⟩) s)) ⟨O,rfl,rfl⟩
def afk(n)(Q:1<=n)(h1:n<=64)(H):Y 30 #[j n] H λv O=>∃s,v=.tuple #[I s,j 0]/\O=cb s::H:=by
 have R:=afV n Q h1;refine aD ?_;refine aP (R _) ?_;rintro _ _ ⟨J,rfl,rfl⟩;apply aC _;apply bg λE=>?_;apply bp au;exact ba rfl (.tmp p (.tmp p .nil)) (λh s=>by
  refine C.swap (C.fold (A:=cb E) (N:=u3 E J 0 al 0) (λh U=>⟨(J,0,al,0),U⟩) s)) ⟨E,rfl,rfl⟩
end
def YA{H E I}{j:Q}{h}(s:C j h):C (hQ H E I []::j) h:=C.fold (N:=[]) (λ_ _=>trivial) s
def Zg{O M:Q}{I H E J j}(R:aS O (hQ I H E J::c4 j.c j.bn j.bc j.b af::i5 j.bc E::M)):aS O (hQ I H E (J++[j])::M):=λh q=>by
 refine C.fold (N:=J.map (sN I H E)++[sN I H E j]) (λh j=>?_) ?_
 .show C _ h;rw[ez];exact j
 .have aF:=R h q;have aM:=C.head (λh a=>a) aF;have U:C (c4 j.c j.bn j.bc j.b af::i5 j.bc E::(J.map (sN I H E)++M)) h:=by
   apply C.perm ?_ aM;exact fA.trans (.cons _ fA)
  have W:=C.fold (A:=sN I H E j) (λh a=>⟨af,a⟩) (C.bl (λh q=>aV.xP trivial q) U);apply C.perm _ W;rw[jm];exact fA.symm
def Zh{j M:Q}(H:aS j M):aS j (k6 af 0 0::M):=λh q=>C.fold (A:=k6 af 0 0) (N:=[E 213 27 af 0 0 []]) (λh I=>⟨[],I⟩) (E.c7 213 27 _ (H h q))
section
attribute [local irreducible] C bh b6
structure Mu where
 dD:Nat
 A:Option cg
 e:Nat
 bV:List oJ
instance:d3 oJ:=⟨1,λj=>[I j.c],λ_=>rfl,λ_ v h=>by simp at h;subst h;rfl⟩
theorem aan(j):J j=(j.map oJ.c).map λc=>(I c):=by
 induction j with
 |nil=>rfl
 |cons E j C=>exact congrArg _ C
def ag7(D n b)(h1:1<=D)(ae:D<=30)(an:1<=n)(aJ:n<=64)(aK:b<=1000):Y 17 #[.agg #[j (D:Nat),j (n:Nat),j (b:Nat)]] [] λv av=>∃s:nb,v=.tuple #[I s.S,j 0]/\aa s.bV=n/\av=[dx s D 0 ly]:=by
 have aE:=aV.Yk h1 ae;refine aD λ{g F}=>?_;apply bP λai=>?_;apply aP (b3 aE) _;rintro _ _ ⟨_,⟨O,rfl,rfl⟩,rfl⟩;apply dl _;apply bp au;apply ak _;refine GE (c5 p (afk _ ad ad _)) ?_;rintro _ _ ⟨q,rfl,rfl⟩;apply aC _;apply bP λH=>?_;apply cc;apply fV _;apply bp (E.c7 105 1);apply bp (λh s=>YA (H:=0) (E:=n9) (I:=0) s);apply ef (ι:=Mu) (λy=>[(8,I H)]) (λy=>E 105 1 y.A (aa y.bV) y.e (J y.bV)::ah H 80 (lN O y.A (aa y.bV) y.e q af 0 0 0 af 0 0)::hQ 0 n9 0 y.bV:: [F,ah ai 25 [j (D:Nat),j (n:Nat),j (b:Nat)],cb q,aV.bA D ly n9 0 O]) (λy=>aa y.bV=n) _ _
 .apply bs _;refine cL (ι:=Mu) (λy=>[(1,I ai),(8,I H),(42,j (n:Nat)),(43,j (y.dD:Nat))]) (λy=>E 105 1 y.A (aa y.bV) y.e (J y.bV)::ah H 80 (lN O y.A (aa y.bV) y.e q af 0 0 0 af 0 0)::hQ 0 n9 0 y.bV:: [F,ah ai 25 [j (D:Nat),j (n:Nat),j (b:Nat)],cb q,aV.bA D ly n9 0 O]) (λy=>aa y.bV=y.dD/\y.dD<=n/\(0<aa y.bV->∃b,y.A=(U b))) (λy=>n-y.dD) ⟨0,af,0,[]⟩ ⟨rfl,bO _,db⟩ aZ au ?_;rintro⟨W,A,R,Q⟩ ⟨am,aA,aB⟩;simp at am aA aB;dsimp only;apply oL (λh s=>E.facts s);rintro⟨_,aG,aH,_⟩;apply ak _;rcases dZ W n with aF|aF
  .apply ak _;refine aP (agA (b:Nat) ao ad _) ?_;rintro _ _ ⟨aq,rfl,rfl⟩;apply aC _;apply aP (ahr _) _;rintro _ _ ⟨bc,rfl,rfl⟩;apply dl _;apply pb [2,2,2] _;apply aC _;apply bd λap=>?_;apply bd λaI=>?_;apply fz λar ax aL aM aO=>?_;refine b7 ⟨W+1,ar,ax,Q++[⟨ap,aq,bc,(b:Nat)⟩]⟩ ⟨by simp_all,by assumption,by simp_all⟩ bv aZ ?_;have az:=gi Q (⟨ap,aq,bc,(b:Nat)⟩:oJ);rw[<- az,b4];exact(k3 @Zg (lC (bH:=af) p))
  .apply ak _;exact cC ⟨W,A,R,Q⟩ bv ⟨rfl,trivial⟩ au
 .rintro⟨W,A,R,Q⟩ am;apply oL (λh s=>E.facts s);rintro⟨_,aG,aH,aQ⟩;obtain⟨Z,rfl⟩:∃Z,A=(U Z):=by
   grind
  apply ak _;rw[aan];refine bp (j:=F::JP ⟨H,O,Z,R,q,Q⟩ D 0 ly n9 af) (by(repeat first|exact cf|first|apply k5 (aW:=af) p|apply Zh|apply Gw|apply ek _)<;>fail) ?_;apply ak _;exact aR ⟨⟨H,O,Z,R,q,Q⟩,rfl,am,rfl⟩ (λh s=>C.bl (λh s=>C.one ⟨(n9,af),s⟩) s)
end
structure mF (α:Type)where
 A:Option cg
 c:Nat
 l:List α
instance{α:Type}:d3 (mF α):=⟨1,λj=>[.slice j.A (aa j.l) j.c],λ_=>rfl,λ_ v h=>by simp at h;subst h;rfl⟩
def agQ(C H:Nat){α:Type}[d3 α](j:mF α):aG:=E C H j.A (aa j.l) j.c (J j.l)
def iJ(j E:Nat){α:Type}[d3 α](H:List (mF α)):aG:=λh=>C (H.map (agQ j E)) h
def dt(O I Q n H q:Nat)(α:Type)[d3 α]:aG:=λh=>∃j:List (mF α),(aa j=n/\∀x∈j,aa x.l<=q)/\C [E O 1 (U H) n n (J j),iJ I Q j] h
section
variable{ci T k n B q DY:Nat}{α:Type}[d3 α]{xs:List (mF α)}{i:Nat}{x ch:mF α}
def T2(H:xs[i]?=ab x){j:Q}{h:j5}(q:C (iJ T k xs::j) h):C (E T k x.A (aa x.l) x.c (J x.l)::iJ T k (xs.eraseIdx i)::j) h:=by
 have aF:=C.head (λh a=>a) q;have aM:=C.perm (((zm H).map _).symm.append_right j) aF;exact C.bl (λh q=>C.fold (λh a=>a) q) aM
def T5(H:xs[i]?=ab x){j:Q}{h:j5}(q:C (E T k x.A (aa x.l) x.c (J x.l)::iJ T k (xs.eraseIdx i)::j) h):C (iJ T k xs::j) h:=by
 have aM:=C.bl (λh q=>C.head (λh a=>a) q) q;exact C.fold (λh a=>a) (C.perm ((zm H).map _|>.append_right j) aM)
theorem OL{j:Type}:∀(l:List j)(i)(y),(l.set i y).eraseIdx i=l.eraseIdx i
 | [],_,_=>rfl
 |x::l,0,y=>rfl
 |x::l,i+1,y=>congrArg (x:: ·) (OL l i y)
def T4(H:i<aa xs){j:Q}{h:j5}(q:C (E T k ch.A (aa ch.l) ch.c (J ch.l)::iJ T k (xs.eraseIdx i)::j) h):C (iJ T k (xs.set i ch)::j) h:=
 T5 (x:=ch) (i:=i) bo (by rw[OL];exact q)
theorem GS(j:mF α):∀(l:List (mF α)) (i:Nat),(J l:bz).set i (.slice j.A (aa j.l) j.c)=J (l.set i j)
 | [],_=>rfl
 |x::l,0=>rfl
 |x::l,i+1=>congrArg (Value.slice x.A (aa x.l) x.c:: ·) (GS j l i)
def T3:∀(n:Nat){j:Q}{h:j5},C j h->C (iJ T k (gv n (⟨af,0,[]⟩:mF α))::j) h
 |0,j,h,s=>C.fold (A:=iJ T k []) (N:=[]) (λ_ _=>trivial) s
 |n+1,j,h,s=>T5 (xs:=gv (n+1) (⟨af,0,[]⟩:mF α)) (i:=0) (x:=⟨af,0,[]⟩) p (E.c7 T k _ (T3 n s))
theorem aao(n:Nat):J (gv n (⟨af,0,[]⟩:mF α))=gv n (Value.slice af 0 0):=by
 induction n with
 |zero=>rfl
 |succ n j=>rw[Lz,Lz,<- j];rfl
def afZ(j:q<=DY):∀h,dt ci T k n B q α h->dt ci T k n B DY α h:=λh ⟨xs,⟨a,b⟩,E⟩=>⟨xs,⟨a,λx C=>hj (b x C) j⟩,E⟩
def wK{j M C:Q}(H:q<=DY)(I:eH (dt ci T k n B q α) j M)(E:aS M C):aS j (dt ci T k n B DY α::C):=λh s=>aV.d8 (afZ H) (cP I E h s)
def O.row{C:Program}{H:dc}{args:Array a2}{j:Q}{I:a2->List aG->Prop}(R:∀xs:List (mF α),aa xs=n->(∀x∈xs,aa x.l<=q)->O C H args (E ci 1 (U B) n n (J xs)::iJ T k xs::j) I):O C H args (dt ci T k n B q α::j) I:=
 O.open (E:=λxs=>[E ci 1 (U B) n n (J xs),iJ T k xs]) (D:=λxs=>aa xs=n/\∀x∈xs,aa x.l<=q) (λh ⟨y,a,q⟩=>⟨y,a,q⟩) λxs h=>R xs h.1 h.2
def zj{j M:Q}(I:aa xs=n)(O:∀x∈xs,aa x.l<=q)(H:aS j (E ci 1 (U B) n n (J xs)::iJ T k xs::M)):aS j (dt ci T k n B q α::M):=λh s=>
 C.fold (A:=dt ci T k n B q α) (N:=[E ci 1 (U B) n n (J xs),iJ T k xs]) (λh R=>⟨xs,⟨I,O⟩,R⟩) (H h s)
def Zp{j M:Q}(H:aS j (E ci 1 (U B) n n (gv n (Value.slice af 0 0))::M)):aS j (dt ci T k n B q α::M):=zj (xs:=gv n (⟨af,0,[]⟩:mF α)) (List.length_replicate ..) (λx I=>by simp_all) λh s=>by
 rw[aao];exact C.bl (λh s=>T3 n s) (H h s)
def TM{xs:List (mF α)}{i:Nat}{j:mF α}(C:∀x∈xs,aa x.l<=q)(E:aa j.l<=q):∀x∈xs.set i j,aa x.l<=q:=λx H=>by
 grind
end
structure ga where
 Yq:Int
 x:Bool
 y:Bool
 n:Int
 A:Option cg
 k:Nat
 c:Nat
instance:d3 ga:=⟨5,λC=>[j C.Yq,.bool C.x,.bool C.y,j C.n,.slice C.A C.k C.c],λ_=>rfl,λ_ v h=>by simp at h;rcases h with rfl|rfl|rfl|rfl|rfl<;>rfl⟩
structure sy where
 ai:Nat
 B:Nat
 R:Nat
 s:nb
 b:Int
@[reducible] def hJ (y:sy) (D:Nat):List Value:=[I y.s.S,j (D:Nat),j (aa y.s.bV:Nat),j y.b,.slice (U y.B) (aa y.s.bV) (aa y.s.bV),.slice (U y.R) (aa y.s.bV) (aa y.s.bV)]
@[reducible] def lI (y:sy) (D j:Nat) (x:bM):List aG:=[ah y.ai 74 (hJ y D),dt 210 160 5 (aa y.s.bV) y.B (65536*j) ga,dt 55 5 1 (aa y.s.bV) y.R (65536*j) dJ,dx y.s D j x]
def yE(y:sy)(D C:Nat)(x:bM)(j:Q):Prop:=∃ch,lV D x ch/\j=lI y D (C+1) ch
section
attribute [local irreducible] C bh b6
attribute [local irreducible] dx dt iJ
section
variable{y:sy}{D m:Nat}{x:bM}(iz:x.ok D)(fX:m<=40000)
def aid(id C)(h:aU C y.ai 0 6 (hJ y D)):Y 63 #[I y.ai,j id] C λv H=>(∃E,v=.bool E/\(E=ag->0<=id/\id<aa y.s.bV))/\H=C:=by
 have O:=h.at_ (i:=4) p;refine cR ?_;refine bQ ?_;apply ay _;apply cc
 by_cases J:0<=id
 .apply eO _;exact⟨⟨_,rfl,λh=>⟨J,of_decide_eq_true h⟩⟩,rfl⟩
 .apply eO _;exact⟨⟨_,rfl,λh=>by cases h⟩,rfl⟩
include iz fX
theorem ae2(id):Y 55 #[I y.ai,j id] (lI y D m x) λv aH=>(∃aT aE,v=.tuple #[.bool aT,j aE])/\yE y D m x aH:=by
 have aL:=ahn (s:=y.s) iz fX id;apply O.pre au (O.row λQ aO aB=>?_);refine bt λ{g F}=>?_;apply aP (b3 aL) _;rintro _ _ ⟨aV,⟨⟨Z,ap,aq,n,A,am,c,aQ,aE,rfl,aM⟩,ch,aF,rfl⟩,rfl⟩;apply ak _;apply bd λaz=>?_;apply fv _;iterate 2 apply ay _
 apply cc;refine bp (j:=ah az _ _::F::E _ 1 _ _ _ _::iJ _ 5 Q::ah _ 74 _::dt 55 5 1 _ _ (65536*(m+1)) dJ:: [dx _ D _ ch]) (by(repeat first|exact cf|(apply wK (q:=65536*m) ad;exact aN)|refine ek ?_)<;>fail) ?_;apply ak _;cases aQ with
 |false=>
  apply ak _;exact aR ⟨⟨_,_,rfl⟩,ch,aF,rfl⟩ (by(repeat first|exact cf|apply zj aO (λH ax=>hj (aB H ax) ad)|refine ek ?_)<;>fail)
 |true=>
  obtain⟨a0,a3⟩:=aM p;obtain⟨W,rfl⟩:∃W:Nat,id=(W:Int):=⟨id.toNat,ad⟩;have aG:W<aa Q:=ad;have aA:=b8 aG;have ax:=aB Q[W] (gG _);generalize Q[W]=H at aA ax;apply kB _;apply bp (j:=E 160 5 H.A (aa H.l) H.c (J H.l)::iJ 160 5 (Q.eraseIdx W):: [ah az 160 [j Z,.bool ap,.bool aq,j n,.slice A am c],F,E 210 1 (U y.B) (aa y.s.bV) (aa y.s.bV) (J Q),ah y.ai 74 (hJ y D),dt 55 5 1 (aa y.s.bV) y.R (65536*(m+1)) dJ,dx y.s D (m+1) ch]) (λh s=>T2 aA ((au:∀h,C (ah az 160 [j Z,.bool ap,.bool aq,j n,.slice A am c]::F::E 210 1 (U y.B) (aa y.s.bV) (aa y.s.bV) (J Q)::iJ 160 5 Q::ah y.ai 74 (hJ y D)::dt 55 5 1 (aa y.s.bV) y.R (65536*(m+1)) dJ:: [dx y.s D (m+1) ch]) h->_) h s));have aS:∀aD,a5 (E 210 1 (U y.B) (aa y.s.bV) (aa y.s.bV) (J Q)::aD) ⟨y.B,0+W*1,af⟩ (.slice H.A (aa H.l) H.c):=λaD=>a5.E (by
   have:(J Q)[W*1+0]?=ab (.slice H.A (aa H.l) H.c):=uo aA 0 _ p;simp_all)
  apply oL (λh s=>E.facts s);rintro⟨_,a4,a7,_⟩;apply hZ 0 (bE [0,1,2,3,4,5,6,7,8,9,10,11,12] (.e 13 (.e 14 (.q 15 (.e 16 .nil))))) _;refine eh p (fC p (bx aS)) ?_;apply bu _;refine bF (bW p p p (gR bN p p) ?_);rintro _ _ ⟨aW,rfl,rfl⟩;refine bX ?_;refine bF (bW p p p (dH p p aN gL (hA p) bN ao aw aw) ?_);rintro _ _ ⟨ar,av,rfl,aX,aY,aZ,rfl⟩;refine bX ?_;refine fc p (iV p p ad) ?_;refine bF (hD bN p p p (lB p p p aN ad) ?_);rintro _ _ ⟨rfl,rfl⟩;have aI:(J Q:bz).set (0+W*1) (.slice ar (aa H.l+1) av)=J (Q.set W ⟨ar,av,H.l++[⟨Z,ap,aq,n,A,am,c⟩]⟩):=by
   rw[<- GS];simp
  have aJ:=gi H.l (⟨Z,ap,aq,n,A,am,c⟩:ga);have aK:aa (H.l++[(⟨Z,ap,aq,n,A,am,c⟩:ga)])=aa H.l+1:=ao;refine bp (j:=E 160 5 ar (aa (H.l++[(⟨Z,ap,aq,n,A,am,c⟩:ga)])) av (J (H.l++[(⟨Z,ap,aq,n,A,am,c⟩:ga)]))::iJ 160 5 (Q.eraseIdx W):: [F,E 210 1 (U y.B) (aa y.s.bV) (aa y.s.bV) (J (Q.set W ⟨ar,av,H.l++[(⟨Z,ap,aq,n,A,am,c⟩:ga)]⟩)),ah y.ai 74 (hJ y D),dt 55 5 1 (aa y.s.bV) y.R (65536*(m+1)) dJ,dx y.s D (m+1) ch]) (by rw[<- aI,<- aJ,aK];exact au) ?_;apply bp (λh s=>T4 (ch:=⟨ar,av,H.l++[(⟨Z,ap,aq,n,A,am,c⟩:ga)]⟩) aG s);apply ak _;exact aR ⟨⟨_,_,rfl⟩,ch,aF,rfl⟩ (by(repeat first|exact cf|apply zj (xs:=Q.set W ⟨ar,av,H.l++[(⟨Z,ap,aq,n,A,am,c⟩:ga)]⟩) bo (TM (λH ax=>hj (aB H ax) ad) bv)|apply ek _)<;>fail)
theorem ae3(id):Y 35 #[I y.ai,j id,j 1] (lI y D m x) λv H=>(∃E,v=j E)/\yE y D m x H:=by
 have O:=ae2 (y:=y) iz fX id;refine aD λ{g F}=>?_;apply cc;apply fV _;apply ef (λ_=>[]) (λch=>F::lI y D (m+1) ch) (λch=>lV D x ch) _ _
 .apply bs _;apply cL (λq=>[(0,.pointer _),(1,.int _ id),(9,.int _ 1),(10,.int _ (match q with|none=>0|some _=>1))]) (λq=>F::(match q with|none=>lI y D m x|some ch=>lI y D (m+1) ch)) (λq=>match q with|none=>True|some ch=>lV D x ch) (λq=>match q with|none=>1|some _=>0) af trivial aZ au;rintro(_|ch) J
  .apply ak _;apply aP (b3 O) _;rintro _ _ ⟨R,⟨⟨Q,E,rfl⟩,ch,C,rfl⟩,rfl⟩;apply dl _;cases Q with
   |true=>
    apply ak _;exact aR ⟨⟨_,rfl⟩,ch,C,rfl⟩
   |false=>
    apply ak _
    by_cases U:E=0
    .apply ak _;exact b7 (ab ch) C LV aZ au
    .apply ak _;exact aR ⟨⟨_,rfl⟩,ch,C,rfl⟩
  .apply ak _;exact cC ch J trivial au
 .intro ch C;apply ak _;exact aR ⟨⟨_,rfl⟩,ch,C,rfl⟩
end
end
section
attribute [local irreducible] C bh b6
attribute [local irreducible] dx dt iJ
section
variable{y:sy}{D m:Nat}{x:bM}(iz:x.ok D)(fX:m<=40000)
include iz fX
theorem aeY(id A n aH)(aG:List dJ)(am)(aV:∀ax,Rd (am::ax) A n aG)(aW:n<=1000):Y 37 #[I y.ai,j id,.slice A n aH] (am::lI y D m x) λv aL=>(∃aM,v=j aM)/\∃aA,yE y D m x aA/\aL=am::aA:=by
 have aT:=agy (s:=y.s) iz fX id A n aH aG am aV aW;apply O.pre (M:=dt 55 5 1 _ _ _ dJ:: [am,ah _ 74 _,dt _ _ 5 _ _ _ ga,dx _ D m x]) au (O.row λW aX aF=>?_);refine aD λ{g F}=>?_;apply aP (b3 aT) _;rintro _ _ ⟨aA,⟨az,aB,Q,aI,ch,rfl,aS,a4,aJ,rfl⟩,rfl⟩;apply dl _;refine bp (j:=E 5 1 az _ aB _::F::E 55 1 _ _ _ _::iJ 5 1 W::ah _ 74 _::dt _ _ 5 _ _ (65536*(m+1)) ga:: [am,dx _ D (m+1) ch]) (by(repeat first|exact cf|(apply wK (q:=65536*m) ad;exact aN)|refine ek ?_)<;>fail) ?_;apply aC _;refine aP (aid id _ cA) ?_;rintro _ _ ⟨⟨a0,rfl,aY⟩,rfl⟩;apply ak _;cases a0 with
 |false=>
  apply ak _;exact aR ⟨⟨_,rfl⟩,_,⟨ch,aJ,rfl⟩,rfl⟩ (by(repeat first|exact cf|apply zj aX (λH av=>hj (aF H av) ad)|apply ek _)<;>fail)
 |true=>
  obtain⟨a9,bb⟩:=aY p;obtain⟨Z,rfl⟩:∃Z:Nat,id=(Z:Int):=⟨id.toNat,ad⟩;have aK:Z<aa W:=ad;have aE:=b8 aK;have av:=aF W[Z] (gG _);generalize W[Z]=H at aE av;apply kB _;apply bp (j:=E 5 1 H.A (aa H.l) H.c (J H.l)::iJ 5 1 (W.eraseIdx Z):: [E 5 1 az (aa Q) aB (J Q),F,E 55 1 (U y.R) (aa y.s.bV) (aa y.s.bV) (J W),ah y.ai 74 (hJ y D),dt 210 160 5 (aa y.s.bV) y.B (65536*(m+1)) ga,am,dx y.s D (m+1) ch]) (λh s=>T2 aE ((au:∀h,C (E 5 1 az (aa Q) aB (J Q)::F::E 55 1 (U y.R) (aa y.s.bV) (aa y.s.bV) (J W)::iJ 5 1 W::ah y.ai 74 (hJ y D)::dt 210 160 5 (aa y.s.bV) y.B (65536*(m+1)) ga:: [am,dx y.s D (m+1) ch]) h->_) h s));have aZ:∀ax,a5 (E 55 1 (U y.R) (aa y.s.bV) (aa y.s.bV) (J W)::ax) ⟨y.R,0+Z*1,af⟩ (.slice H.A (aa H.l) H.c):=λax=>a5.E (by
   have:(J W)[Z*1+0]?=ab (.slice H.A (aa H.l) H.c):=uo aE 0 _ p;simp_all)
  apply oL (λh s=>E.facts s);rintro⟨_,bc,be,_⟩;apply hZ 0 (bE [0,1,2,3,4,5,6,7,8,9,10,11,12] (.e 13 (.q 14 (.e 15 .nil)))) _;refine eh p (fC p (bx aZ)) ?_;apply bu _;refine bF (bW p p p (dH p p aN ((by repeat' first|exact bf.E (ck _) aS|apply bf.ap)) ((e8 _)) bN ao aw aw) ?_);rintro _ _ ⟨aq,ar,rfl,a3,a7,a8,rfl⟩;apply bX _;refine fc p (iV p p ad) ?_;refine bF (hD bN p p p (lB p p p aN ad) ?_);rintro _ _ ⟨rfl,rfl⟩;have aI:(J W:bz).set (0+Z*1) (.slice aq (aa H.l+aa Q) ar)=J (W.set Z ⟨aq,ar,H.l++Q⟩):=by
   rw[<- GS];simp
  have aO:J H.l++J Q=J (H.l++Q):=(gS _ _).symm;have aQ:aa (H.l++Q)=aa H.l+aa Q:=ao;refine bp (j:=E 5 1 aq (aa (H.l++Q)) ar (J (H.l++Q))::iJ 5 1 (W.eraseIdx Z):: [F,E 55 1 (U y.R) (aa y.s.bV) (aa y.s.bV) (J (W.set Z ⟨aq,ar,H.l++Q⟩)),ah y.ai 74 (hJ y D),dt 210 160 5 (aa y.s.bV) y.B (65536*(m+1)) ga,am,dx y.s D (m+1) ch]) (by rw[<- aI,<- aO,aQ];exact au) ?_;apply bp (λh s=>T4 (ch:=⟨aq,ar,H.l++Q⟩) aK s);apply ak _;exact aR ⟨⟨_,rfl⟩,_,⟨ch,aJ,rfl⟩,rfl⟩ (by(repeat first|exact cf|apply zj (xs:=W.set Z ⟨aq,ar,H.l++Q⟩) bo (TM (λH av=>hj (aF H av) ad) bv)|apply ek _)<;>fail)
end
end
section
attribute [local irreducible] C bh b6
attribute [local irreducible] dx dt iJ
structure At where
 k:Int
 id:Int
 n:Int
 r:Nat->Int
 f:gd
@[reducible] def At.l (a:At):List Value:=[j a.k,j a.id,j a.n,j (a.r 0),j (a.r 1),j (a.r 2),j (a.r 3),j (a.r 4),j (a.r 5),j (a.r 6),j (a.r 7),j (a.r 8),j (a.r 9),j (a.r 10),j (a.r 11),j (a.r 12),j (a.r 13),j (a.r 14),j (a.r 15),j (a.r 16),j (a.r 17),.slice a.f.A (aa a.f.l) a.f.c]
instance:d3 At:=⟨22,At.l,λ_=>rfl,λa v h=>by simp[At.l]at h;rcases h with rfl|rfl|rfl|rfl|rfl|rfl|rfl|rfl|rfl|rfl|rfl|rfl|rfl|rfl|rfl|rfl|rfl|rfl|rfl|rfl|rfl|rfl<;>rfl⟩
@[reducible] def At.v (a:At):Value:=.agg #[j a.k,j a.id,j a.n,j (a.r 0),j (a.r 1),j (a.r 2),j (a.r 3),j (a.r 4),j (a.r 5),j (a.r 6),j (a.r 7),j (a.r 8),j (a.r 9),j (a.r 10),j (a.r 11),j (a.r 12),j (a.r 13),j (a.r 14),j (a.r 15),j (a.r 16),j (a.r 17),.slice a.f.A (aa a.f.l) a.f.c]
def agM(a:At)(R):Y 33 #[a.v] R λv W=>(∃U,v=.bool U/\(U=ag->(a.k=5->aa a.f.l<=1000)/\1<=a.k/\a.k<=5))/\W=R:=by
 have Z:=D0 a.r;refine bt ?_;refine bg λaq=>?_;refine eG p (λj=>?y821) (λj=>?n821)
 case' n821=>
  have I:=j;try simp[gm]at I
  apply ak _;refine eG p (λC=>?y826) (λC=>?n826)
  case' n826=>
   have J:=C;try simp[gm]at J
   apply ak _;refine eG p (λE=>?y839) (λE=>?n839)
   case' n839=>
    have O:=E;try simp[gm]at O
    apply ak _;refine eG p (λH=>?y852) (λH=>?n852)
    case' n852=>
     have Q:=H;try simp[gm]at Q
     apply dk _;exact⟨⟨_,rfl,by first|(intro _;refine⟨λh=>?_,?_,?_⟩<;>omega)|(intro h;have:=of_decide_eq_true h;refine⟨λh=>?_,?_,?_⟩<;>omega)⟩,rfl⟩
    case' y852=>
     have Q:=H;try simp[gm]at Q
     apply dk _;exact⟨⟨_,rfl,by first|(intro _;refine⟨λh=>?_,?_,?_⟩<;>omega)|(intro h;have:=of_decide_eq_true h;refine⟨λh=>?_,?_,?_⟩<;>omega)⟩,rfl⟩
   case' y839=>
    have O:=E;try simp[gm]at O
    apply ak _;refine h4 p p p (λai=>?y843) (λai=>?n843)
    case' n843=>
     try simp[gm]at ap
     apply ak _;exact aR ⟨⟨_,rfl,by first|(intro _;refine⟨λh=>?_,?_,?_⟩<;>omega)|(intro h;have:=of_decide_eq_true h;refine⟨λh=>?_,?_,?_⟩<;>omega)⟩,rfl⟩
    case' y843=>
     try simp[gm]at ap
     apply ak _;exact aR ⟨⟨_,rfl,by first|(intro _;refine⟨λh=>?_,?_,?_⟩<;>omega)|(intro h;have:=of_decide_eq_true h;refine⟨λh=>?_,?_,?_⟩<;>omega)⟩,rfl⟩
  case' y826=>
   have J:=C;try simp[gm]at J
   apply ak _;refine h4 p p p (λah=>?y830) (λah=>?n830)
   case' n830=>
    try simp[gm]at am
    apply ak _;exact aR ⟨⟨_,rfl,by first|(intro _;refine⟨λh=>?_,?_,?_⟩<;>omega)|(intro h;have:=of_decide_eq_true h;refine⟨λh=>?_,?_,?_⟩<;>omega)⟩,rfl⟩
   case' y830=>
    try simp[gm]at am
    apply ak _;exact aR ⟨⟨_,rfl,by first|(intro _;refine⟨λh=>?_,?_,?_⟩<;>omega)|(intro h;have:=of_decide_eq_true h;refine⟨λh=>?_,?_,?_⟩<;>omega)⟩,rfl⟩
 case' y821=>
  have I:=j;try simp[gm]at I
  apply ak _;apply a9 (Z _) _;apply ak _;exact aR ⟨⟨_,rfl,by first|(intro _;refine⟨λh=>?_,?_,?_⟩<;>omega)|(intro h;have:=of_decide_eq_true h;refine⟨λh=>?_,?_,?_⟩<;>omega)⟩,rfl⟩
def agd(a:At)(C):Y 18 #[a.v] C λv E=>(∃j,v=.bool j/\(j=ag->(a.k=5->aa a.f.l<=1000)/\1<=a.k/\a.k<=5))/\E=C:=by
 refine bt ?_;refine bg λI=>?_;apply aP (agM a _) _;rintro _ _ ⟨⟨j,rfl,H⟩,rfl⟩;apply dk _;exact⟨⟨_,rfl,H⟩,rfl⟩
section
variable{y:sy}{D m:Nat}{x:bM}(iz:x.ok D)(fX:m<=40000)(a:At)(N:aG)(zC:∀L,Rd (N::L) a.f.A a.f.l.length a.f.l)(nl:a.k=2\/a.k=4->a.n=1)
include iz fX zC nl
theorem aeL(am:a.k=5->aa a.f.l<=1000)(aA:1<=a.k/\a.k<=5):Y 19 #[I y.ai,a.v] (N::lI y D m x) λv W=>(∃J,v=j J)/\∃E,yE y D m x E/\W=N::E:=by
 have av:=aiW (s:=y.s) iz fX a.id a.r;have ap:=Xc (s:=y.s) iz fX a.id;have aq:=YE (s:=y.s) iz fX;have ar:a.n=1->O _ 35 #[.pointer _,.int _ _,.int _ a.n] _ _:=λh=>by rw[h];exact ae3 (y:=y) iz fX a.id
 refine bt λ{g F}=>?_;apply bg λH=>?_
 by_cases h1:a.k=1
 .apply bs _;refine gJ p (cO h1) ?_;apply bp (j:=dx _ D m x:: [F,N,ah H 57 _,ah _ 74 _,dt 210 160 5 (aa y.s.bV) y.B (65536*m) ga,dt 55 5 1 (aa y.s.bV) y.R (65536*m) dJ]) au;apply hZ 0 (bE [0,1,2,3,4,5,6,7] (.e 8 (.q 9 .nil))) _;apply dV (b3 av) _;rintro _ _ ⟨E,⟨⟨J,rfl⟩,ch,C,rfl⟩,rfl⟩;apply bX _;apply ak _;exact aR ⟨⟨_,rfl⟩,_,⟨ch,C,rfl⟩,rfl⟩ (by(repeat first|exact cf|(apply wK (q:=65536*m) ad;exact aN)|apply ek _)<;>fail)
 .apply ak _
  by_cases ae:a.k=2
  .have U:=nl (.inl ae);apply ak _;apply aP (b3 (ar U)) _;rintro _ _ ⟨E,⟨⟨J,rfl⟩,ch,C,rfl⟩,rfl⟩;apply ak _;exact aR ⟨⟨_,rfl⟩,_,⟨ch,C,rfl⟩,rfl⟩
  .apply ak _
   by_cases an:a.k=3
   .apply bs _;refine gJ p (cO an) ?_;apply bp (j:=dx y.s D m x:: [F,N,ah H 57 a.l,ah y.ai 74 (hJ y D),dt 210 160 5 (aa y.s.bV) y.B (65536*m) ga,dt 55 5 1 (aa y.s.bV) y.R (65536*m) dJ]) au;apply hZ 0 (bE [0,1,2,3,4,5] (.e 6 (.q 7 .nil))) _;apply dV (b3 ap) _;rintro _ _ ⟨E,⟨⟨J,rfl⟩,ch,C,rfl⟩,rfl⟩;apply bX _;apply ak _;exact aR ⟨⟨_,rfl⟩,_,⟨ch,C,rfl⟩,rfl⟩ (by(repeat first|exact cf|(apply wK (q:=65536*m) ad;exact aN)|apply ek _)<;>fail)
   .apply ak _
    by_cases Q:a.k=5
    .have ax:=aeY (y:=y) iz fX a.id a.f.A (aa a.f.l) a.f.c a.f.l N zC (am Q);apply ak _;apply aP (b3 ax) _;rintro _ _ ⟨_,⟨⟨J,rfl⟩,E,⟨ch,C,rfl⟩,rfl⟩,rfl⟩;apply ak _;exact aR ⟨⟨_,rfl⟩,_,⟨ch,C,rfl⟩,rfl⟩
    .have U:=nl (.inr ad);apply bs _;refine e9 p (cw Q) ?_;apply aC _;apply ef (ι:=bM) (λ_=>[]) (λch=>F::N::lI y D (m+1) ch) (λch=>lV D x ch) _ _
     .apply bs _;apply cL (ι:=Option bM) (λq=>[(0,I y.ai),(3,I H),(5,j (match q with|none=>0|some _=>1))]) (λq=>ah H 57 a.l::F::N::(match q with|none=>lI y D m x|some ch=>lI y D (m+1) ch)) (λq=>match q with|none=>True|some ch=>lV D x ch) (λq=>match q with|none=>1|some _=>0) af trivial aZ au;rintro(_|ch) Z
      .dsimp only;apply ak _;apply aP (b3 aq) _;rintro _ _ ⟨E,⟨⟨az,rfl⟩,ch,C,rfl⟩,rfl⟩;apply aC _;refine bp (j:=ah H 57 a.l::F::N::lI y D (m+1) ch) (by(repeat first|exact cf|(apply wK (q:=65536*m) ad;exact aN)|apply ek _)<;>fail) ?_;cases az with
       |true=>
        apply gD _;exact b7 (ab ch) C LV aZ au
       |false=>
        apply ak _;exact cC ch C trivial au
      .dsimp only;apply ak _;exact cC ch Z trivial au
     .intro ch C;apply gD _;exact aR ⟨⟨_,rfl⟩,_,⟨ch,C,rfl⟩,rfl⟩
theorem aew:Y 9 #[I y.ai,a.v] (N::lI y D m x) λv H=>(∃E,v=j E)/\∃C,yE y D m x C/\H=N::C:=by
 have O:=aeL (y:=y) iz fX a N zC nl;refine bt λ{g F}=>?_;apply bg λZ=>?_;apply aP (agd a _) _;rintro _ _ ⟨⟨R,rfl,Q⟩,rfl⟩;apply ak _;cases R with
 |false=>
  apply ak _;apply bp (j:=dx _ D m x:: [F,N,ah _ 74 _,dt _ _ 5 _ _ _ ga,dt 55 5 1 _ _ _ dJ]) au;apply bp (λh s=>aV.d8 (Ud iz) s);apply ak _;exact aR ⟨⟨_,rfl⟩,_,⟨x,.inl p,rfl⟩,rfl⟩ (by(repeat first|exact cf|(apply wK (q:=65536*m) ad;exact aN)|apply ek _)<;>fail)
 |true=>
  obtain⟨U,W⟩:=Q p;apply ak _;apply aP (b3 (O U W)) _;rintro _ _ ⟨_,⟨⟨E,rfl⟩,C,⟨ch,J,rfl⟩,rfl⟩,rfl⟩;apply ak _;exact aR ⟨⟨_,rfl⟩,_,⟨ch,J,rfl⟩,rfl⟩
end
end
section
attribute [local irreducible] C bh b6
attribute [local irreducible] dx dt iJ
def agC(a b c)(H:a<256)(I:b<256)(J:c<256)(C):aY 4 #[.int .u8 (a:Nat),.int .u8 (b:Nat),.int .u8 (c:Nat)] C (.agg #[j (1+a % 20:Nat),j (1+b % 5:Nat),j (c % 5:Nat)]) C:=by
 refine aD ?_;refine AM λE=>?_;apply dY _;apply eX _;exact⟨_,bD,au⟩
def aeF(D n b)(h1:1<=D)(ae:D<=30)(an:1<=n)(O:n<=64)(Q:b<=1000):Y 5 #[.agg #[j (D:Nat),j (n:Nat),j (b:Nat)]] [] λv J=>∃y:sy,v=.tuple #[I y.ai,j 0]/\J=lI y D 0 ly:=by
 have R:=ag7 D n b h1 ae an O Q;refine aD λ{g F}=>?_;apply bP λW=>?_;apply aP (b3 R) _;rintro _ _ ⟨_,⟨s,rfl,U,rfl⟩,rfl⟩;apply dl _;apply bp au;apply aC _;subst U;apply fK (bE [0,1,2,3,5,6] (.iw 4 (.e 7 (.q 8 (.e 9 (.q 10 (.q 11 .nil))))) 7 (.e 4 (.q 8 (.e 9 (.q 10 (.q 11 .nil))))))) _;refine jt ?x860_0 ?x860_1
 case' x860_1=>
  refine bW p p p (zf p p ad ad) ?_;rintro _ _ ⟨E,rfl,rfl⟩;apply cV _;refine bF (bW p p p (zf p p ad ad) ?_);rintro _ _ ⟨C,rfl,rfl⟩;apply cV _;apply bu _;apply bg λH=>?_
 case' x860_0=>
  refine bW p p p (zf p p ad ad) ?_;rintro _ _ ⟨C,rfl,rfl⟩;apply cV _;refine bF (bW p p p (zf p p ad ad) ?_);rintro _ _ ⟨E,rfl,rfl⟩;apply cV _;apply bu _;apply bg λH=>?_
 all_goals
  apply bs _
 all_goals
  apply bp (j:=F::lI ⟨H,C,E,s,(b:Nat)⟩ D 0 ly) (dp @Zp)
 all_goals
  exact aR ⟨⟨H,C,E,s,(b:Nat)⟩,rfl,rfl⟩ cT
def Sj(C S)(j:Q)(h:a5 j ⟨C,0,af⟩ (I S)):aY 7 #[I C] j (I S) j:=by
 refine bt ?_;exact c8
def af7{S j C H E J Q}:aY 8 #[I S] [cn S j C H E J Q] (I j) [cn S j C H E J Q]:=by
 apply O.li λy=>?_;refine bt ?_;exact aR bD rZ
end
section
attribute [local irreducible] C bh b6
structure L7 where
 i:Nat
 B:Option cg
 e:Nat
 o:List At
def Z9(A n c)(ai:List At)(Q)(aH:Rd Q A n ai)(aW:∀a∈ai,Rd Q a.f.A (aa a.f.l) a.f.l/\aa a.f.l<=a.f.c):Y 6 #[.slice A n c,j 60] Q λv aL=>∃(C:a3) (H:Nat) (o:List At),v=.slice C (aa o) H/\(0<aa o->∃b,C=(U b))/\aa o<=60/\(∀a∈o,a.f.ok/\aa a.f.l<=100)/\aL=E 57 22 C (aa o) H (J o)::e0 (o.map At.f)::Q:=by
 have bj:aa ai=n:=aH.len bL;refine aD λ{g F}=>?_;apply bP λaO=>?_;apply cc;apply fV _;apply ef (ι:=L7) (λy=>[(5,.slice y.B (aa y.o) y.e)]) (λy=>E 57 22 y.B (aa y.o) y.e (J y.o)::e0 (y.o.map At.f)::F::Q) (λy=>(0<aa y.o->∃b,y.B=(U b))/\aa y.o<=60/\(∀a∈y.o,a.f.ok/\aa a.f.l<=100)) _ _
 .apply bs _;refine bp (j:=E 57 22 _ 0 0 _::e0 (([]:List At).map At.f)::F::Q) (by(repeat first|exact cf|first|apply Ol|apply bb|apply ek _)<;>fail) ?_;refine cL (ι:=L7) (λy=>[(0,.slice A n c),(1,j 60),(5,.slice y.B (aa y.o) y.e),(6,j (y.i:Nat))]) (λy=>E 57 22 y.B (aa y.o) y.e (J y.o)::e0 (y.o.map At.f)::F::Q) (λy=>aa y.o=y.i/\y.i<=60/\y.i<=n/\(0<aa y.o->∃b,y.B=(U b))/\(∀a∈y.o,a.f.ok/\aa a.f.l<=100)) (λy=>n-y.i) ⟨0,(U aO),0,[]⟩ ⟨rfl,ao,ao,λ_=>⟨_,rfl⟩,λa h=>by grind⟩ aZ au ?_;rintro⟨O,C,H,o⟩ ⟨aq,ar,av,ax,az⟩;simp only at aq ar av ax az;dsimp only;rcases dZ O n with aX|aX
  .by_cases be:O<60
   .have aT:ai[O]?=ab ai[O]:=b8 ad;have a0:=aW ai[O] (gG _);obtain⟨aB,aE,aQ,aI⟩:=aH.at_ ad;have aJ:=aI _ _ aT;generalize ai[O]=a at*
    subst aQ;obtain⟨aF,aM⟩:=a0;have a7:=aJ;apply ak _;apply bg λam=>?_;apply ef (ι:=Nat×List dJ) (λy=>[(0,.slice (ab ⟨aB,aE,af⟩) n c),(1,j 60),(5,.slice C (aa o) H),(6,j (O:Nat)),(7,I am),(8,.slice a.f.A y.1 a.f.c)]) (λy=>ah am 57 a.l::E 57 22 C (aa o) H (J o)::e0 (o.map At.f)::F::Q) (λy=>y.1<=100/\Rd Q a.f.A y.1 y.2) _ _
    .rcases dZ 100 (aa a.f.l)with h1|h1
     .apply ak _;refine a6 (kH (h:=100) p p ad) ?_;apply ak _;exact cC (100,a.f.l.take 100) ⟨bC _,aF.take ad⟩ aZ au
     .apply ak _;exact cC (aa a.f.l,a.f.l) ⟨h1,aF⟩ aZ au
    .rintro⟨bq,R⟩ ⟨aY,aA⟩;simp at aY aA;have aV:=aA.len bL;apply bQ _;apply bP λa8=>?_;refine GE (dH p p aN ((bx aA)) ((e8 _)) bN ao aw aw) ?_;rintro _ _ ⟨W,Z,rfl,bh,bk,a4,rfl⟩;apply ay _;apply fv _;apply cc;subst aV;have bn:gd.ok ⟨W,Z,R⟩:=⟨by simp_all,by grind⟩;refine bp (j:=ah am 57 (At.l ⟨a.k,a.id,a.n,a.r,⟨W,Z,R⟩⟩)::E 5 1 W (aa R) Z (J R)::E 57 22 C (aa o) H (J o)::e0 (o.map At.f)::F::Q) (by rw[h3];exact au) ?_;rw[h3]at a4;clear aI aJ a7;apply dl _;apply ef (ι:=Bool) (λaG=>[(0,.slice (ab ⟨aB,aE,af⟩) n c),(1,j 60),(5,.slice C (aa o) H),(6,j (O:Nat)),(7,I am),(43,.bool aG)]) (λ_=>ah am 57 (At.l ⟨a.k,a.id,a.n,a.r,⟨W,Z,R⟩⟩)::E 5 1 W (aa R) Z (J R)::E 57 22 C (aa o) H (J o)::e0 (o.map At.f)::F::Q) (λ_=>True) _ _
     .by_cases bc:60<a.n
      .apply ak _;exact cC _ trivial aZ au
      .apply ak _;exact cC _ trivial aZ au
     .intro aG _;apply ak _;apply ef (ι:=Int) (λ_=>[(0,.slice (ab ⟨aB,aE,af⟩) n c),(1,j 60),(5,.slice C (aa o) H),(6,j (O:Nat)),(7,I am)]) (λap=>ah am 57 (At.l ⟨a.k,a.id,ap,a.r,⟨W,Z,R⟩⟩)::E 5 1 W (aa R) Z (J R)::E 57 22 C (aa o) H (J o)::e0 (o.map At.f)::F::Q) (λ_=>True) _ _
      .cases aG with
       |true=>
        apply ak _;exact cC 60 trivial aZ au
       |false=>
        apply ak _;exact cC a.n trivial aZ au
      .intro ap _;apply aC _;apply bd λa9=>?_;apply fz λaK aP bi bl bm=>?_;have aS:=gi o (⟨a.k,a.id,ap,a.r,⟨W,Z,R⟩⟩:At);refine b7 ⟨O+1,aK,aP,o++[⟨a.k,a.id,ap,a.r,⟨W,Z,R⟩⟩]⟩ ⟨by simp_all,by assumption,by assumption,by simp_all,λbr bo=>?_⟩ bv ⟨rfl,rfl,by simp;rfl,rfl,trivial⟩ ?_
       .grind
       .rw[<- aS,b4,ez];exact(by(repeat first|exact cf|apply Gr|apply ek _)<;>fail)
   .apply ak _;exact cC ⟨O,C,H,o⟩ ⟨ax,by simp_all,az⟩ ⟨rfl,trivial⟩ au
  .apply ak _;exact cC ⟨O,C,H,o⟩ ⟨ax,by simp_all,az⟩ ⟨rfl,trivial⟩ au
 .rintro⟨O,C,H,o⟩ ⟨aq,ar,av⟩;apply ak _;exact aR ⟨C,H,o,rfl,aq,ar,av,rfl⟩
end
section
attribute [local irreducible] C
def O.ahw{s D j x I args}{H:a2->Prop}(R:∀aW,Y I args [cn s.S s.aJ s.bI (aa s.bV) s.a0 s.aL aW] λv E=>H v/\E=[cn s.S s.aJ s.bI (aa s.bV) s.a0 s.aL aW]):Y I args [dx s D j x] λv E=>H v/\E=[dx s D j x]:=by
 apply O.open (λh ⟨y,q⟩=>⟨y,trivial,q⟩) λy _=>?_
 apply(O.frame (s.gP:: [cb s.aL,dT y.2,aV.bA D x y.1 j s.aJ,hQ j y.1 (1000*j) s.bV]) (R y.2) (λh q=>?_)).cr λv E Z ⟨W,⟨U,Q⟩,J⟩ q=>?_
 .exact(mg:∀h,C _ h->_) h q
 .subst J Q;exact⟨[dx s D j x],⟨U,rfl⟩,C.one ⟨y,(mg:∀h,C _ h->_) _ q⟩⟩
def F7{s D j x}:aY 8 #[I s.S] [dx s D j x] (I s.aJ) [dx s D j x]:=
 O.ahw λC=>af7
def aeE(D n b)(h1:1<=D)(ae:D<=30)(an:1<=n)(U:n<=64)(W:b<=1000)(E):Y 5 #[.agg #[j (D:Nat),j (n:Nat),j (b:Nat)]] E λv H=>∃y:sy,v=.tuple #[I y.ai,j 0]/\H=lI y D 0 ly++E:=
 (O.frame E (aeF D n b h1 ae an U W) (λh s=>by rwa[dC])).cr λv H ah ⟨Z,⟨y,J,R⟩,Q⟩ s=>⟨lI y D 0 ly++E,⟨y,J,rfl⟩,C.perm ep (R▸Q▸s)⟩
theorem O.h1{I R args j}{J:a2->Prop}(E:Q)(h:O I R args [j] λv H=>J v/\H=[j]):O I R args (j::E) λv H=>J v/\H=j::E:=
 (O.frame E h (λh s=>C.perm (ep (l₁:=[j])) s)).cr λv H Z ⟨Y,⟨a,W⟩,U⟩ s=>⟨j::E,⟨a,rfl⟩,C.perm (ep (l₂:=[j])) (W▸U▸s)⟩
def Pm(v):∀(l)(C)(a:At),l[C]?=ab a->(J l:bz).set (C*22+2) (j v)=J (l.set C ⟨a.k,a.id,v,a.r,a.f⟩)
 | [],_,_,h=>by rfl
 |x::l,0,a,h=>by cases h;rfl
 |x::l,C+1,a,h=>by
  have E:=Pm v l C a h;rw[h9,List.set_cons_succ,h9,<- E,List.set_append_right _ _ (by rw[d3.len];show 22<=_;omega)];have H:(C+1)*22+2-aa (d3.hq x:List _)=C*22+2:=by rw[d3.len];show(C+1)*22+2-22= _;omega
  grind
theorem Ra:∀(l:List At)(j)(a b),l[j]?=ab a->b.f=a.f->(l.set j b).map At.f=l.map At.f
 | [],_,_,_,h,_=>by rfl
 |x::l,0,a,b,h,C=>by simp_all
 |x::l,j+1,a,b,h,C=>by
  have E:=Ra l j a b h C;simp_all
def acR(E):Y 16 #[] E λv H=>v=.bool ag/\∃j,H=(λh=>C j h)::E:=
 (acS E).cr λv H O ⟨I,j,J⟩ s=>⟨(λh=>C j h)::E,⟨I,j,rfl⟩,C.fold (A:=λh=>C j h) (N:=j) (λh a=>a) (C.perm ep (J▸s))⟩
theorem O.qL{s D E x Q args}{J:aG->a2->Prop}(R:∀I,Y Q args [aV.bA D x I E s.aJ] λv H=>∃j,J j v/\H=[aV.bA D x I E s.aJ,j]):Y Q args [dx s D E x] λv H=>∃j,J j v/\H=[j,dx s D E x]:=by
 apply O.open (λh ⟨y,q⟩=>⟨y,trivial,q⟩) λy _=>?_
 apply(O.frame ([s.gP,cn s.S s.aJ s.bI (aa s.bV) s.a0 s.aL y.2,cb s.aL,dT y.2]++[hQ E y.1 (1000*E) s.bV]) (R y.1) (λh q=>?_)).cr λv H Z ⟨ai,⟨j,ah,W⟩,U⟩ q=>?_
 .exact(mg:∀h,C _ h->_) h q
 .subst U W;have aM:C (j::JP s D E x _ _) Z:=(mg:∀h,C _ h->_) _ q;exact⟨[j,dx s D E x],⟨j,ah,rfl⟩,C.bl (λh q=>C.one ⟨y,q⟩) aM⟩
end
namespace aV
variable{m s:Nat}{W:ej}
def aiE:iK.map (λx=>hW (λo=>oq o (te 11) oj p2) (cF x.1 x.2))=iK.map λx=>ab (cF x.1 x.2):=cq
def aiD:iK.map (λx=>aa (cF x.1 x.2))=iK.map λ_=>11:=cq
def abd:hW (λo=>oq o (te 8) oj p2) dj=ab dj:=by rfl
def abe:ny oj p2 dj=ab dj:=by rfl
structure Wi (R:List dn) (j:List Nat) (n:Nat):Prop where
 i:∃C,k0 j [n]=0::C
 len:R.length=n
 ai:xh (IN R) j n 40 R=ag
 s:xh (JM R) j n 41 R=ag
 rt:ny oj p2 R=ab R
 low:hW (λo=>oq o (te R.length) oj p2) R=ab R
def Q6(J:x.ok D):∃O n,Wi (dz x) O n/\0<n:=by
 have h:=ae5;have C:∀{x y:Bool},ax x y al=ag->x=ag/\y=ag:=λ{x y} h=>by
  cases x with
  |false=>cases h
  |true=>exact⟨rfl,h⟩
 let⟨a,h⟩:=C h;let⟨b,h⟩:=C h
 by_cases E:x.k=0
 .rw[dz,bJ E];exact⟨ke,8,⟨⟨_,rfl⟩,rfl,a,b,abe,abd⟩,ao⟩
 .obtain⟨h1,H,I,_⟩:1<=x.k/\x.k<=4/\x.dD< (if x.k<=2 then 4 else 3)/\nS D _ _ _ _:=by
   rcases J.u with u|u
   .omega
   omega
  have j:=rQ h1 H I;let⟨Q,q⟩:=C (rm h _ j);have l:=nM.1 aiD _ j;have R:=nM.1 aiE _ j;rw[dz,a8 E];exact⟨nm,11,⟨⟨_,rfl⟩,l,Q,q,UE _ j,by simp_all⟩,ao⟩
def xu(D:Nat)(x:bM)(W:ej)(m:Nat):dO:=⟨uz x hz,λj=>if j=40 then SA x.P else if j=41 then SB x.S else eP D x W m m j⟩
theorem DE{j}(h:j<=5\/(10<=j/\j<=15)):(xu D x W m).d5 j=eP D x W m m j:=by
 show(if j=40 then _ else if j=41 then _ else eP D x W m m j)= _;grind
def RY(I:x.ok D)(J:ht x.P)(O:ht x.S):mB (xu D x W m) ar Im:=by
 have H:aa x.P+aa x.S<=1000:=by have:=I.i.h8;have:=I.le;omega
 exact jY (p0
  (dK.mk (λE b j c h=> .cons (.ai h) .nil) (λE n j c v h C=>by rw[C];exact .ei h) λj c=>ah2 H J j c)
  (dK.mk (λE b j c h=> .cons (.ai h) .nil) (λE n j c v h C=>by rw[C];exact .ei h) λj c=>ah4 H O j c))
def X9(Z:x.ok D)(ax:ht x.P)(az:ht x.S):Y 14 #[.pointer (ab ⟨s,0,af⟩)] [bA D x W m s] λv U=>∃(A:a3) (j:Nat),v=.slice A (aa x.P) j/\(0<aa x.P->∃b,A=ab ⟨b,0,af⟩)/\U=[bA D x W m s,E 42 3 A (aa x.P) j (J x.P)]:=by
 let⟨aW,n,H,aV⟩:=Q6 Z;refine(Ee (Ω:=xu D x W m) _ p H.ai H.i (RY Z ax az) (λam=> .nil) λh O=>?_).cr λv U I ⟨am,R,av,ar⟩ O=>?_
 .exact qr H.rt (λaB aD j=>by obtain⟨rfl,_⟩:=xt j;rfl) (λah aA j Q c I q=>by
   obtain⟨rfl,ae⟩:=xr j;rw[DE ae];exact q) h O
 .cases R with| @ei _ Q c R=>?_
  subst ar;rw[yL]at O;have aQ:=BF (Ω':=ic D x W m m hz) H.low (λaB aD j=>by obtain⟨rfl,_⟩:=xt j;rfl) (λah aA j Q c I q=>by
   obtain⟨rfl,ae⟩:=xr j;have aH:(xu D x W m).d5 ah Q c I:=q;rw[DE ae]at aH;trivial) av (by rw[H.len];omega) I O
  have fZ:C (bA D x W m s:: [dg am (fS (dz x++[.cx 40])) n]) I:=by
   rw[<- H.len];exact aQ
  let⟨aE,aG,aq,aK,aL,ap,aX,aY,aT,aO,aZ,aP,_⟩:=fZ;let⟨aR,aS,aF,⟨A,j⟩,⟨aM,aI⟩,aJ⟩:=tq (o:=.cx 40) (by rw[<- H.len];simp) aP;rw[R]at aF;cases aF;exact⟨_,⟨A,j,aM,aI,rfl⟩,aE,aG,aq,aK,aL,ap,C.up aJ aO⟩
def Yd(Z:x.ok D)(av:ht x.P)(ax:ht x.S):Y 15 #[.pointer (ab ⟨s,0,af⟩)] [bA D x W m s] λv U=>∃(A:a3) (j:Nat),v=.slice A (aa x.S) j/\(0<aa x.S->∃b,A=ab ⟨b,0,af⟩)/\U=[bA D x W m s,E 44 3 A (aa x.S) j (J x.S)]:=by
 let⟨aV,n,H,aT⟩:=Q6 Z;refine(Ee (Ω:=xu D x W m) _ p H.s H.i (RY Z av ax) (λai=> .nil) λh O=>?_).cr λv U I ⟨ai,R,ar,aq⟩ O=>?_
 .exact qr H.rt (λaA aB j=>by obtain⟨rfl,_⟩:=xt j;rfl) (λah az j Q c I q=>by
   obtain⟨rfl,ae⟩:=xr j;rw[DE ae];exact q) h O
 .cases R with| @ei _ Q c R=>?_
  subst aq;rw[yL]at O;have aP:=BF (Ω':=ic D x W m m hz) H.low (λaA aB j=>by obtain⟨rfl,_⟩:=xt j;rfl) (λah az j Q c I q=>by
   obtain⟨rfl,ae⟩:=xr j;have aG:(xu D x W m).d5 ah Q c I:=q;rw[DE ae]at aG;trivial) ar (by rw[H.len];omega) I O
  have fZ:C (bA D x W m s:: [dg ai (fS (dz x++[.cx 41])) n]) I:=by
   rw[<- H.len];exact aP
  let⟨aD,aE,ap,aJ,aK,am,aW,aX,aS,aL,aY,aO,_⟩:=fZ;let⟨aQ,aR,aF,⟨A,j⟩,⟨aM,aH⟩,aI⟩:=tq (o:=.cx 41) (by rw[<- H.len];simp) aO;rw[R]at aF;cases aF;exact⟨_,⟨A,j,aM,aH,rfl⟩,aD,aE,ap,aJ,aK,am,C.up aI aL⟩
end aV
section
attribute [local irreducible] C
section
variable{b:Nat}{P S:List aj}
def Ul(l:List aj)(n):aa (l.takeWhile λq=>decide (q.id<n))<=aa l:=(List.takeWhile_prefix _).length_le
def O1{P j E C}{I:Option Nat}{R Q H J x y Y ai W O}[U:eu P j (Y,ai,W)](Z:aX C x=ab (.slice af 0 0))(ah:aX C y=ab (.int O (0:Nat))):bh P E C ⟨I,.slice j x (ab y) af af,R,Q,H,J⟩ (.slice af 0 0):=
 wQ (P:=P) (T:=j) (U:=U) (L:=E) (d:=I) (aO:=R) (pos:=Q) (aT:=H) (a7:=J) (J:=af) (n:=0) (c:=0) (l:=0) (h:=0) Z (.inr ⟨y,O,rfl,ah⟩) (.inl bD) (bC _) (bC _)
def JV{n}:∀{l:List aj}{j}{h},j<aa (l.takeWhile λq=>decide (q.id<n))->l[j].id<n
 | [],j,h,_=>absurd h (E7 _)
 |x::l,j,h,C=>by
  by_cases E:x.id<n
  .rw[LH (by simpa using E),f0]at C;cases j with
   |zero=>exact E
   |succ j=>exact JV (l:=l) (h:=by simpa using h) ad
  .rw[LG (by simpa using E)]at C;exact absurd C (E7 _)
def JU{n}:∀{l:List aj}{j},aa (l.takeWhile λq=>decide (q.id<n))=j->∀(h),¬l[j].id<n
 | [],j,_,h=>absurd h (E7 _)
 |x::l,j,C,h=>by
  by_cases E:x.id<n
  .rw[LH (by simpa using E),f0]at C;subst C;exact JU (l:=l) p (by simpa using h)
  .rw[LG (by simpa using E)]at C;subst C;exact E
theorem ML(l j):gN l j=l.take (aa (l.takeWhile λq=>decide (q.id<j.id)))++j::l.drop (aa (l.takeWhile λq=>decide (q.id<j.id))):=by grind[gN,List.takeWhile_append_dropWhile,List.drop_left]
def Gl{n}:∀{l},dW l n=ag->∃j:Nat,pH l n=(j:Nat)/\j<aa l/\hT l n=l.take j++l.drop (j+1)
 | [],h=>by cases h
 |x::l,h=>by
  by_cases C:x.id=n
  .exact⟨0,by simp_all[pH,Lg],ao,by simp[hT,C]⟩
  .have E:dW l n=ag:=by simpa[dW,C]using h
   let⟨j,h1,ae,an⟩:=Gl E;refine⟨j+1,?_,by simp_all,?_⟩
   .simp_all[pH,Lg]
   simp_all[hT]
end
def afp(b C S ai s)(aS:aa C+aa S<=1000)(aq:ex C S D ⟨2,ai,s⟩=0):Y 12 #[I b,(bZ.mk 2 ai s).v] [fH D b C S] λv aF=>(∃x:bZ,v=.tuple #[x.v,j 0])/\aF=[fH D b (hT C ai.id) S]:=by
 apply O.aW λA Q W Z R=>?_;have aB:∀M,aU (ah b 40 (j1 D A (aa C) Q W (aa S) Z)::M) b 0 3 (j1 D A (aa C) Q W (aa S) Z):=λM=>aU.ah p;have ap:∀M,Rd (E 42 3 A (aa C) Q (J C)::M) A (aa C) C:=λM=>bf.E (ck _) R.a;have aK:∀M,Rd (E 44 3 W (aa S) Z (J S)::M) W (aa S) S:=λM=>bf.E (ck _) R.qt;have ax:=λM h ae an=>D1 (D:=D) (b:=b) (A:=A) (yn:=W) (B1:=Q) (c1:=Z) (L:=M) h ae an aS ⟨2,ai,s⟩;rw[aq]at ax;have aX:0<aa C->∃b,A=(U b):=R.a;have bn:0<aa S->∃b,W=(U b):=R.qt;have aY:aa C<=Q:=R.c;have bo:aa S<=Z:=R.B0;have aM:Q<=maxLen:=R.m;have aO:Z<=maxLen:=R.mc;have bp:=R.d;have bq:=R.Cc;clear R;unfold maxLen at aM aO;have aP:dW C ai.id=ag:=by
  cases ar:dW C ai.id with
  |true=>rfl
  |false=>
   simp only[ex,bZ.mH,bZ.jZ,bZ.id]at aq;simp[ar]at aq;split at aq<;>simp_all
 let⟨H,aH,aI,aJ⟩:=Gl aP;rw[aJ];have av:=λM h aQ=>Ta (al:=(D:Nat)) b A W Q Z C S ai.id M h aQ ad;rw[aH]at av;let⟨am,aA⟩:=aX ad;have a0:∀M,aU (E 42 3 A (aa C) Q (J C)::M) am (0+H*3) 3 [j C[H].id,j C[H].x,j C[H].y]:=λM=>by
  let⟨bk,bl,az,ar⟩:=(ap M).at_ ad;rw[aA]at az;cases az;exact ar _ _ (b8 aI)
 generalize C[H]=aZ at*
 have aR:=aY;subst aA;have bm:∀M,bf (E 42 3 (U am) (aa C) Q (J C)::M) 3 (U am) H (J (C.take H)):=λM=>(ap M).take ad;have aV:∀M,bf (E 42 3 (U am) (aa C) Q (J C)::M) 3 (ab ⟨am,(if Q=H+1 then 0 else 0+(H+1)*3),af⟩) (aa C-(H+1)) (J (C.drop (H+1))):=λM=>(ap M).drop ad aR;refine bt ?_;refine bd λa7=>?_;apply bg λa8=>?_;apply a9 (ax _ (bx aB) (bx ap) (bx aK)) _;apply sf (av _ (bx aB) (bx ap)) _;refine a6 (gh p (bx a0)) ?_;apply bg λbb=>?_;apply fK (bE [0,2,3,4,5,6,7,9,10,11,12,13,14,15] (.e 1 (.e 8 (.e 16 (.q 17 (.q 18 (.e 19 .nil))))))) _;refine eh p (kH p p aw) ?_;apply ak _;refine eh p (iW p p aw aw) ?_;refine bF (bW p p p n0 ?_);rintro _ _ ⟨a4,rfl,rfl⟩;apply bX _;apply nH λa3 bc be bh bj=>?_;refine bF (bW p p p (dH p p aN ((bx aV)) ((e8 _)) bN bL aw aw) ?_);rintro _ _ ⟨aE,aG,rfl,aL,bi,aT,rfl⟩;apply bX _;iterate 2 apply bu _
 apply oP _
 all_goals
  have aD:0+H+(aa C-(H+1))=aa (C.take H++C.drop (H+1)):=by simp;omega
  rw[aD]at aL aT;rw[aD];apply ak _;refine ba (C:=[fH D b (C.take H++C.drop (H+1)) S]) p (.cell p (eQ cA) ds) ?_ ⟨⟨⟨1,aZ,f2⟩,rfl⟩,rfl⟩;apply cP;exact aN;exact sU (A:=aE) (c:=aG) (j:=W) (I:=Z) p p (by rw[gS]) p au
def afr(b H S ar s)(aS:aa H+aa S<=1000)(ap:ex H S D ⟨4,ar,s⟩=0):Y 12 #[I b,(bZ.mk 4 ar s).v] [fH D b H S] λv aF=>(∃x:bZ,v=.tuple #[x.v,j 0])/\aF=[fH D b H (hT S s.id)]:=by
 apply O.aW λA Z W Q R=>?_;have aB:∀M,aU (ah b 40 (j1 D A (aa H) Z W (aa S) Q)::M) b 0 3 (j1 D A (aa H) Z W (aa S) Q):=λM=>aU.ah p;have aK:∀M,Rd (E 42 3 A (aa H) Z (J H)::M) A (aa H) H:=λM=>bf.E (ck _) R.a;have am:∀M,Rd (E 44 3 W (aa S) Q (J S)::M) W (aa S) S:=λM=>bf.E (ck _) R.qt;have ax:=λM h ae an=>D1 (D:=D) (b:=b) (A:=A) (yn:=W) (B1:=Z) (c1:=Q) (L:=M) h ae an aS ⟨4,ar,s⟩;rw[ap]at ax;have bn:0<aa H->∃b,A=(U b):=R.a;have aX:0<aa S->∃b,W=(U b):=R.qt;have bo:aa H<=Z:=R.c;have aY:aa S<=Q:=R.B0;have aM:Z<=maxLen:=R.m;have aO:Q<=maxLen:=R.mc;have bp:=R.d;have bq:=R.Cc;clear R;unfold maxLen at aM aO;have aP:dW S s.id=ag:=by
  cases aq:dW S s.id with
  |true=>rfl
  |false=>
   simp only[ex,bZ.mH,bZ.jZ,bZ.id]at ap;simp[aq]at ap;split at ap<;>simp_all
 let⟨C,aH,aI,aJ⟩:=Gl aP;rw[aJ];have av:=λM h aQ=>Tb (al:=(D:Nat)) b A W Z Q H S s.id M h aQ ad;rw[aH]at av;let⟨ai,aA⟩:=aX ad;have a0:∀M,aU (E 44 3 W (aa S) Q (J S)::M) ai (0+C*3) 3 [j S[C].id,j S[C].x,j S[C].y]:=λM=>by
  let⟨bk,bl,az,aq⟩:=(am M).at_ ad;rw[aA]at az;cases az;exact aq _ _ (b8 aI)
 generalize S[C]=aZ at*
 have aR:=aY;subst aA;have bm:∀M,bf (E 44 3 (U ai) (aa S) Q (J S)::M) 3 (U ai) C (J (S.take C)):=λM=>(am M).take ad;have aV:∀M,bf (E 44 3 (U ai) (aa S) Q (J S)::M) 3 (ab ⟨ai,(if Q=C+1 then 0 else 0+(C+1)*3),af⟩) (aa S-(C+1)) (J (S.drop (C+1))):=λM=>(am M).drop ad aR;refine bt ?_;refine bd λa7=>?_;apply bg λbb=>?_;apply a9 (ax _ (bx aB) (bx aK) (bx am)) _;apply sf (av _ (bx aB) (bx am)) _;refine a6 (gh p (bx a0)) ?_;apply bg λa4=>?_;apply fK (bE [0,2,3,4,5,6,7,9,10,11,12,13,14,15] (.e 1 (.e 8 (.e 16 (.q 17 (.q 18 (.e 19 .nil))))))) _;refine eh p (kH p p aw) ?_;apply ak _;refine eh p (iW p p aw aw) ?_;refine bF (bW p p p n0 ?_);rintro _ _ ⟨a8,rfl,rfl⟩;apply bX _;apply nH λa3 bc be bh bj=>?_;refine bF (bW p p p (dH p p aN ((bx aV)) ((e8 _)) bN bL aw aw) ?_);rintro _ _ ⟨aE,aG,rfl,aL,bi,aT,rfl⟩;apply bX _;iterate 2 apply bu _
 apply oP _
 all_goals
  have aD:0+C+(aa S-(C+1))=aa (S.take C++S.drop (C+1)):=by simp;omega
  rw[aD]at aL aT;rw[aD];apply ak _;refine ba (C:=[fH D b H (S.take C++S.drop (C+1))]) p (.cell p (eQ cA) ds) ?_ ⟨⟨⟨3,f2,aZ⟩,rfl⟩,rfl⟩;apply cP;exact aN;exact sU (A:=A) (c:=Z) (j:=aE) (I:=aG) p p p (by rw[gS]) au
end
section
attribute [local irreducible] C bh b6
def afo(b C S R s)(bq:aa C+aa S<=1000)(bp:ex C S D ⟨1,R,s⟩=0):Y 12 #[I b,(bZ.mk 1 R s).v] [fH D b C S] λv bc=>(∃x:bZ,v=.tuple #[x.v,j 0])/\bc=[fH D b (gN C R) S]:=by
 apply O.aW λA W ai Z am=>?_;have bi:∀M,aU (ah b 40 (j1 D A (aa C) W ai (aa S) Z)::M) b 0 3 (j1 D A (aa C) W ai (aa S) Z):=λM=>aU.ah p;have aT:∀M,Rd (E 42 3 A (aa C) W (J C)::M) A (aa C) C:=λM=>bf.E (ck _) am.a;have bg:∀M,Rd (E 44 3 ai (aa S) Z (J S)::M) ai (aa S) S:=λM=>bf.E (ck _) am.qt;have a4:=λM h ae an=>D1 (D:=D) (b:=b) (A:=A) (yn:=ai) (B1:=W) (c1:=Z) (L:=M) h ae an bq ⟨1,R,s⟩;rw[bp]at a4;have bw:0<aa C->∃b,A=(U b):=am.a;have bK:0<aa S->∃b,ai=(U b):=am.qt;have bz:aa C<=W:=am.c;have bR:aa S<=Z:=am.B0;have bj:W<=maxLen:=am.m;have bk:Z<=maxLen:=am.mc;have bA:=am.d;have bS:=am.Cc;clear am;unfold maxLen at bj bk;obtain⟨H,aH⟩:∃H,aa (C.takeWhile λx=>decide (x.id<R.id))=H:=⟨_,rfl⟩;have a7:H<=aa C:=aH▸Ul C R.id;have bn:∀Q (h:Q<aa C),Q<H->C[Q].id<R.id:=λQ h bm=>JV (aH▸bm);have bG:∀(h:H<aa C),¬C[H].id<R.id:=λh=>JU aH h;rw[ML,aH];clear aH;refine aD λ{g F}=>?_;apply bd λaz=>?_;apply bP λaS=>?_;apply dQ (a4 _ (bx bi) (bx aT) (bx bg)) _;apply cc;apply fV _;apply ef (ι:=Unit) (λ_=>[(0,I b),(3,I az),(4,I aS),(7,j (H:Nat))]) (λ_=>ah aS 46 hz.l::ah az 46 (bZ.l ⟨1,R,s⟩)::F::ah b 40 (j1 D A (aa C) W ai (aa S) Z)::E 42 3 A (aa C) W (J C)::E 44 3 ai (aa S) Z (J S):: []) (λ_=>True) _ _
 .apply bs _;apply cL (ι:=Nat) (λQ=>[(0,I b),(3,I az),(4,I aS),(7,j (Q:Nat))]) (λ_=>ah aS 46 hz.l::ah az 46 (bZ.l ⟨1,R,s⟩)::F::ah b 40 (j1 D A (aa C) W ai (aa S) Z)::E 42 3 A (aa C) W (J C)::E 44 3 ai (aa S) Z (J S):: []) (λQ=>Q<=H) (λQ=>H-Q) 0 (bO _) aZ a1;rintro Q bB
  by_cases a3:Q<aa C
  .let⟨aR,a8⟩:=bw ad;have bb:∀M,a5 (E 42 3 A (aa C) W (J C)::M) ⟨aR,0+Q*3+0,af⟩ (j C[Q].id):=λM=>by
    let⟨bI,bJ,ap,br⟩:=(aT M).at_ ad;rw[a8]at ap;cases ap;exact(br _ _ (b8 a3)).at_ (i:=0) p
   have bo:=bn Q a3;have bl:Q=H->¬C[Q].id<R.id:=λap=>by simp_all
   generalize C[Q]=bT at*
   subst a8
   by_cases Z:Q<H
   .apply bs _;refine pu (bE [0,1,2,3,4,5,6,7,8,9,10,11,12,13,14,15,16,17,18,19,20] .nil) bN cq ?_;iterate 8 apply bu _
    refine jS 64 p (cO ad) ?_;iterate 5 apply bu _
    refine f3 dm p p p p ⟨_,rfl,rfl⟩ p (iV p p ad) ?_;apply bu _;refine j6 dm p p p p ⟨_,rfl,rfl⟩ p (fC p (bx bb)) ?_;iterate 5 apply bu _
    apply fO _;refine gJ p (cO (bo Z)) ?_;apply aC _;apply cd _;exact b7 (Q+1) ad ad aZ a1
   .have ap:Q=H:=ad;apply ed (bE [0,1,2,3,4,5,6,7,8,9,10,11,12,13,14,15,16,17,18,19] (.q 20 .nil)) _;iterate 8 apply bu _
    refine jS 64 p (cO ad) ?_;iterate 5 apply bu _
    refine f3 dm p p p p ⟨_,rfl,rfl⟩ p (iV p p ad) ?_;apply bu _;refine j6 dm p p p p ⟨_,rfl,rfl⟩ p (fC p (bx bb)) ?_;iterate 5 apply bu _
    apply fO _;refine e9 p (cw (bl ap)) ?_;subst ap;apply bs _;exact cC () trivial aZ a1
  .have ap:Q=H:=ad;subst ap;apply ed (bE [0,1,2,3,4,5,6,7,8,9,10,11,12,13,14,15,16,17,18,19] (.q 20 .nil)) _;iterate 8 apply bu _
   refine jS 64 p (cw ad) ?_;apply aC _;apply bs _;exact cC () trivial aZ a1
 .rintro _ _;have aY:∀M,bf (E 42 3 A (aa C) W (J C)::M) 3 A H (J (C.take H)):=λM=>(aT M).take a7;have aV:∀M,aU (ah az 46 (bZ.l ⟨1,R,s⟩)::M) az (0+1) 3 [j R.id,j R.x,j R.y]:=λM=>fb.uF (E:=1) (n:=7) (H:=bZ.l ⟨1,R,s⟩) (aU.ah p) p (λa9 v bH=>by match a9 with
   |0=>trivial
   |1=>trivial
   |2=>trivial
   |a9+3=>trivial)
  rcases bA with ⟨rfl,bt,rfl⟩|⟨aR,rfl⟩
  .have bh:H=0:=ad;subst bh;have be:C=[]:=gX bt;subst be;apply ed (bE [0,2,3,4,5,6,7,9,10,13,14,15,16,17,18] (.iw 1 (.iw 8 (.e 11 (.e 12 (.e 19 (.q 20 (.q 21 (.e 22 .nil)))))) 11 (.e 8 (.e 12 (.e 19 (.q 20 (.q 21 (.e 22 .nil))))))) 11 (.e 1 (.e 8 (.e 12 (.e 19 (.q 20 (.q 21 (.e 22 .nil))))))))) _;iterate 6 apply bu _
   refine eh p (kH p p aw) ?_;apply bu _;refine eh p (gh p (bx aV)) ?_;iterate 5 apply bu _
   refine eh p (O1 p p) ?_;refine jt ?x861_0 ?x861_1
   case' x861_1=>
    refine bW p p p (gR bN p p) ?_;rintro _ _ ⟨aE,rfl,rfl⟩;apply bX _;refine bF (bW p p p n0 ?_);rintro _ _ ⟨aX,rfl,rfl⟩;apply bX _;refine bF (bW p p p (dH p p aN ((Rd.nil (α:=aj) _ _)) ((e8 _)) bN bL aw aw) ?_);rintro _ _ ⟨aA,aF,rfl,aI,aK,aO,rfl⟩;apply bX _;refine bF (bW p p p (dH p p aN gL (hA p) bN ao aw aw) ?_);rintro _ _ ⟨aB,aG,rfl,aJ,aL,aP,rfl⟩;apply bX _;refine bF (bW p p p (dH p p aN ((Rd.nil (α:=aj) _ _)) ((e8 _)) bN bL aw aw) ?_);rintro _ _ ⟨aq,ar,rfl,av,aM,ax,rfl⟩;apply bX _;iterate 2 apply bu _
    apply lX _;apply jR
   case' x861_0=>
    refine bW p p p n0 ?_;rintro _ _ ⟨aX,rfl,rfl⟩;apply bX _;refine jt ?x862_0 ?x862_1
    case' x862_1=>
     refine bW p p p (gR bN p p) ?_;rintro _ _ ⟨aE,rfl,rfl⟩;apply bX _;refine bF (bW p p p (dH p p aN ((Rd.nil (α:=aj) _ _)) ((e8 _)) bN bL aw aw) ?_);rintro _ _ ⟨aA,aF,rfl,aI,aK,aO,rfl⟩;apply bX _;refine bF (bW p p p (dH p p aN gL (hA p) bN ao aw aw) ?_);rintro _ _ ⟨aB,aG,rfl,aJ,aL,aP,rfl⟩;apply bX _;refine bF (bW p p p (dH p p aN ((Rd.nil (α:=aj) _ _)) ((e8 _)) bN bL aw aw) ?_);rintro _ _ ⟨aq,ar,rfl,av,aM,ax,rfl⟩;apply bX _;iterate 2 apply bu _
     apply lX _;apply jR
    case' x862_0=>
     refine bW p p p (dH p p aN ((Rd.nil (α:=aj) _ _)) ((e8 _)) bN bL aw aw) ?_;rintro _ _ ⟨aA,aF,rfl,aI,aK,aO,rfl⟩;apply bX _;refine bF (bW p p p (gR bN p p) ?_);rintro _ _ ⟨aE,rfl,rfl⟩;refine bX ?_;refine bF (bW p p p (dH p p aN gL (hA p) bN ao aw aw) ?_);rintro _ _ ⟨aB,aG,rfl,aJ,aL,aP,rfl⟩;refine bX ?_;refine bF (bW p p p (dH p p aN ((Rd.nil (α:=aj) _ _)) ((e8 _)) bN bL aw aw) ?_);rintro _ _ ⟨aq,ar,rfl,av,aM,ax,rfl⟩;refine bX ?_;iterate 2 apply bu _
     apply lX _;apply jR
   all_goals
    have aQ:0+0+1+0=aa (([]:List aj).take 0++R::([]:List aj).drop 0):=rfl;rw[aQ]at av ax;rw[aQ];apply bQ _;apply ay _;refine a6 (gh p (bx aV)) ?_;apply ay _;apply fv _;apply ay _;apply cd _;refine ba (C:=[fH D b (([]:List aj).take 0++R::([]:List aj).drop 0) S]) p (.cell p (eQ cA) ds) ?_ ⟨⟨⟨2,R,f2⟩,rfl⟩,rfl⟩;apply cP;exact aN;apply sU (A:=aq) (c:=ar) (j:=ai) (I:=Z) p p
    case f=>exact au
    all_goals first|rfl|(rw[gS];rw[oG,jm];rfl)
  .have a0:∀M,bf (E 42 3 (U aR) (aa C) W (J C)::M) 3 (ab ⟨aR,(if W=H then 0 else 0+H*3),af⟩) (aa C-H) (J (C.drop H)):=λM=>(aT M).drop a7 bz;apply ed (bE [0,2,3,4,5,6,7,9,10,13,14,15,16,17,18] (.iw 1 (.iw 8 (.e 11 (.e 12 (.e 19 (.q 20 (.q 21 (.e 22 .nil)))))) 11 (.e 8 (.e 12 (.e 19 (.q 20 (.q 21 (.e 22 .nil))))))) 11 (.e 1 (.e 8 (.e 12 (.e 19 (.q 20 (.q 21 (.e 22 .nil))))))))) _;iterate 6 apply bu _
   refine eh p (kH p p aw) ?_;apply bu _;refine eh p (gh p (bx aV)) ?_;iterate 5 apply bu _
   refine eh p (iW p p aw aw) ?_;refine jt ?x863_0 ?x863_1
   case' x863_1=>
    refine bW p p p (gR bN p p) ?_;rintro _ _ ⟨aE,rfl,rfl⟩;apply bX _;refine bF (bW p p p n0 ?_);rintro _ _ ⟨aX,rfl,rfl⟩;apply bX _;refine bF (bW p p p (dH p p aN ((bx aY)) ((e8 _)) bN ao aw aw) ?_);rintro _ _ ⟨aA,aF,rfl,aI,aK,aO,rfl⟩;apply bX _;refine bF (bW p p p (dH p p aN gL (hA p) bN ao aw aw) ?_);rintro _ _ ⟨aB,aG,rfl,aJ,aL,aP,rfl⟩;apply bX _;refine bF (bW p p p (dH p p aN ((bx a0)) ((e8 _)) bN ao aw aw) ?_);rintro _ _ ⟨aq,ar,rfl,av,aM,ax,rfl⟩;apply bX _;iterate 2 apply bu _
    apply lX _;apply jR
   case' x863_0=>
    refine bW p p p n0 ?_;rintro _ _ ⟨aX,rfl,rfl⟩;apply bX _;refine jt ?x864_0 ?x864_1
    case' x864_1=>
     refine bW p p p (gR bN p p) ?_;rintro _ _ ⟨aE,rfl,rfl⟩;apply bX _;refine bF (bW p p p (dH p p aN ((bx aY)) ((e8 _)) bN ao aw aw) ?_);rintro _ _ ⟨aA,aF,rfl,aI,aK,aO,rfl⟩;apply bX _;refine bF (bW p p p (dH p p aN gL (hA p) bN ao aw aw) ?_);rintro _ _ ⟨aB,aG,rfl,aJ,aL,aP,rfl⟩;apply bX _;refine bF (bW p p p (dH p p aN ((bx a0)) ((e8 _)) bN ao aw aw) ?_);rintro _ _ ⟨aq,ar,rfl,av,aM,ax,rfl⟩;apply bX _;iterate 2 apply bu _
     apply lX _;apply jR
    case' x864_0=>
     refine bW p p p (dH p p aN ((bx aY)) ((e8 _)) bN ao aw aw) ?_;rintro _ _ ⟨aA,aF,rfl,aI,aK,aO,rfl⟩;apply bX _;refine bF (bW p p p (gR bN p p) ?_);rintro _ _ ⟨aE,rfl,rfl⟩;refine bX ?_;refine bF (bW p p p (dH p p aN gL (hA p) bN ao aw aw) ?_);rintro _ _ ⟨aB,aG,rfl,aJ,aL,aP,rfl⟩;refine bX ?_;refine bF (bW p p p (dH p p aN ((bx a0)) ((e8 _)) bN ao aw aw) ?_);rintro _ _ ⟨aq,ar,rfl,av,aM,ax,rfl⟩;refine bX ?_;iterate 2 apply bu _
     apply lX _;apply jR
   all_goals
    have aQ:0+H+1+(aa C-H)=aa (C.take H++R::C.drop H):=bv;rw[aQ]at av ax;rw[aQ];apply bQ _;apply ay _;refine a6 (gh p (bx aV)) ?_;apply ay _;apply fv _;apply ay _;apply cd _;refine ba (C:=[fH D b (C.take H++R::C.drop H) S]) p (.cell p (eQ cA) ds) ?_ ⟨⟨⟨2,R,f2⟩,rfl⟩,rfl⟩;apply cP;exact aN;apply sU (A:=aq) (c:=ar) (j:=ai) (I:=Z) p p
    case f=>exact au
    all_goals first|rfl|(rw[gS];rw[oG,jm];rfl)
def afq(b Q S ax s)(bp:aa Q+aa S<=1000)(bo:ex Q S D ⟨3,ax,s⟩=0):Y 12 #[I b,(bZ.mk 3 ax s).v] [fH D b Q S] λv bb=>(∃x:bZ,v=.tuple #[x.v,j 0])/\bb=[fH D b Q (gN S s)]:=by
 apply O.aW λA Z W R ai=>?_;have bh:∀M,aU (ah b 40 (j1 D A (aa Q) Z W (aa S) R)::M) b 0 3 (j1 D A (aa Q) Z W (aa S) R):=λM=>aU.ah p;have be:∀M,Rd (E 42 3 A (aa Q) Z (J Q)::M) A (aa Q) Q:=λM=>bf.E (ck _) ai.a;have aT:∀M,Rd (E 44 3 W (aa S) R (J S)::M) W (aa S) S:=λM=>bf.E (ck _) ai.qt;have a4:=λM h ae an=>D1 (D:=D) (b:=b) (A:=A) (yn:=W) (B1:=Z) (c1:=R) (L:=M) h ae an bp ⟨3,ax,s⟩;rw[bo]at a4;have bK:0<aa Q->∃b,A=(U b):=ai.a;have bt:0<aa S->∃b,W=(U b):=ai.qt;have bR:aa Q<=Z:=ai.c;have bw:aa S<=R:=ai.B0;have bi:Z<=maxLen:=ai.m;have bj:R<=maxLen:=ai.mc;have bS:=ai.d;have bz:=ai.Cc;clear ai;unfold maxLen at bi bj;obtain⟨C,aH⟩:∃C,aa (S.takeWhile λx=>decide (x.id<s.id))=C:=⟨_,rfl⟩;have a7:C<=aa S:=aH▸Ul S s.id;have bm:∀H (h:H<aa S),H<C->S[H].id<s.id:=λH h bl=>JV (aH▸bl);have bB:∀(h:C<aa S),¬S[C].id<s.id:=λh=>JU aH h;rw[ML,aH];clear aH;refine aD λ{g F}=>?_;apply bd λaz=>?_;apply bP λaS=>?_;apply dQ (a4 _ (bx bh) (bx be) (bx aT)) _;apply cc;apply fV _;apply ef (ι:=Unit) (λ_=>[(0,I b),(3,I az),(4,I aS),(10,j (C:Nat))]) (λ_=>ah aS 46 hz.l::ah az 46 (bZ.l ⟨3,ax,s⟩)::F::ah b 40 (j1 D A (aa Q) Z W (aa S) R)::E 42 3 A (aa Q) Z (J Q)::E 44 3 W (aa S) R (J S):: []) (λ_=>True) _ _
 .apply bs _;apply cL (ι:=Nat) (λH=>[(0,I b),(3,I az),(4,I aS),(10,j (H:Nat))]) (λ_=>ah aS 46 hz.l::ah az 46 (bZ.l ⟨3,ax,s⟩)::F::ah b 40 (j1 D A (aa Q) Z W (aa S) R)::E 42 3 A (aa Q) Z (J Q)::E 44 3 W (aa S) R (J S):: []) (λH=>H<=C) (λH=>C-H) 0 (bO _) aZ a1;rintro H bA
  by_cases a3:H<aa S
  .let⟨aR,a8⟩:=bt ad;have a9:∀M,a5 (E 44 3 W (aa S) R (J S)::M) ⟨aR,0+H*3+0,af⟩ (j S[H].id):=λM=>by
    let⟨bI,bJ,am,bq⟩:=(aT M).at_ ad;rw[a8]at am;cases am;exact(bq _ _ (b8 a3)).at_ (i:=0) p
   have bn:=bm H a3;have bk:H=C->¬S[H].id<s.id:=λam=>by simp_all
   generalize S[H]=bT at*
   subst a8
   by_cases R:H<C
   .apply bs _;refine pu (bE [0,1,2,3,4,5,6,7,8,9,10,11,12,13,14,15,16,17,18,19,20] .nil) bN cq ?_;iterate 8 apply bu _
    refine jS 149 p (cO ad) ?_;iterate 5 apply bu _
    refine f3 dm p p p p ⟨_,rfl,rfl⟩ p (iV p p ad) ?_;apply bu _;refine j6 dm p p p p ⟨_,rfl,rfl⟩ p (fC p (bx a9)) ?_;iterate 5 apply bu _
    apply fO _;refine gJ p (cO (bn R)) ?_;apply aC _;apply cd _;exact b7 (H+1) ad ad aZ a1
   .have am:H=C:=ad;apply ed (bE [0,1,2,3,4,5,6,7,8,9,10,11,12,13,14,15,16,17,18,19] (.q 20 .nil)) _;iterate 8 apply bu _
    refine jS 149 p (cO ad) ?_;iterate 5 apply bu _
    refine f3 dm p p p p ⟨_,rfl,rfl⟩ p (iV p p ad) ?_;apply bu _;refine j6 dm p p p p ⟨_,rfl,rfl⟩ p (fC p (bx a9)) ?_;iterate 5 apply bu _
    apply fO _;refine e9 p (cw (bk am)) ?_;subst am;apply bs _;exact cC () trivial aZ a1
  .have am:H=C:=ad;subst am;apply ed (bE [0,1,2,3,4,5,6,7,8,9,10,11,12,13,14,15,16,17,18,19] (.q 20 .nil)) _;iterate 8 apply bu _
   refine jS 149 p (cw ad) ?_;apply aC _;apply bs _;exact cC () trivial aZ a1
 .rintro _ _;have aY:∀M,bf (E 44 3 W (aa S) R (J S)::M) 3 W C (J (S.take C)):=λM=>(aT M).take a7;have aV:∀M,aU (ah az 46 (bZ.l ⟨3,ax,s⟩)::M) az (0+4) 3 [j s.id,j s.x,j s.y]:=λM=>fb.uF (E:=4) (n:=7) (H:=bZ.l ⟨3,ax,s⟩) (aU.ah p) p (λbH v bG=>by grind);rcases bz with ⟨rfl,br,rfl⟩|⟨aR,rfl⟩
  .have bg:C=0:=ad;subst bg;have bc:S=[]:=gX br;subst bc;apply ed (bE [0,2,3,4,5,6,7,9,10,13,14,15,16,17,18] (.iw 1 (.iw 8 (.e 11 (.e 12 (.e 19 (.q 20 (.q 21 (.e 22 .nil)))))) 11 (.e 8 (.e 12 (.e 19 (.q 20 (.q 21 (.e 22 .nil))))))) 11 (.e 1 (.e 8 (.e 12 (.e 19 (.q 20 (.q 21 (.e 22 .nil))))))))) _;iterate 6 apply bu _
   refine eh p (kH p p aw) ?_;apply bu _;refine eh p (gh p (bx aV)) ?_;iterate 5 apply bu _
   refine eh p (O1 p p) ?_;refine jt ?x865_0 ?x865_1
   case' x865_1=>
    refine bW p p p (gR bN p p) ?_;rintro _ _ ⟨aE,rfl,rfl⟩;apply bX _;refine bF (bW p p p n0 ?_);rintro _ _ ⟨aX,rfl,rfl⟩;apply bX _;refine bF (bW p p p (dH p p aN ((Rd.nil (α:=aj) _ _)) ((e8 _)) bN bL aw aw) ?_);rintro _ _ ⟨aA,aF,rfl,aI,aK,aO,rfl⟩;apply bX _;refine bF (bW p p p (dH p p aN gL (hA p) bN ao aw aw) ?_);rintro _ _ ⟨aB,aG,rfl,aJ,aL,aP,rfl⟩;apply bX _;refine bF (bW p p p (dH p p aN ((Rd.nil (α:=aj) _ _)) ((e8 _)) bN bL aw aw) ?_);rintro _ _ ⟨ap,aq,rfl,ar,aM,av,rfl⟩;apply bX _;iterate 2 apply bu _
    apply lX _;apply jR
   case' x865_0=>
    refine bW p p p n0 ?_;rintro _ _ ⟨aX,rfl,rfl⟩;apply bX _;refine jt ?x866_0 ?x866_1
    case' x866_1=>
     refine bW p p p (gR bN p p) ?_;rintro _ _ ⟨aE,rfl,rfl⟩;apply bX _;refine bF (bW p p p (dH p p aN ((Rd.nil (α:=aj) _ _)) ((e8 _)) bN bL aw aw) ?_);rintro _ _ ⟨aA,aF,rfl,aI,aK,aO,rfl⟩;apply bX _;refine bF (bW p p p (dH p p aN gL (hA p) bN ao aw aw) ?_);rintro _ _ ⟨aB,aG,rfl,aJ,aL,aP,rfl⟩;apply bX _;refine bF (bW p p p (dH p p aN ((Rd.nil (α:=aj) _ _)) ((e8 _)) bN bL aw aw) ?_);rintro _ _ ⟨ap,aq,rfl,ar,aM,av,rfl⟩;apply bX _;iterate 2 apply bu _
     apply lX _;apply jR
    case' x866_0=>
     refine bW p p p (dH p p aN ((Rd.nil (α:=aj) _ _)) ((e8 _)) bN bL aw aw) ?_;rintro _ _ ⟨aA,aF,rfl,aI,aK,aO,rfl⟩;apply bX _;refine bF (bW p p p (gR bN p p) ?_);rintro _ _ ⟨aE,rfl,rfl⟩;refine bX ?_;refine bF (bW p p p (dH p p aN gL (hA p) bN ao aw aw) ?_);rintro _ _ ⟨aB,aG,rfl,aJ,aL,aP,rfl⟩;refine bX ?_;refine bF (bW p p p (dH p p aN ((Rd.nil (α:=aj) _ _)) ((e8 _)) bN bL aw aw) ?_);rintro _ _ ⟨ap,aq,rfl,ar,aM,av,rfl⟩;refine bX ?_;iterate 2 apply bu _
     apply lX _;apply jR
   all_goals
    have aQ:0+0+1+0=aa (([]:List aj).take 0++s::([]:List aj).drop 0):=rfl;rw[aQ]at ar av;rw[aQ];apply bQ _;apply ay _;refine a6 (gh p (bx aV)) ?_;apply ay _;apply fv _;apply ay _;apply cd _;refine ba (C:=[fH D b Q (([]:List aj).take 0++s::([]:List aj).drop 0)]) p (.cell p (eQ cA) ds) ?_ ⟨⟨⟨4,f2,s⟩,rfl⟩,rfl⟩;apply cP;exact aN;apply sU (A:=A) (c:=Z) (j:=ap) (I:=aq) p p
    case f=>exact au
    all_goals first|rfl|(rw[gS];rw[oG,jm];rfl)
  .have a0:∀M,bf (E 44 3 (U aR) (aa S) R (J S)::M) 3 (ab ⟨aR,(if R=C then 0 else 0+C*3),af⟩) (aa S-C) (J (S.drop C)):=λM=>(aT M).drop a7 bw;apply ed (bE [0,2,3,4,5,6,7,9,10,13,14,15,16,17,18] (.iw 1 (.iw 8 (.e 11 (.e 12 (.e 19 (.q 20 (.q 21 (.e 22 .nil)))))) 11 (.e 8 (.e 12 (.e 19 (.q 20 (.q 21 (.e 22 .nil))))))) 11 (.e 1 (.e 8 (.e 12 (.e 19 (.q 20 (.q 21 (.e 22 .nil))))))))) _;iterate 6 apply bu _
   refine eh p (kH p p aw) ?_;apply bu _;refine eh p (gh p (bx aV)) ?_;iterate 5 apply bu _
   refine eh p (iW p p aw aw) ?_;refine jt ?x867_0 ?x867_1
   case' x867_1=>
    refine bW p p p (gR bN p p) ?_;rintro _ _ ⟨aE,rfl,rfl⟩;apply bX _;refine bF (bW p p p n0 ?_);rintro _ _ ⟨aX,rfl,rfl⟩;apply bX _;refine bF (bW p p p (dH p p aN ((bx aY)) ((e8 _)) bN ao aw aw) ?_);rintro _ _ ⟨aA,aF,rfl,aI,aK,aO,rfl⟩;apply bX _;refine bF (bW p p p (dH p p aN gL (hA p) bN ao aw aw) ?_);rintro _ _ ⟨aB,aG,rfl,aJ,aL,aP,rfl⟩;apply bX _;refine bF (bW p p p (dH p p aN ((bx a0)) ((e8 _)) bN ao aw aw) ?_);rintro _ _ ⟨ap,aq,rfl,ar,aM,av,rfl⟩;apply bX _;iterate 2 apply bu _
    apply lX _;apply jR
   case' x867_0=>
    refine bW p p p n0 ?_;rintro _ _ ⟨aX,rfl,rfl⟩;apply bX _;refine jt ?x868_0 ?x868_1
    case' x868_1=>
     refine bW p p p (gR bN p p) ?_;rintro _ _ ⟨aE,rfl,rfl⟩;apply bX _;refine bF (bW p p p (dH p p aN ((bx aY)) ((e8 _)) bN ao aw aw) ?_);rintro _ _ ⟨aA,aF,rfl,aI,aK,aO,rfl⟩;apply bX _;refine bF (bW p p p (dH p p aN gL (hA p) bN ao aw aw) ?_);rintro _ _ ⟨aB,aG,rfl,aJ,aL,aP,rfl⟩;apply bX _;refine bF (bW p p p (dH p p aN ((bx a0)) ((e8 _)) bN ao aw aw) ?_);rintro _ _ ⟨ap,aq,rfl,ar,aM,av,rfl⟩;apply bX _;iterate 2 apply bu _
     apply lX _;apply jR
    case' x868_0=>
     refine bW p p p (dH p p aN ((bx aY)) ((e8 _)) bN ao aw aw) ?_;rintro _ _ ⟨aA,aF,rfl,aI,aK,aO,rfl⟩;apply bX _;refine bF (bW p p p (gR bN p p) ?_);rintro _ _ ⟨aE,rfl,rfl⟩;refine bX ?_;refine bF (bW p p p (dH p p aN gL (hA p) bN ao aw aw) ?_);rintro _ _ ⟨aB,aG,rfl,aJ,aL,aP,rfl⟩;refine bX ?_;refine bF (bW p p p (dH p p aN ((bx a0)) ((e8 _)) bN ao aw aw) ?_);rintro _ _ ⟨ap,aq,rfl,ar,aM,av,rfl⟩;refine bX ?_;iterate 2 apply bu _
     apply lX _;apply jR
   all_goals
    have aQ:0+C+1+(aa S-C)=aa (S.take C++s::S.drop C):=bv;rw[aQ]at ar av;rw[aQ];apply bQ _;apply ay _;refine a6 (gh p (bx aV)) ?_;apply ay _;apply fv _;apply ay _;apply cd _;refine ba (C:=[fH D b Q (S.take C++s::S.drop C)]) p (.cell p (eQ cA) ds) ?_ ⟨⟨⟨4,f2,s⟩,rfl⟩,rfl⟩;apply cP;exact aN;apply sU (A:=A) (c:=Z) (j:=ap) (I:=aq) p p
    case f=>exact au
    all_goals first|rfl|(rw[gS];rw[oG,jm];rfl)
def afs(b C S c)(O:aa C+aa S<=1000)(E:ex C S D c=0):Y 12 #[I b,c.v] [fH D b C S] λv Q=>(∃x:bZ,v=.tuple #[x.v,j 0])/\Q=[fH D b (mM C c) (mN S c)]:=by
 let⟨H,J,s⟩:=c;have R:H=1\/H=2\/H=3\/H=4:=by
  have U:bZ.iA ⟨H,J,s⟩=0:=by
   unfold ex at E;omega
  grind[bZ.known,bZ.iA]
 rcases R with rfl|rfl|rfl|rfl
 .exact afo b C S J s O E
 .exact afp b C S J s O E
 .exact afq b C S J s O E
 .exact afr b C S J s O E
def afA(b A am c aq C S Z)(aI:Rd Z A (aa C) C)(aK:Rd Z am (aa S) S)(a0:aa C+aa S<=1000):
  aY 13 #[I b,.slice A (aa C) c,.slice am (aa S) aq] (fH D b C S::Z) (.bool ag) (fH D b C S::Z):=by
 apply O.aW λQ W R Y av=>?_;have aX:∀M,aU (ah b 40 (j1 D Q _ W R _ Y)::M) b 0 3 (j1 D Q (aa C) W R (aa S) Y):=λM=>aU.ah p;have aJ:∀M,Rd (E 42 3 Q _ W _::M) Q _ C:=λM=>bf.E (ck _) av.a;have aL:∀M,Rd (E 44 3 R _ Y _::M) R _ S:=λM=>bf.E (ck _) av.qt;refine cR λ{g F}=>?_;apply bQ _;apply ay _;apply cc;have aO:=av.a;have aP:=av.qt;apply aC _;refine hN 17 p (cw ao) ?_;iterate 9 apply ay _
 apply cd _;refine e9 p (cw ao) ?_;apply aC _;apply cc;apply fV _;apply ef (ι:=Unit) (λ_=>[(0,I b),(1,.slice A (aa C) c),(2,.slice am (aa S) aq)]) (λ_=>F::ah b 40 (j1 D Q (aa C) W R (aa S) Y)::E 42 3 Q (aa C) W (J C)::E 44 3 R (aa S) Y (J S)::Z) (λ_=>True) _ _
 .apply bs _;apply cL (λH=>[(0,.pointer _),(1,.slice A _ c),(2,.slice am _ aq),(7,.int _ (H:Nat))]) (λ_=>F::ah b 40 (j1 D Q (aa C) W R (aa S) Y)::E 42 3 Q (aa C) W (J C)::E 44 3 R (aa S) Y (J S)::Z) (λH=>H<=aa C) (λH=>aa C-H) 0 (bO _) aZ au;intro H aM;rcases dZ H (aa C)with h1|h1
  .have ar:=b8 h1;let⟨aB,aD,az,ai⟩:=aI.at_ ad;subst az;have aF:=ai _ _ ar;let⟨ap,aA⟩:=aO ad;subst aA;have aG:∀M,aU (E 42 3 (U ap) (aa C) W (J C)::M) ap (0+H*3) 3 (d3.hq C[H]):=λM=>by
    let⟨aB,aD,ax,ai⟩:=(aJ M).at_ ad;cases ax;exact ai _ _ ar
   generalize C[H]=aE at*
   let⟨aQ,aS,aT⟩:=aE;have aV:=aF;have aH:=aG;apply dY _;refine eh p (gh p (bx aH)) ?_;refine fc p (uh p p p p p p) ?_;apply fO _;refine e9 p (cw ao) ?_;apply bs _;apply bQ _;apply ay _;refine a6 (pP (q:=1) p p ad) ?_;apply ak _;exact b7 (H+1) ad ad aZ au
  .apply ak _;exact cC () trivial aZ au
 .intro _ _;apply aC _;apply cc;apply fV _;apply ef (ι:=Unit) (λ_=>[(0,I b),(1,.slice A (aa C) c),(2,.slice am (aa S) aq)]) (λ_=>F::ah b 40 (j1 D Q (aa C) W R (aa S) Y)::E 42 3 Q (aa C) W (J C)::E 44 3 R (aa S) Y (J S)::Z) (λ_=>True) _ _
  .apply bs _;apply cL (ι:=Nat) (λH=>[(0,I b),(1,.slice A (aa C) c),(2,.slice am (aa S) aq),(8,j (H:Nat))]) (λ_=>F::ah b 40 (j1 D Q (aa C) W R (aa S) Y)::E 42 3 Q (aa C) W (J C)::E 44 3 R (aa S) Y (J S)::Z) (λH=>H<=aa S) (λH=>aa S-H) 0 (bO _) aZ au;intro H aM;rcases dZ H (aa S)with h1|h1
   .have ar:=b8 h1;let⟨aB,aD,az,ai⟩:=aK.at_ ad;subst az;have aF:=ai _ _ ar;let⟨ap,aA⟩:=aP ad;subst aA;have aG:∀M,aU (E 44 3 (U ap) (aa S) Y (J S)::M) ap (0+H*3) 3 (d3.hq S[H]):=λM=>by
     let⟨aB,aD,ax,ai⟩:=(aL M).at_ ad;cases ax;exact ai _ _ ar
    generalize S[H]=aE at*
    let⟨aQ,aS,aT⟩:=aE;have aV:=aF;have aH:=aG;apply dY _;refine eh p (gh p (bx aH)) ?_;refine fc p (uh p p p p p p) ?_;apply fO _;refine e9 p (cw ao) ?_;apply bs _;apply bQ _;apply ay _;refine a6 (pP (q:=1) p p ad) ?_;apply ak _;exact b7 (H+1) ad ad aZ au
   .apply ak _;exact cC () trivial aZ au
  .intro _ _;apply ak _;exact aR bD (dp (sU (A:=Q) (c:=W) (j:=R) (I:=Y) p p p p))
end
end
end Go.Proofs.YteinodmjohkmmaaGreat
