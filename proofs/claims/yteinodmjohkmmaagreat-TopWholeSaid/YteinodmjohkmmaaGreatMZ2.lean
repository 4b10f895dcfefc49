/- TopWhole: a part of its proof. -/
import Derived.JoinedOf
import Derived.Test.YteinodmjohkmmaaGreatProg
import Derived.WideKeyArr2
import Derived.Test.YteinodmjohkmmaaGreatMZ1
set_option linter.all false
set_option maxRecDepth 100000
set_option maxHeartbeats 4000000
open Bool renaming false->al,true->ag
open Go renaming Program->bk,TypeId->bq
open Go.Addr renaming add->xY
open Go.DataW renaming Trod->Kv,trod->Kx,trod_int->x2
open Go.Deep renaming add_add->Ky,choose_lt->Kz,open_slice->KA
open Go.Value renaming cells->x9,okWide->ER
open Go.WideShapes renaming add_plain->KT
open Go.World renaming cell?_spot->KU,cells?_some->KV
open Int renaming le_refl->KY
open List renaming any_eq_true->K4,filterMap_cons->Ld,getElem?_eq_getElem->b8,length->aa,mem_reverse->q4,nodup_nil->Lv,range->gZ
open Nat renaming le_refl->bC,zero_le->bO
open Option renaming none->af,some->ab
open Go.RowKit
namespace Go.Proofs.YteinodmjohkmmaaGreat
noncomputable section
section
attribute [local irreducible] C bh b6
attribute [local irreducible] dx dt iJ fH e0 aV.bA
def bM.u(j:bM):bZ:=if j.k=0 then hz else j.c
instance:BE ar 46 [.i,.i,.i,.i,.i,.i,.i]:=⟨cq⟩
structure Wj where
 i:Nat
 m:Nat
 x:bM
 o:List At
structure Mr where
 k:Nat
 m:Nat
 x:bM
def ail(a b c)(cv:a<256)(cx:b<256)(cy:c<256)(A n bS)(bv:List At)(az)(cr:Rd [az] A n bv)(cz:∀a∈bv,Rd [az] a.f.A (aa a.f.l) a.f.l/\aa a.f.l<=a.f.c):
  aY 3 #[.agg #[.int .u8 (a:Nat),.int .u8 (b:Nat),.int .u8 (c:Nat)],.slice A n bS] [az] (.bool ag) [az]:=by
 obtain⟨W,cG⟩:∃W:Nat,1+a % 20=W:=⟨_,rfl⟩;have bH:1<=W/\W<=30:=ad;have b1:=agC a b c cv cx cy;rw[cG]at b1;have co:=λM=>aeE W (1+b % 5) (c % 5) bH.1 bH.2 ad ad ad M;have cn:=Z9 A n bS bv [az] cr cz;refine cR λ{g F}=>?_;apply bQ _;apply bd λc2=>?_;apply ay _;apply ee _;refine a6 (iU p p aw aw) ?_;apply ay _;refine a6 (iU p p aw aw) ?_;apply ay _;refine a6 (iU p p aw aw) ?_;apply ay _;refine f1 p (b1 _) ?_;apply bd λbw=>?_;apply fv _;apply ee _;apply ay _;refine GE (c5 p (co _)) ?_;rintro _ _ ⟨y,rfl,rfl⟩;iterate 5 apply ay _
 apply ee _;iterate 6 apply ay _
 apply hl _;apply bp (j:=F::ah bw 25 [j (W:Nat),j (1+b % 5:Nat),j (c % 5:Nat)]::ah y.ai 74 (hJ y W)::dt 210 160 5 (aa y.s.bV) y.B (65536*0) ga::dt 55 5 1 (aa y.s.bV) y.R (65536*0) dJ::dx y.s W 0 ly:: [az]) au;apply bQ _;apply ay _;refine GE (c5 p (O.frame [F,ah bw 25 [j (W:Nat),j (1+b % 5:Nat),j (c % 5:Nat)],ah y.ai 74 (hJ y W),dt 210 160 5 (aa y.s.bV) y.B (65536*0) ga,dt 55 5 1 (aa y.s.bV) y.R (65536*0) dJ,dx y.s W 0 ly] cn cT)) ?_;rintro _ _ ⟨_,⟨bi,Z,aP,rfl,bU,ci,cI,rfl⟩,rfl⟩;apply ay _;apply cc;apply bp (j:=dx y.s W 0 ly::F::ah bw 25 [j (W:Nat),j (1+b % 5:Nat),j (c % 5:Nat)]::ah y.ai 74 (hJ y W)::dt 210 160 5 (aa y.s.bV) y.B (65536*0) ga::dt 55 5 1 (aa y.s.bV) y.R (65536*0) dJ::E 57 22 bi (aa aP) Z (J aP)::e0 (aP.map At.f):: [az]) au;generalize b3:aP.map At.f=aD;apply fV _;apply ef (ι:=Nat) (λar=>[(1,.slice bi (aa aP) Z),(6,I y.ai),(8,I y.s.aJ),(9,I ar),(10,j 0)]) (λar=>E 57 22 bi (aa aP) Z (J aP)::e0 aD::ah y.ai 74 (hJ y W)::dt 210 160 5 (aa y.s.bV) y.B (65536*0) ga::dt 55 5 1 (aa y.s.bV) y.R (65536*0) dJ::dx y.s W 0 ly::fH W ar [] []:: [F,az]) (λ_=>True) _ _
 .apply bs _;refine pu (bE [0,3,4,5] (.iw 1 (.iw 2 (.q 7 (.e 6 (.q 8 (.q 9 .nil)))) 6 (.e 2 (.q 7 (.q 8 (.q 9 .nil))))) 6 (.e 1 (.e 2 (.q 7 (.q 8 (.q 9 .nil))))))) cq cq ?_;iterate 4 apply bu _
  refine jt ?x869_0 ?x869_1
  case' x869_1=>
   refine bW p p p (ue p) ?_;rintro _ _ ⟨ar,rfl,rfl⟩;apply bX _;refine bF (bW p p p (c5 p (Sj y.ai y.s.S _ ec)) ?_);rintro _ _ ⟨rfl,rfl⟩;apply bX _;refine bF (bW p p p (c5 p (O.pick aN (O.h1 _ F7))) ?_);rintro _ _ ⟨rfl,rfl⟩;apply bX _;iterate 3 apply bu _
   apply jR
  case' x869_0=>
   refine bW p p p (c5 p (Sj y.ai y.s.S _ ec)) ?_;rintro _ _ ⟨rfl,rfl⟩;apply bX _;refine jt ?x870_0 ?x870_1
   case' x870_1=>
    refine bW p p p (ue p) ?_;rintro _ _ ⟨ar,rfl,rfl⟩;apply bX _;refine bF (bW p p p (c5 p (O.pick aN (O.h1 _ F7))) ?_);rintro _ _ ⟨rfl,rfl⟩;apply bX _;iterate 3 apply bu _
    apply jR
   case' x870_0=>
    refine bW p p p (c5 p (O.pick aN (O.h1 _ F7))) ?_;rintro _ _ ⟨rfl,rfl⟩;apply bX _;apply bu _;apply h5 λar=>?_;iterate 2 apply bu _
    apply jR
  all_goals
   apply bs _
  all_goals
   apply bp (E.c7 42 3)
  all_goals
   apply bp (E.c7 44 3)
  all_goals
   exact cC ar trivial aZ (dp (sU (H:=[]) (S:=[]) (A:=af) (c:=0) (j:=af) (I:=0) p p p p))
 .intro ar _;apply bQ _;apply ay _;apply bd λaB=>?_;apply fv _;apply ay _;apply ee _;apply ay _;apply cc;obtain⟨aq,b0⟩:∃aq,aa aP=aq:=⟨_,rfl⟩;rw[b0]at bU ci ⊢;have cS:ly.ok W:=⟨⟨Lv,Lv,(λcU h=>by cases h),(λcU h=>by cases h),by show 0<=W;omega⟩,bH.2,.inl p⟩;have cB:∀(aA:Nat) (D:At) (o:List At),o.map At.f=aD->o[aA]?=ab D->D.f.ok/\∀bt,Rd (e0 aD::bt) D.f.A (aa D.f.l) D.f.l:=λaA D o h1 ae=>by
   have an:aD[aA]?=ab D.f:=by rw[<- h1,List.getElem?_map,ae];rfl
   have bT:D.f.ok:=by
    have cg:D.f∈aP.map At.f:=by rw[b3];exact List.mem_of_getElem? an
    let⟨aG,ch,cj⟩:=List.mem_map.1 cg;exact cj▸(cI aG ch).1
   exact⟨bT,λbt=>GV an bT bt⟩
  apply fV _;apply ef (ι:=Unit) (λ_=>[]) (λ_=>[F,az]) (λ_=>True) _ _
  .apply bs _;apply cL (ι:=Wj) (λD=>[(1,.slice bi aq Z),(6,I y.ai),(8,I y.s.aJ),(9,I ar),(10,j D.x.v),(11,I aB),(12,.bool (decide (D.x.k≠0))),(13,j (D.i:Nat))]) (λD=>E 57 22 bi aq Z (J D.o)::e0 aD::ah y.ai 74 (hJ y W)::dt 210 160 5 (aa y.s.bV) y.B (65536*D.m) ga::dt 55 5 1 (aa y.s.bV) y.R (65536*D.m) dJ::dx y.s W D.m D.x::fH W ar D.x.P D.x.S::ah aB 46 (bM.u D.x).l:: [F,az]) (λD=>D.i<=aq/\aa D.o=aq/\D.o.map At.f=aD/\D.x.ok W/\ht D.x.P/\ht D.x.S/\0<=D.x.v/\D.x.v<=(D.m:Int)/\D.m<=60*D.i) (λD=>aq-D.i) ⟨0,0,ly,aP⟩ ⟨bO _,b0,b3,cS,.nil,.nil,KY _,KY _,bC _⟩ aZ au;rintro⟨aA,am,H,o⟩ ⟨bj,bb,bm,aK,aR,aS,aX,a2,a4⟩;simp only at bj bb bm aK aR aS aX a2 a4;dsimp only;rcases Nat.lt_or_ge aA aq with cF|cF
   .let⟨ax,cK⟩:=bU ad;subst cK;obtain⟨a,bc⟩:∃a,o[aA]?=ab a:=⟨_,b8 ad⟩;have cV:∀(o:List At) (M:Q),aa o=aq->Rd (E 57 22 (U ax) aq Z (J o)::M) (U ax) aq o:=λo M h=>bf.E (by rw[ck,h];rfl) λ_=>⟨_,rfl⟩;have bP:∀(o:List At) (a:At) (M:Q),aa o=aq->o[aA]?=ab a->aU (E 57 22 (U ax) aq Z (J o)::M) ax (0+aA*22) 22 a.l:=λo a M h ae=>by
     let⟨dc,dd,a9,cM⟩:=(cV o M h).at_ ad;cases a9;exact cM _ _ ae
    have bn:∀M,a5 (E 57 22 (U ax) aq Z (J o)::M) ⟨ax,0+aA*22+0,af⟩ (j a.k):=λM=>(bP o a M bb bc).at_ (i:=0) p;have bh:∀M,a5 (E 57 22 (U ax) aq Z (J o)::M) ⟨ax,0+aA*22+2,af⟩ (j a.n):=λM=>(bP o a M bb bc).at_ (i:=2) p;apply bQ _;iterate 4 apply ay _
    apply cd _;refine gJ p (cO ad) ?_;apply bQ _;apply ay _;apply cc;apply fV _;apply ef (ι:=Bool) (λaG=>[(1,.slice (U ax) aq Z),(6,I y.ai),(8,I y.s.aJ),(9,I ar),(10,j H.v),(11,I aB),(12,.bool (decide (H.k≠0))),(13,j (aA:Nat)),(14,j 1),(67,.bool aG)]) (λ_=>E 57 22 (U ax) aq Z (J o)::e0 aD::ah y.ai 74 (hJ y W)::dt 210 160 5 (aa y.s.bV) y.B (65536*am) ga::dt 55 5 1 (aa y.s.bV) y.R (65536*am) dJ::dx y.s W am H::fH W ar H.P H.S::ah aB 46 (bM.u H).l:: [F,az]) (λaG=>aG=al->¬(a.k=2\/a.k=4)) _ _
    .by_cases ae:a.k=2
     .apply bs _;apply jP;iterate 2 apply ay _
      refine a6 (iV p p ad) ?_;apply ay _;refine a6 (fC p (bx bn)) ?_;iterate 2 apply ay _
      refine hN 60 p (cO ae) ?_;iterate 7 apply ay _
      apply cd _;exact cC ag (λh=>by cases h) aZ au
     .apply bs _;apply jP;iterate 2 apply ay _
      refine a6 (iV p p ad) ?_;apply ay _;refine a6 (fC p (bx bn)) ?_;iterate 2 apply ay _
      refine hN 60 p (cw ae) ?_;iterate 2 apply ay _
      refine hC p p p p ?_;refine a6 (iV p p ad) ?_;apply ay _;refine hC p p p p ?_;refine a6 (fC p (bx bn)) ?_;iterate 2 apply ay _
      apply cd _;exact cC (decide (a.k=4)) (λh=>by have:=of_decide_eq_false h;omega) aZ au
    .intro aG bg;apply fV _;apply ef (ι:=Int×List At) (λq=>[(1,.slice (U ax) aq Z),(6,I y.ai),(8,I y.s.aJ),(9,I ar),(10,j H.v),(11,I aB),(12,.bool (decide (H.k≠0))),(13,j (aA:Nat)),(14,j q.1)]) (λq=>E 57 22 (U ax) aq Z (J q.2)::e0 aD::ah y.ai 74 (hJ y W)::dt 210 160 5 (aa y.s.bV) y.B (65536*am) ga::dt 55 5 1 (aa y.s.bV) y.R (65536*am) dJ::dx y.s W am H::fH W ar H.P H.S::ah aB 46 (bM.u H).l:: [F,az]) (λq=>q.2.length=aq/\q.2.map At.f=aD/\∃aW,q.2[aA]?=ab aW/\(aW.k=2\/aW.k=4->aW.n=1)) _ _
     .cases aG with
      |true=>
       apply kB _;apply bQ _;iterate 4 apply ay _
       refine a6 (iV p p ad) ?_;apply ay _;refine a6 (fC p (bx bh)) ?_;apply ay _;refine a6 (iV p p ad) ?_;apply ay _;refine GE (lB p p p aN ad) ?_;rintro _ _ ⟨rfl,rfl⟩;apply cc;have a9:(J o:bz).set (0+aA*22+2) (j 1)=J (o.set aA ⟨a.k,a.id,1,a.r,a.f⟩):=by rw[Nat.zero_add];exact Pm 1 o aA a bc
       apply bs _;refine cC (a.n,o.set aA ⟨a.k,a.id,1,a.r,a.f⟩) ⟨by simp[bb],(Ra o aA a ⟨a.k,a.id,1,a.r,a.f⟩ bc p).trans bm,⟨a.k,a.id,1,a.r,a.f⟩,List.getElem?_set_self ad,λ_=>rfl⟩ aZ ?_;simp only;rw[<- a9];exact au
      |false=>
       apply mx _;apply bs _;exact cC (1,o) ⟨bb,bm,a,bc,λh=>absurd h (bg p)⟩ aZ au
     .rintro⟨bl,aE⟩ ⟨h1,ae,aW,bB,cH⟩;simp only at h1 ae bB;dsimp only;clear bn bh bg bm bb bc;let⟨c8,cJ⟩:=cB aA aW aE ae bB;apply bQ _;apply ay _;apply cc;apply fV _;apply ef (ι:=Mr) (λD=>[(1,.slice (U ax) aq Z),(6,I y.ai),(8,I y.s.aJ),(9,I ar),(10,j D.x.v),(11,I aB),(12,.bool (decide (D.x.k≠0))),(13,j (aA:Nat))]) (λD=>E 57 22 (U ax) aq Z (J aE)::e0 aD::ah y.ai 74 (hJ y W)::dt 210 160 5 (aa y.s.bV) y.B (65536*D.m) ga::dt 55 5 1 (aa y.s.bV) y.R (65536*D.m) dJ::dx y.s W D.m D.x::fH W ar D.x.P D.x.S::ah aB 46 (bM.u D.x).l:: [F,az]) (λD=>D.k<=60/\D.x.ok W/\ht D.x.P/\ht D.x.S/\0<=D.x.v/\D.x.v<=(D.m:Int)/\D.m<=60*aA+D.k) _ _
      .apply bs _;apply cL (ι:=Mr) (λD=>[(1,.slice (U ax) aq Z),(6,I y.ai),(8,I y.s.aJ),(9,I ar),(10,j D.x.v),(11,I aB),(12,.bool (decide (D.x.k≠0))),(13,j (aA:Nat)),(14,j bl),(15,j (D.k:Nat))]) (λD=>E 57 22 (U ax) aq Z (J aE)::e0 aD::ah y.ai 74 (hJ y W)::dt 210 160 5 (aa y.s.bV) y.B (65536*D.m) ga::dt 55 5 1 (aa y.s.bV) y.R (65536*D.m) dJ::dx y.s W D.m D.x::fH W ar D.x.P D.x.S::ah aB 46 (bM.u D.x).l:: [F,az]) (λD=>D.k<=60/\D.x.ok W/\ht D.x.P/\ht D.x.S/\0<=D.x.v/\D.x.v<=(D.m:Int)/\D.m<=60*aA+D.k) (λD=>60-D.k) ⟨0,am,H⟩ ⟨bO _,aK,aR,aS,aX,a2,a4⟩ aZ au;clear aK aR aS aX a2 a4;rintro⟨aT,am,H⟩ ⟨bj,aK,aR,aS,aX,a2,a4⟩;simp only at bj aK aR aS aX a2 a4;dsimp only
       by_cases bG:(aT:Int)<bl
       .by_cases c6:aT<60
        .apply bs _;apply jP;iterate 4 apply ay _
         refine hN 80 p (cO bG) ?_;apply ay _;refine hC p p p p ?_
         (first|refine a6 (rB (q:=60) p p) ?_|refine a6 (rA p p) ?_)
         apply ay _;apply cd _;refine gJ p (cO ad) ?_;have cl:=aew (y:=y) (m:=am) aK ad aW (e0 aD) cJ cH;apply bQ _;iterate 3 apply ay _
         refine a6 (iV p p ad) ?_;refine a6 (gh p (by repeat' first|exact bP aE aW _ h1 bB|apply aU.ap)) ?_;refine GE (c5 p (O.frame [E 57 22 (U ax) aq Z (J aE),fH W ar H.P H.S,ah aB 46 (bM.u H).l,F,az] cl au)) ?_;rintro _ _ ⟨_,⟨⟨c4,rfl⟩,cZ,⟨C,bY,rfl⟩,rfl⟩,rfl⟩;apply cc;have a7:=bY.ok aK;have cu:Y 10 #[I y.s.aJ] [dx y.s W (am+1) C] λv aL=>v=.tuple #[(bM.u C).v,.bool (decide (C.k≠0))]/\aL=[dx y.s W (am+1) C]:=O.aJ λbr=>aV.Ye a7;have b2:Y 11 #[I y.s.aJ] [dx y.s W (am+1) C] λv aL=>v=j C.v/\aL=[dx y.s W (am+1) C]:=O.aJ λbr=>aV.NH a7;have bo:=bY.two aK aR aS aX ad;apply bp (j:=[E 57 22 (U ax) aq Z (J aE),e0 aD,ah y.ai 74 (hJ y W),dt 210 160 5 (aa y.s.bV) y.B (65536*(am+1)) ga,dt 55 5 1 (aa y.s.bV) y.R (65536*(am+1)) dJ,dx y.s W (am+1) C,fH W ar H.P H.S,ah aB 46 (bM.u H).l,F,az]) au;apply bQ _;apply ay _;refine GE (c5 p (O.frame [E 57 22 (U ax) aq Z (J aE),e0 aD,ah y.ai 74 (hJ y W),dt 210 160 5 (aa y.s.bV) y.B (65536*(am+1)) ga,dt 55 5 1 (aa y.s.bV) y.R (65536*(am+1)) dJ,fH W ar H.P H.S,ah aB 46 (bM.u H).l,F,az] cu au)) ?_;rintro _ _ ⟨_,⟨rfl,rfl⟩,rfl⟩;iterate 3 apply ay _
         apply bd λaH=>?_;apply fv _;apply ay _;apply cc;apply bp (j:=[ah aH 46 (bM.u C).l,E 57 22 (U ax) aq Z (J aE),e0 aD,ah y.ai 74 (hJ y W),dt 210 160 5 (aa y.s.bV) y.B (65536*(am+1)) ga,dt 55 5 1 (aa y.s.bV) y.R (65536*(am+1)) dJ,dx y.s W (am+1) C,fH W ar H.P H.S,ah aB 46 (bM.u H).l,F,az]) au;apply fV _;apply ef (ι:=Unit) (λ_=>[(1,.slice (U ax) aq Z),(6,I y.ai),(8,I y.s.aJ),(9,I ar),(10,j H.v),(11,I aB),(12,.bool (decide (H.k≠0))),(13,j (aA:Nat)),(14,j bl),(15,j (aT:Nat)),(16,I aH),(17,.bool (decide (C.k≠0))),(105,.bool al)]) (λ_=>[ah aH 46 (bM.u C).l,E 57 22 (U ax) aq Z (J aE),e0 aD,ah y.ai 74 (hJ y W),dt 210 160 5 (aa y.s.bV) y.B (65536*(am+1)) ga,dt 55 5 1 (aa y.s.bV) y.R (65536*(am+1)) dJ,dx y.s W (am+1) C,fH W ar H.P H.S,ah aB 46 (bM.u H).l,F,az]) (λ_=>True) _ _
         .by_cases aI:H.k=0
          .apply bs _;apply jP;iterate 2 apply ay _
           refine hN 98 p (cw (by simpa using aI)) ?_;iterate 7 apply ay _
           apply cd _;exact cC () trivial aZ au
          .by_cases aO:C.k=0
           .have a0:decide (C.k≠0)=al:=cw (by simpa using aO);rw[a0];apply bQ _;iterate 2 apply ay _
            refine hN 98 p (cO aI) ?_;iterate 7 apply ay _
            apply cd _;exact cC () trivial aZ au
           .have a0:decide (C.k≠0)=ag:=cO aO;have bA:bM.u C=bM.u H:=by
             rcases bo with av|av
             .exact absurd av.2.1 aO
             .unfold bM.u;rw[a8 aI,a8 aO];exact av.2.2.2 aI aO
            rw[a0,bA];apply bQ _;iterate 2 apply ay _
            refine hN 98 p (cO aI) ?_;iterate 5 apply ay _
            refine hC p p p p ?_;refine a6 (OY p p p) ?_;apply ay _;apply cd _;exact cC () trivial aZ au
         .intro _ _;apply mx _;apply fV _;apply ef (ι:=Bool) (λaG=>[(1,.slice (U ax) aq Z),(6,I y.ai),(8,I y.s.aJ),(9,I ar),(10,j H.v),(11,I aB),(12,.bool (decide (H.k≠0))),(13,j (aA:Nat)),(14,j bl),(15,j (aT:Nat)),(16,I aH),(17,.bool (decide (C.k≠0))),(117,.bool aG)]) (λ_=>[ah aH 46 (bM.u C).l,E 57 22 (U ax) aq Z (J aE),e0 aD,ah y.ai 74 (hJ y W),dt 210 160 5 (aa y.s.bV) y.B (65536*(am+1)) ga,dt 55 5 1 (aa y.s.bV) y.R (65536*(am+1)) dJ,dx y.s W (am+1) C,fH W ar H.P H.S,ah aB 46 (bM.u H).l,F,az]) (λaG=>(aG=ag/\H.k≠0/\C.k=0/\C.v=H.v+1/\C.P=H.hm/\C.S=H.hn/\ex H.P H.S W H.c=0/\ht C.P/\ht C.S)\/(aG=al/\C.v=H.v/\C.P=H.P/\C.S=H.S)) _ _
          .by_cases aI:H.k=0
           .have bh:C.v=H.v/\C.P=H.P/\C.S=H.S:=by
             rcases bo with av|av
             .exact absurd aI av.1
             .exact⟨av.1,av.2.1,av.2.2.1⟩
            apply bQ _;iterate 2 apply ay _
            refine hN 107 p (cw (by simpa using aI)) ?_;iterate 10 apply ay _
            apply cd _;exact cC al (.inr ⟨rfl,bh⟩) aZ au
           .by_cases aO:C.k=0
            .have a0:decide (C.k≠0)=al:=cw (by simpa using aO);rw[a0];apply bQ _;iterate 2 apply ay _
             refine hN 107 p (cO aI) ?_;iterate 5 apply ay _
             refine hC p p p p ?_;refine GE (c5 p (O.frame [ah aH 46 (bM.u C).l,E 57 22 (U ax) aq Z (J aE),e0 aD,ah y.ai 74 (hJ y W),dt 210 160 5 (aa y.s.bV) y.B (65536*(am+1)) ga,dt 55 5 1 (aa y.s.bV) y.R (65536*(am+1)) dJ,fH W ar H.P H.S,ah aB 46 (bM.u H).l,F,az] b2 au)) ?_;rintro _ _ ⟨_,⟨rfl,rfl⟩,rfl⟩;iterate 4 apply ay _
             apply cc;rcases bo with av|av
             .rw[cO av.2.2.1];apply bs _;exact cC ag (.inl ⟨rfl,av⟩) aZ au
             .rw[cw (show ¬C.v=H.v+1 by omega)];apply bs _;exact cC al (.inr ⟨rfl,av.1,av.2.1,av.2.2.1⟩) aZ au
            .have a0:decide (C.k≠0)=ag:=cO aO;have bh:C.v=H.v/\C.P=H.P/\C.S=H.S:=by
              rcases bo with av|av
              .exact absurd av.2.1 aO
              .exact⟨av.1,av.2.1,av.2.2.1⟩
             rw[a0];apply bQ _;iterate 2 apply ay _
             refine hN 107 p (cO aI) ?_;iterate 10 apply ay _
             apply cd _;exact cC al (.inr ⟨rfl,bh⟩) aZ au
          .intro aG bg;have be:ht C.P/\ht C.S:=by
            rcases bg with av|av
            .exact av.2.2.2.2.2.2.2
            .rw[av.2.2.1,av.2.2.2];exact⟨aR,aS⟩
           have c9:C.v=H.v\/C.v=H.v+1:=by
            rcases bg with av|av
            .exact .inr av.2.2.2.1
            .exact .inl av.2.1
           have cD:aa H.P+aa H.S<=1000:=by have:=aK.i.h8;have:=aK.le;omega
           have cE:aa C.P+aa C.S<=1000:=by have:=a7.i.h8;have:=a7.le;omega
           apply fV _;apply ef (ι:=Unit) (λ_=>[(1,.slice (U ax) aq Z),(6,I y.ai),(8,I y.s.aJ),(9,I ar),(10,j C.v),(11,I aB),(12,.bool (decide (H.k≠0))),(13,j (aA:Nat)),(14,j bl),(15,j (aT:Nat)),(16,I aH),(17,.bool (decide (C.k≠0)))]) (λ_=>[ah aH 46 (bM.u C).l,E 57 22 (U ax) aq Z (J aE),e0 aD,ah y.ai 74 (hJ y W),dt 210 160 5 (aa y.s.bV) y.B (65536*(am+1)) ga,dt 55 5 1 (aa y.s.bV) y.R (65536*(am+1)) dJ,dx y.s W (am+1) C,fH W ar C.P C.S,ah aB 46 (bM.u H).l,F,az]) (λ_=>True) _ _
           .rcases bg with ⟨rfl,aI,aO,bI,bJ,bK,cN,da,db⟩|⟨rfl,bI,bJ,bK⟩
            .have bA:bM.u H=H.c:=a8 aI;have cm:Y 12 #[I ar,(bM.u H).v] [fH W ar H.P H.S] λv aL=>(∃c:bZ,v=.tuple #[c.v,j 0])/\aL=[fH W ar C.P C.S]:=by
              rw[bA,bJ,bK];exact afs ar H.P H.S H.c cD cN
             apply kB _;apply bQ _;iterate 3 apply ay _
             apply ee _;iterate 2 apply ay _
             refine GE (c5 p (O.frame [ah aH 46 (bM.u C).l,E 57 22 (U ax) aq Z (J aE),e0 aD,ah y.ai 74 (hJ y W),dt 210 160 5 (aa y.s.bV) y.B (65536*(am+1)) ga,dt 55 5 1 (aa y.s.bV) y.R (65536*(am+1)) dJ,dx y.s W (am+1) C,ah aB 46 (bM.u H).l,F,az] cm au)) ?_;rintro _ _ ⟨_,⟨⟨c3,rfl⟩,rfl⟩,rfl⟩;iterate 3 apply ay _
             apply bd λc1=>?_;apply fv _;apply ay _;apply ee _;iterate 2 apply ay _
             apply hl _;rw[<- bI];apply bs _;exact cC () trivial aZ au
            .apply bs _;refine e9 p p ?_;rw[<- bI,<- bJ,<- bK];apply bs _;exact cC () trivial aZ au
           .intro _ _;have cp:Y 14 #[I y.s.aJ] [dx y.s W (am+1) C] λv aL=>∃aQ,(∃(A:a3) (Z:Nat),v=.slice A (aa C.P) Z/\(0<aa C.P->∃b,A=(U b))/\aQ=E 42 3 A (aa C.P) Z (J C.P))/\aL=[aQ,dx y.s W (am+1) C]:=O.qL (J:=λaQ v=>∃(A:a3) (Z:Nat),v=.slice A (aa C.P) Z/\(0<aa C.P->∃b,A=(U b))/\aQ=E 42 3 A (aa C.P) Z (J C.P)) λbr=>(aV.X9 a7 be.1 be.2).mono λv aL ⟨A,Z,aF,aM,bL⟩=>⟨_,⟨A,Z,aF,aM,rfl⟩,bL⟩;have ct:Y 15 #[I y.s.aJ] [dx y.s W (am+1) C] λv aL=>∃aQ,(∃(A:a3) (Z:Nat),v=.slice A (aa C.S) Z/\(0<aa C.S->∃b,A=(U b))/\aQ=E 44 3 A (aa C.S) Z (J C.S))/\aL=[aQ,dx y.s W (am+1) C]:=O.qL (J:=λaQ v=>∃(A:a3) (Z:Nat),v=.slice A (aa C.S) Z/\(0<aa C.S->∃b,A=(U b))/\aQ=E 44 3 A (aa C.S) Z (J C.S)) λbr=>(aV.Yd a7 be.1 be.2).mono λv aL ⟨A,Z,aF,aM,bL⟩=>⟨_,⟨A,Z,aF,aM,rfl⟩,bL⟩;apply bQ _;apply ay _;refine GE (c5 p (O.frame [ah aH 46 (bM.u C).l,E 57 22 (U ax) aq Z (J aE),e0 aD,ah y.ai 74 (hJ y W),dt 210 160 5 (aa y.s.bV) y.B (65536*(am+1)) ga,dt 55 5 1 (aa y.s.bV) y.R (65536*(am+1)) dJ,fH W ar C.P C.S,ah aB 46 (bM.u H).l,F,az] b2 au)) ?_;rintro _ _ ⟨_,⟨rfl,rfl⟩,rfl⟩;iterate 3 apply ay _
            refine hN 132 p (cw ao) ?_;iterate 2 apply ay _
            refine hC p p p p ?_;refine GE (c5 p (O.frame [ah aH 46 (bM.u C).l,E 57 22 (U ax) aq Z (J aE),e0 aD,ah y.ai 74 (hJ y W),dt 210 160 5 (aa y.s.bV) y.B (65536*(am+1)) ga,dt 55 5 1 (aa y.s.bV) y.R (65536*(am+1)) dJ,fH W ar C.P C.S,ah aB 46 (bM.u H).l,F,az] cp au)) ?_;rintro _ _ ⟨_,⟨_,⟨bR,a9,rfl,aF,rfl⟩,rfl⟩,rfl⟩;apply ay _;refine hC p p p p ?_;refine GE (c5 p (O.frame [E 42 3 bR (aa C.P) a9 (J C.P),ah aH 46 (bM.u C).l,E 57 22 (U ax) aq Z (J aE),e0 aD,ah y.ai 74 (hJ y W),dt 210 160 5 (aa y.s.bV) y.B (65536*(am+1)) ga,dt 55 5 1 (aa y.s.bV) y.R (65536*(am+1)) dJ,fH W ar C.P C.S,ah aB 46 (bM.u H).l,F,az] ct au)) ?_;rintro _ _ ⟨_,⟨_,⟨cb,ce,rfl,aM,rfl⟩,rfl⟩,rfl⟩;refine hC p p p p ?_;refine f1 p (O.pick aN (afA ar bR cb a9 ce C.P C.S _ (by repeat' first|exact bf.E (ck _) aF|apply bf.ap) (by repeat' first|exact bf.E (ck _) aM|apply bf.ap) cE)) ?_;iterate 2 apply ay _
            apply hl _;apply bQ _;iterate 2 apply ay _
            apply fv _;apply ay _;apply cd _;apply bQ _;apply ay _;refine a6 (pP (q:=1) p p ad) ?_;apply ay _;apply cd _;exact b7 ⟨aT+1,am+1,C⟩ ⟨by simp only;omega,a7,be.1,be.2,by simp only;omega,by simp only;omega,by simp only;omega⟩ tn aZ au
        .apply bs _;apply jP;iterate 4 apply ay _
         refine hN 80 p (cO bG) ?_;apply ay _;refine hC p p p p ?_
         (first|refine a6 (rB (q:=60) p p) ?_|refine a6 (rA p p) ?_)
         apply ay _;apply cd _;refine e9 p (cw ad) ?_;apply bs _;exact cC ⟨aT,am,H⟩ ⟨bj,aK,aR,aS,aX,a2,a4⟩ aZ au
       .apply bs _;apply jP;iterate 4 apply ay _
        refine hN 80 p (cw bG) ?_;iterate 3 apply ay _
        apply hl _;apply bs _;exact cC ⟨aT,am,H⟩ ⟨bj,aK,aR,aS,aX,a2,a4⟩ aZ au
      .rintro⟨aT,cQ,cY⟩ ⟨cW,b4,b5,b6,b9,ca,cX⟩;simp only at cW b4 b5 b6 b9 ca cX;dsimp only;apply bQ _;apply ay _;refine a6 (pP (q:=1) p p ad) ?_;apply ay _;apply cd _;exact b7 ⟨aA+1,cQ,cY,aE⟩ ⟨by simp only;omega,h1,ae,b4,b5,b6,b9,ca,by simp only;omega⟩ tn aZ au
   .apply bs _;apply jP;iterate 4 apply ay _
    apply cd _;refine e9 p (cw ad) ?_;apply bs _;exact cC () trivial trivial au
  .intro _ _;apply bQ _;refine GE (c5 p (acR _)) ?_;rintro _ _ ⟨rfl,c0,rfl⟩;apply ay _;exact cd (ba (C:=[az]) p ds au bD)
end
section
open Go.ChangeShapes Go.WideShapes Go.ChangeAt Go.RowKit
instance:Inhabited dJ:=⟨⟨0,bL⟩⟩
instance:Inhabited At:=⟨⟨0,0,0,λ_=>0,⟨af,0,[]⟩⟩⟩
variable{W:Type}{hq:bq×Value->W}{P:bk}
def R2{n}(h:(Lit.int .u8 n).wf=ag):∃j:Nat,n=j/\j<256:=by
 simp[Lit.wf,IntKind.min,IntKind.max,IntKind.signed,IntKind.bits]at h;exact⟨n.toNat,ad,ad⟩
def ajH{aH R Q U aI ap D E v Y aG}(aB:P.underlying D=ab (.array 3 E))(am:P.underlying E=ab (.int .u8))(H:P.cellsOf E=1)(aR:P.cellsOf D=3)
  (aD:ER P Q aH R D v) (h:Kv hq P Q U aI ap D v Y aG):∃a b c:Nat,v=.agg #[.int .u8 (a:Nat),.int .u8 (b:Nat),.int .u8 (c:Nat)]/\a<256/\b<256/\c<256:=by
 have ah:∃j,v=.agg j/\j.size=P.cellsOf D:=by
  simp[ER]at aD;grind
 obtain⟨j,rfl,aS⟩:=ah;let⟨aO,aq⟩:=h;have I:∀C (O:C<aa j.toList),∃n:Nat,j.toList[C]=.int .u8 (n:Int)/\n<256:=by
  intro C O;let⟨aJ,aV,_,_,aQ,aT,ar⟩:=DataW.trod_array aB aq;have ax:C<3:=bo;have h1:=ar C ax;have av:C<aa aJ:=ad;rw[b8 av,H,Nat.mul_one]at h1;let⟨a,J,_,aE⟩:=x2 am h1;obtain⟨aF,rfl,az⟩:=R2 aE;refine⟨aF,?_,az⟩;have aP:=List.drop_eq_getElem_cons O;have aK:(List.drop C j.toList).take 1=[Value.int _ _]:=J;simp_all
 obtain⟨l⟩:=j;have aA:aa l=3:=bo;let⟨a,J,Z⟩:=I 0 bo;let⟨b,aL,ai⟩:=I 1 bo;let⟨c,aM,H⟩:=I 2 bo;refine⟨a,b,c,?_,Z,ai,H⟩
 match l,aA with
 | [aW,y,aX],_=>simp_all
def aeb{O:World}{ai:Nat}{av:Bool}{ah E:bq}{R:bz}{am:Nat}{aL:DataW W×List MemPlace}(aE:P.underlying ah=ab (.slice E))(ar:P.underlying E=ab (.int .u8))(aS:P.cellsOf E=1)
  (ax:Kx hq P O ai (λ_=>ag) av am ah R=ab aL):∃j:gd,R=[.slice j.A (aa j.l) j.c]/\aa j.l<=j.c/\oQ O 1 j.A (aa j.l) (J j.l):=by
 rcases KA aE ax with ⟨H,_⟩|⟨a,I,Q,Z,n,aM,aO,H,_,aV,aX,aZ,_,aH⟩
 .subst H;exact⟨⟨af,0,[]⟩,rfl,bC _,oQ.c7 _ _ _⟩
 .subst H;have aY:Z=Q:=fs;have aq:∀C,C<I->∃D:dJ,O.cell? (a.add C)=ab (.int .u8 (D.n:Int)):=by
   intro C aA;have az:C<Z:=ad;let⟨aP,ap,aF⟩:=aH _ az;let⟨_,aW,aR⟩:=KV ap;obtain⟨n,rfl,_,aG⟩:=x2 ar aF;obtain⟨D,rfl,aB⟩:=R2 aG;refine⟨⟨D,aB⟩,?_⟩;simp_all[Ky,Nat.add_zero]
  let⟨j,Y⟩:=Kz aq;have aT:∀l:List dJ,J l=l.map λD=>Value.int _ (D.n:Int):=λl=>by induction l with
   |nil=>rfl
   |cons a l aI=>rw[h9,aI];rfl
  refine⟨⟨ab a,Q,(gZ I).map j⟩,ao,by simp_all,by simp_all,λaQ=>?_⟩;let⟨b,aJ,aK⟩:=a;have U:0<I:=bo;have aD:aK=af:=by simpa[xY]using KU (Y 0 U)
  subst aD;refine⟨b,aJ,rfl,by simpa[Nv]using NO (Y 0 U),λC aA=>?_⟩;grind[KT]
def zc{α:Type}(j:List α)(C D):j.drop C=(j.drop C).take D++j.drop (C+D):=by rw[<- List.drop_drop,List.take_append_drop]
theorem acL(l:List Int)(h:aa l=18):l=[l.getD 0 0,l.getD 1 0,l.getD 2 0,l.getD 3 0,l.getD 4 0,l.getD 5 0,l.getD 6 0,l.getD 7 0,l.getD 8 0,l.getD 9 0,l.getD 10 0,l.getD 11 0,l.getD 12 0,l.getD 13 0,l.getD 14 0,l.getD 15 0,l.getD 16 0,l.getD 17 0]:=by
 match l,h with
 | [_,_,_,_,_,_,_,_,_,_,_,_,_,_,_,_,_,_],_=>rfl
def Xd{aO:World}{aS:Nat}{a9:Bool}{aE D R U ax:bq}{j:bz}{a4:Nat}{bi:DataW W×List MemPlace}{E H I O Q:Field}(a8:P.underlying aE=ab (.struct #[E,H,I,O,Q]))
  (aH:E.type=D/\E.offset=0) (aI:H.type=D/\H.offset=1) (aJ:I.type=D/\I.offset=2) (aK:O.type=R/\O.offset=3) (aL:Q.type=U/\Q.offset=21) (ar:P.underlying D=ab (.int .i64)) (Y:P.cellsOf D=1) (bg:wW P 8 R=ag) (aW:P.cellsOf R=18)
  (a7:P.underlying U=ab (.slice ax)) (aT:P.cellsOf U=1) (be:P.underlying ax=ab (.int .u8)) (aV:P.cellsOf ax=1) (bl:aa j=22) (bb:Kx hq P aO aS (λ_=>ag) a9 a4 aE j=ab bi):
  ∃a:At,j=a.l/\aa a.f.l<=a.f.c/\oQ aO 1 a.f.A (aa a.f.l) (J a.f.l):=by
 let⟨bj,n,_,_,bm,bo,C⟩:=DataW.trod_struct a8 bb;have bn:aa bj=5:=ad;have ah:=C 0 E p;have ai:=C 1 H p;have am:=C 2 I p;have ap:=C 3 O p;have aq:=C 4 Q p;rw[b8 ad]at ah ai am ap aq;rw[aH.1,aH.2,Y]at ah;rw[aI.1,aI.2,Y]at ai;rw[aJ.1,aJ.2,Y]at am;rw[aK.1,aK.2,aW]at ap;rw[aL.1,aL.2,aT]at aq;let⟨aP,aY,_,_⟩:=x2 ar ah;let⟨aQ,aZ,_,_⟩:=x2 ar ai;let⟨aR,a0,_,_⟩:=x2 ar am;let⟨av,aG,_⟩:=abl _ (aam 8 R _ _ _ bg ap);let⟨a3,a2,aF,aM⟩:=aeb a7 be aV aq;have bc:aa av=18:=by
  have:=congrArg aa aG;grind
 refine⟨⟨aP,aQ,aR,λbh=>av.getD bh 0,a3⟩,?_,aF,aM⟩;have Z:=zc j 0 1;have az:=zc j 1 1;have aA:=zc j 2 1;have aB:=zc j 3 18;have aD:=zc j 21 1;have aX:j.drop 22=[]:=List.drop_eq_nil_of_le ad;rw[aY]at Z;rw[aZ]at az;rw[a0]at aA;rw[aG,acL av bc]at aB;rw[a2]at aD;rw[List.drop_zero]at Z;rw[Z,az,aA,aB,aD,aX];rfl
def ajG{bp:Reach}{aI:Nat}{H:World}{aJ:Nat}{a0:Bool}{ax Y O av U ar:bq}{Z ah ai am ap:Field}{v:Value}{aR:DataW W}{bn:List MemPlace}(aH:P.underlying ax=ab (.slice Y))(aZ:P.underlying Y=ab (.struct #[Z,ah,ai,am,ap]))(bH:P.cellsOf Y=22)
  (be:Z.type=O/\Z.offset=0) (bg:ah.type=O/\ah.offset=1) (bh:ai.type=O/\ai.offset=2) (bi:am.type=av/\am.offset=3) (bj:ap.type=U/\ap.offset=21) (a3:P.underlying O=ab (.int .i64)) (aO:P.cellsOf O=1) (a7:wW P 8 av=ag) (aQ:P.cellsOf av=18)
  (aW:P.underlying U=ab (.slice ar)) (aL:P.cellsOf U=1) (a4:P.underlying ar=ab (.int .u8)) (aP:P.cellsOf ar=1)
  (bb:ER P H bp aI ax v) (h:Kv hq P H aJ (λ_=>ag) a0 ax v aR bn):
  ∃A C Q,∃az:List At,v=.slice A C Q/\oQ H 22 A C (J az)/\∀a∈az,aa a.f.l<=a.f.c/\oQ H 1 a.f.A (aa a.f.l) (J a.f.l):=by
 obtain⟨A,C,Q,rfl⟩:=okWide_slice aH bb;let⟨bB,a2⟩:=h;rcases KA aH a2 with ⟨I,_⟩|⟨a,bS,bw,bl,n,bt,bv,I,_,bJ,bL,bP,_,bc⟩
 .simp[x9]at I;obtain⟨rfl,rfl,rfl⟩:=I;exact⟨af,0,0,[],rfl,oQ.c7 _ _ _,λ_ h=>by grind⟩
 .simp[x9]at I;obtain⟨rfl,rfl,rfl⟩:=I;have bM:bl=Q:=fs;have aY:∀R,R<C->∃D:At,(∀j v,D.l[j]?=ab v->H.cell? (a.add (R*22+j))=ab v)/\aa D.f.l<=D.f.c/\oQ H 1 D.f.A (aa D.f.l) (J D.f.l):=by
   intro R aG;let⟨bx,aX,a9⟩:=bc R ad;let⟨_,bK,bG⟩:=KV aX;let⟨D,bz,aF,aM⟩:=Xd aZ be bg bh bi bj a3 aO a7 aQ aW aL a4 aP ad a9;refine⟨D,λj v aq=>?_,aF,aM⟩;have bI:=(List.getElem?_eq_some_iff.1 aq).1;simp_all[Ky]
  let⟨E,aE⟩:=Kz aY;have aD:aa (J ((gZ C).map E))=C*22:=by rw[ck,List.length_map,List.length_range];rfl
  refine⟨ab a,C,Q,(gZ C).map E,rfl,⟨aD,λbE=>?_⟩,λD bR=>?_⟩
  .let⟨b,bm,br⟩:=a;have aV:0<C:=ad;have aA:=(aE 0 aV).1 0 _ p;have a8:br=af:=by simpa[xY]using KU aA
   subst a8;refine⟨b,bm,rfl,by simpa[Nv]using NO aA,λj aq=>?_⟩;rw[aD]at aq;have aG:j/22<C:=ad;have aB:j % 22<aa (E (j/22)).l:=by show j % 22<22;omega
   have aK:=(aE (j/22) aG).1 (j % 22) _ (b8 aB);have aS:j/22*22+j % 22=j:=ad;rw[aS,KT]at aK;have aT:((gZ C).map E)[j/22]?=ab (E (j/22)):=bo;have bA:(J ((gZ C).map E))[j/22*22+j % 22]?=ab (E (j/22)).l[j % 22]:=uo aT (j % 22) _ (b8 aB);simp_all
  grind
def ajK(a b c)(A:a3)(n E)(D:List At)(C)(Q:a<256)(R:b<256)(U:c<256)(Y:oQ C 22 A n (J D))(H:∀j∈D,aa j.f.l<=j.f.c/\oQ C 1 j.f.A (aa j.f.l) (J j.f.l)):
  Calls ar 3 #[.agg #[.int .u8 (a:Nat),.int .u8 (b:Nat),.int .u8 (c:Nat)],.slice A n E] C λO Z=>O=.returned (.bool ag)/\Below C.heap.size C Z:=
 acc (ail a b c Q R U A n E D _ (Tc bL Y) λj I=>⟨Tc bL (H j I).2,(H j I).1⟩)
end
namespace aV
def ww(D:bk):Nat->List Nat->List Nat->Option (List Nat):=Nat.rec (λ_ _=>af) (λ_ E j seen=>List.rec (ab seen) (λC j _=>ax (seen.contains C) (E j seen) (aq ((nk D).get C) λH=>E (D.leadsTo H++j) (C::seen))) j)
theorem look{j g C}(h:(nk j).get g=ab C):j.funcs[g]?=ab C:=by
 have:=z7 12 j.funcs.toList g C h;simpa using this
def Gg{j}:∀(n)(H seen D),ww j n H seen=ab D->∀E,n<=E->j.closureVia E H seen=D.reverse
 |0,_,_,_,h,_,_=>by cases h
 |n+1,[],seen,D,h,E,O=>by
  have:seen=D:=by injection h
  subst this;cases E<;>rfl
 |n+1,C::H,seen,D,h,0,O=>by omega
 |n+1,C::H,seen,D,h,E+1,O=>by
  have h:ax (seen.contains C) (ww j n H seen) (aq ((nk j).get C) λI=>ww j n (j.leadsTo I++H) (C::seen))=ab D:=h;unfold Program.closureVia;cases Q:seen.contains C with
  |true=>
   rw[Q]at h;rw[if_pos p];exact Gg n _ _ _ h E (by omega)
  |false=>
   rw[Q]at h;rw[if_neg (by simp)];have h:aq ((nk j).get C) (λI=>ww j n (j.leadsTo I++H) (C::seen))=ab D:=h;cases J:(nk j).get C with
   |none=>rw[J]at h;cases h
   |some I=>
    rw[J]at h;rw[look J];exact Gg n _ _ _ h E (by omega)
theorem Pp{α D:Type}{j g:α->Option D}:∀(l:List α),(∀x∈l,j x=g x)->l.filterMap j=l.filterMap g
 | [],_=>rfl
 |x::l,h=>by rw[Ld,Ld,h x (by simp),Pp l λy C=>h y (by simp[C])]
def O7(j:bk)(n D:Nat)(E:List String):Bool:=match ww j n [D] []with
 |some C=>C.all (λg=>((nk j).get g).isSome)&&(C.reverse.filterMap (λg=>((nk j).get g).bind λfn=>if fn.ours||fn.body.isNone||fn.name== "runtime.NumGoroutine" then ab fn.name else af)==E)&&
  (C.any λg=>((nk j).get g).any λfn=>match fn.body with|some c=>c.unfollowed|none=>entryCalls fn)&&(C.all λg=>(((nk j).get g).bind (·.body)).elim ag λc=>c.globalsNamed.isEmpty)&&
  (C.all λg=>(((nk j).get g).bind λfn=>if fn.body.isNone then entryReads.lookup fn.name else af).isNone)
 |none=>al
def ajB{j n D U}(h:O7 j n D U=ag)(am:Nat.ble n (1+(j.funcs.toList.map λg=>aa (j.leadsTo g)+1).sum)=ag):j.inPlace D=U/\j.unfollowed D=ag/\j.recurses D=ag/\j.varsNamed D=[]:=by
 unfold O7 at h;cases O:ww j n [D] []with
 |none=>rw[O]at h;cases h
 |some H=>
  rw[O]at h;simp only[Bool.and_eq_true,List.all_eq_true,beq_iff_eq]at h;obtain⟨⟨⟨⟨h1,ae⟩,an⟩,Z⟩,ah⟩:=h;have J:j.closure D=H.reverse:=Gg n _ _ _ O _ (Nat.le_of_ble_eq_true am);have E:∀g∈H.reverse,j.funcs[g]?=(nk j).get g:=λg C=>by
   obtain⟨I,Q⟩:=Option.isSome_iff_exists.1 (h1 g (q4.1 C));rw[look Q,Q]
  have R:j.unfollowed D=ag:=by
   unfold Program.unfollowed;rw[J];obtain⟨g,C,ap⟩:=K4.1 an;exact K4.2 ⟨g,q4.2 C,by rw[E g (q4.2 C)];exact ap⟩
  refine⟨?_,R,by unfold Program.recurses;rw[R];rfl,?_⟩
  .unfold Program.inPlace;rw[J,<- ae];exact Pp _ λg C=>by rw[E g C]
  .unfold Program.varsNamed;rw[J];have W:(H.reverse.flatMap λg=>((j.funcs[g]?).bind (·.body)).elim [] Code.globalsNamed)=[]:=by
    rw[List.flatMap_eq_nil_iff];intro g C;rw[E g C];have:=Z g (q4.1 C);cases ai:((nk j).get g).bind (·.body)with
    |none=>rfl
    |some c=>rw[ai]at this;simpa using this
   have Y:(H.reverse.filterMap λg=>(j.funcs[g]?).bind λI=>if I.body.isNone then entryReads.lookup I.name else af)=[]:=by
    rw[List.filterMap_eq_nil_iff];intro g C;rw[E g C];exact Option.isNone_iff_eq_none.1 (ah g (q4.1 C))
   rw[W,Y];rfl
end aV
end
end Go.Proofs.YteinodmjohkmmaaGreat
