/- TopBudget: a part of its proof. -/
import Derived.Laws.MakeOwn
import Derived.Maps.RangeRun
import Derived.RangeFuncIn
import Derived.RangeFuncLeaves
import Derived.RangeFuncRecord
import Derived.Sort.Grow
import Derived.Test.YtioamnghkmcbbaaGreatMA0
set_option linter.all false
set_option maxRecDepth 100000
set_option maxHeartbeats 4000000
open Array renaming getElem?_eq_none->oR,getElem?_eq_some_iff->tb,toList_filter->By,toList_push->Bz
open Classical renaming em->te
open Go.Builtin renaming clear_->kW,delete_->vo
open Go.Code renaming wpIn_mono->lw
open Go.Deferred renaming ofValue->lx
open Go.Fence renaming wide->G3
open Go.Instr renaming checkKey->vp,findAsking->BE,findKey->G6,findNow->vq,lookup->G9,mapUpdate->x2,sameBits->x3,sameNow->x4
open Go.Oper renaming wp->dv
open Go.Result renaming andThen_ok->db
open Go.Sem renaming run->Hk,run_bind->cg,run_pure->eJ
open List renaming append_assoc->ho,cons_append->Hy,drop_of_length_le->vv,ext_getElem?->tj,filter_cons_of_neg->tl,filter_cons_of_pos->BN,filter_eq_self->vx,getElem?_eq_getElem->cb,getElem?_eq_some_iff->jf,getElem?_modify->HJ,getElem?_of_mem->vy,getElem_mem->hp,length->oT,length_append->bP,length_nil->vA,map_append->gM,map_cons->eS,map_nil->lC,map_toArray->fY,mem_append->cT,mem_cons->cQ,mem_cons_of_mem->kY,mem_filter->gN,mem_map->jg,mem_of_getElem?->kZ,mergeSort_perm->HT,nodup_cons->ix,pairwise_append->lE,pairwise_cons->gO,pairwise_mergeSort->HV,perm_middle->e4,set_eq_take_append_cons_drop->HY,takeWhile_append_dropWhile->ql,takeWhile_cons->H0,takeWhile_prefix->BU,take_append_of_le_length->tr,take_of_length_le->jE,take_succ_eq_append_getElem->gu
open List.Perm renaming append_left->kX
open Nat renaming blt->dT,le_refl->bv,lt_or_ge->eC,mul_le_mul_right->lG,mul_one->vD,succ_mul->Ie,zero_add->iQ,zero_le->bu
open Option.some renaming inj->kw,injEq->rD
open Prod.mk renaming injEq->rE
open Go.RowKit
namespace Go.Proofs.YtioamnghkmcbbaaGreat
noncomputable section
section
attribute [local irreducible] G
section
variable{P:Program}{B:Exit->Act->World->Prop}{g:c0}{n:Nat}{aK:List eU}{J:bW}{L:aG}{ar:Array Oper}{l:List Oper}
def aay{j:Option Nat}{D:Op}{G:TypeId}{E:String}{C:Array Edge}{v:Value}(h:c3 P B g n ar l aK (fb J j v) L)(I:ef n j=true:=by rfl)(K:bf P L J ⟨j,D,G,E,C,none⟩ v:=by exact rH):c3 P B g n ar (⟨j,D,G,E,C,none⟩::l) aK J L:=yl p I K h
def Is{o:Oper}{G j:Nat}{b D:Bool}(aa:D=true->c3 P B g n ar (o::l) aK ((j,.bool true)::J) L)(ab:D=false->c3 P B g n ar (o::l) aK ((j,.bool false)::J) L)(I:o.guard=some (G,b):=by rfl)(K:(ar[G]?).bind (·.dst)=some j:=by rfl)(E:J.get j=some (.bool D):=by rfl):c3 P B g n ar (o::l) aK J L:=by
 cases C:D with
 |true=>exact dE j E C (aa C)
 |false=>exact dE j E C (ab C)
def Qn{j:Option Nat}{E:Op}{K:TypeId}{G:String}{C:Array Edge}{D I:Nat}{b:Bool}(h:c3 P B g n ar (⟨j,E,K,G,C,none⟩::l) aK J L)(Q:(ar[D]?).bind (·.dst)=some I:=by rfl)(R:J.get I=some (.bool b):=by rfl)(O:ef n j=true:=by rfl):c3 P B g n ar (⟨j,E,K,G,C,some (D,b)⟩::l) aK J L:=br Q R O p h
def Qk{j:Option Nat}{R:Op}{W:TypeId}{U:String}{G:Array Edge}{D E:Nat}{b C:Bool}(h:c3 P B g n ar l aK (fb J j undef) L)(O:(ar[D]?).bind (·.dst)=some E:=by rfl)(Q:J.get E=some (.bool C):=by rfl)(K:ef n j=true:=by rfl)(I:C=!b:=by rfl):c3 P B g n ar (⟨j,R,W,U,G,some (D,b)⟩::l) aK J L:=el O Q K I h
def Qm{j:Option Nat}{O:Op}{R:TypeId}{Q:String}{E:Array Edge}{C D:Nat}{b:Bool}(h:c3 P B g n ar l aK (fb J j undef) L)(I:(ar[C]?).bind (·.dst)=some D:=by rfl)(K:J.get D=some undef:=by rfl)(G:ef n j=true:=by rfl):c3 P B g n ar (⟨j,O,R,Q,E,some (C,b)⟩::l) aK J L:=Ir I K G h
def It{K:Option Nat}{j:Nat}{E I:Operand}{R:TypeId}{Q:String}{G:Array Edge}{O:Option (Nat×Bool)}{D:Bool}(aa:D=true->c3 P B g n ar (⟨K,.pick (.tmp j) E I,R,Q,G,O⟩::l) aK ((j,.bool true)::J) L)(ab:D=false->c3 P B g n ar (⟨K,.pick (.tmp j) E I,R,Q,G,O⟩::l) aK ((j,.bool false)::J) L)(U:J.get j=some (.bool D):=by rfl):c3 P B g n ar (⟨K,.pick (.tmp j) E I,R,Q,G,O⟩::l) aK J L:=by
 cases C:D with
 |true=>exact dE j U C (aa C)
 |false=>exact dE j U C (ab C)
def tB{o:Oper}{C j:Nat}{b D y:Bool}(h:c3 P B g n ar (o::l) aK ((j,.bool y)::J) L)(I:o.guard=some (C,b):=by rfl)(K:(ar[C]?).bind (·.dst)=some j:=by rfl)(E:J.get j=some (.bool D):=by rfl)(G:D=y:=by assumption):c3 P B g n ar (o::l) aK J L:=dE j E G h
def B9{C:Operand}{D y:Code}{j:List eU}{b:Bool}(h:bc P B g n (.code D::j) J L)(E:gi 60 aK=.code (.cond C D y)::j:=by rfl)(I:aY J C=some (.bool b):=by rfl)(G:b=true:=by assumption):c3 P B g n ar [] aK J L:=f7 h E I G
def B7{C:Operand}{I y:Code}{j:List eU}{b:Bool}(h:bc P B g n (.code y::j) J L)(D:gi 60 aK=.code (.cond C I y)::j:=by rfl)(G:aY J C=some (.bool b):=by rfl)(E:b=false:=by assumption):c3 P B g n ar [] aK J L:=dG h D G E
def Ip{D:Operand}{I y:Code}{C:List eU}{b:Bool}(aa:b=true->bc P B g n (.code I::C) J L)(ab:b=false->bc P B g n (.code y::C) J L)(E:gi 60 aK=.code (.cond D I y)::C:=by rfl)(G:aY J D=some (.bool b):=by rfl):c3 P B g n ar [] aK J L:=by
 cases j:b with
 |true=>exact f7 (aa j) E G j
 |false=>exact dG (ab j) E G j
def Iq{D:Operand}{I y:Code}{C:List eU}{b:Bool}(aa:b=true->bc P B g n (.code I::C) J L)(ab:b=false->bc P B g n (.code y::C) J L)(E:gi 60 aK=.code (.cond D I y)::C:=by rfl)(G:aY J D=some (.bool b):=by rfl):bc P B g n aK J L:=by
 cases j:b with
 |true=>exact jJ (aa j) E G j
 |false=>exact iT (ab j) E G j
def yk{id:Nat}{j:List eU}(h:d4 P B g n l L (aE (List.range l.length) .nil) j J L)(C:gi 60 aK=.code (.region id l.toArray true)::j:=by rfl)(E:P.follows .mixedOrders=true:=by kernel_rfl)(D:(nG l&&(Region.noSelect l.toArray&&Nat.beq (aE (List.range l.length) .nil).len l.length&&iu l.toArray (aE (List.range l.length) .nil) (Array.replicate l.length false)))=true:=by kernel_rfl):bc P B g n aK J L:=aW _ h C E D
def B6{id:Nat}{j:List eU}(h:d4 P B g n l L (aE (List.range l.length) .nil) j J L)(C:gi 60 aK=.code (.region id l.toArray true)::j:=by rfl)(E:P.follows .mixedOrders=true:=by kernel_rfl)(D:(nG l&&(Region.noSelect l.toArray&&Nat.beq (aE (List.range l.length) .nil).len l.length&&iu l.toArray (aE (List.range l.length) .nil) (Array.replicate l.length false)))=true:=by kernel_rfl):c3 P B g n ar [] aK J L:=aL (yk h C E D)
def Ca{C:Operand}{D y:Code}{j:List eU}{b:Bool}(h:bc P B g n (.code D::j) J L)(E:gi 60 aK=.code (.cond C D y)::j:=by rfl)(I:aY J C=some (.bool b):=by rfl)(G:b=true:=by assumption):bc P B g n aK J L:=jJ h E I G
def B8{C:Operand}{I y:Code}{j:List eU}{b:Bool}(h:bc P B g n (.code y::j) J L)(D:gi 60 aK=.code (.cond C I y)::j:=by rfl)(G:aY J C=some (.bool b):=by rfl)(E:b=false:=by assumption):bc P B g n aK J L:=iT h D G E
end
def m8 {j:Prop} (h:j:=by
  intro g F
  (repeat' (first
   |refine ad ?_|refine ai ?_|refine dl ?_|refine aJ ?_|refine bD ?_|refine yk ?_|refine B6 ?_|refine f7 ?_|refine dG ?_|refine jJ ?_|refine iT ?_
   |refine aU λ_=> ?_|refine cF ?_|(refine bw p (by apply_assumption<;>repeat' first|exact aB.ae p|apply_assumption|apply aB.skip|apply Rd.skip) ?_)
   |refine Qn ?_|refine Qk ?_|refine Qm ?_|refine tB (y:=true) ?_|refine tB (y:=false) ?_|refine Is (λ_=> ?_) (λ_=> ?_)|refine It (λ_=> ?_) (λ_=> ?_)
   |refine B9 ?_|refine B7 ?_|refine Ca ?_|refine B8 ?_|refine Ip (λ_=> ?_) (λ_=> ?_)|refine Iq (λ_=> ?_) (λ_=> ?_)
   |((first|refine af ?_|refine aF ?_);refine aj p (.tmp p .nil) az ⟨?_,rfl⟩;first|rfl|(simp_all[bG];done)|(simp_all[bG];omega)|(simp[bG]at*;split<;>first|(simp_all;done)|grind))))):j:=h
structure oZ (j:Prop):Prop where
 h:j
def K{C j:Prop}(h:C)(D:oZ C->j:=by intro h;(repeat (first|refine ad ?_|refine ai ?_|refine aJ ?_|refine bD ?_|refine dl ?_|refine m3 ?_|refine f7 ?_|refine dG ?_|refine jJ ?_|refine iT ?_|refine cF ?_|refine el p p p (by assumption) ?_|refine br p p p (by assumption) ?_|refine aD (eP p (by assumption) p) ?_|refine aD (eW p (by assumption) p) ?_|refine cw aT p p p ⟨_,rfl,by assumption⟩ p ?_|refine an (gy p p p ⟨_,rfl,by first|rfl|assumption⟩ rfl ?_)|refine cD p (by assumption) ?_|refine b2 p (by assumption) ?_));exact h.h):j:=D ⟨h⟩
def bH{j:Program}{J:FuncId}{C:Func}{E:Nat}{I:Code}{args:cs}{G:aG}{post:Value->List aO->Prop}(h:∀g F,bc j (mQ j C g F post) g (E+1) [.code I] (lM args 0) (F::G))(O:j.funcs[J]?=some C:=by rfl)(K:C.body=some I:=by rfl)(R:C.ntmps=E+1:=by rfl)(Q:Nat.ble args.length (E+1)=true:=by rfl):D j J args.toArray G post:=Qc O K R Q h
def ap{C:Program}{G:FuncId}{args:cs}{j:aG}{post:Value->List aO->Prop}{E:c0->aO->Prop}(h:∀g F,E g F)(I:oZ (∀g F,E g F)->D C G args.toArray j post:=by intro h;refine bH λg F=> ?_;(repeat (first|refine ad ?_|refine ai ?_|refine aJ ?_|refine bD ?_|refine dl ?_|refine m3 ?_|refine f7 ?_|refine dG ?_|refine jJ ?_|refine iT ?_|refine cF ?_|refine el p p p (by assumption) ?_|refine br p p p (by assumption) ?_|refine aD (eP p (by assumption) p) ?_|refine aD (eW p (by assumption) p) ?_|refine cw aT p p p ⟨_,rfl,by assumption⟩ p ?_|refine an (gy p p p ⟨_,rfl,by first|rfl|assumption⟩ rfl ?_)|refine cD p (by assumption) ?_|refine b2 p (by assumption) ?_));exact h.h g F):D C G args.toArray j post:=I ⟨h⟩
def dq{j:Prop}(C:j:=by(repeat (first|refine ad ?_|refine ai ?_|refine aJ ?_|refine bD ?_|refine dl ?_|refine m3 ?_|refine f7 ?_|refine dG ?_|refine jJ ?_|refine iT ?_|refine cF ?_|refine el p p p (by assumption) ?_|refine br p p p (by assumption) ?_|refine aD (eP p (by assumption) p) ?_|refine aD (eW p (by assumption) p) ?_|refine cw aT p p p ⟨_,rfl,by assumption⟩ p ?_|refine an (gy p p p ⟨_,rfl,by first|rfl|assumption⟩ rfl ?_)|refine cD p (by assumption) ?_|refine b2 p (by assumption) ?_));(first|refine af ?_|refine aF ?_|skip);refine aj p (by repeat first|exact .nil|apply jL.tmp p) az ⟨rfl,rfl⟩):j:=C
theorem bI{C j:Prop}(h:C)(D:oZ C->j:=by intro h;(repeat (first|refine ad ?_|refine ai ?_|refine aJ ?_|refine bD ?_|refine dl ?_|refine m3 ?_|refine f7 ?_|refine dG ?_|refine jJ ?_|refine iT ?_|refine cF ?_|refine el p p p (by assumption) ?_|refine br p p p (by assumption) ?_|refine aD (eP p (by assumption) p) ?_|refine aD (eW p (by assumption) p) ?_|refine cw aT p p p ⟨_,rfl,by assumption⟩ p ?_|refine an (gy p p p ⟨_,rfl,by first|rfl|assumption⟩ rfl ?_)|refine cD p (by assumption) ?_|refine b2 p (by assumption) ?_));(first|refine af ?_|refine aF ?_|skip);refine aj p (by repeat first|exact .nil|apply jL.tmp p) az h.h):j:=D ⟨h⟩
theorem aH{C j:Prop}(h:C)(D:oZ C->j:=by intro h;(first|refine ad ?_|refine ai ?_|refine aJ ?_|refine bD ?_|refine dl ?_|refine m3 ?_|refine f7 ?_|refine dG ?_|refine jJ ?_|refine iT ?_|refine cF ?_|refine el p p p (by assumption) ?_|refine br p p p (by assumption) ?_|refine aD (eP p (by assumption) p) ?_|refine aD (eW p (by assumption) p) ?_|refine cw aT p p p ⟨_,rfl,by assumption⟩ p ?_|refine an (gy p p p ⟨_,rfl,by first|rfl|assumption⟩ rfl ?_)|refine cD p (by assumption) ?_|refine b2 p (by assumption) ?_|refine tB (y:=true) ?_|refine tB (y:=false) ?_|refine B9 ?_|refine B7 ?_|refine Ca ?_|refine B8 ?_|refine yk ?_|refine B6 ?_|(refine bw p (by apply_assumption<;>repeat' first|exact aB.ae p|apply_assumption|apply aB.skip|apply Rd.skip) ?_)|(refine cU p p (by apply_assumption<;>repeat' first|exact aB.ae p|apply_assumption|apply aB.skip|apply Rd.skip) ?_));(repeat (first|refine ad ?_|refine ai ?_|refine aJ ?_|refine bD ?_|refine dl ?_|refine m3 ?_|refine f7 ?_|refine dG ?_|refine jJ ?_|refine iT ?_|refine cF ?_|refine el p p p (by assumption) ?_|refine br p p p (by assumption) ?_|refine aD (eP p (by assumption) p) ?_|refine aD (eW p (by assumption) p) ?_|refine cw aT p p p ⟨_,rfl,by assumption⟩ p ?_|refine an (gy p p p ⟨_,rfl,by first|rfl|assumption⟩ rfl ?_)|refine cD p (by assumption) ?_|refine b2 p (by assumption) ?_|refine tB (y:=true) ?_|refine tB (y:=false) ?_|refine B9 ?_|refine B7 ?_|refine Ca ?_|refine B8 ?_|refine yk ?_|refine B6 ?_|(refine bw p (by apply_assumption<;>repeat' first|exact aB.ae p|apply_assumption|apply aB.skip|apply Rd.skip) ?_)|(refine cU p p (by apply_assumption<;>repeat' first|exact aB.ae p|apply_assumption|apply aB.skip|apply Rd.skip) ?_)));exact h.h):j:=D ⟨h⟩
theorem aP{C D j:Prop}(aa:C)(ab:D)(E:oZ C->oZ D->j:=by intro aa ab;first|exact Is aa.h ab.h|exact It aa.h ab.h|exact Ip aa.h ab.h|exact Iq aa.h ab.h):j:=E ⟨aa⟩ ⟨ab⟩
theorem b7{C j:Prop}(h:C)(D:oZ C->j:=by intro h;first|(apply zu;(focus ((repeat' first|exact aN.here|apply aN.skip|apply aN.bE);done));(focus rfl);exact h.h)|(apply r5;(focus ((repeat' first|exact aN.here|apply aN.skip|apply aN.bE);done));(focus rfl);exact h.h)|(apply bR;(focus ((repeat' first|exact aN.here|apply aN.skip|apply aN.bE);done));exact h.h)|(apply lQ;exact h.h)|(apply r4;exact h.h)):j:=D ⟨h⟩
theorem a8{j:Prop}(h:j:=by repeat' first|exact trivial|refine⟨rfl,?_⟩):j:=h
def cM{M S:aG}{C:List aO->Prop}(h:C M)(D:∀h,G M h->G S h:=by exact yj):∃j,(∀h,G M h->G j h)/\(∀h,G j h->G S h)/\C j:=⟨M,λ_ s=>s,D,h⟩
def bg{M S:aG}{C:List aO->Prop}(h:C S)(D:∀h,G M h->G S h:=by exact yj):∃j,(∀h,G M h->G j h)/\(∀h,G j h->G S h)/\C j:=⟨S,D,λ_ s=>s,h⟩
section
variable{P:Program}{B:Exit->Act->World->Prop}{g:c0}{n:Nat}{aK:List eU}{J:bW}{L:aG}{ar:Array Oper}{l:List Oper}
def a9{E:Prop}{j:Option Nat}{C:FuncId}{I:List Operand}{Z:Array TypeId}{ae:TypeId}{Y:String}{O:Array Edge}{args:cs}{G:Value}{M:aG}[ag:b4 P C](Q:D P C args.toArray L λv K=>v=G/\K=M)(h:E)(R:kf J I=some args:=by rfl)(U:ef n j=true:=by rfl)(W:oZ E->c3 P B g n ar l aK (fb J j G) M:=by intro h;(repeat (first|refine ad ?_|refine ai ?_|refine aJ ?_|refine bD ?_|refine dl ?_|refine m3 ?_|refine f7 ?_|refine dG ?_|refine jJ ?_|refine iT ?_|refine cF ?_|refine el p p p (by assumption) ?_|refine br p p p (by assumption) ?_|refine aD (eP p (by assumption) p) ?_|refine aD (eW p (by assumption) p) ?_|refine cw aT p p p ⟨_,rfl,by assumption⟩ p ?_|refine an (gy p p p ⟨_,rfl,by first|rfl|assumption⟩ rfl ?_)|refine cD p (by assumption) ?_|refine b2 p (by assumption) ?_));exact h.h):c3 P B g n ar (⟨j,.call ⟨.value (.func C),I.toArray,Z⟩,ae,Y,O,none⟩::l) aK J L:=bw R Q (W ⟨h⟩) U
def aS{C:Nat->Prop}{o:Oper}{j:Nat->Value}{M:Nat->List aO}(h:∀b,C b)(I:o.guard=none:=by rfl)(E:ef n o.dst=true:=by rfl)(G:cc P g L J o (λv D=>∃b,v=j b/\D=M b):=by first|(apply wo;rfl)|exact r2|(apply e8;rfl;rfl;rfl)|(apply wq;rfl;rfl;rfl)|exact jS)(K:oZ (∀b,C b)->∀b,c3 P B g n ar l aK (fb J o.dst (j b)) (M b):=by intro h b;(repeat (first|refine ad ?_|refine ai ?_|refine aJ ?_|refine bD ?_|refine dl ?_|refine m3 ?_|refine f7 ?_|refine dG ?_|refine jJ ?_|refine iT ?_|refine cF ?_|refine el p p p (by assumption) ?_|refine br p p p (by assumption) ?_|refine aD (eP p (by assumption) p) ?_|refine aD (eW p (by assumption) p) ?_|refine cw aT p p p ⟨_,rfl,by assumption⟩ p ?_|refine an (gy p p p ⟨_,rfl,by first|rfl|assumption⟩ rfl ?_)|refine cD p (by assumption) ?_|refine b2 p (by assumption) ?_));exact h.h b):c3 P B g n ar (o::l) aK J L:=aU (K ⟨h⟩) I E G
end
end
def dF(n:Int):Bool:=decide (-1099511627776<=n)&&decide (n<=1099511627776)
def j1(n C j:Int):Bool:=decide (C<=n/\n<=j)
def m1(n C):D E 268 #[j n] C λv G=>v=.bool (dF n)/\G=C:=by
 refine bH λg F=> ?_;repeat' first|refine aH ?_|refine aU λ_=> ?_|refine aP (λ_=> ?_) (λ_=> ?_)|fail
 all_goals first|contradiction|(refine bI ?_;exact⟨by simp_all[bG,dF]<;>(omega),rfl⟩)
def vI(n C):D E 27 #[j n] C λv G=>v=.bool (dF n)/\G=C:=by
 refine bH λg F=> ?_;repeat' first|refine aH ?_|refine aU λ_=> ?_|refine aP (λ_=> ?_) (λ_=> ?_)|fail
 all_goals first|contradiction|(refine bI ?_;exact⟨by simp_all[bG,dF]<;>(omega),rfl⟩)
def Xk(n C):D E 347 #[j n] C λv G=>v=.bool (!dF n)/\G=C:=by
 have I:=m1;refine bH λg F=> ?_;repeat' first|refine aH ?_|refine aU λ_=> ?_|refine aP (λ_=> ?_) (λ_=> ?_)|fail
 all_goals first|contradiction|(refine bI ?_;exact⟨rfl,rfl⟩)
def PO(n I G C):D E 414 #[j n,j I,j G] C λv J=>v=.bool (j1 n I G)/\J=C:=by
 refine bH λg F=> ?_;repeat' first|refine aH ?_|refine aU λ_=> ?_|refine aP (λ_=> ?_) (λ_=> ?_)|fail
 all_goals first|contradiction|(refine bI ?_;exact⟨by simp_all[bG,j1]<;>(omega),rfl⟩)
structure b9 where
 cB:Int
 cI:Int
 cC:Int
 cx:Int
@[reducible] def b9.v (b:b9):Value:=.agg #[j b.cB,j b.cI,j b.cC,j b.cx]
structure fS where
 cB:Int
 cI:Int
 y:Int
structure j8 where
 id:Int
 lo:Int
 hi:Int
def b9.has(b:b9)(j y:Int):Bool:=j1 j b.cB b.cI&&j1 y b.cC b.cx
def fS.iv(j:fS)(C y:Int):Bool:=j1 C j.cB j.cI&&decide (j.y<=y)
def j8.q5(s j:j8):Bool:=decide (s.lo<=s.hi/\j.lo<=j.hi/\s.lo<=j.hi/\j.lo<=s.hi)
def Iy(b:b9)(C:I)(G):D E 335 #[.agg #[j b.cB,j b.cI,j b.cC,j b.cx],.agg #[j C.id,j C.x,j C.y]] G λv J=>v=.bool (b.has C.x C.y)/\J=G:=by
 have K:=PO;refine bH λg F=> ?_;repeat' first|refine aH ?_|refine aU λ_=> ?_|refine aP (λ_=> ?_) (λ_=> ?_)|fail
 all_goals first|contradiction|(refine bI ?_;exact⟨by simp_all[bG,b9.has,j1]<;>(omega),rfl⟩)
def Rv(G:fS)(C:I)(J):D E 336 #[.agg #[j G.cB,j G.cI,j G.y],.agg #[j C.id,j C.x,j C.y]] J λv K=>v=.bool (G.iv C.x C.y)/\K=J:=by
 have O:=PO;refine bH λg F=> ?_;repeat' first|refine aH ?_|refine aU λ_=> ?_|refine aP (λ_=> ?_) (λ_=> ?_)|fail
 all_goals first|contradiction|(refine bI ?_;exact⟨by simp_all[bG,fS.iv,j1]<;>(omega),rfl⟩)
def Q8(b:b9)(G y C):D E 66 #[.agg #[j b.cB,j b.cI,j b.cC,j b.cx],j G,j y] C λv I=>v=.bool (b.has G y)/\I=C:=by
 refine bH λg F=> ?_;repeat' first|refine aH ?_|refine aU λ_=> ?_|refine aP (λ_=> ?_) (λ_=> ?_)|fail
 all_goals first|contradiction|(refine bI ?_;exact⟨by simp_all[bG,b9.has,j1]<;>(omega),rfl⟩)
def yF(C:fS)(I y G):D E 67 #[.agg #[j C.cB,j C.cI,j C.y],j I,j y] G λv J=>v=.bool (C.iv I y)/\J=G:=by
 refine bH λg F=> ?_;repeat' first|refine aH ?_|refine aU λ_=> ?_|refine aP (λ_=> ?_) (λ_=> ?_)|fail
 all_goals first|contradiction|(refine bI ?_;exact⟨by simp_all[bG,fS.iv,j1]<;>(omega),rfl⟩)
def b9.dn(b:b9):Int:=
 if dF b.cB&&dF b.cI&&dF b.cC&&dF b.cx then(if b.cB>b.cI\/b.cC>b.cx then 3 else 0)else 2
def fS.cz(j:fS):b9:=⟨j.cB,j.cI,j.y,1099511627776⟩
def IK(b:b9)(C):D E 25 #[.agg #[j b.cB,j b.cI,j b.cC,j b.cx]] C λv G=>v=j b.dn/\G=C:=by
 have I:=vI;refine bH λg F=> ?_;repeat' first|refine aH ?_|refine aU λ_=> ?_|refine aP (λ_=> ?_) (λ_=> ?_)|fail
 all_goals first|contradiction|(refine bI ?_;exact⟨by simp_all[bG,b9.dn]<;>(try omega),rfl⟩)
def Rh(C:fS)(G):D E 26 #[.agg #[j C.cB,j C.cI,j C.y]] G λv I=>v=j C.cz.dn/\I=G:=by
 have J:=IK C.cz;refine bH λg F=> ?_;repeat' first|refine aH ?_|refine aU λ_=> ?_|refine aP (λ_=> ?_) (λ_=> ?_)|fail
 all_goals first|contradiction|(refine bI ?_;exact⟨rfl,rfl⟩)
structure bz (b:Nat) (o:Obj) (h:iV):Prop where
 eq:h b=some o
section
variable{g:c0}{L:aG}{w:World}
theorem a4.hV{b o}(h:a4 g (bz b o::L) w):w.heap[b]?=some o:=by
 obtain⟨aa,ab,D,C,E,j,l⟩:=h.s;exact C _ _ j.eq
theorem a4.tQ(h:a4 g L w)(o):a4 g (bz w.heap.size o::L) (w.alloc o):=by
 refine⟨h.g,λj=>if j=w.heap.size then some o else none,w.hm,λj=> ?_,λj I D=> ?_,λj I D=> ?_,⟨Q⟩,h.s⟩
 ·by_cases E:j=w.heap.size
  ·right;subst E;simp[World.hm]
  simp_all
 ·replace D:(if j=w.heap.size then some o else none)=some I:=D
  by_cases E:j=w.heap.size
  ·subst E;rw[if_pos p]at D;show(w.heap.push _)[_]?= _;simp_all
  simp_all
 ·have E:j<w.heap.size:=by
   rcases eC j _ with G|G
   ·omega
   ·simp[World.hm,oR G]at D
  show(w.heap.push _)[j]?= _;rw[Array.getElem?_push,if_neg C];exact D
theorem a4.eR{b o}(h:a4 g (bz b o::L) w)(C):a4 g (bz b C::L) (w.putObj b C):=by
 have J:=h.hV;have K:=(tb.1 J).1;obtain⟨aa,ab,E,Y,R,G,l⟩:=h.s;have U:=G.eq;have O:∀j,j≠b->(w.putObj b C).hm j=w.hm j:=λj D=>World.putObj_heap_other D;have W:(w.putObj b C).hm b=some C:=World.putObj_heap_same K;refine⟨h.g,λj=>if j=b then some C else none,ab,λj=> ?_,λj o e=> ?_,λj o e=> ?_,⟨Q⟩,l⟩
 ·by_cases D:j=b
  ·right;rcases E j with e|e
   ·simp_all
   omega
  simp_all
 ·simp_all
 ·by_cases D:j=b
  ·rcases E j with I|I
   ·simp_all
   simp_all
  ·rw[O j D];exact R j o e
def a4.Pz(j:a4 g L w):a4 g ((λ_=>True)::L) w:=⟨j.g,λ_=>none,w.hm,λ_=> .inl p,λ_ _ C=>(by grind),d7.refl _,trivial,j.s⟩
end
def mk(C:List Nat):List Deferred:=C.map λj=>⟨.collected j,#[]⟩
def iI(C:List Nat):List aO:=C.map λj=>bz j (.deferred (some []))
def Yv{D K O I E C}(R:K.results=E.toArray)(h:jL D O I E C){J j}(U:eD O J)(W:G I j.hm):(results K J.tmps).run D j=.ok (bG C) j:=by
 unfold results;rw[R];simp only[List.mapM_toArray,cg,Sem.run_map];have Z:=h.run U W;generalize ae:List.mapM (m:=Sem) _ E=Y;have Q:Y.run D j=.ok C j:=by grind
 rw[Q];cases C with
 |nil=>rfl
 |cons v l=>cases l<;>simp[bG]
def Oy(O:Program)(Q:Func)(g:c0)(F:aO)(post:Value->List aO->Prop):Exit->Act->World->Prop
 | .normal,j,J| .ret,j,J=>∃(D:List Nat) (M C:aG) (K:bW) (E:List ResultVar) (I:cs),j.defers=mk D/\eD K j/\Q.results=E.toArray/\jL O K M E I/\(∀h,G M h->G (F::C) h)/\post (bG I) C/\a4 g (iI D++M) J
 | _,_,_=>False
def Af{K R g F}{post:Value->List aO->Prop}{M E ag ae I O}(Z:eD ag O)(Y:R.results=ae.toArray)(h:jL K ag M ae I)(U:∀h,G M h->G (F::E) h)(W:post (bG I) E):
  ∀(D) (C),a4 g (iI D++M) C->LeavesInM G3 0 K R O.tmps (λak al=>∃v J,ak=.returned v/\post v J/\a4 g (F::J) al) (mk D) .returning C
 | [],C,j=>⟨bG I,Yv Y h Z j.s,_,E,rfl,W,j.mono U⟩
 |d::D,C,j=>⟨Q,.inl ⟨d,C.putObj d (.deferred none),rfl,run_takeDeferred (a4.hV j),Af Z Y h U W D _ ((a4.eR j _).mono λ_ s=>s.tail)⟩⟩
section
variable{P:Program}{fn:Func}{g:c0}{n:Nat}{aK:List eU}{J:bW}{L:aG}{B:Exit->Act->World->Prop}
def yg{U R args post}(Z:P.funcs[U]?=some fn)(Y:fn.body=some R)(ar:fn.ntmps=n)(ap:Nat.ble args.length n=true)
  (h:∀g F,g.base=g->bc P (Oy P fn g F post) g n [.code R] (lM args 0) (F::L)):D P U args.toArray L post:=λg F j ae=>by
 refine(callsIn_wide (n:=0)).1 (callsIn_of_wp_marks Z Y trivial ?_);have au:args.toArray.size<=fn.ntmps:=by simp_all
 have:=h _ F p {tmps:=args.toArray++Array.replicate (fn.ntmps-args.toArray.size) undef,defers:=[]} j ⟨by simp_all,rfl,λak v E=> ?_⟩ ae.base
 ·refine lw (λE am j h=> ?_) this;cases E with
  |normal=>
   obtain⟨C,M,W,τ,ag,al,aa,ab,G,I,K,O,Q⟩:=h;show LeavesInM _ _ _ _ _ _ _ _ _;rw[aa];exact Af ab G I K O C j Q.pX
  |ret=>
   obtain⟨C,M,W,τ,ag,al,aa,ab,G,I,K,O,Q⟩:=h;show LeavesInM _ _ _ _ _ _ _ _ _;rw[aa];exact Af ab G I K O C j Q.pX
  | _=>trivial
 ·obtain⟨av,rfl,ao⟩:=vW _ 0 ak v E;grind
def yo{I D E j M F post}(C)(W:g.base=I.base)(U:g.kG=mk C)(Z:fn.results=D.toArray)(h:jL P J M D E)(Q:∀h,G L h->G (iI C++M) h)(R:∀h,G M h->G (F::j) h)(Y:post (bG E) j):
  bc P (Oy P fn I F post) g n (.code .ret::aK) J L:=λae ag K O=>
 wpIn_ret (vN ⟨C,M,j,J,D,E,K.defers.trans U,K.e,Z,h,R,Y,⟨O.g.trans W,Q _ O.s⟩⟩)
def c0.s3(g:c0)(j:Nat):c0:={g with kG:=⟨.collected j,#[]⟩::g.kG}
def Ix{ak K assign body Y U W}{post:Option Code->List aO->Prop}[aw:b4 P Y](aP:g.gK=none)(aI:aY J ak=some (.func (.func Y) U.toArray W.toArray))
  (aH:∀(l C) (I) (tmps),tmps.size=n->eD J ⟨tmps,[]⟩->D P Y (U++[Value.func (.yield l) #[] #[]]++W).toArray (bz l (.loop ⟨.ready,none,I,tmps,K,assign,body,C⟩)::bz C (.deferred (some []))::L)
   λv ap=>∃am R E,am≠ .busy/\post R E/\ap=bz l (.loop ⟨am,R,I,tmps,K,assign,body,C⟩)::bz C (.deferred (some []))::E)
  (aA:∀C E,post none E->bc P B (g.s3 C) n aK J (bz C (.deferred (some []))::E))
  (aC:∀C ae E,post (some ae) E->bc P B (g.s3 C) n (.code ae::aK) J (bz C (.deferred (some []))::E)):
  bc P B g n (.code (.rangeFunc ak K assign body)::aK) J L:=λG j Q aL=>by
 show(Code.rangeFunc ak K _ _).wpIn _ 0 P _ G j;refine wpIn_rangeFunc λI _=> ?_;have aa:=(aL.tQ (.deferred (some []))).tQ (.loop {state:=.ready,pending:=none,fn:=I,tmps:=G.tmps,params:=K,assign:=assign,body:=body,defers:=j.heap.size});have al:=y8 (aH _ _ I _ Q.size (λao v O=>Q.e ao v O)) aa;rw[World.size_alloc]at aa al;have ay:=run_enterLoop_outer (P:=P) (w:=j) I G.tmps K assign body;generalize(j.alloc _).alloc _=Z at aa al ay;refine⟨j.heap.size+1,[⟨.collected j.heap.size,#[]⟩],Z,⟨.fn (.func Y) W.toArray,U.toArray++ #[Value.func (.yield (j.heap.size+1)) #[] #[]]⟩,Z,Y,(U++[Value.func _ _ _]++W).toArray,Z,?_,?_,λ_ _=>trivial,?_,(λO=>by cases O),(callsIn_wide).2 (al.mono ?_)⟩
 ·simp_all[jp]
 ·have ax:G.eval (.const _)=Value.func (.yield (j.heap.size+1)) #[] #[]:=rfl;simp only[resolve,Q.e.eval aI,lx,eJ,ax,fY,eS,lC]
 ·have:=aw.run (U++[Value.func (.yield (j.heap.size+1)) #[] #[]]++W).toArray Z;simpa[invoke]using this
 ·rintro O aQ ⟨v,ap,rfl,⟨am,R,E,aE,ar,rfl⟩,av⟩;refine⟨R,_,run_endLoop av.hV aE,?_⟩;have ag:=(av.eR (.loop ⟨.exhausted,R,I,G.tmps,K,assign,body,j.heap.size⟩)).mono λ_ s=>s.tail;have au:fo (g.s3 j.heap.size) n J {G with defers:=[⟨.collected j.heap.size,#[]⟩]++G.defers}:=⟨Q.size,by rw[Q.defers];rfl,λao v O=>Q.e ao v O⟩;cases R with
  |none=>exact aA _ _ ar _ _ au ⟨ag.g,ag.s⟩
  |some ae=>exact aC _ ae _ ar _ _ au ⟨ag.g,ag.s⟩
def ic(P:Program)(l:Nat)(args:cs)(L:aG)(post:Bool->List aO->Prop):Prop:=
 ∀g F j,a4 g (F::L) j->∃fn G D E,(Instr.yield l args.toArray).run P j=.ok (.round l fn G D E) j/\
  RoundIn G3 0 P l fn G D E j λI K=>∃b C,I=.returned (.bool b)/\post b C/\a4 g (F::C) K
def ic.frame{l args L M post}(C)(h:ic P l args L post)(Q:∀h,G M h->G (C++L) h):ic P l args M λb E=>∃j,post b j/\E=C++j:=by
 intro g F Z U;have aa:=U.mono λae s=>G.join (N:=F::C) (s.ep Q);obtain⟨fn,Y,I,K,D,R⟩:=h g _ Z aa;exact⟨fn,Y,I,K,D,R.mono λD ag ⟨b,j,O,W,q⟩=>⟨b,_,O,⟨j,W,rfl⟩,q.mono λ_ s=>G.part s⟩⟩
def ic.mono{l args L post D}(h:ic P l args L post)(O:∀b j,post b j->D b j):ic P l args L D:=λg F Y R=>by
 obtain⟨fn,W,G,I,C,Q⟩:=h g F Y R;exact⟨fn,W,G,I,C,Q.mono λC Z ⟨b,E,K,U,q⟩=>⟨b,E,K,O _ _ U,q⟩⟩
def ym{D q I W Y U K R Q l args post}(ap:ef n D=true)
  (ar:aY J q=some (.func (.yield l) #[] #[])) (ao:kf J I=some args) (av:ic P l args L post) (h:∀b C,post b C->c3 P B g n R Q aK (fb J D (.bool b)) C):
  c3 P B g n R (⟨D,.call ⟨.value q,I.toArray,W⟩,Y,U,K,none⟩::Q) aK J L:=λZ G E au=>by
 refine wpListIn_plain p λay al=>⟨λ_ _=>trivial,?_⟩;obtain⟨ak,ax,ae,ag,O,am⟩:=av g _ G au.Pz;rw[Oper.semAt_eq _ _ _ (λaA j=>by grind)];have j:(execOp Z.eval ⟨D,.call ⟨.value q,I.toArray,W⟩,Y,U,K,none⟩).run P G=.ok (.round l ak ax ae ag) G:=by
  simp[execOp,resolve,E.e.eval ar,lx,invoke,fY,mz E.e ao];simp_all
 rw[j];refine⟨(λj=>by cases j),RoundIn.mono am λj aC ⟨b,C,O,aw,q⟩=> ?_⟩;subst O;exact al _ _ (h b C aw _ _ (E.kO _ ap) (q.mono λ_ s=>s.tail))
def va(g:c0)(F:aO)(l:Nat)(C:LoopState->Option Code->Obj)(post:Bool->List aO->Prop):Exit->Act->World->Prop
 | .normal,_,D=>∃j,post true (bz l (C .ready none)::j)/\a4 g (F::bz l (C .busy none)::j) D
 | .ret,_,D=>∃j,post false (bz l (C .done (some .ret))::j)/\a4 g (F::bz l (C .busy none)::j) D
 | .exit id,_,D=>∃j,post false (bz l (C .done (some (.exit id)))::j)/\a4 g (F::bz l (C .busy none)::j) D
 | _,_,_=>False
def ir{F l j post}:l1 (va g F l j post):=λ_ _ _ h=>h
def RB{ι:Type}{τ:ι->bW}{M:ι->List aO}{Fy:ι->Prop}{l Q:Nat}{O:FuncId}{E:Array Value}{D:Tmp}{W:Value}{G I:Code}{am:bW}{post:Bool->List aO->Prop}{K:LoopState->Option Code->Obj}(aw:K=λaP q=> .loop ⟨aP,q,O,E,#[D],G,I,Q⟩)(aC:E.size=n)(aL:eD am ⟨E,[]⟩)(ax:dT D n=true)
  (au:∀g F,g.gK=some l->g.kG=[]->bc P (λ_ _ _=>False) g n [.code G,.inv (λao ag=>∃y,Fy y/\fo g n (τ y) ao/\a4 g (F::bz l (K .ready none)::M y) ag)] ((D,W)::am) (F::bz l (K .ready none)::L))
  (av:∀g F y,Fy y->g.gK=some l->g.kG=[]->bc P (va g F l K post) g n [.code I] (τ y) (F::bz l (K .busy none)::M y)):
  ic P l [W] (bz l (K .ready none)::L) post:=λg F ag ae=>by
 subst aw;have aE:=ae.mono λ_ s=>s.swap;have aS:=run_yield (P:=P) (args:=[W].toArray) aE.hV p;refine⟨O,E.setIfInBounds D W,G,I,by simp_all,roundIn_of_wpIn trivial ?_⟩;have ay:fo ⟨g.os,g.tape,g.output,[],some l⟩ n _ _:=⟨aC,rfl,aL⟩;have aa:=au _ F p p _ ag (ay.put W ax) ⟨ae.g,ae.s⟩;refine lw (λY ap aV h=> ?_) aa;cases Y with
 |normal=>
  obtain⟨y,ar,aA,aH⟩:=h;have al:=aH.mono λ_ s=>s.swap;refine⟨_,run_beginRound al.hV p,?_⟩;have aI:=(al.eR (.loop ⟨.busy,none,O,E,#[D],G,I,Q⟩)).mono λ_ s=>s.swap;have ab:=av _ F y ar p p ap _ aA aI;refine lw (λY aQ aW Z=> ?_) ab;cases Y with
  |normal=>
   obtain⟨ak,R,U⟩:=Z;have j:=U.mono λ_ s=>s.swap;have C:=(j.eR (.loop ⟨.ready,none,O,E,#[D],G,I,Q⟩)).mono λ_ s=>s.swap;exact⟨_,_,run_endRound _ j.hV,true,_,rfl,R,⟨C.g,C.s⟩⟩
  |ret=>
   obtain⟨ak,R,U⟩:=Z;have j:=U.mono λ_ s=>s.swap;have C:=(j.eR (.loop ⟨.done,some .ret,O,E,#[D],G,I,Q⟩)).mono λ_ s=>s.swap;exact⟨_,_,run_endRound (some .ret) j.hV,false,_,rfl,R,⟨C.g,C.s⟩⟩
  |exit id=>
   obtain⟨ak,R,U⟩:=Z;have j:=U.mono λ_ s=>s.swap;have C:=(j.eR (.loop ⟨.done,some (.exit id),O,E,#[D],G,I,Q⟩)).mono λ_ s=>s.swap;exact⟨_,_,run_endRound (some (.exit id)) j.hV,false,_,rfl,R,⟨C.g,C.s⟩⟩
  | _=>trivial
 | _=>exact h.elim
def Rl(P:Program)(n:Nat)(J:bW)(l:Nat)(I:Tmp)(E G:Code)(j:LoopState->Option Code->Obj):Prop:=
 ∀{ι:Type} {τ:ι->bW} {M:ι->List aO} {Fy:ι->Prop} {C:Value} {L:aG} {post:Bool->List aO->Prop},
  (∀g F,g.gK=some l->g.kG=[]->bc P (λ_ _ _=>False) g n [.code E,.inv (λD K=>∃y,Fy y/\fo g n (τ y) D/\a4 g (F::bz l (j .ready none)::M y) K)] ((I,C)::J) (F::bz l (j .ready none)::L))->
  (∀g F y,Fy y->g.gK=some l->g.kG=[]->bc P (va g F l j post) g n [.code G] (τ y) (F::bz l (j .busy none)::M y))->
  ic P l [C] (bz l (j .ready none)::L) post
def Cf{Y}{E:Tmp}{K O Q U W}{post:Option Code->List aO->Prop}[ay:b4 P Q](au:g.gK=none)(ap:dT E n=true)(ar:aY J Y=some (.func (.func Q) U.toArray W.toArray))
  (ao:∀(l j) (I),Rl P n J l E K O I->D P Q (U++[Value.func (.yield l) #[] #[]]++W).toArray (bz l (I .ready none)::bz j (.deferred (some []))::L)
   λv Z=>∃G q C,G≠ .busy/\post q C/\Z=bz l (I G q)::bz j (.deferred (some []))::C)
  (al:∀j C,post none C->bc P B (g.s3 j) n aK J (bz j (.deferred (some []))::C))
  (am:∀j R C,post (some R) C->bc P B (g.s3 j) n (.code R::aK) J (bz j (.deferred (some []))::C)):
  bc P B g n (.code (.rangeFunc Y #[E] K O)::aK) J L:=
 Ix au ar (λl j ae ax av aw=>ao l j (λG q=> .loop ⟨G,q,ae,ax,#[E],K,O,j⟩) λag ak=>RB p av aw ap ag ak) al am
def yq{ι:Type}{τ:ι->bW}{M:ι->List aO}{Fy:ι->Prop}{F l j}(y)(E:Fy y)(O:r8 J (τ y))(D:∀h,G L h->G (F::bz l j::M y) h):
  bc P B g n [.inv (λC Q=>∃y,Fy y/\fo g n (τ y) C/\a4 g (F::bz l j::M y) Q)] J L:=λ_ _ I K=>⟨y,E,I.sub O,K.mono D⟩
def yp{F l C post}(j)(E:post true (bz l (C .ready none)::j))(D:∀h,G L h->G (F::bz l (C .busy none)::j) h):
  bc P (va g F l C post) g n [] J L:=λ_ _ _ I=>⟨j,E,I.mono D⟩
end
section
class cW (j:Type)where
 v:j->Value
@[reducible] def I.qT (j:I):Value:=.agg #[.int .i64 j.id,.int .i64 j.x,.int .i64 j.y]
@[reducible] instance:cW I:=⟨I.qT⟩
@[reducible] instance:cW Bool:=⟨.bool⟩
@[reducible] instance:cW Int:=⟨.int .i64⟩
instance:Inhabited I:=⟨⟨0,0,0⟩⟩
class lK (C:Program) (D:TypeId) (j:outParam (TypeId×TypeId)):Prop where
 h:C.underlying D=some (.map j.1 j.2)
def z9(j:Program)(E:TypeId):Bool:=
 match j.underlying E with
 |some (.struct D)=>D.toList.all λC=>decide (C.offset<3)&&(match j.underlying C.type with|some (.int _)=>true| _=>false)
 | _=>false
class yw (j:Program) (C:TypeId):Prop where
 h:z9 j C=true
def PS(j:Program)(C:TypeId):Bool:=
 match j.info? C with
 |some D=>(match D.zero with|some (.bool false)=>true| _=>false)
 |none=>false
class IT (j:Program) (C:TypeId):Prop where
 h:PS j C=true
def PT(j:Program)(C:TypeId):Bool:=
 match j.info? C with
 |some D=>(match D.zero with|some (.agg ⟨[.int .i64 0,.int .i64 0,.int .i64 0]⟩)=>true| _=>false)
 |none=>false
class CD (j:Program) (C:TypeId):Prop where
 h:PT j C=true
class tM (D:Program) (E:TypeId) (j:Type) [cW j] [Inhabited j]:Prop where
 run:∀C,(zeroValue E).run D C=.ok (cW.v (default:j)) C
section
variable{P:Program}{k e:TypeId}
instance[j:IT P e]:tM P e Bool:=⟨λG=>by
 have h:=j.h;unfold PS at h;split at h
 ·rename_i E C
  split at h
  ·rename_i D
   simp[zeroValue,typeInfo,C,D];rfl
  ·cases h
 ·cases h⟩
instance[j:CD P e]:tM P e I:=⟨λG=>by
 have h:=j.h;unfold PT at h;split at h
 ·rename_i E C
  split at h
  ·rename_i D
   simp[zeroValue,typeInfo,C,D];rfl
  ·cases h
 ·cases h⟩
def Vz(j:I){o}(h:o<3):∃n:Int,(#[Value.int .i64 j.id,Value.int .i64 j.x,Value.int .i64 j.y]:Array Value)[o]?=some (.int .i64 n):=by rcases(by omega:o=0\/o=1\/o=2)with rfl|rfl|rfl<;>exact⟨_,rfl⟩
def YG[R:yw P k](j E)(C:I):(vp E 10000 k C.qT).run P j=.ok () j:=by
 have h:=R.h;unfold z9 at h;split at h
 ·rename_i U O
  rw[show(10000:Nat)=9998+1+1 from rfl,vp];simp[run_underlying O,db];rw[<- Array.forIn_toList];have G:=List.all_eq_true.1 h;clear h O;generalize U.toList=l at G
  induction l with
  |nil=>rfl
  |cons D l Y=>
   have J:=G D Q;simp[decide_eq_true_eq]at J;obtain⟨aa,ab⟩:=J;obtain⟨n,W⟩:=Vz C aa;split at ab
   ·rename_i q K
    have Z:(part D.type #[.int .i64 C.id,.int .i64 C.x,.int .i64 C.y] D.offset).run P j=.ok (.int .i64 n) j:=by
     simp[part,isAgg,run_underlying K,W]
    have ae:(vp E (9998+1) D.type (.int .i64 n)).run P j=.ok () j:=by
     rw[vp];simp[run_underlying K]
    simp_all
   trivial
 trivial
variable{bC d9:Type}[cW bC][cW d9][DecidableEq bC]
def jU(C:bC):List (bC×d9)->Nat->Option (Nat×Value)
 | [],_=>none
 |x::M,j=>if C=x.1 then some (j,cW.v x.2)else jU C M (j+1)
def my(j:bC×d9):Value×Value:=(cW.v j.1,cW.v j.2)
def mx(e:MapEntry):Value×Value:=(e.key,e.val)
def OJ[rG P k 3](D:World)(j:I):∀(E:List MapEntry) (M:List (I×d9)) (C:Nat),E.map mx=M.map my->(BE k j.qT E C).run P D=.ok (jU j M C) D
 | [],M,C,h=>by
  have:M=[]:=by simp_all
  subst this;rfl
 |e::E,[],C,h=>by trivial
 |e::E,G::M,C,h=>by
  simp[mx,my,rE]at h;obtain⟨⟨aa,ab⟩,J⟩:=h;have q:=(Dx (P:=P) (T:=k) (j:=[j.id,j.x,j.y]) (C:=[G.1.id,G.1.x,G.1.y]) p p D).1;have Q:(Op.equal k j.qT e.key).run P D=.ok (decide (j=G.1)) D:=by
   rw[aa];refine Eq.trans q ?_
   congr 1
   refine decide_eq_decide.2 ?_;constructor
   ·intro h;cases j;simp_all
   simp_all
  have O:=OJ D j E M (C+1) J;unfold BE jU
  by_cases K:j=G.1
  ·simp_all
  simp_all
class tG (P:Program) (k:TypeId) (bC:Type) [cW bC] [DecidableEq bC]:Prop where
 dn:∀(C:World) (E:Bool) (j:bC),(Instr.checkKey E 10000 k (cW.v j)).run P C=.ok () C
 find:∀{d9:Type} [cW d9] (C:World) (j:bC) (D:List MapEntry) (M:List (bC×d9)),D.map mx=M.map my->(Instr.findKey k (cW.v j) D).run P C=.ok (jU j M 0) C
 same:∀j:bC,Instr.sameBits 10000 (cW.v j) (cW.v j)=true
instance[rG P k 3][G:yw P k]:tG P k I where
 dn:=λD J j=>YG D J j
 find:=λD j C M h=>by
  have E:=G.h;unfold z9 at E;split at E
  ·rename_i K O
   have q:=OJ (P:=P) (k:=k) D j C M 0 h;unfold G6;simp only[cg,run_underlying O,db];cases C with
   |nil=>
    have:M=[]:=by cases M<;>simp at h ⊢
    subst this;simp[vq,jU]
   |cons e C=>
    show(match vq (.struct K) j.qT (e::C) 0 with|some Q=>(pure Q:Sem _)|none=>BE k j.qT (e::C)).run P D= _;simpa[vq,x4]using q
  ·cases E
 same:=λj=>by
  show x3 10000 j.qT j.qT=true;rw[show(10000:Nat)=9998+1+1 from rfl];simp[x3]
class Cm (P:Program) (k:TypeId):Prop where
 h:P.underlying k=some (.int .i64)
theorem MN(D:Int):∀(j:List MapEntry) (M:List (Int×d9)) (C:Nat),j.map mx=M.map my->vq (.int .i64) (.int .i64 D) j C=some (jU D M C)
 | [],M,C,h=>by
  have:M=[]:=by simp_all
  subst this;rfl
 |e::j,[],C,h=>by trivial
 |e::j,G::M,C,h=>by
  simp[mx,my,rE]at h;obtain⟨⟨aa,ab⟩,I⟩:=h;unfold vq jU;rw[aa];show(match x4 _ _ (.int _ _)with|some true=> _|some false=> _|none=> _)= _
  by_cases E:D=G.1
  ·simp[x4,E,ab]
  ·have e:(D==G.1)=false:=by simp_all
   simp[x4,e,E];exact MN D j M _ I
instance[C:Cm P k]:tG P k Int where
 dn:=λE G j=>by
  rw[show(10000:Nat)=9999+1 from rfl,vp];simp[run_underlying C.h]
 find:=λE j D M h=>by
  unfold G6;simp only[cg,run_underlying C.h,db];rw[show(cW.v j:Value)=.int .i64 j from rfl,MN j D M 0 h];rfl
 same:=λj=>by
  show x3 10000 (.int .i64 j) (.int .i64 j)=true;rw[show(10000:Nat)=9999+1 from rfl];simp[x3]
end
variable{bC d9:Type}[cW bC][cW d9][DecidableEq bC]
def c1(j:bC):List (bC×d9)->Option d9
 | []=>none
 |x::M=>if j=x.1 then some x.2 else c1 j M
def eY(C:bC)(j:d9):List (bC×d9)->List (bC×d9)
 | []=>[(C,j)]
 |x::M=>if C=x.1 then(x.1,j)::M else x::eY C j M
def zS(j:bC):∀(M:List (bC×d9)) (D:Nat),(jU j M D=none/\c1 j M=none/\∀C,eY j C M=M++[(j,C)])\/∃E b,jU j M D=some (D+E,cW.v b)/\c1 j M=some b/\M[E]?=some (j,b)/\∀C,eY j C M=M.set E (j,C)
 | [],D=> .inl ⟨rfl,rfl,λ_=>rfl⟩
 |x::M,D=>by
  by_cases h:j=x.1
  ·right;refine⟨0,x.2,by simp[jU,h],by simp[c1,h],by grind,λC=>by simp[eY,h]⟩
  ·rcases zS j M (D+1)with ⟨aa,ab,G⟩|⟨E,b,aa,ab,G,I⟩
   ·simp_all[jU,c1,eY]
   ·exact .inr ⟨E+1,b,by simp[jU,h,aa];omega,by simp[c1,h,ab],by assumption,λC=>by simp[eY,h,I]⟩
structure j6 (j:Array MapEntry) (C:Nat) (M:List (bC×d9)):Prop where
 rd:j.toList.map mx=M.map my
 old:∀D∈j.toList,D.born<C
 eQ:(j.toList.map (·.born)).Nodup
def co(b:Nat)(M:List (bC×d9)):aO:=λh=>∃y:Array MapEntry×Nat,j6 y.1 y.2 M/\bz b (.map y.1 y.2) h
theorem j6.len{j:Array MapEntry}{C:Nat}{M:List (bC×d9)}(h:j6 j C M):j.size=M.length:=by
 have:=congrArg oT h.rd;simp_all
section
variable{P:Program}{g:c0}{L aaz:aG}{w:World}{b:Nat}{M:List (bC×d9)}
def Av(D:a4 g (co b M::L) w):∃C j,j6 C j M/\a4 g (bz b (.map C j)::L) w:=by
 obtain⟨aa,ab,E,I,J,⟨y,G,o⟩,l⟩:=D.s;exact⟨y.1,y.2,G,D.g,aa,ab,E,I,J,o,l⟩
def uR{C:Array MapEntry}{j:Nat}(G:j6 C j M)(D:a4 g (bz b (.map C j)::L) w):a4 g (co b M::L) w:=by
 obtain⟨aa,ab,E,I,J,o,l⟩:=D.s;exact⟨D.g,aa,ab,E,I,J,⟨(C,j),G,o⟩,l⟩
structure cY (L:aG) (b:Nat) (M:List (bC×d9)):Prop where
 f:∀h,G L h->∃C j,j6 C j M/\h b=some (.map C j)
def cY.here:cY (co b M::L) b M:=⟨λh s=>by
 obtain⟨aa,ab,D,C,E,⟨y,j,o⟩,l⟩:=s;exact⟨y.1,y.2,j,C _ _ o.eq⟩⟩
theorem cY.skip{j:aO}(h:cY L b M):cY (j::L) b M:=⟨λC s=>h.f C s.tail⟩
theorem j6.put{C:Array MapEntry}{Q:Nat}(J:j6 C Q M)(E:bC)(d:d9){j:Nat}{W:d9}(U:M[j]?=some (E,W)):j6 (C.modify j λD=> {D with key:=cW.v E,val:=cW.v d}) Q (M.set j (E,d)):=by
 have ae:=J.len;have K:(C.modify j _).toList=C.toList.modify j λD=> {D with key:=cW.v E,val:=cW.v d}:=Array.toList_modify ..;refine⟨?_,?_,?_⟩
 ·rw[K];apply tj;intro I;have:=congrArg (λl=>l[I]?) J.rd;simp only[List.getElem?_map,HJ,List.getElem?_set]at this ⊢
  by_cases G:j=I
  ·subst G;rw[U]at this;have Z:j<M.length:=(jf.1 U).1;simp only[Z]at this ⊢;cases O:C.toList[j]? with
   |none=>simp_all
   |some D=>rfl
  simp_all
 ·intro D O;rw[K]at O;obtain⟨I,G⟩:=List.mem_iff_getElem?.1 O;rw[HJ]at G;cases R:C.toList[I]? with
  |none=>simp_all
  |some Y=>
   rw[R]at G;have:=J.old Y (kZ R);grind
 ·rw[K];have:(C.toList.modify j λD=> {D with key:=cW.v E,val:=cW.v d}).map (·.born)=C.toList.map (·.born):=by
   apply tj;grind
  rw[this];exact J.eQ
def j6.push{I:Array MapEntry}{D:Nat}(C:j6 I D M)(J:bC)(E:d9):j6 (I.push {key:=cW.v J,val:=cW.v E,born:=D}) (D+1) (M++[(J,E)]):=by
 refine⟨?_,?_,?_⟩
 ·rw[Bz,gM,gM,C.rd];rfl
 ·intro G j;rw[Bz]at j;rcases cT.1 j with j|j
  ·have:=C.old G j;omega
  simp_all
 ·rw[Bz,gM];refine List.nodup_append.2 ⟨C.eQ,Q,λU R W Y G=> ?_⟩;obtain⟨K,O,rfl⟩:=jg.1 R;have:=C.old K O;simp_all
end
end
section
open Go.ChangeMaps (setBlock)
section
variable{P:Program}{g:c0}{L j5:aG}{J:bW}{d:Option Nat}{aQ T cE k e:TypeId}{a3:String}{a2:Array Edge}{a0:Option (Nat×Bool)}{x y z:Operand}{b:Nat}{bC d9:Type}[cW bC][cW d9][DecidableEq bC]{M:List (bC×d9)}
theorem xJ{j b E D}(h:j.heap[b]?=some (.map E D))(C):(setObj b C).run P j=.ok () (j.putObj b C):=by simp[setObj,Hk,h,World.putObj]
theorem qK{j b D C}(h:j.heap[b]?=some (.map D C)):(getObj b).run P j=.ok (.map D C) j:=by simp[getObj,Hk,h]
def wr:cc P g L J ⟨d,.makeMap T none,aQ,a3,a2,a0⟩ λG C=>∃b,G=.map (some b)/\C=co b ([]:List (bC×d9))::L:=λO j U E I K D=>by
 have R:(Instr.makeMap T none).run P j=.ok (.map (some j.heap.size)) (j.alloc (.map #[] 0)):=by
  rfl
 exact D _ _ _ ⟨_,rfl,rfl⟩ (uR ⟨rfl,Q,Q⟩ (E.tQ _))
def us{j:bC}[G:lK P T (k,e)][D:tG P k bC][Inhabited d9][I:tM P e d9](R:aY J x=some (.map (some b)))(U:aY J y=some (cW.v j))(O:cY L b M):
  bf P L J ⟨d,.lookup T x y true,aQ,a3,a2,a0⟩ (.tuple #[cW.v ((c1 j M).getD default),.bool (c1 j M).isSome]):=λZ Y E Q=>by
 obtain⟨ak,ag,W,C⟩:=O.f _ Q;have C:=C;simp[execOp,E.eval R,E.eval U];simp[G9,cg,run_underlying G.h,db,qK C,eJ,D.dn,D.find Y j _ M W.rd];rcases zS j M 0 with ⟨aa,ab,K⟩|⟨am,ae,aa,ab,K,al⟩
 ·simp[aa,ab,I.run]
 simp_all
def pv{j:bC}{v:d9}[Z:lK P T (k,e)][E:tG P k bC](ag:aY J x=some (.map (some b)))(ak:aY J y=some (cW.v j))(al:aY J z=some (cW.v v))(ar:aN (co b M) L j5):
  cc P g L J ⟨d,.mapUpdate T x y z,aQ,a3,a2,a0⟩ λaw am=>aw=undef/\am=co b (eY j v M)::j5:=λaA D C av ax ay ae=>by
 obtain⟨I,Q,K,W⟩:=Av (av.mono λ_=>G.perm ar.perm);have O:=W.hV;unfold dv;rcases zS j M 0 with ⟨aa,ab,R⟩|⟨Y,aC,aa,ab,R,ao⟩
 ·have U:(x2 T (.map (some b)) (cW.v j) (cW.v v)).run P D=.ok () (D.putObj b (.map (I.push {key:=(cW.v j),val:=cW.v v,born:=Q}) (Q+1))):=by
   simp only[x2,cg,run_underlying Z.h,db,qK O,E.dn,E.find D j I.toList M K.rd,aa,xJ O]
  simp only[execOp,C.eval ag,C.eval ak,C.eval al,cg,U,db,eJ];exact ae _ _ _ ⟨rfl,rfl⟩ (R v▸uR (K.push j v) (W.eR _))
 ·have ap:(I[Y]?).map (·.key)=some (cW.v j):=by
   have:=congrArg (λl=>l[Y]?) K.rd;grind[rD,mx,my,rE]
  have au:=E.same j;have U:(x2 T (.map (some b)) (cW.v j) (cW.v v)).run P D=.ok () (D.putObj b (.map (I.modify Y λe=> {e with key:=(cW.v j),val:=cW.v v}) Q)):=by
   simp only[x2,cg,run_underlying Z.h,db,qK O,E.dn,E.find D j I.toList M K.rd,aa,iQ,ap,Option.getD_some,Instr.keyThatStays,au,if_true,eJ,xJ O]
  simp only[execOp,C.eval ag,C.eval ak,C.eval al,cg,U,eJ];exact ae _ _ _ ⟨rfl,rfl⟩ (ao v▸uR (K.put j v R) (W.eR _))
def zH[D:lK P T (k,e)](Q:aY J x=some (.map (some b)))(I:cY L b M):bf P L J ⟨d,.call ⟨.builtin .len,#[x],#[T]⟩,aQ,a3,a2,a0⟩ (j (M.length:Nat)):=λW U K O=>by
 obtain⟨G,E,R,C⟩:=I.f _ O;have C:U.heap[b]?=some (.map G E):=C;simp only[execOp,resolve,fY,eS,K.eval Q];simp[invoke,builtin,Builtin.len_,run_underlying D.h,qK C,goInt,R.len]
def Tg[E:lK P T (k,e)](Z:aY J x=some (.map (some b)))(R:aN (co b M) L j5):
  cc P g L J ⟨d,.call ⟨.builtin .clear,#[x],#[T]⟩,aQ,a3,a2,a0⟩ λae I=>ae=.tuple #[]/\I=co b ([]:List (bC×d9))::j5:=λal D W Y ag ak O=>by
 obtain⟨am,K,ao,C⟩:=Av (Y.mono λ_=>G.perm R.perm);have j:=C.hV;unfold dv;have U:(kW #[T] aQ #[.map (some b)]).run P D=.ok (.tuple #[]) (D.putObj b (.map #[] K)):=by
  simp[kW,run_underlying E.h,qK j,xJ j]
 simp[execOp,resolve,fY,eS,lC,W.eval Z,cg,eJ,db,invoke,builtin,U];exact O _ _ _ ⟨rfl,rfl⟩ (uR ⟨rfl,Q,Q⟩ (C.eR _))
def jn(j:bC):List (bC×d9)->List (bC×d9)
 | []=>[]
 |x::M=>if j=x.1 then M else x::jn j M
def K2(C:bC):∀(M:List (bC×d9)) (j:Nat),(jU C M j=none/\jn C M=M)\/∃D v,jU C M j=some (j+D,v)/\D<M.length/\jn C M=M.eraseIdx D
 | [],j=> .inl ⟨rfl,rfl⟩
 |x::M,j=>by
  by_cases h:C=x.1
  ·simp_all[jU,jn]
  ·rcases K2 C M (j+1)with ⟨aa,ab⟩|⟨D,v,aa,ab,E⟩
   ·simp_all[jU,jn]
   ·exact .inr ⟨D+1,v,by simp[jU,h,aa];omega,by simp_all,by simp[jn,h,E]⟩
theorem map_eraseIdx{D E:Type}(C:D->E):∀(l:List D)(j),(l.eraseIdx j).map C=(l.map C).eraseIdx j
 | [],_=>rfl
 | _:: _,0=>rfl
 |x::l,j+1=>by simp[map_eraseIdx C l j]
theorem j6.del{C:Array MapEntry}{G:Nat}(D:j6 C G M){j:Nat}(K:j<M.length):j6 (C.eraseIdxIfInBounds j) G (M.eraseIdx j):=by
 have O:=D.len;have E:(C.eraseIdxIfInBounds j).toList=C.toList.eraseIdx j:=by
  simp
 refine⟨?_,?_,?_⟩
 ·rw[E,map_eraseIdx,map_eraseIdx,D.rd]
 ·intro e I;rw[E]at I;exact D.old e (List.mem_of_mem_eraseIdx I)
 ·rw[E];exact((List.eraseIdx_sublist _ _).map _).nodup D.eQ
def Kb{j:bC}[U:lK P T (k,e)][E:tG P k bC](ag:aY J x=some (.map (some b)))(ak:aY J y=some (cW.v j))(ao:aN (co b M) L j5):
  cc P g L J ⟨d,.call ⟨.builtin .delete,#[x,y],#[T,cE]⟩,aQ,a3,a2,a0⟩ λau al=>au=.tuple #[]/\al=co b (jn j M)::j5:=λax C O ap av aw Z=>by
 obtain⟨I,W,Q,ae⟩:=Av (ap.mono λ_=>G.perm ao.perm);have K:=ae.hV;unfold dv;have Y:∀R,(vo #[T,cE] aQ #[.map (some b),cW.v j]).run P C=.ok (.tuple #[]) (C.putObj b R)->a4 g _ _:=λR _=>ae.eR R;rcases K2 j M 0 with ⟨aa,ab⟩|⟨ar,v,aa,ab,am⟩
 ·have D:(vo #[T,cE] aQ #[.map (some b),cW.v j]).run P C=.ok (.tuple #[]) (C.putObj b (.map I W)):=by
   simp[vo,run_underlying U.h,qK K,xJ K,E.dn,E.find C j I.toList M Q.rd,aa]
  simp only[execOp,resolve,fY,eS,lC,O.eval ag,O.eval ak,cg,eJ,db,invoke,builtin,D];exact Z _ _ _ ⟨rfl,rfl⟩ (ab.symm▸uR Q (Y _ D))
 ·have D:(vo #[T,cE] aQ #[.map (some b),cW.v j]).run P C=.ok (.tuple #[]) (C.putObj b (.map (I.eraseIdxIfInBounds ar) W)):=by
   simp[vo,run_underlying U.h,qK K,xJ K,E.dn,E.find C j I.toList M Q.rd,aa]
  simp only[execOp,resolve,fY,eS,lC,O.eval ag,O.eval ak,cg,eJ,db,invoke,builtin,D];exact Z _ _ _ ⟨rfl,rfl⟩ (am.symm▸uR (Q.del ab) (Y _ D))
structure Cw (j:Array MapEntry) (C E:Nat) (seen:Array Nat) (M I:List (bC×d9)) (q:Option (bC×d9)):Prop where
 ok:j6 j C M
 old:∀e∈j.toList,e.born<E
 le:E<=C
 left:(leftOf j seen).toList.map mx=I.map my
 last:∀G,q=some G->∃D∈j.toList,mx D=my G/\∃K:Array Nat,seen=K.push D.born
def gJ(C b:Nat)(M j:List (bC×d9))(q:Option (bC×d9)):aO:=λh=>∃y:Array MapEntry×Nat×Nat×Array Nat,Cw y.1 y.2.1 y.2.2.1 y.2.2.2 M j q/\G [bz C (.mapIter (some b) y.2.2.1 y.2.2.2 y.2.1),bz b (.map y.1 y.2.1)] h
variable{w:World}{r:Nat}{ay:List (bC×d9)}{q:Option (bC×d9)}
def Yy(D:a4 g (gJ r b M ay q::L) w):∃C j E seen,Cw C j E seen M ay q/\a4 g (bz r (.mapIter (some b) E seen j)::bz b (.map C j)::L) w:=by
 obtain⟨aa,ab,d,K,O,⟨y,I,o⟩,l⟩:=D.s;exact⟨y.1,y.2.1,y.2.2.1,y.2.2.2,I,D.g,G.head (λ_ e=>e▸o) ⟨aa,ab,d,K,O,rfl,l⟩⟩
def FK{C:Array MapEntry}{j D:Nat}{seen:Array Nat}(I:Cw C j D seen M ay q)(E:a4 g (bz r (.mapIter (some b) D seen j)::bz b (.map C j)::L) w):a4 g (gJ r b M ay q::L) w:=
 ⟨E.g,G.fold (N:=[_,_]) (λh n=>⟨(C,j,D,seen),I,n⟩) E.s⟩
def FL{h:iV}(s:G (gJ r b M ay q::L) h):G (co b M::L) h:=by
 obtain⟨aa,ab,d,D,E,⟨y,C,o⟩,l⟩:=s;have I:=G.head (λ_ e=>e▸o) ⟨aa,ab,d,D,E,rfl,l⟩;have O:=G.tail I;exact G.fold (λh n=>by
  obtain⟨Q,R,_,K,_,j,_⟩:=n;exact⟨(y.1,y.2.1),C.ok,⟨K _ _ j.eq⟩⟩) O
def Kg{j:aG}(C:∀h,G (co b M::L) h->G j h):∀h,G (gJ r b M ay q::L) h->G j h:=λh s=>C h (FL s)
structure o9 (L:aG) (r:Nat) (O:bC×d9):Prop where
 f:∀h,G L h->∃(C:Array MapEntry) (E K:Nat) (I:Array Nat) (j:MapEntry) (D:Nat),j∈C.toList/\mx j=my O/\(C.toList.map (·.born)).Nodup/\h D=some (.map C E)/\h r=some (.mapIter (some D) K (I.push j.born) E)
def o9.here{j:bC×d9}:o9 (gJ r b M ay (some j)::L) r j:=⟨λh s=>by
 obtain⟨aa,ab,d,D,al,⟨y,C,ag,ak,Z,U,W,O,ao,ap,ae,Y,am,Q,_⟩,l⟩:=s;obtain⟨I,K,E,R,G⟩:=C.last j p;refine⟨y.1,y.2.1,y.2.2.1,R,I,b,K,E,C.ok.eQ,D _ _ (W _ _ (Y _ _ Q.eq)),?_⟩;rw[<- G];exact D _ _ (U _ _ O.eq)⟩
def zt[E:lK P T (k,e)](W:aY J x=some (.map (some b)))(O:aN (co b M) L j5):
  cc P g L J ⟨d,.range T x,aQ,a3,a2,a0⟩ λv I=>∃r,v=(R r)/\I=gJ r b M M none::j5:=λae w Q U Y Z K=>by
 obtain⟨j,ag,C,D⟩:=Av (U.mono λ_=>G.perm O.perm);unfold dv;simp[execOp,Q.eval W,cg,run_range_map w T k e b j _ E.h D.hV,eJ];refine K _ _ _ ⟨_,rfl,rfl⟩ (FK ⟨C,C.old,bv _,?_,(λ_ h=>by grind)⟩ (D.tQ _));have:(leftOf j #[])=j:=by simp[leftOf]
 rw[this];exact C.rd
def Kd(Q:aY J x=some (R r))(aH:aN (gJ r b M ay q) L j5):
  cc P g L J ⟨d,.next x false,aQ,a3,a2,a0⟩ λv al=>(ay=[]/\v=.tuple #[.bool false]/\al=gJ r b M ay q::j5)\/∃K D W,ay=K++D::W/\v=.tuple #[.bool true,cW.v D.1,cW.v D.2]/\al=gJ r b M (K++W) (some D)::j5:=λaZ w au aL aV aW ao=>by
 obtain⟨I,E,U,seen,C,O⟩:=Yy (aL.mono λ_=>G.perm aH.perm);have aI:=O.hV;have aE:=(O.mono λ_ s=>s.swap).hV;unfold dv;rcases run_next_at (P:=P) w aQ r b _ _ _ I _ aI aE C.old C.le with ⟨a8,Z⟩|⟨j,ap,ae,aC,Z⟩
 ·simp only[execOp,au.eval Q,cg,Z,db,eJ];have ax:ay=[]:=by
   have:=congrArg oT C.left;grind
  exact ao _ _ _ (.inl ⟨ax,rfl,rfl⟩) (FK C O)
 ·simp only[execOp,au.eval Q,cg,Z,db,eJ];obtain⟨bb,bc⟩:=mem_left ap;obtain⟨ag,ak,Y⟩:=List.append_of_mem ap;have ar:=C.left;rw[Y,gM,eS]at ar;obtain⟨K,aX,a1,a9,aA⟩:=List.map_eq_append_iff.1 ar.symm;obtain⟨D,W,a5,bd,ba⟩:=List.map_eq_cons_iff.1 aA;have aO:a4 g (bz r (.mapIter (some b) U seen E)::bz b (.map I E)::j5) ae:=by
   rcases aC with rfl|rfl
   ·omega
   ·exact O.drew
  have aP:=aO.eR (.mapIter (some b) U (seen.push j.born) E);have aK:setBlock ae r (.mapIter (some b) U (seen.push j.born) E)=ae.putObj r (.mapIter (some b) U (seen.push j.born) E):=rfl;rw[aK];have am:j.key=cW.v D.1/\j.val=cW.v D.2:=by
   simp_all[mx,my]
  rw[am.1,am.2];refine ao _ _ _ (.inr ⟨K,D,W,by simp_all,rfl,rfl⟩) (FK ⟨C.ok,C.old,C.le,?_,λbf h=> ?_⟩ aP)
  ·have aw:(leftOf I (seen.push j.born)).toList=(leftOf I seen).toList.filter λx=>!(x.born==j.born):=by
    unfold leftOf;rw[By,By,List.filter_filter];grind
   have av:((leftOf I seen).toList.map (·.born)).Nodup:=by
    unfold leftOf;rw[By];exact(List.filter_sublist.map _).nodup C.ok.eQ
   rw[Y,gM,eS]at av;have aS:=(e4.nodup_iff.1 av);have be:=(ix.1 aS).1;rw[aw,Y,List.filter_append,List.filter_cons];have a6:ag.filter (λx=>!(x.born==j.born))=ag:=vx.2 λx Q=>by
    simp_all
   have a7:ak.filter (λx=>!(x.born==j.born))=ak:=vx.2 λx Q=>by
    simp_all
   grind
  grind
def zs(O:aY J x=some (R r))(G:aN (gJ r b M [] q) L j5):
  cc P g L J ⟨d,.next x false,aQ,a3,a2,a0⟩ λv j=>v=.tuple #[.bool false]/\j=gJ r b M [] q::j5:=λE w I K C D Q=>
 Kd O G E w I K C D λv W j h U=>by
  simp_all
def zr{E:bC×d9}(Y:aY J x=some (R r))(O:aN (gJ r b M (E::ay) q) L j5):
  cc P g L J ⟨d,.next x false,aQ,a3,a2,a0⟩ λv D=>∃C j W,E::ay=C++j::W/\v=.tuple #[.bool true,cW.v j.1,cW.v j.2]/\D=gJ r b M (C++W) (some j)::j5:=λK w Q U G I Z=>
 Kd Y O K w Q U G I λv ag D h ae=>by
  grind
def zI{j:bC}[G:lK P T (k,e)][D:tG P k bC][Inhabited d9][I:tM P e d9](R:aY J x=some (.map (some b)))(U:aY J y=some (cW.v j))(O:cY L b M):
  bf P L J ⟨d,.lookup T x y false,aQ,a3,a2,a0⟩ (cW.v ((c1 j M).getD default)):=λY w E Q=>by
 obtain⟨ag,ae,W,C⟩:=O.f _ Q;have C:=C;simp[execOp,E.eval R,E.eval U];simp[G9,cg,run_underlying G.h,db,qK C,eJ,D.dn,D.find w j _ M W.rd];rcases zS j M 0 with ⟨aa,ab,K⟩|⟨al,Z,aa,ab,K,ak⟩
 ·simp[aa,ab,I.run]
 simp_all
def zC{C:bC×d9}(Q:aY J x=some (R r))(I:o9 L r C):bf P L J ⟨d,.entry x,aQ,a3,a2,a0⟩ (.tuple #[cW.v C.1,cW.v C.2]):=λZ w K O=>by
 obtain⟨G,ae,ag,Y,E,D,U,j,W,aa,ab⟩:=I.f _ O;have aa:=aa;have ab:=ab;have:=run_entry_at (P:=P) w r D _ Y G _ E ab aa U W;simp[mx,my,rE]at j;simp[execOp,K.eval Q,cg,this,db,eJ,j.1,j.2]
end
end
structure be where
 k:Int
 ag:I
 s:I
@[reducible] def be.l (C:be):List Value:=[j C.k,j C.ag.id,j C.ag.x,j C.ag.y,j C.s.id,j C.s.x,j C.s.y]
@[reducible] def be.v (j:be):Value:=.agg j.l.toArray
@[reducible] def ci:I:=⟨0,0,0⟩
@[reducible] def pV:be:=⟨0,ci,ci⟩
def be.known(j:be):Bool:=decide (1<=j.k)&&decide (j.k<=4)
def be.iq(j:be):Bool:=decide (j.k=1)||decide (j.k=2)
def be.jN(j:be):Bool:=decide (j.k=1)||decide (j.k=3)
def be.id(j:be):Int:=if j.iq then j.ag.id else if j.k=3\/j.k=4 then j.s.id else 0
def oo(n:Int):Bool:=decide (1<=n)&&decide (n<=2147483647)
def be.hT(j:be):Int:=
 if j.known=false\/oo j.id=false then 1
 else if j.k=1/\(dF j.ag.x&&dF j.ag.y)=false then 2
 else if j.k=3/\(dF j.s.x&&dF j.s.y)=false then 2
 else if j.k=3/\j.s.y<j.s.x then 3 else 0
def dx(l:List I)(n:Int):Bool:=l.any λj=>decide (j.id=n)
def cA(C S:List I)(D:Int)(j:be):Int:=
 if j.hT≠0 then j.hT
 else if j.jN then(if dx (if j.iq then C else S) j.id then 5 else if D<=(C.length+S.length:Nat)then 4 else 0)
 else if dx (if j.iq then C else S) j.id then 0 else 6
def ds(l:List I)(j:I):List I:=(l.takeWhile λq=>decide (q.id<j.id))++j::(l.dropWhile λq=>decide (q.id<j.id))
def gE(l:List I)(n:Int):List I:=l.eraseP λj=>decide (j.id=n)
def zl(C:List I)(j:be):List I:=if j.k=1 then ds C j.ag else if j.k=2 then gE C j.ag.id else C
def zm(S:List I)(j:be):List I:=if j.k=3 then ds S j.s else if j.k=4 then gE S j.s.id else S
theorem pg(l j):(ds l j).Perm (j::l):=by grind[ds,ql]
theorem qs(l j):(ds l j).length=l.length+1:=by rw[(pg l j).length_eq];rfl
def hB(l:List I):Prop:=(l.map (·.id)).Nodup
theorem sl{l:List I}{n:Int}:dx l n=true<->n∈l.map (·.id):=by simp[dx,jg]
theorem Li{l j}(h:l.Perm j)(n):dx l n=dx j n:=by
 have:=(h.map (·.id)).mem_iff (a:=n);rw[Bool.eq_iff_iff,sl,sl];omega
def Lw{l j}(h:hB l)(C:dx l j.id=false):hB (ds l j):=by grind[hB,pg,sl]
def Lx{l n}(h:hB l):hB (gE l n):=((List.eraseP_sublist ..).map _).nodup h
theorem hB.inj{l}(h:hB l){j q}(E:j∈l)(G:q∈l)(D:j.id=q.id):j=q:=by
 induction l with
 |nil=>trivial
 |cons I l C=>
  unfold hB at h C;grind
theorem J7{l}(h:hB l){j}(J:j∈l):gE l j.id=l.erase j:=by
 induction l with
 |nil=>rfl
 |cons G l K=>
  have C:=h;unfold hB at C;rw[eS,ix]at C;unfold gE
  by_cases I:G=j
  ·simp_all
  ·have E:=(cQ.1 J).resolve_left λD=>I D.symm;have O:G.id≠j.id:=λD=>C.1 (D▸jg.2 ⟨j,E,rfl⟩);rw[List.eraseP_cons_of_neg (by simp_all),List.erase_cons_tail (by simp_all)];rw[<- K C.2 E];rfl
structure hH (M:List (Int×I)) (l:List I):Prop where
 k:∀j∈M,j.1=j.2.id
 ag:(M.map (·.2)).Perm l
theorem hH.nil:hH [] []:=⟨Q,.refl _⟩
theorem hH.len{M l}(h:hH M l):M.length=l.length:=by rw[<- h.ag.length_eq,List.length_map]
theorem qJ:∀(M:List (Int×I)) (n:Int),(∀x∈M,x.1=x.2.id)->((c1 n M=none/\dx (M.map (·.2)) n=false)\/∃p,c1 n M=some p/\p.id=n/\p∈M.map (·.2)/\dx (M.map (·.2)) n=true)
 | [],n,_=> .inl ⟨rfl,rfl⟩
 |x::M,n,h=>by
  by_cases j:n=x.1
  ·simp_all[c1,dx]
  ·rcases qJ M n (λy E=>h y (by simp_all))with ⟨aa,ab⟩|⟨p,aa,ab,C,D⟩
   ·grind[c1,dx]
   simp_all[c1,dx]
theorem hH.get{M l}(h:hH M l)(n):(c1 n M=none/\dx l n=false)\/∃ag,c1 n M=some ag/\ag.id=n/\ag∈l/\dx l n=true:=by
 rcases qJ M n h.k with ⟨aa,ab⟩|⟨ag,aa,ab,j,C⟩
 ·exact .inl ⟨aa,by rw[<- Li h.ag];omega⟩
 ·exact .inr ⟨ag,aa,ab,h.ag.mem_iff.1 j,by rw[<- Li h.ag];omega⟩
theorem hH.is{M l}(h:hH M l)(n):(c1 n M).isSome=dx l n:=by
 rcases h.get n with ⟨aa,ab⟩|⟨ag,aa,ab,j,C⟩
 ·simp_all
 simp_all
theorem xw{E G:Type}[DecidableEq E](j:E)(C:G):∀M:List (E×G),c1 j M=none->eY j C M=M++[(j,C)]
 | [],_=>rfl
 |x::M,h=>by
  by_cases D:j=x.1
  ·simp[c1,D]at h
  ·simp[c1,D]at h;simp[eY,D,xw j C M h]
theorem hH.put{M l}(h:hH M l){ag}(G:dx l ag.id=false):hH (eY ag.id ag M) (ds l ag):=by
 have C:c1 ag.id M=none:=by
  rcases h.get _ with ⟨aa,_⟩|⟨q,_,_,_,E⟩
  ·omega
  simp_all
 rw[xw _ _ _ C];refine⟨λD j=> ?_,?_⟩
 ·rcases cT.1 j with j|j
  ·exact h.k D j
  simp_all
 ·rw[gM];exact((h.ag.append_right _).trans List.perm_append_comm).trans (pg l ag).symm
def J6:∀(M:List (Int×I)) (n:Int) (j:I),c1 n M=some j->(M.map (·.2)).Perm (j::(jn n M).map (·.2))/\∀x∈jn n M,x∈M
 | [],n,j,h=>by cases h
 |x::M,n,j,h=>by
  by_cases C:n=x.1
  ·simp_all[c1,jn]
  ·simp[c1,C]at h;obtain⟨aa,ab⟩:=J6 M n j h;simp[jn,eS];grind
theorem hH.del{M l}(h:hH M l)(I:hB l){n ag}(j:c1 n M=some ag):hH (jn n M) (gE l n):=by
 obtain⟨aa,ab⟩:=J6 M n ag j;rcases h.get n with ⟨C,_⟩|⟨q,C,G,D,_⟩
 ·simp_all
 ·rw[C]at j;cases j;subst G;refine⟨λE J=>h.k E (ab E J),?_⟩;rw[J7 I D];have K:=aa.symm.trans (h.ag.trans (List.perm_cons_erase D));simp_all
section
attribute [local irreducible] G bf cc
def Ru(O Q n J W Y)(l q:List Int)(I)(ag:Rd I O n l)(ak:Rd I Q J q)(aI:n<=9223372036854775807):
  D E 36 #[.slice O n W,.slice Q J Y] I λv am=>v=.bool (decide (l=q))/\am=I:=by
 have aa:l.length=n:=ag.len bs;have ab:q.length=J:=ak.len bs;refine ap λg F=> ?_;refine af ?_;refine cp p (λau=> ?_) (λau=> ?_)
 ·refine aF ?_;refine cv ?_;refine bI ?_;exact⟨by simp[bG];intro h;subst h;omega,rfl⟩
 ·have R:n=J:=C;subst R;refine K ?_;refine af ?_;refine cJ (ι:=Nat) (λG=>[(0,.slice O n W),(1,.slice Q n Y),(5,j (G:Nat))]) (λ_=>F::I) (λG=>G<=n/\l.take G=q.take G) (λG=>n-G) 0 ⟨bu _,rfl⟩ a8 az ?_;rintro G ⟨aH,aK⟩;refine K ?_;refine af ?_;refine cp p (λav=> ?_) (λav=> ?_)
  ·obtain⟨ao,aw,rfl,ay⟩:=ag.at_ C;obtain⟨ar,ax,rfl,aA⟩:=ak.at_ C;have Z:l[G]?=some l[G]:=cb C;have U:q[G]?=some q[G]:=cb C;have aC:=(ay _ _ Z).at_ (i:=0) p;have aG:=(aA _ _ U).at_ (i:=0) p;have aL:l.take (G+1)=l.take G++[l[G]]:=gu C;have aO:q.take (G+1)=q.take G++[q[G]]:=gu C;generalize l[G]=al at*
   generalize q[G]=v at*
   have aP:aR I ⟨ao,aw+G*1,none⟩ (j al):=aC;have aQ:aR I ⟨ar,ax+G*1,none⟩ (j v):=aG;refine aW (aE [0,1,2,3,4,5,6,7] (.q 8 .nil)) ?_;iterate 9 refine ai ?_
   refine cK ?_;refine cp p (λae=> ?_) (λae=> ?_)
   ·refine aF ?_;refine cv ?_;refine bI ?_;exact⟨by simp[bG];intro h;subst h;exact ae (by rw[Z]at U;exact kw U),rfl⟩
   ·have R:al=v:=C;refine K ?_;refine af ?_;exact bM (G+1) ⟨C,by simp_all⟩ C a8 az
  ·have R:G=n:=C;have:l=q:=by grind
   refine bI ?_;exact⟨by simp[bG,this],rfl⟩
def ins(j:Int)(l:List Int):List Int:=l.takeWhile (λy=>decide (y<=j))++j::l.dropWhile (λy=>decide (y<=j))
def i9(l:List Int):List Int:=l.foldl (λo j=>ins j o) []
def aa2(j l):(ins j l).length=l.length+1:=by
 unfold ins;have:=congrArg oT (ql (p:=λy=>decide (y<=j)) (l:=l));grind
def UM(C l j)(D:j=(l.takeWhile (λy=>decide (y<=C))).length):ins C l=l.take j++[C]++l.drop j:=by grind[ql,ins]
theorem PC{C}:∀{l:List Int}{j},j< (l.takeWhile C).length->∃v,l[j]?=some v/\C v=true
 | [],j,h=>by trivial
 |a::l,j,h=>by
  rw[H0]at h;cases D:C a with
  |false=>simp_all
  |true=>
   rw[D]at h;cases j with
   |zero=>simp_all
   |succ j=>
    obtain⟨v,aa,ab⟩:=PC (by simpa using h);simp_all
theorem PB{j}:∀{l:List Int}{v},l[(l.takeWhile j).length]?=some v->j v=false
 | [],v,h=>by trivial
 |a::l,v,h=>by
  cases C:j a with
  |false=>
   simp_all
  |true=>
   rw[H0,C]at h;exact PB (by assumption)
def Rj(a0 n a4 l O)(be:Rd O a0 n l)(bQ:n<=100000):
  D E 69 #[.slice a0 n a4] O λv bf=>∃bb a5 bc,v=.slice bb (i9 l).length a5/\(i9 l).length<=a5/\a5<=maxLen/\bf=bc++O/\Rd (bc++O) bb (i9 l).length (i9 l):=by
 have aa:l.length=n:=be.len bs;refine ap λg F=> ?_;refine aS λbh=> ?_;refine af ?_;refine cJ (ι:=Nat×Nat×Nat×List Int) (λJ=>[(0,.slice a0 n a4),(3,.slice (ak J.2.1) J.2.2.2.length J.2.2.1),(4,j (J.1:Nat))]) (λJ=>own 3 1 (ak J.2.1) J.2.2.2.length J.2.2.1 (flat J.2.2.2)::F::O)
  (λJ=>J.1<=n/\J.2.2.2=i9 (l.take J.1)/\J.2.2.2.length=J.1/\J.2.2.2.length<=J.2.2.1/\J.2.2.1<=maxLen) (λJ=>n-J.1) (0,bh,0,[]) ⟨bu _,by rfl,rfl,bv _,bu _⟩ a8 az ?_
 rintro⟨U,b,R,G⟩ ⟨bm,bn,bp,aX,a6⟩;simp only at bm bn bp aX a6;dsimp only;have bq:=a6;unfold maxLen at bq;refine K ?_;refine af ?_;refine cp p (λbi=> ?_) (λbi=> ?_)
 ·obtain⟨aO,aQ,rfl,bC⟩:=be.at_ C;have bz:l[U]?=some l[U]:=cb C;have bT:i9 (l.take (U+1))=ins l[U] (i9 (l.take U)):=by
   grind[i9,gu]
  have bK:=(bC _ _ bz).at_ (i:=0) p;generalize l[U]=J at*
  have ba:aR O ⟨aO,aQ+U*1,none⟩ (j J):=bK;obtain⟨W,bB⟩:∃W,W=(G.takeWhile (λy=>decide (y<=J))).length:=⟨_,rfl⟩;have aY:W<=G.length:=by grind[BU]
  have bd:=UM J G W bB;have aL:Rd (own 3 1 (ak b) G.length R (flat G)::F::O) (ak b) G.length G:=aM.own (bU G) (λ_=>⟨b,rfl⟩);refine K ?_;refine af ?_;refine cJ (ι:=Nat) (λI=>[(0,.slice (some ⟨aO,aQ,none⟩) n a4),(3,.slice (ak b) G.length R),(4,j (U:Nat)),(5,j (I:Nat))]) (λ_=>own 3 1 (ak b) G.length R (flat G)::F::O) (λI=>I<=W) (λI=>W-I) 0 (bu _) a8 (λ_ s=>s) ?_;intro I bO
  by_cases a7:I<G.length
  ·obtain⟨_,_,bl,bE⟩:=aL.at_ C;cases bl;have bA:G[I]?=some G[I]:=cb a7;have bL:=(bE _ _ bA).at_ (i:=0) p;have aH:I<W->G[I]<=J:=λh=>by
    grind[PC]
   have aP:I=W->¬G[I]<=J:=λh=>by
    grind[PB]
   generalize G[I]=bJ at*
   have bV:aR (own 3 1 (ak b) G.length R (flat G)::F::O) ⟨b,0+I*1,none⟩ (j bJ):=bL;have bW:aR (own 3 1 (ak b) G.length R (flat G)::F::O) ⟨aO,aQ+U*1,none⟩ (j J):=ba.skip.skip;refine aW (aE [0,1,2,3,4,5,6,7,8,9,10,11,12,13] (.q 14 .nil)) ?_;iterate 5 refine ai ?_
   refine dB 17 p (decide_eq_true a7) ?_;iterate 10 refine ai ?_
   refine cK ?_;refine cp p (λbj=> ?_) (λbj=> ?_)
   ·refine aF ?_;refine cv ?_;iterate 3 refine ad ?_
    refine af ?_;exact bM (I+1) (by
     omega) (by
     omega) a8 (λ_ s=>s)
   ·have aw:I=W:=by
     omega
    subst aw;refine aF ?_;have bF:aM (own 3 1 (ak b) G.length R (flat G)::F::O) 1 (ak b) I (flat (G.take I)):=aL.take aY;have bI:aM (own 3 1 (ak b) G.length R (flat G)::F::O) 1 (some ⟨b,(if R=I then 0 else 0+I*1),none⟩) (G.length-I) (flat (G.drop I)):=aL.drop aY aX;have bN:aR (own 3 1 (ak b) G.length R (flat G)::F::O) ⟨aO,aQ+U*1,none⟩ (j J):=ba.skip.skip;have aV:0+I+1+(G.length-I)=(ins J G).length:=by grind
    have a9:(ins J G).length=U+1:=C;refine aW (aE [1,2,3,5,6,7,8,11,12,13] (.hc 0 (.hc 4 (.e 9 (.e 10 (.e 14 (.q 15 .nil)))) 9 (.e 4 (.e 10 (.e 14 (.q 15 .nil))))) 9 (.e 0 (.e 4 (.e 10 (.e 14 (.q 15 .nil))))))) ?_;iterate 2 refine ai ?_
    refine cV p (h5 p p ah) ?_;iterate 6 refine ai ?_
    refine cV p (ga p p ah ah) ?_;refine h1 ?x18_0 ?x18_1
    case' x18_1=>
     refine a1 p p p (e8 aZ p p) ?_;rintro _ _ ⟨ar,rfl,rfl⟩;refine bg ?_;refine an (a1 p p p jS ?_);rintro _ _ ⟨a2,rfl,rfl⟩;refine bg ?_;refine an (a1 p p p (bx p p aI (cn) ((cO _)) aZ Q ah ah) ?_);rintro _ _ ⟨al,au,rfl,ax,aA,aG,rfl⟩;refine bg ?_;refine an (a1 p p p (bx p p aI cn (cS p) aZ Q ah ah) ?_);rintro _ _ ⟨am,av,rfl,ay,aC,aK,rfl⟩;refine bg ?_;refine an (a1 p p p (bx p p aI (cn) ((cO _)) aZ Q ah ah) ?_);rintro _ _ ⟨ao,Z,rfl,Y,ae,ag,rfl⟩;refine bg ?_;refine ai ?_;refine dl ?_
    case' x18_0=>
     refine a1 p p p jS ?_;rintro _ _ ⟨a2,rfl,rfl⟩;refine bg ?_;refine h1 ?x19_0 ?x19_1
     case' x19_1=>
      refine a1 p p p (e8 aZ p p) ?_;rintro _ _ ⟨ar,rfl,rfl⟩;refine bg ?_;refine an (a1 p p p (bx p p aI (cn) ((cO _)) aZ Q ah ah) ?_);rintro _ _ ⟨al,au,rfl,ax,aA,aG,rfl⟩;refine bg ?_;refine an (a1 p p p (bx p p aI cn (cS p) aZ Q ah ah) ?_);rintro _ _ ⟨am,av,rfl,ay,aC,aK,rfl⟩;refine bg ?_;refine an (a1 p p p (bx p p aI (cn) ((cO _)) aZ Q ah ah) ?_);rintro _ _ ⟨ao,Z,rfl,Y,ae,ag,rfl⟩;refine bg ?_;refine ai ?_;refine dl ?_
     case' x19_0=>
      refine a1 p p p (bx p p aI (cn) ((cO _)) aZ Q ah ah) ?_;rintro _ _ ⟨al,au,rfl,ax,aA,aG,rfl⟩;refine bg ?_;refine an (a1 p p p (e8 aZ p p) ?_);rintro _ _ ⟨ar,rfl,rfl⟩;refine bg ?_;refine an (a1 p p p (bx p p aI cn (cS p) aZ Q ah ah) ?_);rintro _ _ ⟨am,av,rfl,ay,aC,aK,rfl⟩;refine bg ?_;refine an (a1 p p p (bx p p aI (cn) ((cO _)) aZ Q ah ah) ?_);rintro _ _ ⟨ao,Z,rfl,Y,ae,ag,rfl⟩;refine bg ?_;refine ai ?_;refine dl ?_
    all_goals
     obtain⟨a3,rfl⟩:=ag C;rw[aV];rw[aV]at Y;refine aJ ?_;iterate 3 refine ad ?_
     refine af ?_;refine bM (U+1,a3,Z,ins J G) ⟨C,by simp_all,a9,Y,ae⟩ C a8 ?_;refine r5 .here ?_ az;rw[bd,fI,fI];rfl
  ·have aw:I=W:=C;subst aw;have bt: ¬(I<G.length):=a7;refine aW (aE [0,1,2,3,4,5,6,7,8,9,10,11,12,13] (.q 14 .nil)) ?_;iterate 5 refine ai ?_
   refine dB 17 p (decide_eq_false bt) ?_;refine K ?_;have bF:aM (own 3 1 (ak b) G.length R (flat G)::F::O) 1 (ak b) I (flat (G.take I)):=aL.take aY;have bI:aM (own 3 1 (ak b) G.length R (flat G)::F::O) 1 (some ⟨b,(if R=I then 0 else 0+I*1),none⟩) (G.length-I) (flat (G.drop I)):=aL.drop aY aX;have bN:aR (own 3 1 (ak b) G.length R (flat G)::F::O) ⟨aO,aQ+U*1,none⟩ (j J):=ba.skip.skip;have aV:0+I+1+(G.length-I)=(ins J G).length:=by simp_all
   have a9:(ins J G).length=U+1:=C;refine aW (aE [1,2,3,5,6,7,8,11,12,13] (.hc 0 (.hc 4 (.e 9 (.e 10 (.e 14 (.q 15 .nil)))) 9 (.e 4 (.e 10 (.e 14 (.q 15 .nil))))) 9 (.e 0 (.e 4 (.e 10 (.e 14 (.q 15 .nil))))))) ?_;iterate 2 refine ai ?_
   refine cV p (h5 p p ah) ?_;iterate 6 refine ai ?_
   refine cV p (ga p p ah ah) ?_;refine h1 ?x20_0 ?x20_1
   case' x20_1=>
    refine a1 p p p (e8 aZ p p) ?_;rintro _ _ ⟨ar,rfl,rfl⟩;refine bg ?_;refine an (a1 p p p jS ?_);rintro _ _ ⟨a2,rfl,rfl⟩;refine bg ?_;refine an (a1 p p p (bx p p aI (cn) ((cO _)) aZ Q ah ah) ?_);rintro _ _ ⟨al,au,rfl,ax,aA,aG,rfl⟩;refine bg ?_;refine an (a1 p p p (bx p p aI cn (cS p) aZ Q ah ah) ?_);rintro _ _ ⟨am,av,rfl,ay,aC,aK,rfl⟩;refine bg ?_;refine an (a1 p p p (bx p p aI (cn) ((cO _)) aZ Q ah ah) ?_);rintro _ _ ⟨ao,Z,rfl,Y,ae,ag,rfl⟩;refine bg ?_;refine ai ?_;refine dl ?_
   case' x20_0=>
    refine a1 p p p jS ?_;rintro _ _ ⟨a2,rfl,rfl⟩;refine bg ?_;refine h1 ?x21_0 ?x21_1
    case' x21_1=>
     refine a1 p p p (e8 aZ p p) ?_;rintro _ _ ⟨ar,rfl,rfl⟩;refine bg ?_;refine an (a1 p p p (bx p p aI (cn) ((cO _)) aZ Q ah ah) ?_);rintro _ _ ⟨al,au,rfl,ax,aA,aG,rfl⟩;refine bg ?_;refine an (a1 p p p (bx p p aI cn (cS p) aZ Q ah ah) ?_);rintro _ _ ⟨am,av,rfl,ay,aC,aK,rfl⟩;refine bg ?_;refine an (a1 p p p (bx p p aI (cn) ((cO _)) aZ Q ah ah) ?_);rintro _ _ ⟨ao,Z,rfl,Y,ae,ag,rfl⟩;refine bg ?_;refine ai ?_;refine dl ?_
    case' x21_0=>
     refine a1 p p p (bx p p aI (cn) ((cO _)) aZ Q ah ah) ?_;rintro _ _ ⟨al,au,rfl,ax,aA,aG,rfl⟩;refine bg ?_;refine an (a1 p p p (e8 aZ p p) ?_);rintro _ _ ⟨ar,rfl,rfl⟩;refine bg ?_;refine an (a1 p p p (bx p p aI cn (cS p) aZ Q ah ah) ?_);rintro _ _ ⟨am,av,rfl,ay,aC,aK,rfl⟩;refine bg ?_;refine an (a1 p p p (bx p p aI (cn) ((cO _)) aZ Q ah ah) ?_);rintro _ _ ⟨ao,Z,rfl,Y,ae,ag,rfl⟩;refine bg ?_;refine ai ?_;refine dl ?_
   all_goals
    obtain⟨a3,rfl⟩:=ag C;rw[aV];rw[aV]at Y;refine aJ ?_;iterate 3 refine ad ?_
    refine af ?_;refine bM (U+1,a3,Z,ins J G) ⟨C,by simp_all,a9,Y,ae⟩ C a8 ?_;refine r5 .here ?_ az;rw[bd,fI,fI];rfl
 ·have aw:U=n:=C;subst aw;have bk:G=i9 l:=by grind
  subst bk;refine K ?_;refine af ?_;exact aj (C:=[own 3 1 (ak b) (i9 l).length R (flat (i9 l))]++O) p (.tmp p .nil) (λ_ s=>s.swap) ⟨(ak b),R,[own 3 1 (ak b) (i9 l).length R (flat (i9 l))],rfl,aX,a6,rfl,aM.own (bU _) (λ_=>⟨b,rfl⟩)⟩
end
section
open Go.RowKit Go.Sort
def bj(l:List Int):List Int:=l.mergeSort λj y=>decide (j<=y)
def Y2{am au R}(b n W G Z)(aw:G.length=n)(a7:0<n)
  (h:∀I,Holds (Value.int .i64) I b 0 G.toArray->b<I.heap.size->Calls am au #[.slice (ak b) G.length W] I λar U=>
   ar=.returned (.tuple #[])/\∃ay al,U=grow (putRow (Value.int .i64) (Sort.ahead I ay) b 0 (G.mergeSort λa3 y=>decide (a3<=y)).toArray) al):
  D am au #[.slice (ak b) n W] (own R 1 (ak b) n W (flat G)::Z) λv aC=>v=.tuple #[]/\aC=own R 1 (ak b) n W (flat (bj G))::Z:=by
 intro g F I ax;have aK:∀l:List _,flat l=l.map (Value.int _):=λl=>by induction l with
  |nil=>rfl
  |cons a5 l aX=>rw[jo,aX];rfl
 have aW:a4 g _ I:=ax.mono λ_ s=>s.swap;obtain⟨bd,aY,ao,a2,aA,⟨be,aZ,a0,a1⟩,l⟩:=aW.s;rcases a1 with ⟨ae,_⟩|⟨a6,O,ae,aE,ap,aG⟩
 ·omega
 simp only[rD,Addr.mk.injEq,and_true]at ae;subst ae;have Y:I.heap[b]?=some _:=a2 _ _ aE;have aQ:b<I.heap.size:=(tb.1 Y).1;rw[vD]at ap aG;have a9:∀E,E<n->O[E]?=some (j (G.getD E 0)):=λE J=>by
  have:(flat G)[E]?=some (j (G.getD E 0)):=by simp_all
  grind
 have aI:Holds (Value.int .i64) I b 0 G.toArray:=λE J=>by
  have ba:E<n:=by simp_all
  refine⟨?_,by simp[World.frozen?,Y]⟩;rw[iQ];simp only[World.cell?,Y];simp_all
 rw[<- aw];refine(h I aI aQ).mono λar U ⟨aH,ay,al,aP⟩=>⟨_,_,aH,⟨rfl,rfl⟩,?_⟩;refine a4.mono (L:=own R 1 (ak b) G.length W (flat (bj G))::F::Z) (λ_ s=>s.swap) ?_;rw[aw];have bc:(bj G).length=n:=by simp_all[bj,List.length_mergeSort]
 have aL:U.heap=I.heap.modify b (onCells (putCells (Value.int .i64) 0 (bj G).toArray))++al:=by rw[aP];rfl
 have aV:∀E,E<I.heap.size->E≠b->U.heap[E]?=I.heap[E]?:=λE J bb=>by
  grind
 have a8:U.heap[b]?=some (.cells (putCells (Value.int .i64) 0 (bj G).toArray O) R (0,0)):=by
  rw[aL,Array.getElem?_append_left (by simp_all),Array.getElem?_modify,if_pos p,Y];rfl
 refine⟨by rw[<- ax.g,aP];rfl,λE=>if E=b then some (.cells (putCells (Value.int .i64) 0 (bj G).toArray O) R (0,0))else none,aY,λE=> ?_,λE o K=> ?_,λE o K=> ?_,⟨by simp_all,aZ,a0,.inr ⟨b,putCells (Value.int .i64) 0 (bj G).toArray O,rfl,Q,by simp[putCells,ap],?_⟩⟩,l⟩
 ·by_cases J:E=b
  ·right;rcases ao E with ag|ag
   ·simp_all
   omega
  simp_all
 ·replace K:(if E=b then some (Obj.cells (putCells (Value.int .i64) 0 (bj G).toArray O) R (0,0))else none)=some o:=K
  by_cases J:E=b
  ·subst J;rw[if_pos p]at K;rw[<- K];trivial
  simp_all
 ·have J:E≠b:=λJ=>by
   rcases ao E with ag|ag
   ·simp_all
   simp_all
  have aS:E<I.heap.size:=by
   have:=aA _ _ K;rcases eC E I.heap.size with av|av
   ·omega
   ·simp[World.hm,oR av]at this
  show U.heap[E]?= _;rw[aV E aS J];exact aA _ _ K
 ·rw[aK,vD];apply tj;intro E
  by_cases J:E<n
  ·rw[List.getElem?_take_of_lt J];have aO:E<O.size:=C;simp[putCells,aO,show E< (bj G).length by omega]
  grind
end
theorem uo:∀(l j:List Int),l.Perm j->l.Pairwise (·<= ·)->j.Pairwise (·<= ·)->l=j
 | [],j,C,_,_=>by simp_all
 |a::l,[],C,_,_=>by simp_all
 |a::l,b::j,C,aa,ab=>by
  rw[gO]at aa ab;have D:a=b:=by
   have E:a∈b::j:=C.subset Q;have G:b∈a::l:=C.symm.subset Q;grind
  subst D;rw[uo l j C.cons_inv aa.2 ab.2]
theorem jz(l):(bj l).Perm l:=HT l _
theorem mT(l:List Int):(bj l).Pairwise (·<= ·):=by
 have:=HV (le:=λC y:Int=>decide (C<=y)) (λj b D aa ab=>by grind) (λj b=>by grind) l;exact this.imp λh=>by simp_all
theorem LI(j l):(ins j l).Perm (j::l):=by grind[ins,ql]
theorem UQ(j:Int)(l:List Int)(h:l.Pairwise (·<= ·)):(ins j l).Pairwise (·<= ·):=by
 induction l with
 |nil=>simp[ins]
 |cons C l G=>
  rw[gO]at h
  by_cases D:C<=j
  ·have E:ins j (C::l)=C::ins j l:=by simp[ins,D]
   grind[gO,LI]
  ·have E:ins j (C::l)=j::C::l:=by simp[ins,D]
   grind[gO]
def OA(l o:List Int)(D:o.Pairwise (·<= ·)):(l.foldl (λo j=>ins j o) o).Pairwise (·<= ·)/\(l.foldl (λo j=>ins j o) o).Perm (o++l):=by
 induction l generalizing o with
 |nil=>simp_all
 |cons C l E=>
  grind[UQ,LI]
def OB(l):(i9 l).Perm l:=by simpa[i9]using(OA l [] .nil).2
theorem FM(l j)(h:l.Perm j):i9 l=bj j:=
 uo _ _ ((OB l).trans (h.trans (jz j).symm)) (OA l [] .nil).1 (mT j)
section
attribute [local irreducible] G bf cc
def dU(j:aG):Option Addr->eu->Prop
 |ag,.nil=>ag=none
 |ag,.node C K J=>∃b E D I G,ag=(ak b)/\aB j b 0 3 [.slice E C.length D,.pointer I,.pointer G]/\Rd j E C.length C/\C.length<=D/\D<=maxLen/\dU j I K/\dU j G J
theorem dU.skip{G j}:∀{D}{C},dU j C D->dU (G::j) C D
 | .nil,_,h=>h
 | .node Y ae Z,_,⟨b,E,I,W,U,J,aa,ab,K,O,Q,R⟩=>⟨b,E,I,W,U,J,aa.skip,ab.skip,K,O,Q.skip,R.skip⟩
def dU.bE{N j D C}(h:dU j C D):dU (N++j) C D:=by
 induction N with
 |nil=>exact h
 |cons G N E=>exact E.skip
def PA(C:I)(G):D E 484 #[.agg #[j C.id,j C.x,j C.y]] G λv J=>v=.agg #[j C.id,j C.y,j C.x]/\J=G:=by
 refine bH λg F=> ?_;refine bZ ?_;refine aJ ?_;refine aU λO=> ?_;refine aU λQ=> ?_;refine aL ?_;refine bZ ?_;refine K ?_;refine aL ?_;refine aj p (.cell p (c7 bS) .nil) az ⟨rfl,rfl⟩
def pO(C q:I)(G):D E 306 #[.agg #[j C.id,j C.x,j C.y],.agg #[j q.id,j q.x,j q.y]] G λv J=>v=.bool (C.less q)/\J=G:=by
 refine bH λg F=> ?_;refine bZ ?_;refine aJ ?_;refine aU λO=> ?_;refine aU λQ=> ?_;refine ad ?_;refine aL ?_;refine bZ ?_;refine bZ ?_;refine K ?_;refine aL ?_;refine cp p (λaa=> ?_) (λaa=> ?_)
 ·refine bZ ?_;refine bI ?_;exact⟨by simp[bG,I.less,aa],rfl⟩
 ·refine fi ?_;refine bZ ?_;refine bZ ?_;refine K ?_;refine aL ?_;refine cp p (λab=> ?_) (λab=> ?_)
  ·refine bZ ?_;refine bI ?_;exact⟨by simp[bG,I.less,aa,ab],rfl⟩
  ·refine fi ?_;refine bZ ?_;refine bI ?_;exact⟨by simp[bG,I.less,aa,ab],rfl⟩
def Si(C q:I)(G):D E 555 #[.agg #[j C.id,j C.x,j C.y],.agg #[j q.id,j q.x,j q.y],.func (.func 306) #[] #[]] G λv O=>v=j (C.cmp q)/\O=G:=by
 refine bH λg F=> ?_;refine bZ ?_;refine aJ ?_;refine aU λQ=> ?_;refine aU λR=> ?_;refine ad ?_;refine aL ?_;refine bZ ?_;refine yn ?_;refine bZ ?_;refine K ?_;refine aD (sa p p p p p p) ?_;refine ad ?_;refine aL ?_;refine cp p (λaa=> ?_) (λaa=> ?_)
 ·refine bZ ?_;refine K ?_;refine aL ?_;refine aj p (.tmp p .nil) az ⟨?_,rfl⟩;obtain⟨W,Y,Z⟩:=C;obtain⟨ae,ag,ak⟩:=q;simp at aa;simp[bG,I.cmp,aa]
 ·have J:C≠q:=λU=>aa (by simp_all);refine bZ ?_;refine K ?_;refine GE (eV p p (pO C q _)) ?_;rintro _ _ ⟨rfl,rfl⟩;refine ad ?_;refine aL ?_;refine d3 p (λab=> ?_) (λab=> ?_)
  ·refine bZ ?_;refine bI ?_;exact⟨by simp[bG,I.cmp,J,ab],rfl⟩
  ·refine fi ?_;refine gk ?_;refine bZ ?_;refine bI ?_;exact⟨by simp[bG,I.cmp,J,ab],rfl⟩
def JY(C q:I)(G):D E 483 #[.agg #[j C.id,j C.x,j C.y],.agg #[j q.id,j q.x,j q.y]] G λv J=>v=j (C.cmp q)/\J=G:=by
 refine bH λg F=> ?_;refine bZ ?_;refine aJ ?_;refine aU λO=> ?_;refine aU λQ=> ?_;refine ad ?_;refine aL ?_;refine bZ ?_;refine K ?_;refine a9 (Si C q _) ?_;refine aL ?_;refine aj p (.tmp p .nil) az ⟨rfl,rfl⟩
def GL(C q G):D E 408 #[.agg #[j C.id,j C.x,j C.y],.agg #[j q.id,j q.x,j q.y]] G λv I=>v=j (up C q)/\I=G:=by
 refine bH λg F=> ?_;refine bZ ?_;refine aJ ?_;refine aU λJ=> ?_;refine aS λK=> ?_;refine aL ?_;refine bZ ?_;refine aW (.q 0 (.q 2 (.e 1 (.e 3 (.e 4 (.q 5 .nil)))))) ?_;iterate 2 refine ai ?_
 refine cU p p (PA C _) ?_;refine cU p p (PA q _) ?_;refine cU p p (JY C.iP q.iP _) ?_;exact dq
def jb(I G C)(h:dU C I G):D E 481 #[.pointer I] C λv J=>v=j G.es.length/\J=C:=by
 cases G with
 |nil=>
  cases h;refine bH λg F=> ?_;refine bZ ?_;refine aJ ?_;refine ad ?_;refine aL ?_;refine bZ ?_;refine bZ ?_;refine aJ ?_;iterate 2 refine ad ?_
  refine aL ?_;refine cD p p ?_;refine bZ ?_;exact dq
 |node Q ag ae=>
  obtain⟨b,K,O,al,ak,rfl,aa,ab,R,U,W,Y⟩:=h;have Z:=aa.at_ (i:=0) p;refine bH λg F=> ?_;refine bZ ?_;refine aJ ?_;refine ad ?_;refine aL ?_;refine bZ ?_;refine bZ ?_;refine aJ ?_;iterate 2 refine ad ?_
  refine aL ?_;refine b2 p p ?_;refine fi ?_;refine bZ ?_;exact dq
def Kl(J j C)(h:dU C J j):D E 554 #[.pointer J] C λv K=>(∃I G,v=.slice I j.es.length G/\Rd C I j.es.length j.es/\j.es.length<=G/\G<=maxLen)/\K=C:=by
 cases j with
 |nil=>
  cases h;refine bH λg F=> ?_;refine bZ ?_;refine aJ ?_;refine ad ?_;refine aL ?_;refine bZ ?_;refine bZ ?_;refine aJ ?_;iterate 2 refine ad ?_
  refine aL ?_;refine cD p p ?_;refine bZ ?_;refine bI ?_;exact⟨⟨none,0,rfl,Rd.nil _ _,bv _,bu _⟩,rfl⟩
 |node R ae Z=>
  obtain⟨b,I,G,ak,ag,rfl,aa,ab,O,Q,U,W⟩:=h;have Y:=aa.at_ (i:=0) p;refine bH λg F=> ?_;refine bZ ?_;refine aJ ?_;refine ad ?_;refine aL ?_;refine bZ ?_;refine bZ ?_;refine aJ ?_;iterate 2 refine ad ?_
  refine aL ?_;refine b2 p p ?_;refine fi ?_;refine bZ ?_;refine bI ?_;exact⟨⟨_,_,rfl,ab,O,Q⟩,rfl⟩
end
def F6 {K:Prop} (h:K:=by
  refine bH λg F=> ?_;refine aJ ?_;refine aU λO=> ?_;refine ad ?_;refine bD ?_;refine ad ?_;refine GE (aw p (D.frame [ae O _ _,F] (C4 h) (λ_ s=>s))) ?_;rintro _ _ ⟨R,⟨rfl,Q⟩,rfl⟩;iterate 2 refine ad ?_
  refine cF ?_;refine ad ?_;refine af ?_;exact aj rfl (.cell p (c7 bS) (.tmp p .nil)) az ⟨rfl,Q⟩):K:=h
def Gd {G:Prop} (h:G:=by
  refine ap λg F=> ?_;refine aS λI=> ?_;refine af ?_;refine b5 (own.nil_ kS 1) ?_;exact aj rfl (.tmp p (.tmp p .nil)) (by(repeat first|exact bo|apply lR (A:=none) (c:=0) (l:=[]) (λh=>absurd h (Nat.lt_irrefl 0))|refine b7 ?_)<;>fail) ⟨I,rfl,rfl⟩):G:=h
def Ge {I:Prop} (h:I:=by
  refine D.nR λJ K aa ab O=> ?_;refine ap λg F=> ?_;refine af ?_;exact aj rfl (.tmp p .nil) (by(repeat first|exact bo|apply lR aa|refine b7 ?_)<;>fail) ⟨rfl,rfl⟩):I:=h
def Gf {K:Prop} (h:K:=by
  have aa:=h.at_ (i:=0) p;refine ap λg F=> ?_;refine af ?_;refine aj p (.tmp p (.tmp p .nil)) az ⟨rfl,rfl⟩):K:=h
def Gg {Z:Prop} (h:Z:=by
  have aa:=h.at_ (i:=0) p;obtain⟨ag,ak,rfl,ae⟩:=U.at_ C;have al:=ae l.length I Q;have am:aR G ⟨ag,ak+(n-1)*1,none⟩ (.pointer I.addr):=by
   have:=al.at_ (i:=0) p;rw[show n-1=l.length by omega];exact this
  refine ap λg F=> ?_;refine af ?_;refine b2 p (decide_eq_false C) ?_;refine aW (aE [0,1,2,3,4,5,6,7,8,9,10,11,12] (.q 13 .nil)) ?_;iterate 14 refine ai ?_
  refine cK ?_;refine aj p (.tmp p (.tmp p .nil)) az ⟨rfl,rfl⟩):Z:=h
def Gh {G:Prop} (h:G:=by
  refine D.nR λI J aa ab K=> ?_;refine bH λg F=> ?_;refine aJ ?_;iterate 2 refine ad ?_
  refine bD ?_;refine ad ?_;refine a9 (xM b I J _ (aB.skip (aB.ae p))) ?_;refine af ?_;exact aj rfl (.tmp p (.tmp p .nil)) (by(repeat first|exact bo|apply lR aa|refine b7 ?_)<;>fail) ⟨rfl,rfl⟩):G:=h
def Gi {Y:Prop} (h:Y:=by
  refine D.nR λal U aa ab am=> ?_;have ag:(l++[j]).length=l.length+1:=Q;obtain⟨J,rfl⟩:=aa Q;generalize ak:(l++[j]).length=n at*
  refine ap λg F=> ?_;refine a9 (xL b _ n U l j _ (aB.skip (aB.ae p)) (Rd.skip (Rd.skip (aM.own (by rw[bU,ak];rfl) (λ_ ↦ ⟨J,rfl⟩)))) ag C) ?_;refine aW (aE [0,1,2,3,4,5,6,7,8,9,10,11,12,13] (.e 14 .nil)) ?_;iterate 11 refine ai ?_
  refine cV p (h5 p p ah) ?_;iterate 2 refine ai ?_
  refine an (cj O p p p (c5 p p p cd) ?_);rintro _ _ ⟨rfl,rfl⟩;refine K ?_;refine af ?_;have Z:n-1=l.length:=C;rw[Z];refine aj (C:=ba b 65536 l::G) p (.tmp p (.tmp p .nil)) ?_ ⟨rfl,rfl⟩;apply bR;focus ((repeat' first|exact aN.here|apply aN.skip|apply aN.bE);done)
  refine lR (c:=U) (λ_=>⟨J,rfl⟩) ?_;refine zu .here p ?_;refine zw .here C ?_ bo;rw[fI];exact List.take_left' (bU _)):Y:=h
def Gj {Z:Prop} (h:Z:=by
  have ar:=U.len bs;refine D.nR λal am aa ab ao=> ?_;refine bH λg F=> ?_;refine aW (aE [0,1,2,3,4,5,6,7,8,9,10,11] (.q 12 .nil)) ?_;iterate 11 refine ai ?_
  refine dd p (wB p p C) ?_;refine ai ?_;refine cK ?_;refine b2 p (decide_eq_false C) ?_;refine K ?_;refine GE (bx p p aI ((by repeat' first|exact U|apply aM.skip)) ((cO _)) aZ Q ah ah) ?_;rintro _ _ ⟨ak,ae,rfl,ap,au,Y,rfl⟩;refine K ?_;refine af ?_;have ag:l.length+G=(l++I).length:=by simp_all
  rw[ag]at Y ⊢;refine e6 (C:=ba b 65536 (l++I)::j) p .nil ?_ ⟨rfl,rfl⟩;apply bR;focus ((repeat' first|exact aN.here|apply aN.skip|apply aN.bE);done)
  refine lR (c:=ae) Y ?_;rw[fI];exact aq):Z:=h
def Gk {Y:Prop} (h:Y:=by
  refine bH λg F=> ?_;refine aJ ?_;iterate 2 refine ad ?_
  refine bw p (D.pick aI (sO b G C q l I _ (by repeat' first|exact U|apply Rd.skip) Q)) ?_;refine af ?_;exact e6 rfl .nil aq p):Y:=h
def Gl {Y:Prop} (h:Y:=by
  refine ap λg F=> ?_;refine aU λO=> ?_;refine aS λQ=> ?_;refine bw p (D.pick aI (rF (c1:=[]) (c2:=[R O,R Q]) (post:=λK=>K=ba b 65536 (l++I)::ae Q GT [.slice J G q]::ae O GS [R b]::F::C) (xv O Q b J G q l I _ (aR.skip (aR.ae p)) (aR.ae p) (by repeat' first|exact W|apply Rd.skip) U))) ?_;iterate 3 refine ad ?_
  refine aU λZ=> ?_;refine cF ?_;refine ad ?_;refine bD ?_;iterate 3 refine ad ?_
  refine af ?_;exact aj (C:=ba b 65536 (l++I)::C) p (.tmp p .nil) aq ⟨rfl,rfl⟩):Y:=h
def F7 {U:Prop} (h:U:=by
  have aa:=J.len bs;refine ap λg F=> ?_;refine aD (zE p p) ?_;refine af ?_;refine d3 p (λab=> ?_) (λab=> ?_)
  ·have W:C=none:=by simp_all
   have Y:n=0:=by
    rcases Nat.eq_zero_or_pos n with h|h
    ·omega
    ·obtain⟨b,o,W,_⟩:=J.at_ h;grind
   subst Y;have:=List.eq_nil_of_length_eq_zero aa;subst this;refine K ?_;refine af ?_;refine aj (C:=own kS 1 none 0 0 []::j) p (.tmp p .nil) ?_ ⟨none,0,rfl,λh=>absurd h (Nat.lt_irrefl 0),rfl⟩;exact λh s=>(own.nil_ kS 1 h s).swap
  ·refine aF ?_;refine cv ?_;refine aU λag=> ?_;refine ad ?_;refine GE (bx p p aI (aM.skip (aM.skip J)) ((cO _)) aZ bs ah ah) ?_;rintro _ _ ⟨O,Q,rfl,Z,ak,ae,rfl⟩;refine ad ?_;refine aL ?_;rw[Nat.zero_add]at Z ae;refine aF ?_;refine aj (C:=own kS 1 O l.length Q (flat l)::j) p (.tmp p .nil) ?_ ⟨O,Q,by rw[aa];simp[bG],by simp_all,rfl⟩;rw[aa,Nat.zero_add,List.nil_append];refine bR (.skip (.here)) ?_;refine bR (.here) ?_;exact az):U:=h
def F8 {am:Prop} (h:am:=by
  match l,ab,Y with
  | [],_,Y=>
   refine ap λg F=> ?_;refine af ?_;refine cJ (ι:=Unit) (λ_=>[(0,.slice I ([]:List rr).length C),(2,j 0),(3,j (-1))]) (λ_=>F::own kS 1 I ([]:List rr).length C (flat ([]:List rr))::J) (λ_=>True) (λ_=>0) () trivial a8 bo ?_;intro _ _;refine K ?_;refine aF ?_;exact e6 (C:=own kS 1 I ([]:List rr).length C (flat ([]:List rr).reverse)::J) p .nil bo ⟨rfl,rfl⟩
  | [R],_,Y=>
   refine ap λg F=> ?_;refine af ?_;refine cJ (ι:=Unit) (λ_=>[(0,.slice I [R].length C),(2,j 0),(3,j 0)]) (λ_=>F::own kS 1 I [R].length C (flat [R])::J) (λ_=>True) (λ_=>0) () trivial a8 bo ?_;intro _ _;refine K ?_;refine aF ?_;exact e6 (C:=own kS 1 I [R].length C (flat [R].reverse)::J) p .nil bo ⟨rfl,rfl⟩
  | [R,y],_,Y=>
   obtain⟨Z,rfl⟩:=Y Q;refine bH λg F=> ?_;refine b5 (j:=own kS 1 (ak Z) 2 C [.pointer R.addr,.pointer y.addr]::F::J) (λ_ s=>s.swap) ?_;refine qp (ι:=List Value) (F:=λW=>(Value.pointer R.addr:: .pointer y.addr::W).length=C*1/\2<=C/\C<=maxLen) (D:=λW=>[ae Z kS (.pointer R.addr:: .pointer y.addr::W)]) (λh o=>by
    obtain⟨al,ar,aA,aC⟩:=o.pY;have ao:al=.pointer R.addr:: .pointer y.addr::al.drop 2:=by
     have:=List.take_append_drop 2 al;simp_all
    exact⟨al.drop 2,⟨by grind,o.le,o.cap⟩,G.one (ao▸ar)⟩) ?_
   rintro W ⟨au,aw,ay⟩;refine b5 (j:=F::ae Z kS (.pointer R.addr:: .pointer y.addr::W)::J) (λ_ s=>s.swap) ?_;refine K ?_;refine af ?_;refine cJ (ι:=List Value×Nat×Nat) (λU=>[(0,.slice (ak Z) 2 C),(2,j (U.2.1:Nat)),(3,j (U.2.2:Nat))]) (λU=>F::ae Z kS U.1::J) (λU=>U=(.pointer R.addr:: .pointer y.addr::W,0,1)\/U=(.pointer y.addr:: .pointer R.addr::W,1,0)) (λU=>U.2.2) (.pointer R.addr:: .pointer y.addr::W,0,1) (.inl p) a8 bo ?_;rintro U (rfl|rfl)
   ·refine K ?_;refine aW (aE [0,1,2,3,4,5,6,7,8,9,10,11,12] (.e 13 (.q 14 (.e 15 .nil)))) ?_;iterate 13 refine ai ?_
    refine an (dh O p p p (c5 p p p cd) ?_);rintro _ _ ⟨rfl,rfl⟩;refine ai ?_;refine an (cj O p p p (c5 p p p cd) ?_);rintro _ _ ⟨rfl,rfl⟩;refine K ?_;refine af ?_;exact bM (.pointer y.addr:: .pointer R.addr::W,1,0) (.inr p) (Nat.zero_lt_one) a8 (by rw[Gw];exact aq)
   ·refine K ?_;refine aF ?_;refine e6 (C:=own kS 1 (ak Z) 2 C [.pointer y.addr,.pointer R.addr]::J) p .nil (nm ?_) ⟨rfl,rfl⟩;exact Fj au aw ay):am:=h
def F9 {J:Prop} (h:J:=by
  refine bH λg F=> ?_;refine aJ ?_;refine ad ?_;refine bD ?_;iterate 4 refine ad ?_
  refine bw p (D.pick aI (xq s _)) ?_;iterate 5 refine ad ?_
  refine bD ?_;refine ad ?_;refine aD (cL p) ?_;refine K ?_;refine af ?_;exact aj rfl (.tmp p .nil) aq ⟨rfl,rfl⟩):J:=h
def Ga {av:Prop} (h:av:=by
  haveI:=Y.pq;refine ap λg F=> ?_;refine bw p (D.pick aI (xp s l I _ C)) ?_;iterate 5 refine ad ?_
  refine bD ?_;refine ad ?_;refine aD (cL p) ?_;refine dG ?_;refine aJ ?_;iterate 7 refine ad ?_
  refine cF ?_;refine bD ?_;iterate 5 refine ad ?_
  refine GE (eV p p (D.pre (M:=j.V Q::ae O qg (eH j s (n+1))::ba s 65536 l::F::J) aq (Y.qe (ae O qg (eH j s (n+1))::ba s 65536 l::F::J) I Q (λh aC=>Z h aC.tail.tail.tail) ak))) ?_;rintro _ _ ⟨ax,ay,rfl,aA,rfl⟩;refine GE (aw p (tE ax _ ay (j.kids I) _ (aM.own (bU _) aA) C)) ?_;rintro _ _ ⟨al,am,rfl,ao,rfl⟩;refine K ?_;refine a9 (D.pick aI (vL al am (j.kids I) _ ao ag)) ?_;refine a9 (D.pick aI (sO s al _ am l (j.kids I).reverse _ (by repeat' first|exact aM.own (by rw[bU,List.length_reverse];rfl) ao|apply Rd.skip) C)) ?_;refine af ?_;exact aj (C:=ae O qg (eH j s (n+1))::ba s 65536 (l++(j.kids I).reverse)::j.V (j.g8 I Q)::J) p (.tmp p .nil) aq ⟨rfl,rfl⟩):av:=h
def Gb {aL:Prop} (h:aL:=by
  refine bH λg F=> ?_;refine aF ?_;refine cJ (ι:=List rr×S×Nat) (λ_=>[(0,R Y),(1,R W)]) (λy=>ae Y s6 [R J]::ae W 3 [j (Q:Nat)]::ae J qg (eH I s y.2.2)::ba s 65536 y.1::I.V y.2.1::F::Z) (λy=>y.2.2<=Q/\y.2.2<=U/\I.dL y.1 y.2.1 (U-y.2.2)) (λy=>U-y.2.2) (l,al,0) ⟨Nat.zero_le _,Nat.zero_le _,aA⟩ a8 aq ?_;rintro⟨aG,ap,ak⟩ ⟨aO,aP,ar⟩;simp only at aO aP ar;dsimp only
  by_cases aZ:ak<Q
  ·rcases List.eq_nil_or_concat aG with h|⟨aK,ax,h⟩
   ·subst h;have aY:=au.stop _ _ ar;refine aW (aE [0,1,2,3,4,5,6,7] (.e 8 (.q 9 .nil))) ?_;iterate 7 refine ai ?_
    refine dB 8 p (decide_eq_true C) ?_;refine ai ?_;refine an (yE O p p p ⟨_,rfl,rfl⟩ p (aw p (D.pre (M:=ae J qg (eH I s ak)::ba s 65536 []::ae Y s6 [R J]::ae W 3 [j (Q:Nat)]::I.V ap::F::Z) aq (xZ I J s ak _))) ?_);rintro _ _ ⟨rfl,rfl⟩;refine K ?_;refine aF ?_;have ay:min Q U=ak:=C;refine e6 (C:=ae Y s6 [R J]::ae W 3 [j (Q:Nat)]::ae J qg (eH I s ak)::ba s 65536 []::I.V ap::Z) p .nil aq ?_;rw[ay];exact⟨[],ap,ar,rfl⟩
   ·rw[List.concat_eq_append]at h;subst h;obtain⟨aQ,aS⟩:=au.cap _ _ _ ar;obtain⟨a0,aV,aX⟩:=au.next _ _ _ _ ar
    have aI:=aS ax (List.mem_append.2 (.inr (List.mem_singleton.2 p)));rw[List.length_append]at aQ;refine aW (aE [0,1,2,3,4,5,6,7] (.e 8 (.q 9 .nil))) ?_;iterate 7 refine ai ?_
    refine dB 8 p (decide_eq_true C) ?_;refine ai ?_;refine an (yE O p p p ⟨_,rfl,rfl⟩ p (aw p (D.frame [ae Y s6 [R J],ae W 3 [j (Q:Nat)],F] (xY I J s ak aK ax ap Z ag au aC aI.1 aI.2 C C) aq)) ?_);rintro _ _ ⟨_,⟨rfl,rfl⟩,rfl⟩;refine K ?_;refine aF ?_;exact bM (aK++(I.kids ax).reverse,I.g8 ax ap,ak+1) ⟨by assumption,by grind,by grind⟩ (by grind) a8 aq
  ·skip
   refine aW (aE [0,1,2,3,4,5,6,7] (.e 8 (.q 9 .nil))) ?_;iterate 7 refine ai ?_
   refine dB 8 p (decide_eq_false C) ?_;refine ai ?_;refine an (gy p p p ⟨_,rfl,rfl⟩ p ?_);refine K ?_;refine aF ?_;have ay:min Q U=ak:=C;refine e6 (C:=ae Y s6 [R J]::ae W 3 [j (Q:Nat)]::ae J qg (eH I s ak)::ba s 65536 aG::I.V ap::Z) p .nil aq ?_;rw[ay];exact⟨aG,ap,ar,rfl⟩):aL:=h
def Gc {ar:Prop} (h:ar:=by
  refine ap λg F=> ?_;refine aS λam=> ?_;refine br p p p p ?_;refine aD (wy p p) ?_;iterate 5 refine ad ?_
  refine af ?_;refine b2 p (decide_eq_false Q) ?_;refine aJ ?_;iterate 3 refine ad ?_
  refine aU λau=> ?_;refine aU λao=> ?_;refine cF ?_;refine bD ?_;refine ad ?_;refine GE (aw p (D.frame [F] (rF (c1:=[]) (c2:=[R ao,R am]) (xV C ao am au s K I l Y J W ak ag ae al)) aq)) ?_;rintro _ _ ⟨_,⟨rfl,O,U,av,rfl⟩,rfl⟩;iterate 3 refine ad ?_
  refine aU λax=> ?_;refine cF ?_;refine ad ?_;refine aL ?_;refine aW (aE [0,1,2,3,4,5,6] (.q 7 .nil)) ?_;iterate 8 refine ai ?_
  refine cK ?_;exact aj (C:=ba s 65536 O::C.V U::J) p (.tmp p (.tmp p .nil)) aq ⟨O,U,rfl,av,rfl⟩):ar:=h
def OW {K:Prop} (h:K:=by
  have U:=(List.getElem?_eq_some_iff.1 h).1;have R:Rd (own E 3 _ n G _::D) _ n l:=aM.own (by rw[bU,J];rfl) (λ_=>⟨b,rfl⟩);obtain⟨_,_,O,Q⟩:=R.at_ C;cases O;exact Q i x h):K:=h
def OX {W:Prop} (h:W:=by
  have aa:l.length=n:=aY.len bs;refine ap λg F=> ?_;refine GE (aw p (lI ao n ax l _ cr a0)) ?_;rintro _ _ ⟨av,ar,rfl,bc,rfl⟩;refine K ?_;refine af ?_;refine cJ (λal=>[(1,.func _ #[] #[]),(5,.slice av n ar),(11,j (n:Nat)),(12,j (al.1:Nat))]) (λal=>own nU 3 av n ar (flat al.2)::F::ag) (λal=>al.1<=n/\al.2.Perm l/\fG Y (al.2.take al.1)) (λal=>n-al.1) (0,l) ⟨Nat.zero_le _,.refl _,by simp[fG]⟩ ⟨rfl,by rw[<- aa];rfl,by rw[<- aa];rfl,rfl,trivial⟩ (by rw[<- aa];exact aq) ?_;rintro⟨U,ae⟩ ⟨bb,aS,am⟩;simp only at bb aS am;dsimp only;have aZ:ae.length=n:=by rw[aS.length_eq,aa]
  refine K ?_;refine af ?_;refine cp p (λa3=> ?_) (λa3=> ?_)
  ·refine aF ?_;refine cv ?_;refine K ?_;refine aL ?_;have bk:ae[U]?=some ae[U]:=List.getElem?_eq_getElem C;have bd:ae=ae.take U++ae[U]::ae.drop (U+1):=by
    simp
   have bh:(ae.take U).length=U:=by grind
   obtain⟨b,rfl⟩:=bc C;generalize ae[U]=R at*
   generalize ae.take U=J at*
   generalize ae.drop (U+1)=Z at*
   refine aF ?_;refine cJ (ι:=Nat) (λG=>[(1,.func (.func f) #[] #[]),(5,.slice (ak b) n ar),(11,j (n:Nat)),(12,j (U:Nat)),(7,j (G:Nat))]) (λG=>own nU 3 (ak b) n ar (flat (J.take G++R::(J.drop G++Z)))::F::ag) (λG=>G<=U/\∀y∈J.drop G,Y R y=true) (λG=>G) U ⟨Nat.le_refl _,by grind⟩ a8 (by rw[List.take_of_length_le C,List.drop_of_length_le C,List.nil_append,<- bd];exact λ_ s=>s) ?_;rintro G ⟨aH,aP⟩
   by_cases be:0<G
   ·have bi:J[G-1]?=some J[G-1]:=List.getElem?_eq_getElem C;have aV:J.take G=J.take (G-1)++[J[G-1]]:=by
     have:=List.take_succ_eq_append_getElem (l:=J) (i:=G-1) C;grind
    have bf:J.drop (G-1)=J[G-1]::J.drop G:=by
     grind[List.drop_eq_getElem_cons]
    have bg:(J.take (G-1)).length=G-1:=by grind
    have au:(J.take G++R::(J.drop G++Z)).length=n:=by
     grind
    generalize J[G-1]=W at*
    obtain⟨a2,aA,aC⟩:=Jy (A:=J.take (G-1)) (R:=J.drop G++Z) (x:=R) (p:=W) (k:=G) C;have a5:J.take G++R::(J.drop G++Z)=J.take (G-1)++W::R::(J.drop G++Z):=by simp_all
    have a6:J.take (G-1)++R::(J.drop (G-1)++Z)=J.take (G-1)++R::W::(J.drop G++Z):=by simp_all
    rw[<- a5]at a2 aA aC;cases aQ:Y R W with
    |true=>
     refine aW (aE [0,1,2,3,4,5,6,7,8,9,10,11,12] (.e 13 (.q 14 .nil))) ?_;iterate 3 refine ai ?_
     refine dB 18 p (decide_eq_true C) ?_;iterate 4 refine ai ?_
     refine fF aT p p p p ⟨_,rfl,rfl⟩ p (er p (by repeat' first|exact ll au aA _|apply aB.skip)) ?_;iterate 4 refine ai ?_
     refine fF aT p p p p ⟨_,rfl,rfl⟩ p (er p (by repeat' first|exact ll au aC _|apply aB.skip)) ?_;refine an (f9 p p p ⟨_,rfl,rfl⟩ p (eV p p (ew.mt R W _)) ?_);rintro _ _ ⟨rfl,rfl⟩;refine cM ?_;refine ai ?_;refine cK ?_;refine cD p aQ ?_;refine aW (aE [0,1,2,3,4,5,6,7,8,9,10,11,12,13,14] (.e 15 (.q 16 (.e 17 .nil)))) ?_;iterate 9 refine ai ?_
     refine cV p (er p (by repeat' first|exact ll au aC _|apply aB.skip)) ?_;iterate 3 refine ai ?_
     refine cV p (er p (by repeat' first|exact ll au aA _|apply aB.skip)) ?_;refine ai ?_;refine an (dh O p p p ((Dp (j:=[j W.id,j W.x,j W.y]) p p p p aI (by grind))) ?_);rintro _ _ ⟨rfl,rfl⟩;refine ai ?_;refine an (cj O p p p ((Dp (j:=[j R.id,j R.x,j R.y]) p p p p aI (by grind))) ?_);rintro _ _ ⟨rfl,rfl⟩;rw[F4 _ _ _ C,F4 _ _ _ (by grind),a2,<- a6];refine K ?_;refine af ?_;exact bM (G-1) ⟨C,by simp_all⟩ C a8 (λ_ s=>s)
    |false=>
     refine aW (aE [0,1,2,3,4,5,6,7,8,9,10,11,12] (.e 13 (.q 14 .nil))) ?_;iterate 3 refine ai ?_
     refine dB 18 p (decide_eq_true C) ?_;iterate 4 refine ai ?_
     refine fF aT p p p p ⟨_,rfl,rfl⟩ p (er p (by repeat' first|exact ll au aA _|apply aB.skip)) ?_;iterate 4 refine ai ?_
     refine fF aT p p p p ⟨_,rfl,rfl⟩ p (er p (by repeat' first|exact ll au aC _|apply aB.skip)) ?_;refine an (f9 p p p ⟨_,rfl,rfl⟩ p (eV p p (ew.mt R W _)) ?_);rintro _ _ ⟨rfl,rfl⟩;refine cM ?_;refine ai ?_;refine cK ?_;refine b2 p aQ ?_;refine K ?_;refine af ?_;refine bM (U+1,J.take G++R::(J.drop G++Z)) ⟨C,?_,?_⟩ C a8 (λ_ s=>s)
     ·grind[List.Perm.trans,List.perm_middle,List.append_assoc,List.take_append_drop]
     ·simp only;have a9:(J.take G++R::(J.drop G++Z)).take (U+1)=J.take G++R::J.drop G:=by
       have:J.take G++R::(J.drop G++Z)=(J.take G++R::J.drop G)++Z:=Q;rw[this,List.take_append_of_le_length (by grind),List.take_of_length_le (by grind)]
      rw[a9];unfold fG at am ⊢;rw[<- List.take_append_drop G J,List.pairwise_append]at am;rw[List.pairwise_append];refine⟨am.1,List.pairwise_cons.2 ⟨λy a1=>o.asym (aP y a1),am.2.1⟩,?_⟩;have bj:∀aO∈J.take G,Y R aO=false:=by
       rw[aV];intro aO ay;rcases List.mem_append.1 ay with ay|ay
       ·have aX:=am.1;rw[aV,List.pairwise_append]at aX;exact o.Ad (aX.2.2 aO ay W Q) aQ
       simp_all
      simp_all
   ·have a4:G=0:=C;subst a4;refine aW (aE [0,1,2,3,4,5,6,7,8,9,10,11,12] (.e 13 (.q 14 .nil))) ?_;iterate 3 refine ai ?_
    refine dB 18 p (decide_eq_false Q) ?_;iterate 10 refine ai ?_
    refine an (gy p p p ⟨_,rfl,rfl⟩ p ?_);refine K ?_;refine af ?_;refine bM (U+1,R::(J++Z)) ⟨C,?_,?_⟩ C a8 (λ_ s=>s)
    ·grind
    ·simp only;unfold fG at am ⊢;rw[List.take_succ_cons,List.take_append_of_le_length C,List.take_of_length_le C];exact List.pairwise_cons.2 ⟨λy a1=>o.asym (aP y (by assumption)),am⟩
  ·have ba:U=n:=C;subst ba;have:ae=a7 Y l:=l4 o (by grind) aS;subst this;refine K ?_;refine af ?_;refine aj (C:=own nU 3 av (a7 Y l).length ar (flat (a7 Y l))::ag) p (.tmp p .nil) ?_ ⟨av,ar,by rw[aZ];rfl,by simp_all,rfl⟩;rw[aZ];exact aq):W:=h
def OY {bh:Prop} (h:bh:=by
  have aa:l.length=n:=a5.len bs;have ab:q.length=ae:=a8.len bs;refine ap λg F=> ?_;refine GE (Kc p p C C) ?_;rintro _ _ ⟨bc,rfl,rfl⟩;refine ad ?_;refine af ?_;refine cJ (λG=>[(2,.func (.func f) #[] #[]),(0,.slice G.1.1 G.1.2.2.length G.1.2.1),(1,.slice G.2.1.1 G.2.1.2.2.length G.2.1.2.1),(7,.slice G.2.2.1 G.2.2.2.2.length G.2.2.2.1)]) (λG=>own nU 3 G.2.2.1 G.2.2.2.2.length G.2.2.2.1 (flat G.2.2.2.2)::F::R)
   (λG=>(Rd R G.1.1 G.1.2.2.length G.1.2.2/\G.1.2.2.length<=G.1.2.1/\fG Y G.1.2.2)/\(Rd R G.2.1.1 G.2.1.2.2.length G.2.1.2.2/\G.2.1.2.2.length<=G.2.1.2.1/\fG Y G.2.1.2.2)/\(G.2.2.2.2++(G.1.2.2++G.2.1.2.2)).Perm (l++q)/\fG Y G.2.2.2.2/\(∀W∈G.2.2.2.2,∀J∈G.1.2.2++G.2.1.2.2,Y J W=false)/\(0<G.2.2.2.2.length->∃b,G.2.2.1=(ak b))) (λG=>G.1.2.2.length+G.2.1.2.2.length) ((al,ao,l),(am,ar,q),(some ⟨bc,0,none⟩,n+ae,[])) ⟨⟨by rw[aa];exact a5,by simp_all,bi⟩,⟨by rw[ab];exact a8,by simp_all,bj⟩,.refl _,.nil,Q,λ_=>⟨bc,rfl⟩⟩ ⟨rfl,by rw[<- aa];rfl,by rw[<- ab];rfl,rfl,trivial⟩ aq ?_
  rintro⟨⟨bX,aK,ag⟩,⟨bY,aL,aH⟩,⟨bZ,b3,W⟩⟩ ⟨⟨aO,a4,au⟩,⟨aS,ba,av⟩,a6,bb,bd,bB⟩;simp only at aO a4 au aS ba av a6 bb bd bB;dsimp only;have b7:W.length+(ag.length+aH.length)=n+ae:=by
   have:=a6.length_eq;simp_all
  refine tC (λh s=>own.facts (s)) ?_;rintro⟨ca,cc,bW,ce⟩;unfold maxLen at bW
  by_cases be:0<ag.length/\0<aH.length
  ·obtain⟨a0,aA,rfl,bn⟩:=aO.at_ be.1;obtain⟨a2,aC,rfl,bp⟩:=aS.at_ be.2;obtain⟨J,ay,rfl⟩:∃J ay,ag=J::ay:=by cases ag with
    |nil=>simp_all
    |cons J ay=>simp
   obtain⟨y,aP,rfl⟩:∃y aP,aH=y::aP:=by cases aH with
    |nil=>simp_all
    |cons y aP=>simp
   have cf:aB R a0 (aA+0*3) 3 [j J.id,j J.x,j J.y]:=bn 0 J p;have ch:aB R a2 (aC+0*3) 3 [j y.id,j y.x,j y.y]:=bp 0 y p;unfold fG at au av bb;rw[List.pairwise_cons]at au av;simp only[List.length_cons]at*
   refine K ?_;refine dE 17 p (decide_eq_true Q) ?_;iterate 4 refine ad ?_
   refine af ?_;refine cD p (decide_eq_true Q) ?_;refine aW (aE [0,1,2,3,4,5,6] (.e 7 .nil)) ?_;iterate 7 refine ai ?_
   refine an (cj O p p p (eV p p (ew.mt y J _)) ?_);rintro _ _ ⟨rfl,rfl⟩;cases a9:Y y J with
   |true=>
    refine jJ ?_;refine hr 0 (aE [0,1,2,3,6,7] (.e 4 (.e 5 (.q 8 (.q 9 .nil))))) ?_;iterate 5 refine ai ?_
    refine cV p (ga p p ah ah) ?_;refine an (a1 p p p (e8 aZ p p) ?_);rintro _ _ ⟨b0,rfl,rfl⟩;refine bg ?_;refine an (a1 p p p (bx p p aI cn (cS p) aZ Q ah ah) ?_);rintro _ _ ⟨bk,bq,rfl,b5,b8,bO,rfl⟩;refine bg ?_;iterate 2 refine ai ?_
    refine cK ?_;exact bM ((some ⟨a0,aA,none⟩,aK,J::ay),(some ⟨a2,(if aL=1 then aC else aC+1*3),none⟩,aL-1,aP),(bk,bq,W++[y])) ⟨⟨aO,a4,List.pairwise_cons.2 au⟩,⟨aS.drop (k:=1) (c:=aL) Q ba,by grind,av.2⟩,by
      grind,by
      simp_all[fG,List.pairwise_append],by
      simp only;intro aY Z b U;rcases List.mem_append.1 Z with Z|Z
      ·grind
      ·simp at Z;subst Z;rcases List.mem_append.1 U with U|U
       ·rcases List.mem_cons.1 U with rfl|U
        ·exact o.asym a9
        ·exact o.Ad (o.asym a9) (au.1 b U)
       simp_all,λ_=>bO Q⟩ Q ⟨rfl,rfl,rfl,by rw[List.length_append];rfl,trivial⟩ (by
      have a3:flat (W++[y])=flat W++[j y.id,j y.x,j y.y]:=(gm W y).symm;simp only[List.length_append,List.length_singleton,a3];exact aq)
   |false=>
    refine iT ?_;refine hr 0 (aE [0,1,2,3,6,7] (.e 4 (.e 5 (.q 8 (.q 9 .nil))))) ?_;iterate 5 refine ai ?_
    refine cV p (ga p p ah ah) ?_;refine an (a1 p p p (e8 aZ p p) ?_);rintro _ _ ⟨b1,rfl,rfl⟩;refine bg ?_;refine an (a1 p p p (bx p p aI cn (cS p) aZ Q ah ah) ?_);rintro _ _ ⟨bl,bt,rfl,b6,b9,bQ,rfl⟩;refine bg ?_;iterate 2 refine ai ?_
    refine cK ?_;exact bM ((some ⟨a0,(if aK=1 then aA else aA+1*3),none⟩,aK-1,ay),(some ⟨a2,aC,none⟩,aL,y::aP),(bl,bt,W++[J])) ⟨⟨aO.drop (k:=1) (c:=aK) Q a4,by grind,au.2⟩,⟨aS,ba,List.pairwise_cons.2 av⟩,by
      simp_all,by
      simp_all[fG,List.pairwise_append],by
      simp only;intro aY Z b U;rcases List.mem_append.1 Z with Z|Z
      ·simp_all
      ·simp at Z;subst Z;rcases List.mem_append.1 U with U|U
       ·simp_all
       ·rcases List.mem_cons.1 U with rfl|U
        ·omega
        ·exact o.Ad a9 (av.1 b U),λ_=>bQ Q⟩ Q ⟨rfl,rfl,rfl,by rw[List.length_append];rfl,trivial⟩ (by
      have a3:flat (W++[J])=flat W++[j J.id,j J.x,j J.y]:=(gm W J).symm;simp[a3];exact aq)
  ·have bV:W++ag++aH=a7 Y (l++q):=by
    rw[List.append_assoc];refine l4 o (List.pairwise_append.2 ⟨bb,?_,λaY Z b U=>bd aY Z b U⟩) a6;rcases Nat.eq_zero_or_pos ag.length with aQ|aQ
    ·rw[List.eq_nil_of_length_eq_zero aQ];trivial
    ·rw[List.eq_nil_of_length_eq_zero (by omega:aH.length=0),List.append_nil];trivial
   have aV:(a7 Y (l++q)).length=W.length+ag.length+aH.length:=by grind
   have bf:flat (a7 Y (l++q))=flat W++flat ag++flat aH:=by rw[<- bV];simp[fI]
   rcases Nat.eq_zero_or_pos ag.length with aQ|aQ
   ·refine aF ?_;refine cv ?_;iterate 4 refine ad ?_
    refine dE 17 p (decide_eq_false C) ?_;refine K ?_;refine GE (bx p p aI (cn) ((cO _)) aZ Q ah ah) ?_;rintro _ _ ⟨bm,bz,rfl,bE,bK,bT,rfl⟩;refine ad ?_;refine GE (bx p p aI (cn) ((cO _)) aZ Q ah ah) ?_;rintro _ _ ⟨aw,ax,rfl,bF,bL,bU,rfl⟩;refine ad ?_;refine af ?_;refine aj (C:=own nU 3 aw (a7 Y (l++q)).length ax (flat (a7 Y (l++q)))::R) p (.tmp p .nil) ?_ ⟨aw,ax,by rw[aV];rfl,by simp_all,rfl⟩;rw[aV,bf];exact aq
   ·refine aF ?_;refine cv ?_;iterate 4 refine ad ?_
    refine dE 17 p (decide_eq_true C) ?_;iterate 4 refine ad ?_
    refine af ?_;refine b2 p (decide_eq_false C) ?_;refine K ?_;refine GE (bx p p aI (cn) ((cO _)) aZ Q ah ah) ?_;rintro _ _ ⟨bm,bz,rfl,bE,bK,bT,rfl⟩;refine ad ?_;refine GE (bx p p aI (cn) ((cO _)) aZ Q ah ah) ?_;rintro _ _ ⟨aw,ax,rfl,bF,bL,bU,rfl⟩;refine ad ?_;refine af ?_;refine aj (C:=own nU 3 aw (a7 Y (l++q)).length ax (flat (a7 Y (l++q)))::R) p (.tmp p .nil) ?_ ⟨aw,ax,by rw[aV];rfl,by simp_all,rfl⟩;rw[aV,bf];exact aq):bh:=h
def OZ {ay:Prop} (h:ay:=by
  intro O
  induction O with
  |zero=>
   intro J n G l j aK Z ak av;refine ap λg F=> ?_;refine af ?_;refine cD p (decide_eq_true C) ?_;refine K ?_;refine GE (aw p (CZ o ew J n G l _ cr ak)) ?_;rintro _ _ ⟨R,W,rfl,ag,rfl⟩;refine ad ?_;refine af ?_;exact aj (C:=own nU 3 R (a7 Y l).length W (flat (a7 Y l))::j) p (.tmp p .nil) aq ⟨R,W,rfl,ag,rfl⟩
  |succ O ax=>
   intro J n G l j aK Z ak av;have aa:=Z.len bs;refine ap λg F=> ?_;refine af ?_;refine cp p (λaH=> ?_) (λaH=> ?_)
   ·refine aF ?_;refine cv ?_;iterate 2 refine ad ?_
    refine GE (aw p (CZ o ew J n G l _ cr ak)) ?_;rintro _ _ ⟨R,W,rfl,ag,rfl⟩;refine ad ?_;refine af ?_;exact aj (C:=own nU 3 R (a7 Y l).length W (flat (a7 Y l))::j) p (.tmp p .nil) aq ⟨R,W,rfl,ag,rfl⟩
   ·obtain⟨b,Q,rfl,_⟩:=Z.at_ C;have au:a7 Y (a7 Y (l.take (n/2))++a7 Y (l.drop (n/2)))=a7 Y l:=by rw[Pc o,List.take_append_drop]
    have aP:∀U,Rd (U++j) (some ⟨b,Q,none⟩) (n/2) (l.take (n/2)):=λU=>Rd.bE (Z.take C);have aO:∀U,Rd (U++j) (some ⟨b,(if G=n/2 then Q else Q+(n/2)*3),none⟩) (n-n/2) (l.drop (n/2)):=λU=>Rd.bE (Z.drop (k:=n/2) (c:=G) C av);refine K ?_
    (first|refine aD (kH (q:=2) p p ah ah) ?_|refine aD (hQ p p ah ah ah) ?_)
    refine ad ?_;refine aL ?_;refine aW (aE [0,1,2,3,5,6,7,8,10] (.e 4 (.e 9 (.e 11 (.q 12 .nil))))) ?_;iterate 2 refine ai ?_
    refine cV p (h5 p p ah) ?_;iterate 3 refine ai ?_
    refine cV p (ga p p ah ah) ?_;iterate 2 refine ai ?_
    refine an (a1 p p p (aw p ((ax (some ⟨b,Q,none⟩) (n/2) G (l.take (n/2)) _ C (aP [F]) C C).made)) ?_);rintro _ _ ⟨al,ao,rfl,aQ,aV,aY,rfl⟩;refine cM ?_;refine an (a1 p p p (aw p ((ax (some ⟨b,(if G=n/2 then Q else Q+(n/2)*3),none⟩) (n-n/2) (G-n/2) (l.drop (n/2)) _ C (aO [own nU 3 al (a7 Y (l.take (n/2))).length ao (flat (a7 Y (l.take (n/2)))),F]) C C).made)) ?_);rintro _ _ ⟨aC,aI,rfl,aS,aX,aZ,rfl⟩;refine cM ?_;refine an (a1 p p p (aw p (ET o ew al aC _ _ ao aI (a7 Y (l.take (n/2))) (a7 Y (l.drop (n/2))) _ (Rd.skip (aM.own (bU _) aQ)) (aM.own (bU _) aS) (by grind[e0]) (by grind[e0]) aV aX (l5 o _) (l5 o _))) ?_);rintro _ _ ⟨am,ar,rfl,aA,rfl⟩;refine cM ?_;refine K ?_;rw[au]at aA;rw[au];refine aF ?_;exact aj (C:=own nU 3 am (a7 Y l).length ar (flat (a7 Y l))::j) p (.tmp p .nil) aq ⟨am,ar,rfl,aA,rfl⟩):ay:=h
def O0 {Q:Prop} (h:Q:=by
  refine ap λg F=> ?_;refine GE (aw p (Pa o ew n C n G l _ (Nat.le_refl _) cr O K)) ?_;rintro _ _ ⟨R,U,rfl,W,rfl⟩;refine ad ?_;refine af ?_;exact aj rfl (.tmp p .nil) aq ⟨R,U,rfl,W,rfl⟩):Q:=h
def O1 {Q:Prop} (h:Q:=by
  have aa:=G.len bs;refine ap λg F=> ?_;refine aD (zE p p) ?_;refine af ?_;refine d3 p (λab=> ?_) (λab=> ?_)
  ·have W:C=none:=by simp_all
   have Y:n=0:=by
    rcases Nat.eq_zero_or_pos n with h|h
    ·omega
    ·obtain⟨b,o,W,_⟩:=G.at_ h;grind
   subst Y;have:=List.eq_nil_of_length_eq_zero aa;subst this;refine K ?_;refine af ?_;refine aj rfl (.tmp p .nil) ?_ ⟨none,0,rfl,λh=>absurd h (Nat.lt_irrefl 0),rfl⟩;exact λh s=>(own.nil_ kT 3 h s).swap
  ·refine aF ?_;refine cv ?_;refine aS λak=> ?_;refine GE (bx p p aI (aM.skip (aM.skip G)) ((cO _)) aZ bs ah ah) ?_;rintro _ _ ⟨R,U,rfl,Z,al,ag,rfl⟩;refine ad ?_;refine aL ?_;rw[Nat.zero_add]at Z ag;refine aF ?_;refine aj rfl (.tmp p .nil) ?_ ⟨R,U,by rw[aa];simp[bG],by simp_all,rfl⟩;rw[aa,Nat.zero_add,List.nil_append];refine bR (.skip (.here)) ?_;refine bR (.here) ?_;exact az):Q:=h
def O2 {R:Prop} (h:R:=by
  have al:(l.take J++[R]++l.drop J).length=n+1:=by grind
  refine bH λg F=> ?_;refine tC (λh s=>own.facts (s.tail)) ?_;rintro⟨bb,aY,a0,a1⟩;rcases a1 with ⟨rfl,a2,a3⟩|⟨b,rfl⟩
  ·subst a2 a3;have a6:l=[]:=List.eq_nil_of_length_eq_zero aa;have a5:J=0:=C;subst a6 a5;refine K ?_;refine aD (uv p (.inr ⟨_,_,rfl,rfl⟩) (.inl ⟨rfl,rfl⟩) (Nat.le_refl _) (Nat.le_refl _)) ?_;refine K ?_;refine GE (bx p p aI cn (cS p) aZ Q ah ah) ?_;rintro _ _ ⟨ao,ap,rfl,a4,a7,aA,rfl⟩;refine ad ?_;refine af ?_;refine aj (C:=own kT 3 ao 1 ap (flat [R])::W) p (.tmp p .nil) ?_ ⟨ao,ap,rfl,λ_=>aA Q,rfl⟩;exact aq
  ·have aw:flat (l.take J++[R]++l.drop J)=(flat l).take (J*3)++[j R.id,j R.x,j R.y]++(flat l).drop (J*3):=by
    have aP:=wG l J;have aQ:=wF l J;rw[fI,fI,aP,aQ];rfl
   have av:(flat l).length=n*3:=C;have bc:U<=maxLen:=a0;have bd:U<=9223372036854775807:=by assumption
   refine K ?_;refine aD (ga p p ah ah) ?_;refine K ?_;refine af ?_;refine cp p (λaS=> ?_) (λaS=> ?_)
   ·have aX:J=n:=C;subst aX;refine K ?_;refine GE (bx p p aI cn (cS p) aZ Q ah ah) ?_;rintro _ _ ⟨ao,ap,rfl,a4,a7,aA,rfl⟩;refine ad ?_;refine af ?_;refine aj (C:=own kT 3 ao (l.take J++[R]++l.drop J).length ap (flat (l.take J++[R]++l.drop J))::W) p (.tmp p .nil) ?_ ⟨ao,ap,by rw[al];rfl,λ_=>aA Q,rfl⟩;rw[al,aw,List.take_of_length_le C,List.drop_of_length_le C,List.append_nil];exact aq
   ·refine aF ?_;refine cv ?_;iterate 6 refine ad ?_
    refine af ?_;refine cp p (λaV=> ?_) (λaV=> ?_)
    ·have aO:J+(n+1-J)=n+1:=C;refine K ?_;refine aD (h5 p p ah) ?_;iterate 5 refine ad ?_
     refine GE (Te p Q p p aI ar C C C C) ?_;rintro _ _ ⟨au,aK,Y,rfl,aG,be,bf,rfl⟩;refine ad ?_;refine aL ?_;have ax:min 1 (J+(n+1-J)-J)=1:=C;have ay:min (n-J) (J+(n+1-J)-(J+1))=n-J:=C;have aC:∀Z,aM (own kT 3 (ak b) n U (flat l)::Z) 3 (some ⟨b,(if U=J then 0 else 0+J*3),none⟩) (n-J) (flat (l.drop J)):=λZ=>Rd.drop (α:=I) (aM.own av (λ_=>⟨b,rfl⟩)) ar aY;refine K ?_;refine aD (ga p p ah ah) ?_;refine ad ?_;refine GE (zq (O:=J) p p aI cn (Fg (cS p) _) (λ_=>by grind) C) ?_;rintro _ _ ⟨rfl,rfl⟩;refine aL ?_;rw[ax];refine aW (aE [0,1,2,3,4,5,6,7] (.e 8 .nil)) ?_;iterate 4 refine ai ?_
     refine cV p (ga p p ah ah) ?_;iterate 2 refine ai ?_
     refine cV p (ga p p ah ah) ?_;refine an (cj O p p p (zq (O:=J+1) p p aI (by repeat' first|exact aC _|apply aM.skip) (Fg (cO _) _) (λ_=>by grind) C) ?_);rintro _ _ ⟨rfl,rfl⟩;rw[ay];refine K ?_;refine af ?_;refine aj (C:=own kT 3 (ak au) (l.take J++[R]++l.drop J).length aK (flat (l.take J++[R]++l.drop J))::W) p (.tmp p .nil) ?_ ⟨(ak au),aK,by rw[al,aO];rfl,λ_=>⟨au,rfl⟩,rfl⟩;rw[al,aw,aO,wF];have aH:=X2 (flat l) Y [j R.id,j R.x,j R.y] J n av aG p ar;apply bR;focus ((repeat' first|exact aN.here|apply aN.skip|apply aN.bE);done)
     refine r5 .here aH ?_;exact aq
    ·have ax:min 1 (n+1-J)=1:=C;have ay:min (n+1-J) (n+1-(J+1))=n-J:=C;refine K ?_;refine aD (h5 p p ah) ?_;refine ad ?_;refine af ?_;refine b5 (j:=own kT 3 (ak b) n U (flat l)::F::ae ag kT [j R.id,j R.x,j R.y]::W) (bR (.skip .here) bo) ?_;refine qp (ι:=List Value) (F:=λY=>Y.length=3) (D:=λY=>[own kT 3 (ak b) (n+1) U (flat l++Y)]) (λh o=> ?_) ?_
     ·obtain⟨bi,bg,bh⟩:=o.more (k:=n+1) Q C;grind[G.one]
     intro Y aG;have aC:∀Z,aM (own kT 3 (ak b) (n+1) U (flat l++Y)::Z) 3 (some ⟨b,(if U=J then 0 else 0+J*3),none⟩) (n+1-J) ((flat l++Y).drop (J*3)):=λZ=>aM.drop (aM.own (by grind) (λ_=>⟨b,rfl⟩)) C C;have a9:∀ba∈((flat l++Y).drop (J*3)).take (min (n+1-J) (n+1-(J+1))*3),ba.oneCell'=true:=by
      grind[List.length_drop,cO,List.mem_of_mem_drop]
     refine K ?_;refine aD (ga p p ah ah) ?_;refine aD (TO p p aI aI C Q) ?_;refine K ?_;refine aW (aE [0,1,2,3,4,5,6,7] (.e 8 .nil)) ?_;iterate 4 refine ai ?_
     refine cV p (ga p p ah ah) ?_;iterate 2 refine ai ?_
     refine cV p (ga p p ah ah) ?_;refine an (cj O p p p (zq (O:=J+1) p p aI (by repeat' first|exact aC _|apply aM.skip) a9 (λ_=>by grind) C) ?_);rintro _ _ ⟨rfl,rfl⟩;rw[ay];refine K ?_;refine aD (ga p p ah ah) ?_;refine ad ?_;refine GE (zq (O:=J) p p aI cn (Fg (cS p) _) (λ_=>by grind) C) ?_;rintro _ _ ⟨rfl,rfl⟩;refine aL ?_;rw[ax];refine K ?_;refine af ?_;refine aj (C:=own kT 3 (ak b) (l.take J++[R]++l.drop J).length U (flat (l.take J++[R]++l.drop J))::W) p (.tmp p .nil) ?_ ⟨(ak b),U,by rw[al];rfl,λ_=>⟨b,rfl⟩,rfl⟩;rw[al,aw];have aH:=X3 (flat l) Y [j R.id,j R.x,j R.y] J n av aG p ar;apply bR;focus ((repeat' first|exact aN.here|apply aN.skip|apply aN.bE);done)
     refine r5 .here aH ?_;exact aq):R:=h
def O3 {Y:Prop} (h:Y:=by
  have W:(l.take G++l.drop (G+1)).length=G+(n-(G+1)):=by grind
  have al:flat (l.take G++l.drop (G+1))=(flat l).take (G*3)++flat (l.drop (G+1)):=by
   have Z:=wG l G;rw[fI,Z];rfl
  have ag:(flat l).length=n*3:=by rw[bU,aa];rfl
  refine bH λg F=> ?_;refine tC (λh s=>own.facts (s.tail)) ?_;rintro⟨ar,ae,au,av⟩;have ap:∀U,aM (own kT 3 _ n J _::U) 3 _ _ (flat (l.drop (G+1))):=λU=>Rd.drop (aM.own ag (λ_=>⟨b,rfl⟩)) C ae;refine K ?_;refine aD (DA p p p p ah ah ah) ?_;refine K ?_;refine af ?_;refine b2 p (decide_eq_false C) ?_;refine K ?_;refine aL ?_;refine hr 1 (aE [0,1,2,3,4,5] (.e 6 (.q 7 .nil))) ?_;iterate 2 refine ai ?_
  refine cV p (h5 p p ah) ?_;iterate 2 refine ai ?_
  refine cV p (ga p p ah ah) ?_;refine an (dh O p p p (Td p p aI (by repeat' first|exact ap _|apply aM.skip) (cO _) C C) ?_);rintro _ _ ⟨rfl,rfl⟩;refine K ?_;refine aD (TR p p p ah ah) ?_;refine GE (Ka (R:=G+(n-(G+1))) p p p aI (λ_=>by grind) Q C) ?_;rintro _ _ ⟨rfl,rfl⟩;refine K ?_;refine af ?_;refine aj (C:=own kT 3 (ak b) (l.take G++l.drop (G+1)).length J (flat (l.take G++l.drop (G+1)))::R) p (.tmp p .nil) ?_ ⟨(ak b),J,by rw[W];rfl,λ_=>⟨b,rfl⟩,rfl⟩;rw[W,al];exact aq):Y:=h
def O4 {Y:Prop} (h:Y:=by
  refine ap λg F=> ?_;refine aL ?_
  by_cases Z:I=0
  ·subst Z;refine K ?_;refine af ?_;refine aj rfl (.tmp p .nil) ?_ ⟨none,0,rfl,rfl⟩;exact λh s=>(own.nil_ kT 3 h s).swap
  ·refine aF ?_;refine cD p (by grind) ?_;refine K ?_;refine aD (h5 p p ah) ?_;refine ad ?_;refine GE (Tf p Q p p C C C) ?_;rintro _ _ ⟨U,W,ao,rfl,am,ag,al,rfl⟩;iterate 2 refine ad ?_
   refine aD (h5 p p ah) ?_;refine K ?_;refine af ?_;refine aj (C:=own kT 3 (ak U) 0 W []::G) p (.tmp p .nil) ?_ ⟨(ak U),W,rfl,rfl⟩;apply bR;focus ((repeat' first|exact aN.here|apply aN.skip|apply aN.bE);done)
   exact zw .here (Nat.zero_le _) aZ bo):Y:=h
def O5 {Q:Prop} (h:Q:=by
  refine ap λg F=> ?_;refine aU λC=> ?_;refine aS λG=> ?_;refine af ?_;exact aj rfl (.tmp p .nil) aq ⟨C,G,rfl,rfl⟩):Q:=h
section
attribute [local irreducible] G bf cc
abbrev kT:Nat:=43
def D.pre{C E args j M post}(I:∀h,G j h->G M h)(h:D C E args M post):D C E args j post:=
 λg F K J=>h g F K (J.mono λ_ s=>s.ep I)
def D.pick{C G args j M E post}(I:aN E j M)(h:D C G args (E::M) post):D C G args j post:=
 h.pre λ_ s=>s.perm I.perm
def Made(J:TypeId){D}[E:e5 D](l:List D)(G:aG)(v:Value)(I:aG):Prop:=∃j C,v=.slice j l.length C/\(0<l.length->∃b,j=(ak b))/\I=own J E.dP j l.length C (flat l)::G
def lI(C n O)(l:List I)(j)(G:Rd j C n l)(ae:n<=1000000):
  D E 309 #[.slice C n O] j λv J=>Made 43 l j v J:=O1
def X2(F D C:cs)(j n)(Q:F.length=n*3)(Y:D.length=(n+1-j)*3)(R:C.length=3)(W:j<=n):
  (((F.take (j*3)++D).take (j*3)++C++(F.take (j*3)++D).drop ((j+1)*3)).take ((j+1)*3)++(F.drop (j*3)).take ((n-j)*3)++((F.take (j*3)++D).take (j*3)++C++(F.take (j*3)++D).drop ((j+1)*3)).drop ((j+1+(n-j))*3))=F.take (j*3)++C++F.drop (j*3):=by
 have aa:(F.take (j*3)).length=j*3:=by simp_all
 have G:(F.take (j*3)++D).take (j*3)=F.take (j*3):=by simp_all
 have ab:(F.take (j*3)++C).length=(j+1)*3:=by grind
 rw[G];generalize U:(F.take _++D).drop _=E;have O:E.length=(n-j)*3:=by grind
 have I:(F.take (j*3)++C++E).take ((j+1)*3)=F.take (j*3)++C:=by grind
 have J:(F.take (j*3)++C++E).drop ((j+1+(n-j))*3)=[]:=vv (by grind);have K:(F.drop _).take ((n-j)*3)=F.drop (j*3):=jE (by rw[List.length_drop];omega);simp_all
def X3(F D E:cs)(j n)(K:F.length=n*3)(U:D.length=3)(O:E.length=3)(Q:j<=n):
  (((F++D).take ((j+1)*3)++((F++D).drop (j*3)).take ((n-j)*3)++(F++D).drop ((j+1+(n-j))*3)).take (j*3)++E++((F++D).take ((j+1)*3)++((F++D).drop (j*3)).take ((n-j)*3)++(F++D).drop ((j+1+(n-j))*3)).drop ((j+1)*3))=F.take (j*3)++E++F.drop (j*3):=by
 have R:(F++D).length=(n+1)*3:=by grind
 have I:(F++D).drop ((j+1+(n-j))*3)=[]:=vv C;have J:((F++D).take ((j+1)*3)).length=(j+1)*3:=by simp_all
 have G:((F++D).drop (j*3)).take ((n-j)*3)=F.drop (j*3):=by
  rw[List.drop_append_of_le_length C,tr (by grind),jE (by grind)]
 rw[I,G,List.append_nil,tr C,List.take_take,Nat.min_eq_left C,tr C];simp_all
def n3(am n U ag J l)(R:I)(W)(aa:l.length=n)(a8:n<=1000000)(ar:J<=n):
  D E 485 #[.slice am n U,j (J:Nat),.slice (ak ag) 1 1] (own 43 3 am n U (flat l)::ae ag 43 [j R.id,j R.x,j R.y]::W) λv Z=>Made 43 (l.take J++[R]++l.drop J) W v Z:=O2
def yh(b n J G)(l:List I)(R)(aa:l.length=n)(ao:n<=1000000)(am:G<n):
  D E 589 #[.slice (ak b) n J,j (G:Nat),j (G+1:Nat)] (own 43 3 (ak b) n J (flat l)::R) λv U=>Made 43 (l.take G++l.drop (G+1)) R v U:=O3
def Ci(I G)(ae:I<=1000000):
  D E 487 #[.slice none 0 0,j (I:Nat)] G λv R=>∃J O,v=.slice J 0 O/\R=own 43 3 J 0 O []::G:=O4
def Qa(U R n O Y Z W)(l q:List I)(ag)(au:l.length=n)(ax:q.length=O)(a4:n<=500000)(a3:O<=500000)(aH:0<n->∃b,U=(ak b))(aK:0<O->∃b,R=(ak b)):
  D E 410 #[.slice (ak W) 2 2] (ae W 38 [.slice U n Y,.slice R O Z]::own 43 3 U n Y (flat l)::own 43 3 R O Z (flat q)::ag) λv aE=>Made 43 (l++q) ag v aE:=by
 have aO:(flat l).length=n*3:=by rw[bU,au];rfl
 have aP:(flat q).length=O*3:=by rw[bU,ax];rfl
 refine bH λg F=> ?_;have a1:aR (ae W 38 [.slice U n Y,.slice R O Z]::own 43 3 U n Y (flat l)::own 43 3 R O Z (flat q)::ag) ⟨W,0+0*1,none⟩ _:=aR.ae p;have a2:aR (ae W 38 [.slice U n Y,.slice R O Z]::own 43 3 U n Y (flat l)::own 43 3 R O Z (flat q)::ag) ⟨W,0+1*1,none⟩ _:=aR.ae p;have aX:aM (ae W 38 [.slice U n Y,.slice R O Z]::own 43 3 U n Y _::own 43 3 R O Z (flat q)::ag) 3 U n _:=aM.skip (aM.own aO aH);have aY:aM (ae W 38 [.slice U n Y,.slice R O Z]::own 43 3 U n Y (flat l)::own 43 3 R O Z (flat q)::ag) 3 R O (flat q):=aM.skip (aM.skip (aM.own aP aK));have aQ:∀h,G (ae W 38 [.slice U n Y,.slice R O Z]::own 43 3 U n Y (flat l)::own 43 3 R O Z (flat q)::ag) h->G ag h:=lQ (lQ (lQ bo));generalize(ae W 38 [.slice U n Y,.slice R O Z]::own 43 3 U n Y (flat l)::own 43 3 R O Z (flat q)::ag)=M at*
 refine K ?_;refine aL ?_
 (repeat first|refine bZ ?_|refine fi ?_|refine gk ?_)
 refine hs (ι:=Unit) (λ_=>[(0,.slice (ak W) 2 2),(3,j (n+O:Nat))]) (λ_=>F::M) (λ_=>True) ?_ ?_
 ·refine aF ?_;refine cJ (ι:=Nat×Nat) (λJ=>[(0,.slice (ak W) 2 2),(3,j (J.2:Nat)),(9,.slice (ak W) 2 2),(10,j 2),(11,j (J.1:Nat))]) (λ_=>F::M) (λJ=>J=(0,0)\/J=(1,n)\/J=(2,n+O)) (λJ=>2-J.1) (0,0) (.inl p) a8 az ?_;rintro J (rfl|rfl|rfl)
  ·dsimp only;refine K ?_;refine af ?_;exact bM (1,n) (.inr (.inl p)) Q ⟨rfl,by simp only[iQ];rfl,rfl,rfl,rfl,trivial⟩ az
  ·dsimp only;refine aJ ?_;refine ad ?_;refine f7 ?_;refine aJ ?_;iterate 3 refine ad ?_
   refine bD ?_;iterate 5 refine ad ?_
   refine bD ?_;iterate 2 refine ad ?_
   refine af ?_;refine b2 p (decide_eq_false Q) ?_;refine K ?_;refine af ?_;exact bM (2,n+O) (.inr (.inr p)) Q a8 az
  ·dsimp only;refine K ?_;refine aF ?_;exact ex () trivial a8 az
 ·rintro _ _;refine K ?_;refine GE (aw p (Ci (n+O) _ C)) ?_;rintro _ _ ⟨aC,aG,rfl,rfl⟩;refine K ?_;refine aL ?_
  (repeat first|refine bZ ?_|refine fi ?_|refine gk ?_)
  refine hs (ι:=Option Addr×Nat) (λJ=>[(6,.slice J.1 (l++q).length J.2)]) (λJ=>own 43 3 J.1 (l++q).length J.2 (flat (l++q))::F::M) (λJ=>0< (l++q).length->∃b,J.1=(ak b)) ?_ ?_
  ·refine aF ?_;refine cJ (ι:=Nat×Option Addr×Nat×List I) (λJ=>[(6,.slice J.2.1 J.2.2.2.length J.2.2.1),(25,.slice (ak W) 2 2),(26,j 2),(27,j (J.1:Nat))]) (λJ=>own 43 3 J.2.1 J.2.2.2.length J.2.2.1 (flat J.2.2.2)::F::M)
    (λJ=>(J.1=0/\J.2.2.2=[]\/J.1=1/\J.2.2.2=l\/J.1=2/\J.2.2.2=l++q)/\(0<J.1->0<J.2.2.2.length->∃b,J.2.1=(ak b))) (λJ=>2-J.1) (0,aC,aG,[]) ⟨.inl ⟨rfl,rfl⟩,λh=>absurd h (Nat.lt_irrefl 0)⟩ a8 az ?_
   rintro⟨a5,al,am,a0⟩ ⟨aA,ao⟩;simp only at aA ao;dsimp only;rcases aA with ⟨rfl,rfl⟩|⟨rfl,rfl⟩|⟨rfl,rfl⟩
   ·refine aF ?_;refine cv ?_;refine K ?_;refine GE (bx p p aI (aM.skip (aM.skip aX)) ((cO _)) aZ Q ah ah) ?_;rintro _ _ ⟨ap,ar,rfl,aS,aV,av,rfl⟩;refine K ?_;refine af ?_;exact bM (1,ap,ar,l) ⟨.inr (.inl ⟨rfl,rfl⟩),λ_ h=>av (by simp_all)⟩ Q ⟨by simp only[vA,iQ,au];rfl,rfl,rfl,rfl,trivial⟩ (by
     simp only[vA,iQ,au];exact az)
   ·refine aF ?_;refine cv ?_;refine ad ?_;refine f7 ?_;refine aJ ?_;iterate 3 refine ad ?_
    refine aL ?_;have aW:∀ay,aM (ay::F::M) 3 R O (flat q):=λay=>aM.skip (aM.skip aY);refine K ?_;refine GE (bx p p aI (aW _) ((cO _)) aZ Q ah ah) ?_;rintro _ _ ⟨ap,ar,rfl,aS,aV,av,rfl⟩;refine K ?_;refine af ?_;exact bM (2,ap,ar,a0++q) ⟨.inr (.inr ⟨rfl,rfl⟩),λ_ h=>av (by simp_all)⟩ Q ⟨by simp only[bP,ax];rfl,rfl,rfl,rfl,trivial⟩ (by
     simp only[bP,ax];refine r5 .here ?_ bo;rw[fI])
   ·refine aF ?_;refine cv ?_;refine K ?_;refine aF ?_;exact ex (al,am) (ao Q) ⟨rfl,trivial⟩ az
  ·rintro⟨al,am⟩ ao;refine K ?_;refine af ?_;refine aj (C:=own 43 3 al (l++q).length am (flat (l++q))::ag) p (.tmp p .nil) ?_ ⟨al,am,rfl,ao,rfl⟩;exact bR (.skip .here) (nm aQ)
@[reducible] def I.v (C:I):Value:=.agg #[j C.id,j C.x,j C.y]
def yB(J:TypeId){D}[E:e5 D](l:List D)(G:aG)(v:Value)(I:aG):Prop:=∃C j,v=.slice C l.length j/\(0<l.length->∃b,C=(ak b))/\l.length<=j/\j<=maxLen/\I=own J E.dP C l.length j (flat l)::G
def D.made{G J args E C I O}[ak:e5 O]{l:List O}(h:D G J args E λv j=>Made I l C v j):D G J args E λv j=>yB I l C v j:=λg F ag ae=>
 (h g F ag ae).mono λal am ⟨v,j,U,⟨Q,R,W,Y,Z⟩,K⟩=>by
  subst Z;have q:=own.facts K.s.tail;exact⟨v,_,U,⟨Q,R,W,Y,q.2.1,q.2.2.1,rfl⟩,K⟩
def Qz(R:FuncId)[b4 E R](Z ae:cs)(U:I->Bool)(O:bA)(n Y:Nat)(l:List I)(J:aG)(ak:Rd J O n l)(aH:n<=1000000)
  (aw:∀W:I,D E R (Z++[W.v]++ae).toArray J λv Q=>v=.bool (U W)/\Q=J):
  D E 411 #[.slice O n Y,.func (.func R) Z.toArray ae.toArray] J λv Q=>(∃am:Int,v=j am/\decide (0<=am)=l.any U)/\Q=J:=by
 have aa:=ak.len bs;refine ap λg F=> ?_;refine af ?_;refine cJ (λG=>[(0,.slice O n Y),(1,.func _ _ _),(7,.int _ _),(8,.int _ (G:Nat))]) (λ_=>F::J) (λG=>G<=n/\(l.take G).any U=false) (λG=>n-G) 0 ⟨bu _,by rfl⟩ a8 az ?_;rintro G ⟨aE,al⟩;refine K ?_;refine af ?_;refine cp p (λav=> ?_) (λav=> ?_)
 ·obtain⟨aC,aI,rfl,ay⟩:=ak.at_ C;have au:l[G]?=some l[G]:=cb C;have aA:=ay _ _ au;have aK:l.take (G+1)=l.take G++[l[G]]:=gu C;have ax:l[G] ∈l:=hp _;generalize l[G]=ao at*
  have aL:=aA;refine K ?_;refine GE (eV p p (D.frame [F] (aw ao) bo)) ?_;rintro _ _ ⟨_,⟨rfl,rfl⟩,rfl⟩;refine af ?_;refine d3 p (λag=> ?_) (λag=> ?_)
  ·refine aF ?_;refine cv ?_;refine bI ?_;exact⟨⟨G,rfl,by rw[decide_eq_true C];exact(List.any_eq_true.2 ⟨ao,ax,ag⟩).symm⟩,rfl⟩
  ·refine aF ?_;refine cv ?_;iterate 2 refine ad ?_
   refine af ?_;exact bM (G+1) ⟨C,by simp_all⟩ C a8 az
 ·have ar:G=n:=C;subst ar;rw[<- aa,List.take_length]at al;refine bI ?_;exact⟨⟨-1,rfl,by rw[al];rfl⟩,rfl⟩
def Qb(C:FuncId)[b4 E C](K O:cs)(Q:I->Bool)(G:bA)(n U:Nat)(l:List I)(j:aG)(Z:Rd j G n l)(ae:n<=1000000)
  (W:∀R:I,D E C (K++[R.v]++O).toArray j λv J=>v=.bool (Q R)/\J=j):
  D E 314 #[.slice G n U,.func (.func C) K.toArray O.toArray] j λv J=>v=.bool (l.any Q)/\J=j:=by
 refine ap λg F=> ?_;refine GE (aw p (D.frame [F] (Qz C K O Q G n U l j Z ae W) bo)) ?_;rintro _ _ ⟨_,⟨⟨ag,rfl,Y⟩,rfl⟩,rfl⟩;refine bI ?_;exact⟨congrArg _ Y,rfl⟩
def p5(ae:FuncId)[b4 E ae](ak al:cs)(ax:I->Bool)(Y:bA)(n ag Q:Nat)(l:List I)(R:aG)(ar:Rd R Y n l)(aY:n<=1000000)(aO:Q<=n)(aQ:∀(aw:Nat)(W:I),l[aw]?=some W->(ax W=true<->Q<=aw))
  (aK:∀W:I,D E ae (ak++[W.v]++al).toArray R λv Z=>v=.bool (ax W)/\Z=R):
  D E 558 #[.slice Y n ag,.func (.func ae) ak.toArray al.toArray] R λv Z=>v=j (Q:Nat)/\Z=R:=by
 have aa:=ar.len bs;refine ap λg F=> ?_;refine af ?_;refine cJ (λJ=>[(0,.slice Y n ag),(1,.func _ _ _),(5,.int _ (J.1:Nat)),(6,j (J.2:Nat))]) (λ_=>F::R) (λJ=>J.1<=Q/\Q<=J.2/\J.2<=n) (λJ=>J.2-J.1) (0,n) ⟨bu _,aO,bv _⟩ a8 az ?_;rintro⟨G,O⟩ ⟨aC,aE,aH⟩;refine K ?_;refine af ?_;refine cp p (λaI=> ?_) (λaI=> ?_)
 ·obtain⟨aW,aZ,rfl,aV⟩:=ar.at_ C;have aP:G+(O-G)/2<O:=C;have am:l[G+(O-G)/2]?=some l[G+(O-G)/2]:=cb C;have ay:=aV _ _ am;have av:=aQ _ _ am;generalize l[G+(O-G)/2]=aS at*
  refine K ?_
  (first|refine aD (kH (q:=2) p p ah ah) ?_|refine aD (hQ p p ah ah ah) ?_)
  iterate 2 refine ad ?_
  refine aL ?_;obtain⟨U,au⟩:∃U,G+(O-G)/2=U:=⟨_,rfl⟩;have aX:G<=U:=C;rw[au]at aP ay av;rw[au];have a0:=ay;refine K ?_;refine GE (eV p p (D.frame [F] (aK aS) bo)) ?_;rintro _ _ ⟨_,⟨rfl,rfl⟩,rfl⟩;refine af ?_;refine d3 p (λao=> ?_) (λao=> ?_)
  ·have:=av.1 ao;refine K ?_;refine af ?_;exact bM (G,U) ⟨aC,this,C⟩ C a8 az
  ·have: ¬Q<=U:=λh=>by simp_all
   refine K ?_;refine af ?_;exact bM (U+1,O) ⟨C,aE,aH⟩ C a8 az
 ·have aA:G=Q:=C;subst aA;exact dq
end
theorem I.oA(j q:I):j.less q=true<->(j.x<q.x\/j.x=q.x/\(j.y<q.y\/j.y=q.y/\j.id<q.id)):=by
 unfold I.less;grind
theorem I.zM(j q:I):j=q<->(j.id=q.id/\j.x=q.x/\j.y=q.y):=by
 obtain⟨C,b,D⟩:=j;obtain⟨E,G,J⟩:=q;simp
theorem I.nC(j:I):j.less j=false:=by
 cases h:j.less j with
 |false=>rfl
 |true=>rw[I.oA]at h;omega
theorem I.qV{j q C:I}(h:j.less q=true)(D:q.less C=true):j.less C=true:=by rw[I.oA]at*;omega
theorem I.Ag{j q:I}(h:j.less q=true):q.less j=false:=by
 cases C:q.less j with
 |false=>rfl
 |true=>rw[I.oA]at*;omega
theorem I.qU{j q:I}(h:j≠q)(D:j.less q=false):q.less j=true:=by
 rw[I.oA];have C: ¬j.less q=true:=by simp_all
 rw[I.oA]at C;rw[ne_eq,I.zM]at h;omega
def I.JR(j q:I): ¬0<j.cmp q<->q.less j=false:=by
 unfold I.cmp
 by_cases h:j=q
 ·subst h;simp[I.nC]
 ·by_cases C:j.less q=true
  ·simp[h,C,I.Ag C]
  ·have D:j.less q=false:=by simp_all
   simp[h,D,I.qU h D]
def I.SM(j q:I):0<j.cmp q<->q.less j=true:=by
 have:=I.JR j q;grind
def dw(l:List I):Prop:=l.Pairwise λj b=>j.less b=true
def dW(v:I)(l:List I):List I:=l.takeWhile (λj=>!v.less j)++v::l.dropWhile (λj=>!v.less j)
def gZ(v:I)(l:List I):Nat:=(l.takeWhile (λj=>!v.less j)).length
def AP(v l):gZ v l<=l.length:=(BU _).length_le
theorem NQ(v l):dW v l=l.take (gZ v l)++[v]++l.drop (gZ v l):=by
 have h:=ql (p:=λC=>!v.less C) (l:=l);have D:∀(j b:List I),j++b=l->l.take j.length=j/\l.drop j.length=b:=by
  grind
 grind[gZ,dW]
theorem sP(v l):(dW v l).Perm (v::l):=by grind[dW,ql]
def X1(v l):(dW v l).length=l.length+1:=by rw[(sP v l).length_eq];rfl
theorem Fw(v):∀(l),dw l->∀(j)(C),l[j]?=some C->(v.less C=true<->gZ v l<=j)
 | [],_,j,C,h=>by trivial
 |b::l,E,j,C,h=>by
  unfold dw at E;rw[gO]at E;cases G:v.less b with
  |true=>
   have D:gZ v (b::l)=0:=by simp[gZ,G]
   rw[D];refine⟨λ_=>bu _,λ_=> ?_⟩;grind[I.qV]
  |false=>
   have D:gZ v (b::l)=gZ v l+1:=by simp[gZ,G]
   rw[D];cases j with
   |zero=>
    simp_all
   |succ j=>
    rw[Fw v l E.2 j C (by assumption)];simp
def NP(v l)(C:dw l)(K:v∉l):dw (dW v l):=by
 induction l with
 |nil=>simp[dW,dw]
 |cons b l O=>
  have J:=C;unfold dw at C;rw[gO]at C;cases E:v.less b with
  |true=>
   have D:dW v (b::l)=v::b::l:=by simp[dW,E]
   rw[D];unfold dw;rw[gO];refine⟨λG j=> ?_,J⟩;rcases cQ.1 j with rfl|j
   ·omega
   grind[I.qV]
  |false=>
   have D:dW v (b::l)=b::dW v l:=by simp[dW,E]
   rw[D];unfold dw;rw[gO];refine⟨λG j=> ?_,O C.2 (λh=>K (kY _ h))⟩;rcases cQ.1 ((sP v l).subset j)with rfl|j
   ·simp_all[I.qU]
   simp_all
theorem dw.nodup{l}(h:dw l):l.Nodup:=h.imp λ{D b} C j=>by subst j;rw[I.nC]at C;trivial
def dw.append{l j}(aa:dw l)(ab:dw j)(h:∀C∈l,∀b∈j,C.less b=true):dw (l++j):=lE.2 ⟨aa,ab,h⟩
def dw.sub{l j}(h:dw j)(s:l.Sublist j):dw l:=h.sublist s
section
attribute [local irreducible] G bf cc
def v9(G v:I)(J K C)(W:aB C J 0 3 [j v.id,j v.x,j v.y])(Y:aR C ⟨K,0,none⟩ (.func (.func 306) #[] #[])):
  D E 559 #[G.v,R K,R J] C λQ O=>Q=.bool (v.less G)/\O=C:=by
 refine ap λg F=> ?_;refine aS λU=> ?_;refine GE (eV p p (pO v G _)) ?_;rintro _ _ ⟨rfl,rfl⟩;exact dq
def po(G n J l v I)(U:Rd I G n l)(W:n<=1000000)(Y:dw l):
  D E 486 #[.slice G n J,v.v,.func (.func 306) #[] #[]] I λZ K=>Z=j (gZ v l:Nat)/\K=I:=by
 have aa:=U.len bs;have ae:=AP v l;refine ap λg F=> ?_;refine aU λQ=> ?_;refine aS λR=> ?_;refine a9 (p5 _ [] _ _ G n J _ l _ cr W C (Fw v l Y) (λO=>v9 O v Q R _ bS dX)) ?_;refine af ?_;refine aj p (.tmp p .nil) az ⟨rfl,rfl⟩
def yD(j n G l v O)(ae:Rd O j n l)(am:n<=100000)(Y:dw l):
  D E 409 #[.slice j n G,v.v,.func (.func 306) #[] #[]] O λak Z=>Made 43 (dW v l) O ak Z:=by
 have aa:=ae.len bs;have U:=AP v l;rw[NQ];refine ap λg F=> ?_;refine aS λal=> ?_;refine aL ?_;refine aW (aE [0,2,3,4,6] (.hc 1 (.hc 5 (.e 7 (.e 8 (.q 9 .nil))) 7 (.e 5 (.e 8 (.q 9 .nil)))) 7 (.e 1 (.e 5 (.e 8 (.q 9 .nil)))))) ?_;iterate 5 refine ai ?_
 refine h1 ?x22_0 ?x22_1
 case' x22_1=>
  refine a1 p p p (e8 aZ p p) ?_;rintro _ _ ⟨I,rfl,rfl⟩;refine bg ?_;refine an (a1 p p p (aw p (lI j n G l _ cr C)) ?_);rintro _ _ ⟨K,R,rfl,ag,rfl⟩;refine bg ?_;refine an (a1 p p p (aw p (po j n G l v _ cr C Y)) ?_);rintro _ _ ⟨rfl,rfl⟩;refine bg ?_;refine an (a1 p p p (aw p (D.pick aI (D.pre (bR (.skip .here) bo) (n3 K _ R I (gZ v l) l v _ p C U)))) ?_);rintro _ _ ⟨J,Q,rfl,W,rfl⟩;refine bg ?_;refine ai ?_;refine dl ?_
 case' x22_0=>
  refine a1 p p p (aw p (lI j n G l _ cr C)) ?_;rintro _ _ ⟨K,R,rfl,ag,rfl⟩;refine bg ?_;refine h1 ?x23_0 ?x23_1
  case' x23_1=>
   refine a1 p p p (e8 aZ p p) ?_;rintro _ _ ⟨I,rfl,rfl⟩;refine bg ?_;refine an (a1 p p p (aw p (po j n G l v _ cr C Y)) ?_);rintro _ _ ⟨rfl,rfl⟩;refine bg ?_;refine an (a1 p p p (aw p (D.pick aI (D.pre (bR (.skip .here) bo) (n3 K _ R I (gZ v l) l v _ p C U)))) ?_);rintro _ _ ⟨J,Q,rfl,W,rfl⟩;refine bg ?_;refine ai ?_;refine dl ?_
  case' x23_0=>
   refine a1 p p p (aw p (po j n G l v _ cr C Y)) ?_;rintro _ _ ⟨rfl,rfl⟩;refine bg ?_;refine an (a1 p p p (e8 aZ p p) ?_);rintro _ _ ⟨I,rfl,rfl⟩;refine bg ?_;refine an (a1 p p p (aw p (D.pick aI (D.pre (bR (.skip .here) bo) (n3 K _ R I (gZ v l) l v _ p C U)))) ?_);rintro _ _ ⟨J,Q,rfl,W,rfl⟩;refine bg ?_;refine ai ?_;refine dl ?_
 all_goals
  refine aF ?_;exact aj (C:=own 43 3 J (l.take (gZ v l)++[v]++l.drop (gZ v l)).length Q (flat (l.take (gZ v l)++[v]++l.drop (gZ v l)))::O) p (.tmp p .nil) aq ⟨J,Q,rfl,W,rfl⟩
end
section
variable{P:Program}{g:c0}{L M:aG}{J:bW}{d:Option Nat}{aQ T cE:TypeId}{a3:String}{a2:Array Edge}{a0:Option (Nat×Bool)}{x y:Operand}{v:Value}
def r3{b o n E j I Q}[aZ:dr P T](aH:aY J x=some (.pointer (some ⟨b,o,none⟩)))(aI:aY J y=some v)(ay:oH v=true)(aw:aN (own I j (ak b) n E Q) L M)(ba:o<n*j):
  cc P g L J ⟨d,.store T x y,aQ,a3,a2,a0⟩ λO R=>O=undef/\R=own I j (ak b) n E (Q.set o v)::M:=λag W ax aA Y Z ar=>by
 have U:=aA.mono λ_=>G.perm aw.perm;obtain⟨aK,aL,am,aO,aP,K,l⟩:=U.s;obtain⟨D,au,a7,bb⟩:=K.pY;have av:=K.le;have a6:=K.cap;have aE:a4 g (ae b I D::M) W:=⟨U.g,aK,aL,am,aO,aP,au,l⟩;have a9:n*j<=E*j:=lG _ av;have a8:o<D.length:=C;refine(c5 aH aI ay (h3.here (by simp;omega))) ag W ax aE Y Z λO aW R ⟨ao,ap⟩ aC=> ?_;subst ap;refine ar O aW _ ⟨ao,rfl⟩ (aC.mono λh s=> ?_);have a1:ej D o [v]=D.set o v:=by
  grind[jy,HY]
 have a5:(ej D o [v]).take (n*j)=Q.set o v:=by simp_all[List.take_set]
 obtain⟨aa,ab,al,aS,aV,q,aX⟩:=s;refine⟨aa,ab,al,aS,aV,?_,aX⟩;grind[own.kF]
def Dp{b o n I D Y K Q j}[a6:gR P T Y](aL:aY J x=some (.pointer (some ⟨b,o,none⟩)))(aO:aY J y=some (.agg j.toArray))(ax:Nat.beq j.length Y=true)(aE:iW j=true)(aA:aN (own K D (ak b) n I Q) L M)(bb:o+j.length<=n*D):
  cc P g L J ⟨d,.store T x y,aQ,a3,a2,a0⟩ λO R=>O=undef/\R=own K D (ak b) n I (ej Q o j)::M:=λam Z aC aH ag al av=>by
 have W:=aH.mono λ_=>G.perm aA.perm;obtain⟨aP,aS,ap,aV,aW,E,l⟩:=W.s;obtain⟨U,aw,a9,bc⟩:=E.pY;have ay:=E.le;have a8:=E.cap;have bd:=E.len;have aK:a4 g (ae b K U::M) Z:=⟨W.g,aP,aS,ap,aV,aW,aw,l⟩;have ba:n*D<=I*D:=lG _ ay;refine(f1 aL aO ax aE (h3.here (Nat.ble_eq_true_of_le C))) am Z aC aK ag al λO a1 R ⟨ar,au⟩ aI=> ?_;subst au;refine av O a1 _ ⟨ar,rfl⟩ (aI.mono λh s=> ?_);have a7:(ej U o j).take (n*D)=ej Q o j:=by
  grind[jy,Gs]
 obtain⟨aa,ab,ao,aX,aZ,q,a5⟩:=s;refine⟨aa,ab,ao,aX,aZ,?_,a5⟩;grind[own.kF,vc]
def KW{G}[C:e5 G](l j D)(E:j<l.length):ej (flat l) (j*C.dP) (C.nq D)=flat (l.set j D):=by rw[jy _ _ _ (by rw[bU,e5.len,<- Ie];exact lG _ E),HY,if_pos E,fI,jo,wG,wF,e5.len,Ie,ho]
end
def D.dR{E I args C post dR}(h:D E I args C post)(R:∀v j J,post v j->G j J->∃M,dR v M/\G M J):D E I args C dR:=λg F ak U=>
 (h g F ak U).mono λal am ⟨v,j,Q,W,q⟩=>by
  obtain⟨aa,ab,O,Z,ae,K,l⟩:=q.s;obtain⟨M,Y,ag⟩:=R v j ab W l;exact⟨v,M,Q,Y,q.g,aa,ab,O,Z,ae,K,ag⟩
def D.open{K O args I C}{ι:Type}{J:ι->List aO}{E:ι->Prop}{post}(al:∀h,C h->∃j,E j/\G (J j) h)(W:∀j,E j->D K O args (J j++I) post):D K O args (C::I) post:=λg F ap Q=>by
 obtain⟨aa,ab,R,am,ao,Z,ae⟩:=Q.s.swap;obtain⟨j,Y,ak⟩:=al _ Z;have ag:=G.head (λ_ U=>U▸ak) ⟨aa,ab,R,am,ao,rfl,ae⟩;exact W j Y g F ap ⟨Q.g,ag.perm e4⟩
def kg(n:Int):Bool:=decide (1<=n)&&decide (n<=2147483647)
def eg(j:I):Bool:=kg j.id&&(dF j.x&&dF j.y)
def gX(C:Int)(l:List I)(j:I):Int:=if eg j=false then 1 else if j∈l then 5 else if C<=l.length then 4 else 0
def pt(l:List I)(j:I):Int:=if j∈l then 0 else 6
def Bf{l j}(h:l.Perm j):bj l=bj j:=by rw[<- FM l l (.refl _),FM l j h]
def aR.of{j N D C v}(E:∀h,j h->G N h)(l:aR N C v):aR (j::D) C v:=⟨λh s=>by
 obtain⟨aa,ab,d,I,K,J,O⟩:=s;exact hw.sub (l.1 _ (E _ J)) I⟩
def aM.of{C N I D n j E}(K:∀h,C h->G N h)(h:aM N D j n E):aM (C::I) D j n E:=
 ⟨h.1,λQ=>let ⟨b,o,J,U⟩:=h.2 Q;⟨b,o,J,λR v O=>(U R v O).of K⟩⟩
def wQ(n C):D E 446 #[j n] C λv G=>v=.bool (kg n)/\G=C:=by
 have I:=m1;refine bH λg F=> ?_;repeat' first|refine aH ?_|refine aU λ_=> ?_|refine aP (λ_=> ?_) (λ_=> ?_)|fail
 all_goals first|contradiction|(refine bI ?_;exact⟨by simp_all[bG,kg]<;>(omega),rfl⟩)
def Er(j:I)(C):D E 447 #[j.v] C λv G=>v=.bool (dF j.x&&dF j.y)/\G=C:=by
 have J:=m1;refine bH λg F=> ?_;repeat' first|refine aH ?_|refine aU λ_=> ?_|refine aP (λ_=> ?_) (λ_=> ?_)|fail
 all_goals first|contradiction|(refine bI ?_;exact⟨by simp_all[bG],rfl⟩)
def tF(j C):D E 366 #[j.v] C λv G=>v=.bool (eg j)/\G=C:=by
 have I:=wQ;have J:=Er j;refine bH λg F=> ?_;repeat' first|refine aH ?_|refine aU λ_=> ?_|refine aP (λ_=> ?_) (λ_=> ?_)|fail
 all_goals first|contradiction|(refine bI ?_;exact⟨by simp_all[bG,eg],rfl⟩)
def aaC(l:List I)(j:I):Int:=if j∈l then(l.idxOf j:Nat)else-1
def Q9(n C):D E 48 #[j n] C λv G=>v=.bool (kg n)/\G=C:=by
 have I:=vI;refine bH λg F=> ?_;repeat' first|refine aH ?_|refine aU λ_=> ?_|refine aP (λ_=> ?_) (λ_=> ?_)|fail
 all_goals first|contradiction|(refine bI ?_;exact⟨by simp_all[bG,kg]<;>(omega),rfl⟩)
def Ra(j:I)(C):D E 49 #[j.v] C λv G=>v=.bool (dF j.x&&dF j.y)/\G=C:=by
 have J:=vI;refine bH λg F=> ?_;repeat' first|refine aH ?_|refine aU λ_=> ?_|refine aP (λ_=> ?_) (λ_=> ?_)|fail
 all_goals first|contradiction|(refine bI ?_;exact⟨by simp_all[bG],rfl⟩)
def ou(C:Int)(l:List I)(j:I):List I:=if gX C l j=0 then l++[j]else l
def aa1(j:I->Bool)(l:List I):List Int:=(l.filter j).map (·.id)
section
variable{α:Type}[DecidableEq α]
theorem DD(j:α->Bool):∀(l:List α),l.Pairwise (λa b=>j b=true->j a=true)->l.filter j++l.filter (λC=>!j C)=l
 | [],_=>rfl
 |a::l,h=>by
  rw[gO]at h;have G:=DD j l h.2;cases E:j a with
  |true=>simp_all
  |false=>
   have D:l.filter j=[]:=by
    simp_all
   grind
theorem wC(j:α->Bool)(l:List α)(h:l.Pairwise (λC b=>j b=true->j C=true)):l.take (l.countP j)=l.filter j:=by
 have D:l.countP j=(l.filter j).length:=List.countP_eq_length_filter;rw[D];have ab:=congrArg (List.take (l.filter j).length) (DD j l h);grind
theorem DC(j:α->Bool)(l:List α)(h:l.Pairwise (λC b=>j b=true->j C=true)):l.drop (l.countP j)=l.filter (λD=>!j D):=by grind[DD,List.append_cancel_left]
def mA(j:α->Bool)(l:List α)(h:l.Pairwise (λC b=>j b=true->j C=true))(D:Nat)(C:α)(G:l[D]?=some C):(!j C)=true<->l.countP j<=D:=by
 rcases eC D (l.countP j)with aa|aa
 ·have:C∈l.filter j:=by
   rw[<- wC j l h];exact kZ (i:=D) (by simp_all)
  simp_all
 ·have:C∈l.filter (λE=>!j E):=by
   rw[<- DC j l h];exact kZ (i:=D-l.countP j) (by simp_all)
  simp_all
structure ev {α:Type} (C:α->α->Bool):Prop where
 hS:∀j,C j j=false
 fx:∀{j q D},C j q=true->C q D=true->C j D=true
 e2:∀{j q},j≠q->C j q=false->C q j=true
theorem ev.asym{j:α->α->Bool}(o:ev j){C q:α}(h:j C q=true):j q C=false:=by
 cases D:j q C with
 |false=>rfl
 |true=>have:=o.fx h D;rw[o.hS]at this;trivial
def ev.RM{j:α->α->Bool}(o:ev j){C q:α}(h:j C q=false)(D:j q C=false):C=q:=by
 rcases te _ with e|e
 ·omega
 ·rw[o.e2 e h]at D;grind
def ev.Ad{j:α->α->Bool}(o:ev j){C q D:α}(h:j q C=false)(I:j D q=false):j D C=false:=by
 cases G:j D C with
 |false=>rfl
 |true=>
  rcases te (C=q)with E|E
  ·simp_all
  ·have:=o.fx G (o.e2 (Ne.symm E) h);simp_all
theorem fX:ev I.less:=⟨I.nC,I.qV,I.qU⟩
def dg(C:α->α->Bool)(l:List α):Prop:=l.Pairwise λj b=>C j b=true
def fG(C:α->α->Bool)(l:List α):Prop:=l.Pairwise λj b=>C b j=false
def eR(C:α->α->Bool)(v:α)(l:List α):List α:=l.takeWhile (λj=>!C v j)++v::l.dropWhile (λj=>!C v j)
def iL(j:α->α->Bool)(v:α)(l:List α):Nat:=(l.takeWhile (λC=>!j v C)).length
section
variable{Y:α->α->Bool}
theorem dg.bj(o:ev Y){l:List α}(h:dg Y l):fG Y l:=h.imp λh=>o.asym h
def fG.mn(o:ev Y):∀{l:List α},fG Y l->l.Nodup->dg Y l
 | [],_,_=> .nil
 |a::l,h,j=>by
  unfold fG at h;rw[gO]at h;rw[ix]at j;exact gO.2 ⟨λb C=>o.e2 (λD=>j.1 (D▸C)) (h.1 b C),fG.mn o h.2 j.2⟩
def XX(v:α)(l:List α):iL Y v l<=l.length:=(BU _).length_le
theorem XY(v:α)(l:List α):eR Y v l=l.take (iL Y v l)++[v]++l.drop (iL Y v l):=by
 have h:=ql (p:=λC=>!Y v C) (l:=l);have D:∀(j b:List α),j++b=l->l.take j.length=j/\l.drop j.length=b:=by
  grind
 grind[iL,eR]
theorem u5(v:α)(l:List α):(eR Y v l).Perm (v::l):=by grind[eR,ql]
def XZ(v:α)(l:List α):(eR Y v l).length=l.length+1:=by rw[(u5 v l).length_eq];rfl
theorem AO(o:ev Y)(v:α):∀(l:List α),dg Y l->∀(j:Nat)(C:α),l[j]?=some C->(Y v C=true<->iL Y v l<=j)
 | [],_,j,C,h=>by trivial
 |b::l,D,j,C,h=>by
  unfold dg at D;rw[gO]at D;cases G:Y v b with
  |true=>
   have E:iL Y v (b::l)=0:=by simp[iL,G]
   rw[E];refine⟨λ_=>bu _,λ_=> ?_⟩;cases j with
   |zero=>simp_all
   |succ j=>exact o.fx G (D.1 C (kZ (by assumption)))
  |false=>
   have E:iL Y v (b::l)=iL Y v l+1:=by simp[iL,G]
   rw[E];cases j with
   |zero=>
    simp_all
   |succ j=>
    rw[AO o v l D.2 j C (by assumption)];simp
def NO(o:ev Y)(v:α)(l:List α)(C:dg Y l)(I:v∉l):dg Y (eR Y v l):=by
 induction l with
 |nil=>simp[eR,dg]
 |cons b l K=>
  have J:=C;unfold dg at C;rw[gO]at C;cases D:Y v b with
  |true=>
   have E:eR Y v (b::l)=v::b::l:=by simp[eR,D]
   rw[E];unfold dg;rw[gO];refine⟨λG j=> ?_,J⟩;rcases cQ.1 j with rfl|j
   ·omega
   ·exact o.fx D (C.1 G j)
  |false=>
   have E:eR Y v (b::l)=b::eR Y v l:=by simp[eR,D]
   rw[E];unfold dg;rw[gO];refine⟨λG j=> ?_,K C.2 (λh=>I (kY _ h))⟩;rcases cQ.1 ((u5 v l).subset j)with rfl|j
   ·exact o.e2 (λh=>I (by simp_all)) D
   simp_all
theorem dg.nodup(o:ev Y){l:List α}(h:dg Y l):l.Nodup:=h.imp λ{D b} C j=>by subst j;rw[o.hS]at C;trivial
theorem fG.unique(o:ev Y):∀{l j:List α},fG Y l->fG Y j->l.Perm j->l=j
 | [],j,_,_,C=>by simp_all
 |a::l,[],_,_,C=>by simp_all
 |a::l,b::j,aa,ab,C=>by
  unfold fG at aa ab;rw[gO]at aa ab;have E:a=b:=by
   have G:a∈b::j:=C.subset Q;have I:b∈a::l:=C.symm.subset Q;rcases cQ.1 G with h|h
   ·omega
   ·rcases cQ.1 I with D|D
    ·simp_all
    ·exact o.RM (ab.1 _ h) (aa.1 _ D)
  subst E;rw[fG.unique o aa.2 ab.2 C.cons_inv]
def dg.sub{l j:List α}(h:dg Y j)(s:l.Sublist j):dg Y l:=h.sublist s
def a7(Y:α->α->Bool)(l:List α):List α:=l.mergeSort λj y=>!Y y j
theorem e1(l:List α):(a7 Y l).Perm l:=HT l _
theorem e0(l:List α):(a7 Y l).length=l.length:=(e1 l).length_eq
theorem l5(o:ev Y)(l:List α):fG Y (a7 Y l):=by
 have:=HV (le:=λC y:α=>!Y y C) (λj b D aa ab=>by
  simp[Bool.not_eq_true']at aa ab ⊢;exact o.Ad aa ab) (λj b=>by
  cases h:Y b j with
  |false=>rfl
  |true=>simp[o.asym h]) l
 exact this.imp λh=>by simp_all
def l4(o:ev Y){l j:List α}(h:fG Y j)(C:j.Perm l):j=a7 Y l:=h.unique o (l5 o l) (C.trans (e1 l).symm)
theorem Pc(o:ev Y)(l q:List α):a7 Y (a7 Y l++a7 Y q)=a7 Y (l++q):=
 (l4 o (l5 o _) ((e1 _).trans ((e1 l).append (e1 q))))
def Be(o:ev Y){l:List α}(h:l.Nodup):dg Y (a7 Y l):=(l5 o l).mn o ((e1 l).nodup_iff.2 h)
theorem dg.lU(o:ev Y){l:List α}(h:dg Y l)(v:α):l.Pairwise (λj b=>Y b v=true->Y j v=true):=h.imp λC D=>o.fx C D
def hU(Y:α->α->Bool)(v:α)(l:List α):Nat:=l.countP (λj=>Y j v)
def Wa(v:α)(l:List α):hU Y v l<=l.length:=List.countP_le_length
def Mk(o:ev Y){l:List α}(h:dg Y l)(v j:α)(G:l[hU Y v l]?=some j):(!Y v j)=decide (v∈l):=by
 have aa:=(mA _ l (h.lU o v) _ j G).2 (bv _);have O:Y j v=false:=by simp_all
 have R:=kZ G
 by_cases D:v∈l
 ·rw[decide_eq_true D];obtain⟨J,I⟩:=vy D;have ab:=(mA _ l (h.lU o v) _ v I).1 (by simp[o.hS]);have Q:hU Y v l<=J:=ab;rcases Nat.lt_or_eq_of_le Q with E|E
  ·have U:=(jf.1 I).1;have Z:=List.pairwise_iff_getElem.1 h _ J C U E;grind
  simp_all
 ·rw[decide_eq_false D];have W:j≠v:=λK=>D (K▸R);simp[o.e2 W O]
theorem Ml(o:ev Y){l:List α}(h:dg Y l)(v:α)(D: ¬hU Y v l<l.length):v∉l:=λC=>by
 obtain⟨E,j⟩:=vy C;have ab:=(mA _ l (h.lU o v) _ v j).1 (by simp[o.hS]);grind[hU]
def V9(o:ev Y){l:List α}(h:dg Y l)(v:α)(E:v∈l):hU Y v l<l.length/\l.take (hU Y v l)++l.drop (hU Y v l+1)=l.erase v:=by
 have D:hU Y v l<l.length:=by
  grind[Ml]
 refine⟨D,?_⟩;have C:=cb D;have aa:=Mk o h v _ C;rw[decide_eq_true E]at aa;have ab:=(mA _ l (h.lU o v) _ _ C).2 (bv _);have G:l[hU Y v l]=v:=by
  rcases te _ with j|j
  ·omega
  ·have:=o.e2 j (by simp_all);simp_all
 have I:v∉l.take (hU Y v l):=by
  rw[show l.take (hU Y v l)=l.filter _ from wC _ l (h.lU o v)];simp_all
 grind[List.take_append_drop,List.drop_eq_getElem_cons,List.erase_cons_head]
end
end
section
variable{α:Type}[DecidableEq α]{Y:α->α->Bool}
def dk(Y:α->α->Bool)(v:α)(l:List α):List α:=l.filter λj=>Y j v
def dy(v:α)(l:List α):List α:=l.filter λj=>decide (j=v)
def d2(Y:α->α->Bool)(v:α)(l:List α):List α:=l.filter λj=>Y v j
def AJ(o:ev Y)(v:α):∀l:List α,(dk Y v l++(dy v l++d2 Y v l)).Perm l
 | []=> .refl _
 |a::l=>by
  have j:=AJ o v l;unfold dk dy d2 at*
  rcases te (a=v)with h|h
  ·subst h;rw[tl (by simp[o.hS]),BN Q,tl (by simp[o.hS]),Hy];grind
  ·cases aa:Y a v with
   |true=>
    rw[BN C,tl (by simp_all),tl (by simp[o.asym aa]),Hy];simp_all
   |false=>
    rw[tl (by simp_all),tl (by simp_all),BN (by simp[o.e2 h aa]),<- ho];grind
def uX(o:ev Y)(v:α)(l:List α):(dk Y v l).length+(dy v l).length+(d2 Y v l).length=l.length:=by
 have:=(AJ o v l).length_eq;grind
theorem qX{v j:α}{l:List α}(h:j∈dy v l):j=v:=by
 have:=(gN.1 h).2;simp_all
def Ai{v:α}{l:List α}(h:v∈l):0< (dy v l).length:=List.length_pos_of_mem (gN.2 ⟨h,Q⟩)
theorem Gt(o:ev Y)(v:α)(l:List α):a7 Y l=a7 Y (dk Y v l)++(dy v l++a7 Y (d2 Y v l)):=by
 refine(l4 o ?_ (((e1 _).append (kX _ (e1 _))).trans (AJ o v l))).symm;have G:∀C∈a7 Y (dk Y v l),Y C v=true:=λC j=>by
  have:=(gN.1 ((e1 _).subset j)).2;omega
 have E:∀C∈a7 Y (d2 Y v l),Y v C=true:=λC j=>by
  have:=(gN.1 ((e1 _).subset j)).2;omega
 unfold fG;rw[lE,lE];refine⟨l5 o _,⟨?_,l5 o _,λC j y D=> ?_⟩,λC j y D=> ?_⟩
 ·exact List.pairwise_of_forall_mem_list λC j y D=>by rw[qX j,qX D];exact o.hS v
 ·rw[qX j];exact o.asym (E y D)
 ·rcases cT.1 D with D|D
  ·rw[qX D];exact o.asym (G C j)
  ·exact o.asym (o.fx (G C j) (E y D))
theorem EZ(o:ev Y)(v:α)(l:List α){j:Nat}(h:j< (dk Y v l).length):(a7 Y l)[j]?=(a7 Y (dk Y v l))[j]?:=by grind[Gt,e0]
def MO(o:ev Y)(v:α)(l:List α){j:Nat}(aa:(dk Y v l).length<=j)(ab:j< (dk Y v l).length+(dy v l).length):(a7 Y l)[j]?=some v:=by grind[Gt,e0,dy,hp]
theorem EY(o:ev Y)(v:α)(l:List α){j:Nat}(h:(dk Y v l).length+(dy v l).length<=j):(a7 Y l)[j]?=(a7 Y (d2 Y v l))[j-(dk Y v l).length-(dy v l).length]?:=by grind[Gt,e0]
def uQ(o:ev Y){l:List α}{j:Nat}{v:α}(h:(a7 Y l)[j]?=some v):(dk Y v l).length<=j:=by
 rcases eC j _ with aa|aa
 ·rw[EZ o v l aa]at h;have ab:=(e1 _).subset (kZ h);have:=(gN.1 ab).2;rw[o.hS]at this;trivial
 omega
def EU(o:ev Y){l:List α}{j:Nat}{v:α}(h:(a7 Y l)[j]?=some v):(d2 Y v l).length+j<l.length:=by
 have C:=uX o v l;rcases eC j ((dk Y v l).length+(dy v l).length)with aa|aa
 ·omega
 ·rw[EY o v l aa]at h;have ab:=(e1 _).subset (kZ h);have:=(gN.1 ab).2;rw[o.hS]at this;trivial
def Au(o:ev Y){l:List α}{j:Nat}{v:α}(h:(a7 Y l)[j]?=some v):j< (dk Y v l).length+(dy v l).length:=by
 have:=uX o v l;have:=EU o h;omega
def w6{l:List α}{j:Nat}{v:α}(h:(a7 Y l)[j]?=some v):v∈l:=(e1 l).subset (kZ h)
end
def cG(j b:Int):Bool:=decide (j<b)
def p9:ev cG:=⟨λC=>by simp[cG],λh j=>by simp[cG]at*;omega,λh j=>by simp[cG]at*;omega⟩
theorem Y6(l):a7 cG l=bj l:=(l4 p9 ((mT l).imp λh=>by simp[cG];omega) (jz l)).symm
section
variable{P:Program}{g:c0}{L M:aG}{J:bW}{d:Option Nat}{aQ T cE:TypeId}{a3:String}{a2:Array Edge}{a0:Option (Nat×Bool)}{x y:Operand}{v:Value}
def Kc{D W K j:Nat}{U R aS}[ae:eo P T (D,W,K)][ag:cy P D aS](aC:aY J x=some (.int U 0))(aE:aY J y=some (.int R (j:Int)))
  (a1:j*K<=140737488355328) (a5:j<=140737488355328):
  cc P g L J ⟨d,.makeSlice T x y,aQ,a3,a2,a0⟩ λaL al=>∃I,aL=.slice (ak I) 0 j/\al=own D W (ak I) 0 j []::L:=λaX Y O aA aV aW ao=>by
 obtain⟨G,Z,ay,au,ax,a4,av,a6⟩:=ae.zero ag;have ap:(G.bytes:Int)*(j:Int)<=281474976710656:=by
  grind
 have aw:=run_make Y T D G Z ay au av U R 0 j (Int.le_refl _) Q ap C;unfold dv;simp[execOp,O.eval aC,O.eval aE];simp[aw];have E:=aA.alloc D (madeCells Z.cells (j*G.size)).toList;rw[Array.toArray_toList]at E;refine ao _ _ _ ⟨Y.heap.size,rfl,rfl⟩ ?_;obtain⟨aH,aI,am,aO,aP,ar,aK⟩:=E.s;refine⟨E.g,aH,aI,am,aO,aP,?_,aK⟩;have aZ:=own.kF ar (by rw[Array.length_toList,size_madeCells,ax]) (bu _) (by unfold maxLen;omega);simp_all
end
section
attribute [local irreducible] G bf cc
abbrev nU:Nat:=43
structure k6 (J:FuncId) (K:I->I->Bool):Prop where
 mt:∀(C q:I) (j:aG),D E J #[C.v,q.v] j λv G=>v=.bool (K C q)/\G=j
def ll{b n G i E l}{x:I}(J:l.length=n)(h:l[i]?=some x)(D):aB (own E 3 (ak b) n G (flat l)::D) b (0+i*3) 3 [j x.id,j x.x,j x.y]:=OW
def Jy{A R}{x p:I}{k}(j:k=A.length+1):((A++p::x::R).set k p).set (k-1) x=A++x::p::R/\(A++p::x::R)[k]?=some x/\(A++p::x::R)[k-1]?=some p:=by simp_all
theorem F4(l D)(C:I)(E:D<l.length):ej (flat l) (0+D*3) [j C.id,j C.x,j C.y]=flat (l.set D C):=by rw[iQ];exact KW l D C E
section
variable{f:FuncId}[b4 E f]{Y:I->I->Bool}(o:ev Y)(ew:k6 f Y)
include o ew
theorem CZ(ao:bA)(n ax:Nat)(l:List I)(ag:aG)(aY:Rd ag ao n l)(a0:n<=1000000):
  D E 602 #[.slice ao n ax,.func (.func f) #[] #[]] ag λv aK=>Made 43 (a7 Y l) ag v aK:=OX
theorem ET(al am:bA)(n ae ao ar:Nat)(l q:List I)(R:aG)(a5:Rd R al n l)(a8:Rd R am ae q)(bN:n<=1000000)(bJ:ae<=1000000)(bC:n<=ao)(bI:ae<=ar)(bi:fG Y l)(bj:fG Y q):
  D E 533 #[.slice al n ao,.slice am ae ar,.func (.func f) #[] #[]] R λv aX=>Made 43 (a7 Y (l++q)) R v aX:=OY
theorem QU(G J:bA)(n j K O:Nat)(l q:List I)(C:aG)(ao:Rd C G n l)(ar:Rd C J j q)(ak:n<=1000000)(ag:j<=1000000)(Z:n<=K)(ae:j<=O)(al:fG Y l)(am:fG Y q):
  D E 450 #[.slice G n K,.slice J j O,.func (.func f) #[] #[]] C λv R=>Made 43 (a7 Y (l++q)) C v R:=by
 refine ap λg F=> ?_;refine GE (aw p (ET o ew G J n j K O l q _ cr cr ak ag Z ae al am)) ?_;rintro _ _ ⟨Q,U,rfl,W,rfl⟩;refine ad ?_;refine af ?_;exact aj rfl (.tmp p .nil) aq ⟨Q,U,rfl,W,rfl⟩
theorem Pa:∀(O:Nat)(J:bA)(n G:Nat)(l:List I)(j:aG)(_:n<=O)(_:Rd j J n l)(_:n<=1000000)(_:n<=G),
  D E 586 #[.slice J n G,.func (.func f) #[] #[]] j λv ae=>Made 43 (a7 Y l) j v ae:=OZ
theorem rQ(C:bA)(n G:Nat)(l:List I)(j:aG)(Z:Rd j C n l)(O:n<=1000000)(K:n<=G):
  D E 535 #[.slice C n G,.func (.func f) #[] #[]] j λv J=>Made 43 (a7 Y l) j v J:=O0
end
end
end
end Go.Proofs.YtioamnghkmcbbaaGreat
