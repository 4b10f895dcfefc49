/- TopBudget: a part of its proof. -/
import Derived.Deep.Draws
import Derived.IntWalk
import Derived.Lib.AppendZeros
import Derived.Lib.Overlaps
import Derived.Maps.AppendAt
import Derived.OrdersHeld
import Derived.OrdersIn
import Derived.RowKit2
import Derived.TacticsIn
import Derived.Test.YtioamnghkmcbbaaGreatProg
import Derived.WalkKit
set_option linter.all false
set_option maxRecDepth 100000
set_option maxHeartbeats 4000000
open Array renaming getD_eq_getD_getElem?->Bw,getElem?_eq_none->oR,range->Bx,replicate->nV,setIfInBounds_comm->GW
open Bool renaming and_eq_true->bL,not_eq_true'->tc
open Classical renaming choose->ru,choose_spec->vn
open Go.Addr renaming add_lit->je
open Go.Addr.mk renaming injEq->GY
open Go.Builtin renaming append_->kV,clear_->kW,copy_->GZ,firstCells->rv,lenOf->rx,nextslicecap->G0,zeroCells->eI
open Go.Code renaming wpIn_mono->lw
open Go.Deferred renaming ofValue->lx
open Go.Instr renaming buildSlice->BD,field->G4,fill->G5,indexAt->G7,loadAt->G8,slice->Hb,sliceAt->vr,sliceBound->Hc,sliceBounds->mX,storeAt->Hd,sureAddr->tf
open Go.IntWalk renaming i64_in->ry
open Go.Op renaming eqFields->BH,equal->dD,equalIn->j2,intArith->BI,intCmp->j3,maxDepth->ly
open Go.Oper renaming wp->dv
open Go.Program renaming built->Hj
open Go.Question renaming forced->PX
open Go.Region renaming binds->nW,noSelect->vt,ready->hX,wanted->hn
open Go.Result renaming andThen_ok->db
open Go.Sem renaming run_bind->cg,run_pure->eJ
open Go.Value renaming cells->Hm
open Go.Value.slice renaming injEq->tg
open Go.World renaming frozen?->Hn
open Int renaming le_trans->Hp
open List renaming all_eq_true->lz,countP_cons->kv,countP_le_length->nX,drop_drop->x8,drop_of_length_le->vv,ext_getElem?->tj,getElem?_drop->tn,getElem?_take->BO,length_append->bP,length_cons->fc,length_drop->vz,length_map->gL,length_take->lB,map_cons->eS,map_nil->lC,map_toArray->fY,mem_cons->cQ,mem_flatMap->vB,mem_map->jg,mem_singleton->oW,range->hZ,take_append->H2,take_append_drop->jD
open Nat renaming add_assoc->BW,add_mul->md,add_zero->rC,beq->aA,ble->cN,blt->dT,eq_of_beq_eq_true->bV,eq_zero_or_pos->g9,le_of_ble_eq_true->eT,le_of_eq->BZ,le_refl->bv,lt_or_ge->eC,min_eq_left->H5,mod_lt->H7,mul_le_mul_right->lG,ne_of_beq_eq_false->H8,sub_mul->B0,zero_add->iQ,zero_le->bu
open Option renaming getD_some->n1
open Option.some renaming inj->kw,injEq->rD
open Prod.mk renaming injEq->rE
open Go.RowKit
namespace Go.Proofs.YtioamnghkmcbbaaGreat
noncomputable section
abbrev R(b:Nat):Value:=.pointer (some ⟨b,0,none⟩)
abbrev ak(b:Nat):Option Addr:=some ⟨b,0,none⟩
abbrev j(n:Int):Value:=.int .i64 n
abbrev bA:=Option Addr
abbrev cs:=List Value
theorem jQ:(∀(j:Prop) [Decidable j],(decide j=true)=j)/\(∀(j:Prop) [Decidable j],(decide j=false)= ¬j)/\((!true)=false)/\((!false)=true)/\(∀b:Bool,((!b)=true)=(b=false))/\(∀b:Bool,((!b)=false)=(b=true)):=by simp
theorem C{j:Prop}(h:j:=by omega):j:=h
theorem Q{j:Prop}(h:j:=by simp):j:=h
theorem bs{j:Prop}(h:j:=by decide):j:=h
theorem p{C:Sort _}{j:C}:j=j:=rfl
theorem aZ{j:Prop}(h:j:=by rfl):j:=h
def O{j:Prop}(h:j:=by kernel_rfl):j:=h
abbrev iV:=Nat->Option Obj
abbrev aO:=iV->Prop
def d7(h C:iV):Prop:=∀j o,h j=some o->C j=some o
def wK(h C:iV):Prop:=∀j,h j=none\/C j=none
def G:List aO->iV->Prop
 | [],_=>True
 |A::j,h=>∃aa ab,wK aa ab/\d7 aa h/\d7 ab h/\A aa/\G j ab
theorem d7.refl(h):d7 h h:=λ_ _ j=>j
theorem d7.trans{j b C}(h:d7 j b)(G:d7 b C):d7 j C:=λD o E=>G D o (h D o E)
def wK.sub{G b C D}(h:wK G b)(I:d7 C G)(J:d7 D b):wK C D:=λj=>by
 rcases h j with e|e
 ·left;cases E:C j with
  |none=>rfl
  |some o=>rw[I j o E]at e;omega
 ·right;cases E:D j with
  |none=>rfl
  |some o=>rw[J j o E]at e;omega
theorem G.up{j h C}(s:G j h)(D:d7 h C):G j C:=by
 cases j with
 |nil=>trivial
 |cons O j=>
  obtain⟨aa,ab,I,J,K,E,l⟩:=s;exact⟨aa,ab,I,J.trans D,K.trans D,E,l⟩
def G.tail{C j h}(s:G (C::j) h):G j h:=by
 obtain⟨aa,ab,I,J,D,E,l⟩:=s;exact l.up D
def G.swap{I J K h}(s:G (I::J::K) h):G (J::I::K) h:=by
 obtain⟨aa,ab,O,ao,U,Z,ak,D,ae,W,Y,b,l⟩:=s;have ag:=O.sub (d7.refl _) W;have Q:=O.sub (d7.refl _) Y
 let E:=λj=>(aa j).or (D j)
 have al:d7 aa E:=λj o e=>by grind
 have am:d7 D E:=λj o e=>by
  rcases Q j with C|C
  ·grind
  simp_all
 refine⟨ak,E,λj=> ?_,W.trans U,λj o e=> ?_,b,aa,D,Q,al,am,Z,l⟩
 ·rcases ag j with e|e
  ·rcases ae j with C|C
   ·simp_all
   grind
  simp_all
 ·have C:(aa j).or _=some o:=e;cases R:aa j with
  |none=>rw[R]at C;exact U j o (Y j o (by assumption))
  |some ap=>rw[R]at C;exact ao j o (by simp_all)
theorem G.ep{j C D}(J:∀h,G C h->G D h){h}(s:G (j::C) h):G (j::D) h:=by
 obtain⟨aa,ab,I,K,O,E,l⟩:=s;exact⟨aa,ab,I,K,O,E,J _ l⟩
theorem G.perm{j C}(K:j.Perm C):∀{h},G j h->G C h:=by
 induction K with
 |nil=>exact λs=>s
 |cons D _ J=>exact λs=>s.ep λ_=>J
 |swap D O j=>exact λs=>s.swap
 |trans _ _ E I=>exact λs=>I (E s)
def G.head{A N I}(Q:∀h,A h->G N h){h}(s:G (A::I) h):G (N++I) h:=by
 obtain⟨aa,ab,K,U,W,J,l⟩:=s;have n:=Q _ J;clear J Q;revert n
 induction N generalizing aa h with
 |nil=>exact λ_=>l.up W
 |cons ap N ak=>
  rintro⟨al,D,ae,Y,Z,b,n⟩;have ag:=K.sub Y (d7.refl _);have O:=K.sub Z (d7.refl _)
  let E:=λj=>(D j).or (ab j)
  have am:d7 D E:=λj o e=>by grind
  have ao:d7 ab E:=λj o e=>by
   rcases O j with C|C
   ·grind
   simp_all
  refine⟨al,E,λj=> ?_,Y.trans U,λj o e=> ?_,b,ak (aa:=D) O am ao n⟩
  ·rcases ae j with e|e
   ·simp_all
   ·rcases ag j with C|C
    ·simp_all
    grind
  ·have C:(D j).or _=some o:=e;cases R:D j with
   |none=>rw[R]at C;exact W j o (by assumption)
   |some ar=>rw[R]at C;exact U j o (Z j o (by simp_all))
def G.split{E K h}(s:G (E++K) h):∃aa ab,wK aa ab/\d7 aa h/\d7 ab h/\G E aa/\G K ab:=by
 induction E generalizing h with
 |nil=>exact⟨λ_=>none,h,λ_=> .inl p,λ_ _ e=>(by grind),d7.refl _,trivial,s⟩
 |cons ar E ag=>
  obtain⟨D,au,O,ap,U,b,n⟩:=s;obtain⟨I,ak,Z,W,Y,ao,l⟩:=ag n;have Q:=O.sub (d7.refl _) W;have ae:=O.sub (d7.refl _) Y
  let J:=λj=>(D j).or (I j)
  have al:d7 D J:=λj o e=>by grind
  have am:d7 I J:=λj o e=>by
   rcases Q j with C|C
   ·grind
   simp_all
  refine⟨J,ak,λj=> ?_,λj o e=> ?_,Y.trans U,⟨D,I,Q,al,am,b,ao⟩,l⟩
  ·rcases ae j with e|e
   ·rcases Z j with C|C
    ·grind
    simp_all
   simp_all
  ·have C:(D j).or _=some o:=e;cases R:D j with
   |none=>rw[R]at C;exact U j o (W j o (by assumption))
   |some av=>rw[R]at C;exact ap j o (by simp_all)
theorem G.fold{j N C}(E:∀h,G N h->j h){h}(s:G (N++C) h):G (j::C) h:=by
 obtain⟨aa,ab,D,I,J,n,l⟩:=s.split;exact⟨aa,ab,D,I,J,E _ n,l⟩
def hw(h:iV)(j:Addr):Option Value:=
 match h j.block with
 |some (.cells C _ _)=>if j.spot.isSome then none else C[j.off]?
 | _=>none
def hw.sub{h C j v}(E:hw h j=some v)(s:d7 h C):hw C j=some v:=by
 unfold hw at*
 cases D:h j.block with
 |none=>simp_all
 |some o=>rw[s _ _ D];simp_all
structure aR (j:List aO) (C:Addr) (v:Value):Prop where
 get:∀h,G j h->hw h C=some v
structure ae (b:Nat) (j:TypeId) (C:cs) (h:iV):Prop where
 eq:h b=some (.cells C.toArray j (0,0))
def old(j:iV):aO:=λh=>d7 j h
theorem aR.skip{D j C v}(h:aR j C v):aR (D::j) C v:=⟨λ_ s=>h.1 _ s.tail⟩
theorem aR.ae{L:List aO}{b C:Nat}{D:TypeId}{j:cs}{v:Value}(h:j[C]?=some v):aR (ae b D j::L) ⟨b,C,none⟩ v:=by
 constructor;rintro J ⟨aa,ab,I,G,K,E,l⟩;have:=G _ _ E.eq;simp[hw,this,h]
def aR.bE{N j C v}(h:aR j C v):aR (N++j) C v:=by
 induction N with
 |nil=>exact h
 |cons E N D=>exact D.skip
def _root_.Go.World.hm(C:World):iV:=λj=>C.heap[j]?
structure c0 where
 os:Os
 tape:Nat->Question->Nat
 output:Array (Nat×ByteArray)
 kG:List Deferred:=[]
 gK:Option Nat:=none
def pB(j:World):c0:=⟨j.os,j.tape,j.output,[],none⟩
def c0.base(g:c0):c0:=⟨g.os,g.tape,g.output,[],none⟩
structure a4 (g:c0) (C:List aO) (j:World):Prop where
 g:pB j=g.base
 s:G C j.hm
theorem a4.base{g j C}(h:a4 g j C):a4 g.base j C:=⟨h.g,h.s⟩
theorem a4.pX{g j C}(h:a4 g.base j C):a4 g j C:=⟨h.g,h.s⟩
def a4.mono{g L j}(D:∀h,G L h->G j h){C}(h:a4 g L C):a4 g j C:=⟨h.g,D _ h.s⟩
theorem a4.cell{g j D C v}(h:a4 g j D)(l:aR j C v):D.cell? C=some v:=l.1 _ h.s
def a4.drew{g j C}(h:a4 g j C):a4 g j C.drew:=⟨h.g,h.s⟩
theorem a4.Jt{g E D b j C}(h:a4 g (ae b j C::E) D):D.heap[b]?=some (.cells C.toArray j (0,0)):=by
 obtain⟨aa,ab,J,I,K,G,l⟩:=h.s;exact I _ _ G.eq
def a4.Sb{g C j b G D E}(h:a4 g (ae b D E::C) j):j.frozen? ⟨b,G,none⟩=false:=by simp[Hn,h.Jt]
theorem a4.alloc{g K j}(h:a4 g K j)(I J):a4 g (ae j.heap.size I J::K) (j.alloc (.cells J.toArray I (0,0))):=by
 refine⟨h.g,λD=>if D=j.heap.size then some (.cells J.toArray I (0,0))else none,j.hm,λD=> ?_,λD o E=> ?_,λD o E=> ?_,⟨Q⟩,h.s⟩
 ·by_cases G:D=j.heap.size
  ·right;subst G;simp[World.hm]
  simp_all
 ·replace E:(if D=j.heap.size then some _ else none)=some o:=E
  by_cases G:D=j.heap.size
  ·subst G;rw[if_pos p]at E;show(j.heap.push _)[_]?= _;simp_all
  simp_all
 ·have G:D<j.heap.size:=by
   rcases eC D _ with O|O
   ·omega
   ·simp[World.hm,oR O]at E
  show(j.heap.push _)[D]?= _;rw[Array.getElem?_push,if_neg C];exact E
theorem a4.store{g J C b D E G}(h:a4 g (ae b E G::J) C)(v):a4 g (ae b E (G.set D v)::J) (C.setCell ⟨b,D,none⟩ v):=by
 have Z:=h.Jt;have ak:b<C.heap.size:=by
  grind
 obtain⟨aa,ab,K,al,W,O,l⟩:=h.s;have Y:=O.eq;have U:∀j,j≠b->(C.setCell _ v).hm j=C.hm j:=λj I=>Below.heap_setCell C ⟨b,D,none⟩ v j I;have ag:(C.setCell ⟨b,D,none⟩ v).hm b=some (.cells (G.set D v).toArray E (0,0)):=by
  show(C.heap.modify b _)[b]?= _;grind
 refine⟨h.g,λj=>if j=b then some (.cells (G.set D v).toArray E (0,0))else none,ab,λj=> ?_,λj o e=> ?_,λj o e=> ?_,⟨Q⟩,l⟩
 ·by_cases I:j=b
  ·right;rcases K j with e|e
   ·simp_all
   omega
  simp_all
 ·simp_all
 ·by_cases I:j=b
  ·rcases K j with R|R
   ·simp_all
   simp_all
  ·rw[U j I];exact W j o e
theorem aR.old{D C j v}(h:hw C j=some v):aR (old C::D) j v:=by
 constructor;rintro I ⟨aa,ab,G,E,J,o,l⟩;exact hw.sub (hw.sub h o) E
def a4.start(w:World):a4 (pB w) [old w.hm] w:=⟨rfl,w.hm,λ_=>none,λ_=> .inr p,d7.refl _,λ_ _ j=>(by cases j),d7.refl _,trivial⟩
def a4.below{j E K}(h:a4 (pB j) (old j.hm::K) E):Below j.heap.size j E:=by
 obtain⟨aa,ab,U,R,W,O,l⟩:=h.s;have I:∀C,C<j.heap.size->E.heap[C]?=j.heap[C]?:=λC J=>by
  have Q:j.hm C=some j.heap[C]:=by simp[World.hm,J]
  have:=R _ _ (O _ _ Q);rw[show j.heap[C]?=some j.heap[C] by simp[J]];exact this
 have G:=h.g;refine⟨congrArg c0.os G,congrArg c0.tape G,congrArg c0.output G,?_,I⟩;rcases eC E.heap.size j.heap.size with D|D
 ·have:=I _ D;simp[D]at this
 ·exact D
abbrev aG:=List aO
section
abbrev bW:=List (Nat×Value)
def bW.get:bW->Nat->Option Value
 | [],_=>none
 |(s,v)::C,j=>bif aA s j then some v else bW.get C j
def aY(D:bW):Operand->Option Value
 | .tmp C=>D.get C
 | .const v=>some v
 | .global g=>some (.pointer (some ⟨g,0,none⟩))
 | .func j=>some (.func (.func j) #[] #[])
def eD(D:bW)(C:Act):Prop:=∀j v,D.get j=some v->C.tmps[j]?=some v
theorem eD.eval{E D}(h:eD E D){C v}(j:aY E C=some v):D.eval C=v:=by
 cases C with
 |tmp G=>
  have:=h G v j;simp[Act.eval,Bw,this,n1]
 |const J=>exact kw j
 |global g=>exact kw j
 |func I=>exact kw j
theorem eD.cons{E j}(h:eD E j){C v}(J:j.tmps[C]?=some v):eD ((C,v)::E) j:=by
 intro s I D;simp[bW.get]at D;cases G:aA C s with
 |true=>simp_all
 |false=>rw[G]at D;exact h s I (by assumption)
theorem eD.put{E j}(h:eD E j){t}(v)(I:t<j.tmps.size):eD ((t,v)::E) (j.put (some t) v):=by
 intro s G D;simp[bW.get]at D;show(j.tmps.setIfInBounds t v)[s]?= _;rw[Array.getElem?_setIfInBounds];cases C:aA t s with
 |true=>
  simp_all
 |false=>
  rw[C]at D;rw[if_neg (H8 C)];exact h s G (by assumption)
def r8(j:bW):bW->Prop
 | []=>True
 |(C,v)::τ=>j.get C=some v/\r8 j τ
def eD.sub{C τ j}(h:eD C j)(s:r8 C τ):eD τ j:=by
 induction τ with
 |nil=>intro I v D;cases D
 |cons G τ E=>exact(E s.2).cons (h _ _ s.1)
structure fo (g:c0) (n:Nat) (C:bW) (j:Act):Prop where
 size:j.tmps.size=n
 defers:j.defers=g.kG
 e:eD C j
theorem fo.put{g n C j}(h:fo g n C j){t}(v)(D:dT t n=true):fo g n ((t,v)::C) (j.put (some t) v):=
 ⟨by simp[Act.put,h.size],h.defers,h.e.put v (by rw[h.size];simp_all)⟩
def fo.sub{g n C τ j}(h:fo g n C j)(s:r8 C τ):fo g n τ j:=⟨h.size,h.defers,h.e.sub s⟩
def bf(E:Program)(D:aG)(I:bW)(o:Oper)(v:Value):Prop:=
 ∀C j,eD I C->G D j.hm->(execOp C.eval o).run E j=.ok (.value v) j
def cc(J:Program)(g:c0)(I:aG)(O:bW)(o:Oper)(post:Value->List aO->Prop):Prop:=
 ∀j E,eD O j->a4 g I E->∀(C:Act->World->Prop) (K:Exit->Act->World->Prop),
  (∀v G D,post v D->a4 g D G->C (j.put o.dst v) G)->o.wp J j E C K
def bf.pu{C g j G o v}(h:bf C j G o v):cc C g j G o λQ I=>Q=v/\I=j:=by
 intro J E O D R U K;unfold dv;rw[h J E O D.s];exact K v E j ⟨rfl,rfl⟩ D
def D(G:Program)(J:FuncId)(args:Array Value)(E:aG)(post:Value->List aO->Prop):Prop:=
 ∀g F C,a4 g (F::E) C->Calls G J args C λI K=>∃v j,I=.returned v/\post v j/\a4 g (F::j) K
def D.mono{C E args L post dR}(h:D C E args L post)(I:∀v j,post v j->dR v j):D C E args L dR:=
 λg F O J=>(h g F O J).mono λ_ _ ⟨v,j,G,K,q⟩=>⟨v,j,G,I _ _ K,q⟩
theorem G.join{N L h}(s:G (N++L) h):G ((λh=>G N h)::L) h:=s.fold λ_ n=>n
theorem G.part{N j h}(s:G ((λh=>G N h)::j) h):G (N++j) h:=s.head λ_ n=>n
def D.frame{J K args E M post}(j)(h:D J K args E post)(Q:∀h,G M h->G (j++E) h):D J K args M λv C=>∃I,post v I/\C=j++I:=by
 intro g F Y R;have aa:=R.mono λU s=>G.join (N:=F::j) (s.ep Q);refine(h g _ Y aa).mono λZ ae ⟨v,C,O,W,q⟩=>⟨v,_,O,⟨C,W,rfl⟩,q.mono λU s=>G.part s⟩
def jp(j:Option Nat):Fence:={Fence.wide with round:=j}
theorem Oper.vl{R C}{o:Oper}{K G I J}(Q:∀D,o.op≠ .defer D)(h:o.wp C K G I J):o.wpIn (jp R) 0 C K G I J:=by
 refine⟨λ_ _=>trivial,?_⟩;rw[Oper.semAt_eq _ _ _ Q];unfold dv at h;generalize(execOp _ o).run C G=j at h ⊢;cases j with
 |ok j U=>
  cases j with
  |value v=>exact h
  |skip=>exact h
  |defer Y=>exact h
  |enter Z args=>exact⟨(λE=>by cases E),(callsIn_wide).2 h⟩
  |row row args=>
   refine⟨(λE=>by cases E),λD O _=> ?_⟩;obtain⟨v,W,aa,ab⟩:=h D O;exact⟨v,W,aa,stepsIn_wide.2 ab⟩
  | _=>exact h.elim
 |halt j U=>
  cases j with
  |panic v=>exact h
  | _=>exact h.elim
def cc.WU{J g I O o post}(U:cc J g I O o post){j E}(W:eD O j)(Y:a4 g I E):∀C,o.op≠ .defer C:=λC ag=>by
 have h:=U j E W Y (λQ _=>Q.defers=j.defers) (λ_ _ _=>False) (λv K Z _ _=>by cases o.dst<;>rfl);unfold dv at h;have R:execOp j.eval o=(do pure (.defer (<- resolve j.eval C o.type)):Sem _):=by
  unfold execOp;grind
 rw[R]at h;simp[cg]at h;generalize(resolve _ C _).run J E=G at h;cases G with
 |ok D K=>
  have ae:(({j with defers:=D::j.defers}:Act).put _ _).defers=j.defers:=h;have ab:(({j with defers:=D::j.defers}:Act).put o.dst undef).defers=D::j.defers:=by cases o.dst<;>rfl
  simp_all
 |halt G K=>cases G<;>exact h
def cc.wO{W I g E U o post}(K:cc I g E U o post){j D}(O:eD U j)(Q:a4 g E D){C J}
  (h:∀v R G,post v G->a4 g G R->C (j.put o.dst v) R):o.wpIn (jp W) 0 I j D C J:=Oper.vl (K.WU O Q) (K j D O Q C J h)
def nG(l:List Oper):Bool:=l.all λo=>match o.op with| .defer _=>false| _=>true
theorem WT{l}(h:nG l=true){D:Nat}{o}(C:l.toArray[D]?=some o):∀j,o.op≠ .defer j:=λj E=>by
 have aa:=lz.1 h o (List.mem_of_getElem? (by simpa using C));simp_all
def Bv{K C l j}(U:nG l=true)(Y: ¬LetsOut j):∀(E)(I)(D)(J),wpAny C .any l.toArray j E I D J->wpAnyIn (jp K) 0 C .any l.toArray j E I D J
 |0,_,_,_,h=>h
 |E+1,I,D,J,h=>⟨h.1,λZ W=>by
  have aa:=wpOp_mono (K':=wpAnyIn (jp K) 0 C _ _ j _ _) (λO ae R=>Bv U Y _ _ O ae R) (h.2 Z W);unfold wpOp at aa;unfold wpOpIn;split
  ·simp_all
  ·rename_i o Q
   simp[Q]at aa;split
   ·rename_i G
    rw[if_pos G]at aa;grind[Oper.vl,WT]
   ·rename_i G
    rw[if_neg G]at aa;exact⟨λ_ _=>trivial,aa⟩⟩
inductive eU where
 |code (C:Code)
 |ae (id:Nat)
 |inv (j:Act->World->Prop)
def fs(J:Option Nat)(G:Program)(E:Exit->Act->World->Prop):List eU->Exit->Act->World->Prop
 | _,.outgrown,_,_=>False
 | [],I,j,C=>E I j C
 | .code Q::D,.normal,j,C=>Q.wpIn (jp J) 0 G (fs J G E D) j C
 | .code _::D,I,j,C=>fs J G E D I j C
 | .ae id::D,.exit K,j,C=>if K=id then fs J G E D .normal j C else fs J G E D (.exit K) j C
 | .ae _::D,I,j,C=>fs J G E D I j C
 | .inv O:: _,.normal,j,C=>O j C
 | .inv _::D,I,j,C=>fs J G E D I j C
def s1(id:Nat):List eU->Option (List eU)
 | []=>none
 | .ae C::j=>bif aA id C then some j else s1 id j
 | .code _::j=>s1 id j
 | .inv _::j=>s1 id j
section
variable{r:Option Nat}{P:Program}{B:Exit->Act->World->Prop}
def yx{id E I}:∀{j C},s1 id j=some C->fs r P B C .normal E I->fs r P B j (.exit id) E I
 | [],_,h,_=>by cases h
 | .ae J::j,C,h,D=>by
  simp[s1]at h;simp[fs];cases G:aA id J with
  |true=>
   simp_all
  |false=>
   rw[G]at h;rw[if_neg (H8 G)];exact yx (by assumption) D
 | .code O::j,C,h,D=>by simp[fs];exact yx h D
 | .inv K::j,C,h,D=>by simp[fs];exact yx h D
def vN{C D}:∀{j},B .ret C D->fs r P B j .ret C D
 | [],h=>h
 | .ae I::j,h=>by simp[fs];exact vN h
 | .code G::j,h=>by simp[fs];exact vN h
 | .inv E::j,h=>by simp[fs];exact vN h
def IB{j}: ¬LetsOut (fs r P B j):=λ⟨C,E,h⟩=>by
 cases j with
 |nil=>exact h
 |cons D j=>assumption
theorem QK(C j):Exit.then (C.wpIn (jp r) 0 P (fs r P B j)) (fs r P B j)=fs r P B (.code C::j):=by
 funext D E I
 cases D<;>first|rfl|(cases j with|nil=>rfl|cons G j=>rfl)
theorem QJ(id j):Exit.inBlock id (fs r P B j)=fs r P B (.ae id::j):=by
 funext C D G
 cases C<;>first|rfl|(cases j with|nil=>rfl|cons E j=>rfl)
theorem IC(C j):Exit.then C (fs r P B j)=fs r P B (.inv C::j):=by
 funext D E I
 cases D<;>first|rfl|(cases j with|nil=>rfl|cons G j=>rfl)
end
section
variable{P:Program}{B:Exit->Act->World->Prop}{g:c0}{n:Nat}{aK:List eU}{J:bW}{L:aG}
def bc(P:Program)(B:Exit->Act->World->Prop)(g:c0)(n:Nat)(aK:List eU)(J:bW)(L:aG):Prop:=
 ∀j C,fo g n J j->a4 g L C->fs g.gK P B aK .normal j C
def bZ{j y}(h:bc P B g n (.code j:: .code y::aK) J L):bc P B g n (.code (.seq j y)::aK) J L:=λC G D E=>by
 refine wpIn_seq ?_;rw[QK];exact h C G D E
def yn{id j}(h:bc P B g n (.code j:: .ae id::aK) J L):bc P B g n (.code (.block id j)::aK) J L:=λC G D E=>by
 refine wpIn_block ?_;rw[QJ];exact h C G D E
def gk{id}(h:bc P B g n aK J L):bc P B g n (.ae id::aK) J L:=λj E C D=>h j E C D
def fi(h:bc P B g n aK J L):bc P B g n (.code .skip::aK) J L:=λj E C D=>wpIn_skip (h j E C D)
def Iv{id j}(D:s1 id aK=some j)(h:bc P B g n j J L):bc P B g n (.code (.exit id)::aK) J L:=λC I E G=>wpIn_exit (yx D (h C I E G))
def cp{G:Operand}{Q y:Code}{j:Prop}[Decidable j](I:aY J G=some (.bool (decide j)))
  (U:j->bc P B g n (.code Q::aK) J L) (R: ¬j->bc P B g n (.code y::aK) J L):bc P B g n (.code (.cond G Q y)::aK) J L:=λE O D K=>by
 by_cases C:j
 ·exact wpIn_cond_true (by rw[D.e.eval I,decide_eq_true C]) (U C E O D K)
 ·exact wpIn_cond_false (by rw[D.e.eval I,decide_eq_false C]) (R C E O D K)
def d3{D K y b}(E:aY J D=some (.bool b))
  (Q:b=true->bc P B g n (.code K::aK) J L) (O:b=false->bc P B g n (.code y::aK) J L):bc P B g n (.code (.cond D K y)::aK) J L:=λC I j G=>by
 cases b with
 |true=>exact wpIn_cond_true (j.e.eval E) (Q p C I j G)
 |false=>exact wpIn_cond_false (j.e.eval E) (O p C I j G)
def cD{j D y b}(G:aY J j=some (.bool b))(E:b=true)(h:bc P B g n (.code D::aK) J L):bc P B g n (.code (.cond j D y)::aK) J L:=
 d3 G (λ_=>h) (λC=>by rw[E]at C;cases C)
def b2{j G y b}(E:aY J j=some (.bool b))(D:b=false)(h:bc P B g n (.code y::aK) J L):bc P B g n (.code (.cond j G y)::aK) J L:=
 d3 E (λC=>by rw[D]at C;cases C) (λ_=>h)
def b5{j}(D:∀h,G L h->G j h)(h:bc P B g n aK J j):bc P B g n aK J L:=λC K E I=>h C K E (I.mono D)
def qp{ι:Type}{C}{D:ι->List aO}{F:ι->Prop}(Q:∀h,C h->∃j,F j/\G (D j) h)(h:∀j,F j->bc P B g n aK J (D j++L)):bc P B g n aK J (C::L):=λI ak Y E=>by
 obtain⟨aa,ab,K,ae,ag,U,W⟩:=E.s;obtain⟨j,R,Z⟩:=Q _ U;exact h j R I ak Y ⟨E.g,G.head (λ_ O=>O▸Z) ⟨aa,ab,K,ae,ag,rfl,W⟩⟩
def Ae{C:Nat->Prop}:(∃j,C j)->∃j,C j/\∀D,C D->j<=D:=by
 rintro⟨j,E⟩
 induction j using Nat.strongRecOn with
 | _ j G=>
  grind
def cJ{ι:Type}(τ:ι->bW)(M:ι->List aO)(F:ι->Prop)(O:ι->Nat)(W)(av:F W)(aH:r8 J (τ W))(ax:∀h,G L h->G (M W) h)
  {Y} (h:∀D,F D->bc P B g n (.code Y:: .inv (λj C=>∃y,F y/\O y<O D/\fo g n (τ y) j/\a4 g (M y) C)::aK) (τ D) (M D)):bc P B g n (.code (.loop Y)::aK) J L:=λj C aC aE=>by
 classical
 let Q:=λj C E=>∃D,F D/\fo g n (τ D) j/\a4 g (M D) C/\O D=E
 let ae:=λj C=>if Z:∃E,Q j C E/\∀I,Q j C I->E<=I then ru Z else 0
 refine wpIn_loop (λj C=>∃D,F D/\fo g n (τ D) j/\a4 g (M D) C) ae ⟨W,av,aC.sub aH,aE.mono ax⟩ ?_;rintro j C ⟨D,ar,aI,aP⟩;have ay:∃E,Q j C E/\∀I,Q j C I->E<=I:=Ae ⟨O D,D,ar,aI,aP,rfl⟩;obtain⟨⟨y,au,aL,aQ,aV⟩,_⟩:=vn ay;have aS:ae j C=O y:=by
  grind
 have aW:=h y au j C aL aQ;have aw:Y.wpIn (jp g.gK) 0 P (Exit.then (λj C=>∃K,F K/\O K<O y/\fo g n (τ K) j/\a4 g (M K) C) (fs g.gK P B aK)) j C:=by rw[IC];trivial
 refine lw (λap R U q=> ?_) aw;cases ap with
 |normal=>
  obtain⟨K,ag,aX,am,ao⟩:=q;refine⟨⟨K,ag,am,ao⟩,?_⟩;have al:Q R U _:=⟨K,ag,am,ao,rfl⟩;have ak:=Ae ⟨_,al⟩;have:ae R U<=O K:=by
   show(if Z:∃E,Q R U E/\∀I,Q R U I->E<=I then ru Z else 0)<=_;rw[dif_pos ak];exact(vn ak).2 _ al
  omega
 | _=>exact q
def ex{ι:Type}{τ:ι->bW}{M:ι->List aO}{F:ι->Prop}(y)(D:F y)(K:r8 J (τ y))(C:∀h,G L h->G (M y) h):
  bc P B g n (.inv (λj O=>∃y,F y/\fo g n (τ y) j/\a4 g (M y) O)::aK) J L:=λ_ _ E I=>⟨y,D,E.sub K,I.mono C⟩
def bM{ι:Type}{τ:ι->bW}{M:ι->List aO}{F:ι->Prop}{C:ι->Nat}{j}(y)(I:F y)(K:C y<j)(R:r8 J (τ y))(E:∀h,G L h->G (M y) h):
  bc P B g n (.inv (λD U=>∃y,F y/\C y<j/\fo g n (τ y) D/\a4 g (M y) U)::aK) J L:=λ_ _ O Q=>⟨y,I,K,O.sub R,Q.mono E⟩
def hs{ι:Type}(τ:ι->bW)(M:ι->List aO)(F:ι->Prop){E}
  (aa:bc P B g n (.code E:: .inv (λj C=>∃y,F y/\fo g n (τ y) j/\a4 g (M y) C)::aK) J L) (ab:∀y,F y->bc P B g n aK (τ y) (M y)):bc P B g n (.code E::aK) J L:=λj C Q R=>by
 have Z:=aa j C Q R;have O:E.wpIn (jp g.gK) 0 P (Exit.then (λj C=>∃D,F D/\fo g n (τ D) j/\a4 g (M D) C) (fs g.gK P B aK)) j C:=by rw[IC];trivial
 refine lw (λI G W q=> ?_) O;cases I with
 |normal=>obtain⟨D,K,U,Y⟩:=q;exact ab D K G W U Y
 | _=>exact q
def c3(P:Program)(B:Exit->Act->World->Prop)(g:c0)(n:Nat)(D:Array Oper)(l:List Oper)(aK:List eU)(J:bW)(L:aG):Prop:=
 ∀j C,fo g n J j->a4 g L C->wpListIn (jp g.gK) 0 P D (fs g.gK P B aK) l j C
def cv{id l}(h:c3 P B g n l.toArray l aK J L):bc P B g n (.code (.region id l.toArray false)::aK) J L:=λj E C D=>
 wpIn_region_lit (h j E C D)
variable{ar:Array Oper}{l:List Oper}
def aL(h:bc P B g n aK J L):c3 P B g n ar [] aK J L:=λj E C D=>h j E C D
def fb(J:bW):Option Nat->Value->bW
 |none,_=>J
 |some j,v=>(j,v)::J
def ef(n:Nat):Option Nat->Bool
 |none=>true
 |some j=>dT j n
def fo.kO{C}(h:fo g n J C){j}(v)(D:ef n j=true):fo g n (fb J j v) (C.put j v):=by
 cases j with
 |none=>exact h
 |some E=>exact h.put v D
def tA{o post}(I:o.guard=none)(E:ef n o.dst=true)(G:cc P g L J o post)
  (h:∀v j,post v j->c3 P B g n ar l aK (fb J o.dst v) j):c3 P B g n ar (o::l) aK J L:=λU W C O=>by
 refine wpListIn_plain I λR D=> ?_;exact G.wO C.e O λv Y j K Q=>D _ _ (h v j K _ _ (C.kO v E) Q)
def yl{o v}(G:o.guard=none)(D:ef n o.dst=true)(E:bf P L J o v)
  (h:c3 P B g n ar l aK (fb J o.dst v) L):c3 P B g n ar (o::l) aK J L:=
 tA G D E.pu λK I ⟨j,C⟩=>by subst j C;exact h
theorem s7{C:Act}(I:eD J C){D j:Nat}{b:Bool}(G:(ar[D]?).bind (·.dst)=some j)(E:J.get j=some (.bool b)):yielded ar C.tmps D=some b:=by
 have:=I j _ E;simp[yielded,G,this]
def f0{C:Option Nat}{O:Op}{R:TypeId}{Q:String}{E:Array Edge}{K G:Nat}{j b:Bool}(ak:(ar[K]?).bind (·.dst)=some G)(ae:J.get G=some (.bool b))(ag:ef n C=true)
  (aa:b=j->c3 P B g n ar (⟨C,O,R,Q,E,none⟩::l) aK J L) (ab:b=!j->c3 P B g n ar l aK (fb J C undef) L):
  c3 P B g n ar (⟨C,O,R,Q,E,some (K,j)⟩::l) aK J L:=λW U D I=>by
 have al:=s7 D.e ak ae;unfold wpListIn;simp[hn,al]
 by_cases Y:b=j
 ·subst Y;have:=aa p W U D I;simp[if_true];trivial
 ·have Z:b=!j:=by cases b<;>cases j<;>simp_all
  have:=ab Z _ U (D.kO _ ag) I;rw[if_neg (by simp_all)];exact⟨λ_ _=>trivial,this⟩
def br{j:Option Nat}{G:Op}{K:TypeId}{I:String}{C:Array Edge}{E D:Nat}{O b:Bool}(Y:(ar[E]?).bind (·.dst)=some D)(U:J.get D=some (.bool b))(W:ef n j=true)
  (R:b=O) (aa:c3 P B g n ar (⟨j,G,K,I,C,none⟩::l) aK J L):c3 P B g n ar (⟨j,G,K,I,C,some (E,O)⟩::l) aK J L:=
 f0 Y U W (λ_=>aa) (λQ=>by subst R;cases b<;>cases Q)
def el{j:Option Nat}{U:Op}{Y:TypeId}{W:String}{G:Array Edge}{D C:Nat}{E b:Bool}(R:(ar[D]?).bind (·.dst)=some C)(O:J.get C=some (.bool b))(Q:ef n j=true)
  (K:b=!E) (ab:c3 P B g n ar l aK (fb J j undef) L):c3 P B g n ar (⟨j,U,Y,W,G,some (D,E)⟩::l) aK J L:=
 f0 R O Q (λI=>by subst I;cases b<;>cases K) (λ_=>ab)
theorem GU{C:Act}(I:eD J C){D j:Nat}(G:(ar[D]?).bind (·.dst)=some j)(E:J.get j=some undef):yielded ar C.tmps D=none:=by
 have:=I j _ E;simp[yielded,G,this,undef]
def Ir{j:Option Nat}{U:Op}{Y:TypeId}{W:String}{G:Array Edge}{E C:Nat}{ae:Bool}(O:(ar[E]?).bind (·.dst)=some C)(I:J.get C=some undef)(K:ef n j=true)
  (ab:c3 P B g n ar l aK (fb J j undef) L):c3 P B g n ar (⟨j,U,Y,W,G,some (E,ae)⟩::l) aK J L:=λag Z D Q=>by
 have R:=GU D.e O I;have:=ab _ Z (D.kO _ K) Q;unfold wpListIn;rw[if_neg (by simp[hn,R])];exact⟨λ_ _=>trivial,this⟩
def q7(ar:Array Oper)(C:Nat):List Nat:=
 match ar[C]? with
 |none=>[]
 |some o=>o.after.toList.filterMap λj=>if nW .any j then some j.on else none
def xB(ar:Array Oper):Nat->List Nat->List Nat
 |0,F=>F
 |k+1,F=>xB ar k ((F++F.flatMap (q7 ar)).eraseDups)
def kM(o:Oper):Bool:=match o.op with
 | .move _| .assign _| .pick _ _ _| .nilCheck _| .binOp _ _ _ _ _| .unOp _ _ _| .convert _ _ _| .makeFunc _ _ _| .fieldAddr _ _ _| .field _ _ _| .extract _ _| .build _ _| .indexAddr _ _ _| .index _ _ _=>true
 | _=>false
def uT(ar:Array Oper)(j:Nat):Bool:=match ar[j]? with
 |some o=>kM o
 |none=>false
def pL(ar:Array Oper)(C:Nat):Bool:=
 let D:=xB ar 8 (q7 ar C)
 (hZ ar.size).all λj=>aA j C||D.contains j||(xB ar 8 (q7 ar j)).contains C||uT ar j
def o2(ar:Array Oper)(C:Array Bool):Prop:=∀j,C.getD j false=true->∀D∈q7 ar j,C.getD D false=true
theorem On{D}(E:o2 ar D):∀(k)(F),(∀C∈F,D.getD C false=true)->∀C∈xB ar k F,D.getD C false=true
 |0,_,h=>h
 |k+1,F,h=>On E k _ λC j=>by
  rw[List.mem_eraseDups,List.mem_append,vB]at j;rcases j with j|⟨G,I,j⟩
  ·simp_all
  ·exact E G (h G I) C j
theorem NJ{D j}(h:j∈hX .any ar D):∀C∈q7 ar j,D.getD C false=true:=by
 obtain⟨_,o,I,G⟩:=mem_ready.1 h;intro C E;simp[q7,List.mem_filterMap]at E;grind
theorem o2.step{C}(O:o2 ar C){j}(h:j∈hX .any ar C):o2 ar (C.setIfInBounds j true):=by
 intro I D K G
 by_cases E:j=I
 ·subst E;exact getD_set_true (NJ h K G)
 ·rw[getD_set_ne _ E]at D;exact getD_set_true (O I D K G)
def VA{j}(R:o2 ar j){D C}(h:D∈hX .any ar j)(K:C∈hX .any ar j)(I:pL ar D=true)(U:C<ar.size)(W:C≠D):uT ar C=true:=by
 simp[pL,List.contains_iff_mem]at I;have Y:∀{E:Nat},E∈hX .any ar j->j.getD E false=true->False:=λ{E} G O=>by
  have Q:=(mem_ready.1 G).1;grind
 grind[bV,On,NJ]
def l8(P:Program)(ar:Array Oper)(C:Exit->Act->World->Prop):(World->Prop)->Nat->Array Bool->Act->World->Prop
 | _,0,j,D,G=>hX .any ar j=[]/\C .normal D G
 |S,Q+1,j,D,G=>
  (hX .any ar j=[]->C .normal D G)/\
  ∀E∈hX .any ar j,wpOp P ar C E (λO I=>(pL ar E=true/\∃K:World->Prop,K I/\l8 P ar C K Q (j.setIfInBounds E true) O I)\/(S I/\l8 P ar C S Q (j.setIfInBounds E true) O I)) D G
section
variable{gx:Exit->Act->World->Prop}{S gT:World->Prop}
def xX:∀(C)(S)(G)(D)(I),l8 P ar gx S C G D I->wpAny P .any ar gx C G D I
 |0,_,_,_,_,h=>h
 |C+1,S,_,_,_,h=>⟨h.1,λR Q=>wpOp_mono (λE K j=>by
  rcases j with ⟨_,O,_,j⟩|⟨_,j⟩
  ·exact xX _ O _ E K j
  ·exact xX _ S _ E K j) (h.2 R Q)⟩
def Bu(G:∀j,gT j->S j):∀(C)(I)(D)(j),l8 P ar gx gT C I D j->l8 P ar gx S C I D j
 |0,_,_,_,h=>h
 |C+1,_,_,_,h=>⟨h.1,λQ O=>wpOp_mono (λK R E=>by
  rcases E with E|⟨aa,ab⟩
  ·simp_all
  ·exact .inr ⟨G _ aa,Bu G _ _ K R ab⟩) (h.2 Q O)⟩
def Bt{D Q v}(al:ar[D]?=some Q)(aS:∀(j:Nat)(o) Y b,ar[j]?=some o->o.op≠ .select Y b)
  (a0:∀aC K C,gx (.panic aC) (K.put Q.dst v) C->gx (.panic aC) K C) (ap) (a9:uT ar D=true->∀C,ap C):
  ∀(Z) (S) (I) (K) (C),(∀C,S C->ap C)->o2 ar I->
   (∀j R,ar[j]?=some R->j≠D->I.getD j true=false->(∀E∈R.after,nW .any E=true->E.on≠D)->Q.apart ar R=true)->
   D∈hX .any ar I->YieldsIf P ar ap Q v K->S C->
   l8 P ar gx S Z (I.setIfInBounds D true) (K.put Q.dst v) C->l8 P ar gx S (Z+1) I K C:=by
 intro Z
 induction Z with
 |zero=>
  intro S I K C ak _ _ am ao ae W;refine⟨λh=>(by simp_all),λj O=> ?_⟩
  by_cases G:j=D
  ·subst G;exact ao.wpOp al (ak _ ae) (.inr ⟨ae,W⟩)
  ·have:=ready_mono O G;rw[W.1]at this;trivial
 |succ Z aW=>
  intro S I K C ak av aL am ao ae W;refine⟨λh=>(by simp_all),λj O=> ?_⟩
  by_cases G:j=D
  ·subst G;exact ao.wpOp al (ak _ ae) (.inr ⟨ae,W⟩)
  ·have aa:=W.2 j (ready_mono O G);obtain⟨a5,R,aw,a1⟩:=mem_ready.1 O;have bb:∀E∈R.after,nW _ E=true->E.on≠D:=λE a3 a2 bd=>by
    have aa:=a1 E a3 a2;have bc:=(mem_ready.1 am).1;grind
   have ab:=wpOp_putIf aw (aL j R aw G a5 bb) (λY b=>aS D Q Y b al) (λY b=>aS j R Y b aw) a0 ao aa;have aO:∀U ag,ar[U]?=some ag->U≠D->(I.setIfInBounds j _).getD U _=false->
     (∀E∈ag.after,nW _ E=true->E.on≠D)->Q.apart _ ag=true:=λU ag a6 a7 aV ba=>by
    refine aL U ag a6 a7 ?_ ba
    by_cases a4:j=U
    ·simp_all
    ·rw[getD_set_ne _ a4]at aV;exact aV
   have aQ:=ready_mono am (Ne.symm G);refine wpOp_mono (λay aX aY=> ?_) ab;obtain⟨aE,aZ⟩:=aY;rcases aZ with ⟨aP,ax,aI,au⟩|⟨aH,au⟩
   ·have a8:=a9 (VA av O am aP (Array.getElem?_eq_some_iff.1 al).1 (Ne.symm G));refine .inl ⟨aP,ax,aI,aW ax (I.setIfInBounds j true) ay aX (λC _=>a8 C) (av.step O) aO aQ aE aI ?_⟩;rw[GW _ _ G];exact au
   ·refine .inr ⟨aH,aW S (I.setIfInBounds j true) ay aX ak (av.step O) aO aQ aE aH ?_⟩;rw[GW _ _ G];exact au
end
inductive jk where
 |nil
 |q (j:Nat) (s:jk)
 |e (j:Nat) (s:jk)
 |hc (j:Nat) (s:jk) (C:Nat) (D:jk)
 |Jv (j:Nat) (s:jk) (C:Nat) (D:jk) (E:Nat) (G:jk)
def jk.len:jk->Nat
 | .nil=>0
 | .q _ s| .e _ s| .hc _ s _ _| .Jv _ s _ _ _ _=>s.len+1
def iu(ar:Array Oper):jk->Array Bool->Bool
 | .nil,j=>(hX .any ar j).isEmpty
 | .q C s,j=>(hX .any ar j).contains C&&Region.free .any ar j C&&iu ar s (j.setIfInBounds C true)
 | .e C s,j=>(hX .any ar j)==[C]&&iu ar s (j.setIfInBounds C true)
 | .hc C s D E,j=>(hX .any ar j)==[C,D]&&aA s.len E.len&&iu ar s (j.setIfInBounds C true)&&iu ar E (j.setIfInBounds D true)
 | .Jv C s D E G I,j=>(hX .any ar j)==[C,D,G]&&aA s.len E.len&&aA s.len I.len&&iu ar s (j.setIfInBounds C true)&&iu ar E (j.setIfInBounds D true)&&iu ar I (j.setIfInBounds G true)
def d4(P:Program)(B:Exit->Act->World->Prop)(g:c0)(n:Nat)(ar:List Oper)(S:aG)(s:jk)(aK:List eU)(J:bW)(L:aG):Prop:=
 ∀C,vt ar.toArray=true->o2 ar.toArray C->iu ar.toArray s C=true->(∀h,G L h->G S h)->∀D j,fo g n J D->a4 g L j->
  l8 P ar.toArray (fs g.gK P B aK) (λj=>G S j.hm) s.len C D j
def l1(j:Exit->Act->World->Prop):Prop:=∀D C E,¬j (.panic D) C E
def o4{id l}(s)(O:P.follows .mixedOrders=true)(j:(nG l&&(vt l.toArray&&aA s.len l.length&&iu l.toArray s (nV l.length false)))=true)
  (h:d4 P B g n l L s aK J L):bc P B g n (.code (.region id l.toArray true)::aK) J L:=λD C Q R=>by
 simp[bL]at j;obtain⟨K,⟨aa,ab⟩,W⟩:=j;refine wpIn_region_any O (Bv K IB _ _ _ _<|xX (S:=λC=>G L C.hm) _ _ _ _ ?_);have E:l.toArray.size=s.len:=by simp_all
 rw[E];refine h _ aa (λU Y=> ?_) (by simp_all) (λ_ h=>h) D _ Q R.drew;exfalso;rcases eC U s.len with I|I
 ·simp_all
 simp_all
def r9:List aO->Nat->List aO
 | [],_=>[]
 | _::L,0=>L
 |A::L,j+1=>A::r9 L j
def G.r9:∀{L:aG}(j:Nat){h:iV},G L h->G (r9 L j) h
 | [],_,_,s=>s
 | _:: _,0,_,s=>s.tail
 | _:: _,j+1,_,s=>s.ep λ_ s=>G.r9 j s
def Iu{id l}(S s)(O:∀h,G L h->G S h)(Q:P.follows .mixedOrders=true)(j:(nG l&&(vt l.toArray&&aA s.len l.length&&iu l.toArray s (nV l.length false)))=true)
  (h:d4 P B g n l S s aK J L):bc P B g n (.code (.region id l.toArray true)::aK) J L:=λD C R U=>by
 simp[bL]at j;obtain⟨K,⟨aa,ab⟩,Y⟩:=j;refine wpIn_region_any Q (Bv K IB _ _ _ _<|xX (S:=λC=>G S C.hm) _ _ _ _ ?_);have E:l.toArray.size=s.len:=by simp_all
 rw[E];refine h _ aa (λW Z=> ?_) (by simp_all) O D _ R U.drew;exfalso;rcases eC W s.len with I|I
 ·simp_all
 simp_all
def Qo{id l}(j s)(D:P.follows .mixedOrders=true)(C:(nG l&&(vt l.toArray&&aA s.len l.length&&iu l.toArray s (nV l.length false)))=true)
  (h:d4 P B g n l (r9 L j) s aK J L):bc P B g n (.code (.region id l.toArray true)::aK) J L:=Iu _ s (λ_ s=>s.r9 j) D C h
variable{S:aG}{s t:jk}{lo:List Oper}
def dl(h:bc P B g n aK J L):d4 P B g n lo S .nil aK J L:=λI _ _ C _ j G D E=>
 ⟨by simpa[iu]using C,h j G D E⟩
def yy(E:l1 B):∀aK,l1 (fs g.gK P B aK)
 | []=>E
 | .code _::aK=>λC j D=>yy E aK C j D
 | .ae _::aK=>λC j D=>yy E aK C j D
 | .inv _::aK=>λC j D=>yy E aK C j D
def tC{C:Prop}(E:∀h,G L h->C)(h:C->bc P B g n aK J L):bc P B g n aK J L:=λD K I j=>h (E _ j.s) D K I j
def tK{D o v E}(am:∀h,G S h->G E h)(au:kM o=true->E=[])(ak:l1 B)(aC:lo[D]?=some o)(ao:ef n o.dst=true)(aw:∀C,fo g n J C->YieldsIf P lo.toArray (λj=>G E j.hm) o v C)
  (h:d4 P B g n lo S s aK (fb J o.dst v) L):d4 P B g n lo S (.q D s) aK J L:=λY aa O ab K C j U W=>by
 simp[iu,bL]at ab;obtain⟨⟨ay,ae⟩,ag⟩:=ab;have Q:lo.toArray[D]?=some o:=by simp_all
 have R:D∈hX .any lo.toArray Y:=by simp_all
 have al:∀I C j,fs g.gK P B aK _ (C.put o.dst v) j->fs g.gK P B aK (.panic I) C j:=λI C j av=>absurd av (yy ak aK I _ j);have ap:=h _ aa (O.step R) ag K _ j (U.kO v ao) W;refine Bt Q (Region.noSelect_spec aa) al _ (λax j=> ?_) _ _ Y C j (λj h=>am _ h) O (Region.free_spec Q ae) R (aw C U) (K _ W.s) ap;have Z:kM o=true:=by
  simp_all[uT]
 rw[au Z];trivial
def n7{j o v}(D:l1 B)(K:lo[j]?=some o)(W:kM o=false)(I:o.guard=none)(E:ef n o.dst=true)(G:bf P S J o v)
  (h:d4 P B g n lo S s aK (fb J o.dst v) L):d4 P B g n lo S (.q j s) aK J L:=
 tK (E:=S) (λ_ h=>h) (λU=>by simp_all) D K E (λC O=> .inl ⟨by simp[hn,I],λR Q=>G C R O.e Q⟩) h
def kA{j o v}(D:l1 B)(K:lo[j]?=some o)(_hm:kM o=true)(I:o.guard=none)(E:ef n o.dst=true)(G:bf P [] J o v)
  (h:d4 P B g n lo S s aK (fb J o.dst v) L):d4 P B g n lo S (.q j s) aK J L:=
 tK (E:=[]) (λ_ _=>trivial) (λ_=>rfl) D K E (λC O=> .inl ⟨by simp[hn,I],λR Q=>G C R O.e Q⟩) h
def fF{G I D:Nat}{o:Oper}{v:Value}{b:Bool}(O:l1 B)(W:lo[G]?=some o)(ak:kM o=false)(U:o.guard=some (I,b))(Y:(lo[I]?).bind (·.dst)=some D)(C:∃j,J.get D=some (.bool j)/\j=b)(Q:ef n o.dst=true)(R:bf P S J o v)
  (h:d4 P B g n lo S s aK (fb J o.dst v) L):d4 P B g n lo S (.q G s) aK J L:=by
 obtain⟨j,C,rfl⟩:=C;exact tK (λ_ h=>h) (λag=>by simp_all) O W Q (λK E=> .inl ⟨by simp[hn,U,s7 (ar:=lo.toArray) E.e (by simpa using Y) C],λae Z=>R K ae E.e Z⟩) h
def b0{G I D:Nat}{o:Oper}{v:Value}{b:Bool}(O:l1 B)(W:lo[G]?=some o)(_hm:kM o=true)(U:o.guard=some (I,b))(Y:(lo[I]?).bind (·.dst)=some D)(C:∃j,J.get D=some (.bool j)/\j=b)(Q:ef n o.dst=true)(R:bf P [] J o v)
  (h:d4 P B g n lo S s aK (fb J o.dst v) L):d4 P B g n lo S (.q G s) aK J L:=by
 obtain⟨j,C,rfl⟩:=C;exact tK (E:=[]) (λ_ _=>trivial) (λ_=>rfl) O W Q (λK E=> .inl ⟨by simp[hn,U,s7 (ar:=lo.toArray) E.e (by simpa using Y) C],λae Z=>R K ae E.e Z⟩) h
def cw{E G D:Nat}{o:Oper}{b:Bool}(I:l1 B)(Q:lo[E]?=some o)(O:o.guard=some (G,b))(R:(lo[G]?).bind (·.dst)=some D)(C:∃j,J.get D=some (.bool j)/\j=!b)(K:ef n o.dst=true)
  (h:d4 P B g n lo S s aK (fb J o.dst undef) L):d4 P B g n lo S (.q E s) aK J L:=by
 obtain⟨j,C,rfl⟩:=C;exact tK (E:=[]) (λ_ _=>trivial) (λ_=>rfl) I Q K (λW U=> .inr ⟨by simp[hn,O,s7 (ar:=lo.toArray) U.e (by simpa using R) C],rfl⟩) h
def Rf{C D j:Nat}{o:Oper}{b:Bool}(E:l1 B)(O:lo[C]?=some o)(K:o.guard=some (D,b))(Q:(lo[D]?).bind (·.dst)=some j)(G:J.get j=some undef)(I:ef n o.dst=true)
  (h:d4 P B g n lo S s aK (fb J o.dst undef) L):d4 P B g n lo S (.q C s) aK J L:=
 tK (E:=[]) (λ_ _=>trivial) (λ_=>rfl) E O I (λU R=> .inr ⟨by simp[hn,K,GU (ar:=lo.toArray) R.e (by simpa using Q) G],rfl⟩) h
def n4(P:Program)(B:Exit->Act->World->Prop)(g:c0)(n:Nat)(ar:List Oper)(S:aG)(j:Nat)(s:jk)(aK:List eU)(J:bW)(L:aG):Prop:=
 ∀C,vt ar.toArray=true->o2 ar.toArray C->j∈hX .any ar.toArray C->iu ar.toArray s (C.setIfInBounds j true)=true->(∀h,G L h->G S h)->∀K D,fo g n J K->a4 g L D->
  wpOp P ar.toArray (fs g.gK P B aK) j (λO E=>(pL ar.toArray j=true/\∃I:World->Prop,I E/\l8 P ar.toArray (fs g.gK P B aK) I s.len (C.setIfInBounds j true) O E)\/(G S E.hm/\l8 P ar.toArray (fs g.gK P B aK) (λD=>G S D.hm) s.len (C.setIfInBounds j true) O E)) K D
def an{C}(h:n4 P B g n lo S C s aK J L):d4 P B g n lo S (.e C s) aK J L:=λU aa K ab I D W Q R=>by
 simp[iu,bL,beq_iff_eq]at ab;obtain⟨E,G⟩:=ab;refine⟨λY=>(by simp_all),λZ j=> ?_⟩;have O:=j;rw[E,oW]at j;subst j;exact h U aa K O G I D W Q R
def h1{O Q}(h:n4 P B g n lo S O s aK J L)(W:n4 P B g n lo S Q t aK J L):d4 P B g n lo S (.hc O s Q t) aK J L:=λR aa E ab D C U I K=>by
 simp[iu,bL,beq_iff_eq]at ab;obtain⟨⟨⟨Y,ak⟩,Z⟩,ae⟩:=ab;refine⟨λag=>(by simp_all),λal j=> ?_⟩;have G:=j;rw[Y,cQ,oW]at j;rcases j with rfl|rfl
 ·exact h R aa E G Z D C U I K
 ·have:=W R aa E G ae D C U I K;simp_all
def a1{E o post}(au:lo[E]?=some o)(ag:o.guard=none)(Z:ef n o.dst=true)(ae:cc P g L J o post)
  (h:∀v j,post v j->∃C,(∀h,G j h->G C h)/\(∀h,G C h->G S h)/\d4 P B g n lo C s aK (fb J o.dst v) j):n4 P B g n lo S E s aK J L:=λav aa Y am W ap U R O D=>by
 have ak:lo.toArray[E]?=some o:=by simp_all
 unfold wpOp;simp[ak,hn,ag];refine .inl (ae U R O.e D _ _ λv aw j al Q=> ?_);obtain⟨C,I,K,ao⟩:=h v j al;refine .inr ⟨K _ (I _ Q.s),?_⟩;exact Bu (λR D=>K _ D) _ _ _ _ (ao _ aa (Y.step am) W I _ _ (O.kO v Z) Q)
def n6{C b}(j)(_hd:J.get C=some (.bool b))(aa:b=j->d4 P B g n lo S s aK J L)(ab:b=!j->d4 P B g n lo S s aK J L):d4 P B g n lo S s aK J L:=by
 cases b<;>cases j
 ·exact aa p
 ·exact ab p
 ·exact ab p
 ·exact aa p
def f9{O Y Q:Nat}{o:Oper}{b:Bool}{post:Value->List aO->Prop}(aC:lo[O]?=some o)(ao:o.guard=some (Y,b))(au:(lo[Y]?).bind (·.dst)=some Q)(E:∃D,J.get Q=some (.bool D)/\D=b)(al:ef n o.dst=true)(am:cc P g L J o post)
  (h:∀v j,post v j->∃C,(∀h,G j h->G C h)/\(∀h,G C h->G S h)/\d4 P B g n lo C s aK (fb J o.dst v) j):n4 P B g n lo S O s aK J L:=λaE aa ak aw ag ay ae Z I K=>by
 obtain⟨D,E,rfl⟩:=E;have ap:lo.toArray[O]?=some o:=by simp_all
 unfold wpOp;simp[ap,hn,ao,s7 (ar:=lo.toArray) I.e (by simpa using au) E,beq_self_eq_true];refine .inl (am ae Z I.e K _ _ λv aH j av W=> ?_);obtain⟨C,R,U,ax⟩:=h v j av;refine .inr ⟨U _ (R _ W.s),?_⟩;exact Bu (λZ K=>U _ K) _ _ _ _ (ax _ aa (ak.step aw) ag R _ _ (I.kO v al) W)
def gy{D O E:Nat}{o:Oper}{b:Bool}(am:lo[D]?=some o)(Z:o.guard=some (O,b))(ag:(lo[O]?).bind (·.dst)=some E)(C:∃j,J.get E=some (.bool j)/\j=!b)(Y:ef n o.dst=true)
  (h:d4 P B g n lo S s aK (fb J o.dst undef) L):n4 P B g n lo S D s aK J L:=λao aa W ak U G al ap I K=>by
 obtain⟨j,C,rfl⟩:=C;have ae:lo.toArray[D]?=some o:=by simp_all
 unfold wpOp;simp only[ae,hn,Z,s7 (ar:=lo.toArray) I.e (by simpa using ag) C];have R:(some (!b)==some b)=false:=Q;simp[R];exact .inr ⟨G _ K.s,h _ aa (W.step ak) U G _ _ (I.kO _ Y) K⟩
def IL{j C D:Nat}{o:Oper}{b:Bool}(ak:lo[j]?=some o)(Y:o.guard=some (C,b))(ae:(lo[C]?).bind (·.dst)=some D)(R:J.get D=some undef)(W:ef n o.dst=true)
  (h:d4 P B g n lo S s aK (fb J o.dst undef) L):n4 P B g n lo S j s aK J L:=λam aa U ag Q E K ao G I=>by
 have Z:lo.toArray[j]?=some o:=by simp_all
 have al:=GU (ar:=lo.toArray) G.e (by simpa using ae) R;have O:(yielded lo.toArray K.tmps C==some b)=false:=by simp_all
 unfold wpOp;simp[Z,hn,Y,O];exact .inr ⟨E _ I.s,h _ aa (U.step ag) Q E _ _ (G.kO _ W) I⟩
def cj{C o post}(R:pL lo.toArray C=true)(ak:lo[C]?=some o)(O:o.guard=none)(I:ef n o.dst=true)(K:cc P g L J o post)
  (h:∀v j,post v j->bc P B g n aK (fb J o.dst v) j):n4 P B g n lo S C .nil aK J L:=λam aa ag al G ae E Z D W=>by
 have Q:lo.toArray[C]?=some o:=by simp_all
 unfold wpOp;simp[Q,hn,O];exact .inl (K E Z D.e W _ _ λv ao j U Y=> .inl ⟨R,λ_=>True,trivial,by simpa[iu]using G,h v j U _ _ (D.kO v I) Y⟩)
def dh{C o post}(Z:pL lo.toArray C=true)(am:lo[C]?=some o)(W:o.guard=none)(R:ef n o.dst=true)(U:cc P g L J o post)
  (h:∀v j,post v j->d4 P B g n lo j s aK (fb J o.dst v) j):n4 P B g n lo S C s aK J L:=λao aa Q ag O al K I D ak=>by
 have Y:lo.toArray[C]?=some o:=by simp_all
 unfold wpOp;simp[Y,hn,W];exact .inl (U K I D.e ak _ _ λv ap j ae E=> .inl ⟨Z,λI=>G j _,E.s,h v j ae _ aa (Q.step ag) O (λ_ s=>s) _ _ (D.kO v R) E⟩)
def yE{C Q K:Nat}{o:Oper}{b:Bool}{post:Value->List aO->Prop}(am:pL lo.toArray C=true)(aw:lo[C]?=some o)(ag:o.guard=some (Q,b))(al:(lo[Q]?).bind (·.dst)=some K)(E:∃D,J.get K=some (.bool D)/\D=b)(Z:ef n o.dst=true)(ae:cc P g L J o post)
  (h:∀v j,post v j->d4 P B g n lo j s aK (fb J o.dst v) j):n4 P B g n lo S C s aK J L:=λax aa Y ap W av U R I au=>by
 obtain⟨D,E,rfl⟩:=E;have ak:lo.toArray[C]?=some o:=by simp_all
 unfold wpOp;simp[ak,hn,ag,s7 (ar:=lo.toArray) I.e (by simpa using al) E,beq_self_eq_true];exact .inl (ae U R I.e au _ _ λv ay j ao O=> .inl ⟨am,λR=>G j _,O.s,h v j ao _ aa (Y.step ap) W (λ_ s=>s) _ _ (I.kO v Z) O⟩)
end
section
variable{P:Program}{fn:Func}{g:c0}{n:Nat}{aK:List eU}{J:bW}{L:aG}
def lM(args:cs):Nat->bW
 |k=>match args with
  | []=>[]
  |v::l=>(k,v)::lM l (k+1)
def mQ(P:Program)(fn:Func)(g:c0)(F:aO)(post:Value->List aO->Prop):Exit->Act->World->Prop
 | .normal,C,j| .ret,C,j=>C.defers=g.kG/\∃v,(results fn C.tmps).run P j=.ok v j/\∃D,post v D/\a4 g (F::D) j
 | _,_,_=>False
def Yw{P fn g F post}:∀C D I,mQ P fn g.base F post C D I->bodyPost P fn (λC K=>∃v j,C=.returned v/\post v j/\a4 g (F::j) K) C D I:=λC D I h=>by
 cases C with
 |normal=>obtain⟨aa,v,ab,j,E,G⟩:=h;exact⟨aa,v,ab,v,j,rfl,E,G.pX⟩
 |ret=>obtain⟨aa,v,ab,j,E,G⟩:=h;exact⟨aa,v,ab,v,j,rfl,E,G.pX⟩
 | _=>trivial
def nm{j L M}(C:∀h,G L h->G M h):∀h,G (j::L) h->G (j::M) h:=λ_ s=>s.ep C
def lQ{j L M}(C:∀h,G L h->G M h):∀h,G (j::L) h->G M h:=λ_ s=>C _ s.tail
def aT{F post}:l1 (mQ P fn g F post):=λ_ _ _ h=>h
def vW(args):∀(D j)(v),(lM args D).get j=some v->∃E,j=D+E/\args[E]?=some v:=by
 induction args with
 |nil=>intro D j v h;cases h
 |cons Q l I=>
  intro D j v h;simp[lM,bW.get]at h;cases G:aA D j with
  |true=>simp_all
  |false=>
   rw[G]at h;obtain⟨E,K,O⟩:=I _ j v (by assumption);exact⟨E+1,C,by assumption⟩
def Qc{E C args post}(K:P.funcs[E]?=some fn)(I:fn.body=some C)(Y:fn.ntmps=n)(W:cN args.length n=true)
  (h:∀g F,bc P (mQ P fn g F post) g n [.code C] (lM args 0) (F::L)):D P E args.toArray L post:=λg F G O=>by
 refine calls_of_wp K I ?_;have Z:args.toArray.size<=fn.ntmps:=by simp_all
 have:=h _ F {tmps:=args.toArray++nV (fn.ntmps-args.toArray.size) undef,defers:=[]} G ⟨by simp_all,rfl,λQ v j=> ?_⟩ O.base
 ·exact Code.wp_mono (λj R G h=>by cases j<;>first|exact Yw _ _ _ h|exact h.elim) (wpIn_wide.1 this)
 ·obtain⟨ae,rfl,U⟩:=vW _ 0 Q v j;grind
inductive jL (P:Program) (J:bW) (L:aG):List ResultVar->List Value->Prop where
 |nil:jL P J L [] []
 |tmp {C:Nat} {v:Value} {j:List ResultVar} {D:cs} (h:J.get C=some v) (O:jL P J L j D):jL P J L (.tmp C::j) (v::D)
 |cell {I:Nat} {C:TypeId} {K:Addr} {v:Value} {j:List ResultVar} {D:cs} (h:J.get I=some (.pointer (some K))) (Q:∀E,G L E.hm->(loadVar C K).run P E=.ok v E) (O:jL P J L j D):jL P J L (.cell I C::j) (v::D)
def bG:List Value->Value
 | [v]=>v
 |j=> .tuple j.toArray
theorem jL.run{D:List ResultVar}{E:cs}(h:jL P J L D E){C:Act}{O:World}(Q:eD J C)(ae:G L O.hm):
  (D.mapM (m:=Sem) λ| .tmp j=>pure (C.tmps.getD j undef)| .cell I j=>do loadVar j (<- asAddr (C.tmps.getD I undef))).run P O=.ok E O:=by
 induction h with
 |nil=>rfl
 | @tmp j v D E h W U=>
  have R:C.tmps.getD j undef=v:=by rw[Bw,Q _ _ h,n1]
  simp_all
 | @cell I j K v D E h Z W U=>
  have R:C.tmps.getD I undef=.pointer (some K):=by rw[Bw,Q _ _ h,n1]
  have Y:asAddr (.pointer (some K))=(pure K:Sem _):=rfl;simp_all
def aj{D j C F post}(U:fn.results=D.toArray)(h:jL P J L D j)(Q:∀h,G L h->G (F::C) h)(R:post (bG j) C):bc P (mQ P fn g F post) g n (.code .ret::aK) J L:=λY K E I=>by
 refine wpIn_ret (vN ⟨E.defers,bG j,?_,C,R,I.mono Q⟩);unfold results;rw[U];simp only[List.mapM_toArray,cg,Sem.run_map];have Z:=h.run E.e I.s;generalize ae:List.mapM (m:=Sem) _ D=W;have O:W.run P K=.ok j K:=by grind
 rw[O];cases j with
 |nil=>rfl
 |cons v l=>cases l<;>simp[bG]
end
end
def il(j:Program)(C:TypeId):Bool:=
 match j.underlying C,j.info? C with
 |some (.struct _),_=>false
 |some (.array _ _),_=>false
 |some _,some D=>aA D.size 1
 | _,_=>false
def nc(C:Program)(D:TypeId)(n:Nat):Bool:=
 match C.underlying D,C.info? D with
 |some (.struct _),some j=>aA j.size n
 |some (.array _ _),some j=>aA j.size n
 | _,_=>false
class dr (j:Program) (C:TypeId):Prop where
 h:il j C=true
class gR (j:Program) (C:TypeId) (n:outParam Nat):Prop where
 h:nc j C n=true
class cy (j:Program) (C:TypeId) (D:outParam (List Value)):Prop where
 h:((j.info? C).bind (·.zero)).map (·.cells.toList)=some D
def fieldsOf(j:Program)(D:TypeId):Option (List (Nat×Nat)):=
 match j.underlying D with
 |some (.struct E)=>E.toList.mapM λC=>(j.info? C.type).map λG=>(C.offset,G.size)
 | _=>none
class ey (j:Program) (C:TypeId) (D:outParam (List (Nat×Nat))):Prop where
 h:fieldsOf j C=some D
def wD(C:Program)(E:TypeId)(G:Nat):Option (Nat×Nat×Bool):=
 match C.underlying E with
 |some (.struct I)=>match I[G]? with
  |some j=>if il C j.type then some (j.offset,1,false)else(C.info? j.type).bind λD=>if nc C j.type D.size then some (j.offset,D.size,true)else none
  |none=>none
 | _=>none
class bk (j:Program) (C:TypeId) (D:Nat) (E:outParam (Nat×Nat×Bool)):Prop where
 h:wD j C D=some E
def Gn(j:Program)(E:TypeId):Option (TypeId×Nat×Nat):=
 match j.underlying E with
 |some (.slice C)=>(j.info? C).map λD=>(C,D.size,D.bytes)
 | _=>none
class eo (j:Program) (C:TypeId) (D:outParam (TypeId×Nat×Nat)):Prop where
 h:Gn j C=some D
def CI(j:Program)(D:TypeId):Option (Nat×TypeId×Nat):=
 match j.underlying D with
 |some (.array n C)=>(j.info? C).map λE=>(n,C,E.size)
 | _=>none
class lH (j:Program) (C:TypeId) (D:outParam (Nat×TypeId×Nat)):Prop where
 h:CI j C=some D
def y6(C:Program)(D:FuncId):Bool:=
 match C.funcs[D]? with
 |some j=>j.body.isSome&&!(j.name== "runtime.NumGoroutine")
 |none=>false
class b4 (j:Program) (C:FuncId):Prop where
 h:y6 j C=true
section
variable{P:Program}
theorem dr.run{T}(h:dr P T)(j):(isAgg T).run P j=.ok false j/\(sizeOf T).run P j=.ok 1 j:=by
 have h:=h.h;unfold il at h;cases D:P.underlying T with
 |none=>simp_all
 |some E=>
  cases C:P.info? T with
  |none=>grind
  |some I=>
   rw[D,C]at h;have G:(sizeOf T).run P j=.ok I.size j:=by simp[sizeOf,typeInfo,C]
   cases E<;>first|(cases h;done)|exact⟨by simp[isAgg,run_underlying D],by rw[G,bV h]⟩
theorem gR.run{T n}(h:gR P T n)(j):(isAgg T).run P j=.ok true j/\(sizeOf T).run P j=.ok n j:=by
 have h:=h.h;unfold nc at h;cases D:P.underlying T with
 |none=>simp_all
 |some E=>
  cases C:P.info? T with
  |none=>simp_all
  |some G=>
   rw[D,C]at h;have I:(sizeOf T).run P j=.ok G.size j:=by simp[sizeOf,typeInfo,C]
   cases E<;>first|(cases h;done)|exact⟨by simp[isAgg,run_underlying D],by simp_all⟩
theorem cy.run{T E}(h:cy P T E)(D):∃v,(zeroValue T).run P D=.ok v D/\v.cells=E.toArray:=by
 have h:=h.h;cases j:P.info? T with
 |none=>simp_all
 |some G=>
  cases C:G.zero with
  |none=>simp_all
  |some v=>rw[j]at h;simp[C]at h;exact⟨v,by simp[zeroValue,typeInfo,j,C],by grind⟩
def eo.spec{C D s b}(h:eo P C (D,s,b)):P.underlying C=some (.slice D)/\∃j,P.info? D=some j/\j.size=s/\j.bytes=b:=by
 have h:=h.h;unfold Gn at h;cases I:P.underlying C with
 |none=>simp_all
 |some E=>
  rw[I]at h;cases E<;>first|(cases h;done)|skip
  rename_i G
  cases J:P.info? G with
  |none=>simp_all
  |some j=>simp_all
def lH.spec{j C n s}(h:lH P j (n,C,s)):P.underlying j=some (.array n C)/\∃D,P.info? C=some D/\D.size=s:=by
 have h:=h.h;unfold CI at h;cases I:P.underlying j with
 |none=>simp_all
 |some E=>
  rw[I]at h;cases E<;>first|(cases h;done)|skip
  rename_i K G
  cases J:P.info? G with
  |none=>simp_all
  |some D=>simp_all
theorem b4.run{f}(h:b4 P f)(args C):(callFunc f args).run P C=.ok (.enter f args) C:=by
 have h:=h.h;unfold y6 at h;cases j:P.funcs[f]? with
 |none=>simp_all
 |some D=>
  rw[j]at h;simp[bL]at h;obtain⟨aa,ab⟩:=h;cases E:D.body with
  |none=>simp_all
  |some G=>simp[callFunc,j,by simpa using ab,E]
end
section
variable{P:Program}{L:aG}{J:bW}{d:Option Nat}{aQ T cE:TypeId}{a3:String}{a2:Array Edge}{a0:Option (Nat×Bool)}{x y z:Operand}{v u:Value}
def fv(h:aY J x=some v):bf P L J ⟨d,.move x,aQ,a3,a2,a0⟩ v:=λD C j _=>by
 show Result.ok _ C= _;rw[j.eval h]
def Ku(h:aY J x=some v):bf P L J ⟨d,.assign x,aQ,a3,a2,a0⟩ v:=λD C j _=>by
 show Result.ok _ C= _;rw[j.eval h]
def mo(D j E q I)(K:aY J x=some (.int j E))(O:aY J y=some (.int j q))(U:∀C,(binOp D T (.int j E) (.int j q)).run P C=.ok I C):
  bf P L J ⟨d,.binOp D T x y cE,aQ,a3,a2,a0⟩ I:=λQ C G _=>by
 simp[execOp,G.eval K,G.eval O];have R:(eqGuard D T x y (.int j E) (.int j q)).run P C=.ok () C:=by
  unfold eqGuard;simp
 simp_all
theorem Dy{C q}(E:aY J x=some (j C))(G:aY J y=some (j q))(D: -9223372036854775808<=C+q/\C+q<=9223372036854775807):bf P L J ⟨d,.binOp .add T x y cE,aQ,a3,a2,a0⟩ (j (C+q)):=
 mo _ _ C q _ E G λI=>by simp[binOp,BI,ry _ D]
theorem wB{C q}(E:aY J x=some (j C))(G:aY J y=some (j q))(D: -9223372036854775808<=C-q/\C-q<=9223372036854775807):bf P L J ⟨d,.binOp .sub T x y cE,aQ,a3,a2,a0⟩ (j (C-q)):=
 mo _ _ C q _ E G λI=>by simp[binOp,BI,ry _ D]
def KB{C q}(E:aY J x=some (j C))(G:aY J y=some (j q))(D: -9223372036854775808<=C*q/\C*q<=9223372036854775807):bf P L J ⟨d,.binOp .mul T x y cE,aQ,a3,a2,a0⟩ (j (C*q)):=
 mo _ _ C q _ E G λI=>by simp[binOp,BI,ry _ D]
def zB{C q:Nat}(E:aY J x=some (j (C:Int)))(G:aY J y=some (j (q:Int)))(D:C+q<=9223372036854775807):bf P L J ⟨d,.binOp .add T x y cE,aQ,a3,a2,a0⟩ (j ((C+q:Nat):Int)):=by grind[Dy]
def uw{C q:Nat}(E:aY J x=some (j (C:Int)))(G:aY J y=some (j (q:Int)))(D:q<=C/\C<=9223372036854775807):bf P L J ⟨d,.binOp .sub T x y cE,aQ,a3,a2,a0⟩ (j ((C-q:Nat):Int)):=by grind[wB]
theorem hQ{D q}(I:aY J x=some (j D))(K:aY J y=some (j q))(E:0<=D)(G:0<q)(Q:D<=9223372036854775807):bf P L J ⟨d,.binOp .quo T x y cE,aQ,a3,a2,a0⟩ (j (D/q)):=
 mo _ _ D q _ I K λR=>by
  have aa:D.tdiv q=D/q:=Int.tdiv_eq_ediv_of_nonneg E;have ab:=Int.ediv_nonneg E (Int.le_of_lt G);have O:=Int.ediv_le_self q E;simp[binOp,Op.intDiv,show q≠0 by omega,aa,ry (D/q) C]
def kH{C q:Nat}(G:aY J x=some (j (C:Int)))(I:aY J y=some (j (q:Int)))(E:0<q)(D:C<=9223372036854775807):bf P L J ⟨d,.binOp .quo T x y cE,aQ,a3,a2,a0⟩ (j ((C/q:Nat):Int)):=by grind[hQ]
def nt{C}{j q:Nat}(D:aY J x=some (.int C (j:Int)))(E:aY J y=some (.int C (q:Int))):bf P L J ⟨d,.binOp .lss T x y cE,aQ,a3,a2,a0⟩ (.bool (decide (j<q))):=
 mo _ _ j q _ D E λG=>by simp[binOp,j3]
def py{C j q}(D:aY J x=some (.int C j))(E:aY J y=some (.int C q)):bf P L J ⟨d,.binOp .lss T x y cE,aQ,a3,a2,a0⟩ (.bool (decide (j<q))):=
 mo _ _ j q _ D E λG=>by simp[binOp,j3]
def TK{C j q}(D:aY J x=some (.int C j))(E:aY J y=some (.int C q)):bf P L J ⟨d,.binOp .leq T x y cE,aQ,a3,a2,a0⟩ (.bool (decide (j<=q))):=
 mo _ _ j q _ D E λG=>by simp[binOp,j3]
def TJ{C j q}(D:aY J x=some (.int C j))(E:aY J y=some (.int C q)):bf P L J ⟨d,.binOp .gtr T x y cE,aQ,a3,a2,a0⟩ (.bool (decide (q<j))):=
 mo _ _ j q _ D E λG=>by simp[binOp,j3]
def zF{C j q}(D:aY J x=some (.int C j))(E:aY J y=some (.int C q)):bf P L J ⟨d,.binOp .geq T x y cE,aQ,a3,a2,a0⟩ (.bool (decide (q<=j))):=
 mo _ _ j q _ D E λG=>by simp[binOp,j3]
def zD{C j q}(D:aY J x=some (.int C j))(E:aY J y=some (.int C q)):bf P L J ⟨d,.binOp .eql T x y cE,aQ,a3,a2,a0⟩ (.bool (decide (j=q))):=
 mo _ _ j q _ D E λG=>by
  have:(j==q)=decide (j=q):=by rfl
  simp[binOp,j3,this]
def TL{C j q}(D:aY J x=some (.int C j))(E:aY J y=some (.int C q)):bf P L J ⟨d,.binOp .neq T x y cE,aQ,a3,a2,a0⟩ (.bool (decide (j≠q))):=
 mo _ _ j q _ D E λG=>by
  have:(j !=q)=decide (j≠q):=by grind
  simp[binOp,j3,this]
def iY(C u v E)(O:∀j,(eqGuard C T x y u v).run P j=.ok () j)(G:aY J x=some u)(I:aY J y=some v)(Q:∀j,(binOp C T u v).run P j=.ok E j):
  bf P L J ⟨d,.binOp C T x y cE,aQ,a3,a2,a0⟩ E:=λK j D _=>by
 simp[execOp,D.eval G,D.eval I];simp_all
def zz(C D q j):(eqGuard C T x y (.pointer D) (.pointer q)).run P j=.ok () j:=by
 unfold eqGuard;simp
def Fu(P:Program)(T:TypeId):Bool:=match P.underlying T with
 |some (.pointer _)=>true
 | _=>false
class fR (P:Program) (T:TypeId):Prop where
 h:Fu P T=true
def fR.spec(j:fR P T):∃C,P.underlying T=some (.pointer C):=by
 have h:=j.h;unfold Fu at h;grind
theorem zA(D:fR P T)(j C):(dD T (.pointer j) (.pointer none)).run P C=.ok j.isNone C:=by
 obtain⟨G,E⟩:=D.spec;unfold dD;rw[show ly=9999+1 from rfl];unfold j2;cases j<;>simp[cg,run_underlying E]<;>rfl
def TH{j}[G:fR P T](C:aY J x=some (.pointer j))(D:aY J y=some (.pointer none)):bf P L J ⟨d,.binOp .eql T x y cE,aQ,a3,a2,a0⟩ (.bool j.isNone):=
 iY _ _ _ _ (zz _ _ _) C D λE=>by
  show((do pure (.bool (<- dD T _ _)):Sem Value)).run P E= _;simp[zA]
def TM{j}[G:fR P T](C:aY J x=some (.pointer j))(D:aY J y=some (.pointer none)):bf P L J ⟨d,.binOp .neq T x y cE,aQ,a3,a2,a0⟩ (.bool j.isSome):=
 iY _ _ _ _ (zz _ _ _) C D λE=>by
  show((do pure (.bool (!(<- dD T _ _))):Sem Value)).run P E= _;simp[zA]
def Kn(C D q j):(eqGuard C T x y (.bool D) (.bool q)).run P j=.ok () j:=by
 unfold eqGuard;simp
def CY(P:Program)(T:TypeId):Bool:=match P.underlying T with
 |some .bool=>true
 | _=>false
class tu (P:Program) (T:TypeId):Prop where
 h:CY P T=true
def tu.spec(j:tu P T):P.underlying T=some .bool:=by
 have h:=j.h;unfold CY at h;grind
theorem Kq(D:tu P T)(j q C):(dD T (.bool j) (.bool q)).run P C=.ok (j==q) C:=by
 have E:=D.spec;unfold dD;rw[show ly=9999+1 from rfl];unfold j2;simp[cg,run_underlying E]<;>rfl
def TD{j q}[G:tu P T](C:aY J x=some (.bool j))(D:aY J y=some (.bool q)):bf P L J ⟨d,.binOp .eql T x y cE,aQ,a3,a2,a0⟩ (.bool (j==q)):=
 iY _ _ _ _ (Kn _ _ _) C D λE=>by
  show((do pure (.bool (<- dD T _ _)):Sem Value)).run P E= _;simp[Kq]
def cL{b}(C:aY J x=some (.bool b)):bf P L J ⟨d,.unOp .not T x,aQ,a3,a2,a0⟩ (.bool (!b)):=λD E j _=>by
 simp[execOp,j.eval C];rfl
def KC{b}(E:aY J z=some (.bool b))(aa:b=true->aY J x=some v)(ab:b=false->aY J y=some v):bf P L J ⟨d,.pick z x y,aQ,a3,a2,a0⟩ v:=λC D j _=>by
 simp[execOp,j.eval E];cases b with
 |true=>show Result.ok (Next.value (C.eval x)) D= _;rw[j.eval (aa p)]
 |false=>show Result.ok (Next.value (C.eval y)) D= _;rw[j.eval (ab p)]
def eP{b}(j:aY J z=some (.bool b))(D:b=true)(aa:aY J x=some v):bf P L J ⟨d,.pick z x y,aQ,a3,a2,a0⟩ v:=KC j (λ_=>aa) (λC=>by simp_all)
def eW{b}(j:aY J z=some (.bool b))(D:b=false)(aa:aY J y=some v):bf P L J ⟨d,.pick z x y,aQ,a3,a2,a0⟩ v:=KC j (λC=>by simp_all) (λ_=>aa)
def sc{j}(D:aY J x=some (.pointer (some j))):bf P L J ⟨d,.nilCheck x,aQ,a3,a2,a0⟩ (.pointer (some j)):=λE G C _=>by
 simp only[execOp,C.eval D];rfl
def pz{j l C}(I:∀n,j≠ .method n)(E:aY J x=some (.func j l C)):bf P L J ⟨d,.nilCheck x,aQ,a3,a2,a0⟩ (.func j l C):=λG K D _=>by
 simp[execOp,D.eval E];simp_all
def iE{C b o D n Q}[O:bk P T C (D,n+1,Q)](Y:aY J x=some (.pointer (some ⟨b,o,none⟩))):bf P L J ⟨d,.fieldAddr T x C,aQ,a3,a2,a0⟩ (.pointer (some ⟨b,o+D,none⟩)):=λae E W _=>by
 simp[execOp,W.eval Y];have h:=O.h;unfold wD at h;cases K:P.underlying T with
 |none=>simp_all
 |some R=>
  rw[K]at h;cases R<;>first|(cases h;done)|skip
  rename_i U
  cases G:U[C]? with
  |none=>simp_all
  |some j=>
   simp[G]at h;have Z:(sizeOf j.type).run P E=.ok (n+1) E/\j.offset=D:=by
    by_cases aa:il P j.type=true
    ·simp[aa,if_true,rD,rE]at h;exact⟨by rw[(dr.run ⟨aa⟩ E).2];grind,h.1⟩
    ·simp[aa]at h;cases I:P.info? j.type with
     |none=>simp_all
     |some ag=>
      simp[I]at h;exact⟨by simp[sizeOf,typeInfo,I,h.2.2.1],h.2.1⟩
   simp[Instr.fieldAt,run_underlying K,G,tf,fieldPlace,Z.1,je]
def ns{b o n I D K G Z j}[E:eo P T (K,D,G)](W:aY J x=some (.slice (some ⟨b,o,none⟩) n I))(Y:aY J y=some (.int Z j))(O:0<=j)(aa:j<n):
  bf P L J ⟨d,.indexAddr T x y,aQ,a3,a2,a0⟩ (.pointer (some ⟨b,o+j.toNat*D,none⟩)):=λae ak C _=>by
 obtain⟨U,ag,Q,R,_⟩:=E.spec;simp[execOp,C.eval W,C.eval Y];simp[G7,run_underlying U,asIntOf,O,aa,sizeOf,typeInfo,Q,R,je]
def hx{b o n I D j:Nat}{K G U}[E:eo P T (K,D,G)](O:aY J x=some (.slice (some ⟨b,o,none⟩) n I))(R:aY J y=some (.int U (j:Int)))(aa:j<n):
  bf P L J ⟨d,.indexAddr T x y,aQ,a3,a2,a0⟩ (.pointer (some ⟨b,o+j*D,none⟩)):=
 ns (E:=E) O R Q C
def dV{b o n D G W j}[E:lH P T (n,G,D)](R:aY J x=some (.pointer (some ⟨b,o,none⟩)))(U:aY J y=some (.int W j))(I:0<=j)(aa:j<n):
  bf P L J ⟨d,.indexAddr T x y,aQ,a3,a2,a0⟩ (.pointer (some ⟨b,o+j.toNat*D,none⟩)):=λY ae C _=>by
 obtain⟨Q,Z,K,O⟩:=E.spec;simp[execOp,C.eval R,C.eval U];simp[G7,run_underlying Q,asIntOf,I,aa,sizeOf,typeInfo,K,O,je,tf]
def d6{j}[D:dr P T](O:aY J x=some (.pointer (some j)))(G:aR L j v):bf P L J ⟨d,.load T x,aQ,a3,a2,a0⟩ v:=λQ C I K=>by
 simp[execOp,I.eval O];have E:C.cell? j=some v:=G.1 _ K;simp[G8,tf,loadVar,(D.run C).1,E]
structure aB (L:aG) (b o n:Nat) (C:cs):Prop where
 len:C.length=n
 get:∀(j:Nat) (v:Value),C[j]?=some v->aR L ⟨b,o+j,none⟩ v
def kq:List Value->Nat->Option (List Value)
 | _,0=>some []
 | [],_+1=>none
 |v::l,n+1=>match kq l n with
  |some j=>some (v::j)
  |none=>none
def lr:∀{l}{n}{j},kq l n=some j->j.length=n/\∀(D:Nat)(v),j[D]?=some v->l[D]?=some v
 | _,0,j,h=>by simp_all[kq]
 | [],_+1,_,h=>by cases h
 |u::l,n+1,j,h=>by
  simp[kq]at h;cases C:kq l n with
  |none=>simp_all
  |some E=>
   rw[C]at h;simp at h;obtain⟨aa,ab⟩:=lr C;grind
def oh:List Value->Nat->List Value
 |l,0=>l
 | [],_+1=>[]
 | _::l,n+1=>oh l n
theorem qE:∀(l)(n),oh l n=l.drop n
 |l,0=>by simp[oh]
 | [],n+1=>by rfl
 | _::l,n+1=>by simp[oh,qE l n]
theorem aB.ae{b o n:Nat}{j C:cs}(h:kq (oh j o) n=some C):aB (ae b T j::L) b o n C:=⟨(lr h).1,λE v D=>by
 have:=(lr h).2 E v D;rw[qE,tn]at this;exact aR.ae this⟩
theorem aB.skip{C b o n j}(h:aB L b o n j):aB (C::L) b o n j:=⟨h.1,λE v D=>(h.2 E v D).skip⟩
theorem EE{b o n C}(h:aB L b o n C){j}(E:G L j.hm):(loadCells ⟨b,o,none⟩ n).run P j=.ok C.toArray j:=by
 rw[<- h.1];exact run_loadCells_list j _ C λI v D=>by rw[je];exact(h.2 I v D).1 _ E
def er{b o n C}[j:gR P T n](K:aY J x=some (.pointer (some ⟨b,o,none⟩)))(E:aB L b o n C):bf P L J ⟨d,.load T x,aQ,a3,a2,a0⟩ (.agg C.toArray):=λO D G I=>by
 simp[execOp,G.eval K];simp[G8,tf,loadVar,(j.run D).1,(j.run D).2,EE E I]
def c7{b o n D}[C:gR P T n](E:aB L b o n D):∀j,G L j.hm->(loadVar T ⟨b,o,none⟩).run P j=.ok (.agg D.toArray) j:=λj I=>by
 simp[loadVar,(C.run j).1,(C.run j).2,EE E I]
def EF{C}[D:dr P T](I:aR L C v):∀j,G L j.hm->(loadVar T C).run P j=.ok v j:=λj K=>by
 have E:j.cell? C=some v:=I.1 _ K;simp[loadVar,(D.run j).1,E]
def Kw{j I}{D:cs}[K:bk P T j (I,1,false)](W:aY J x=some (.agg D.toArray))(U:D[I]?=some v):bf P L J ⟨d,.field T x j,aQ,a3,a2,a0⟩ v:=λZ Y R _=>by
 simp[execOp,R.eval W];have h:=K.h;unfold wD at h;cases G:P.underlying T with
 |none=>simp_all
 |some O=>
  rw[G]at h;cases O<;>first|(cases h;done)|skip
  rename_i Q
  cases E:Q[j]? with
  |none=>simp_all
  |some C=>
   simp[E]at h;have aa:il P C.type=true:=by
    by_cases aa:il P C.type=true
    ·omega
    ·cases ae:P.info? C.type with
     |none=>simp_all
     |some ag=>simp_all
   simp only[aa,if_true,rD,rE]at h;simp[G4,run_underlying G,E,asAgg,part,(dr.run ⟨aa⟩ Y).1,h.1,U]
def Kx{C D n j E}[O:bk P T C (D,n,true)](am:aY J x=some (.agg j.toArray))(al:kq (oh j D) n=some E):bf P L J ⟨d,.field T x C,aQ,a3,a2,a0⟩ (.agg E.toArray):=λap ao ak _=>by
 simp[execOp,ak.eval am];have h:=O.h;unfold wD at h;cases K:P.underlying T with
 |none=>simp_all
 |some Q=>
  rw[K]at h;cases Q<;>first|(cases h;done)|skip
  rename_i Y
  cases I:Y[C]? with
  |none=>simp_all
  |some G=>
   simp[I]at h
   by_cases aa:il P G.type=true
   ·simp_all
   ·simp[aa]at h;cases ag:P.info? G.type with
    |none=>simp_all
    |some av=>
     simp[ag]at h;obtain⟨ab,Z,ae⟩:=h;obtain⟨R,U⟩:=gR.run ⟨ab⟩ ao;obtain⟨ar,au⟩:=lr al;have W:List.take n (List.drop D j)=E:=by
      apply tj;grind[qE,List.getElem?_eq_none]
     simp[G4,run_underlying K,I,asAgg,part,R,U,Z,ae,W]
def wz{O n E C}[D:eo P T C](K:aY J x=some (.slice O n E)):bf P L J ⟨d,.call ⟨.builtin .len,#[x],#[T]⟩,aQ,a3,a2,a0⟩ (j n):=λQ U G _=>by
 obtain⟨R,s,b⟩:=C;obtain⟨I,_⟩:=D.spec;simp[execOp,resolve,fY,eS,G.eval K];simp[invoke,builtin,Builtin.len_,run_underlying I,goInt]
def KA{D q K}(G:aY J x=some (j D))(I:aY J y=some (j q)):bf P L J ⟨d,.call ⟨.builtin .min,#[x,y],K⟩,aQ,a3,a2,a0⟩ (j (min D q)):=λO Q E _=>by
 simp[execOp,resolve,fY,eS,E.eval G,E.eval I];have:(if q<D then q else D)=min D q:=C;simp[invoke,builtin,Builtin.min_,Builtin.min2,this]
def uu{D q K}(G:aY J x=some (j D))(I:aY J y=some (j q)):bf P L J ⟨d,.call ⟨.builtin .max,#[x,y],K⟩,aQ,a3,a2,a0⟩ (j (max D q)):=λO Q E _=>by
 simp[execOp,resolve,fY,eS,E.eval G,E.eval I];have:(if q>D then q else D)=max D q:=C;simp[invoke,builtin,Builtin.max_,Builtin.max2,this]
def ur{j}{C:cs}(G:aY J x=some (.tuple C.toArray))(E:C[j]?=some v):bf P L J ⟨d,.extract x j,aQ,a3,a2,a0⟩ v:=λI K D _=>by
 simp[execOp,D.eval G];simp[Instr.extract,E]
def kf(J:bW):List Operand->Option (List Value)
 | []=>some []
 |x::l=>match aY J x,kf J l with
  |some v,some j=>some (v::j)
  | _,_=>none
theorem mz{C}(E:eD J C):∀{l}{j},kf J l=some j->l.map C.eval=j
 | [],_,h=>kw h
 |x::l,j,h=>by
  simp[kf]at h;cases G:aY J x with
  |none=>simp_all
  |some v=>
   cases D:kf J l with
   |none=>simp_all
   |some I=>
    rw[G,D]at h;simp at h;rw[eS,E.eval G,mz E D];omega
def Ky{j D E G I}(aa:kf J D=some G)(ab:kf J E=some I):bf P L J ⟨d,.makeFunc j D.toArray E.toArray,aQ,a3,a2,a0⟩ (.func j G.toArray I.toArray):=λK O C _=>by
 simp[execOp,fY,mz C aa,mz C ab];rfl
def Y0{K E R I l h}(W:K=none/\l=0\/∃j,K=some (.int j l))(U:E=none/\h=R\/∃j,E=some (.int j h))(aa:l<=h)(ab:h<=I)(D):
  (mX true R I K E none).run P D=.ok (l,h,I) D:=by
 have Y:∀(j:IntKind) (G y:Nat) (O:BoundsCode),G<=y->(Hc _ y _).run P D=.ok G D:=λj G y O E=>by
  rw[run_sliceBound D j G y O Q C];rfl
 rcases W with ⟨rfl,rfl⟩|⟨j,rfl⟩<;>rcases U with ⟨rfl,rfl⟩|⟨Z,rfl⟩<;>simp[mX,Y,aa,ab]
def uv{C:TypeId}{Q W:Nat}{O:bA}{n I:Nat}{l h:Nat}{E D:Option Operand}[U:eo P T (C,Q,W)](ar:aY J x=some (.slice O n I))
  (am:E=none/\l=0\/∃y j,E=some y/\aY J y=some (.int j l)) (ak:D=none/\h=n\/∃y j,D=some y/\aY J y=some (.int j h)) (aa:l<=h) (ab:h<=I):
  bf P L J ⟨d,.slice T x E D none,aQ,a3,a2,a0⟩ (.slice (if I=l then O else O.map (·.add (l*Q))) (h-l) (I-l)):=λG R K _=>by
 obtain⟨ap,au,al,ao,_⟩:=U.spec;have Y:E.map G.eval=none/\l=0\/∃j,E.map G.eval=some (.int j l):=by
  rcases am with ⟨rfl,rfl⟩|⟨y,j,rfl,C⟩
  ·simp
  ·exact .inr ⟨j,by simp[K.eval C]⟩
 have Z:D.map G.eval=none/\h=n\/∃j,D.map G.eval=some (.int j h):=by
  rcases ak with ⟨rfl,rfl⟩|⟨y,j,rfl,C⟩
  ·simp
  ·exact .inr ⟨j,by simp[K.eval C]⟩
 simp[execOp,K.eval ar];have ae:=Y0 (P:=P) Y Z aa ab R;have ag:(sizeOf C).run P R=.ok Q R:=by simp[sizeOf,typeInfo,al,ao]
 simp only[vr,Hb,cg,run_underlying ap,db,ae,ag,Option.map_none];rfl
def h5{D G O j n C}{h:Nat}{E}[I:eo P T (D,G,O)](U:aY J x=some (.slice j n C))(W:aY J y=some (.int E h))(ab:h<=C):
  bf P L J ⟨d,.slice T x none (some y) none,aQ,a3,a2,a0⟩ (.slice j h C):=λK Y Q R=>by
 have:=uv (U:=I) (d:=d) (aQ:=aQ) (a3:=a3) (a2:=a2) (a0:=a0) U (.inl ⟨rfl,rfl⟩) (.inr ⟨y,E,rfl,W⟩) (bu _) ab K Y Q R;rw[this];have D:(if C=0 then j else j.map (·.add (0*G)))=j:=by
  split
  ·rfl
  ·rw[Nat.zero_mul];cases j<;>simp[Addr.add]
 simp_all
def ga{K D I b o n j}{l:Nat}{C}[E:eo P T (K,D,I)](R:aY J x=some (.slice (some ⟨b,o,none⟩) n j))(U:aY J y=some (.int C l))(aa:l<=n)(ab:n<=j):
  bf P L J ⟨d,.slice T x (some y) none none,aQ,a3,a2,a0⟩ (.slice (some ⟨b,(if j=l then o else o+l*D),none⟩) (n-l) (j-l)):=λG W O Q=>by
 have:=uv (U:=E) (d:=d) (aQ:=aQ) (a3:=a3) (a2:=a2) (a0:=a0) R (.inr ⟨y,C,rfl,U⟩) (.inl ⟨rfl,rfl⟩) aa ab G W O Q;rw[this];split<;>simp[je]
def TR{O E K b o n j}{l h:Nat}{z C D}[G:eo P T (O,E,K)](U:aY J x=some (.slice (some ⟨b,o,none⟩) n j))(W:aY J y=some (.int C l))(Y:aY J z=some (.int D h))(aa:l<=h)(ab:h<=j):
  bf P L J ⟨d,.slice T x (some y) (some z) none,aQ,a3,a2,a0⟩ (.slice (some ⟨b,(if j=l then o else o+l*E),none⟩) (h-l) (j-l)):=λI Z Q R=>by
 have:=uv (U:=G) (d:=d) (aQ:=aQ) (a3:=a3) (a2:=a2) (a0:=a0) U (.inr ⟨y,C,rfl,W⟩) (.inr ⟨z,D,rfl,Y⟩) aa ab I Z Q R;rw[this];split<;>simp[je]
def ej:List Value->Nat->List Value->List Value
 | [],_,_=>[]
 |c::j,_,[]=>c::j
 | _::j,0,v::C=>v::ej j 0 C
 |c::j,D+1,v::C=>c::ej j D (v::C)
theorem rg(j C):ej j C []=j:=by cases j<;>rfl
theorem Bb(E j):∀(C)(D),ej (E::C) (D+1) j=E::ej C D j:=by
 intro C D;cases j with
 |nil=>rw[rg,rg]
 |cons v j=>rfl
theorem xI:∀(C)(D)(v)(j),ej C D (v::j)=ej (C.set D v) (D+1) j
 | [],_,_,j=>by rfl
 |c::C,0,v,j=>(Bb v j C 0).symm
 |c::C,D+1,v,j=>by
  rw[List.set_cons_succ,Bb,Bb,xI C D v j]
def ee:Value->List Value
 | .agg j=>j.toList
 |v=>[v]
theorem rZ(v):v.cells=(ee v).toArray:=by cases v<;>simp[Hm,ee]
def lV(D:Nat->Option (Nat×Nat)):List Value->List (Nat×Value)->Option (List Value)
 |j,[]=>some j
 |j,(E,v)::G=>match D E with
  |none=>none
  |some (C,I)=>bif aA (ee v).length I&&cN (C+(ee v).length) j.length then lV D (ej j C (ee v)) G else none
theorem T9(j):∀(D E)(C),(j.zipIdx D).foldl (λ(I:Array Value) (G:Value×Nat)=>I.setIfInBounds (E+G.2) G.1) C.toArray=(ej C (E+D) j).toArray:=by
 induction j with
 |nil=>simp[rg]
 |cons v j K=>
  intro D E C;simp[List.zipIdx_cons,List.foldl_cons,xI,List.setIfInBounds_toArray];exact K _ _ _
theorem wE{D}:∀{G}{j C},lV D j G=some C->G5 D j.toArray G=some C.toArray
 | [],j,C,h=>by simp[lV]at h;subst h;rfl
 |(K,v)::Q,j,C,h=>by
  simp[lV]at h;unfold G5;cases I:D K with
  |none=>simp_all
  |some q=>
   obtain⟨O,R⟩:=q;rw[I]at h;simp at h;cases E:(aA (ee v).length R&&cN (O+(ee v).length) j.length)with
   |false=>simp_all
   |true=>
    rw[E]at h;simp only[bL]at E;have aa:=bV E.1;simp only[rZ,aa];rw[if_neg (by simp_all)];have U:=wE (by assumption:lV D _ Q=some C);simp_all[T9,rC]
def nr(J:bW):List (Nat×Operand)->Option (List (Nat×Value))
 | []=>some []
 |(j,x)::l=>match aY J x,nr J l with
  |some v,some C=>some ((j,v)::C)
  | _,_=>none
theorem wx{C}(E:eD J C):∀{l}{j},nr J l=some j->l.map (λI=>(I.1,C.eval I.2))=j
 | [],_,h=>kw h
 |(K,x)::l,j,h=>by
  simp[nr]at h;cases G:aY J x with
  |none=>simp_all
  |some v=>
   cases D:nr J l with
   |none=>simp_all
   |some O=>
    rw[G,D]at h;simp at h;rw[eS,E.eval G,wx E D];omega
def Dz{G:List (Nat×Nat)}{z C:cs}{E:List (Nat×Operand)}{j:List (Nat×Value)}[K:ey P T G][O:cy P T z](ap:nr J E=some j)(ao:lV (G[·]?) z j=some C):
  bf P L J ⟨d,.build T E.toArray,aQ,a3,a2,a0⟩ (.agg C.toArray):=λQ ag ar _=>by
 have ak:(E.toArray.map λ(D,x)=>(D,Q.eval x))=j.toArray:=by grind[wx]
 simp[execOp];have U:P.built T j=some C.toArray:=by
  have h:=K.h;have I:=O.h;unfold fieldsOf at h;cases Z:P.underlying T with
  |none=>simp_all
  |some R=>
   rw[Z]at h;cases R<;>first|(cases h;done)|skip
   rename_i am
   cases W:P.info? T with
   |none=>simp_all
   |some D=>
    cases Y:D.zero with
    |none=>simp_all
    |some ae=>
     rw[W]at I;simp[Y]at I;simp[Hj,h];have al:ae.cells=z.toArray:=by grind
     simp_all[wE]
 have:=run_build ag T _ _ U;simp_all
def Kv{n G R z D E C}[K:lH P T (n,R,G)][O:cy P T z](ap:nr J E=some C)(am:lV (λj=>some (j*G,G)) z C=some D):
  bf P L J ⟨d,.build T E.toArray,aQ,a3,a2,a0⟩ (.agg D.toArray):=λQ ag ar _=>by
 have ak:(E.toArray.map λ(j,x)=>(j,Q.eval x))=C.toArray:=by grind[wx]
 simp[execOp];have U:P.built T C=some D.toArray:=by
  obtain⟨au,av,ao,Z⟩:=K.spec;have I:=O.h;cases W:P.info? T with
  |none=>simp_all
  |some j=>
   cases Y:j.zero with
   |none=>simp_all
   |some ae=>
    rw[W]at I;simp[Y]at I;simp[Hj,Z];have al:ae.cells=z.toArray:=by grind
    simp_all[wE]
 have:=run_build ag T _ _ U;simp_all
end
section
variable{P:Program}{g:c0}{L:aG}{J:bW}{d:Option Nat}{aQ T cE:TypeId}{a3:String}{a2:Array Edge}{a0:Option (Nat×Bool)}{x y z:Operand}{v u:Value}
theorem WM(T)(C:cs)(j):(newRow T C.toArray).run P j=.ok ⟨j.heap.size,0,none⟩ (j.alloc (.cells C.toArray T (0,0))):=by rfl
def wo(G:aY J x=some v):cc P g L J ⟨d,.box T x,aQ,a3,a2,a0⟩ λI j=>∃b,I=(R b)/\j=ae b T (ee v)::L:=λQ U D E K O C=>by
 unfold dv;simp[execOp,D.eval G,Instr.box,newVar,rZ,eJ];exact C _ _ _ ⟨_,rfl,rfl⟩ (E.alloc T _)
def r2{j}[C:cy P T j]:cc P g L J ⟨d,.alloc T,aQ,a3,a2,a0⟩ λO D=>∃b,O=(R b)/\D=ae b T j::L:=λY Q Z K U W I=>by
 obtain⟨v,E,G⟩:=C.run Q;unfold dv;simp[execOp,Instr.alloc,newVar,G,cg,E,db];exact I _ _ _ ⟨_,rfl,rfl⟩ (K.alloc T _)
def Do{D j ar n E I G R}[al:eo P T (D,j,ar)][am:cy P D E](aH:n=0/\I=[]/\G=[]\/n=1/\E.length=j/\0<j/\j<=1000/\nr J G=some R/\lV (λK=>some (K*j,j)) E R=some I):
  cc P g L J ⟨d,.buildSlice T n G.toArray,aQ,a3,a2,a0⟩ λaK ao=>∃b,aK=.slice (ak b) n n/\ao=ae b D I::L:=λap U aV ag aL aO Y=>by
 obtain⟨Z,aX,aE,aI,_⟩:=al.spec;have W:(sizeOf D).run P U=.ok j U:=by simp[sizeOf,typeInfo,aE,aI]
 unfold dv;rcases aH with ⟨rfl,rfl,rfl⟩|⟨rfl,aW,aP,aa,aS,aC⟩
 ·have ay:∀(q:Array Value),(Bx (0*j)).map (λO=>q[O % q.size]!)=[].toArray:=λq=>by
   simp
  simp only[execOp,BD,cg,run_underlying Z,db,W];rw[if_neg Q];simp only[cg,eJ,db];rw[if_pos Q];simp only[cg,eJ,db,ay,fY,WM];exact Y _ _ _ ⟨_,rfl,rfl⟩ (ag.alloc D [])
 ·have au:(G.toArray.map λ(K,x)=>(K,ap.eval x))=R.toArray:=by grind[wx]
  obtain⟨v,av,aw⟩:=am.run U;have ax:(Bx (1*j)).map (λO=>E.toArray[O % E.toArray.size]!)=E.toArray:=by
   grind[Nat.mod_eq_of_lt]
  simp only[execOp,BD,cg,run_underlying Z,db,W,au];rw[if_neg C];rw[if_neg C];simp only[cg,av,db,eJ,aw,ax,wE aC];exact Y _ _ _ ⟨_,rfl,rfl⟩ (ag.alloc D _)
def e8{D j Q E G I K}[Z:eo P T (D,j,Q)][ag:cy P D E](C:(aA E.length j&&cN 1 j&&cN j 1000)=true)(U:nr J I=some K)(R:lV (λW=>some (W*j,j)) E K=some G):
  cc P g L J ⟨d,.buildSlice T 1 I.toArray,aQ,a3,a2,a0⟩ λY O=>∃b,Y=.slice (ak b) 1 1/\O=ae b D G::L:=by
 simp only[bL]at C;exact Do (.inr ⟨rfl,bV C.1.1,eT C.1.2,eT C.2,U,R⟩)
inductive h3 (b:Nat) (j:Nat) (C:cs):List aO->List aO->Prop where
 |here {T:TypeId} {D:cs} {L:aG} (h:Nat.ble (j+C.length) D.length=true):h3 b j C (ae b T D::L) (ae b T (ej D j C)::L)
 |skip {E:aO} {L G:aG} (h:h3 b j C L G):h3 b j C (E::L) (E::G)
theorem vc:∀(D)(j)(C),(ej j C D).length=j.length
 | [],j,C=>by rw[rg]
 |v::D,j,C=>by simp[xI,vc D]
def h3.front{b C D L E}(h:h3 b C D L E):∃T j M,C+D.length<=j.length/\L.Perm (ae b T j::M)/\E.Perm (ae b T (ej j C D)::M):=by
 induction h with
 |here h=>exact⟨_,_,_,eT h,.refl _,.refl _⟩
 |skip _ G=>
  obtain⟨T,j,M,h,I,q⟩:=G;exact⟨T,j,_::M,h,(I.cons _).trans (.swap _ _ _),(q.cons _).trans (.swap _ _ _)⟩
def oH:Value->Bool
 | .agg _=>false
 | .tuple _=>false
 | _=>true
def Zi{C j v D}(I:oH v=true)(E:C.cell? j=some D)(G:C.frozen? j=false):(store j v).run P C=.ok () (C.setCell j v):=by cases v<;>first|(cases I;done)|simp[store,Sem.run,E,G]
def rl{g b T M}:∀(E)(o j)(D)(C),(∀v∈E,oH v=true)->o+j+E.length<=D.length->a4 g (ae b T D::M) C->
  ∃I,(storeCells ⟨b,o,none⟩ E j).run P C=.ok () I/\a4 g (ae b T (ej D (o+j) E)::M) I
 | [],o,j,D,C,_,_,G=>⟨C,by rfl,by rw[rg];omega⟩
 |v::E,o,j,D,C,aa,U,G=>by
  simp[fc]at U;have R:C.cell? ⟨b,o+j,none⟩=some D[o+j]:=G.cell (aR.ae Q);have K:=Zi (P:=P) (aa v Q) R G.Sb;obtain⟨I,O,ab⟩:=rl E o (j+1) _ (C.setCell ⟨b,o+j,none⟩ v) (λu W=>aa u (by simp_all)) (by grind) (G.store v);exact⟨I,by simp[storeCells,cg,je,K,db,O],by rw[xI];omega⟩
def iW:List Value->Bool
 | []=>true
 |v::l=>oH v&&iW l
def yN:∀{l},iW l=true->∀v∈l,oH v=true
 | [],_,v,j=>by trivial
 |u::l,h,v,j=>by
  simp[iW,bL]at h;rcases cQ.1 j with rfl|j
  ·simp_all
  ·exact yN h.2 v j
def c5{b o j}[I:dr P T](ae:aY J x=some (.pointer (some ⟨b,o,none⟩)))(ag:aY J y=some v)(av:oH v=true)(W:h3 b o [v] L j):
  cc P g L J ⟨d,.store T x y,aQ,a3,a2,a0⟩ λal M=>al=undef/\M=j:=λar E D Y ao ap R=>by
 obtain⟨am,K,M,au,ak,q⟩:=W.front;have Z:=Y.mono λ_=>G.perm ak;obtain⟨aw,O,ab⟩:=rl (P:=P) [v] o 0 K E (by simp_all) C Z;have U:v.cells= #[v]:=by cases v<;>first|rfl|trivial
 unfold dv;simp only[execOp,D.eval ae,D.eval ag,Hd,tf,storeVar,cg,eJ,db,(I.run E).2,U];rw[if_neg Q];simp[O];exact R _ _ _ ⟨rfl,rfl⟩ (ab.mono λ_=>G.perm q.symm)
def f1{b o n j D}[K:gR P T n](ag:aY J x=some (.pointer (some ⟨b,o,none⟩)))(ak:aY J y=some (.agg j.toArray))(U:aA j.length n=true)(Y:iW j=true)(W:h3 b o j L D):
  cc P g L J ⟨d,.store T x y,aQ,a3,a2,a0⟩ λam M=>am=undef/\M=D:=λau I E Z ap ar R=>by
 obtain⟨ao,O,M,aw,al,q⟩:=W.front;have ae:=Z.mono λ_=>G.perm al;obtain⟨ax,Q,ab⟩:=rl (P:=P) j o 0 O I (yN Y) C ae;have av:=bV U;unfold dv;simp only[execOp,E.eval ag,E.eval ak,Hd,tf,storeVar,cg,eJ,db,(K.run I).2,Hm];rw[if_neg (by simp_all)];simp[Q];exact R _ _ _ ⟨rfl,rfl⟩ (ab.mono λ_=>G.perm q.symm)
def y8{G args post j}(h:D P G args L post)(I:a4 g L j):Calls P G args j λE K=>∃v C,E=.returned v/\post v C/\a4 g C K:=by
 have aa:a4 g ((λ_=>True)::L) j:=⟨I.g,λ_=>none,j.hm,λ_=> .inl p,λ_ _ E=>(by grind),d7.refl _,trivial,I.s⟩;exact(h g _ j aa).mono λE K ⟨v,C,O,Q,q⟩=>⟨v,C,O,Q,q.mono λ_ s=>s.tail⟩
def aw{j E G args post}[I:b4 P j](Q:kf J E=some args)(h:D P j args.toArray L post):
  cc P g L J ⟨d,.call ⟨.value (.func j),E.toArray,G⟩,aQ,a3,a2,a0⟩ post:=λK C R U W Y ae=>by
 unfold dv;have O:(execOp K.eval ⟨d,.call ⟨.value (.func j),E.toArray,G⟩,aQ,a3,a2,a0⟩).run P C=.ok (.enter j args.toArray) C:=by
  show(callFunc j _).run P C= _;rw[fY,mz R Q];simpa using I.run _ C
 rw[O];refine(y8 h U).mono λZ ak ag=> ?_;grind
def eV{j q C E I Q args post}[R:b4 P j](K:aY J q=some (.func (.func j) C.toArray E.toArray))(Y:kf J I=some args)(h:D P j (C++args++E).toArray L post):
  cc P g L J ⟨d,.call ⟨.value q,I.toArray,Q⟩,aQ,a3,a2,a0⟩ post:=λU G O Z ae ag al=>by
 unfold dv;have W:(execOp U.eval ⟨d,.call ⟨.value q,I.toArray,Q⟩,aQ,a3,a2,a0⟩).run P G=.ok (.enter j (C++args++E).toArray) G:=by
  simp[execOp,resolve,O.eval K,lx,invoke,fY,mz O Y];simpa using R.run _ G
 rw[W];refine(y8 h Z).mono λak am K=> ?_;grind
end
structure aM (E:aG) (G:Nat) (D:bA) (n:Nat) (C:cs):Prop where
 len:C.length=n*G
 get:0<n->∃b o,D=some ⟨b,o,none⟩/\∀(j:Nat) (v:Value),C[j]?=some v->aR E ⟨b,o+j,none⟩ v
theorem aM.skip{G C D n j E}(h:aM C D j n E):aM (G::C) D j n E:=
 ⟨h.1,λO=>let ⟨b,o,I,J⟩:=h.2 O;⟨b,o,I,λQ v K=>(J Q v K).skip⟩⟩
def aM.bE{N C D n j E}(h:aM C D j n E):aM (N++C) D j n E:=by
 induction N with
 |nil=>exact h
 |cons I N G=>exact G.skip
theorem aB.part{j b o n G I}(h:aB j b o n G)(E)(C:kq G E=some I):aB j b o E I:=
 ⟨(lr C).1,λD v J=>h.2 D v ((lr C).2 D v J)⟩
theorem aB.at_{j b o n i C v}(h:aB j b o n C)(D:C[i]?=some v):aR j ⟨b,o+i,none⟩ v:=h.2 i v D
class e5 (C:Type)where
 dP:Nat
 nq:C->List Value
 len:∀j,(nq j).length=dP
 one:∀j,∀v∈nq j,v.oneCell'=true
def flat{j:Type}[e5 j](l:List j):List Value:=l.flatMap e5.nq
instance:e5 Int:=⟨1,λn=>[j n],λ_=>rfl,λ_ v h=>by simp at h;subst h;rfl⟩
section
variable{α:Type}[gv:e5 α]
theorem KU:flat ([]:List α)=[]:=rfl
theorem jo(j)(l:List α):flat (j::l)=e5.nq j++flat l:=by rfl
theorem fI(l j:List α):flat (l++j)=flat l++flat j:=by simp[flat]
theorem bU:∀(l:List α),(flat l).length=l.length*gv.dP
 | []=>by simp[flat]
 |a::l=>by rw[jo,bP,e5.len,bU l,fc,md];omega
def KR:∀{l}{D}{j},l[D]?=some j->∀(C)(v),(gv.nq j)[C]?=some v->(flat l)[D*gv.dP+C]?=some v
 | [],D,j,h,_,_,_=>by trivial
 |b::l,0,j,h,C,v,E=>by
  simp at h;have:=(List.getElem?_eq_some_iff.1 E).1;simp_all[jo,List.getElem?_append_left]
 |b::l,D+1,j,h,C,v,E=>by
  have G:=KR (D:=D) (by assumption) C v E;grind[jo,e5.len]
theorem cO(l:List α):∀v∈flat l,v.oneCell'=true:=by
 intro v D;obtain⟨j,_,C⟩:=vB.1 D;exact e5.one j v C
theorem wG(l:List α)(j):flat (l.take j)=(flat l).take (j*gv.dP):=by
 induction l generalizing j with
 |nil=>simp[flat]
 |cons C l D=>
  cases j with
  |zero=>simp[flat]
  |succ j=>
   simp_all[jo,md,H2,e5.len,List.take_of_length_le]
theorem wF(l:List α)(j):flat (l.drop j)=(flat l).drop (j*gv.dP):=by
 induction l generalizing j with
 |nil=>simp[flat]
 |cons C l D=>
  cases j with
  |zero=>simp
  |succ j=>
   simp_all[jo,md,List.drop_append,e5.len,List.nil_append]
def Rd(C:aG)(j:bA)(n:Nat)(l:List α):Prop:=aM C gv.dP j n (flat l)
theorem Rd.len{C j n}{l:List α}(D:0<gv.dP)(h:Rd C j n l):l.length=n:=by
 have:=h.1;rw[bU]at this;grind[Nat.eq_of_mul_eq_mul_right]
theorem Rd.skip{D C j n}{l:List α}(h:Rd C j n l):Rd (D::C) j n l:=aM.skip h
def Rd.bE{N C j n}{l:List α}(h:Rd C j n l):Rd (N++C) j n l:=aM.bE h
theorem Rd.at_{E D n l}(h:Rd E D n l)(O:0<n):∃b o,D=some ⟨b,o,none⟩/\∀C j,l[C]?=some j->aB E b (o+C*gv.dP) gv.dP (gv.nq j):=by
 obtain⟨b,o,G,I⟩:=h.2 O;exact⟨b,o,G,λC j K=>⟨e5.len j,λQ v J=>by rw[BW];exact I _ _ (KR K Q v J)⟩⟩
theorem Rd.nil(C j):Rd C j 0 ([]:List α):=⟨by simp[flat],λh=>absurd h (Nat.lt_irrefl 0)⟩
theorem Rd.take{D j n}{l:List α}(h:Rd D j n l){k}(O:k<=n):Rd D j k (l.take k):=by
 refine⟨by rw[wG,lB,h.1];simp_all,λK=> ?_⟩;obtain⟨b,o,E,G⟩:=h.2 C;refine⟨b,o,E,λJ v I=>G J v ?_⟩;rw[wG,BO]at I;simp_all
theorem Rd.drop{j b o n}{l:List α}(h:Rd j (some ⟨b,o,none⟩) n l){k c}(O:k<=n)(K:n<=c):Rd j (some ⟨b,(if c=k then o else o+k*gv.dP),none⟩) (n-k) (l.drop k):=by
 refine⟨by rw[wF,vz,h.1,B0],λJ=> ?_⟩;obtain⟨I,R,E,G⟩:=h.2 C;obtain⟨rfl,rfl⟩:=E;refine⟨b,o+k*gv.dP,by grind,λQ v D=> ?_⟩;rw[wF,tn]at D;rw[BW];exact G _ _ D
end
structure own (I:TypeId) (D:Nat) (E:bA) (n j:Nat) (G:cs) (h:iV):Prop where
 len:G.length=n*D
 le:n<=j
 cap:j<=maxLen
 de:(E=none/\n=0/\j=0)\/∃b C,E=(ak b)/\h b=some (.cells C I (0,0))/\C.size=j*D/\C.toList.take (n*D)=G
def own.facts{I D n j:Nat}{C E L h}(s:G (own I D C n j E::L) h):E.length=n*D/\n<=j/\j<=maxLen/\((C=none/\n=0/\j=0)\/∃b,C=(ak b)):=by
 obtain⟨aa,ab,R,U,W,⟨J,K,O,Q⟩,l⟩:=s;grind
theorem aR.own{L:aG}{I R n G b C:Nat}{D:cs}{v:Value}(j:D[C]?=some v):aR (own I R (ak b) n G D::L) ⟨b,C,none⟩ v:=by
 constructor;rintro h ⟨aa,ab,ag,Q,am,⟨U,W,Y,E⟩,l⟩;rcases E with ⟨J,_⟩|⟨Z,ae,J,K,al,O⟩
 ·trivial
 ·have:=Q _ _ K;rw[<- O,BO]at j;split at j
  ·simp[hw];simp_all
  trivial
theorem aM.own{L:aG}{j D n G:Nat}{C:bA}{E:cs}(K:E.length=n*D)(I:0<n->∃b,C=(ak b)):aM (own j D C n G E::L) D C n E:=
 ⟨K,λO=>let ⟨b,j⟩:=I O;⟨b,0,j,λQ v J=>by subst j;rw[iQ];exact aR.own J⟩⟩
theorem aM.ae{L:aG}{D C b n:Nat}{j:cs}(G:aA j.length (n*C)=true):aM (ae b D j::L) C (ak b) n j:=
 ⟨bV G,λ_=>⟨b,0,rfl,λI v E=>by rw[iQ];exact aR.ae E⟩⟩
def cS{C:cs}(h:C.all (λj=>j.oneCell')=true):∀j∈C,j.oneCell'=true:=by simp_all
theorem gm{j:Type}[e5 j](l:List j)(C:j):flat l++e5.nq C=flat (l++[C]):=by rw[fI,jo,KU,List.append_nil]
def own.nil_{j}(C D:Nat):∀h,G j h->G (own C D none 0 0 []::j) h:=λh s=>
 ⟨λ_=>none,h,λ_=> .inl p,λ_ _ C=>(by grind),d7.refl _,⟨Q,bv _,bu _,.inl ⟨rfl,rfl,rfl⟩⟩,s⟩
def own.Xm{D E b n:Nat}{j}(G:j.length=n*E)(I:n<=maxLen):∀h,ae b D j h->own D E (some ⟨b,0,.none⟩) n n j h:=λh J=>
 ⟨G,bv _,I,.inr ⟨b,j.toArray,rfl,J.eq,C,by grind⟩⟩
inductive aN (C:aO):List aO->List aO->Prop where
 |here {j:aG}:aN C (C::j) j
 |skip {E:aO} {j D:aG} (h:aN C j D):aN C (E::j) (E::D)
theorem aN.perm{C j M}(h:aN C j M):j.Perm (C::M):=by
 induction h with
 |here=>rfl
 |skip _ D=>exact(D.cons _).trans (.swap _ _ _)
def r4{j C M}(D:∀h,G C h->G M h):∀h,G (j++C) h->G M h:=by
 induction j with
 |nil=>exact D
 |cons I j E=>exact λh s=>E h s.tail
def bo{j}:∀h,G j h->G j h:=λ_ s=>s
def zu{b D E I j M C}(h:aN (ae b D E) j M)(J:E=I)(K:∀h,G M h->G C h):∀h,G j h->G (ae b D I::C) h:=λ_ s=>J▸(s.perm h.perm).ep K
def r5{I J n E:Nat}{j K O C M D}(h:aN (own I J j n E K) C M)(Q:K=O)(R:∀h,G M h->G D h):∀h,G C h->G (own I J j n E O::D) h:=λ_ s=>Q▸(s.perm h.perm).ep R
def bR{D j M C}(h:aN D j M)(E:∀h,G M h->G C h):∀h,G j h->G (D::C) h:=λ_ s=>(s.perm h.perm).ep E
section
variable{P:Program}{g:c0}{L M:aG}{J:bW}{d:Option Nat}{aQ T cE:TypeId}{a3:String}{a2:Array Edge}{a0:Option (Nat×Bool)}{x y z:Operand}{v u:Value}
def eo.zero{C G E:Nat}{I}(K:eo P T (C,G,E))(O:cy P C I):∃j D,P.underlying T=some (.slice C)/\P.info? C=some j/\j.size=G/\j.bytes=E/\j.zero=some D/\D.cells.size=I.length:=by
 obtain⟨U,j,Q,aa,ab⟩:=K.spec;have W:=O.h;cases R:j.zero with
 |none=>simp_all
 |some D=>grind
def bx{D W av n I E q:Nat}{R au ag ao bm}[bp:eo P T (D,W,av)][bq:cy P D bm](bT:aY J x=some (.slice R n I))(bU:aY J y=some (.slice au E q))
  (bO:aN (own D W R n I ag) L M) (aP:aM L W au E ao) (aa:∀u∈ao,u.oneCell'=true) (bY:aA bm.length W=true) (aZ:0<W) (a6:(n+E)*av<=140737488355328) (ca:n+E<=140737488355328):
  cc P g L J ⟨d,.call ⟨.builtin .append,#[x,y],#[T,T]⟩,aQ,a3,a2,a0⟩ λb5 bt=>∃aE aw,b5=.slice aE (n+E) aw/\n+E<=aw/\aw<=maxLen/\(0<n+E->∃b,aE=(ak b))/\bt=own D W aE (n+E) aw (ag++ao)::M:=λaV U bd bf bs b7 a5=>by
 obtain⟨bj,bn,am,ay,be,a7,a9,bi⟩:=bp.zero bq;have bh:=bV bY;have bg:a4 g (own D W R n I ag::M) U:=bf.mono λ_=>G.perm bO.perm;obtain⟨ce,aC,bB,b6,bl,⟨b3,bk,b4,aS⟩,l⟩:=bg.s;have bc:U.ownsRow 0 D W (.slice R n I) n ag:=by
  refine⟨b3,?_⟩;rcases aS with ⟨rfl,rfl,rfl⟩|⟨b,Z,rfl,aW,bE,bF⟩
  ·simp
  ·exact .inr ⟨b,I,Z,rfl,bu _,b6 _ _ aW,bk,b4,bE,bF⟩
 have aI:∀K O,O.ownsRow 0 D W K (n+E) (ag++ao)->U.grownBy O (Value.slice R n I).ownBlock->(K.ownBlock=(Value.slice R n I).ownBlock\/K.ownBlock=some U.heap.size)->(K=.slice none 0 0->n+E=0)->bs (aV.put d K) O:=by
  intro K O bN ax b9 cb;have aO:∀j o,aC j=some o->O.hm j=some o/\some j≠K.ownBlock:=λj o ba=>by
   have bJ:j<U.heap.size:=by
    have:=bl _ _ ba;rcases eC j U.heap.size with aX|aX
    ·omega
    ·simp[World.hm,oR aX]at this
   have bM:some j≠(Value.slice R n I).ownBlock:=by
    intro Y;rcases aS with ⟨rfl,_⟩|⟨b,Z,rfl,aW,_⟩
    ·trivial
    ·simp[Value.ownBlock]at Y;subst Y;rcases bB j with ae|ae
     ·simp_all
     simp_all
   refine⟨by show O.heap[j]?= _;rw[ax.block j bJ bM];exact bl _ _ ba,λY=> ?_⟩;simp_all
  obtain⟨b0,b1⟩:=bN;have a8:pB O=g.base:=by
   have:=bg.g;rw[<- this];simp[pB,ax.os,ax.tape,ax.output]
  rcases b1 with ⟨rfl,bb⟩|⟨b,bA,Z,rfl,_,b8,ab,al,ap,ar⟩
  ·have bC:=bb;rw[<- bb];refine a5 _ _ _ ⟨none,0,by grind,C,bu _,λae=>absurd ae C,rfl⟩ ⟨a8,λ_=>none,aC,λ_=> .inl p,λ_ _ D=>(by grind),λj o h=>(aO j o h).1,⟨C,C,bu _,.inl ⟨rfl,bC,rfl⟩⟩,l⟩
  ·refine a5 _ _ _ ⟨(ak b),bA,rfl,ab,al,λ_=>⟨b,rfl⟩,rfl⟩ ⟨a8,λj=>if j=b then some (.cells Z D (0,0))else none,aC,λj=> ?_,λj o D=> ?_,λj o h=>(aO j o h).1,⟨b0,ab,al,.inr ⟨b,Z,rfl,Q,ap,ar⟩⟩,l⟩
   ·by_cases aL:j=b
    ·right;cases ae:aC j with
     |none=>rfl
     |some o=>exact absurd (by rw[aL];rfl) (aO j o ae).2
    simp_all
   ·replace D:(if j=b then some (Obj.cells Z _ (0,0))else none)=some o:=D
    by_cases aL:j=b
    ·subst aL;rw[if_pos p]at D;rw[<- D];trivial
    simp_all
 have a1:n+E<=maxLen:=by simp only[maxLen];omega
 unfold dv;have aH:∀K O,(kV #[T,T] aQ #[.slice R n I,.slice au E q]).run P U=.ok K O->(execOp aV.eval ⟨d,.call ⟨.builtin .append,#[x,y],#[T,T]⟩,aQ,a3,a2,a0⟩).run P U=.ok (.value K) O:=by
  intro K O ae;simp only[execOp,resolve,fY,eS,lC,bd.eval bT,bd.eval bU];simp only[cg,eJ,db,invoke,builtin,ae]
 rcases g9 E with rfl|bK
 ·have bX:ao=[]:=List.eq_nil_of_length_eq_zero (by simpa using aP.1);subst bX;rcases au with _|bz
  ·have bQ:(kV #[T,T] aQ #[.slice R n I,.slice none 0 q]).run P U=.ok (.slice R n I) U:=by
    rcases aS with ⟨rfl,rfl,rfl⟩|⟨b,Z,rfl,_⟩
    ·simp[kV,run_underlying am,sizeOf,typeInfo,ay,rx,rv]
    ·simp[kV,run_underlying am,sizeOf,typeInfo,ay,rx,rv,bk,storeCells]
   rw[aH _ _ bQ];refine aI _ _ (by simp_all) ⟨rfl,rfl,rfl,bv _,λ_ _ _=>rfl⟩ (.inl p) λY=> ?_;simp only[tg]at Y;omega
  ·obtain⟨K,O,ab,al,ap,ar,aK⟩:=run_append_own_at (P:=P) U 0 T aQ D bj bn W av am ay a9 be a7 (by rw[bi,bh]) aZ (.slice R n I) n ag bc bz 0 q [] Q Q Q a1 a6 (bu _);rw[aH _ _ ab];refine aI _ _ al ap aK λY=> ?_;have:=ar.1 Y;simp only[tg]at this;omega
 ·obtain⟨b,o,rfl,bI⟩:=aP.2 bK;obtain⟨K,O,ab,al,ap,ar,aK⟩:=run_append_own_at (P:=P) U 0 T aQ D bj bn W av am ay a9 be a7 (by rw[bi,bh]) aZ (.slice R n I) n ag bc ⟨b,o,none⟩ E q ao aP.1 (λbZ u am=>by
   rw[je];exact(bI bZ u am).1 _ bf.s) aa a1 a6 (bu _)
  rw[aH _ _ ab];refine aI _ _ al ap aK λY=> ?_;have:=ar.1 Y;simp only[tg]at this;omega
def jS{j I R:Nat}{ao}[ap:eo P T (j,I,R)][ar:cy P j ao]:cc P g L J ⟨d,.buildSlice T 0 #[],aQ,a3,a2,a0⟩ λZ D=>∃b,Z=.slice (ak b) 0 0/\D=own j I (ak b) 0 0 []::L:=λC al W Y K O U=>by
 refine Do (R:=[]) (.inl ⟨rfl,rfl,rfl⟩) C al W Y K O λv am D ⟨b,aa,ab⟩ E=> ?_;subst ab;exact U v am _ ⟨b,aa,rfl⟩ ⟨E.g,G.fold (N:=[ae b j []]) (λh s=>by obtain⟨au,av,_,ag,_,C,_⟩:=s;exact own.Xm Q (bu _) h ⟨ag _ _ C.eq⟩) E.s⟩
end
def aR.mono{L M}(C:∀h,G M h->G L h){j v}(h:aR L j v):aR M j v:=⟨λ_ s=>h.1 _ (C _ s)⟩
def aB.mono{L M}(C:∀h,G M h->G L h){b o n j}(h:aB L b o n j):aB M b o n j:=⟨h.1,λE v D=>(h.2 E v D).mono C⟩
def aB.bE{N j b o n C}(h:aB j b o n C):aB (N++j) b o n C:=⟨h.1,λE v D=>(h.2 E v D).bE⟩
def aM.mono{L M}(I:∀h,G M h->G L h){C n j D}(h:aM L C j n D):aM M C j n D:=
 ⟨h.1,λK=>let ⟨b,o,E,g⟩:=h.2 K;⟨b,o,E,λO v J=>(g O v J).mono I⟩⟩
def Rd.mono{C:Type}[e5 C]{L M:aG}(D:∀h,G M h->G L h){n:Nat}{j:bA}{l:List C}(h:Rd L j n l):Rd M j n l:=aM.mono D h
def aN.bE{N j C D}(h:aN D j C):aN D (N++j) (N++C):=by
 induction N with
 |nil=>exact h
 |cons G N E=>exact .skip E
def f5(j:aG):aO:=λh=>G j h
def Tk{j C M}(D:∀h,G C h->G M h):∀h,G (j++C) h->G (f5 j::M) h:=λ_ s=>(nm D) _ (G.join s)
structure I where
 id:Int
 x:Int
 y:Int
 deriving DecidableEq
instance:e5 I:=⟨3,λC=>[j C.id,j C.x,j C.y],λ_=>rfl,λC v h=>by
 simp at h;rcases h with rfl|rfl|rfl<;>rfl⟩
structure hF where
 ag:I
 low:Int
 high:Int
 deriving DecidableEq
instance:e5 hF:=⟨5,λC=>[j C.ag.id,j C.ag.x,j C.ag.y,j C.low,j C.high],λ_=>rfl,λD v h=>by
 simp at h;rcases h with rfl|rfl|rfl|rfl|rfl<;>rfl⟩
def I.less(j q:I):Bool:=if j.x≠q.x then decide (j.x<q.x)else if j.y≠q.y then decide (j.y<q.y)else decide (j.id<q.id)
def I.iP(j:I):I:=⟨j.id,j.y,j.x⟩
def I.cmp(j q:I):Int:=if j=q then 0 else if j.less q then-1 else 1
def up(j q:I):Int:=j.iP.cmp q.iP
def GM(j q)(h:up j q<=0):j.y<=q.y:=by grind[I.iP,I.less,up,I.cmp]
def PH(j q)(h:0<up j q):q.y<=j.y:=by grind[I.iP,up,I.cmp,I.less]
def dJ:Int->Int->List I->List I->List hF
 | _,_,[],[]=>[]
 |i,j,D::l,[]=>⟨D,i,j⟩::dJ (i+1) j l []
 |i,j,[],b::C=>⟨b,i,j⟩::dJ i (j+1) [] C
 |i,j,D::l,b::C=>if up D b<=0 then⟨D,i,j⟩::dJ (i+1) j l (b::C)else⟨b,i,j⟩::dJ i (j+1) (D::l) C
 termination_by _ _ l C=>l.length+C.length
theorem Wz(D E C l j)(h:∀b G,j=b::G->up C b<=0):dJ D E (C::l) j=⟨C,D,E⟩::dJ (D+1) E l j:=by
 cases j with
 |nil=>rw[dJ]
 |cons b j=>rw[dJ,if_pos (h b j p)]
theorem WA(C D b l E)(h:∀j G,l=j::G->¬up j b<=0):dJ C D l (b::E)=⟨b,C,D⟩::dJ C (D+1) l E:=by
 cases l with
 |nil=>rw[dJ]
 |cons j l=>rw[dJ,if_neg (h j l p)]
theorem w3:∀(i C)(l j),(dJ i C l j).length=l.length+j.length
 | _,_,[],[]=>by simp[dJ]
 |i,C,D::l,[]=>by rw[dJ,fc,w3];rfl
 |i,C,[],b::j=>by rw[dJ,fc,w3];rfl
 |i,C,D::l,b::j=>by
  rw[dJ];split
  ·rw[fc,w3];grind
  ·rw[fc,w3];rfl
 termination_by _ _ l j=>l.length+j.length
def tz(j:I->Bool):Prop:=∀C q,C.y<=q.y->j q=true->j C=true
def Ord:List I->Prop
 | []=>True
 |a::l=>(∀b∈l,a.y<=b.y)/\Ord l
def qZ:∀(i D)(l C)(j),j∈dJ i D l C->j.ag∈l\/j.ag∈C
 | _,_,[],[],j,h=>by simp[dJ]at h
 |i,D,E::l,[],j,h=>by
  rw[dJ,cQ]at h;rcases h with rfl|h
  ·simp
  ·rcases qZ _ _ _ _ _ h with h|h
   ·simp_all
   trivial
 |i,D,[],b::C,j,h=>by
  rw[dJ,cQ]at h;rcases h with rfl|h
  ·simp
  ·rcases qZ _ _ _ _ _ h with h|h
   ·grind
   simp_all
 |i,D,E::l,b::C,j,h=>by
  rw[dJ]at h;split at h
  ·rcases cQ.1 h with rfl|h
   ·simp
   ·rcases qZ _ _ _ _ _ h with h|h
    ·simp_all
    simp_all
  ·rcases cQ.1 h with rfl|h
   ·simp
   ·rcases qZ _ _ _ _ _ h with h|h
    ·simp_all
    simp_all
 termination_by _ _ l C=>l.length+C.length
def w4:∀(i E:Int)(l C:List I),Ord l->Ord C->Ord ((dJ i E l C).map (·.ag))
 | _,_,[],[],_,_=>by simp[dJ,Ord]
 |i,E,J::l,[],aa,ab=>by
  rw[dJ,eS];refine⟨λb Q=> ?_,w4 _ _ _ _ aa.2 ab⟩;obtain⟨G,j,rfl⟩:=jg.1 Q;rcases qZ _ _ _ _ _ j with h|h
  ·exact aa.1 _ h
  trivial
 |i,E,[],b::C,aa,ab=>by
  rw[dJ,eS];refine⟨λK D=> ?_,w4 _ _ _ _ aa ab.2⟩;obtain⟨G,j,rfl⟩:=jg.1 D;rcases qZ _ _ _ _ _ j with h|h
  ·grind
  ·exact ab.1 _ h
 |i,E,J::l,b::C,aa,ab=>by
  rw[dJ];split
  ·rename_i O
   rw[eS];refine⟨λK D=> ?_,w4 _ _ _ _ aa.2 ab⟩;obtain⟨G,j,rfl⟩:=jg.1 D;rcases qZ _ _ _ _ _ j with h|h
   ·exact aa.1 _ h
   ·have:=GM _ _ O;rcases cQ.1 h with h|h
    ·simp_all
    ·exact Hp this (ab.1 _ h)
  ·rename_i O
   rw[eS];refine⟨λK D=> ?_,w4 _ _ _ _ aa ab.2⟩;obtain⟨G,j,rfl⟩:=jg.1 D;have:=PH _ _ (by omega:0<up J b);rcases qZ _ _ _ _ _ j with h|h
   ·rcases cQ.1 h with h|h
    ·simp_all
    ·exact Hp this (aa.1 _ h)
   ·exact ab.1 _ h
 termination_by _ _ l C=>l.length+C.length
theorem uS(D:I->Bool):∀(i C:Int)(l j:List I),((dJ i C l j).map (·.ag)).countP D=l.countP D+j.countP D
 | _,_,[],[]=>by simp[dJ]
 |i,C,E::l,[]=>by rw[dJ,eS,kv,uS,kv];rfl
 |i,C,[],b::j=>by rw[dJ,eS,kv,uS,kv];simp
 |i,C,E::l,b::j=>by
  rw[dJ];split
  ·rw[eS,kv,uS];grind
  ·rw[eS,kv,uS];grind
 termination_by _ _ l j=>l.length+j.length
def sK{C}(E:tz C){j}{l:List I}(J:∀b∈l,j.y<=b.y)(K:C j=false):l.countP C=0:=by
 rw[List.countP_eq_zero];intro b D G;have:=E j b (J b D) G;simp_all
def w2{j}(C:tz j):∀(i I)(l E),Ord l->Ord E->∀D,(dJ i I l E)[l.countP j+E.countP j]?=some D->D.low=i+l.countP j/\D.high=I+E.countP j
 | _,_,[],[],_,_,D,h=>by simp[dJ]at h
 |i,I,G::l,[],aa,ab,D,h=>by
  rw[dJ]at h;cases J:j G with
  |true=>
   have:=w2 C (i+1) I l [] aa.2 ab D (by simp_all);grind
  |false=>
   have O:=sK C aa.1 J;grind
 |i,I,[],b::E,aa,ab,D,h=>by
  rw[dJ]at h;cases K:j b with
  |true=>
   have:=w2 C i (I+1) [] E aa ab.2 D (by simp_all);grind
  |false=>
   have O:=sK C ab.1 K;grind
 |i,I,G::l,b::E,aa,ab,D,h=>by
  rw[dJ]at h;split at h
  ·rename_i Q
   cases J:j G with
   |true=>
    have:=w2 C (i+1) I l (b::E) aa.2 ab D (by
     grind)
    grind
   |false=>
    have O:=sK C aa.1 J;have K:j b=false:=by
     cases K:j b with
     |false=>rfl
     |true=>have:=C G b (GM _ _ Q) K;simp_all
    have U:=sK C ab.1 K;grind
  ·rename_i Q
   have R:=PH _ _ (by omega:0<up G b);cases K:j b with
   |true=>
    have:=w2 C i (I+1) (G::l) E aa ab.2 D (by
     grind)
    grind
   |false=>
    have O:=sK C ab.1 K;have J:j G=false:=by
     cases J:j G with
     |false=>rfl
     |true=>have:=C b G R J;simp_all
    have U:=sK C aa.1 J;grind
 termination_by _ _ l E=>l.length+E.length
def Fi{D}(E:tz D):∀(l),Ord l->∀j C,l[j]?=some C->(D C=true<->j<l.countP D)
 | [],_,j,C,h=>by trivial
 |a::l,aa,j,C,h=>by
  cases G:D a with
  |true=>
   cases j with
   |zero=>simp_all
   |succ j=>
    have:=Fi E l aa.2 j C (by assumption);simp_all
  |false=>
   have I:=sK E aa.1 G;grind
inductive eu where
 |nil
 |node (es:List hF) (C j:eu)
def eu.es:eu->List hF
 | .nil=>[]
 | .node es _ _=>es
def eu.au(j:eu):List I:=j.es.map (·.ag)
def join:eu->eu->eu
 | .nil,.nil=> .nil
 |a,b=> .node (dJ 0 0 a.au b.au) a b
theorem U5(j b):(join j b).es=dJ 0 0 j.au b.au:=by cases j<;>cases b<;>simp[join,eu.es,eu.au,dJ]
def wU(j:I):eu:=.node [⟨j,0,0⟩] .nil .nil
def made:Nat->List I->eu
 |0,l=>match l with
  | [ag]=>wU ag
  | _=> .nil
 |f+1,l=>match l with
  | []=> .nil
  | [ag]=>wU ag
  |ag::q::j=>join (made f ((ag::q::j).take ((ag::q::j).length/2))) (made f ((ag::q::j).drop ((ag::q::j).length/2)))
def lead(E:eu)(j:Int)(high:Bool):Int:=
 match E with
 | .nil=>0
 | .node C I G=>
  if 0<=j/\j<C.length then(match C[j.toNat]? with
   |some D=>if high then D.high else D.low
   |none=>0)
  else if j≠C.length then 0
  else if high then G.es.length else I.es.length
def L6{C}(O:tz C)(j b)(J:Ord j.au)(K:Ord b.au)(high):
  lead (join j b) ((join j b).au.countP C:Nat) high=if high then(b.au.countP C:Int)else(j.au.countP C:Int):=by
 have I:∀D,D=dJ 0 0 j.au b.au->lead (.node D j b) ((D.map (·.ag)).countP C:Nat) high=if high then(b.au.countP C:Int)else(j.au.countP C:Int):=by
  intro D E;have G:=uS C 0 0 j.au b.au;rw[<- E]at G;have R:=w3 0 0 j.au b.au;rw[<- E]at R;have ak:(D.map (·.ag)).countP C<=D.length:=by grind
  have U:=w2 O 0 0 _ _ J K;rw[<- E,<- G]at U;have Z:j.au.length=j.es.length:=gL ..;have ae:b.au.length=b.es.length:=gL ..;have al:=nX (p:=C) (l:=j.au);have am:=nX (p:=C) (l:=b.au);clear E;generalize(D.map _).countP C=Y at*
  simp[lead];grind
 cases j with
 |nil=>
  cases b with
  |nil=>simp[join,lead,eu.au,eu.es]
  |node D W Q=>exact I _ p
 |node D W Q=>cases b<;>exact I _ p
theorem jy:∀(j)(D)(C),D+C.length<=j.length->ej j D C=j.take D++C++j.drop (D+C.length)
 | [],D,C,h=>by
  simp_all[ej]
 |c::j,D,[],h=>by rw[rg];simp
 |c::j,0,v::C,h=>by
  have E:=jy j 0 C (by simp_all);simp_all[ej]
 |c::j,D+1,v::C,h=>by
  have E:=jy j D (v::C) (by grind);grind[ej]
theorem Gs(C E:cs)(D j)(h:D+E.length<=j)(G:j<=C.length):
  (C.take D++E++C.drop (D+E.length)).take j=(C.take j).take D++E++(C.take j).drop (D+E.length):=by
 apply tj;grind
section
variable{e dP n c b:Nat}{A:bA}{xs:cs}{h:iV}
def own.pY(o:own e dP (ak b) n c xs h):∃j,ae b e j h/\j.length=c*dP/\j.take (n*dP)=xs:=by
 rcases o.de with ⟨D,_⟩|⟨I,E,D,J,K,G⟩
 ·trivial
 ·simp[rD,GY,and_true]at D;subst D;exact⟨E.toList,⟨C⟩,C,G⟩
theorem own.kF{j}(G:ae b e j h)(I:j.length=c*dP)(E:n<=c)(D:c<=maxLen):own e dP (ak b) n c (j.take (n*dP)) h:=
 ⟨by simp_all,E,D,.inr ⟨b,j.toArray,rfl,G.eq,C,rfl⟩⟩
theorem own.less(o:own e dP A n c xs h){j}(C:j<=n):own e dP A j c (xs.take (j*dP)) h:=by
 have O:j*dP<=n*dP:=lG _ C;refine⟨by rw[lB,o.len];omega,Nat.le_trans C o.le,o.cap,?_⟩;rcases o.de with ⟨D,E,G⟩|⟨I,J,D,E,G,K⟩
 ·simp_all
 grind
def own.more(o:own e dP (ak b) n c xs h){k}(aa:n<=k)(ab:k<=c):∃C:List Value,C.length=(k-n)*dP/\own e dP (ak b) k c (xs++C) h:=by
 obtain⟨j,D,E,G⟩:=o.pY;have I:n*dP<=k*dP:=lG _ aa;have J:k*dP<=c*dP:=lG _ ab;refine⟨(j.take (k*dP)).drop (n*dP),by simp_all[B0],?_⟩;have:xs++(j.take (k*dP)).drop (n*dP)=j.take (k*dP):=by
  rw[<- G];have:=jD (n*dP) (j.take (k*dP));grind
 rw[this];exact own.kF D E ab o.cap
end
section
variable{P:Program}{g:c0}{L M:aG}{J:bW}{d:Option Nat}{aQ T cE:TypeId}{a3:String}{a2:Array Edge}{a0:Option (Nat×Bool)}{x y z:Operand}{v u:Value}
def Ff{j:cs}(h:∀u∈j,u.oneCell'=true):∀u∈j,oH u=true:=λu C=>by
 have:=h u C;assumption
def KM{j n Q q K E D}(U:aM L j K Q E)(Y:G L D.hm)(ak:n<=Q):(rv j n (.slice K Q q)).run P D=.ok (E.take (n*j)).toArray D:=by
 have ag:(E.take (n*j)).length=n*j:=by
  rw[lB,U.1];simp_all
 have Z:∀I:Addr,(∀O v,(E.take _)[O]?=some v->D.cell? _=some v)->(loadCells I (n*j)).run P D=.ok (E.take (n*j)).toArray D:=λI h=>by
  have:=run_loadCells_list (P:=P) D I (E.take (n*j)) h;simp_all
 rcases g9 n with R|R
 ·subst R;cases K with
  |none=>simp[rv]
  |some I=>
   show(loadCells I _).run P D= _;simp_all
 ·obtain⟨b,o,rfl,W⟩:=U.2 C;refine Z _ λO v ae=> ?_;rw[je];refine(W O v ?_).1 _ Y;grind
def Fg{j:cs}(h:∀u∈j,u.oneCell'=true)(D):∀u∈j.take D,u.oneCell'=true:=λu C=>h u (List.mem_of_mem_take C)
def G.none_{h}:G [] h:=trivial
theorem G.one{j h}(x:j h):G [j] h:=⟨h,λ_=>none,λ_=> .inr p,d7.refl _,λ_ _ C=>(by grind),x,trivial⟩
def zw{I C n E j:Nat}{D Q K L M O}(h:aN (own I C D n E Q) L M)(W:j<=n)(R:Q.take (j*C)=K)(U:∀h,G M h->G O h):∀h,G L h->G (own I C D j E K::O) h:=λ_ s=>
 G.head (N:=[own I C D j E K]) (λh o=>G.one (R▸o.less W)) ((s.perm h.perm).ep U)
theorem aM.drop{L j b o n E}(h:aM L j (some ⟨b,o,none⟩) n E){k c}(R:k<=n)(Q:n<=c):aM L j (some ⟨b,(if c=k then o else o+k*j),none⟩) (n-k) (E.drop (k*j)):=by
 refine⟨by rw[vz,h.1,B0],λO=> ?_⟩;obtain⟨K,W,G,I⟩:=h.2 C;obtain⟨rfl,rfl⟩:=G;refine⟨b,o+k*j,by grind,λU v D=> ?_⟩;rw[tn]at D;rw[BW];exact I _ _ D
def zq{W D aC b o O n U I ap E q:Nat}{am Z K}[ax:eo P T (W,D,aC)](bb:aY J x=some (.slice (some ⟨b,o,none⟩) I ap))(bc:aY J y=some (.slice am E q))
  (a1:aN (own W D (ak b) n U Z) L M) (ar:aM L D am E K) (aa:∀u∈K.take (min E I*D),u.oneCell'=true) (aZ:0<min E I->o=O*D) (aS:O+min E I<=n):
  cc P g L J ⟨d,.call ⟨.builtin .copy,#[x,y],#[T,cE]⟩,aQ,a3,a2,a0⟩ λbi ay=>bi=j (min E I:Nat)/\ay=own W D (ak b) n U (Z.take (O*D)++K.take (min E I*D)++Z.drop ((O+min E I)*D))::M:=λbq Q au av bn bp aI=>by
 obtain⟨a8,bF,aP,a7,_⟩:=ax.spec;have aw:a4 g _ Q:=av.mono λ_=>G.perm a1.perm;obtain⟨bf,bg,aH,bj,bk,Y,l⟩:=aw.s;obtain⟨ag,aK,aO,bC⟩:=Y.pY;have bE:=Y.len;have ba:a4 g (ae b W ag::M) Q:=⟨aw.g,bf,bg,aH,bj,bk,aK,l⟩;have aX:=KM (P:=P) (q:=q) ar av.s (Nat.min_le_left E I);have bB:(K.take (min E I*D)).length=min E I*D:=by
  rw[lB,ar.1];simp
 have aV:(O+min E I)*D<=n*D:=lG _ aS;have bA:n*D<=U*D:=lG _ Y.le;have a6:∃R,(storeCells ⟨b,o,none⟩ (K.take (min E I*D))).run P Q=.ok () R/\a4 g (own W D (ak b) n U (Z.take (O*D)++K.take (min E I*D)++Z.drop ((O+min E I)*D))::M) R:=by
  rcases g9 (min E I)with al|al
  ·refine⟨Q,?_,?_⟩
   ·rw[al];simp[storeCells]
   ·rw[al];simp_all
  ·have bs:=aZ al;rw[md]at aV;obtain⟨R,ao,ab⟩:=rl _ o 0 ag Q (Ff aa) C ba;refine⟨R,ao,?_⟩;rw[rC]at ab;have bx:o+(K.take (min E I*D)).length<=ag.length:=C;have aW:(ej ag o (K.take (min E I*D))).length=U*D:=by rw[vc,aO]
   obtain⟨bd,be,aE,bl,bm,aL,bh⟩:=ab.s;have bt:=own.kF aL aW Y.le Y.cap;refine⟨ab.g,bd,be,aE,bl,bm,?_,bh⟩;grind[ej,Gs,jy,md]
 obtain⟨R,ao,a9⟩:=a6;have a5:(GZ #[T,cE] aQ #[.slice (some ⟨b,o,none⟩) I ap,.slice am E q]).run P Q=.ok (j (min E I:Nat)) R:=by
  have bz:Nat.min E I=min E I:=rfl;simp[GZ,run_underlying a8,rx,sizeOf,typeInfo,aP,a7,aX,ao,goInt]
 unfold dv;simp[execOp,resolve,fY,eS,au.eval bb,au.eval bc];simp[cg,eJ,db,invoke,builtin,a5];exact aI _ _ _ ⟨rfl,rfl⟩ a9
def Td{Q D ax b j n K I q:Nat}{W Y E}[av:eo P T (Q,D,ax)](a8:aY J x=some (.slice (ak b) j K))(a9:aY J y=some (.slice W I q))
  (aX:aN (own Q D (ak b) n K Y) L M) (R:aM L D W I E) (aa:∀u∈E,u.oneCell'=true) (aP:j<=n) (am:j+I<=K):
  cc P g L J ⟨d,.call ⟨.builtin .append,#[x,y],#[T,T]⟩,aQ,a3,a2,a0⟩ λbf aw=>bf=.slice (ak b) (j+I) K/\aw=own Q D (ak b) (j+I) K (Y.take (j*D)++E)::M:=λbn U ao ap bl bm aH=>by
 obtain⟨a6,bp,aO,a1,_⟩:=av.spec;have ar:a4 g _ U:=ap.mono λ_=>G.perm aX.perm;obtain⟨bc,bd,aC,bg,bh,au,l⟩:=ar.s;obtain⟨O,aI,Z,a5⟩:=au.pY;have a7:a4 g (ae b Q O::M) U:=⟨ar.g,bc,bd,aC,bg,bh,aI,l⟩;have al:=KM (P:=P) (q:=q) R ap.s (bv I);rw[<- R.1,List.take_length]at al;have aL:j*D+E.length<=O.length:=by rw[R.1,Z,<- md];simp_all[lG]
 obtain⟨bk,aE,ab⟩:=rl (P:=P) E (j*D) 0 O U (Ff aa) C a7;rw[rC]at ab;have aV:(ej O (j*D) E).length=K*D:=by rw[vc,Z]
 obtain⟨ba,bb,ay,bi,bj,aK,be⟩:=ab.s;have ag:=own.kF aK aV am au.cap;have aS:j*D<=n*D:=lG _ aP;have:(ej O (j*D) E).take ((j+I)*D)=Y.take (j*D)++E:=by
  rw[jy _ _ _ aL,<- a5,List.take_take,H5 aS,md,<- R.1];have aW:(O.take (j*D)++E).length=j*D+E.length:=by
   rw[bP,lB];omega
  rw[<- aW];exact List.take_left
 rw[this]at ag;have aZ:(kV #[T,T] aQ #[.slice (ak b) j K,.slice W I q]).run P U=.ok (.slice (ak b) (j+I) K) bk:=by
  simp[kV,run_underlying a6,sizeOf,typeInfo,aO,a1,rx,am,al,je,aE]
 unfold dv;simp only[execOp,resolve,fY,eS,lC,ao.eval a8,ao.eval a9];simp[cg,eJ,db,invoke,builtin,aZ];exact aH _ _ _ ⟨rfl,rfl⟩ ⟨ab.g,ba,bb,ay,bi,bj,ag,be⟩
def DA{U K ae b o n O}{l h j:Nat}{aH aP Y ax ay aC}[Z:eo P T (U,K,ae)](aw:aY J x=some (.slice (some ⟨b,o,none⟩) n O))(ao:aY J aH=some (.int ax l))(al:aY J aP=some (.int ay h))(ap:aY J Y=some (.int aC j))(aa:l<=h)(ab:h<=j)(ak:j<=O):
  bf P L J ⟨d,.slice T x (some aH) (some aP) (some Y),aQ,a3,a2,a0⟩ (.slice (some ⟨b,(if j=l then o else o+l*K),none⟩) (h-l) (j-l)):=λaE D E _=>by
 obtain⟨av,aK,am,au,_⟩:=Z.spec;have I:∀(W:IntKind) (G y:Nat) (R:BoundsCode),G<=y->(Hc _ y _).run P D=.ok G D:=λW G y R aI=>by
  rw[run_sliceBound D W G y R Q C];rfl
 simp[execOp,E.eval aw];have ag:(sizeOf U).run P D=.ok K D:=by simp[sizeOf,typeInfo,am,au]
 simp[vr,Hb,mX,cg,run_underlying av,db,ag,Option.map_some,E.eval ao,E.eval al,E.eval ap,I _ _ _ _ aa,I _ _ _ _ ab,I _ _ _ _ ak,eJ]
 congr 3
 by_cases ar:j=l
 ·simp_all
 ·simp[ar,je]
def Ka{O D aw b o R n K j q:Nat}{al E}[ar:eo P T (O,D,aw)][au:cy P O E](a1:(E.all λu=>u.oneCell')=true)(a8:aA E.length D=true)(aZ:aY J x=some (.slice (some ⟨b,o,none⟩) j q))
  (aS:aN (own O D (ak b) n K al) L M) (aP:0<j->o=R*D) (aL:n<=R) (bx:R+j<=K):
  cc P g L J ⟨d,.call ⟨.builtin .clear,#[x],#[T]⟩,aQ,a3,a2,a0⟩ λbf av=>bf=.tuple #[]/\av=own O D (ak b) n K al::M:=λbn I aV aW bl bm am=>by
 obtain⟨Q,bI,bs,bC,_⟩:=ar.spec;have Z:a4 g _ I:=aW.mono λ_=>G.perm aS.perm;unfold dv;simp only[execOp,resolve,fY,eS,lC,aV.eval aZ];rcases g9 j with W|W
 ·subst W;have Y:(kW #[T] aQ #[.slice (some ⟨b,o,none⟩) 0 q]).run P I=.ok (.tuple #[]) I:=by
   simp[kW,run_underlying Q]
  simp only[cg,eJ,db,invoke,builtin,Y];exact am _ _ _ ⟨rfl,rfl⟩ Z
 ·obtain⟨bc,bd,ay,bg,bh,ag,l⟩:=Z.s;obtain⟨U,aH,aK,bE⟩:=ag.pY;have aX:a4 g (ae b O U::M) I:=⟨Z.g,bc,bd,ay,bg,bh,aH,l⟩;obtain⟨bK,a5,a6⟩:=au.run I;have a9:=bV a8;have bp:=aP W;have bF:∀u∈E,u.oneCell'=true:=cS a1;have bz:(eI E.toArray j).toList.length=j*D:=by simp only[eI,Array.length_toList,Array.size_map,Array.size_range,List.size_toArray,a9]
  have a7:∀u∈(eI E.toArray j).toList,u.oneCell'=true:=by
   intro u Q;simp only[eI,Array.toList_map,jg]at Q;obtain⟨bJ,bt,rfl⟩:=Q;grind[g9,H7,List.getElem_mem]
  have bq:R*D+j*D<=K*D:=by rw[<- md];simp_all[lG]
  have bB:n*D<=R*D:=lG _ aL;obtain⟨bk,aC,ab⟩:=rl (P:=P) _ o 0 U I (Ff a7) C aX;rw[rC]at ab;have aO:(ej U o (eI E.toArray j).toList).length=K*D:=by rw[vc,aK]
  obtain⟨ba,bb,ax,bi,bj,aI,be⟩:=ab.s;have ao:=own.kF aI aO ag.le ag.cap;have aE:(ej U o (eI E.toArray j).toList).take (n*D)=al:=by
   grind[jy,List.append_assoc,H2,H5,lB]
  rw[aE]at ao;have Y:(kW #[T] aQ #[.slice (some ⟨b,o,none⟩) j q]).run P I=.ok (.tuple #[]) bk:=by
   have bA:j≠0:=C;obtain⟨ap,rfl⟩:∃ap,j=ap+1:=⟨j-1,C⟩;simp only[kW,cg,run_underlying Q,db,a5,a6,aC,eJ,List.getElem?_toArray,List.getElem?_cons_zero]
  simp[cg,eJ,db,invoke,builtin,Y];exact am _ _ _ ⟨rfl,rfl⟩ ⟨ab.g,ba,bb,ax,bi,bj,ao,be⟩
end
section
variable{P:Program}
def YF(G R U aC I D K ax ay)(ar:P.underlying R=some (.slice I))(au:P.underlying U=some (.int ay))(ag:P.info? I=some D)(aw:D.zero=some K)
  (b) (j E) (J:cs) (al:J.length=j*D.size) (aL:∀O v,J[O]?=some v->G.cell? (b.add O)=some v)
  (n) (aE:0<n) (aO:0<D.size) (aK:E<j+n) (aH:((j+n:Nat):Int)<=9223372036854775807) (aI:G0 (j+n) E*D.bytes<=281474976710656) (aG:n*D.bytes<=281474976710656):
  (kV #[R,U] aC #[.slice (some b) j E,.int ax n]).run P G=
   .ok (.slice (ak G.heap.size) (j+n) (grownCap G (j+n) E I)) (G.drew.alloc (.cells (J.toArray++eI K.cells n++eI K.cells (grownCap G (j+n) E I-(j+n))) I)):=by
 have am: ¬(j+n<=E):=C;have av:IntKind.i64.wrap (n:Int)=n:=by rw[IntKind.wrap_i64];omega
 have Z: ¬(9223372036854775807< ((j:Int)+(n:Int))):=C;have W: ¬(281474976710656<G0 (j+n) E*D.bytes):=C;have Y: ¬(281474976710656< (n:Int)*(D.bytes:Int)):=by
  omega
 have ao: ¬((n:Int)<0):=Q;have ap: ¬(n*D.size=0):=Nat.mul_ne_zero C C;have ae:=run_firstCells_some (P:=P) G.drew _ j b j E J al (by assumption);simp[kV,run_underlying ar,run_underlying au,sizeOf,typeInfo,zeroValue,ag,aw,asInt,asIntOf,av,am,ao,ap,Z,W,Y,PX,ae,newRow,grownCap]
end
section
variable{P:Program}{g:c0}{L M:aG}{J:bW}{d:Option Nat}{aQ T cE:TypeId}{a3:String}{a2:Array Edge}{a0:Option (Nat×Bool)}{x y z:Operand}{v u:Value}
def LJ(P:Program)(T:TypeId):Bool:=match P.underlying T with
 |some (.int _)=>true
 | _=>false
class vK (P:Program) (T:TypeId):Prop where
 h:LJ P T=true
def vK.spec(j:vK P T):∃C,P.underlying T=some (.int C):=by
 have h:=j.h;unfold LJ at h;grind
def Te{I E ag b D n K j:Nat}{ax R aC}[aE:eo P T (I,E,ag)][aI:cy P I aC][aH:vK P cE](bf:aA aC.length E=true)(bA:0<E)(bd:aY J x=some (.slice (ak b) D K))(be:aY J y=some (.int ax (j:Int)))
  (a8:aN (own I E (ak b) n K R) L M) (aW:D<=n) (aZ:0<j) (ba:K<D+j) (bC:(D+j)*ag<=140737488355328) (bF:D+j<=140737488355328):
  cc P g L J ⟨d,.call ⟨.builtin .append,#[x,y],#[T,cE]⟩,aQ,a3,a2,a0⟩ λbl aK=>∃ae U ay,bl=.slice (ak ae) (D+j) U/\ay.length=j*E/\D+j<=U/\U<=maxLen/\aK=own I E (ak ae) (D+j) U (R.take (D*E)++ay)::L:=λbt O ao ar bq bs aP=>by
 obtain⟨bp,Q,bc,aV,bI,bE,aX,aw⟩:=aE.zero aI;have av:=bV bf;obtain⟨bi,a1⟩:=aH.spec;have au:a4 g _ O:=ar.mono λ_=>G.perm a8.perm;obtain⟨bJ,bK,bx,bM,bN,bk,l⟩:=au.s;have a6:(R.take _).length=D*E:=(bk.less aW).len;have a7:∀Z v,(R.take (D*E))[Z]?=some v->O.cell? ((⟨b,0,none⟩:Addr).add Z)=some v:=λZ v Y=>by
  rw[je,iQ];rw[BO]at Y;split at Y
  ·exact(aR.own Y).1 _ au.s
  trivial
 have bb:=YF O T cE aQ I bp Q ax bi bc a1 aV aX _ D K _ (by simp_all) a7 j aZ C ba C (growslice_fits C (by simp_all)) (by
  grind)
 unfold dv;simp only[execOp,resolve,fY,eS,lC,ao.eval bd,ao.eval be];simp only[cg,eJ,db,invoke,builtin,bb];have am:=grownCap_ge O (D+j) K I;have al:=grownCap_le_maxLen O (D+j) K I (by simp[maxLen];omega);have W:=(ar.drew).alloc I (R.take (D*E)++((eI Q.cells j).toList++(eI Q.cells (grownCap O (D+j) K I-(D+j))).toList));have aO:(R.take (D*E)++((eI Q.cells j).toList++(eI Q.cells (grownCap O (D+j) K I-(D+j))).toList)).toArray=(R.take (D*E)).toArray++eI Q.cells j++eI Q.cells (grownCap O (D+j) K I-(D+j)):=by
  simp
 rw[aO]at W;have ap:(eI Q.cells j).toList.length=j*E:=by simp[eI,aw,av]
 have a9:(eI Q.cells (grownCap O (D+j) K I-(D+j))).toList.length=(grownCap O (D+j) K I-(D+j))*E:=by simp[eI,aw,av]
 refine aP _ _ _ ⟨O.heap.size,grownCap O (D+j) K I,(eI Q.cells j).toList,rfl,ap,am,al,rfl⟩ ?_;obtain⟨bg,bh,aL,bm,bn,aS,bj⟩:=W.s;refine⟨W.g,bg,bh,aL,bm,bn,?_,bj⟩;have a5:(R.take (D*E)++((eI Q.cells j).toList++(eI Q.cells (grownCap O (D+j) K I-(D+j))).toList)).length=grownCap O (D+j) K I*E:=by
  rw[bP,bP,a6,ap,a9,<- md,<- md];grind
 have bB:=own.kF (dP:=E) (n:=D+j) aS a5 am al;have bz:(R.take (D*E)++((eI Q.cells j).toList++(eI Q.cells (grownCap O (D+j) K I-(D+j))).toList)).take ((D+j)*E)=R.take (D*E)++(eI Q.cells j).toList:=by
  grind[md]
 simp_all
def Tv(G I q n C E D j):(eqGuard G T x y (.slice I n C) (.slice q E D)).run P j=.ok () j:=by
 unfold eqGuard;simp
theorem Tz{C}(E:eo P T C)(j n G O K D):(dD T (.slice j n G) (.slice none O K)).run P D=.ok j.isNone D:=by
 obtain⟨R,s,Q⟩:=C;obtain⟨I,_⟩:=E.spec;unfold dD;rw[show ly=9999+1 from rfl];unfold j2;cases j<;>simp[cg,run_underlying I]<;>rfl
def zE{j n C I G K}[Q:eo P T K](D:aY J x=some (.slice j n C))(E:aY J y=some (.slice none I G)):bf P L J ⟨d,.binOp .eql T x y cE,aQ,a3,a2,a0⟩ (.bool j.isNone):=
 iY _ _ _ _ (Tv _ _ _ _ _ _ _) D E λO=>by
  show((do pure (.bool (<- dD T _ _)):Sem Value)).run P O= _;simp[Tz]
class Cr (P:Program) (D:FuncId) (T:outParam TypeId):Prop where
 h:∃j C,P.funcs[D]?=some j/\(j.name== "runtime.NumGoroutine")=false/\j.body.isNone=true/\Extern.findNext j=none/\Extern.find j=some (Extern.SlicesOverlaps.overlaps #[T,T] #[C])
theorem O6{j:World}{b T C}(h:j.hm b=some (.cells C T (0,0))):j.shape? b=some (T,C.size):=by
 have D:j.heap[b]?=some _:=h;simp[World.shape?,D]
theorem K4{j:World}{b E T C}(h:j.hm b=some (.cells C T (0,0))):j.frozen? ⟨b,E,none⟩=false:=by
 have D:j.heap[b]?=some _:=h;simp[Hn,D]
def TO{G}{E I aC j ap U K D ar W O n ag:Nat}{Z aE be bd Y ax}[aw:Cr P G T][av:eo P T (E,I,aC)](a5:aY J x=some (.slice (some ⟨j,ap,none⟩) U K))(a6:aY J y=some (.slice (some ⟨D,ar,none⟩) W O))
  (aW:aN (ae j Z aE) L Y) (aX:aN (own E I (ak D) n ag be) Y ax) (bn:0<ag) (bm:0<I):
  bf P L J ⟨d,.call ⟨.value (.func G),#[x,y],bd⟩,aQ,a3,a2,a0⟩ (.bool false):=λbg C ao a4=>by
 obtain⟨bl,ay,aH,aP,a8,a9,ba⟩:=aw.h;obtain⟨a1,bB,aS,aZ,_⟩:=av.spec;obtain⟨bt,bx,aK,bb,bc,am,l⟩:=a4.perm aW.perm;obtain⟨bq,bs,bi,au,bA,a7,bz⟩:=l.perm aX.perm;rcases a7.de with ⟨Q,_⟩|⟨bh,aI,Q,al,bj,bk⟩
 ·omega
 simp[rD,GY,and_true]at Q;subst Q;have aa:=bb _ _ am.eq;have ab:=bc _ _ (au _ _ al);have aV:j≠D:=λaL=>by
  subst aL;rcases aK j with R|R
  ·rw[am.eq]at R;trivial
  ·rw[au _ _ al]at R;trivial
 have aO:aI.size≠0:=by
  simp_all[Nat.ne_of_gt]
 have bp:(callFunc G #[.slice (some ⟨j,ap,none⟩) U K,.slice (some ⟨D,ar,none⟩) W O]).run P C=.ok (.value (.bool false)) C:=by
  rw[run_callFunc_extern aH aP a8 a9 ba,Lib.run_overlaps_apart C T ay E a1 I (λC=>by simp[sizeOf,typeInfo,aS,aZ]) _ _ U K W O aV Z E _ _ (O6 aa) (O6 ab) aO (K4 aa) (K4 aa)];rfl
 show(callFunc G _).run P C= _;simp[ao.eval a5,ao.eval a6];assumption
def TB{O n C D}[E:eo P T D](K:aY J x=some (.slice O n C)):bf P L J ⟨d,.call ⟨.builtin .cap,#[x],#[T]⟩,aQ,a3,a2,a0⟩ (j C):=λQ U G _=>by
 obtain⟨R,s,b⟩:=D;obtain⟨I,_⟩:=E.spec;simp[execOp,resolve,invoke,builtin,G.eval K,run_underlying I,Builtin.cap_,goInt]
def Tf{D I R j:Nat}{al ao}[ap:eo P T (D,I,R)][au:cy P D ao][ar:vK P cE](aZ:aA ao.length I=true)(be:0<I)(aW:aY J x=some (.slice none 0 0))(aX:aY J y=some (.int al (j:Int)))
  (aI:0<j) (bg:j*R<=140737488355328) (bi:j<=140737488355328):
  cc P g L J ⟨d,.call ⟨.builtin .append,#[x,y],#[T,cE]⟩,aQ,a3,a2,a0⟩ λa7 av=>∃Q K am,a7=.slice (ak Q) j K/\am.length=j*I/\j<=K/\K<=maxLen/\av=own D I (ak Q) j K am::L:=λbd E Y aV bb bc ay=>by
 obtain⟨ba,G,aS,aE,bj,bh,aH,ag⟩:=ap.zero au;have ae:=bV aZ;obtain⟨a5,aK⟩:=ar.spec;have aP:=Lib.run_append_nil_zeros E T cE aQ D ba G al a5 aS aK aE aH j aI C C (by grind);unfold dv;simp[execOp,resolve,fY,eS,Y.eval aW,Y.eval aX];simp[db,invoke,builtin,aP];have W:=grownCap_ge E j 0 D;have U:=grownCap_le_maxLen E j 0 D (by simp[maxLen];omega);have O:=(aV.drew).alloc D ((eI G.cells j).toList++(eI G.cells (grownCap E j 0 D-j)).toList);have ax:((eI G.cells j).toList++(eI G.cells (grownCap E j 0 D-j)).toList).toArray=eI G.cells j++eI G.cells (grownCap E j 0 D-j):=by
  simp
 rw[ax]at O;have Z:(eI G.cells j).toList.length=j*I:=by simp[eI,ag,ae]
 have aO:(eI G.cells (grownCap E j 0 D-j)).toList.length=(grownCap E j 0 D-j)*I:=by simp[eI,ag,ae]
 refine ay _ _ _ ⟨E.heap.size,grownCap E j 0 D,(eI _ j).toList,rfl,Z,W,U,rfl⟩ ?_;obtain⟨a1,a4,aw,a8,a9,aC,a6⟩:=O.s;refine⟨O.g,a1,a4,aw,a8,a9,?_,a6⟩;have aL:((eI G.cells j).toList++(eI G.cells (grownCap E j 0 D-j)).toList).length=grownCap E j 0 D*I:=by
  rw[bP,Z,aO,<- md];simp_all
 have bf:=own.kF aC aL W U;simp_all
end
def qc:List Value->Option (List Int)
 | []=>some []
 | .int .i64 n::l=>match qc l with
  |some j=>some (n::j)
  |none=>none
 | _=>none
theorem xR:∀{l}{j},qc l=some j->l=j.map (.int .i64)
 | [],j,h=>by simp_all[qc]
 |v::l,j,h=>by
  unfold qc at h;split at h
  ·trivial
  ·rename_i n E D
   cases D;cases C:qc l with
   |none=>simp_all
   |some G=>rw[C]at h;simp at h;subst h;rw[xR C];rfl
  trivial
def uD(D:TypeId->Nat->Bool)(E:TypeId->Option Nat):List Field->Nat->Nat->Bool
 | [],j,n=>aA j n
 |f::G,j,n=>aA f.offset j&&!(f.name== "_")&&(match E f.type with
  |some C=>D f.type C&&uD D E G (j+C) n
  |none=>false)
def pJ(j:Program):Nat->TypeId->Nat->Bool
 |0,_,_=>false
 |k+1,C,n=>match j.underlying C with
  |some (.int _)=>il j C&&aA n 1
  |some (.struct D)=>nc j C n&&!j.stoodInHeld C&&uD (pJ j k) (λC=>(j.info? C).map (·.size)) D.toList 0 n
  | _=>false
def LM(j:Program)(C:TypeId):Bool:=match j.underlying C with
 |some (.struct _)=>true
 | _=>false
def Dw(j:Program)(C:TypeId)(n:Nat):Bool:=LM j C&&pJ j 8 C n&&!j.eqGuardType j.depth C
class rG (j:Program) (C:TypeId) (n:outParam Nat):Prop where
 h:Dw j C n=true
section
variable{P:Program}{L:aG}{J:bW}{d:Option Nat}{aQ T cE:TypeId}{a3:String}{a2:Array Edge}{a0:Option (Nat×Bool)}{x y:Operand}
def qd(P:Program)(T:TypeId)(C:List Int):Value:=match P.underlying T with
 |some (.int _)=>j (C.headD 0)
 | _=> .agg (C.map (Value.int .i64)).toArray
theorem Nz{G T I}(h:pJ P G T I=true)(D:List Int)(j)(ae:j+I<=D.length)(E):
  (part T (D.map (Value.int .i64)).toArray j).run P E=.ok (qd P T ((D.drop j).take I)) E:=by
 cases G with
 |zero=>cases h
 |succ G=>
  unfold pJ at h;unfold qd;cases Y:P.underlying T with
  |none=>simp_all
  |some K=>
   rw[Y]at h;cases K<;>first|(cases h;done)|skip
   ·simp only[bL]at h;obtain⟨aa,ab⟩:=h;have O:=bV ab;subst O;have W:j<D.length:=C;have U:((D.drop j).take 1).headD 0=D[j]:=by grind[List.drop_eq_getElem_cons]
    rw[U];simp[part,(dr.run ⟨aa⟩ E).1,W]
   ·simp[bL]at h;obtain⟨⟨aa,ab⟩,Z⟩:=h;obtain⟨Q,R⟩:=gR.run ⟨aa⟩ E;simp only[part,cg,Q,db,if_true,R];simp
def Km{Z:Nat}(R n:Nat)(Y:∀(T:TypeId)(D:Nat),pJ P Z T D=true->∀(E G:List Int)(K:World),E.length=D->G.length=D->(j2 R T (qd P T E) (qd P T G)).run P K=.ok (decide (E=G)) K)
  (E G:List Int) (K:World) (ae:E.length=n) (ag:G.length=n):∀(I:List Field) (j:Nat),uD (pJ P Z) (λT=>(P.info? T).map (·.size)) I j n=true->j<=n->
  (BH R (E.map (Value.int .i64)).toArray (G.map (Value.int .i64)).toArray I).run P K=.ok (decide (E.drop j=G.drop j)) K
 | [],j,h,ao=>by
  have ak:=bV h;subst ak;simp[BH,vv (BZ ae),vv (BZ ag)]
 |f::I,j,h,ao=>by
  simp only[uD,bL]at h;obtain⟨⟨aa,ab⟩,U⟩:=h;have al:=bV aa;split at U
  ·rename_i D aC
   simp only[bL]at U;obtain⟨O,am⟩:=U;have ar:j+D<=n:=by
    clear O Y;have:∀(I:List _) (Q:Nat),uD (pJ P Z) (λT=>(P.info? T).map (·.size)) I Q n=true->Q<=n:=by
     intro I
     induction I with
     |nil=>intro Q W;exact BZ (bV W)
     |cons g ax aE=>
      intro Q W;simp only[uD,bL]at W;grind
    grind
   have aH:=Km R n Y E G K ae ag I _ am ar;unfold BH;rw[if_pos (by simp_all)];have av:(E.drop j).length>=D:=by grind
   have aw:(G.drop j).length>=D:=by simp_all
   have ap:=Y _ D O ((E.drop j).take D) ((G.drop j).take D) K (by simp_all) (by simp_all);simp only[cg,al,Nz O E j C,Nz O G j C,db,ap];have aI:E.drop j=(E.drop j).take D++E.drop (j+D):=by rw[<- x8,jD]
   have aK:G.drop j=(G.drop j).take D++G.drop (j+D):=by rw[<- x8,jD]
   have au:decide (E.drop j=G.drop j)=(decide ((E.drop j).take D=(G.drop j).take D)&&decide (E.drop (j+D)=G.drop (j+D))):=by
    rw[<- Bool.decide_and];apply decide_eq_decide.2;constructor
    ·intro h;rw[<- x8,<- x8,h];simp
    grind
   rw[au];cases ay:decide ((E.drop j).take D=(G.drop j).take D)with
   |true=>trivial
   |false=>rfl
  trivial
def Kt:∀(k)(T)(n),pJ P k T n=true->∀(d),k<=d->∀(D E)(j),D.length=n->E.length=n->(j2 d T (qd P T D) (qd P T E)).run P j=.ok (decide (D=E)) j
 |0,_,_,h,_,_,_,_,_,_,_=>by cases h
 |k+1,T,n,h,d,ak,D,E,j,G,I=>by
  obtain⟨d,rfl⟩:∃K,d=K+1:=⟨d-1,C⟩;unfold pJ at h;unfold qd;cases O:P.underlying T with
  |none=>simp_all
  |some Q=>
   rw[O]at h;cases Q<;>first|(cases h;done)|skip
   ·rename_i Z
    simp only[bL]at h;have K:=bV h.2;subst K
    match D,E,G,I with
    | [ag],[b],_,_=>
     rw[run_equalIn_int j d T _ Z _ _ O]
     congr 1
     grind
   ·rename_i R
    simp[tc]at h;obtain⟨⟨aa,ab⟩,U⟩:=h;have W:P.fieldsOf T=R:=by simp[Program.fieldsOf,O]
    rw[run_equalIn_struct j _ T _ _ (by simp_all) ab,W];have:=Km d n (λT ae Y D E j G I=>Kt k T ae Y d C D E j G I) D E j G I _ 0 U (bu _);assumption
def Dx{n}[G:rG P T n]{j C:List Int}(K:j.length=n)(O:C.length=n)(D):(dD T (.agg (j.map (Value.int .i64)).toArray) (.agg (C.map (Value.int .i64)).toArray)).run P D=.ok (decide (j=C)) D/\P.eqGuardType P.depth T=false:=by
 have h:=G.h;unfold Dw at h;simp[bL,tc]at h;obtain⟨⟨aa,ab⟩,I⟩:=h;refine⟨?_,I⟩;have E:∀j:List _,Value.agg (j.map (Value.int .i64)).toArray=qd P T j:=λj=>by
  grind[LM,qd]
 rw[E,E];exact Kt 8 T n ab _ bs j C D K O
def sa{n E G C D}[U:rG P T n](O:aY J x=some (.agg E.toArray))(Q:aY J y=some (.agg G.toArray))(aa:qc E=some C)(ab:qc G=some D)(I:aA C.length n=true)(K:aA D.length n=true):
  bf P L J ⟨d,.binOp .eql T x y cE,aQ,a3,a2,a0⟩ (.bool (decide (C=D))):=by
 have W:=xR aa;have Y:=xR ab;have R:=λj=>Dx (P:=P) (T:=T) (bV I) (bV K) j;refine iY _ _ _ _ (λj=>run_eqGuard_agg j _ _ _ _ _ _ (R j).2) O Q λj=> ?_;show((do pure (.bool (<- dD T _ _)):Sem Value)).run P j= _;simp_all
def zJ{n E G C D}[U:rG P T n](O:aY J x=some (.agg E.toArray))(Q:aY J y=some (.agg G.toArray))(aa:qc E=some C)(ab:qc G=some D)(I:aA C.length n=true)(K:aA D.length n=true):
  bf P L J ⟨d,.binOp .neq T x y cE,aQ,a3,a2,a0⟩ (.bool (decide (C≠D))):=by
 have W:=xR aa;have Y:=xR ab;have R:=λj=>Dx (P:=P) (T:=T) (bV I) (bV K) j;refine iY _ _ _ _ (λj=>run_eqGuard_agg j _ _ _ _ _ _ (R j).2) O Q λj=> ?_;show((do pure (.bool (!(<- dD T _ _))):Sem Value)).run P j= _;simp_all
end
noncomputable abbrev E:=Tryz.prog
class mi (j b:Nat):Prop where
 h:j<b
instance(j C:Nat):mi j (C+j+1):=⟨by omega⟩
def Sv: [(2,540),(543,13),(557,68),(652,5),(658,21),(680,22),(703,19),(723,4),(728,20),(749,5)].all (λj=>(hZ j.2).all λC=>y6 E (C+j.1))=true:=by decide+kernel
theorem od{C n j:Nat}(D:(C,n)∈ [(2,540),(543,13),(557,68),(652,5),(658,21),(680,22),(703,19),(723,4),(728,20),(749,5)])[h:mi j n]:b4 E (j+C):=⟨lz.1 (lz.1 Sv _ D) j (List.mem_range.2 h.h)⟩
instance(j:Nat)[mi j 540]:b4 E (j+2):=od (n:=540) Q
instance(j:Nat)[mi j 13]:b4 E (j+543):=od (n:=13) Q
instance(j:Nat)[mi j 68]:b4 E (j+557):=od (n:=68) Q
instance(j:Nat)[mi j 5]:b4 E (j+652):=od (n:=5) Q
instance(j:Nat)[mi j 21]:b4 E (j+658):=od (n:=21) Q
instance(j:Nat)[mi j 22]:b4 E (j+680):=od (n:=22) Q
instance(j:Nat)[mi j 19]:b4 E (j+703):=od (n:=19) Q
instance(j:Nat)[mi j 4]:b4 E (j+723):=od (n:=4) Q
instance(j:Nat)[mi j 20]:b4 E (j+728):=od (n:=20) Q
instance(j:Nat)[mi j 5]:b4 E (j+749):=od (n:=5) Q
instance:dr E 3:=⟨O⟩
instance:cy E 3 [j 0]:=⟨O⟩
instance:vK E 3:=⟨O⟩
instance:dr E 4:=⟨O⟩
instance:cy E 4 [.bool false]:=⟨O⟩
instance:tu E 4:=⟨O⟩
instance:gR E 23 4:=⟨O⟩
instance:cy E 23 [j 0,j 0,j 0,j 0]:=⟨O⟩
instance:ey E 23 [(0,1),(1,1),(2,1),(3,1)]:=⟨O⟩
instance:bk E 23 0 (0,1,false):=⟨O⟩
instance:bk E 23 1 (1,1,false):=⟨O⟩
instance:bk E 23 2 (2,1,false):=⟨O⟩
instance:bk E 23 3 (3,1,false):=⟨O⟩
instance:gR E 25 3:=⟨O⟩
instance:bk E 25 0 (0,1,false):=⟨O⟩
instance:bk E 25 1 (1,1,false):=⟨O⟩
instance:bk E 25 2 (2,1,false):=⟨O⟩
instance:gR E 27 10:=⟨O⟩
instance:bk E 27 0 (0,1,false):=⟨O⟩
instance:bk E 27 1 (1,4,true):=⟨O⟩
instance:bk E 27 2 (5,3,true):=⟨O⟩
instance:bk E 27 3 (8,1,false):=⟨O⟩
instance:bk E 27 4 (9,1,false):=⟨O⟩
instance:eo E 28 (47,7,56):=⟨O⟩
instance:fR E 29:=⟨O⟩
instance:dr E 30:=⟨O⟩
instance:cy E 34 [j 0,j 0,j 0]:=⟨O⟩
instance:ey E 34 [(0,1),(1,1),(2,1)]:=⟨O⟩
instance:dr E 38:=⟨O⟩
instance:cy E 38 [.slice none 0 0]:=⟨O⟩
instance:eo E 38 (43,3,24):=⟨O⟩
instance:dr E 39:=⟨O⟩
instance:cy E 39 [.slice none 0 0]:=⟨O⟩
instance:eo E 39 (45,3,24):=⟨O⟩
instance:cy E 41 [.slice none 0 0,.slice none 0 0,j 0]:=⟨O⟩
instance:ey E 41 [(0,1),(1,1),(2,1)]:=⟨O⟩
instance:bk E 41 0 (0,1,false):=⟨O⟩
instance:bk E 41 1 (1,1,false):=⟨O⟩
instance:bk E 41 2 (2,1,false):=⟨O⟩
instance:gR E 43 3:=⟨O⟩
instance:cy E 43 [j 0,j 0,j 0]:=⟨O⟩
instance:rG E 43 3:=⟨O⟩
instance:ey E 43 [(0,1),(1,1),(2,1)]:=⟨O⟩
instance:bk E 43 0 (0,1,false):=⟨O⟩
instance:bk E 43 1 (1,1,false):=⟨O⟩
instance:bk E 43 2 (2,1,false):=⟨O⟩
instance:gR E 45 3:=⟨O⟩
instance:cy E 45 [j 0,j 0,j 0]:=⟨O⟩
instance:ey E 45 [(0,1),(1,1),(2,1)]:=⟨O⟩
instance:bk E 45 0 (0,1,false):=⟨O⟩
instance:bk E 45 1 (1,1,false):=⟨O⟩
instance:bk E 45 2 (2,1,false):=⟨O⟩
instance:gR E 47 7:=⟨O⟩
instance:cy E 47 [j 0,j 0,j 0,j 0,j 0,j 0,j 0]:=⟨O⟩
instance:ey E 47 [(0,1),(1,3),(4,3)]:=⟨O⟩
instance:bk E 47 0 (0,1,false):=⟨O⟩
instance:bk E 47 1 (1,3,true):=⟨O⟩
instance:bk E 47 2 (4,3,true):=⟨O⟩
instance:gR E 53 18:=⟨O⟩
instance:cy E 53 [j 0,j 0,j 0,j 0,j 0,j 0,j 0,j 0,j 0,j 0,j 0,j 0,j 0,j 0,j 0,j 0,j 0,j 0]:=⟨O⟩
instance:ey E 53 [(0,1),(1,7),(8,10)]:=⟨O⟩
instance:bk E 53 0 (0,1,false):=⟨O⟩
instance:bk E 53 1 (1,7,true):=⟨O⟩
instance:bk E 53 2 (8,10,true):=⟨O⟩
instance:dr E 59:=⟨O⟩
instance:cy E 59 [.slice none 0 0]:=⟨O⟩
instance:eo E 59 (3,1,8):=⟨O⟩
instance:gR E 61 2:=⟨O⟩
instance:cy E 61 [j 0,.slice none 0 0]:=⟨O⟩
instance:ey E 61 [(0,1),(1,1)]:=⟨O⟩
instance:bk E 61 0 (0,1,false):=⟨O⟩
instance:bk E 61 1 (1,1,false):=⟨O⟩
instance:gR E 63 5:=⟨O⟩
instance:cy E 63 [j 0,.bool false,.bool false,j 0,.slice none 0 0]:=⟨O⟩
instance:ey E 63 [(0,1),(1,1),(2,1),(3,2)]:=⟨O⟩
instance:bk E 63 0 (0,1,false):=⟨O⟩
instance:bk E 63 1 (1,1,false):=⟨O⟩
instance:bk E 63 2 (2,1,false):=⟨O⟩
instance:bk E 63 3 (3,2,true):=⟨O⟩
instance:dr E 66:=⟨O⟩
instance:cy E 66 [j 0]:=⟨O⟩
instance:dr E 86:=⟨O⟩
instance:eo E 86 (166,27,224):=⟨O⟩
instance:bk E 88 6 (6,1,false):=⟨O⟩
instance:bk E 88 7 (7,1,false):=⟨O⟩
instance:dr E 103:=⟨O⟩
instance:fR E 103:=⟨O⟩
instance:bk E 132 0 (0,1,false):=⟨O⟩
instance:dr E 134:=⟨O⟩
instance:dr E 145:=⟨O⟩
instance:fR E 147:=⟨O⟩
instance:cy E 166 [j 0,j 0,j 0,j 0,j 0,j 0,j 0,j 0,j 0,j 0,j 0,j 0,j 0,j 0,j 0,j 0,j 0,j 0,j 0,j 0,j 0,j 0,j 0,.bool false,.bool false,j 0,.slice none 0 0]:=⟨O⟩
instance:ey E 166 [(0,1),(1,1),(2,1),(3,1),(4,18),(22,5)]:=⟨O⟩
instance:dr E 189:=⟨O⟩
instance:dr E 194:=⟨O⟩
instance:dr E 195:=⟨O⟩
instance:cy E 197 [.map none,.map none,j 0]:=⟨O⟩
instance:ey E 197 [(0,1),(1,1),(2,1)]:=⟨O⟩
instance:bk E 197 0 (0,1,false):=⟨O⟩
instance:bk E 197 1 (1,1,false):=⟨O⟩
instance:bk E 197 2 (2,1,false):=⟨O⟩
instance:fR E 198:=⟨O⟩
instance:fR E 199:=⟨O⟩
instance:fR E 200:=⟨O⟩
instance:fR E 201:=⟨O⟩
instance:fR E 202:=⟨O⟩
instance:gR E 221 2:=⟨O⟩
instance:cy E 221 [j 0,j 0]:=⟨O⟩
instance:ey E 221 [(0,1),(1,1)]:=⟨O⟩
instance:bk E 221 1 (1,1,false):=⟨O⟩
instance:dr E 253:=⟨O⟩
instance:cy E 253 [.pointer none]:=⟨O⟩
instance:fR E 253:=⟨O⟩
instance:cy E 255 [.pointer none,j 0,j 0,j 0]:=⟨O⟩
instance:ey E 255 [(0,1),(1,1),(2,1),(3,1)]:=⟨O⟩
instance:bk E 255 0 (0,1,false):=⟨O⟩
instance:bk E 255 1 (1,1,false):=⟨O⟩
instance:bk E 255 2 (2,1,false):=⟨O⟩
instance:bk E 255 3 (3,1,false):=⟨O⟩
instance:dr E 256:=⟨O⟩
instance:dr E 257:=⟨O⟩
instance:eo E 257 (325,1,8):=⟨O⟩
instance:cy E 259 [.slice none 0 0,.map none,j 0,j 0,j 0]:=⟨O⟩
instance:ey E 259 [(0,1),(1,1),(2,1),(3,1),(4,1)]:=⟨O⟩
instance:bk E 259 0 (0,1,false):=⟨O⟩
instance:bk E 259 1 (1,1,false):=⟨O⟩
instance:bk E 259 2 (2,1,false):=⟨O⟩
instance:bk E 259 3 (3,1,false):=⟨O⟩
instance:bk E 259 4 (4,1,false):=⟨O⟩
instance:dr E 260:=⟨O⟩
instance:cy E 260 [.pointer none]:=⟨O⟩
instance:fR E 260:=⟨O⟩
instance:cy E 262 [.pointer none,j 0]:=⟨O⟩
instance:ey E 262 [(0,1),(1,1)]:=⟨O⟩
instance:bk E 262 0 (0,1,false):=⟨O⟩
instance:bk E 262 1 (1,1,false):=⟨O⟩
instance:dr E 263:=⟨O⟩
instance:cy E 263 [.pointer none]:=⟨O⟩
instance:fR E 263:=⟨O⟩
instance:cy E 265 [.pointer none,j 0]:=⟨O⟩
instance:ey E 265 [(0,1),(1,1)]:=⟨O⟩
instance:bk E 265 0 (0,1,false):=⟨O⟩
instance:bk E 265 1 (1,1,false):=⟨O⟩
instance:dr E 266:=⟨O⟩
instance:fR E 266:=⟨O⟩
instance:dr E 268:=⟨O⟩
instance:fR E 268:=⟨O⟩
instance:cy E 270 [.pointer none,.pointer none,.slice none 0 0,j 0,j 0]:=⟨O⟩
instance:ey E 270 [(0,1),(1,1),(2,1),(3,1),(4,1)]:=⟨O⟩
instance:bk E 270 0 (0,1,false):=⟨O⟩
instance:bk E 270 1 (1,1,false):=⟨O⟩
instance:bk E 270 2 (2,1,false):=⟨O⟩
instance:bk E 270 3 (3,1,false):=⟨O⟩
instance:bk E 270 4 (4,1,false):=⟨O⟩
instance:eo E 271 (66,1,8):=⟨O⟩
instance:gR E 311 2:=⟨O⟩
instance:cy E 311 [.pointer none,.pointer none]:=⟨O⟩
instance:lH E 311 (2,266,1):=⟨O⟩
instance:cy E 313 [j 0,j 0,.slice none 0 0,.pointer none,.pointer none]:=⟨O⟩
instance:ey E 313 [(0,1),(1,1),(2,1),(3,2)]:=⟨O⟩
instance:bk E 313 0 (0,1,false):=⟨O⟩
instance:bk E 313 1 (1,1,false):=⟨O⟩
instance:bk E 313 2 (2,1,false):=⟨O⟩
instance:bk E 313 3 (3,2,true):=⟨O⟩
instance:dr E 325:=⟨O⟩
instance:cy E 325 [.pointer none]:=⟨O⟩
instance:fR E 325:=⟨O⟩
instance:gR E 390 2:=⟨O⟩
instance:lH E 390 (2,253,1):=⟨O⟩
instance:cy E 392 [j 0,j 0,j 0,.bool false,.pointer none,.pointer none,j 0,j 0,j 0,j 0,j 0]:=⟨O⟩
instance:ey E 392 [(0,3),(3,1),(4,2),(6,1),(7,4)]:=⟨O⟩
instance:bk E 392 0 (0,3,true):=⟨O⟩
instance:bk E 392 1 (3,1,false):=⟨O⟩
instance:bk E 392 2 (4,2,true):=⟨O⟩
instance:bk E 392 3 (6,1,false):=⟨O⟩
instance:bk E 392 4 (7,4,true):=⟨O⟩
instance:dr E 398:=⟨O⟩
instance:fR E 398:=⟨O⟩
instance:cy E 400 [.pointer none,.slice none 0 0]:=⟨O⟩
instance:ey E 400 [(0,1),(1,1)]:=⟨O⟩
instance:bk E 400 0 (0,1,false):=⟨O⟩
instance:bk E 400 1 (1,1,false):=⟨O⟩
instance:dr E 401:=⟨O⟩
instance:dr E 403:=⟨O⟩
instance:fR E 403:=⟨O⟩
instance:gR E 404 2:=⟨O⟩
instance:cy E 404 [.pointer none,.pointer none]:=⟨O⟩
instance:lH E 404 (2,398,1):=⟨O⟩
instance:cy E 406 [.pointer none,j 0,j 0,.pointer none,.pointer none]:=⟨O⟩
instance:ey E 406 [(0,1),(1,1),(2,1),(3,2)]:=⟨O⟩
instance:bk E 406 0 (0,1,false):=⟨O⟩
instance:bk E 406 1 (1,1,false):=⟨O⟩
instance:bk E 406 2 (2,1,false):=⟨O⟩
instance:bk E 406 3 (3,2,true):=⟨O⟩
instance:cy E 410 [j 0,j 0,j 0,j 0,j 0,j 0,.pointer none,.pointer none,j 0]:=⟨O⟩
instance:ey E 410 [(0,3),(3,3),(6,1),(7,1),(8,1)]:=⟨O⟩
instance:bk E 410 0 (0,3,true):=⟨O⟩
instance:bk E 410 1 (3,3,true):=⟨O⟩
instance:bk E 410 2 (6,1,false):=⟨O⟩
instance:bk E 410 3 (7,1,false):=⟨O⟩
instance:bk E 410 4 (8,1,false):=⟨O⟩
instance:gR E 413 2:=⟨O⟩
instance:cy E 413 [.pointer none,.pointer none]:=⟨O⟩
instance:lH E 413 (2,263,1):=⟨O⟩
instance:cy E 415 [j 0,.slice none 0 0,.slice none 0 0,.pointer none,.pointer none,j 0]:=⟨O⟩
instance:ey E 415 [(0,1),(1,1),(2,1),(3,2),(5,1)]:=⟨O⟩
instance:bk E 415 0 (0,1,false):=⟨O⟩
instance:bk E 415 1 (1,1,false):=⟨O⟩
instance:bk E 415 2 (2,1,false):=⟨O⟩
instance:bk E 415 3 (3,2,true):=⟨O⟩
instance:bk E 415 4 (5,1,false):=⟨O⟩
instance:fR E 431:=⟨O⟩
instance:fR E 435:=⟨O⟩
instance:fR E 437:=⟨O⟩
instance:fR E 440:=⟨O⟩
instance:fR E 443:=⟨O⟩
instance:cy E 475 [.slice none 0 0]:=⟨O⟩
instance:ey E 475 [(0,1)]:=⟨O⟩
instance:bk E 475 0 (0,1,false):=⟨O⟩
instance:cy E 497 [.pointer none,j 0,.nilFunc,.slice none 0 0,j 0]:=⟨O⟩
instance:ey E 497 [(0,1),(1,1),(2,1),(3,1),(4,1)]:=⟨O⟩
instance:bk E 497 0 (0,1,false):=⟨O⟩
instance:bk E 497 1 (1,1,false):=⟨O⟩
instance:bk E 497 2 (2,1,false):=⟨O⟩
instance:bk E 497 3 (3,1,false):=⟨O⟩
instance:bk E 497 4 (4,1,false):=⟨O⟩
instance:dr E 525:=⟨O⟩
instance:eo E 525 (529,5,40):=⟨O⟩
instance:cy E 527 [.slice none 0 0,.pointer none,.pointer none]:=⟨O⟩
instance:ey E 527 [(0,1),(1,1),(2,1)]:=⟨O⟩
instance:bk E 527 0 (0,1,false):=⟨O⟩
instance:bk E 527 1 (1,1,false):=⟨O⟩
instance:bk E 527 2 (2,1,false):=⟨O⟩
instance:gR E 529 5:=⟨O⟩
instance:cy E 529 [j 0,j 0,j 0,j 0,j 0]:=⟨O⟩
instance:ey E 529 [(0,3),(3,1),(4,1)]:=⟨O⟩
instance:bk E 529 0 (0,3,true):=⟨O⟩
instance:bk E 529 1 (3,1,false):=⟨O⟩
instance:bk E 529 2 (4,1,false):=⟨O⟩
instance:eo E 534 (38,1,24):=⟨O⟩
instance:eo E 536 (39,1,24):=⟨O⟩
instance:dr E 555:=⟨O⟩
instance:cy E 555 [.pointer none]:=⟨O⟩
instance:fR E 555:=⟨O⟩
instance:gR E 559 3:=⟨O⟩
instance:cy E 559 [.pointer none,j 0,j 0]:=⟨O⟩
instance:ey E 559 [(0,1),(1,1),(2,1)]:=⟨O⟩
instance:bk E 559 0 (0,1,false):=⟨O⟩
instance:bk E 559 1 (1,1,false):=⟨O⟩
instance:bk E 559 2 (2,1,false):=⟨O⟩
instance:cy E 561 [.pointer none,j 0,j 0,j 0,j 0,.bool false,.slice none 0 0,j 0,j 0]:=⟨O⟩
instance:ey E 561 [(0,1),(1,4),(5,1),(6,1),(7,1),(8,1)]:=⟨O⟩
instance:bk E 561 0 (0,1,false):=⟨O⟩
instance:bk E 561 1 (1,4,true):=⟨O⟩
instance:bk E 561 2 (5,1,false):=⟨O⟩
instance:bk E 561 3 (6,1,false):=⟨O⟩
instance:bk E 561 4 (7,1,false):=⟨O⟩
instance:bk E 561 5 (8,1,false):=⟨O⟩
instance:dr E 567:=⟨O⟩
instance:fR E 567:=⟨O⟩
instance:cy E 572 [.pointer none,j 0,j 0,j 0,.bool false,.slice none 0 0,j 0,j 0]:=⟨O⟩
instance:ey E 572 [(0,1),(1,3),(4,1),(5,1),(6,1),(7,1)]:=⟨O⟩
instance:bk E 572 0 (0,1,false):=⟨O⟩
instance:bk E 572 1 (1,3,true):=⟨O⟩
instance:bk E 572 2 (4,1,false):=⟨O⟩
instance:bk E 572 3 (5,1,false):=⟨O⟩
instance:bk E 572 4 (6,1,false):=⟨O⟩
instance:bk E 572 5 (7,1,false):=⟨O⟩
instance:dr E 573:=⟨O⟩
instance:fR E 573:=⟨O⟩
instance:cy E 578 [.pointer none,j 0,j 0,j 0,j 0,.bool false,.slice none 0 0,j 0,j 0]:=⟨O⟩
instance:ey E 578 [(0,1),(1,4),(5,1),(6,1),(7,1),(8,1)]:=⟨O⟩
instance:bk E 578 0 (0,1,false):=⟨O⟩
instance:bk E 578 1 (1,4,true):=⟨O⟩
instance:bk E 578 2 (5,1,false):=⟨O⟩
instance:bk E 578 3 (6,1,false):=⟨O⟩
instance:bk E 578 4 (7,1,false):=⟨O⟩
instance:bk E 578 5 (8,1,false):=⟨O⟩
instance:dr E 579:=⟨O⟩
instance:fR E 579:=⟨O⟩
instance:cy E 584 [.pointer none,j 0,j 0,.slice none 0 0,j 0]:=⟨O⟩
instance:ey E 584 [(0,1),(1,1),(2,1),(3,1),(4,1)]:=⟨O⟩
instance:bk E 584 0 (0,1,false):=⟨O⟩
instance:bk E 584 1 (1,1,false):=⟨O⟩
instance:bk E 584 2 (2,1,false):=⟨O⟩
instance:bk E 584 3 (3,1,false):=⟨O⟩
instance:bk E 584 4 (4,1,false):=⟨O⟩
instance:dr E 604:=⟨O⟩
instance:eo E 604 (559,3,24):=⟨O⟩
instance:cy E 606 [.slice none 0 0,j 0]:=⟨O⟩
instance:ey E 606 [(0,1),(1,1)]:=⟨O⟩
instance:bk E 606 0 (0,1,false):=⟨O⟩
instance:bk E 606 1 (1,1,false):=⟨O⟩
instance:dr E 609:=⟨O⟩
instance:eo E 609 (260,1,8):=⟨O⟩
instance:cy E 611 [.slice none 0 0,j 0]:=⟨O⟩
instance:ey E 611 [(0,1),(1,1)]:=⟨O⟩
instance:bk E 611 0 (0,1,false):=⟨O⟩
instance:bk E 611 1 (1,1,false):=⟨O⟩
instance:dr E 613:=⟨O⟩
instance:eo E 613 (253,1,8):=⟨O⟩
instance:cy E 615 [.slice none 0 0,j 0]:=⟨O⟩
instance:ey E 615 [(0,1),(1,1)]:=⟨O⟩
instance:bk E 615 0 (0,1,false):=⟨O⟩
instance:bk E 615 1 (1,1,false):=⟨O⟩
instance:dr E 617:=⟨O⟩
instance:eo E 617 (263,1,8):=⟨O⟩
instance:cy E 619 [.slice none 0 0,j 0]:=⟨O⟩
instance:ey E 619 [(0,1),(1,1)]:=⟨O⟩
instance:bk E 619 0 (0,1,false):=⟨O⟩
instance:bk E 619 1 (1,1,false):=⟨O⟩
instance:cy E 625 [.slice none 0 0,.slice none 0 0]:=⟨O⟩
instance:lH E 625 (2,39,1):=⟨O⟩
instance:cy E 634 [.pointer none,j 0,j 0]:=⟨O⟩
instance:ey E 634 [(0,1),(1,1),(2,1)]:=⟨O⟩
instance:bk E 634 0 (0,1,false):=⟨O⟩
instance:bk E 634 1 (1,1,false):=⟨O⟩
instance:bk E 634 2 (2,1,false):=⟨O⟩
instance:dr E 638:=⟨O⟩
instance:dr E 666:=⟨O⟩
instance:dr E 667:=⟨O⟩
instance:cy E 667 [.pointer none]:=⟨O⟩
instance:cy E 669 [.pointer none,.nilFunc,j 0]:=⟨O⟩
instance:ey E 669 [(0,1),(1,1),(2,1)]:=⟨O⟩
instance:bk E 669 0 (0,1,false):=⟨O⟩
instance:bk E 669 1 (1,1,false):=⟨O⟩
instance:bk E 669 2 (2,1,false):=⟨O⟩
instance:dr E 684:=⟨O⟩
instance:dr E 685:=⟨O⟩
instance:cy E 685 [.pointer none]:=⟨O⟩
instance:cy E 687 [.pointer none,.nilFunc,j 0]:=⟨O⟩
instance:ey E 687 [(0,1),(1,1),(2,1)]:=⟨O⟩
instance:bk E 687 0 (0,1,false):=⟨O⟩
instance:bk E 687 1 (1,1,false):=⟨O⟩
instance:bk E 687 2 (2,1,false):=⟨O⟩
instance:dr E 695:=⟨O⟩
instance:dr E 696:=⟨O⟩
instance:cy E 696 [.pointer none]:=⟨O⟩
instance:cy E 698 [.pointer none,.nilFunc,j 0]:=⟨O⟩
instance:ey E 698 [(0,1),(1,1),(2,1)]:=⟨O⟩
instance:bk E 698 0 (0,1,false):=⟨O⟩
instance:bk E 698 1 (1,1,false):=⟨O⟩
instance:bk E 698 2 (2,1,false):=⟨O⟩
instance:dr E 709:=⟨O⟩
instance:dr E 710:=⟨O⟩
instance:cy E 710 [.pointer none]:=⟨O⟩
instance:cy E 712 [.pointer none,.nilFunc,j 0]:=⟨O⟩
instance:ey E 712 [(0,1),(1,1),(2,1)]:=⟨O⟩
instance:bk E 712 0 (0,1,false):=⟨O⟩
instance:bk E 712 1 (1,1,false):=⟨O⟩
instance:bk E 712 2 (2,1,false):=⟨O⟩
instance:Cr E 542 39:=⟨⟨_,4,Tryz.func542,O,O,O,O⟩⟩
instance:Cr E 556 38:=⟨⟨_,4,Tryz.func556,O,O,O,O⟩⟩
section
attribute [local irreducible] G
def dX{j:aG}{C:Addr}{v:Value}(h:aR j C v:=by repeat' first|exact aR.ae p|assumption|apply aR.skip|apply aR.bE):aR j C v:=h
def bS{j:aG}{b o n:Nat}{C:cs}(h:aB j b o n C:=by repeat' first|exact aB.ae p|assumption|apply aB.skip|apply aB.bE):aB j b o n C:=h
def cd{b D:Nat}{E:cs}{j C:aG}(h:h3 b D E j C:=by repeat' first|exact h3.here p|apply h3.skip|apply h3.bE):h3 b D E j C:=h
def ah{j:Prop}(h:j:=by first|omega|(simp;done)|(simp;omega)):j:=h
def aI{D:aO}{j C:aG}(h:aN D j C:=by repeat' first|exact aN.here|apply aN.skip|apply aN.bE):aN D j C:=h
def cn{C:aG}{D n:Nat}{j:bA}{E:cs}(h:aM C D j n E:=by repeat' first|exact aM.ae p|assumption|apply aM.skip|apply aM.bE):aM C D j n E:=h
def cr{D:Type}[e5 D]{C:aG}{j:bA}{n:Nat}{l:List D}(h:Rd C j n l:=by repeat' first|exact aM.ae p|assumption|apply Rd.skip|apply Rd.bE):Rd C j n l:=h
theorem az{j M:aG}(h:∀h,G j h->G M h:=by(repeat first|exact λ_ s=>s|apply nm|apply lQ|apply r4)<;>fail):∀h,G j h->G M h:=h
theorem aq{j M:aG}(h:∀h,G j h->G M h:=by(repeat first|exact bo|(apply zu;focus ((repeat' first|exact aN.here|apply aN.skip|apply aN.bE);done);focus rfl)|(apply r5;focus ((repeat' first|exact aN.here|apply aN.skip|apply aN.bE);done);focus rfl)|(apply bR;focus ((repeat' first|exact aN.here|apply aN.skip|apply aN.bE);done))|apply lQ|apply r4)<;>fail):∀h,G j h->G M h:=h
def yj{j M:aG}(h:∀h,G j h->G M h:=by first|exact az|exact aq):∀h,G j h->G M h:=h
def rH{C:Program}{j:aG}{D:bW}{o:Oper}{v:Value}(h:bf C j D o v:=by first|(apply fv;rfl)|(apply d6;rfl;exact dX)|(apply sc;rfl)|(apply iE;rfl)|(apply Ku;rfl)|(apply er;rfl;exact bS)|(apply ur;rfl;rfl)|(apply wz;rfl)|(apply hx;rfl;rfl;exact ah)|(apply ns;rfl;rfl;exact ah;exact ah)|(apply Dz;rfl;rfl)|(apply Kv;rfl;rfl)|(apply nt (q:=1);rfl;rfl)|(apply nt (q:=0);rfl;rfl)|(apply nt;rfl;rfl)|(apply py;rfl;rfl)|(apply zD;rfl;rfl)|(apply TL;rfl;rfl)|(apply TH;rfl;rfl)|(apply aaJ;rfl;rfl)|(apply TM;rfl;rfl)|(apply aaL;rfl;rfl)|(apply eP;rfl;rfl;rfl)|(apply eW;rfl;rfl;rfl)|(apply TJ;rfl;rfl)|(apply zF;rfl;rfl)|(apply TK;rfl;rfl)|(apply Kx;rfl;rfl)|(apply Kw;rfl;rfl)|(apply zB (q:=1);rfl;rfl;exact ah)|(apply zB (q:=2);rfl;rfl;exact ah)|(apply zB;rfl;rfl;exact ah)|(apply Dy;rfl;rfl;exact ah)|(apply uw (q:=1);rfl;rfl;exact ah)|(apply wB (q:=1);rfl;rfl;exact ah)|(apply uw;rfl;rfl;exact ah)|(apply wB;rfl;rfl;exact ah)|(apply aaM;rfl)|(apply cL;rfl)|(apply KB;rfl;rfl;exact ah)|(apply TB;rfl)|(apply TD;rfl;rfl)|(apply aaK;rfl;rfl)|(apply KA;rfl;rfl)|(apply uu;rfl;rfl)|(apply Ky;rfl;rfl)):bf C j D o v:=h
def gi:Nat->List eU->List eU
 |n+1,.code (.seq E y)::j=>gi n (.code E:: .code y::j)
 |n+1,.code .skip::j=>gi n j
 |n+1,.ae _::j=>gi n j
 |n+1,.code (.block id D)::j=>gi n (.code D:: .ae id::j)
 |n+1,.code (.exit id)::j=>match s1 id j with
  |some C=>gi n C
  |none=> .code (.exit id)::j
 | _,j=>j
section
variable{P:Program}{B:Exit->Act->World->Prop}{g:c0}{n:Nat}{aK:List eU}{J:bW}{L S:aG}{ar:Array Oper}{l lo:List Oper}{s:jk}
def m0:∀(m)(aK),bc P B g n (gi m aK) J L->bc P B g n aK J L
 |0,aK,h=>by
  have j:gi 0 aK=aK:=by unfold gi;rfl
  rwa[j]at h
 |m+1,[],h=>h
 |m+1,.inv D::aK,h=>h
 |m+1,.ae E::aK,h=>gk (m0 m aK h)
 |m+1,.code C::aK,h=>by
  cases C with
  |seq G y=>exact bZ (m0 m _ h)
  |skip=>exact fi (m0 m _ h)
  |block id C=>exact yn (m0 m _ h)
  |exit id=>
   unfold gi at h;split at h
   ·rename_i j
    exact Iv j (m0 m _ h)
   ·exact h
  | _=>exact h
def aF{j:List eU}(h:bc P B g n j J L)(C:gi 60 aK=j:=by rfl):bc P B g n aK J L:=m0 60 aK (C▸h)
def aD{o:Oper}{v:Value}(C:bf P L J o v)(h:c3 P B g n ar l aK (fb J o.dst v) L)(D:o.guard=none:=by rfl)(j:ef n o.dst=true:=by rfl):c3 P B g n ar (o::l) aK J L:=yl D j C h
def GE{o:Oper}{post:Value->List aO->Prop}(D:cc P g L J o post)(h:∀v j,post v j->c3 P B g n ar l aK (fb J o.dst v) j)(E:o.guard=none:=by rfl)(C:ef n o.dst=true:=by rfl):c3 P B g n ar (o::l) aK J L:=tA E C D h
def cV{j:Func}{C:c0}{F:aO}{post:Value->List aO->Prop}{D:Nat}{o:Oper}{v:Value}(K:lo[D]?=some o)(G:bf P S J o v)(h:d4 P (mQ P j C F post) g n lo S s aK (fb J o.dst v) L)(O:kM o=false:=by rfl)(I:o.guard=none:=by rfl)(E:ef n o.dst=true:=by rfl):d4 P (mQ P j C F post) g n lo S (.q D s) aK J L:=n7 aT K O I E G h
def dd{j:Func}{C:c0}{F:aO}{post:Value->List aO->Prop}{D:Nat}{o:Oper}{v:Value}(K:lo[D]?=some o)(G:bf P [] J o v)(h:d4 P (mQ P j C F post) g n lo S s aK (fb J o.dst v) L)(O:kM o=true:=by rfl)(I:o.guard=none:=by rfl)(E:ef n o.dst=true:=by rfl):d4 P (mQ P j C F post) g n lo S (.q D s) aK J L:=kA aT K O I E G h
inductive o7 (P:Program) (L:aG) (ar:Array Oper) (J:bW) (E:Option Nat) (G:Op) (K:TypeId) (I:String) (D:Array Edge):Option (Nat×Bool)->Value->Prop where
 |plain {v:Value} (U:bf P L J ⟨E,G,K,I,D,none⟩ v):o7 P L ar J E G K I D none v
 |PQ {C j:Nat} {b:Bool} {v:Value} (R:(ar[C]?).bind (·.dst)=some j) (Q:J.get j=some (.bool b)) (U:bf P L J ⟨E,G,K,I,D,none⟩ v):o7 P L ar J E G K I D (some (C,b)) v
 |no {C j:Nat} {b O:Bool} (R:(ar[C]?).bind (·.dst)=some j) (Q:J.get j=some (.bool O)) (W:O=!b):o7 P L ar J E G K I D (some (C,b)) undef
 |un {C j:Nat} {b:Bool} (R:(ar[C]?).bind (·.dst)=some j) (Q:J.get j=some undef):o7 P L ar J E G K I D (some (C,b)) undef
def ad{E:Option Nat}{O:Op}{R:TypeId}{Q:String}{I:Array Edge}{K:Option (Nat×Bool)}{v:Value}(h:c3 P B g n ar l aK (fb J E v) L)(C:ef n E=true:=by rfl)(W:o7 P L ar J E O R Q I K v:=by first|(apply o7.plain;exact rH)|(apply o7.PQ p p;exact rH)|exact o7.no p p p|exact o7.un p p):c3 P B g n ar (⟨E,O,R,Q,I,K⟩::l) aK J L:=by
 cases W with
 |plain G=>exact yl p C G h
 |PQ D j G=>exact br D j C p (yl p C G h)
 |no D j U=>exact el D j C U h
 |un D j=>exact Ir D j C h
inductive lL (P:Program) (S:aG) (lo:List Oper) (J:bW) (o:Oper):Value->Prop where
 |m {v:Value} (K:kM o=true) (D:o.guard=none) (G:bf P [] J o v):lL P S lo J o v
 |q {v:Value} (K:kM o=false) (D:o.guard=none) (G:bf P S J o v):lL P S lo J o v
 |MH {C j:Nat} {b:Bool} {v:Value} (K:kM o=true) (D:o.guard=some (C,b)) (I:(lo[C]?).bind (·.dst)=some j) (E:J.get j=some (.bool b)) (G:bf P [] J o v):lL P S lo J o v
 |Oe {C j:Nat} {b:Bool} {v:Value} (K:kM o=false) (D:o.guard=some (C,b)) (I:(lo[C]?).bind (·.dst)=some j) (E:J.get j=some (.bool b)) (G:bf P S J o v):lL P S lo J o v
 |no {C j:Nat} {b O:Bool} (D:o.guard=some (C,b)) (I:(lo[C]?).bind (·.dst)=some j) (E:J.get j=some (.bool O)) (Q:O=!b):lL P S lo J o undef
 |un {C j:Nat} {b:Bool} (D:o.guard=some (C,b)) (I:(lo[C]?).bind (·.dst)=some j) (E:J.get j=some undef):lL P S lo J o undef
def ai{O:Func}{Q:c0}{F:aO}{post:Value->List aO->Prop}{R:Nat}{o:Oper}{v:Value}(h:d4 P (mQ P O Q F post) g n lo S s aK (fb J o.dst v) L)(K:lo[R]?=some o:=by rfl)(I:ef n o.dst=true:=by rfl)(W:lL P S lo J o v:=by first|(apply lL.m p p;exact rH)|(apply lL.q p p;exact rH)|(apply lL.MH p p p p;exact rH)|(apply lL.Oe p p p p;exact rH)|exact lL.no p p p p|exact lL.un p p p):d4 P (mQ P O Q F post) g n lo S (.q R s) aK J L:=by
 cases W with
 |m G j D=>exact kA aT K G j I D h
 |q G j D=>exact n7 aT K G j I D h
 |MH G j E C D=>exact b0 aT K G j E ⟨_,C,rfl⟩ I D h
 |Oe G j E C D=>exact fF aT K G j E ⟨_,C,rfl⟩ I D h
 |no j E C U=>exact cw aT K j E ⟨_,C,U⟩ I h
 |un j E C=>exact Rf aT K j E C I h
def eD.val{E D v}(G:eD J E)(h:J.get D=some v):eD ((D,v)::J) E:=by
 intro s I j;simp only[bW.get]at j;cases C:aA D s with
 |true=>
  rw[C]at j;have:v=I:=by simpa using j
  subst this;rw[<- bV C];exact G _ _ h
 |false=>rw[C]at j;exact G _ _ (by simpa using j)
def dE(D){b C}(I:J.get D=some (.bool b))(G:b=C)(h:c3 P B g n ar l aK ((D,.bool C)::J) L):c3 P B g n ar l aK J L:=λE O j K=>by
 subst G;exact h E O ⟨j.size,j.defers,j.e.val I⟩ K
def dB(D){b C}(O:J.get D=some (.bool b))(G:b=C)(h:d4 P B g n lo S s aK ((D,.bool C)::J) L):d4 P B g n lo S s aK J L:=λR aa ab I K E U j Q=>by
 subst G;exact h R aa ab I K E U ⟨j.size,j.defers,j.e.val O⟩ Q
def aJ{id:Nat}{j:List eU}(h:c3 P B g n l.toArray l j J L)(C:gi 60 aK=.code (.region id l.toArray false)::j:=by rfl):bc P B g n aK J L:=m0 60 aK (C▸cv h)
def bD{id:Nat}{j:List eU}(h:c3 P B g n l.toArray l j J L)(C:gi 60 aK=.code (.region id l.toArray false)::j:=by rfl):c3 P B g n ar [] aK J L:=aL (aJ h C)
def m3{id:Nat}{j:List eU}(h:c3 P B g n l.toArray l j J L)(C:gi 60 aK=.code (.region id l.toArray false)::j:=by rfl):d4 P B g n lo S .nil aK J L:=dl (aJ h C)
def aE:List Nat->jk->jk
 | [],s=>s
 |i::l,s=> .q i (aE l s)
def aW{id:Nat}{j:List eU}(s:jk)(h:d4 P B g n l L s j J L)(C:gi 60 aK=.code (.region id l.toArray true)::j:=by rfl)(E:P.follows .mixedOrders=true:=by kernel_rfl)(D:(nG l&&(Region.noSelect l.toArray&&Nat.beq s.len l.length&&iu l.toArray s (Array.replicate l.length false)))=true:=by kernel_rfl):bc P B g n aK J L:=m0 60 aK (C▸o4 s E D h)
def hr{id:Nat}{j:List eU}(C:Nat)(s:jk)(h:d4 P B g n l (r9 L C) s j J L)(D:gi 60 aK=.code (.region id l.toArray true)::j:=by rfl)(G:P.follows .mixedOrders=true:=by kernel_rfl)(E:(nG l&&(Region.noSelect l.toArray&&Nat.beq s.len l.length&&iu l.toArray s (Array.replicate l.length false)))=true:=by kernel_rfl):bc P B g n aK J L:=m0 60 aK (D▸Qo C s G E h)
def jJ{C:Operand}{D y:Code}{j:List eU}{b:Bool}(h:bc P B g n (.code D::j) J L)(E:gi 60 aK=.code (.cond C D y)::j:=by rfl)(I:aY J C=some (.bool b):=by rfl)(G:b=true:=by rfl):bc P B g n aK J L:=m0 60 aK (E▸cD I G h)
def iT{C:Operand}{I y:Code}{j:List eU}{b:Bool}(h:bc P B g n (.code y::j) J L)(D:gi 60 aK=.code (.cond C I y)::j:=by rfl)(G:aY J C=some (.bool b):=by rfl)(E:b=false:=by rfl):bc P B g n aK J L:=m0 60 aK (D▸b2 G E h)
def af{j:List eU}(h:bc P B g n j J L)(C:gi 60 aK=j:=by rfl):c3 P B g n ar [] aK J L:=aL (aF h C)
def cK{j:List eU}(h:bc P B g n j J L)(C:gi 60 aK=j:=by rfl):d4 P B g n lo S .nil aK J L:=dl (aF h C)
def f7{C:Operand}{D y:Code}{j:List eU}{b:Bool}(h:bc P B g n (.code D::j) J L)(E:gi 60 aK=.code (.cond C D y)::j:=by rfl)(I:aY J C=some (.bool b):=by rfl)(G:b=true:=by rfl):c3 P B g n ar [] aK J L:=aL (jJ h E I G)
def dG{C:Operand}{I y:Code}{j:List eU}{b:Bool}(h:bc P B g n (.code y::j) J L)(D:gi 60 aK=.code (.cond C I y)::j:=by rfl)(G:aY J C=some (.bool b):=by rfl)(E:b=false:=by rfl):c3 P B g n ar [] aK J L:=aL (iT h D G E)
def aU{o:Oper}{j:Nat->Value}{M:Nat->List aO}(h:∀b,c3 P B g n ar l aK (fb J o.dst (j b)) (M b))(G:o.guard=none:=by rfl)(D:ef n o.dst=true:=by rfl)(E:cc P g L J o (λv C=>∃b,v=j b/\C=M b):=by first|(apply wo;rfl)|exact r2|(apply e8;rfl;rfl;rfl)|(apply wq;rfl;rfl;rfl)|exact jS):c3 P B g n ar (o::l) aK J L:=tA G D E (by rintro _ _ ⟨b,rfl,rfl⟩;exact h b)
def cF{o:Oper}{j:Value}{M:aG}(h:c3 P B g n ar l aK (fb J o.dst j) M)(G:o.guard=none:=by rfl)(D:ef n o.dst=true:=by rfl)(E:cc P g L J o (λv C=>v=j/\C=M):=by first|(apply c5;rfl;rfl;rfl;exact cd)|(apply f1;rfl;rfl;rfl;rfl;exact cd)):c3 P B g n ar (o::l) aK J L:=tA G D E (by rintro _ _ ⟨rfl,rfl⟩;exact h)
def bw{j:Option Nat}{C:FuncId}{G:List Operand}{W:Array TypeId}{Y:TypeId}{U:String}{K:Array Edge}{args:cs}{E:Value}{M:aG}[Z:b4 P C](Q:kf J G=some args)(O:D P C args.toArray L λv I=>v=E/\I=M)(h:c3 P B g n ar l aK (fb J j E) M)(R:ef n j=true:=by rfl):c3 P B g n ar (⟨j,.call ⟨.value (.func C),G.toArray,W⟩,Y,U,K,none⟩::l) aK J L:=tA p R (aw Q O) (by rintro _ _ ⟨rfl,rfl⟩;exact h)
def hu{C:Nat}{o:Oper}{j:Nat->Value}{M:Nat->List aO}(h:∀b,d4 P B g n lo (M b) s aK (fb J o.dst (j b)) (M b))(Q:lo[C]?=some o:=by rfl)(O:o.guard=none:=by rfl)(I:ef n o.dst=true:=by rfl)(K:cc P g L J o (λv D=>∃b,v=j b/\D=M b):=by first|(apply wo;rfl)|exact r2|(apply e8;rfl;rfl;rfl)|(apply wq;rfl;rfl;rfl)|exact jS)(E:∀b h,G (M b) h->G S h:=by intro b;exact yj):d4 P B g n lo S (.e C s) aK J L:=an (a1 Q O I K (by rintro _ _ ⟨b,rfl,rfl⟩;exact⟨_,λ_ s=>s,E b,h b⟩))
def cU{E:Nat}{j:Option Nat}{C:FuncId}{K:List Operand}{ag:Array TypeId}{ak:TypeId}{ae:String}{Q:Array Edge}{args:cs}{I:Value}{M:aG}[al:b4 P C](Z:lo[E]?=some ⟨j,.call ⟨.value (.func C),K.toArray,ag⟩,ak,ae,Q,none⟩)(W:kf J K=some args)(R:D P C args.toArray L λv O=>v=I/\O=M)(h:d4 P B g n lo M s aK (fb J j I) M)(Y:ef n j=true:=by rfl)(U:∀h,G M h->G S h:=by exact yj):d4 P B g n lo S (.e E s) aK J L:=an (a1 Z p Y (aw W R) (by rintro _ _ ⟨rfl,rfl⟩;exact⟨_,λ_ s=>s,U,h⟩))
end
end
section
variable{P:Program}{g:c0}{L:aG}{J:bW}{d:Option Nat}{aQ T:TypeId}{a3:String}{a2:Array Edge}{a0:Option (Nat×Bool)}
def fB(n:Nat)(j:cs):List Value:=(hZ (n*j.length)).map λC=>j.getD (C % j.length) (.bool false)
def wq{E}{j ag n:Nat}{D R K O}[U:eo P T (E,j,ag)][W:cy P E D](G:(aA D.length j&&cN 1 j&&cN 1 n&&cN (n*j) 1000)=true)(aS:nr J K=some O)
  (av:lV (λI=>some (I*j,j)) (fB n D) O=some R):
  cc P g L J ⟨d,.buildSlice T n K.toArray,aQ,a3,a2,a0⟩ λaH Y=>∃b,aH=.slice (ak b) n n/\Y=ae b E R::L:=λZ Q aV aC aO aP au=>by
 simp only[bL]at G;have aX:=bV G.1.1.1;have aK:=eT G.1.1.2;have aL:=eT G.1.2;have aY:=eT G.2;have aZ:=Nat.mul_pos aL aK;obtain⟨ay,aW,aw,ax,_⟩:=U.spec;have am:(sizeOf E).run P Q=.ok j Q:=by simp[sizeOf,typeInfo,aw,ax]
 unfold dv;have al:(K.toArray.map λ(I,aI)=>(I,Z.eval aI))=O.toArray:=by grind[wx]
 obtain⟨v,ao,ap⟩:=W.run Q;have ar:(Bx (n*j)).map (λaE=>D.toArray[aE % D.toArray.size]!)=(fB n D).toArray:=by
  grind[fB,H7]
 simp[execOp,BD,cg,run_underlying ay,db,am,al];rw[if_neg C];rw[if_neg C];simp only[cg,ao,db,eJ,ap,ar,wE av];exact au _ _ _ ⟨_,rfl,rfl⟩ (aC.alloc E _)
end
end
end Go.Proofs.YtioamnghkmcbbaaGreat
