/- TopBudget: a part of its proof. -/
import Derived.ChangeKeysEq
import Derived.IntWalk
import Derived.Laws.Entries
import Derived.OpenShut
import Derived.Recover
import Derived.Test.YtioamnghkmcbbaaGreatShelf
import Derived.Test.YtioamnghkmcbbaaGreatMA1
set_option linter.all false
set_option maxRecDepth 100000
set_option maxHeartbeats 4000000
open Array renaming replicate->nV
open Bool renaming and_eq_true->bL,not_eq_true'->tc,not_false->oS
open Go.Code renaming wpIn_mono->lw,wp_mono->BC
open Go.Deferred renaming ofValue->lx
open Go.Instr renaming makeInterface->Ha,typeAssert->He
open Go.Op renaming equal->dD,equalIn->j2,maxDepth->ly
open Go.Oper renaming semAt->Hi,wp->dv
open Go.Region renaming wanted->hn
open Go.Result renaming andThen_ok->db
open Go.Sem renaming run_bind->cg,run_map->Hl
open Int renaming le_of_lt->qj,lt_or_le->Hq
open List renaming all_eq_true->lz,append_assoc->ho,append_nil->dA,countP_cons->kv,countP_eq_zero->Hz,drop_eq_getElem_cons->vu,eq_nil_of_length_eq_zero->e3,filter_append->l9,filter_cons->nY,getElem?_eq_getElem->cb,getElem?_eq_none->ma,getElem?_eq_some_iff->jf,getElem_mem->hp,length_append->bP,length_cons->fc,length_filter_le->hY,length_singleton->fD,length_take_le->HN,mapM->HO,mapM_toArray->HP,map_append->gM,mem_append->cT,mem_cons->cQ,mem_cons_self->tp,nil_append->mb,pairwise_append->lE,pairwise_cons->gO,perm_middle->e4,range->hZ,take_append_drop->jD,take_append_of_le_length->tr,take_length->k0,take_of_length_le->jE,take_succ_cons->H3,take_succ_eq_append_getElem->gu
open List.Perm renaming append_left->kX
open Nat renaming beq->aA,ble->cN,blt->dT,eq_zero_or_pos->g9,le_of_ble_eq_true->eT,le_refl->bv,le_trans->h0,lt_irrefl->dc,lt_or_ge->eC,zero_add->iQ,zero_le->bu
open Option renaming isSome_iff_exists->Ii
open Go.RowKit
namespace Go.Proofs.YtioamnghkmcbbaaGreat
noncomputable section
inductive o1 where
 |i
 |b
 |ag
def pr:Value->o1->Bool
 | .int .i64 _,.i=>true
 | .bool _,.b=>true
 | .pointer _,.ag=>true
 | _,_=>false
def jC:List Value->List o1->Bool
 | [],[]=>true
 |v::D,j::C=>pr v j&&jC D C
 | _,_=>false
theorem PD:∀{C}{j},jC C j=true->C.length=j.length
 | [],[],_=>rfl
 | [],_:: _,h=>by cases h
 | _:: _,[],h=>by cases h
 |v::C,D::j,h=>by
  simp[jC,bL]at h;simp[PD h.2]
def GG:∀(k){C}{j},jC C j=true->jC (C.drop k) (j.drop k)=true
 |0,_,_,h=>h
 |k+1,[],[],_=>rfl
 |k+1,[],_:: _,h=>by cases h
 |k+1,_:: _,[],h=>by cases h
 |k+1,v::C,D::j,h=>by
  simp[jC,bL]at h;exact GG k h.2
theorem GI:∀(k){C}{j},jC C j=true->jC (C.take k) (j.take k)=true
 |0,_,_,_=>by rfl
 |k+1,[],[],_=>by rfl
 |k+1,[],_:: _,h=>by cases h
 |k+1,_:: _,[],h=>by cases h
 |k+1,v::C,D::j,h=>by
  simp[jC,bL]at h;simp[H3,jC,h.1,GI k h.2,Bool.and_self]
def sI:List o1->o1->Bool
 | [.i],.i=>true
 | [.b],.b=>true
 | [.ag],.ag=>true
 | _,_=>false
theorem Fe{j C}(h:sI j C=true):j.length=1:=by
 unfold sI at h;grind
def Fd{C j}(h:sI C j=true):C=[j]:=by
 unfold sI at h;grind
def GH{j C}(h:jC j [C]=true):∃v,j=[v]/\pr v C=true:=by
 match j,h with
 | [],h=>cases h
 | [v],h=>exact⟨v,rfl,by simpa[jC]using h⟩
 | _:: _:: _,h=>simp[jC]at h
def SI{v}(h:pr v .i=true):∃n,v=j n:=by
 unfold pr at h;grind
def SH{v}(h:pr v .b=true):∃n,v=.bool n:=by
 unfold pr at h;grind
def SJ{v}(h:pr v .ag=true):∃n,v=.pointer n:=by
 unfold pr at h;grind
def sS(j:Program):Nat->TypeId->List o1->Bool
 |0,_,_=>false
 |k+1,E,D=>match j.underlying E with
  |some (.int _)=>il j E&&sI D .i
  |some .bool=>il j E&&sI D .b
  |some (.pointer C)=>il j E&&sI D .ag&&(j.info? C).isSome&&!aA (j.cellsOf C) 0
  |some (.struct J)=>nc j E D.length&&!j.stoodInHeld E&&J.toList.all λG=>cN (G.offset+j.cellsOf G.type) D.length&&sS j k G.type ((D.drop G.offset).take (j.cellsOf G.type))
  |some (.array n C)=>nc j E D.length&&(j.info? C).isSome&&(hZ n).all λI=>cN (I*j.cellsOf C+j.cellsOf C) D.length&&sS j k C ((D.drop (I*j.cellsOf C)).take (j.cellsOf C))
  | _=>false
def yL(j:Program)(C:TypeId):Bool:=match j.underlying C with
 |some (.struct _)=>true
 |some (.array _ _)=>true
 | _=>false
def s2(C:Program)(D:TypeId)(j:cs):Value:=if yL C D then .agg j.toArray else j.headD undef
section
variable{P:Program}
def NA{J E I}(h:sS P J E I=true)(j:cs)(D)(Y:D+I.length<=j.length)(G):
  (part E j.toArray D).run P G=.ok (s2 P E ((j.drop D).take I.length)) G:=by
 cases J with
 |zero=>cases h
 |succ J=>
  unfold sS at h;unfold s2 yL;have one:il P E=true->I.length=1->(part E j.toArray D).run P G=.ok (((j.drop _).take I.length).headD _) G:=λaa ab=>by
   rw[ab]at Y ⊢;have U:D<j.length:=C;have R:((j.drop D).take 1).headD undef=j[D]:=by grind[vu]
   rw[R];simp[part,(dr.run ⟨aa⟩ G).1,U]
  have Z:nc P E I.length=true->(part E j.toArray D).run P G=.ok (.agg ((j.drop D).take I.length).toArray) G:=λaa=>by
   obtain⟨O,Q⟩:=gR.run ⟨aa⟩ G;simp only[part,cg,O,db,if_true,Q];simp
  cases W:P.underlying E with
  |none=>simp_all
  |some K=>
   rw[W]at h;cases K<;>first|(cases h;done)|skip
   all_goals simp[bL]at h
   case bool=>exact one h.1 (Fe h.2)
   case int=>exact one h.1 (Fe h.2)
   case pointer=>grind[Fe]
   case struct=>simp_all
   simp_all
def AX:∀(k)(G)(Z),sS P k G Z=true->∀(D),k<=D->∀(I)(j),jC I Z=true->(j2 D G (s2 P G I) (s2 P G I)).run P j=.ok true j
 |0,_,_,h,_,_,_,_,_=>by cases h
 |k+1,G,Z,h,D,aH,I,j,R=>by
  obtain⟨D,rfl⟩:∃E,D=E+1:=⟨D-1,C⟩;have aI:=PD R;unfold sS at h;unfold s2 yL;cases Q:P.underlying G with
  |none=>simp_all
  |some ap=>
   rw[Q]at h;cases ap<;>first|(cases h;done)|skip
   all_goals simp only[bL]at h
   case bool=>
    have U:=Fd h.2;subst U;obtain⟨v,rfl,Y⟩:=GH R;obtain⟨b,rfl⟩:=SH Y;simpa using run_equalIn_bool j D G b b Q
   case int aC=>
    have U:=Fd h.2;subst U;obtain⟨v,rfl,Y⟩:=GH R;obtain⟨ag,rfl⟩:=SI Y;simpa using run_equalIn_int j D G .i64 aC ag ag Q
   case pointer E=>
    obtain⟨⟨⟨aa,ab⟩,J⟩,aG⟩:=h;obtain⟨ax,ak⟩:=Ii.1 J;have aw:P.cellsOf E≠0:=λaE=>by simp_all
    have U:=Fd ab;subst U;obtain⟨v,rfl,Y⟩:=GH R;obtain⟨q,rfl⟩:=SJ Y
    ·cases q with
     |none=>simp[j2,cg,run_underlying Q]
     |some ag=>simp[j2,cg,run_underlying Q,run_sizeOf j ak,aw,sameAddr]
   case struct ao=>
    obtain⟨⟨aa,ab⟩,J⟩:=h;simp only[tc]at ab;have ar:P.fieldsOf G=ao:=by simp[Program.fieldsOf,Q]
    simp only[if_true];rw[run_equalIn_struct j _ G _ _ (by simp_all) ab,ar];rw[lz]at J;generalize ao.toList=W at J
    induction W with
    |nil=>rfl
    |cons O W ay=>
     have K:=J O (tp ..);simp only[bL]at K;have au:=eT K.1;have al:((Z.drop O.offset).take (P.cellsOf O.type)).length=P.cellsOf O.type:=by grind
     have am:=NA K.2 I O.offset C j;rw[al]at am;have av:=AX k O.type _ K.2 D C ((I.drop O.offset).take (P.cellsOf O.type)) j (GI _ (GG _ R));unfold Op.eqFields;simp_all
   case array n E=>
    obtain⟨⟨aa,ab⟩,J⟩:=h;obtain⟨ax,ak⟩:=Ii.1 ab;simp only[if_true];rw[run_equalIn_array j D I.toArray I.toArray Q ak];rw[lz]at J;generalize hZ n=W at J
    induction W with
    |nil=>rfl
    |cons ae W ay=>
     have K:=J ae (tp ..);simp only[bL]at K;have au:=eT K.1;have al:((Z.drop (ae*P.cellsOf E)).take (P.cellsOf E)).length=P.cellsOf E:=by grind
     have am:=NA K.2 I (ae*P.cellsOf E) C j;rw[al]at am;have av:=AX k E _ K.2 D C ((I.drop (ae*P.cellsOf E)).take (P.cellsOf E)) j (GI _ (GG _ R));unfold Op.eqItems;simp_all
def AW(P:Program)(j:TypeId)(C:List o1):Bool:=yL P j&&sS P 8 j C&&!P.eqGuardType P.depth j
class Cv (P:Program) (j:TypeId) (C:outParam (List o1)):Prop where
 h:AW P j C=true
variable{L:aG}{J:bW}{d:Option Nat}{aQ T cE:TypeId}{a3:String}{a2:Array Edge}{a0:Option (Nat×Bool)}{x y:Operand}
def TI{E C}[G:Cv P T E](O:aY J x=some (.agg C.toArray))(Q:aY J y=some (.agg C.toArray))(aa:jC C E=true):bf P L J ⟨d,.binOp .eql T x y cE,aQ,a3,a2,a0⟩ (.bool true):=by
 have h:=G.h;unfold AW at h;simp[tc]at h;obtain⟨⟨ab,I⟩,K⟩:=h;refine iY _ _ _ _ (λj=>run_eqGuard_agg j _ _ _ _ _ _ K) O Q λj=> ?_;show((do pure (.bool (<- dD T _ _)):Sem Value)).run P j= _;have D:=AX 8 T E I ly bs C j aa;unfold s2 at D;rw[if_pos ab]at D;have R:(dD T _ _).run P j=.ok _ j:=D;simp_all
def TN{E C}[G:Cv P T E](O:aY J x=some (.agg C.toArray))(Q:aY J y=some (.agg C.toArray))(aa:jC C E=true):bf P L J ⟨d,.binOp .neq T x y cE,aQ,a3,a2,a0⟩ (.bool false):=by
 have h:=G.h;unfold AW at h;simp[tc]at h;obtain⟨⟨ab,I⟩,K⟩:=h;refine iY _ _ _ _ (λj=>run_eqGuard_agg j _ _ _ _ _ _ K) O Q λj=> ?_;show((do pure (.bool (!(<- dD T _ _))):Sem Value)).run P j= _;have D:=AX 8 T E I ly bs C j aa;unfold s2 at D;rw[if_pos ab]at D;have R:(dD T _ _).run P j=.ok _ j:=D;simp_all
end
section
variable{P:Program}{fn:Func}{g:c0}{n:Nat}{J:bW}{L:aG}
def e6{D j C F post}(U:fn.results=D.toArray)(h:jL P J L D j)(Q:∀h,G L h->G (F::C) h)(R:post (bG j) C):bc P (mQ P fn g F post) g n [] J L:=λY K E I=>by
 refine⟨E.defers,bG j,?_,C,R,I.mono Q⟩;unfold results;rw[U];simp only[HP,cg,Hl];have Z:=h.run E.e I.s;generalize ae:HO (m:=Sem) _ D=W;have O:W.run P K=.ok j K:=by grind
 rw[O];cases j with
 |nil=>rfl
 |cons v l=>cases l<;>simp[bG]
end
class yt (j:Program) (C:TypeId) (D:outParam IntKind):Prop where
 h:j.underlying C=some (.int D)
section
variable{P:Program}{L:aG}{J:bW}{d:Option Nat}{aQ T cE:TypeId}{a3:String}{a2:Array Edge}{a0:Option (Nat×Bool)}{x y z:Operand}{v u:Value}
def zK{C}{j q:Nat}(E:aY J x=some (.int C (j:Int)))(G:aY J y=some (.int C (q:Int)))(I:0<q):bf P L J ⟨d,.binOp .rem T x y cE,aQ,a3,a2,a0⟩ (.int C ((j % q:Nat):Int)):=
 mo _ _ j q _ E G λK=>by
  have D:((j:Int)).tmod (q:Int)=((j % q:Nat):Int):=by rfl
  simp[binOp,Op.intDiv,show q≠0 by omega,D]
def TC{E}{D:Nat}[I:yt P T E][G:yt P cE .i64](Q:aY J x=some (.int E (D:Int)))(Z:D<=9223372036854775807):bf P L J ⟨d,.convert T cE x,aQ,a3,a2,a0⟩ (j (D:Int)):=λU R O _=>by
 simp[execOp,O.eval Q];have K:P.intKind cE=.i64:=by unfold Program.intKind;rw[G.h]
 have W:=run_convert_int R T cE E (D:Int) (by rw[I.h];rfl) (by rw[K];exact G.h);have Y:IntKind.wrap _ _=D:=IntWalk.i64_in _ C;simp_all
def zG{ae}{n G j:Nat}{D}{C:cs}[I:lH P T (n,D,G)][K:dr P D](Y:aY J x=some (.agg C.toArray))(Z:aY J y=some (.int ae (j:Int)))(O:j<n)(W:C[j*G]?=some v):bf P L J ⟨d,.index T x y,aQ,a3,a2,a0⟩ v:=λak ag E _=>by
 obtain⟨U,al,Q,R⟩:=I.spec;simp[execOp,E.eval Y,E.eval Z];simp[Instr.index,run_underlying U,asIntOf,O,sizeOf,typeInfo,Q,R,part,(K.run ag).1,W]
end
section
attribute [local irreducible] G bf cc
def Re(s G:j8)(I):D E 68 #[.agg #[j s.id,j s.lo,j s.hi],.agg #[j G.id,j G.lo,j G.hi]] I λv J=>v=.bool (s.q5 G)/\J=I:=by
 refine ap λg F=> ?_;refine aU λO=> ?_;refine aS λQ=> ?_;refine aL ?_;refine aW (aE [0,1,2,3,4] (.q 5 .nil)) ?_;refine K ?_;refine af ?_;refine cp p (λaa=> ?_) (λaa=> ?_)
 ·refine aF ?_;refine cv ?_;refine K ?_;refine af ?_;refine cp p (λab=> ?_) (λab=> ?_)
  ·refine aF ?_;refine cv ?_;refine bI ?_;exact⟨congrArg Value.bool (by exact decide_eq_decide.2 C),rfl⟩
  ·refine aF ?_;refine cv ?_;refine bI ?_;exact⟨congrArg Value.bool (by exact decide_eq_decide.2 C),rfl⟩
 ·refine aF ?_;refine cv ?_;iterate 4 refine ad ?_
  refine af ?_;refine cp p (λab=> ?_) (λab=> ?_)
  ·refine aF ?_;refine cv ?_;refine bI ?_;exact⟨congrArg Value.bool (by exact decide_eq_decide.2 C),rfl⟩
  ·refine aF ?_;refine cv ?_;refine bI ?_;exact⟨congrArg Value.bool (by exact decide_eq_decide.2 C),rfl⟩
def ri(C j:Int):Int:=if dF C&&dF j then(if C>j then 3 else 0)else 2
def Gq(J G O):D E 198 #[j J,j G] O λv Q=>v=j (ri J G)/\Q=O:=by
 refine ap λg F=> ?_;refine a9 (m1 J _) ?_;refine f0 p p p (λC=> ?y85) (λC=> ?n85)
 case' n85=>
  have I:=C;try simp[oS]at I
  refine el p p p C ?_;refine el p p p C ?_;refine aD (eP p C p) ?_;refine ad ?_;refine aL ?_
 case' y85=>
  have I:=C;try simp[oS]at I
  refine K ?_;refine a9 (m1 G _) ?_;refine aL ?_
 all_goals
  refine aF ?_;refine d3 p (λaa=> ?_) (λaa=> ?_)
  ·refine aF ?_;refine cv ?_;refine bI ?_;exact⟨by simp_all[bG,ri]<;>(try omega),rfl⟩
  ·refine aF ?_;refine cv ?_;iterate 4 refine ad ?_
   refine af ?_;refine cp p (λab=> ?_) (λab=> ?_)
   ·refine aF ?_;refine cv ?_;refine ad ?_;refine af ?_;refine aj p (.tmp p .nil) az ⟨by simp_all[bG,ri]<;>(try omega),rfl⟩
   ·refine aF ?_;refine cv ?_;refine ad ?_;refine af ?_;refine aj p (.tmp p .nil) az ⟨by simp_all[bG,ri]<;>(try omega),rfl⟩
structure bl where
 kind:Int
 cz:b9
 wn:fS
 x:Int
 hi:Int
@[reducible] def bl.v (q:bl):Value:=.agg #[j q.kind,j q.cz.cB,j q.cz.cI,j q.cz.cC,j q.cz.cx,j q.wn.cB,j q.wn.cI,j q.wn.y,j q.x,j q.hi]
def bl.au(q:bl):Bool:=decide (1<=q.kind/\q.kind<=4)
def bl.bi(q:bl):Bool:=decide (q.kind=2\/q.kind=4\/q.kind=7)
def bl.gG(q:bl)(j:I):Bool:=if q.kind<=2 then q.cz.has j.x j.y else q.wn.iv j.x j.y
def bl.met(q:bl)(s:j8):Bool:=if q.kind=5 then j1 q.x s.lo s.hi else s.q5 ⟨0,q.x,q.hi⟩
def UL(J n Q l I)(U:Rd I J n l)(aw:n<=100000):
  D E 434 #[.slice J n Q,.func (.func 347) #[] #[]] I λv ae=>(∃Y:Int,v=j Y/\decide (0<=Y)=l.any (λO=>!dF O))/\ae=I:=by
 have aa:=U.len bs;refine ap λg F=> ?_;refine af ?_;refine cJ (λG=>[(0,.slice J n Q),(1,.func _ _ _),(7,.int _ _),(8,.int _ (G:Nat))]) (λ_=>F::I) (λG=>G<=n/\(l.take G).any (λO=>!dF O)=false) (λG=>n-G) 0 ⟨bu _,by rfl⟩ a8 az ?_;rintro G ⟨av,W⟩;refine K ?_;refine af ?_;refine cp p (λal=> ?_) (λal=> ?_)
 ·obtain⟨au,ax,rfl,ao⟩:=U.at_ C;have ak:l[G]?=some _:=cb C;have ar:=(ao _ _ ak).at_ (i:=0) p;have ay:l.take _=l.take G++[l[G]]:=gu C;have am:l[G] ∈l:=hp _;generalize l[G]=Z at*
  have aC:=ar;refine K ?_;refine GE (eV p p (Xk Z _)) ?_;rintro _ _ ⟨rfl,rfl⟩;refine af ?_;refine d3 p (λR=> ?_) (λR=> ?_)
  ·refine aF ?_;refine cv ?_;refine bI ?_;exact⟨⟨G,rfl,by rw[decide_eq_true C];exact(List.any_eq_true.2 ⟨Z,am,R⟩).symm⟩,rfl⟩
  ·refine aF ?_;refine cv ?_;iterate 2 refine ad ?_
   refine af ?_;exact bM (G+1) ⟨C,by simp_all⟩ C a8 az
 ·have ag:G=n:=C;subst ag;rw[<- aa,k0]at W;refine bI ?_;exact⟨⟨-1,rfl,by rw[W];rfl⟩,rfl⟩
def SW(C n G l j)(K:Rd j C n l)(O:n<=100000):
  D E 346 #[.slice C n G,.func (.func 347) #[] #[]] j λv I=>v=.bool (l.any (λQ=>!dF Q))/\I=j:=by
 refine ap λg F=> ?_;refine GE (aw p (D.frame [F] (UL C n G l j K O) (λ_ s=>s))) ?_;rintro _ _ ⟨R,⟨⟨U,rfl,J⟩,rfl⟩,rfl⟩;refine bI ?_;exact⟨congrArg _ J,rfl⟩
def JI(b o ae J O R U G)(Y:Rd G (some ⟨b,o,none⟩) 4 [J,O,R,U]):
  D E 267 #[.slice (some ⟨b,o,none⟩) 4 ae] G λv ao=>v=j (b9.dn ⟨J,O,R,U⟩)/\ao=G:=by
 have aL:aR G ⟨b,o+0*1,none⟩ (j J):=by
  obtain⟨Z,ak,W,h⟩:=Y.at_ Q;cases W;exact(h 0 J p).at_ (i:=0) p
 have aO:aR G ⟨b,o+1*1,none⟩ (j O):=by
  obtain⟨Z,ak,W,h⟩:=Y.at_ Q;cases W;exact(h 1 O p).at_ (i:=0) p
 have aP:aR G ⟨b,o+2*1,none⟩ (j R):=by
  obtain⟨Z,ak,W,h⟩:=Y.at_ Q;cases W;exact(h 2 R p).at_ (i:=0) p
 have aQ:aR G ⟨b,o+3*1,none⟩ (j U):=by
  obtain⟨Z,ak,W,h⟩:=Y.at_ Q;cases W;exact(h 3 U p).at_ (i:=0) p
 refine ap λg F=> ?_;refine GE (aw p (D.frame [F] (SW (some ⟨b,o,none⟩) 4 ae [J,O,R,U] G Y Q) (λ_ s=>s))) ?_;rintro _ _ ⟨ar,⟨rfl,am⟩,rfl⟩;rw[am];clear am ar;refine af ?_;refine d3 p (λaa=> ?_) (λaa=> ?_)
 ·refine aF ?_;refine cv ?_;refine bI ?_;exact⟨congrArg (Value.int .i64) (by unfold b9.dn;rw[if_neg (by intro ab;simp at aa ab;simp_all)]),rfl⟩
 ·have g:dF J=true/\dF O=true/\dF R=true/\dF U=true:=by simp_all
  obtain⟨aG,aH,aI,aK⟩:=g;have ax:b9.dn ⟨J,O,R,U⟩=if J>O\/R>U then 3 else 0:=by simp_all[b9.dn]
  rw[ax];refine K ?_;refine af ?_;refine cJ (ι:=Nat) (λI=>[(0,.slice (some ⟨b,o,none⟩) 4 ae),(3,j (2*I:Nat))]) (λ_=>F::G) (λI=>I<=2/\(0<I->J<=O)/\(1<I->R<=U)) (λI=>2-I) 0 ⟨Q,Q,Q⟩ a8 az ?_;rintro I ⟨aC,al,av⟩
  match I with
  |0=>
   refine K ?_;refine aW (aE [0,1,2,3,4,5,6,7,8] (.q 9 .nil)) ?_;iterate 10 refine ai ?_
   refine cK ?_;refine cp p (λag=> ?_) (λag=> ?_)
   ·refine aF ?_;refine cv ?_;refine bI ?_;exact⟨congrArg (Value.int .i64) (by rw[if_pos C]),rfl⟩
   ·refine aF ?_;refine cv ?_;iterate 3 refine ad ?_
    refine af ?_;exact bM 1 ⟨Q,C,Q⟩ Q a8 az
  |1=>
   have au:=al Q;refine K ?_;refine aW (aE [0,1,2,3,4,5,6,7,8] (.q 9 .nil)) ?_;iterate 10 refine ai ?_
   refine cK ?_;refine cp p (λag=> ?_) (λag=> ?_)
   ·refine aF ?_;refine cv ?_;refine bI ?_;exact⟨congrArg (Value.int .i64) (by rw[if_pos C]),rfl⟩
   ·refine aF ?_;refine cv ?_;iterate 3 refine ad ?_
    refine af ?_;exact bM 2 ⟨Q,C,C⟩ Q a8 az
  |2=>
   have au:=al Q;have ay:=av Q;refine bI ?_;exact⟨congrArg (Value.int .i64) (by rw[if_neg C]),rfl⟩
def Id(b:b9)(C):D E 196 #[.agg #[j b.cB,j b.cI,j b.cC,j b.cx]] C λv G=>v=j b.dn/\G=C:=by
 refine ap λg F=> ?_;refine aS λJ=> ?_;refine aU λI=> ?_;refine a9 (JI I 0 4 _ _ _ _ _ (aM.ae p)) ?_;refine af ?_;refine aj p (.tmp p .nil) az ⟨rfl,rfl⟩
def Ij(C:fS)(G):D E 197 #[.agg #[j C.cB,j C.cI,j C.y]] G λv I=>(∃O Q R U:Int,v=.tuple #[.agg #[j O,j Q,j R,j U],j C.cz.dn])/\I=G:=by
 refine ap λg F=> ?_;refine aU λW=> ?_;refine aS λY=> ?_;refine aU λJ=> ?_;refine a9 (JI J 0 4 _ _ _ _ _ (aM.ae p)) ?_;refine af ?_;refine cp p (λaa=> ?_) (λaa=> ?_)
 ·refine aF ?_;refine cv ?_;refine K ?_;refine af ?_;refine aj p (.cell p (c7 bS) (.tmp p .nil)) az ⟨⟨_,_,_,_,rfl⟩,rfl⟩
 ·have ab:C.cz.dn=0:=by
   show b9.dn ⟨C.cB,C.cI,C.y,1099511627776⟩=0;omega
  rw[ab];refine K ?_;refine af ?_;refine aj p (.cell p (c7 bS) (.tmp p .nil)) az ⟨⟨_,_,_,_,rfl⟩,rfl⟩
def bl.dn(q:bl):Int:=
 if q.kind=1\/q.kind=2 then q.cz.dn else if q.kind=3\/q.kind=4 then q.wn.cz.dn
 else if q.kind=5 then ri q.x q.x else if q.kind=6\/q.kind=7 then ri q.x q.hi else 1
def ND(q:bl)(C):D E 144 #[q.v] C λv O=>v=j q.dn/\O=C:=by
 refine ap λg F=> ?_;refine aS λal=> ?_;refine af ?_;refine d3 p (λG=> ?y105) (λG=> ?n105)
 case' n105=>
  refine K ?_;refine af ?_;refine d3 p (λR=> ?y110) (λR=> ?n110)
  case' n110=>
   refine K ?_;refine af ?_;refine d3 p (λI=> ?y115) (λI=> ?n115)
   case' n115=>
    refine K ?_;refine af ?_;refine d3 p (λU=> ?y123) (λU=> ?n123)
    case' n123=>
     refine K ?_;refine af ?_;refine d3 p (λW=> ?y131) (λW=> ?n131)
     case' n131=>
      refine K ?_;refine af ?_;refine d3 p (λJ=> ?y141) (λJ=> ?n141)
      case' n141=>
       refine K ?_;refine af ?_;refine d3 p (λY=> ?y148) (λY=> ?n148)
       case' n148=>
        refine bI ?_;exact⟨congrArg (Value.int .i64) (by simp_all[bl.dn]),rfl⟩
       case' y148=>
        refine aJ ?_;iterate 4 refine ad ?_
        refine bw p (Gq _ _ _) ?_;refine ad ?_;refine af ?_;refine aj p (.tmp p .nil) az ⟨congrArg (Value.int .i64) (by simp_all[bl.dn]),rfl⟩
      case' y141=>
       refine aF ?_;refine cD p J ?_;refine aJ ?_;iterate 4 refine ad ?_
       refine bw p (Gq _ _ _) ?_;refine ad ?_;refine af ?_;refine aj p (.tmp p .nil) az ⟨congrArg (Value.int .i64) (by simp_all[bl.dn]),rfl⟩
     case' y131=>
      refine aJ ?_;iterate 3 refine ad ?_
      refine cF ?_;refine bD ?_;iterate 4 refine ad ?_
      refine bw p (Gq _ _ _) ?_;refine ad ?_;refine af ?_;refine aj p (.tmp p .nil) az ⟨congrArg (Value.int .i64) (by simp_all[bl.dn]),rfl⟩
    case' y123=>
     refine aJ ?_;iterate 2 refine ad ?_
     refine GE (aw p (Ij q.wn _)) ?_;rintro _ _ ⟨⟨Z,ae,ag,ak,rfl⟩,rfl⟩;iterate 3 refine ad ?_
     refine aU λQ=> ?_;refine cF ?_;refine ad ?_;refine bD ?_;iterate 2 refine ad ?_
     refine af ?_;refine aj p (.tmp p .nil) az ⟨congrArg (Value.int .i64) (by simp_all[bl.dn]),rfl⟩
   case' y115=>
    refine aF ?_;refine cD p I ?_;refine aJ ?_;iterate 2 refine ad ?_
    refine GE (aw p (Ij q.wn _)) ?_;rintro _ _ ⟨⟨Z,ae,ag,ak,rfl⟩,rfl⟩;iterate 3 refine ad ?_
    refine aU λQ=> ?_;refine cF ?_;refine ad ?_;refine bD ?_;iterate 2 refine ad ?_
    refine af ?_;refine aj p (.tmp p .nil) az ⟨congrArg (Value.int .i64) (by simp_all[bl.dn]),rfl⟩
  case' y110=>
   refine aJ ?_;iterate 2 refine ad ?_
   refine bw p (Id q.cz _) ?_;refine ad ?_;refine af ?_;refine aj p (.tmp p .nil) az ⟨congrArg (Value.int .i64) (by simp_all[bl.dn]),rfl⟩
 case' y105=>
  refine aF ?_;refine cD p G ?_;refine aJ ?_;iterate 2 refine ad ?_
  refine bw p (Id q.cz _) ?_;refine ad ?_;refine af ?_;refine aj p (.tmp p .nil) az ⟨congrArg (Value.int .i64) (by simp_all[bl.dn]),rfl⟩
def FD(q:bl)(C):D E 10 #[q.v] C λv G=>v=j q.dn/\G=C:=by
 have I:=IK q.cz;have J:=Rh q.wn;have K:=vI;refine bH λg F=> ?_;repeat' first|refine aH ?_|refine aU λ_=> ?_|refine aP (λ_=> ?_) (λ_=> ?_)|fail
 all_goals first|contradiction|(refine bI ?_;exact⟨congrArg (Value.int .i64) (by simp_all[bl.dn,ri]<;>(try (repeat' split)<;>omega)),rfl⟩)
def Ol(q:bl)(j):D E 65 #[q.v] j λv C=>v=.bool q.bi/\C=j:=by
 refine bH λg F=> ?_;repeat' first|refine aH ?_|refine aU λ_=> ?_|refine aP (λ_=> ?_) (λ_=> ?_)|fail
 all_goals first|contradiction|(refine bI ?_;exact⟨by simp_all[bG,bl.bi]<;>(try omega),rfl⟩)
def bl.choice(q:bl):List Int:=
 if q.dn≠0 then[]else if q.kind=1 then[1,2]else if q.kind=2 then[2,1]else if q.kind=3\/q.kind=4 then[3,1]else if q.kind=5 then[5,4]else[4,5]
def aaA(l:List Int)(E:aG)(v:Value)(D:aG):Prop:=∃C j G,v=.slice C l.length j/\l.length<=j/\j<=2/\D=G++E/\Rd D C l.length l
end
def Bd(G n j J O)(W:0<n->∃b,G=(ak b))(Q:J.length=n)(ag:n<=1000000):
  D E 254 #[.slice G n j] (own 3 1 G n j (flat J)::O) λv U=>v=.tuple #[]/\U=own 3 1 G n j (flat (bj J))::O:=by
 rcases g9 n with K|K
 ·subst K;have al:=e3 Q;intro g F I R;refine(Tryz.slices_Sort_int_none G j I).mono λae am ⟨aa,ab⟩=> ?_;exact⟨_,_,aa,⟨rfl,rfl⟩,by simp_all[bj]⟩
 ·intro g F I R;obtain⟨b,rfl⟩:=W K;exact Y2 b n j J O Q K (λI Y Z=>Tryz.slices_Sort_int b 0 j J I Y Z C) g F I R
section
attribute [local irreducible] G bf cc
instance:e5 j8:=⟨3,λs=>[j s.id,j s.lo,j s.hi],λ_=>rfl,λs v h=>by
 simp at h;rcases h with rfl|rfl|rfl<;>rfl⟩
def bl.kN(q:bl)(l:List I):List Int:=(l.filter λj=>q.au&&q.gG j).map (·.id)
def bl.mR(q:bl)(l:List j8):List Int:=(l.filter λs=>!q.au&&q.met s).map (·.id)
def bl.XD(q:bl)(l:List I)(j C)(h:l[j]?=some C):q.kN (l.take (j+1))=q.kN (l.take j)++(if q.au&&q.gG C then[C.id]else[]):=by
 obtain⟨aa,ab⟩:=jf.1 h;unfold bl.kN;rw[gu aa,ab,l9,gM];grind
def bl.YK(q:bl)(l:List j8)(j C)(h:l[j]?=some C):q.mR (l.take (j+1))=q.mR (l.take j)++(if !q.au&&q.met C then[C.id]else[]):=by
 obtain⟨aa,ab⟩:=jf.1 h;unfold bl.mR;rw[gu aa,ab,l9,gM];grind
def bl.xl(q:bl)(l):(q.kN l).length<=l.length:=by unfold bl.kN;grind
def bl.FZ(q:bl)(l):(q.mR l).length<=l.length:=by unfold bl.mR;grind
def bl.ids(q:bl)(l:List I)(j:List j8):List Int:=q.kN l++q.mR j
def vF(n:Nat)(C:List Int)(I:aG)(v:Value)(G:aG):Prop:=∃E D J,v=.agg #[j n,.slice E C.length D]/\C.length<=D/\D<=maxLen/\G=J++I/\Rd G E C.length C
theorem vF.nil{C n D}(h:D=[]):vF n D C (.agg #[j n,.slice none 0 0]) C:=by subst h;exact⟨none,0,[],rfl,bv _,bu _,rfl,Rd.nil _ _⟩
def bl.n(q:bl)(l:List I)(j:List j8):Nat:=if q.dn≠0 then 0 else(q.ids l j).length
def bl.out(q:bl)(l:List I)(j:List j8):List Int:=if q.dn≠0 then[]else if q.bi then[]else bj (q.ids l j)
def bl.p1(q:bl):Int:=if q.kind=5 then q.x else q.hi
def bl.u6(q:bl)(j:I):Bool:=decide (q.kind<=2)&&q.cz.has j.x j.y||(decide (q.kind=3)||decide (q.kind=4))&&q.wn.iv j.x j.y
def bl.xy(q:bl)(s:j8):Bool:=decide (5<=q.kind)&&s.q5 ⟨0,q.x,q.p1⟩
theorem bl.known(q:bl)(h:q.dn=0):1<=q.kind/\q.kind<=7:=by
 unfold bl.dn at h;omega
theorem bl.Yb(q:bl)(h:q.dn=0)(j):q.u6 j=(q.au&&q.gG j):=by
 obtain⟨aa,ab⟩:=q.known h;unfold bl.u6 bl.au bl.gG;grind
theorem bl.Yd(q:bl)(h:q.dn=0)(s):q.xy s=(!q.au&&q.met s):=by
 obtain⟨aa,ab⟩:=q.known h;unfold bl.xy bl.au bl.met bl.p1
 by_cases j:q.kind=5
 ·simp[j8.q5,j1];grind
 grind
def bl.q8(q:bl)(l:List I)(j:List j8):List Int:=if q.dn≠0 then[]else if q.bi then[]else i9 (q.ids l j)
theorem bl.Ye(q:bl)(l j):q.q8 l j=q.out l j:=by
 unfold bl.q8 bl.out;rw[FM _ _ (.refl _)]
def Yf(q:bl)(be aK n bA am a4 l s al)(bE:Rd al be n l)(bF:Rd al aK am s)(cm:n<=40000)(cl:am<=40000):
  D E 38 #[q.v,.slice be n bA,.slice aK am a4] al λv bJ=>vF (q.n l s) (q.q8 l s) al v bJ:=by
 have aa:l.length=n:=bE.len bs;have ab:s.length=am:=bF.len bs;refine ap λg F=> ?_;refine aU λar=> ?_;refine aS λau=> ?_;refine a9 (FD q _) ?_;refine af ?_;refine cp p (λbf=> ?_) (λbf=> ?_)
 ·have bk:q.n l s=0:=by simp[bl.n,bf]
  have bm:q.q8 l s=[]:=by simp[bl.q8,bf]
  rw[bk,bm];refine K ?_;refine af ?_;refine aj p (.cell p (c7 bS) .nil) az (vF.nil p)
 ·have bB:q.dn=0:=C;have bk:q.n l s=(q.ids l s).length:=by simp_all[bl.n,if_neg]
  have bm:q.q8 l s=if q.bi then[]else i9 (q.ids l s):=by simp_all[bl.q8,if_neg]
  rw[bk,bm];refine aJ ?_;refine aS λbO=> ?_;refine aL ?_
  (repeat first|refine bZ ?_|refine fi ?_|refine gk ?_)
  refine hs (ι:=Nat×Nat×List Int) (λG=>[(2,.slice aK am a4),(3,R ar),(6,R au),(7,.slice (ak G.1) G.2.2.length G.2.1)]) (λG=>own 3 1 (ak G.1) G.2.2.length G.2.1 (flat G.2.2)::ae au 61 [j 0,.slice none 0 0]::ae ar 27 (ee q.v)::F::al)
   (λG=>G.2.2=q.kN l/\G.2.2.length<=G.2.1/\G.2.1<=maxLen) ?_ ?_
  ·refine aF ?_;refine cJ (ι:=Nat×Nat×Nat×List Int) (λG=>[(1,.slice be n bA),(2,.slice aK am a4),(3,R ar),(6,R au),(7,.slice (ak G.2.1) G.2.2.2.length G.2.2.1),(8,j (G.1:Nat))]) (λG=>own 3 1 (ak G.2.1) G.2.2.2.length G.2.2.1 (flat G.2.2.2)::ae au 61 [j 0,.slice none 0 0]::ae ar 27 (ee q.v)::F::al)
    (λG=>G.1<=n/\G.2.2.2=q.kN (l.take G.1)/\G.2.2.2.length<=G.2.2.1/\G.2.2.1<=maxLen) (λG=>n-G.1) (0,bO,0,[]) ⟨bu _,by rfl,bv _,bu _⟩ ⟨rfl,rfl,rfl,rfl,rfl,rfl,trivial⟩ az ?_
   rintro⟨U,aH,aO,ao⟩ ⟨a5,aG,aP,bn⟩;simp only at a5 aG aP bn;dsimp only;have ch:ao.length<=U:=by
    rw[aG];exact h0 (q.xl _) (HN _ _)
   refine K ?_;refine af ?_;refine cp p (λbg=> ?_) (λbg=> ?_)
   ·obtain⟨aY,a0,rfl,bt⟩:=bE.at_ C;have a8:l[U]?=some l[U]:=cb C;have bq:=q.XD l U _ a8;have a1:=bt _ _ a8;generalize l[U]=W at*
    rw[<- q.Yb bB]at bq;have b9:aR al ⟨aY,a0+U*3+0,none⟩ (j W.id):=a1.at_ (i:=0) p;have ca:aR al ⟨aY,a0+U*3+1,none⟩ (j W.x):=a1.at_ (i:=1) p;have cq:aR al ⟨aY,a0+U*3+2,none⟩ (j W.y):=a1.at_ (i:=2) p;refine aW (aE [0,1,2,3,4,5,6,7,8,9,10,11,12,13,14,15] (.e 16 (aE [17,18,19,20,21,22,23,24,25,26,27,28,29,30,31,32,33,34,35,36,37,38,39] (.e 40 (.q 41 (.q 42 .nil)))))) ?_;iterate 4 refine ai ?_
    refine n6 (C:=25) true p (λI=> ?y356) (λI=> ?n356)
    case' n356=>
     refine cw aT p p p ⟨_,rfl,I⟩ p ?_;refine cw aT p p p ⟨_,rfl,I⟩ p ?_;refine cw aT p p p ⟨_,rfl,I⟩ p ?_;refine cw aT p p p ⟨_,rfl,I⟩ p ?_;refine cw aT p p p ⟨_,rfl,I⟩ p ?_;refine cw aT p p p ⟨_,rfl,I⟩ p ?_;refine cw aT p p p ⟨_,rfl,I⟩ p ?_;refine cw aT p p p ⟨_,rfl,I⟩ p ?_;refine cw aT p p p ⟨_,rfl,I⟩ p ?_;refine cw aT p p p ⟨_,rfl,I⟩ p ?_;refine cw aT p p p ⟨_,rfl,I⟩ p ?_;refine cw aT p p p ⟨_,rfl,I⟩ p ?_;refine an (gy p p p ⟨_,rfl,I⟩ p ?_);refine dd p (eW p I p) ?_;iterate 5 refine ai ?_
     refine n6 (C:=44) false p (λaX=> ?y474) (λaX=> ?n474)
     case' n474=>
      refine K ?_;refine b0 aT p p p p ⟨_,rfl,rfl⟩ p (eP p aX p) ?_;iterate 13 refine ai ?_
      refine an (f9 p p p ⟨_,rfl,rfl⟩ p (aw p (yF q.wn W.x W.y _)) ?_);rintro _ _ ⟨rfl,rfl⟩;refine cM ?_;iterate 2 refine ai ?_
      refine cK ?_;refine d3 p (λb1=> ?y526) (λb1=> ?n526)
      case' n526=>
       refine aF ?_
      case' y526=>
       refine K ?_;refine aU λbc=> ?_;refine GE (bx p p aI (aM.ae p) (cS p) aZ Q ah ah) ?_;rintro _ _ ⟨bb,a3,rfl,bd,ba,av,rfl⟩;obtain⟨a2,rfl⟩:=av Q;refine ad ?_;refine af ?_
     case' y474=>
      refine b0 aT p p p p ⟨_,rfl,aX⟩ p (iE p) ?_;refine fF aT p p p p ⟨_,rfl,aX⟩ p (d6 p dX) ?_;refine b0 aT p p p p ⟨_,rfl,aX⟩ p (zD p p) ?_;refine b0 aT p p p p ⟨_,rfl,rfl⟩ p (eW p aX p) ?_;refine ai ?_;refine n6 (C:=49) true p (λO=> ?y478) (λO=> ?n478)
      case' n478=>
       refine cw aT p p p ⟨_,rfl,O⟩ p ?_;refine cw aT p p p ⟨_,rfl,O⟩ p ?_;refine cw aT p p p ⟨_,rfl,O⟩ p ?_;refine cw aT p p p ⟨_,rfl,O⟩ p ?_;refine cw aT p p p ⟨_,rfl,O⟩ p ?_;refine cw aT p p p ⟨_,rfl,O⟩ p ?_;refine cw aT p p p ⟨_,rfl,O⟩ p ?_;refine cw aT p p p ⟨_,rfl,O⟩ p ?_;refine cw aT p p p ⟨_,rfl,O⟩ p ?_;refine cw aT p p p ⟨_,rfl,O⟩ p ?_;refine cw aT p p p ⟨_,rfl,O⟩ p ?_;refine cw aT p p p ⟨_,rfl,O⟩ p ?_;refine an (gy p p p ⟨_,rfl,O⟩ p ?_);refine b0 aT p p p p ⟨_,rfl,rfl⟩ p (eW p O p) ?_;refine ai ?_;refine cK ?_;refine b2 p p ?_;refine aF ?_
      case' y478=>
       refine b0 aT p p p p ⟨_,rfl,O⟩ p (iE p) ?_;refine fF aT p p p p ⟨_,rfl,O⟩ p (er p bS) ?_;refine b0 aT p p p p ⟨_,rfl,O⟩ p (fv p) ?_;refine b0 aT p p p p ⟨_,rfl,O⟩ p (fv p) ?_
       (first|refine b0 aT p p p p ⟨_,rfl,O⟩ p (hx p p ah) ?_|refine b0 aT p p p p ⟨_,rfl,O⟩ p (ns p p ah ah) ?_)
       refine b0 aT p p p p ⟨_,rfl,O⟩ p (iE p) ?_;refine fF aT p p p p ⟨_,rfl,O⟩ p (d6 p dX) ?_;refine b0 aT p p p p ⟨_,rfl,O⟩ p (fv p) ?_;refine b0 aT p p p p ⟨_,rfl,O⟩ p (fv p) ?_
       (first|refine b0 aT p p p p ⟨_,rfl,O⟩ p (hx p p ah) ?_|refine b0 aT p p p p ⟨_,rfl,O⟩ p (ns p p ah ah) ?_)
       refine b0 aT p p p p ⟨_,rfl,O⟩ p (iE p) ?_;refine fF aT p p p p ⟨_,rfl,O⟩ p (d6 p dX) ?_;refine an (f9 p p p ⟨_,rfl,O⟩ p (aw p (yF q.wn W.x W.y _)) ?_);rintro _ _ ⟨rfl,rfl⟩;refine cM ?_;refine b0 aT p p p p ⟨_,rfl,rfl⟩ p (eP p O p) ?_;refine ai ?_;refine cK ?_;refine d3 p (λbY=> ?y490) (λbY=> ?n490)
       case' n490=>
        refine aF ?_
       case' y490=>
        refine K ?_;refine aU λbc=> ?_;refine GE (bx p p aI (aM.ae p) (cS p) aZ Q ah ah) ?_;rintro _ _ ⟨bb,a3,rfl,bd,ba,av,rfl⟩;obtain⟨a2,rfl⟩:=av Q;refine ad ?_;refine af ?_
    case' y356=>
     refine b0 aT p p p p ⟨_,rfl,I⟩ p (iE p) ?_;refine fF aT p p p p ⟨_,rfl,I⟩ p (er p bS) ?_;refine b0 aT p p p p ⟨_,rfl,I⟩ p (fv p) ?_;refine b0 aT p p p p ⟨_,rfl,I⟩ p (fv p) ?_
     (first|refine b0 aT p p p p ⟨_,rfl,I⟩ p (hx p p ah) ?_|refine b0 aT p p p p ⟨_,rfl,I⟩ p (ns p p ah ah) ?_)
     refine b0 aT p p p p ⟨_,rfl,I⟩ p (iE p) ?_;refine fF aT p p p p ⟨_,rfl,I⟩ p (d6 p dX) ?_;refine b0 aT p p p p ⟨_,rfl,I⟩ p (fv p) ?_;refine b0 aT p p p p ⟨_,rfl,I⟩ p (fv p) ?_
     (first|refine b0 aT p p p p ⟨_,rfl,I⟩ p (hx p p ah) ?_|refine b0 aT p p p p ⟨_,rfl,I⟩ p (ns p p ah ah) ?_)
     refine b0 aT p p p p ⟨_,rfl,I⟩ p (iE p) ?_;refine fF aT p p p p ⟨_,rfl,I⟩ p (d6 p dX) ?_;refine an (f9 p p p ⟨_,rfl,I⟩ p (aw p (Q8 q.cz W.x W.y _)) ?_);rintro _ _ ⟨rfl,rfl⟩;refine cM ?_;refine dd p (eP p I p) ?_;refine ai ?_;refine n6 (C:=40) false p (λag=> ?y368) (λag=> ?n368)
     case' n368=>
      refine K ?_;refine an (IL p p p p p ?_);refine cw aT p p p ⟨_,rfl,ag⟩ p ?_;refine dd p (eP p ag p) ?_;refine K ?_;refine aU λbc=> ?_;refine GE (bx p p aI (aM.ae p) (cS p) aZ Q ah ah) ?_;rintro _ _ ⟨bb,a3,rfl,bd,ba,av,rfl⟩;obtain⟨a2,rfl⟩:=av Q;refine ad ?_;refine af ?_
     case' y368=>
      refine b0 aT p p p p ⟨_,rfl,ag⟩ p (iE p) ?_;refine fF aT p p p p ⟨_,rfl,ag⟩ p (d6 p dX) ?_;refine b0 aT p p p p ⟨_,rfl,ag⟩ p (zD p p) ?_;refine b0 aT p p p p ⟨_,rfl,ag⟩ p (fv p) ?_;refine n6 (C:=44) false p (λaV=> ?y372) (λaV=> ?n372)
      case' n372=>
       refine K ?_;refine b0 aT p p p p ⟨_,rfl,ag⟩ p (eP p aV p) ?_;refine b0 aT p p p p ⟨_,rfl,ag⟩ p (fv p) ?_;iterate 12 refine ai ?_
       refine an (f9 p p p ⟨_,rfl,rfl⟩ p (aw p (yF q.wn W.x W.y _)) ?_);rintro _ _ ⟨rfl,rfl⟩;refine cM ?_;refine b0 aT p p p p ⟨_,rfl,ag⟩ p (eP p p p) ?_;refine dd p (eW p ag p) ?_;refine cK ?_;refine d3 p (λbX=> ?y420) (λbX=> ?n420)
       case' n420=>
        refine aF ?_
       case' y420=>
        refine K ?_;refine aU λbc=> ?_;refine GE (bx p p aI (aM.ae p) (cS p) aZ Q ah ah) ?_;rintro _ _ ⟨bb,a3,rfl,bd,ba,av,rfl⟩;obtain⟨a2,rfl⟩:=av Q;refine ad ?_;refine af ?_
      case' y372=>
       refine b0 aT p p p p ⟨_,rfl,aV⟩ p (iE p) ?_;refine fF aT p p p p ⟨_,rfl,aV⟩ p (d6 p dX) ?_;refine b0 aT p p p p ⟨_,rfl,aV⟩ p (zD p p) ?_;refine b0 aT p p p p ⟨_,rfl,ag⟩ p (eW p aV p) ?_;refine b0 aT p p p p ⟨_,rfl,ag⟩ p (fv p) ?_;refine n6 (C:=49) true p (λJ=> ?y376) (λJ=> ?n376)
       case' n376=>
        refine cw aT p p p ⟨_,rfl,J⟩ p ?_;refine cw aT p p p ⟨_,rfl,J⟩ p ?_;refine cw aT p p p ⟨_,rfl,J⟩ p ?_;refine cw aT p p p ⟨_,rfl,J⟩ p ?_;refine cw aT p p p ⟨_,rfl,J⟩ p ?_;refine cw aT p p p ⟨_,rfl,J⟩ p ?_;refine cw aT p p p ⟨_,rfl,J⟩ p ?_;refine cw aT p p p ⟨_,rfl,J⟩ p ?_;refine cw aT p p p ⟨_,rfl,J⟩ p ?_;refine cw aT p p p ⟨_,rfl,J⟩ p ?_;refine cw aT p p p ⟨_,rfl,J⟩ p ?_;refine cw aT p p p ⟨_,rfl,J⟩ p ?_;refine an (gy p p p ⟨_,rfl,J⟩ p ?_);refine b0 aT p p p p ⟨_,rfl,ag⟩ p (eW p J p) ?_;refine dd p (eW p ag p) ?_;refine cK ?_;refine b2 p p ?_;refine aF ?_
       case' y376=>
        refine b0 aT p p p p ⟨_,rfl,J⟩ p (iE p) ?_;refine fF aT p p p p ⟨_,rfl,J⟩ p (er p bS) ?_;refine b0 aT p p p p ⟨_,rfl,J⟩ p (fv p) ?_;refine b0 aT p p p p ⟨_,rfl,J⟩ p (fv p) ?_
        (first|refine b0 aT p p p p ⟨_,rfl,J⟩ p (hx p p ah) ?_|refine b0 aT p p p p ⟨_,rfl,J⟩ p (ns p p ah ah) ?_)
        refine b0 aT p p p p ⟨_,rfl,J⟩ p (iE p) ?_;refine fF aT p p p p ⟨_,rfl,J⟩ p (d6 p dX) ?_;refine b0 aT p p p p ⟨_,rfl,J⟩ p (fv p) ?_;refine b0 aT p p p p ⟨_,rfl,J⟩ p (fv p) ?_
        (first|refine b0 aT p p p p ⟨_,rfl,J⟩ p (hx p p ah) ?_|refine b0 aT p p p p ⟨_,rfl,J⟩ p (ns p p ah ah) ?_)
        refine b0 aT p p p p ⟨_,rfl,J⟩ p (iE p) ?_;refine fF aT p p p p ⟨_,rfl,J⟩ p (d6 p dX) ?_;refine an (f9 p p p ⟨_,rfl,J⟩ p (aw p (yF q.wn W.x W.y _)) ?_);rintro _ _ ⟨rfl,rfl⟩;refine cM ?_;refine b0 aT p p p p ⟨_,rfl,ag⟩ p (eP p J p) ?_;refine dd p (eW p ag p) ?_;refine cK ?_;refine d3 p (λbW=> ?y386) (λbW=> ?n386)
        case' n386=>
         refine aF ?_
        case' y386=>
         refine K ?_;refine aU λbc=> ?_;refine GE (bx p p aI (aM.ae p) (cS p) aZ Q ah ah) ?_;rintro _ _ ⟨bb,a3,rfl,bd,ba,av,rfl⟩;obtain⟨a2,rfl⟩:=av Q;refine ad ?_;refine af ?_
    all_goals
     refine aJ ?_;iterate 3 refine ad ?_
     refine af ?_;first
     |(have aC:q.kN (l.take (U+1))=ao++[W.id]:=by
        have bC:q.u6 W=true:=by simp_all[bl.u6]<;>(intros;omega)
        simp_all
       exact bM (U+1,a2,a3,ao++[W.id]) ⟨C,aC.symm,by simp_all,ba⟩ C ⟨rfl,rfl,rfl,rfl,by simp only[bP,fD];rfl,rfl,trivial⟩ (by
        simp only[bP,fD];rw[<- gm];exact az))
     |(have aC:q.kN (l.take (U+1))=ao:=by
        have bC:q.u6 W=false:=by simp_all[bl.u6]<;>(omega)
        simp_all
       exact bM (U+1,aH,aO,ao) ⟨C,aC.symm,aP,bn⟩ C ⟨rfl,rfl,rfl,rfl,rfl,rfl,trivial⟩ az)
   ·have bj:U=n:=C;subst bj;rw[<- aa,k0]at aG;refine aF ?_;exact ex (aH,aO,ao) ⟨aG,aP,bn⟩ ⟨rfl,rfl,rfl,rfl,trivial⟩ (λ_ s=>s)
  ·rintro⟨aH,aO,ao⟩ ⟨a5,aG,aP⟩;simp only at a5 aG aP;dsimp only;have cf:ao.length<=n:=by rw[a5,<- aa];exact q.xl _
   refine K ?_;refine aL ?_
   (repeat first|refine bZ ?_|refine fi ?_|refine gk ?_)
   refine hs (ι:=Unit) (λ_=>[(2,.slice aK am a4),(3,R ar),(6,R au),(7,.slice (ak aH) ao.length aO),(9,j q.p1)]) (λ_=>own 3 1 (ak aH) ao.length aO (flat ao)::ae au 61 [j 0,.slice none 0 0]::ae ar 27 (ee q.v)::F::al) (λ_=>True) ?_ ?_
   ·refine aF ?_;refine d3 p (λb3=> ?y533) (λb3=> ?n533)
    case' n533=>
     refine aF ?_
    case' y533=>
     refine K ?_;refine af ?_
    all_goals first
     |(rw[show q.p1=q.x by simp_all[bl.p1]];repeat first|refine bZ ?_|refine fi ?_|refine gk ?_
       exact ex () trivial ⟨rfl,rfl,rfl,rfl,rfl,trivial⟩ az)
     |(rw[show q.p1=q.hi by simp_all[bl.p1]];repeat first|refine bZ ?_|refine fi ?_|refine gk ?_
       exact ex () trivial ⟨rfl,rfl,rfl,rfl,rfl,trivial⟩ az)
   rintro _ _;refine K ?_;refine aL ?_
   (repeat first|refine bZ ?_|refine fi ?_|refine gk ?_)
   refine hs (ι:=Nat×Nat×List Int) (λG=>[(3,R ar),(6,R au),(7,.slice (ak G.1) G.2.2.length G.2.1)]) (λG=>own 3 1 (ak G.1) G.2.2.length G.2.1 (flat G.2.2)::ae au 61 [j 0,.slice none 0 0]::ae ar 27 (ee q.v)::F::al)
    (λG=>G.2.2=q.ids l s/\G.2.2.length<=G.2.1/\G.2.1<=maxLen) ?_ ?_
   ·refine aF ?_;refine cJ (ι:=Nat×Nat×Nat×List Int) (λG=>[(2,.slice aK am a4),(3,R ar),(6,R au),(7,.slice (ak G.2.1) G.2.2.2.length G.2.2.1),(9,j q.p1),(10,j (G.1:Nat))]) (λG=>own 3 1 (ak G.2.1) G.2.2.2.length G.2.2.1 (flat G.2.2.2)::ae au 61 [j 0,.slice none 0 0]::ae ar 27 (ee q.v)::F::al)
     (λG=>G.1<=am/\G.2.2.2=q.kN l++q.mR (s.take G.1)/\G.2.2.2.length<=G.2.2.1/\G.2.2.1<=maxLen) (λG=>am-G.1) (0,aH,aO,ao) ⟨bu _,by simp[bl.mR,a5],aG,aP⟩ ⟨rfl,rfl,rfl,rfl,rfl,rfl,trivial⟩ az ?_
    rintro⟨U,ax,ay,Z⟩ ⟨a6,aQ,a7,bp⟩;simp only at a6 aQ a7 bp;dsimp only;have cj:Z.length<=n+U:=by
     rw[aQ,bP];have bK:=q.xl l;have bN:=h0 (q.FZ (s.take U)) (HN _ _);omega
    refine K ?_;refine af ?_;refine cp p (λbg=> ?_) (λbg=> ?_)
    ·obtain⟨aY,a0,rfl,bt⟩:=bF.at_ C;have a8:s[U]?=some s[U]:=cb C;have bq:=q.YK s U _ a8;have a1:=bt _ _ a8;generalize s[U]=W at*
     rw[<- q.Yd bB]at bq;have b9:aR al ⟨aY,a0+U*3+0,none⟩ (j W.id):=a1.at_ (i:=0) p;have ca:aB al aY (a0+U*3) 3 [j W.id,j W.lo,j W.hi]:=a1;refine aW (aE [0,1,2,3,4,5,6,7,8,9,10,11] (.e 12 (.q 13 .nil))) ?_;iterate 4 refine ai ?_
     refine n6 (C:=89) true p (λY=> ?y541) (λY=> ?n541)
     case' n541=>
      refine cw aT p p p ⟨_,rfl,Y⟩ p ?_;refine cw aT p p p ⟨_,rfl,Y⟩ p ?_;refine cw aT p p p ⟨_,rfl,Y⟩ p ?_;refine cw aT p p p ⟨_,rfl,Y⟩ p ?_;refine cw aT p p p ⟨_,rfl,Y⟩ p ?_;refine cw aT p p p ⟨_,rfl,Y⟩ p ?_;refine cw aT p p p ⟨_,rfl,Y⟩ p ?_;refine cw aT p p p ⟨_,rfl,Y⟩ p ?_;refine an (gy p p p ⟨_,rfl,Y⟩ p ?_);refine dd p (eW p Y p) ?_;refine cK ?_;refine b2 p p ?_;refine aF ?_
     case' y541=>
      refine b0 aT p p p p ⟨_,rfl,Y⟩ p (fv p) ?_;refine b0 aT p p p p ⟨_,rfl,Y⟩ p (fv p) ?_
      (first|refine b0 aT p p p p ⟨_,rfl,Y⟩ p (hx p p ah) ?_|refine b0 aT p p p p ⟨_,rfl,Y⟩ p (ns p p ah ah) ?_)
      refine fF aT p p p p ⟨_,rfl,Y⟩ p (er p bS) ?_;refine b0 aT p p p p ⟨_,rfl,Y⟩ p (iE p) ?_;refine fF aT p p p p ⟨_,rfl,Y⟩ p (d6 p dX) ?_;refine b0 aT p p p p ⟨_,rfl,Y⟩ p (fv p) ?_;refine b0 aT p p p p ⟨_,rfl,Y⟩ p (Dz p p) ?_;refine an (f9 p p p ⟨_,rfl,Y⟩ p (aw p (Re W ⟨0,q.x,q.p1⟩ _)) ?_);rintro _ _ ⟨rfl,rfl⟩;refine cM ?_;refine dd p (eP p Y p) ?_;refine cK ?_;refine d3 p (λb4=> ?y551) (λb4=> ?n551)
      case' n551=>
       refine aF ?_
      case' y551=>
       refine K ?_;refine aU λce=> ?_;refine GE (bx p p aI (aM.ae p) (cS p) aZ Q ah ah) ?_;rintro _ _ ⟨cc,bT,rfl,ck,b5,b6,rfl⟩;obtain⟨bQ,rfl⟩:=b6 Q;refine ad ?_;refine af ?_
     all_goals
      refine aJ ?_;iterate 3 refine ad ?_
      refine af ?_;first
      |(have aC:q.kN l++q.mR (s.take (U+1))=Z++[W.id]:=by
         have bC:q.xy W=true:=by simp_all[bl.xy]
         simp_all
        exact bM (U+1,bQ,bT,Z++[W.id]) ⟨C,aC.symm,by grind,b5⟩ C ⟨rfl,rfl,rfl,by simp only[bP,fD];rfl,rfl,rfl,trivial⟩ (by
         simp only[bP,fD];rw[<- gm];exact az))
      |(have aC:q.kN l++q.mR (s.take (U+1))=Z:=by
         simp_all[bl.xy]
        exact bM (U+1,ax,ay,Z) ⟨C,aC.symm,a7,bp⟩ C ⟨rfl,rfl,rfl,rfl,rfl,rfl,trivial⟩ az)
    ·have bj:U=am:=C;subst bj;rw[<- ab,k0]at aQ;refine aF ?_;exact ex (ax,ay,Z) ⟨aQ,a7,bp⟩ ⟨rfl,rfl,rfl,trivial⟩ (λ_ s=>s)
   ·rintro⟨ax,ay,Z⟩ ⟨a6,aQ,a7⟩;simp only at a6 aQ a7;dsimp only;have ci:Z.length<=n+am:=by
     rw[a6,bl.ids,bP];have bK:=q.xl l;have bN:=q.FZ s;omega
    rw[<- a6];refine K ?_;refine bw p (Ol q _) ?_;refine af ?_;refine d3 p (λbh=> ?_) (λbh=> ?_)
    ·rw[bh];refine K ?_;refine af ?_;refine aj p (.cell p (c7 bS) .nil) az (vF.nil p)
    ·rw[bh];have cn:(i9 Z).length=Z.length:=(OB Z).length_eq;refine K ?_;refine GE (aw p (D.frame [ae au 61 [j 0,.slice none 0 0],ae ar 27 (ee q.v),F] (Rj (ak ax) Z.length ay Z (own 3 1 (ak ax) Z.length ay (flat Z)::al) (aM.own (bU Z) (λ_=>⟨ax,rfl⟩)) C) (bR (.skip .here) (bR (.skip .here) (bR (.skip .here) bo))))) ?_;rintro _ _ ⟨_,⟨bI,bV,bz,rfl,co,b7,rfl,b8⟩,rfl⟩;refine K ?_;refine af ?_;refine aj (C:=(bz++[own 3 1 (ak ax) Z.length ay (flat Z)])++al) p (.cell p (c7 bS) .nil) ?_ ⟨bI,bV,bz++[own 3 1 (ak ax) Z.length ay (flat Z)],by rfl,by assumption,b7,rfl,?_⟩
     ·rw[ho];exact lQ (lQ bo)
     ·rw[if_neg Q,ho];exact b8
end
section
variable{P:Program}{g:c0}{L M:aG}{J:bW}{d:Option Nat}{aQ T cE:TypeId}{a3:String}{a2:Array Edge}{a0:Option (Nat×Bool)}{x y:Operand}{v:Value}
def i1(P:Program)(T:TypeId):Bool:=match P.underlying T with
 |some (.func ..)=>true
 | _=>false
def K6(h:i1 P T=true):∃j b C,P.underlying T=some (.func j b C):=by grind[i1]
def Dv(I j v)(G:j=.nilFunc\/∃D C b,j=.func D C b)(K:v=.nilFunc)(E):(eqGuard I T x y j v).run P E=.ok () E:=by rcases G with rfl|⟨D,C,b,rfl⟩<;>(unfold eqGuard;simp)
theorem Kr(C:i1 P T=true)(j):(dD T .nilFunc .nilFunc).run P j=.ok true j:=by
 obtain⟨E,b,G,D⟩:=K6 C;unfold dD;rw[show ly=9999+1 from rfl];unfold j2;simp[cg,run_underlying D]<;>rfl
def Tx(C:i1 P T=true)(E D b j):(dD T (.func E D b) .nilFunc).run P j=.ok false j:=by
 obtain⟨_,_,_,G⟩:=K6 C;unfold dD;rw[show ly=9999+1 from rfl];unfold j2;simp[cg,run_underlying G]<;>rfl
def TE(E:i1 P T=true)(j:aY J x=some .nilFunc)(C:aY J y=some .nilFunc):bf P L J ⟨d,.binOp .eql T x y cE,aQ,a3,a2,a0⟩ (.bool true):=
 iY _ _ _ _ (Dv _ _ _ (.inl p) p) j C λD=>by
  show((do pure (.bool (<- dD T _ _)):Sem Value)).run P D= _;simp_all[Kr]
end
def LD(j:Program)(C:TypeId):Bool:=match j.underlying C with
 |some (.interface _)=>true
 | _=>false
class tD (j:Program) (C:TypeId):Prop where
 h:LD j C=true
def tD.spec{j C}(D:tD j C):∃E,j.underlying C=some (.interface E):=by
 have h:=D.h;unfold LD at h;grind
def De(j:Program)(C:TypeId):Bool:=match j.underlying C with
 |some (.interface _)=>false
 |some _=>true
 |none=>false
class tw (j:Program) (C:TypeId):Prop where
 h:De j C=true
def Aw(j:Program)(C:TypeId)(name:String)(E:FuncId):Bool:=
 match j.info? C,j.underlying C with
 |some I,some (.pointer _)=>(match I.methods.find? (·.name==name)with
  |some D=>D.path.isEmpty&&(match D.func with|some (G,true)=>aA E G| _=>false)
  |none=>false)
 | _,_=>false
class vQ (j:Program) (C:TypeId) (name:String) (D:outParam FuncId):Prop where
 h:Aw j C name D=true
section
variable{P:Program}{L:aG}{J:bW}{d:Option Nat}{aQ T cE:TypeId}{a3:String}{a2:Array Edge}{a0:Option (Nat×Bool)}{x:Operand}{v:Value}{g:c0}
def TF[C:tD P T](E:aY J x=some .nilIface):bf P L J ⟨d,.binOp .eql T x (.const .nilIface) cE,aQ,a3,a2,a0⟩ (.bool true):=
 iY _ _ _ _ (λj=>by unfold eqGuard;simp) E p λj=>by
  obtain⟨G,D⟩:=C.spec;have ab:(dD T .nilIface .nilIface).run P j=.ok true j:=by
   unfold dD;rw[show ly=9999+1 from rfl];unfold j2;simp only[cg,run_underlying D];rfl
  show((do pure (.bool (<- dD T .nilIface .nilIface)):Sem Value)).run P j= _;simp_all
theorem Ty[C:tD P T]{S}(j):(dD T (.iface S v) .nilIface).run P j=.ok false j:=by
 obtain⟨E,D⟩:=C.spec;unfold dD;rw[show ly=9999+1 from rfl];unfold j2;simp only[cg,run_underlying D];rfl
def TG[D:tD P T]{S}(C:aY J x=some (.iface S v)):bf P L J ⟨d,.binOp .eql T x (.const .nilIface) cE,aQ,a3,a2,a0⟩ (.bool false):=
 iY _ _ _ _ (λj=>by rfl) C p λj=>by
  show((do pure (.bool (<- dD T _ _)):Sem Value)).run P j= _;simp[Ty]
def tw.spec(C:tw P T):∃j,P.underlying T=some j/\∀D,j≠ .interface D:=by
 have h:=C.h;unfold De at h;grind
def Kz[C:tw P T](G:aY J x=some v):bf P L J ⟨d,.makeInterface T x,aQ,a3,a2,a0⟩ (.iface T v):=λI j E _=>by
 obtain⟨K,D,O⟩:=C.spec;simp[execOp,E.eval G];have:(Ha T v).run P j=.ok (.iface T v) j:=by
  unfold Ha;simp only[cg,run_underlying D,db];rfl
 simp_all
def TS[C:tw P cE]{S}(G:aY J x=some (.iface cE v)):bf P L J ⟨d,.typeAssert x S cE true,aQ,a3,a2,a0⟩ (.tuple #[v,.bool true]):=λI j E _=>by
 obtain⟨K,D,O⟩:=C.spec;simp[execOp,E.eval G];have:(He (.iface cE v) S cE true).run P j=.ok (.tuple #[v,.bool true]) j:=by
  unfold He;simp only[cg,run_underlying D,db];rfl
 simp_all
theorem vQ.run{name f}[D:vQ P T name f][W:b4 P f](args j):(callMethod (.iface T v) name args).run P j=.ok (.enter f (#[v]++args)) j:=by
 have h:=D.h;unfold Aw at h;split at h
 ·rename_i U Z I R
  split at h
  ·rename_i Y K
   simp[bL]at h;obtain⟨aa,ab⟩:=h;split at ab
   ·rename_i ae G
    have E:=Nat.eq_of_beq_eq_true ab;subst E;have O:Y.path.toList=[]:=by simp_all
    have q:∀n,(method (n+1) T v name).run P j=.ok (f,v) j:=λn=>by
     unfold method;have Q:(typeInfo T).run P j=.ok U j:=by simp[typeInfo,I]
     simp[cg,Q,db,K,O,follow,G];unfold receiverAt;simp[cg,run_underlying R,db,Place.get,Sem.run_pure]
    have ag:(program).run P j=.ok P j:=rfl;unfold callMethod;simp[Made.depth];rw[show ∀C,C+100=(C+99)+1 from λ_=>rfl];simp[q];exact W.run _ j
   trivial
  trivial
 trivial
end
def qa(v:Value):List PanicEntry:=[{v,recovered:=false}]
def me(E:Program)(I:FuncId)(args:Array Value)(D:aG)(v:Value)(post:List aO->Prop):Prop:=
 ∀g F C,a4 g (F::D) C->Calls E I args C λG J=>∃j,G=.panicked (qa v)/\post j/\a4 g (F::j) J
def Oz(g:c0)(F:aO)(v:Value)(post:List aO->Prop):Exit->Act->World->Prop
 | .panic D,C,E=>C.defers=[]/\D=qa v/\∃j,post j/\a4 g (F::j) E
 | _,_,_=>False
def vM{J I C E D G}(h:C (.panic E) D G):∀j,fs J I C j (.panic E) D G
 | []=>h
 | .code _::j=>by exact vM h j
 | .ae _::j=>by exact vM h j
 | .inv _::j=>by exact vM h j
section
variable{P:Program}{L:aG}{J:bW}{d:Option Nat}{aQ:TypeId}{a3:String}{a2:Array Edge}{x:Operand}{v:Value}{g:c0}{fn:Func}{n:Nat}{B:Exit->Act->World->Prop}{aK:List eU}{ar:Array Oper}{l:List Oper}
def yf{D C args post}(Q:P.funcs[D]?=some fn)(O:fn.body=some C)(ag:fn.ntmps=n)(ae:cN args.length n=true)
  (h:∀(g:c0) (F),bc P (Oz g.base F v post) g.base n [.code C] (lM args 0) (F::L)):me P D args.toArray L v post:=λg F E R=>by
 refine calls_of_wp Q O ?_;have ak:args.toArray.size<=fn.ntmps:=by simp_all
 have:=h g F {tmps:=args.toArray++nV (fn.ntmps-args.toArray.size) undef,defers:=[]} E ⟨by simp_all,rfl,λU v j=> ?_⟩ R.base
 ·refine BC (λj W E h=> ?_) (wpIn_wide.1 this);cases j with
  |panic Y=>
   obtain⟨aa,ab,G,I,K⟩:=h;exact⟨aa,G,by grind,I,K.pX⟩
  | _=>exact h.elim
 ·obtain⟨al,rfl,Z⟩:=vW _ 0 U v j;grind
def Cb{C G Q args post}[R:b4 P C](U:kf J G=some args)(ae:me P C args.toArray L v post)
  (h:∀E j D,fo g n J E->post D->a4 g D j->B (.panic (qa v)) E j):c3 P B g n ar (⟨d,.call ⟨.value (.func C),G.toArray,Q⟩,aQ,a3,a2,none⟩::l) aK J L:=λE j K O=>by
 refine wpListIn_plain p λag am=> ?_;refine Oper.vl (λak ao=>by trivial) ?_;unfold dv;have I:(execOp E.eval ⟨d,.call ⟨.value (.func C),G.toArray,Q⟩,aQ,a3,a2,none⟩).run P j=.ok (.enter C args.toArray) j:=by
  show(callFunc C _).run P j= _;rw[List.map_toArray,mz K.e U];simpa using R.run _ j
 rw[I];have aa:a4 g ((λ_=>True)::L) j:=⟨O.g,λ_=>none,j.hm,λ_=> .inl p,λ_ _ I=>(by grind),d7.refl _,trivial,O.s⟩;refine(ae g _ j aa).mono λal ap Y=> ?_;obtain⟨D,rfl,W,Z⟩:=Y;exact vM (h _ _ D K W (Z.mono λ_ s=>s.tail)) aK
def Ql{D}{W:Array TypeId}(K:aY J x=some (.iface D v))(h:∀C j,fo g n J C->a4 g L j->B (.panic (qa (.iface D v))) C j):c3 P B g n ar (⟨d,.panic x,aQ,a3,a2,none⟩::l) aK J L:=λC j E I=>by
 refine wpListIn_plain p λO R=> ?_;refine Oper.vl (λQ U=>by trivial) ?_;unfold dv;have G:(execOp C.eval ⟨d,.panic x,aQ,a3,a2,none⟩).run P j=.halt (.panic (.iface D v)) j:=by
  simp[execOp,E.e.eval K];rfl
 rw[G];exact vM (h _ _ E I) aK
def A3{F post j C D}(E:g.kG=[])(I:fo g n J C)(G:post j)(K:a4 g (F::j) D):Oz g F v post (.panic (qa v)) C D:=⟨I.defers.trans E,rfl,j,G,K⟩
end
section
attribute [local irreducible] G bf cc
def uq(j:bA)(n C:Nat):aO:=λh=>∃D:List Value,G [own 166 27 j n C D] h
def D.fact{C E args j post}{J:Prop}(K:∀h,G j h->J)(W:J->D C E args j post):D C E args j post:=λg F O I=>W (K _ I.s.tail) g F O I
def jW(S U K W ag al am ao ar au Y ba id bc a9 n aH aK aY a0 a1 a2 a3 a4 a5 a6 aL aO aP aQ aS aV aW aX a7 bb ay aG aC):
  D E 44 #[R S,j ba,j id,j bc,.agg #[j aH,j aK,j aY,j a0,j a1,j a2,j a3,j a4,j a5,j a6,j aL,j aO,j aP,j aQ,j aS,j aV,j aW,j aX],.agg #[j a9,.bool a7,.bool bb,j n,.slice ay aG aC]] [ae S 88 [ag,al,am,ao,ar,au,j Y,.slice U K W],uq U K W] λv av=>v=.tuple #[]/\∃I J C,C<=maxLen/\J<=C/\(I=none/\J=0/\C=0\/∃b,I=(ak b))/\av=[ae S 88 [ag,al,am,ao,ar,au,j Y,(.slice I J C)],uq I J C]:=by
 refine D.pre (M:=uq U K W:: [ae S 88 [ag,al,am,ao,ar,au,j Y,.slice U K W]]) (λh s=>s.perm (List.Perm.swap ..)) ?_;refine D.open (J:=λZ=>[own 166 27 U K W Z]) (E:=λ_=>True) (λh ⟨Z,s⟩=>⟨Z,trivial,s⟩) λZ _=> ?_
 refine D.dR (post:=λv av=>v=.tuple #[]/\∃I J C aw,C<=maxLen/\J<=C/\(I=none/\J=0/\C=0\/∃b,I=(ak b))/\av=[ae S 88 [ag,al,am,ao,ar,au,j Y,(.slice I J C)],own 166 27 I J C aw]) ?_ λv av bt ⟨bd,I,J,C,aw,aa,ab,bi,be⟩ s=>⟨_,⟨bd,I,J,C,aa,ab,bi,rfl⟩,?_⟩
 ·refine D.fact (λh s=>own.facts (L:=[_]) s) λ⟨bs,bf,bg,bh⟩=> ?_;refine ap λg F=> ?_;refine aU λbn=> ?_;refine aU λbp=> ?_;refine bD ?_;iterate 5 refine ad ?_
  (first|refine aD (nt (q:=1048576) p p) ?_|refine aD (py p p) ?_)
  refine af ?_;refine cp p (λbj=> ?_) (λbj=> ?_)
  ·refine aF ?_;refine o4 (aE [0,1,2,3,4,5,6,7,8,9,10,11,12,13,14] (.e 15 (.e 16 (.q 17 (.q 18 (.e 19 .nil)))))) O O ?_;iterate 15 refine ai ?_
   refine hu λbq=> ?_;refine an (dh O p p p (bx p p aI cn (cS p) aZ Q ah ah) ?_);rintro _ _ ⟨ax,a8,rfl,bk,bl,bm,rfl⟩;iterate 2 refine ai ?_
   refine an (cj O p p p (c5 p p p cd) ?_);rintro _ _ ⟨rfl,rfl⟩;refine aF ?_;exact e6 (D:=[]) (j:=[]) (C:=[ae S 88 [ag,al,am,ao,ar,au,j Y,.slice ax (K+1) a8],own 166 27 ax (K+1) a8 (Z++[j ba,j Y,j id,j bc,j aH,j aK,j aY,j a0,j a1,j a2,j a3,j a4,j a5,j a6,j aL,j aO,j aP,j aQ,j aS,j aV,j aW,j aX,j a9,.bool a7,.bool bb,j n,.slice ay aG aC])]) p .nil aq ⟨rfl,_,_,_,_,bl,bk,.inr (bm Q),rfl⟩
  ·refine aF ?_;exact e6 (D:=[]) (j:=[]) (C:=[ae S 88 [ag,al,am,ao,ar,au,j Y,.slice U K W],own 166 27 U K W Z]) p .nil aq ⟨rfl,U,K,W,Z,bg,bf,bh,rfl⟩
 ·subst be;exact(G.fold (N:=[_]) (λh s=>⟨aw,s⟩) (s.perm (List.Perm.swap ..))).perm (List.Perm.swap ..)
end
section
variable{P:Program}{ar:Array Oper}{gx:Exit->Act->List Frame->World->Prop}{i n:Nat}{rest:List Nat}{a:Act}{eK:List Frame}{w:World}{o:Oper}{J:bW}{L:aG}{g:c0}
def aas(G:ar[i]?=some o)(E:o.guard=none)(h:o.wp P a w (λC j=>wpOpsS P ar gx rest C eK j) (λD C j=>gx D C eK j)):wpOpsS P ar gx (i::rest) a eK w:=by
 unfold wpOpsS;simp[G,hn,E,if_true];unfold dv at h;split
 ·rename_i j I
  rw[I]at h;trivial
 omega
def aaq(E:ar[i]?=some o)(D:o.guard=none)(j:(execOp a.eval o).run P w=.ok .recover w)(C:recoverD eK=none)(h:wpOpsS P ar gx rest (a.put o.dst .nilIface) eK w):wpOpsS P ar gx (i::rest) a eK w:=by
 unfold wpOpsS;simp[E,hn,D,if_true,j,C];omega
def aar{j v}(G:ar[i]?=some o)(E:o.guard=none)(C:(execOp a.eval o).run P w=.ok .recover w)(D:recoverD eK=some (v,j))(h:wpOpsS P ar gx rest (a.put o.dst v) j w):wpOpsS P ar gx (i::rest) a eK w:=by
 unfold wpOpsS;simp[G,hn,E,if_true,C,D];omega
def ml{post}(E:fo g n J a)(R:a4 g L w)(O:ar[i]?=some o)(K:o.guard=none)(G:ef n o.dst=true)(I:cc P g L J o post)
  (h:∀v j D C,post v j->fo g n (fb J o.dst v) D->a4 g j C->wpOpsS P ar gx rest D eK C):wpOpsS P ar gx (i::rest) a eK w:=
 aas O K (I a w E.e R _ _ λv C j Q U=>h v j _ C Q (E.kO v G) U)
def Ba(g)(C:g.kG=[])(args n)(G:args.length<=n):fo g n (lM args 0) {tmps:=args.toArray++nV (n-args.toArray.size) undef,defers:=[]}:=
 ⟨by simp_all,C.symm,λD v j=>by
  obtain⟨I,rfl,E⟩:=vW _ 0 D v j;grind⟩
end
def A2{D K O I E C}(R:K.results=E.toArray)(h:jL D O I E C){J j}(U:eD O J)(W:G I j.hm):(results K J.tmps).run D j=.ok (bG C) j:=by
 unfold results;rw[R];simp only[HP,cg,Hl];have Z:=h.run U W;generalize ae:HO (m:=Sem) _ E=Y;have Q:Y.run D j=.ok C j:=by grind
 rw[Q];cases C with
 |nil=>rfl
 |cons v l=>cases l<;>simp[bG]
def eD.Nn{D j C}(h:eD D j)(E:C.tmps=j.tmps):eD D C:=λI v G=>by rw[E];exact h I v G
def GO{E K J O C G o Q I g post}(Y:o.guard=none)(W:cc E g I Q o post)(ae:eD Q C)(ag:a4 g I G)
  (h:∀v j D,post v j->a4 g j D->wpList E K J O (C.put o.dst v) D):wpList E K J (o::O) C G:=wpList_plain Y λR U=>W C G ae ag R _ λv D j Z ak=>U _ _ (h v j D Z ak)
def aat{D aw W ax E j U O g post v}{Z:Option Nat}{am ak Y}
  {J} {q} {G I} {R} {al} {args} [ao:b4 D J] (Q:aY U q=some (.func (.func J) G.toArray I.toArray)) (aG:kf U R=some args) (h:me D J (G++args++I).toArray O v post) (ar:eD U E) (ag:a4 g O j)
  (av:∀C K,post C->a4 g C K->W (.panic (qa v)) E K):wpList D aw W (⟨Z,.call ⟨.value q,R.toArray,al⟩,am,ak,Y,none⟩::ax) E j:=wpList_plain p λay aE=>by
 unfold dv;have ae:(execOp E.eval ⟨Z,.call ⟨.value q,R.toArray,al⟩,am,ak,Y,none⟩).run D j=.ok (.enter J (G++args++I).toArray) j:=by
  have:=ao.run (G++args++I).toArray j;simp[execOp,resolve,ar.eval Q,lx,invoke];grind[mz]
 rw[ae];have aa:a4 g ((λ_=>True)::O) j:=⟨ag.g,λ_=>none,j.hm,λ_=> .inl p,λ_ _ ae=>(by grind),d7.refl _,trivial,ag.s⟩;refine(h g _ j aa).mono λaC K Q=> ?_;obtain⟨C,rfl,ap,au⟩:=Q;exact av C K ap (au.mono λ_ s=>s.tail)
def me.frame{I J args D M v post}(j)(h:me I J args D v post)(O:∀h,G M h->G (j++D) h):me I J args M v λC=>∃E,post E/\C=j++E:=by
 intro g F W Q;have aa:=Q.mono λR s=>G.join (N:=F::j) (s.ep O);refine(h g _ W aa).mono λY Z ⟨C,K,U,q⟩=>⟨_,K,⟨C,U,rfl⟩,q.mono λR s=>G.part s⟩
section
attribute [local irreducible] G bf cc
instance:tD E 20:=⟨O⟩
def Sy(C):D E 214 #[.nilIface] C λv G=>v=.tuple #[.agg #[j 0,j 0],.bool false]/\G=C:=by
 refine ap λg F=> ?_;refine aS λI=> ?_;refine aD (TF p) ?_;refine K ?_;refine af ?_;refine aj p (.cell p (c7 bS) (.tmp p .nil)) az ⟨rfl,rfl⟩
def RE(C D g M J)(Z:a4 g (ae C 221 [j 0,j 0]::ae D 4 [.bool false]::M) J):
  CallsD E 213 #[R C,R D] .returning J λO ay aC=>ay=.returning/\O=.returned (.tuple #[])/\a4 g (ae C 221 [j 0,j 0]::ae D 4 [.bool false]::M) aC:=by
 have Y:=Z.base;refine callsD_of_wpS Tryz.func213 p λK aO W=> ?_;refine wpS_region ?_;have U:=Ba g.base p [R C,R D] 7 Q;refine aaq rfl p p (by simp[recoverD,W]) ?_;refine ml (U.kO _ rfl) Y p p p (aw p (Sy _)) ?_;rintro _ _ aE aP ⟨rfl,rfl⟩ ap ag;refine ml ap ag p p p (bf.pu (fv p)) ?_;rintro _ _ aG aQ ⟨rfl,rfl⟩ ar ak;refine ml ar ak p p p (bf.pu (ur p p)) ?_;rintro _ _ aH aS ⟨rfl,rfl⟩ au al;refine ml au al p p p (bf.pu (ur p p)) ?_;rintro _ _ aI aV ⟨rfl,rfl⟩ av am;refine ml av am p p p (f1 p p p p (h3.here p)) ?_;rintro _ _ aK aW ⟨rfl,rfl⟩ ax ao;refine ml ax ao p p p (c5 p p p (h3.skip (h3.here p))) ?_;rintro _ _ aL aX ⟨rfl,rfl⟩ I G;refine⟨I.defers,.returning,?_,.tuple #[],A2 (E:=[]) (C:=[]) p .nil I.e G.s,rfl,rfl,G.pX⟩;obtain⟨⟩:=K;simp_all
def C4{U K O am}{post:List aO->Prop}[a1:b4 E U](h:D E U (K++[]++O).toArray am λv G=>post G):
  D E 162 #[.func (.func U) K.toArray O.toArray] am λv G=>v=.tuple #[.agg #[j 0,j 0],.bool false]/\post G:=λg F aZ aQ=>by
 refine calls_of_wp_defers Tryz.func162 p ?_;have aP:=Ba g.base p [.func (.func U) K.toArray O.toArray] 7 Q
 suffices aY:∀al,al=bodyPostD E Tryz.f162 (λY ax=>∃v G,Y=.returned v/\(v=.tuple #[.agg #[j 0,j 0],.bool false]/\post G)/\a4 g (F::G) ax)->
   bc _ al _ 7 [.code _] _ _ from BC (λY C aZ h=>by cases Y<;>first|exact h|trivial) (wpIn_wide.1 (aY _ rfl _ _ aP aQ.base))
 intro al aG;refine bZ ?_;refine aJ ?_;refine aU λI=> ?_;refine aS λJ=> ?_;intro C ay Z aV;refine wpListIn_plain p λaC aw=> ?_;refine⟨λ_ _=>trivial,?_⟩;have ao:C.eval (.tmp 4)=.func _ _ _:=Z.e.eval p;have ap:∀(ak:TypeId) (ag:String) (W:Array _),(execOp C.eval ⟨none,.defer ⟨.value (.tmp 4),#[],#[]⟩,ak,ag,W,none⟩).run E ay=.ok (.defer ⟨.fn (.func 213) #[R I,R J],#[]⟩) ay:=λ_ _ _=>by
  simp[execOp,resolve,ao,lx]
 rw[show ∀(ak:TypeId) (ag:String) (W:Array Edge),Hi (jp g.base.gK).round C.eval ⟨none,.defer ⟨.value (.tmp 4),#[],#[]⟩,ak,ag,W,none⟩=execOp C.eval ⟨none,.defer ⟨.value (.tmp 4),#[],#[]⟩,ak,ag,W,none⟩from λ_ _ _=>rfl,ap];refine aw _ _ ?_;clear aw aC ap ao;refine wpIn_wide.2 ?_;have aI:=Z.e;have a5:=Z.size;have aH:=Z.defers;refine wp_seq (wp_region_lit ?_);have au:=eD.Nn (C:={C with defers:=⟨.fn (.func 213) #[R I,R J],#[]⟩::C.defers}) aI p;refine GO p (bf.pu (fv p)) au aV ?_;rintro v a2 a7 ⟨rfl,rfl⟩ aW;have av:=eD.put au (t:=5) (.func (.func U) K.toArray O.toArray) (by simp_all);refine GO p (eV (C:=K) (E:=O) p p (D.frame [ae J 4 [.bool false],ae I 221 [j 0,j 0],F] h (λ_ s=>s))) av aW ?_;rintro v a3 a0 ⟨aE,aL,rfl⟩ aX;have aK:=av.put (t:=6) v (by simp[Act.put];omega);refine wp_ret ?_;subst aG;rw[aH];refine leaves_cons Q (f:=213) (args:= #[R I,R J]) ?_ ?_
 ·rfl
 ·refine(RE I J g.base _ a0 (aX.mono λ_ s=>s.swap)).mono λY a6 ax ⟨aa,ab,ar⟩=> ?_;subst aa ab;refine⟨_,A2 (E:=[.cell 2 221,.cell 3 4]) (C:=[.agg #[j 0,j 0],.bool false]) p (.cell p (c7 (aB.ae p)) (.cell p (EF (aR.skip (aR.ae p))) .nil)) aK ar.s,_,aE,rfl,⟨rfl,aL⟩,(ar.mono λ_ s=>s.tail.tail).pX⟩
abbrev aaw:Nat:=38
def ZG{l:List I}{j C}(h:l[j]?=some C):l.take (j+1)=l.take j++[C]:=by simp_all[List.take_add_one]
section
variable{Y:I->I->Bool}
def EI(v j l):dk Y v (l++[j])=dk Y v l++if Y j v=true then[j]else[]:=by simp[dk,nY]
def Et(v j)(l:List I):dy v (l++[j])=dy v l++if j=v then[j]else[]:=by simp[dy,nY]
def DT(v j l):d2 Y v (l++[j])=d2 Y v l++if Y v j=true then[j]else[]:=by simp[d2,nY]
end
structure o6 where
 iR:Option Addr
 dt:Nat
 kx:Option Addr
 d5:Nat
 iS:Option Addr
 iZ:Nat
structure o6.Ok (s:o6) (j C D:Nat):Prop where
 aa:0<j->∃b,s.iR=(ak b)
 ab:0<C->∃b,s.kx=(ak b)
 sk:0<D->∃b,s.iS=(ak b)
 sr:j<=s.dt
 uK:C<=s.d5
 ss:D<=s.iZ
section
variable{f:FuncId}[b4 E f]{Y:I->I->Bool}(cH:ev Y)(ew:k6 f Y)
include cH
theorem Z8(j v):Y j v=true\/j=v\/Y v j=true:=by
 by_cases h:Y j v=true
 ·simp_all
 ·by_cases C:j=v
  ·simp_all
  ·exact .inr (.inr (cH.e2 C (by simp_all)))
include ew
theorem Fm(ao:bA)(n ax:Nat)(l:List I)(v:I)(al:aG)(aC:Rd al ao n l)(bm:n<=1000000):
  D E 601 #[.slice ao n ax,v.v,.func (.func f) #[] #[]] al λba aP=>∃s:o6,ba=.tuple #[.slice s.iR (dk Y v l).length s.dt,.slice s.kx (dy v l).length s.d5,.slice s.iS (d2 Y v l).length s.iZ]/\s.Ok (dk Y v l).length (dy v l).length (d2 Y v l).length/\
   aP=own 43 3 s.iR (dk Y v l).length s.dt (flat (dk Y v l))::own 43 3 s.kx (dy v l).length s.d5 (flat (dy v l))::own 43 3 s.iS (d2 Y v l).length s.iZ (flat (d2 Y v l))::al:=by
 have aa:l.length=n:=aC.len bs;refine ap λg F=> ?_;refine aS λar=> ?_;refine af ?_;refine b5 (own.nil_ 43 3) ?_;refine b5 (own.nil_ 43 3) ?_;refine b5 (own.nil_ 43 3) ?_;refine cJ (ι:=Nat×o6) (λJ=>[(4,R ar),(2,.func (.func f) #[] #[]),(6,.slice J.2.iR (dk Y v (l.take J.1)).length J.2.dt),(7,.slice J.2.kx (dy v (l.take J.1)).length J.2.d5),(8,.slice J.2.iS (d2 Y v (l.take J.1)).length J.2.iZ),(11,.slice ao n ax),(12,j (n:Nat)),(13,j (J.1:Nat))])
  (λJ=>own 43 3 J.2.iR (dk Y v (l.take J.1)).length J.2.dt (flat (dk Y v (l.take J.1)))::own 43 3 J.2.kx (dy v (l.take J.1)).length J.2.d5 (flat (dy v (l.take J.1)))::own 43 3 J.2.iS (d2 Y v (l.take J.1)).length J.2.iZ (flat (d2 Y v (l.take J.1)))::ae ar 43 [j v.id,j v.x,j v.y]::F::al)
  (λJ=>J.1<=n/\J.2.Ok (dk Y v (l.take J.1)).length (dy v (l.take J.1)).length (d2 Y v (l.take J.1)).length) (λJ=>n-J.1) (0,⟨none,0,none,0,none,0⟩) ⟨bu _,⟨λh=>absurd h (dc 0),λh=>absurd h (dc 0),λh=>absurd h (dc 0),bv _,bv _,bv _⟩⟩ a8 (by show ∀h,_->G (own 43 3 none 0 0 []::own 43 3 none 0 0 []::own 43 3 none 0 0 []::ae ar 43 [j v.id,j v.x,j v.y]::F::al) h;exact az) ?_
 rintro⟨W,s⟩ ⟨a1,U⟩;simp only at a1 U;dsimp only;have bc:(dk Y v (l.take W)).length<=1000000:=h0 (hY _ _) (by grind);have bf:(dy v (l.take W)).length<=1000000:=h0 (hY _ _) (by grind);have bh:(d2 Y v (l.take W)).length<=1000000:=h0 (hY _ _) (by grind);refine K ?_;refine af ?_;refine cp p (λaH=> ?_) (λaH=> ?_)
 ·obtain⟨aQ,aV,rfl,aW⟩:=aC.at_ C;have ay:l[W]?=some l[W]:=cb C;have bb:=aW _ _ ay;have a9:=ZG ay;generalize l[W]=O at*
  have bn:aB al aQ (aV+W*3) 3 [j O.id,j O.x,j O.y]:=bb;have Z:=EI (Y:=Y) v O (l.take W);have ag:=Et v O (l.take W);have ak:=DT (Y:=Y) v O (l.take W);rw[<- a9]at Z ag ak;refine K ?_;refine aS λbd=> ?_;refine GE (eV p p (ew.mt O v _)) ?_;rintro _ _ ⟨rfl,rfl⟩;refine ad ?_;refine aL ?_;rcases Z8 cH O v with q|q|q
  ·have am:Y O v=true:=q;have av:Y v O=false:=cH.asym q;have aw:O≠v:=λau=>by simp_all
   rw[am,if_pos p]at Z;rw[if_neg aw,dA]at ag;rw[av,if_neg Q,dA]at ak;refine K ?_;refine aU λbg=> ?_;refine GE (bx p p aI cn (cS p) aZ Q ah ah) ?_;rintro _ _ ⟨aK,aY,rfl,a3,bk,a6,rfl⟩;refine K ?_;refine af ?_;exact bM (W+1,{s with iR:=aK,dt:=aY}) ⟨C,by
    simp only;rw[Z,ag,ak,bP];exact⟨λ_=>a6 Q,U.ab,U.sk,a3,U.uK,U.ss⟩⟩ C ⟨rfl,rfl,by simp only;rw[Z,bP];rfl,by simp only;rw[ag];rfl,by simp only;rw[ak];rfl,rfl,rfl,rfl,trivial⟩ (by
    simp only;rw[Z,ag,ak,bP,<- gm];exact aq)
  ·subst q;have am:Y O O=false:=cH.hS O;rw[am,if_neg Q,dA]at Z;rw[if_pos p]at ag;rw[am,if_neg Q,dA]at ak;refine K ?_;refine GE (eV p p (ew.mt O O _)) ?_;rintro _ _ ⟨rfl,rfl⟩;refine K ?_;refine aU λbe=> ?_;refine GE (bx p p aI cn (cS p) aZ Q ah ah) ?_;rintro _ _ ⟨aE,aX,rfl,a2,bj,a5,rfl⟩;refine K ?_;refine af ?_;exact bM (W+1,{s with kx:=aE,d5:=aX}) ⟨C,by
    simp only;rw[Z,ag,ak,bP];exact⟨U.aa,λ_=>a5 Q,U.sk,U.sr,a2,U.ss⟩⟩ C ⟨rfl,rfl,by simp only;rw[Z];rfl,by simp only;rw[ag,bP];rfl,by simp only;rw[ak];rfl,rfl,rfl,rfl,trivial⟩ (by
    simp only;rw[Z,ag,ak,bP,<- gm];exact aq)
  ·have am:Y O v=false:=cH.asym q;have av:Y v O=true:=q;have aw:O≠v:=λau=>by simp_all
   rw[am,if_neg Q,dA]at Z;rw[if_neg aw,dA]at ag;rw[av,if_pos p]at ak;refine K ?_;refine GE (eV p p (ew.mt v O _)) ?_;rintro _ _ ⟨rfl,rfl⟩;refine K ?_;refine aU λbi=> ?_;refine GE (bx p p aI cn (cS p) aZ Q ah ah) ?_;rintro _ _ ⟨aO,a0,rfl,a4,bl,a7,rfl⟩;refine K ?_;refine af ?_;exact bM (W+1,{s with iS:=aO,iZ:=a0}) ⟨C,by
    simp only;rw[Z,ag,ak,bP];exact⟨U.aa,U.ab,λ_=>a7 Q,U.sr,U.uK,a4⟩⟩ C ⟨rfl,rfl,by simp only;rw[Z];rfl,by simp only;rw[ag];rfl,by simp only;rw[ak,bP];rfl,rfl,rfl,rfl,trivial⟩ (by
    simp only;rw[Z,ag,ak,bP,<- gm];exact aq)
 ·have au:l.take W=l:=jE C;rw[au]at U ⊢;refine K ?_;refine af ?_;exact aj (C:=own 43 3 s.iR (dk Y v l).length s.dt (flat (dk Y v l))::own 43 3 s.kx (dy v l).length s.d5 (flat (dy v l))::own 43 3 s.iS (d2 Y v l).length s.iZ (flat (d2 Y v l))::al) p (.tmp p (.tmp p (.tmp p .nil))) aq ⟨s,rfl,U,rfl⟩
end
def B2(I n K J):D E 621 #[.slice I n K,j 5] J λv O=>∃C G,v=.func (.func 623) #[] #[R C,R G]/\O=ae C 38 [.slice I n K]::ae G 3 [j 5]::J:=O5
def C8{S:Type}(y Z ag b o n ak)(aI:List I)(W:Nat->S->List aO)(Inv:Nat->S->Prop)(aL:∀G s,Inv G s->Rd (W G s) (some ⟨b,o,none⟩) n aI)(aQ:n<=1000000)(aP:n<=ak)
  (aG:∀G s,5*G<n->Inv G s->ic E y [.slice (some ⟨b,o+5*G*3,none⟩) (min 5 (n-5*G)) (min 5 (n-5*G))] (W G s) λq al=>q=true/\∃Y,Inv (G+1) Y/\al=W (G+1) Y) (ao) (aw:Inv 0 ao):
  D E 623 #[Value.func (.yield y) #[] #[],R Z,R ag] (ae Z 38 [.slice (some ⟨b,o,none⟩) n ak]::ae ag 3 [j 5]::W 0 ao) λv al=>v=.tuple #[]/\∃G Y,n<=5*G/\5*G<n+5/\Inv G Y/\al=ae Z 38 [.slice (some ⟨b,o,none⟩) n ak]::ae ag 3 [j 5]::W G Y:=by
 refine ap λg F=> ?_;refine af ?_;refine cJ (λO=>[(0,Value.func _ _ _),(1,.pointer _),(2,.pointer _),(4,.int _ ((5*O.1:Nat):Int))]) (λO=>F::ae Z 38 _::ae ag 3 [j 5]::W O.1 O.2) (λO=>5*O.1<n+5/\Inv O.1 O.2) (λO=>n+5-5*O.1) (0,ao) ⟨Q,aw⟩ a8 az ?_;rintro⟨G,s⟩ ⟨ar,au⟩;refine K ?_;refine af ?_;refine cp p (λaH=> ?_) (λaH=> ?_)
 ·have am:=aG G s C au;obtain⟨J,av⟩:∃J,J=5*G:=⟨_,rfl⟩;obtain⟨U,ax⟩:∃U,U=min 5 (n-J):=⟨_,rfl⟩;have ay:(min (5:Int) ((n-J:Nat):Int))=(U:Int):=C;rw[<- av]at am aH ar ⊢;rw[<- ax]at am;refine aW (aE [0,1,2,3,4,5] (.q 6 .nil)) ?_;iterate 3 refine ai ?_
  refine cV p (ga p p C C) ?_;iterate 3 refine ai ?_
  refine dl ?_;rw[ay];refine K ?_;refine aD (DA (l:=J) (h:=J+U) (j:=J+U) p p p p Q Q C) ?_;rw[show J+U-J=U by simp,if_neg (show ¬J+U=J by omega)];refine ym p p p (ic.frame [F,ae Z 38 [.slice (some ⟨b,o,none⟩) n ak],ae ag 3 [j 5]] am (λ_ s=>s)) ?_;rintro q al ⟨aK,⟨rfl,Y,aC,rfl⟩,rfl⟩;refine aD (cL p) ?_;refine K ?_;refine af ?_;exact bM (G+1,Y) ⟨C,aC⟩ C ⟨rfl,rfl,rfl,by rw[av];rfl,trivial⟩ az
 ·refine aF ?_;exact e6 (D:=[]) (j:=[]) (C:=ae Z 38 [.slice (some ⟨b,o,none⟩) n ak]::ae ag 3 [j 5]::W G s) p .nil az ⟨rfl,G,s,C,ar,au,rfl⟩
section
variable{f:FuncId}[b4 E f]{Y:I->I->Bool}(cH:ev Y)(ew:k6 f Y)
include cH ew
theorem Wu(aX:bA)(n av:Nat)(l:List I)(Z:aG)(aH:Rd Z aX n l)(bd:0<n)(bp:n<=1000000)(a3:n<=av):
  D E 616 #[.slice aX n av,.func (.func f) #[] #[]] Z λbM ao=>∃J:List I,((∀K∈J,K∈l)/\5*J.length<n+5/\n<=5*J.length)/\yB 43 J Z bM ao:=by
 have aa:l.length=n:=aH.len bs;obtain⟨b,o,rfl,_⟩:=aH.at_ bd;refine yg (fn:=Tryz.f616) (n:=24) Tryz.func616 p p p ?_;intro g F a5;refine aJ ?_;refine aU λaC=> ?_;refine ad ?_;refine bD ?_;refine aU λap=> ?_;refine bD ?_;refine ad ?_;refine GE (aw p (B2 (some ⟨b,o,none⟩) n av _)) ?_;rintro _ _ ⟨aY,a0,rfl,rfl⟩;refine af ?_;refine b5 (own.nil_ 43 3) ?_;refine Cf (Q:=623) (U:=[]) (W:=[R aY,R a0]) (post:=λbK aP=>bK=none/\∃s:Option Addr×Nat×List I,((∀K∈s.2.2,K∈l)/\5*s.2.2.length<n+5/\n<=5*s.2.2.length)/\((0<s.2.2.length->∃b,s.1=(ak b))/\s.2.2.length<=s.2.1/\s.2.1<=maxLen)/\aP=own 43 3 s.1 s.2.2.length s.2.1 (flat s.2.2)::ae ap 38 [.slice s.1 s.2.2.length s.2.1]::F::Z) (by rw[<- a5];rfl) p p ?_ ?_ ?_
 ·intro y ar bb bf;have bC:=C8 (S:=Option Addr×Nat×List I) y aY a0 b o n av l
   (λau s=>bz y (bb .ready none)::bz ar (.deferred (some []))::own 43 3 s.1 s.2.2.length s.2.1 (flat s.2.2)::ae ap 38 [.slice s.1 s.2.2.length s.2.1]::ae aC 401 [.func (.func f) #[] #[]]::F::Z)
   (λau s=>s.2.2.length=au/\(∀K∈s.2.2,K∈l)/\(0<s.2.2.length->∃b,s.1=(ak b))/\s.2.2.length<=s.2.1/\s.2.1<=maxLen)
   (λau s _=>aH.skip.skip.skip.skip.skip.skip) bp a3 ?_ (none,0,[]) ⟨rfl,Q,λh=>absurd h (dc 0),bv _,bu _⟩
  ·refine(D.pre aq bC).dR ?_;rintro v ao aS ⟨rfl,au,s,bU,bV,⟨bQ,bt,bB⟩,rfl⟩ bT;refine⟨_,⟨.ready,none,_,bs,⟨rfl,s,⟨bt,C,C⟩,bB,rfl⟩,rfl⟩,?_⟩;revert aS;exact aq
  ·rintro au ⟨am,al,J⟩ bl ⟨ax,ay,aK,bI,bJ⟩;simp only at ax ay aK bI bJ;dsimp only;obtain⟨U,bk⟩:∃U,U=5*au:=⟨_,rfl⟩;obtain⟨G,aS⟩:∃G,G=min 5 (n-U):=⟨_,rfl⟩;rw[<- bk]at bl ⊢;rw[<- aS];have a4:=aH.drop (k:=U) (c:=av) C a3;rw[if_neg C]at a4;have bh:Rd Z (some ⟨b,o+U*3,none⟩) G ((l.drop U).take G):=by
    have be:Rd Z (some ⟨b,o+U*3,none⟩) G ((l.drop U).take G):=a4.take (k:=G) C;exact be
   have bi:((l.drop U).take G).length=G:=bh.len bs;have bj:∀K∈(l.drop U).take G,K∈l:=λK aV=>List.mem_of_mem_drop (List.mem_of_mem_take aV);generalize(l.drop U).take G=ag at*
   refine bf (ι:=Unit) (τ:=λ_=>[(3,R aC),(5,R ap),(6,.slice (some ⟨b,o+U*3,none⟩) G G)]) (M:=λ_=>bz ar (.deferred (some []))::own 43 3 am J.length al (flat J)::ae ap 38 [.slice am J.length al]::ae aC 401 [.func (.func f) #[] #[]]::F::Z) (Fy:=λ_=>True) ?_ ?_
   ·intro g ba _ _;refine aJ ?_;refine ad ?_;refine aL ?_;exact yq () trivial a8 az
   ·intro g ba _ _ _ _;have a9:(a7 Y ag).length=G:=by rw[e0,bi]
    have aV:(a7 Y ag)[G/2]?=some (a7 Y ag)[G/2]:=cb C;have bE:(a7 Y ag)[G/2] ∈l:=bj _ ((e1 ag).subset (hp _));generalize(a7 Y ag)[G/2]=K at*
    refine aF ?_;refine aJ ?_;iterate 2 refine ad ?_
    refine GE (aw p ((rQ cH ew (some ⟨b,o+U*3,none⟩) G G ag _ cr C (bv _)))) ?_;rintro _ _ ⟨W,bc,rfl,a2,rfl⟩;refine ad ?_;refine aL ?_;rw[a9]at a2 ⊢;obtain⟨a1,rfl⟩:=a2 C;have bm:∀ao,aB (own 43 3 (ak a1) G bc (flat (a7 Y ag))::ao) a1 (0+(G/2)*3) 3 [j K.id,j K.x,j K.y]:=λao=>ll a9 aV ao;generalize a7 Y ag=bW at*
    refine aW (aE [0,1,2,3,4,5,6] (.e 7 (.e 8 (.e 9 .nil)))) ?_;refine n7 ir p p p p (d6 p dX) ?_;refine kA ir p p p p (fv p) ?_;refine kA ir p p p p (fv p) ?_;refine n7 ir p p p p (wz p) ?_
    (first|refine kA ir p p p p (kH (q:=2) p p ah ah) ?_|refine kA ir p p p p (hQ p p ah ah ah) ?_)
    (first|refine kA ir p p p p (hx p p ah) ?_|refine kA ir p p p p (ns p p ah ah) ?_)
    refine n7 ir p p p p (er p (by repeat' first|exact bm _|apply aB.skip)) ?_;refine hu λbO=> ?_;refine an (dh O p p p (bx p p aI cn (cS p) aZ bs ah ah) ?_);rintro _ _ ⟨aO,aQ,rfl,bg,bn,bq,rfl⟩;refine an (cj O p p p (c5 p p p cd) ?_);rintro _ _ ⟨rfl,rfl⟩;refine aF ?_;exact yp (bz ar (.deferred (some []))::own 43 3 aO (J++[K]).length aQ (flat (J++[K]))::ae ap 38 [.slice aO (J++[K]).length aQ]::ae aC 401 [.func (.func f) #[] #[]]::F::Z) ⟨rfl,(aO,aQ,J++[K]),⟨by simp only[bP,fD,ax],λbN bF=>(cT.1 bF).elim (ay bN) (λh=>by simp at h;exact h▸bE),by simp only[bP,fD];exact λ_=>bq C,by simp only[bP,fD];exact bg,bn⟩,rfl⟩ (by
     rw[bP,<- gm];exact aq)
 ·rintro ar aP ⟨-,⟨am,al,J⟩,a6,⟨ax,ay,aK⟩,rfl⟩;simp only at a6 ax ay aK;dsimp only;refine aJ ?_;iterate 2 refine ad ?_
  refine af ?_;exact yo [ar] rfl (by rw[<- a5];rfl) p (.tmp p .nil) (M:=own 43 3 am J.length al (flat J)::ae ap 38 [.slice am J.length al]::F::Z) (j:=own 43 3 am J.length al (flat J)::Z) aq aq ⟨J,a6,am,al,rfl,ax,ay,aK,rfl⟩
 ·rintro ar al aP ⟨h,_⟩;cases h
theorem W0:∀(ap:Nat)(Q:bA)(n U:Nat)(l:List I)(J:Nat)(v:I)(W:aG)(_:n<=ap)(_:Rd W Q n l)(_:n<=1000000)(_:n<=U) (_:(a7 Y l)[J]?=some v),
  D E 610 #[.slice Q n U,j (J:Nat),.func (.func f) #[] #[]] W λbi am=>bi=v.v/\am=W:=by
 intro ap
 induction ap using Nat.strongRecOn with
 | _ ap bc=>
 intro Q n U l J v W bl ax bm aY aC;have aa:l.length=n:=ax.len bs;refine bH λg F=> ?_;refine aJ ?_;refine aU λar=> ?_;refine aL ?_
 (repeat first|refine bZ ?_|refine fi ?_|refine gk ?_)
 refine hs (ι:=Option Addr×Nat×List I×Nat×List aO) (λG=>[(0,.slice G.1 G.2.2.1.length G.2.1),(1,j (G.2.2.2.1:Nat)),(2,.func (.func f) #[] #[]),(6,R ar)]) (λG=>ae ar 43 [j 0,j 0,j 0]::(G.2.2.2.2++F::W)) (λG=>Rd (G.2.2.2.2++F::W) G.1 G.2.2.1.length G.2.2.1/\G.2.2.1.length<=G.2.1/\G.2.2.1.length<=n/\(a7 Y G.2.2.1)[G.2.2.2.1]?=some v) ?_ ?_
 ·refine aF ?_;refine cJ (ι:=Option Addr×Nat×List I×Nat×List aO) (λG=>[(0,.slice G.1 G.2.2.1.length G.2.1),(1,j (G.2.2.2.1:Nat)),(2,.func (.func f) #[] #[]),(6,R ar)]) (λG=>ae ar 43 [j 0,j 0,j 0]::(G.2.2.2.2++F::W)) (λG=>Rd (G.2.2.2.2++F::W) G.1 G.2.2.1.length G.2.2.1/\G.2.2.1.length<=G.2.1/\G.2.2.1.length<=n/\(a7 Y G.2.2.1)[G.2.2.2.1]?=some v) (λG=>G.2.2.1.length) (Q,U,l,J,[]) ⟨by simp only[mb];rw[aa];exact ax.skip,by simp only;omega,by simp only;omega,aC⟩ ⟨by simp only;rw[aa];rfl,rfl,rfl,rfl,trivial⟩ az ?_;rintro⟨Q,U,l,J,aS⟩ ⟨au,Z,av,K⟩;simp only at au Z av K;dsimp only;clear ax aY aC aa;have a3:J<l.length:=by
   rcases eC J l.length with h|h
   ·exact h
   ·rw[ma (by rw[e0];exact h)]at K;cases K
  refine aJ ?_;iterate 3 refine ad ?_
  refine af ?_;refine cp p (λaH=> ?_) (λaH=> ?_)
  ·refine aF ?_;refine cv ?_;iterate 2 refine ad ?_
   refine GE (aw p (Wu cH ew Q l.length U l _ cr C C Z)) ?_;rintro _ _ ⟨O,⟨bd,bq,bt⟩,aQ,aV,rfl,ba,bb,bp,rfl⟩;refine ad ?_;refine aL ?_;have aZ:O.length/2<O.length:=C;have aE:(a7 Y O)[O.length/2]?=some ((a7 Y O)[O.length/2]'(by rw[e0];exact aZ)):=cb _;generalize(a7 Y O)[O.length/2]'(by rw[e0];exact aZ)=G at aE;have a6:G∈l:=bd G (w6 aE);have bx:=uX cH G l;have aK:=Ai a6;refine aJ ?_;iterate 4 refine ad ?_
   (first|refine aD (kH (q:=2) p p ah ah) ?_|refine aD (hQ p p ah ah ah) ?_)
   refine ad ?_;refine bw p (bc O.length C aQ O.length aV O (O.length/2) G _ (bv _) (aM.own (bU _) ba) C bb aE) ?_;refine ad ?_;refine GE (aw p (Fm cH ew Q l.length U l G _ cr C)) ?_;rintro _ _ ⟨s,rfl,ao,rfl⟩;iterate 7 refine ad ?_
   refine aL ?_;have be:∀h,_:=EZ (j:=J) cH G l;have bf:∀h bk,_:=MO (j:=J) cH G l;have bg:∀h,_:=EY (j:=J) cH G l;have a5:∀a0∈dy G l,a0=G:=λa0 a9=>qX a9;generalize dk Y G l=al at*
   generalize dy G l=ag at*
   generalize d2 Y G l=ay at*
   refine aJ ?_;iterate 5 refine ad ?_
   refine af ?_;refine cp p (λaP=> ?_) (λaP=> ?_)
   ·refine aF ?_;refine cv ?_;iterate 2 refine ad ?_
    refine af ?_;exact bM (s.iR,s.dt,al,J,[own 43 3 s.iR al.length s.dt (flat al)]) ⟨aM.own (bU _) ao.aa,ao.sr,by simp only;omega,by simp only;rw[<- be C];exact K⟩ (by simp only;omega) a8 aq
   ·refine aF ?_;refine cv ?_;iterate 8 refine ad ?_
    refine af ?_;refine cp p (λbh=> ?_) (λbh=> ?_)
    ·obtain⟨aI,aX⟩:=ao.ab aK;have aW:=bf C C;rw[K]at aW;have a1:ag[0]?=some G:=by
      rw[cb aK,a5 _ (hp aK)]
     cases aW;obtain⟨bz,bE,bB,bj,bC,bF⟩:=s;simp only at aX;subst aX;dsimp only;have a4:∀am,aB (own 43 3 (ak aI) ag.length bj (flat ag)::am) aI (0+0*3) 3 [j v.id,j v.x,j v.y]:=λam=>ll p a1 am;refine aJ ?_;iterate 2 refine ad ?_
     refine aD (er p (by repeat' first|exact a4 _|apply aB.skip)) ?_;refine cF ?_;refine af ?_;refine aj p (.cell p (c7 bS) .nil) ?_ ⟨rfl,rfl⟩;exact(by(repeat first|exact bo|apply lQ|apply r4)<;>fail)
    ·refine aF ?_;refine cv ?_;iterate 10 refine ad ?_
     refine af ?_;exact bM (s.iS,s.iZ,ay,J-al.length-ag.length,[own 43 3 s.iS ay.length s.iZ (flat ay)]) ⟨aM.own (bU _) ao.sk,ao.ss,by simp only;omega,by simp only;rw[<- bg C];exact K⟩ (by simp only;omega) ⟨rfl,by simp only;rw[show((J-al.length-ag.length:Nat):Int)=(J:Int)-(al.length:Int)-(ag.length:Int) by omega];rfl,rfl,rfl,trivial⟩ aq
  ·refine aF ?_;exact ex (Q,U,l,J,aS) ⟨au,Z,av,K⟩ a8 az
 ·rintro⟨Q,U,l,J,aS⟩ ⟨au,Z,av,K⟩;simp only at au Z av K;dsimp only;clear ax aY aC aa;have a3:J<l.length:=by
   rcases eC J l.length with h|h
   ·exact h
   ·rw[ma (by rw[e0];exact h)]at K;cases K
  have bn:(a7 Y l).length=l.length:=e0 l;refine aJ ?_;iterate 2 refine ad ?_
  refine GE (aw p (rQ cH ew Q l.length U l _ cr C Z)) ?_;rintro _ _ ⟨aQ,aV,rfl,a2,rfl⟩;refine ad ?_;obtain⟨aI,rfl⟩:=a2 C;refine aD (hx p p C) ?_;refine aD (er p (ll p K _)) ?_;refine cF ?_;refine af ?_;exact aj p (.cell p (c7 bS) .nil) (by(repeat first|exact bo|apply lQ|apply r4)<;>fail) ⟨rfl,rfl⟩
theorem XL(O:bA)(n Q:Nat)(l:List I)(G:Nat)(v:I)(U:aG)(au:Rd U O n l)(am:n<=1000000)(ar:n<=Q)(J:(a7 Y l)[G]?=some v):
  D E 600 #[.slice O n Q,j (G:Nat),.func (.func f) #[] #[]] U λaI K=>aI=.tuple #[v.v,.bool true]/\K=U:=by
 have aa:l.length=n:=au.len bs;have aX:G<n:=by
  rcases eC G n with h|h
  ·exact h
  ·rw[ma (by rw[e0];omega)]at J;cases J
 have aH:=Ai (w6 J);have aQ:=uQ cH J;have aS:=Au cH J;have ax:∀ap∈dy v l,ap=v:=λap ay=>qX ay;have Z:(dy v l)[G-(dk Y v l).length]?=some v:=by
  have ae:G-(dk Y v l).length< (dy v l).length:=C;rw[cb ae,ax _ (hp ae)]
 refine bH λg F=> ?_;refine aJ ?_;refine aU λaO=> ?_;refine ad ?_;refine bD ?_;iterate 3 refine ad ?_
 refine dE 14 p (decide_eq_false C) ?_;iterate 5 refine ad ?_
 refine af ?_;refine b2 p (decide_eq_false C) ?_;refine aJ ?_;iterate 3 refine ad ?_
 refine bw p (W0 cH ew n O n Q l G v _ (bv _) cr am ar J) ?_;refine aU λaP=> ?_;refine cF ?_;refine bD ?_;iterate 3 refine ad ?_
 refine GE (aw p (Fm cH ew O n Q l v _ cr am)) ?_;rintro _ _ ⟨s,rfl,aE,rfl⟩;iterate 7 refine ad ?_
 refine aL ?_;generalize dk Y v l=aC at*
 generalize dy v l=W at*
 generalize d2 Y v l=aV at*
 obtain⟨ao,ag⟩:=aE.ab aH;obtain⟨aY,a1,aZ,aK,a0,a2⟩:=s;simp only at ag;subst ag;dsimp only;obtain⟨R,al⟩:∃R,G-aC.length=R:=⟨_,rfl⟩;rw[al]at Z;have aW:R<W.length:=C;have av:∀K,aB (own 43 3 (ak ao) W.length aK (flat W)::K) ao (0+R*3) 3 [j v.id,j v.x,j v.y]:=λK=>ll p Z K;refine aJ ?_;iterate 4 refine ad ?_
 refine aD (uw p p C) ?_;rw[al];refine aD (hx p p C) ?_;refine aD (er p (by repeat' first|exact av _|apply aB.skip)) ?_;refine cF ?_;refine ad ?_;refine af ?_;refine aj p (.cell p (c7 bS) (.tmp p .nil)) az ⟨rfl,rfl⟩
end
theorem Es{l}(D:l.Nodup){v:I}(E:v∈l):dy v l=[v]:=by
 induction l with
 |nil=>trivial
 |cons j l G=>
  have h:=List.nodup_cons.1 D;unfold dy at*
  rw[nY]
  by_cases C:j=v
  ·subst C;rw[if_pos Q];grind[List.filter_eq_nil_iff]
  grind
def IQ(v:I)(C j:List I)(K:aG)(Q:Value)(O:aG):Prop:=∃G D J E,Q=.tuple #[.slice G C.length D,v.v,.slice J j.length E,.bool true]/\((0<C.length->∃b,G=(ak b))/\C.length<=D/\D<=maxLen)/\((0<j.length->∃b,J=(ak b))/\j.length<=E/\E<=maxLen)/\
 O=own 43 3 G C.length D (flat C)::own 43 3 J j.length E (flat j)::K
section
variable{f:FuncId}[b4 E f]{Y:I->I->Bool}(cH:ev Y)(ew:k6 f Y)
include cH ew
theorem Y4(R:bA)(n U:Nat)(l:List I)(Z:Nat)(v:I)(G:aG)(ag:Rd G R n l)(bj:n<=100000)(aY:n<=U)(a3:l.Nodup)(W:(a7 Y l)[Z]?=some v):
  D E 585 #[.slice R n U,j (Z:Nat),.func (.func f) #[] #[]] G λbd J=>IQ v (dk Y v l) (d2 Y v l) G bd J:=by
 have aa:l.length=n:=ag.len bs;have a5:=w6 W;have bf:=uQ cH W;have aW:=Au cH W;have aC:=Es a3 a5;rw[aC]at aW;have aX:Z=(dk Y v l).length:=by grind
 have aV:=λM h=>XL cH ew R n U l Z v M h C aY W;have av:=λM h=>Fm cH ew R n U l v M h C;rw[aC]at av;have bh:(dk Y v l).length<=100000:=h0 (hY _ _) C;have bi:(d2 Y v l).length<=100000:=h0 (hY _ _) C;generalize dk Y v l=aK at*
 generalize d2 Y v l=ay at*
 subst aX;refine ap λg F=> ?_;refine aS λbe=> ?_;refine a9 (aV _ (by repeat' first|exact ag|apply Rd.skip)) ?_;refine aU λaQ=> ?_;refine cF ?_;refine ad ?_;refine bD ?_;refine ad ?_;refine aD (cL p) ?_;refine K ?_;refine GE (aw p (av _ (by repeat' first|exact ag|apply Rd.skip))) ?_;rintro _ _ ⟨s,rfl,aO,rfl⟩;iterate 7 refine ad ?_
 refine aL ?_;obtain⟨bk,bn,bl,aP,bm,bp⟩:=s;obtain⟨al,ax⟩:=aO.ab Q;have bc:=aO.uK;simp only[fD]at ax bc;subst ax;dsimp only;have a4:∀J,aB (own 43 3 (ak al) 1 aP (flat [v])::J) al (0+0*3) 3 [j v.id,j v.x,j v.y]:=λJ=>ll (l:=[v]) (i:=0) (x:=v) p p J;refine aJ ?_;iterate 3 refine ad ?_
 refine aD (uw p p C) ?_;rw[Nat.sub_self];refine ad ?_;refine aL ?_;refine aF ?_;refine Iu (own 43 3 (ak al) 1 aP (flat [v])::ae aQ 43 [j v.id,j v.x,j v.y]::F::G) (aE [0,1,2,3,5,6,7,8,9,10,11,12,13] (.e 4 (.e 14 (.q 15 (.e 16 (.q 17 (.q 18 .nil))))))) az O O ?_;iterate 3 refine ai ?_
 refine cV p (h5 p p Q) ?_;iterate 3 refine ai ?_
 refine cV p (er p (by repeat' first|exact a4 _|apply aB.skip)) ?_;iterate 4 refine ai ?_
 refine cV p (ga p p Q C) ?_;refine an (a1 p p p (bx p p aI ((Rd.nil (α:=I) _ _)) ((cO ([]:List I))) aZ bs ah ah) ?_);rintro _ _ ⟨am,ar,rfl,a0,a6,ba,rfl⟩;refine bg ?_;refine an (a1 p p p (bx p p aI ((Rd.nil (α:=I) _ _)) ((cO ([]:List I))) aZ bs ah ah) ?_);rintro _ _ ⟨ao,au,rfl,a2,a8,bb,rfl⟩;refine bg ?_;refine ai ?_;refine an (dh O p p p (f1 p p p p cd) ?_);rintro _ _ ⟨rfl,rfl⟩;refine K ?_
 all_goals
  refine aF ?_;have aH:∀q:List I,flat q++flat ([]:List I)=flat q:=λq=>by rw[KU,dA]
  rw[aH,aH];refine aj (C:=own 43 3 am aK.length ar (flat aK)::own 43 3 ao ay.length au (flat ay)::G) p (.tmp p (.cell p (c7 bS) (.tmp p (.tmp p .nil)))) aq ⟨am,ar,ao,au,rfl,⟨ba,a0,a6⟩,⟨bb,a2,a8⟩,rfl⟩
theorem Rx(C:bA)(n J:Nat)(l:List I)(O:Nat)(v:I)(G:aG)(ak:Rd G C n l)(al:n<=100000)(ae:n<=J)(ag:l.Nodup)(am:(a7 Y l)[O]?=some v):
  D E 532 #[.slice C n J,j (O:Nat),.func (.func f) #[] #[]] G λao U=>IQ v (dk Y v l) (d2 Y v l) G ao U:=by
 refine ap λg F=> ?_;refine aS λav=> ?_;refine GE (aw p (Y4 cH ew C n J l O v _ (by repeat' first|exact ak|apply Rd.skip) al ae ag am)) ?_;rintro _ _ ⟨Q,W,R,Z,rfl,ar,au,rfl⟩;refine K ?_;refine af ?_;exact aj rfl (.tmp p (.cell p (c7 bS) (.tmp p (.tmp p .nil)))) aq ⟨Q,W,R,Z,rfl,ar,au,rfl⟩
end
def Rw(R I J U):D E 532 #[.slice I 0 J,j 0,.func (.func R) #[] #[]] U λG C=>G=.tuple #[.slice none 0 0,.agg #[j 0,j 0,j 0],.slice none 0 0,.bool false]/\C=U:=by
 have aa:∀M,D E 600 #[.slice I 0 J,j 0,.func (.func R) #[] #[]] M λG C=>G=.tuple #[.agg #[j 0,j 0,j 0],.bool false]/\C=M:=λM=>by
  refine ap λg F=> ?_;refine aU λZ=> ?_;refine ad ?_;refine bD ?_;iterate 3 refine ad ?_
  refine dE 14 p (decide_eq_false Q) ?_;refine K ?_;refine af ?_;refine aj p (.cell p (c7 bS) (.tmp p .nil)) az ⟨rfl,rfl⟩
 have ab:∀M,D E 585 #[.slice I 0 J,j 0,.func (.func R) #[] #[]] M λG C=>G=.tuple #[.slice none 0 0,.agg #[j 0,j 0,j 0],.slice none 0 0,.bool false]/\C=M:=λM=>by
  refine ap λg F=> ?_;refine aS λW=> ?_;refine a9 (aa _) ?_;refine aU λY=> ?_;refine cF ?_;refine ad ?_;refine bD ?_;refine ad ?_;refine aD (cL p) ?_;refine f7 ?_;refine aW (.q 0 (.q 1 (.e 2 (.q 3 (.q 4 .nil))))) ?_;iterate 2 refine ai ?_
  refine an (dh O p p p (f1 p p p p cd) ?_);rintro _ _ ⟨rfl,rfl⟩;iterate 2 refine ai ?_
  refine cK ?_;refine aj p (.tmp p (.cell p (c7 bS) (.tmp p (.tmp p .nil)))) az ⟨rfl,rfl⟩
 refine ap λg F=> ?_;refine aS λW=> ?_;refine a9 (ab _) ?_;refine af ?_;refine aj p (.tmp p (.cell p (c7 bS) (.tmp p (.tmp p .nil)))) az ⟨rfl,rfl⟩
end
def aB.xb{j C E b o n D}(I:∀h,j h->G C h)(l:aB C b o n D):aB (j::E) b o n D:=⟨l.1,λK v J=>⟨λh s=>by
 obtain⟨aa,ab,R,O,U,Q,W⟩:=s;exact hw.sub ((l.2 K v J).1 _ (I _ Q)) O⟩⟩
def aM.xb{D C J E n j I}(O:∀h,D h->G C h)(h:aM C E j n I):aM (D::J) E j n I:=
 ⟨h.1,λR=>let ⟨b,o,K,W⟩:=h.2 R;⟨b,o,K,λU v Q=>⟨λh s=>by
  obtain⟨aa,ab,ae,Y,ag,Z,ak⟩:=s;exact hw.sub ((W U v Q).1 _ (O _ Z)) Y⟩⟩⟩
def iD(j:List Int):Prop:=j.Pairwise (· < ·)
theorem iD.unique:∀{l C},iD l->iD C->(∀D,D∈l<->D∈C)->l=C
 | [],[],_,_,_=>rfl
 | [],b::C,_,_,j=>absurd ((j b).2 Q) Q
 |a::l,[],_,_,j=>absurd ((j a).1 Q) Q
 |a::l,b::C,aa,ab,j=>by
  unfold iD at aa ab;rw[gO]at aa ab;have E:a=b:=by
   have G:=(j a).1 Q;have I:=(j b).2 Q;grind
  subst E;rw[iD.unique aa.2 ab.2 _];grind
def lW(j:List Int)(v:Int):Bool:=decide (v∈j)
def low(j:List Int)(C:Int):Nat:=j.countP (λy=>decide (y<C))
def fu(j:List Int)(C:Int):Nat:=if C∈j then 2*low j C+1 else 2*low j C
theorem Ap(j C):low j C<=j.length:=List.countP_le_length
def EJ(j){C y}(h:C<=y):low j C<=low j y:=List.countP_mono_left λE _ D=>by grind
def Aq:∀(j){C y},C∈j->C<y->low j C+1<=low j y
 | [],C,y,h,_=>by grind
 |a::j,C,y,h,D=>by
  unfold low;rw[kv,kv];rcases cQ.1 h with h|h
  ·have:=EJ j (qj D);simp_all[low]
  ·have:=Aq j h D;grind[low]
def Ao:∀(j){C},C∈j->low j C+1<=j.length
 | [],C,h=>by grind
 |a::j,C,h=>by
  unfold low;rw[kv,fc];rcases cQ.1 h with h|h
  ·grind
  ·have:=Ao j h;grind[low]
theorem C6(j C):fu j C<=2*j.length:=by
 unfold fu;split
 ·rename_i h;have:=Ao j h;omega
 grind[Ap]
def wc(j){C y}(h:C<=y):fu j C<=fu j y:=by
 rcases Int.lt_or_eq_of_le h with h|h
 ·unfold fu;have:=EJ j (qj h);split
  ·rename_i D;have:=Aq j D h;grind
  grind
 simp_all
def SC(j){C y}(h:C∈j):fu j C<=fu j y<->C<=y:=by
 refine⟨λE=> ?_,wc j⟩;rcases Hq y C with D|D
 ·exfalso;unfold fu at E;rw[if_pos h]at E;have:=EJ j (qj D);split at E
  ·rename_i G;have:=Aq j G D;omega
  omega
 omega
def SB(j){C y}(h:C∈j):fu j y<=fu j C<->y<=C:=by
 refine⟨λE=> ?_,wc j⟩;rcases Hq C y with D|D
 ·exfalso;unfold fu at E;rw[if_pos h]at E;have:=Aq j h D;grind
 omega
def An:∀(C)(D),iD C->∀(j)(y),C[j]?=some y->(y<D<->j<low C D)
 | [],D,_,j,y,h=>by trivial
 |a::C,D,E,j,y,h=>by
  unfold iD at E;rw[gO]at E;unfold low;rw[kv];cases j with
  |zero=>
   grind[Hz]
  |succ j=>
   have G:=An C D E.2 j y (by assumption);grind[low,Hz]
def Wh(j D)(E:iD j):j[low j D]?=some D<->D∈j:=by
 constructor
 ·grind
 ·intro h;obtain⟨G,J⟩:=List.getElem?_of_mem h;have aa:=(An j D E G D J);have W:=Ao j h;have K:j[low j D]?=some _:=cb C;have ab:=An j D E _ _ K;have Y: ¬j[low j D]<D:=λh=>C;have O: ¬G<low j D:=λR=>by omega
  rcases Nat.lt_or_eq_of_le (Nat.le_of_not_lt O)with I|I
  ·have Q:=(jf.1 J).1;have U:=List.pairwise_iff_getElem.1 E _ G C Q I;grind
  simp_all
theorem DI(j v):∀(l),dw l->(dW v l).filter j=if j v then dW v (l.filter j)else l.filter j
 | [],_=>by cases h:j v<;>simp[dW,h]
 |b::l,E=>by
  unfold dw at E;rw[gO]at E;cases G:v.less b with
  |true=>
   have D:dW v (b::l)=v::b::l:=by simp[dW,G]
   rw[D];have R:∀C∈(b::l).filter j,v.less C=true:=λC K=>by
    rcases cQ.1 (List.mem_filter.1 K).1 with rfl|h
    ·omega
    grind[I.qV]
   have Q:dW v ((b::l).filter j)=v::(b::l).filter j:=by
    generalize(b::l).filter j=J at*
    cases J with
    |nil=>rfl
    |cons C J=>simp_all[dW]
   grind
  |false=>
   have D:dW v (b::l)=b::dW v l:=by simp[dW,G]
   rw[D];have O:=DI j v l E.2;cases h:j v with
   |true=>
    rw[h]at O;cases U:j b with
    |true=>simp_all[dW]
    |false=>simp_all
   |false=>
    grind
theorem KL(j v):∀(l:List I),(l.erase v).filter j=if j v then(l.filter j).erase v else l.filter j
 | []=>Q
 |b::l=>by
  have C:=KL j v l;grind
theorem X0(v l)(h:∀j∈l,j.less v=true):dW v l=l++[v]:=by
 induction l with
 |nil=>rfl
 |cons b l C=>
  simp_all[I.Ag,dW]
inductive bt where
 |nil
 |node (b:Nat) (D J:Nat) (j:bA) (C:Nat) (l:List I) (G E:bt)
def f2(q:I->Nat×Nat)(s:I)(j C:Nat):Bool:=decide ((q s).1<=j)&&decide (C<=(q s).2)
def eF(q:I->Nat×Nat)(l:List I):bt->Nat->Nat->(I->Bool)->Prop
 | .nil,_,_,_=>False
 | .node _ G K _ _ J E D,j,C,o=>G=j/\K=C/\J=l.filter (λs=>f2 q s j C&&!o s)/\
  (j<C/\eF q l E j (j+(C-j)/2) (λs=>f2 q s j C)/\eF q l D (j+(C-j)/2+1) C (λs=>f2 q s j C)\/j=C/\E=.nil/\D=.nil)
theorem eF.le{q l j C D o}(h:eF q l j C D o):C<=D:=by
 cases j with
 |nil=>cases h
 |node b I Q E G O K J=>obtain⟨_,_,_,h|h⟩:=h<;>omega
def bt.at_(j y:Nat)(g:Nat->Nat->List I->Nat):bt->Nat
 | .nil=>0
 | .node _ C D _ _ l G E=>if y<C\/D<j then 0 else if j<=C/\D<=y then g C D l else G.at_ j y g+E.at_ j y g
def bt.addr:bt->Option Addr
 | .nil=>none
 | .node b _ _ _ _ _ _ _=>(ak b)
def bt.each(P:Nat->Nat->Option Addr->Nat->List I->Prop):bt->Prop
 | .nil=>True
 | .node _ D J j C l G E=>P D J j C l/\G.each P/\E.each P
def bt.each.mono{D E}(h:∀I J C j l,D I J C j l->E I J C j l):∀{G:bt},G.each D->G.each E
 | .nil,_=>trivial
 | .node _ _ _ _ _ _ _ _,⟨K,b,j⟩=>⟨h _ _ _ _ _ K,b.mono h,j.mono h⟩
def bt.each.and{E G}:∀{C:bt},C.each E->C.each G->C.each λI J D j l=>E I J D j l/\G I J D j l
 | .nil,_,_=>trivial
 | .node _ _ _ _ _ _ _ _,⟨K,b,j⟩,⟨O,Q,R⟩=>⟨⟨K,O⟩,b.and Q,j.and R⟩
def ia(E y:Nat)(bc:Option Addr->Nat->List I->Option Addr->Nat->List I->Prop):bt->bt->Prop
 | .nil,j=>j=.nil
 | .node b C D G J l O K,j=>if y<C\/D<E then j=.node b C D G J l O K else if E<=C/\D<=y then ∃Q R W,bc G J l Q R W/\j=.node b C D Q R W O K
  else ∃Y U,ia E y bc O Y/\ia E y bc K U/\j=.node b C D G J l Y U
theorem ia.addr{D y bc j C}(h:ia D y bc j C):C.addr=j.addr:=by
 cases j with
 |nil=>cases h;rfl
 |node b I O E G l K J=>
  unfold ia at h;split at h
  ·simp_all
  ·split at h
   ·obtain⟨_,_,_,_,rfl⟩:=h;rfl
   ·obtain⟨_,_,_,_,rfl⟩:=h;rfl
def ia.each{Y y bc P}(G:∀E I j D l J U W,P E I j D l->bc j D l J U W->P E I J U W):∀{K C},ia Y y bc K C->K.each P->C.each P
 | .nil,_,h,_=>by cases h;omega
 | .node b E I j D l ae Z,C,h,⟨O,Q,R⟩=>by
  unfold ia at h;split at h
  ·subst h;trivial
  ·split at h
   ·obtain⟨_,_,_,g,rfl⟩:=h;exact⟨G _ _ _ _ _ _ _ _ O g,Q,R⟩
   ·obtain⟨_,_,aa,ab,rfl⟩:=h;exact⟨O,aa.each G Q,ab.each G R⟩
def eF.v8{q l Q s}(K:∀G:I->Bool,G s=false->Q.filter G=l.filter G)(O:(q s).1<=(q s).2):∀{J}{j C}{o},eF q l J j C o->
  (((q s).2<j\/C< (q s).1)\/o s=true/\f2 q s j C=true)->eF q Q J j C o
 | .nil,_,_,_,h,_=>h
 | .node b Z ao W Y al am ag,j,C,o,⟨aa,ab,ae,D⟩,E=>by
  have ak:(f2 q s j C&&!o s)=false:=by
   rcases E with h|⟨h,_⟩
   ·have:f2 q s j C=false:=by
     unfold f2;grind
    simp_all
   simp_all
  refine⟨aa,ab,by simp_all,?_⟩;rcases D with ⟨D,R,U⟩|D
  ·refine .inl ⟨D,R.v8 K O ?_,U.v8 K O ?_⟩
   ·rcases E with h|⟨_,h⟩
    ·omega
    ·right;refine⟨h,?_⟩;unfold f2 at h ⊢;grind
   ·rcases E with h|⟨_,h⟩
    ·omega
    ·right;refine⟨h,?_⟩;unfold f2 at h ⊢;grind
  simp_all
def eF.laid{q l Z s}{g:List I->List I}{bc}(W:∀ak ao l al ap Y,bc ak ao l al ap Y->Y=g l)(G:∀C:I->Bool,C s=false->Z.filter C=l.filter C)(aw:∀C:I->Bool,C s=true->Z.filter C=g (l.filter C))(J:(q s).1<=(q s).2):∀{am Q}{R ae}{o},eF q l am R ae o->
  o s=false->ia (q s).1 (q s).2 bc am Q->eF q Z Q R ae o
 | .nil,_,_,_,_,h,_,_=>by cases h
 | .node b U ag ak ao aI aK av,Q,R,ae,o,⟨aa,ab,ax,j⟩,aH,D=>by
  subst aa ab;unfold ia at D;split at D
  ·rename_i ar
   subst D;exact eF.v8 G J ⟨rfl,rfl,ax,j⟩ (.inl ar)
  ·rename_i ar
   split at D
   ·rename_i av
    obtain⟨al,ap,Y,au,rfl⟩:=D;have au:=W _ _ _ _ _ _ au;have E:f2 q s U ag=true:=by unfold f2;simp_all
    refine⟨rfl,rfl,by simp_all,?_⟩;rcases j with ⟨j,K,O⟩|j
    ·refine .inl ⟨j,K.v8 G J (.inr ⟨E,?_⟩),O.v8 G J (.inr ⟨E,?_⟩)⟩
     ·unfold f2;grind
     ·unfold f2;grind
    simp_all
   ·rename_i av
    have E:f2 q s U ag=false:=by
     cases ay:f2 q s U ag with
     |false=>rfl
     |true=>unfold f2 at ay;grind
    obtain⟨aL,aG,aC,aE,rfl⟩:=D;refine⟨rfl,rfl,by simp_all,?_⟩;rcases j with ⟨j,K,O⟩|⟨j,K,O⟩
    ·exact .inl ⟨j,K.laid W G aw J E aC,O.laid W G aw J E aE⟩
    omega
def bt.hm(j:Nat):bt->List I
 | .nil=>[]
 | .node _ C G _ _ l E D=>if C<=j/\j<=G then l++(E.hm j++D.hm j)else[]
def NE{E:Type}(j C):∀(l:List E),(∀s∈l,j s=true->C s=true->False)->(l.filter j++l.filter C).Perm (l.filter λs=>j s||C s)
 | [],_=> .nil
 |a::l,h=>by
  have D:=NE j C l λs G=>h s (by simp_all);cases aa:j a<;>cases ab:C a
  ·simp_all
  ·simp[aa,ab,Bool.or_true];exact e4.trans (D.cons a)
  ·simp_all
  simp_all
theorem Br{q l j D E C o}(h:eF q l j D E o)(K:C<D\/E<C):j.hm C=[]:=by
 cases j with
 |nil=>rfl
 |node b J U G I Q R O=>
  obtain⟨aa,ab,_⟩:=h;unfold bt.hm;grind
theorem eF.hm{q l j}:∀{Q}{D J}{o},eF q l Q D J o->(∀s∈l,o s=true->f2 q s D J=true)->D<=j->j<=J->
  (Q.hm j).Perm (l.filter λs=>f2 q s j j&&!o s)
 | .nil,_,_,_,h,_,_,_=>by cases h
 | .node b K W ak al ar ag Z,D,J,o,⟨aa,ab,Y,E⟩,ao,R,U=>by
  subst aa ab;unfold bt.hm;rw[if_pos ⟨R,U⟩];have ae:(ag.hm j++Z.hm j).Perm (l.filter λs=>f2 q s j j&&!f2 q s K W):=by
   rcases E with ⟨E,G,I⟩|⟨E,G,I⟩
   ·rcases eC _ j with O|O
    ·rw[Br G (.inr O),mb];exact I.hm (λs _ h=>by unfold f2 at h ⊢;grind) C U
    ·rw[Br I (.inl C),dA];exact G.hm (λs _ h=>by unfold f2 at h ⊢;grind) R O
   ·subst G I;have:j=K:=C;subst this;subst E;have:(l.filter λs=>f2 q s j j&&!f2 q s j j)=[]:=by
     simp
    rw[this];rfl
  rw[Y];refine(kX _ ae).trans ?_;refine(NE _ _ l λs _ h am=>by simp_all).trans ?_;refine .of_eq (List.filter_congr λs ap=> ?_);have aa:f2 q s K W=true->f2 q s j j=true:=λh=>by unfold f2 at h ⊢;grind
  grind
theorem eF.cells{q:I->Nat×Nat}{l:List I}{E y:Nat}(O:E<=y):∀{G:bt}{j C:Nat}{o:I->Bool},eF q l G j C o->G.at_ E y (λj C _=>C-j+1)=min y C+1-max E j
 | .nil,_,_,_,h=>by cases h
 | .node b U ag Q R Z ae Y,j,C,o,h=>by
  obtain⟨aa,ab,W,D⟩:=h;unfold bt.at_;split
  ·omega
  ·split
   ·omega
   ·rcases D with ⟨D,J,K⟩|⟨D,J,K⟩
    ·rw[J.cells O,K.cells O];omega
    omega
def bt.run{S:Type}(j y:Nat)(step:S->Nat->Nat->List I->S):bt->S->S
 | .nil,s=>s
 | .node _ f C _ _ l E D,s=>if y<f\/C<j then s else if j<=f/\C<=y then step s f C l else D.run j y step (E.run j y step s)
theorem A6{S D y b j C G E l J I step}{s:S}(h:y<j\/C<D):bt.run D y step (.node b j C E G l J I) s=s:=if_pos h
theorem OH{S D y b j C G E l K J step}{s:S}(h: ¬(y<j\/C<D))(I:D<=j/\C<=y):bt.run D y step (.node b j C E G l K J) s=step s j C l:=(if_neg h).trans (if_pos I)
theorem A5{S j y b C D J I l G E step}{s:S}(h: ¬(y<C\/D<j))(K: ¬(j<=C/\D<=y)):bt.run j y step (.node b C D I J l G E) s=E.run j y step (G.run j y step s):=(if_neg h).trans (if_neg K)
def eF.sub{q:I->Nat×Nat}{l:List I}:∀{K:bt}{O G:Nat}{o:I->Bool},eF q l K O G o->K.each λQ J _ _ W=>W.Sublist l/\Q<=J/\J<=G
 | .nil,_,_,_,h=>by cases h
 | .node b Q J Y Z ag ak ae,O,G,o,h=>by
  have U:=h.le;obtain⟨aa,ab,R,j⟩:=h;subst aa ab;refine⟨⟨R▸List.filter_sublist,U,bv _⟩,?_⟩;rcases j with ⟨j,D,E⟩|⟨j,D,E⟩
  ·exact⟨D.sub.mono λ_ _ _ _ _ h=>⟨h.1,h.2.1,C⟩,E.sub.mono λ_ _ _ _ _ h=>⟨h.1,h.2.1,C⟩⟩
  ·subst D E;trivial
def bt.all:bt->Nat
 | .nil=>0
 | .node _ _ _ _ _ l C j=>l.length+C.all+j.all
section
attribute [local irreducible] G bf cc
def D5(I C):D E 151 #[j I] C λv G=>v=.bool false/\G=C:=by
 refine ap λg F=> ?_;refine af ?_;refine aj p (.tmp p .nil) az ⟨by simp[bG],rfl⟩
def ub(C b G):D E 101 #[j C,j b] G λv I=>v=.bool (decide (C<b))/\I=G:=by
 refine ap λg F=> ?_;refine a9 (D5 C _) ?_;refine af ?_;refine aj p (.tmp p .nil) az ⟨rfl,rfl⟩
def Il(j n O)(l:List Int)(C)(G:Rd C j n l)(ag:n<=1000000):
  D E 104 #[.slice j n O] C λv J=>Made 3 l C v J:=by
 have aa:=G.len bs;refine ap λg F=> ?_;refine aD (zE p p) ?_;refine af ?_;refine d3 p (λab=> ?_) (λab=> ?_)
 ·have R:j=none:=by simp_all
  have U:n=0:=by
   rcases g9 n with h|h
   ·omega
   ·obtain⟨b,o,R,_⟩:=G.at_ h;grind
  subst U;have:=e3 aa;subst this;refine K ?_;refine af ?_;refine aj rfl (.tmp p .nil) ?_ ⟨none,0,rfl,λh=>absurd h (dc 0),rfl⟩;exact λh s=>(own.nil_ 3 1 h s).swap
 ·refine aF ?_;refine cv ?_;refine aS λZ=> ?_;refine GE (bx p p aI (aM.skip (aM.skip G)) ((cO _)) aZ bs ah ah) ?_;rintro _ _ ⟨I,Q,rfl,W,ae,Y,rfl⟩;refine ad ?_;refine aL ?_;rw[iQ]at W Y;refine aF ?_;refine aj rfl (.tmp p .nil) ?_ ⟨I,Q,by rw[aa];simp[bG],by simp_all,rfl⟩;rw[aa,iQ,mb];refine bR (.skip (.here)) ?_;refine bR (.here) ?_;exact az
def YR(Z:FuncId)[b4 E Z](ag ak:cs)(aw:Int->Bool)(W:bA)(n ae O:Nat)(l:List Int)(Q:aG)(ao:Rd Q W n l)(aZ:n<=1000000)(aO:O<=n)(aQ:∀(av:Nat)(U:Int),l[av]?=some U->(aw U=true<->O<=av))
  (aK:∀U:Int,D E Z (ag++[Value.int .i64 U]++ak).toArray Q λv Y=>v=.bool (aw U)/\Y=Q):
  D E 272 #[.slice W n ae,.func (.func Z) ag.toArray ak.toArray] Q λv Y=>v=j (O:Nat)/\Y=Q:=by
 have aa:=ao.len bs;refine ap λg F=> ?_;refine af ?_;refine cJ (λI=>[(0,.slice W n ae),(1,.func _ _ _),(5,.int _ (I.1:Nat)),(6,.int _ (I.2:Nat))]) (λ_=>F::Q) (λI=>I.1<=O/\O<=I.2/\I.2<=n) (λI=>I.2-I.1) (0,n) ⟨bu _,aO,bv _⟩ a8 az ?_;rintro⟨G,J⟩ ⟨aC,aE,aH⟩;refine K ?_;refine af ?_;refine cp p (λaI=> ?_) (λaI=> ?_)
 ·obtain⟨aX,a0,rfl,aV⟩:=ao.at_ C;have aP:G+(J-G)/2<J:=C;have al:l[G+(J-G)/2]?=some l[G+(J-G)/2]:=cb C;have ax:=aV _ _ al;have au:=aQ _ _ al;generalize l[G+(J-G)/2]=aS at*
  refine K ?_
  (first|refine aD (kH (q:=2) p p ah ah) ?_|refine aD (hQ p p ah ah ah) ?_)
  iterate 2 refine ad ?_
  refine aL ?_;obtain⟨R,ar⟩:∃R,G+(J-G)/2=R:=⟨_,rfl⟩;have aY:G<=R:=C;rw[ar]at aP ax au;rw[ar];have aW:=ax;have a1:=aW.at_ (i:=0) p;refine K ?_;refine GE (eV p p (D.frame [F] (aK aS) bo)) ?_;rintro _ _ ⟨_,⟨rfl,rfl⟩,rfl⟩;refine af ?_;refine d3 p (λam=> ?_) (λam=> ?_)
  ·have:=au.1 am;refine K ?_;refine af ?_;exact bM (G,R) ⟨aC,this,C⟩ C a8 az
  ·have: ¬O<=R:=λh=>by simp_all
   refine K ?_;refine af ?_;exact bM (R+1,J) ⟨C,aE,aH⟩ C a8 az
 ·have ay:G=O:=C;subst ay;exact dq
def TX(G v I J C)(Q:aR C ⟨I,0,none⟩ (j v))(U:aR C ⟨J,0,none⟩ (.func (.func 101) #[] #[])):
  D E 273 #[j G,R J,R I] C λO K=>O=.bool (!decide (G<v))/\K=C:=by
 refine ap λg F=> ?_;refine GE (eV p p (ub G v _)) ?_;rintro _ _ ⟨rfl,rfl⟩;refine aD (cL p) ?_;exact dq
def T1(I n O G v J)(W:Rd J I n G)(Y:n<=1000000)(Z:iD G):
  D E 200 #[.slice I n O,j v,.func (.func 101) #[] #[]] J λag Q=>ag=j (low G v:Nat)/\Q=J:=by
 have aa:=W.len bs;have ak:=Ap G v;refine ap λg F=> ?_;refine aU λR=> ?_;refine aS λU=> ?_;refine a9 (YR _ [] _ _ I n O (low G v) G _ cr Y C (λae K h=>by have:=An G v Z ae K h;simp;omega) (λK=>TX K v R U _ dX dX)) ?_;refine af ?_;refine aj p (.tmp p .nil) az ⟨rfl,rfl⟩
def Qi(G n J C v I)(U:Rd I G n C)(O:n<=1000000)(Q:iD C):
  D E 493 #[.slice G n J,j v,.func (.func 101) #[] #[]] I λR K=>R=j (low C v:Nat)/\K=I:=by
 refine ap λg F=> ?_;refine a9 (T1 G n J C v _ cr O Q) ?_;refine af ?_;refine aj p (.tmp p .nil) az ⟨rfl,rfl⟩
theorem KS:∀l:List Int,flat l=l.map (Value.int .i64)
 | []=>rfl
 |a::l=>by rw[jo,KS l];rfl
theorem KT(l C D):(flat l).set (0+C*1) (j D)=flat (l.set C D):=by simp_all[KS]
def nB{b n I D l E}(K:l.length=n)(h:l[D]?=some E)(G):aR (own 3 1 (ak b) n I (flat l)::G) ⟨b,0+D*1,none⟩ (j E):=by
 have R:=(jf.1 h).1;have Q:Rd (own 3 1 _ n I _::G) _ n l:=aM.own (by rw[bU,K];rfl) (λ_=>⟨b,rfl⟩);obtain⟨_,_,J,O⟩:=Q.at_ C;cases J;exact(O D E h).at_ (i:=0) p
def Sj{D G}{C j:Int}{E}(I:E=D.length+1):((D++j::C::G).set E j).set (E-1) C=D++C::j::G/\(D++j::C::G)[E]?=some C/\(D++j::C::G)[E-1]?=some j:=by simp_all
def Jx(ay n aG l ae)(a7:Rd ae ay n l)(a9:n<=1000000):
  D E 598 #[.slice ay n aG,.func (.func 101) #[] #[]] ae λv aY=>Made 3 (bj l) ae v aY:=by
 have aa:l.length=n:=a7.len bs;refine ap λg F=> ?_;refine GE (aw p (Il ay n aG l _ cr a9)) ?_;rintro _ _ ⟨ao,ag,rfl,a6,rfl⟩;refine K ?_;refine af ?_;refine cJ (λY=>[(1,.func (.func 101) #[] #[]),(5,.slice ao n ag),(11,j (n:Nat)),(12,j (Y.1:Nat))]) (λY=>own 3 1 ao n ag (flat Y.2)::F::ae) (λY=>Y.1<=n/\Y.2.Perm l/\(Y.2.take Y.1).Pairwise (·<= ·)) (λY=>n-Y.1) (0,l) ⟨bu _,.refl _,Q⟩ ⟨rfl,by rw[<- aa];rfl,by rw[<- aa];rfl,rfl,trivial⟩ (by rw[<- aa];exact aq) ?_;rintro⟨R,W⟩ ⟨a5,ar,am⟩;simp only at a5 ar am;dsimp only;have aS:W.length=n:=by rw[ar.length_eq,aa]
 refine K ?_;refine af ?_;refine cp p (λaZ=> ?_) (λaZ=> ?_)
 ·refine aF ?_;refine cv ?_;refine K ?_;refine aL ?_;have bh:W[R]?=some W[R]:=cb C;have aV:W=W.take R++W[R]::W.drop (R+1):=by
   simp
  have be:(W.take R).length=R:=by grind
  obtain⟨b,rfl⟩:=a6 C;generalize W[R]=J at*
  generalize W.take R=I at*
  generalize W.drop (R+1)=U at*
  refine aF ?_;refine cJ (ι:=Nat) (λG=>[(1,.func (.func 101) #[] #[]),(5,.slice (ak b) n ag),(11,j (n:Nat)),(12,j (R:Nat)),(7,j (G:Nat))]) (λG=>own 3 1 (ak b) n ag (flat (I.take G++J::(I.drop G++U)))::F::ae) (λG=>G<=R/\∀y∈I.drop G,J<y) (λG=>G) R ⟨bv _,by grind⟩ a8 (by rw[jE C,List.drop_of_length_le C,mb,<- aV];exact λ_ s=>s) ?_;rintro G ⟨aH,aP⟩
  by_cases bb:0<G
  ·have bf:I[G-1]?=some I[G-1]:=cb C;have aO:I.take G=I.take (G-1)++[I[G-1]]:=by
    have:=gu (l:=I) (i:=G-1) C;grind
   have bc:I.drop (G-1)=I[G-1]::I.drop G:=by
    grind[vu]
   have bd:(I.take (G-1)).length=G-1:=by grind
   have al:(I.take G++J::(I.drop G++U)).length=n:=by
    grind
   generalize I[G-1]=Z at*
   obtain⟨aX,av,ax⟩:=Sj (D:=I.take (G-1)) (G:=I.drop G++U) (C:=J) (j:=Z) (E:=G) C;have a1:I.take G++J::(I.drop G++U)=I.take (G-1)++Z::J::(I.drop G++U):=by simp_all
   have a2:I.take (G-1)++J::(I.drop (G-1)++U)=I.take (G-1)++J::Z::(I.drop G++U):=by simp_all
   rw[<- a1]at aX av ax
   by_cases aK:J<Z
   ·refine aF ?_;refine o4 (aE [0,1,2,3,4,5,6,7,8,9,10,11,12] (.e 13 (.q 14 .nil))) O O ?_;iterate 3 refine ai ?_
    refine dB 18 p (decide_eq_true C) ?_;iterate 4 refine ai ?_
    refine fF aT p p p p ⟨_,rfl,rfl⟩ p (d6 p (by repeat' first|exact nB al av _|apply aR.skip)) ?_;iterate 4 refine ai ?_
    refine fF aT p p p p ⟨_,rfl,rfl⟩ p (d6 p (by repeat' first|exact nB al ax _|apply aR.skip)) ?_;refine an (f9 p p p ⟨_,rfl,rfl⟩ p (eV p p (ub J Z _)) ?_);rintro _ _ ⟨rfl,rfl⟩;refine cM ?_;refine ai ?_;refine cK ?_;refine cD p (decide_eq_true aK) ?_;refine aW (aE [0,1,2,3,4,5,6,7,8,9,10,11,12,13,14] (.e 15 (.q 16 (.e 17 .nil)))) ?_;iterate 9 refine ai ?_
    refine cV p (d6 p (by repeat' first|exact nB al ax _|apply aR.skip)) ?_;iterate 3 refine ai ?_
    refine cV p (d6 p (by repeat' first|exact nB al av _|apply aR.skip)) ?_;refine ai ?_;refine an (dh O p p p (r3 p p p aI C) ?_);rintro _ _ ⟨rfl,rfl⟩;refine ai ?_;refine an (cj O p p p (r3 p p p aI C) ?_);rintro _ _ ⟨rfl,rfl⟩;rw[KT,KT,aX,<- a2];refine K ?_;refine af ?_;exact bM (G-1) ⟨C,by simp_all⟩ C a8 (λ_ s=>s)
   ·refine aF ?_;refine o4 (aE [0,1,2,3,4,5,6,7,8,9,10,11,12] (.e 13 (.q 14 .nil))) O O ?_;iterate 3 refine ai ?_
    refine dB 18 p (decide_eq_true C) ?_;iterate 4 refine ai ?_
    refine fF aT p p p p ⟨_,rfl,rfl⟩ p (d6 p (by repeat' first|exact nB al av _|apply aR.skip)) ?_;iterate 4 refine ai ?_
    refine fF aT p p p p ⟨_,rfl,rfl⟩ p (d6 p (by repeat' first|exact nB al ax _|apply aR.skip)) ?_;refine an (f9 p p p ⟨_,rfl,rfl⟩ p (eV p p (ub J Z _)) ?_);rintro _ _ ⟨rfl,rfl⟩;refine cM ?_;refine ai ?_;refine cK ?_;refine b2 p (decide_eq_false aK) ?_;refine K ?_;refine af ?_;refine bM (R+1,I.take G++J::(I.drop G++U)) ⟨C,?_,?_⟩ C a8 (λ_ s=>s)
    ·refine List.Perm.trans ?_ ar;rw[aV];grind[e4,List.Perm.trans,ho,jD]
    ·simp only;have a3:(I.take G++J::(I.drop G++U)).take (R+1)=I.take G++J::I.drop G:=by
      have:I.take G++J::(I.drop G++U)=(I.take G++J::I.drop G)++U:=Q;rw[this,tr (by grind),jE (by grind)]
     rw[a3];rw[<- jD G I,lE]at am;rw[lE];refine⟨am.1,gO.2 ⟨λy ba=>qj (aP y ba),am.2.1⟩,?_⟩;have bg:∀aC∈I.take G,aC<=J:=by
      rw[aO];intro aC au;rcases cT.1 au with au|au
      ·have aQ:=am.1;rw[aO,lE]at aQ;have:=aQ.2.2 aC au Z Q;omega
      simp_all
     simp_all
  ·have a0:G=0:=C;subst a0;refine aW (aE [0,1,2,3,4,5,6,7,8,9,10,11,12] (.e 13 (.q 14 .nil))) ?_;iterate 3 refine ai ?_
   refine dB 18 p (decide_eq_false Q) ?_;iterate 10 refine ai ?_
   refine an (gy p p p ⟨_,rfl,rfl⟩ p ?_);refine K ?_;refine af ?_;refine bM (R+1,J::(I++U)) ⟨C,?_,?_⟩ C a8 (λ_ s=>s)
   ·grind
   ·simp_all[H3,tr,jE,gO,qj]
 ·have a4:R=n:=C;subst a4;have:W=bj l:=uo _ _ (ar.trans (jz l).symm) (by grind) (mT l);subst this;refine K ?_;refine af ?_;refine aj (C:=own 3 1 ao (bj l).length ag (flat (bj l))::ae) p (.tmp p .nil) ?_ ⟨ao,ag,by rw[aS];rfl,by simp_all,rfl⟩;rw[aS];exact aq
def MB(ax ay:bA)(n U aL aO:Nat)(l q:List Int)(J:aG)(a0:Rd J ax n l)(a3:Rd J ay U q)(b3:n<=1000000)(bZ:U<=1000000)(bU:n<=aL)(bX:U<=aO)(bE:l.Pairwise (·<= ·))(bF:q.Pairwise (·<= ·)):
  D E 546 #[.slice ax n aL,.slice ay U aO,.func (.func 101) #[] #[]] J λv bb=>Made 3 (bj (l++q)) J v bb:=by
 have aa:l.length=n:=a0.len bs;have ab:q.length=U:=a3.len bs;refine ap λg F=> ?_;refine GE (Kc p p C C) ?_;rintro _ _ ⟨aY,rfl,rfl⟩;refine ad ?_;refine af ?_;refine cJ (λG=>[(2,.func _ _ _),(0,.slice G.1.1 G.1.2.2.length G.1.2.1),(1,.slice G.2.1.1 G.2.1.2.2.length G.2.1.2.1),(7,.slice G.2.2.1 G.2.2.2.2.length G.2.2.2.1)]) (λG=>own 3 1 G.2.2.1 G.2.2.2.2.length G.2.2.2.1 (flat G.2.2.2.2)::F::J)
  (λG=>(Rd J G.1.1 G.1.2.2.length G.1.2.2/\G.1.2.2.length<=G.1.2.1/\G.1.2.2.Pairwise (·<= ·))/\(Rd J G.2.1.1 G.2.1.2.2.length G.2.1.2.2/\G.2.1.2.2.length<=G.2.1.2.1/\G.2.1.2.2.Pairwise (·<= ·))/\(G.2.2.2.2++(G.1.2.2++G.2.1.2.2)).Perm (l++q)/\G.2.2.2.2.Pairwise (·<= ·)/\(∀o∈G.2.2.2.2,∀I∈G.1.2.2++G.2.1.2.2,o<=I)/\(0<G.2.2.2.2.length->∃b,G.2.2.1=(ak b))) (λG=>G.1.2.2.length+G.2.1.2.2.length) ((ax,aL,l),(ay,aO,q),(some ⟨aY,0,none⟩,n+U,[])) ⟨⟨by rw[aa];exact a0,by simp_all,bE⟩,⟨by rw[ab];exact a3,by simp_all,bF⟩,.refl _,.nil,Q,λ_=>⟨aY,rfl⟩⟩ ⟨rfl,by rw[<- aa];rfl,by rw[<- ab];rfl,rfl,trivial⟩ aq ?_
 rintro⟨⟨bJ,al,R⟩,⟨bK,am,aH⟩,⟨bN,bT,o⟩⟩ ⟨⟨ao,aS,ar⟩,⟨au,aX,av⟩,aV,a7,a2,bk⟩;simp only at ao aS ar au aX av aV a7 a2 bk;dsimp only;have bY:o.length+(R.length+aH.length)=n+U:=by
  have:=aV.length_eq;simp_all
 refine tC (λh s=>own.facts (s)) ?_;rintro⟨b4,b5,bI,b6⟩;unfold maxLen at bI
 by_cases a5:0<R.length/\0<aH.length
 ·obtain⟨aC,ae,rfl,bc⟩:=ao.at_ a5.1;obtain⟨aK,ag,rfl,bd⟩:=au.at_ a5.2;obtain⟨I,Z,rfl⟩:∃I Z,R=I::Z:=by cases R with
   |nil=>simp_all
   |cons I Z=>simp
  obtain⟨y,aP,rfl⟩:∃y aP,aH=y::aP:=by cases aH with
   |nil=>simp_all
   |cons y aP=>simp
  have b7:aR J ⟨aC,ae+0*1,none⟩ (j I):=(bc 0 I p).at_ (i:=0) p;have b8:aR J ⟨aK,ag+0*1,none⟩ (j y):=(bd 0 y p).at_ (i:=0) p;rw[gO]at ar av;simp only[fc]at*
  refine K ?_;refine dE 17 p (decide_eq_true Q) ?_;iterate 4 refine ad ?_
  refine af ?_;refine cD p (decide_eq_true Q) ?_;refine aW (aE [0,1,2,3,4,5,6] (.e 7 .nil)) ?_;iterate 7 refine ai ?_
  refine an (cj O p p p (eV p p (ub y I _)) ?_);rintro _ _ ⟨rfl,rfl⟩
  by_cases a4:y<I
  ·refine aF ?_;refine cD p (decide_eq_true a4) ?_;refine hr 0 (aE [0,1,2,3,6,7] (.e 4 (.e 5 (.q 8 (.q 9 .nil))))) ?_;iterate 5 refine ai ?_
   refine cV p (ga p p ah ah) ?_;refine an (a1 p p p (e8 aZ p p) ?_);rintro _ _ ⟨bO,rfl,rfl⟩;refine bg ?_;refine an (a1 p p p (bx p p aI cn (cS p) aZ Q ah ah) ?_);rintro _ _ ⟨a8,be,rfl,bV,b0,bq,rfl⟩;refine bg ?_;iterate 2 refine ai ?_
   refine cK ?_;exact bM ((some ⟨aC,ae,none⟩,al,I::Z),(some ⟨aK,(if am=1 then ag else ag+1*1),none⟩,am-1,aP),(a8,be,o++[y])) ⟨⟨ao,aS,gO.2 ar⟩,⟨au.drop (k:=1) (c:=am) Q aX,by grind,av.2⟩,by
     grind,by
     grind,by
     grind,λ_=>bq Q⟩ Q ⟨rfl,rfl,rfl,by rw[bP];rfl,trivial⟩ (by
     have aQ:flat (o++[y])=flat o++[Value.int .i64 y]:=(gm o y).symm;simp only[bP,fD,aQ];exact aq)
  ·refine aF ?_;refine b2 p (decide_eq_false a4) ?_;refine hr 0 (aE [0,1,2,3,6,7] (.e 4 (.e 5 (.q 8 (.q 9 .nil))))) ?_;iterate 5 refine ai ?_
   refine cV p (ga p p ah ah) ?_;refine an (a1 p p p (e8 aZ p p) ?_);rintro _ _ ⟨bQ,rfl,rfl⟩;refine bg ?_;refine an (a1 p p p (bx p p aI cn (cS p) aZ Q ah ah) ?_);rintro _ _ ⟨a9,bf,rfl,bW,b1,bt,rfl⟩;refine bg ?_;iterate 2 refine ai ?_
   refine cK ?_;exact bM ((some ⟨aC,(if al=1 then ae else ae+1*1),none⟩,al-1,Z),(some ⟨aK,ag,none⟩,am,y::aP),(a9,bf,o++[I])) ⟨⟨ao.drop (k:=1) (c:=al) Q aS,by grind,ar.2⟩,⟨au,aX,gO.2 av⟩,by
     simp_all,by
     grind,by
     grind,λ_=>bt Q⟩ Q ⟨rfl,rfl,rfl,by rw[bP];rfl,trivial⟩ (by
     have aQ:flat (o++[I])=flat o++[Value.int .i64 I]:=(gm o I).symm;simp only[bP,aQ];exact aq)
 ·have bC:o++R++aH=bj (l++q):=by
   rw[ho];refine uo _ _ (aV.trans (jz _).symm) (lE.2 ⟨a7,?_,a2⟩) (mT _);grind
  have aw:(bj (l++q)).length=o.length+R.length+aH.length:=by grind
  have a6:flat (bj (l++q))=flat o++flat R++flat aH:=by rw[<- bC];simp[fI]
  rcases g9 R.length with bi|bi
  ·refine aF ?_;refine cv ?_;iterate 4 refine ad ?_
   refine dE 17 p (decide_eq_false C) ?_;refine K ?_;refine GE (bx p p aI (cn) ((cO _)) aZ Q ah ah) ?_;rintro _ _ ⟨ba,bh,rfl,bl,bn,bz,rfl⟩;refine ad ?_;refine GE (bx p p aI (cn) ((cO _)) aZ Q ah ah) ?_;rintro _ _ ⟨W,Y,rfl,bm,bp,bB,rfl⟩;refine ad ?_;refine af ?_;refine aj (C:=own 3 1 W (bj (l++q)).length Y (flat (bj (l++q)))::J) p (.tmp p .nil) ?_ ⟨W,Y,by rw[aw];rfl,by simp_all,rfl⟩;rw[aw,a6];exact aq
  ·refine aF ?_;refine cv ?_;iterate 4 refine ad ?_
   refine dE 17 p (decide_eq_true C) ?_;iterate 4 refine ad ?_
   refine af ?_;refine b2 p (decide_eq_false C) ?_;refine K ?_;refine GE (bx p p aI (cn) ((cO _)) aZ Q ah ah) ?_;rintro _ _ ⟨ba,bh,rfl,bl,bn,bz,rfl⟩;refine ad ?_;refine GE (bx p p aI (cn) ((cO _)) aZ Q ah ah) ?_;rintro _ _ ⟨W,Y,rfl,bm,bp,bB,rfl⟩;refine ad ?_;refine af ?_;refine aj (C:=own 3 1 W (bj (l++q)).length Y (flat (bj (l++q)))::J) p (.tmp p .nil) ?_ ⟨W,Y,by rw[aw];rfl,by simp_all,rfl⟩;rw[aw,a6];exact aq
def QT(G I:bA)(n j J K:Nat)(l q:List Int)(C:aG)(al:Rd C G n l)(am:Rd C I j q)(ae:n<=1000000)(Z:j<=1000000)(W:n<=J)(Y:j<=K)(ag:l.Pairwise (·<= ·))(ak:q.Pairwise (·<= ·)):
  D E 467 #[.slice G n J,.slice I j K,.func (.func 101) #[] #[]] C λv Q=>Made 3 (bj (l++q)) C v Q:=by
 refine ap λg F=> ?_;refine GE (aw p (MB G I n j J K l q _ cr cr ae Z W Y ag ak)) ?_;rintro _ _ ⟨O,R,rfl,U,rfl⟩;refine ad ?_;refine af ?_;exact aj rfl (.tmp p .nil) aq ⟨O,R,rfl,U,rfl⟩
theorem Y7(l q):bj (bj l++bj q)=bj (l++q):=
 uo _ _ ((jz _).trans (((jz l).append (jz q)).trans (jz _).symm)) (mT _) (mT _)
theorem rj(l):(bj l).length=l.length:=(jz l).length_eq
def Y1:∀(R:Nat)(I:bA)(n j:Nat)(l:List Int)(G:aG)(_:n<=R)(_:Rd G I n l)(_:n<=1000000)(_:n<=j),
  D E 572 #[.slice I n j,.func (.func 101) #[] #[]] G λv av=>Made 3 (bj l) G v av:=by
 intro R
 induction R with
 |zero=>
  intro I n j l G aC O Y am;refine ap λg F=> ?_;refine af ?_;refine cD p (decide_eq_true C) ?_;refine K ?_;refine GE (aw p (Jx I n j l _ cr Y)) ?_;rintro _ _ ⟨Q,U,rfl,W,rfl⟩;refine ad ?_;refine af ?_;exact aj rfl (.tmp p .nil) aq ⟨Q,U,rfl,W,rfl⟩
 |succ R ao=>
  intro I n j l G aC O Y am;have aa:=O.len bs;refine ap λg F=> ?_;refine af ?_;refine cp p (λax=> ?_) (λax=> ?_)
  ·refine aF ?_;refine cv ?_;iterate 2 refine ad ?_
   refine GE (aw p (Jx I n j l _ cr Y)) ?_;rintro _ _ ⟨Q,U,rfl,W,rfl⟩;refine ad ?_;refine af ?_;exact aj (C:=own 3 1 Q (bj l).length U (flat (bj l))::G) p (.tmp p .nil) aq ⟨Q,U,rfl,W,rfl⟩
  ·obtain⟨b,o,rfl,_⟩:=O.at_ C;have al:bj (bj (l.take (n/2))++bj (l.drop (n/2)))=bj l:=by rw[Y7,jD]
   have aI:∀J,Rd (J++G) (some ⟨b,o,none⟩) (n/2) (l.take (n/2)):=λJ=>Rd.bE (O.take C);have aH:∀J,Rd (J++G) (some ⟨b,(if j=n/2 then o else o+(n/2)*1),none⟩) (n-n/2) (l.drop (n/2)):=λJ=>Rd.bE (O.drop (k:=n/2) (c:=j) C am);refine K ?_
   (first|refine aD (kH (q:=2) p p ah ah) ?_|refine aD (hQ p p ah ah ah) ?_)
   refine ad ?_;refine aL ?_;refine aW (aE [0,1,2,3,5,6,7,8,10] (.e 4 (.e 9 (.e 11 (.q 12 .nil))))) ?_;iterate 2 refine ai ?_
   refine cV p (h5 p p ah) ?_;iterate 3 refine ai ?_
   refine cV p (ga p p ah ah) ?_;iterate 2 refine ai ?_
   refine an (a1 p p p (aw p ((ao (some ⟨b,o,none⟩) (n/2) j (l.take (n/2)) _ C (aI [F]) C C).made)) ?_);rintro _ _ ⟨Z,ag,rfl,aK,aP,aS,rfl⟩;refine cM ?_;refine an (a1 p p p (aw p ((ao (some ⟨b,(if j=n/2 then o else o+(n/2)*1),none⟩) (n-n/2) (j-n/2) (l.drop (n/2)) _ C (aH [own 3 1 Z (bj (l.take (n/2))).length ag (flat (bj (l.take (n/2)))),F]) C C).made)) ?_);rintro _ _ ⟨au,ay,rfl,aO,aQ,aV,rfl⟩;refine cM ?_;refine an (a1 p p p (aw p (MB Z au _ _ ag ay (bj (l.take (n/2))) (bj (l.drop (n/2))) _ (Rd.skip (aM.own (bU _) aK)) (aM.own (bU _) aO) (by grind[rj]) (by grind[rj]) aP aQ (mT _) (mT _))) ?_);rintro _ _ ⟨ae,ak,rfl,ar,rfl⟩;refine cM ?_;refine K ?_;rw[al]at ar;rw[al];refine aF ?_;exact aj (C:=own 3 1 ae (bj l).length ak (flat (bj l))::G) p (.tmp p .nil) aq ⟨ae,ak,rfl,ar,rfl⟩
def CB(j n G l C)(U:Rd C j n l)(R:n<=1000000)(Q:n<=G):
  D E 519 #[.slice j n G,.func (.func 101) #[] #[]] C λv J=>Made 3 (bj l) C v J:=by
 refine ap λg F=> ?_;refine GE (aw p (Y1 n j n G l _ (bv _) cr R Q)) ?_;rintro _ _ ⟨I,K,rfl,O,rfl⟩;refine ad ?_;refine af ?_;exact aj rfl (.tmp p .nil) aq ⟨I,K,rfl,O,rfl⟩
def l7(o:List Int)(v:Int):List Int:=match o.getLast? with
 |none=>o++[v]
 |some j=>if j<v then o++[v]else o
def mU(l:List Int):List Int:=l.foldl l7 []
def GN:∀(l o:List Int),iD o->l.Pairwise (·<= ·)->(∀D∈o,∀b∈l,D<=b)->iD (l.foldl l7 o)/\∀j,j∈l.foldl l7 o<->j∈o\/j∈l
 | [],o,aa,_,_=>⟨aa,Q⟩
 |v::l,o,aa,ab,K=>by
  rw[gO]at ab;have R:iD (l7 o v)/\∀j,j∈l7 o v<->j∈o\/j=v:=by
   unfold l7;cases I:o.getLast? with
   |none=>
    simp_all[iD]
   |some E=>
    have U:=List.mem_of_getLast? I;simp only;split
    ·rename_i W
     refine⟨?_,Q⟩;unfold iD;rw[lE];refine⟨aa,Q,λD C b G=> ?_⟩;simp at G;obtain⟨J,O⟩:∃J,o=J++[E]:=List.getLast?_eq_some_iff.1 I;subst O;unfold iD at aa;rw[lE]at aa;rcases cT.1 C with C|C
     ·have:=aa.2.2 D C E Q;omega
     ·simp at C;omega
    ·rename_i W
     have:E=v:=by have:=K E U v Q;omega
     simp_all
  obtain⟨Y,Z⟩:=GN l _ R.1 ab.2 λD C b G=>by
   grind
  grind
def fA(l:List Int):List Int:=mU (bj l)
def sE(l):iD (fA l):=(GN (bj l) [] .nil (mT l) Q).1
theorem sD(l j):j∈fA l<->j∈l:=by
 have h:=(GN _ [] .nil (mT l) Q).2 j;simp_all[fA,bj,mU]
def abj(o v):(l7 o v).length<=o.length+1:=by grind[l7]
theorem PI(l):(mU l).length<=l.length:=by
 have:∀(l o:List _),(l.foldl l7 o).length<=o.length+l.length:=λl=>by
  induction l with
  |nil=>simp
  |cons v l j=>
   grind[l7,fc]
 grind[mU]
def E7(l):(fA l).length<=l.length:=by
 have:=PI (bj l);rw[rj]at this;trivial
def IS(ag n av l O)(aw:Rd O ag n l)(a3:n<=1000000):
  D E 466 #[.slice ag n av,.func (.func 101) #[] #[]] O λv ax=>Made 3 (mU l) O v ax:=by
 have aa:l.length=n:=aw.len bs;refine bH λg F=> ?_;refine b5 (own.nil_ 3 1) ?_;refine K ?_;refine af ?_;refine cJ (ι:=Nat×Option _×Nat×List _) (λG=>[(1,.func _ _ _),(5,.slice G.2.1 G.2.2.2.length G.2.2.1),(9,.slice ag n av),(10,.int _ _),(11,j (G.1:Nat))]) (λG=>own 3 1 G.2.1 G.2.2.2.length G.2.2.1 (flat G.2.2.2)::F::O) (λG=>G.1<=n/\G.2.2.2=mU (l.take G.1)/\(0<G.2.2.2.length->∃b,G.2.1=(ak b))) (λG=>n-G.1) (0,none,0,[]) ⟨bu _,by rfl,λh=>absurd h (dc 0)⟩ a8 (λ_ s=>s) ?_;rintro⟨J,au,Y,o⟩ ⟨aH,Z,ao⟩;simp only at aH Z ao;dsimp only;have a4:o.length<=J:=by
  grind[PI,List.length_take]
 refine K ?_;refine af ?_;refine cp p (λaE=> ?_) (λaE=> ?_)
 ·obtain⟨ay,aX,rfl,aY⟩:=aw.at_ C;have aK:l[J]?=some l[J]:=cb C;have R:mU (l.take (J+1))=l7 (mU (l.take J)) l[J]:=by grind[mU,gu]
  have a0:=(aY _ _ aK).at_ (i:=0) p;generalize l[J]=v at*
  have a5:aR O ⟨ay,aX+J*1,none⟩ (j v):=a0;rw[<- Z]at R;refine aJ ?_;iterate 3 refine ad ?_
  refine aL ?_;rcases g9 o.length with ap|ap
  ·have aS:o=[]:=e3 ap;subst aS;refine K ?_;refine aU λaC=> ?_;refine GE (bx p p aI cn (cS p) aZ Q ah ah) ?_;rintro _ _ ⟨al,am,rfl,aO,aQ,ar,rfl⟩;refine K ?_;refine af ?_;refine bM (J+1,al,am,[v]) ⟨C,R.symm,λ_=>ar Q⟩ C a8 aq
  ·obtain⟨I,G,rfl⟩:∃I G,o=I++[G]:=by
    rcases List.eq_nil_or_concat o with h|⟨a1,b,h⟩
    ·simp_all
    grind
   have U:(I++[G]).length=I.length+1:=Q;obtain⟨ae,rfl⟩:=ao ap;have aP:(I++[G])[I.length]?=some G:=Q;have aV:l7 (I++[G]) v=if G<v then I++[G]++[v]else I++[G]:=by unfold l7;simp
   rw[aV]at R;have aW:aR (own 3 1 (ak ae) (I.length+1) Y (flat (I++[G]))::F::O) ⟨ae,0+I.length*1,none⟩ (j G):=nB U aP _;rw[U];refine aJ ?_;iterate 4 refine ad ?_
   refine bD ?_;iterate 3 refine ad ?_
   refine dE 20 p (decide_eq_false Q) ?_;iterate 4 refine ad ?_
   refine br p p p p ?_;refine aD (d6 p (by repeat' first|exact aW|apply aR.skip)) ?_;refine ad ?_;refine br p p p p ?_;refine GE (eV p p (ub G v _)) ?_;rintro _ _ ⟨rfl,rfl⟩;refine ad ?_;refine aL ?_
   by_cases W:G<v
   ·rw[if_pos W]at R;refine aF ?_;refine cD p (decide_eq_true W) ?_;refine K ?_;refine aU λaC=> ?_;refine GE (bx p p aI cn (cS p) aZ Q ah ah) ?_;rintro _ _ ⟨al,am,rfl,aO,aQ,ar,rfl⟩;refine K ?_;refine af ?_;refine bM (J+1,al,am,I++[G]++[v]) ⟨C,R.symm,λ_=>ar Q⟩ C ⟨rfl,by rw[bP,U];rfl,rfl,rfl,rfl,trivial⟩ ?_;have aG:flat (I++[G]++[v])=flat (I++[G])++[Value.int .i64 v]:=(gm _ v).symm;simp only[aG];rw[bP,U];exact aq
   ·rw[if_neg W]at R;refine aF ?_;refine b2 p (decide_eq_false W) ?_;refine K ?_;refine af ?_;refine bM (J+1,(ak ae),Y,I++[G]) ⟨C,R.symm,λ_=>⟨ae,rfl⟩⟩ C ⟨rfl,by rw[U];rfl,rfl,rfl,rfl,trivial⟩ ?_;simp only[U];exact λ_ s=>s
 ·have a2:J=n:=C;rw[jE C]at Z;subst Z;refine K ?_;refine af ?_;exact aj (C:=own 3 1 au (mU l).length Y (flat (mU l))::O) p (.tmp p .nil) aq ⟨au,Y,rfl,ao,rfl⟩
end
section
variable{P:Program}{fn:Func}{g:c0}{n:Nat}{aK:List eU}{J:bW}{L:aG}{B:Exit->Act->World->Prop}
def RC{ι:Type}{τ:ι->bW}{M:ι->List aO}{Fy:ι->Prop}{l U:Nat}{R:FuncId}{G:Array Value}{D E:Tmp}{Y Z:Value}{I K:Code}{ap:bW}{post:Bool->List aO->Prop}{Q:LoopState->Option Code->Obj}(ay:Q=λaV q=> .loop ⟨aV,q,R,G,#[D,E],I,K,U⟩)(aI:G.size=n)(aS:eD ap ⟨G,[]⟩)(aC:dT D n=true)(O:dT E n=true)
  (aw:∀g F,g.gK=some l->g.kG=[]->bc P (λ_ _ _=>False) g n [.code I,.inv (λar al=>∃y,Fy y/\fo g n (τ y) ar/\a4 g (F::bz l (Q .ready none)::M y) al)] ((E,Z)::(D,Y)::ap) (F::bz l (Q .ready none)::L))
  (ax:∀g F y,Fy y->g.gK=some l->g.kG=[]->bc P (va g F l Q post) g n [.code K] (τ y) (F::bz l (Q .busy none)::M y)):
  ic P l [Y,Z] (bz l (Q .ready none)::L) post:=λg F al ak=>by
 subst ay;have aL:=ak.mono λ_ s=>s.swap;have aX:=run_yield (P:=P) (args:=[Y,Z].toArray) aL.hV p;refine⟨R,(G.setIfInBounds D Y).setIfInBounds E Z,I,K,by simp_all,roundIn_of_wpIn trivial ?_⟩;have aE:fo ⟨g.os,g.tape,g.output,[],some l⟩ n _ _:=⟨aI,rfl,aS⟩;have aa:=aw _ F p p _ al ((aE.put Y aC).put Z O) ⟨ak.g,ak.s⟩;refine lw (λae au aY h=> ?_) aa;cases ae with
 |normal=>
  obtain⟨y,av,aH,aP⟩:=h;have ao:=aP.mono λ_ s=>s.swap;refine⟨_,run_beginRound ao.hV p,?_⟩;have aQ:=(ao.eR (.loop ⟨.busy,none,R,G,#[D,E],I,K,U⟩)).mono λ_ s=>s.swap;have ab:=ax _ F y av p p au _ aH aQ;refine lw (λae aW aZ ag=> ?_) ab;cases ae with
  |normal=>
   obtain⟨am,O,W⟩:=ag;have j:=W.mono λ_ s=>s.swap;have C:=(j.eR (.loop ⟨.ready,none,R,G,#[D,E],I,K,U⟩)).mono λ_ s=>s.swap;exact⟨_,_,run_endRound _ j.hV,true,_,rfl,O,⟨C.g,C.s⟩⟩
  |ret=>
   obtain⟨am,O,W⟩:=ag;have j:=W.mono λ_ s=>s.swap;have C:=(j.eR (.loop ⟨.done,some .ret,R,G,#[D,E],I,K,U⟩)).mono λ_ s=>s.swap;exact⟨_,_,run_endRound _ j.hV,false,_,rfl,O,⟨C.g,C.s⟩⟩
  |exit id=>
   obtain⟨am,O,W⟩:=ag;have j:=W.mono λ_ s=>s.swap;have C:=(j.eR (.loop ⟨.done,some (.exit id),R,G,#[D,E],I,K,U⟩)).mono λ_ s=>s.swap;exact⟨_,_,run_endRound _ j.hV,false,_,rfl,O,⟨C.g,C.s⟩⟩
  | _=>trivial
 | _=>exact h.elim
def Rm(P:Program)(n:Nat)(J:bW)(l:Nat)(K O:Tmp)(G I:Code)(j:LoopState->Option Code->Obj):Prop:=
 ∀{ι:Type} {τ:ι->bW} {M:ι->List aO} {Fy:ι->Prop} {C D:Value} {L:aG} {post:Bool->List aO->Prop},
  (∀g F,g.gK=some l->g.kG=[]->bc P (λ_ _ _=>False) g n [.code G,.inv (λE Q=>∃y,Fy y/\fo g n (τ y) E/\a4 g (F::bz l (j .ready none)::M y) Q)] ((O,D)::(K,C)::J) (F::bz l (j .ready none)::L))->
  (∀g F y,Fy y->g.gK=some l->g.kG=[]->bc P (va g F l j post) g n [.code I] (τ y) (F::bz l (j .busy none)::M y))->
  ic P l [C,D] (bz l (j .ready none)::L) post
def Qp{Z}{E G:Tmp}{O Q R W Y}{post:Option Code->List aO->Prop}[aE:b4 P R](aw:g.gK=none)(ar:dT E n=true)(au:dT G n=true)(av:aY J Z=some (.func (.func R) W.toArray Y.toArray))
  (ap:∀(l j) (K),Rm P n J l E G O Q K->D P R (W++[Value.func (.yield l) #[] #[]]++Y).toArray (bz l (K .ready none)::bz j (.deferred (some []))::L)
   λv ae=>∃I q C,I≠ .busy/\post q C/\ae=bz l (K I q)::bz j (.deferred (some []))::C)
  (am:∀j C,post none C->bc P B (g.s3 j) n aK J (bz j (.deferred (some []))::C))
  (ao:∀j U C,post (some U) C->bc P B (g.s3 j) n (.code U::aK) J (bz j (.deferred (some []))::C)):
  bc P B g n (.code (.rangeFunc Z #[E,G] O Q)::aK) J L:=
 Ix aw av (λl j ag aC ax ay=>ap l j (λI q=> .loop ⟨I,q,ag,aC,#[E,G],O,Q,j⟩) λak al=>RC p ax ay ar au ak al) am ao
end
section
attribute [local irreducible] G bf cc
def iA{j D:Type}[cW j][cW D][DecidableEq j]{C:aG}{b:Nat}{M:List (j×D)}(h:cY C b M:=by repeat' first|exact cY.here|assumption|apply cY.skip):cY C b M:=h
def cY.bE{j D:Type}[cW j][cW D][DecidableEq j]{C:aG}{b:Nat}{M:List (j×D)}(h:cY C b M):∀{N:aG},cY (N++C) b M
 | []=>h
 | _:: _=>(cY.bE h).skip
instance:lK E 194 (3,43):=⟨O⟩
instance:lK E 195 (3,45):=⟨O⟩
instance:Cm E 3:=⟨O⟩
instance:CD E 43:=⟨O⟩
instance:CD E 45:=⟨O⟩
def ZS(n j):D E 268 #[.int .i64 n] j λv C=>v=.bool (dF n)/\C=j:=by
 refine bH λg F=> ?_;repeat' first|refine aH ?_|refine aU λ_=> ?_|refine aP (λ_=> ?_) (λ_=> ?_)|fail
 all_goals first|contradiction|(refine bI ?_;exact⟨by simp_all[bG,dF]<;>(omega),rfl⟩)
def Pt(j:be)(C):D E 444 #[j.v] C λv G=>v=.tuple #[.int .i64 j.id,.bool j.known]/\G=C:=by
 refine bH λg F=> ?_;repeat' first|refine aH ?_|refine aU λ_=> ?_|refine aP (λ_=> ?_) (λ_=> ?_)|fail
 all_goals first|contradiction|(refine bI ?_;exact⟨by simp_all[bG,be.id,be.known,be.iq]<;>omega,rfl⟩)
def sY(C:be)(j):D E 363 #[C.v] j λv G=>v=.bool C.jN/\G=j:=by
 refine bH λg F=> ?_;repeat' first|refine aH ?_|refine aU λ_=> ?_|refine aP (λ_=> ?_) (λ_=> ?_)|fail
 all_goals first|contradiction|(refine bI ?_;exact⟨by simp_all[bG,be.jN],rfl⟩)
def be.Fp(j:be):Int:=if j.k=1/\(dF j.ag.x&&dF j.ag.y)=false then 2 else if j.k=3/\(dF j.s.x&&dF j.s.y)=false then 2 else if j.k=3/\j.s.y<j.s.x then 3 else 0
def Z7(C:be)(j):D E 445 #[C.v] j λv G=>v=.int .i64 C.Fp/\G=j:=by
 have I:=ZS;refine bH λg F=> ?_;repeat' first|refine aH ?_|refine aU λ_=> ?_|refine aP (λ_=> ?_) (λ_=> ?_)|fail
 all_goals first|contradiction|(refine bI ?_;exact⟨by simp_all[bG,be.Fp]<;>(intros;omega),rfl⟩)
theorem be.U6(j:be):j.hT=if j.known=false\/oo j.id=false then 1 else j.Fp:=by rfl
def ZZ(j:be)(C):D E 361 #[j.v] C λv G=>v=.int .i64 j.hT/\G=C:=by
 rw[be.U6];have I:=Pt j;have J:=Z7 j;refine bH λg F=> ?_;repeat' first|refine aH ?_|refine aU λ_=> ?_|refine aP (λ_=> ?_) (λ_=> ?_)|fail
 all_goals first|contradiction|(refine bI ?_;exact⟨by simp_all[bG,oo]<;>(omega),rfl⟩)
section
variable(c:be)(t dY dZ:Nat)(bT:Int)(fj fk:List (Int×I))(L:aG)
def ZX(h:aB L t 0 3 [.map (some dY),.map (some dZ),.int .i64 bT])(G:cY L dY fj)(J:cY L dZ fk):D E 362 #[.pointer (some ⟨t,0,none⟩),c.v] L λv j=>v=.bool (if c.iq then(c1 c.id fj).isSome else(c1 c.id fk).isSome)/\j=L:=by
 have C:aR L ⟨t,0+0,none⟩ (.map (some dY)):=h.at_ (i:=0) p;have aa:aR L ⟨t,0+1,none⟩ (.map (some dZ)):=h.at_ (i:=1) p;have K:=Pt c;refine bH λg F=> ?_;repeat' first|refine aH ?_|refine aD (us (bC:=Int) (d9:=I) (j:=c.id) p p iA) ?_|refine aU λ_=> ?_|refine aP (λ_=> ?_) (λ_=> ?_)|fail
 all_goals first|contradiction|(refine bI ?_;exact⟨by simp_all[bG,be.iq],rfl⟩)
def Z9(h:aB L t 0 3 [.map (some dY),.map (some dZ),.int .i64 bT])(J:cY L dY fj)(K:cY L dZ fk)(G:fj.length+fk.length<=1000000):D E 174 #[.pointer (some ⟨t,0,none⟩)] L λv j=>v=.int .i64 (fj.length+fk.length:Nat)/\j=L:=by
 have C:=h.at_ (i:=0) p;have aa:=h.at_ (i:=1) p;refine bH λg F=> ?_;repeat' first|refine aH ?_|refine cV p (zH (bC:=Int) (d9:=I) p iA) ?_|refine aU λ_=> ?_|refine aP (λ_=> ?_) (λ_=> ?_)|fail
 all_goals first|contradiction|(refine bI ?_;exact⟨by rfl,rfl⟩)
variable(P S:List I)(ip:hH fj P)(is:hH fk S)
include ip is
theorem xP(h:aB L t 0 3 [.map (some dY),.map (some dZ),.int .i64 bT])(ae:cY L dY fj)(ag:cY L dZ fk)(aH:P.length+S.length<=1000000):D E 274 #[.pointer (some ⟨t,0,none⟩),c.v] L λv ak=>v=.int .i64 (cA P S bT c)/\ak=L:=by
 have ab:aR L ⟨t,0+2,none⟩ (.int .i64 bT):=h.at_ (i:=2) p;have U:=λR=>ZX c t dY dZ bT fj fk (R++L) (.bE h) (.bE ae) (.bE ag);have W:=λR=>Z9 t dY dZ bT fj fk (R++L) (.bE h) (.bE ae) (.bE ag) (by rw[ip.len,is.len];omega);rw[ip.len,is.len]at W;rw[ip.is,is.is]at U;have al:cA P S bT c=if c.hT≠0 then c.hT else if c.jN=true then(if(if c.iq=true then dx P c.id else dx S c.id)=true then 5 else if bT<=(P.length+S.length:Nat)then 4 else 0)else if(if c.iq=true then dx P c.id else dx S c.id)=true then 0 else 6:=by
  grind[cA]
 rw[al];generalize(if c.iq=true then dx P c.id else dx S c.id)=b at U;refine ap λg F=> ?_;refine aU λaC=> ?_;refine ad ?_;refine bD ?_;iterate 2 refine ad ?_
 refine af ?_;refine d3 p (λar=> ?y5) (λar=> ?n5)
 case' n5=>
  refine aW (aE [0,2,3] (.e 1 (.e 4 (.q 5 (.q 6 .nil))))) ?_;iterate 3 refine ai ?_
  refine cU p p (ZZ c _) ?_;refine cU p p (U [_,_]) ?_;refine K ?_;refine af ?_;refine d3 p (λam=> ?y12) (λam=> ?n12)
  case' n12=>
   refine K ?_;refine a9 (sY c _) ?_;refine f0 p p p (λZ=> ?y15) (λZ=> ?n15)
   case' n15=>
    refine K ?_;refine aW (.q 0 (.e 1 (aE [2,3,5,6,7,8] (.e 4 (.q 9 (.q 10 (.q 11 .nil))))))) ?_;refine ai ?_;refine cU p p (sY c _) ?_;refine ai ?_;refine n6 (C:=27) true p (λC=> ?y60) (λC=> ?n60)
    case' n60=>
     refine cw aT p p p ⟨_,rfl,C⟩ p ?_;refine cw aT p p p ⟨_,rfl,C⟩ p ?_;refine cw aT p p p ⟨_,rfl,C⟩ p ?_;refine cw aT p p p ⟨_,rfl,C⟩ p ?_;refine cw aT p p p ⟨_,rfl,C⟩ p ?_;refine an (gy p p p ⟨_,rfl,C⟩ p ?_);refine cw aT p p p ⟨_,rfl,C⟩ p ?_;refine dd p (eW p C p) ?_;refine K ?_;refine a9 (sY c _) ?_;refine f0 p p p (λax=> ?y91) (λax=> ?n91)
     case' n91=>
      refine bI ?_;exact⟨by simp_all[bG]<;>(intros;omega),rfl⟩
     case' y91=>
      refine K ?_;refine af ?_;refine d3 p (λay=> ?y93) (λay=> ?n93)
      case' n93=>
       refine bI ?_;exact⟨by simp_all[bG]<;>(intros;omega),rfl⟩
      case' y93=>
       refine bI ?_;exact⟨by simp_all[bG]<;>(intros;omega),rfl⟩
    case' y60=>
     refine b0 aT p p p p ⟨_,rfl,C⟩ p (fv p) ?_;refine b0 aT p p p p ⟨_,rfl,C⟩ p (fv p) ?_
     (first|refine b0 aT p p p p ⟨_,rfl,C⟩ p (sc p) ?_|refine b0 aT p p p p ⟨_,rfl,C⟩ p (pz Q p) ?_)
     refine b0 aT p p p p ⟨_,rfl,C⟩ p (iE p) ?_;refine fF aT p p p p ⟨_,rfl,C⟩ p (d6 p dX) ?_;refine an (f9 p p p ⟨_,rfl,C⟩ p (aw p (W [_,_])) ?_);rintro _ _ ⟨rfl,rfl⟩;refine cM ?_;refine b0 aT p p p p ⟨_,rfl,C⟩ p (zF p p) ?_;refine dd p (eP p C p) ?_;refine ai ?_;refine cK ?_;refine d3 p (λau=> ?y66) (λau=> ?n66)
     case' n66=>
      refine K ?_;refine a9 (sY c _) ?_;refine f0 p p p (λO=> ?y71) (λO=> ?n71)
      case' n71=>
       refine el p p p O ?_;refine aD (eW p O p) ?_;refine ad ?_;refine dG ?_;refine aJ ?_;refine ad ?_;refine af ?_;refine aj p (.tmp p .nil) az ⟨by simp_all[bG]<;>(intros;omega),rfl⟩
      case' y71=>
       refine ad ?_;refine br p p p O ?_;refine ad ?_;refine aD (eP p O p) ?_;refine ad ?_;refine af ?_;refine d3 p (λav=> ?y73) (λav=> ?n73)
       case' n73=>
        refine aJ ?_;refine ad ?_;refine af ?_;refine aj p (.tmp p .nil) az ⟨by simp_all[bG]<;>(intros;omega),rfl⟩
       case' y73=>
        refine aJ ?_;refine ad ?_;refine af ?_;refine aj p (.tmp p .nil) az ⟨by simp_all[bG]<;>(intros;omega),rfl⟩
     case' y66=>
      refine aJ ?_;refine ad ?_;refine af ?_;refine aj p (.tmp p .nil) az ⟨by simp_all[bG]<;>(intros;omega),rfl⟩
   case' y15=>
    refine ad ?_;refine aD (eP p Z p) ?_;refine ad ?_;refine af ?_;refine d3 p (λY=> ?y16) (λY=> ?n16)
    case' n16=>
     refine aW (.q 0 (.e 1 (aE [2,3,5,6,7,8] (.e 4 (.q 9 (.q 10 (.q 11 .nil))))))) ?_;refine ai ?_;refine cU p p (sY c _) ?_;refine ai ?_;refine n6 (C:=27) true p (λj=> ?y20) (λj=> ?n20)
     case' n20=>
      refine cw aT p p p ⟨_,rfl,j⟩ p ?_;refine cw aT p p p ⟨_,rfl,j⟩ p ?_;refine cw aT p p p ⟨_,rfl,j⟩ p ?_;refine cw aT p p p ⟨_,rfl,j⟩ p ?_;refine cw aT p p p ⟨_,rfl,j⟩ p ?_;refine an (gy p p p ⟨_,rfl,j⟩ p ?_);refine cw aT p p p ⟨_,rfl,j⟩ p ?_;refine dd p (eW p j p) ?_;refine ai ?_;refine cK ?_;refine b2 p p ?_;refine aJ ?_;refine ad ?_;refine bw p (sY c _) ?_;iterate 2 refine ad ?_
      refine f0 p p p (λJ=> ?y49) (λJ=> ?n49)
      case' n49=>
       refine el p p p J ?_;refine aD (eW p J p) ?_;refine ad ?_;refine dG ?_;refine aJ ?_;refine ad ?_;refine af ?_;refine aj p (.tmp p .nil) az ⟨by simp_all[bG]<;>(intros;omega),rfl⟩
      case' y49=>
       refine ad ?_;refine br p p p J ?_;refine ad ?_;refine aD (eP p J p) ?_;refine ad ?_;refine af ?_;refine cD p (by simp[Y]) ?_;refine aJ ?_;refine ad ?_;refine af ?_;refine aj p (.tmp p .nil) az ⟨by simp_all[bG]<;>(intros;omega),rfl⟩
     case' y20=>
      refine b0 aT p p p p ⟨_,rfl,j⟩ p (fv p) ?_;refine b0 aT p p p p ⟨_,rfl,j⟩ p (fv p) ?_
      (first|refine b0 aT p p p p ⟨_,rfl,j⟩ p (sc p) ?_|refine b0 aT p p p p ⟨_,rfl,j⟩ p (pz Q p) ?_)
      refine b0 aT p p p p ⟨_,rfl,j⟩ p (iE p) ?_;refine fF aT p p p p ⟨_,rfl,j⟩ p (d6 p dX) ?_;refine an (f9 p p p ⟨_,rfl,j⟩ p (aw p (W [_,_])) ?_);rintro _ _ ⟨rfl,rfl⟩;refine cM ?_;refine b0 aT p p p p ⟨_,rfl,j⟩ p (zF p p) ?_;refine dd p (eP p j p) ?_;refine ai ?_;refine cK ?_;refine d3 p (λao=> ?y26) (λao=> ?n26)
      case' n26=>
       refine aJ ?_;refine ad ?_;refine bw p (sY c _) ?_;iterate 2 refine ad ?_
       refine f0 p p p (λG=> ?y31) (λG=> ?n31)
       case' n31=>
        refine el p p p G ?_;refine aD (eW p G p) ?_;refine ad ?_;refine dG ?_;refine aJ ?_;refine ad ?_;refine af ?_;refine aj p (.tmp p .nil) az ⟨by simp_all[bG]<;>(intros;omega),rfl⟩
       case' y31=>
        refine ad ?_;refine br p p p G ?_;refine ad ?_;refine aD (eP p G p) ?_;refine ad ?_;refine af ?_;refine cD p (by simp[Y]) ?_;refine aJ ?_;refine ad ?_;refine af ?_;refine aj p (.tmp p .nil) az ⟨by simp_all[bG]<;>(intros;omega),rfl⟩
      case' y26=>
       refine aJ ?_;refine ad ?_;refine af ?_;refine aj p (.tmp p .nil) az ⟨by simp_all[bG]<;>(intros;omega),rfl⟩
    case' y16=>
     refine aJ ?_;refine ad ?_;refine af ?_;refine aj p (.tmp p .nil) az ⟨by simp_all[bG]<;>(intros;omega),rfl⟩
  case' y12=>
   refine aJ ?_;iterate 2 refine ad ?_
   refine af ?_;refine aj p (.tmp p .nil) az ⟨by simp_all[bG]<;>(intros;omega),rfl⟩
 case' y5=>
  refine aJ ?_;refine ad ?_;refine af ?_;refine aj p (.tmp p .nil) az ⟨by simp_all[bG]<;>(intros;omega),rfl⟩
theorem Zr(J:c.k=1)(Q:cA P S bT c=0)(R:P.length+S.length<=1000000):D E 261 #[.pointer (some ⟨t,0,none⟩),c.v] (ae t 197 [.map (some dY),.map (some dZ),.int .i64 bT]::co dY fj::co dZ fk::L) λv C=>v=.tuple #[(be.mk 2 c.ag ci).v,.int .i64 0]/\C=ae t 197 [.map (some dY),.map (some dZ),.int .i64 bT]::co dY (eY c.ag.id c.ag fj)::co dZ fk::L:=by
 have j:=λG=>xP c t dY dZ bT fj fk (G++(ae t 197 [.map _,.map _,.int _ bT]::co dY fj::co dZ fk::L)) P S ip is (.bE (aB.ae p)) (.bE iA) (.bE iA) R;rw[Q]at j;refine ap λg F=> ?_;refine aU λU=> ?_;refine aS λW=> ?_;refine a9 (j [_,_,_]) ?_;refine aS λY=> ?_;refine af ?_;refine cD p (decide_eq_true J) ?_;refine aW (aE [0,1,2,3,4,5,6,7,8] (.e 9 .nil)) ?_;iterate 9 refine ai ?_
 refine an (cj O p p p (pv (bC:=Int) (d9:=I) (j:=c.ag.id) (v:=c.ag) p p p aI) ?_);rintro _ _ ⟨rfl,rfl⟩;refine K ?_;refine af ?_;exact aj (C:=ae t 197 [.map (some dY),.map (some dZ),.int .i64 bT]::co dY (eY c.ag.id c.ag fj)::co dZ fk::L) p (.cell p (c7 bS) (.tmp p .nil)) aq ⟨rfl,rfl⟩
end
section
variable(c:be)(t dY dZ:Nat)(bT:Int)(fj fk:List (Int×I))(L:aG)
variable(P S:List I)(ip:hH fj P)(is:hH fk S)
include ip is
theorem Zs(U:c.k=2)(W:cA P S bT c=0)(Y:P.length+S.length<=1000000):D E 261 #[R t,c.v] (ae t 197 [.map (some dY),.map (some dZ),j bT]::co dY fj::co dZ fk::L) λv J=>v=.tuple #[(be.mk 1 ((c1 c.ag.id fj).getD ci) ci).v,j 0]/\J=ae t 197 [.map (some dY),.map (some dZ),j bT]::co dY (jn c.ag.id fj)::co dZ fk::L:=by
 have G:=λQ=>xP c t dY dZ bT fj fk (Q++(ae t 197 [.map (some dY),.map (some dZ),j bT]::co dY fj::co dZ fk::L)) P S ip is (.bE (aB.ae p)) (.bE iA) (.bE iA) Y;rw[W]at G;have Z: ¬c.k=1:=C;refine ap λg F=> ?_;refine aU λak=> ?_;refine aS λal=> ?_;refine a9 (G [_,_,_]) ?_;refine aS λam=> ?_;refine af ?_;refine b2 p (decide_eq_false Z) ?_;refine K ?_;refine af ?_;refine cD p (decide_eq_true U) ?_;refine aW (aE [0,1,2,3,4,5,6,7,8] (.e 9 .nil)) ?_;iterate 7 refine ai ?_
 refine cV p (zI (bC:=Int) (d9:=I) (j:=c.ag.id) p p iA) ?_;refine ai ?_;refine an (cj O p p p (f1 p p p p cd) ?_);rintro _ _ ⟨rfl,rfl⟩;refine aW (aE [0,1,2,3,4,5,6] (.e 7 .nil)) ?_;iterate 7 refine ai ?_
 refine an (cj O p p p (Kb (bC:=Int) (d9:=I) (j:=c.ag.id) p p aI) ?_);rintro _ _ ⟨rfl,rfl⟩;refine K ?_;refine af ?_;exact aj (C:=ae t 197 [.map (some dY),.map (some dZ),j bT]::co dY (jn c.ag.id fj)::co dZ fk::L) p (.cell p (c7 bS) (.tmp p .nil)) aq ⟨rfl,rfl⟩
theorem Zt(U:c.k=3)(W:cA P S bT c=0)(Y:P.length+S.length<=1000000):D E 261 #[R t,c.v] (ae t 197 [.map (some dY),.map (some dZ),j bT]::co dY fj::co dZ fk::L) λv J=>v=.tuple #[(be.mk 4 ci c.s).v,j 0]/\J=ae t 197 [.map (some dY),.map (some dZ),j bT]::co dY fj::co dZ (eY c.s.id c.s fk)::L:=by
 have G:=λQ=>xP c t dY dZ bT fj fk (Q++(ae t 197 [.map (some dY),.map (some dZ),j bT]::co dY fj::co dZ fk::L)) P S ip is (.bE (aB.ae p)) (.bE iA) (.bE iA) Y;rw[W]at G;have Z: ¬c.k=1:=C;have ag: ¬c.k=2:=C;refine ap λg F=> ?_;refine aU λak=> ?_;refine aS λal=> ?_;refine a9 (G [_,_,_]) ?_;refine aS λam=> ?_;refine af ?_;refine b2 p (decide_eq_false Z) ?_;refine K ?_;refine af ?_;refine b2 p (decide_eq_false ag) ?_;refine K ?_;refine af ?_;refine cD p (decide_eq_true U) ?_;refine aW (aE [0,1,2,3,4,5,6,7,8] (.e 9 .nil)) ?_;iterate 9 refine ai ?_
 refine an (cj O p p p (pv (bC:=Int) (d9:=I) (j:=c.s.id) (v:=c.s) p p p aI) ?_);rintro _ _ ⟨rfl,rfl⟩;refine K ?_;refine af ?_;exact aj (C:=ae t 197 [.map (some dY),.map (some dZ),j bT]::co dY fj::co dZ (eY c.s.id c.s fk)::L) p (.cell p (c7 bS) (.tmp p .nil)) aq ⟨rfl,rfl⟩
theorem Zu(U:c.k=4)(W:cA P S bT c=0)(Y:P.length+S.length<=1000000):D E 261 #[R t,c.v] (ae t 197 [.map (some dY),.map (some dZ),j bT]::co dY fj::co dZ fk::L) λv J=>v=.tuple #[(be.mk 3 ci ((c1 c.s.id fk).getD ci)).v,j 0]/\J=ae t 197 [.map (some dY),.map (some dZ),j bT]::co dY fj::co dZ (jn c.s.id fk)::L:=by
 have G:=λQ=>xP c t dY dZ bT fj fk (Q++(ae t 197 [.map (some dY),.map (some dZ),j bT]::co dY fj::co dZ fk::L)) P S ip is (.bE (aB.ae p)) (.bE iA) (.bE iA) Y;rw[W]at G;have Z: ¬c.k=1:=C;have ag: ¬c.k=2:=C;have ak: ¬c.k=3:=C;refine ap λg F=> ?_;refine aU λal=> ?_;refine aS λam=> ?_;refine a9 (G [_,_,_]) ?_;refine aS λao=> ?_;refine af ?_;refine b2 p (decide_eq_false Z) ?_;refine K ?_;refine af ?_;refine b2 p (decide_eq_false ag) ?_;refine K ?_;refine af ?_;refine b2 p (decide_eq_false ak) ?_;refine K ?_;refine af ?_;refine cD p (decide_eq_true U) ?_;refine aW (aE [0,1,2,3,4,5,6,7,8] (.e 9 .nil)) ?_;iterate 7 refine ai ?_
 refine cV p (zI (bC:=Int) (d9:=I) (j:=c.s.id) p p iA) ?_;refine ai ?_;refine an (cj O p p p (f1 p p p p cd) ?_);rintro _ _ ⟨rfl,rfl⟩;refine aW (aE [0,1,2,3,4,5,6] (.e 7 .nil)) ?_;iterate 7 refine ai ?_
 refine an (cj O p p p (Kb (bC:=Int) (d9:=I) (j:=c.s.id) p p aI) ?_);rintro _ _ ⟨rfl,rfl⟩;refine K ?_;refine af ?_;exact aj (C:=ae t 197 [.map (some dY),.map (some dZ),j bT]::co dY fj::co dZ (jn c.s.id fk)::L) p (.cell p (c7 bS) (.tmp p .nil)) aq ⟨rfl,rfl⟩
end
def Zx(Q W K O U I J C G S)(am:hH I G)(ao:hH J S)(h:aB C W 0 3 [.map (some K),.map (some O),j U])(ak:cY C K I)(al:cY C O J)(ag:G.length+S.length<=1000000):D E 207 #[R W,Q.v] C λv Y=>v=j (cA G S U Q)/\Y=C:=by
 have ae:=λZ=>xP Q W K O U I J (Z++C) G S am ao (.bE h) (.bE ak) (.bE al) ag;refine ap λg F=> ?_;refine aS λar=> ?_;refine a9 (ae [_,_]) ?_;refine af ?_;exact aj rfl (.tmp p .nil) aq ⟨rfl,rfl⟩
section
variable(n:Int)(t dY dZ:Nat)(bT:Int)(fj fk:List (Int×I))(L:aG)(h:aB L t 0 3 [.map (some dY),.map (some dZ),j bT])(dC:cY L dY fj)(Uo:cY L dZ fk)
include h dC Uo
theorem Zz:D E 275 #[R t,j n] L λv C=>v=.tuple #[cW.v ((c1 n fj).getD ci),.bool (c1 n fj).isSome]/\C=L:=by
 have J:=h.at_ (i:=0) p;refine ap λg F=> ?_;refine aS λG=> ?_;refine aD (us (d9:=I) (j:=n) p p iA) ?_;refine K ?_;refine af ?_;exact aj (C:=L) p (.cell p (c7 bS) (.tmp p .nil)) aq ⟨rfl,rfl⟩
theorem ZC:D E 276 #[R t,j n] L λv C=>v=.tuple #[cW.v ((c1 n fk).getD ci),.bool (c1 n fk).isSome]/\C=L:=by
 have aa:=h.at_ (i:=1) p;refine ap λg F=> ?_;refine aS λG=> ?_;refine aD (us (d9:=I) (j:=n) p p iA) ?_;refine K ?_;refine af ?_;exact aj (C:=L) p (.cell p (c7 bS) (.tmp p .nil)) aq ⟨rfl,rfl⟩
end
def Gy(G)(aa:1<=G)(ab:G<=1048576)(J):D E 70 #[j G] J λv Y=>∃W Q U,v=.tuple #[R W,j 0]/\Y=ae W 197 [.map (some Q),.map (some U),j G]::co Q ([]:List (Int×I))::co U ([]:List (Int×I))::J:=by
 refine ap λg F=> ?_;refine dE 6 p (decide_eq_false C) ?_;iterate 3 refine ad ?_
 refine af ?_;refine b2 p (decide_eq_false C) ?_;refine aJ ?_;refine GE (wr (bC:=Int) (d9:=I)) ?_;rintro _ _ ⟨K,rfl,rfl⟩;refine GE (wr (bC:=Int) (d9:=I)) ?_;rintro _ _ ⟨O,rfl,rfl⟩;iterate 2 refine ad ?_
 refine aS λZ=> ?_;refine af ?_;exact aj (C:=ae Z 197 [.map (some K),.map (some O),j G]::co K ([]:List (Int×I))::co O ([]:List (Int×I))::J) p (.tmp p (.tmp p .nil)) aq ⟨_,_,_,rfl,rfl⟩
instance:tw E 221:=⟨O⟩
def Sx(G q C):D E 214 #[.iface 221 (.agg #[j G,j q])] C λv I=>v=.tuple #[.agg #[j G,j q],.bool true]/\I=C:=by
 refine bH λg F=> ?_;refine aJ ?_;refine aU λJ=> ?_;refine ad ?_;refine bD ?_;refine ad ?_;refine bD ?_;refine aD (TG p) ?_;refine dG ?_;refine aJ ?_;refine aD (TS p) ?_;iterate 2 refine ad ?_
 refine f7 ?_;refine aJ ?_;refine aU λK=> ?_;refine cF ?_;refine bD ?_;refine ad ?_;refine cF ?_;refine ad ?_;refine af ?_;refine aj p (.cell p (c7 bS) (.tmp p .nil)) az ⟨rfl,rfl⟩
def RD(D G g M K C q)(ak:a4 g (ae D 221 [j 0,j 0]::ae G 4 [.bool false]::M) K):
  CallsD E 213 #[R D,R G] (.panicking (qa (.iface 221 (.agg #[j C,j q])))) K λW aE aG=>settle aE=.returning/\W=.returned (.tuple #[])/\a4 g (ae D 221 [j C,j q]::ae G 4 [.bool true]::M) aG:=by
 have ag:=ak.base;refine callsD_of_wpS (fn:=Tryz.f213) Tryz.func213 p λU O Z=> ?_;refine wpS_region ?_;have Y:=Ba g.base p [R D,R G] 7 Q;refine aar (v:=.iface 221 (.agg #[j C,j q])) (i:=0) (rest:=[1,2,3,4,5,6]) (j:={U with mode:=.panicking [{v:=.iface 221 (.agg #[j C,j q]),recovered:=true}]}::O) p p p (by simp[recoverD,Z,qa]) ?_;refine ml (Y.kO (.iface 221 (.agg #[j C,j q])) (j:=some 3) p) ag p p p (aw p (Sx C q _)) ?_;rintro _ _ aH aQ ⟨rfl,rfl⟩ au al;refine ml au al p p p (bf.pu (fv p)) ?_;rintro _ _ aI aS ⟨rfl,rfl⟩ av am;refine ml av am p p p (bf.pu (ur p p)) ?_;rintro _ _ aK aV ⟨rfl,rfl⟩ ax ao;refine ml ax ao p p p (bf.pu (ur p p)) ?_;rintro _ _ aL aW ⟨rfl,rfl⟩ ay ap;refine ml ay ap p p p (f1 p p p p (h3.here p)) ?_;rintro _ _ aO aX ⟨rfl,rfl⟩ aC ar;refine ml aC ar p p p (c5 p p p (h3.skip (h3.here p))) ?_;rintro _ _ aP aY ⟨rfl,rfl⟩ J I;refine⟨J.defers,.panicking [{v:=.iface 221 (.agg #[j C,j q]),recovered:=true}],?_,.tuple #[],A2 (E:=[]) (C:=[]) p .nil J.e I.s,rfl,rfl,I.pX⟩;rfl
def Sw{O J K ao post U q}[a0:b4 E O](h:me E O (J++[]++K).toArray ao (.iface 221 (.agg #[j U,j q])) post):
  D E 162 #[.func (.func O) J.toArray K.toArray] ao λv W=>v=.tuple #[.agg #[j U,j q],.bool true]/\post W:=λg F aZ aQ=>by
 refine calls_of_wp_defers (fn:=Tryz.f162) Tryz.func162 p ?_;have aP:=Ba g.base p [.func (.func O) J.toArray K.toArray] 7 Q
 suffices aX:∀am,am=bodyPostD E Tryz.f162 (λZ ap=>∃v W,Z=.returned v/\(v=.tuple #[.agg #[j U,j q],.bool true]/\post W)/\a4 g (F::W) ap)->
   bc E am g.base 7 [.code (Tryz.f162.body.get p)] (lM [.func (.func O) J.toArray K.toArray] 0) (F::ao)from BC (λZ C aZ h=>by cases Z<;>first|exact h|exact h.elim) (wpIn_wide.1 (aX _ p _ _ aP aQ.base))
 intro am aI;refine bZ ?_;refine aJ ?_;refine aU λG=> ?_;refine aU λI=> ?_;refine bD ?_;refine ad ?_;intro C aE ag aS;refine wpListIn_plain p λaG aC=> ?_;refine⟨λ_ _=>trivial,?_⟩;have au:C.eval (.tmp 4)=.func (.func 213) #[] #[R G,R I]:=ag.e.eval p;have av:∀(al:TypeId) (ak:String) (Y:Array Edge),(execOp C.eval ⟨none,.defer ⟨.value (.tmp 4),#[],#[]⟩,al,ak,Y,none⟩).run E aE=.ok (.defer ⟨.fn (.func 213) #[R G,R I],#[]⟩) aE:=λ_ _ _=>by
  simp[execOp,resolve,au,lx]
 rw[show ∀(al:TypeId) (ak:String) (Y:Array Edge),Hi (jp g.base.gK).round C.eval ⟨none,.defer ⟨.value (.tmp 4),#[],#[]⟩,al,ak,Y,none⟩=execOp C.eval ⟨none,.defer ⟨.value (.tmp 4),#[],#[]⟩,al,ak,Y,none⟩from λ_ _ _=>rfl,av];refine aC _ _ ?_;clear aC aG av au;show(Code.seq _ _).wpIn Fence.wide 0 _ _ _ _;refine wpIn_wide.2 ?_;have aL:=ag.e;have a3:=ag.size;have aK:=ag.defers;refine wp_seq (wp_region_lit ?_);have ax:=eD.Nn (C:={C with defers:=⟨.fn (.func 213) #[R G,R I],#[]⟩::C.defers}) aL p;refine GO p (bf.pu (fv p)) ax aS ?_;rintro v a1 a5 ⟨rfl,rfl⟩ aV;have ay:=eD.put ax (t:=5) (.func (.func O) J.toArray K.toArray) (by show 5<C.tmps.size;omega);refine aat (G:=J) (I:=K) p p (me.frame [ae I 4 [.bool false],ae G 221 [j 0,j 0],F] h (λ_ s=>s)) ay aV ?_;rintro a2 ar ⟨aH,aO,rfl⟩ aW;subst aI;show Leaves _ _ _ _ (_::C.defers) (.panicking (qa _)) ar;rw[aK];refine leaves_cons Q (f:=213) (args:= #[R G,R I]) ?_ ?_
 ·have:=(inferInstance:b4 E 213).run #[R G,R I] ar;exact this
 ·refine(RD G I g.base _ ar U q (aW.mono λ_ s=>s.swap)).mono λZ aY ap ⟨aa,ab,aw⟩=> ?_;subst ab;show Leaves _ _ _ _ [] (settle aY) ap;rw[aa];refine⟨_,A2 (E:=[.cell 2 221,.cell 3 4]) (C:=[.agg #[j U,j q],.bool true]) p (.cell p (c7 (aB.ae p)) (.cell p (EF (aR.skip (aR.ae p))) .nil)) ay aw.s,_,aH,rfl,⟨rfl,aO⟩,(aw.mono λ_ s=>s.tail.tail).pX⟩
end
end
end Go.Proofs.YtioamnghkmcbbaaGreat
