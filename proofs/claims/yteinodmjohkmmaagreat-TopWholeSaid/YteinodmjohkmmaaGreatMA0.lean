/- TopWhole: a part of its proof. -/
import Derived.ChangeKeysEq
import Derived.Deep.Draws
import Derived.Deep.Slices
import Derived.IntWalk
import Derived.Lib.Hide
import Derived.Maps.AppendAt
import Derived.Maps.RangeRun
import Derived.OpenShut
import Derived.OrdersHeld
import Derived.OrdersIn
import Derived.ProofKit
import Derived.RangeFuncIn
import Derived.RangeFuncLeaves
import Derived.RangeFuncRecord
import Derived.RowKit2
import Derived.TacticsIn
import Derived.Test.YteinodmjohkmmaaGreatProg
import Derived.WalkKit
import Derived.WideShapes
set_option linter.all false
set_option maxRecDepth 100000
set_option maxHeartbeats 4000000
open Array renaming getD_eq_getD_getElem?->EF,getElem?_eq_none->tH,getElem?_eq_some_iff->vq,getElem?_push->Kk,range->Km,replicate->oz,setIfInBounds_comm->Kn,toList_push->EH
open BitVec renaming ofInt->hf
open Bool renaming and_eq_true->co,false->al,not_eq_true'->sk,true->ag
open Classical renaming choose->tI,choose_spec->xX
open Go renaming Act->fh,Addr->cg,Code->sl,Exit->jK,FuncId->dc,Oper->cI,Operand->cJ,Program->bk,TypeId->bq,Value->a2,World->dd
open Go.Addr renaming add->xY,add_lit->kT
open Go.Builtin renaming append_->q0,firstCells->x0,lenOf->x1
open Go.Code renaming wpIn_mono->oA
open Go.DataW renaming TrodAll->Kw
open Go.Deferred renaming ofValue->oB
open Go.Fence renaming wide->EL
open Go.Instr renaming buildSlice->KB,checkKey->x3,field->KC,fill->EM,findAsking->EN,findKey->KD,findNow->x4,indexAt->KE,loadAt->KF,sameBits->AW,sameNow->AX,sliceBounds->qf,storeAt->KJ,sureAddr->vu
open Go.IntWalk renaming i64_in->oD
open Go.Op renaming eqFields->AY,equal->eo,equalIn->lO,intArith->tJ,intCmp->lP,maxDepth->nK
open Go.Oper renaming semAt_eq->KN,wp->eg
open Go.Program renaming built->KO,fieldsOf->KP
open Go.Region renaming binds->qg,noSelect->x7,ready->jL,wanted->i6
open Go.Result renaming andThen_ok->dG
open Go.Sem renaming run_bind->cM,run_map->x8,run_pure->e5
open Go.Value renaming cells->x9
open Go.Value.slice renaming injEq->KS
open Int renaming emod_two_eq->AZ,le_trans->KZ
open List renaming all_eq_true->nL,countP_cons->mv,countP_le_length->qi,drop_drop->A0,drop_eq_getElem_cons->sp,drop_of_length_le->vw,ext_getElem?->vx,getElem?_drop->yd,getElem?_eq_getElem->b8,getElem?_eq_some_iff->h2,getElem?_modify->Lh,getElem?_take->Li,length->aa,length_cons->f0,length_map->jM,mapM->yg,mapM_toArray->yh,map_append->ez,map_cons->fu,map_nil->mX,map_toArray->gY,mem_append->b9,mem_cons->df,mem_cons_self->ll,mem_flatMap->kz,mem_map->lm,mem_of_getElem?->lQ,mem_singleton->oF,range->gZ,take_append_drop->kk
open Nat renaming add_assoc->LJ,add_mul->nO,beq->aH,ble->da,blt->eY,eq_of_beq_eq_true->cy,le_of_ble_eq_true->fq,le_of_eq->E6,le_refl->bC,lt_or_ge->dZ,ne_of_beq_eq_false->LQ,zero_add->h3,zero_le->bO
open Option renaming getD_some->qj,isSome_iff_exists->LY,none->af,some->ab
open Option.some renaming inj->nQ,injEq->tO
open Prod.mk renaming injEq->tP
open Go.RowKit
namespace Go.Proofs.YteinodmjohkmmaaGreat
noncomputable section
def oQ(H:dd)(E:Nat)(A:Option cg)(n:Nat)(C:List a2):Prop:=
 aa C=n*E/\(0<n*E->∃b D,A=ab ⟨b,D,af⟩/\b<H.heap.size/\∀j (I:j<aa C),H.cell? ⟨b,D+j,af⟩=ab C[j])
def oQ.c7(C:dd)(j:Nat)(A:Option cg):oQ C j A 0 []:=⟨by simp,λh=>by simp at h⟩
section
open Go.ChangeShapes Go.WideShapes Go.ChangeAt Go.RowKit Go.Deep
variable{W:Type}{hq:bq×a2->W}{P:bk}
def Xj(ah:laidOutB P=ag){C R:dd}(Z:Below C.heap.size C R):∀(j:List bq)(J:List a2) (H:List (DataW W)) (D:List MemPlace),
  (j.all λQ=>P.readableRec Q&&decide (Q<P.types.size))=ag->Kw hq P C 0 (λ_=>ag) ag j J H D->(∀E∈D,E.block<C.heap.size)->
  Kw hq P R 0 (λb=>decide (b<C.heap.size)) ag j J H D:=by
 intro j
 induction j with
 |nil=>
  intro J H D _ h _;obtain⟨rfl,rfl,rfl⟩:=trodAll_nil h;exact trodAll_mk0
 |cons Q j am=>
  intro J H D I h U;obtain⟨v,av,ap,aq,ar,q,rfl,rfl,rfl,Y,ai⟩:=trodAll_cons h;rw[List.all_cons,co,co]at I;exact trodAll_cons_mk (Below.trod ah I.1.1 (of_decide_eq_true I.1.2) Y Z (λE O=>U E (b9.2 (.inl O)))) (am _ _ _ I.2 ai (λE O=>U E (b9.2 (.inr O))))
def ajD(am:laidOutB P=ag){D:Func}{s:ChangeSpec}{j J:dd}{args:Array a2}{C:List (DataW W)}{O:List MemPlace}{Z:bq}(U:s.vars=[])(aq:D.resultTypes= #[Z])(av:P.underlying Z=ab .bool)
  (ar:(D.params.toList.all λY=>P.readableRec Y&&decide (Y<P.types.size))=ag)
  (H:DataW.Whole hq P D.params.toList s.vars al j args.toList C [] O)
  (I:s.fn W (C++[])={results:=[.lit (.bool ag)],args:=C}) (R:Below j.heap.size j J):
  s.post hq P D al ag al al j args (.bool ag) J:=by
 have ap:∀E∈O,E.block<j.heap.size:=H.lt;have ai:=H;obtain⟨E,q,ah,Q,rfl,_,_⟩:=H;rw[U]at Q;obtain⟨_,rfl⟩:=trodVars_none Q;refine⟨C,[],E++[],[],E,[],ai,?_,?_,?_,?_,λh=>by cases h⟩
 .rw[I,aq];exact trodAll_mk1 (shut_bool av ag)
 .rw[I];exact Xj am R _ _ _ _ ar ah (λaz ax=>ap az (b9.2 (.inl ax)))
 .rw[I,U];rfl
 .exact R.frame _
def wW(P:bk):Nat->bq->Bool
 |0,_=>al
 |d+1,D=>
  match P.underlying D with
  |some (.int .i64)=>ag
  |some (.struct E)=>(gZ (P.cellsOf D)).all λC=>E.toList.any λj=>decide (j.offset<=C)&&decide (C<j.offset+P.cellsOf j.type)&&wW P d j.type
  | _=>al
def VX(C:List a2)(j:List Int):Prop:=C=j.map (Value.int .i64)/\∀n∈j,-9223372036854775808<=n/\n<=9223372036854775807
def abl(j:List a2)(h:∀C (Q:C<aa j),∃n:Int,j[C]=.int .i64 n/\ -9223372036854775808<=n/\n<=9223372036854775807):∃H,VX j H:=by
 induction j with
 |nil=>exact⟨[],rfl,λ_ E=>by cases E⟩
 |cons c j R=>
  obtain⟨H,J,O⟩:=R λC Q=>h (C+1) (by simp;omega);obtain⟨n,I,E⟩:=h 0 (by simp);refine⟨n::H,by simp only[List.getElem_cons_zero]at I;rw[I,J];rfl,λU D=>?_⟩;rcases df.1 D with rfl|D
  .exact E
  .exact O U D
def aam{aI:dd}{am:Nat}{aG:Nat->Bool}{ap:Bool}:∀(E:Nat)(H:bq)(I:Nat)(C:List a2)(O:DataW W×List MemPlace),
  wW P E H=ag->DataW.trod hq P aI am aG ap I H C=ab O->
  ∀j (Y:j<aa C),∃n:Int,C[j]=.int .i64 n/\ -9223372036854775808<=n/\n<=9223372036854775807:=by
 intro E
 induction E with
 |zero=>intro H I C O h;simp[wW]at h
 |succ E aF=>
  intro H I C O h ah j Y;unfold wW at h;split at h
  .rename_i J
   obtain⟨n,rfl,_,aD⟩:=DataW.trod_int J ah;have:j=0:=by simp at Y;omega
   subst this;exact⟨n,rfl,bounds_i64 aD⟩
  .rename_i aK J
   obtain⟨aJ,n,_,_,aL,aE,aq⟩:=DataW.trod_struct J ah;rw[nL]at h;have Z:=h j (List.mem_range.2 (by omega));rw[List.any_eq_true]at Z;obtain⟨D,av,R⟩:=Z;simp only[co,decide_eq_true_eq]at R;obtain⟨⟨h1,ae⟩,an⟩:=R;obtain⟨ai,ax,ar⟩:=List.getElem_of_mem av;have U:=aq ai D (by rw[<- ar];simp);have az:ai<aa aJ:=by rw[aE];simpa using ax
   rw[b8 az]at U;have aA:j-D.offset<aa ((C.drop D.offset).take (P.cellsOf D.type)):=by simp;omega
   obtain⟨n,Q,aB⟩:=aF _ _ _ _ an U (j-D.offset) aA;refine⟨n,?_,aB⟩;rw[List.getElem_take,List.getElem_drop]at Q;rw[<- Q]
   congr 1
   omega
  .cases h
theorem Nv(a:cg)(n:Nat):(a.add n).block=a.block:=by unfold xY;split<;>rfl
def NO{j:dd}{a:cg}{v:a2}(h:j.cell? a=ab v):a.block<j.heap.size:=by
 rcases dZ a.block j.heap.size with D|C
 .exact D
 .have:=World.cell?_of_block (w:=j) (w':={j with heap:= #[]}) (a:=a) (by rw[tH C];simp);rw[h]at this;simp[World.cell?]at this
end
def afR{j:IntKind}{a b:Int}(h:a=b):Ending.returned (.int j a)=.returned (.int j b):=by rw[h]
theorem MS(a:Int):bits BinOp.and IntKind.i64 a 1=a % 2:=by
 have j:(hf 64 a&&&hf 64 1).toNat=(a % 18446744073709551616).toNat % 2:=by
  rw[BitVec.toNat_and];rw[show(hf 64 1).toNat=1 from rfl,Nat.and_one_is_mod,BitVec.toNat_ofInt];rfl
 show IntKind.i64.wrap ((hf 64 a&&&hf 64 1).toNat:Int)= _;rw[j,oD _ (by omega)];omega
theorem Xo(a b:Int):bits BinOp.and IntKind.i64 (a % 2) (b % 2)=(a % 2)*(b % 2):=by rcases AZ a with j|j<;>rcases AZ b with C|C<;>rw[j,C]<;>rfl
set_option maxHeartbeats 400000 in
theorem adt(a b:Int)(j: -9223372036854775808<=a/\a<=9223372036854775807)(C: -9223372036854775808<=b/\b<=9223372036854775807)(D:dd):
  Calls Tryz.prog 551 #[.int .i64 a,.int .i64 b] D λE H=>E=.returned (.int .i64 ((a+b)/2))/\D=H:=by
 obtain⟨I,J⟩:=j;obtain⟨O,Q⟩:=C
 go_enter Tryz.func551,Tryz.ntmps551
 go_wp2
 go_ret
 refine⟨afR ?_,rfl⟩;rw[MS,MS,Xo];rcases AZ a with j|j<;>rcases AZ b with C|C<;>rw[j,C,IntWalk.wrap64_in _ (by omega)]<;>omega
structure A7 (j:Prop):Prop where
 h:j
def bx{A j:Prop}(a:A)(C:A7 A->j:=by intro a;repeat' first|exact a.h _|exact a.h|exact a.h _ _|apply aU.ap|apply a5.ap|apply Rd.ap|apply bf.ap|apply d2.ap|apply gI.ap|apply eB.ap|apply fM.ap|apply pA.ap|apply sB.ap|apply fa.ap|apply ho.ap|apply ji.ap|apply e6.ap):j:=C ⟨a⟩
theorem bo{j:Prop}(h:j:=by simp_all):j:=h
def ol{j:Prop}(h:j:=by(repeat first|exact cf|first|apply k5 p|apply lC p|refine ek ?_)<;>fail):j:=h
def kh{j:Prop}(h:j:=by repeat' first|exact xc _ _|apply d2.ap):j:=h
theorem fs{j:Prop}(h:j:=by assumption):j:=h
theorem bv{j:Prop}(h:j:=by grind):j:=h
def mg{j:Prop}(h:j:=by(repeat first|exact cf|refine ek ?_)<;>fail):j:=h
def nu{j:Prop}(h:j:=by repeat' first|exact fL.here|apply fL.ap):j:=h
def nv{j:Prop}(h:j:=by repeat' first|assumption|apply gI.ap):j:=h
def rZ{j:Prop}(h:j:=by(repeat first|exact cf|apply k5 p|refine ek ?_)<;>fail):j:=h
def IF{j:Prop}(h:j:=by apply_assumption<;>repeat' first|exact aU.ah p|apply_assumption|apply aU.ap|apply Rd.ap):j:=h
def xw{j:Prop}(h:j:=by(repeat first|exact cf|refine Cq ?_|refine ek ?_)<;>fail):j:=h
def xx{j:Prop}(h:j:=by(repeat first|exact cf|refine Ou ?_|refine ek ?_)<;>fail):j:=h
def Ae{j:Prop}(h:j:=by(repeat first|exact cf|apply Zk|refine ek ?_)<;>fail):j:=h
def Af{j:Prop}(h:j:=by(repeat first|exact cf|apply Zl|refine ek ?_)<;>fail):j:=h
def DH{j:Prop}(h:j:=by(repeat first|exact cf|apply Cv p p|refine ek ?_)<;>fail):j:=h
def DI{j:Prop}(h:j:=by(repeat first|exact cf|refine Oo ?_|refine ek ?_)<;>fail):j:=h
def DJ{j:Prop}(h:j:=by(repeat first|exact cf|apply wJ|refine ek ?_)<;>fail):j:=h
theorem DK{j:Prop}(h:j:=by(repeat first|exact cf|apply Ol|refine ek ?_)<;>fail):j:=h
def DL{j:Prop}(h:j:=by(repeat first|exact cf|apply Zo|refine ek ?_)<;>fail):j:=h
def Ag{j:Prop}(h:j:=by simp_all[cs,s5]<;>(try omega)):j:=h
def IC{j:Prop}(h:j:=by(repeat first|exact cf|refine Cr ?_|refine ek ?_)<;>fail):j:=h
theorem uV{j:Prop}(h:j:=by rw[gV];omega):j:=h
def DM{j:Prop}(h:j:=by repeat' first|exact sB.here|apply sB.ap):j:=h
def xy{j:Prop}(h:j:=by have:=q.length_eq;omega):j:=h
def tm{j:Prop}(h:j:=by simp_all[d4.e7]):j:=h
def Sg{j:Prop}(h:j:=by(repeat first|exact cf|refine Zi (o.fJ.nX o.nX ad o.nf) ?_|apply zh|refine ek ?_)<;>fail):j:=h
def tn{j:Prop}(h:j:=by simp only;omega):j:=h
def xz{j:Prop}(h:j:=by simp_all[d4.choice]):j:=h
def ID{j:Prop}(h:j:=by repeat' first|exact bf.ah p|apply bf.ap):j:=h
def DN{j:Prop}(h:j:=by rw[List.append_nil];exact au):j:=h
def Sh{j:Prop}(h:j:=by(repeat first|exact cf|refine Oq ?_|refine Cr ?_|refine ek ?_)<;>fail):j:=h
def IE{j:Prop}(h:j:=by repeat' first|exact XN|apply aU.ap):j:=h
abbrev I(b:Nat):a2:=.pointer (ab ⟨b,0,af⟩)
abbrev U(b:Nat):Option cg:=ab ⟨b,0,af⟩
abbrev j(n:Int):a2:=.int .i64 n
abbrev a3:=Option cg
abbrev bz:=List a2
theorem jV:(∀(j:Prop) [Decidable j],(decide j=ag)=j)/\(∀(j:Prop) [Decidable j],(decide j=al)= ¬j)/\((!ag)=al)/\((!al)=ag)/\(∀b:Bool,((!b)=ag)=(b=al))/\(∀b:Bool,((!b)=al)=(b=ag)):=by simp
theorem cO{j:Prop}[Decidable j](h:j):decide j=ag:=decide_eq_true h
theorem cw{j:Prop}[Decidable j](h: ¬j):decide j=al:=decide_eq_false h
theorem a8{c:Prop}[Decidable c](h: ¬c){α:Sort _}{C j:α}:ite c C j=j:=if_neg h
theorem bJ{c:Prop}[Decidable c](h:c){α:Sort _}{j C:α}:ite c j C=j:=if_pos h
def bD{α:Sort _}{j:Sort _}{a:α}{b:j}:a=a/\b=b:=⟨rfl,rfl⟩
theorem cT{α:Sort _}{j:α->Prop}(a:α)(h:j a):j a:=h
theorem ad{j:Prop}(h:j:=by omega):j:=h
theorem ao{j:Prop}(h:j:=by simp):j:=h
theorem bL{j:Prop}(h:j:=by decide):j:=h
theorem p{α:Sort _}{a:α}:a=a:=rfl
def bN{j:Prop}(h:j:=by rfl):j:=h
def cq{j:Prop}(h:j:=by kernel_rfl):j:=h
abbrev j5:=Nat->Option Obj
abbrev aG:=j5->Prop
def eV(h C:j5):Prop:=∀j o,h j=ab o->C j=ab o
def zA(h C:j5):Prop:=∀j,h j=af\/C j=af
def C:List aG->j5->Prop
 | [],_=>True
 |A::j,h=>∃h1 ae,zA h1 ae/\eV h1 h/\eV ae h/\A h1/\C j ae
abbrev aS(j M:List aG):Prop:=∀h,C j h->C M h
theorem db{j:Prop}(h:0<0):j:=absurd h (Nat.lt_irrefl 0)
theorem eV.refl(h):eV h h:=λ_ _ j=>j
theorem eV.trans{a b c}(h:eV a b)(D:eV b c):eV a c:=λj o C=>D j o (h j o C)
def zA.sub{a b C D}(h:zA a b)(H:eV C a)(I:eV D b):zA C D:=λj=>by
 rcases h j with e|e
 .left;cases E:C j with
  |none=>rfl
  |some o=>rw[H j o E]at e;omega
 .right;cases E:D j with
  |none=>rfl
  |some o=>rw[I j o E]at e;omega
theorem C.up{j h D}(s:C j h)(E:eV h D):C j D:=by
 cases j with
 |nil=>trivial
 |cons A j=>
  let⟨h1,ae,H,I,J,a,l⟩:=s;exact⟨h1,ae,H,I.trans E,J.trans E,a,l⟩
def C.tail{A j h}(s:C (A::j) h):C j h:=by
 let⟨h1,ae,E,H,D,a,l⟩:=s;exact l.up D
theorem C.swap{A I J h}(s:C (A::I::J) h):C (I::A::J) h:=by
 let⟨h1,ae,O,aq,U,a,ai,E,Z,W,Y,b,l⟩:=s;have ah:=O.sub (eV.refl _) W;have Q:=O.sub (eV.refl _) Y;let H:=λj=>(h1 j).or (E j);have am:eV h1 H:=λj o e=>by grind
 have ap:eV E H:=λj o e=>by
  rcases Q j with D|D
  .grind
  simp_all
 refine⟨ai,H,λj=>?_,W.trans U,λj o e=>?_,b,h1,E,Q,am,ap,a,l⟩
 .rcases ah j with e|e
  .rcases Z j with D|D
   .simp_all
   grind
  simp_all
 .have D:(h1 j).or _=ab o:=e;cases R:h1 j with
  |none=>rw[R]at D;exact U j o (Y j o fs)
  |some ar=>rw[R]at D;exact aq j o bo
theorem C.bl{A j D}(H:aS j D){h}(s:C (A::j) h):C (A::D) h:=by
 let⟨h1,ae,E,I,J,a,l⟩:=s;exact⟨h1,ae,E,I,J,a,H _ l⟩
theorem C.perm{j D}(J:j.Perm D):∀{h},C j h->C D h:=by
 induction J with
 |nil=>exact λs=>s
 |cons A _ I=>exact λs=>s.bl λ_=>I
 |swap A O j=>exact λs=>s.swap
 |trans _ _ E H=>exact λs=>H (E s)
def C.head{A N I}(Q:∀h,A h->C N h){h}(s:C (A::I) h):C (N++I) h:=by
 obtain⟨h1,ae,J,U,W,a,l⟩:=s;have n:=Q _ a;clear a Q;revert n
 induction N generalizing h1 h with
 |nil=>exact λ_=>l.up W
 |cons av N am=>
  rintro⟨ap,E,ah,Y,Z,b,n⟩;have ai:=J.sub Y (eV.refl _);have O:=J.sub Z (eV.refl _);let H:=λj=>(E j).or (ae j);have aq:eV E H:=λj o e=>by grind
  have ar:eV ae H:=λj o e=>by
   rcases O j with D|D
   .grind
   simp_all
  refine⟨ap,H,λj=>?_,Y.trans U,λj o e=>?_,b,am (h1:=E) O aq ar n⟩
  .rcases ah j with e|e
   .simp_all
   .rcases ai j with D|D
    .simp_all
    grind
  .have D:(E j).or _=ab o:=e;cases R:E j with
   |none=>rw[R]at D;exact W j o fs
   |some ax=>rw[R]at D;exact U j o (Z j o bo)
def C.split{H O h}(s:C (H++O) h):∃h1 ae,zA h1 ae/\eV h1 h/\eV ae h/\C H h1/\C O ae:=by
 induction H generalizing h with
 |nil=>exact⟨λ_=>af,h,λ_=> .inl p,λ_ _ e=>bv,eV.refl _,trivial,s⟩
 |cons az H am=>
  let⟨E,aA,Q,ax,W,b,n⟩:=s;let⟨I,ap,ah,Y,Z,av,l⟩:=am n;have R:=Q.sub (eV.refl _) Y;have ai:=Q.sub (eV.refl _) Z;let J:=λj=>(E j).or (I j);have aq:eV E J:=λj o e=>by grind
  have ar:eV I J:=λj o e=>by
   rcases R j with D|D
   .grind
   simp_all
  refine⟨J,ap,λj=>?_,λj o e=>?_,Z.trans W,⟨E,I,R,aq,ar,b,av⟩,l⟩
  .rcases ai j with e|e
   .rcases ah j with D|D
    .grind
    simp_all
   simp_all
  .have D:(E j).or _=ab o:=e;cases U:E j with
   |none=>rw[U]at D;exact W j o (Y j o fs)
   |some aB=>rw[U]at D;exact ax j o bo
theorem C.fold{A N L}(D:∀h,C N h->A h){h}(s:C (N++L) h):C (A::L) h:=by
 let⟨h1,ae,j,E,H,n,l⟩:=s.split;exact⟨h1,ae,j,E,H,D _ n,l⟩
def iR(h:j5)(a:cg):Option a2:=
 match h a.block with
 |some (.cells c _ _)=>if a.spot.isSome then af else c[a.off]?
 | _=>af
def iR.sub{h j a v}(D:iR h a=ab v)(s:eV h j):iR j a=ab v:=by
 unfold iR at*
 cases C:h a.block with
 |none=>simp_all
 |some o=>rw[s _ _ C];simp_all
structure a5 (j:List aG) (a:cg) (v:a2):Prop where
 get:∀h,C j h->iR h a=ab v
structure ah (b:Nat) (j:bq) (C:bz) (h:j5):Prop where
 eq:h b=ab (.cells C.toArray j (0,0))
def old(j:j5):aG:=λh=>eV j h
theorem a5.ap{A j a v}(h:a5 j a v):a5 (A::j) a v:=⟨λ_ s=>h.1 _ s.tail⟩
theorem a5.ah{L:List aG}{b C:Nat}{D:bq}{j:bz}{v:a2}(h:j[C]?=ab v):a5 (ah b D j::L) ⟨b,C,af⟩ v:=by
 constructor;rintro I ⟨h1,ae,H,E,J,a,l⟩;have:=E _ _ a.eq;simp[iR,this,h]
theorem a5.old{C j a v}(h:iR j a=ab v):a5 (old j::C) a v:=by
 constructor;rintro H ⟨h1,ae,E,D,I,o,l⟩;exact iR.sub (iR.sub h o) D
def a5.ev{N j a v}(h:a5 j a v):a5 (N++j) a v:=by
 induction N with
 |nil=>exact h
 |cons A N C=>exact C.ap
def _root_.Go.World.hm(C:dd):j5:=λj=>C.heap[j]?
structure d1 where
 os:Os
 tape:Nat->Question->Nat
 output:Array (Nat×ByteArray)
 l3:List Deferred:=[]
 ie:Option Nat:=af
def uu(j:dd):d1:=⟨j.os,j.tape,j.output,[],af⟩
def d1.base(g:d1):d1:=⟨g.os,g.tape,g.output,[],af⟩
structure bj (g:d1) (D:List aG) (j:dd):Prop where
 g:uu j=g.base
 s:C D j.hm
theorem bj.base{g j C}(h:bj g j C):bj g.base j C:=⟨h.g,h.s⟩
theorem bj.pg{g j C}(h:bj g.base j C):bj g j C:=⟨h.g,h.s⟩
def bj.mono{g L j}(D:aS L j){C}(h:bj g L C):bj g j C:=⟨h.g,D _ h.s⟩
theorem bj.cell{g j C a v}(h:bj g j C)(l:a5 j a v):C.cell? a=ab v:=l.1 _ h.s
def bj.drew{g j C}(h:bj g j C):bj g j C.drew:=⟨h.g,h.s⟩
theorem bj.Nt{g E D b j C}(h:bj g (ah b j C::E) D):D.heap[b]?=ab (.cells C.toArray j (0,0)):=by
 let⟨h1,ae,I,H,J,a,l⟩:=h.s;exact H _ _ a.eq
def bj.XM{g C j b H D E}(h:bj g (ah b D E::C) j):j.frozen? ⟨b,H,af⟩=al:=by simp[World.frozen?,h.Nt]
theorem bj.alloc{g J j}(h:bj g J j)(H I):bj g (ah j.heap.size H I::J) (j.alloc (.cells I.toArray H (0,0))):=by
 refine⟨h.g,λC=>if C=j.heap.size then ab (.cells I.toArray H (0,0))else af,j.hm,λC=>?_,λC o D=>?_,λC o D=>?_,⟨ao⟩,h.s⟩
 .by_cases E:C=j.heap.size
  .right;subst E;simp[World.hm]
  simp_all
 .replace D:(if C=j.heap.size then ab _ else af)=ab o:=D
  by_cases E:C=j.heap.size
  .subst E;rw[bJ p]at D;show(j.heap.push _)[_]?= _;simp_all
  simp_all
 .have E:C<j.heap.size:=by
   rcases dZ C _ with O|O
   .omega
   .simp[World.hm,tH O]at D
  show(j.heap.push _)[C]?= _;rw[Kk,a8 ad];exact D
theorem bj.store{g J C b D E H}(h:bj g (ah b E H::J) C)(v):bj g (ah b E (H.set D v)::J) (C.setCell ⟨b,D,af⟩ v):=by
 have Y:=h.Nt;have ai:b<C.heap.size:=by
  grind
 let⟨h1,ae,O,am,U,a,l⟩:=h.s;have W:=a.eq;have R:∀j,j≠b->(C.setCell _ v).hm j=C.hm j:=λj I=>Below.heap_setCell C ⟨b,D,af⟩ v j I;have Z:(C.setCell ⟨b,D,af⟩ v).hm b=ab (.cells (H.set D v).toArray E (0,0)):=by
  show(C.heap.modify b _)[b]?= _;grind
 refine⟨h.g,λj=>if j=b then ab (.cells (H.set D v).toArray E (0,0))else af,ae,λj=>?_,λj o e=>?_,λj o e=>?_,⟨ao⟩,l⟩
 .by_cases I:j=b
  .right;rcases O j with e|e
   .simp_all
   omega
  simp_all
 .simp_all
 .by_cases I:j=b
  .rcases O j with Q|Q
   .simp_all
   simp_all
  .rw[R j I];exact U j o e
def bj.start(j):bj (uu j) [old j.hm] j:=⟨rfl,j.hm,λ_=>af,λ_=> .inr p,eV.refl _,λ_ _ C=>(by cases C),eV.refl _,trivial⟩
def bj.below{j E O}(h:bj (uu j) (old j.hm::O) E):Below j.heap.size j E:=by
 let⟨h1,ae,U,R,W,a,l⟩:=h.s;have I:∀C,C<j.heap.size->E.heap[C]?=j.heap[C]?:=λC J=>by
  have Q:j.hm C=ab j.heap[C]:=by simp[World.hm,J]
  have:=R _ _ (a _ _ Q);rw[show j.heap[C]?=ab j.heap[C] by simp[J]];exact this
 have H:=h.g;refine⟨congrArg d1.os H,congrArg d1.tape H,congrArg d1.output H,?_,I⟩;rcases dZ E.heap.size j.heap.size with D|D
 .have:=I _ D;simp[D]at this
 .exact D
abbrev Q:=List aG
abbrev cU:=List (Nat×a2)
def cU.get:cU->Nat->Option a2
 | [],_=>af
 |(s,v)::C,j=>bif aH s j then ab v else cU.get C j
def aX(D:cU):cJ->Option a2
 | .tmp C=>D.get C
 | .const v=>ab v
 | .global g=>ab (.pointer (ab ⟨g,0,af⟩))
 | .func j=>ab (.func (.func j) #[] #[])
def fP(C:cU)(a:fh):Prop:=∀j v,C.get j=ab v->a.tmps[j]?=ab v
theorem fP.eval{D a}(h:fP D a){C v}(j:aX D C=ab v):a.eval C=v:=by
 cases C with
 |tmp E=>
  have:=h E v j;simp[Act.eval,EF,this,qj]
 |const I=>exact nQ j
 |global g=>exact nQ j
 |func H=>exact nQ j
theorem fP.cons{D a}(h:fP D a){j v}(I:a.tmps[j]?=ab v):fP ((j,v)::D) a:=by
 intro s H C;simp[cU.get]at C;cases E:aH j s with
 |true=>simp_all
 |false=>rw[E]at C;exact h s H fs
theorem fP.put{D a}(h:fP D a){t}(v)(H:t<a.tmps.size):fP ((t,v)::D) (a.put (ab t) v):=by
 intro s E C;simp[cU.get]at C;show(a.tmps.setIfInBounds t v)[s]?= _;rw[Array.getElem?_setIfInBounds];cases j:aH t s with
 |true=>
  simp_all
 |false=>
  rw[j]at C;rw[a8 (LQ j)];exact h s E fs
def uf(j:cU):cU->Prop
 | []=>True
 |(C,v)::τ=>j.get C=ab v/\uf j τ
def fP.sub{j τ a}(h:fP j a)(s:uf j τ):fP τ a:=by
 induction τ with
 |nil=>intro H v C;cases C
 |cons E τ D=>exact(D s.2).cons (h _ _ s.1)
structure fW (g:d1) (n:Nat) (j:cU) (a:fh):Prop where
 size:a.tmps.size=n
 defers:a.defers=g.l3
 e:fP j a
theorem fW.put{g n j a}(h:fW g n j a){t}(v)(C:eY t n=ag):fW g n ((t,v)::j) (a.put (ab t) v):=
 ⟨by simp[Act.put,h.size],h.defers,h.e.put v (by rw[h.size];simp_all)⟩
def fW.sub{g n j τ a}(h:fW g n j a)(s:uf j τ):fW g n τ a:=⟨h.size,h.defers,h.e.sub s⟩
def bh(E:bk)(D:Q)(H:cU)(o:cI)(v:a2):Prop:=
 ∀a j,fP H a->C D j.hm->(execOp a.eval o).run E j=.ok (.value v) j
def b6(I:bk)(g:d1)(H:Q)(R:cU)(o:cI)(O:a2->List aG->Prop):Prop:=
 ∀a D,fP R a->bj g H D->∀(j:fh->dd->Prop) (J:jK->fh->dd->Prop),
  (∀v E C,O v C->bj g C E->j (a.put o.dst v) E)->o.wp I a D j J
def bh.sR{C g j H o v}(h:bh C j H o v):b6 C g j H o λQ I=>Q=v/\I=j:=by
 intro a E O D R U J;unfold eg;rw[h a E O D.s];exact J v E j bD D
def O(E:bk)(I:dc)(args:Array a2)(D:Q)(J:a2->List aG->Prop):Prop:=
 ∀g F C,bj g (F::D) C->Calls E I args C λH R=>∃v j,H=.returned v/\J v j/\bj g (F::j) R
def O.mono{C D args L E cr}(h:O C D args L E)(I:∀v j,E v j->cr v j):O C D args L cr:=
 λg F R J=>(h g F R J).mono λ_ _ ⟨v,j,H,Q,q⟩=>⟨v,j,H,I _ _ Q,q⟩
theorem C.join{N L:Q}{h}(s:C (N++L) h):C ((λh=>C N h)::L) h:=s.fold λ_ n=>n
theorem C.part{N j:Q}{h}(s:C ((λh=>C N h)::j) h):C (N++j) h:=s.head λ_ n=>n
def O.frame{H I args}{D M:Q}{J}(gd:Q)(h:O H I args D J)(U:aS M (gd++D)):O H I args M λv j=>∃E,J v E/\j=gd++E:=by
 intro g F ah W;have h1:=W.mono λY s=>C.join (N:=F::gd) (s.bl U);refine(h g _ ah h1).mono λai am ⟨v,j,R,Z,q⟩=>⟨v,_,R,⟨j,Z,rfl⟩,q.mono λY s=>C.part s⟩
def lE(j:Option Nat):Fence:={EL with round:=j}
theorem Oper.tD{Q C}{o:cI}{a E H I}(O:∀c,o.op≠ .defer c)(h:o.wp C a E H I):o.wpIn (lE Q) 0 C a E H I:=by
 refine⟨λ_ _=>trivial,?_⟩;rw[KN _ _ _ O];unfold eg at h;generalize(execOp _ o).run C E=j at h ⊢;cases j with
 |ok j R=>
  cases j with
  |value v=>exact h
  |skip=>exact h
  |defer W=>exact h
  |enter Y args=>exact⟨(λD=>by cases D),(callsIn_wide).2 h⟩
  |row row args=>
   refine⟨(λD=>by cases D),λc J _=>?_⟩;let⟨v,U,h1,ae⟩:=h c J;exact⟨v,U,h1,stepsIn_wide.2 ae⟩
  | _=>exact h.elim
 |halt j R=>
  cases j with
  |panic v=>exact h
  | _=>exact h.elim
def b6.adR{H g E J o Y}(R:b6 H g E J o Y){a C}(U:fP J a)(W:bj g E C):∀c,o.op≠ .defer c:=λc ai=>by
 have h:=R a C U W (λO _=>O.defers=a.defers) (λ_ _ _=>False) (λv I Z _ _=>by cases o.dst<;>rfl);unfold eg at h;have Q:execOp a.eval o=(do pure (.defer (<- resolve a.eval c o.type)):Sem _):=by
  unfold execOp;grind
 rw[Q]at h;simp[cM]at h;generalize(resolve _ c _).run H C=D at h;cases D with
 |ok j I=>
  have ah:(({a with defers:=j::a.defers}:fh).put _ _).defers=a.defers:=h;have ae:(({a with defers:=j::a.defers}:fh).put o.dst undef).defers=j::a.defers:=by cases o.dst<;>rfl
  simp_all
 |halt D I=>cases D<;>exact h
def b6.w2{Y H g D W o R}(J:b6 H g D W o R){a C}(O:fP W a)(Q:bj g D C){j I}
  (h:∀v U E,R v E->bj g E U->j (a.put o.dst v) U):o.wpIn (lE Y) 0 H a C j I:=Oper.tD (J.adR O Q) (J a C O Q j I h)
def nr(l:List cI):Bool:=l.all λo=>match o.op with| .defer _=>al| _=>ag
theorem adQ{l}(h:nr l=ag){C:Nat}{o}(j:l.toArray[C]?=ab o):∀c,o.op≠ .defer c:=λc D=>by
 have h1:=nL.1 h o (lQ (by simpa using j));simp_all
def ED{J C l j}(U:nr l=ag)(Y: ¬LetsOut j):∀(D)(H)(a)(I),wpAny C .any l.toArray j D H a I->wpAnyIn (lE J) 0 C .any l.toArray j D H a I
 |0,_,_,_,h=>h
 |D+1,H,a,I,h=>⟨h.1,λZ W=>by
  have h1:=wpOp_mono (K':=wpAnyIn (lE J) 0 C _ _ j _ _) (λO ah R=>ED U Y _ _ O ah R) (h.2 Z W);unfold wpOp at h1;unfold wpOpIn;split
  .simp_all
  .rename_i o Q
   simp[Q]at h1;split
   .rename_i E
    rw[bJ E]at h1;grind[Oper.tD,adQ]
   .rename_i E
    rw[a8 E]at h1;exact⟨λ_ _=>trivial,h1⟩⟩
inductive fj where
 |code (c:Code)
 |ah (id:Nat)
 |inv (j:Act->World->Prop)
def gf(I:Option Nat)(E:bk)(D:jK->fh->dd->Prop):List fj->jK->fh->dd->Prop
 | _,.outgrown,_,_=>False
 | [],H,a,j=>D H a j
 | .code c::C,.normal,a,j=>c.wpIn (lE I) 0 E (gf I E D C) a j
 | .code _::C,H,a,j=>gf I E D C H a j
 | .ah id::C,.exit J,a,j=>if J=id then gf I E D C .normal a j else gf I E D C (.exit J) a j
 | .ah _::C,H,a,j=>gf I E D C H a j
 | .inv O:: _,.normal,a,j=>O a j
 | .inv _::C,H,a,j=>gf I E D C H a j
def vg(id:Nat):List fj->Option (List fj)
 | []=>af
 | .ah C::j=>bif aH id C then ab j else vg id j
 | .code _::j=>vg id j
 | .inv _::j=>vg id j
variable{r:Option Nat}{P:bk}{B:jK->fh->dd->Prop}
def Bt{id a H}:∀{j C},vg id j=ab C->gf r P B C .normal a H->gf r P B j (.exit id) a H
 | [],_,h,_=>by cases h
 | .ah I::j,C,h,D=>by
  simp[vg]at h;simp[gf];cases E:aH id I with
  |true=>
   simp_all
  |false=>
   rw[E]at h;rw[a8 (LQ E)];exact Bt fs D
 | .code c::j,C,h,D=>by simp[gf];exact Bt h D
 | .inv J::j,C,h,D=>by simp[gf];exact Bt h D
def vW{a C}:∀{j},B .ret a C->gf r P B j .ret a C
 | [],h=>h
 | .ah E::j,h=>by simp[gf];exact vW h
 | .code c::j,h=>by simp[gf];exact vW h
 | .inv D::j,h=>by simp[gf];exact vW h
def Mn{j}: ¬LetsOut (gf r P B j):=λ⟨a,D,h⟩=>by
 cases j with
 |nil=>exact h
 |cons C j=>assumption
theorem Wc(c j):Exit.then (c.wpIn (lE r) 0 P (gf r P B j)) (gf r P B j)=gf r P B (.code c::j):=by
 funext C a E
 cases C<;>first|rfl|(cases j with|nil=>rfl|cons D j=>rfl)
theorem Wb(id j):Exit.inBlock id (gf r P B j)=gf r P B (.ah id::j):=by
 funext C a E
 cases C<;>first|rfl|(cases j with|nil=>rfl|cons D j=>rfl)
theorem Mo(C j):Exit.then C (gf r P B j)=gf r P B (.inv C::j):=by
 funext D a H
 cases D<;>first|rfl|(cases j with|nil=>rfl|cons E j=>rfl)
section
variable{g:d1}{n:Nat}{K:List fj}{H:cU}{L:Q}
def G(P:bk)(B:jK->fh->dd->Prop)(g:d1)(n:Nat)(K:List fj)(H:cU)(L:Q):Prop:=
 ∀a j,fW g n H a->bj g L j->gf g.ie P B K .normal a j
def vS{j y}(h:G P B g n (.code j:: .code y::K) H L):G P B g n (.code (.seq j y)::K) H L:=λa E C D=>by
 apply wpIn_seq;rw[Wc];exact h a E C D
def VH{id c}(h:G P B g n (.code c:: .ah id::K) H L):G P B g n (.code (.block id c)::K) H L:=λa D j C=>by
 apply wpIn_block;rw[Wb];exact h a D j C
def Bk{id}(h:G P B g n K H L):G P B g n (.ah id::K) H L:=λa D j C=>h a D j C
def yx(h:G P B g n K H L):G P B g n (.code .skip::K) H L:=λa D j C=>wpIn_skip (h a D j C)
def Me{id j}(C:vg id K=ab j)(h:G P B g n j H L):G P B g n (.code (.exit id)::K) H L:=λa I D E=>wpIn_exit (Bt C (h a I D E))
def c0{c:cJ}{O y:sl}{j:Prop}[Decidable j](E:aX H c=ab (.bool (decide j)))
  (U:j->G P B g n (.code O::K) H L) (R: ¬j->G P B g n (.code y::K) H L):G P B g n (.code (.cond c O y)::K) H L:=λa J D I=>by
 by_cases C:j
 .exact wpIn_cond_true (by rw[D.e.eval E,cO C]) (U C a J D I)
 .exact wpIn_cond_false (by rw[D.e.eval E,cw C]) (R C a J D I)
def eG{c I y b}(C:aX H c=ab (.bool b))
  (O:b=ag->G P B g n (.code I::K) H L) (J:b=al->G P B g n (.code y::K) H L):G P B g n (.code (.cond c I y)::K) H L:=λa E j D=>by
 cases b with
 |true=>exact wpIn_cond_true (j.e.eval C) (O p a E j D)
 |false=>exact wpIn_cond_false (j.e.eval C) (J p a E j D)
def gJ{c C y b}(E:aX H c=ab (.bool b))(D:b=ag)(h:G P B g n (.code C::K) H L):G P B g n (.code (.cond c C y)::K) H L:=
 eG E (λ_=>h) (λj=>by rw[D]at j;cases j)
def e9{c E y b}(D:aX H c=ab (.bool b))(C:b=al)(h:G P B g n (.code y::K) H L):G P B g n (.code (.cond c E y)::K) H L:=
 eG D (λj=>by rw[C]at j;cases j) (λ_=>h)
def bp{j:Q}(C:aS L j)(h:G P B g n K H j):G P B g n K H L:=λa I D E=>h a I D (E.mono C)
def qm{ι:Type}{A}{D:ι->List aG}{F:ι->Prop}(O:∀h,A h->∃j,F j/\C (D j) h)(h:∀j,F j->G P B g n K H (D j++L)):G P B g n K H (A::L):=λa am Y E=>by
 let⟨h1,ae,I,ah,ai,U,W⟩:=E.s;let⟨j,R,Z⟩:=O _ U;exact h j R a am Y ⟨E.g,C.head (λ_ J=>J▸Z) ⟨h1,ae,I,ah,ai,rfl,W⟩⟩
def De{C:Nat->Prop}:(∃j,C j)->∃j,C j/\∀D,C D->j<=D:=by
 rintro⟨j,E⟩
 induction j using Nat.strongRecOn with
 | _ j I=>
  grind
def cL{ι:Type}(τ:ι->cU)(M:ι->List aG)(F:ι->Prop)(J:ι->Nat)(W)(az:F W)(aI:uf H (τ W))(aB:aS L (M W))
  {c} (h:∀C,F C->G P B g n (.code c:: .inv (λa j=>∃y,F y/\J y<J C/\fW g n (τ y) a/\bj g (M y) j)::K) (τ C) (M C)):G P B g n (.code (.loop c)::K) H L:=λa j aE aF=>by
 classical
 let O:=λa j D=>∃C,F C/\fW g n (τ C) a/\bj g (M C) j/\J C=D;let Z:=λa j=>if Y:∃D,O a j D/\∀E,O a j E->D<=E then tI Y else 0
 apply wpIn_loop (λa j=>∃C,F C/\fW g n (τ C) a/\bj g (M C) j) Z ⟨W,az,aE.sub aI,aF.mono aB⟩;rintro a j ⟨C,av,aJ,aL⟩;have aD:∃D,O a j D/\∀E,O a j E->D<=E:=De ⟨J C,C,av,aJ,aL,rfl⟩;let⟨⟨y,ax,aK,aM,aP⟩,_⟩:=xX aD;have aO:Z a j=J y:=by
  grind
 have aQ:=h y ax a j aK aM;have aA:c.wpIn (lE g.ie) 0 P (Exit.then (λa j=>∃I,F I/\J I<J y/\fW g n (τ I) a/\bj g (M I) j) (gf g.ie P B K)) a j:=by rw[Mo];trivial
 apply oA (λar R U q=>?_) aA;cases ar with
 |normal=>
  let⟨I,ah,aR,ap,aq⟩:=q;refine⟨⟨I,ah,ap,aq⟩,?_⟩;have am:O R U _:=⟨I,ah,ap,aq,rfl⟩;have ai:=De ⟨_,am⟩;have:Z R U<=J I:=by
   show(if Y:∃D,O R U D/\∀E,O R U E->D<=E then tI Y else 0)<=_;rw[dif_pos ai];exact(xX ai).2 _ am
  omega
 | _=>exact q
def cC{ι:Type}{τ:ι->cU}{M:ι->List aG}{F:ι->Prop}(y)(C:F y)(I:uf H (τ y))(j:aS L (M y)):
  G P B g n (.inv (λa J=>∃y,F y/\fW g n (τ y) a/\bj g (M y) J)::K) H L:=λ_ _ D E=>⟨y,C,D.sub I,E.mono j⟩
def b7{ι:Type}{τ:ι->cU}{M:ι->List aG}{F:ι->Prop}{C:ι->Nat}{j}(y)(E:F y)(I:C y<j)(R:uf H (τ y))(D:aS L (M y)):
  G P B g n (.inv (λa U=>∃y,F y/\C y<j/\fW g n (τ y) a/\bj g (M y) U)::K) H L:=λ_ _ J O=>⟨y,E,I,J.sub R,O.mono D⟩
def ef{ι:Type}(τ:ι->cU)(M:ι->List aG)(F:ι->Prop){c}
  (h1:G P B g n (.code c:: .inv (λa j=>∃y,F y/\fW g n (τ y) a/\bj g (M y) j)::K) H L) (ae:∀y,F y->G P B g n K (τ y) (M y)):G P B g n (.code c::K) H L:=λa j O R=>by
 have Z:=h1 a j O R;have J:c.wpIn (lE g.ie) 0 P (Exit.then (λa j=>∃C,F C/\fW g n (τ C) a/\bj g (M C) j) (gf g.ie P B K)) a j:=by rw[Mo];trivial
 apply oA (λE D W q=>?_) J;cases E with
 |normal=>obtain⟨C,I,U,Y⟩:=q;exact ae C I D W U Y
 | _=>exact q
def du(P:bk)(B:jK->fh->dd->Prop)(g:d1)(n:Nat)(C:Array cI)(l:List cI)(K:List fj)(H:cU)(L:Q):Prop:=
 ∀a j,fW g n H a->bj g L j->wpListIn (lE g.ie) 0 P C (gf g.ie P B K) l a j
def jP{id l}(h:du P B g n l.toArray l K H L):G P B g n (.code (.region id l.toArray al)::K) H L:=λa D j C=>
 wpIn_region_lit (h a D j C)
variable{az:Array cI}{l:List cI}
def cc(h:G P B g n K H L):du P B g n az [] K H L:=λa D j C=>h a D j C
def eM(H:cU):Option Nat->a2->cU
 |none,_=>H
 |some j,v=>(j,v)::H
def eb(n:Nat):Option Nat->Bool
 |none=>ag
 |some j=>eY j n
def fW.lJ{a}(h:fW g n H a){j}(v)(C:eb n j=ag):fW g n (eM H j v) (a.put j v):=by
 cases j with
 |none=>exact h
 |some D=>exact h.put v C
def st{o D}(O:o.guard=af)(I:eb n o.dst=ag)(J:b6 P g L H o D)
  (h:∀v j,D v j->du P B g n az l K (eM H o.dst v) j):du P B g n az (o::l) K H L:=λa Z C U=>by
 apply wpListIn_plain O λY E=>?_;exact J.w2 C.e U λv ah j R W=>E _ _ (h v j R _ _ (C.lJ v I) W)
def Fj{o v}(I:o.guard=af)(D:eb n o.dst=ag)(E:bh P L H o v)
  (h:du P B g n az l K (eM H o.dst v) L):du P B g n az (o::l) K H L:=
 st I D E.sR λO J ⟨j,C⟩=>by subst j C;exact h
theorem vo{a:fh}(I:fP H a){C j:Nat}{b:Bool}(E:(az[C]?).bind (·.dst)=ab j)(D:H.get j=ab (.bool b)):yielded az a.tmps C=ab b:=by
 have:=I j _ D;simp[yielded,E,this]
def h4{C:Option Nat}{R:Op}{W:bq}{U:String}{E:Array Edge}{O I:Nat}{j b:Bool}(ap:(az[O]?).bind (·.dst)=ab I)(ai:H.get I=ab (.bool b))(am:eb n C=ag)
  (h1:b=j->du P B g n az (⟨C,R,W,U,E,af⟩::l) K H L) (ae:b=!j->du P B g n az l K (eM H C undef) L):
  du P B g n az (⟨C,R,W,U,E,ab (O,j)⟩::l) K H L:=λa Y D J=>by
 have aq:=vo D.e ap ai;unfold wpListIn;simp[i6,aq]
 by_cases Z:b=j
 .subst Z;have:=h1 p a Y D J;simp[if_true];trivial
 .have ah:b=!j:=by cases b<;>cases j<;>simp_all
  have:=ae ah _ Y (D.lJ _ am) J;rw[a8 bo];exact⟨λ_ _=>trivial,this⟩
def hC{j:Option Nat}{I:Op}{O:bq}{J:String}{C:Array Edge}{E D:Nat}{R b:Bool}(ah:(az[E]?).bind (·.dst)=ab D)(Y:H.get D=ab (.bool b))(Z:eb n j=ag)
  (W:b=R) (h1:du P B g n az (⟨j,I,O,J,C,af⟩::l) K H L):du P B g n az (⟨j,I,O,J,C,ab (E,R)⟩::l) K H L:=
 h4 ah Y Z (λ_=>h1) (λU=>by subst W;cases b<;>cases U)
def ql{j:Option Nat}{Y:Op}{ah:bq}{Z:String}{I:Array Edge}{D C:Nat}{E b:Bool}(W:(az[D]?).bind (·.dst)=ab C)(R:H.get C=ab (.bool b))(U:eb n j=ag)
  (O:b=!E) (ae:du P B g n az l K (eM H j undef) L):du P B g n az (⟨j,Y,ah,Z,I,ab (D,E)⟩::l) K H L:=
 h4 W R U (λJ=>by subst J;cases b<;>cases O) (λ_=>ae)
theorem Kh{a:fh}(I:fP H a){C j:Nat}(E:(az[C]?).bind (·.dst)=ab j)(D:H.get j=ab undef):yielded az a.tmps C=af:=by
 have:=I j _ D;simp[yielded,E,this,undef]
def VD{j:Option Nat}{Y:Op}{ah:bq}{Z:String}{I:Array Edge}{E C:Nat}{am:Bool}(R:(az[E]?).bind (·.dst)=ab C)(J:H.get C=ab undef)(O:eb n j=ag)
  (ae:du P B g n az l K (eM H j undef) L):du P B g n az (⟨j,Y,ah,Z,I,ab (E,am)⟩::l) K H L:=λa ai D U=>by
 have W:=Kh D.e R J;have:=ae _ ai (D.lJ _ O) U;unfold wpListIn;rw[a8 (by simp[i6,W])];exact⟨λ_ _=>trivial,this⟩
def tp(az:Array cI)(C:Nat):List Nat:=
 match az[C]? with
 |none=>[]
 |some o=>o.after.toList.filterMap λj=>if qg .any j then ab j.on else af
def Au(az:Array cI):Nat->List Nat->List Nat
 |0,F=>F
 |k+1,F=>Au az k ((F++F.flatMap (tp az)).eraseDups)
def md(o:cI):Bool:=match o.op with
 | .move _| .assign _| .pick _ _ _| .nilCheck _| .binOp _ _ _ _ _| .unOp _ _ _| .convert _ _ _| .makeFunc _ _ _| .fieldAddr _ _ _| .field _ _ _| .extract _ _| .build _ _| .indexAddr _ _ _| .index _ _ _=>ag
 | _=>al
def xn(az:Array cI)(j:Nat):Bool:=match az[j]? with
 |some o=>md o
 |none=>al
def od(az:Array cI)(C:Nat):Bool:=
 let r:=Au az 8 (tp az C)
 (gZ az.size).all λj=>aH j C||r.contains j||(Au az 8 (tp az j)).contains C||xn az j
def ra(az:Array cI)(C:Array Bool):Prop:=∀j,C.getD j al=ag->∀D∈tp az j,C.getD D al=ag
theorem Th{D}(E:ra az D):∀(k)(F),(∀C∈F,D.getD C al=ag)->∀C∈Au az k F,D.getD C al=ag
 |0,_,h=>h
 |k+1,F,h=>Th E k _ λC j=>by
  rw[List.mem_eraseDups,b9,kz]at j;rcases j with j|⟨I,J,j⟩
  .simp_all
  .exact E I (h I J) C j
theorem Ss{D j}(h:j∈jL .any az D):∀C∈tp az j,D.getD C al=ag:=by
 let⟨_,o,J,I⟩:=mem_ready.1 h;intro C E;simp[tp,List.mem_filterMap]at E;grind
theorem ra.step{C}(R:ra az C){j}(h:j∈jL .any az C):ra az (C.setIfInBounds j ag):=by
 intro J D O I
 by_cases E:j=J
 .subst E;exact getD_set_true (Ss h O I)
 .rw[getD_set_ne _ E]at D;exact getD_set_true (R J D O I)
def ab9{j}(W:ra az j){D C}(h:D∈jL .any az j)(O:C∈jL .any az j)(J:od az D=ag)(Y:C<az.size)(Z:C≠D):xn az C=ag:=by
 simp[od,List.contains_iff_mem]at J;have ah:∀{E:Nat},E∈jL .any az j->j.getD E al=ag->False:=λ{E} I R=>by
  have U:=(mem_ready.1 I).1;grind
 grind[cy,Th,Ss]
def oy(P:bk)(az:Array cI)(C:jK->fh->dd->Prop):(dd->Prop)->Nat->Array Bool->fh->dd->Prop
 | _,0,j,a,E=>jL .any az j=[]/\C .normal a E
 |S,R+1,j,a,E=>
  (jL .any az j=[]->C .normal a E)/\
  ∀D∈jL .any az j,wpOp P az C D (λO I=>(od az D=ag/\∃J:dd->Prop,J I/\oy P az C J R (j.setIfInBounds D ag) O I)\/(S I/\oy P az C S R (j.setIfInBounds D ag) O I)) a E
section
variable{eA:jK->fh->dd->Prop}{S hn:dd->Prop}
def AQ:∀(C)(S)(E)(a)(I),oy P az eA S C E a I->wpAny P .any az eA C E a I
 |0,_,_,_,_,h=>h
 |C+1,S,_,_,_,h=>⟨h.1,λU R=>wpOp_mono (λD J j=>by
  rcases j with ⟨_,O,_,j⟩|⟨_,j⟩
  .exact AQ _ O _ D J j
  .exact AQ _ S _ D J j) (h.2 U R)⟩
def EC(E:∀j,hn j->S j):∀(C)(I)(a)(j),oy P az eA hn C I a j->oy P az eA S C I a j
 |0,_,_,_,h=>h
 |C+1,_,_,_,h=>⟨h.1,λR O=>wpOp_mono (λJ U D=>by
  rcases D with D|⟨h1,ae⟩
  .simp_all
  .exact .inr ⟨E _ h1,EC E _ _ J U ae⟩) (h.2 R O)⟩
def EB{D R v}(aq:az[D]?=ab R)(aP:∀(j:Nat)(o) Z b,az[j]?=ab o->o.op≠ .select Z b)
  (aV:∀c a C,eA (.panic c) (a.put R.dst v) C->eA (.panic c) a C) (ax) (a8:xn az D=ag->∀C,ax C):
  ∀(ah) (S) (J) (a) (C),(∀C,S C->ax C)->ra az J->
   (∀j U,az[j]?=ab U->j≠D->J.getD j ag=al->(∀E∈U.after,qg .any E=ag->E.on≠D)->R.apart az U=ag)->
   D∈jL .any az J->YieldsIf P az ax R v a->S C->
   oy P az eA S ah (J.setIfInBounds D ag) (a.put R.dst v) C->oy P az eA S (ah+1) J a C:=by
 intro ah
 induction ah with
 |zero=>
  intro S J a C ap _ _ ar av ai Y;refine⟨λh=>bo,λj O=>?_⟩
  by_cases I:j=D
  .subst I;exact av.wpOp aq (ap _ ai) (.inr ⟨ai,Y⟩)
  .have:=ready_mono O I;rw[Y.1]at this;trivial
 |succ ah aR=>
  intro S J a C ap aB aK ar av ai Y;refine⟨λh=>bo,λj O=>?_⟩
  by_cases I:j=D
  .subst I;exact av.wpOp aq (ap _ ai) (.inr ⟨ai,Y⟩)
  .have h1:=Y.2 j (ready_mono O I);let⟨a0,U,aD,aW⟩:=mem_ready.1 O;have bb:∀E∈U.after,qg .any E=ag->E.on≠D:=λE aY aX be=>by
    have h1:=aW E aY aX;have bc:=(mem_ready.1 ar).1;grind
   have ae:=wpOp_putIf aD (aK j U aD I a0 bb) (λZ b=>aP D R Z b aq) (λZ b=>aP j U Z b aD) aV av h1;have aL:∀W am,az[W]?=ab am->W≠D->(J.setIfInBounds j ag).getD W ag=al->
     (∀E∈am.after,qg .any E=ag->E.on≠D)->R.apart az am=ag:=λW am a3 a4 aQ a9=>by
    apply aK W am a3 a4 _ a9
    by_cases aZ:j=W
    .simp_all
    .rw[getD_set_ne ag aZ]at aQ;exact aQ
   have aO:=ready_mono ar (Ne.symm I);apply wpOp_mono (λaF aS an=>?_) ae;let⟨aG,aT⟩:=an;rcases aT with ⟨aM,aE,aJ,aA⟩|⟨aI,aA⟩
   .have a7:=a8 (ab9 aB O ar aM (vq.1 aq).1 (Ne.symm I));refine .inl ⟨aM,aE,aJ,aR aE (J.setIfInBounds j ag) aF aS (λC _=>a7 C) (aB.step O) aL aO aG aJ ?_⟩;rw[Kn _ _ I];exact aA
   .refine .inr ⟨aI,aR S (J.setIfInBounds j ag) aF aS ap (aB.step O) aL aO aG aI ?_⟩;rw[Kn _ _ I];exact aA
end
inductive iM where
 |nil
 |q (j:Nat) (s:iM)
 |e (j:Nat) (s:iM)
 |iw (j:Nat) (s:iM) (C:Nat) (D:iM)
 |Nx (j:Nat) (s:iM) (C:Nat) (D:iM) (E:Nat) (I:iM)
def iM.len:iM->Nat
 | .nil=>0
 | .q _ s| .e _ s| .iw _ s _ _| .Nx _ s _ _ _ _=>s.len+1
def jj(az:Array cI):iM->Array Bool->Bool
 | .nil,j=>(jL .any az j).isEmpty
 | .q C s,j=>(jL .any az j).contains C&&Region.free .any az j C&&jj az s (j.setIfInBounds C ag)
 | .e C s,j=>(jL .any az j)==[C]&&jj az s (j.setIfInBounds C ag)
 | .iw C s D E,j=>(jL .any az j)==[C,D]&&aH s.len E.len&&jj az s (j.setIfInBounds C ag)&&jj az E (j.setIfInBounds D ag)
 | .Nx C s D E I J,j=>(jL .any az j)==[C,D,I]&&aH s.len E.len&&aH s.len J.len&&jj az s (j.setIfInBounds C ag)&&jj az E (j.setIfInBounds D ag)&&jj az J (j.setIfInBounds I ag)
def dv(P:bk)(B:jK->fh->dd->Prop)(g:d1)(n:Nat)(az:List cI)(S:Q)(s:iM)(K:List fj)(H:cU)(L:Q):Prop:=
 ∀D,x7 az.toArray=ag->ra az.toArray D->jj az.toArray s D=ag->(aS L S)->∀a j,fW g n H a->bj g L j->
  oy P az.toArray (gf g.ie P B K) (λj=>C S j.hm) s.len D a j
def oh(j:jK->fh->dd->Prop):Prop:=∀c a C,¬j (.panic c) a C
def pu{id l}(s)(O:P.follows .mixedOrders=ag)(j:(nr l&&(x7 l.toArray&&aH s.len (aa l)&&jj l.toArray s (oz (aa l) al)))=ag)
  (h:dv P B g n l L s K H L):G P B g n (.code (.region id l.toArray ag)::K) H L:=λa D R U=>by
 simp[co]at j;let⟨J,⟨h1,ae⟩,an⟩:=j;apply wpIn_region_any O (ED J Mn _ _ _ _<|AQ (S:=λD=>C L D.hm) _ _ _ _ _);have E:l.toArray.size=s.len:=bo;rw[E];apply h _ h1 (λW Y=>?_) bo (λ_ h=>h) a _ R U.drew;exfalso;rcases dZ W s.len with I|I
 .simp_all
 simp_all
def sZ:List aG->Nat->List aG
 | [],_=>[]
 | _::L,0=>L
 |A::L,j+1=>A::sZ L j
def C.sZ:∀{L:Q}(j:Nat){h:j5},C L h->C (sZ L j) h
 | [],_,_,s=>s
 | _:: _,0,_,s=>s.tail
 | _:: _,j+1,_,s=>s.bl λ_ s=>C.sZ j s
def Md{id l}(S:Q)(s)(O:aS L S)(R:P.follows .mixedOrders=ag)(j:(nr l&&(x7 l.toArray&&aH s.len (aa l)&&jj l.toArray s (oz (aa l) al)))=ag)
  (h:dv P B g n l S s K H L):G P B g n (.code (.region id l.toArray ag)::K) H L:=λa D U W=>by
 simp[co]at j;let⟨J,⟨h1,ae⟩,an⟩:=j;apply wpIn_region_any R (ED J Mn _ _ _ _<|AQ (S:=λD=>C S D.hm) _ _ _ _ _);have E:l.toArray.size=s.len:=bo;rw[E];apply h _ h1 (λY Z=>?_) bo O a _ U W.drew;exfalso;rcases dZ Y s.len with I|I
 .simp_all
 simp_all
def VJ{id l}(j s)(D:P.follows .mixedOrders=ag)(C:(nr l&&(x7 l.toArray&&aH s.len (aa l)&&jj l.toArray s (oz (aa l) al)))=ag)
  (h:dv P B g n l (sZ L j) s K H L):G P B g n (.code (.region id l.toArray ag)::K) H L:=Md _ s (λ_ s=>s.sZ j) D C h
variable{S:Q}{s t:iM}{lo:List cI}
def jR(h:G P B g n K H L):dv P B g n lo S .nil K H L:=λI _ _ j _ a E C D=>
 ⟨by simpa[jj]using j,h a E C D⟩
def Bu(C:oh B):∀K,oh (gf g.ie P B K)
 | []=>C
 | .code _::K=>λc a j=>Bu C K c a j
 | .ah _::K=>λc a j=>Bu C K c a j
 | .inv _::K=>λc a j=>Bu C K c a j
def oL{D:Prop}(E:∀h,C L h->D)(h:D->G P B g n K H L):G P B g n K H L:=λa J I j=>h (E _ j.s) a J I j
def v0{D o v}{E:Q}(ap:aS S E)(av:md o=ag->E=[])(ai:oh B)(aE:lo[D]?=ab o)(aq:eb n o.dst=ag)(aA:∀a,fW g n H a->YieldsIf P lo.toArray (λj=>C E j.hm) o v a)
  (h:dv P B g n lo S s K (eM H o.dst v) L):dv P B g n lo S (.q D s) K H L:=λaB h1 J ae I a j U W=>by
 simp[jj,co]at ae;let⟨⟨an,Z⟩,ah⟩:=ae;have O:lo.toArray[D]?=ab o:=bo;have R:D∈jL .any lo.toArray aB:=bo;have am:∀c a j,gf g.ie P B K _ (a.put o.dst v) j->gf g.ie P B K (.panic c) a j:=λc a j ax=>absurd ax (Bu ai K c _ j);have ar:=h _ h1 (J.step R) ah I _ j (U.lJ v aq) W;apply EB O (Region.noSelect_spec h1) am _ (λaD j=>?_) _ _ _ a j (λj h=>ap _ h) J (Region.free_spec O Z) R (aA a U) (I _ W.s) ar;have Y:md o=ag:=by
  simp_all[xn]
 rw[av Y];trivial
def qq{j o v}(C:oh B)(J:lo[j]?=ab o)(Y:md o=al)(I:o.guard=af)(D:eb n o.dst=ag)(E:bh P S H o v)
  (h:dv P B g n lo S s K (eM H o.dst v) L):dv P B g n lo S (.q j s) K H L:=
 v0 (E:=S) (λ_ h=>h) (λW=>by simp_all) C J D (λa O=> .inl ⟨by simp[i6,I],λU R=>E a U O.e R⟩) h
def mC{j o v}(C:oh B)(J:lo[j]?=ab o)(_hm:md o=ag)(I:o.guard=af)(D:eb n o.dst=ag)(E:bh P [] H o v)
  (h:dv P B g n lo S s K (eM H o.dst v) L):dv P B g n lo S (.q j s) K H L:=
 v0 (E:=[]) (λ_ _=>trivial) (λ_=>rfl) C J D (λa O=> .inl ⟨by simp[i6,I],λU R=>E a U O.e R⟩) h
def j6{I J D:Nat}{o:cI}{v:a2}{b:Bool}(O:oh B)(Y:lo[I]?=ab o)(ap:md o=al)(W:o.guard=ab (J,b))(Z:(lo[J]?).bind (·.dst)=ab D)(C:∃j,H.get D=ab (.bool j)/\j=b)(R:eb n o.dst=ag)(U:bh P S H o v)
  (h:dv P B g n lo S s K (eM H o.dst v) L):dv P B g n lo S (.q I s) K H L:=by
 obtain⟨j,C,rfl⟩:=C;exact v0 (λ_ h=>h) (λam=>by simp_all) O Y R (λa E=> .inl ⟨by simp[i6,W,vo (az:=lo.toArray) E.e (by simpa using Z) C],λai ah=>U a ai E.e ah⟩) h
def f3{I J D:Nat}{o:cI}{v:a2}{b:Bool}(O:oh B)(Y:lo[I]?=ab o)(_hm:md o=ag)(W:o.guard=ab (J,b))(Z:(lo[J]?).bind (·.dst)=ab D)(C:∃j,H.get D=ab (.bool j)/\j=b)(R:eb n o.dst=ag)(U:bh P [] H o v)
  (h:dv P B g n lo S s K (eM H o.dst v) L):dv P B g n lo S (.q I s) K H L:=by
 obtain⟨j,C,rfl⟩:=C;exact v0 (E:=[]) (λ_ _=>trivial) (λ_=>rfl) O Y R (λa E=> .inl ⟨by simp[i6,W,vo (az:=lo.toArray) E.e (by simpa using Z) C],λai ah=>U a ai E.e ah⟩) h
def sA{E I D:Nat}{o:cI}{b:Bool}(J:oh B)(U:lo[E]?=ab o)(R:o.guard=ab (I,b))(W:(lo[I]?).bind (·.dst)=ab D)(C:∃j,H.get D=ab (.bool j)/\j=!b)(O:eb n o.dst=ag)
  (h:dv P B g n lo S s K (eM H o.dst undef) L):dv P B g n lo S (.q E s) K H L:=by
 obtain⟨j,C,rfl⟩:=C;exact v0 (E:=[]) (λ_ _=>trivial) (λ_=>rfl) J U O (λa Y=> .inr ⟨by simp[i6,R,vo (az:=lo.toArray) Y.e (by simpa using W) C],rfl⟩) h
def WK{C D j:Nat}{o:cI}{b:Bool}(E:oh B)(R:lo[C]?=ab o)(O:o.guard=ab (D,b))(U:(lo[D]?).bind (·.dst)=ab j)(I:H.get j=ab undef)(J:eb n o.dst=ag)
  (h:dv P B g n lo S s K (eM H o.dst undef) L):dv P B g n lo S (.q C s) K H L:=
 v0 (E:=[]) (λ_ _=>trivial) (λ_=>rfl) E R J (λa W=> .inr ⟨by simp[i6,O,Kh (az:=lo.toArray) W.e (by simpa using U) I],rfl⟩) h
def qp(P:bk)(B:jK->fh->dd->Prop)(g:d1)(n:Nat)(az:List cI)(S:Q)(j:Nat)(s:iM)(K:List fj)(H:cU)(L:Q):Prop:=
 ∀D,x7 az.toArray=ag->ra az.toArray D->j∈jL .any az.toArray D->jj az.toArray s (D.setIfInBounds j ag)=ag->(aS L S)->∀a E,fW g n H a->bj g L E->
  wpOp P az.toArray (gf g.ie P B K) j (λO I=>(od az.toArray j=ag/\∃J:dd->Prop,J I/\oy P az.toArray (gf g.ie P B K) J s.len (D.setIfInBounds j ag) O I)\/(C S I.hm/\oy P az.toArray (gf g.ie P B K) (λE=>C S E.hm) s.len (D.setIfInBounds j ag) O I)) a E
def bF{C}(h:qp P B g n lo S C s K H L):dv P B g n lo S (.e C s) K H L:=λZ h1 I ae E a U O R=>by
 simp[jj,co,beq_iff_eq]at ae;let⟨an,D⟩:=ae;refine⟨λW=>bo,λY j=>?_⟩;have J:=j;rw[an,oF]at j;subst j;exact h _ h1 I J D E a U O R
def jt{O R}(h:qp P B g n lo S O s K H L)(W:qp P B g n lo S R t K H L):dv P B g n lo S (.iw O s R t) K H L:=λap h1 D ae C a U I J=>by
 simp[jj,co,beq_iff_eq]at ae;let⟨⟨⟨an,ai⟩,Y⟩,Z⟩:=ae;refine⟨λah=>bo,λam j=>?_⟩;have E:=j;rw[an,df,oF]at j;rcases j with rfl|rfl
 .exact h _ h1 D E Y C a U I J
 .have:=W _ h1 D E Z C a U I J;simp_all
def bW{E o U}(aA:lo[E]?=ab o)(am:o.guard=af)(ah:eb n o.dst=ag)(ai:b6 P g L H o U)
  (h:∀v j,U v j->∃C,(aS j C)/\(aS C S)/\dv P B g n lo C s K (eM H o.dst v) j):qp P B g n lo S E s K H L:=λaB h1 Z ar Y ax a W O D=>by
 have ap:lo.toArray[E]?=ab o:=bo;unfold wpOp;simp[ap,i6,am];refine .inl (ai a W O.e D _ _ λv aD j aq R=>?_);let⟨C,I,J,av⟩:=h v j aq;refine .inr ⟨J _ (I _ R.s),?_⟩;exact EC (λW D=>J _ D) _ _ _ _ (av _ h1 (Z.step ar) Y I _ _ (O.lJ v ah) R)
def FC{C b}(j)(_hd:H.get C=ab (.bool b))(h1:b=j->dv P B g n lo S s K H L)(ae:b=!j->dv P B g n lo S s K H L):dv P B g n lo S s K H L:=by
 cases b<;>cases j
 .exact h1 p
 .exact ae p
 .exact ae p
 .exact h1 p
def jQ{O Z R:Nat}{o:cI}{b:Bool}{ah:a2->List aG->Prop}(aI:lo[O]?=ab o)(av:o.guard=ab (Z,b))(aA:(lo[Z]?).bind (·.dst)=ab R)(E:∃D,H.get R=ab (.bool D)/\D=b)(aq:eb n o.dst=ag)(ar:b6 P g L H o ah)
  (h:∀v j,ah v j->∃C,(aS j C)/\(aS C S)/\dv P B g n lo C s K (eM H o.dst v) j):qp P B g n lo S O s K H L:=λaJ h1 ap aD am aF a ai I J=>by
 obtain⟨D,E,rfl⟩:=E;have ax:lo.toArray[O]?=ab o:=bo;unfold wpOp;simp[ax,i6,av,vo (az:=lo.toArray) I.e (by simpa using aA) E,beq_self_eq_true];refine .inl (ar a ai I.e J _ _ λv aK j aB Y=>?_);let⟨C,U,W,aE⟩:=h v j aB;refine .inr ⟨W _ (U _ Y.s),?_⟩;exact EC (λai J=>W _ J) _ _ _ _ (aE _ h1 (ap.step aD) am U _ _ (I.lJ v aq) Y)
def sz{D R E:Nat}{o:cI}{b:Bool}(aq:lo[D]?=ab o)(ah:o.guard=ab (R,b))(am:(lo[R]?).bind (·.dst)=ab E)(C:∃j,H.get E=ab (.bool j)/\j=!b)(Z:eb n o.dst=ag)
  (h:dv P B g n lo S s K (eM H o.dst undef) L):qp P B g n lo S D s K H L:=λar h1 Y ap W I a av J O=>by
 obtain⟨j,C,rfl⟩:=C;have ai:lo.toArray[D]?=ab o:=bo;unfold wpOp;simp only[ai,i6,ah,vo (az:=lo.toArray) J.e (by simpa using am) C];have U:(ab (!b)==ab b)=al:=ao;simp[U];exact .inr ⟨I _ O.s,h _ h1 (Y.step ap) W I _ _ (J.lJ _ Z) O⟩
def WF{j C D:Nat}{o:cI}{b:Bool}(ap:lo[j]?=ab o)(Z:o.guard=ab (C,b))(ai:(lo[C]?).bind (·.dst)=ab D)(U:H.get D=ab undef)(Y:eb n o.dst=ag)
  (h:dv P B g n lo S s K (eM H o.dst undef) L):qp P B g n lo S j s K H L:=λar h1 W am R E a av I J=>by
 have ah:lo.toArray[j]?=ab o:=bo;have aq:=Kh (az:=lo.toArray) I.e (by simpa using ai) U;have O:(yielded lo.toArray a.tmps C==ab b)=al:=bo;unfold wpOp;simp[ah,i6,Z,O];exact .inr ⟨E _ J.s,h _ h1 (W.step am) R E _ _ (I.lJ _ Y) J⟩
def hD{C o E}(W:od lo.toArray C=ag)(aq:lo[C]?=ab o)(R:o.guard=af)(J:eb n o.dst=ag)(O:b6 P g L H o E)
  (h:∀v j,E v j->G P B g n K (eM H o.dst v) j):qp P B g n lo S C .nil K H L:=λav h1 ap ar I am a ai D Z=>by
 have U:lo.toArray[C]?=ab o:=bo;unfold wpOp;simp[U,i6,R];exact .inl (O a ai D.e Z _ _ λv ax j Y ah=> .inl ⟨W,λ_=>True,trivial,by simpa[jj]using I,h v j Y _ _ (D.lJ v J) ah⟩)
def py{D o J}(ai:od lo.toArray D=ag)(av:lo[D]?=ab o)(Z:o.guard=af)(W:eb n o.dst=ag)(Y:b6 P g L H o J)
  (h:∀v j,J v j->dv P B g n lo j s K (eM H o.dst v) j):qp P B g n lo S D s K H L:=λax h1 U ap R ar a O E aq=>by
 have ah:lo.toArray[D]?=ab o:=bo;unfold wpOp;simp[ah,i6,Z];exact .inl (Y a O E.e aq _ _ λv aA j am I=> .inl ⟨ai,λO=>C j _,I.s,h v j am _ h1 (U.step ap) R cT _ _ (E.lJ v W) I⟩)
def BD{D U O:Nat}{o:cI}{b:Bool}{W:a2->List aG->Prop}(av:od lo.toArray D=ag)(aE:lo[D]?=ab o)(ap:o.guard=ab (U,b))(ar:(lo[U]?).bind (·.dst)=ab O)(I:∃E,H.get O=ab (.bool E)/\E=b)(ai:eb n o.dst=ag)(am:b6 P g L H o W)
  (h:∀v j,W v j->dv P B g n lo j s K (eM H o.dst v) j):qp P B g n lo S D s K H L:=λaF h1 ah aA Z aD a Y J aB=>by
 obtain⟨E,I,rfl⟩:=I;have aq:lo.toArray[D]?=ab o:=bo;unfold wpOp;simp[aq,i6,ap,vo (az:=lo.toArray) J.e (by simpa using ar) I,beq_self_eq_true];exact .inl (am a Y J.e aB _ _ λv aI j ax R=> .inl ⟨av,λY=>C j _,R.s,h v j ax _ h1 (ah.step aA) Z cT _ _ (J.lJ v ai) R⟩)
end
variable{fn:Func}{g:d1}{n:Nat}{K:List fj}{H:cU}{L:Q}
def nc(args:bz):Nat->cU
 |k=>match args with
  | []=>[]
  |v::l=>(k,v)::nc l (k+1)
def lK(P:bk)(fn:Func)(g:d1)(F:aG)(D:a2->List aG->Prop):jK->fh->dd->Prop
 | .normal,a,j| .ret,a,j=>a.defers=g.l3/\∃v,(results fn a.tmps).run P j=.ok v j/\∃C,D v C/\bj g (F::C) j
 | _,_,_=>False
def afP{P fn g F I}:∀C a E,lK P fn g.base F I C a E->bodyPost P fn (λC J=>∃v j,C=.returned v/\I v j/\bj g (F::j) J) C a E:=λC a E h=>by
 cases C with
 |normal=>obtain⟨h1,v,ae,j,an,D⟩:=h;exact⟨h1,v,ae,v,j,rfl,an,D.pg⟩
 |ret=>obtain⟨h1,v,ae,j,an,D⟩:=h;exact⟨h1,v,ae,v,j,rfl,an,D.pg⟩
 | _=>trivial
def k4{A}{L M:Q}(j:aS L M):aS (A::L) (A::M):=λ_ s=>s.bl j
def kG{A}{L M:Q}(j:aS L M):aS (A::L) M:=λ_ s=>j _ s.tail
def dm{F j}:oh (lK P fn g F j):=λ_ _ _ h=>h
def wc(args):∀(C j)(v),(nc args C).get j=ab v->∃D,j=C+D/\args[D]?=ab v:=by
 induction args with
 |nil=>intro C j v h;cases h
 |cons R l I=>
  intro C j v h;simp[nc,cU.get]at h;cases E:aH C j with
  |true=>simp_all
  |false=>
   rw[E]at h;obtain⟨D,J,O⟩:=I _ j v fs;exact⟨D+1,ad,by assumption⟩
def Vk{C c args D}(J:P.funcs[C]?=ab fn)(I:fn.body=ab c)(Z:fn.ntmps=n)(Y:da (aa args) n=ag)
  (h:∀g F,G P (lK P fn g F D) g n [.code c] (nc args 0) (F::L)):O P C args.toArray L D:=λg F E R=>by
 apply calls_of_wp J I;have ah:args.toArray.size<=fn.ntmps:=bo;have:=h _ F {tmps:=args.toArray++oz (fn.ntmps-args.toArray.size) undef,defers:=[]} E ⟨by simp_all,rfl,λU v j=>?_⟩ R.base
 .exact Code.wp_mono (λj a E h=>by cases j<;>first|exact afP _ _ _ h|exact h.elim) (wpIn_wide.1 this)
 .obtain⟨ai,rfl,W⟩:=wc _ 0 U v j;grind
inductive iq (P:Program) (H:cU) (L:Q):List ResultVar->List Value->Prop where
 |nil:iq P H L [] []
 |tmp {D:Nat} {v:Value} {j:List ResultVar} {E:bz} (h:H.get D=ab v) (r:iq P H L j E):iq P H L (.tmp D::j) (v::E)
 |cell {a:Nat} {D:TypeId} {J:Addr} {v:Value} {j:List ResultVar} {E:bz} (h:H.get a=ab (.pointer (ab J))) (O:∀I,C L I.hm->(loadVar D J).run P I=.ok v I) (r:iq P H L j E):iq P H L (.cell a D::j) (v::E)
def cs:List a2->a2
 | [v]=>v
 |j=> .tuple j.toArray
theorem iq.run{D:List ResultVar}{E:bz}(h:iq P H L D E){a:fh}{J:dd}(O:fP H a)(Z:C L J.hm):
  (D.mapM (m:=Sem) λ| .tmp j=>pure (a.tmps.getD j undef)| .cell c j=>do loadVar j (<- asAddr (a.tmps.getD c undef))).run P J=.ok E J:=by
 induction h with
 |nil=>rfl
 | @tmp j v D E h r U=>
  have R:a.tmps.getD j undef=v:=by rw[EF,O _ _ h,qj]
  simp_all
 | @cell c j I v D E h Y r U=>
  have R:a.tmps.getD c undef=.pointer (ab I):=by rw[EF,O _ _ h,qj]
  have W:asAddr (.pointer (ab I))=(pure I:Sem _):=rfl;simp_all
def ba{D}{j:bz}{C:Q}{F J}(Y:fn.results=D.toArray)(h:iq P H L D j)(U:aS L (F::C))(W:J (cs j) C):G P (lK P fn g F J) g n (.code .ret::K) H L:=λa O E I=>by
 refine wpIn_ret (vW ⟨E.defers,cs j,?_,C,W,I.mono U⟩);unfold results;rw[Y];simp only[yh,cM,x8];have ah:=h.run E.e I.s;generalize ai:yg (m:=Sem) _ D=Z;have R:Z.run P O=.ok j O:=bv;rw[R];cases j with
 |nil=>rfl
 |cons v l=>cases l<;>simp[cs]
def mf(P:bk)(j:bq):Bool:=
 match P.underlying j,P.info? j with
 |some (.struct _),_=>al
 |some (.array _ _),_=>al
 |some _,ab C=>aH C.size 1
 | _,_=>al
def pD(P:bk)(C:bq)(n:Nat):Bool:=
 match P.underlying C,P.info? C with
 |some (.struct _),ab j=>aH j.size n
 |some (.array _ _),ab j=>aH j.size n
 | _,_=>al
class dh (P:bk) (j:bq):Prop where
 h:mf P j=ag:=by kernel_rfl
class hM (P:bk) (j:bq) (n:outParam Nat):Prop where
 h:pD P j n=ag:=by kernel_rfl
class cG (P:bk) (j:bq) (C:outParam (List a2)):Prop where
 h:((P.info? j).bind (·.zero)).map (·.cells.toList)=ab C:=by kernel_rfl
def fieldsOf(P:bk)(C:bq):Option (List (Nat×Nat)):=
 match P.underlying C with
 |some (.struct D)=>D.toList.mapM λj=>(P.info? j.type).map λE=>(j.offset,E.size)
 | _=>af
class FI (P:bk) (j:bq) (C:outParam (List (Nat×Nat))):Prop where
 h:fieldsOf P j=ab C:=by kernel_rfl
def wU(P:bk)(D:bq)(E:Nat):Option (Nat×Nat×Bool):=
 match P.underlying D with
 |some (.struct I)=>match I[E]? with
  |some j=>if mf P j.type then ab (j.offset,1,al)else(P.info? j.type).bind λC=>if pD P j.type C.size then ab (j.offset,C.size,ag)else af
  |none=>af
 | _=>af
class kW (P:bk) (j:bq) (C:Nat) (r:outParam (Nat×Nat×Bool)):Prop where
 h:wU P j C=ab r:=by kernel_rfl
def JH(P:bk)(D:bq):Option (bq×Nat×Nat):=
 match P.underlying D with
 |some (.slice j)=>(P.info? j).map λC=>(j,C.size,C.bytes)
 | _=>af
class eu (P:bk) (j:bq) (r:outParam (bq×Nat×Nat)):Prop where
 h:JH P j=ab r:=by kernel_rfl
def FQ(P:bk)(C:bq):Option (Nat×bq×Nat):=
 match P.underlying C with
 |some (.array n j)=>(P.info? j).map λD=>(n,j,D.size)
 | _=>af
class mZ (P:bk) (j:bq) (r:outParam (Nat×bq×Nat)):Prop where
 h:FQ P j=ab r:=by kernel_rfl
def B2(P:bk)(j:dc):Bool:=
 match P.funcs[j]? with
 |some fn=>fn.body.isSome&&!(fn.name== "runtime.NumGoroutine")
 |none=>al
class cu (P:bk) (j:dc):Prop where
 h:B2 P j=ag
theorem dh.run{T}(h:dh P T)(j):(isAgg T).run P j=.ok al j/\(sizeOf T).run P j=.ok 1 j:=by
 have h:=h.h;unfold mf at h;cases D:P.underlying T with
 |none=>simp_all
 |some E=>
  cases C:P.info? T with
  |none=>grind
  |some J=>
   rw[D,C]at h;have I:(sizeOf T).run P j=.ok J.size j:=by simp[sizeOf,typeInfo,C]
   cases E<;>first|(cases h;done)|exact⟨by simp[isAgg,run_underlying D],by rw[I,cy h]⟩
theorem hM.run{T n}(h:hM P T n)(j):(isAgg T).run P j=.ok ag j/\(sizeOf T).run P j=.ok n j:=by
 have h:=h.h;unfold pD at h;cases D:P.underlying T with
 |none=>simp_all
 |some E=>
  cases C:P.info? T with
  |none=>simp_all
  |some I=>
   rw[D,C]at h;have J:(sizeOf T).run P j=.ok I.size j:=by simp[sizeOf,typeInfo,C]
   cases E<;>first|(cases h;done)|exact⟨by simp[isAgg,run_underlying D],by simp_all⟩
theorem cG.run{T}{E:bz}(h:cG P T E)(D):∃v,(zeroValue T).run P D=.ok v D/\v.cells=E.toArray:=by
 have h:=h.h;cases j:P.info? T with
 |none=>simp_all
 |some I=>
  cases C:I.zero with
  |none=>simp_all
  |some v=>rw[j]at h;simp[C]at h;exact⟨v,by simp[zeroValue,typeInfo,j,C],by grind⟩
def eu.spec{C D s b}(h:eu P C (D,s,b)):P.underlying C=ab (.slice D)/\∃j,P.info? D=ab j/\j.size=s/\j.bytes=b:=by
 have h:=h.h;unfold JH at h;cases J:P.underlying C with
 |none=>simp_all
 |some E=>
  rw[J]at h;cases E<;>first|(cases h;done)|skip
  rename_i I
  cases O:P.info? I with
  |none=>simp_all
  |some j=>simp_all
def mZ.spec{j C n s}(h:mZ P j (n,C,s)):P.underlying j=ab (.array n C)/\∃D,P.info? C=ab D/\D.size=s:=by
 have h:=h.h;unfold FQ at h;cases J:P.underlying j with
 |none=>simp_all
 |some E=>
  rw[J]at h;cases E<;>first|(cases h;done)|skip
  rename_i R I
  cases O:P.info? I with
  |none=>simp_all
  |some D=>simp_all
theorem cu.run{f}(h:cu P f)(args C):(callFunc f args).run P C=.ok (.enter f args) C:=by
 have h:=h.h;unfold B2 at h;cases j:P.funcs[f]? with
 |none=>simp_all
 |some fn=>
  rw[j]at h;simp[co]at h;let⟨h1,ae⟩:=h;cases D:fn.body with
  |none=>simp_all
  |some c=>simp[callFunc,j,by simpa using ae,D]
variable{d:Option Nat}{aO T ci:bq}{pos:String}{aT:Array Edge}{a7:Option (Nat×Bool)}{x y z:cJ}{v u:a2}
def l5(h:aX H x=ab v):bh P L H ⟨d,.move x,aO,pos,aT,a7⟩ v:=λa C j _=>by
 show Result.ok _ C= _;rw[j.eval h]
def ON(h:aX H x=ab v):bh P L H ⟨d,.assign x,aO,pos,aT,a7⟩ v:=λa C j _=>by
 show Result.ok _ C= _;rw[j.eval h]
def kF(D j E q r)(J:aX H x=ab (.int j E))(O:aX H y=ab (.int j q))(U:∀C,(binOp D T (.int j E) (.int j q)).run P C=.ok r C):
  bh P L H ⟨d,.binOp D T x y ci,aO,pos,aT,a7⟩ r:=λa C I _=>by
 simp[execOp,I.eval J,I.eval O];have R:(eqGuard D T x y (.int j E) (.int j q)).run P C=.ok () C:=by
  unfold eqGuard;simp
 simp_all
def GD{C q}(E:aX H x=ab (j C))(I:aX H y=ab (j q))(D: -9223372036854775808<=C+q/\C+q<=9223372036854775807):bh P L H ⟨d,.binOp .add T x y ci,aO,pos,aT,a7⟩ (j (C+q)):=
 kF _ _ C q _ E I λJ=>by simp[binOp,tJ,oD _ D]
def zr{C q}(E:aX H x=ab (j C))(I:aX H y=ab (j q))(D: -9223372036854775808<=C-q/\C-q<=9223372036854775807):bh P L H ⟨d,.binOp .sub T x y ci,aO,pos,aT,a7⟩ (j (C-q)):=
 kF _ _ C q _ E I λJ=>by simp[binOp,tJ,oD _ D]
def OW{C q}(E:aX H x=ab (j C))(I:aX H y=ab (j q))(D: -9223372036854775808<=C*q/\C*q<=9223372036854775807):bh P L H ⟨d,.binOp .mul T x y ci,aO,pos,aT,a7⟩ (j (C*q)):=
 kF _ _ C q _ E I λJ=>by simp[binOp,tJ,oD _ D]
def pP{C q:Nat}(D:aX H x=ab (j (C:Int)))(E:aX H y=ab (j (q:Int)))(I:C+q<=9223372036854775807):bh P L H ⟨d,.binOp .add T x y ci,aO,pos,aT,a7⟩ (j ((C+q:Nat):Int)):=by rw[Int.natCast_add];exact GD D E ad
def wR{C q:Nat}(E:aX H x=ab (j (C:Int)))(I:aX H y=ab (j (q:Int)))(D:q<=C/\C<=9223372036854775807):bh P L H ⟨d,.binOp .sub T x y ci,aO,pos,aT,a7⟩ (j ((C-q:Nat):Int)):=by rw[Int.natCast_sub D.1];exact zr E I ad
def jC{C q}(I:aX H x=ab (j C))(J:aX H y=ab (j q))(D:0<=C)(E:0<q)(O:C<=9223372036854775807):bh P L H ⟨d,.binOp .quo T x y ci,aO,pos,aT,a7⟩ (j (C/q)):=
 kF _ _ C q _ I J λR=>by
  have h1:C.tdiv q=C/q:=Int.tdiv_eq_ediv_of_nonneg D;have ae:=Int.ediv_nonneg D (Int.le_of_lt E);have an:=Int.ediv_le_self q D;simp[binOp,Op.intDiv,show q≠0 by omega,h1,oD (C/q) ad]
def l6{C q:Nat}(D:aX H x=ab (j (C:Int)))(E:aX H y=ab (j (q:Int)))(J:0<q)(I:C<=9223372036854775807):bh P L H ⟨d,.binOp .quo T x y ci,aO,pos,aT,a7⟩ (j ((C/q:Nat):Int)):=by rw[Int.natCast_ediv];exact jC D E ao ad ad
def rB{C}{j q:Nat}(D:aX H x=ab (.int C (j:Int)))(E:aX H y=ab (.int C (q:Int))):bh P L H ⟨d,.binOp .lss T x y ci,aO,pos,aT,a7⟩ (.bool (decide (j<q))):=
 kF _ _ j q _ D E λI=>by simp[binOp,lP]
def rA{C j q}(D:aX H x=ab (.int C j))(E:aX H y=ab (.int C q)):bh P L H ⟨d,.binOp .lss T x y ci,aO,pos,aT,a7⟩ (.bool (decide (j<q))):=
 kF _ _ j q _ D E λI=>by simp[binOp,lP]
def ZV{C j q}(D:aX H x=ab (.int C j))(E:aX H y=ab (.int C q)):bh P L H ⟨d,.binOp .leq T x y ci,aO,pos,aT,a7⟩ (.bool (decide (j<=q))):=
 kF _ _ j q _ D E λI=>by simp[binOp,lP]
def ZU{C j q}(D:aX H x=ab (.int C j))(E:aX H y=ab (.int C q)):bh P L H ⟨d,.binOp .gtr T x y ci,aO,pos,aT,a7⟩ (.bool (decide (q<j))):=
 kF _ _ j q _ D E λI=>by simp[binOp,lP]
def CA{C j q}(D:aX H x=ab (.int C j))(E:aX H y=ab (.int C q)):bh P L H ⟨d,.binOp .geq T x y ci,aO,pos,aT,a7⟩ (.bool (decide (q<=j))):=
 kF _ _ j q _ D E λI=>by simp[binOp,lP]
def ZN{C j q}(D:aX H x=ab (.int C j))(E:aX H y=ab (.int C q)):bh P L H ⟨d,.binOp .eql T x y ci,aO,pos,aT,a7⟩ (.bool (decide (j=q))):=
 kF _ _ j q _ D E λI=>by
  have:(j==q)=decide (j=q):=by rfl
  simp[binOp,lP,this]
def ZY{C j q}(D:aX H x=ab (.int C j))(E:aX H y=ab (.int C q)):bh P L H ⟨d,.binOp .neq T x y ci,aO,pos,aT,a7⟩ (.bool (decide (j≠q))):=
 kF _ _ j q _ D E λI=>by
  have:(j !=q)=decide (j≠q):=bv;simp[binOp,lP,this]
def jU(C u v r)(J:∀j,(eqGuard C T x y u v).run P j=.ok () j)(E:aX H x=ab u)(I:aX H y=ab v)(O:∀j,(binOp C T u v).run P j=.ok r j):
  bh P L H ⟨d,.binOp C T x y ci,aO,pos,aT,a7⟩ r:=λa j D _=>by
 simp[execOp,D.eval E,D.eval I];simp_all
def Cy(C)(D q:a3)(j):(eqGuard C T x y (.pointer D) (.pointer q)).run P j=.ok () j:=by
 unfold eqGuard;simp
def IM(P:bk)(T:bq):Bool:=match P.underlying T with
 |some (.pointer _)=>ag
 | _=>al
class fN (P:bk) (T:bq):Prop where
 h:IM P T=ag:=by kernel_rfl
def fN.spec(j:fN P T):∃C,P.underlying T=ab (.pointer C):=by
 have h:=j.h;unfold IM at h;grind
theorem Cz(D:fN P T)(j:a3)(C):(eo T (.pointer j) (.pointer af)).run P C=.ok j.isNone C:=by
 let⟨I,E⟩:=D.spec;unfold eo;rw[show nK=9999+1 from rfl];unfold lO;cases j<;>simp[cM,run_underlying E]<;>rfl
def ZR{j:a3}[I:fN P T](C:aX H x=ab (.pointer j))(D:aX H y=ab (.pointer af)):bh P L H ⟨d,.binOp .eql T x y ci,aO,pos,aT,a7⟩ (.bool j.isNone):=
 jU _ _ _ _ (Cy _ _ _) C D λE=>by
  show((do pure (.bool (<- eo T _ _)):Sem a2)).run P E= _;simp[Cz]
def Z0{j:a3}[I:fN P T](C:aX H x=ab (.pointer j))(D:aX H y=ab (.pointer af)):bh P L H ⟨d,.binOp .neq T x y ci,aO,pos,aT,a7⟩ (.bool j.isSome):=
 jU _ _ _ _ (Cy _ _ _) C D λE=>by
  show((do pure (.bool (!(<- eo T _ _))):Sem a2)).run P E= _;simp[Cz]
def ZC(C D q j):(eqGuard C T x y (.bool D) (.bool q)).run P j=.ok () j:=by
 unfold eqGuard;simp
def F2(P:bk)(T:bq):Bool:=match P.underlying T with
 |some .bool=>ag
 | _=>al
class A6 (P:bk) (T:bq):Prop where
 h:F2 P T=ag
def A6.spec(j:A6 P T):P.underlying T=ab .bool:=by
 have h:=j.h;unfold F2 at h;grind
def ZF(D:A6 P T)(j q C):(eo T (.bool j) (.bool q)).run P C=.ok (j==q) C:=by
 have E:=D.spec;unfold eo;rw[show nK=9999+1 from rfl];unfold lO;simp[cM,run_underlying E]<;>rfl
def gz{b}(C:aX H x=ab (.bool b)):bh P L H ⟨d,.unOp .not T x,aO,pos,aT,a7⟩ (.bool (!b)):=λa D j _=>by
 simp[execOp,j.eval C];rfl
def OZ{b}(D:aX H z=ab (.bool b))(h1:b=ag->aX H x=ab v)(ae:b=al->aX H y=ab v):bh P L H ⟨d,.pick z x y,aO,pos,aT,a7⟩ v:=λa C j _=>by
 simp[execOp,j.eval D];cases b with
 |true=>show Result.ok (Next.value (a.eval x)) C= _;rw[j.eval (h1 p)]
 |false=>show Result.ok (Next.value (a.eval y)) C= _;rw[j.eval (ae p)]
def pQ{b}(j:aX H z=ab (.bool b))(D:b=ag)(h1:aX H x=ab v):bh P L H ⟨d,.pick z x y,aO,pos,aT,a7⟩ v:=OZ j (λ_=>h1) (λC=>by simp_all)
def rD{b}(j:aX H z=ab (.bool b))(D:b=al)(h1:aX H y=ab v):bh P L H ⟨d,.pick z x y,aO,pos,aT,a7⟩ v:=OZ j (λC=>by simp_all) (λ_=>h1)
def ui{j}(D:aX H x=ab (.pointer (ab j))):bh P L H ⟨d,.nilCheck x,aO,pos,aT,a7⟩ (.pointer (ab j)):=λa E C _=>by
 simp only[execOp,C.eval D];rfl
def rC{j l c}(E:∀n,j≠ .method n)(D:aX H x=ab (.func j l c)):bh P L H ⟨d,.nilCheck x,aO,pos,aT,a7⟩ (.func j l c):=λa I C _=>by
 simp[execOp,C.eval D];simp_all
def ug{C b o D n U}[R:kW P T C (D,n+1,U)](ah:aX H x=ab (.pointer (ab ⟨b,o,af⟩))):bh P L H ⟨d,.fieldAddr T x C,aO,pos,aT,a7⟩ (.pointer (ab ⟨b,o+D,af⟩)):=λa E Z _=>by
 simp[execOp,Z.eval ah];have h:=R.h;unfold wU at h;cases O:P.underlying T with
 |none=>simp_all
 |some W=>
  rw[O]at h;cases W<;>first|(cases h;done)|skip
  rename_i Y
  cases I:Y[C]? with
  |none=>simp_all
  |some j=>
   simp[I]at h;have ai:(sizeOf j.type).run P E=.ok (n+1) E/\j.offset=D:=by
    by_cases h1:mf P j.type=ag
    .simp[h1,if_true,tO,tP]at h;exact⟨by rw[(dh.run ⟨h1⟩ E).2];grind,h.1⟩
    .simp[h1]at h;cases J:P.info? j.type with
     |none=>simp_all
     |some am=>
      simp[J]at h;exact⟨by simp[sizeOf,typeInfo,J,h.2.2.1],h.2.1⟩
   simp[Instr.fieldAt,run_underlying O,I,vu,fieldPlace,ai.1,kT]
def CC{b o n c D J I ah j}[E:eu P T (J,D,I)](Y:aX H x=ab (.slice (ab ⟨b,o,af⟩) n c))(Z:aX H y=ab (.int ah j))(O:0<=j)(h1:j<n):
  bh P L H ⟨d,.indexAddr T x y,aO,pos,aT,a7⟩ (.pointer (ab ⟨b,o+j.toNat*D,af⟩)):=λa am C _=>by
 let⟨W,ai,R,U,_⟩:=E.spec;simp[execOp,C.eval Y,C.eval Z];simp[KE,run_underlying W,asIntOf,O,h1,sizeOf,typeInfo,R,U,kT]
def iV{b o n c C j:Nat}{I E R}[D:eu P T (I,C,E)](J:aX H x=ab (.slice (ab ⟨b,o,af⟩) n c))(O:aX H y=ab (.int R (j:Int)))(h1:j<n):
  bh P L H ⟨d,.indexAddr T x y,aO,pos,aT,a7⟩ (.pointer (ab ⟨b,o+j*C,af⟩)):=
 CC (E:=D) J O ao ad
def iU{b o n D I Z j}[E:mZ P T (n,I,D)](W:aX H x=ab (.pointer (ab ⟨b,o,af⟩)))(Y:aX H y=ab (.int Z j))(J:0<=j)(h1:j<n):
  bh P L H ⟨d,.indexAddr T x y,aO,pos,aT,a7⟩ (.pointer (ab ⟨b,o+j.toNat*D,af⟩)):=λa ai C _=>by
 let⟨U,ah,O,R⟩:=E.spec;simp[execOp,C.eval W,C.eval Y];simp[KE,run_underlying U,asIntOf,J,h1,sizeOf,typeInfo,O,R,kT,vu]
def fC{j}[D:dh P T](R:aX H x=ab (.pointer (ab j)))(I:a5 L j v):bh P L H ⟨d,.load T x,aO,pos,aT,a7⟩ v:=λa C J O=>by
 simp[execOp,J.eval R];have E:C.cell? j=ab v:=I.1 _ O;simp[KF,vu,loadVar,(D.run C).1,E]
structure aU (L:Q) (b o n:Nat) (C:bz):Prop where
 len:C.length=n
 get:∀(j:Nat) (v:a2),C[j]?=ab v->a5 L ⟨b,o+j,af⟩ v
def mr:List a2->Nat->Option (List a2)
 | _,0=>ab []
 | [],_+1=>af
 |v::l,n+1=>match mr l n with
  |some r=>ab (v::r)
  |none=>af
def nB:∀{l:bz}{n}{r:bz},mr l n=ab r->aa r=n/\∀(C:Nat)(v),r[C]?=ab v->l[C]?=ab v
 | _,0,r,h=>by simp_all[mr]
 | [],_+1,_,h=>by cases h
 |u::l,n+1,r,h=>by
  simp[mr]at h;cases j:mr l n with
  |none=>simp_all
  |some D=>
   rw[j]at h;simp at h;let⟨h1,ae⟩:=nB j;grind
def qC:List a2->Nat->List a2
 |l,0=>l
 | [],_+1=>[]
 | _::l,n+1=>qC l n
theorem sP:∀(l:bz)(n),qC l n=l.drop n
 |l,0=>by simp[qC]
 | [],n+1=>by rfl
 | _::l,n+1=>by simp[qC,sP l n]
theorem aU.ah{b o n:Nat}{j C:bz}(h:mr (qC j o) n=ab C):aU (ah b T j::L) b o n C:=⟨(nB h).1,λE v D=>by
 have:=(nB h).2 E v D;rw[sP,yd]at this;exact a5.ah this⟩
theorem aU.ap{A b o n j}(h:aU L b o n j):aU (A::L) b o n j:=⟨h.1,λD v C=>(h.2 D v C).ap⟩
theorem HS{b o n D}(h:aU L b o n D){j}(I:C L j.hm):(loadCells ⟨b,o,af⟩ n).run P j=.ok D.toArray j:=by
 rw[<- h.1];exact run_loadCells_list j _ D λJ v E=>by rw[kT];exact(h.2 J v E).1 _ I
def gh{b o n C}[j:hM P T n](O:aX H x=ab (.pointer (ab ⟨b,o,af⟩)))(E:aU L b o n C):bh P L H ⟨d,.load T x,aO,pos,aT,a7⟩ (.agg C.toArray):=λa D I J=>by
 simp[execOp,I.eval O];simp[KF,vu,loadVar,(j.run D).1,(j.run D).2,HS E J]
def eQ{b o n E}[D:hM P T n](I:aU L b o n E):∀j,C L j.hm->(loadVar T ⟨b,o,af⟩).run P j=.ok (.agg E.toArray) j:=λj J=>by
 simp[loadVar,(D.run j).1,(D.run j).2,HS I J]
def HT{D}[E:dh P T](J:a5 L D v):∀j,C L j.hm->(loadVar T D).run P j=.ok v j:=λj O=>by
 have I:j.cell? D=ab v:=J.1 _ O;simp[loadVar,(E.run j).1,I]
def OR{j J}{D:bz}[O:kW P T j (J,1,al)](Z:aX H x=ab (.agg D.toArray))(Y:D[J]?=ab v):bh P L H ⟨d,.field T x j,aO,pos,aT,a7⟩ v:=λa ah W _=>by
 simp[execOp,W.eval Z];have h:=O.h;unfold wU at h;cases I:P.underlying T with
 |none=>simp_all
 |some R=>
  rw[I]at h;cases R<;>first|(cases h;done)|skip
  rename_i U
  cases E:U[j]? with
  |none=>simp_all
  |some C=>
   simp[E]at h;have h1:mf P C.type=ag:=by
    by_cases h1:mf P C.type=ag
    .omega
    .cases ai:P.info? C.type with
     |none=>simp_all
     |some am=>simp_all
   simp only[h1,if_true,tO,tP]at h;simp[KC,run_underlying I,E,asAgg,part,(dh.run ⟨h1⟩ ah).1,h.1,Y]
def OS{C D n}{j E:bz}[R:kW P T C (D,n,ag)](ar:aX H x=ab (.agg j.toArray))(aq:mr (qC j D) n=ab E):bh P L H ⟨d,.field T x C,aO,pos,aT,a7⟩ (.agg E.toArray):=λa av ap _=>by
 simp[execOp,ap.eval ar];have h:=R.h;unfold wU at h;cases O:P.underlying T with
 |none=>simp_all
 |some U=>
  rw[O]at h;cases U<;>first|(cases h;done)|skip
  rename_i ah
  cases J:ah[C]? with
  |none=>simp_all
  |some I=>
   simp[J]at h
   by_cases h1:mf P I.type=ag
   .simp_all
   .simp[h1]at h;cases am:P.info? I.type with
    |none=>simp_all
    |some aA=>
     simp[am]at h;let⟨ae,an,ai⟩:=h;let⟨W,Y⟩:=hM.run ⟨ae⟩ av;let⟨ax,az⟩:=nB aq;have Z:List.take n (List.drop D j)=E:=by
      apply vx;grind[sP,List.getElem?_eq_none]
     simp[KC,run_underlying O,J,asAgg,part,W,Y,an,ai,Z]
def zp{J:a3}{n c r}[C:eu P T r](I:aX H x=ab (.slice J n c)):bh P L H ⟨d,.call ⟨.builtin .len,#[x],#[T]⟩,aO,pos,aT,a7⟩ (j n):=λa R D _=>by
 let⟨O,s,b⟩:=r;let⟨E,_⟩:=C.spec;simp[execOp,resolve,gY,fu,D.eval I];simp[invoke,builtin,Builtin.len_,run_underlying E,goInt]
def OV{C q J}(E:aX H x=ab (j C))(I:aX H y=ab (j q)):bh P L H ⟨d,.call ⟨.builtin .min,#[x,y],J⟩,aO,pos,aT,a7⟩ (j (min C q)):=λa O D _=>by
 simp[execOp,resolve,gY,fu,D.eval E,D.eval I];have:(if q<C then q else C)=min C q:=ad;simp[invoke,builtin,Builtin.min_,Builtin.min2,this]
def wP{C q J}(E:aX H x=ab (j C))(I:aX H y=ab (j q)):bh P L H ⟨d,.call ⟨.builtin .max,#[x,y],J⟩,aO,pos,aT,a7⟩ (j (max C q)):=λa O D _=>by
 simp[execOp,resolve,gY,fu,D.eval E,D.eval I];have:(if q>C then q else C)=max C q:=ad;simp[invoke,builtin,Builtin.max_,Builtin.max2,this]
def wN{j}{C:bz}(I:aX H x=ab (.tuple C.toArray))(E:C[j]?=ab v):bh P L H ⟨d,.extract x j,aO,pos,aT,a7⟩ v:=λa J D _=>by
 simp[execOp,D.eval I];simp[Instr.extract,E]
def hw(H:cU):List cJ->Option (List a2)
 | []=>ab []
 |x::l=>match aX H x,hw H l with
  |some v,ab j=>ab (v::j)
  | _,_=>af
theorem mO{a}(D:fP H a):∀{l}{j:bz},hw H l=ab j->l.map a.eval=j
 | [],_,h=>nQ h
 |x::l,j,h=>by
  simp[hw]at h;cases E:aX H x with
  |none=>simp_all
  |some v=>
   cases C:hw H l with
   |none=>simp_all
   |some r=>
    rw[E,C]at h;simp at h;rw[fu,D.eval E,mO D C];omega
def OT{j D E}{I J:bz}(h1:hw H D=ab I)(ae:hw H E=ab J):bh P L H ⟨d,.makeFunc j D.toArray E.toArray,aO,pos,aT,a7⟩ (.func j I.toArray J.toArray):=λa O C _=>by
 simp[execOp,gY,mO C h1,mO C ae];rfl
def agR{O D R I l h}(W:O=af/\l=0\/∃j,O=ab (.int j l))(U:D=af/\h=R\/∃j,D=ab (.int j h))(h1:l<=h)(ae:h<=I)(C):
  (qf ag R I O D af).run P C=.ok (l,h,I) C:=by
 have Y:∀(j:IntKind) (E y:Nat) (J:BoundsCode),E<=y->(Instr.sliceBound _ y J).run P C=.ok E C:=λj E y J D=>by
  rw[run_sliceBound C j E y J ao ad];rfl
 rcases W with ⟨rfl,rfl⟩|⟨j,rfl⟩<;>rcases U with ⟨rfl,rfl⟩|⟨Z,rfl⟩<;>simp[qf,Y,h1,ae]
def wQ{C:bq}{O W:Nat}{J:a3}{n c:Nat}{l h:Nat}{E D:Option cJ}[U:eu P T (C,O,W)](ax:aX H x=ab (.slice J n c))
  (aq:E=af/\l=0\/∃y j,E=ab y/\aX H y=ab (.int j l)) (am:D=af/\h=n\/∃y j,D=ab y/\aX H y=ab (.int j h)) (h1:l<=h) (ae:h<=c):
  bh P L H ⟨d,.slice T x E D af,aO,pos,aT,a7⟩ (.slice (if c=l then J else J.map (·.add (l*O))) (h-l) (c-l)):=λa R I _=>by
 let⟨av,az,ap,ar,_⟩:=U.spec;have Y:E.map a.eval=af/\l=0\/∃j,E.map a.eval=ab (.int j l):=by
  rcases aq with ⟨rfl,rfl⟩|⟨y,j,rfl,C⟩
  .simp
  .exact .inr ⟨j,by simp[I.eval C]⟩
 have Z:D.map a.eval=af/\h=n\/∃j,D.map a.eval=ab (.int j h):=by
  rcases am with ⟨rfl,rfl⟩|⟨y,j,rfl,C⟩
  .simp
  .exact .inr ⟨j,by simp[I.eval C]⟩
 simp[execOp,I.eval ax];have ah:=agR (P:=P) Y Z h1 ae R;have ai:(sizeOf C).run P R=.ok O R:=by simp[sizeOf,typeInfo,ap,ar]
 simp only[Instr.sliceAt,Instr.slice,cM,run_underlying av,dG,ah,ai,Option.map_none];rfl
def kH{C E J}{j:a3}{n c}{h:Nat}{D}[I:eu P T (C,E,J)](U:aX H x=ab (.slice j n c))(W:aX H y=ab (.int D h))(ae:h<=c):
  bh P L H ⟨d,.slice T x af (ab y) af,aO,pos,aT,a7⟩ (.slice j h c):=λa Y O R=>by
 have:=wQ (U:=I) (d:=d) (aO:=aO) (pos:=pos) (aT:=aT) (a7:=a7) U (.inl bD) (.inr ⟨y,D,rfl,W⟩) (bO _) ae a Y O R;rw[this];have C:(if c=0 then j else j.map (·.add (0*E)))=j:=by
  split
  .rfl
  .rw[Nat.zero_mul];cases j<;>simp[xY]
 simp_all
def iW{I C E b o n c}{l:Nat}{j}[D:eu P T (I,C,E)](R:aX H x=ab (.slice (ab ⟨b,o,af⟩) n c))(U:aX H y=ab (.int j l))(h1:l<=n)(ae:n<=c):
  bh P L H ⟨d,.slice T x (ab y) af af,aO,pos,aT,a7⟩ (.slice (ab ⟨b,(if c=l then o else o+l*C),af⟩) (n-l) (c-l)):=λa W J O=>by
 have:=wQ (U:=D) (d:=d) (aO:=aO) (pos:=pos) (aT:=aT) (a7:=a7) R (.inr ⟨y,j,rfl,U⟩) (.inl bD) h1 ae a W J O;rw[this];split<;>simp[kT]
def O0{J D I b o n c}{l h:Nat}{z j C}[E:eu P T (J,D,I)](U:aX H x=ab (.slice (ab ⟨b,o,af⟩) n c))(W:aX H y=ab (.int j l))(Y:aX H z=ab (.int C h))(h1:l<=h)(ae:h<=c):
  bh P L H ⟨d,.slice T x (ab y) (ab z) af,aO,pos,aT,a7⟩ (.slice (ab ⟨b,(if c=l then o else o+l*D),af⟩) (h-l) (c-l)):=λa Z O R=>by
 have:=wQ (U:=E) (d:=d) (aO:=aO) (pos:=pos) (aT:=aT) (a7:=a7) U (.inr ⟨y,j,rfl,W⟩) (.inr ⟨z,C,rfl,Y⟩) h1 ae a Z O R;rw[this];split<;>simp[kT]
def eS:List a2->Nat->List a2->List a2
 | [],_,_=>[]
 |c::j,_,[]=>c::j
 | _::j,0,v::C=>v::eS j 0 C
 |c::j,D+1,v::C=>c::eS j D (v::C)
theorem tv(j:bz)(C):eS j C []=j:=by cases j<;>rfl
theorem El(c)(j:bz):∀(C:bz)(D),eS (c::C) (D+1) j=c::eS C D j:=by
 intro C D;cases j with
 |nil=>rw[tv,tv]
 |cons v j=>rfl
theorem AB:∀(C:bz)(D)(v)(j:bz),eS C D (v::j)=eS (C.set D v) (D+1) j
 | [],_,_,j=>by rfl
 |c::C,0,v,j=>(El v j C 0).symm
 |c::C,D+1,v,j=>by
  rw[List.set_cons_succ,El,El,AB C D v j]
def hp:a2->List a2
 | .agg j=>j.toList
 |v=>[v]
theorem ua(v):v.cells=(hp v).toArray:=by cases v<;>simp[x9,hp]
def n6(D:Nat->Option (Nat×Nat)):List a2->List (Nat×a2)->Option (List a2)
 |j,[]=>ab j
 |j,(E,v)::r=>match D E with
  |none=>af
  |some (C,I)=>bif aH (aa (hp v)) I&&da (C+aa (hp v)) (aa j)then n6 D (eS j C (hp v)) r else af
theorem aaA(C:bz):∀(E j)(D:bz),(C.zipIdx E).foldl (λ(c:Array a2) (I:a2×Nat)=>c.setIfInBounds (j+I.2) I.1) D.toArray=(eS D (j+E) C).toArray:=by
 induction C with
 |nil=>simp[tv]
 |cons v C J=>
  intro E j D;simp[List.zipIdx_cons,List.foldl_cons,AB,List.setIfInBounds_toArray];exact J _ j _
theorem zt{C}:∀{E}{j r:bz},n6 C j E=ab r->EM C j.toArray E=ab r.toArray
 | [],j,r,h=>by simp[n6]at h;subst h;rfl
 |(J,v)::R,j,r,h=>by
  simp[n6]at h;unfold EM;cases I:C J with
  |none=>simp_all
  |some q=>
   let⟨O,U⟩:=q;rw[I]at h;simp at h;cases D:(aH (aa (hp v)) U&&da (O+aa (hp v)) (aa j))with
   |false=>simp_all
   |true=>
    rw[D]at h;simp only[co]at D;have h1:=cy D.1;simp only[ua,h1];rw[a8 bo];have an:=zt (by assumption:n6 C _ R=ab r);simp_all[aaA,Nat.add_zero]
def pO(H:cU):List (Nat×cJ)->Option (List (Nat×a2))
 | []=>ab []
 |(j,x)::l=>match aX H x,pO H l with
  |some v,ab C=>ab ((j,v)::C)
  | _,_=>af
theorem zn{a}(D:fP H a):∀{l}{j},pO H l=ab j->l.map (λI=>(I.1,a.eval I.2))=j
 | [],_,h=>nQ h
 |(J,x)::l,j,h=>by
  simp[pO]at h;cases E:aX H x with
  |none=>simp_all
  |some v=>
   cases C:pO H l with
   |none=>simp_all
   |some r=>
    rw[E,C]at h;simp at h;rw[fu,D.eval E,zn D C];omega
def OO{I:List (Nat×Nat)}{z C:bz}{E:List (Nat×cJ)}{j:List (Nat×a2)}[O:FI P T I][R:cG P T z](ax:pO H E=ab j)(av:n6 (I[·]?) z j=ab C):
  bh P L H ⟨d,.build T E.toArray,aO,pos,aT,a7⟩ (.agg C.toArray):=λa am az _=>by
 have ap:(E.toArray.map λ(D,x)=>(D,a.eval x))=j.toArray:=by grind[zn]
 simp[execOp];have W:P.built T j=ab C.toArray:=by
  have h:=O.h;have J:=R.h;unfold fieldsOf at h;cases ah:P.underlying T with
  |none=>simp_all
  |some U=>
   rw[ah]at h;cases U<;>first|(cases h;done)|skip
   rename_i ar
   cases Y:P.info? T with
   |none=>simp_all
   |some D=>
    cases Z:D.zero with
    |none=>simp_all
    |some ai=>
     rw[Y]at J;simp[Z]at J;simp[KO,h];have aq:ai.cells=z.toArray:=bv;simp_all[zt]
 have:=run_build am T _ _ W;simp_all
def OP{n I U}{z D:bz}{E C}[O:mZ P T (n,U,I)][R:cG P T z](ax:pO H E=ab C)(ar:n6 (λj=>ab (j*I,I)) z C=ab D):
  bh P L H ⟨d,.build T E.toArray,aO,pos,aT,a7⟩ (.agg D.toArray):=λa am az _=>by
 have ap:(E.toArray.map λ(j,x)=>(j,a.eval x))=C.toArray:=by grind[zn]
 simp[execOp];have W:P.built T C=ab D.toArray:=by
  let⟨aA,aB,av,ah⟩:=O.spec;have J:=R.h;cases Y:P.info? T with
  |none=>simp_all
  |some j=>
   cases Z:j.zero with
   |none=>simp_all
   |some ai=>
    rw[Y]at J;simp[Z]at J;simp[KO,ah];have aq:ai.cells=z.toArray:=bv;simp_all[zt]
 have:=run_build am T _ _ W;simp_all
theorem adP(T)(C:bz)(j):(newRow T C.toArray).run P j=.ok ⟨j.heap.size,0,af⟩ (j.alloc (.cells C.toArray T (0,0))):=by rfl
def ue(J:aX H x=ab v):b6 P g L H ⟨d,.box T x,aO,pos,aT,a7⟩ λr j=>∃b,r=(I b)/\j=ah b T (hp v)::L:=λa R D E K O C=>by
 unfold eg;simp[execOp,D.eval J,Instr.box,newVar,ua,e5];exact C _ _ _ ⟨_,rfl,rfl⟩ (E.alloc T _)
def rx{j:bz}[C:cG P T j]:b6 P g L H ⟨d,.alloc T,aO,pos,aT,a7⟩ λr D=>∃b,r=(I b)/\D=ah b T j::L:=λa U Y R K W O=>by
 let⟨v,E,J⟩:=C.run U;unfold eg;simp[execOp,Instr.alloc,newVar,J,cM,E,dG];exact O _ _ _ ⟨_,rfl,rfl⟩ (R.alloc T _)
def Gp{C j av n}{D I:bz}{E R}[ap:eu P T (C,j,av)][aq:cG P C D](aG:n=0/\I=[]/\E=[]\/n=1/\aa D=j/\0<j/\j<=1000/\pO H E=ab R/\n6 (λJ=>ab (J*j,j)) D R=ab I):
  b6 P g L H ⟨d,.buildSlice T n E.toArray,aO,pos,aT,a7⟩ λr ar=>∃b,r=.slice (U b) n n/\ar=ah b C I::L:=λa W aM am K aJ Z=>by
 let⟨ai,aQ,aF,aI,_⟩:=ap.spec;have Y:(sizeOf C).run P W=.ok j W:=by simp[sizeOf,typeInfo,aF,aI]
 unfold eg;rcases aG with ⟨rfl,rfl,rfl⟩|⟨rfl,aP,aK,h1,aL,aE⟩
 .have aD:∀(q:Array a2),(Km (0*j)).map (λO=>q[O % q.size]!)=[].toArray:=λq=>by
   simp
  simp only[execOp,KB,cM,run_underlying ai,dG,Y];rw[a8 ao];simp only[cM,e5,dG];rw[bJ ao];simp only[cM,e5,dG,aD,EM,gY,mX,adP];exact Z _ _ _ ⟨_,rfl,rfl⟩ (am.alloc C [])
 .have ax:(E.toArray.map λ(J,x)=>(J,a.eval x))=R.toArray:=by grind[zn]
  let⟨v,az,aA⟩:=aq.run W;have aB:(Km (1*j)).map (λO=>D.toArray[O % D.toArray.size]!)=D.toArray:=by
   grind[Array.ext,Nat.mod_eq_of_lt,b8]
  simp only[execOp,KB,cM,run_underlying ai,dG,Y,ax];rw[a8 ad];simp only[cM,e5];rw[a8 ad];simp only[cM,az,dG,e5,aA,aB,zt aE];exact Z _ _ _ ⟨_,rfl,rfl⟩ (am.alloc C _)
def gR{D j W}{E I:bz}{J O}[am:eu P T (D,j,W)][ap:cG P D E](C:(aH (aa E) j&&da 1 j&&da j 1000)=ag)(Z:pO H J=ab O)(Y:n6 (λai=>ab (ai*j,j)) E O=ab I):
  b6 P g L H ⟨d,.buildSlice T 1 J.toArray,aO,pos,aT,a7⟩ λr R=>∃b,r=.slice (U b) 1 1/\R=ah b D I::L:=by
 simp only[co]at C;exact Gp (.inr ⟨rfl,cy C.1.1,fq C.1.2,fq C.2,Z,Y⟩)
inductive iN (b:Nat) (j:Nat) (C:bz):List aG->List aG->Prop where
 |here {T:TypeId} {D:bz} {L:Q} (h:Nat.ble (j+C.length) D.length=ag):iN b j C (ah b T D::L) (ah b T (eS D j C)::L)
 |ap {A:aG} {L E:Q} (h:iN b j C L E):iN b j C (A::L) (A::E)
theorem xQ:∀(D:bz)(j:bz)(C),aa (eS j C D)=aa j
 | [],j,C=>by rw[tv]
 |v::D,j,C=>by simp[AB,xQ D]
def iN.front{b C D}{L E:Q}(h:iN b C D L E):∃T j M,C+aa D<=aa j/\L.Perm (ah b T j::M)/\E.Perm (ah b T (eS j C D)::M):=by
 induction h with
 |here h=>exact⟨_,_,_,fq h,.refl _,.refl _⟩
 |ap _ I=>
  let⟨T,j,M,h,J,q⟩:=I;exact⟨T,j,_::M,h,(J.cons _).trans (.swap _ _ _),(q.cons _).trans (.swap _ _ _)⟩
def qQ:a2->Bool
 | .agg _=>al
 | .tuple _=>al
 | _=>ag
def ahp{C j v c}(I:qQ v=ag)(D:C.cell? j=ab c)(E:C.frozen? j=al):(store j v).run P C=.ok () (C.setCell j v):=by cases v<;>first|(cases I;done)|simp[store,Sem.run,D,E]
def tz{g b T}{M:Q}:∀(E:bz)(o j)(D)(C),(∀v∈E,qQ v=ag)->o+j+aa E<=aa D->bj g (ah b T D::M) C->
  ∃J,(storeCells ⟨b,o,af⟩ E j).run P C=.ok () J/\bj g (ah b T (eS D (o+j) E)::M) J
 | [],o,j,D,C,_,_,I=>⟨C,by rfl,by rw[tv];omega⟩
 |v::E,o,j,D,C,h1,W,I=>by
  simp[f0]at W;have U:C.cell? ⟨b,o+j,af⟩=ab D[o+j]:=I.cell (a5.ah ao);have O:=ahp (P:=P) (h1 v ao) U I.XM;let⟨J,R,ae⟩:=tz E o (j+1) _ (C.setCell ⟨b,o+j,af⟩ v) (λu Y=>h1 u bo) bv (I.store v);exact⟨J,by simp[storeCells,cM,kT,O,dG,R],by rw[AB];omega⟩
def kE:List a2->Bool
 | []=>ag
 |v::l=>qQ v&&kE l
def BK:∀{l:bz},kE l=ag->∀v∈l,qQ v=ag
 | [],_,v,j=>by trivial
 |u::l,h,v,j=>by
  simp[kE,co]at h;rcases df.1 j with rfl|j
  .simp_all
  .exact BK h.2 v j
def o2{b o}{j:Q}[I:dh P T](ah:aX H x=ab (.pointer (ab ⟨b,o,af⟩)))(ai:aX H y=ab v)(ar:qQ v=ag)(W:iN b o [v] L j):
  b6 P g L H ⟨d,.store T x y,aO,pos,aT,a7⟩ λr M=>r=undef/\M=j:=λa E D Y K ap R=>by
 let⟨B,J,M,aq,am,q⟩:=W.front;have Z:=Y.mono λ_=>C.perm am;let⟨av,O,ae⟩:=tz (P:=P) [v] o 0 J E bo ad Z;have U:v.cells= #[v]:=by cases v<;>first|rfl|trivial
 unfold eg;simp only[execOp,D.eval ah,D.eval ai,KJ,vu,storeVar,cM,e5,dG,(I.run E).2,U];rw[a8 ao];simp[O];exact R _ _ _ bD (ae.mono λ_=>C.perm q.symm)
def rz{b o n}{j:bz}{D:Q}[J:hM P T n](am:aX H x=ab (.pointer (ab ⟨b,o,af⟩)))(ap:aX H y=ab (.agg j.toArray))(W:aH (aa j) n=ag)(Z:kE j=ag)(Y:iN b o j L D):
  b6 P g L H ⟨d,.store T x y,aO,pos,aT,a7⟩ λr M=>r=undef/\M=D:=λa I E ah K ar U=>by
 let⟨B,O,M,ax,aq,q⟩:=Y.front;have ai:=ah.mono λ_=>C.perm aq;let⟨az,R,ae⟩:=tz (P:=P) j o 0 O I (BK Z) ad ai;have av:=cy W;unfold eg;simp only[execOp,E.eval am,E.eval ap,KJ,vu,storeVar,cM,e5,dG,(J.run I).2,x9];rw[a8 bo];simp[R];exact U _ _ _ bD (ae.mono λ_=>C.perm q.symm)
def yZ{E args J j}(h:O P E args L J)(I:bj g L j):Calls P E args j λD R=>∃v C,D=.returned v/\J v C/\bj g C R:=by
 have h1:bj g ((λ_=>True)::L) j:=⟨I.g,λ_=>af,j.hm,λ_=> .inl p,λ_ _ D=>bv,eV.refl _,trivial,I.s⟩;exact(h g _ j h1).mono λD R ⟨v,C,U,W,q⟩=>⟨v,C,U,W,q.mono λ_ s=>s.tail⟩
def c5{j D I}{args:bz}{E}[J:cu P j](U:hw H D=ab args)(h:O P j args.toArray L E):
  b6 P g L H ⟨d,.call ⟨.value (.func j),D.toArray,I⟩,aO,pos,aT,a7⟩ E:=λa C W Y K Z ai=>by
 unfold eg;have R:(execOp a.eval ⟨d,.call ⟨.value (.func j),D.toArray,I⟩,aO,pos,aT,a7⟩).run P C=.ok (.enter j args.toArray) C:=by
  show(callFunc j _).run P C= _;rw[gY,mO W U];simpa using J.run _ C
 rw[R];apply(yZ h Y).mono λah ap am=>?_;grind
def f4{j q C D I W}{args:bz}{U}[Y:cu P j](J:aX H q=ab (.func (.func j) C.toArray D.toArray))(ah:hw H I=ab args)(h:O P j (C++args++D).toArray L U):
  b6 P g L H ⟨d,.call ⟨.value q,I.toArray,W⟩,aO,pos,aT,a7⟩ U:=λa E R ai K am aq=>by
 unfold eg;have Z:(execOp a.eval ⟨d,.call ⟨.value q,I.toArray,W⟩,aO,pos,aT,a7⟩).run P E=.ok (.enter j (C++args++D).toArray) E:=by
  simp[execOp,resolve,R.eval J,oB,invoke,gY,mO R ah];simpa using Y.run _ E
 rw[Z];apply(yZ h ai).mono λap ar J=>?_;grind
structure bf (L:Q) (D:Nat) (A:a3) (n:Nat) (C:bz):Prop where
 len:C.length=n*D
 get:0<n->∃b o,A=ab ⟨b,o,af⟩/\∀(j:Nat) (v:a2),C[j]?=ab v->a5 L ⟨b,o+j,af⟩ v
theorem bf.ap{D L j n A C}(h:bf L j A n C):bf (D::L) j A n C:=
 ⟨h.1,λO=>let⟨b,o,E,I⟩:=h.2 O;⟨b,o,E,λR v J=>(I R v J).ap⟩⟩
def bf.ev{N L j n A C}(h:bf L j A n C):bf (N++L) j A n C:=by
 induction N with
 |nil=>exact h
 |cons E N D=>exact D.ap
theorem aU.part{L b o n E I}(h:aU L b o n E)(D)(j:mr E D=ab I):aU L b o D I:=
 ⟨(nB j).1,λC v J=>h.2 C v ((nB j).2 C v J)⟩
theorem aU.at_{L b o n i j v}(h:aU L b o n j)(C:j[i]?=ab v):a5 L ⟨b,o+i,af⟩ v:=h.2 i v C
class d3 (α:Type)where
 eF:Nat
 hq:α->List a2
 len:∀a,(hq a).length=eF
 one:∀a,∀v∈hq a,v.oneCell'=ag
def J{α:Type}[d3 α](l:List α):List a2:=l.flatMap d3.hq
instance:d3 Int:=⟨1,λn=>[j n],λ_=>rfl,λ_ v h=>by simp at h;subst h;rfl⟩
section
variable{α:Type}[ik:d3 α]
theorem Pk:J ([]:List α)=[]:=rfl
theorem h9(a)(l:List α):J (a::l)=d3.hq a++J l:=by rfl
theorem gS(l j:List α):J (l++j)=J l++J j:=by simp[J]
theorem ck:∀(l:List α),aa (J l)=aa l*ik.eF
 | []=>by simp[J]
 |a::l=>by rw[h9,List.length_append,d3.len,ck l,f0,nO];omega
def uo:∀{l}{C}{a},l[C]?=ab a->∀(j)(v),(ik.hq a)[j]?=ab v->(J l)[C*ik.eF+j]?=ab v
 | [],C,a,h,_,_,_=>by trivial
 |b::l,0,a,h,j,v,D=>by
  simp at h;have:=(h2.1 D).1;simp_all[h9,List.getElem?_append_left]
 |b::l,C+1,a,h,j,v,D=>by
  have E:=uo (C:=C) fs j v D;grind[h9,d3.len]
theorem e8(l:List α):∀v∈J l,v.oneCell'=ag:=by
 intro v C;let⟨a,_,j⟩:=kz.1 C;exact d3.one a v j
theorem zw(l:List α)(j):J (l.take j)=(J l).take (j*ik.eF):=by
 induction l generalizing j with
 |nil=>simp[J]
 |cons a l C=>
  cases j with
  |zero=>simp[J]
  |succ j=>
   simp_all[h9,nO,List.take_append,d3.len,List.take_of_length_le]
theorem zu(l:List α)(j):J (l.drop j)=(J l).drop (j*ik.eF):=by
 induction l generalizing j with
 |nil=>simp[J]
 |cons a l C=>
  cases j with
  |zero=>simp
  |succ j=>
   simp_all[h9,nO,List.drop_append,d3.len,List.nil_append]
def Rd(L:Q)(A:a3)(n:Nat)(l:List α):Prop:=bf L ik.eF A n (J l)
theorem Rd.len{L A n}{l:List α}(j:0<ik.eF)(h:Rd L A n l):aa l=n:=by
 have:=h.1;rw[ck]at this;grind[Nat.eq_of_mul_eq_mul_right]
theorem Rd.ap{j L A n}{l:List α}(h:Rd L A n l):Rd (j::L) A n l:=bf.ap h
def Rd.ev{N L A n}{l:List α}(h:Rd L A n l):Rd (N++L) A n l:=bf.ev h
theorem Rd.at_{L A n l}(h:Rd L A n l)(J:0<n):∃b o,A=ab ⟨b,o,af⟩/\∀j a,l[j]?=ab a->aU L b (o+j*ik.eF) ik.eF (ik.hq a):=by
 let⟨b,o,C,D⟩:=h.2 J;exact⟨b,o,C,λj a I=>⟨d3.len a,λO v E=>by rw[LJ];exact D _ _ (uo I O v E)⟩⟩
theorem Rd.nil(L A):Rd L A 0 ([]:List α):=⟨by simp[J],db⟩
theorem Rd.take{L A n}{l:List α}(h:Rd L A n l){k}(J:k<=n):Rd L A k (l.take k):=by
 refine⟨by rw[zw,List.length_take,h.1];simp_all,λI=>?_⟩;let⟨b,o,j,C⟩:=h.2 ad;refine⟨b,o,j,λE v D=>C E v ?_⟩;rw[zw,Li]at D;simp_all
theorem Rd.drop{L b o n}{l:List α}(h:Rd L (ab ⟨b,o,af⟩) n l){k c}(O:k<=n)(J:n<=c):Rd L (ab ⟨b,(if c=k then o else o+k*ik.eF),af⟩) (n-k) (l.drop k):=by
 refine⟨by rw[zu,List.length_drop,h.1,Nat.sub_mul],λI=>?_⟩;let⟨E,U,C,D⟩:=h.2 ad;obtain⟨rfl,rfl⟩:=C;refine⟨b,o+k*ik.eF,by grind,λR v j=>?_⟩;rw[zu,yd]at j;rw[LJ];exact D _ _ j
end
structure E (I:bq) (C:Nat) (A:a3) (n c:Nat) (D:bz) (h:j5):Prop where
 len:D.length=n*C
 le:n<=c
 cap:c<=maxLen
 eC:(A=af/\n=0/\c=0)\/∃b j,A=(U b)/\h b=ab (.cells j I (0,0))/\j.size=c*C/\j.toList.take (n*C)=D
def E.facts{I j n c:Nat}{A D L h}(s:C (E I j A n c D::L) h):aa D=n*j/\n<=c/\c<=maxLen/\((A=af/\n=0/\c=0)\/∃b,A=(U b)):=by
 let⟨h1,ae,d,Y,Z,⟨J,O,R,W⟩,l⟩:=s;grind
theorem a5.E{L:Q}{J Z n c b C:Nat}{D:bz}{v:a2}(j:D[C]?=ab v):a5 (E J Z (U b) n c D::L) ⟨b,C,af⟩ v:=by
 constructor;rintro h ⟨h1,ae,d,Y,av,⟨ah,ai,am,I⟩,l⟩;rcases I with ⟨O,_⟩|⟨ap,aq,O,R,ar,W⟩
 .trivial
 .have:=Y _ _ R;rw[<- W,Li]at j;split at j
  .simp[iR];simp_all
  trivial
theorem bf.E{L:Q}{j C n c:Nat}{A:a3}{D:bz}(O:aa D=n*C)(I:0<n->∃b,A=(U b)):bf (E j C A n c D::L) C A n D:=
 ⟨O,λR=>let⟨b,j⟩:=I R;⟨b,0,j,λW v J=>by subst j;rw[h3];exact a5.E J⟩⟩
theorem bf.ah{L:Q}{D C b n:Nat}{j:bz}(I:aH (aa j) (n*C)=ag):bf (ah b D j::L) C (U b) n j:=
 ⟨cy I,λ_=>⟨b,0,rfl,λJ v E=>by rw[h3];exact a5.ah E⟩⟩
def hA{j:bz}(h:j.all (λu=>u.oneCell')=ag):∀u∈j,u.oneCell'=ag:=bo
theorem gi{α:Type}[d3 α](l:List α)(a:α):J l++d3.hq a=J (l++[a]):=by rw[gS,h9,Pk,List.append_nil]
def E.c7{L}(j C:Nat):aS L (E j C af 0 0 []::L):=λh s=>
 ⟨λ_=>af,h,λ_=> .inl p,λ_ _ j=>bv,eV.refl _,⟨ao,bC _,bO _,.inl ⟨rfl,rfl,rfl⟩⟩,s⟩
def E.R4{C D b n:Nat}{j}(I:aa j=n*D)(J:n<=maxLen):∀h,ah b C j h->E C D (ab ⟨b,0,.none⟩) n n j h:=λh O=>
 ⟨I,bC _,J,.inr ⟨b,j.toArray,rfl,O.eq,ad,by grind⟩⟩
inductive eH (j:aG):List aG->List aG->Prop where
 |here {L:Q}:eH j (j::L) L
 |ap {D:aG} {L C:Q} (h:eH j L C):eH j (D::L) (D::C)
theorem eH.perm{j L M}(h:eH j L M):L.Perm (j::M):=by
 induction h with
 |here=>rfl
 |ap _ C=>exact(C.cons _).trans (.swap _ _ _)
def sS{j L M}(C:aS L M):aS (j++L) M:=by
 induction j with
 |nil=>exact C
 |cons E j D=>exact λh s=>D h s.tail
theorem cf{L}:aS L L:=λ_ s=>s
def Cn{b T C D L M j}(h:eH (ah b T C) L M)(E:C=D)(I:aS M j):aS L (ah b T D::j):=λ_ s=>E▸(s.perm h.perm).bl I
def zi{C D n c:Nat}{A I J L M j}(h:eH (E C D A n c I) L M)(O:I=J)(R:aS M j):aS L (E C D A n c J::j):=λ_ s=>O▸(s.perm h.perm).bl R
def cP{C L M j}(h:eH C L M)(D:aS M j):aS L (C::j):=λ_ s=>(s.perm h.perm).bl D
variable{M:Q}
def eu.zero{C I E:Nat}{J}(O:eu P T (C,I,E))(R:cG P C J):∃j D,P.underlying T=ab (.slice C)/\P.info? C=ab j/\j.size=I/\j.bytes=E/\j.zero=ab D/\D.cells.size=aa J:=by
 let⟨Y,j,U,h1,ae⟩:=O.spec;have Z:=R.h;cases W:j.zero with
 |none=>simp_all
 |some D=>grind
def MW{g L M H a O K bt}{I W av n c J q:Nat}{A B ap ai bm}[bp:eu P T (I,W,av)][br:cG P I bm](a9:fP H a)(bT:bj g L O)(bU:aX H x=ab (.slice A n c))(bV:aX H y=ab (.slice B J q))
  (bM:eH (E I W A n c ap) L M) (bP:aa ai=J*W) (bR:0<J->∃b o,B=ab ⟨b,o,af⟩/\∀(aB) u,ai[aB]?=ab u->iR O.hm ⟨b,o+aB,af⟩=ab u) (h1:∀u∈ai,u.oneCell'=ag) (bZ:aH (aa bm) W=ag) (aR:0<W) (aW:(n+J)*av<=140737488355328) (b7:n+J<=140737488355328)
  (aV:∀v D aM,(∃aE ax,v=.slice aE (n+J) ax/\n+J<=ax/\ax<=maxLen/\(0<n+J->∃b,aE=(U b))/\aM=E I W aE (n+J) ax (ap++ai)::M)->bj g aM D->K (a.put d v) D):
  eg P ⟨d,.call ⟨.builtin .append,#[x,y],#[T,T]⟩,aO,pos,aT,a7⟩ a O K bt:=by
 let⟨bh,bn,am,aA,bb,aY,a0,bg⟩:=bp.zero br;have be:=cy bZ;have bc:bj g _ O:=bT.mono λ_=>C.perm bM.perm;let⟨cb,aD,bz,b4,bl,⟨b2,bi,b3,aL⟩,l⟩:=bc.s;have a8:O.ownsRow 0 I W (.slice A n c) n ap:=by
  refine⟨b2,?_⟩;rcases aL with ⟨rfl,rfl,rfl⟩|⟨b,Z,rfl,aP,bB,bE⟩
  .simp
  .exact .inr ⟨b,c,Z,rfl,bO _,b4 _ _ aP,bi,b3,bB,bE⟩
 have aG:∀R D,D.ownsRow 0 I W R (n+J) (ap++ai)->O.grownBy D (Value.slice A n c).ownBlock->(R.ownBlock=(Value.slice A n c).ownBlock\/R.ownBlock=ab O.heap.size)->(R=.slice af 0 0->n+J=0)->K (a.put d R) D:=by
  intro R D bL az b6 ca;have aK:∀j o,aD j=ab o->D.hm j=ab o/\ab j≠R.ownBlock:=λj o a3=>by
   have bH:j<O.heap.size:=by
    have:=bl _ _ a3;rcases dZ j _ with aQ|aQ
    .omega
    .simp[World.hm,tH aQ]at this
   have bK:ab j≠(Value.slice A n c).ownBlock:=by
    intro Y;rcases aL with ⟨rfl,_⟩|⟨b,Z,rfl,aP,_⟩
    .trivial
    .simp[Value.ownBlock]at Y;subst Y;rcases bz j with ah|ah
     .simp_all
     simp_all
   refine⟨by show D.heap[j]?= _;rw[az.block j bH bK];exact bl _ _ a3,λY=>?_⟩;simp_all
  let⟨b0,b1⟩:=bL;have aZ:uu D=g.base:=by
   have:=bc.g;rw[<- this];simp[uu,az.os,az.tape,az.output]
  rcases b1 with ⟨rfl,a4⟩|⟨b,bx,Z,rfl,_,b5,ae,an,aq,ar⟩
  .have bA:=a4;rw[<- a4];refine aV _ _ _ ⟨af,0,by grind,ad,bO _,λah=>absurd ah ad,rfl⟩ ⟨aZ,λ_=>af,aD,λ_=> .inl p,λ_ _ I=>bv,λj o h=>(aK j o h).1,⟨ad,ad,bO _,.inl ⟨rfl,bA,rfl⟩⟩,l⟩
  .apply aV _ _ _ ⟨(U b),bx,rfl,ae,an,λ_=>⟨b,rfl⟩,rfl⟩ ⟨aZ,λj=>if j=b then ab (.cells Z I (0,0))else af,aD,λj=>?_,λj o I=>?_,λj o h=>(aK j o h).1,⟨b0,ae,an,.inr ⟨b,Z,rfl,ao,aq,ar⟩⟩,l⟩
   .by_cases aJ:j=b
    .right;cases ah:aD j with
     |none=>rfl
     |some o=>exact absurd (by rw[aJ];rfl) (aK j o ah).2
    simp_all
   .replace I:(if j=b then ab (Obj.cells Z _ (0,0))else af)=ab o:=I
    by_cases aJ:j=b
    .subst aJ;rw[bJ p]at I;rw[<- I];trivial
    simp_all
 have aS:n+J<=maxLen:=by simp only[maxLen];omega
 unfold eg;have aF:∀R D,(q0 #[T,T] aO #[.slice A n c,.slice B J q]).run P O=.ok R D->(execOp a.eval ⟨d,.call ⟨.builtin .append,#[x,y],#[T,T]⟩,aO,pos,aT,a7⟩).run P O=.ok (.value R) D:=by
  intro R D ah;simp only[execOp,resolve,gY,fu,mX,a9.eval bU,a9.eval bV];simp only[cM,e5,dG,invoke,builtin,ah]
 rcases Nat.eq_zero_or_pos J with rfl|bI
 .have bY:ai=[]:=List.eq_nil_of_length_eq_zero ad;subst bY;rcases B with _|bw
  .have bS:(q0 #[T,T] aO #[.slice A n c,.slice af 0 q]).run P O=.ok (.slice A n c) O:=by
    rcases aL with ⟨rfl,rfl,rfl⟩|⟨b,Z,rfl,_⟩
    .simp[q0,run_underlying am,sizeOf,typeInfo,aA,x1,x0]
    .simp[q0,run_underlying am,sizeOf,typeInfo,aA,x1,x0,bi,storeCells]
   rw[aF _ _ bS];apply aG _ _ bo ⟨rfl,rfl,rfl,bC _,λ_ _ _=>rfl⟩ (.inl p) λY=>?_;simp only[KS]at Y;omega
  .let⟨R,D,ae,an,aq,ar,aI⟩:=run_append_own_at (P:=P) O 0 T aO I bh bn W av am aA a0 bb aY (by rw[bg,be]) aR (.slice A n c) n ap a8 bw 0 q [] ao ao ao aS aW (bO _);rw[aF _ _ ae];apply aG _ _ an aq aI λY=>?_;have:=ar.1 Y;simp[KS]at this;omega
 .obtain⟨b,o,rfl,bG⟩:=bR bI;let⟨R,D,ae,an,aq,ar,aI⟩:=run_append_own_at (P:=P) O 0 T aO I bh bn W av am aA a0 bb aY (by rw[bg,be]) aR (.slice A n c) n ap a8 ⟨b,o,af⟩ J q ai bP (λaB u am=>by
   rw[kT];exact bG aB u am) h1 aS aW (bO _)
  rw[aF _ _ ae];apply aG _ _ an aq aI λY=>?_;have:=ar.1 Y;omega
def dH{C D R n c j q:Nat}{A B:a3}{Z O ah:bz}[aG:eu P T (C,D,R)][aI:cG P C ah](aB:aX H x=ab (.slice A n c))(aD:aX H y=ab (.slice B j q))
  (az:eH (E C D A n c Z) L M) (W:bf L D B j O) (h1:∀u∈O,u.oneCell'=ag) (aE:aH (aa ah) D=ag) (ap:0<D) (ar:(n+j)*R<=140737488355328) (ax:n+j<=140737488355328):
  b6 P g L H ⟨d,.call ⟨.builtin .append,#[x,y],#[T,T]⟩,aO,pos,aT,a7⟩ λr ai=>∃J I,r=.slice J (n+j) I/\n+j<=I/\I<=maxLen/\(0<n+j->∃b,J=(U b))/\ai=E C D J (n+j) I (Z++O)::M:=λa aK aA Y K aJ aq=>
 MW aA Y aB aD az W.1 (λh=>let⟨b,o,C,am⟩:=W.2 h;⟨b,o,C,λaF u av=>(am aF u av).1 _ Y.s⟩) h1 aE ap ar ax aq
def n0{j J R:Nat}{aq}[ar:eu P T (j,J,R)][av:cG P j aq]:b6 P g L H ⟨d,.buildSlice T 0 #[],aO,pos,aT,a7⟩ λr D=>∃b,r=.slice (U b) 0 0/\D=E j J (U b) 0 0 []::L:=λa am Y Z K O W=>by
 refine Gp (R:=[]) (.inl ⟨rfl,rfl,rfl⟩) a am Y Z K O λv ap D ⟨b,h1,ae⟩ I=>?_;subst ae;exact W v ap _ ⟨b,h1,rfl⟩ ⟨I.g,C.fold (N:=[ah b j []]) (λh s=>by obtain⟨ax,az,_,ai,_,a,_⟩:=s;exact E.R4 ao (bO _) h ⟨ai _ _ a.eq⟩) I.s⟩
def a5.mono{L M}(j:aS M L){a v}(h:a5 L a v):a5 M a v:=⟨λ_ s=>h.1 _ (j _ s)⟩
def aU.mono{L M}(C:aS M L){b o n j}(h:aU L b o n j):aU M b o n j:=⟨h.1,λE v D=>(h.2 E v D).mono C⟩
def aU.ev{N L b o n j}(h:aU L b o n j):aU (N++L) b o n j:=⟨h.1,λD v C=>(h.2 D v C).ev⟩
def bf.mono{L M}(E:aS M L){j n A C}(h:bf L j A n C):bf M j A n C:=
 ⟨h.1,λJ=>let⟨b,o,D,g⟩:=h.2 J;⟨b,o,D,λO v I=>(g O v I).mono E⟩⟩
def Rd.mono{α:Type}[d3 α]{L M:Q}(j:aS M L){n:Nat}{A:a3}{l:List α}(h:Rd L A n l):Rd M A n l:=bf.mono j h
def eH.ev{N L j C}(h:eH C L j):eH C (N++L) (N++j):=by
 induction N with
 |nil=>exact h
 |cons A N D=>exact .ap D
def hB(j:Q):aG:=λh=>C j h
def Zm{K L M}(j:aS L M):aS (K++L) (hB K::M):=λ_ s=>(k4 j) _ (C.join s)
def acc{P E args j}(h:O P E args [old j.hm] λv C=>v=.bool ag/\C=[old j.hm]):
  Calls P E args j λD I=>D=.returned (.bool ag)/\Below j.heap.size j I:=by
 refine(yZ h (bj.start j)).mono λD I ⟨v,C,J,⟨R,U⟩,W⟩=>?_;subst R U;exact⟨J,W.below⟩
def Tc{C j A n D}(O:0<j)(h:oQ C j A n D):bf [old C.hm] j A n D:=by
 refine⟨h.1,λE=>?_⟩;obtain⟨b,o,rfl,U,I⟩:=h.2 (Nat.mul_pos E O);refine⟨b,o,rfl,λR v J=>a5.old ?_⟩;obtain⟨h1,rfl⟩:=h2.1 J;exact I R h1
def sg:List a2->Option (List Int)
 | []=>ab []
 | .int .i64 n::l=>match sg l with
  |some r=>ab (n::r)
  |none=>af
 | _=>af
theorem AO:∀{l:bz}{j},sg l=ab j->l=j.map (.int .i64)
 | [],j,h=>by simp[sg]at h;subst h;rfl
 |v::l,j,h=>by
  unfold sg at h;split at h
  .rename_i C;cases C
  .rename_i n E C
   cases C;cases D:sg l with
   |none=>rw[D]at h;cases h
   |some r=>rw[D]at h;simp at h;subst h;rw[AO D];rfl
  .cases h
def w4(r:bq->Nat->Bool)(D:bq->Option Nat):List Field->Nat->Nat->Bool
 | [],j,n=>aH j n
 |f::E,j,n=>aH f.offset j&&!(f.name== "_")&&(match D f.type with
  |some C=>r f.type C&&w4 r D E (j+C) n
  |none=>al)
def rH(P:bk):Nat->bq->Nat->Bool
 |0,_,_=>al
 |k+1,T,n=>match P.underlying T with
  |some (.int _)=>mf P T&&aH n 1
  |some (.struct j)=>pD P T n&&!P.stoodInHeld T&&w4 (rH P k) (λT=>(P.info? T).map (·.size)) j.toList 0 n
  | _=>al
def P8(P:bk)(T:bq):Bool:=match P.underlying T with
 |some (.struct _)=>ag
 | _=>al
def GB(P:bk)(T:bq)(n:Nat):Bool:=P8 P T&&rH P 8 T n&&!P.eqGuardType P.depth T
class ss (P:bk) (T:bq) (n:outParam Nat):Prop where
 h:GB P T n=ag:=by kernel_rfl
def sh(P:bk)(T:bq)(C:List Int):a2:=match P.underlying T with
 |some (.int _)=>j (C.headD 0)
 | _=> .agg (C.map (Value.int .i64)).toArray
theorem Sk{E T I}(h:rH P E T I=ag)(C:List Int)(j)(ah:j+I<=aa C)(D):
  (part T (C.map (Value.int .i64)).toArray j).run P D=.ok (sh P T ((C.drop j).take I)) D:=by
 cases E with
 |zero=>cases h
 |succ E=>
  unfold rH at h;unfold sh;cases Z:P.underlying T with
  |none=>simp_all
  |some J=>
   rw[Z]at h;cases J<;>first|(cases h;done)|skip
   .simp only[co]at h;let⟨h1,ae⟩:=h;have O:=cy ae;subst O;have Y:j<aa C:=ad;have W:((C.drop j).take 1).headD 0=C[j]:=by grind[sp]
    rw[W];simp[part,(dh.run ⟨h1⟩ D).1,Y]
   .simp[co]at h;let⟨⟨h1,ae⟩,an⟩:=h;let⟨R,U⟩:=hM.run ⟨h1⟩ D;simp only[part,cM,R,dG,if_true,U];simp
def OE{Z:Nat}(U n:Nat)(Y:∀(T:bq)(C:Nat),rH P Z T C=ag->∀(D E:List Int)(J:dd),aa D=C->aa E=C->(lO U T (sh P T D) (sh P T E)).run P J=.ok (decide (D=E)) J)
  (D E:List Int) (J:dd) (ah:aa D=n) (ai:aa E=n):∀(I:List Field) (j:Nat),w4 (rH P Z) (λT=>(P.info? T).map (·.size)) I j n=ag->j<=n->
  (AY U (D.map (Value.int .i64)).toArray (E.map (Value.int .i64)).toArray I).run P J=.ok (decide (D.drop j=E.drop j)) J
 | [],j,h,ar=>by
  have am:=cy h;subst am;simp[AY,vw (E6 ah),vw (E6 ai)]
 |f::I,j,h,ar=>by
  simp only[w4,co]at h;let⟨⟨h1,ae⟩,an⟩:=h;have ap:=cy h1;split at an
  .rename_i C aF
   simp only[co]at an;let⟨O,aq⟩:=an;have ax:j+C<=n:=by
    clear O Y;have:∀(I:List _) (R:Nat),w4 (rH P Z) (λT=>(P.info? T).map (·.size)) I R n=ag->R<=n:=by
     intro I
     induction I with
     |nil=>intro R W;exact E6 (cy W)
     |cons g aD aG=>
      intro R W;simp only[w4,co]at W;grind
    grind
   have aI:=OE U n Y D E J ah ai I _ aq ax;unfold AY;rw[bJ bo];have aA:aa (D.drop j)>=C:=bv;have aB:aa (E.drop j)>=C:=bo;have av:=Y _ C O ((D.drop j).take C) ((E.drop j).take C) J bo bo;simp only[cM,ap,Sk O D j ad,Sk O E j ad,dG,av];have aJ:D.drop j=(D.drop j).take C++D.drop (j+C):=by rw[<- A0,kk]
   have aK:E.drop j=(E.drop j).take C++E.drop (j+C):=by rw[<- A0,kk]
   have az:decide (D.drop j=E.drop j)=(decide ((D.drop j).take C=(E.drop j).take C)&&decide (D.drop (j+C)=E.drop (j+C))):=by
    rw[<- Bool.decide_and];apply decide_eq_decide.2;constructor
    .intro h;rw[<- A0,<- A0,h];simp
    grind
   rw[az];cases aE:decide ((D.drop j).take C=(E.drop j).take C)with
   |true=>trivial
   |false=>rfl
  trivial
def OK:∀(k)(T)(n),rH P k T n=ag->∀(d),k<=d->∀(C D)(j),aa C=n->aa D=n->(lO d T (sh P T C) (sh P T D)).run P j=.ok (decide (C=D)) j
 |0,_,_,h,_,_,_,_,_,_,_=>by cases h
 |k+1,T,n,h,d,ai,C,D,j,E,I=>by
  obtain⟨d,rfl⟩:∃J,d=J+1:=⟨d-1,ad⟩;unfold rH at h;unfold sh;cases O:P.underlying T with
  |none=>simp_all
  |some R=>
   rw[O]at h;cases R<;>first|(cases h;done)|skip
   .rename_i Z
    simp only[co]at h;have J:=cy h.2;subst J
    match C,D,E,I with
    | [a],[b],_,_=>
     rw[run_equalIn_int j d T _ Z _ _ O]
     congr 1
     grind
   .rename_i U
    simp[sk]at h;let⟨⟨h1,ae⟩,an⟩:=h;have W:P.fieldsOf T=U:=by simp[KP,O]
    rw[run_equalIn_struct j _ T _ _ bo ae,W];have:=OE d n (λT ah Y C D j E I=>OK k T ah Y d ad C D j E I) C D j E I _ 0 an (bO _);assumption
def GC{n}[I:ss P T n]{j C:List Int}(J:aa j=n)(O:aa C=n)(D):(eo T (.agg (j.map (Value.int .i64)).toArray) (.agg (C.map (Value.int .i64)).toArray)).run P D=.ok (decide (j=C)) D/\P.eqGuardType P.depth T=al:=by
 have h:=I.h;unfold GB at h;simp[co,sk]at h;let⟨⟨h1,ae⟩,an⟩:=h;refine⟨?_,an⟩;have E:∀j:List _,Value.agg (j.map (Value.int .i64)).toArray=sh P T j:=λj=>by
  grind[P8,sh]
 rw[E,E];exact OK 8 T n ae _ bL j C D J O
def zo{n E I C D}[W:ss P T n](O:aX H x=ab (.agg E.toArray))(R:aX H y=ab (.agg I.toArray))(h1:sg E=ab C)(ae:sg I=ab D)(an:aH (aa C) n=ag)(J:aH (aa D) n=ag):
  bh P L H ⟨d,.binOp .eql T x y ci,aO,pos,aT,a7⟩ (.bool (decide (C=D))):=by
 have Y:=AO h1;have Z:=AO ae;have U:=λj=>GC (P:=P) (T:=T) (cy an) (cy J) j;apply jU _ _ _ _ (λj=>run_eqGuard_agg j _ _ _ _ _ _ (U j).2) O R λj=>?_;show((do pure (.bool (<- eo T _ _)):Sem a2)).run P j= _;simp_all
def uh{n E I C D}[W:ss P T n](O:aX H x=ab (.agg E.toArray))(R:aX H y=ab (.agg I.toArray))(h1:sg E=ab C)(ae:sg I=ab D)(an:aH (aa C) n=ag)(J:aH (aa D) n=ag):
  bh P L H ⟨d,.binOp .neq T x y ci,aO,pos,aT,a7⟩ (.bool (decide (C≠D))):=by
 have Y:=AO h1;have Z:=AO ae;have U:=λj=>GC (P:=P) (T:=T) (cy an) (cy J) j;apply jU _ _ _ _ (λj=>run_eqGuard_agg j _ _ _ _ _ _ (U j).2) O R λj=>?_;show((do pure (.bool (!(<- eo T _ _))):Sem a2)).run P j= _;simp_all
inductive q9 where
 |i
 |b
 |ai
def ru:a2->q9->Bool
 | .int .i64 _,.i=>ag
 | .bool _,.b=>ag
 | .pointer _,.ai=>ag
 | _,_=>al
def lj:List a2->List q9->Bool
 | [],[]=>ag
 |v::C,c::j=>ru v c&&lj C j
 | _,_=>al
theorem UB:∀{C:bz}{j},lj C j=ag->aa C=aa j
 | [],[],_=>rfl
 | [],_:: _,h=>by cases h
 | _:: _,[],h=>by cases h
 |v::C,c::j,h=>by
  simp[lj,co]at h;simp[UB h.2]
def J2:∀(k){C:bz}{j},lj C j=ag->lj (C.drop k) (j.drop k)=ag
 |0,_,_,h=>h
 |k+1,[],[],_=>rfl
 |k+1,[],_:: _,h=>by cases h
 |k+1,_:: _,[],h=>by cases h
 |k+1,v::C,c::j,h=>by
  simp[lj,co]at h;exact J2 k h.2
theorem J4:∀(k){C:bz}{j},lj C j=ag->lj (C.take k) (j.take k)=ag
 |0,_,_,_=>by rfl
 |k+1,[],[],_=>by rfl
 |k+1,[],_:: _,h=>by cases h
 |k+1,_:: _,[],h=>by cases h
 |k+1,v::C,c::j,h=>by
  simp[lj,co]at h;simp[List.take_succ_cons,lj,h.1,J4 k h.2,Bool.and_self]
def uT:List q9->q9->Bool
 | [.i],.i=>ag
 | [.b],.b=>ag
 | [.ai],.ai=>ag
 | _,_=>al
theorem Iw{j c}(h:uT j c=ag):aa j=1:=by
 unfold uT at h;grind
def Iv{j c}(h:uT j c=ag):j=[c]:=by
 unfold uT at h;grind
def J3{j c}(h:lj j [c]=ag):∃v,j=[v]/\ru v c=ag:=by
 match j,h with
 | [],h=>cases h
 | [v],h=>exact⟨v,rfl,by simpa[lj]using h⟩
 | _:: _:: _,h=>simp[lj]at h
def Yx{v}(h:ru v .i=ag):∃n,v=j n:=by
 unfold ru at h;grind
def Yw{v}(h:ru v .b=ag):∃n,v=.bool n:=by
 unfold ru at h;grind
def Yy{v}(h:ru v .ai=ag):∃n,v=.pointer n:=by
 unfold ru at h;grind
def u5(P:bk):Nat->bq->List q9->Bool
 |0,_,_=>al
 |k+1,T,C=>match P.underlying T with
  |some (.int _)=>mf P T&&uT C .i
  |some .bool=>mf P T&&uT C .b
  |some (.pointer j)=>mf P T&&uT C .ai&&(P.info? j).isSome&&!aH (P.cellsOf j) 0
  |some (.struct I)=>pD P T (aa C)&&!P.stoodInHeld T&&I.toList.all λD=>da (D.offset+P.cellsOf D.type) (aa C)&&u5 P k D.type ((C.drop D.offset).take (P.cellsOf D.type))
  |some (.array n j)=>pD P T (aa C)&&(P.info? j).isSome&&(gZ n).all λE=>da (E*P.cellsOf j+P.cellsOf j) (aa C)&&u5 P k j ((C.drop (E*P.cellsOf j)).take (P.cellsOf j))
  | _=>al
def BJ(P:bk)(T:bq):Bool:=match P.underlying T with
 |some (.struct _)=>ag
 |some (.array _ _)=>ag
 | _=>al
def vi(P:bk)(T:bq)(j:bz):a2:=if BJ P T then .agg j.toArray else j.headD undef
def Sl{I T E}(h:u5 P I T E=ag)(j:bz)(C)(Z:C+aa E<=aa j)(D):
  (part T j.toArray C).run P D=.ok (vi P T ((j.drop C).take (aa E))) D:=by
 cases I with
 |zero=>cases h
 |succ I=>
  unfold u5 at h;unfold vi BJ;have one:mf P T=ag->aa E=1->(part T j.toArray C).run P D=.ok (((j.drop _).take (aa E)).headD _) D:=λh1 ae=>by
   rw[ae]at Z ⊢;have W:C<aa j:=ad;have U:((j.drop C).take 1).headD undef=j[C]:=by grind[sp]
   rw[U];simp[part,(dh.run ⟨h1⟩ D).1,W]
  have ah:pD P T (aa E)=ag->(part T j.toArray C).run P D=.ok (.agg ((j.drop C).take (aa E)).toArray) D:=λh1=>by
   let⟨O,R⟩:=hM.run ⟨h1⟩ D;simp only[part,cM,O,dG,if_true,R];simp
  cases Y:P.underlying T with
  |none=>simp_all
  |some J=>
   rw[Y]at h;cases J<;>first|(cases h;done)|skip
   all_goals simp[co]at h
   case bool=>exact one h.1 (Iw h.2)
   case int=>exact one h.1 (Iw h.2)
   case pointer=>grind[Iw]
   case struct=>simp_all
   simp_all
def D7:∀(k)(T)(Y),u5 P k T Y=ag->∀(d),k<=d->∀(D)(j),lj D Y=ag->(lO d T (vi P T D) (vi P T D)).run P j=.ok ag j
 |0,_,_,h,_,_,_,_,_=>by cases h
 |k+1,T,Y,h,d,aG,D,j,O=>by
  obtain⟨d,rfl⟩:∃C,d=C+1:=⟨d-1,ad⟩;have aI:=UB O;unfold u5 at h;unfold vi BJ;cases J:P.underlying T with
  |none=>simp_all
  |some aq=>
   rw[J]at h;cases aq<;>first|(cases h;done)|skip
   all_goals simp only[co]at h
   case bool=>
    have R:=Iv h.2;subst R;obtain⟨v,rfl,W⟩:=J3 O;obtain⟨b,rfl⟩:=Yw W;simpa using run_equalIn_bool j d T b b J
   case int aD=>
    have R:=Iv h.2;subst R;obtain⟨v,rfl,W⟩:=J3 O;obtain⟨a,rfl⟩:=Yx W;simpa using run_equalIn_int j d T .i64 aD a a J
   case pointer C=>
    let⟨⟨⟨h1,ae⟩,an⟩,aF⟩:=h;let⟨aA,ah⟩:=LY.1 an;have az:P.cellsOf C≠0:=λaE=>by simp_all
    have R:=Iv ae;subst R;obtain⟨v,rfl,W⟩:=J3 O;obtain⟨q,rfl⟩:=Yy W
    .cases q with
     |none=>simp[lO,cM,run_underlying J]
     |some a=>simp[lO,cM,run_underlying J,run_sizeOf j ah,az,sameAddr]
   case struct ap=>
    let⟨⟨h1,ae⟩,an⟩:=h;simp only[sk]at ae;have ar:P.fieldsOf T=ap:=by simp[KP,J]
    simp only[if_true];rw[run_equalIn_struct j _ T _ _ bo ae,ar];rw[nL]at an;generalize ap.toList=U at an
    induction U with
    |nil=>rfl
    |cons I U aB=>
     have E:=an I (ll ..);simp only[co]at E;have av:=fq E.1;have ai:aa ((Y.drop I.offset).take (P.cellsOf I.type))=P.cellsOf I.type:=bv;have am:=Sl E.2 D I.offset ad j;rw[ai]at am;have ax:=D7 k I.type _ E.2 d ad ((D.drop I.offset).take (P.cellsOf I.type)) j (J4 _ (J2 _ O));unfold AY;simp_all
   case array n C=>
    let⟨⟨h1,ae⟩,an⟩:=h;let⟨aA,ah⟩:=LY.1 ae;simp only[if_true];rw[run_equalIn_array j d D.toArray D.toArray J ah];rw[nL]at an;generalize gZ n=U at an
    induction U with
    |nil=>rfl
    |cons Z U aB=>
     have E:=an Z (ll ..);simp only[co]at E;have av:=fq E.1;have ai:aa ((Y.drop (Z*P.cellsOf C)).take (P.cellsOf C))=P.cellsOf C:=bv;have am:=Sl E.2 D (Z*P.cellsOf C) ad j;rw[ai]at am;have ax:=D7 k C _ E.2 d ad ((D.drop (Z*P.cellsOf C)).take (P.cellsOf C)) j (J4 _ (J2 _ O));unfold Op.eqItems;simp_all
def D6(P:bk)(T:bq)(j:List q9):Bool:=BJ P T&&u5 P 8 T j&&!P.eqGuardType P.depth T
class BE (P:bk) (T:bq) (j:outParam (List q9)):Prop where
 h:D6 P T j=ag
def ZS{E C}[I:BE P T E](O:aX H x=ab (.agg C.toArray))(R:aX H y=ab (.agg C.toArray))(h1:lj C E=ag):bh P L H ⟨d,.binOp .eql T x y ci,aO,pos,aT,a7⟩ (.bool ag):=by
 have h:=I.h;unfold D6 at h;simp[sk]at h;let⟨⟨ae,an⟩,J⟩:=h;apply jU _ _ _ _ (λj=>run_eqGuard_agg j _ _ _ _ _ _ J) O R λj=>?_;show((do pure (.bool (<- eo T _ _)):Sem a2)).run P j= _;have D:=D7 8 T E an nK bL C j h1;unfold vi at D;rw[bJ ae]at D;have U:(eo T _ _).run P j=.ok _ j:=D;simp_all
def OY{E C}[I:BE P T E](O:aX H x=ab (.agg C.toArray))(R:aX H y=ab (.agg C.toArray))(h1:lj C E=ag):bh P L H ⟨d,.binOp .neq T x y ci,aO,pos,aT,a7⟩ (.bool al):=by
 have h:=I.h;unfold D6 at h;simp[sk]at h;let⟨⟨ae,an⟩,J⟩:=h;apply jU _ _ _ _ (λj=>run_eqGuard_agg j _ _ _ _ _ _ J) O R λj=>?_;show((do pure (.bool (!(<- eo T _ _))):Sem a2)).run P j= _;have D:=D7 8 T E an nK bL C j h1;unfold vi at D;rw[bJ ae]at D;have U:(eo T _ _).run P j=.ok _ j:=D;simp_all
structure bR (b:Nat) (o:Obj) (h:j5):Prop where
 eq:h b=ab o
variable{w:dd}
theorem bj.jH{b o}(h:bj g (bR b o::L) w):w.heap[b]?=ab o:=by
 let⟨h1,ae,d,j,C,a,l⟩:=h.s;exact j _ _ a.eq
theorem bj.wb(h:bj g L w)(o):bj g (bR w.heap.size o::L) (w.alloc o):=by
 refine⟨h.g,λj=>if j=w.heap.size then ab o else af,w.hm,λj=>?_,λj I C=>?_,λj I C=>?_,⟨ao⟩,h.s⟩
 .by_cases D:j=w.heap.size
  .right;subst D;simp[World.hm]
  simp_all
 .replace C:(if j=w.heap.size then ab o else af)=ab I:=C
  by_cases D:j=w.heap.size
  .subst D;rw[bJ p]at C;show(w.heap.push _)[_]?= _;simp_all
  simp_all
 .have D:j<w.heap.size:=by
   rcases dZ j _ with E|E
   .omega
   .simp[World.hm,tH E]at C
  show(w.heap.push _)[j]?= _;rw[Kk,a8 ad];exact C
theorem bj.fU{b o}(h:bj g (bR b o::L) w)(C):bj g (bR b C::L) (w.putObj b C):=by
 have I:=h.jH;have J:=(vq.1 I).1;let⟨h1,ae,d,Y,R,a,l⟩:=h.s;have U:=a.eq;have O:∀j,j≠b->(w.putObj b C).hm j=w.hm j:=λj D=>World.putObj_heap_other D;have W:(w.putObj b C).hm b=ab C:=World.putObj_heap_same J;refine⟨h.g,λj=>if j=b then ab C else af,ae,λj=>?_,λj o e=>?_,λj o e=>?_,⟨ao⟩,l⟩
 .by_cases D:j=b
  .right;rcases d j with e|e
   .simp_all
   omega
  simp_all
 .simp_all
 .by_cases D:j=b
  .rcases d j with E|E
   .simp_all
   simp_all
  .rw[O j D];exact R j o e
def bj.Uz(j:bj g L w):bj g ((λ_=>True)::L) w:=⟨j.g,λ_=>af,w.hm,λ_=> .inl p,λ_ _ C=>bv,eV.refl _,trivial,j.s⟩
def mk(j:List Nat):List Deferred:=j.map λd=>⟨.collected d,#[]⟩
def kr(j:List Nat):List aG:=j.map λd=>bR d (.deferred (ab []))
def afO{P fn H L D j}(I:fn.results=D.toArray)(h:iq P H L D j){a w}(J:fP H a)(O:C L w.hm):(results fn a.tmps).run P w=.ok (cs j) w:=by
 unfold results;rw[I];simp only[yh,cM,x8];have U:=h.run J O;generalize W:yg (m:=Sem) _ D=R;have E:R.run P w=.ok j w:=bv;rw[E];cases j with
 |nil=>rfl
 |cons v l=>cases l<;>simp[cs]
def Tl(P:bk)(fn:Func)(g:d1)(F:aG)(I:a2->List aG->Prop):jK->fh->dd->Prop
 | .normal,a,w| .ret,a,w=>∃(C:List Nat) (M j:Q) (H:cU) (D:List ResultVar) (E:bz),a.defers=mk C/\fP H a/\fn.results=D.toArray/\iq P H M D E/\(aS M (F::j))/\I (cs E) j/\bj g (kr C++M) w
 | _,_,_=>False
def Df{P fn g F}{W:a2->List aG->Prop}{M D:Q}{H Y}{E:bz}{a}(U:fP H a)(R:fn.results=Y.toArray)(h:iq P H M Y E)(J:aS M (F::D))(O:W (cs E) D):
  ∀(C) (w),bj g (kr C++M) w->LeavesInM EL 0 P fn a.tmps (λZ ah=>∃v I,Z=.returned v/\W v I/\bj g (F::I) ah) (mk C) .returning w
 | [],w,j=>⟨cs E,afO R h U j.s,_,D,rfl,O,j.mono J⟩
 |d::C,w,j=>⟨ao,.inl ⟨d,w.putObj d (.deferred af),rfl,run_takeDeferred (bj.jH j),Df U R h J O C _ ((bj.fU j _).mono λ_ s=>s.tail)⟩⟩
def vI{R c args U}(Z:P.funcs[R]?=ab fn)(Y:fn.body=ab c)(av:fn.ntmps=n)(ar:da (aa args) n=ag)
  (h:∀g F,g.base=g->G P (Tl P fn g F U) g n [.code c] (nc args 0) (F::L)):O P R args.toArray L U:=λg F w ah=>by
 apply(callsIn_wide (n:=0)).1 (callsIn_of_wp_marks Z Y trivial _);have ax:args.toArray.size<=fn.ntmps:=bo;have:=h _ F p {tmps:=args.toArray++oz (fn.ntmps-args.toArray.size) undef,defers:=[]} w ⟨by simp_all,rfl,λam v C=>?_⟩ ah.base
 .apply oA (λC a w h=>?_) this;cases C with
  |normal=>
   let⟨j,M,W,τ,ai,ap,h1,ae,an,D,E,I,J⟩:=h;show LeavesInM _ _ _ _ _ _ _ _ _;rw[h1];exact Df ae an D E I j w J.pg
  |ret=>
   let⟨j,M,W,τ,ai,ap,h1,ae,an,D,E,I,J⟩:=h;show LeavesInM _ _ _ _ _ _ _ _ _;rw[h1];exact Df ae an D E I j w J.pg
  | _=>trivial
 .obtain⟨az,rfl,aq⟩:=wc _ 0 am v C;grind
def vP{I D E j M F R}(C)(Z:g.base=I.base)(Y:g.l3=mk C)(ai:fn.results=D.toArray)(h:iq P H M D E)(U:aS L (kr C++M))(W:aS M (F::j))(ah:R (cs E) j):
  G P (Tl P fn I F R) g n (.code .ret::K) H L:=λa w J O=>
 wpIn_ret (vW ⟨C,M,j,H,D,E,J.defers.trans Y,J.e,ai,h,W,ah,⟨O.g.trans Z,U _ O.s⟩⟩)
def d1.vj(g:d1)(d:Nat):d1:={g with l3:=⟨.collected d,#[]⟩::g.l3}
def Mg{ah D assign body W R U}{am:Option sl->List aG->Prop}[aA:cu P W](aM:g.ie=af)(aK:aX H ah=ab (.func (.func W) R.toArray U.toArray))
  (aJ:∀(l d) (C) (tmps),tmps.size=n->fP H ⟨tmps,[]⟩->O P W (R++[Value.func (.yield l) #[] #[]]++U).toArray (bR l (.loop ⟨.ready,af,C,tmps,D,assign,body,d⟩)::bR d (.deferred (ab []))::L)
   λv ar=>∃ap J j,ap≠ .busy/\am J j/\ar=bR l (.loop ⟨ap,J,C,tmps,D,assign,body,d⟩)::bR d (.deferred (ab []))::j)
  (aE:∀d j,am af j->G P B (g.vj d) n K H (bR d (.deferred (ab []))::j))
  (aF:∀d c j,am (ab c) j->G P B (g.vj d) n (.code c::K) H (bR d (.deferred (ab []))::j)):
  G P B g n (.code (.rangeFunc ah D assign body)::K) H L:=λa w I aL=>by
 show(Code.rangeFunc ah D _ _).wpIn _ 0 P _ a w;apply wpIn_rangeFunc λC _=>?_;have h1:=(aL.wb (.deferred (ab []))).wb (.loop {state:=.ready,pending:=af,fn:=C,tmps:=a.tmps,params:=D,assign:=assign,body:=body,defers:=w.heap.size});have ai:=yZ (aJ _ _ C _ I.size (λaq v E=>I.e aq v E)) h1;rw[World.size_alloc]at h1 ai;have aD:=run_enterLoop_outer (P:=P) (w:=w) C a.tmps D assign body;generalize(w.alloc _).alloc _=Y at h1 ai aD;refine⟨w.heap.size+1,[⟨.collected w.heap.size,#[]⟩],Y,⟨.fn (.func W) U.toArray,R.toArray++ #[Value.func (.yield (w.heap.size+1)) #[] #[]]⟩,Y,W,(R++[Value.func _ _ _]++U).toArray,Y,?_,?_,λ_ _=>trivial,?_,(λE=>by cases E),(callsIn_wide).2 (ai.mono ?_)⟩
 .simp_all[lE]
 .have aB:a.eval (.const _)=Value.func (.yield (w.heap.size+1)) #[] #[]:=rfl;simp only[resolve,I.e.eval aK,oB,e5,aB,gY,fu,mX]
 .have:=aA.run (R++[Value.func (.yield (w.heap.size+1)) #[] #[]]++U).toArray Y;simpa[invoke]using this
 .rintro E aP ⟨v,ar,rfl,⟨ap,J,j,aI,av,rfl⟩,az⟩;refine⟨J,_,run_endLoop az.jH aI,?_⟩;have Z:=(az.fU (.loop ⟨.exhausted,J,C,a.tmps,D,assign,body,w.heap.size⟩)).mono λ_ s=>s.tail;have ax:fW (g.vj w.heap.size) n H {a with defers:=[⟨.collected w.heap.size,#[]⟩]++a.defers}:=⟨I.size,by rw[I.defers];rfl,λaq v E=>I.e aq v E⟩;cases J with
  |none=>exact aE _ _ av _ _ ax ⟨Z.g,Z.s⟩
  |some c=>exact aF _ c _ av _ _ ax ⟨Z.g,Z.s⟩
def iP(P:bk)(l:Nat)(args:bz)(L:Q)(J:Bool->List aG->Prop):Prop:=
 ∀g F w,bj g (F::L) w->∃fn E C D,(Instr.yield l args.toArray).run P w=.ok (.round l fn E C D) w/\
  RoundIn EL 0 P l fn E C D w λI O=>∃b j,I=.returned (.bool b)/\J b j/\bj g (F::j) O
def iP.frame{l args L M E}(gd)(h:iP P l args L E)(U:aS M (gd++L)):iP P l args M λb I=>∃j,E b j/\I=gd++j:=by
 intro g F w Y;have h1:=Y.mono λai s=>C.join (N:=F::gd) (s.bl U);let⟨fn,ah,J,O,D,W⟩:=h g _ w h1;exact⟨fn,ah,J,O,D,W.mono λD am ⟨b,j,R,Z,q⟩=>⟨b,_,R,⟨j,Z,rfl⟩,q.mono λ_ s=>C.part s⟩⟩
def iP.mono{l args L D E}(h:iP P l args L D)(U:∀b j,D b j->E b j):iP P l args L E:=λg F w Y=>by
 let⟨fn,ah,J,O,C,W⟩:=h g F w Y;exact⟨fn,ah,J,O,C,W.mono λC ai ⟨b,I,R,Z,q⟩=>⟨b,I,R,U _ _ Z,q⟩⟩
def vN{D q I W aO pos aT R O l args U}(aq:eb n D=ag)
  (ar:aX H q=ab (.func (.yield l) #[] #[])) (ap:hw H I=ab args) (ax:iP P l args L U) (h:∀b C,U b C->du P B g n R O K (eM H D (.bool b)) C):
  du P B g n R (⟨D,.call ⟨.value q,I.toArray,W⟩,aO,pos,aT,af⟩::O) K H L:=λa w E av=>by
 apply wpListIn_plain p λaB ai=>⟨λ_ _=>trivial,?_⟩;let⟨ah,aA,Y,Z,J,am⟩:=ax g _ w av.Uz;rw[KN _ _ _ (λc j=>by grind)];have j:(execOp a.eval ⟨D,.call ⟨.value q,I.toArray,W⟩,aO,pos,aT,af⟩).run P w=.ok (.round l ah aA Y Z) w:=by
  simp[execOp,resolve,E.e.eval ar,oB,invoke,gY,mO E.e ap];simp_all
 rw[j];refine⟨(λj=>by cases j),RoundIn.mono am λj aD ⟨b,C,J,az,q⟩=>?_⟩;subst J;exact ai _ _ (h b C az _ _ (E.lJ _ aq) (q.mono λ_ s=>s.tail))
def xM(g:d1)(F:aG)(l:Nat)(C:LoopState->Option sl->Obj)(D:Bool->List aG->Prop):jK->fh->dd->Prop
 | .normal,_,w=>∃j,D ag (bR l (C .ready af)::j)/\bj g (F::bR l (C .busy af)::j) w
 | .ret,_,w=>∃j,D al (bR l (C .done (ab .ret))::j)/\bj g (F::bR l (C .busy af)::j) w
 | .exit id,_,w=>∃j,D al (bR l (C .done (ab (.exit id)))::j)/\bj g (F::bR l (C .busy af)::j) w
 | _,_,_=>False
def ki{F l j C}:oh (xM g F l j C):=λ_ _ _ h=>h
def W8{ι:Type}{τ:ι->cU}{M:ι->List aG}{Fy:ι->Prop}{l d:Nat}{R:dc}{E:Array a2}{D:Tmp}{x:a2}{I J:sl}{ap:cU}{am:Bool->List aG->Prop}{O:LoopState->Option sl->Obj}(az:O=λaL q=> .loop ⟨aL,q,R,E,#[D],I,J,d⟩)(aE:E.size=n)(aK:fP ap ⟨E,[]⟩)(aA:eY D n=ag)
  (av:∀g F,g.ie=ab l->g.l3=[]->G P (λ_ _ _=>False) g n [.code I,.inv (λa w=>∃y,Fy y/\fW g n (τ y) a/\bj g (F::bR l (O .ready af)::M y) w)] ((D,x)::ap) (F::bR l (O .ready af)::L))
  (ax:∀g F y,Fy y->g.ie=ab l->g.l3=[]->G P (xM g F l O am) g n [.code J] (τ y) (F::bR l (O .busy af)::M y)):
  iP P l [x] (bR l (O .ready af)::L) am:=λg F w Z=>by
 subst az;have aF:=Z.mono λ_ s=>s.swap;have aP:=run_yield (P:=P) (args:=[x].toArray) aF.jH p;refine⟨R,E.setIfInBounds D x,I,J,by simp_all,roundIn_of_wpIn trivial ?_⟩;have aB:fW ⟨g.os,g.tape,g.output,[],ab l⟩ n _ _:=⟨aE,rfl,aK⟩;have h1:=av _ F p p _ w (aB.put x aA) ⟨Z.g,Z.s⟩;apply oA (λY aq aQ h=>?_) h1;cases Y with
 |normal=>
  let⟨y,ar,aD,aI⟩:=h;have ai:=aI.mono λ_ s=>s.swap;refine⟨_,run_beginRound ai.jH p,?_⟩;have aJ:=(ai.fU (.loop ⟨.busy,af,R,E,#[D],I,J,d⟩)).mono λ_ s=>s.swap;have ae:=ax _ F y ar p p aq _ aD aJ;apply oA (λY aM aR an=>?_) ae;cases Y with
  |normal=>
   let⟨ah,U,W⟩:=an;have j:=W.mono λ_ s=>s.swap;have C:=(j.fU (.loop ⟨.ready,af,R,E,#[D],I,J,d⟩)).mono λ_ s=>s.swap;exact⟨_,_,run_endRound _ j.jH,ag,_,rfl,U,⟨C.g,C.s⟩⟩
  |ret=>
   let⟨ah,U,W⟩:=an;have j:=W.mono λ_ s=>s.swap;have C:=(j.fU (.loop ⟨.done,ab .ret,R,E,#[D],I,J,d⟩)).mono λ_ s=>s.swap;exact⟨_,_,run_endRound (ab .ret) j.jH,al,_,rfl,U,⟨C.g,C.s⟩⟩
  |exit id=>
   let⟨ah,U,W⟩:=an;have j:=W.mono λ_ s=>s.swap;have C:=(j.fU (.loop ⟨.done,ab (.exit id),R,E,#[D],I,J,d⟩)).mono λ_ s=>s.swap;exact⟨_,_,run_endRound (ab (.exit id)) j.jH,al,_,rfl,U,⟨C.g,C.s⟩⟩
  | _=>trivial
 | _=>exact h.elim
def WP(P:bk)(n:Nat)(H:cU)(l:Nat)(I:Tmp)(D E:sl)(j:LoopState->Option sl->Obj):Prop:=
 ∀{ι:Type} {τ:ι->cU} {M:ι->List aG} {Fy:ι->Prop} {x:a2} {L:Q} {C:Bool->List aG->Prop},
  (∀g F,g.ie=ab l->g.l3=[]->G P (λ_ _ _=>False) g n [.code D,.inv (λa w=>∃y,Fy y/\fW g n (τ y) a/\bj g (F::bR l (j .ready af)::M y) w)] ((I,x)::H) (F::bR l (j .ready af)::L))->
  (∀g F y,Fy y->g.ie=ab l->g.l3=[]->G P (xM g F l j C) g n [.code E] (τ y) (F::bR l (j .busy af)::M y))->
  iP P l [x] (bR l (j .ready af)::L) C
def yw{Z}{C:Tmp}{I J R W Y}{U:Option sl->List aG->Prop}[aF:cu P R](aA:g.ie=af)(ax:eY C n=ag)(az:aX H Z=ab (.func (.func R) W.toArray Y.toArray))
  (av:∀(l d) (E),WP P n H l C I J E->O P R (W++[Value.func (.yield l) #[] #[]]++Y).toArray (bR l (E .ready af)::bR d (.deferred (ab []))::L)
   λv ah=>∃D q j,D≠ .busy/\U q j/\ah=bR l (E D q)::bR d (.deferred (ab []))::j)
  (aq:∀d j,U af j->G P B (g.vj d) n K H (bR d (.deferred (ab []))::j))
  (ar:∀d c j,U (ab c) j->G P B (g.vj d) n (.code c::K) H (bR d (.deferred (ab []))::j)):
  G P B g n (.code (.rangeFunc Z #[C] I J)::K) H L:=
 Mg aA az (λl d ai aE aB aD=>av l d (λD q=> .loop ⟨D,q,ai,aE,#[C],I,J,d⟩) λam ap=>W8 p aB aD ax am ap) aq ar
def vR{ι:Type}{τ:ι->cU}{M:ι->List aG}{Fy:ι->Prop}{F l r}(y)(C:Fy y)(I:uf H (τ y))(j:aS L (F::bR l r::M y)):
  G P B g n [.inv (λa w=>∃y,Fy y/\fW g n (τ y) a/\bj g (F::bR l r::M y) w)] H L:=λ_ _ D E=>⟨y,C,D.sub I,E.mono j⟩
def vQ{F l C D}(j)(I:D ag (bR l (C .ready af)::j))(E:aS L (F::bR l (C .busy af)::j)):
  G P (xM g F l C D) g n [] H L:=λ_ _ _ J=>⟨j,I,J.mono E⟩
structure aj where
 id:Int
 x:Int
 y:Int
 deriving DecidableEq
instance:d3 aj:=⟨3,λC=>[j C.id,j C.x,j C.y],λ_=>rfl,λC v h=>by
 simp at h;rcases h with rfl|rfl|rfl<;>rfl⟩
structure jp where
 ai:aj
 low:Int
 high:Int
 deriving DecidableEq
instance:d3 jp:=⟨5,λC=>[j C.ai.id,j C.ai.x,j C.ai.y,j C.low,j C.high],λ_=>rfl,λD v h=>by
 simp at h;rcases h with rfl|rfl|rfl|rfl|rfl<;>rfl⟩
def aj.less(j q:aj):Bool:=if j.x≠q.x then decide (j.x<q.x)else if j.y≠q.y then decide (j.y<q.y)else decide (j.id<q.id)
def aj.kw(j:aj):aj:=⟨j.id,j.y,j.x⟩
def aj.cmp(j q:aj):Int:=if j=q then 0 else if j.less q then-1 else 1
def up(j q:aj):Int:=j.kw.cmp q.kw
def UI(j q)(h:up j q<=0):j.y<=q.y:=by grind[aj.kw,aj.less,up,aj.cmp]
def UH(j q)(h:0<up j q):q.y<=j.y:=by grind[aj.kw,up,aj.cmp,aj.less]
def eE:Int->Int->List aj->List aj->List jp
 | _,_,[],[]=>[]
 |i,j,a::l,[]=>⟨a,i,j⟩::eE (i+1) j l []
 |i,j,[],b::C=>⟨b,i,j⟩::eE i (j+1) [] C
 |i,j,a::l,b::C=>if up a b<=0 then⟨a,i,j⟩::eE (i+1) j l (b::C)else⟨b,i,j⟩::eE i (j+1) (a::l) C
 termination_by _ _ l C=>aa l+aa C
theorem adC(C D a l j)(h:∀b E,j=b::E->up a b<=0):eE C D (a::l) j=⟨a,C,D⟩::eE (C+1) D l j:=by
 cases j with
 |nil=>rw[eE]
 |cons b j=>rw[eE,bJ (h b j p)]
theorem adD(j C b l D)(h:∀a E,l=a::E->¬up a b<=0):eE j C l (b::D)=⟨b,j,C⟩::eE j (C+1) l D:=by
 cases l with
 |nil=>rw[eE]
 |cons a l=>rw[eE,a8 (h a l p)]
theorem zZ:∀(i C)(l j),aa (eE i C l j)=aa l+aa j
 | _,_,[],[]=>by simp[eE]
 |i,C,a::l,[]=>by rw[eE,f0,zZ];rfl
 |i,C,[],b::j=>by rw[eE,f0,zZ];rfl
 |i,C,a::l,b::j=>by
  rw[eE];split
  .rw[f0,zZ];grind
  .rw[f0,zZ];rfl
 termination_by _ _ l j=>aa l+aa j
def vM(j:aj->Bool):Prop:=∀C q,C.y<=q.y->j q=ag->j C=ag
def Ord:List aj->Prop
 | []=>True
 |a::l=>(∀b∈l,a.y<=b.y)/\Ord l
def tg:∀(i D)(l C)(j),j∈eE i D l C->j.ai∈l\/j.ai∈C
 | _,_,[],[],j,h=>by simp[eE]at h
 |i,D,a::l,[],j,h=>by
  rw[eE,df]at h;rcases h with rfl|h
  .simp
  .rcases tg _ _ _ _ _ h with h|h
   .simp_all
   trivial
 |i,D,[],b::C,j,h=>by
  rw[eE,df]at h;rcases h with rfl|h
  .simp
  .rcases tg _ _ _ _ _ h with h|h
   .grind
   simp_all
 |i,D,a::l,b::C,j,h=>by
  rw[eE]at h;split at h
  .rcases df.1 h with rfl|h
   .simp
   .rcases tg _ _ _ _ _ h with h|h
    .simp_all
    simp_all
  .rcases df.1 h with rfl|h
   .simp
   .rcases tg _ _ _ _ _ h with h|h
    .simp_all
    simp_all
 termination_by _ _ l C=>aa l+aa C
def z0:∀(i E:Int)(l C:List aj),Ord l->Ord C->Ord ((eE i E l C).map (·.ai))
 | _,_,[],[],_,_=>by simp[eE,Ord]
 |i,E,a::l,[],h1,ae=>by
  rw[eE,fu];refine⟨λb O=>?_,z0 _ _ _ _ h1.2 ae⟩;obtain⟨I,j,rfl⟩:=lm.1 O;rcases tg _ _ _ _ _ j with h|h
  .exact h1.1 _ h
  trivial
 |i,E,[],b::C,h1,ae=>by
  rw[eE,fu];refine⟨λc D=>?_,z0 _ _ _ _ h1 ae.2⟩;obtain⟨I,j,rfl⟩:=lm.1 D;rcases tg _ _ _ _ _ j with h|h
  .grind
  .exact ae.1 _ h
 |i,E,a::l,b::C,h1,ae=>by
  rw[eE];split
  .rename_i J
   rw[fu];refine⟨λc D=>?_,z0 _ _ _ _ h1.2 ae⟩;obtain⟨I,j,rfl⟩:=lm.1 D;rcases tg _ _ _ _ _ j with h|h
   .exact h1.1 _ h
   .have:=UI _ _ J;rcases df.1 h with h|h
    .simp_all
    .exact KZ this (ae.1 _ h)
  .rename_i J
   rw[fu];refine⟨λc D=>?_,z0 _ _ _ _ h1 ae.2⟩;obtain⟨I,j,rfl⟩:=lm.1 D;have:=UH _ _ (by omega:0<up a b);rcases tg _ _ _ _ _ j with h|h
   .rcases df.1 h with h|h
    .simp_all
    .exact KZ this (h1.1 _ h)
   .exact ae.1 _ h
 termination_by _ _ l C=>aa l+aa C
theorem xm(D:aj->Bool):∀(i C:Int)(l j:List aj),((eE i C l j).map (·.ai)).countP D=l.countP D+j.countP D
 | _,_,[],[]=>by simp[eE]
 |i,C,a::l,[]=>by rw[eE,fu,mv,xm,mv];rfl
 |i,C,[],b::j=>by rw[eE,fu,mv,xm,mv];simp
 |i,C,a::l,b::j=>by
  rw[eE];split
  .rw[fu,mv,xm];grind
  .rw[fu,mv,xm];grind
 termination_by _ _ l j=>aa l+aa j
def uU{j}(D:vM j){a}{l:List aj}(I:∀b∈l,a.y<=b.y)(J:j a=al):l.countP j=0:=by
 rw[List.countP_eq_zero];intro b C E;have:=D a b (I b C) E;simp_all
def zY{j}(C:vM j):∀(i I)(l E),Ord l->Ord E->∀D,(eE i I l E)[l.countP j+E.countP j]?=ab D->D.low=i+l.countP j/\D.high=I+E.countP j
 | _,_,[],[],_,_,D,h=>by simp[eE]at h
 |i,I,a::l,[],h1,ae,D,h=>by
  rw[eE]at h;cases J:j a with
  |true=>
   have:=zY C (i+1) I l [] h1.2 ae D bo;grind
  |false=>
   have z:=uU C h1.1 J;grind
 |i,I,[],b::E,h1,ae,D,h=>by
  rw[eE]at h;cases O:j b with
  |true=>
   have:=zY C i (I+1) [] E h1 ae.2 D bo;grind
  |false=>
   have z:=uU C ae.1 O;grind
 |i,I,a::l,b::E,h1,ae,D,h=>by
  rw[eE]at h;split at h
  .rename_i R
   cases J:j a with
   |true=>
    have:=zY C (i+1) I l (b::E) h1.2 ae D (by
     grind)
    grind
   |false=>
    have z:=uU C h1.1 J;have O:j b=al:=by
     cases O:j b with
     |false=>rfl
     |true=>have:=C a b (UI _ _ R) O;simp_all
    have W:=uU C ae.1 O;grind
  .rename_i R
   have U:=UH _ _ (by omega:0<up a b);cases O:j b with
   |true=>
    have:=zY C i (I+1) (a::l) E h1 ae.2 D (by
     grind)
    grind
   |false=>
    have z:=uU C ae.1 O;have J:j a=al:=by
     cases J:j a with
     |false=>rfl
     |true=>have:=C b a U J;simp_all
    have W:=uU C h1.1 J;grind
 termination_by _ _ l E=>aa l+aa E
def IA{D}(E:vM D):∀(l),Ord l->∀j C,l[j]?=ab C->(D C=ag<->j<l.countP D)
 | [],_,j,C,h=>by trivial
 |a::l,h1,j,C,h=>by
  cases I:D a with
  |true=>
   cases j with
   |zero=>simp_all
   |succ j=>
    have:=IA E l h1.2 j C fs;simp_all
  |false=>
   have z:=uU E h1.1 I;grind
inductive fi where
 |nil
 |node (es:List jp) (C j:fi)
def fi.es:fi->List jp
 | .nil=>[]
 | .node es _ _=>es
def fi.aQ(a:fi):List aj:=a.es.map (·.ai)
def join:fi->fi->fi
 | .nil,.nil=> .nil
 |a,b=> .node (eE 0 0 a.aQ b.aQ) a b
theorem abA(a b):(join a b).es=eE 0 0 a.aQ b.aQ:=by cases a<;>cases b<;>simp[join,fi.es,fi.aQ,eE]
def zN(j:aj):fi:=.node [⟨j,0,0⟩] .nil .nil
def made:Nat->List aj->fi
 |0,l=>match l with
  | [ai]=>zN ai
  | _=> .nil
 |f+1,l=>match l with
  | []=> .nil
  | [ai]=>zN ai
  |ai::q::j=>join (made f ((ai::q::j).take (aa (ai::q::j)/2))) (made f ((ai::q::j).drop (aa (ai::q::j)/2)))
def lead(a:fi)(j:Int)(high:Bool):Int:=
 match a with
 | .nil=>0
 | .node C I E=>
  if 0<=j/\j<aa C then(match C[j.toNat]? with
   |some D=>if high then D.high else D.low
   |none=>0)
  else if j≠aa C then 0
  else if high then aa E.es else aa I.es
def QC{j}(R:vM j)(a b)(J:Ord a.aQ)(O:Ord b.aQ)(high):
  lead (join a b) ((join a b).aQ.countP j:Nat) high=if high then(b.aQ.countP j:Int)else(a.aQ.countP j:Int):=by
 have I:∀C,C=eE 0 0 a.aQ b.aQ->lead (.node C a b) ((C.map (·.ai)).countP j:Nat) high=if high then(b.aQ.countP j:Int)else(a.aQ.countP j:Int):=by
  intro C D;have E:=xm j 0 0 a.aQ b.aQ;rw[<- D]at E;have W:=zZ 0 0 a.aQ b.aQ;rw[<- D]at W;have ap:(C.map (·.ai)).countP j<=aa C:=bv;have Y:=zY R 0 0 _ _ J O;rw[<- D,<- E]at Y;have ah:aa a.aQ=aa a.es:=jM ..;have am:aa b.aQ=aa b.es:=jM ..;have aq:=qi (p:=j) (l:=a.aQ);have ar:=qi (p:=j) (l:=b.aQ);clear D;generalize(C.map _).countP j=c at*
  simp[lead];grind
 cases a with
 |nil=>
  cases b with
  |nil=>simp[join,lead,fi.aQ,fi.es]
  |node C Z U=>exact I _ p
 |node C Z U=>cases b<;>exact I _ p
section
class dE (α:Type)where
 v:α->a2
@[reducible] def aj.s9 (j:aj):Value:=.agg #[.int .i64 j.id,.int .i64 j.x,.int .i64 j.y]
@[reducible] instance:dE aj:=⟨aj.s9⟩
@[reducible] instance:dE Bool:=⟨.bool⟩
@[reducible] instance:dE Int:=⟨.int .i64⟩
instance:Inhabited aj:=⟨⟨0,0,0⟩⟩
class nV (P:bk) (T:bq) (r:outParam (bq×bq)):Prop where
 h:P.underlying T=ab (.map r.1 r.2)
def C8(P:bk)(D:bq):Bool:=
 match P.underlying D with
 |some (.struct C)=>C.toList.all λj=>decide (j.offset<3)&&(match P.underlying j.type with|some (.int _)=>ag| _=>al)
 | _=>al
class Bs (P:bk) (j:bq):Prop where
 h:C8 P j=ag
def UX(P:bk)(j:bq):Bool:=
 match P.info? j with
 |some C=>(match C.zero with|some (.bool al)=>ag| _=>al)
 |none=>al
class MK (P:bk) (j:bq):Prop where
 h:UX P j=ag
def UY(P:bk)(j:bq):Bool:=
 match P.info? j with
 |some C=>(match C.zero with|some (.agg ⟨[.int .i64 0,.int .i64 0,.int .i64 0]⟩)=>ag| _=>al)
 |none=>al
class FK (P:bk) (j:bq):Prop where
 h:UY P j=ag
class v5 (P:bk) (C:bq) (j:Type) [dE j] [Inhabited j]:Prop where
 run:∀w,(zeroValue C).run P w=.ok (dE.v (default:j)) w
section
variable{k e:bq}
instance[j:MK P e]:v5 P e Bool:=⟨λw=>by
 have h:=j.h;unfold UX at h;split at h
 .rename_i E C
  split at h
  .rename_i D
   simp[zeroValue,typeInfo,C,D];rfl
  .cases h
 .cases h⟩
instance[j:FK P e]:v5 P e aj:=⟨λw=>by
 have h:=j.h;unfold UY at h;split at h
 .rename_i E C
  split at h
  .rename_i D
   simp[zeroValue,typeInfo,C,D];rfl
  .cases h
 .cases h⟩
def ab8(j:aj){o}(h:o<3):∃n:Int,(#[Value.int .i64 j.id,Value.int .i64 j.x,Value.int .i64 j.y]:Array a2)[o]?=ab (.int .i64 n):=by rcases(by omega:o=0\/o=1\/o=2)with rfl|rfl|rfl<;>exact⟨_,rfl⟩
def af5[R:Bs P k](w D)(j:aj):(x3 D 10000 k j.s9).run P w=.ok () w:=by
 have h:=R.h;unfold C8 at h;split at h
 .rename_i U O
  rw[show(10000:Nat)=9998+1+1 from rfl,x3];simp[run_underlying O,dG];rw[<- Array.forIn_toList];have E:=nL.1 h;clear h O;generalize U.toList=l at E
  induction l with
  |nil=>rfl
  |cons C l Y=>
   have I:=E C ao;simp[decide_eq_true_eq]at I;let⟨h1,ae⟩:=I;let⟨n,W⟩:=ab8 j h1;split at ae
   .rename_i q J
    have Z:(part C.type #[.int .i64 j.id,.int .i64 j.x,.int .i64 j.y] C.offset).run P w=.ok (.int .i64 n) w:=by
     simp[part,isAgg,run_underlying J,W]
    have ah:(x3 D (9998+1) C.type (.int .i64 n)).run P w=.ok () w:=by
     rw[x3];simp[run_underlying J]
    simp_all
   trivial
 trivial
variable{b2 e4:Type}[dE b2][dE e4][DecidableEq b2]
def lF(C:b2):List (b2×e4)->Nat->Option (Nat×a2)
 | [],_=>af
 |x::M,j=>if C=x.1 then ab (j,dE.v x.2)else lF C M (j+1)
def o8(x:b2×e4):a2×a2:=(dE.v x.1,dE.v x.2)
def o7(e:MapEntry):a2×a2:=(e.key,e.val)
def TB[ss P k 3](w:dd)(j:aj):∀(D:List MapEntry) (M:List (aj×e4)) (C:Nat),D.map o7=M.map o8->(EN k j.s9 D C).run P w=.ok (lF j M C) w
 | [],M,C,h=>by
  have:M=[]:=bo;subst this;rfl
 |e::D,[],C,h=>by trivial
 |e::D,x::M,C,h=>by
  simp[o7,o8,tP]at h;let⟨⟨h1,ae⟩,an⟩:=h;have q:=(GC (P:=P) (T:=k) (j:=[j.id,j.x,j.y]) (C:=[x.1.id,x.1.x,x.1.y]) p p w).1;have J:(eo k j.s9 e.key).run P w=.ok (decide (j=x.1)) w:=by
   rw[h1];apply Eq.trans q
   congr 1
   apply decide_eq_decide.2;constructor
   .intro h;cases j;simp_all
   simp_all
  have I:=TB w j D M (C+1) an;unfold EN lF
  by_cases E:j=x.1
  .simp_all
  simp_all
class vV (P:bk) (k:bq) (b2:Type) [dE b2] [DecidableEq b2]:Prop where
 e7:∀(w:dd) (D:Bool) (j:b2),(Instr.checkKey D 10000 k (dE.v j)).run P w=.ok () w
 find:∀{e4:Type} [dE e4] (w:dd) (j:b2) (C:List MapEntry) (M:List (b2×e4)),C.map o7=M.map o8->(Instr.findKey k (dE.v j) C).run P w=.ok (lF j M 0) w
 same:∀j:b2,Instr.sameBits 10000 (dE.v j) (dE.v j)=ag
instance[ss P k 3][E:Bs P k]:vV P k aj where
 e7:=λw I j=>af5 w I j
 find:=λw j C M h=>by
  have D:=E.h;unfold C8 at D;split at D
  .rename_i J O
   have q:=TB (P:=P) (k:=k) w j C M 0 h;unfold KD;simp only[cM,run_underlying O,dG];cases C with
   |nil=>
    have:M=[]:=by cases M<;>simp at h ⊢
    subst this;simp[x4,lF]
   |cons e C=>
    show(match x4 (.struct J) j.s9 (e::C) 0 with|some r=>(pure r:Sem _)|none=>EN k j.s9 (e::C)).run P w= _;simpa[x4,AX]using q
  .cases D
 same:=λj=>by
  show AW 10000 j.s9 j.s9=ag;rw[show(10000:Nat)=9998+1+1 from rfl];simp[AW]
class Fq (P:bk) (k:bq):Prop where
 h:P.underlying k=ab (.int .i64)
theorem Rq(D:Int):∀(j:List MapEntry) (M:List (Int×e4)) (C:Nat),j.map o7=M.map o8->x4 (.int .i64) (.int .i64 D) j C=ab (lF D M C)
 | [],M,C,h=>by
  have:M=[]:=bo;subst this;rfl
 |e::j,[],C,h=>by trivial
 |e::j,x::M,C,h=>by
  simp[o7,o8,tP]at h;let⟨⟨h1,ae⟩,an⟩:=h;unfold x4 lF;rw[h1];show(match AX _ _ (.int _ _)with|some ag=> _|some al=> _|none=> _)= _
  by_cases E:D=x.1
  .simp[AX,E,ae]
  .have e:(D==x.1)=al:=bo;simp[AX,e,E];exact Rq D j M _ an
instance[C:Fq P k]:vV P k Int where
 e7:=λw E j=>by
  rw[show(10000:Nat)=9999+1 from rfl,x3];simp[run_underlying C.h]
 find:=λw j D M h=>by
  unfold KD;simp only[cM,run_underlying C.h,dG];rw[show(dE.v j:a2)=.int .i64 j from rfl,Rq j D M 0 h];rfl
 same:=λj=>by
  show AW 10000 (.int .i64 j) (.int .i64 j)=ag;rw[show(10000:Nat)=9999+1 from rfl];simp[AW]
end
variable{b2 e4:Type}[dE b2][dE e4][DecidableEq b2]
def dL(j:b2):List (b2×e4)->Option e4
 | []=>af
 |x::M=>if j=x.1 then ab x.2 else dL j M
def f6(j:b2)(d:e4):List (b2×e4)->List (b2×e4)
 | []=>[(j,d)]
 |x::M=>if j=x.1 then(x.1,d)::M else x::f6 j d M
def CO(j:b2):∀(M:List (b2×e4)) (C:Nat),(lF j M C=af/\dL j M=af/\∀d,f6 j d M=M++[(j,d)])\/∃D b,lF j M C=ab (C+D,dE.v b)/\dL j M=ab b/\M[D]?=ab (j,b)/\∀d,f6 j d M=M.set D (j,d)
 | [],C=> .inl ⟨rfl,rfl,λ_=>rfl⟩
 |x::M,C=>by
  by_cases h:j=x.1
  .right;refine⟨0,x.2,by simp[lF,h],by simp[dL,h],by grind,λd=>by simp[f6,h]⟩
  .rcases CO j M (C+1)with ⟨h1,ae,an⟩|⟨D,b,h1,ae,an,E⟩
   .simp_all[lF,dL,f6]
   .exact .inr ⟨D+1,b,by simp[lF,h,h1];omega,by simp[dL,h,ae],by assumption,λd=>by simp[f6,h,E]⟩
structure lU (j:Array MapEntry) (C:Nat) (M:List (b2×e4)):Prop where
 rd:j.toList.map o7=M.map o8
 old:∀D∈j.toList,D.born<C
 fE:(j.toList.map (·.born)).Nodup
def ct(b:Nat)(M:List (b2×e4)):aG:=λh=>∃y:Array MapEntry×Nat,lU y.1 y.2 M/\bR b (.map y.1 y.2) h
theorem lU.len{j:Array MapEntry}{C:Nat}{M:List (b2×e4)}(h:lU j C M):j.size=aa M:=by
 have:=congrArg aa h.rd;simp_all
variable{aja:Q}{b:Nat}{M:List (b2×e4)}
def Ds(D:bj g (ct b M::L) w):∃C j,lU C j M/\bj g (bR b (.map C j)::L) w:=by
 let⟨h1,ae,d,I,J,⟨y,E,o⟩,l⟩:=D.s;exact⟨y.1,y.2,E,D.g,h1,ae,d,I,J,o,l⟩
def xl{C:Array MapEntry}{j:Nat}(E:lU C j M)(D:bj g (bR b (.map C j)::L) w):bj g (ct b M::L) w:=by
 let⟨h1,ae,d,I,J,o,l⟩:=D.s;exact⟨D.g,h1,ae,d,I,J,⟨(C,j),E,o⟩,l⟩
structure fL (L:Q) (b:Nat) (M:List (b2×e4)):Prop where
 f:∀h,C L h->∃D j,lU D j M/\h b=ab (.map D j)
def fL.here:fL (ct b M::L) b M:=⟨λh s=>by
 let⟨h1,ae,d,C,D,⟨y,j,o⟩,l⟩:=s;exact⟨y.1,y.2,j,C _ _ o.eq⟩⟩
theorem fL.ap{j:aG}(h:fL L b M):fL (j::L) b M:=⟨λC s=>h.f C s.tail⟩
theorem lU.put{C:Array MapEntry}{W:Nat}(O:lU C W M)(E:b2)(d:e4){j:Nat}{ah:e4}(Z:M[j]?=ab (E,ah)):lU (C.modify j λD=> {D with key:=dE.v E,val:=dE.v d}) W (M.set j (E,d)):=by
 have ap:=O.len;have R:(C.modify j _).toList=C.toList.modify j λD=> {D with key:=dE.v E,val:=dE.v d}:=Array.toList_modify ..;refine⟨?_,?_,?_⟩
 .rw[R];apply vx;intro J;have:=congrArg (λl=>l[J]?) O.rd;simp only[List.getElem?_map,Lh,List.getElem?_set]at this ⊢
  by_cases I:j=J
  .subst I;rw[Z]at this;have am:j<aa M:=(h2.1 Z).1;simp only[am]at this ⊢;cases U:C.toList[j]? with
   |none=>simp_all
   |some D=>rfl
  simp_all
 .intro D U;rw[R]at U;let⟨J,I⟩:=List.mem_iff_getElem?.1 U;rw[Lh]at I;cases Y:C.toList[J]? with
  |none=>simp_all
  |some ai=>
   rw[Y]at I;have:=O.old ai (lQ Y);grind
 .rw[R];have:(C.toList.modify j λD=> {D with key:=dE.v E,val:=dE.v d}).map (·.born)=C.toList.map (·.born):=by
   apply vx;grind
  rw[this];exact O.fE
def lU.push{I:Array MapEntry}{D:Nat}(C:lU I D M)(J:b2)(d:e4):lU (I.push {key:=dE.v J,val:=dE.v d,born:=D}) (D+1) (M++[(J,d)]):=by
 refine⟨?_,?_,?_⟩
 .rw[EH,ez,ez,C.rd];rfl
 .intro E j;rw[EH]at j;rcases b9.1 j with j|j
  .have:=C.old E j;omega
  simp_all
 .rw[EH,ez];apply List.nodup_append.2 ⟨C.fE,ao,λa U c W E=>?_⟩;obtain⟨O,R,rfl⟩:=lm.1 U;have:=C.old O R;simp_all
end
end
end Go.Proofs.YteinodmjohkmmaaGreat
