/- TopWhole: a part of its proof. -/
import Derived.ArgAppend
import Derived.Deep.Upon
import Derived.Test.YteinodmjohkmmaaGreatMA3
set_option linter.all false
set_option maxRecDepth 100000
set_option maxHeartbeats 4000000
open Array renaming getElem?_eq_none->tH
open BitVec renaming ofInt->hf
open Bool renaming and_eq_true->co,false->al,true->ag
open Go renaming Edge->q1,FuncId->dc,IntKind->oC,Oper->cI,Operand->cJ,Program->bk,TypeDesc->pq,TypeId->bq,Value->a2,World->dd
open Go.Addr renaming add_lit->kT
open Go.BinOp renaming rec->AU
open Go.Builtin renaming clear_->nJ,rec->Kt,zeroCells->ft
open Go.ByteArray renaming toList_eq->Ku
open Go.Code renaming rec->EJ
open Go.Instr renaming sliceAt->KI,sliceBounds->qf
open Go.IntKind renaming rec->EO,wrap->EP
open Go.Op renaming equal->eo,equalIn->lO,intBits->q2,intCmp->lP,intDiv->KL,maxDepth->nK,rec->x5,shift->x6
open Go.Oper renaming wp->eg
open Go.Result renaming andThen_ok->dG
open Go.Sem renaming run_bind->cM,run_pure->e5
open Int renaming add->ES,rec->sn,sub->K1,sub_eq_add_neg->K2
open List renaming eq_nil_of_length_eq_zero->gX,getElem?_cons_succ->A1,getElem?_drop->yd,length->aa,map_append->ez,map_congr_left->Lq,map_cons->fu,map_id->Lr,map_nil->mX,map_toArray->gY,mem_range->kU,perm_cons_erase->mY,range->gZ,rec->dN,replicate->gv
open List.cons renaming injEq->so
open Nat renaming add->jN,add_zero->vD,beq->aH,ble->da,ble_eq_true_of_le->E4,blt->eY,div->A4,eq_of_beq_eq_true->cy,eq_zero_or_pos->hh,land->LK,le_of_ble_eq_true->fq,le_refl->bC,lor->ij,lt_or_ge->dZ,mod->LN,mod_two_eq_zero_or_one->A5,mul->vE,pred->kA,rec->nP,sub->kl,zero_add->h3,zero_le->bO
open Option renaming bind_some->LW,getD_none->vF,getD_some->qj,isNone_iff_eq_none->LX,none->af,rec->cK,some->ab
open Option.some renaming inj->nQ
open Go.RowKit
namespace Go.Proofs.YteinodmjohkmmaaGreat
noncomputable section
namespace aV
inductive aB where
 |i (E:IntKind) (n:Int)|b (C:Bool)|s (C:ByteArray)
 |ai (b o:Nat)|hc
 |ey (b o n c:Nat)
 |dw (b o n l:Nat)
 |jk
 |gk
 |m (b:Nat)|fF
 |f (D:Fn) (l c:List aB)|lb
 |y (H:TypeId) (v:aB)|ld
 |cp (l:List aB)|cB (l:List aB)
 |dU (j:Nat)|ei (b:Nat)|fg|lk|h0 (j:Nat) (n:Int)|hL (b j:Nat)|xs (i j:Nat)
inductive dn where
 |ce (E:TypeId) (C:List aB)
 |kO (H:TypeId) (J n:Nat) (C:List aB)
 |qM (j:List (Int×(Int×Int×Int)))
 |rP (j:List ((Int×Int×Int)×Bool))
 |ts (b:Nat) (j:List (Int×(Int×Int×Int))) (D:Option (Int×(Int×Int×Int))) (q:Option (Int×(Int×Int×Int)))
 |tr (b:Nat) (j:List ((Int×Int×Int)×Bool)) (D:Option ((Int×Int×Int)×Bool)) (q:Option ((Int×Int×Int)×Bool))
 |no
 |cx (I:Nat)
inductive dR (α:Type)where
 |kJ
 |fE (l:dR α) (v:Option α) (j:dR α)
variable{α kx ajL:Type}
def aq(C:Option α)(j:α->Option kx):Option kx:=cK af j C
def ax(c:Bool)(j y:α):α:=Bool.rec y j c
def cm(c:Bool)(j:Option α):Option α:=ax c j af
def dR.get(E:dR α):Nat->Option α:=dR.rec (λ_=>af) (λ_ v _ C D j=>ax (aH j (nat_lit 0)) v (ax (aH (LN j (nat_lit 2)) (nat_lit 1)) (C (A4 j (nat_lit 2))) (D (kA (A4 j (nat_lit 2)))))) E
def dR.parts(D:dR α)(j:dR α->Option α->dR α->kx):kx:=dR.rec (j .kJ af .kJ) (λl v C _ _=>j l v C) D
def dR.set(n:Nat):dR α->Nat->Option α->dR α:=nP (λD _ _=>D)
 (λ_ H D j E=>D.parts λl v C=>ax (aH j (nat_lit 0)) (.fE l E C) (ax (aH (LN j (nat_lit 2)) (nat_lit 1)) (.fE (H l (A4 j (nat_lit 2)) E) v C) (.fE l v (H C (kA (A4 j (nat_lit 2))) E)))) n
def hW(C:α->Option kx)(l:List α):Option (List kx):=dN (ab []) (λD _ j=>aq (C D) λy=>aq j λj=>ab (y::j)) l
def iu(C:α->α->Bool)(l:List α):List α->Bool:=dN (λj=>dN ag (λ_ _ _=>al) j) (λE _ D j=>dN al (λy j _=>ax (C E y) (D j) al) j) l
def s0{α:Type}(l:List α):Bool->List α:=dN (λ_=>[]) (λC _ j b=>ax b (C::j al) (j ag)) l
def hr{α}(n:Nat):List α->dR α:=nP (λ_=> .kJ) (λ_ j l=>dN .kJ (λD C _=> .fE (j (s0 C ag)) (ab D) (j (s0 C al))) l) n
def nk(j:bk):dR Func:=hr (nat_lit 12) j.funcs.toList
def aiu(j:bk):dR TypeInfo:=hr (nat_lit 12) j.types.toList
def Xw(j:pq):Option bq:=match j with| .named _ C=>ab C| _=>af
def l9(j:bk)(C:bq):Option TypeInfo:=(aiu j).get C
def mt(j:bk)(D:bq):Option pq:=aq (l9 j D) λC=>cK (ab C.desc) (λH=>aq (l9 j H) λE=>ab E.desc) (Xw C.desc)
structure cE where
 t:dR dn
 n:Nat
def cE.get(h:cE)(j:Nat):Option dn:=h.t.get j
def cE.put(h:cE)(j:Nat)(o:dn):cE:=⟨h.t.set (Nat.succ j) j (ab o),h.n⟩
def cE.new(h:cE)(o:dn):cE:=⟨h.t.set (Nat.succ h.n) h.n (ab o),Nat.succ h.n⟩
def k1(v:aB):Option (Nat×Nat):=by
 apply aB.rec (t:=v) (motive_1:=λ_=> _) (motive_2:=λ_=>PUnit)
 case ai=>exact λb o=>ab (b,o)
 all_goals (intros;first|exact af|exact PUnit.unit)
def mI(v:aB):Option Bool:=by
 apply aB.rec (t:=v) (motive_1:=λ_=> _) (motive_2:=λ_=>PUnit)
 case b=>exact λj=>ab j
 all_goals (intros;first|exact af|exact PUnit.unit)
def ju(v:aB):Option (oC×Int):=by
 apply aB.rec (t:=v) (motive_1:=λ_=> _) (motive_2:=λ_=>PUnit)
 case i=>exact λj n=>ab (j,n)
 all_goals (intros;first|exact af|exact PUnit.unit)
def Rl(n:Int):Option Nat:= @sn (λ_=>Option Nat) ab (λ_=>af) n
def wi(v:aB):Option Nat:=by
 apply aB.rec (t:=v) (motive_1:=λ_=> _) (motive_2:=λ_=>PUnit)
 case i=>exact λj n=>Rl n
 all_goals (intros;first|exact af|exact PUnit.unit)
def sI(v:aB):Option ByteArray:=by
 apply aB.rec (t:=v) (motive_1:=λ_=> _) (motive_2:=λ_=>PUnit)
 case s=>exact λj=>ab j
 all_goals (intros;first|exact af|exact PUnit.unit)
def t5(v:aB):Option Nat:=by
 apply aB.rec (t:=v) (motive_1:=λ_=> _) (motive_2:=λ_=>PUnit)
 case m=>exact λb=>ab b
 all_goals (intros;first|exact af|exact PUnit.unit)
def rn(v:aB):Option (List aB):=by
 apply aB.rec (t:=v) (motive_1:=λ_=> _) (motive_2:=λ_=>PUnit)
 case cp=>exact λl _=>ab l
 all_goals (intros;first|exact af|exact PUnit.unit)
def yS(v:aB):Option (List aB):=by
 apply aB.rec (t:=v) (motive_1:=λ_=> _) (motive_2:=λ_=>PUnit)
 case cB=>exact λl _=>ab l
 all_goals (intros;first|exact af|exact PUnit.unit)
def sH(v:aB):Option (Fn×List aB×List aB):=by
 apply aB.rec (t:=v) (motive_1:=λ_=> _) (motive_2:=λ_=>PUnit)
 case f=>exact λg l c _ _=>ab (g,l,c)
 all_goals (intros;first|exact af|exact PUnit.unit)
def BU(v:aB):Option (bq×aB):=by
 apply aB.rec (t:=v) (motive_1:=λ_=> _) (motive_2:=λ_=>PUnit)
 case y=>exact λj v _=>ab (j,v)
 all_goals (intros;first|exact af|exact PUnit.unit)
def Xg(v:aB):List aB:=by
 apply aB.rec (t:=v) (motive_1:=λ_=> _) (motive_2:=λ_=>PUnit)
 case cp=>exact λl _=>l
 all_goals (intros;first|exact[]|exact PUnit.unit)
def MN(v:aB):Bool:=by
 apply aB.rec (t:=v) (motive_1:=λ_=> _) (motive_2:=λ_=>PUnit)
 case cp=>exact λl _=>ag
 all_goals (intros;first|exact al|exact PUnit.unit)
def jx(v:aB):List aB:=ax (MN v) (Xg v) [v]
def rL(v:aB):Option Nat:=by
 apply aB.rec (t:=v) (motive_1:=λ_=> _) (motive_2:=λ_=>PUnit)
 case ey=>exact λb o n c=>ab n
 case dw=>exact λb o n l=>ab n
 case jk=>exact ab (nat_lit 0)
 case gk=>exact ab (nat_lit 0)
 all_goals (intros;first|exact af|exact PUnit.unit)
def yU(v:aB):Option (Nat×Nat×Nat):=by
 apply aB.rec (t:=v) (motive_1:=λ_=> _) (motive_2:=λ_=>PUnit)
 case ey=>exact λb o n c=>ab (b,o,n)
 case dw=>exact λb o n l=>ab (b,o,n)
 all_goals (intros;first|exact af|exact PUnit.unit)
def M5(v:aB):Option (Nat×Nat×Nat×Nat):=by
 apply aB.rec (t:=v) (motive_1:=λ_=> _) (motive_2:=λ_=>PUnit)
 case ey=>exact λb o n c=>ab (b,o,n,c)
 all_goals (intros;first|exact af|exact PUnit.unit)
def M7(v:aB):Option (Nat×Nat×Nat×Nat):=by
 apply aB.rec (t:=v) (motive_1:=λ_=> _) (motive_2:=λ_=>PUnit)
 case dw=>exact λb o n l=>ab (b,o,n,l)
 all_goals (intros;first|exact af|exact PUnit.unit)
def nd(v:aB):Option Nat:=by
 apply aB.rec (t:=v) (motive_1:=λ_=> _) (motive_2:=λ_=>PUnit)
 case dU=>exact λj=>ab j
 all_goals (intros;first|exact af|exact PUnit.unit)
def t6(v:aB):Option Nat:=by
 apply aB.rec (t:=v) (motive_1:=λ_=> _) (motive_2:=λ_=>PUnit)
 case ei=>exact λb=>ab b
 all_goals (intros;first|exact af|exact PUnit.unit)
def pG(v:aB):Option (Nat×Nat):=by
 apply aB.rec (t:=v) (motive_1:=λ_=> _) (motive_2:=λ_=>PUnit)
 case hL=>exact λb j=>ab (b,j)
 all_goals (intros;first|exact af|exact PUnit.unit)
def t7(v:aB):Option (Nat×Nat):=by
 apply aB.rec (t:=v) (motive_1:=λ_=> _) (motive_2:=λ_=>PUnit)
 case xs=>exact λj C=>ab (j,C)
 all_goals (intros;first|exact af|exact PUnit.unit)
def Qa(v:aB):Bool:=by
 apply aB.rec (t:=v) (motive_1:=λ_=> _) (motive_2:=λ_=>PUnit)
 case lk=>exact ag
 all_goals (intros;first|exact al|exact PUnit.unit)
def UF(v:aB):Bool:=by
 apply aB.rec (t:=v) (motive_1:=λ_=> _) (motive_2:=λ_=>PUnit)
 case ei=>exact λb=>ag
 case lk=>exact ag
 case hL=>exact λb j=>ag
 all_goals (intros;first|exact al|exact PUnit.unit)
def P9(v:aB):Bool:=by
 apply aB.rec (t:=v) (motive_1:=λ_=> _) (motive_2:=λ_=>PUnit)
 case fg=>exact ag
 all_goals (intros;first|exact al|exact PUnit.unit)
def Et(v:aB):Bool:=by
 apply aB.rec (t:=v) (motive_1:=λ_=> _) (motive_2:=λ_=>PUnit)
 case dU=>exact λj=>ag
 case fg=>exact ag
 case h0=>exact λj n=>ag
 case xs=>exact λC j=>ag
 all_goals (intros;first|exact al|exact PUnit.unit)
def M9(v:aB):Option (Nat×Int):=by
 apply aB.rec (t:=v) (motive_1:=λ_=> _) (motive_2:=λ_=>PUnit)
 case dU=>exact λj=>ab (j,.ofNat (nat_lit 0))
 case h0=>exact λj n=>ab (j,n)
 all_goals (intros;first|exact af|exact PUnit.unit)
def wk(v:aB):Option (Nat×Int):=by
 apply aB.rec (t:=v) (motive_1:=λ_=> _) (motive_2:=λ_=>PUnit)
 case h0=>exact λj n=>ab (j,n)
 all_goals (intros;first|exact af|exact PUnit.unit)
def t4(v:dn):Option Nat:=by
 apply dn.rec (t:=v) (motive:=λ_=> _)
 case cx=>exact λj=>ab j
 all_goals (intros;first|exact af)
def s7(v:aB):Bool:=by
 apply aB.rec (t:=v) (motive_1:=λ_=> _) (motive_2:=λ_=>PUnit)
 case gk=>exact ag
 all_goals (intros;first|exact al|exact PUnit.unit)
def uA(v:aB):Bool:=by
 apply aB.rec (t:=v) (motive_1:=λ_=> _) (motive_2:=λ_=>PUnit)
 case hc=>exact ag
 all_goals (intros;first|exact al|exact PUnit.unit)
def P7(v:aB):Bool:=by
 apply aB.rec (t:=v) (motive_1:=λ_=> _) (motive_2:=λ_=>PUnit)
 case fF=>exact ag
 all_goals (intros;first|exact al|exact PUnit.unit)
def w6(v:aB):Bool:=by
 apply aB.rec (t:=v) (motive_1:=λ_=> _) (motive_2:=λ_=>PUnit)
 case lb=>exact ag
 all_goals (intros;first|exact al|exact PUnit.unit)
def w8(v:aB):Bool:=by
 apply aB.rec (t:=v) (motive_1:=λ_=> _) (motive_2:=λ_=>PUnit)
 case ld=>exact ag
 all_goals (intros;first|exact al|exact PUnit.unit)
def BO(v:dn):Option (List aB):=by
 apply dn.rec (t:=v) (motive:=λ_=> _)
 case ce=>exact λC j=>ab j
 case kO=>exact λD s n j=>ab j
 all_goals (intros;first|exact af)
def He(v:oC):Nat:= @EO (λ_=>Nat) (nat_lit 0) (nat_lit 1) (nat_lit 2) (nat_lit 3) (nat_lit 4) (nat_lit 5) (nat_lit 6) (nat_lit 7) v
abbrev m6:=Int×Int×Int
def wh(v:dn):Option (List (Int×m6)):=by
 apply dn.rec (t:=v) (motive:=λ_=> _)
 case qM=>exact λj=>ab j
 all_goals (intros;first|exact af)
def yP(v:dn):Option (List (m6×Bool)):=by
 apply dn.rec (t:=v) (motive:=λ_=> _)
 case rP=>exact λj=>ab j
 all_goals (intros;first|exact af)
def yR(v:dn):Option (Nat×List (Int×m6)×Option (Int×m6)×Option (Int×m6)):=by
 apply dn.rec (t:=v) (motive:=λ_=> _)
 case ts=>exact λb j C q=>ab (b,j,C,q)
 all_goals (intros;first|exact af)
def yQ(v:dn):Option (Nat×List (m6×Bool)×Option (m6×Bool)×Option (m6×Bool)):=by
 apply dn.rec (t:=v) (motive:=λ_=> _)
 case tr=>exact λb j C q=>ab (b,j,C,q)
 all_goals (intros;first|exact af)
def s6(n:Int):aB:=.i .i64 n
def qE(j:m6):aB:=.cp [s6 j.1,s6 j.2.1,s6 j.2.2]
def we(v:aB):Option Int:=aq (ju v) λq=>cm (aH (He q.1) (nat_lit 3)) (ab q.2)
def yM(v:aB):Option m6:=aq (rn v) λl=>dN af (λa l _=>dN af (λb l _=>dN af (λc l _=>dN (aq (we a) λa=>aq (we b) λb=>aq (we c) λc=>ab (a,b,c)) (λ_ _ _=>af) l) l) l) l
def BP(v:dn):Option (bq×List aB):=by
 apply dn.rec (t:=v) (motive:=λ_=> _)
 case ce=>exact λj C=>ab (j,C)
 all_goals (intros;first|exact af)
def Hh(v:aB):Bool:=by
 apply aB.rec (t:=v) (motive_1:=λ_=> _) (motive_2:=λ_=>PUnit)
 case cp=>exact λl _=>ag
 case cB=>exact λl _=>ag
 all_goals (intros;first|exact al|exact PUnit.unit)
def um(l:List aB):Bool:=dN ag (λC _ j=>ax (Hh C) al j) l
def BT(v:dn):Option (bq×Nat×Nat×List aB):=by
 apply dn.rec (t:=v) (motive:=λ_=> _)
 case kO=>exact λC s n j=>ab (C,s,n,j)
 all_goals (intros;first|exact af)
def fU(v:dn):List aB->dn:=by
 apply dn.rec (t:=v) (motive:=λ_=> _)
 case ce=>exact λC j=>λj=> .ce C j
 case kO=>exact λD s n j=>λj=> .kO D s n j
 all_goals (intros;first|exact .no)
def Io:a2->(a2->Option aB)->Option aB
 | .bool D=>λ_=>ab (.b D)
 | .int E n=>λ_=>ab (.i E n)
 | .string D=>λ_=>ab (.s D)
 | .pointer af=>λ_=>ab .hc
 | .slice af 0 0=>λ_=>ab .gk
 | .map af=>λ_=>ab .fF
 | .nilFunc=>λ_=>ab .lb
 | .nilIface=>λ_=>ab .ld
 | .agg ⟨l⟩=>λj=>aq (hW j l) λC=>ab (.cp C)
 | .tuple ⟨l⟩=>λj=>aq (hW j l) λC=>ab (.cB C)
 | _=>λ_=>af
def z8(j:Nat):a2->Option aB:=nP (λ_=>af) (λ_ C v=>Io v C) j
def tA(l:List aB):Nat->Option (List aB):=dN (λn=>ax (aH n (nat_lit 0)) (ab []) af) (λv _ j n=>ax (aH n (nat_lit 0)) (ab []) (aq (j (kA n)) λC=>ab (v::C))) l
def Gm(l:List aB):Nat->List aB:=dN (λ_=>[]) (λv l j n=>ax (aH n (nat_lit 0)) (v::l) (j (kA n))) l
def wX(l:List aB):Nat->Option aB:=dN (λ_=>af) (λv _ j n=>ax (aH n (nat_lit 0)) (ab v) (j (kA n))) l
def xd(E:List aB):List aB->Option (List aB):=dN (λl=>ab l) (λD _ j l=>dN af (λ_ l _=>aq (j l) λC=>ab (D::C)) l) E
def zL(l:List aB):Nat->List aB->Option (List aB):=dN (λn j=>ax (aH n (nat_lit 0)) (xd j []) af) (λv l C n j=>ax (aH n (nat_lit 0)) (xd j (v::l)) (aq (C (kA n) j) λD=>ab (v::D))) l
def k9(l:List aB):Nat:=dN 0 (λ_ _ n=>n+1) l
def i1(C:List aB)(n:Nat):List aB:=nP [] (λ_ j=>C++j) n
def T1:pq->Nat->Option (Bool×Nat)
 | .struct _=>λn=>ab (ag,n)
 | .array _ _=>λn=>ab (ag,n)
 | _=>λn=>ax (aH n 1) (ab (al,1)) af
def qV(j:bk)(C:bq):Option (Bool×Nat):=aq (mt j C) λD=>aq (l9 j C) λE=>T1 D E.size
def sj(j:bk)(C:bq):Option aB:=aq (l9 j C) λD=>aq D.zero λv=>z8 (nat_lit 9) v
def M8:pq->Option (Array Field)| .struct j=>ab j| _=>af
def Xt:pq->Option (Nat×bq)| .array n j=>ab (n,j)| _=>af
def M6:pq->Option bq| .slice j=>ab j| _=>af
def Xv:pq->Option (bq×bq)| .map C j=>ab (C,j)| _=>af
def Xu:pq->Option oC| .int j=>ab j| _=>af
def abt:pq->Bool| .string=>ag| _=>al
def abp:pq->Bool| .interface _=>ag| _=>al
def GO(j:bk)(D:bq)(H:Nat):Option (Nat×Bool×Nat):=aq (mt j D) λE=>aq (M8 E) λI=>aq I[H]? λC=>aq (qV j C.type) λs=>ab (C.offset,s.1,s.2)
def GP(j:bk)(D:bq):Option (List (Nat×Nat)):=aq (mt j D) λE=>aq (M8 E) λH=>hW (λ(C:Field)=>aq (l9 j C.type) λI=>ab (C.offset,I.size)) H.toList
def HA{α:Type}(l:List α):Nat->Option α:=dN (λ_=>af) (λC _ j n=>ax (aH n 0) (ab C) (j (kA n))) l
def mq(j:bk)(D:bq):Option (bq×Nat):=aq (mt j D) λE=>aq (M6 E) λC=>aq (l9 j C) λH=>ab (C,H.size)
def wd(j:bk)(C:bq):Option (Nat×bq×Nat):=aq (mt j C) λD=>aq (Xt D) λa=>aq (l9 j a.2) λE=>ab (a.1,a.2,E.size)
def H3(j:bk)(C:bq):Option (bq×bq):=aq (mt j C) Xv
def pd(j:bk)(C:bq):Option oC:=aq (mt j C) Xu
def AJ(j:bk)(C:bq):Bool:=cK al abt (mt j C)
def P0(j:bk)(C:bq):Bool:=cK ag abp (mt j C)
abbrev eJ:=dR aB
def dI(v:cJ):eJ->Option aB:= @Operand.rec (λ_=>eJ->Option aB) (λC=>λD=>D.get C) (λv=>λ_=>z8 (nat_lit 9) v) (λ_=>λ_=>af) (λj=>λ_=>ab (.f (.func j) [] [])) v
def Ac(j:eJ)(l:List cJ):Option (List aB):=hW (λC=>dI C j) l
def parts(C:eJ)(l:List (Nat×cJ)):Option (List (Nat×aB)):=hW (λj=>aq (dI j.2 C) λv=>ab (j.1,v)) l
def oo(h:cE)(b o n:Nat):Option (List aB):=aq (h.get b) λC=>aq (BO C) λj=>tA (Gm j o) n
def Kd(h:cE)(b o:Nat)(E:List aB):Option cE:=aq (h.get b) λj=>aq (BO j) λC=>aq (zL C o E) λD=>ab (h.put b (fU j D))
def hE(a b:oC):Bool:=aH (He a) (He b)
def fD(C:Int):Int->Bool:= @sn (λ_=>Int->Bool) (λn y=> @sn (λ_=>Bool) (λj=>aH n j) (λ_=>al) y) (λn y=> @sn (λ_=>Bool) (λ_=>al) (λj=>aH n j) y) C
def rG(C:Int):Int->Bool:= @sn (λ_=>Int->Bool) (λn y=> @sn (λ_=>Bool) (λj=>eY n j) (λ_=>al) y) (λn y=> @sn (λ_=>Bool) (λ_=>ag) (λj=>eY j n) y) C
def P3(v:oC):Bool:= @EO (λ_=>Bool) (ag) (ag) (ag) (ag) (al) (al) (al) (al) v
def rF(v:oC):Nat:= @EO (λ_=>Nat) (nat_lit 128) (nat_lit 32768) (nat_lit 2147483648) (nat_lit 9223372036854775808) (nat_lit 256) (nat_lit 65536) (nat_lit 4294967296) (nat_lit 18446744073709551616) v
def tE(j:oC)(n:Int):Int:=ax (@sn (λ_=>Bool) (λC=>eY C (rF j)) (λC=>ax (P3 j) (eY C (rF j)) al) n) n (j.wrap n)
abbrev Fe:=aB->aB->Bool
def t9(j y:Bool):Bool:=ax j y (ax y al ag)
def nt(j:Nat×Nat)(y:Nat×Nat):Bool:=ax (aH j.1 y.1) (aH j.2 y.2) al
def Ah(j y:Nat×Nat×Nat×Nat):Bool:=ax (aH j.1 y.1) (ax (aH j.2.1 y.2.1) (nt j.2.2 y.2.2) al) al
def dB{α:Type}(C:Option α)(j:α->Bool):Bool:=cK al j C
def zk(v:aB):aB->Fe->Bool:=by
 apply aB.rec (t:=v) (motive_1:=λ_=> _) (motive_2:=λ_=>PUnit)
 case i=>exact λE n=>λy _=>dB (ju y) λq=>ax (hE E q.1) (fD n q.2) al
 case b=>exact λD=>λy _=>dB (mI y) λq=>t9 D q
 case s=>exact λD=>λy _=>dB (sI y) λq=>decide (D=q)
 case ai=>exact λb o=>λy _=>dB (k1 y) λq=>nt (b,o) q
 case hc=>exact λy _=>uA y
 case ey=>exact λb o n c=>λy _=>dB (M5 y) λq=>Ah (b,o,n,c) q
 case dw=>exact λb o n l=>λy _=>dB (M7 y) λq=>Ah (b,o,n,l) q
 case gk=>exact λy _=>s7 y
 case m=>exact λb=>λy _=>dB (t5 y) λq=>aH b q
 case fF=>exact λy _=>P7 y
 case f=>exact λg l c _ _=>λy j=>dB (sH y) λq=>decide (g=q.1)&&(iu j l q.2.1&&iu j c q.2.2)
 case lb=>exact λy _=>w6 y
 case y=>exact λH v _=>λy j=>dB (BU y) λq=>ax (aH H q.1) (j v q.2) al
 case ld=>exact λy _=>w8 y
 case cp=>exact λl _=>λy j=>dB (rn y) λq=>iu j l q
 case cB=>exact λl _=>λy j=>dB (yS y) λq=>iu j l q
 case dU=>exact λC=>λy _=>dB (nd y) λq=>aH C q
 case ei=>exact λb=>λy _=>dB (t6 y) λq=>aH b q
 case h0=>exact λC n=>λy _=>dB (wk y) λq=>ax (aH C q.1) (fD n q.2) al
 case hL=>exact λb C=>λy _=>cK (dB (t6 y) λq=>aH b q) (λq=>nt (b,C) q) (pG y)
 case xs=>exact λi C=>λy _=>dB (t7 y) λq=>nt (i,C) q
 all_goals (intros;first|exact al|exact PUnit.unit)
def ka(j:Nat):Fe:=nP (λ_ _=>al) (λ_ C D y=>zk D y C) j
def UC(j:pq):Nat:=match j with
 | .pointer _=>nat_lit 1
 | .bool=>nat_lit 2
 | .slice _=>nat_lit 4
 | .func .. =>nat_lit 5
 | .interface _=>nat_lit 6
 | .struct _=>nat_lit 7
 | .array _ _=>nat_lit 7
 | _=>nat_lit 0
def p9(j:bk)(C:bq):Nat:=cK (nat_lit 0) UC (mt j C)
def TD(v:aB):aB->Option q9:=by
 apply aB.rec (t:=v) (motive_1:=λ_=> _) (motive_2:=λ_=>PUnit)
 case i=>exact λj n=>λy=>aq (ju y) λq=>cm (ax (hE j .i64) (ax (hE q.1 .i64) (fD n q.2) al) al) (ab .i)
 case b=>exact λC=>λy=>aq (mI y) λq=>cm (t9 C q) (ab .b)
 case ai=>exact λb o=>λy=>aq (k1 y) λq=>cm (nt (b,o) q) (ab .ai)
 case hc=>exact λy=>cm (uA y) (ab .ai)
 all_goals (intros;first|exact af|exact PUnit.unit)
def UZ(l:List aB):List aB->Option (List q9):=dN (λj=>dN (ab []) (λ_ _ _=>af) j) (λE _ D j=>dN af (λy j _=>aq (TD E y) λc=>aq (D j) λC=>ab (c::C)) j) l
def abm(j:cJ):Bool:=match j with| .const _=>ag| _=>al
def abr(v:aB):Bool:=by
 apply aB.rec (t:=v) (motive_1:=λ_=> _) (motive_2:=λ_=>PUnit)
 case ai=>exact λb o=>ag
 case hc=>exact ag
 all_goals (intros;first|exact al|exact PUnit.unit)
def abs(v:aB):Bool:=by
 apply aB.rec (t:=v) (motive_1:=λ_=> _) (motive_2:=λ_=>PUnit)
 case ey=>exact λb o n c=>ag
 case dw=>exact λb o n l=>ag
 case jk=>exact ag
 case gk=>exact ag
 all_goals (intros;first|exact al|exact PUnit.unit)
def abn(v:aB):Bool:=by
 apply aB.rec (t:=v) (motive_1:=λ_=> _) (motive_2:=λ_=>PUnit)
 case f=>exact λg l c _ _=>ag
 case lb=>exact ag
 all_goals (intros;first|exact al|exact PUnit.unit)
def abo(v:aB):Bool:=by
 apply aB.rec (t:=v) (motive_1:=λ_=> _) (motive_2:=λ_=>PUnit)
 case y=>exact λj v _=>ag
 case ld=>exact ag
 all_goals (intros;first|exact al|exact PUnit.unit)
def Ca(D:bk)(E:bq)(j:Nat)(y:cJ)(a b:aB):Option Bool:=
 ax (aH j (nat_lit 1)) (cm (ax (abr a) (uA b) al) (ab (uA a)))
 (ax (aH j (nat_lit 2)) (aq (mI a) λJ=>aq (mI b) λC=>ab (t9 J C))
 (ax (aH j (nat_lit 4)) (cm (ax (abs a) (s7 b) al) (ab (s7 a)))
 (ax (aH j (nat_lit 5)) (cm (ax (abn a) (w6 b) al) (ab (w6 a)))
 (ax (aH j (nat_lit 6)) (cm (ax (abo a) (ax (w8 b) (abm y) al) al) (ab (w8 a)))
 (ax (aH j (nat_lit 7)) (aq (rn a) λl=>aq (rn b) λI=>aq (UZ l I) λH=>cm (D6 D E H) (ab ag))
  (aq (sI a) λs=>aq (sI b) λC=>cm (aH j (nat_lit 0)) (ab (decide (s=C)))))))))
abbrev aK:=Option (aB×cE)
def iF(b:Bool):Bool:=ax b al ag
def FY(v:BinOp):oC->Int->Int->Option aB:= @AU (λ_=>oC->Int->Int->Option aB) (λj C y=>ab (.i j (tE j (ES C y)))) (λj C y=>ab (.i j (tE j (K1 C y)))) (λj C y=>ab (.i j (tE j (Int.mul C y)))) (λj C y=>ax (fD y (.ofNat (nat_lit 0))) af (ab (.i j (tE j (C.tdiv y))))) (λj C y=>ax (fD y (.ofNat (nat_lit 0))) af (ab (.i j (C.tmod y)))) (λj C y=>ab (.i j (j.wrap ((hf j.bits C&&&hf j.bits y).toNat)))) (λj C y=>ab (.i j (j.wrap ((hf j.bits C|||hf j.bits y).toNat)))) (λj C y=>ab (.i j (j.wrap ((hf j.bits C ^^^ hf j.bits y).toNat)))) (λj C y=>ax (rG y (.ofNat (nat_lit 0))) af (ab (.i j (tE j (C*2 ^ (min y.toNat j.bits)))))) (λj C y=>ax (rG y (.ofNat (nat_lit 0))) af (ab (.i j (C.fdiv (2 ^ (min y.toNat j.bits)))))) (λj C y=>ab (.i j (j.wrap ((hf j.bits C&&& ~~~(hf j.bits y)).toNat)))) (λ_ C y=>ab (.b (fD C y))) (λ_ C y=>ab (.b (iF (fD C y)))) (λ_ C y=>ab (.b (rG C y))) (λ_ C y=>ab (.b (iF (rG y C)))) (λ_ C y=>ab (.b (rG y C))) (λ_ C y=>ab (.b (iF (rG C y)))) v
def JG(v:BinOp):Bool:= @AU (λ_=>Bool) (al) (al) (al) (al) (al) (al) (al) (al) (ag) (ag) (al) (al) (al) (al) (al) (al) (al) v
def Nr(v:BinOp):Option Bool->Option aB:= @AU (λ_=>Option Bool->Option aB) (λ_=>af) (λ_=>af) (λ_=>af) (λ_=>af) (λ_=>af) (λ_=>af) (λ_=>af) (λ_=>af) (λ_=>af) (λ_=>af) (λ_=>af) (λj=>aq j λb=>ab (.b b)) (λj=>aq j λb=>ab (.b (iF b))) (λ_=>af) (λ_=>af) (λ_=>af) (λ_=>af) v
def Dz(v:aB):Bool:=ax (Et v) ag (cK al (λq=>hE q.1 .i64) (ju v))
def Eu(C:Nat->Int->Int->Option aB)(D y:aB):Option aB:=aq (M9 D) λj=>aq (ju y) λq=>cm (hE q.1 .i64) (C j.1 j.2 q.2)
def Ur(D y:aB):Option (Nat×Nat):=aq (nd D) λj=>aq (nd y) λC=>ab (j,C)
def Uk(v:BinOp):aB->aB->Option aB:= @AU (λ_=>aB->aB->Option aB) (Eu λj n E=>ab (.h0 j (ES n E))) (λC y=>cK (Eu (λj n E=>ab (.h0 j (K1 n E))) C y) (λq=>ab (.xs q.1 q.2)) (Ur C y)) (λ_ _=>af) (λ_ _=>af) (λ_ _=>af) (λ_ _=>af) (λ_ _=>af) (λ_ _=>af) (λ_ _=>af) (λ_ _=>af) (λ_ _=>af) (λC y=>aq (nd C) λj=>aq (nd y) λD=>cm (aH j D) (ab (.b ag))) (λC y=>aq (nd C) λj=>aq (nd y) λD=>cm (aH j D) (ab (.b al))) (λ_ _=>af) (λ_ _=>af) (λ_ _=>af) (λ_ _=>af) v
def FZ(D:bk)(E:bq)(j:BinOp)(o:cJ)(C y:aB):Option aB:=ax (ax (Et C) ag (Et y)) (Uk j C y)
 (cK (Nr j (Ca D E (p9 D E) o C y)) (λa=>cK af (λb=>ax (ax (JG j) ag (hE a.1 b.1)) (FY j a.1 a.2 b.2) af) (ju y)) (ju C))
def pV{α:Type}(l:List α):Bool:=dN ag (λ_ _ _=>al) l
def BZ(j:eJ)(o:Option cJ):Option (Option Nat):=cK (ab af) (λC=>aq (dI C j) λv=>aq (wi v) λn=>ab (ab n)) o
def T6(v:aB):Nat->Nat->Option Nat->Option Nat->Option aB:=by
 apply aB.rec (t:=v) (motive_1:=λ_=> _) (motive_2:=λ_=>PUnit)
 case ey=>exact λb o n c=>λH j C D=>cm (da j (C.getD n)&&(da (C.getD n) (D.getD c)&&da (D.getD c) c)) (ab (.ey b (ax (aH (D.getD c) j) o (jN o (vE j H))) (kl (C.getD n) j) (kl (D.getD c) j)))
 case dw=>exact λb o n l=>λH j C D=>cK (cm (da j (C.getD n)&&da (C.getD n) n) (ax (aH j 0) (ab (.dw b o (C.getD n) l)) (ax (eY j n) (ab (.dw b (jN o (vE j H)) (kl (C.getD n) j) (jN l j))) (ab .jk)))) (λE=>cm (da j (C.getD n)&&(da (C.getD n) E&&da E n)) (ab (.ey b (ax (aH E j) o (jN o (vE j H))) (kl (C.getD n) j) (kl E j)))) D
 case jk=>exact λ_ j C D=>cm (aH j 0&&(aH (C.getD 0) 0&&D.isNone)) (ab .jk)
 case gk=>exact λ_ j C D=>cm (aH j 0&&(aH (C.getD 0) 0&&aH (D.getD 0) 0)) (ab .gk)
 all_goals (intros;first|exact af|exact PUnit.unit)
def Ar(h:cE)(j:Nat)(q:Nat×Nat×Nat):Option (List aB):=ax (aH q.2.2 0) (ab []) (oo h q.1 q.2.1 (q.2.2*j))
def u4(h:cE)(j:Nat)(v:aB):Option (List aB):=cK (aq (rL v) λ_=>ab []) (Ar h j) (yU v)
def rT(h:cE)(C:bq)(D n:Nat)(j:List aB):aK:=ab (.dw h.n 0 n 0,h.new (.kO C D n j))
def MV(v:aB):cE->bq->Nat->Nat->List aB->aK:=by
 apply aB.rec (t:=v) (motive_1:=λ_=> _) (motive_2:=λ_=>PUnit)
 case ey=>exact λb o n c=>λh D j C H=>ax (aH C 0) (cm (da n c) (ab (.ey b o n c,h))) (ax (eY c (n+C)) (aq (Ar h j (b,o,n)) λE=>cm (um E) (rT h D j (n+C) (E++H))) (aq (h.get b) λI=>aq (BP I) λq=>cm (aH o 0&&(aH D q.1&&(aH (k9 q.2) (c*j)&&(da n c&&da c 1000000)))) (aq (tA q.2 (n*j)) λE=>rT (h.put b .no) D j (n+C) (E++H))))
 case dw=>exact λb o n l=>λh D j C H=>ax (aH C 0) (ab (.dw b o n l,h)) (aq (h.get b) λI=>aq (BT I) λq=>cm (aH o 0&&(aH l 0&&(da n q.2.2.1&&(aH D q.1&&aH j q.2.1)))) (aq (tA q.2.2.2 (n*j)) λE=>rT (h.put b .no) D j (n+C) (E++H)))
 case gk=>exact λh D j C H=>ax (aH C 0) (ab (.gk,h)) (rT h D j C H)
 all_goals (intros;first|exact af|exact PUnit.unit)
def rE(j y:m6):Bool:=ax (fD j.1 y.1) (ax (fD j.2.1 y.2.1) (fD j.2.2 y.2.2) al) al
def s1{j D:Type}(E:j->j->Bool)(H:j)(l:List (j×D)):Option D:=dN af (λC _ I=>ax (E H C.1) (ab C.2) I) l
def xH{j D:Type}(H:j->j->Bool)(C:j)(v:D)(l:List (j×D)):List (j×D):=dN [(C,v)] (λE l I=>ax (H C E.1) ((C,v)::l) (E::I)) l
def xA(a:Bool)(l:List aB):Option aB:=ax a (ab (.cp l)) (dN af (λv l _=>dN (ab v) (λ_ _ _=>af) l) l)
def wV(D:Nat->Option (Nat×Nat))(H:List (Nat×aB)):List aB->Option (List aB):=
 dN (λC=>ab C) (λj _ E C=>aq (D j.1) λq=>cm (aH (k9 (jx j.2)) q.2) (aq (zL C q.1 (jx j.2)) E)) H
def NB(l:List aB):Option (List UInt8):=hW (λv=>aq (ju v) λq=>aq (Rl q.2) λn=>cm (ax (hE q.1 .u8) (eY n (nat_lit 256)) al) (ab (UInt8.ofNat n))) l
def p4(h:cE)(j:Option aB):aK:=aq j λv=>ab (v,h)
abbrev f9:=bk->eJ->cE->aK
def DB(C:cJ):f9:=λ_ j h=>p4 h (dI C j)
def RR(c a b:cJ):f9:=λ_ j h=>aq (dI c j) λv=>aq (mI v) λC=>p4 h (ax C (dI a j) (dI b j))
def Ry(j:bq):f9:=λC _ h=>aq (sj C j) λD=>ab (.ai h.n 0,h.new (.ce j (jx D)))
def RA(j:bq)(D:cJ):f9:=λ_ C h=>aq (dI D C) λv=>ab (.ai h.n 0,h.new (.ce j (jx v)))
def RB(C:bq)(O:Array (Nat×cJ)):f9:=λj Q h=>aq (parts Q O.toList) λE=>aq (sj j C) λH=>
 cK (aq (wd j C) λa=>aq (wV (λJ=>ab (J*a.2.2,a.2.2)) E (jx H)) λD=>ab (.cp D,h))
  (λI=>aq (wV (HA I) E (jx H)) λD=>ab (.cp D,h)) (GP j C)
def RC(H:bq)(n:Nat)(D:Array (Nat×cJ)):f9:=λC O h=>aq (parts O D.toList) λQ=>aq (mq C H) λj=>aq (sj C j.1) λE=>cm (ax (aH n 0) (pV D.toList) (aH (k9 (jx E)) j.2&&(da 1 j.2&&da (n*j.2) 1000)))<|
 aq (wV (λI=>ab (I*j.2,j.2)) Q (i1 (jx E) n)) λJ=>ab (.ey h.n 0 n n,h.new (.ce j.1 J))
def Ii(C:bq)(E:cJ):f9:=λj D h=>aq (dI E D) λv=>aq (k1 v) λq=>aq (qV j C) λs=>aq (oo h q.1 q.2 s.2) λl=>p4 h (xA s.1 l)
def RU(E:bq)(I y:cJ):f9:=λD C h=>aq (dI I C) λv=>aq (k1 v) λq=>aq (dI y C) λj=>aq (qV D E) λs=>cm (ax (t9 s.1 (MN j)) (ax (aH (k9 (jx j)) s.2) (um (jx j)) al) al) (aq (Kd h q.1 q.2 (jx j)) λH=>ab (.cB [],H))
def abq(j:Fn):Bool:=match j with| .method _=>ag| _=>al
def abu(v:aB):Bool:=by
 apply aB.rec (t:=v) (motive_1:=λ_=> _) (motive_2:=λ_=>PUnit)
 case ai=>exact λb o=>ag
 case f=>exact λg l c _ _=>iF (abq g)
 case y=>exact λj v _=>ag
 all_goals (intros;first|exact al|exact PUnit.unit)
def RQ(C:cJ):f9:=λ_ j h=>aq (dI C j) λv=>cm (abu v) (ab (v,h))
def Rz(E:BinOp)(D:bq)(H y:cJ):f9:=λC j h=>aq (dI H j) λa=>aq (dI y j) λb=>p4 h (FZ C D E y a b)
def aiv:UnOp->aB->Option aB
 | .not=>λv=>aq (mI v) λb=>ab (.b (!b))
 | .neg=>λv=>aq (ju v) λq=>ab (.i q.1 (tE q.1 (0-q.2)))
 | _=>λ_=>af
def z4(j:UnOp)(D:cJ):f9:=λ_ C h=>aq (dI D C) λv=>p4 h (aiv j v)
def Ih(S D:bq)(O:cJ):f9:=λj J h=>aq (dI O J) λv=>aq (mt j S) λE=>cK
 (cm (AJ j D) (cK (aq (M6 E) λH=>aq (pd j H) λC=>cm (hE C .u8) (aq (u4 h (nat_lit 1) v) λl=>aq (NB l) λI=>ab (.s ⟨⟨I⟩⟩,h))) (λa=>ab (.s a,h)) (sI v)))
 (λC=>aq (ju v) λq=>ab (.i C (tE C q.2),h)) (pd j D)
def RN(j:bq)(E:cJ):f9:=λC D h=>aq (dI E D) λv=>cm (iF (P0 C j)) (ab (.y j v,h))
def C5(j:Fn):Bool:=match j with| .yield _=>ag| _=>al
def RM(j:Fn)(l c:Array cJ):f9:=λ_ C h=>cm (iF (C5 j))<|aq (Ac C l.toList) λa=>aq (Ac C c.toList) λb=>ab (.f j a b,h)
def zS(C:bk)(D:bq):Option (Bool×bq):=aq (H3 C D) λj=>cK (cm (GB C j.1 3&&C8 C j.1) (ab (ag,j.2))) (λE=>cm (hE E .i64) (ab (al,j.2))) (pd C j.1)
def RO(C:bq)(D:Option cJ):f9:=λj _ h=>cm D.isNone (aq (zS j C) λc=>ab (.m h.n,h.new (ax c.1 (.rP []) (.qM []))))
def Ij(H:bq)(l c:cJ):f9:=λC D h=>aq (dI l D) λl=>aq (wi l) λl=>aq (dI c D) λc=>aq (wi c) λc=>aq (mq C H) λj=>aq (sj C j.1) λE=>aq (l9 C j.1) λI=>
 cm (da l c&&(da (c*I.bytes) (nat_lit 140737488355328)&&(da c (nat_lit 140737488355328)&&(da 1 j.2&&aH (k9 (jx E)) j.2)))) (ab (.ey h.n 0 l c,h.new (.ce j.1 (i1 (jx E) c))))
def RT(H:bq)(R:cJ)(O J Q:Option cJ):f9:=λE j h=>aq (dI R j) λv=>aq (BZ j O) λl=>aq (BZ j J) λC=>aq (BZ j Q) λD=>
 cK (aq (wd E H) λa=>aq (k1 v) λq=>cm (l.isNone&&(C.isNone&&(D.isNone&&eY 0 a.1))) (ab (.ey q.1 q.2 a.1 a.1,h)))
  (λI=>cm (ax D.isSome C.isSome ag) (p4 h (T6 v I.2 (l.getD 0) C D))) (mq E H)
def RF(D:bq)(I:cJ)(E:Nat):f9:=λC H h=>aq (dI I H) λv=>aq (k1 v) λq=>aq (GO C D E) λj=>cm (eY (nat_lit 0) j.2.2) (ab (.ai q.1 (jN q.2 j.1),h))
def RG(D:bq)(J:cJ)(E:Nat):f9:=λC I h=>aq (dI J I) λv=>aq (rn v) λl=>aq (GO C D E) λj=>aq (tA (Gm l j.1) j.2.2) λH=>p4 h (xA j.2.1 H)
def RH(D:bq)(I y:cJ):f9:=λC E h=>aq (dI I E) λv=>aq (dI y E) λj=>aq (wi j) λj=>
 cK (aq (k1 v) λq=>aq (wd C D) λa=>cm (eY j a.1&&da 2 a.1) (ab (.ai q.1 (q.2+j*a.2.2),h)))
  (λq=>aq (mq C D) λH=>cm (eY j q.2.2) (ab (.ai q.1 (q.2.1+j*H.2),h))) (yU v)
def RI(D:bq)(I y:cJ):f9:=λC E h=>aq (dI I E) λv=>aq (dI y E) λj=>aq (wi j) λj=>
 cK (cm (AJ C D) (aq (sI v) λs=>aq s.data[j]? λH=>ab (.i .u8 (Int.ofNat H.toNat),h)))
  (λl=>aq (wd C D) λa=>cm (mf C a.2.1&&(eY j a.1)) (p4 h (wX l (j*a.2.2)))) (rn v)
def DC(C:Bool)(v:aB)(j:Bool):aB:=ax C (.cB [v,.b j]) v
def RL(J:bq)(Q y:cJ)(D:Bool):f9:=λH I h=>aq (dI Q I) λO=>aq (t5 O) λb=>aq (dI y I) λj=>aq (zS H J) λc=>aq (sj H c.2) λC=>aq (h.get b) λo=>
 ax c.1 (aq (yP o) λE=>aq (yM j) λj=>aq (mI C) λC=>cm (iF C) (ab (cK (DC D (.b al) al) (λv=>DC D (.b v) ag) (s1 rE j E),h)))
  (aq (wh o) λE=>aq (we j) λj=>aq (yM C) λC=>cm (rE C (0,0,0)) (ab (cK (DC D (qE (0,0,0)) al) (λv=>DC D (qE v) ag) (s1 fD j E),h)))
def RV(H:bq)(J y O:cJ):f9:=λE D h=>aq (dI J D) λI=>aq (t5 I) λb=>aq (dI y D) λj=>aq (dI O D) λv=>aq (zS E H) λc=>aq (h.get b) λo=>
 ax c.1 (aq (yP o) λC=>aq (yM j) λj=>aq (mI v) λv=>ab (.cB [],h.put b (.rP (xH rE j v C))))
  (aq (wh o) λC=>aq (we j) λj=>aq (yM v) λv=>ab (.cB [],h.put b (.qM (xH fD j v C))))
def G4{α:Type}(l:List α):Option (Option α):=dN (ab af) (λj l _=>dN (ab (ab j)) (λ_ _ _=>af) l) l
def RS(E:bq)(J:cJ):f9:=λD I h=>aq (dI J I) λH=>aq (t5 H) λb=>aq (zS D E) λc=>aq (h.get b) λo=>
 ax c.1 (aq (yP o) λj=>aq (G4 j) λC=>ab (.ai h.n 0,(h.put b .no).new (.tr b j C af))) (aq (wh o) λj=>aq (G4 j) λC=>ab (.ai h.n 0,(h.put b .no).new (.ts b j C af)))
def RP(H:cJ)(D:Bool):f9:=λ_ E h=>cm (iF D)<|aq (dI H E) λC=>aq (k1 C) λq=>cm (aH q.2 0)<|aq (h.get q.1) λo=>
 cK (aq (yQ o) λg=>cK (ab (.cB [.b al],(h.put q.1 .no).put g.1 (.rP g.2.1))) (λj=>ab (.cB [.b ag,qE j.1,.b j.2],h.put q.1 (.tr g.1 g.2.1 af (ab j)))) g.2.2.1)
  (λg=>cK (ab (.cB [.b al],(h.put q.1 .no).put g.1 (.qM g.2.1))) (λj=>ab (.cB [.b ag,s6 j.1,qE j.2],h.put q.1 (.ts g.1 g.2.1 af (ab j)))) g.2.2.1) (yR o)
def RD(E:cJ):f9:=λ_ D h=>aq (dI E D) λC=>aq (k1 C) λq=>cm (aH q.2 0)<|aq (h.get q.1) λo=>
 cK (aq (yQ o) λg=>aq g.2.2.2 λj=>ab (.cB [qE j.1,.b j.2],h)) (λg=>aq g.2.2.2 λj=>ab (.cB [s6 j.1,qE j.2],h)) (yR o)
def RE(D:cJ)(j:Nat):f9:=λ_ C h=>aq (dI D C) λv=>aq (yS v) λl=>p4 h (wX l j)
def one(l:List cJ)(j:cJ->aK):aK:=dN af (λC l _=>dN (j C) (λ_ _ _=>af) l) l
def two(l:List cJ)(j:cJ->cJ->aK):aK:=dN af (λC l _=>one l (j C)) l
def uS:List bq->Option bq| [j]=>ab j| _=>af
def J0:List bq->Option bq| [j,C]=>ax (aH j C) (ab j) af| _=>af
def BW(J:List cJ)(H:List bq):f9:=λC E h=>one J λI=>aq (uS H) λD=>aq (dI I E) λv=>
 cK (aq (H3 C D) λ_=>aq (t5 v) λb=>aq (h.get b) λo=>cK (aq (yP o) λj=>ab (.i .i64 (Int.ofNat (aa j)),h)) (λj=>ab (.i .i64 (Int.ofNat (aa j)),h)) (wh o))
  (λ_=>cK (aq (rL v) λn=>ab (.i .i64 (Int.ofNat n),h)) (λq=>ab (.dU q.2,h)) (pG v)) (mq C D)
def zG:oC->Bool| .i64=>ag| _=>al
def Nj(D:List cJ)(_:List bq):f9:=λ_ j h=>two D λC y=>aq (dI C j) λa=>aq (ju a) λa=>aq (dI y j) λb=>aq (ju b) λb=>cm (zG a.1&&zG b.1) (ab (.i .i64 (min a.2 b.2),h))
def Ni(D:List cJ)(_:List bq):f9:=λ_ j h=>two D λC y=>aq (dI C j) λa=>aq (ju a) λa=>aq (dI y j) λb=>aq (ju b) λb=>cm (zG a.1&&zG b.1) (ab (.i .i64 (max a.2 b.2),h))
def Nf(U:List cJ)(Q:List bq):f9:=λC E h=>two U λR y=>aq (dI R E) λv=>aq (dI y E) λH=>aq (J0 Q) λJ=>aq (mq C J) λj=>aq (rL H) λD=>aq (rL v) λn=>aq (l9 C j.1) λO=>aq (sj C j.1) λW=>
 cm (eY (nat_lit 0) j.2&&(da ((n+D)*O.bytes) (nat_lit 140737488355328)&&(da (n+D) (nat_lit 140737488355328)&&aH (k9 (jx W)) j.2))) (aq (u4 h j.2 H) λI=>cm (um I) (MV v h j.1 j.2 D I))
def Nh(Q:List cJ)(J:List bq):f9:=λD I h=>one Q λO=>aq (uS J) λE=>aq (dI O I) λv=>aq (mq D E) λj=>aq (sj D j.1) λC=>ax (s7 v) (ab (.cB [],h)) (cm (um (jx C)&&(da 1 j.2&&aH (k9 (jx C)) j.2)) (aq (yU v) λq=>ax (aH q.2.2 0) (ab (.cB [],h)) (aq (Kd h q.1 q.2.1 (i1 (jx C) q.2.2)) λH=>ab (.cB [],H))))
def XO(v:Builtin):List cJ->List bq->f9:= @Kt (λ_=>List cJ->List bq->f9) (Nf) (λ_ _ _ _ _=>af) (Nh) (λ_ _ _ _ _=>af) (λ_ _ _ _ _=>af) (λ_ _ _ _ _=>af) (λ_ _ _ _ _=>af) (λ_ _ _ _ _=>af) (BW) (λ_ _ _ _ _=>af) (Ni) (Nj) (λ_ _ _ _ _=>af) (λ_ _ _ _ _=>af) (λ_ _ _ _ _=>af) (λ_ _ _ _ _=>af) (λ_ _ _ _ _=>af) (λ_ _ _ _ _=>af) (λ_ _ _ _ _=>af) (λ_ _ _ _ _=>af) (λ_ _ _ _ _=>af) (λ_ _ _ _ _=>af) (λ_ _ _ _ _=>af) (λ_ _ _ _ _=>af) (λ_ _ _ _ _=>af) (λ_ _ _ _ _=>af) v
def ad6:f9:=λ_ _ _=>af
def ad5:Callee->List cJ->List bq->f9
 | .builtin b=>XO b
 | _=>λ_ _ _ _ _=>af
def kg(v:Op):f9:=by
 apply x5 (t:=v) (motive:=λ_=> _)
 case move=>exact λj=>DB j
 case assign=>exact λj=>DB j
 case pick=>exact λc a b=>RR c a b
 case alloc=>exact λC=>Ry C
 case box=>exact λC j=>RA C j
 case build=>exact λC H=>RB C H
 case buildSlice=>exact λC n H=>RC C n H
 case load=>exact λC j=>Ii C j
 case store=>exact λC j y=>RU C j y
 case nilCheck=>exact λj=>RQ j
 case binOp=>exact λE C j y Y=>Rz E C j y
 case unOp=>exact λE C j=>z4 E j
 case convert=>exact λS C j=>Ih S C j
 case makeInterface=>exact λC j=>RN C j
 case makeFunc=>exact λD l c=>RM D l c
 case makeMap=>exact λC U=>RO C U
 case makeSlice=>exact λC l c=>Ij C l c
 case slice=>exact λC j O I Q=>RT C j O I Q
 case fieldAddr=>exact λC j D=>RF C j D
 case field=>exact λC j D=>RG C j D
 case indexAddr=>exact λC j y=>RH C j y
 case index=>exact λC j y=>RI C j y
 case lookup=>exact λC j y R=>RL C j y R
 case mapUpdate=>exact λC j y W=>RV C j y W
 case range=>exact λC j=>RS C j
 case next=>exact λj q=>RP j q
 case entry=>exact λj=>RD j
 case extract=>exact λj J=>RE j J
 case call=>exact λc=>ad5 c.callee c.args.toList c.argTypes.toList
 all_goals (intros;first|exact ad6)
inductive X where
 |lc|ext (j:Nat)|ret
structure lu where
 t:eJ
 h:cE
abbrev ir:=Nat->List aB->cE->aK
abbrev jn:=ir->dc->List aB->cE->aK
inductive ps where
 |fn (C:FuncId) (j:List aB)|cH (D:Nat) (j:List aB)
def zV(C:bk)(D:bq)(v:aB)(name:String)(I:List aB):Option ps:=aq (l9 C D) λH=>aq (H.methods.toList.find? λj=>j.name==name) λj=>aq j.func λE=>cm (j.path.isEmpty&&(aH (p9 C D) (nat_lit 1)&&E.2)) (ab (.fn E.1 (v::I)))
def PP(l:List aB)(j:aB->List aB->Option ps):Option ps:=dN af (λv l _=>j v l) l
def Pq:Fn->List aB->List aB->List aB->bk->Option ps
 | .func g=>λl c j _=>ab (.fn g (l++(j++c)))
 | .yield E=>λl c j _=>cm (pV l&&pV c) (ab (.cH E j))
 | .methodOf D name=>λl c j C=>cm (pV l&&pV c) (PP j λv j=>zV C D v name j)
 | .method name=>λ_ _ _ _=>af
 | .via _ _ _ _=>λ_ _ _ _=>af
def y2:Callee->List cJ->bk->eJ->Option ps
 | .value H=>λE C j=>aq (dI H j) λv=>aq (sH v) λq=>aq (Ac j E) λD=>Pq q.1 q.2.1 q.2.2 D C
 | .invoke I name=>λE C j=>aq (dI I j) λv=>aq (BU v) λq=>aq (Ac j E) λD=>zV C q.1 q.2 name D
 | .builtin _=>λ_ _ _=>af
def wl:Callee->Bool| .builtin _=>ag| _=>al
def B3(v:Op):Option Call:=by
 apply x5 (t:=v) (motive:=λ_=> _)
 case call=>exact λc=>ab c
 all_goals (intros;first|exact af)
def Ga(D:jn)(C:ir)(h:cE)(c:ps):aK:=ps.rec (λE j=>D C E j h) (λH j=>C H j h) c
def Ab(j:bk)(D:jn)(E:ir)(C:eJ)(h:cE)(o:Op):aK:=
 cK (kg o j C h) (λc=>ax (wl c.callee) (kg o j C h) (aq (y2 c.callee c.args.toList j C) (Ga D E h))) (B3 o)
def hX(C:eJ)(D:Option Nat)(v:aB):eJ:=cK C (λj=>C.set (Nat.succ j) j (ab v)) D
def tB(C:List cI)(E:eJ)(g:Option (Nat×Bool)):Option Bool:=cK (ab ag) (λq=>aq C[q.1]? λD=>aq D.dst λj=>aq (E.get j) λv=>cm (iF (UF v)) (ab (cK al (λH=>H==q.2) (mI v)))) g
def Ue(D:bk)(E:jn)(I:ir)(H:List cI)(o:cI)(j:eJ)(h:cE):Option lu:=
 aq (tB H j o.guard) λb=>ax b (aq (Ab D E I j h o.op) λC=>ab ⟨hX j o.dst C.1,C.2⟩) (ab ⟨hX j o.dst (.cB []),h⟩)
def Dj(j:bk)(C:jn)(H:ir)(E l:List cI):lu->Option lu:=
 dN (λs=>ab s) (λo _ D s=>aq (Ue j C H E o s.t s.h) D) l
def jw(j:Nat):Nat:=Nat.shiftLeft (nat_lit 1) j
def GY:Ground->Bool| .textOnly _=>al| .gcOnly _=>al| _=>ag
def uX(o:cI):Nat:=dN (nat_lit 0) (λj _ C=>ax (GY j.ground) (ij (jw j.on) C) C) o.after.toList
def Es(a b:Nat):Bool:=aH (LK a b) a
def mQ(j C:Nat):Bool:=Nat.testBit C j
def ach(v:Builtin):Bool:= @Kt (λ_=>Bool) (al) (al) (al) (al) (al) (al) (al) (al) (ag) (al) (al) (al) (al) (al) (al) (al) (al) (al) (al) (al) (al) (al) (al) (al) (al) (al) v
def QD:Callee->Bool| .builtin b=>ach b| _=>al
def pW(v:Op):bk->Nat:=by
 apply x5 (t:=v) (motive:=λ_=> _)
 case move=>exact λC=>λ_=>nat_lit 0
 case assign=>exact λC=>λ_=>nat_lit 0
 case pick=>exact λc a b=>λ_=>nat_lit 0
 case alloc=>exact λj=>λ_=>nat_lit 2
 case build=>exact λj U=>λ_=>nat_lit 0
 case load=>exact λj C=>λ_=>nat_lit 1
 case nilCheck=>exact λC=>λ_=>nat_lit 0
 case binOp=>exact λH j C y I=>λ_=>nat_lit 0
 case unOp=>exact λH j C=>λ_=>nat_lit 0
 case convert=>exact λS j C=>λD=>cK (nat_lit 3) (λ_=>cK (nat_lit 3) (λ_=>nat_lit 0) (pd D j)) (pd D S)
 case makeInterface=>exact λj C=>λ_=>nat_lit 0
 case makeFunc=>exact λE l c=>λ_=>nat_lit 0
 case makeSlice=>exact λj l c=>λ_=>nat_lit 2
 case slice=>exact λj C Q J R=>λ_=>nat_lit 0
 case fieldAddr=>exact λj C E=>λ_=>nat_lit 0
 case field=>exact λj C E=>λ_=>nat_lit 0
 case indexAddr=>exact λj C y=>λ_=>nat_lit 0
 case index=>exact λj C y=>λ_=>nat_lit 0
 case extract=>exact λC O=>λ_=>nat_lit 0
 case call=>exact λc=>λD=>ax (QD c.callee) (cK (nat_lit 3) (λj=>cK (nat_lit 3) (λ_=>nat_lit 0) (mq D j)) (uS c.argTypes.toList)) (nat_lit 3)
 all_goals (intros;first|exact nat_lit 3)
def xT(o:cI):List Nat:=cK [] (λj=>[j]) o.dst
structure hP where
 i:Nat
 o:cI
 ai:Nat
 k:Nat
def tf(j:bk)(l:List cI):Nat->List hP:=dN (λ_=>[]) (λo _ C n=>⟨n,o,uX o,pW o.op j⟩::C (Nat.succ n)) l
def ul(C:hP->Bool)(l:List hP):Option hP:=dN af (λj _ D=>ax (C j) (ab j) D) l
def lw(j:hP->Bool)(l:List hP):Bool:=dN ag (λD _ C=>ax (j D) C al) l
def uq(l:List hP):Nat:=dN (nat_lit 0) (λC _ j=>ax (aH C.k (nat_lit 2)) (ij (jw C.i) j) j) l
inductive rh where
 |nil
 |q (j:hP) (s:rh)
 |e (j:hP) (s:rh)
def qS(j:Nat)(C:hP):Bool:=ax (mQ C.i j) al (Es C.ai j)
def DR(l:List hP)(n:Nat):Nat->rh:=nP (λ_=> .nil) (λ_ D C=>
 cK (cK (cK .nil (λj=> .e j (D (ij C (jw j.i)))) (ul (λj=>qS C j) l)) (λj=> .e j (D (ij C (jw j.i)))) (ul (λj=>ax (qS C j) (aH j.k (nat_lit 3)) al) l))
  (λj=> .q j (D (ij C (jw j.i)))) (ul (λj=>ax (qS C j) (eY j.k (nat_lit 2)) al) l)) n
def MQ(l:List hP)(C E D:Nat):Bool:=lw (λj=>ax (mQ j.i E) ag (ax (aH j.i D) ag (ax (mQ j.i C) ag (ax (mQ D j.ai) ag (iF (Es j.ai (ij E C))))))) l
def qU(l:List hP)(E H:Nat)(s:rh):Nat->Bool:=rh.rec (λj=>aH j H)
 (λC _ D j=>ax (qS j C) (ax (eY C.k (nat_lit 2)) (D (ij j (jw C.i))) al) al)
 (λC _ D j=>ax (qS j C) (ax (MQ l E j C.i) (ax (eY C.k (nat_lit 2)) al (D (ij j (jw C.i)))) al) al) s
def aeo(j y:hP):Bool:=ax (mQ j.i y.ai) ag (mQ y.i j.ai)
def p1(j:Nat)(l:List Nat):Bool:=dN al (λD _ C=>ax (aH j D) ag C) l
def MY(D:Array cI)(l:List hP):Bool:=lw (λj=>cK ag (λC=>lw (λy=>ax (aH j.i y.i) ag (ax (aeo j y) ag (ax (p1 C (y.o.looksAt D)) al (iF (p1 C (xT y.o)))))) l) j.o.dst) l
def aeQ(C:bk)(j:Array cI):rh:=DR (tf C j.toList (nat_lit 0)) (Nat.succ (aa j.toList)) (nat_lit 0)
def BX(v:Op):Bool:=by
 apply x5 (t:=v) (motive:=λ_=> _)
 case defer=>exact λc=>ag
 case select=>exact λj b=>ag
 all_goals (intros;first|exact al)
def aaD(g:Option (Nat×Bool)):Bool:=cK ag (λ_=>al) g
def adA(D:Array cI)(l:List hP)(j:hP):Bool:=lw (λy=>ax (aH j.i y.i) ag (ax (cK ag (λC=>iF (p1 C (xT y.o))) j.o.dst) (cK ag (λC=>ax (p1 C (j.o.looksAt D)) (mQ y.i j.ai) ag) y.o.dst) al)) l
def Rk(D:Array cI)(l:List hP)(C:Nat):Bool:=lw (λj=>ax (aH j.k (nat_lit 2)) (ax (aaD j.o.guard) (ax (aH (LK j.ai C) (nat_lit 0)) (adA D l j) al) al) ag) l
def R6(C:bk)(j:Array cI):Bool:=(λl=>ax (lw (λD=>iF (BX D.o.op)) l) (ax (MY j l) (ax (Rk j l (uq l)) (qU l (uq l) (kA (jw (aa j.toList))) (DR l (Nat.succ (aa j.toList)) (nat_lit 0)) (nat_lit 0)) al) al) al) (tf C j.toList (nat_lit 0))
def Ax(l:List hP)(j:Nat):Nat:=dN j (λD _ C=>ax (mQ D.i j) (ij D.ai C) C) l
def I1(l:List hP)(n:Nat)(j:Nat):Nat:=nP (λj=>j) (λ_ C j=>C (Ax l j)) n j
def aca(l:List hP)(C D:Nat):Bool:=lw (λj=>ax (aH j.i C) ag (ax (mQ j.i D) ag (ax (md j.o) ag (mQ C (I1 l (nat_lit 8) j.ai))))) l
def zK(j:bk)(D:Array cI)(C E:Nat):Bool:=(λl=>aca l C (I1 l (nat_lit 8) E)) (tf j D.toList (nat_lit 0))
abbrev pz:=List (Nat×Nat×List aB)
def r5(h:cE)(C:pz):Bool:=dN ag (λj _ g=>ax (cK al (λl=>iu (ka (nat_lit 9)) l j.2.2) (oo h j.1 j.2.1 (k9 j.2.2))) g al) C
def D5(v:Op):bk->eJ->cE->pz->pz:= @x5 (λ_=>bk->eJ->cE->pz->pz) (λ_=>λ_ _ _ j=>j) (λ_=>λ_ _ _ j=>j) (λ_ _ _=>λ_ _ _ j=>j) (λ_=>λ_ _ _ j=>j) (λ_ _=>λ_ _ _ j=>j) (λ_ _=>λ_ _ _ j=>j) (λ_ _ _=>λ_ _ _ j=>j) (λ_ _ _ _=>λ_ _ _ j=>j) (λD H=>λC E h j=>cK j (λv=>cK j (λq=>cK j (λs=>cK j (λl=>(q.1,q.2,l)::j) (oo h q.1 q.2 s.2)) (qV C D)) (k1 v)) (dI H E)) (λ_ _ _=>λ_ _ _ j=>j) (λ_=>λ_ _ _ j=>j) (λ_=>λ_ _ _ j=>j) (λ_=>λ_ _ _ j=>j) (λ_ _ _ _ _=>λ_ _ _ j=>j) (λ_ _ _=>λ_ _ _ j=>j) (λ_ _ _=>λ_ _ _ j=>j) (λ_ _=>λ_ _ _ j=>j) (λ_ _=>λ_ _ _ j=>j) (λ_ _ _=>λ_ _ _ j=>j) (λ_ _=>λ_ _ _ j=>j) (λ_ _=>λ_ _ _ j=>j) (λ_ _ _=>λ_ _ _ j=>j) (λ_ _ _ _ _=>λ_ _ _ j=>j) (λ_ _ _=>λ_ _ _ j=>j) (λ_ _ _=>λ_ _ _ j=>j) (λ_ _ _=>λ_ _ _ j=>j) (λ_ _ _=>λ_ _ _ j=>j) (λ_ _ _ _=>λ_ _ _ j=>j) (λ_ _ _ _=>λ_ _ _ j=>j) (λ_ _ _=>λ_ _ _ j=>j) (λ_ _ _ _=>λ_ _ _ j=>j) (λ_ _=>λ_ _ _ j=>j) (λ_ _=>λ_ _ _ j=>j) (λ_=>λ_ _ _ j=>j) (λ_ _ _ _=>λ_ _ _ j=>j) (λ_ _=>λ_ _ _ j=>j) (λ_=>λ_ _ _ j=>j) (λ_=>λ_ _ _ j=>j) (λ_=>λ_ _ _ j=>j) (λ_=>λ_ _ _ j=>j) (λ_ _=>λ_ _ _ j=>j) (λ_ _ _=>λ_ _ _ j=>j) (λ_ _=>λ_ _ _ j=>j) v
def Yr(j:jn)(E:ir)(h:cE)(c:ps):aK:=ps.rec (λC D=>j E C D h) (λ_ _=>af) c
def Aa(j:bk)(D:jn)(E:ir)(C:eJ)(h:cE)(o:Op):aK:=
 cK (kg o j C h) (λc=>ax (wl c.callee) (kg o j C h) (aq (y2 c.callee c.args.toList j C) (Yr D E h))) (B3 o)
def kQ(H:bk)(J:jn)(O:ir)(I:Array cI)(s:rh):eJ->cE->pz->Option lu:=rh.rec (λC h _=>ab ⟨C,h⟩)
 (λj _ D C h E=>aq (tB I.toList C j.o.guard) λb=>ax b (aq (kg j.o.op H C h) λv=>D (hX C j.o.dst v.1) h (D5 j.o.op H C h E)) (D (hX C j.o.dst (.cB [])) h E))
 (λj _ D C h E=>ax (aH j.k (nat_lit 2)) (aq (kg j.o.op H C h) λv=>D (hX C j.o.dst v.1) v.2 E)
  (aq (tB I.toList C j.o.guard) λb=>ax b (aq (Aa H J O C h j.o.op) λv=>ax (r5 v.2 E) (D (hX C j.o.dst v.1) v.2 E) (cm (zK H I j.i j.ai) (D (hX C j.o.dst v.1) v.2 []))) (D (hX C j.o.dst (.cB [])) h E))) s
def qA(l:List hP):eJ->eJ:=dN (λj=>j) (λD _ E j=>E (ax (aH D.k (nat_lit 2)) (cK j (λC=>j.set (Nat.succ C) C af) D.o.dst) j)) l
def I3(j:bk)(D:jn)(E:ir)(C:Array cI)(s:lu):Option lu:=ax (R6 j C) (kQ j D E C (aeQ j C) (qA (tf j C.toList (nat_lit 0)) s.t) s.h []) af
abbrev q8:=Option (X×lu)
def z9(j:q8)(n:lu->q8):q8:=aq j λq=>X.rec (n q.2) (λ_=>j) j q.1
def HV(j:lu->q8)(n:Nat):lu->q8:=nP (λ_=>af) (λ_ C s=>z9 (j s) C) n
def XL(id:Nat)(j:q8):q8:=aq j λq=>X.rec j (λC=>ax (aH C id) (ab (.lc,q.2)) j) j q.1
def Em(H:List Nat):List aB->eJ->eJ:=dN (λ_ j=>j) (λD _ E C j=>dN j (λv C _=>E C (j.set (Nat.succ D) D (ab v))) C) H
def Jb(O:ir)(H:Nat)(I:eJ)(D:List Nat)(J y:lu->q8):ir:=λC j h=>
 ax (aH C H) (aq (cm (aH (k9 j) (aa D)) (J ⟨Em D j I,h⟩)) λq=>X.rec (aq (y q.2) λE=>X.rec (ab (.b ag,E.2.h)) (λ_=>af) af E.1) (λ_=>af) af q.1) (O C j h)
abbrev lS:=bk->jn->ir->lu->q8
def NE:lS:=λ_ _ _ s=>ab (.lc,s)
def Ya(j:Array cI)(H:Bool):lS:=λC D E s=>aq (ax H (I3 C D E j s) (Dj C D E j.toList j.toList s)) λI=>ab (.lc,I)
def Yc(a b:lS):lS:=λj C D s=>z9 (a j C D s) (b j C D)
def X4(c:cJ)(a b:lS):lS:=λj C E s=>aq (dI c s.t) λv=>aq (mI v) λD=>ax D a b j C E s
def X2(id:Nat)(a:lS):lS:=λj C D s=>XL id (a j C D s)
def X8(a:lS):lS:=λj C D s=>HV (a j C D) 2000 s
def X6(id:Nat):lS:=λ_ _ _ s=>ab (.ext id,s)
def Yb:lS:=λ_ _ _ s=>ab (.ret,s)
def FR:Fn->Option dc| .func g=>ab g| _=>af
def ND(E:cJ)(H:Array Nat)(J y:lS):lS:=λD j C s=>aq (dI E s.t) λv=>aq (sH v) λq=>aq (FR q.1) λg=>
 aq (j (Jb C s.h.n s.t H.toList (J D j C) (y D j C)) g (q.2.1++ .f (.yield s.h.n) [] []::q.2.2) (s.h.new .no)) λI=>ab (.lc,⟨s.t,I.2⟩)
def yY:lS:=λ_ _ _ _=>af
def kN(c:Code):Bool:=EJ ag (λ_ _ _=>ag) (λ_ _ a b=>ax a b al) (λ_ _ _ a b=>ax a b al) (λ_ _ a=>a) (λ_ a=>a) (λ_ _ _ _ _ _=>al) (λ_=>ag) (λ_ a=>a) (λ_=>ag) (λ_=>ag) ag (λ_=>ag) c
def ix(c:Code):lS:=EJ NE (λ_ D j=>Ya D j) (λ_ _ a b=>Yc a b) (λc _ _ a b=>X4 c a b) (λid _ a=>X2 id a) (λ_ a=>X8 a)
 (λC E I J H y=>ax (ax (kN I) (kN J) al) (ND C E H y) yY) X6 (λ_ _=>yY) (λ_=>NE) (λ_=>yY) Yb (λ_=>yY) c
def Cj(n:Nat)(l:List cI):Bool:=dN ag (λo _ j=>ax (eb n o.dst) j al) l
def FN(n:Nat)(l:List Nat):Bool:=dN ag (λC _ j=>ax (eY C n) j al) l
def rv(n:Nat)(c:Code):Bool:=EJ ag (λ_ j _=>Cj n j.toList) (λ_ _ a b=>ax a b al) (λ_ _ _ a b=>ax a b al) (λ_ _ a=>a) (λ_ a=>a)
 (λ_ C _ _ D y=>ax (FN n C.toList) (ax D y al) al) (λ_=>ag) (λ_ a=>a) (λ_=>ag) (λ_=>ag) ag (λ_=>ag) c
def FP(l:List aB):Nat->eJ->eJ:=dN (λ_ j=>j) (λv _ C n j=>C (Nat.succ n) (j.set (Nat.succ n) n (ab v))) l
def Tj:ResultVar->bk->eJ->cE->Option aB
 | .tmp E=>λ_ j _=>j.get E
 | .cell a D=>λC j h=>aq (j.get a) λv=>aq (k1 v) λq=>aq (qV C D) λs=>aq (oo h q.1 q.2 s.2) λl=>xA s.1 l
def I4(l:List aB):aB:=dN (.cB []) (λv j _=>dN v (λ_ _ _=> .cB l) j) l
def NN(j:dc->List aB->cE->aK)(args:List aB)(h:cE):aK:=dN af (λv l _=>cm (pV l) (aq (sH v) λq=>aq (FR q.1) λg=>aq (j g (q.2.1++q.2.2) h) λC=>ab (.cB [.cp [.i .i64 0,.i .i64 0],.b al],C.2))) args
def Zw(j:X):Bool:=X.rec ag (λ_=>al) ag j
def F1(C:bk)(j:Func)(D:jn)(I:ir)(args:List aB)(h:cE):aK:=aq j.body λc=>cm (ax (rv j.ntmps c) (da (k9 args) j.ntmps) al)<|aq (ix c C D I ⟨FP args 0 .kJ,h⟩) λq=>cm (Zw q.1)<|aq (hW (λE=>Tj E C q.2.t q.2.h) j.results.toList) λH=>ab (I4 H,q.2.h)
abbrev mA:=dc->Option (List aB->cE->aK)
def nj(C:bk)(I:dc)(J:mA)(n:Nat):jn:=nP (λ_ _ _ _=>af)
 (λ_ E H j args h=>cK (ax (aH j I) (NN (E H) args h) (aq ((nk C).get j) λD=>cm (iF (D.name== "runtime.NumGoroutine")) (F1 C D E H args h))) (λF=>F args h) (J j)) n
def okB(j:aK)(v:aB):Bool:=cK al (λq=>ka 9 q.1 v) j
def Ic(C τ:Nat->Option Nat)(v:aB):Option aB:= @aB.rec (λ_=>Option aB) (λ_=>Option (List aB)) (λO n=>ab (.i O n)) (λI=>ab (.b I)) (λI=>ab (.s I)) (λb o=>aq (C b) λb=>ab (.ai b o)) (ab .hc) (λb o n c=>aq (C b) λb=>ab (.ey b o n c)) (λb o n l=>aq (C b) λb=>ab (.dw b o n l)) (ab .jk) (ab .gk) (λb=>aq (C b) λb=>ab (.m b)) (ab .fF) (λg l c D J=>cm (iF (C5 g)) (aq D λl=>aq J λc=>ab (.f g l c))) (ab .lb) (λQ v R=>aq R λv=>ab (.y Q v)) (ab .ld) (λl D=>aq D λl=>ab (.cp l)) (λl D=>aq D λl=>ab (.cB l)) (λj=>aq (τ j) λj=>ab (.dU j)) (λb=>aq (C b) λb=>ab (.ei b)) (ab .fg) (ab .lk) (λj n=>aq (τ j) λj=>ab (.h0 j n)) (λb j=>aq (C b) λb=>aq (τ j) λj=>ab (.hL b j)) (λE j=>aq (τ E) λE=>aq (τ j) λj=>ab (.xs E j)) (ab []) (λv l a H=>aq a λa=>aq H λH=>ab (a::H)) v
def zX(C τ:Nat->Option Nat)(v:List aB):Option (List aB):= @aB.rec_1 (λ_=>Option aB) (λ_=>Option (List aB)) (λO n=>ab (.i O n)) (λI=>ab (.b I)) (λI=>ab (.s I)) (λb o=>aq (C b) λb=>ab (.ai b o)) (ab .hc) (λb o n c=>aq (C b) λb=>ab (.ey b o n c)) (λb o n l=>aq (C b) λb=>ab (.dw b o n l)) (ab .jk) (ab .gk) (λb=>aq (C b) λb=>ab (.m b)) (ab .fF) (λg l c D J=>cm (iF (C5 g)) (aq D λl=>aq J λc=>ab (.f g l c))) (ab .lb) (λQ v R=>aq R λv=>ab (.y Q v)) (ab .ld) (λl D=>aq D λl=>ab (.cp l)) (λl D=>aq D λl=>ab (.cB l)) (λj=>aq (τ j) λj=>ab (.dU j)) (λb=>aq (C b) λb=>ab (.ei b)) (ab .fg) (ab .lk) (λj n=>aq (τ j) λj=>ab (.h0 j n)) (λb j=>aq (C b) λb=>aq (τ j) λj=>ab (.hL b j)) (λE j=>aq (τ E) λE=>aq (τ j) λj=>ab (.xs E j)) (ab []) (λv l a H=>aq a λa=>aq H λH=>ab (a::H)) v
def oq(v:dn):(Nat->Option Nat)->(Nat->Option Nat)->(Nat->Option Nat)->Option dn:=by
 apply dn.rec (t:=v) (motive:=λ_=> _)
 case ce=>exact λE j=>λD τ _=>aq (zX D τ j) λj=>ab (.ce E j)
 case kO=>exact λH s n j=>λD τ _=>aq (zX D τ j) λj=>ab (.kO H s n j)
 case cx=>exact λC=>λ_ _ I=>aq (I C) λC=>ab (.cx C)
 all_goals (intros;first|exact af)
def uw(l:List Nat):Nat->dR Nat->dR Nat:=dN (λ_ j=>j) (λD _ E C j=>E (Nat.succ C) (j.set (Nat.succ D) D (ab C))) l
def zM(D:Nat->aB)(E:Nat):Fe:=nP (λ_ _=>al) (λ_ H j y=>ax (P9 y) (Dz j) (ax (Qa y) (iF (Hh j)) (cK (cK (cK (cK (zk j y H) (λq=>dB (pG j) λC=>ax (aH C.1 q.1) (ka (nat_lit 9) (.dU C.2) (D q.2)) al) (pG y)) (λ_=>al) (t7 y)) (λ_=>al) (wk y)) (λI=>ax (Dz j) (ka (nat_lit 9) j (D I)) al) (nd y)))) E
def Dc(v:dn):(Nat->aB)->dn->Bool:=by
 apply dn.rec (t:=v) (motive:=λ_=> _)
 case ce=>exact λD j=>λC y=>dB (BP y) λq=>ax (aH D q.1) (iu (zM C (nat_lit 9)) j q.2) al
 case kO=>exact λE s n j=>λC y=>dB (BT y) λq=>ax (aH E q.1) (ax (aH s q.2.1) (ax (aH n q.2.2.1) (iu (zM C (nat_lit 9)) j q.2.2.2) al) al) al
 case cx=>exact λH=>λ_ y=>dB (t4 y) λq=>aH H q
 all_goals (intros;first|exact al)
def fS(l:List dn):cE:=dN (λh=>h) (λo _ j h=>j (h.new o)) l (cE.mk .kJ (nat_lit 0))
def Gn(l:List Nat):Bool:=dN al (λC l j=>ax (p1 C l) ag j) l
def Qz(j:List Nat)(h:cE):Option (List dn):=(λD=>hW (λC=>aq (cm (eY C h.n) (h.get C)) λo=>oq o D.get ab ab) j) (uw j (nat_lit 0) .kJ)
def f7(E:aK)(C:Nat->aB)(j:List Nat)(H:aB)(R:List dn):Bool:=dB E λq=>ax (Gn j) al (dB (Ic (uw j (nat_lit 0) .kJ).get ab q.1) λv=>ax (zM C (nat_lit 9) v H) (dB (Qz j q.2) λD=>iu (λI y=>Dc I C y) D R) al)
def gB(j C D:Nat)(args:List aB)(H:aB):List aB->cE->aK:=λI h=>cm (iu (ka (nat_lit 9)) I (.ai j (nat_lit 0)::args)) (aq (h.get j) λo=>aq (t4 o) λE=>cm (aH E C) (ab (H,h.put j (.cx D))))
def ny(τ j:Nat->Option Nat)(R:List dn):Option (List dn):=hW (λo=>oq o ab τ j) R
end aV
namespace aV
variable{α kx:Type}
theorem b1{j}{C:α->Option kx}{y}:aq j C=ab y<->∃a,j=ab a/\C a=ab y:=by
 cases j with
 |none=>exact⟨λh=>(by cases h),λ⟨_,h,_⟩=>bv⟩
 |some a=>exact⟨λh=>⟨a,rfl,h⟩,λ⟨_,h,D⟩=>(by cases h;exact D)⟩
def en{α kx D}{C:Option α}{j:α->Option kx}{g:α->kx->Option D}{y}(h:aq C (λa=>aq (j a) (g a))=ab y):∃a,C=ab a/\∃b,j a=ab b/\g a b=ab y:=
 let⟨a,h1,ae⟩:=b1.1 h;⟨a,h1,b1.1 ae⟩
def i0{α kx E H}{D:Option α}{j:α->Option kx}{g:α->kx->Option E}{C:α->kx->E->Option H}{y}(h:aq D (λa=>aq (j a) λb=>aq (g a b) (C a b))=ab y):∃a,D=ab a/\∃b,j a=ab b/\∃c,g a b=ab c/\C a b c=ab y:=
 let⟨a,h1,ae⟩:=b1.1 h;⟨a,h1,en ae⟩
def ns{α kx j I J}{H:Option α}{D:α->Option kx}{g:α->kx->Option j}{E:α->kx->j->Option I}{l:α->kx->j->I->Option J}{y}(h:aq H (λa=>aq (D a) λb=>aq (g a b) λc=>aq (E a b c) (l a b c))=ab y):∃a,H=ab a/\∃b,D a=ab b/\∃c,g a b=ab c/\∃C,E a b c=ab C/\l a b c C=ab y:=
 let⟨a,h1,ae⟩:=b1.1 h;⟨a,h1,i0 ae⟩
theorem de{c j}{y:α}:cm c j=ab y<->c=ag/\j=ab y:=by
 cases c with
 |false=>exact⟨λh=>(by cases h),λ⟨h,_⟩=>bv⟩
 |true=>exact⟨λh=>⟨rfl,h⟩,λ⟨_,h⟩=>h⟩
theorem ea(j y:α):ax ag j y=j:=rfl
theorem dP(j y:α):ax al j y=y:=rfl
theorem eK{a b}:ax a b al=(a&&b):=by cases a<;>rfl
theorem qv{a b}:ax a ag b=(a||b):=by cases a<;>rfl
theorem pf(a):iF a=!a:=by cases a<;>rfl
theorem rr(a b):t9 a b=(a==b):=by cases a<;>cases b<;>rfl
theorem dR.s4(l v)(C:dR α)(j):(dR.fE l v C).get j=ax (aH j 0) v (ax (aH (j % 2) 1) (l.get (j/2)) (C.get (j/2-1))):=rfl
theorem dR.Jm:∀(n)(I)(C)(D:Option α)(j),C<n->(dR.set n I C D).get j=if j=C then D else I.get j
 |0,_,_,_,_,h=>absurd h (Nat.not_lt_zero _)
 |n+1,I,C,D,j,h=>by
  have Q:∀(l:dR α) (v:Option α) (E:dR α),(ax (aH C 0) (dR.fE l D E) (ax (aH (C % 2) 1) (.fE (dR.set n l _ D) v E) (.fE l v (dR.set n E _ D)))).get j=if j=C then D else(dR.fE l v E).get j:=λl v E=>by
   rcases hh C with rfl|U
   .rw[show aH 0 0=ag from rfl,ea,dR.s4,dR.s4];rcases hh j with rfl|J
    .rfl
    .have H:aH j 0=al:=by cases j with|zero=>omega|succ j=>rfl
     simp[H,dP,show j≠0 by omega]
   .have H:aH C 0=al:=by cases C with|zero=>omega|succ C=>rfl
    rw[H,dP];rcases A5 C with R|h1
    .rw[R,show aH 0 1=al from rfl,dP,dR.s4,dR.s4];rcases hh j with rfl|J
     .simp[ea,show(0:Nat)≠C by omega]
     .have H:aH j 0=al:=by cases j with|zero=>omega|succ j=>rfl
      rw[H,dP,dP];rcases A5 j with ae|ae
      .rw[ae,show aH 0 1=al from rfl,dP,dP,dR.Jm n E (C/2-1) D _ ad];grind
      .rw[ae,show aH 1 1=ag from rfl,ea,ea,a8 ad]
    .rw[h1,show aH 1 1=ag from rfl,ea,dR.s4,dR.s4];rcases hh j with rfl|J
     .simp[ea,show(0:Nat)≠C by omega]
     .have H:aH j 0=al:=by cases j with|zero=>omega|succ j=>rfl
      rw[H,dP,dP];rcases A5 j with ae|ae
      .rw[ae,show aH 0 1=al from rfl,dP,dP,a8 ad]
      .rw[ae,show aH 1 1=ag from rfl,ea,ea,dR.Jm n l (C/2) D _ ad];grind
  cases I with
  |kJ=>
   apply(Q _ _ _).trans
   by_cases O:j=C
   .simp_all
   .rw[a8 O,a8 O,dR.s4];cases aH j 0<;>cases aH _ 1<;>rfl
  |fE l v E=>exact Q l v E
theorem dR.ot(D j)(E:Option α)(C):(dR.set (Nat.succ j) D j E).get C=if C=j then E else D.get C:=dR.Jm _ _ _ _ _ (Nat.lt_succ_self j)
structure dO where
 int:Nat->Int
 d5:Nat->Nat->Nat->aG
def l1(j c:Nat):a2:=.slice (if c % 2=0 then ab ⟨j,0,af⟩else af) (c/2/9223372036854775808) (c/2 % 9223372036854775808)
def aci(c:Nat):Int:=((c/2/9223372036854775808:Nat):Int)
theorem Gc{j}(h:qQ j=ag):hp j=[j]:=by cases j<;>first|rfl|cases h
variable{Ω:dO}
def bb(Ω:dO):=Nat->Option (Nat×Nat)
def bb.le(D E:bb Ω):Prop:=∀j C,D j=ab C->E j=ab C
inductive my (j:bb Ω):Fn->Fn->Prop where
 |func {C:FuncId}:my j (.func C) (.func C)
 |method {n:String}:my j (.method n) (.method n)
 |methodOf {D:TypeId} {n:String}:my j (.methodOf D n) (.methodOf D n)
 |via {D:TypeId} {I:Array FieldStep} {C:FuncId} {b:Bool}:my j (.via D I C b) (.via D I C b)
 |yield {H E c:Nat} (h:j H=ab (E,c)):my j (.yield H) (.yield E)
mutual
inductive bY (j:bb Ω):aB->Value->Prop where
 |i {Q:IntKind} {n:Int}:bY j (.i Q n) (.int Q n)
 |b {I:Bool}:bY j (.b I) (.bool I)
 |s {I:ByteArray}:bY j (.s I) (.string I)
 |ai {b o C c:Nat} (h:j b=ab (C,c)):bY j (.ai b o) (.pointer (ab ⟨C,o,af⟩))
 |hc:bY j .hc (.pointer af)
 |ey {b o n q C c:Nat} (h:j b=ab (C,c)):bY j (.ey b o n q) (.slice (ab ⟨C,o,af⟩) n q)
 |dw {b o n l C c:Nat} (h:j b=ab (C,c)) (U:l+n<=c):bY j (.dw b o n l) (.slice (ab ⟨C,o,af⟩) n (c-l))
 |jk {a:Addr} {c:Nat}:bY j .jk (.slice (ab a) 0 c)
 |gk:bY j .gk (.slice af 0 0)
 |m {b C c:Nat} (h:j b=ab (C,c)):bY j (.m b) (.map (ab C))
 |fF:bY j .fF (.map af)
 |f {g O:Fn} {l c:List aB} {E J:bz} (Y:my j g O) (U:bK j l E) (W:bK j c J):bY j (.f g l c) (.func O E.toArray J.toArray)
 |lb:bY j .lb .nilFunc
 |y {R:TypeId} {v:aB} {H:Value} (h:bY j v H):bY j (.y R v) (.iface R H)
 |ld:bY j .ld .nilIface
 |cp {l:List aB} {E:bz} (h:bK j l E):bY j (.cp l) (.agg E.toArray)
 |cB {l:List aB} {E:bz} (h:bK j l E):bY j (.cB l) (.tuple E.toArray)
 |dU {D:Nat}:bY j (.dU D) (.int .i64 (Ω.int D))
 |ei {b C c:Nat} (h:j b=ab (C,c)):bY j (.ei b) (l1 C c)
 |fg {n:Int}:bY j .fg (.int .i64 n)
 |lk {H:Value} (h:qQ H=ag):bY j .lk H
 |h0 {D:Nat} {n:Int}:bY j (.h0 D n) (.int .i64 (IntKind.i64.wrap (Ω.int D+n)))
 |hL {b D C c:Nat} (h:j b=ab (C,c)) (Z:Ω.int D=aci c):bY j (.hL b D) (l1 C c)
 |xs {i D:Nat}:bY j (.xs i D) (.int .i64 (IntKind.i64.wrap (Ω.int i-Ω.int D)))
inductive bK (j:bb Ω):List aB->List Value->Prop where
 |nil:bK j [] []
 |cons {v:aB} {D:Value} {l:List aB} {C:bz} (h:bY j v D) (E:bK j l C):bK j (v::l) (D::C)
end
def my.mono{C D:bb Ω}(h:C.le D){j g}(E:my C j g):my D j g:=by
 cases E with
 |yield q=>exact .yield (h _ _ q)
 | _=>constructor
mutual
def bY.mono{C D:bb Ω}(h:C.le D){v j}(E:bY C v j):bY D v j:=by
 cases E with
 |i=>exact .i
 |b=>exact .b
 |s=>exact .s
 |ai q=>exact .ai (h _ _ q)
 |hc=>exact .hc
 |ey q=>exact .ey (h _ _ q)
 |dw q I=>exact .dw (h _ _ q) I
 |jk=>exact .jk
 |gk=>exact .gk
 |m q=>exact .m (h _ _ q)
 |fF=>exact .fF
 |f a b c=>exact .f (a.mono h) (bK.mono h b) (bK.mono h c)
 |lb=>exact .lb
 |y q=>exact .y (bY.mono h q)
 |ld=>exact .ld
 |cp q=>exact .cp (bK.mono h q)
 |cB q=>exact .cB (bK.mono h q)
 |dU=>exact .dU
 |ei q=>exact .ei (h _ _ q)
 |fg=>exact .fg
 |lk q=>exact .lk q
 |h0=>exact .h0
 |hL q H=>exact .hL (h _ _ q) H
 |xs=>exact .xs
def bK.mono{C D:bb Ω}(h:C.le D){v:List aB}{j:bz}(E:bK C v j):bK D v j:=by
 cases E with
 |nil=>exact .nil
 |cons a b=>exact .cons (bY.mono h a) (bK.mono h b)
end
theorem bb.le.refl(j:bb Ω):j.le j:=λ_ _ C=>C
theorem bb.le.trans{a b c:bb Ω}(h:a.le b)(E:b.le c):a.le c:=λj C D=>E j C (h j C D)
variable{aI:bb Ω}
theorem bK.len{l}:∀{j},bK aI l j->aa j=k9 l:=by
 induction l with
 |nil=>intro j h;cases h;rfl
 |cons v l C=>intro j h;cases h with|cons a b=>simp[C b];rfl
theorem xe(l):k9 l=aa l:=by
 induction l with
 |nil=>rfl
 |cons v l j=>simp_all[k9]
def bK.append{l C j s}(h:bK aI l j)(E:bK aI C s):bK aI (l++C) (j++s):=by
 induction l generalizing j with
 |nil=>cases h;grind
 |cons v l D=>cases h with|cons a b=>exact .cons a (D b)
def bK.Av{C j}(h:bK aI C j):∀n,∃s,bK aI (i1 C n) s/\s=(gv n j).flatten
 |0=>⟨[],.nil,rfl⟩
 |n+1=>by
  let⟨s,a,b⟩:=bK.Av h n;exact⟨j++s,h.append a,by grind⟩
theorem bK.get{l}:∀{C}{n}{v},bK aI l C->wX l n=ab v->∃D,bY aI v D/\C[n]?=ab D:=by
 induction l with
 |nil=>intro C n v h j;cases j
 |cons I l E=>
  intro C n v h j;cases h with
  |cons a b=>
   cases n with
   |zero=>cases j;simp_all
   |succ n=>obtain⟨D,q,H⟩:=E b j;simp_all
theorem bK.drop{l}:∀{j}(n),bK aI l j->bK aI (Gm l n) (qC j n):=by
 induction l with
 |nil=>intro j n h;cases h;cases n<;>exact .nil
 |cons D l C=>
  intro j n h;cases h with
  |cons a b=>
   cases n with
   |zero=>exact .cons a b
   |succ n=>exact C n b
theorem bK.take{l}:∀{C}{n}{s},bK aI l C->tA l n=ab s->∃D,bK aI s D/\mr C n=ab D:=by
 induction l with
 |nil=>
  intro C n s h j;cases h;cases n with
  |zero=>cases j;exact⟨[],.nil,rfl⟩
  |succ n=>cases j
 |cons J l H=>
  intro C n s h j;cases h with
  | @cons _ D _ C a b=>
   cases n with
   |zero=>cases j;exact⟨[],.nil,rfl⟩
   |succ n=>
    let⟨y,h1,ae⟩:=b1.1 (show aq (tA l n) _=ab s from j);cases ae;let⟨I,q,E⟩:=H b h1;exact⟨D::I,.cons a q,by simp[mr,E]⟩
def bK.xd{C:List aB}:∀{E:bz}{l:List aB}{j:bz}{s:List aB},bK aI C E->bK aI l j->xd C l=ab s->aa C<=aa l/\bK aI s (eS j 0 E):=by
 induction C with
 |nil=>intro E l j s h H D;cases h;cases D;rw[tv];simp_all
 |cons O C J=>
  intro E l j s h H D;cases h with
  |cons a b=>
   cases H with
   |nil=>cases D
   | @cons R Q l j c I=>
    let⟨y,h1,ae⟩:=b1.1 (show aq _ _=ab s from D);cases ae;let⟨aF,aM⟩:=J b I h1;exact⟨by simp_all,.cons a aM⟩
def bK.lay{l}:∀{j}{H}{D}{n}{s},bK aI j H->bK aI l D->zL l n j=ab s->n+aa j<=aa l/\bK aI s (eS D n H):=by
 induction l with
 |nil=>
  intro j H D n s h E C;cases E;cases n with
  |zero=>
   have I:=C;have:=h.xd .nil I;simp_all
  |succ n=>cases C
 |cons Q l J=>
  intro j H D n s h E C;cases n with
  |zero=>
   have I:=C;have:=h.xd E I;simp_all
  |succ n=>
   cases E with
   | @cons _ O _ D a b=>
    let⟨y,h1,ae⟩:=b1.1 (show aq (zL l n j) _=ab s from C);cases ae;let⟨aF,aM⟩:=J h b h1;refine⟨by grind,?_⟩;rw[El];exact .cons a aM
theorem pF{v q}(h:k1 v=ab q):v=.ai q.1 q.2:=by cases v<;>cases h;rfl
theorem pE{v q}(h:mI v=ab q):v=.b q:=by cases v<;>cases h;rfl
theorem mJ{v q}(h:ju v=ab q):v=.i q.1 q.2:=by cases v<;>cases h;rfl
def ro{v n}(h:wi v=ab n):∃C,v=.i C (n:Int):=by
 cases v with
 |i C j=>cases j with
  |ofNat j=>cases h;simp
  |negSucc j=>cases h
 | _=>cases h
theorem wj{v q}(h:sI v=ab q):v=.s q:=by cases v<;>cases h;rfl
theorem wg{v q}(h:t5 v=ab q):v=.m q:=by cases v<;>cases h;rfl
theorem t3{v q}(h:rn v=ab q):v=.cp q:=by cases v<;>cases h;rfl
theorem FT{v q}(h:yS v=ab q):v=.cB q:=by cases v<;>cases h;rfl
theorem yO{v q}(h:sH v=ab q):v=.f q.1 q.2.1 q.2.2:=by cases v<;>cases h;rfl
theorem FU{v q}(h:BU v=ab q):v=.y q.1 q.2:=by cases v<;>cases h;rfl
def BQ{v q}(h:BO v=ab q):(∃j,v=.ce j q)\/∃C s n,v=.kO C s n q:=by
 cases v<;>cases h
 .simp
 simp
theorem M2{v q}(h:BT v=ab q):v=.kO q.1 q.2.1 q.2.2.1 q.2.2.2:=by cases v<;>cases h;rfl
theorem BS{v q}(h:wh v=ab q):v=.qM q:=by cases v<;>cases h;rfl
theorem BR{v q}(h:yP v=ab q):v=.rP q:=by cases v<;>cases h;rfl
theorem bY.cells{v j}(h:bY aI v j):bK aI (jx v) (hp j):=by
 cases h with
 | @cp l E h=>
  assumption
 |i=>exact .cons .i .nil
 |b=>exact .cons .b .nil
 |s=>exact .cons .s .nil
 |ai q=>exact .cons (.ai q) .nil
 |hc=>exact .cons .hc .nil
 |ey q=>exact .cons (.ey q) .nil
 |dw q D=>exact .cons (.dw q D) .nil
 |jk=>exact .cons .jk .nil
 |gk=>exact .cons .gk .nil
 |m q=>exact .cons (.m q) .nil
 |fF=>exact .cons .fF .nil
 |f a b c=>exact .cons (.f a b c) .nil
 |lb=>exact .cons .lb .nil
 |y q=>exact .cons (.y q) .nil
 |ld=>exact .cons .ld .nil
 |cB q=>exact .cons (.cB q) .nil
 |dU=>exact .cons .dU .nil
 |ei q=>exact .cons (.ei q) .nil
 |fg=>exact .cons .fg .nil
 |lk q=>rw[Gc q];exact .cons (.lk q) .nil
 |h0=>exact .cons .h0 .nil
 |hL q C=>exact .cons (.hL q C) .nil
 |xs=>exact .cons .xs .nil
def H1{α D g}(h:∀a v,D a=ab v->bY aI v (g a)):∀{l:List α}{j},hW D l=ab j->bK aI j (l.map g)
 | [],j,C=>by cases C;exact .nil
 |x::l,j,C=>by
  let⟨y,h1,s,an,E⟩:=en (show aq _ _=ab j from C);cases E;exact .cons (h _ _ h1) (H1 h an)
theorem uQ:∀(d){v}{j},z8 d v=ab j->bY aI j v
 |0,_,_,h=>by cases h
 |d+1,v,j,h=>by
  replace h:Io v _=ab j:=h;unfold Io at h;split at h
  .cases h;exact .b
  .cases h;exact .i
  .cases h;exact .s
  .cases h;exact .hc
  .cases h;exact .gk
  .cases h;exact .fF
  .cases h;exact .lb
  .cases h;exact .ld
  .let⟨D,h1,ae⟩:=b1.1 h;cases ae;have:=H1 (g:=id) (λa v C=>uQ d C) h1;rw[Lr]at this;exact .cp this
  .let⟨D,h1,ae⟩:=b1.1 h;cases ae;have:=H1 (g:=id) (λa v C=>uQ d C) h1;rw[Lr]at this;exact .cB this
  trivial
def e6(aI:bb Ω)(D:eJ)(a:Act):Prop:=∀j v,D.get j=ab v->∃C,bY aI v C/\a.tmps[j]?=ab C
def jB(a:Act):cU:=nc a.tmps.toList 0
def MZ:∀(l)(j C)(v),l[C]?=ab v->(nc l j).get (j+C)=ab v
 | [],_,_,_,h=>by trivial
 |u::l,j,0,v,h=>by
  cases h;simp[nc,cU.get]
 |u::l,j,C+1,v,h=>by
  have D:aH j (j+(C+1))=al:=by
   grind[cy]
  have:=MZ l (j+1) C v fs;simp[nc,cU.get,cond_false];grind
theorem eZ(a):fP (jB a) a:=λj v h=>by
 obtain⟨D,rfl,C⟩:=wc _ 0 j v h;simp_all
def e6.mono{aI C:bb Ω}(h:aI.le C){j a}(s:e6 aI j a):e6 C j a:=λE v D=>by
 let⟨I,q,H⟩:=s E v D;exact⟨I,q.mono h,H⟩
def dS{aI:bb Ω}{E a}(s:e6 aI E a){C v}(h:dI C E=ab v):∃j,aX (jB a) C=ab j/\bY aI v j:=by
 cases C with
 |tmp D=>
  let⟨j,q,I⟩:=s D v h;refine⟨j,?_,q⟩;have:=MZ a.tmps.toList 0 D j bo;rw[h3]at this;trivial
 |const c=>exact⟨c,rfl,uQ 9 h⟩
 |global g=>cases h
 |func H=>cases h;exact⟨_,rfl,.f .func .nil .nil⟩
theorem e6.put{aI:bb Ω}{t a}(s:e6 aI t a){d v E}(h:bY aI v E)(O:∀j,d=ab j->j<a.tmps.size):e6 aI (hX t d v) (a.put d E):=by
 cases d with
 |none=>exact s
 |some C=>
  intro j I J;have R:=O C p;have D:(dR.set (Nat.succ C) t C _).get j=ab I:=J;rw[dR.ot]at D;show ∃H,bY aI I H/\(a.tmps.setIfInBounds C E)[j]?=ab H
  by_cases Q:j=C
  .simp_all
  .rw[a8 Q]at D;let⟨H,q,U⟩:=s j I D;grind
def mh(j:m6):aj:=⟨j.1,j.2.1,j.2.2⟩
def gO(j:Int×m6):Int×aj:=(j.1,mh j.2)
def e1(j:m6×Bool):aj×Bool:=(mh j.1,j.2)
def fk(aI:bb Ω)(o:dn)(j c:Nat):aG:=match o with
 | .ce Q J=>λh=>∃H,bK aI J H/\ah j Q H h
 | .kO R W n J=>λh=>∃H,bK aI J H/\E R W (ab ⟨j,0,af⟩) n c H h
 | .qM C=>ct j (C.map gO)
 | .rP C=>ct j (C.map e1)
 | .ts b C O q=>λh=>∃D I,aI b=ab (D,I)/\hK j D (C.map gO) (O.map gO).toList (q.map gO) h
 | .tr b C O q=>λh=>∃D I,aI b=ab (D,I)/\hK j D (C.map e1) (O.map e1).toList (q.map e1) h
 | .no=>λ_=>True
 | .cx U=>Ω.d5 U j c
def dg(aI:bb Ω)(h:cE)(j:Nat):aG:=match h.get j with
 |none=>λ_=>True
 |some o=>match aI j with
  |none=>λ_=>False
  |some C=>fk aI o C.1 C.2
def cz(aI:bb Ω)(h:cE):List aG:=(gZ h.n).map (dg aI h)
def fI(aI:bb Ω)(h:cE)(j:Nat):List aG:=((gZ h.n).erase j).map (dg aI h)
structure ST (g:d1) (F:aG) (aI:bb Ω) (h:cE) (C:dd):Prop where
 eU:∀j,h.n<=j->aI j=af
 eD:bj g (F::cz aI h) C
def fk.mono{aI J:bb Ω}(l:aI.le J){o I c h}(j:fk aI o I c h):fk J o I c h:=by
 cases o with
 |ce R O=>obtain⟨H,a,b⟩:=j;exact⟨H,a.mono l,b⟩
 |kO s W n O=>obtain⟨H,a,b⟩:=j;exact⟨H,a.mono l,b⟩
 |qM E=>exact j
 |rP E=>exact j
 |ts b E Q q=>obtain⟨C,D,a,b⟩:=j;exact⟨C,D,l _ _ a,b⟩
 |tr b E Q q=>obtain⟨C,D,a,b⟩:=j;exact⟨C,D,l _ _ a,b⟩
 |no=>trivial
 |cx U=>exact j
def Az{D E}(l:List Nat)(C:∀j∈l,∀h,D j h->E j h):aS (l.map D) (l.map E):=by
 induction l with
 |nil=>exact λ_ s=>s
 |cons j l I=>
  rintro h ⟨h1,ae,H,O,Q,a,J⟩;exact⟨h1,ae,H,O,Q,C j ao _ a,I (λj R=>C j bo) _ J⟩
theorem aeT(h:cE)(j:Nat)(C:h.get j=af)(aI:bb Ω):dg aI h j=λ_=>True:=by simp[dg,C]
theorem aeU{h:cE}{j:Nat}{o:dn}(D:h.get j=ab o)(aI:bb Ω):dg aI h j=match aI j with
  |none=>λ_=>False
  |some C=>fk aI o C.1 C.2:=by simp[dg,D]
def aeS{aI I:bb Ω}(l:aI.le I)(h j E)(C:dg aI h j E):dg I h j E:=by
 cases D:h.get j with
 |none=>rw[aeT h j D];simp
 |some o=>
  rw[aeU D]at C ⊢;cases H:aI j with
  |none=>simp_all
  |some J=>rw[H]at C;rw[l _ _ H];exact fk.mono l C
def VO{aI j:bb Ω}(l:aI.le j)(h):aS (cz aI h) (cz j h):=Az _ λE _ D C=>aeS l h E D C
variable{g:d1}{F:aG}{h:cE}{w:dd}{k B c:Nat}{o:dn}
theorem ST.lt(s:ST g F aI h w){C}(j:aI k=ab C):k<h.n:=by
 rcases dZ k _ with q|q
 .omega
 .rw[s.eU k q]at j;grind
def ST.open(s:ST g F aI h w)(j:aI k=ab (B,c))(I:h.get k=ab o):bj g (fk aI o B c::F::fI aI h k) w:=by
 have H:=kU.2 (s.lt j);have D:(cz aI h).Perm (dg aI h k::fI aI h k):=(mY H).map _;have E:dg aI h k=fk aI o B c:=by simp[dg,I,j]
 rw[E]at D;exact s.eD.mono λJ q=>C.perm (((D.cons F).trans (.swap _ _ _))) q
theorem Eb(C):fI aI (h.put k C) k=fI aI h k:=by
 apply Lq λE j=>?_;have D:=((List.nodup_range).mem_erase_iff.1 j).1;simp_all[dg,cE.get,cE.put,dR.ot]
theorem CQ(j):(h.put k j).get k=ab j:=by simp[cE.get,cE.put,dR.ot]
def ST.close{o'}(H:∀k,h.n<=k->aI k=af)(D:aI k=ab (B,c))(s:bj g (fk aI o' B c::F::fI aI h k) w):ST g F aI (h.put k o') w:=by
 have J:k<h.n:=by
  grind
 refine⟨H,?_⟩;have I:=kU.2 J;have j:(cz aI (h.put k o')).Perm (dg aI _ k::fI aI _ k):=(mY I).map _;have E:dg aI (h.put k o') k=fk aI o' B c:=by simp[dg,CQ,D]
 rw[E,Eb]at j;exact s.mono λO q=>C.perm (((j.cons F).trans (.swap _ _ _)).symm) q
def ext(aI:bb Ω)(k:Nat)(C:Nat×Nat):bb Ω:=λj=>if j=k then ab C else aI j
def wS(j)(D:aI k=af):aI.le (ext aI k j):=λE y C=>by
 unfold ext;grind
theorem CI(j):ext aI k j k=ab j:=by simp[ext]
theorem ST.new(s:∀k,h.n<=k->aI k=af)(q:bj g (fk (ext aI h.n (B,c)) o B c::F::cz aI h) w):aI.le (ext aI h.n (B,c))/\ext aI h.n (B,c) h.n=ab (B,c)/\ST g F (ext aI h.n (B,c)) (h.new o) w:=by
 have E:=wS (B,c) (s _ (bC _));refine⟨E,CI _,?_,?_⟩
 .intro k I;have W:h.n+1<=k:=I;unfold ext;grind
 .have H:cz (ext aI h.n (B,c)) (h.new o)=(gZ h.n).map (dg (ext aI h.n (B,c)) h)++[fk (ext aI h.n (B,c)) o B c]:=by
   show(gZ (h.n+1)).map _= _;rw[List.range_succ,ez]
   congr 1
   .apply Lq λO U=>?_;have J:O≠h.n:=bv;unfold dg cE.get cE.new;simp[dR.ot,a8 J]
   .congr 1
    unfold dg cE.get cE.new;simp[dR.ot,if_true,CI]
  rw[H];apply q.mono λj D=>?_;have Q:=D.swap;apply Q.bl λj R=>?_;have fZ:=R.bl λj D=>VO E h j D;exact C.perm (List.perm_append_comm) fZ
end aV
namespace aV
variable{Ω:dO}
theorem CH{α}:∀(l:List α)(j),(s0 l ag)[j]?=l[2*j]?/\(s0 l al)[j]?=l[2*j+1]?
 | [],j=>by trivial
 |x::l,j=>by
  have C:s0 (x::l) ag=x::s0 l _:=rfl;have D:s0 (x::l) al=s0 l _:=rfl;rw[C,D];refine⟨?_,?_⟩
  .cases j with
   |zero=>rfl
   |succ j=>rw[A1,(CH l j).2,show 2*(j+1)=2*j+1+1 by rfl,A1]
  .rw[(CH l j).1,A1]
def z7{α}:∀(n)(l)(j)(D:α),(hr n l).get j=ab D->l[j]?=ab D
 |0,l,j,D,h=>by cases h
 |n+1,[],j,D,h=>by cases h
 |n+1,y::I,j,D,h=>by
  have C:(dR.fE _ _ _).get j=ab D:=h;rw[dR.s4]at C;rcases hh j with rfl|J
  .trivial
  .have E:aH j 0=al:=by cases j with|zero=>omega|succ j=>rfl
   rw[E,dP]at C;rcases A5 j with H|h1
   .rw[H,show aH 0 1=al from rfl,dP]at C;have:=z7 n _ _ _ C;rw[(CH I _).2]at this;grind
   .rw[h1,show aH 1 1=ag from rfl,ea]at C;have:=z7 n _ _ _ C;grind[CH]
variable{P:bk}{T:bq}
theorem pc{j}(h:l9 P T=ab j):P.info? T=ab j:=by
 have:=z7 12 _ T j h;have ae:P.types[T]?=ab j:=bo;have C:=(Array.getElem?_eq_some_iff.1 ae).1;unfold Tables.info?;simp_all
theorem nG{j}(h:mt P T=ab j):P.underlying T=ab j:=by
 let⟨E,h1,ae⟩:=b1.1 (show aq _ _=ab j from h);have D:=pc h1;unfold Program.underlying;rw[D];obtain⟨C,H,I,J,O,Q,R,U⟩:=E;cases C<;>first
  |(cases ae;rfl)
  |(obtain⟨Y,an,W⟩:=b1.1 (show aq (l9 P _) _=ab j from ae)
    simp_all[pc])
def sa{j}(h:mq P T=ab j):∃C,eu P T (j.1,j.2,C):=by
 let⟨D,h1,O,an,J,H,I⟩:=i0 h;cases I;have E:=nG h1;cases D<;>cases an;exact⟨J.bytes,⟨by simp[JH,E,pc H]⟩⟩
theorem BM{j}(h:wd P T=ab j):mZ P T j:=by
 let⟨C,h1,I,an,J,E,H⟩:=i0 h;cases H;have D:=nG h1;cases C<;>cases an;exact⟨by simp[FQ,D,pc E]⟩
def AE{D}(h:qV P T=ab D):(D.1=ag/\hM P T D.2)\/(D=(al,1)/\dh P T):=by
 let⟨E,h1,Q,an,C⟩:=en h;have I:=nG h1;have J:=pc an;have one:T1 E _=ax (aH Q.size 1) (ab (al,1)) af->(∀O,E≠ .struct O)->(∀n j,E≠ .array n j)->D=(al,1)/\dh P T:=λj R U=>by
  rw[j]at C;have H:aH Q.size 1=ag:=by
   cases H:aH _ 1 with
   |true=>rfl
   |false=>rw[H]at C;trivial
  rw[H]at C;cases C;refine⟨rfl,⟨?_⟩⟩;unfold mf;simp_all
 cases E with
 |struct O=>cases C;exact .inl ⟨rfl,⟨by simp[pD,I,J]⟩⟩
 |array n j=>cases C;exact .inl ⟨rfl,⟨by simp[pD,I,J]⟩⟩
 | _=>exact .inr (one p (λ_ j=>by cases j) (λ_ _ j=>by cases j))
theorem Pb{C j}(h:GO P T C=ab j):kW P T C (j.1,j.2.2,j.2.1):=by
 let⟨E,h1,ah,an,J,Q,s,D,R⟩:=ns h;cases R;have H:=nG h1;cases E<;>cases an;refine⟨?_⟩;unfold wU;rw[H];simp[Q];rcases AE D with ⟨aF,aM⟩|⟨aF,aM⟩
 .have U:mf P J.type=al:=by
   have q:=aM.h;unfold pD at q;unfold mf;grind
  let⟨Z,am,Y,O,ai⟩:=en D;have I:=pc O;have W:Y.size=s.2:=by
   have q:=aM.h;unfold pD at q;grind[cy]
  rw[U,I];simp[Bool.false_eq_true,if_false,LW,W,aM.h,if_true,aF]
 .rw[aM.h];simp_all
def vp{D}(h:sj P T=ab D):∃v,(∀j,(zeroValue T).run P j=.ok v j)/\(∀{Ω}(E:bb Ω),bY E D v)/\cG P T (hp v):=by
 let⟨I,h1,v,an,H⟩:=en h;have C:=pc h1;refine⟨v,λj=>by simp[zeroValue,typeInfo,C,an],λE=>uQ 9 H,⟨?_⟩⟩;simp[C,LW,an,Option.map_some,ua]
def ko(Ω:dO)(P:bk)(D:eJ)(o:cI)(v:aB):Prop:=∀(C:bb Ω) a,e6 C D a->∃j,bY C v j/\bh P [] (jB a) o j
def p5{h j C v}(D:p4 h C=ab (v,j)):C=ab v/\j=h:=by
 let⟨y,h1,ae⟩:=b1.1 D;simp_all
variable{t:eJ}{h br:cE}{v:aB}{d:Option Nat}{aO ci:bq}{pos:String}{aT:Array q1}{a7:Option (Nat×Bool)}{x y z:cJ}
def S1(j:DB x P t h=ab (v,br)):br=h/\ko Ω P t ⟨d,.move x,aO,pos,aT,a7⟩ v:=by
 let⟨h1,ae⟩:=p5 j;refine⟨ae,λE a s=>?_⟩;let⟨D,an,C⟩:=dS s h1;exact⟨D,C,l5 an⟩
def SN(j:DB x P t h=ab (v,br)):br=h/\ko Ω P t ⟨d,.assign x,aO,pos,aT,a7⟩ v:=by
 let⟨h1,ae⟩:=p5 j;refine⟨ae,λE a s=>?_⟩;let⟨D,an,C⟩:=dS s h1;exact⟨D,C,ON an⟩
def S5(J:RR z x y P t h=ab (v,br)):br=h/\ko Ω P t ⟨d,.pick z x y,aO,pos,aT,a7⟩ v:=by
 let⟨c,h1,b,an,O⟩:=en J;let⟨E,Q⟩:=p5 O;refine⟨Q,λR a s=>?_⟩;let⟨j,H,I⟩:=dS s h1;rw[pE an]at I;cases I;cases b with
 |true=>
  let⟨j,D,C⟩:=dS s E;exact⟨j,C,pQ H p D⟩
 |false=>
  let⟨j,D,C⟩:=dS s E;exact⟨j,C,rD H p D⟩
def S3(C:RQ x P t h=ab (v,br)):br=h/\ko Ω P t ⟨d,.nilCheck x,aO,pos,aT,a7⟩ v:=by
 let⟨c,h1,ae⟩:=b1.1 C;let⟨an,E⟩:=de.1 ae;cases E;refine⟨rfl,λW a s=>?_⟩;let⟨J,j,D⟩:=dS s h1;refine⟨J,D,?_⟩;cases D with
 |ai q=>exact ui j
 |f H R Q=>
  cases H with
  |method=>exact absurd an (by trivial)
  |func=>exact rC (λ_ C=>by grind) j
  |methodOf=>exact rC (λ_ C=>by grind) j
  |via=>exact rC (λ_ C=>by grind) j
  |yield q=>exact rC (λ_ C=>by grind) j
 |y q=>
  intro O U I _;simp only[execOp,I.eval j];rfl
 | _=>cases an
def S4(C:z4 .not x P t h=ab (v,br)):br=h/\ko Ω P t ⟨d,.unOp .not T x,aO,pos,aT,a7⟩ v:=by
 let⟨c,h1,ae⟩:=b1.1 C;let⟨an,D⟩:=p5 ae;obtain⟨b,E,H⟩:=b1.1 (show aq _ _=ab v from by assumption);cases H;refine⟨D,λO a s=>?_⟩;let⟨J,I,j⟩:=dS s h1;rw[pE E]at j;cases j;exact⟨_,.b,gz I⟩
def SR{C}(E:RE x C P t h=ab (v,br)):br=h/\ko Ω P t ⟨d,.extract x C,aO,pos,aT,a7⟩ v:=by
 let⟨c,h1,l,an,I⟩:=en E;let⟨J,O⟩:=p5 I;refine⟨O,λU a s=>?_⟩;let⟨D,Q,j⟩:=dS s h1;rw[FT an]at j;cases j with
 |cB q=>
  let⟨D,R,H⟩:=q.get J;exact⟨D,R,wN Q H⟩
def SS{j}(I:RF T x j P t h=ab (v,br)):br=h/\ko Ω P t ⟨d,.fieldAddr T x j,aO,pos,aT,a7⟩ v:=by
 let⟨c,h1,q,an,E,J,O⟩:=i0 I;let⟨Q,R⟩:=de.1 O;cases R;refine⟨rfl,λah a s=>?_⟩;let⟨Z,U,C⟩:=dS s h1;rw[pF an]at C;cases C with
 |ai Y=>
  have H:=Pb J;obtain⟨D,W⟩:∃D,E.2.2=D+1:=⟨E.2.2-1,by have:=Nat.lt_of_lt_of_eq (fq Q) p;omega⟩;rw[W]at H;exact⟨_,.ai Y,ug U⟩
def Ai{b l v}(j:xA b l=ab v):(b=ag/\v=.cp l)\/(b=al/\l=[v]):=by
 cases b with
 |true=>cases j;simp
 |false=>
  cases l with
  |nil=>cases j
  |cons C l=>
   cases l with
   |nil=>cases j;simp
   |cons _ _=>cases j
def ahR{l o j}(C:mr (qC l o) 1=ab [j]):l[o]?=ab j:=by
 have:=(nB C).2 0 j p;rw[sP,yd]at this;omega
def SU{E}(R:RG T x E P t h=ab (v,br)):br=h/\ko Ω P t ⟨d,.field T x E,aO,pos,aT,a7⟩ v:=by
 let⟨c,h1,l,an,am,W,ap,Y,Z⟩:=ns R;let⟨ah,U⟩:=p5 Z;refine⟨U,λav a s=>?_⟩;let⟨aq,H,I⟩:=dS s h1;rw[t3 an]at I;cases I with
 |cp q=>
  have C:=Pb W;let⟨ar,J,j⟩:=(q.drop _).take Y;rcases Ai ah with ⟨D,rfl⟩|⟨D,rfl⟩
  .rw[D]at C;exact⟨_,.cp J,OS H j⟩
  .cases J with
   |cons O Q=>
    cases Q;rw[D]at C;have ai:am.2.2=1:=by
     have:=(nB j).1;simp_all
    rw[ai]at C j;exact⟨_,O,OR H (ahR j)⟩
def Ad{E:bb Ω}{a}(s:e6 E t a):∀{l}{j},hW (λx=>dI x t) l=ab j->∃C,hw (jB a) l=ab C/\bK E j C
 | [],j,D=>by cases D;exact⟨[],rfl,.nil⟩
 |x::l,j,D=>by
  let⟨y,h1,U,an,H⟩:=en (show aq _ _=ab j from D);cases H;let⟨R,I,J⟩:=dS s h1;let⟨C,O,Q⟩:=Ad s an;exact⟨R::C,by simp[hw,I,O],.cons J Q⟩
def SZ{C l c}(j:RM C l c P t h=ab (v,br)):br=h/\ko Ω P t ⟨d,.makeFunc C l c,aO,pos,aT,a7⟩ v:=by
 let⟨W,j⟩:=de.1 j;have U:∀D,C≠ .yield D:=λD j=>by subst j;trivial
 let⟨Q,h1,R,an,E⟩:=en j;cases E;refine⟨rfl,λah a s=>?_⟩;let⟨Y,H,I⟩:=Ad s h1;let⟨Z,J,O⟩:=Ad s an;let⟨l⟩:=l;let⟨c⟩:=c;refine⟨_,.f ?_ I O,OT H J⟩;cases C with
 |yield D=>trivial
 | _=>constructor
end aV
namespace aV
variable{Ω:dO}
theorem iY{a b}:hE a b=ag<->a=b:=by cases a<;>cases b<;>decide
theorem oa(C y):fD C y=decide (C=y):=by
 cases C<;>cases y
 .rename_i j n
  show aH j n= _
  by_cases h:j=n
  .simp_all
  grind[cy]
 .rfl
 .rfl
 .rename_i j n
  show aH j n= _
  by_cases h:j=n
  .simp_all
  grind[cy]
theorem pJ(j n):eY j n=decide (j<n):=by grind[E4,eY,fq]
theorem w1(C y):rG C y=decide (C<y):=by
 cases C<;>cases y
 .rename_i j n
  show eY j n= _;rw[pJ];simp
 .rfl
 .rename_i j n
  show ag= _;grind
 .rename_i j n
  show eY n j= _;grind[pJ,cw]
theorem vk(j n):tE j n=j.wrap n:=by
 cases n with
 |ofNat C=>
  show ax (eY C _) _ _= _;rw[pJ]
  by_cases h:C<rF j
  .rw[cO h];show(C:Int)=j.wrap _;cases j<;>(simp[rF]at h;simp[EP,IntKind.bits,IntKind.signed];omega)
  .rw[cw h];rfl
 |negSucc C=>
  show ax (ax _ _ _) _ _= _;rw[pJ]
  by_cases h:C<rF j
  .rw[cO h];have E:∀(j:oC) (M D:Int),(2 ^ j.bits:Int)=M->(2 ^ (j.bits-1):Int)=D->M=2*D->j.signed=ag->(C:Int)<D->Int.negSucc C=j.wrap (Int.negSucc C):=λj M D J O Q R U=>by
    unfold EP;have I:Int.negSucc C= -((C:Int)+1):=rfl;have W:Int.negSucc C % M=M-(C+1):=by
     rw[I];have: -((C:Int)+1)=(M-(C+1))-M:=ad;rw[this,Int.sub_emod_right];exact Int.emod_eq_of_lt ad ad
    grind
   cases j with
   |i8=>exact E _ _ 128 bN bN bN p (by grind[rF])
   |i16=>exact E _ _ 32768 bN bN bN p (by grind[rF])
   |i32=>exact E _ _ 2147483648 bN bN bN p (by grind[rF])
   |i64=>exact E _ _ 9223372036854775808 bN bN bN p (by grind[rF])
   |u8=>rfl
   |u16=>exact dP _ _
   |u32=>exact dP _ _
   |u64=>exact dP _ _
  .rw[cw h];have H:ax (P3 j) al al=al:=by cases j<;>decide
   rw[H,dP]
variable{P:bk}{t:eJ}{h br:cE}{v:aB}{d:Option Nat}{aO T ci:bq}{pos:String}{aT:Array q1}{a7:Option (Nat×Bool)}{x y z:cJ}
def OF(E C D H q j):(eqGuard E T x y (.int C H) (.int D q)).run P j=.ok () j:=by
 unfold eqGuard;simp
def XK{U E J R q}(O:ax (JG U) ag (hE E J)=ag)(I:FY U E R q=ab v):∃Z,(∀{Ω}(H:bb Ω),bY H v Z)/\∀D,(binOp U T (.int E R) (.int J q)).run P D=.ok Z D:=by
 cases U with
 |shl=>
  have C:ax _ _ _=ab v:=I;rw[w1]at C
  by_cases Q:q<Int.ofNat 0
  .rw[cO Q]at C;trivial
  .rw[cw Q]at C;cases C;exact⟨_,λH=> .i,λD=>by simp[binOp,x6,show ¬q<0 from Q,vk]⟩
 |shr=>
  have C:ax _ _ _=ab v:=I;rw[w1]at C
  by_cases Q:q<Int.ofNat 0
  .rw[cO Q]at C;trivial
  .rw[cw Q]at C;cases C;exact⟨_,λH=> .i,λD=>by simp[binOp,x6,show ¬q<0 from Q]⟩
 |quo=>
  have j:=iY.1 (show hE E J=ag from O);subst j;have C:ax _ _ _=ab v:=I;rw[oa]at C
  by_cases Q:q=Int.ofNat 0
  .rw[cO Q]at C;trivial
  .rw[cw Q]at C;cases C;exact⟨_,λH=> .i,λD=>by simp[binOp,KL,show q≠0 from Q,vk]⟩
 |rem=>
  have j:=iY.1 (show hE E J=ag from O);subst j;have C:ax _ _ _=ab v:=I;rw[oa]at C
  by_cases Q:q=Int.ofNat 0
  .rw[cO Q]at C;trivial
  .rw[cw Q]at C;cases C;exact⟨_,λH=> .i,λD=>by simp[binOp,KL,show q≠0 from Q]⟩
 |add=>have j:=iY.1 (show hE E J=ag from O);subst j;cases I;exact⟨_,λH=> .i,λD=>by rw[vk];simp[binOp];try rfl⟩
 |sub=>have j:=iY.1 (show hE E J=ag from O);subst j;cases I;exact⟨_,λH=> .i,λD=>by rw[vk];simp[binOp];rfl⟩
 |mul=>have j:=iY.1 (show hE E J=ag from O);subst j;cases I;exact⟨_,λH=> .i,λD=>by rw[vk];simp[binOp];try rfl⟩
 |and=>have j:=iY.1 (show hE E J=ag from O);subst j;cases I;exact⟨_,λH=> .i,λD=>by simp[binOp,q2]⟩
 |or=>have j:=iY.1 (show hE E J=ag from O);subst j;cases I;exact⟨_,λH=> .i,λD=>by simp[binOp,q2]⟩
 |xor=>have j:=iY.1 (show hE E J=ag from O);subst j;cases I;exact⟨_,λH=> .i,λD=>by simp[binOp,q2]⟩
 |andNot=>have j:=iY.1 (show hE E J=ag from O);subst j;cases I;exact⟨_,λH=> .i,λD=>by simp[binOp,q2]⟩
 |eql=>have j:=iY.1 (show hE E J=ag from O);subst j;cases I;exact⟨_,λH=> .b,λD=>by rw[oa];by_cases Y:R=q<;>simp[binOp,lP,Y]⟩
 |neq=>have j:=iY.1 (show hE E J=ag from O);subst j;cases I;exact⟨_,λH=> .b,λD=>by rw[pf,oa];by_cases Y:R=q<;>simp[binOp,lP,Y]⟩
 |lss=>have j:=iY.1 (show hE E J=ag from O);subst j;cases I;exact⟨_,λH=> .b,λD=>by rw[w1];simp[binOp,lP]⟩
 |leq=>have j:=iY.1 (show hE E J=ag from O);subst j;cases I;exact⟨_,λH=> .b,λD=>by
  have W:iF (rG q R)=decide (R<=q):=by
   rw[pf,w1];grind
  simp[binOp,lP,W]⟩
 |gtr=>have j:=iY.1 (show hE E J=ag from O);subst j;cases I;exact⟨_,λH=> .b,λD=>by rw[w1];simp[binOp,lP]⟩
 |geq=>have j:=iY.1 (show hE E J=ag from O);subst j;cases I;exact⟨_,λH=> .b,λD=>by
  have W:iF (rG R q)=decide (R>=q):=by
   rw[pf,w1];grind
  simp[binOp,lP,W]⟩
def xU{C}(D:p9 P T=C)(E:C≠0):∃j,P.underlying T=ab j/\UC j=C:=by
 cases H:mt P T with
 |none=>simp_all[p9]
 |some j=>simp_all[nG,p9]
def OG:BinOp->Bool| .eql=>ag| _=>al
def sM{b j C H}(R:H=.eql\/H=.neq)(U:(∀E n,j≠ .int E n)/\(∀E n,j≠ .float E n)/\(∀E n Z,j≠ .complex E n Z)/\(∀s,j≠ .string s))(Q:∀D,(eqGuard H T x y j C).run P D=.ok () D)(O:∀D,(eo T j C).run P D=.ok b D){J}(W:aX J x=ab j)(Y:aX J y=ab C):
  bh P [] J ⟨d,.binOp H T x y ci,aO,pos,aT,a7⟩ (.bool (ax (OG H) b (!b))):=by
 let⟨ah,ai,am,ap⟩:=U;apply jU _ _ _ _ Q W Y λD=>?_;rcases R with rfl|rfl
 .have I:binOp .eql T j C=(do pure (.bool (<- eo T j C)):Sem _):=by
   cases j<;>first|rfl|simp_all|simp_all|simp_all|simp_all
  rw[I];simp[cM,O,e5];rfl
 .have I:binOp .neq T j C=(do pure (.bool (!(<- eo T j C))):Sem _):=by
   cases j<;>first|rfl|simp_all|simp_all|simp_all|simp_all
  rw[I];simp only[cM,O,e5];rfl
def ZI{I}(D:P.underlying T=ab (.slice I))(j n c H E C):(eo T (.slice j n c) (.slice af H E)).run P C=.ok j.isNone C:=by
 unfold eo;rw[show nK=9999+1 from rfl];unfold lO;cases j<;>simp[cM,run_underlying D]<;>rfl
def OI{H:Array (String×bq)}(D:P.underlying T=ab (.interface H))(j:a2)(E:j=.nilIface\/∃S v,j=.iface S v)(C:dd):(eo T j .nilIface).run P C=.ok (match j with| .nilIface=>ag| _=>al) C:=by
 unfold eo;rw[show nK=9999+1 from rfl];unfold lO;rcases E with rfl|⟨S,v,rfl⟩<;>simp[cM,run_underlying D]<;>rfl
theorem C4(j:s7 v=ag):v=.gk:=by cases v<;>cases j;rfl
theorem C3(j:uA v=ag):v=.hc:=by cases v<;>cases j;rfl
theorem Hj(j:w6 v=ag):v=.lb:=by cases v<;>cases j;rfl
theorem Hk(j:w8 v=ag):v=.ld:=by cases v<;>cases j;rfl
def ags{a b c}(D:TD a b=ab c){R:bb Ω}{J Q}(h1:bY R a J)(ae:bY R b Q):Q=J/\ru J c=ag:=by
 cases a with
 |i Y n=>
  let⟨q,an,E⟩:=b1.1 (show aq (ju b) _=ab c from D);let⟨j,C⟩:=de.1 E;cases C;rw[mJ an]at ae;rw[eK,eK,co,co,iY,iY,oa,decide_eq_true_iff]at j;let⟨H,I,U⟩:=j;rw[I]at ae;subst H;cases h1;cases ae;subst U;trivial
 |b x=>
  let⟨q,an,E⟩:=b1.1 (show aq _ _=ab c from D);let⟨j,C⟩:=de.1 E;cases C;rw[pE an]at ae;rw[rr]at j;have:=eq_of_beq j;cases h1;cases ae;subst this;trivial
 |ai x o=>
  let⟨q,an,E⟩:=b1.1 (show aq _ _=ab c from D);let⟨j,C⟩:=de.1 E;cases C;rw[pF an]at ae;unfold nt at j;rw[eK,co]at j;have H:=cy j.1;have I:=cy j.2;cases h1 with
  |ai W=>
   cases ae with
   |ai O=>
    simp at H I;rw[<- H,W]at O;cases O;rw[I];trivial
 |hc=>
  let⟨j,C⟩:=de.1 (show cm _ _=ab c from D);cases C;rw[C3 j]at ae;cases h1;cases ae;trivial
 | _=>cases D
def U0{I:bb Ω}:∀{l j}{D}{E H},UZ l j=ab D->bK I l E->bK I j H->H=E/\lj E D=ag
 | [],j,D,E,H,C,h1,ae=>by
  cases j with
  |nil=>cases C;cases h1;cases ae;trivial
  |cons _ _=>cases C
 |x::l,j,D,E,H,C,h1,ae=>by
  cases j with
  |nil=>cases C
  |cons y j=>
   let⟨c,an,ah,Y,Z⟩:=en (show aq _ _=ab D from C);cases Z;cases h1 with
   |cons J Q=>
    cases ae with
    |cons O R=>
     let⟨ai,U⟩:=ags an J O;let⟨am,W⟩:=U0 Y Q R;exact⟨by simp_all,by simp[lj,U,W]⟩
theorem Ug(a b:ByteArray):(a.toList==b.toList)=decide (a=b):=by
 by_cases h:a=b
 .simp_all
 .rw[cw h];simp[beq_eq_false_iff_ne];intro j;rw[Ku,Ku]at j;exact h (by cases a;simp_all)
def N0{Y a b c}(O:Y=.eql\/Y=.neq)(D:Ca P T (p9 P T) y a b=ab c){aP:bb Ω}{aI Z aL}(H:aX aI x=ab Z)(I:aX aI y=ab aL)(h1:bY aP a Z)(ae:bY aP b aL)(aZ:ju a=af):
  bh P [] aI ⟨d,.binOp Y T x y ci,aO,pos,aT,a7⟩ (.bool (ax (OG Y) c (!c))):=by
 unfold Ca at D;have ai:∀W,aH _ W=ag->p9 P T=W:=λW E=>cy E;cases ap:aH _ 1 with
 |true=>
  rw[ap,ea]at D;let⟨C,U⟩:=de.1 D;let⟨R,Q,E⟩:=xU (ai _ ap) ao;rw[eK,co]at C;rw[C3 C.2]at ae;cases ae;cases U;cases R<;>first|cases E|skip
  have J:fN P T:=⟨by simp[IM,Q]⟩;cases h1<;>first|cases C.1|skip
  .exact sM O ao (Cy _ _ _) (λj=>Cz J _ j) H I
  .exact sM O ao (Cy _ _ _) (λj=>Cz J _ j) H I
 |false=>
 rw[ap,dP]at D;cases aq:aH _ 2 with
 |true=>
  rw[aq,ea]at D;let⟨aG,C,q,ah,aA⟩:=en D;let⟨R,Q,E⟩:=xU (ai _ aq) ao;rw[pE C]at h1;rw[pE ah]at ae;cases h1;cases ae;cases aA;cases R<;>first|cases E|skip
  have J:A6 P T:=⟨by simp[F2,Q]⟩;rw[rr];exact sM O ao (ZC _ _ _) (λj=>ZF J _ _ j) H I
 |false=>
 rw[aq,dP]at D;cases ar:aH _ 4 with
 |true=>
  rw[ar,ea]at D;let⟨C,U⟩:=de.1 D;let⟨R,Q,E⟩:=xU (ai _ ar) ao;rw[eK,co]at C;rw[C4 C.2]at ae;cases ae;cases U;cases R<;>first|cases E|skip
  have am:∀(aG:Option _) (n c:Nat) j,(eqGuard Y T x y (.slice aG n c) (.slice af 0 0)).run P j=.ok () j:=λaG n c j=>by
   unfold eqGuard;simp
  cases h1<;>first|cases C.1|skip
  all_goals exact sM O ao (am _ _ _) (λj=>ZI Q _ _ _ _ _ j) H I
 |false=>
 rw[ar,dP]at D;cases av:aH (p9 P T) 5 with
 |true=>
  rw[av,ea]at D;let⟨C,U⟩:=de.1 D;let⟨R,Q,E⟩:=xU (ai _ av) ao;rw[eK,co]at C;rw[Hj C.2]at ae;cases ae;cases U;cases R<;>first|cases E|skip
  have J:lG P T=ag:=by simp[lG,Q]
  cases h1<;>first|cases C.1|skip
  .exact sM O ao (GA _ _ _ (.inr ⟨_,_,_,rfl⟩) p) (λj=>ZG J _ _ _ j) H I
  .exact sM O ao (GA _ _ _ (.inl p) p) (λj=>OH J j) H I
 |false=>
 rw[av,dP]at D;cases az:aH (p9 P T) 6 with
 |true=>
  rw[az,ea]at D;let⟨C,U⟩:=de.1 D;let⟨R,Q,E⟩:=xU (ai _ az) ao;rw[eK,eK,co,co]at C;rw[Hk C.2.1]at ae;cases ae;cases U;cases R<;>first|cases E|skip
  have aW:∃W,y=.const W:=by
   cases y<;>first|exact⟨_,rfl⟩|cases C.2.2
  obtain⟨W,rfl⟩:=aW;have am:∀(Z:a2) j,(eqGuard Y T x (.const W) Z .nilIface).run P j=.ok () j:=λZ j=>by
   unfold eqGuard;cases Z<;>(split<;>first|rfl|simp)
  cases h1<;>first|cases C.1|skip
  .exact sM O ao (am _) (λj=>OI Q _ (.inr ⟨_,_,rfl⟩) j) H I
  .exact sM O ao (am _) (λj=>OI Q _ (.inl p) j) H I
 |false=>
 rw[az,dP]at D;cases aJ:aH (p9 P T) 7 with
 |true=>
  rw[aJ,ea]at D;let⟨l,C,a0,ah,aY,aK,aD⟩:=i0 D;let⟨aQ,aR⟩:=de.1 aD;cases aR;rw[t3 C]at h1;rw[t3 ah]at ae;cases h1 with
  |cp aS=>
   cases ae with
   |cp aV=>
    let⟨aF,aM⟩:=U0 aK aS aV;subst aF;have J:BE P T aY:=⟨aQ⟩;rcases O with rfl|rfl
    .exact ZS (I:=J) H I aM
    .exact OY (I:=J) H I aM
 |false=>
  rw[aJ,dP]at D;let⟨s,C,z,ah,aA⟩:=en D;let⟨aK,aD⟩:=de.1 aA;cases aD;rw[wj C]at h1;rw[wj ah]at ae;cases h1;cases ae;apply jU _ _ _ _ (λj=>by unfold eqGuard;simp) H I λj=>?_;rcases O with rfl|rfl
  .have aE:binOp .eql T (.string s) (.string z)=(pure (.bool (s.toList==z.toList)):Sem a2):=rfl;rw[aE,Ug];rfl
  .have aE:binOp .neq T (.string s) (.string z)=(pure (.bool !(s.toList==z.toList)):Sem a2):=rfl;rw[aE,Ug];rfl
def adW{v}(h:Dz v=ag){E:bb Ω}{C}(j:bY E v C):∃n,C=.int .i64 n:=by
 have br:=h;cases v<;>first|cases br|skip
 .rename_i H n
  have D:=br;cases iY.1 D;cases j;simp
 .cases j;simp
 .cases j;simp
 .cases j;simp
 .cases j;simp
theorem rp{v j}(h:nd v=ab j):v=.dU j:=by cases v<;>cases h;rfl
theorem wrap64(a b):IntKind.i64.wrap (IntKind.i64.wrap a+b)=IntKind.i64.wrap (a+b):=by
 have j:IntKind.i64.bits=64:=rfl;have C:IntKind.i64.signed=ag:=rfl;simp[EP,j,C,Bool.true_and,decide_eq_true_eq,show(2:Int) ^ (64-1)=9223372036854775808 from rfl];omega
def Xx{v C}(h:M9 v=ab C){H:bb Ω}{E}(D:bY H v E):∃a,E=.int .i64 a/\∀j,IntKind.i64.wrap (a+j)=IntKind.i64.wrap (Ω.int C.1+(C.2+j)):=by
 cases v<;>first|(cases h;done)|skip
 .cases h;cases D;simp
 .cases h;cases D;exact⟨_,rfl,λj=>by rw[wrap64,Int.add_assoc]⟩
def Uj{D a b}(J:Eu D a b=ab v){I:bb Ω}{E H}(h1:bY I a E)(ae:bY I b H):∃(C:Int) (q:Nat×Int) (j:Int),E=.int .i64 C/\H=.int .i64 j/\D q.1 q.2 j=ab v/\∀j,IntKind.i64.wrap (C+j)=IntKind.i64.wrap (Ω.int q.1+(q.2+j)):=by
 let⟨q,an,Y,O,Q⟩:=en (show aq _ _=ab v from J);let⟨R,U⟩:=de.1 Q;obtain⟨C,rfl,W⟩:=Xx an h1;rw[mJ O,iY.1 R]at ae;cases ae;grind
def ahy{Y a b}(H:Uk Y a b=ab v){Z:bb Ω}{ah ai}(h1:bY Z a ah)(ae:bY Z b ai):∃E q am,ah=.int .i64 E/\ai=.int .i64 q/\bY Z v am/\∀C,(binOp Y T (.int .i64 E) (.int .i64 q)).run P C=.ok am C:=by
 cases Y<;>first|(cases H;done)|skip
 .obtain⟨E,q,j,rfl,rfl,an,O⟩:=Uj (show Eu (λJ n j=>ab (.h0 J (ES n j))) a b=ab v from H) h1 ae;cases an;refine⟨E,j,.int _ _,rfl,rfl,?_,λC=>by rfl⟩;rw[O j];exact .h0
 .have I:cK _ _ _=ab v:=H;cases W:Ur a b with
  |some q=>
   rw[W]at I;cases I;let⟨az,ap,J,ar,av⟩:=en (show aq _ _=ab q from W);cases av;rw[rp ap]at h1;rw[rp ar]at ae;cases h1;cases ae;exact⟨_,_,.int _ _,rfl,rfl,.xs,λC=>by rfl⟩
  |none=>
  rw[W]at I;obtain⟨E,q,j,rfl,rfl,an,O⟩:=Uj I h1 ae;cases an;refine⟨E,j,.int _ _,rfl,rfl,?_,λC=>by rfl⟩;have D:=O (-j);rw[<- K2]at D;rw[D,<- K2];exact .h0
 .let⟨J,an,ax,D,Q⟩:=en (show aq _ _=ab v from H);let⟨R,U⟩:=de.1 Q;cases U;rw[rp an]at h1;rw[rp D,<- cy R]at ae;cases h1;cases ae;exact⟨_,_,_,rfl,rfl,.b,λC=>by simp[binOp,lP]⟩
 .let⟨J,an,ax,D,Q⟩:=en (show aq _ _=ab v from H);let⟨R,U⟩:=de.1 Q;cases U;rw[rp an]at h1;rw[rp D,<- cy R]at ae;cases h1;cases ae;exact⟨_,_,_,rfl,rfl,.b,λC=>by simp[binOp,lP]⟩
def SO{E}(ah:Rz E T x y P t h=ab (v,br)):br=h/\ko Ω P t ⟨d,.binOp E T x y ci,aO,pos,aT,a7⟩ v:=by
 let⟨a,h1,b,an,ai⟩:=en ah;let⟨I,am⟩:=p5 ai;refine⟨am,λar ac s=>?_⟩;let⟨az,O,J⟩:=dS s h1;let⟨aA,Q,H⟩:=dS s an;cases Y:ax _ _ (Et b)with
 |true=>
  unfold FZ at I;rw[Y,ea]at I;obtain⟨av,q,W,rfl,rfl,j,C⟩:=ahy I J H;exact⟨W,j,jU _ _ _ _ (OF _ _ _ _ _) O Q C⟩
 |false=>
 unfold FZ at I;rw[Y,dP]at I;cases R:ju a with
 |none=>
  have D:Nr E (Ca P T (p9 P T) y a b)=ab v:=by
   simp_all
  cases E<;>first|cases D|skip
  .let⟨c,j,C⟩:=b1.1 (show aq _ _=ab v from D);cases C;exact⟨_,.b,N0 (.inl p) j O Q J H R⟩
  .let⟨c,j,C⟩:=b1.1 (show aq _ _=ab v from D);cases C;rw[pf];exact⟨_,.b,N0 (.inr p) j O Q J H R⟩
 |some q=>
  cases ap:ju b with
  |none=>
   simp_all
  |some Z=>
   have D:ax (ax (JG E) ag (hE q.1 Z.1)) (FY E q.1 q.2 Z.2) af=ab v:=by
    simp_all
   rw[mJ R]at J;rw[mJ ap]at H;cases J;cases H;cases U:ax _ _ (hE _ _)with
   |false=>rw[U]at D;trivial
   |true=>
    rw[U,ea]at D;obtain⟨W,j,C⟩:=XK U D;exact⟨W,j ar,jU _ _ _ _ (OF _ _ _ _ _) O Q C⟩
end aV
namespace aV
variable{Ω:dO}
section
variable{P:bk}{t:eJ}{h br:cE}{v:aB}{d:Option Nat}{aO T ci S:bq}{pos:String}{aT:Array q1}{a7:Option (Nat×Bool)}{x y z:cJ}
def S2(C:z4 .neg x P t h=ab (v,br)):br=h/\ko Ω P t ⟨d,.unOp .neg T x,aO,pos,aT,a7⟩ v:=by
 let⟨c,h1,ae⟩:=b1.1 C;let⟨an,D⟩:=p5 ae;obtain⟨q,E,H⟩:=b1.1 (show aq (ju c) _=ab v from by assumption);cases H;refine⟨D,λU a s=>?_⟩;let⟨Q,I,j⟩:=dS s h1;rw[mJ E]at j;cases j;refine⟨_,.i,λO R J _=>?_⟩;simp only[execOp,J.eval I,vk];rfl
def Hf{j}(D:pd P T=ab j):P.underlying T=ab (.int j):=by
 let⟨C,h1,ae⟩:=b1.1 D;have:=nG h1;cases C<;>cases ae;omega
def SQ{j}(E:pd P T=ab j)(I:Ih S T x P t h=ab (v,br)):br=h/\ko Ω P t ⟨d,.convert S T x,aO,pos,aT,a7⟩ v:=by
 let⟨c,h1,Z,an,C⟩:=en I;rw[E]at C;let⟨q,Q,R⟩:=b1.1 (show aq _ _=ab _ from C);cases R;refine⟨rfl,λai a s=>?_⟩;let⟨ah,U,D⟩:=dS s h1;rw[mJ Q]at D;cases D;refine⟨_,.i,λY H W _=>?_⟩;simp[execOp,W.eval U,vk];have J:=nG an;have O:=Hf E;have:(convert S T (.int q.1 q.2)).run P H=.ok (.int j (j.wrap q.2)) H:=by
  unfold convert;simp[cM,run_underlying J,run_underlying O];rfl
 simp_all
def S0(D:RN T x P t h=ab (v,br)):br=h/\ko Ω P t ⟨d,.makeInterface T x,aO,pos,aT,a7⟩ v:=by
 let⟨c,h1,ae⟩:=b1.1 D;let⟨an,E⟩:=de.1 ae;cases E;refine⟨rfl,λQ a s=>?_⟩;let⟨O,H,I⟩:=dS s h1;have J:vH P T:=⟨by
  rw[pf]at an;unfold P0 at an;cases j:mt P T with
  |none=>simp_all
  |some C=>
   rw[j]at an;have:=nG j;unfold Gi;rw[this];cases C<;>first|rfl|trivial⟩
 exact⟨_,.y I,OU H⟩
def SX{J am}(ah:uS J=ab T)(H:mq P T=ab am)(R:BW [x] J P t h=ab (v,br)):br=h/\ko Ω P t ⟨d,.call ⟨.builtin .len,#[x],#[T]⟩,aO,pos,aT,a7⟩ v:=by
 have U:=R;let⟨ar,h1,ae⟩:=b1.1 U;rw[ah]at h1;cases h1;let⟨c,an,I⟩:=b1.1 ae;rw[H]at I;have j:=I;cases E:pG c with
 |some q=>
  rw[E]at j;cases j;have ai:c=.hL q.1 q.2:=by cases c<;>cases E;rfl
  refine⟨rfl,λaq a s=>?_⟩;let⟨ap,D,C⟩:=dS s an;let⟨Q,O⟩:=sa H;refine⟨_,.dU,?_⟩;rw[ai]at C;cases C with
  |hL av W=>rw[W];exact zp D
 |none=>
 rw[E]at j;let⟨n,Y,Z⟩:=b1.1 j;cases Z;refine⟨rfl,λaq a s=>?_⟩;let⟨ap,D,C⟩:=dS s an;let⟨Q,O⟩:=sa H;refine⟨_,.i,?_⟩;cases C<;>first|cases Y|skip
 all_goals exact zp D
def SV(Z:RH T x y P t h=ab (v,br)):br=h/\ko Ω P t ⟨d,.indexAddr T x y,aO,pos,aT,a7⟩ v:=by
 let⟨c,h1,aA,an,aE,Y,D⟩:=i0 Z;cases R:yU c with
 |none=>
  rw[R]at D;let⟨q,ah,ap,Q,J⟩:=en (show aq (k1 c) _=ab _ from D);let⟨C,O⟩:=de.1 J;cases O;refine⟨rfl,λax a s=>?_⟩;let⟨ar,E,H⟩:=dS s h1;let⟨av,I,U⟩:=dS s an;obtain⟨am,rfl⟩:=ro Y;rw[pF ah]at H;cases U;cases H with
  |ai j=>
   have W:=BM Q;rw[co,pJ,decide_eq_true_iff]at C;have:=iU (L:=[]) (d:=d) (aO:=aO) (pos:=pos) (aT:=aT) (a7:=a7) (E:=W) E I ao ad;exact⟨_,.ai j,by simpa using this⟩
 |some q=>
  rw[R]at D;let⟨ap,Q,J⟩:=b1.1 (show aq (mq P T) _=ab _ from D);let⟨C,O⟩:=de.1 J;cases O;refine⟨rfl,λax a s=>?_⟩;let⟨ar,E,H⟩:=dS s h1;let⟨av,I,U⟩:=dS s an;obtain⟨am,rfl⟩:=ro Y;let⟨az,W⟩:=sa Q;rw[pJ,decide_eq_true_iff]at C;cases U;cases H<;>first|cases R|skip
  .rename_i j
   exact⟨_,.ai j,iV E I C⟩
  .rename_i j aD
   exact⟨_,.ai j,iV E I C⟩
def SW(ai:RI T x y P t h=ab (v,br)):br=h/\ko Ω P t ⟨d,.index T x y,aO,pos,aT,a7⟩ v:=by
 let⟨c,h1,aQ,an,aE,W,D⟩:=i0 ai;cases O:rn c with
 |none=>
  rw[O]at D;let⟨I,aD⟩:=de.1 (show cm _ _=ab _ from D);let⟨aG,J,aJ,j,H⟩:=en aD;cases H;refine⟨rfl,λaL a s=>?_⟩;let⟨aI,Q,C⟩:=dS s h1;let⟨aK,R,U⟩:=dS s an;obtain⟨aF,rfl⟩:=ro W;rw[wj J]at C;cases U;cases C;have E:P.underlying T=ab .string:=by
   unfold AJ at I;cases E:mt P T with
   |none=>simp_all
   |some ah=>rw[E]at I;have:=nG E;cases ah<;>first|exact this|cases I
  refine⟨_,.i,λaP Z Y _=>?_⟩;simp[execOp,Y.eval Q,Y.eval R];have am:aG[aE]?=ab aJ:=j;simp[Instr.index,run_underlying E,asIntOf,am]
 |some l=>
  rw[O]at D;let⟨aR,J,ax⟩:=b1.1 (show aq _ _=ab _ from D);let⟨j,H⟩:=de.1 ax;let⟨az,aA⟩:=p5 H;refine⟨aA,λaL a s=>?_⟩;let⟨aI,Q,C⟩:=dS s h1;let⟨aK,R,U⟩:=dS s an;obtain⟨aF,rfl⟩:=ro W;rw[t3 O]at C;cases U;rw[co,pJ,decide_eq_true_iff]at j;cases C with
  |cp ap=>
   let⟨Z,ar,av⟩:=ap.get az;have aM:=BM J;exact⟨Z,ar,CB (O:=⟨j.1⟩) Q R j.2 av⟩
theorem wm{o j}(C:BZ t o=ab j){I:bb Ω}{a}(s:e6 I t a):(o=af/\j=af)\/∃q n D,o=ab q/\j=ab n/\aX (jB a) q=ab (.int D (n:Int)):=by
 cases o with
 |none=>cases C;simp
 |some q=>
  let⟨c,h1,n,an,E⟩:=en (show aq _ _=ab j from C);cases E;let⟨O,J,H⟩:=dS s h1;obtain⟨D,rfl⟩:=ro an;cases H;simp_all
theorem r6(D)(j y:Nat)(E)(H:j<=y)(C):(Instr.sliceBound (.int D j) y E).run P C=.ok j C:=by rw[run_sliceBound C D j y _ ao ad];rfl
def zq{aE:bq}{aD aK:Nat}{az:a3}{n c l I H:Nat}{ai ah am:Option cJ}{aA aq ar:Option Nat}{Y:cU}[aJ:eu P T (aE,aD,aK)](aW:aX Y x=ab (.slice az n c))
  (ax:(ai=af/\aA=af)\/∃q n J,ai=ab q/\aA=ab n/\aX Y q=ab (.int J (n:Int))) (aG:(ah=af/\aq=af)\/∃q n J,ah=ab q/\aq=ab n/\aX Y q=ab (.int J (n:Int))) (aR:(am=af/\ar=af)\/∃q n J,am=ab q/\ar=ab n/\aX Y q=ab (.int J (n:Int)))
  (aY:ar.isSome=ag->aq.isSome=ag) (j:aA.getD 0=l) (E:aq.getD n=I) (Z:ar.getD c=H) (h1:l<=I) (ae:I<=H) (an:H<=c):
  bh P [] Y ⟨d,.slice T x ai ah am,aO,pos,aT,a7⟩ (.slice (if H=l then az else az.map (·.add (l*aD))) (I-l) (H-l)):=λa av C _=>by
 let⟨aV,aZ,aQ,aS,_⟩:=aJ.spec;have aP:(sizeOf aE).run P av=.ok aD av:=by simp[sizeOf,typeInfo,aQ,aS]
 have aL:(qf ag n c (ai.map a.eval) (ah.map a.eval) (am.map a.eval)).run P av=.ok (l,I,H) av:=by
  rcases aR with ⟨rfl,rfl⟩|⟨a0,ap,aI,rfl,rfl,fZ⟩
  .simp only[vF]at Z;subst Z;rcases aG with ⟨rfl,rfl⟩|⟨aM,D,Q,rfl,rfl,W⟩
   .simp only[vF]at E;subst E;rcases ax with ⟨rfl,rfl⟩|⟨aF,R,O,rfl,rfl,U⟩
    .simp only[vF]at j;subst j;rfl
    .simp only[qj]at j;subst j;simp[qf,C.eval U,r6 O R n _ h1]
   .simp only[qj]at E;subst E;rcases ax with ⟨rfl,rfl⟩|⟨aF,R,O,rfl,rfl,U⟩
    .simp only[vF]at j;subst j;simp[qf,C.eval W,r6 Q D c _ ae]
    .simp only[qj]at j;subst j;simp[qf,C.eval U,C.eval W,r6 Q D c _ ae,r6 O R D _ h1]
  .simp only[qj]at Z;subst Z;rcases aG with ⟨rfl,rfl⟩|⟨aM,D,Q,rfl,rfl,W⟩
   .simp_all
   .simp only[qj]at E;subst E;rcases ax with ⟨rfl,rfl⟩|⟨aF,R,O,rfl,rfl,U⟩
    .simp only[vF]at j;subst j;simp[qf,C.eval W,C.eval fZ,r6 aI ap c _ an,r6 Q D ap _ ae]
    .subst j;simp[qf,C.eval U,C.eval W,C.eval fZ,r6 aI ap c _ an,r6 Q D ap _ ae,r6 O R D _ h1]
 simp[execOp,C.eval aW];simp only[KI,Instr.slice,cM,run_underlying aV,dG,aL,aP];rfl
end
end aV
namespace aV
variable{Ω:dO}
section
variable{P:bk}{t:eJ}{h br:cE}{v:aB}{d:Option Nat}{aO T ci S:bq}{pos:String}{aT:Array q1}{a7:Option (Nat×Bool)}{x y z:cJ}
def Z4{b o n O D j}[C:mZ P T (n,D,O)](J:aX j x=ab (.pointer (ab ⟨b,o,af⟩)))(Q:0<n):
  bh P [] j ⟨d,.slice T x af af af,aO,pos,aT,a7⟩ (.slice (ab ⟨b,o,af⟩) n n):=λa W H _=>by
 let⟨I,U,E,R⟩:=C.spec;simp[execOp,H.eval J];simp[KI,qf,run_underlying I,sizeOf,typeInfo,E,kT,Instr.sureAddr]
theorem FM{j:Prop}[Decidable j](b o C:Nat):(if j then(ab (⟨b,o,af⟩:Addr))else(ab (⟨b,o,af⟩:Addr)).map (·.add C))=ab ⟨b,if j then o else o+C,af⟩:=by split<;>simp[kT]
theorem FX{α}(j l:Nat)(a b:α):ax (aH j l) a b=if j=l then a else b:=by
 by_cases C:j=l
 .subst C;rw[bJ p,Nat.beq_refl];rfl
 .rw[a8 C];cases D:aH j l with
  |false=>rfl
  |true=>simp_all
def S6{aJ aE aK}(aS:RT T x aJ aE aK P t h=ab (v,br)):br=h/\ko Ω P t ⟨d,.slice T x aJ aE aK,aO,pos,aT,a7⟩ v:=by
 let⟨c,h1,j,an,C,aZ,H,a0,ar⟩:=ns aS;cases aG:mq P T with
 |none=>
  rw[aG]at ar;let⟨Y,aA,q,Q,aD⟩:=en (show aq _ _=ab _ from ar);let⟨aP,aX⟩:=de.1 aD;cases aX;simp only[co,LX,pJ,decide_eq_true_iff]at aP;obtain⟨rfl,rfl,rfl,aY⟩:=aP;refine⟨rfl,λbe a s=>?_⟩;let⟨bc,U,av⟩:=dS s h1;rw[pF Q]at av;have a4:aJ=af:=by grind[wm]
  have a9:aE=af:=by grind[wm]
  have bb:aK=af:=by grind[wm]
  subst a4 a9 bb;cases av with
  |ai D=>exact⟨_,.ey D,Z4 (C:=BM aA) U aY⟩
 |some Y=>
  rw[aG]at ar;let⟨aA,aW⟩:=de.1 (show cm (ax H.isSome C.isSome ag) (p4 h (T6 c Y.2 (j.getD 0) C H))=ab (v,br)from ar);let⟨Q,aD⟩:=p5 aW;refine⟨aD,λbe a s=>?_⟩;let⟨bc,U,av⟩:=dS s h1;let⟨bh,Z⟩:=sa aG;have aF:=wm an s;have aM:=wm aZ s;have ap:=wm a0 s;have am:H.isSome=ag->C.isSome=ag:=λa3=>by rw[a3]at aA;trivial
  cases av with
  |gk=>
   let⟨D,I⟩:=de.1 (show cm (aH (j.getD 0) 0&&(aH (C.getD 0) 0&&aH (H.getD 0) 0)) (ab aB.gk)=ab v from Q);cases I;simp only[co]at D;have:=zq (P:=P) (T:=T) (aJ:=Z) (d:=d) (aO:=aO) (pos:=pos) (aT:=aT) (a7:=a7) U aF aM ap am (cy D.1) (cy D.2.1) (cy D.2.2) (bC _) (bC _) (bC _);exact⟨_,.gk,by simpa using this⟩
  |jk=>
   let⟨D,I⟩:=de.1 (show cm (aH (j.getD 0) 0&&(aH (C.getD 0) 0&&H.isNone)) (ab aB.jk)=ab v from Q);cases I;simp only[co,LX]at D;obtain⟨az,aL,rfl⟩:=D;have:=zq (P:=P) (T:=T) (aJ:=Z) (d:=d) (aO:=aO) (pos:=pos) (aT:=aT) (a7:=a7) U aF aM ap am (cy az) (cy aL) p (bC _) (bO _) (bC _);refine⟨_,?_,this⟩;split<;>exact .jk
  | @ey b o n q aR R D=>
   let⟨I,E⟩:=de.1 (show cm (da (j.getD 0) (C.getD n)&&(da (C.getD n) (H.getD q)&&da (H.getD q) q)) (ab (aB.ey b (ax (aH (H.getD q) (j.getD 0)) o (jN o (vE (j.getD 0) Y.2))) (kl (C.getD n) (j.getD 0)) (kl (H.getD q) (j.getD 0))))=ab v from Q);cases E;simp only[co]at I;have:=zq (P:=P) (T:=T) (aJ:=Z) (d:=d) (aO:=aO) (pos:=pos) (aT:=aT) (a7:=a7) U aF aM ap am p p p (fq I.1) (fq I.2.1) (fq I.2.2);rw[FM]at this;rw[FX];exact⟨_,.ey D,this⟩
  | @dw b o n l aR R D I=>
   cases H with
   |some ah=>
    let⟨E,J⟩:=de.1 (show cm (da (j.getD 0) (C.getD n)&&(da (C.getD n) ah&&da ah n)) (ab (aB.ey b (ax (aH ah (j.getD 0)) o (jN o (vE (j.getD 0) Y.2))) (kl (C.getD n) (j.getD 0)) (kl ah (j.getD 0))))=ab v from Q);cases J;simp only[co]at E;have bg:=fq E.2.2;have:=zq (P:=P) (T:=T) (aJ:=Z) (d:=d) (aO:=aO) (pos:=pos) (aT:=aT) (a7:=a7) U aF aM ap am p p p (fq E.1) (fq E.2.1) (show ah<=R-l by omega);rw[qj,FM]at this;rw[FX];exact⟨_,.ey D,this⟩
   |none=>
    let⟨E,J⟩:=de.1 (show cm (da (j.getD 0) (C.getD n)&&da (C.getD n) n) (ax (aH (j.getD 0) 0) (ab (aB.dw b o (C.getD n) l)) (ax (eY (j.getD 0) n) (ab (aB.dw b (jN o (vE (j.getD 0) Y.2)) (kl (C.getD n) (j.getD 0)) (jN l (j.getD 0)))) (ab aB.jk)))=ab v from Q);simp only[co]at E;have az:=fq E.1;have aL:=fq E.2;have W:=zq (P:=P) (T:=T) (aJ:=Z) (d:=d) (aO:=aO) (pos:=pos) (aT:=aT) (a7:=a7) U aF aM ap am p p p az (show C.getD n<=R-l by omega) (bC _);rw[vF,FM]at W;generalize j.getD 0=O at*
    generalize C.getD n=M at*
    cases aI:aH O 0 with
    |true=>
     rw[aI,ea]at J;cases J;have:=cy aI;subst this;refine⟨_,.dw D (n:=M) (l:=l) ad,?_⟩;have aV:(if R-l=0 then o else o+0*Y.2)=o:=ao;rw[aV]at W;simpa using W
    |false=>
     rw[aI,dP,pJ]at J
     by_cases aQ:O<n
     .rw[cO aQ]at J;cases J;rw[a8 (show ¬R-l=O by omega)]at W;refine⟨_,.dw D (n:=M-O) (l:=l+O) ad,?_⟩;rw[show R-(l+O)=R-l-O by omega];exact W
     .rw[cw aQ]at J;cases J;rw[show M-O=0 by omega]at W;exact⟨_,.jk,W⟩
  | _=>cases Q
def DQ{H:bb Ω}{a:Act}(s:e6 H t a):∀{l:List (Nat×cJ)}{j:List (Nat×aB)},hW (λE:Nat×cJ=>aq (dI E.2 t) λv=>ab (E.1,v)) l=ab j->∃C,pO (jB a) l=ab C/\C.map (·.1)=j.map (·.1)/\bK H (j.map (·.2)) (C.map (·.2))
 | [],j,D=>by cases D;exact⟨[],rfl,rfl,.nil⟩
 |(Y,x)::l,j,D=>by
  let⟨y,h1,ae⟩:=b1.1 (show aq _ _=ab j from D);let⟨z,an,J⟩:=b1.1 h1;cases J;let⟨ai,O,Q⟩:=b1.1 ae;cases Q;let⟨Z,R,U⟩:=dS s an;let⟨C,W,ah,I⟩:=DQ s O;exact⟨(Y,Z)::C,by simp[pO,R,W],by simp_all,.cons U I⟩
theorem aac(j D C E z):wV j ((D,C)::E) z=aq (j D) λq=>cm (aH (k9 (jx C)) q.2) (aq (zL z q.1 (jx C)) (wV j E)):=rfl
def CK{O:bb Ω}{Q:Nat->Option (Nat×Nat)}{Y:Nat->Option (Nat×Nat)}(U:∀J q,Q J=ab q->Y J=ab q):∀{E:List (Nat×aB)}{j:List (Nat×a2)}{z H:List aB}{C:bz},j.map (·.1)=E.map (·.1)->bK O (E.map (·.2)) (j.map (·.2))->bK O z C->wV Q E z=ab H->∃I,n6 Y C j=ab I/\bK O H I
 | [],j,z,H,C,h1,ae,an,D=>by
  cases j with
  |nil=>cases D;exact⟨C,rfl,an⟩
  |cons _ _=>trivial
 |(J,aG)::E,j,z,H,C,h1,ae,an,D=>by
  cases j with
  |nil=>trivial
  |cons aF j=>
   simp[fu,so]at h1;obtain⟨rfl,h1⟩:=h1;cases ae with
   |cons a b=>
    rw[aac]at D;let⟨q,Z,ah⟩:=b1.1 D;let⟨ai,am⟩:=de.1 ah;let⟨aI,ap,aq⟩:=b1.1 am;have R:=a.cells;let⟨W,av⟩:=R.lay an ap;replace W:=W;have ax:=R.len;have az:=an.len;rw[xe]at ax az;have aA:=cy ai;rw[xe]at aA;let⟨I,aE,ar⟩:=CK U h1 b av aq;refine⟨I,?_,ar⟩;have aD:=U _ _ Z;unfold n6;simp_all[E4]
end
end aV
namespace aV
variable{Ω:dO}
theorem QI{α}:∀(l:List α)(n),HA l n=l[n]?
 | [],n=>rfl
 |x::l,0=>rfl
 |x::l,n+1=>by
  show HA l n= _;rw[QI l n,A1]
theorem Q9{α H D g}(h:∀a b,D a=ab b->g a=ab b):∀{l:List α}{j:List H},hW D l=ab j->l.mapM g=ab j
 | [],j,C=>by assumption
 |x::l,j,C=>by
  let⟨y,h1,s,an,E⟩:=en (show aq _ _=ab j from C);cases E;simp[h _ _ h1,Q9 h an]
def d8{A j D}(H:∀h,A h->j h){h}(s:C (A::D) h):C (j::D) h:=by
 let⟨h1,ae,E,I,J,a,l⟩:=s;exact⟨h1,ae,E,I,J,H _ a,l⟩
def l8{ι:Type}{g}{A:ι->aG}{C E}(D:bj g ((λh=>∃j,A j h)::C) E):∃j,bj g (A j::C) E:=by
 let⟨h1,ae,H,I,J,⟨j,a⟩,l⟩:=D.s;exact⟨j,D.g,h1,ae,H,I,J,a,l⟩
def cW(Ω:dO)(J:bk)(R:eJ)(h:cE)(o:cI)(v:aB)(Q:cE):Prop:=∀(g:d1)(F:aG)(j:bb Ω)(a:Act)(H:dd),e6 j R a->ST g F j h H->∀(D:Act->dd->Prop)(O:Exit->Act->dd->Prop),
 (∀E I C,j.le C->bY C v E->ST g F C Q I->D (a.put o.dst E) I)->o.wp J a H D O
section
variable{P:bk}{t:eJ}{h br:cE}{v:aB}{d:Option Nat}{aO T ci S:bq}{pos:String}{aT:Array q1}{a7:Option (Nat×Bool)}{x y z:cJ}{o:cI}
def cW.ks(q:br=h/\ko Ω P t o v):cW Ω P t h o v br:=λg F C a j s I O Q D=>by
 obtain⟨rfl,q⟩:=q;let⟨J,H,E⟩:=q C a s;unfold eg;rw[E a j (eZ a) trivial];exact D J j C (bb.le.refl _) H I
theorem aaa{j}(D:GP P T=ab j):FI P T j:=by
 let⟨C,h1,H,an,I⟩:=en D;have E:=nG h1;cases C<;>cases an;refine⟨?_⟩;unfold fieldsOf;grind[Q9,b1,pc]
def SP{C}(Y:RB T C P t h=ab (v,br)):br=h/\ko Ω P t ⟨d,.build T C,aO,pos,aT,a7⟩ v:=by
 let⟨aD,h1,z,an,j⟩:=en Y;let⟨aF,aE,W,az⟩:=vp an;let⟨C⟩:=C;cases E:GP P T with
 |some Z=>
  rw[E]at j;let⟨ar,D,ah⟩:=b1.1 (show aq _ _=ab _ from j);cases ah;refine⟨rfl,λR a s=>?_⟩;let⟨ax,H,I,J⟩:=DQ s h1;let⟨av,O,Q⟩:=CK (Y:=(Z[·]?)) (λap q U=>by rw[<- QI];omega) I J ((W R).cells) D;exact⟨_,.cp Q,OO (O:=aaa E) H O⟩
 |none=>
  rw[E]at j;let⟨ar,D,aA,ai,am⟩:=en (show aq (wd P T) _=ab _ from j);cases am;refine⟨rfl,λR a s=>?_⟩;let⟨ax,H,I,J⟩:=DQ s h1;let⟨av,O,Q⟩:=CK (λap q U=>U) I J ((W R).cells) ai;exact⟨_,.cp Q,OP (O:=BM D) H O⟩
def p6(D o:Nat)(H:bz):aG:=λE=>∀j C,H[j]?=ab C->iR E ⟨D,o+j,af⟩=ab C
theorem ST.cells{g F}{J:bb Ω}{Q}(aI:ST g F J h Q){b o n O c l}(av:J b=ab (O,c))(aq:oo h b o n=ab l):∃j,bK J l j/\aa j=n/\p6 O o j Q.hm:=by
 let⟨aQ,h1,ap,an,ar⟩:=en aq;have eD:=aI.open av h1
 have am:∀(C:List _),bK J ap C->(∀D H,C[D]?=ab H->iR Q.hm ⟨O,D,af⟩=ab H)->∃j,bK J l j/\aa j=n/\p6 O o j Q.hm:=λC ax aL=>by
  let⟨j,az,aA⟩:=(ax.drop o).take ar;let⟨aD,aE⟩:=nB aA;refine⟨j,az,aD,λD H I=>?_⟩;have:=aE D H I;rw[sP,yd]at this;simp_all
 rcases BQ an with ⟨aJ,rfl⟩|⟨aK,aR,aP,rfl⟩
 .let⟨C,Y⟩:=l8 eD;let⟨U,W,R,Z,ai,⟨aF,aM⟩,aG⟩:=Y.s;exact am C aF λD H I=>(a5.ah (L:=[]) I).get _ ⟨U,W,R,Z,ai,aM,trivial⟩
 .let⟨C,Y⟩:=l8 eD;let⟨U,W,R,Z,ai,⟨aF,aM⟩,aG⟩:=Y.s;exact am C aF λD H I=>(a5.E (L:=[]) I).get _ ⟨U,W,R,Z,ai,aM,trivial⟩
def SY(j:Ii T x P t h=ab (v,br)):br=h/\∃(q:Nat×Nat) (s:Bool×Nat) (l:List aB),dI x t=ab (.ai q.1 q.2)/\qV P T=ab s/\oo h q.1 q.2 s.2=ab l/\xA s.1 l=ab v:=by
 let⟨c,h1,q,an,s,E,l,H,C⟩:=ns j;let⟨I,D⟩:=p5 C;grind[pF]
def QY{O:bb Ω}{a}(s:e6 O t a){q:Nat×Nat}{U l J c I}(h1:dI x t=ab (.ai q.1 q.2))(ae:qV P T=ab U)(an:xA U.1 l=ab v)(ar:O q.1=ab (J,c))(Z:bK O l I)(av:aa I=U.2):
  ∃j,bY O v j/\bh P [p6 J q.2 I] (jB a) ⟨d,.load T x,aO,pos,aT,a7⟩ j:=by
 let⟨j,ah,ax⟩:=dS s h1;cases ax with
 |ai Y=>
  rw[ar]at Y;cases Y;have rd:∀D,C [p6 J _ I] D->∀E j,I[E]?=ab j->iR D ⟨J,q.2+E,af⟩=ab j:=λD H E j R=>by
   obtain⟨aD,aE,aA,az,aI,aF,aG⟩:=H;exact iR.sub (aF E j R) az
  rcases AE ae with ⟨W,am⟩|⟨W,am⟩
  .rcases Ai an with ⟨Q,rfl⟩|⟨Q,_⟩
   .exact⟨_,.cp Z,gh ah ⟨av,λE j R=>⟨λD H=>rd D H E j R⟩⟩⟩
   simp_all
  .subst W;rcases Ai an with ⟨Q,_⟩|⟨Q,rfl⟩
   .trivial
   .cases Z with
    |cons ap aq=>
     cases aq;exact⟨_,ap,fC ah ⟨λD H=>by simpa using rd D H 0 _ p⟩⟩
def cW.load(C:Ii T x P t h=ab (v,br)):cW Ω P t h ⟨d,.load T x,aO,pos,aT,a7⟩ v br:=λg F W a j s E Y Z I=>by
 obtain⟨rfl,q,am,l,h1,ae,an,H⟩:=SY C;let⟨ap,ah,J⟩:=dS s h1;cases J with
 |ai D=>
  let⟨aq,O,Q,R⟩:=E.cells D an;obtain⟨U,aF,aM⟩:=QY s h1 ae H D O Q;unfold eg;rw[aM a j (eZ a) ⟨j.hm,λ_=>af,λ_=> .inr p,eV.refl _,λ_ _ C=>bv,R,trivial⟩];exact I U j W (bb.le.refl _) aF E
end
end aV
namespace aV
variable{Ω:dO}
theorem afN(n j):Go.Proofs.YteinodmjohkmmaaGreat.i1 (n+1) j=j++Go.Proofs.YteinodmjohkmmaaGreat.i1 n j:=by
 unfold Go.Proofs.YteinodmjohkmmaaGreat.i1;rw[Nat.succ_mul,Nat.add_comm,List.range_add,ez,List.map_map]
 congr 1
 .apply List.ext_getElem?;grind[Nat.mod_eq_of_lt,List.getElem?_eq_none]
 simp
theorem D8(n j):Go.Proofs.YteinodmjohkmmaaGreat.i1 n j=(gv n j).flatten:=by
 induction n with
 |zero=>simp[Go.Proofs.YteinodmjohkmmaaGreat.i1]
 |succ n C=>simp_all[afN,List.replicate_succ]
section
variable{P:bk}{t:eJ}{h br:cE}{v:aB}{d:Option Nat}{aO T ci S:bq}{pos:String}{aT:Array q1}{a7:Option (Nat×Bool)}{x y z:cJ}{o:cI}
theorem ST.ah{g:d1}{F:aG}{j:bb Ω}{Q I:dd}(H:ST g F j h Q){b:Nat}{E:List aB}{C:bz}(O:bK j E C)(eD:bj g (ah b T C::F::cz j h) I)(c:Nat):
  ∃D,j.le D/\D h.n=ab (b,c)/\ST g F D (h.new (.ce T E)) I:=by
 refine⟨aV.ext j h.n (b,c),?_⟩;apply ST.new H.eU (eD.mono λJ s=>d8 (λJ q=>?_) s);exact⟨C,O.mono (wS _ (H.eU _ (bC _))),q⟩
theorem cW.alloc(E:Ry T P t h=ab (v,br)):cW Ω P t h ⟨d,.alloc T,aO,pos,aT,a7⟩ v br:=λg F am a W s j C D J=>by
 let⟨z,h1,ae⟩:=b1.1 E;cases ae;let⟨ax,av,Z,ap⟩:=vp h1;refine rx a W (eZ a) j.eD C D λar Y aq ⟨b,H,I⟩ O=>?_;subst H I;let⟨az,Q,R,U⟩:=j.ah ((Z am).cells) O 0;exact J _ Y _ Q (.ai R) U
theorem cW.box(E:RA T x P t h=ab (v,br)):cW Ω P t h ⟨d,.box T x,aO,pos,aT,a7⟩ v br:=λg F av a Z s j C D J=>by
 let⟨z,h1,ae⟩:=b1.1 E;cases ae;let⟨ar,Q,R⟩:=dS s h1;refine ue Q a Z (eZ a) j.eD C D λaq am ap ⟨b,H,I⟩ O=>?_;subst H I;let⟨ax,U,W,Y⟩:=j.ah R.cells O 0;exact J _ am _ U (.ai W) Y
def w7{α}{l:List α}(j:pV l=ag):l=[]:=by cases l with|nil=>rfl|cons _ _=>cases j
def cW.XQ{n j}(aE:RC T n j P t h=ab (v,br)):cW Ω P t h ⟨d,.buildSlice T n j,aO,pos,aT,a7⟩ v br:=λg F Y a ar s C Z ai am=>by
 let⟨bb,h1,aV,an,z,aI,aJ⟩:=i0 aE;let⟨H,aK⟩:=de.1 aJ;let⟨a0,aL,aG⟩:=b1.1 aK;cases aG;let⟨aY,bc,av,aA⟩:=vp aI;let⟨aZ,az⟩:=sa an;let⟨j⟩:=j;let⟨a9,ap,aR,aS⟩:=DQ s h1;let⟨a8,aF,aM⟩:=((av Y).cells).Av n;rw[<- D8]at aM;let⟨aW,O,aq⟩:=CK (λa3 q aQ=>aQ) aR aS aF aL;rw[aM]at O;cases I:aH n 0 with
 |true=>
  have:=cy I;subst this;rw[I,ea]at H;have aP:=w7 H;subst aP;cases ap;have:aW=[]:=by simpa[n6,Go.Proofs.YteinodmjohkmmaaGreat.i1]using O.symm
  subst this;refine Gp (R:=[]) (.inl ⟨rfl,rfl,rfl⟩) a ar (eZ a) C.eD Z ai λaX W aD ⟨b,D,E⟩ J=>?_;subst D E;let⟨ax,Q,R,U⟩:=C.ah aq J 0;exact am _ W _ Q (.ey R) U
 |false=>
  rw[I,dP]at H;have a4:1<=n:=by cases n with|zero=>trivial|succ n=>simp
  have be:aa (hp aY)=aV.2:=by
   have:=((av Y).cells).len;simp_all
  apply zd (P:=P) (T:=T) (Y:=az) (Z:=aA) (L:=F::cz Y h) (H:=jB a) ?_ ap O a ar (eZ a) C.eD Z ai λaX W aD ⟨b,D,E⟩ J=>?_
  .simp_all
  .subst D E;let⟨ax,Q,R,U⟩:=C.ah aq J 0;exact am _ W ax Q (.ey R) U
theorem e8{I:bb Ω}:∀{l}{j},um l=ag->bK I l j->kE j=ag
 | [],j,_,h=>by cases h;rfl
 |x::l,j,E,h=>by
  have C:ax _ _ _=ag:=E;cases h with
  | @cons _ H _ J a b=>
   cases D:Hh x with
   |true=>rw[D]at C;trivial
   |false=>
    rw[D,dP]at C;have:qQ H=ag:=by
     cases a<;>first|rfl|trivial|cases D
    simp[kE,co];exact⟨this,e8 C b⟩
theorem agB(l j C):eS l j [C]=l.set j C:=by rw[AB,tv]
theorem cW.store(bh:RU T x y P t h=ab (v,br)):cW Ω P t h ⟨d,.store T x y,aO,pos,aT,a7⟩ v br:=λg F D a az s be R aA bB=>by
 let⟨c,h1,q,an,aI,bz,bI,a0,bA⟩:=ns bh;let⟨a3,bm⟩:=de.1 bA;let⟨bP,bn,bp⟩:=b1.1 bm;cases bp;let⟨bH,bt,aE,bw,aW,aZ,bx⟩:=i0 bn;cases bx;rw[eK,eK,co,co]at a3;let⟨O,bM,bg⟩:=a3;let⟨bT,aF,a8⟩:=dS s h1;let⟨Q,a9,ap⟩:=dS s bz;rw[pF an]at a8;cases a8 with
 | @ai _ _ H aD aY=>
  have a4:=be.open aY bt
  have W:=ap.cells;have bR:aa (hp Q)=bI.2:=by rw[W.len];simp_all
  have one:=e8 bg W;have bJ:bY D _ _:=.cB .nil;have aX:∀(bc:dn) (j:dd),bj g _ j->bc=fU bH aW->R _ j:=λbc j J bi=>by
   subst bi;exact bB undef j D (bb.le.refl _) bJ (ST.close be.eU aY J)
  rcases BQ bw with ⟨U,rfl⟩|⟨Z,ax,av,rfl⟩
  .let⟨C,am⟩:=l8 (A:=λC h=>bK D aE C/\ah H U C h) a4;have aq:bK D aE C:=by obtain⟨_,_,_,_,_,⟨bL,_⟩,_⟩:=am.s;omega
   have Y:bj g (ah H U C::F::fI D h q.1) az:=am.mono λ_ z=>d8 (λ_ z=>z.2) z;let⟨bG,aR⟩:=W.lay aq aZ;have aV:=aq.len;have aG:=W.len;rw[xe]at aV aG;have aS:da (q.2+aa (hp Q)) (aa C)=ag:=E4 ad;have done:∀j,bj g (ah H U (eS C q.2 (hp Q))::F::fI D h q.1) j->R (a.put d undef) j:=λj J=>aX (.ce U aW) j (J.mono λ_ z=>d8 (λ_ z=>⟨_,aR,z⟩) z) p;rcases AE a0 with ⟨I,aJ⟩|⟨I,aK⟩
   .rw[I,rr]at O;obtain⟨ar,rfl⟩:∃ar,aI=.cp ar:=by cases aI<;>first|exact⟨_,rfl⟩|cases O
    cases ap with
    |cp bE=>
     apply rz (P:=P) (T:=T) (J:=aJ) (g:=g) (H:=jB a) (j:=hp (.agg _)) (L:=ah H U C::F::fI D h q.1) aF fs bo one (iN.here aS) a az (eZ a) Y R aA λiH j aL ⟨aM,aP⟩ J=>?_;simp_all
   .have bl:=I;subst I;rw[rr]at O;have aQ:hp Q=[Q]:=by
     cases ap<;>first|rfl|exact Gc (by trivial)|cases O
    rw[aQ]at one aS done;apply o2 (P:=P) (T:=T) (I:=aK) (g:=g) (H:=jB a) (L:=ah H U C::F::fI D h q.1) aF a9 (by simpa[kE]using one) (iN.here aS) a az (eZ a) Y R aA λiH j aL ⟨aM,aP⟩ J=>?_;simp_all
  .let⟨C,am⟩:=l8 (A:=λC h=>bK D aE C/\E Z ax (ab ⟨H,0,af⟩) av aD C h) a4;have aq:bK D aE C:=by obtain⟨_,_,_,_,_,⟨bL,_⟩,_⟩:=am.s;omega
   have Y:=am.mono λ_ z=>d8 (λ_ z=>z.2) z;have bS:=E.facts Y.s;let⟨bG,aR⟩:=W.lay aq aZ;have aV:=aq.len;have aG:=W.len;rw[xe]at aV aG;have done:∀j,bj g (E Z ax (ab ⟨H,0,af⟩) av aD (eS C q.2 (hp Q))::F::fI D h q.1) j->R (a.put d undef) j:=λj J=>aX (.kO Z ax av aW) j (J.mono λ_ z=>d8 (λ_ z=>⟨_,aR,z⟩) z) p;rcases AE a0 with ⟨I,aJ⟩|⟨I,aK⟩
   .rw[I,rr]at O;obtain⟨ar,rfl⟩:∃ar,aI=.cp ar:=by cases aI<;>first|exact⟨_,rfl⟩|cases O
    cases ap with
    |cp bE=>
     apply Gq (P:=P) (T:=T) (a3:=aJ) (g:=g) (H:=jB a) (j:=hp (.agg _)) (L:=E Z ax (ab ⟨H,0,af⟩) av aD C::F::fI D h q.1) aF fs bo one eH.here ad a az (eZ a) Y R aA λiH j aL ⟨aM,aP⟩ J=>?_;simp_all
   .have bl:=I;subst I;rw[rr]at O;have aQ:hp Q=[Q]:=by
     cases ap<;>first|rfl|exact Gc (by trivial)|cases O
    rw[aQ]at one done aG;rw[agB]at done;apply lB (P:=P) (T:=T) (aY:=aK) (g:=g) (H:=jB a) (L:=E Z ax (ab ⟨H,0,af⟩) av aD C::F::fI D h q.1) aF a9 (by simpa[kE]using one) eH.here bv a az (eZ a) Y R aA λiH j aL ⟨aM,aP⟩ J=>?_;simp_all
end
end aV
namespace aV
variable{Ω:dO}
theorem HZ{C n j}(D:aa C=j)(I:0<j):madeCells C.toArray (n*j)=(Go.Proofs.YteinodmjohkmmaaGreat.i1 n C).toArray:=by
 apply Array.ext
 .simp[madeCells,Go.Proofs.YteinodmjohkmmaaGreat.i1,D]
 .intro H E _;simp[madeCells]at E;have:H % j<aa C:=by simp_all[Nat.mod_lt]
  simp[madeCells,Go.Proofs.YteinodmjohkmmaaGreat.i1,D,List.getElem?_eq_getElem this]
section
variable{P:bk}{t:eJ}{h br:cE}{v:aB}{d:Option Nat}{aO T ci S:bq}{pos:String}{aT:Array q1}{a7:Option (Nat×Bool)}{x y z:cJ}{o:cI}
def cW.adz(ar:Ij T x y P t h=ab (v,br)):cW Ω P t h ⟨d,.makeSlice T x y,aO,pos,aT,a7⟩ v br:=λg F bb a a8 s ai be bg aI=>by
 let⟨bl,h1,l,an,bi,aA,c,aD,aE⟩:=ns ar;let⟨E,aG,z,av,aP,U,ax⟩:=i0 aE;let⟨W,az⟩:=de.1 ax;cases az;simp only[co]at W;let⟨J,O,Q,j,R⟩:=W;have J:=fq J;have O:=fq O;have Q:=fq Q;have j:=fq j;have R:=cy R;let⟨bh,ap⟩:=sa aG;let⟨eW,aF,I,a0,a3⟩:=en (show aq (l9 P _) _=ab z from av);rw[U]at aF;cases aF;have am:=(uQ (aI:=bb) 9 a3).cells;have a9:aa (hp I)=E.2:=by rw[am.len];omega
 let⟨aM,D,bj,aL,_⟩:=ap.spec;have aK:=pc U;have:D=aP:=bo;subst this;let⟨bn,aQ,aR⟩:=dS s h1;let⟨bp,aS,aV⟩:=dS s aA;obtain⟨aX,rfl⟩:=ro an;obtain⟨aW,rfl⟩:=ro aD;cases aR;cases aV;have aJ:(D.bytes:Int)*(c:Int)<=281474976710656:=by
  grind
 have C:=run_make (P:=P) a8 T E.1 D I aM aK a0 aX aW l c ao ad aJ ad;simp only[Int.toNat_natCast]at C;rw[ua,aL,HZ a9 j]at C;unfold eg;simp only[execOp,(eZ a).eval aQ,(eZ a).eval aS];simp only[cM,C];have Y:=ai.eD.alloc E.1 (Go.Proofs.YteinodmjohkmmaaGreat.i1 c (hp I));let⟨bm,a4,H⟩:=am.Av c;rw[<- D8]at H;rw[<- H]at Y;let⟨bc,aY,aZ,Z⟩:=ai.ah a4 Y 0;rw[H]at Z;exact aI _ _ bc aY (.ey aZ) Z
theorem yN{v n}(j:we v=ab n):v=s6 n:=by
 let⟨q,h1,ae⟩:=b1.1 (show aq (ju v) _=ab n from j);let⟨an,C⟩:=de.1 ae;cases C;rw[mJ h1];have:q.1=.i64:=by
  cases D:q.1<;>rw[D]at an<;>first|rfl|cases an
 rw[this];rfl
theorem BN{v j}(C:yM v=ab j):v=qE j:=by
 let⟨l,h1,ae⟩:=b1.1 (show aq _ _=ab j from C);rw[t3 h1];cases l with
 |nil=>trivial
 |cons a l=>
  cases l with
  |nil=>trivial
  |cons b l=>
   cases l with
   |nil=>trivial
   |cons c l=>
    cases l with
    |cons _ _=>trivial
    |nil=>
     let⟨x,aF,y,D,z,E,H⟩:=i0 (show aq _ _=ab j from ae);cases H;rw[yN aF,yN D,yN E];rfl
theorem bY.i64{D:bb Ω}{n j}(C:bY D (s6 n) j):j=dE.v n:=by cases C;rfl
theorem bY.i3{D:bb Ω}{ai j}(C:bY D (qE ai) j):j=dE.v (mh ai):=by
 cases C with
 |cp h=>
  cases h with
  |cons a b=>
   cases b with
   |cons b c=>
    cases c with
    |cons c d=>
     cases d;cases a;cases b;cases c;rfl
def PR{j:bb Ω}(n):bY j (s6 n) (dE.v n):=.i
def uv{C:bb Ω}(j):bY C (qE j) (dE.v (mh j)):=.cp (.cons .i (.cons .i (.cons .i .nil)))
theorem Si{j q}:mh j=mh q<->j=q:=by grind[mh]
theorem G7(j q):rE j q=decide (j=q):=by grind[rE,eK,oa,Bool.decide_and]
theorem PA{C}:∀{l},(s1 fD C l).map mh=dL C (l.map gO)
 | []=>rfl
 |ai::l=>by
  show(ax _ _ (s1 fD C l)).map mh= _;rw[oa]
  by_cases j:C=ai.1
  .rw[cO j,ea];simp[dL,gO,j]
  .rw[cw j,dP,PA];simp[dL,gO,j]
theorem Pz{C}:∀{l},s1 rE C l=dL (mh C) (l.map e1)
 | []=>rfl
 |ai::l=>by
  show ax _ _ (s1 rE C l)= _;rw[G7]
  by_cases j:C=ai.1
  .rw[cO j,ea];simp[dL,e1,j]
  .rw[cw j,dP,Pz];simp[dL,e1,Si,j]
theorem SE{C v}:∀{l},(xH fD C v l).map gO=f6 C (mh v) (l.map gO)
 | []=>rfl
 |ai::l=>by
  show(ax _ _ (ai::xH fD C v l)).map gO= _;rw[oa]
  by_cases j:C=ai.1
  .rw[cO j,ea];simp[f6,gO,j]
  .rw[cw j,dP,fu,SE];simp[f6,gO,j]
theorem SD{C v}:∀{l},(xH rE C v l).map e1=f6 (mh C) v (l.map e1)
 | []=>rfl
 |ai::l=>by
  show(ax _ _ (ai::xH rE C v l)).map e1= _;rw[G7]
  by_cases j:C=ai.1
  .rw[cO j,ea];simp[f6,e1,j]
  .rw[cw j,dP,fu,SD];simp[f6,e1,Si,j]
def H0{c}(O:zS P T=ab c):∃j,nV P T (j,c.2)/\((c.1=ag/\ss P j 3/\Bs P j)\/(c.1=al/\Fq P j)):=by
 let⟨U,h1,ae⟩:=b1.1 O;let⟨J,an,Q⟩:=b1.1 h1;have R:=nG an;cases J<;>cases Q
 rename_i j D
 have I:nV P T (j,D):=⟨R⟩;cases H:pd P j with
 |none=>
  rw[show(j,D).1=j from rfl,H]at ae;let⟨C,E⟩:=de.1 ae;cases E;rw[co]at C;exact⟨j,I,.inl ⟨rfl,⟨C.1⟩,⟨C.2⟩⟩⟩
 |some q=>
  rw[show(j,D).1=j from rfl,H]at ae;let⟨C,E⟩:=de.1 ae;cases E;have:=iY.1 C;subst this;exact⟨j,I,.inr ⟨rfl,⟨Hf H⟩⟩⟩
def cW.mkMap{J}(ah:RO T J P t h=ab (v,br)):cW Ω P t h ⟨d,.makeMap T J,aO,pos,aT,a7⟩ v br:=λg F aq a Y s j Q R U=>by
 let⟨h1,ae⟩:=de.1 ah;let⟨c,an,ai⟩:=b1.1 ae;cases ai;cases J with
 |some _=>trivial
 |none=>
  cases W:c.1 with
  |true=>
   apply ze (b2:=aj) (e4:=Bool) a Y (eZ a) j.eD Q R λap O Z ⟨b,C,D⟩ E=>?_;subst C D;let⟨H,I,am⟩:=ST.new (o:=.rP []) (c:=0) j.eU E;exact U _ O _ H (.m I) (by rw[W,ea];omega)
  |false=>
   apply ze (b2:=Int) (e4:=aj) (T:=T) (L:=F::cz aq h) (H:=jB a) a Y (eZ a) j.eD Q R λap O Z ⟨b,C,D⟩ E=>?_;subst C D;let⟨H,I,am⟩:=ST.new (o:=.qM []) (B:=b) (c:=0) (F:=F) j.eU E;exact U _ O _ H (.m I) (by rw[W,dP];omega)
theorem cW.look{H}(aL:RL T x y H P t h=ab (v,br)):cW Ω P t h ⟨d,.lookup T x y H,aO,pos,aT,a7⟩ v br:=λg F I a E s az aI aJ aW=>by
 let⟨m,h1,b,an,bc,aQ,c,aR,aS⟩:=ns aL;let⟨z,aV,a4,aP,U⟩:=en aS;let⟨be,R,aZ⟩:=H0 aR;let⟨bj,aA,aD,_⟩:=vp aV;let⟨bg,W,ax⟩:=dS s h1;let⟨bi,Y,Z⟩:=dS s aQ;rw[wg an]at ax;cases ax with
 | @m _ aE aK aM=>
  have a0:=az.open aM aP
  have D:∀(ah:a2),bh P (fk I a4 aE aK::F::fI I h b) (jB a) ⟨d,.lookup T x y H,aO,pos,aT,a7⟩ ah->bY I v ah->br=h->eg P ⟨d,.lookup T x y H,aO,pos,aT,a7⟩ a E aI aJ:=λah aX a3 aY=>by
   subst aY;unfold eg;rw[aX a E (eZ a) a0.s];exact aW ah E I (bb.le.refl _) a3 az
  rcases aZ with ⟨ai,a9,aG⟩|⟨ai,aG⟩
  .rw[ai,ea]at U;let⟨j,aF,C,am,a8,ap,aq⟩:=i0 U;let⟨O,ar⟩:=de.1 aq;rw[BR aF]at D;rw[BN am]at Z;have:=Z.i3;subst this;rw[pf,Bool.not_eq_true']at O;subst O;have Q:=aD I;rw[pE ap]at Q;cases Q;have J:v5 P c.2 Bool:=⟨λE=>aA E⟩;cases ar;rw[Pz]at D;cases H with
   |true=>
    apply D _ (wO (b2:=aj) (e4:=Bool) (j:=mh C) (M:=j.map e1) (I:=R) (J:=J) W Y fL.here) _ p;cases dL (mh C) (j.map e1)with
    |none=>exact .cB (.cons .b (.cons .b .nil))
    |some q=>exact .cB (.cons .b (.cons .b .nil))
   |false=>
    apply D _ (CE (b2:=aj) (e4:=Bool) (j:=mh C) (M:=j.map e1) (I:=R) (J:=J) W Y fL.here) _ p;cases dL (mh C) (j.map e1)with
    |none=>exact .b
    |some q=>exact .b
  .rw[ai,dP]at U;let⟨j,aF,C,am,a8,ap,aq⟩:=i0 U;let⟨O,ar⟩:=de.1 aq;rw[BS aF]at D;rw[yN am]at Z;have:=Z.i64;subst this;rw[G7,decide_eq_true_iff]at O;subst O;have Q:=aD I;rw[BN ap]at Q;have:=Q.i3;subst this;have J:v5 P c.2 aj:=⟨λE=>aA E⟩;cases ar;have av:=PA (C:=C) (l:=j);cases H with
   |true=>
    apply D _ (wO (b2:=Int) (e4:=aj) (j:=C) (M:=j.map gO) (I:=R) (J:=J) W Y fL.here) _ p;rw[<- av];cases s1 fD C j with
    |none=>exact .cB (.cons (uv (0,0,0)) (.cons .b .nil))
    |some q=>exact .cB (.cons (uv q) (.cons .b .nil))
   |false=>
    apply D _ (CE (b2:=Int) (e4:=aj) (j:=C) (M:=j.map gO) (I:=R) (J:=J) W Y fL.here) _ p;rw[<- av];cases s1 fD C j with
    |none=>assumption
    |some q=>exact uv q
def cW.gl(aE:RV T x y z P t h=ab (v,br)):cW Ω P t h ⟨d,.mapUpdate T x y z,aO,pos,aT,a7⟩ v br:=λg F az a ax s Y ah ai am=>by
 let⟨m,h1,b,an,aZ,aJ,bc,aK,aL⟩:=ns aE;let⟨c,aM,a3,aI,C⟩:=en aL;let⟨a0,aX,aP⟩:=H0 aM;let⟨a4,ap,aq⟩:=dS s h1;let⟨a8,ar,E⟩:=dS s aJ;let⟨a9,av,H⟩:=dS s aK;rw[wg an]at aq;cases aq with
 | @m _ aV aY O=>
  have D:=Y.open O aI
  rcases aP with ⟨Q,aW,aA⟩|⟨Q,aA⟩
  .rw[Q,ea]at C;let⟨aG,aF,aQ,R,aS,U,W⟩:=i0 C;cases W;rw[BR aF]at D;rw[BN R]at E;have:=E.i3;subst this;rw[pE U]at H;cases H;apply ry ap ar av eH.here a ax (eZ a) D ah ai λaR Z aD ⟨I,J⟩ j=>?_;subst I J;rw[<- SD]at j;exact am _ Z az (bb.le.refl _) (.cB .nil) (ST.close Y.eU O j)
  .rw[Q,dP]at C;let⟨aG,aF,aQ,R,aS,U,W⟩:=i0 C;cases W;rw[BS aF]at D;rw[yN R]at E;have:=E.i64;subst this;rw[BN U]at H;have:=H.i3;subst this;apply ry ap ar av eH.here a ax (eZ a) D ah ai λaR Z aD ⟨I,J⟩ j=>?_;subst I J;rw[<- SE]at j;exact am _ Z az (bb.le.refl _) (.cB .nil) (ST.close Y.eU O j)
end
end aV
namespace aV
variable{Ω:dO}
section
variable{P:bk}{t:eJ}{h br:cE}{v:aB}{d:Option Nat}{aO T ci S:bq}{pos:String}{aT:Array q1}{a7:Option (Nat×Bool)}{x y z:cJ}{o:cI}
theorem JT:∀{l:bz}{n}{C:bz},mr l n=ab C->C=l.take n
 |l,0,C,j=>by cases l<;>cases j<;>rfl
 | [],n+1,C,j=>by cases j
 |v::l,n+1,C,j=>by
  unfold mr at j;cases h:mr l n with
  |none=>rw[h]at j;cases j
  |some D=>rw[h]at j;cases j;rw[List.take_succ_cons,JT h]
def R9:∀{D:bz},kE D=ag->∀j∈D,j.oneCell'=ag
 | [],_,j,h=>by cases h
 |x::l,C,j,h=>by
  simp only[kE,co]at C;rcases List.mem_cons.1 h with rfl|h
  .cases j<;>first|rfl|cases C.1
  .exact R9 C.2 j h
theorem ST.slice{g F}{O:bb Ω}{Z}(ap:ST g F O h Z){R J c U ai}(am:bY O c ai)(H:rL c=ab J)(Q:u4 h R c=ab U):
  ∃C j q,ai=.slice j J q/\bK O U C/\aa C=J*R/\(j=af->J=0/\q=0)/\(0<J->∃b o,j=ab ⟨b,o,af⟩/\p6 b o C Z.hm):=by
 have ah:∀(b o n:Nat) (j D:Nat),O b=ab (j,D)->Ar h R (b,o,n)=ab U->∃C,bK O U C/\aa C=n*R/\(0<n->p6 j o C Z.hm):=λb o n j D I E=>by
  unfold Ar at E;cases Y:aH n 0 with
  |true=>
   rw[Y,ea]at E;cases E;have:=cy Y;subst this;exact⟨[],.nil,ao,λh=>absurd h ao⟩
  |false=>
   rw[Y,dP]at E;let⟨C,h1,ae,an⟩:=ap.cells I E;grind
 cases am with
 |gk=>cases H;cases Q;exact⟨[],af,0,rfl,.nil,ao,(λ_=>bD),db⟩
 | @jk aq ar=>cases H;cases Q;exact⟨[],_,_,rfl,.nil,ao,(λh=>by grind),db⟩
 | @ey b o n q j D I=>
  have W:=nQ H;subst W;let⟨C,h1,ae,an⟩:=ah b o n j D I Q;grind
 | @dw b o n l j D I av=>
  have W:=nQ H;subst W;let⟨C,h1,ae,an⟩:=ah b o n j D I Q;grind
 | _=>cases H
def xP{A:aG}{j:Q}(D:A λ_=>af){h:j5}(s:C j h):C (A::j) h:=
 ⟨λ_=>af,h,λ_=> .inl p,λ_ _ E=>bv,eV.refl _,D,s⟩
theorem ST.drop{g F A}{j:bb Ω}{H k x}(Q:∀k,h.n<=k->j k=af)(J:j k=ab x)(eD:bj g (A::F::fI j h k) H):bj g (A::F::cz j (h.put k .no)) H:=by
 have O:k<h.n:=by
  grind
 have E:(cz j (h.put k _)).Perm (dg j _ k::fI j (h.put k .no) k):=(mY (kU.2 O)).map _;have I:dg j (h.put k .no) k=λ_=>True:=by simp[dg,CQ,J,fk]
 rw[I,Eb]at E;exact eD.mono λD s=>s.bl λD s=>s.bl λD s=>C.perm E.symm (xP trivial s)
def ST.DG{g F}{D:bb Ω}{J j E c I}(O:∀j,h.n<=j->D j=af)(Q:D j=ab (E,c))(eD:bj g (fk D I E c::F::cz D h) J):ST g F D (h.put j I) J:=by
 have R:j<h.n:=by
  grind
 apply ST.close O Q (eD.mono λH s=>s.bl λH s=>s.bl λH s=>?_);have U:(cz D h).Perm _:=(mY (kU.2 R)).map _;exact(C.perm U s).tail
def ST.grown{g F}{j:bb Ω}{R}(O:∀Q,h.n<=Q->j Q=af){D H n b c:Nat}{C I}(W:bK j C I)(eD:bj g (E D H (ab ⟨b,0,af⟩) n c I::F::cz j h) R):
  ∃J,j.le J/\bY J (.dw h.n 0 n 0) (.slice (ab ⟨b,0,af⟩) n c)/\ST g F J (h.new (.kO D H n C)) R:=by
 have ai:=E.facts eD.s;refine⟨aV.ext j h.n (b,c),?_⟩;let⟨Y,Z,ah⟩:=ST.new (o:=.kO D H n C) O (eD.mono λU s=>d8 (λU q=>⟨I,W.mono (wS _ (O _ (bC _))),q⟩) s);refine⟨Y,?_,ah⟩;have:=bY.dw (o:=0) (n:=n) (l:=0) Z ad;omega
def aet{g O D H}{C U n:Nat}{W Y}(R:bj g O D)(av:H.ownsRow D.heap.size C U W n Y)(I:D.grownBy H af)(aE:0<n):
  ∃b c,W=.slice (ab ⟨b,0,af⟩) n c/\bj g (E C U (ab ⟨b,0,af⟩) n c Y::O) H:=by
 let⟨ax,az⟩:=av;rcases az with ⟨_,aA⟩|⟨b,Z,Q,rfl,am,aD,ae,an,ah,ai⟩
 .omega
 .refine⟨b,Z,rfl,?_⟩;have ap:uu H=g.base:=by
   have:=R.g;rw[<- this];simp[uu,I.os,I.tape,I.output]
  refine⟨ap,λj=>if j=b then ab (.cells Q C (0,0))else af,D.hm,λj=>?_,λj o C=>?_,λj o aq=>?_,⟨ax,ae,an,.inr ⟨b,Q,rfl,ao,ah,ai⟩⟩,R.s⟩
  .by_cases J:j=b
   .right;subst J;simp[World.hm,tH am]
   simp_all
  .replace C:(if j=b then ab _ else af)=ab o:=C
   by_cases J:j=b
   .subst J;rw[bJ p]at C;rw[<- C];trivial
   simp_all
  .have ar:j<D.heap.size:=by
    rcases dZ j _ with br|br
    .omega
    .simp[World.hm,tH br]at aq
   show H.heap[j]?= _;rw[I.block j ar ao];trivial
def ais{D}(j:J0 D=ab T):D=[T,T]:=by
 match D,j with
 | [A,H],j=>
  have C:ax _ _ _=ab T:=j;cases E:aH A H with
  |false=>rw[E]at C;trivial
  |true=>rw[E]at C;cases C;simp_all
def cW.ev{b4}(ap:Nf [x,y] b4 P t h=ab (v,br)):cW Ω P t h ⟨d,.call ⟨.builtin .append,#[x,y],b4.toArray⟩,aO,pos,aT,a7⟩ v br:=λg F U a ai s Y b8 b9 ch=>by
 have cG:(aq (dI x t) λv=>aq (dI y t) λaz=>aq (J0 b4) λT=>aq (mq P T) λap=>aq (rL az) λC=>aq (rL v) λn=>aq (l9 P ap.1) λa4=>aq (sj P ap.1) λz=>
  cm (eY 0 ap.2&&(da ((n+C)*a4.bytes) 140737488355328&&(da (n+C) 140737488355328&&aH (k9 (jx z)) ap.2))) (aq (u4 h ap.2 az) λaE=>cm (um aE) (MV v h ap.1 ap.2 C aE)))=ab (v,br):=ap
 let⟨c,h1,ae⟩:=b1.1 cG;let⟨dK,an,W,cY,j,cZ,C,bS,cQ⟩:=ns ae;let⟨n,bm,a4,cb,z,cc,cS⟩:=i0 cQ;let⟨cg,cT⟩:=de.1 cS;let⟨aE,cU,cV⟩:=b1.1 cT;let⟨cX,bn⟩:=de.1 cV;have:=ais cY;subst this;simp only[co]at cg;let⟨bg,bh,bG,bH⟩:=cg;have bg:0<j.2:=fq bg;have bh:=fq bh;have bG:=fq bG;have bH:=cy bH;let⟨dF,b7⟩:=sa cZ;let⟨bt,a8,dL,c9,c1⟩:=b7.spec;have cj:=pc cb;have:a8=a4:=bo;subst this;subst c1;let⟨dM,cq,cu,dp,dq⟩:=en (show aq (l9 P j.1) (λa4=>aq a4.zero λv=>z8 9 v)=ab z from cc);rw[cb]at cq;cases cq;let⟨dz,bB,dv,cx⟩:=vp cc;have dx:aH (aa (hp dz)) j.2=ag:=by rw[((dv U).cells).len,bH];simp
 have dy:cu.cells.size=j.2:=by
  have:=((uQ (aI:=U) 9 dq).cells).len;rw[ua];simp_all
 let⟨bx,dj,dk⟩:=dS s h1;let⟨dT,ck,dl⟩:=dS s an;obtain⟨bA,bE,q,rfl,b2,cr,ds,ct⟩:=Y.slice dl bS cU;have one:=R9 (e8 cX b2);have ca:∀b5 be Z,bx=b5->(Builtin.append_ #[W,W] aO #[b5,.slice bE C q]).run P ai=.ok be Z->(execOp a.eval ⟨d,.call ⟨.builtin .append,#[x,y],#[W,W]⟩,aO,pos,aT,a7⟩).run P ai=.ok (.value be) Z:=by
  intro b5 be Z bJ bS;subst bJ;simp only[execOp,resolve,gY,fu,mX,(eZ a).eval dj,(eZ a).eval ck];simp only[cM,e5,dG,invoke,builtin,bS]
 have bV:∀(A:a3) (av aA:Nat),C=0->bx=.slice A av aA->av<=aA->bY U v bx->br=h->eg P ⟨d,.call ⟨.builtin .append,#[x,y],#[W,W]⟩,aO,pos,aT,a7⟩ a ai b8 b9:=λA av aA aZ bL c4 dg c3=>by
  subst aZ c3;have df:bA=[]:=gX ad;subst df;have db:Src P a8.size W (.slice bE 0 q) 0 [] ai:=by
   cases bE with
   |none=>have:=(ds p).2;subst this;exact Src.ofNil ai bt 0
   |some cB=>exact Src.ofSlice ai bt cB 0 q [] ao ao ao
  have:=run_append_nothing (P:=P) ai W W aO j.1 a8 bt cj A av aA c4 _ db;unfold eg;rw[ca _ _ _ bL this];rw[<- bL];exact ch _ ai U (bb.le.refl _) dg Y
 have bZ:∀(A:a3) (av aA:Nat) (O:List aB) (H:bz) (bv:Nat) (M:Q) (ae:cE),bx=.slice A av aA->av=n->0<n+C->bK U O H->(∀bv,ae.n<=bv->U bv=af)->bj g (E j.1 j.2 A av aA H::F::M) ai->(∀Z,(∀b c,bj g (E j.1 j.2 (ab ⟨b,0,af⟩) (n+C) c (H++bA)::F::M) Z->bj g (E j.1 j.2 (ab ⟨b,0,af⟩) (n+C) c (H++bA)::F::cz U ae) Z))->rT ae j.1 j.2 (n+C) (O++aE)=ab (v,br)->
   eg P ⟨d,.call ⟨.builtin .append,#[x,y],#[W,W]⟩,aO,pos,aT,a7⟩ a ai b8 b9:=λA av aA O H bv M ae bL aW c8 di c2 a0 c0 c6=>by
  subst aW;cases c6;apply MW (P:=P) (T:=W) (bp:=b7) (br:=cx) (M:=F::M) (eZ a) a0 bo ck eH.here cr ct one dx bg bh bG;rintro be Z dC ⟨dA,R,rfl,aF,aM,dr,rfl⟩ dh;obtain⟨b,rfl⟩:=dr c8;let⟨cv,cl,cn,cp⟩:=ST.grown c2 (di.append b2) (c0 Z b R dh);grind
 cases dk with
 |gk=>
  cases bm;have I:ax (aH C 0) (ab (aB.gk,h)) (rT h j.1 j.2 C aE)=ab (v,br):=bn;cases J:aH C 0 with
  |true=>
   rw[J,ea]at I;cases I;exact bV af 0 0 (cy J) p (bC _) .gk p
  |false=>
   rw[J,dP]at I;have aZ:0<C:=by cases C with|zero=>trivial|succ C=>simp
   apply bZ af 0 0 [] [] 0 (cz U h) h p p ad .nil Y.eU (Y.eD.mono λJ s=>xP ⟨ao,bC _,bO _,.inl ⟨rfl,rfl,rfl⟩⟩ s) (λZ b c q=>q);rw[h3];exact I
 | @ey b o D R aV bI aD=>
  have aW:D=n:=nQ bm;subst aW;have I:ax (aH C 0) (cm (da D R) (ab (aB.ey b o D R,h))) (ax (eY R (D+C)) (aq (Ar h j.2 (b,o,D)) λO=>cm (um O) (rT h j.1 j.2 (D+C) (O++aE))) (aq (h.get b) λx=>aq (BP x) λq=>cm (aH o 0&&(aH j.1 q.1&&(aH (k9 q.2) (R*j.2)&&(da D R&&da R 1000000)))) (aq (tA q.2 (D*j.2)) λO=>rT (h.put b .no) j.1 j.2 (D+C) (O++aE))))=ab (v,br):=bn;cases J:aH C 0 with
  |true=>
   rw[J,ea]at I;let⟨aL,bM⟩:=de.1 I;cases bM;exact bV _ _ _ (cy J) p (fq aL) (.ey aD) p
  |false=>
   rw[J,dP]at I;have aZ:0<C:=by cases C with|zero=>cases J|succ C=>omega
   rw[pJ]at I
   by_cases bT:R<D+C
   .rw[cO bT,ea]at I;let⟨O,aL,bM⟩:=b1.1 I;let⟨bi,aX⟩:=de.1 bM;cases aX;let⟨H,dB,dR,aP,aY,aR,bl,cH⟩:=Y.slice (bY.ey aD (o:=o) (n:=D) (q:=R)) p (show u4 h j.2 (aB.ey b o D R)=ab O from aL);cases aP;obtain⟨cD,dn,rfl,a9⟩:=ct aZ;have c7:∀aS az,H[aS]?=ab az->ai.cell? ((⟨aV,o,af⟩:Addr).add aS)=ab az:=λaS az bp=>by
     rw[kT];have c5:0<D:=by
      rcases hh D with bR|bR
      .subst bR;have:H=[]:=gX (by simpa using aR);subst this;cases bp
      .exact bR
     let⟨dD,dQ,bJ,bc⟩:=cH c5;cases bJ;exact bc aS az bp
    let⟨be,Z,bP,cL,cN⟩:=run_append_arg_grows (P:=P) ai W aO j.1 a8 cu j.2 a8.bytes bt cj dp c9 p dy bg ⟨aV,o,af⟩ D R H aR c7 ⟨cD,dn,af⟩ C q bA cr (λaS az bp=>by rw[kT];exact a9 aS az bp) bT (by unfold maxLen;omega) bh;unfold eg;rw[ca _ _ _ p bP];obtain⟨dE,dJ,rfl,ar⟩:=aet Y.eD cL cN ad;let⟨cv,cl,cn,cp⟩:=ST.grown Y.eU (aY.append b2) ar;exact ch _ Z cv cl cn cp
   .rw[cw bT,dP]at I;let⟨b6,aL,am,bi,aX⟩:=en I;let⟨aP,aY⟩:=de.1 aX;let⟨O,aR,bl⟩:=b1.1 aY;simp only[co]at aP;let⟨aG,aI,aJ,aK,aQ⟩:=aP;have aG:=cy aG;have aI:=cy aI;have aJ:=cy aJ;have aK:=fq aK;have aQ:=fq aQ;subst aG;have bU:b6=.ce am.1 am.2:=by cases b6<;>cases bi;rfl
    subst bU;have a0:=Y.open aD aL
    let⟨H,ar⟩:=l8 (A:=λH h=>bK U am.2 H/\ah aV am.1 H h) a0;have bw:bK U am.2 H:=by obtain⟨_,_,_,_,_,⟨bB,_⟩,_⟩:=ar.s;exact bB
    have dt:aa H=R*j.2:=by rw[bw.len];exact aJ
    let⟨du,a9,bc⟩:=bw.take aR;have b3:=JT bc;subst b3;rw[<- aI]at ar;refine bZ _ D R O (H.take (D*j.2)) b (fI U h b) (h.put b .no) p p ad a9 Y.eU (ar.mono λ_ z=>d8 (λJ z=>E.gP z.2 dt aK (by unfold maxLen;omega)) z) (λZ cC cF b0=>ST.drop Y.eU aD b0) bl
 | @dw b o D l aV bI aD bP=>
  have aW:D=n:=nQ bm;subst aW;have I:ax (aH C 0) (ab (aB.dw b o D l,h)) (aq (h.get b) λx=>aq (BT x) λq=>cm (aH o 0&&(aH l 0&&(da D q.2.2.1&&(aH j.1 q.1&&aH j.2 q.2.1)))) (aq (tA q.2.2.2 (D*j.2)) λO=>rT (h.put b .no) j.1 j.2 (D+C) (O++aE)))=ab (v,br):=bn;cases J:aH C 0 with
  |true=>
   rw[J,ea]at I;cases I;exact bV _ _ _ (cy J) p ad (.dw aD bP) p
  |false=>
   rw[J,dP]at I;have aZ:0<C:=by cases C with|zero=>cases J|succ C=>omega
   let⟨b6,aL,am,bi,aX⟩:=en I;let⟨aP,aY⟩:=de.1 aX;let⟨O,aR,bl⟩:=b1.1 aY;simp only[co]at aP;let⟨aG,aI,aJ,aK,aQ⟩:=aP;have aG:=cy aG;have aI:=cy aI;have aJ:=fq aJ;have aK:=cy aK;have aQ:=cy aQ;subst aG;subst aI;have bU:=M2 bi;subst bU;have a0:=Y.open aD aL
   let⟨H,ar⟩:=l8 (A:=λH h=>bK U am.2.2.2 H/\E am.1 am.2.1 (ab ⟨aV,0,af⟩) am.2.2.1 bI H h) a0;have bw:bK U am.2.2.2 H:=by obtain⟨_,_,_,_,_,⟨bB,_⟩,_⟩:=ar.s;exact bB
   let⟨du,a9,bc⟩:=bw.take aR;have b3:=JT bc;subst b3;rw[<- aK,<- aQ]at ar;refine bZ _ D bI O (H.take (D*j.2)) b (fI U h b) (h.put b .no) ao p ad a9 Y.eU (ar.mono λ_ z=>d8 (λJ z=>E.less z.2 aJ) z) (λZ cC cF b0=>ST.drop Y.eU aD b0) bl
 |jk=>cases bn
 | _=>cases bm
end
end aV
namespace aV
variable{Ω:dO}
section
variable{P:bk}{t:eJ}{h br:cE}{v:aB}{d:Option Nat}{aO T ci S:bq}{pos:String}{aT:Array q1}{a7:Option (Nat×Bool)}{x y z:cJ}{o:cI}
def Iu{C}(j:uS C=ab T):C=[T]:=by
 match C,j with
 | [A],j=>cases j;rfl
def ahi{g F}{C:bb Ω}{Q}(av:ST g F C h Q){b o Y c aG j ae}(ai:C b=ab (Y,c))(aK:Kd h b o aG=ab ae)(U:bK C aG j)(h1:kE j=ag):∃D,(storeCells ⟨Y,o,af⟩ j).run P Q=.ok () D/\ST g F C ae D:=by
 let⟨bg,aP,ax,aQ,bh,az,aR⟩:=i0 aK;cases aR;have aE:=av.open ai aP
 rcases BQ aQ with ⟨a9,rfl⟩|⟨aL,ar,aF,rfl⟩
 .let⟨H,J⟩:=l8 aE;have O:bK C ax H:=by obtain⟨_,_,_,_,_,⟨a8,_⟩,_⟩:=J.s;omega
  have R:=J.mono λ_ z=>d8 (λ_ z=>z.2) z;let⟨a0,am⟩:=U.lay O az;have ap:=O.len;have aq:=U.len;rw[xe]at ap aq;obtain⟨D,Z,I⟩:=tz j o 0 H Q (BK h1) ad R;rw[vD]at I;exact⟨D,Z,ST.close av.eU ai (I.mono λ_ z=>d8 (λ_ z=>⟨_,am,z⟩) z)⟩
 .let⟨H,J⟩:=l8 aE;have O:bK C ax H:=by obtain⟨_,_,_,_,_,⟨a8,_⟩,_⟩:=J.s;omega
  have R:=J.mono λ_ z=>d8 (λ_ z=>z.2) z;let⟨a0,am⟩:=U.lay O az;have ap:=O.len;have aq:=U.len;rw[xe]at ap aq;let⟨aY,aZ,aJ,a3,a4,W,l⟩:=R.s;let⟨aI,aS,bc,aW⟩:=W.rX;have aD:=W.le;have aV:=W.cap;have be:=W.len;have aX:bj g (ah Y aL _::F::fI C h b) Q:=⟨R.g,aY,aZ,aJ,a3,a4,aS,l⟩;have aA:aF*ar<=c*ar:=Nat.mul_le_mul_right _ aD;obtain⟨D,Z,I⟩:=tz j o 0 _ Q (BK h1) ad aX;rw[vD]at I;refine⟨D,Z,ST.close av.eU ai (I.mono λaA s=>d8 (λaA q=>⟨_,am,?_⟩) s)⟩;have aM:(eS aI o j).take (aF*ar)=eS H o j:=by
   rw[lh _ o j ad,lh H o j ad,JL _ j o _ ad ad,aW]
  rw[<- aM];exact E.gP q (by rw[xQ];omega) aD aV
def aeh{n j}(h:kE j=ag):kE (gv n j).flatten=ag:=by
 have E:∀(a b:List _),kE a=ag->kE b=ag->kE (a++b)=ag:=λa b C H=>by
  induction a with
  |nil=>trivial
  |cons x a D=>
   simp[kE]at C;simp[List.cons_append,kE];simp_all
 induction n with
 |zero=>rfl
 |succ n D=>grind
def cW.YI{aQ}(aF:Nh [x] aQ P t h=ab (v,br)):cW Ω P t h ⟨d,.call ⟨.builtin .clear,#[x],aQ.toArray⟩,aO,pos,aT,a7⟩ v br:=λg F E a j s aP ax az aJ=>by
 have aX:(aq _ _)=ab _:=aF;let⟨C,h1,ae⟩:=b1.1 aX;let⟨c,an,aL,a9,z,bc,I⟩:=i0 ae;have:=Iu h1;subst this;let⟨bo,aV⟩:=sa a9;let⟨ai,bB,bw,bz,bv⟩:=aV.spec;let⟨Q,bE,bl,bn⟩:=vp bc;let⟨O,bh,am⟩:=dS s an;have aI:∀D,(nJ #[C] aO #[O]).run P j=.ok (.tuple #[]) D->(execOp a.eval ⟨d,.call ⟨.builtin .clear,#[x],#[C]⟩,aO,pos,aT,a7⟩).run P j=.ok (.value (.tuple #[])) D:=by
  intro D J;simp only[execOp,resolve,gY,fu,mX,(eZ a).eval bh];simp only[cM,e5,dG,invoke,builtin,J]
 have aR:bY E _ _:=.cB .nil;have aK:(nJ #[C] aO #[O]).run P j=.ok (.tuple #[]) j->v=.cB []->br=h->eg P ⟨d,.call ⟨.builtin .clear,#[x],#[C]⟩,aO,pos,aT,a7⟩ a j ax az:=λbe W Y=>by
  subst W Y;unfold eg;rw[aI _ be];exact aJ _ j E (bb.le.refl _) aR aP
 cases ah:s7 c with
 |true=>
  rw[ah,ea]at I;cases I;rw[C4 ah]at am;cases am;exact aK (by simp[nJ,run_underlying ai]) p p
 |false=>
  rw[ah,dP]at I;let⟨J,a0⟩:=de.1 I;let⟨q,a3,H⟩:=b1.1 a0;simp only[co]at J;let⟨aW,U,aA⟩:=J;have U:=fq U;have aA:=cy aA;have av:=(bl E).cells;have aS:aa (hp Q)=aL.2:=by rw[av.len];omega
  have bm:=e8 aW av;have bt:∀(R aE ar ap aD:Nat),E q.1=ab (R,aE)->q.2.1=ar->q.2.2=ap->O=.slice (ab ⟨R,ar,af⟩) ap aD->eg P ⟨d,.call ⟨.builtin .clear,#[x],#[C]⟩,aO,pos,aT,a7⟩ a j ax az:=λR aE ar ap aD aZ W Y aG=>by
   subst W Y;cases Z:aH q.2.2 0 with
   |true=>
    rw[Z,ea]at H;cases H;have:=cy Z;exact aK (by rw[aG,this];simp[nJ,run_underlying ai]) p p
   |false=>
    rw[Z,dP]at H;let⟨ae,a4,a8⟩:=b1.1 H;cases a8;let⟨bj,bi,aM⟩:=av.Av q.2.2;let⟨D,bp,aY⟩:=ahi (P:=P) aP aZ a4 bi (by rw[aM];exact aeh bm);have bA:(ft Q.cells q.2.2).toList=bj:=by
     have:ft Q.cells q.2.2=madeCells (hp Q).toArray (q.2.2*aL.2):=by
      rw[ua];simp[ft,madeCells,aS]
     rw[this,HZ aS U,aM,D8]
    have bx:q.2.2≠0:=λaF=>by simp_all
    have bg:(nJ #[C] aO #[O]).run P j=.ok (.tuple #[]) D:=by
     rw[aG];unfold nJ;simp[List.getElem?_cons_zero,cM,run_underlying ai];simp_all
    unfold eg;rw[aI _ bg];exact aJ _ D E (bb.le.refl _) aR aY
  cases am<;>first|cases a3|skip
  .simp_all
  simp_all
end
end aV
end
end Go.Proofs.YteinodmjohkmmaaGreat
