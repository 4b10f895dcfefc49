/- TopBudget: a part of its proof. -/
import Derived.ArgAppend
import Derived.Deep.Upon
import Derived.Test.YtioamnghkmcbbaaGreatMA3
set_option linter.all false
set_option maxRecDepth 100000
set_option maxHeartbeats 4000000
open Array renaming getElem?_eq_none->oR
open BitVec renaming ofInt->qi
open Bool renaming and_eq_true->bL
open Go.Addr renaming add_lit->je
open Go.BinOp renaming rec->x1
open Go.Builtin renaming append_->kV,clear_->kW,firstCells->rv,lenOf->rx,rec->G1,zeroCells->eI
open Go.ByteArray renaming toList_eq->G2
open Go.Code renaming rec->BB
open Go.Instr renaming sliceAt->vr,sliceBounds->mX
open Go.IntKind renaming rec->BF,wrap->BG
open Go.Op renaming equal->dD,equalIn->j2,intBits->x5,intCmp->j3,intDiv->Hf,maxDepth->ly,rec->vs,shift->Hh
open Go.Oper renaming wp->dv
open Go.Result renaming andThen_ok->db
open Go.Sem renaming run_bind->cg,run_pure->eJ
open Go.Value.slice renaming injEq->tg
open Int renaming add->BK,rec->qk,sub->Hs,sub_eq_add_neg->Ht
open List renaming eq_nil_of_length_eq_zero->e3,getElem?_cons_succ->x9,getElem?_drop->tn,map_append->gM,map_congr_left->rz,map_cons->eS,map_id->HQ,map_nil->lC,map_toArray->fY,mem_range->lD,perm_cons_erase->lF,range->hZ,rec->ch,replicate->gP
open List.cons renaming injEq->BL
open Nat renaming add->oX,add_zero->rC,beq->aA,ble->cN,ble_eq_true_of_le->BX,blt->dT,div->yc,eq_of_beq_eq_true->bV,eq_zero_or_pos->g9,land->H4,le_of_ble_eq_true->eT,le_refl->bv,lor->gQ,lt_irrefl->dc,lt_or_ge->eC,mod->H6,mod_two_eq_zero_or_one->yd,mul->ts,pred->jF,rec->iy,sub->n0,zero_add->iQ,zero_le->bu
open Option renaming bind_some->If,getD_none->tt,getD_some->n1,isNone_iff_eq_none->Ig,rec->bF
open Option.some renaming inj->kw
open Go.RowKit
namespace Go.Proofs.YtioamnghkmcbbaaGreat
noncomputable section
namespace aX
section
inductive al where
 |i (G:IntKind) (n:Int)|b (D:Bool)|s (D:ByteArray)
 |ag (b o:Nat)|fJ
 |dm (b o n C:Nat)
 |cH (b o n l:Nat)
 |hl
 |eA
 |m (b:Nat)|cR
 |f (E:Fn) (l C:List al)|jt
 |y (I:TypeId) (v:al)|jv
 |bm (l:List al)|b1 (l:List al)
 |bb (j:Nat)|dK (b:Nat)|fL|h8|gj (j:Nat) (n:Int)|fq (b j:Nat)|xs (i j:Nat)
inductive cl where
 |ce (E:TypeId) (C:List al)
 |io (G:TypeId) (J n:Nat) (C:List al)
 |oD (j:List (Int×(Int×Int×Int)))
 |pS (j:List ((Int×Int×Int)×Bool))
 |rb (b:Nat) (j:List (Int×(Int×Int×Int))) (D:Option (Int×(Int×Int×Int))) (q:Option (Int×(Int×Int×Int)))
 |q9 (b:Nat) (j:List ((Int×Int×Int)×Bool)) (D:Option ((Int×Int×Int)×Bool)) (q:Option ((Int×Int×Int)×Bool))
 |no
 |b3 (I:Nat)
inductive c4 (j:Type)where
 |i3
 |eQ (l:c4 j) (v:Option j) (C:c4 j)
section
variable{α rs abk:Type}
def U(C:Option α)(j:α->Option rs):Option rs:=bF none j C
def Z(j:Bool)(C y:α):α:=Bool.rec y C j
def bK(j:Bool)(C:Option α):Option α:=Z j C none
def c4.get(E:c4 α):Nat->Option α:=c4.rec (λ_=>none) (λ_ v _ C D j=>Z (aA j (nat_lit 0)) v (Z (aA (H6 j (nat_lit 2)) (nat_lit 1)) (C (yc j (nat_lit 2))) (D (jF (yc j (nat_lit 2)))))) E
def c4.parts(D:c4 α)(j:c4 α->Option α->c4 α->rs):rs:=c4.rec (j .i3 none .i3) (λl v C _ _=>j l v C) D
def c4.set(n:Nat):c4 α->Nat->Option α->c4 α:=iy (λD _ _=>D)
 (λ_ G D j E=>D.parts λl v C=>Z (aA j (nat_lit 0)) (.eQ l E C) (Z (aA (H6 j (nat_lit 2)) (nat_lit 1)) (.eQ (G l (yc j (nat_lit 2)) E) v C) (.eQ l v (G C (jF (yc j (nat_lit 2))) E)))) n
def h6(C:α->Option rs)(l:List α):Option (List rs):=ch (some []) (λD _ j=>U (C D) λy=>U j λj=>some (y::j)) l
def gA(C:α->α->Bool)(l:List α):List α->Bool:=ch (λj=>ch true (λ_ _ _=>false) j) (λE _ D j=>ch false (λy j _=>Z (C E y) (D j) false) j) l
end
def qH{C:Type}(l:List C):Bool->List C:=ch (λ_=>[]) (λD _ j b=>Z b (D::j false) (j true)) l
def fA{D}(n:Nat):List D->c4 D:=iy (λ_=> .i3) (λ_ j l=>ch .i3 (λE C _=> .eQ (j (qH C true)) (some E) (j (qH C false))) l) n
def lg(j:Program):c4 Func:=fA (nat_lit 12) j.funcs.toList
def aab(j:Program):c4 TypeInfo:=fA (nat_lit 12) j.types.toList
def RT(j:TypeDesc):Option TypeId:=match j with| .named _ C=>some C| _=>none
def kj(j:Program)(C:TypeId):Option TypeInfo:=(aab j).get C
def kt(j:Program)(D:TypeId):Option TypeDesc:=U (kj j D) λC=>bF (some C.desc) (λG=>U (kj j G) λE=>some E.desc) (RT C.desc)
structure bQ where
 t:c4 cl
 n:Nat
def bQ.get(h:bQ)(j:Nat):Option cl:=h.t.get j
def bQ.put(h:bQ)(j:Nat)(o:cl):bQ:=⟨h.t.set (Nat.succ j) j (some o),h.n⟩
def bQ.new(h:bQ)(o:cl):bQ:=⟨h.t.set (Nat.succ h.n) h.n (some o),Nat.succ h.n⟩
def iX(v:al):Option (Nat×Nat):=by
 apply al.rec (t:=v) (motive_1:=λ_=> _) (motive_2:=λ_=>PUnit)
 case ag=>exact λb o=>some (b,o)
 all_goals (intros;first|exact none|exact PUnit.unit)
def kD(v:al):Option Bool:=by
 apply al.rec (t:=v) (motive_1:=λ_=> _) (motive_2:=λ_=>PUnit)
 case b=>exact λj=>some j
 all_goals (intros;first|exact none|exact PUnit.unit)
def hK(v:al):Option (IntKind×Int):=by
 apply al.rec (t:=v) (motive_1:=λ_=> _) (motive_2:=λ_=>PUnit)
 case i=>exact λj n=>some (j,n)
 all_goals (intros;first|exact none|exact PUnit.unit)
def MI(n:Int):Option Nat:= @qk (λ_=>Option Nat) some (λ_=>none) n
def tX(v:al):Option Nat:=by
 apply al.rec (t:=v) (motive_1:=λ_=> _) (motive_2:=λ_=>PUnit)
 case i=>exact λj n=>MI n
 all_goals (intros;first|exact none|exact PUnit.unit)
def qy(v:al):Option ByteArray:=by
 apply al.rec (t:=v) (motive_1:=λ_=> _) (motive_2:=λ_=>PUnit)
 case s=>exact λj=>some j
 all_goals (intros;first|exact none|exact PUnit.unit)
def qx(v:al):Option Nat:=by
 apply al.rec (t:=v) (motive_1:=λ_=> _) (motive_2:=λ_=>PUnit)
 case m=>exact λb=>some b
 all_goals (intros;first|exact none|exact PUnit.unit)
def n9(v:al):Option (List al):=by
 apply al.rec (t:=v) (motive_1:=λ_=> _) (motive_2:=λ_=>PUnit)
 case bm=>exact λl _=>some l
 all_goals (intros;first|exact none|exact PUnit.unit)
def tZ(v:al):Option (List al):=by
 apply al.rec (t:=v) (motive_1:=λ_=> _) (motive_2:=λ_=>PUnit)
 case b1=>exact λl _=>some l
 all_goals (intros;first|exact none|exact PUnit.unit)
def pk(v:al):Option (Fn×List al×List al):=by
 apply al.rec (t:=v) (motive_1:=λ_=> _) (motive_2:=λ_=>PUnit)
 case f=>exact λg l j _ _=>some (g,l,j)
 all_goals (intros;first|exact none|exact PUnit.unit)
def v7(v:al):Option (TypeId×al):=by
 apply al.rec (t:=v) (motive_1:=λ_=> _) (motive_2:=λ_=>PUnit)
 case y=>exact λj v _=>some (j,v)
 all_goals (intros;first|exact none|exact PUnit.unit)
def IX(v:al):List al:=by
 apply al.rec (t:=v) (motive_1:=λ_=> _) (motive_2:=λ_=>PUnit)
 case bm=>exact λl _=>l
 all_goals (intros;first|exact[]|exact PUnit.unit)
def IW(v:al):Bool:=by
 apply al.rec (t:=v) (motive_1:=λ_=> _) (motive_2:=λ_=>PUnit)
 case bm=>exact λl _=>true
 all_goals (intros;first|exact false|exact PUnit.unit)
def hM(v:al):List al:=Z (IW v) (IX v) [v]
def pN(v:al):Option Nat:=by
 apply al.rec (t:=v) (motive_1:=λ_=> _) (motive_2:=λ_=>PUnit)
 case dm=>exact λb o n j=>some n
 case cH=>exact λb o n l=>some n
 case hl=>exact some (nat_lit 0)
 case eA=>exact some (nat_lit 0)
 all_goals (intros;first|exact none|exact PUnit.unit)
def t5(v:al):Option (Nat×Nat×Nat):=by
 apply al.rec (t:=v) (motive_1:=λ_=> _) (motive_2:=λ_=>PUnit)
 case dm=>exact λb o n j=>some (b,o,n)
 case cH=>exact λb o n l=>some (b,o,n)
 all_goals (intros;first|exact none|exact PUnit.unit)
def yW(v:al):Option (Nat×Nat×Nat×Nat):=by
 apply al.rec (t:=v) (motive_1:=λ_=> _) (motive_2:=λ_=>PUnit)
 case dm=>exact λb o n j=>some (b,o,n,j)
 all_goals (intros;first|exact none|exact PUnit.unit)
def CK(v:al):Option (Nat×Nat×Nat×Nat):=by
 apply al.rec (t:=v) (motive_1:=λ_=> _) (motive_2:=λ_=>PUnit)
 case cH=>exact λb o n l=>some (b,o,n,l)
 all_goals (intros;first|exact none|exact PUnit.unit)
def j9(v:al):Option Nat:=by
 apply al.rec (t:=v) (motive_1:=λ_=> _) (motive_2:=λ_=>PUnit)
 case bb=>exact λj=>some j
 all_goals (intros;first|exact none|exact PUnit.unit)
def pn(v:al):Option Nat:=by
 apply al.rec (t:=v) (motive_1:=λ_=> _) (motive_2:=λ_=>PUnit)
 case dK=>exact λb=>some b
 all_goals (intros;first|exact none|exact PUnit.unit)
def lc(v:al):Option (Nat×Nat):=by
 apply al.rec (t:=v) (motive_1:=λ_=> _) (motive_2:=λ_=>PUnit)
 case fq=>exact λb j=>some (b,j)
 all_goals (intros;first|exact none|exact PUnit.unit)
def rW(v:al):Option (Nat×Nat):=by
 apply al.rec (t:=v) (motive_1:=λ_=> _) (motive_2:=λ_=>PUnit)
 case xs=>exact λj C=>some (j,C)
 all_goals (intros;first|exact none|exact PUnit.unit)
def LO(v:al):Bool:=by
 apply al.rec (t:=v) (motive_1:=λ_=> _) (motive_2:=λ_=>PUnit)
 case h8=>exact true
 all_goals (intros;first|exact false|exact PUnit.unit)
def PF(v:al):Bool:=by
 apply al.rec (t:=v) (motive_1:=λ_=> _) (motive_2:=λ_=>PUnit)
 case dK=>exact λb=>true
 case h8=>exact true
 case fq=>exact λb j=>true
 all_goals (intros;first|exact false|exact PUnit.unit)
def LN(v:al):Bool:=by
 apply al.rec (t:=v) (motive_1:=λ_=> _) (motive_2:=λ_=>PUnit)
 case fL=>exact true
 all_goals (intros;first|exact false|exact PUnit.unit)
def Bi(v:al):Bool:=by
 apply al.rec (t:=v) (motive_1:=λ_=> _) (motive_2:=λ_=>PUnit)
 case bb=>exact λj=>true
 case fL=>exact true
 case gj=>exact λj n=>true
 case xs=>exact λC j=>true
 all_goals (intros;first|exact false|exact PUnit.unit)
def Jd(v:al):Option (Nat×Int):=by
 apply al.rec (t:=v) (motive_1:=λ_=> _) (motive_2:=λ_=>PUnit)
 case bb=>exact λj=>some (j,.ofNat (nat_lit 0))
 case gj=>exact λj n=>some (j,n)
 all_goals (intros;first|exact none|exact PUnit.unit)
def t0(v:al):Option (Nat×Int):=by
 apply al.rec (t:=v) (motive_1:=λ_=> _) (motive_2:=λ_=>PUnit)
 case gj=>exact λj n=>some (j,n)
 all_goals (intros;first|exact none|exact PUnit.unit)
def v1(v:cl):Option Nat:=by
 apply cl.rec (t:=v) (motive:=λ_=> _)
 case b3=>exact λj=>some j
 all_goals (intros;first|exact none)
def qR(v:al):Bool:=by
 apply al.rec (t:=v) (motive_1:=λ_=> _) (motive_2:=λ_=>PUnit)
 case eA=>exact true
 all_goals (intros;first|exact false|exact PUnit.unit)
def aa4(v:al):Bool:=by
 apply al.rec (t:=v) (motive_1:=λ_=> _) (motive_2:=λ_=>PUnit)
 case hl=>exact true
 all_goals (intros;first|exact false|exact PUnit.unit)
def sp(v:al):Bool:=by
 apply al.rec (t:=v) (motive_1:=λ_=> _) (motive_2:=λ_=>PUnit)
 case fJ=>exact true
 all_goals (intros;first|exact false|exact PUnit.unit)
def LL(v:al):Bool:=by
 apply al.rec (t:=v) (motive_1:=λ_=> _) (motive_2:=λ_=>PUnit)
 case cR=>exact true
 all_goals (intros;first|exact false|exact PUnit.unit)
def uF(v:al):Bool:=by
 apply al.rec (t:=v) (motive_1:=λ_=> _) (motive_2:=λ_=>PUnit)
 case jt=>exact true
 all_goals (intros;first|exact false|exact PUnit.unit)
def uH(v:al):Bool:=by
 apply al.rec (t:=v) (motive_1:=λ_=> _) (motive_2:=λ_=>PUnit)
 case jv=>exact true
 all_goals (intros;first|exact false|exact PUnit.unit)
def vZ(v:cl):Option (List al):=by
 apply cl.rec (t:=v) (motive:=λ_=> _)
 case ce=>exact λC j=>some j
 case io=>exact λD s n j=>some j
 all_goals (intros;first|exact none)
def DX(v:IntKind):Nat:= @BF (λ_=>Nat) (nat_lit 0) (nat_lit 1) (nat_lit 2) (nat_lit 3) (nat_lit 4) (nat_lit 5) (nat_lit 6) (nat_lit 7) v
abbrev k5:=Int×Int×Int
def tW(v:cl):Option (List (Int×k5)):=by
 apply cl.rec (t:=v) (motive:=λ_=> _)
 case oD=>exact λj=>some j
 all_goals (intros;first|exact none)
def v2(v:cl):Option (List (k5×Bool)):=by
 apply cl.rec (t:=v) (motive:=λ_=> _)
 case pS=>exact λj=>some j
 all_goals (intros;first|exact none)
def v5(v:cl):Option (Nat×List (Int×k5)×Option (Int×k5)×Option (Int×k5)):=by
 apply cl.rec (t:=v) (motive:=λ_=> _)
 case rb=>exact λb j C q=>some (b,j,C,q)
 all_goals (intros;first|exact none)
def v3(v:cl):Option (Nat×List (k5×Bool)×Option (k5×Bool)×Option (k5×Bool)):=by
 apply cl.rec (t:=v) (motive:=λ_=> _)
 case q9=>exact λb j C q=>some (b,j,C,q)
 all_goals (intros;first|exact none)
def qP(n:Int):al:=.i .i64 n
def ol(j:k5):al:=.bm [qP j.1,qP j.2.1,qP j.2.2]
def tU(v:al):Option Int:=U (hK v) λq=>bK (aA (DX q.1) (nat_lit 3)) (some q.2)
def vX(v:al):Option k5:=U (n9 v) λl=>ch none (λj l _=>ch none (λb l _=>ch none (λC l _=>ch (U (tU j) λj=>U (tU b) λb=>U (tU C) λC=>some (j,b,C)) (λ_ _ _=>none) l) l) l) l
def rV(v:cl):Option (TypeId×List al):=by
 apply cl.rec (t:=v) (motive:=λ_=> _)
 case ce=>exact λj C=>some (j,C)
 all_goals (intros;first|exact none)
def D4(v:al):Bool:=by
 apply al.rec (t:=v) (motive_1:=λ_=> _) (motive_2:=λ_=>PUnit)
 case bm=>exact λl _=>true
 case b1=>exact λl _=>true
 all_goals (intros;first|exact false|exact PUnit.unit)
def sg(l:List al):Bool:=ch true (λC _ j=>Z (D4 C) false j) l
def yV(v:cl):Option (TypeId×Nat×Nat×List al):=by
 apply cl.rec (t:=v) (motive:=λ_=> _)
 case io=>exact λC s n j=>some (C,s,n,j)
 all_goals (intros;first|exact none)
def eR(v:cl):List al->cl:=by
 apply cl.rec (t:=v) (motive:=λ_=> _)
 case ce=>exact λC j=>λj=> .ce C j
 case io=>exact λD s n j=>λj=> .io D s n j
 all_goals (intros;first|exact .no)
def E8:Value->(Value->Option al)->Option al
 | .bool D=>λ_=>some (.b D)
 | .int E n=>λ_=>some (.i E n)
 | .string D=>λ_=>some (.s D)
 | .pointer none=>λ_=>some .fJ
 | .slice none 0 0=>λ_=>some .eA
 | .map none=>λ_=>some .cR
 | .nilFunc=>λ_=>some .jt
 | .nilIface=>λ_=>some .jv
 | .agg ⟨l⟩=>λj=>U (h6 j l) λC=>some (.bm C)
 | .tuple ⟨l⟩=>λj=>U (h6 j l) λC=>some (.b1 C)
 | _=>λ_=>none
def xd(j:Nat):Value->Option al:=iy (λ_=>none) (λ_ C v=>E8 v C) j
def rm(l:List al):Nat->Option (List al):=ch (λn=>Z (aA n (nat_lit 0)) (some []) none) (λv _ j n=>Z (aA n (nat_lit 0)) (some []) (U (j (jF n)) λC=>some (v::C))) l
def Dm(l:List al):Nat->List al:=ch (λ_=>[]) (λv l j n=>Z (aA n (nat_lit 0)) (v::l) (j (jF n))) l
def pA(l:List al):Nat->Option al:=ch (λ_=>none) (λv _ j n=>Z (aA n (nat_lit 0)) (some v) (j (jF n))) l
def uL(E:List al):List al->Option (List al):=ch (λl=>some l) (λD _ j l=>ch none (λ_ l _=>U (j l) λC=>some (D::C)) l) E
def wS(l:List al):Nat->List al->Option (List al):=ch (λn j=>Z (aA n (nat_lit 0)) (uL j []) none) (λv l C n j=>Z (aA n (nat_lit 0)) (uL j (v::l)) (U (C (jF n) j) λD=>some (v::D))) l
def jr(l:List al):Nat:=ch 0 (λ_ _ n=>n+1) l
def fB(C:List al)(n:Nat):List al:=iy [] (λ_ j=>C++j) n
def O7:TypeDesc->Nat->Option (Bool×Nat)
 | .struct _=>λn=>some (true,n)
 | .array _ _=>λn=>some (true,n)
 | _=>λn=>Z (aA n 1) (some (false,1)) none
def oL(j:Program)(C:TypeId):Option (Bool×Nat):=U (kt j C) λD=>U (kj j C) λE=>O7 D E.size
def qh(j:Program)(C:TypeId):Option al:=U (kj j C) λD=>U D.zero λv=>xd (nat_lit 9) v
def Jc:TypeDesc->Option (Array Field)| .struct j=>some j| _=>none
def RQ:TypeDesc->Option (Nat×TypeId)| .array n j=>some (n,j)| _=>none
def Jb:TypeDesc->Option TypeId| .slice j=>some j| _=>none
def RS:TypeDesc->Option (TypeId×TypeId)| .map C j=>some (C,j)| _=>none
def RR:TypeDesc->Option IntKind| .int j=>some j| _=>none
def UZ:TypeDesc->Bool| .string=>true| _=>false
def UV:TypeDesc->Bool| .interface _=>true| _=>false
def DG(j:Program)(D:TypeId)(G:Nat):Option (Nat×Bool×Nat):=U (kt j D) λE=>U (Jc E) λI=>U I[G]? λC=>U (oL j C.type) λs=>some (C.offset,s.1,s.2)
def DH(j:Program)(D:TypeId):Option (List (Nat×Nat)):=U (kt j D) λE=>U (Jc E) λG=>h6 (λ(C:Field)=>U (kj j C.type) λI=>some (C.offset,I.size)) G.toList
def Eo{j:Type}(l:List j):Nat->Option j:=ch (λ_=>none) (λD _ C n=>Z (aA n 0) (some D) (C (jF n))) l
def kp(j:Program)(D:TypeId):Option (TypeId×Nat):=U (kt j D) λE=>U (Jb E) λC=>U (kj j C) λG=>some (C,G.size)
def tT(C:Program)(D:TypeId):Option (Nat×TypeId×Nat):=U (kt C D) λE=>U (RQ E) λj=>U (kj C j.2) λG=>some (j.1,j.2,G.size)
def EN(j:Program)(C:TypeId):Option (TypeId×TypeId):=U (kt j C) RS
def mC(j:Program)(C:TypeId):Option IntKind:=U (kt j C) RR
def xN(j:Program)(C:TypeId):Bool:=bF false UZ (kt j C)
def LC(j:Program)(C:TypeId):Bool:=bF true UV (kt j C)
abbrev dH:=c4 al
def cX(v:Operand):dH->Option al:= @Operand.rec (λ_=>dH->Option al) (λC=>λD=>D.get C) (λv=>λ_=>xd (nat_lit 9) v) (λ_=>λ_=>none) (λj=>λ_=>some (.f (.func j) [] [])) v
def abd(j:dH)(C:Operand):Option al:=cX C j
def xi(j:dH)(l:List Operand):Option (List al):=h6 (λC=>cX C j) l
def parts(C:dH)(l:List (Nat×Operand)):Option (List (Nat×al)):=h6 (λj=>U (cX j.2 C) λv=>some (j.1,v)) l
def l3(h:bQ)(b o n:Nat):Option (List al):=U (h.get b) λC=>U (vZ C) λj=>rm (Dm j o) n
def GP(h:bQ)(b o:Nat)(E:List al):Option bQ:=U (h.get b) λj=>U (vZ j) λC=>U (wS C o E) λD=>some (h.put b (eR j D))
def gb(j b:IntKind):Bool:=aA (DX j) (DX b)
def dI(C:Int):Int->Bool:= @qk (λ_=>Int->Bool) (λn y=> @qk (λ_=>Bool) (λj=>aA n j) (λ_=>false) y) (λn y=> @qk (λ_=>Bool) (λ_=>false) (λj=>aA n j) y) C
def pH(C:Int):Int->Bool:= @qk (λ_=>Int->Bool) (λn y=> @qk (λ_=>Bool) (λj=>dT n j) (λ_=>false) y) (λn y=> @qk (λ_=>Bool) (λ_=>true) (λj=>dT j n) y) C
def LF(v:IntKind):Bool:= @BF (λ_=>Bool) (true) (true) (true) (true) (false) (false) (false) (false) v
def pG(v:IntKind):Nat:= @BF (λ_=>Nat) (nat_lit 128) (nat_lit 32768) (nat_lit 2147483648) (nat_lit 9223372036854775808) (nat_lit 256) (nat_lit 65536) (nat_lit 4294967296) (nat_lit 18446744073709551616) v
def rp(j:IntKind)(n:Int):Int:=Z (@qk (λ_=>Bool) (λC=>dT C (pG j)) (λC=>Z (LF j) (dT C (pG j)) false) n) n (j.wrap n)
abbrev B5:=al->al->Bool
def rY(j y:Bool):Bool:=Z j y (Z y false true)
def ln(j:Nat×Nat)(y:Nat×Nat):Bool:=Z (aA j.1 y.1) (aA j.2 y.2) false
def xk(j y:Nat×Nat×Nat×Nat):Bool:=Z (aA j.1 y.1) (Z (aA j.2.1 y.2.1) (ln j.2.2 y.2.2) false) false
def cP{j:Type}(D:Option j)(C:j->Bool):Bool:=bF false C D
def ww(v:al):al->B5->Bool:=by
 apply al.rec (t:=v) (motive_1:=λ_=> _) (motive_2:=λ_=>PUnit)
 case i=>exact λG n=>λy _=>cP (hK y) λq=>Z (gb G q.1) (dI n q.2) false
 case b=>exact λE=>λy _=>cP (kD y) λq=>rY E q
 case s=>exact λE=>λy _=>cP (qy y) λq=>decide (E=q)
 case ag=>exact λb o=>λy _=>cP (iX y) λq=>ln (b,o) q
 case fJ=>exact λy _=>sp y
 case dm=>exact λb o n D=>λy _=>cP (yW y) λq=>xk (b,o,n,D) q
 case cH=>exact λb o n l=>λy _=>cP (CK y) λq=>xk (b,o,n,l) q
 case eA=>exact λy _=>qR y
 case m=>exact λb=>λy _=>cP (qx y) λq=>aA b q
 case cR=>exact λy _=>LL y
 case f=>exact λg l D _ _=>λy j=>cP (pk y) λq=>decide (g=q.1)&&(gA j l q.2.1&&gA j D q.2.2)
 case jt=>exact λy _=>uF y
 case y=>exact λI v _=>λy j=>cP (v7 y) λq=>Z (aA I q.1) (j v q.2) false
 case jv=>exact λy _=>uH y
 case bm=>exact λl _=>λy j=>cP (n9 y) λq=>gA j l q
 case b1=>exact λl _=>λy j=>cP (tZ y) λq=>gA j l q
 case bb=>exact λC=>λy _=>cP (j9 y) λq=>aA C q
 case dK=>exact λb=>λy _=>cP (pn y) λq=>aA b q
 case gj=>exact λC n=>λy _=>cP (t0 y) λq=>Z (aA C q.1) (dI n q.2) false
 case fq=>exact λb C=>λy _=>bF (cP (pn y) λq=>aA b q) (λq=>ln (b,C) q) (lc y)
 case xs=>exact λi C=>λy _=>cP (rW y) λq=>ln (i,C) q
 all_goals (intros;first|exact false|exact PUnit.unit)
def gF(j:Nat):B5:=iy (λ_ _=>false) (λ_ C D y=>ww D y C) j
def PE(j:TypeDesc):Nat:=match j with
 | .pointer _=>nat_lit 1
 | .bool=>nat_lit 2
 | .slice _=>nat_lit 4
 | .func .. =>nat_lit 5
 | .interface _=>nat_lit 6
 | .struct _=>nat_lit 7
 | .array _ _=>nat_lit 7
 | _=>nat_lit 0
def nS(j:Program)(C:TypeId):Nat:=bF (nat_lit 0) PE (kt j C)
def OL(v:al):al->Option o1:=by
 apply al.rec (t:=v) (motive_1:=λ_=> _) (motive_2:=λ_=>PUnit)
 case i=>exact λj n=>λy=>U (hK y) λq=>bK (Z (gb j .i64) (Z (gb q.1 .i64) (dI n q.2) false) false) (some .i)
 case b=>exact λC=>λy=>U (kD y) λq=>bK (rY C q) (some .b)
 case ag=>exact λb o=>λy=>U (iX y) λq=>bK (ln (b,o) q) (some .ag)
 case fJ=>exact λy=>bK (sp y) (some .ag)
 all_goals (intros;first|exact none|exact PUnit.unit)
def PU(l:List al):List al->Option (List o1):=ch (λj=>ch (some []) (λ_ _ _=>none) j) (λG _ E j=>ch none (λy j _=>U (OL G y) λC=>U (E j) λD=>some (C::D)) j) l
def US(j:Operand):Bool:=match j with| .const _=>true| _=>false
def UX(v:al):Bool:=by
 apply al.rec (t:=v) (motive_1:=λ_=> _) (motive_2:=λ_=>PUnit)
 case ag=>exact λb o=>true
 case fJ=>exact true
 all_goals (intros;first|exact false|exact PUnit.unit)
def UY(v:al):Bool:=by
 apply al.rec (t:=v) (motive_1:=λ_=> _) (motive_2:=λ_=>PUnit)
 case dm=>exact λb o n j=>true
 case cH=>exact λb o n l=>true
 case hl=>exact true
 case eA=>exact true
 all_goals (intros;first|exact false|exact PUnit.unit)
def UT(v:al):Bool:=by
 apply al.rec (t:=v) (motive_1:=λ_=> _) (motive_2:=λ_=>PUnit)
 case f=>exact λg l j _ _=>true
 case jt=>exact true
 all_goals (intros;first|exact false|exact PUnit.unit)
def UU(v:al):Bool:=by
 apply al.rec (t:=v) (motive_1:=λ_=> _) (motive_2:=λ_=>PUnit)
 case y=>exact λj v _=>true
 case jv=>exact true
 all_goals (intros;first|exact false|exact PUnit.unit)
def zd(E:Program)(G:TypeId)(C:Nat)(y:Operand)(j b:al):Option Bool:=
 Z (aA C (nat_lit 1)) (bK (Z (UX j) (sp b) false) (some (sp j)))
 (Z (aA C (nat_lit 2)) (U (kD j) λK=>U (kD b) λD=>some (rY K D))
 (Z (aA C (nat_lit 4)) (bK (Z (UY j) (qR b) false) (some (qR j)))
 (Z (aA C (nat_lit 5)) (bK (Z (UT j) (uF b) false) (some (uF j)))
 (Z (aA C (nat_lit 6)) (bK (Z (UU j) (Z (uH b) (US y) false) false) (some (uH j)))
 (Z (aA C (nat_lit 7)) (U (n9 j) λl=>U (n9 b) λJ=>U (PU l J) λI=>bK (AW E G I) (some true))
  (U (qy j) λs=>U (qy b) λD=>bK (aA C (nat_lit 0)) (some (decide (s=D)))))))))
abbrev ay:=Option (al×bQ)
def gg(b:Bool):Bool:=Z b false true
def CT(v:BinOp):IntKind->Int->Int->Option al:= @x1 (λ_=>IntKind->Int->Int->Option al) (λj C y=>some (.i j (rp j (BK C y)))) (λj C y=>some (.i j (rp j (Hs C y)))) (λj C y=>some (.i j (rp j (Int.mul C y)))) (λj C y=>Z (dI y (.ofNat (nat_lit 0))) none (some (.i j (rp j (C.tdiv y))))) (λj C y=>Z (dI y (.ofNat (nat_lit 0))) none (some (.i j (C.tmod y)))) (λj C y=>some (.i j (j.wrap ((qi j.bits C&&&qi j.bits y).toNat)))) (λj C y=>some (.i j (j.wrap ((qi j.bits C|||qi j.bits y).toNat)))) (λj C y=>some (.i j (j.wrap ((qi j.bits C ^^^ qi j.bits y).toNat)))) (λj C y=>Z (pH y (.ofNat (nat_lit 0))) none (some (.i j (rp j (C*2 ^ (min y.toNat j.bits)))))) (λj C y=>Z (pH y (.ofNat (nat_lit 0))) none (some (.i j (C.fdiv (2 ^ (min y.toNat j.bits)))))) (λj C y=>some (.i j (j.wrap ((qi j.bits C&&& ~~~(qi j.bits y)).toNat)))) (λ_ C y=>some (.b (dI C y))) (λ_ C y=>some (.b (gg (dI C y)))) (λ_ C y=>some (.b (pH C y))) (λ_ C y=>some (.b (gg (pH y C)))) (λ_ C y=>some (.b (pH y C))) (λ_ C y=>some (.b (gg (pH C y)))) v
def Gm(v:BinOp):Bool:= @x1 (λ_=>Bool) (false) (false) (false) (false) (false) (false) (false) (false) (true) (true) (false) (false) (false) (false) (false) (false) (false) v
def Jr(v:BinOp):Option Bool->Option al:= @x1 (λ_=>Option Bool->Option al) (λ_=>none) (λ_=>none) (λ_=>none) (λ_=>none) (λ_=>none) (λ_=>none) (λ_=>none) (λ_=>none) (λ_=>none) (λ_=>none) (λ_=>none) (λj=>U j λb=>some (.b b)) (λj=>U j λb=>some (.b (gg b))) (λ_=>none) (λ_=>none) (λ_=>none) (λ_=>none) v
def AB(v:al):Bool:=Z (Bi v) true (bF false (λq=>gb q.1 .i64) (hK v))
def Bj(C:Nat->Int->Int->Option al)(D y:al):Option al:=U (Jd D) λj=>U (hK y) λq=>bK (gb q.1 .i64) (C j.1 j.2 q.2)
def Ps(D y:al):Option (Nat×Nat):=U (j9 D) λj=>U (j9 y) λC=>some (j,C)
def Pk(v:BinOp):al->al->Option al:= @x1 (λ_=>al->al->Option al) (Bj λj n E=>some (.gj j (BK n E))) (λC y=>bF (Bj (λj n E=>some (.gj j (Hs n E))) C y) (λq=>some (.xs q.1 q.2)) (Ps C y)) (λ_ _=>none) (λ_ _=>none) (λ_ _=>none) (λ_ _=>none) (λ_ _=>none) (λ_ _=>none) (λ_ _=>none) (λ_ _=>none) (λ_ _=>none) (λC y=>U (j9 C) λj=>U (j9 y) λD=>bK (aA j D) (some (.b true))) (λC y=>U (j9 C) λj=>U (j9 y) λD=>bK (aA j D) (some (.b false))) (λ_ _=>none) (λ_ _=>none) (λ_ _=>none) (λ_ _=>none) v
def CU(E:Program)(G:TypeId)(j:BinOp)(o:Operand)(C y:al):Option al:=Z (Z (Bi C) true (Bi y)) (Pk j C y)
 (bF (Jr j (zd E G (nS E G) o C y)) (λD=>bF none (λb=>Z (Z (Gm j) true (gb D.1 b.1)) (CT j D.1 D.2 b.2) none) (hK y)) (hK C))
end
end aX
namespace aX
section
def nz{j:Type}(l:List j):Bool:=ch true (λ_ _ _=>false) l
def oc(j:dH)(o:Option Operand):Option (Option Nat):=bF (some none) (λC=>U (cX C j) λv=>U (tX v) λn=>some (some n)) o
def O9(v:al):Nat->Nat->Option Nat->Option Nat->Option al:=by
 apply al.rec (t:=v) (motive_1:=λ_=> _) (motive_2:=λ_=>PUnit)
 case dm=>exact λb o n E=>λI j C D=>bK (cN j (C.getD n)&&(cN (C.getD n) (D.getD E)&&cN (D.getD E) E)) (some (.dm b (Z (aA (D.getD E) j) o (oX o (ts j I))) (n0 (C.getD n) j) (n0 (D.getD E) j)))
 case cH=>exact λb o n l=>λI j C D=>bF (bK (cN j (C.getD n)&&cN (C.getD n) n) (Z (aA j 0) (some (.cH b o (C.getD n) l)) (Z (dT j n) (some (.cH b (oX o (ts j I)) (n0 (C.getD n) j) (oX l j))) (some .hl)))) (λG=>bK (cN j (C.getD n)&&(cN (C.getD n) G&&cN G n)) (some (.dm b (Z (aA G j) o (oX o (ts j I))) (n0 (C.getD n) j) (n0 G j)))) D
 case hl=>exact λ_ j C D=>bK (aA j 0&&(aA (C.getD 0) 0&&D.isNone)) (some .hl)
 case eA=>exact λ_ j C D=>bK (aA j 0&&(aA (C.getD 0) 0&&aA (D.getD 0) 0)) (some .eA)
 all_goals (intros;first|exact none|exact PUnit.unit)
def xA(h:bQ)(j:Nat)(q:Nat×Nat×Nat):Option (List al):=Z (aA q.2.2 0) (some []) (l3 h q.1 q.2.1 (q.2.2*j))
def sR(h:bQ)(j:Nat)(v:al):Option (List al):=bF (U (pN v) λ_=>some []) (xA h j) (t5 v)
def pU(h:bQ)(C:TypeId)(D n:Nat)(j:List al):ay:=some (.cH h.n 0 n 0,h.new (.io C D n j))
def I3(v:al):bQ->TypeId->Nat->Nat->List al->ay:=by
 apply al.rec (t:=v) (motive_1:=λ_=> _) (motive_2:=λ_=>PUnit)
 case dm=>exact λb o n E=>λh D j C I=>Z (aA C 0) (bK (cN n E) (some (.dm b o n E,h))) (Z (dT E (n+C)) (U (xA h j (b,o,n)) λG=>bK (sg G) (pU h D j (n+C) (G++I))) (U (h.get b) λJ=>U (rV J) λq=>bK (aA o 0&&(aA D q.1&&(aA (jr q.2) (E*j)&&(cN n E&&cN E 1000000)))) (U (rm q.2 (n*j)) λG=>pU (h.put b .no) D j (n+C) (G++I))))
 case cH=>exact λb o n l=>λh D j C I=>Z (aA C 0) (some (.cH b o n l,h)) (U (h.get b) λJ=>U (yV J) λq=>bK (aA o 0&&(aA l 0&&(cN n q.2.2.1&&(aA D q.1&&aA j q.2.1)))) (U (rm q.2.2.2 (n*j)) λG=>pU (h.put b .no) D j (n+C) (G++I)))
 case eA=>exact λh D j C I=>Z (aA C 0) (some (.eA,h)) (pU h D j C I)
 all_goals (intros;first|exact none|exact PUnit.unit)
def pE(j y:k5):Bool:=Z (dI j.1 y.1) (Z (dI j.2.1 y.2.1) (dI j.2.2 y.2.2) false) false
def qI{j D:Type}(E:j->j->Bool)(G:j)(l:List (j×D)):Option D:=ch none (λC _ I=>Z (E G C.1) (some C.2) I) l
def u4{j D:Type}(G:j->j->Bool)(C:j)(v:D)(l:List (j×D)):List (j×D):=ch [(C,v)] (λE l I=>Z (G C E.1) ((C,v)::l) (E::I)) l
def uW(j:Bool)(l:List al):Option al:=Z j (some (.bm l)) (ch none (λv l _=>ch (some v) (λ_ _ _=>none) l) l)
def uy(D:Nat->Option (Nat×Nat))(G:List (Nat×al)):List al->Option (List al):=
 ch (λC=>some C) (λj _ E C=>U (D j.1) λq=>bK (aA (jr (hM j.2)) q.2) (U (wS C q.1 (hM j.2)) E)) G
def Jz(l:List al):Option (List UInt8):=h6 (λv=>U (hK v) λq=>U (MI q.2) λn=>bK (Z (gb q.1 .u8) (dT n (nat_lit 256)) false) (some (UInt8.ofNat n))) l
def nL(h:bQ)(j:Option al):ay:=U j λv=>some (v,h)
abbrev fe:=Program->dH->bQ->ay
def AE(C:Operand):fe:=λ_ j h=>nL h (cX C j)
def Nd(D C b:Operand):fe:=λ_ j h=>U (cX D j) λv=>U (kD v) λE=>nL h (Z E (cX C j) (cX b j))
def MU(j:TypeId):fe:=λC _ h=>U (qh C j) λD=>some (.ag h.n 0,h.new (.ce j (hM D)))
def MW(j:TypeId)(D:Operand):fe:=λ_ C h=>U (cX D C) λv=>some (.ag h.n 0,h.new (.ce j (hM v)))
def MX(C:TypeId)(O:Array (Nat×Operand)):fe:=λj Q h=>U (parts Q O.toList) λG=>U (qh j C) λI=>
 bF (U (tT j C) λE=>U (uy (λK=>some (K*E.2.2,E.2.2)) G (hM I)) λD=>some (.bm D,h))
  (λJ=>U (uy (Eo J) G (hM I)) λD=>some (.bm D,h)) (DH j C)
def MY(G:TypeId)(n:Nat)(D:Array (Nat×Operand)):fe:=λC K h=>U (parts K D.toList) λO=>U (kp C G) λj=>U (qh C j.1) λE=>bK (Z (aA n 0) (nz D.toList) (aA (jr (hM E)) j.2&&(cN 1 j.2&&cN (n*j.2) 1000)))<|
 U (uy (λI=>some (I*j.2,j.2)) O (fB (hM E) n)) λJ=>some (.dm h.n 0 n n,h.new (.ce j.1 J))
def E2(C:TypeId)(E:Operand):fe:=λj D h=>U (cX E D) λv=>U (iX v) λq=>U (oL j C) λs=>U (l3 h q.1 q.2 s.2) λl=>nL h (uW s.1 l)
def Nh(E:TypeId)(I y:Operand):fe:=λD C h=>U (cX I C) λv=>U (iX v) λq=>U (cX y C) λj=>U (oL D E) λs=>bK (Z (rY s.1 (IW j)) (Z (aA (jr (hM j)) s.2) (sg (hM j)) false) false) (U (GP h q.1 q.2 (hM j)) λG=>some (.b1 [],G))
def UW(j:Fn):Bool:=match j with| .method _=>true| _=>false
def U0(v:al):Bool:=by
 apply al.rec (t:=v) (motive_1:=λ_=> _) (motive_2:=λ_=>PUnit)
 case ag=>exact λb o=>true
 case f=>exact λg l j _ _=>gg (UW g)
 case y=>exact λC v _=>true
 all_goals (intros;first|exact false|exact PUnit.unit)
def Nc(C:Operand):fe:=λ_ j h=>U (cX C j) λv=>bK (U0 v) (some (v,h))
def MV(G:BinOp)(D:TypeId)(I y:Operand):fe:=λC j h=>U (cX I j) λE=>U (cX y j) λb=>nL h (CU C D G y E b)
def aac:UnOp->al->Option al
 | .not=>λv=>U (kD v) λb=>some (.b (!b))
 | .neg=>λv=>U (hK v) λq=>some (.i q.1 (rp q.1 (0-q.2)))
 | _=>λ_=>none
def w8(j:UnOp)(D:Operand):fe:=λ_ C h=>U (cX D C) λv=>nL h (aac j v)
def E1(S D:TypeId)(O:Operand):fe:=λj K h=>U (cX O K) λv=>U (kt j S) λG=>bF
 (bK (xN j D) (bF (U (Jb G) λI=>U (mC j I) λC=>bK (gb C .u8) (U (sR h (nat_lit 1) v) λl=>U (Jz l) λJ=>some (.s ⟨⟨J⟩⟩,h))) (λE=>some (.s E,h)) (qy v)))
 (λC=>U (hK v) λq=>some (.i C (rp C q.2),h)) (mC j D)
def M9(j:TypeId)(E:Operand):fe:=λC D h=>U (cX E D) λv=>bK (gg (LC C j)) (some (.y j v,h))
def z6(j:Fn):Bool:=match j with| .yield _=>true| _=>false
def M8(j:Fn)(l E:Array Operand):fe:=λ_ C h=>bK (gg (z6 j))<|U (xi C l.toList) λD=>U (xi C E.toList) λb=>some (.f j D b,h)
def wY(C:Program)(D:TypeId):Option (Bool×TypeId):=U (EN C D) λj=>bF (bK (Dw C j.1 3&&z9 C j.1) (some (true,j.2))) (λE=>bK (gb E .i64) (some (false,j.2))) (mC C j.1)
def Na(C:TypeId)(E:Option Operand):fe:=λj _ h=>bK E.isNone (U (wY j C) λD=>some (.m h.n,h.new (Z D.1 (.pS []) (.oD []))))
def E3(I:TypeId)(l j:Operand):fe:=λD E h=>U (cX l E) λl=>U (tX l) λl=>U (cX j E) λj=>U (tX j) λj=>U (kp D I) λC=>U (qh D C.1) λG=>U (kj D C.1) λJ=>
 bK (cN l j&&(cN (j*J.bytes) (nat_lit 140737488355328)&&(cN j (nat_lit 140737488355328)&&(cN 1 C.2&&aA (jr (hM G)) C.2)))) (some (.dm h.n 0 l j,h.new (.ce C.1 (fB (hM G) j))))
def Ng(I:TypeId)(R:Operand)(O K Q:Option Operand):fe:=λG j h=>U (cX R j) λv=>U (oc j O) λl=>U (oc j K) λD=>U (oc j Q) λE=>
 bF (U (tT G I) λC=>U (iX v) λq=>bK (l.isNone&&(D.isNone&&(E.isNone&&dT 0 C.1))) (some (.dm q.1 q.2 C.1 C.1,h)))
  (λJ=>bK (Z E.isSome D.isSome true) (nL h (O9 v J.2 (l.getD 0) D E))) (kp G I)
def M1(D:TypeId)(I:Operand)(E:Nat):fe:=λC G h=>U (cX I G) λv=>U (iX v) λq=>U (DG C D E) λj=>bK (dT (nat_lit 0) j.2.2) (some (.ag q.1 (oX q.2 j.1),h))
def M2(D:TypeId)(J:Operand)(E:Nat):fe:=λC I h=>U (cX J I) λv=>U (n9 v) λl=>U (DG C D E) λj=>U (rm (Dm l j.1) j.2.2) λG=>nL h (uW j.2.1 G)
def M3(E:TypeId)(J y:Operand):fe:=λD G h=>U (cX J G) λv=>U (cX y G) λj=>U (tX j) λj=>
 bF (U (iX v) λq=>U (tT D E) λC=>bK (dT j C.1&&cN 2 C.1) (some (.ag q.1 (q.2+j*C.2.2),h)))
  (λq=>U (kp D E) λI=>bK (dT j q.2.2) (some (.ag q.1 (q.2.1+j*I.2),h))) (t5 v)
def M4(E:TypeId)(J y:Operand):fe:=λC G h=>U (cX J G) λv=>U (cX y G) λj=>U (tX j) λj=>
 bF (bK (xN C E) (U (qy v) λs=>U s.data[j]? λI=>some (.i .u8 (Int.ofNat I.toNat),h)))
  (λl=>U (tT C E) λD=>bK (il C D.2.1&&(dT j D.1)) (nL h (pA l (j*D.2.2)))) (n9 v)
def AF(C:Bool)(v:al)(j:Bool):al:=Z C (.b1 [v,.b j]) v
def M7(K:TypeId)(Q y:Operand)(D:Bool):fe:=λG J h=>U (cX Q J) λO=>U (qx O) λb=>U (cX y J) λj=>U (wY G K) λI=>U (qh G I.2) λC=>U (h.get b) λo=>
 Z I.1 (U (v2 o) λE=>U (vX j) λj=>U (kD C) λC=>bK (gg C) (some (bF (AF D (.b false) false) (λv=>AF D (.b v) true) (qI pE j E),h)))
  (U (tW o) λE=>U (tU j) λj=>U (vX C) λC=>bK (pE C (0,0,0)) (some (bF (AF D (ol (0,0,0)) false) (λv=>AF D (ol v) true) (qI dI j E),h)))
def Ni(G:TypeId)(K y O:Operand):fe:=λE D h=>U (cX K D) λJ=>U (qx J) λb=>U (cX y D) λj=>U (cX O D) λv=>U (wY E G) λI=>U (h.get b) λo=>
 Z I.1 (U (v2 o) λC=>U (vX j) λj=>U (kD v) λv=>some (.b1 [],h.put b (.pS (u4 pE j v C))))
  (U (tW o) λC=>U (tU j) λj=>U (vX v) λv=>some (.b1 [],h.put b (.oD (u4 dI j v C))))
def DR{j:Type}(l:List j):Option (Option j):=ch (some none) (λC l _=>ch (some (some C)) (λ_ _ _=>none) l) l
def Nf(E:TypeId)(K:Operand):fe:=λD J h=>U (cX K J) λI=>U (qx I) λb=>U (wY D E) λG=>U (h.get b) λo=>
 Z G.1 (U (v2 o) λj=>U (DR j) λC=>some (.ag h.n 0,(h.put b .no).new (.q9 b j C none))) (U (tW o) λj=>U (DR j) λC=>some (.ag h.n 0,(h.put b .no).new (.rb b j C none)))
def Nb(G:Operand)(D:Bool):fe:=λ_ E h=>bK (gg D)<|U (cX G E) λC=>U (iX C) λq=>bK (aA q.2 0)<|U (h.get q.1) λo=>
 bF (U (v3 o) λg=>bF (some (.b1 [.b false],(h.put q.1 .no).put g.1 (.pS g.2.1))) (λj=>some (.b1 [.b true,ol j.1,.b j.2],h.put q.1 (.q9 g.1 g.2.1 none (some j)))) g.2.2.1)
  (λg=>bF (some (.b1 [.b false],(h.put q.1 .no).put g.1 (.oD g.2.1))) (λj=>some (.b1 [.b true,qP j.1,ol j.2],h.put q.1 (.rb g.1 g.2.1 none (some j)))) g.2.2.1) (v5 o)
def MZ(E:Operand):fe:=λ_ D h=>U (cX E D) λC=>U (iX C) λq=>bK (aA q.2 0)<|U (h.get q.1) λo=>
 bF (U (v3 o) λg=>U g.2.2.2 λj=>some (.b1 [ol j.1,.b j.2],h)) (λg=>U g.2.2.2 λj=>some (.b1 [qP j.1,ol j.2],h)) (v5 o)
def M0(D:Operand)(j:Nat):fe:=λ_ C h=>U (cX D C) λv=>U (tZ v) λl=>nL h (pA l j)
def one(l:List Operand)(j:Operand->ay):ay:=ch none (λC l _=>ch (j C) (λ_ _ _=>none) l) l
def sZ(l:List Operand)(j:Operand->Operand->ay):ay:=ch none (λC l _=>one l (j C)) l
def sH:List TypeId->Option TypeId| [j]=>some j| _=>none
def GD:List TypeId->Option TypeId| [j,C]=>Z (aA j C) (some j) none| _=>none
def yY(J:List Operand)(G:List TypeId):fe:=λC E h=>one J λI=>U (sH G) λD=>U (cX I E) λv=>
 bF (U (EN C D) λ_=>U (qx v) λb=>U (h.get b) λo=>bF (U (v2 o) λj=>some (.i .i64 (Int.ofNat j.length),h)) (λj=>some (.i .i64 (Int.ofNat j.length),h)) (tW o))
  (λ_=>bF (U (pN v) λn=>some (.i .i64 (Int.ofNat n),h)) (λq=>some (.bb q.2,h)) (lc v)) (kp C D)
def wP:IntKind->Bool| .i64=>true| _=>false
def Jm(E:List Operand)(_:List TypeId):fe:=λ_ C h=>sZ E λD y=>U (cX D C) λj=>U (hK j) λj=>U (cX y C) λb=>U (hK b) λb=>bK (wP j.1&&wP b.1) (some (.i .i64 (min j.2 b.2),h))
def Jl(E:List Operand)(_:List TypeId):fe:=λ_ C h=>sZ E λD y=>U (cX D C) λj=>U (hK j) λj=>U (cX y C) λb=>U (hK b) λb=>bK (wP j.1&&wP b.1) (some (.i .i64 (max j.2 b.2),h))
def Jj(R:List Operand)(O:List TypeId):fe:=λC E h=>sZ R λQ y=>U (cX Q E) λv=>U (cX y E) λG=>U (GD O) λJ=>U (kp C J) λj=>U (pN G) λD=>U (pN v) λn=>U (kj C j.1) λK=>U (qh C j.1) λW=>
 bK (dT (nat_lit 0) j.2&&(cN ((n+D)*K.bytes) (nat_lit 140737488355328)&&(cN (n+D) (nat_lit 140737488355328)&&aA (jr (hM W)) j.2))) (U (sR h j.2 G) λI=>bK (sg I) (I3 v h j.1 j.2 D I))
def Jk(O:List Operand)(J:List TypeId):fe:=λD I h=>one O λK=>U (sH J) λE=>U (cX K I) λv=>U (kp D E) λj=>U (qh D j.1) λC=>Z (qR v) (some (.b1 [],h)) (bK (sg (hM C)&&(cN 1 j.2&&aA (jr (hM C)) j.2)) (U (t5 v) λq=>Z (aA q.2.2 0) (some (.b1 [],h)) (U (GP h q.1 q.2.1 (fB (hM C) q.2.2)) λG=>some (.b1 [],G))))
def Sc(v:Builtin):List Operand->List TypeId->fe:= @G1 (λ_=>List Operand->List TypeId->fe) (Jj) (λ_ _ _ _ _=>none) (Jk) (λ_ _ _ _ _=>none) (λ_ _ _ _ _=>none) (λ_ _ _ _ _=>none) (λ_ _ _ _ _=>none) (λ_ _ _ _ _=>none) (yY) (λ_ _ _ _ _=>none) (Jl) (Jm) (λ_ _ _ _ _=>none) (λ_ _ _ _ _=>none) (λ_ _ _ _ _=>none) (λ_ _ _ _ _=>none) (λ_ _ _ _ _=>none) (λ_ _ _ _ _=>none) (λ_ _ _ _ _=>none) (λ_ _ _ _ _=>none) (λ_ _ _ _ _=>none) (λ_ _ _ _ _=>none) (λ_ _ _ _ _=>none) (λ_ _ _ _ _=>none) (λ_ _ _ _ _=>none) (λ_ _ _ _ _=>none) v
def Xe:fe:=λ_ _ _=>none
def Xc:Callee->List Operand->List TypeId->fe
 | .builtin b=>Sc b
 | _=>λ_ _ _ _ _=>none
def im(v:Op):fe:=by
 apply vs (t:=v) (motive:=λ_=> _)
 case move=>exact λj=>AE j
 case assign=>exact λj=>AE j
 case pick=>exact λD J b=>Nd D J b
 case alloc=>exact λC=>MU C
 case box=>exact λC j=>MW C j
 case build=>exact λC I=>MX C I
 case buildSlice=>exact λC n I=>MY C n I
 case load=>exact λC j=>E2 C j
 case store=>exact λC j y=>Nh C j y
 case nilCheck=>exact λj=>Nc j
 case binOp=>exact λG C j y Z=>MV G C j y
 case unOp=>exact λG C j=>w8 G j
 case convert=>exact λS C j=>E1 S C j
 case makeInterface=>exact λC j=>M9 C j
 case makeFunc=>exact λE l D=>M8 E l D
 case makeMap=>exact λC W=>Na C W
 case makeSlice=>exact λC l D=>E3 C l D
 case slice=>exact λC j Q K R=>Ng C j Q K R
 case fieldAddr=>exact λC j E=>M1 C j E
 case field=>exact λC j E=>M2 C j E
 case indexAddr=>exact λC j y=>M3 C j y
 case index=>exact λC j y=>M4 C j y
 case lookup=>exact λC j y U=>M7 C j y U
 case mapUpdate=>exact λC j y Y=>Ni C j y Y
 case range=>exact λC j=>Nf C j
 case next=>exact λj q=>Nb j q
 case entry=>exact λj=>MZ j
 case extract=>exact λj O=>M0 j O
 case call=>exact λD=>Xc D.callee D.args.toList D.argTypes.toList
 all_goals (intros;first|exact Xe)
end
end aX
namespace aX
section
inductive X where
 |ju|ext (j:Nat)|ret
structure dM where
 t:dH
 h:bQ
abbrev gV:=Nat->List al->bQ->ay
abbrev hE:=gV->FuncId->List al->bQ->ay
inductive mZ where
 |fn (C:FuncId) (j:List al)|b8 (D:Nat) (j:List al)
def w0(C:Program)(D:TypeId)(v:al)(name:String)(I:List al):Option mZ:=U (kj C D) λG=>U (G.methods.toList.find? λj=>j.name==name) λj=>U j.func λE=>bK (j.path.isEmpty&&(aA (nS C D) (nat_lit 1)&&E.2)) (some (.fn E.1 (v::I)))
def Lp(l:List al)(j:al->List al->Option mZ):Option mZ:=ch none (λv l _=>j v l) l
def KZ:Fn->List al->List al->List al->Program->Option mZ
 | .func g=>λl C j _=>some (.fn g (l++(j++C)))
 | .yield G=>λl C j _=>bK (nz l&&nz C) (some (.b8 G j))
 | .methodOf E name=>λl C j D=>bK (nz l&&nz C) (Lp j λv j=>w0 D E v name j)
 | .method name=>λ_ _ _ _=>none
 | .via _ _ _ _=>λ_ _ _ _=>none
def wb:Callee->List Operand->Program->dH->Option mZ
 | .value G=>λE C j=>U (cX G j) λv=>U (pk v) λq=>U (xi j E) λD=>KZ q.1 q.2.1 q.2.2 D C
 | .invoke I name=>λE C j=>U (cX I j) λv=>U (v7 v) λq=>U (xi j E) λD=>w0 C q.1 q.2 name D
 | .builtin _=>λ_ _ _=>none
def t6:Callee->Bool| .builtin _=>true| _=>false
def y7(v:Op):Option Call:=by
 apply vs (t:=v) (motive:=λ_=> _)
 case call=>exact λj=>some j
 all_goals (intros;first|exact none)
def C5(E:hE)(C:gV)(h:bQ)(D:mZ):ay:=mZ.rec (λG j=>E C G j h) (λI j=>C I j h) D
def xh(j:Program)(E:hE)(G:gV)(D:dH)(h:bQ)(o:Op):ay:=
 bF (im o j D h) (λC=>Z (t6 C.callee) (im o j D h) (U (wb C.callee C.args.toList j D) (C5 E G h))) (y7 o)
def gn(C:dH)(D:Option Nat)(v:al):dH:=bF C (λj=>C.set (Nat.succ j) j (some v)) D
def ro(C:List Oper)(E:dH)(g:Option (Nat×Bool)):Option Bool:=bF (some true) (λq=>U C[q.1]? λD=>U D.dst λj=>U (E.get j) λv=>bK (gg (PF v)) (some (bF false (λG=>G==q.2) (kD v)))) g
def Pg(D:Program)(E:hE)(I:gV)(G:List Oper)(o:Oper)(j:dH)(h:bQ):Option dM:=
 U (ro G j o.guard) λb=>Z b (U (xh D E I j h o.op) λC=>some ⟨gn j o.dst C.1,C.2⟩) (some ⟨gn j o.dst (.b1 []),h⟩)
def Aj(j:Program)(C:hE)(G:gV)(E l:List Oper):dM->Option dM:=
 ch (λs=>some s) (λo _ D s=>U (Pg j C G E o s.t s.h) D) l
def hL(j:Nat):Nat:=Nat.shiftLeft (nat_lit 1) j
def DM:Ground->Bool| .textOnly _=>false| .gcOnly _=>false| _=>true
def sN(o:Oper):Nat:=ch (nat_lit 0) (λj _ C=>Z (DM j.ground) (gQ (hL j.on) C) C) o.after.toList
def Bg(j b:Nat):Bool:=aA (H4 j b) j
def kI(j C:Nat):Bool:=Nat.testBit C j
def VH(v:Builtin):Bool:= @G1 (λ_=>Bool) (false) (false) (false) (false) (false) (false) (false) (false) (true) (false) (false) (false) (false) (false) (false) (false) (false) (false) (false) (false) (false) (false) (false) (false) (false) (false) v
def L7:Callee->Bool| .builtin b=>VH b| _=>false
def nA(v:Op):Program->Nat:=by
 apply vs (t:=v) (motive:=λ_=> _)
 case move=>exact λC=>λ_=>nat_lit 0
 case assign=>exact λC=>λ_=>nat_lit 0
 case pick=>exact λD K b=>λ_=>nat_lit 0
 case alloc=>exact λj=>λ_=>nat_lit 2
 case build=>exact λj W=>λ_=>nat_lit 0
 case load=>exact λj C=>λ_=>nat_lit 1
 case nilCheck=>exact λC=>λ_=>nat_lit 0
 case binOp=>exact λI j C y J=>λ_=>nat_lit 0
 case unOp=>exact λI j C=>λ_=>nat_lit 0
 case convert=>exact λS j C=>λE=>bF (nat_lit 3) (λ_=>bF (nat_lit 3) (λ_=>nat_lit 0) (mC E j)) (mC E S)
 case makeInterface=>exact λj C=>λ_=>nat_lit 0
 case makeFunc=>exact λG l D=>λ_=>nat_lit 0
 case makeSlice=>exact λj l D=>λ_=>nat_lit 2
 case slice=>exact λj C R O U=>λ_=>nat_lit 0
 case fieldAddr=>exact λj C G=>λ_=>nat_lit 0
 case field=>exact λj C G=>λ_=>nat_lit 0
 case indexAddr=>exact λj C y=>λ_=>nat_lit 0
 case index=>exact λj C y=>λ_=>nat_lit 0
 case extract=>exact λC Q=>λ_=>nat_lit 0
 case call=>exact λD=>λE=>Z (L7 D.callee) (bF (nat_lit 3) (λj=>bF (nat_lit 3) (λ_=>nat_lit 0) (kp E j)) (sH D.argTypes.toList)) (nat_lit 3)
 all_goals (intros;first|exact nat_lit 3)
def vg(o:Oper):List Nat:=bF [] (λj=>[j]) o.dst
structure f8 where
 i:Nat
 o:Oper
 ag:Nat
 k:Nat
def qY(j:Program)(l:List Oper):Nat->List f8:=ch (λ_=>[]) (λo _ C n=>⟨n,o,sN o,nA o.op j⟩::C (Nat.succ n)) l
def sf(C:f8->Bool)(l:List f8):Option f8:=ch none (λj _ D=>Z (C j) (some j) D) l
def jO(j:f8->Bool)(l:List f8):Bool:=ch true (λD _ C=>Z (j D) C false) l
def sh(l:List f8):Nat:=ch (nat_lit 0) (λC _ j=>Z (aA C.k (nat_lit 2)) (gQ (hL C.i) j) j) l
inductive pc where
 |nil
 |q (j:f8) (s:pc)
 |e (j:f8) (s:pc)
def oJ(j:Nat)(C:f8):Bool:=Z (kI C.i j) false (Bg C.ag j)
def AL(l:List f8)(n:Nat):Nat->pc:=iy (λ_=> .nil) (λ_ D C=>
 bF (bF (bF .nil (λj=> .e j (D (gQ C (hL j.i)))) (sf (λj=>oJ C j) l)) (λj=> .e j (D (gQ C (hL j.i)))) (sf (λj=>Z (oJ C j) (aA j.k (nat_lit 3)) false) l))
  (λj=> .q j (D (gQ C (hL j.i)))) (sf (λj=>Z (oJ C j) (dT j.k (nat_lit 2)) false) l)) n
def I0(l:List f8)(C E D:Nat):Bool:=jO (λj=>Z (kI j.i E) true (Z (aA j.i D) true (Z (kI j.i C) true (Z (kI D j.ag) true (gg (Bg j.ag (gQ E C))))))) l
def oK(l:List f8)(E G:Nat)(s:pc):Nat->Bool:=pc.rec (λj=>aA j G)
 (λC _ D j=>Z (oJ j C) (Z (dT C.k (nat_lit 2)) (D (gQ j (hL C.i))) false) false)
 (λC _ D j=>Z (oJ j C) (Z (I0 l E j C.i) (Z (dT C.k (nat_lit 2)) false (D (gQ j (hL C.i)))) false) false) s
def Xw(j y:f8):Bool:=Z (kI j.i y.ag) true (kI y.i j.ag)
def mI(j:Nat)(l:List Nat):Bool:=ch false (λD _ C=>Z (aA j D) true C) l
def I5(D:Array Oper)(l:List f8):Bool:=jO (λj=>bF true (λC=>jO (λy=>Z (aA j.i y.i) true (Z (Xw j y) true (Z (mI C (y.o.looksAt D)) false (gg (mI C (vg y.o)))))) l) j.o.dst) l
def XM(C:Program)(j:Array Oper):pc:=AL (qY C j.toList (nat_lit 0)) (Nat.succ j.toList.length) (nat_lit 0)
def yZ(v:Op):Bool:=by
 apply vs (t:=v) (motive:=λ_=> _)
 case defer=>exact λj=>true
 case select=>exact λC b=>true
 all_goals (intros;first|exact false)
def Ua(g:Option (Nat×Bool)):Bool:=bF true (λ_=>false) g
def Wx(D:Array Oper)(l:List f8)(j:f8):Bool:=jO (λy=>Z (aA j.i y.i) true (Z (bF true (λC=>gg (mI C (vg y.o))) j.o.dst) (bF true (λC=>Z (mI C (j.o.looksAt D)) (kI y.i j.ag) true) y.o.dst) false)) l
def MF(D:Array Oper)(l:List f8)(C:Nat):Bool:=jO (λj=>Z (aA j.k (nat_lit 2)) (Z (Ua j.o.guard) (Z (aA (H4 j.ag C) (nat_lit 0)) (Wx D l j) false) false) true) l
def No(C:Program)(j:Array Oper):Bool:=(λl=>Z (jO (λD=>gg (yZ D.o.op)) l) (Z (I5 j l) (Z (MF j l (sh l)) (oK l (sh l) (jF (hL j.toList.length)) (AL l (Nat.succ j.toList.length) (nat_lit 0)) (nat_lit 0)) false) false) false) (qY C j.toList (nat_lit 0))
def xE(l:List f8)(j:Nat):Nat:=ch j (λD _ C=>Z (kI D.i j) (gQ D.ag C) C) l
def FE(l:List f8)(n:Nat)(j:Nat):Nat:=iy (λj=>j) (λ_ C j=>C (xE l j)) n j
def VB(l:List f8)(C D:Nat):Bool:=jO (λj=>Z (aA j.i C) true (Z (kI j.i D) true (Z (kM j.o) true (kI C (FE l (nat_lit 8) j.ag))))) l
def wR(j:Program)(D:Array Oper)(C E:Nat):Bool:=(λl=>VB l C (FE l (nat_lit 8) E)) (qY j D.toList (nat_lit 0))
abbrev m4:=List (Nat×Nat×List al)
def p3(h:bQ)(C:m4):Bool:=ch true (λj _ g=>Z (bF false (λl=>gA (gF (nat_lit 9)) l j.2.2) (l3 h j.1 j.2.1 (jr j.2.2))) g false) C
def AU(v:Op):Program->dH->bQ->m4->m4:= @vs (λ_=>Program->dH->bQ->m4->m4) (λ_=>λ_ _ _ j=>j) (λ_=>λ_ _ _ j=>j) (λ_ _ _=>λ_ _ _ j=>j) (λ_=>λ_ _ _ j=>j) (λ_ _=>λ_ _ _ j=>j) (λ_ _=>λ_ _ _ j=>j) (λ_ _ _=>λ_ _ _ j=>j) (λ_ _ _ _=>λ_ _ _ j=>j) (λD G=>λC E h j=>bF j (λv=>bF j (λq=>bF j (λs=>bF j (λl=>(q.1,q.2,l)::j) (l3 h q.1 q.2 s.2)) (oL C D)) (iX v)) (cX G E)) (λ_ _ _=>λ_ _ _ j=>j) (λ_=>λ_ _ _ j=>j) (λ_=>λ_ _ _ j=>j) (λ_=>λ_ _ _ j=>j) (λ_ _ _ _ _=>λ_ _ _ j=>j) (λ_ _ _=>λ_ _ _ j=>j) (λ_ _ _=>λ_ _ _ j=>j) (λ_ _=>λ_ _ _ j=>j) (λ_ _=>λ_ _ _ j=>j) (λ_ _ _=>λ_ _ _ j=>j) (λ_ _=>λ_ _ _ j=>j) (λ_ _=>λ_ _ _ j=>j) (λ_ _ _=>λ_ _ _ j=>j) (λ_ _ _ _ _=>λ_ _ _ j=>j) (λ_ _ _=>λ_ _ _ j=>j) (λ_ _ _=>λ_ _ _ j=>j) (λ_ _ _=>λ_ _ _ j=>j) (λ_ _ _=>λ_ _ _ j=>j) (λ_ _ _ _=>λ_ _ _ j=>j) (λ_ _ _ _=>λ_ _ _ j=>j) (λ_ _ _=>λ_ _ _ j=>j) (λ_ _ _ _=>λ_ _ _ j=>j) (λ_ _=>λ_ _ _ j=>j) (λ_ _=>λ_ _ _ j=>j) (λ_=>λ_ _ _ j=>j) (λ_ _ _ _=>λ_ _ _ j=>j) (λ_ _=>λ_ _ _ j=>j) (λ_=>λ_ _ _ j=>j) (λ_=>λ_ _ _ j=>j) (λ_=>λ_ _ _ j=>j) (λ_=>λ_ _ _ j=>j) (λ_ _=>λ_ _ _ j=>j) (λ_ _ _=>λ_ _ _ j=>j) (λ_ _=>λ_ _ _ j=>j) v
def SA(C:hE)(G:gV)(h:bQ)(j:mZ):ay:=mZ.rec (λD E=>C G D E h) (λ_ _=>none) j
def xg(j:Program)(E:hE)(G:gV)(D:dH)(h:bQ)(o:Op):ay:=
 bF (im o j D h) (λC=>Z (t6 C.callee) (im o j D h) (U (wb C.callee C.args.toList j D) (SA E G h))) (y7 o)
def ja(G:Program)(J:hE)(K:gV)(I:Array Oper)(s:pc):dH->bQ->m4->Option dM:=pc.rec (λC h _=>some ⟨C,h⟩)
 (λj _ D C h E=>U (ro I.toList C j.o.guard) λb=>Z b (U (im j.o.op G C h) λv=>D (gn C j.o.dst v.1) h (AU j.o.op G C h E)) (D (gn C j.o.dst (.b1 [])) h E))
 (λj _ D C h E=>Z (aA j.k (nat_lit 2)) (U (im j.o.op G C h) λv=>D (gn C j.o.dst v.1) v.2 E)
  (U (ro I.toList C j.o.guard) λb=>Z b (U (xg G J K C h j.o.op) λv=>Z (p3 v.2 E) (D (gn C j.o.dst v.1) v.2 E) (bK (wR G I j.i j.ag) (D (gn C j.o.dst v.1) v.2 []))) (D (gn C j.o.dst (.b1 [])) h E))) s
def oe(l:List f8):dH->dH:=ch (λj=>j) (λD _ E j=>E (Z (aA D.k (nat_lit 2)) (bF j (λC=>j.set (Nat.succ C) C none) D.o.dst) j)) l
def FG(j:Program)(D:hE)(E:gV)(C:Array Oper)(s:dM):Option dM:=Z (No j C) (ja j D E C (XM j C) (oe (qY j C.toList (nat_lit 0)) s.t) s.h []) none
abbrev o0:=Option (X×dM)
def xe(j:o0)(n:dM->o0):o0:=U j λq=>X.rec (n q.2) (λ_=>j) j q.1
def EH(j:dM->o0)(n:Nat):dM->o0:=iy (λ_=>none) (λ_ C s=>xe (j s) C) n
def Sa(id:Nat)(j:o0):o0:=U j λq=>X.rec j (λC=>Z (aA C id) (some (.ju,q.2)) j) j q.1
def Bc(G:List Nat):List al->dH->dH:=ch (λ_ j=>j) (λD _ E C j=>ch j (λv C _=>E C (j.set (Nat.succ D) D (some v))) C) G
def FN(K:gV)(G:Nat)(I:dH)(D:List Nat)(J y:dM->o0):gV:=λC j h=>
 Z (aA C G) (U (bK (aA (jr j) D.length) (J ⟨Bc D j I,h⟩)) λq=>X.rec (U (y q.2) λE=>X.rec (some (.b true,E.2.h)) (λ_=>none) none E.1) (λ_=>none) none q.1) (K C j h)
abbrev j4:=Program->hE->gV->dM->o0
def JC:j4:=λ_ _ _ s=>some (.ju,s)
def Sp(j:Array Oper)(G:Bool):j4:=λC D E s=>U (Z G (FG C D E j s) (Aj C D E j.toList j.toList s)) λI=>some (.ju,I)
def Sr(E b:j4):j4:=λj C D s=>xe (E j C D s) (b j C D)
def Sl(D:Operand)(C b:j4):j4:=λj E I s=>U (cX D s.t) λv=>U (kD v) λG=>Z G C b j E I s
def Sk(id:Nat)(C:j4):j4:=λj D E s=>Sa id (C j D E s)
def Sn(C:j4):j4:=λj D E s=>EH (C j D E) 2000 s
def Sm(id:Nat):j4:=λ_ _ _ s=>some (.ext id,s)
def Sq:j4:=λ_ _ _ s=>some (.ret,s)
def CJ:Fn->Option FuncId| .func g=>some g| _=>none
def JB(E:Operand)(G:Array Nat)(J y:j4):j4:=λD j C s=>U (cX E s.t) λv=>U (pk v) λq=>U (CJ q.1) λg=>
 U (j (FN C s.h.n s.t G.toList (J D j C) (y D j C)) g (q.2.1++ .f (.yield s.h.n) [] []::q.2.2) (s.h.new .no)) λI=>some (.ju,⟨s.t,I.2⟩)
def wa:j4:=λ_ _ _ _=>none
def i5(C:Code):Bool:=BB true (λ_ _ _=>true) (λ_ _ j b=>Z j b false) (λ_ _ _ j b=>Z j b false) (λ_ _ j=>j) (λ_ j=>j) (λ_ _ _ _ _ _=>false) (λ_=>true) (λ_ j=>j) (λ_=>true) (λ_=>true) true (λ_=>true) C
def gW(C:Code):j4:=BB JC (λ_ G D=>Sp G D) (λ_ _ j b=>Sr j b) (λC _ _ j b=>Sl C j b) (λid _ j=>Sk id j) (λ_ j=>Sn j)
 (λE I K O J y=>Z (Z (i5 K) (i5 O) false) (JB E I J y) wa) Sm (λ_ _=>wa) (λ_=>JC) (λ_=>wa) Sq (λ_=>wa) C
def zo(n:Nat)(l:List Oper):Bool:=ch true (λo _ j=>Z (ef n o.dst) j false) l
def CG(n:Nat)(l:List Nat):Bool:=ch true (λC _ j=>Z (dT C n) j false) l
def ps(n:Nat)(C:Code):Bool:=BB true (λ_ D _=>zo n D.toList) (λ_ _ j b=>Z j b false) (λ_ _ _ j b=>Z j b false) (λ_ _ j=>j) (λ_ j=>j)
 (λ_ E _ _ G y=>Z (CG n E.toList) (Z G y false) false) (λ_=>true) (λ_ j=>j) (λ_=>true) (λ_=>true) true (λ_=>true) C
def CH(l:List al):Nat->dH->dH:=ch (λ_ j=>j) (λv _ C n j=>C (Nat.succ n) (j.set (Nat.succ n) n (some v))) l
def Ov:ResultVar->Program->dH->bQ->Option al
 | .tmp G=>λ_ j _=>j.get G
 | .cell E D=>λC j h=>U (j.get E) λv=>U (iX v) λq=>U (oL C D) λs=>U (l3 h q.1 q.2 s.2) λl=>uW s.1 l
def FJ(l:List al):al:=ch (.b1 []) (λv j _=>ch v (λ_ _ _=> .b1 l) j) l
def JE(j:FuncId->List al->bQ->ay)(args:List al)(h:bQ):ay:=ch none (λv l _=>bK (nz l) (U (pk v) λq=>U (CJ q.1) λg=>U (j g (q.2.1++q.2.2) h) λC=>some (.b1 [.bm [.i .i64 0,.i .i64 0],.b false],C.2))) args
def To(j:X):Bool:=X.rec true (λ_=>false) true j
def CX(C:Program)(j:Func)(E:hE)(J:gV)(args:List al)(h:bQ):ay:=U j.body λD=>bK (Z (ps j.ntmps D) (cN (jr args) j.ntmps) false)<|U (gW D C E J ⟨CH args 0 .i3,h⟩) λq=>bK (To q.1)<|U (h6 (λG=>Ov G C q.2.t q.2.h) j.results.toList) λI=>some (FJ I,q.2.h)
abbrev kz:=FuncId->Option (List al->bQ->ay)
def ka(C:Program)(I:FuncId)(J:kz)(n:Nat):hE:=iy (λ_ _ _ _=>none)
 (λ_ E G j args h=>bF (Z (aA j I) (JE (E G) args h) (U ((lg C).get j) λD=>bK (gg (D.name== "runtime.NumGoroutine")) (CX C D E G args h))) (λF=>F args h) (J j)) n
def okB(j:ay)(v:al):Bool:=bF false (λq=>gF 9 q.1 v) j
def aa3(j:ay):Bool:=bF false (λ_=>true) j
def abc(j:ay)(n:Nat):Bool:=bF false (λq=>aA q.2.n n) j
def MG(C τ:Nat->Option Nat)(v:al):Option al:= @al.rec (λ_=>Option al) (λ_=>Option (List al)) (λQ n=>some (.i Q n)) (λK=>some (.b K)) (λK=>some (.s K)) (λb o=>U (C b) λb=>some (.ag b o)) (some .fJ) (λb o n E=>U (C b) λb=>some (.dm b o n E)) (λb o n l=>U (C b) λb=>some (.cH b o n l)) (some .hl) (some .eA) (λb=>U (C b) λb=>some (.m b)) (some .cR) (λg l E D O=>bK (gg (z6 g)) (U D λl=>U O λE=>some (.f g l E))) (some .jt) (λR v W=>U W λv=>some (.y R v)) (some .jv) (λl D=>U D λl=>some (.bm l)) (λl D=>U D λl=>some (.b1 l)) (λj=>U (τ j) λj=>some (.bb j)) (λb=>U (C b) λb=>some (.dK b)) (some .fL) (some .h8) (λj n=>U (τ j) λj=>some (.gj j n)) (λb j=>U (C b) λb=>U (τ j) λj=>some (.fq b j)) (λI j=>U (τ I) λI=>U (τ j) λj=>some (.xs I j)) (some []) (λv l G J=>U G λG=>U J λJ=>some (G::J)) v
def EV(C τ:Nat->Option Nat)(v:List al):Option (List al):= @al.rec_1 (λ_=>Option al) (λ_=>Option (List al)) (λQ n=>some (.i Q n)) (λK=>some (.b K)) (λK=>some (.s K)) (λb o=>U (C b) λb=>some (.ag b o)) (some .fJ) (λb o n E=>U (C b) λb=>some (.dm b o n E)) (λb o n l=>U (C b) λb=>some (.cH b o n l)) (some .hl) (some .eA) (λb=>U (C b) λb=>some (.m b)) (some .cR) (λg l E D O=>bK (gg (z6 g)) (U D λl=>U O λE=>some (.f g l E))) (some .jt) (λR v W=>U W λv=>some (.y R v)) (some .jv) (λl D=>U D λl=>some (.bm l)) (λl D=>U D λl=>some (.b1 l)) (λj=>U (τ j) λj=>some (.bb j)) (λb=>U (C b) λb=>some (.dK b)) (some .fL) (some .h8) (λj n=>U (τ j) λj=>some (.gj j n)) (λb j=>U (C b) λb=>U (τ j) λj=>some (.fq b j)) (λI j=>U (τ I) λI=>U (τ j) λj=>some (.xs I j)) (some []) (λv l G J=>U G λG=>U J λJ=>some (G::J)) v
def sV(v:cl):(Nat->Option Nat)->(Nat->Option Nat)->(Nat->Option Nat)->Option cl:=by
 apply cl.rec (t:=v) (motive:=λ_=> _)
 case ce=>exact λE j=>λD τ _=>U (EV D τ j) λj=>some (.ce E j)
 case io=>exact λG s n j=>λD τ _=>U (EV D τ j) λj=>some (.io G s n j)
 case b3=>exact λC=>λ_ _ I=>U (I C) λC=>some (.b3 C)
 all_goals (intros;first|exact none)
def sn(l:List Nat):Nat->c4 Nat->c4 Nat:=ch (λ_ j=>j) (λD _ E C j=>E (Nat.succ C) (j.set (Nat.succ D) D (some C))) l
def wT(D:Nat->al)(E:Nat):B5:=iy (λ_ _=>false) (λ_ G j y=>Z (LN y) (AB j) (Z (LO y) (gg (D4 j)) (bF (bF (bF (bF (ww j y G) (λq=>cP (lc j) λC=>Z (aA C.1 q.1) (gF (nat_lit 9) (.bb C.2) (D q.2)) false) (lc y)) (λ_=>false) (rW y)) (λ_=>false) (t0 y)) (λI=>Z (AB j) (gF (nat_lit 9) j (D I)) false) (j9 y)))) E
def Ac(v:cl):(Nat->al)->cl->Bool:=by
 apply cl.rec (t:=v) (motive:=λ_=> _)
 case ce=>exact λD j=>λC y=>cP (rV y) λq=>Z (aA D q.1) (gA (wT C (nat_lit 9)) j q.2) false
 case io=>exact λE s n j=>λC y=>cP (yV y) λq=>Z (aA E q.1) (Z (aA s q.2.1) (Z (aA n q.2.2.1) (gA (wT C (nat_lit 9)) j q.2.2.2) false) false) false
 case b3=>exact λG=>λ_ y=>cP (v1 y) λq=>aA G q
 all_goals (intros;first|exact false)
def fa(l:List cl):bQ:=ch (λh=>h) (λo _ j h=>j (h.new o)) l (bQ.mk .i3 (nat_lit 0))
def Dn(l:List Nat):Bool:=ch false (λC l j=>Z (mI C l) true j) l
def Ab(j:List Nat)(h:bQ):Option (List cl):=(λD=>h6 (λC=>U (bK (dT C h.n) (h.get C)) λo=>sV o D.get some some) j) (sn j (nat_lit 0) .i3)
def gq(E:ay)(C:Nat->al)(j:List Nat)(G:al)(W:List cl):Bool:=cP E λq=>Z (Dn j) false (cP (MG (sn j (nat_lit 0) .i3).get some q.1) λv=>Z (wT C (nat_lit 9) v G) (cP (Ab j q.2) λD=>gA (λI y=>Ac I C y) D W) false)
def gI(j C D:Nat)(args:List al)(G:al):List al->bQ->ay:=λI h=>bK (gA (gF (nat_lit 9)) I (.ag j (nat_lit 0)::args)) (U (h.get j) λo=>U (v1 o) λE=>bK (aA E C) (some (G,h.put j (.b3 D))))
def nP(τ j:Nat->Option Nat)(W:List cl):Option (List cl):=h6 (λo=>sV o some τ j) W
end
end aX
section
namespace aX
section
variable{α rs:Type}
theorem ao{C}{D:α->Option rs}{y}:U C D=some y<->∃j,C=some j/\D j=some y:=by
 cases C with
 |none=>exact⟨λh=>(by cases h),λ⟨_,h,_⟩=>(by grind)⟩
 |some j=>exact⟨λh=>⟨j,rfl,h⟩,λ⟨_,h,E⟩=>(by cases h;exact E)⟩
theorem cu{j C}{y:α}:bK j C=some y<->j=true/\C=some y:=by
 cases j with
 |false=>exact⟨λh=>(by cases h),λ⟨h,_⟩=>(by grind)⟩
 |true=>exact⟨λh=>⟨rfl,h⟩,λ⟨_,h⟩=>h⟩
theorem df(j y:α):Z true j y=j:=rfl
theorem cZ(j y:α):Z false j y=y:=rfl
theorem dN{j b}:Z j b false=(j&&b):=by cases j<;>rfl
theorem ob{j b}:Z j true b=(j||b):=by cases j<;>rfl
theorem l0(j):gg j=!j:=by cases j<;>rfl
theorem pp(j b):rY j b=(j==b):=by cases j<;>cases b<;>rfl
theorem c4.qL(l v)(C:c4 α)(j):(c4.eQ l v C).get j=Z (aA j 0) v (Z (aA (j % 2) 1) (l.get (j/2)) (C.get (j/2-1))):=rfl
theorem c4.F5:∀(n)(J)(D)(E:Option α)(j),D<n->(c4.set n J D E).get j=if j=D then E else J.get j
 |0,_,_,_,_,h=>absurd h (Nat.not_lt_zero _)
 |n+1,J,D,E,j,h=>by
  have Q:∀(l:c4 α) (v:Option α) (G:c4 α),(Z (aA D 0) (c4.eQ l E G) (Z (aA (D % 2) 1) (.eQ (c4.set n l _ E) v G) (.eQ l v (c4.set n G _ E)))).get j=if j=D then E else(c4.eQ l v G).get j:=λl v G=>by
   rcases g9 D with rfl|U
   ·rw[show aA 0 0=true from rfl,df,c4.qL,c4.qL];rcases g9 j with rfl|K
    ·rfl
    ·have I:aA j 0=false:=by cases j with|zero=>omega|succ j=>rfl
     simp[I,cZ,show j≠0 by omega]
   ·have I:aA D 0=false:=by cases D with|zero=>omega|succ D=>rfl
    rw[I,cZ];rcases yd D with R|aa
    ·rw[R,show aA 0 1=false from rfl,cZ,c4.qL,c4.qL];rcases g9 j with rfl|K
     ·simp[df,show(0:Nat)≠D by omega]
     ·have I:aA j 0=false:=by cases j with|zero=>omega|succ j=>rfl
      rw[I,cZ,cZ];rcases yd j with ab|ab
      ·rw[ab,show aA 0 1=false from rfl,cZ,cZ,c4.F5 n G (D/2-1) E _ C];grind
      ·rw[ab,show aA 1 1=true from rfl,df,df,if_neg C]
    ·rw[aa,show aA 1 1=true from rfl,df,c4.qL,c4.qL];rcases g9 j with rfl|K
     ·simp[df,show(0:Nat)≠D by omega]
     ·have I:aA j 0=false:=by cases j with|zero=>omega|succ j=>rfl
      rw[I,cZ,cZ];rcases yd j with ab|ab
      ·rw[ab,show aA 0 1=false from rfl,cZ,cZ,if_neg C]
      ·rw[ab,show aA 1 1=true from rfl,df,df,c4.F5 n l (D/2) E _ C];grind
  cases J with
  |i3=>
   refine(Q _ _ _).trans ?_
   by_cases O:j=D
   ·simp_all
   ·rw[if_neg O,if_neg O,c4.qL];cases aA j 0<;>cases aA _ 1<;>rfl
  |eQ l v G=>exact Q l v G
theorem c4.lp(D j)(E:Option α)(C):(c4.set (Nat.succ j) D j E).get C=if C=j then E else D.get C:=c4.F5 _ _ _ _ _ (Nat.lt_succ_self j)
end
structure bX where
 int:Nat->Int
 b6:Nat->Nat->Nat->aO
def h4(C j:Nat):Value:=.slice (if j % 2=0 then some ⟨C,0,none⟩else none) (j/2/9223372036854775808) (j/2 % 9223372036854775808)
def mG(j:Nat):Int:=((j/2/9223372036854775808:Nat):Int)
theorem C7{j}(h:oH j=true):ee j=[j]:=by cases j<;>first|rfl|cases h
variable{Ω:bX}
def aV(Ω:bX):=Nat->Option (Nat×Nat)
def aV.le(D E:aV Ω):Prop:=∀j C,D j=some C->E j=some C
inductive ky (j:aV Ω):Fn->Fn->Prop where
 |func {C:FuncId}:ky j (.func C) (.func C)
 |method {n:String}:ky j (.method n) (.method n)
 |methodOf {D:TypeId} {n:String}:ky j (.methodOf D n) (.methodOf D n)
 |via {D:TypeId} {I:Array FieldStep} {C:FuncId} {b:Bool}:ky j (.via D I C b) (.via D I C b)
 |yield {G E J:Nat} (h:j G=some (E,J)):ky j (.yield G) (.yield E)
mutual
inductive bq (j:aV Ω):al->Value->Prop where
 |i {Q:IntKind} {n:Int}:bq j (.i Q n) (.int Q n)
 |b {J:Bool}:bq j (.b J) (.bool J)
 |s {J:ByteArray}:bq j (.s J) (.string J)
 |ag {b o D C:Nat} (h:j b=some (D,C)):bq j (.ag b o) (.pointer (some ⟨D,o,none⟩))
 |fJ:bq j .fJ (.pointer none)
 |dm {b o n q D C:Nat} (h:j b=some (D,C)):bq j (.dm b o n q) (.slice (some ⟨D,o,none⟩) n q)
 |cH {b o n l D C:Nat} (h:j b=some (D,C)) (W:l+n<=C):bq j (.cH b o n l) (.slice (some ⟨D,o,none⟩) n (C-l))
 |hl {U:Addr} {C:Nat}:bq j .hl (.slice (some U) 0 C)
 |eA:bq j .eA (.slice none 0 0)
 |m {b D C:Nat} (h:j b=some (D,C)):bq j (.m b) (.map (some D))
 |cR:bq j .cR (.map none)
 |f {g O:Fn} {l C:List al} {G K:cs} (Z:ky j g O) (W:bh j l G) (Y:bh j C K):bq j (.f g l C) (.func O G.toArray K.toArray)
 |jt:bq j .jt .nilFunc
 |y {R:TypeId} {v:al} {I:Value} (h:bq j v I):bq j (.y R v) (.iface R I)
 |jv:bq j .jv .nilIface
 |bm {l:List al} {G:cs} (h:bh j l G):bq j (.bm l) (.agg G.toArray)
 |b1 {l:List al} {G:cs} (h:bh j l G):bq j (.b1 l) (.tuple G.toArray)
 |bb {E:Nat}:bq j (.bb E) (.int .i64 (Ω.int E))
 |dK {b D C:Nat} (h:j b=some (D,C)):bq j (.dK b) (h4 D C)
 |fL {n:Int}:bq j .fL (.int .i64 n)
 |h8 {I:Value} (h:oH I=true):bq j .h8 I
 |gj {E:Nat} {n:Int}:bq j (.gj E n) (.int .i64 (IntKind.i64.wrap (Ω.int E+n)))
 |fq {b E D C:Nat} (h:j b=some (D,C)) (ae:Ω.int E=mG C):bq j (.fq b E) (h4 D C)
 |xs {i E:Nat}:bq j (.xs i E) (.int .i64 (IntKind.i64.wrap (Ω.int i-Ω.int E)))
inductive bh (j:aV Ω):List al->List Value->Prop where
 |nil:bh j [] []
 |cons {v:al} {D:Value} {l:List al} {C:cs} (h:bq j v D) (E:bh j l C):bh j (v::l) (D::C)
end
def ky.mono{C D:aV Ω}(h:C.le D){j g}(E:ky C j g):ky D j g:=by
 cases E with
 |yield q=>exact .yield (h _ _ q)
 | _=>constructor
mutual
def bq.mono{C D:aV Ω}(h:C.le D){v j}(I:bq C v j):bq D v j:=by
 cases I with
 |i=>exact .i
 |b=>exact .b
 |s=>exact .s
 |ag q=>exact .ag (h _ _ q)
 |fJ=>exact .fJ
 |dm q=>exact .dm (h _ _ q)
 |cH q K=>exact .cH (h _ _ q) K
 |hl=>exact .hl
 |eA=>exact .eA
 |m q=>exact .m (h _ _ q)
 |cR=>exact .cR
 |f E b G=>exact .f (E.mono h) (bh.mono h b) (bh.mono h G)
 |jt=>exact .jt
 |y q=>exact .y (bq.mono h q)
 |jv=>exact .jv
 |bm q=>exact .bm (bh.mono h q)
 |b1 q=>exact .b1 (bh.mono h q)
 |bb=>exact .bb
 |dK q=>exact .dK (h _ _ q)
 |fL=>exact .fL
 |h8 q=>exact .h8 q
 |gj=>exact .gj
 |fq q J=>exact .fq (h _ _ q) J
 |xs=>exact .xs
def bh.mono{C D:aV Ω}(h:C.le D){v:List al}{j:cs}(G:bh C v j):bh D v j:=by
 cases G with
 |nil=>exact .nil
 |cons E b=>exact .cons (bq.mono h E) (bh.mono h b)
end
theorem aV.le.refl(j:aV Ω):j.le j:=λ_ _ C=>C
theorem aV.le.trans{j b C:aV Ω}(h:j.le b)(I:b.le C):j.le C:=λD E G=>I D E (h D E G)
section
variable{aC:aV Ω}
theorem bh.len{l}:∀{j},bh aC l j->j.length=jr l:=by
 induction l with
 |nil=>intro j h;cases h;rfl
 |cons v l C=>intro j h;cases h with|cons D b=>simp[C b];rfl
theorem uM(l):jr l=l.length:=by
 induction l with
 |nil=>rfl
 |cons v l j=>simp_all[jr]
def bh.append{l C j s}(h:bh aC l j)(G:bh aC C s):bh aC (l++C) (j++s):=by
 induction l generalizing j with
 |nil=>cases h;grind
 |cons v l E=>cases h with|cons D b=>exact .cons D (E b)
def bh.xC{C j}(h:bh aC C j):∀n,∃s,bh aC (fB C n) s/\s=(gP n j).flatten
 |0=>⟨[],.nil,rfl⟩
 |n+1=>by
  obtain⟨s,D,b⟩:=bh.xC h n;exact⟨j++s,h.append D,by grind⟩
theorem bh.get{l}:∀{C}{n}{v},bh aC l C->pA l n=some v->∃D,bq aC v D/\C[n]?=some D:=by
 induction l with
 |nil=>intro C n v h j;cases j
 |cons J l E=>
  intro C n v h j;cases h with
  |cons G b=>
   cases n with
   |zero=>cases j;simp_all
   |succ n=>obtain⟨D,q,I⟩:=E b j;simp_all
theorem bh.drop{l}:∀{j}(n),bh aC l j->bh aC (Dm l n) (oh j n):=by
 induction l with
 |nil=>intro j n h;cases h;cases n<;>exact .nil
 |cons E l D=>
  intro j n h;cases h with
  |cons C b=>
   cases n with
   |zero=>exact .cons C b
   |succ n=>exact D n b
theorem bh.take{l}:∀{C}{n}{s},bh aC l C->rm l n=some s->∃D,bh aC s D/\kq C n=some D:=by
 induction l with
 |nil=>
  intro C n s h j;cases h;cases n with
  |zero=>cases j;exact⟨[],.nil,rfl⟩
  |succ n=>cases j
 |cons K l I=>
  intro C n s h j;cases h with
  | @cons _ D _ C E b=>
   cases n with
   |zero=>cases j;exact⟨[],.nil,rfl⟩
   |succ n=>
    obtain⟨y,aa,ab⟩:=ao.1 (show U (rm l n) _=some s from j);cases ab;obtain⟨J,q,G⟩:=I b aa;exact⟨D::J,.cons E q,by simp[kq,G]⟩
def bh.uL{C:List al}:∀{E:cs}{l:List al}{j:cs}{s:List al},bh aC C E->bh aC l j->uL C l=some s->C.length<=l.length/\bh aC s (ej j 0 E):=by
 induction C with
 |nil=>intro E l j s h G D;cases h;cases D;rw[rg];simp_all
 |cons Q C K=>
  intro E l j s h G D;cases h with
  |cons I b=>
   cases G with
   |nil=>cases D
   | @cons W R l j O J=>
    obtain⟨y,aa,ab⟩:=ao.1 (show U _ _=some s from D);cases ab;obtain⟨aH,aP⟩:=K b J aa;exact⟨by simp_all,.cons I aP⟩
def bh.lay{l}:∀{j}{G}{D}{n}{s},bh aC j G->bh aC l D->wS l n j=some s->n+j.length<=l.length/\bh aC s (ej D n G):=by
 induction l with
 |nil=>
  intro j G D n s h E C;cases E;cases n with
  |zero=>
   have I:=C;have:=h.uL .nil I;simp_all
  |succ n=>cases C
 |cons Q l K=>
  intro j G D n s h E C;cases n with
  |zero=>
   have I:=C;have:=h.uL E I;simp_all
  |succ n=>
   cases E with
   | @cons _ O _ D J b=>
    obtain⟨y,aa,ab⟩:=ao.1 (show U (wS l n j) _=some s from C);cases ab;obtain⟨aH,aP⟩:=K h b aa;refine⟨by grind,?_⟩;rw[Bb];exact .cons J aP
theorem ng{v q}(h:iX v=some q):v=.ag q.1 q.2:=by cases v<;>cases h;rfl
theorem nf{v q}(h:kD v=some q):v=.b q:=by cases v<;>cases h;rfl
theorem kE{v q}(h:hK v=some q):v=.i q.1 q.2:=by cases v<;>cases h;rfl
def pl{v n}(h:tX v=some n):∃C,v=.i C (n:Int):=by
 cases v with
 |i C j=>cases j with
  |ofNat j=>cases h;simp
  |negSucc j=>cases h
 | _=>cases h
theorem tY{v q}(h:qy v=some q):v=.s q:=by cases v<;>cases h;rfl
theorem tV{v q}(h:qx v=some q):v=.m q:=by cases v<;>cases h;rfl
theorem rU{v q}(h:n9 v=some q):v=.bm q:=by cases v<;>cases h;rfl
theorem CL{v q}(h:tZ v=some q):v=.b1 q:=by cases v<;>cases h;rfl
theorem v0{v q}(h:pk v=some q):v=.f q.1 q.2.1 q.2.2:=by cases v<;>cases h;rfl
theorem CM{v q}(h:v7 v=some q):v=.y q.1 q.2:=by cases v<;>cases h;rfl
def yS{v q}(h:vZ v=some q):(∃j,v=.ce j q)\/∃C s n,v=.io C s n q:=by
 cases v<;>cases h
 ·simp
 simp
theorem I8{v q}(h:yV v=some q):v=.io q.1 q.2.1 q.2.2.1 q.2.2.2:=by cases v<;>cases h;rfl
theorem yU{v q}(h:tW v=some q):v=.oD q:=by cases v<;>cases h;rfl
theorem yT{v q}(h:v2 v=some q):v=.pS q:=by cases v<;>cases h;rfl
theorem bq.cells{v j}(h:bq aC v j):bh aC (hM v) (ee j):=by
 cases h with
 | @bm l I h=>
  assumption
 |i=>exact .cons .i .nil
 |b=>exact .cons .b .nil
 |s=>exact .cons .s .nil
 |ag q=>exact .cons (.ag q) .nil
 |fJ=>exact .cons .fJ .nil
 |dm q=>exact .cons (.dm q) .nil
 |cH q G=>exact .cons (.cH q G) .nil
 |hl=>exact .cons .hl .nil
 |eA=>exact .cons .eA .nil
 |m q=>exact .cons (.m q) .nil
 |cR=>exact .cons .cR .nil
 |f C b D=>exact .cons (.f C b D) .nil
 |jt=>exact .cons .jt .nil
 |y q=>exact .cons (.y q) .nil
 |jv=>exact .cons .jv .nil
 |b1 q=>exact .cons (.b1 q) .nil
 |bb=>exact .cons .bb .nil
 |dK q=>exact .cons (.dK q) .nil
 |fL=>exact .cons .fL .nil
 |h8 q=>rw[C7 q];exact .cons (.h8 q) .nil
 |gj=>exact .cons .gj .nil
 |fq q E=>exact .cons (.fq q E) .nil
 |xs=>exact .cons .xs .nil
def EM{J E g}(h:∀D v,E D=some v->bq aC v (g D)):∀{l:List J}{j},h6 E l=some j->bh aC j (l.map g)
 | [],j,C=>by cases C;exact .nil
 |x::l,j,C=>by
  obtain⟨y,aa,ab⟩:=ao.1 (show U _ _=some j from C);obtain⟨s,G,I⟩:=ao.1 ab;cases I;exact .cons (h _ _ aa) (EM h G)
theorem sG:∀(d){v}{j},xd d v=some j->bq aC j v
 |0,_,_,h=>by cases h
 |d+1,v,j,h=>by
  replace h:E8 v _=some j:=h;unfold E8 at h;split at h
  ·cases h;exact .b
  ·cases h;exact .i
  ·cases h;exact .s
  ·cases h;exact .fJ
  ·cases h;exact .eA
  ·cases h;exact .cR
  ·cases h;exact .jt
  ·cases h;exact .jv
  ·obtain⟨E,aa,ab⟩:=ao.1 h;cases ab;have:=EM (g:=id) (λD v C=>sG d C) aa;rw[HQ]at this;exact .bm this
  ·obtain⟨E,aa,ab⟩:=ao.1 h;cases ab;have:=EM (g:=id) (λD v C=>sG d C) aa;rw[HQ]at this;exact .b1 this
  trivial
end
def eb(G:aV Ω)(E:dH)(D:Act):Prop:=∀j v,E.get j=some v->∃C,bq G v C/\D.tmps[j]?=some C
def hP(j:Act):bW:=lM j.tmps.toList 0
def I6:∀(l)(j C)(v),l[C]?=some v->(lM l j).get (j+C)=some v
 | [],_,_,_,h=>by trivial
 |u::l,j,0,v,h=>by
  cases h;simp[lM,bW.get]
 |u::l,j,C+1,v,h=>by
  have D:aA j (j+(C+1))=false:=by
   grind[bV]
  have:=I6 l (j+1) C v (by assumption);simp[lM,bW.get,cond_false];grind
theorem d0(j):eD (hP j) j:=λC v h=>by
 obtain⟨E,rfl,D⟩:=vW _ 0 C v h;simp_all
def eb.mono{D E:aV Ω}(h:D.le E){C j}(s:eb D C j):eb E C j:=λI v G=>by
 obtain⟨K,q,J⟩:=s I v G;exact⟨K,q.mono h,J⟩
def c8{I:aV Ω}{G C}(s:eb I G C){D v}(h:cX D G=some v):∃j,aY (hP C) D=some j/\bq I v j:=by
 cases D with
 |tmp E=>
  obtain⟨j,q,O⟩:=s E v h;refine⟨j,?_,q⟩;have:=I6 C.tmps.toList 0 E j (by simp_all);rw[iQ]at this;trivial
 |const J=>exact⟨J,rfl,sG 9 h⟩
 |global g=>cases h
 |func K=>cases h;exact⟨_,rfl,.f .func .nil .nil⟩
theorem eb.put{E:aV Ω}{t D}(s:eb E t D){d v I}(h:bq E v I)(Q:∀j,d=some j->j<D.tmps.size):eb E (gn t d v) (D.put d I):=by
 cases d with
 |none=>exact s
 |some C=>
  intro j K O;have U:=Q C p;have G:(c4.set (Nat.succ C) t C _).get j=some K:=O;rw[c4.lp]at G;show ∃J,bq E K J/\(D.tmps.setIfInBounds C I)[j]?=some J
  by_cases R:j=C
  ·simp_all
  ·rw[if_neg R]at G;obtain⟨J,q,W⟩:=s j K G;grind
def km(j:k5):I:=⟨j.1,j.2.1,j.2.2⟩
def fH(j:Int×k5):Int×I:=(j.1,km j.2)
def dO(j:k5×Bool):I×Bool:=(km j.1,j.2)
def ea(G:aV Ω)(o:cl)(j O:Nat):aO:=match o with
 | .ce Q J=>λh=>∃E,bh G J E/\ae j Q E h
 | .io R W n J=>λh=>∃E,bh G J E/\own R W (some ⟨j,0,none⟩) n O E h
 | .oD C=>co j (C.map fH)
 | .pS C=>co j (C.map dO)
 | .rb b C K q=>λh=>∃D I,G b=some (D,I)/\gJ j D (C.map fH) (K.map fH).toList (q.map fH) h
 | .q9 b C K q=>λh=>∃D I,G b=some (D,I)/\gJ j D (C.map dO) (K.map dO).toList (q.map dO) h
 | .no=>λ_=>True
 | .b3 U=>Ω.b6 U j O
def c9(D:aV Ω)(h:bQ)(j:Nat):aO:=match h.get j with
 |none=>λ_=>True
 |some o=>match D j with
  |none=>λ_=>False
  |some C=>ea D o C.1 C.2
def bJ(j:aV Ω)(h:bQ):List aO:=(hZ h.n).map (c9 j h)
def eB(C:aV Ω)(h:bQ)(j:Nat):List aO:=((hZ h.n).erase j).map (c9 C h)
structure ST (g:c0) (F:aO) (C:aV Ω) (h:bQ) (D:World):Prop where
 dp:∀j,h.n<=j->C j=none
 dC:a4 g (F::bJ C h) D
def ea.mono{O Q:aV Ω}(l:O.le Q){o J K h}(C:ea O o J K h):ea Q o J K h:=by
 cases o with
 |ce W R=>obtain⟨I,j,b⟩:=C;exact⟨I,j.mono l,b⟩
 |io s Z n R=>obtain⟨I,j,b⟩:=C;exact⟨I,j.mono l,b⟩
 |oD G=>exact C
 |pS G=>exact C
 |rb b G U q=>obtain⟨D,E,j,b⟩:=C;exact⟨D,E,l _ _ j,b⟩
 |q9 b G U q=>obtain⟨D,E,j,b⟩:=C;exact⟨D,E,l _ _ j,b⟩
 |no=>trivial
 |b3 Y=>exact C
def vb{D E}(l:List Nat)(C:∀j∈l,∀h,D j h->E j h):∀h,G (l.map D) h->G (l.map E) h:=by
 induction l with
 |nil=>exact λ_ s=>s
 |cons j l K=>
  rintro h ⟨aa,ab,J,R,U,I,O⟩;exact⟨aa,ab,J,R,U,C j Q _ I,K (λj W=>C j (by simp_all)) _ O⟩
theorem XP(h:bQ)(j:Nat)(C:h.get j=none)(D:aV Ω):c9 D h j=λ_=>True:=by simp[c9,C]
theorem xt{h:bQ}{j:Nat}{o:cl}(E:h.get j=some o)(C:aV Ω):c9 C h j=match C j with
  |none=>λ_=>False
  |some D=>ea C o D.1 D.2:=by simp[c9,E]
def NK{D J:aV Ω}(l:D.le J)(h j G)(C:c9 D h j G):c9 J h j G:=by
 cases E:h.get j with
 |none=>rw[XP h j E];simp
 |some o=>
  rw[xt E]at C ⊢;cases I:D j with
  |none=>simp_all
  |some K=>rw[I]at C;rw[l _ _ I];exact ea.mono l C
def Qs{C D:aV Ω}(l:C.le D)(h):∀j,G (bJ C h) j->G (bJ D h) j:=vb _ λI _ j E=>NK l h I j E
section
variable{g:c0}{F:aO}{aC:aV Ω}{h:bQ}{w:World}{k B c:Nat}{o:cl}
theorem ST.lt(s:ST g F aC h w){C}(j:aC k=some C):k<h.n:=by
 rcases eC k _ with q|q
 ·omega
 ·rw[s.dp k q]at j;grind
def ST.open(s:ST g F aC h w)(j:aC k=some (B,c))(I:h.get k=some o):a4 g (ea aC o B c::F::eB aC h k) w:=by
 have E:=lD.2 (s.lt j);have C:(bJ aC h).Perm (c9 aC h k::eB aC h k):=(lF E).map _;have D:c9 aC h k=ea aC o B c:=by simp[c9,I,j]
 rw[D]at C;exact s.dC.mono λJ q=>G.perm (((C.cons F).trans (.swap _ _ _))) q
theorem A4(C):eB aC (h.put k C) k=eB aC h k:=by
 refine rz λE j=> ?_;have D:=((List.nodup_range).mem_erase_iff.1 j).1;simp_all[c9,bQ.get,bQ.put,c4.lp]
theorem zU(j):(h.put k j).get k=some j:=by simp[bQ.get,bQ.put,c4.lp]
def ST.close{o'}(E:∀k,h.n<=k->aC k=none)(C:aC k=some (B,c))(s:a4 g (ea aC o' B c::F::eB aC h k) w):ST g F aC (h.put k o') w:=by
 have J:k<h.n:=by
  grind
 refine⟨E,?_⟩;have I:=lD.2 J;have j:(bJ aC (h.put k o')).Perm (c9 aC _ k::eB aC _ k):=(lF I).map _;have D:c9 aC (h.put k o') k=ea aC o' B c:=by simp[c9,zU,C]
 rw[D,A4]at j;exact s.mono λK q=>G.perm (((j.cons F).trans (.swap _ _ _)).symm) q
def ext(aC:aV Ω)(k:Nat)(C:Nat×Nat):aV Ω:=λj=>if j=k then some C else aC j
def sd(j)(D:aC k=none):aC.le (ext aC k j):=λE y C=>by
 unfold ext;grind
theorem ux(j):ext aC k j k=some j:=by simp[ext]
theorem ST.new(s:∀k,h.n<=k->aC k=none)(q:a4 g (ea (ext aC h.n (B,c)) o B c::F::bJ aC h) w):aC.le (ext aC h.n (B,c))/\ext aC h.n (B,c) h.n=some (B,c)/\ST g F (ext aC h.n (B,c)) (h.new o) w:=by
 have D:=sd (B,c) (s _ (bv _));refine⟨D,ux _,?_,?_⟩
 ·intro k I;have U:h.n+1<=k:=I;unfold ext;grind
 ·have E:bJ (ext aC h.n (B,c)) (h.new o)=(hZ h.n).map (c9 (ext aC h.n (B,c)) h)++[ea (ext aC h.n (B,c)) o B c]:=by
   show(hZ (h.n+1)).map _= _;rw[List.range_succ,gM]
   congr 1
   ·refine rz λK R=> ?_;have J:K≠h.n:=by grind
    unfold c9 bQ.get bQ.new;simp[c4.lp,if_neg J]
   ·congr 1
    unfold c9 bQ.get bQ.new;simp[c4.lp,if_true,ux]
  rw[E];refine q.mono λj C=> ?_;have O:=C.swap;refine O.ep λj Q=> ?_;have fM:=Q.ep λj C=>Qs D h j C;exact G.perm (List.perm_append_comm) fM
end
end aX
end
section
namespace aX
variable{Ω:bX}
theorem zL{E}:∀(l:List E)(j),(qH l true)[j]?=l[2*j]?/\(qH l false)[j]?=l[2*j+1]?
 | [],j=>by trivial
 |x::l,j=>by
  have C:qH (x::l) true=x::qH l _:=rfl;have D:qH (x::l) false=qH l _:=rfl;rw[C,D];refine⟨?_,?_⟩
  ·cases j with
   |zero=>rfl
   |succ j=>rw[x9,(zL l j).2,show 2*(j+1)=2*j+1+1 by rfl,x9]
  ·rw[(zL l j).1,x9]
def xc{J}:∀(n)(l)(j)(D:J),(fA n l).get j=some D->l[j]?=some D
 |0,l,j,D,h=>by cases h
 |n+1,[],j,D,h=>by cases h
 |n+1,y::I,j,D,h=>by
  have C:(c4.eQ _ _ _).get j=some D:=h;rw[c4.qL]at C;rcases g9 j with rfl|K
  ·trivial
  ·have E:aA j 0=false:=by cases j with|zero=>omega|succ j=>rfl
   rw[E,cZ]at C;rcases yd j with G|aa
   ·rw[G,show aA 0 1=false from rfl,cZ]at C;have:=xc n _ _ _ C;rw[(zL I _).2]at this;grind
   ·rw[aa,show aA 1 1=true from rfl,df]at C;have:=xc n _ _ _ C;grind[zL]
section
variable{P:Program}{T:TypeId}
theorem mB{j}(h:kj P T=some j):P.info? T=some j:=by
 have:=xc 12 _ T j h;have ab:P.types[T]?=some j:=by simp_all
 have C:=(Array.getElem?_eq_some_iff.1 ab).1;unfold Tables.info?;simp_all
theorem lv{j}(h:kt P T=some j):P.underlying T=some j:=by
 obtain⟨E,aa,ab⟩:=ao.1 (show U _ _=some j from h);have D:=mB aa;unfold Program.underlying;rw[D];obtain⟨C,G,I,J,K,O,Q,R⟩:=E;cases C<;>first
  |(cases ab;rfl)
  |(obtain⟨Z,W,Y⟩:=ao.1 (show U (kj P _) _=some j from ab)
    simp_all[mB])
def p8{j}(h:kp P T=some j):∃C,eo P T (j.1,j.2,C):=by
 obtain⟨D,aa,ab⟩:=ao.1 h;obtain⟨Q,G,I⟩:=ao.1 ab;obtain⟨O,J,K⟩:=ao.1 I;cases K;have E:=lv aa;cases D<;>cases G;exact⟨O.bytes,⟨by simp[Gn,E,mB J]⟩⟩
theorem yQ{j}(h:tT P T=some j):lH P T j:=by
 obtain⟨C,aa,ab⟩:=ao.1 h;obtain⟨K,E,G⟩:=ao.1 ab;obtain⟨O,I,J⟩:=ao.1 G;cases J;have D:=lv aa;cases C<;>cases E;exact⟨by simp[CI,D,mB I]⟩
def xK{D}(h:oL P T=some D):(D.1=true/\gR P T D.2)\/(D=(false,1)/\dr P T):=by
 obtain⟨E,aa,ab⟩:=ao.1 h;obtain⟨O,Q,C⟩:=ao.1 ab;have I:=lv aa;have J:=mB Q;have one:O7 E _=Z (aA O.size 1) (some (false,1)) none->(∀K,E≠ .struct K)->(∀n j,E≠ .array n j)->D=(false,1)/\dr P T:=λj R U=>by
  rw[j]at C;have G:aA O.size 1=true:=by
   cases G:aA _ 1 with
   |true=>rfl
   |false=>rw[G]at C;trivial
  rw[G]at C;cases C;refine⟨rfl,⟨?_⟩⟩;unfold il;simp_all
 cases E with
 |struct K=>cases C;exact .inl ⟨rfl,⟨by simp[nc,I,J]⟩⟩
 |array n j=>cases C;exact .inl ⟨rfl,⟨by simp[nc,I,J]⟩⟩
 | _=>exact .inr (one p (λ_ j=>by cases j) (λ_ _ j=>by cases j))
theorem KK{C j}(h:DG P T C=some j):bk P T C (j.1,j.2.2,j.2.1):=by
 obtain⟨E,aa,ab⟩:=ao.1 h;obtain⟨al,Q,R⟩:=ao.1 ab;obtain⟨J,U,W⟩:=ao.1 R;obtain⟨s,D,Y⟩:=ao.1 W;cases Y;have G:=lv aa;cases E<;>cases Q;refine⟨?_⟩;unfold wD;rw[G];simp[U];rcases xK D with ⟨aH,aP⟩|⟨aH,aP⟩
 ·have Z:il P J.type=false:=by
   have q:=aP.h;unfold nc at q;unfold il;grind
  obtain⟨ak,ap,K⟩:=ao.1 D;obtain⟨ag,O,am⟩:=ao.1 K;have I:=mB O;have ae:ag.size=s.2:=by
   have q:=aP.h;unfold nc at q;grind[bV]
  rw[Z,I];simp[Bool.false_eq_true,if_false,If,ae,aP.h,if_true,aH]
 ·rw[aP.h];simp_all
def s8{E}(h:qh P T=some E):∃v,(∀j,(zeroValue T).run P j=.ok v j)/\(∀{Ω}(G:aV Ω),bq G E v)/\cy P T (ee v):=by
 obtain⟨J,aa,ab⟩:=ao.1 h;obtain⟨v,D,I⟩:=ao.1 ab;have C:=mB aa;refine⟨v,λj=>by simp[zeroValue,typeInfo,C,D],λG=>sG 9 I,⟨?_⟩⟩;simp[C,If,D,Option.map_some,rZ]
end
def iC(Ω:bX)(E:Program)(G:dH)(o:Oper)(v:al):Prop:=∀(D:aV Ω) j,eb D G j->∃C,bq D v C/\bf E [] (hP j) o C
def nM{h j C v}(D:nL h C=some (v,j)):C=some v/\j=h:=by
 obtain⟨y,aa,ab⟩:=ao.1 D;simp_all
section
variable{P:Program}{t:dH}{h a6:bQ}{v:al}{d:Option Nat}{aQ T cE:TypeId}{a3:String}{a2:Array Edge}{a0:Option (Nat×Bool)}{x y z:Operand}
def N7(j:AE x P t h=some (v,a6)):a6=h/\iC Ω P t ⟨d,.move x,aQ,a3,a2,a0⟩ v:=by
 obtain⟨aa,ab⟩:=nM j;refine⟨ab,λI G s=> ?_⟩;obtain⟨E,C,D⟩:=c8 s aa;exact⟨E,D,fv C⟩
def NU(j:AE x P t h=some (v,a6)):a6=h/\iC Ω P t ⟨d,.assign x,aQ,a3,a2,a0⟩ v:=by
 obtain⟨aa,ab⟩:=nM j;refine⟨ab,λI G s=> ?_⟩;obtain⟨E,C,D⟩:=c8 s aa;exact⟨E,D,Ku C⟩
def Ob(J:Nd z x y P t h=some (v,a6)):a6=h/\iC Ω P t ⟨d,.pick z x y,aQ,a3,a2,a0⟩ v:=by
 obtain⟨U,aa,ab⟩:=ao.1 J;obtain⟨b,K,O⟩:=ao.1 ab;obtain⟨E,Q⟩:=nM O;refine⟨Q,λW R s=> ?_⟩;obtain⟨j,G,I⟩:=c8 s aa;rw[nf K]at I;cases I;cases b with
 |true=>
  obtain⟨j,D,C⟩:=c8 s E;exact⟨j,C,eP G p D⟩
 |false=>
  obtain⟨j,D,C⟩:=c8 s E;exact⟨j,C,eW G p D⟩
def N9(C:Nc x P t h=some (v,a6)):a6=h/\iC Ω P t ⟨d,.nilCheck x,aQ,a3,a2,a0⟩ v:=by
 obtain⟨R,aa,ab⟩:=ao.1 C;obtain⟨D,G⟩:=cu.1 ab;cases G;refine⟨rfl,λZ O s=> ?_⟩;obtain⟨K,j,E⟩:=c8 s aa;refine⟨K,E,?_⟩;cases E with
 |ag q=>exact sc j
 |f I W U=>
  cases I with
  |method=>exact absurd D (by trivial)
  |func=>exact pz (λ_ C=>by grind) j
  |methodOf=>exact pz (λ_ C=>by grind) j
  |via=>exact pz (λ_ C=>by grind) j
  |yield q=>exact pz (λ_ C=>by grind) j
 |y q=>
  intro Q Y J _;simp only[execOp,J.eval j];rfl
 | _=>cases D
def Oa(C:w8 .not x P t h=some (v,a6)):a6=h/\iC Ω P t ⟨d,.unOp .not T x,aQ,a3,a2,a0⟩ v:=by
 obtain⟨K,aa,ab⟩:=ao.1 C;obtain⟨O,D⟩:=nM ab;obtain⟨b,E,G⟩:=ao.1 (show U _ _=some v from by assumption);cases G;refine⟨D,λR J s=> ?_⟩;obtain⟨Q,I,j⟩:=c8 s aa;rw[nf E]at j;cases j;exact⟨_,.b,cL I⟩
def NY{C}(E:M0 x C P t h=some (v,a6)):a6=h/\iC Ω P t ⟨d,.extract x C,aQ,a3,a2,a0⟩ v:=by
 obtain⟨W,aa,ab⟩:=ao.1 E;obtain⟨l,I,J⟩:=ao.1 ab;obtain⟨K,O⟩:=nM J;refine⟨O,λY U s=> ?_⟩;obtain⟨D,Q,j⟩:=c8 s aa;rw[CL I]at j;cases j with
 |b1 q=>
  obtain⟨D,R,G⟩:=q.get K;exact⟨D,R,ur Q G⟩
def NZ{j}(I:M1 T x j P t h=some (v,a6)):a6=h/\iC Ω P t ⟨d,.fieldAddr T x j,aQ,a3,a2,a0⟩ v:=by
 obtain⟨ak,aa,ab⟩:=ao.1 I;obtain⟨q,J,K⟩:=ao.1 ab;obtain⟨E,O,Q⟩:=ao.1 K;obtain⟨R,U⟩:=cu.1 Q;cases U;refine⟨rfl,λap ae s=> ?_⟩;obtain⟨am,W,C⟩:=c8 s aa;rw[ng J]at C;cases C with
 |ag Z=>
  have G:=KK O;obtain⟨D,Y⟩:∃D,E.2.2=D+1:=⟨E.2.2-1,by have:=Nat.lt_of_lt_of_eq (eT R) p;omega⟩;rw[Y]at G;exact⟨_,.ag Z,iE W⟩
def xn{b l v}(j:uW b l=some v):(b=true/\v=.bm l)\/(b=false/\l=[v]):=by
 cases b with
 |true=>cases j;simp
 |false=>
  cases l with
  |nil=>cases j
  |cons C l=>
   cases l with
   |nil=>cases j;simp
   |cons _ _=>cases j
def ZE{l o j}(C:kq (oh l o) 1=some [j]):l[o]?=some j:=by
 have:=(lr C).2 0 j p;rw[qE,tn]at this;omega
def N0{E}(Q:M2 T x E P t h=some (v,a6)):a6=h/\iC Ω P t ⟨d,.field T x E,aQ,a3,a2,a0⟩ v:=by
 obtain⟨au,aa,ab⟩:=ao.1 Q;obtain⟨l,U,W⟩:=ao.1 ab;obtain⟨ap,Y,Z⟩:=ao.1 W;obtain⟨av,ae,ag⟩:=ao.1 Z;obtain⟨ak,R⟩:=nM ag;refine⟨R,λay ar s=> ?_⟩;obtain⟨aw,G,I⟩:=c8 s aa;rw[rU U]at I;cases I with
 |bm q=>
  have C:=KK Y;obtain⟨ax,J,j⟩:=(q.drop _).take ae;rcases xn ak with ⟨D,rfl⟩|⟨D,rfl⟩
  ·rw[D]at C;exact⟨_,.bm J,Kx G j⟩
  ·cases J with
   |cons K O=>
    cases O;rw[D]at C;have am:ap.2.2=1:=by
     have:=(lr j).1;simp_all
    rw[am]at C j;exact⟨_,K,Kw G (ZE j)⟩
def xj{G:aV Ω}{E}(s:eb G t E):∀{l}{j},h6 (λx=>cX x t) l=some j->∃C,kf (hP E) l=some C/\bh G j C
 | [],j,D=>by cases D;exact⟨[],rfl,.nil⟩
 |x::l,j,D=>by
  obtain⟨y,aa,ab⟩:=ao.1 (show U _ _=some j from D);obtain⟨Y,I,J⟩:=ao.1 ab;cases J;obtain⟨W,K,O⟩:=c8 s aa;obtain⟨C,Q,R⟩:=xj s I;exact⟨W::C,by simp[kf,K,Q],.cons O R⟩
def N5{D l C}(j:M8 D l C P t h=some (v,a6)):a6=h/\iC Ω P t ⟨d,.makeFunc D l C,aQ,a3,a2,a0⟩ v:=by
 obtain⟨Z,j⟩:=cu.1 j;have Y:∀E,D≠ .yield E:=λE j=>by subst j;trivial
 obtain⟨U,aa,ab⟩:=ao.1 j;obtain⟨W,G,I⟩:=ao.1 ab;cases I;refine⟨rfl,λak R s=> ?_⟩;obtain⟨ae,J,K⟩:=xj s aa;obtain⟨ag,O,Q⟩:=xj s G;obtain⟨l⟩:=l;obtain⟨C⟩:=C;refine⟨_,.f ?_ K Q,Ky J O⟩;cases D with
 |yield E=>trivial
 | _=>constructor
end
end aX
end
section
namespace aX
variable{Ω:bX}
theorem hg{j b}:gb j b=true<->j=b:=by cases j<;>cases b<;>decide
theorem lX(C y):dI C y=decide (C=y):=by
 cases C<;>cases y
 ·rename_i j n
  show aA j n= _
  by_cases h:j=n
  ·simp_all
  grind[bV]
 ·rfl
 ·rfl
 ·rename_i j n
  show aA j n= _
  by_cases h:j=n
  ·simp_all
  grind[bV]
theorem nj(j n):dT j n=decide (j<n):=by grind[BX,dT,eT]
theorem uC(C y):pH C y=decide (C<y):=by
 cases C<;>cases y
 ·rename_i j n
  show dT j n= _;rw[nj];simp
 ·rfl
 ·rename_i j n
  show true= _;grind
 ·rename_i j n
  show dT n j= _;grind[nj,decide_eq_false]
theorem s4(j n):rp j n=j.wrap n:=by
 cases n with
 |ofNat D=>
  show Z (dT D _) _ _= _;rw[nj]
  by_cases h:D<pG j
  ·rw[decide_eq_true h];show(D:Int)=j.wrap _;cases j<;>(simp[pG]at h;simp[BG,IntKind.bits,IntKind.signed];omega)
  ·rw[decide_eq_false h];rfl
 |negSucc D=>
  show Z (Z _ _ _) _ _= _;rw[nj]
  by_cases h:D<pG j
  ·rw[decide_eq_true h];have G:∀(j:IntKind) (M E:Int),(2 ^ j.bits:Int)=M->(2 ^ (j.bits-1):Int)=E->M=2*E->j.signed=true->(D:Int)<E->Int.negSucc D=j.wrap (Int.negSucc D):=λj M E K O Q R U=>by
    unfold BG;have J:Int.negSucc D= -((D:Int)+1):=rfl;have W:Int.negSucc D % M=M-(D+1):=by
     rw[J];have: -((D:Int)+1)=(M-(D+1))-M:=C;rw[this,Int.sub_emod_right];exact Int.emod_eq_of_lt C C
    grind
   cases j with
   |i8=>exact G _ _ 128 aZ aZ aZ p (by grind[pG])
   |i16=>exact G _ _ 32768 aZ aZ aZ p (by grind[pG])
   |i32=>exact G _ _ 2147483648 aZ aZ aZ p (by grind[pG])
   |i64=>exact G _ _ 9223372036854775808 aZ aZ aZ p (by grind[pG])
   |u8=>rfl
   |u16=>exact cZ _ _
   |u32=>exact cZ _ _
   |u64=>exact cZ _ _
  ·rw[decide_eq_false h];have I:Z (LF j) false false=false:=by cases j<;>decide
   rw[I,cZ]
section
variable{P:Program}{t:dH}{h a6:bQ}{v:al}{d:Option Nat}{aQ T cE:TypeId}{a3:String}{a2:Array Edge}{a0:Option (Nat×Bool)}{x y z:Operand}
def Ko(E C D G q j):(eqGuard E T x y (.int C G) (.int D q)).run P j=.ok () j:=by
 unfold eqGuard;simp
def R9{R E J Q q}(K:Z (Gm R) true (gb E J)=true)(I:CT R E Q q=some v):∃Y,(∀{Ω}(G:aV Ω),bq G v Y)/\∀D,(binOp R T (.int E Q) (.int J q)).run P D=.ok Y D:=by
 cases R with
 |shl=>
  have C:Z _ _ _=some v:=I;rw[uC]at C
  by_cases O:q<Int.ofNat 0
  ·rw[decide_eq_true O]at C;trivial
  ·rw[decide_eq_false O]at C;cases C;exact⟨_,λG=> .i,λD=>by simp[binOp,Hh,show ¬q<0 from O,s4]⟩
 |shr=>
  have C:Z _ _ _=some v:=I;rw[uC]at C
  by_cases O:q<Int.ofNat 0
  ·rw[decide_eq_true O]at C;trivial
  ·rw[decide_eq_false O]at C;cases C;exact⟨_,λG=> .i,λD=>by simp[binOp,Hh,show ¬q<0 from O]⟩
 |quo=>
  have j:=hg.1 (show gb E J=true from K);subst j;have C:Z _ _ _=some v:=I;rw[lX]at C
  by_cases O:q=Int.ofNat 0
  ·rw[decide_eq_true O]at C;trivial
  ·rw[decide_eq_false O]at C;cases C;exact⟨_,λG=> .i,λD=>by simp[binOp,Hf,show q≠0 from O,s4]⟩
 |rem=>
  have j:=hg.1 (show gb E J=true from K);subst j;have C:Z _ _ _=some v:=I;rw[lX]at C
  by_cases O:q=Int.ofNat 0
  ·rw[decide_eq_true O]at C;trivial
  ·rw[decide_eq_false O]at C;cases C;exact⟨_,λG=> .i,λD=>by simp[binOp,Hf,show q≠0 from O]⟩
 |add=>have j:=hg.1 (show gb E J=true from K);subst j;cases I;exact⟨_,λG=> .i,λD=>by rw[s4];simp[binOp];try rfl⟩
 |sub=>have j:=hg.1 (show gb E J=true from K);subst j;cases I;exact⟨_,λG=> .i,λD=>by rw[s4];simp[binOp];rfl⟩
 |mul=>have j:=hg.1 (show gb E J=true from K);subst j;cases I;exact⟨_,λG=> .i,λD=>by rw[s4];simp[binOp];try rfl⟩
 |and=>have j:=hg.1 (show gb E J=true from K);subst j;cases I;exact⟨_,λG=> .i,λD=>by simp[binOp,x5]⟩
 |or=>have j:=hg.1 (show gb E J=true from K);subst j;cases I;exact⟨_,λG=> .i,λD=>by simp[binOp,x5]⟩
 |xor=>have j:=hg.1 (show gb E J=true from K);subst j;cases I;exact⟨_,λG=> .i,λD=>by simp[binOp,x5]⟩
 |andNot=>have j:=hg.1 (show gb E J=true from K);subst j;cases I;exact⟨_,λG=> .i,λD=>by simp[binOp,x5]⟩
 |eql=>have j:=hg.1 (show gb E J=true from K);subst j;cases I;exact⟨_,λG=> .b,λD=>by rw[lX];by_cases W:Q=q<;>simp[binOp,j3,W]⟩
 |neq=>have j:=hg.1 (show gb E J=true from K);subst j;cases I;exact⟨_,λG=> .b,λD=>by rw[l0,lX];by_cases W:Q=q<;>simp[binOp,j3,W]⟩
 |lss=>have j:=hg.1 (show gb E J=true from K);subst j;cases I;exact⟨_,λG=> .b,λD=>by rw[uC];simp[binOp,j3]⟩
 |leq=>have j:=hg.1 (show gb E J=true from K);subst j;cases I;exact⟨_,λG=> .b,λD=>by
  have U:gg (pH q Q)=decide (Q<=q):=by
   rw[l0,uC];grind
  simp[binOp,j3,U]⟩
 |gtr=>have j:=hg.1 (show gb E J=true from K);subst j;cases I;exact⟨_,λG=> .b,λD=>by rw[uC];simp[binOp,j3]⟩
 |geq=>have j:=hg.1 (show gb E J=true from K);subst j;cases I;exact⟨_,λG=> .b,λD=>by
  have U:gg (pH Q q)=decide (Q>=q):=by
   rw[l0,uC];grind
  simp[binOp,j3,U]⟩
def vh{C}(D:nS P T=C)(E:C≠0):∃j,P.underlying T=some j/\PE j=C:=by
 cases G:kt P T with
 |none=>simp_all[nS]
 |some j=>simp_all[lv,nS]
def Kp:BinOp->Bool| .eql=>true| _=>false
def qA{b j C G}(Q:G=.eql\/G=.neq)(R:(∀E n,j≠ .int E n)/\(∀E n,j≠ .float E n)/\(∀E n Y,j≠ .complex E n Y)/\(∀s,j≠ .string s))(O:∀D,(eqGuard G T x y j C).run P D=.ok () D)(K:∀D,(dD T j C).run P D=.ok b D){J}(U:aY J x=some j)(W:aY J y=some C):
  bf P [] J ⟨d,.binOp G T x y cE,aQ,a3,a2,a0⟩ (.bool (Z (Kp G) b (!b))):=by
 obtain⟨ae,ag,ak,am⟩:=R;refine iY _ _ _ _ O U W λD=> ?_;rcases Q with rfl|rfl
 ·have I:binOp .eql T j C=(do pure (.bool (<- dD T j C)):Sem _):=by
   cases j<;>first|rfl|simp_all|simp_all|simp_all|simp_all
  rw[I];simp[cg,K,eJ];rfl
 ·have I:binOp .neq T j C=(do pure (.bool (!(<- dD T j C))):Sem _):=by
   cases j<;>first|rfl|simp_all|simp_all|simp_all|simp_all
  rw[I];simp only[cg,K,eJ];rfl
def TA{J}(E:P.underlying T=some (.slice J))(j n D I G C):(dD T (.slice j n D) (.slice none I G)).run P C=.ok j.isNone C:=by
 unfold dD;rw[show ly=9999+1 from rfl];unfold j2;cases j<;>simp[cg,run_underlying E]<;>rfl
def Ks{G:Array (String×TypeId)}(D:P.underlying T=some (.interface G))(j:Value)(E:j=.nilIface\/∃S v,j=.iface S v)(C:World):(dD T j .nilIface).run P C=.ok (match j with| .nilIface=>true| _=>false) C:=by
 unfold dD;rw[show ly=9999+1 from rfl];unfold j2;rcases E with rfl|⟨S,v,rfl⟩<;>simp[cg,run_underlying D]<;>rfl
theorem z5(j:qR v=true):v=.eA:=by cases v<;>cases j;rfl
theorem z4(j:sp v=true):v=.fJ:=by cases v<;>cases j;rfl
theorem D6(j:uF v=true):v=.jt:=by cases v<;>cases j;rfl
theorem D7(j:uH v=true):v=.jv:=by cases v<;>cases j;rfl
def YM{O b D}(E:OL O b=some D){Y:aV Ω}{Q W}(aa:bq Y O Q)(ab:bq Y b W):W=Q/\pr Q D=true:=by
 cases O with
 |i ak n=>
  obtain⟨q,G,I⟩:=ao.1 (show U (hK b) _=some D from E);obtain⟨j,C⟩:=cu.1 I;cases C;rw[kE G]at ab;rw[dN,dN,bL,bL,hg,hg,lX,decide_eq_true_iff]at j;obtain⟨J,K,Z⟩:=j;rw[K]at ab;subst J;cases aa;cases ab;subst Z;trivial
 |b x=>
  obtain⟨q,G,I⟩:=ao.1 (show U _ _=some D from E);obtain⟨j,C⟩:=cu.1 I;cases C;rw[nf G]at ab;rw[pp]at j;have:=eq_of_beq j;cases aa;cases ab;subst this;trivial
 |ag x o=>
  obtain⟨q,G,I⟩:=ao.1 (show U _ _=some D from E);obtain⟨j,C⟩:=cu.1 I;cases C;rw[ng G]at ab;unfold ln at j;rw[dN,bL]at j;have J:=bV j.1;have K:=bV j.2;cases aa with
  |ag ae=>
   cases ab with
   |ag R=>
    simp at J K;rw[<- J,ae]at R;cases R;rw[K];trivial
 |fJ=>
  obtain⟨j,C⟩:=cu.1 (show bK _ _=some D from E);cases C;rw[z4 j]at ab;cases aa;cases ab;trivial
 | _=>cases E
def PV{I:aV Ω}:∀{l j}{D}{E G},PU l j=some D->bh I l E->bh I j G->G=E/\jC E D=true
 | [],j,D,E,G,C,aa,ab=>by
  cases j with
  |nil=>cases C;cases aa;cases ab;trivial
  |cons _ _=>cases C
 |x::l,j,D,E,G,C,aa,ab=>by
  cases j with
  |nil=>cases C
  |cons y j=>
   obtain⟨ak,Y,Z⟩:=ao.1 (show U _ _=some D from C);obtain⟨am,ae,ag⟩:=ao.1 Z;cases ag;cases aa with
   |cons J O=>
    cases ab with
    |cons K Q=>
     obtain⟨ap,R⟩:=YM Y J K;obtain⟨ar,W⟩:=PV ae O Q;exact⟨by simp_all,by simp[jC,R,W]⟩
theorem Ph(j b:ByteArray):(j.toList==b.toList)=decide (j=b):=by
 by_cases h:j=b
 ·simp_all
 ·rw[decide_eq_false h];simp[beq_eq_false_iff_ne];intro C;rw[G2,G2]at C;exact h (by cases j;simp_all)
def JS{ae au b Y}(O:ae=.eql\/ae=.neq)(D:zd P T (nS P T) y au b=some Y){aW:aV Ω}{aK ag aS}(I:aY aK x=some ag)(J:aY aK y=some aS)(aa:bq aW au ag)(ab:bq aW b aS)(a8:hK au=none):
  bf P [] aK ⟨d,.binOp ae T x y cE,aQ,a3,a2,a0⟩ (.bool (Z (Kp ae) Y (!Y))):=by
 unfold zd at D;have ap:∀W,aA _ W=true->nS P T=W:=λW G=>bV G;cases av:aA _ 1 with
 |true=>
  rw[av,df]at D;obtain⟨C,E⟩:=cu.1 D;obtain⟨U,R,G⟩:=vh (ap _ av) Q;rw[dN,bL]at C;rw[z4 C.2]at ab;cases ab;cases E;cases U<;>first|cases G|skip
  have K:fR P T:=⟨by simp[Fu,R]⟩;cases aa<;>first|cases C.1|skip
  ·exact qA O Q (zz _ _ _) (λj=>zA K _ j) I J
  ·exact qA O Q (zz _ _ _) (λj=>zA K _ j) I J
 |false=>
 rw[av,cZ]at D;cases aw:aA _ 2 with
 |true=>
  rw[aw,df]at D;obtain⟨aI,C,E⟩:=ao.1 D;obtain⟨q,ak,am⟩:=ao.1 E;obtain⟨U,R,G⟩:=vh (ap _ aw) Q;rw[nf C]at aa;rw[nf ak]at ab;cases aa;cases ab;cases am;cases U<;>first|cases G|skip
  have K:tu P T:=⟨by simp[CY,R]⟩;rw[pp];exact qA O Q (Kn _ _ _) (λj=>Kq K _ _ j) I J
 |false=>
 rw[aw,cZ]at D;cases ax:aA _ 4 with
 |true=>
  rw[ax,df]at D;obtain⟨C,E⟩:=cu.1 D;obtain⟨U,R,G⟩:=vh (ap _ ax) Q;rw[dN,bL]at C;rw[z5 C.2]at ab;cases ab;cases E;cases U<;>first|cases G|skip
  have ar:∀(aI:Option _) (n Y:Nat) j,(eqGuard ae T x y (.slice aI n Y) (.slice none 0 0)).run P j=.ok () j:=λaI n Y j=>by
   unfold eqGuard;simp
  cases aa<;>first|cases C.1|skip
  all_goals exact qA O Q (ar _ _ _) (λj=>TA R _ _ _ _ _ j) I J
 |false=>
 rw[ax,cZ]at D;cases ay:aA (nS P T) 5 with
 |true=>
  rw[ay,df]at D;obtain⟨C,E⟩:=cu.1 D;obtain⟨U,R,G⟩:=vh (ap _ ay) Q;rw[dN,bL]at C;rw[D6 C.2]at ab;cases ab;cases E;cases U<;>first|cases G|skip
  have K:i1 P T=true:=by simp[i1,R]
  cases aa<;>first|cases C.1|skip
  ·exact qA O Q (Dv _ _ _ (.inr ⟨_,_,_,rfl⟩) p) (λj=>Tx K _ _ _ j) I J
  ·exact qA O Q (Dv _ _ _ (.inl p) p) (λj=>Kr K j) I J
 |false=>
 rw[ay,cZ]at D;cases aC:aA (nS P T) 6 with
 |true=>
  rw[aC,df]at D;obtain⟨C,E⟩:=cu.1 D;obtain⟨U,R,G⟩:=vh (ap _ aC) Q;rw[dN,dN,bL,bL]at C;rw[D7 C.2.1]at ab;cases ab;cases E;cases U<;>first|cases G|skip
  have a5:∃W,y=.const W:=by
   cases y<;>first|exact⟨_,rfl⟩|cases C.2.2
  obtain⟨W,rfl⟩:=a5;have ar:∀(ag:Value) j,(eqGuard ae T x (.const W) ag .nilIface).run P j=.ok () j:=λag j=>by
   unfold eqGuard;cases ag<;>(split<;>first|rfl|simp)
  cases aa<;>first|cases C.1|skip
  ·exact qA O Q (ar _) (λj=>Ks R _ (.inr ⟨_,_,rfl⟩) j) I J
  ·exact qA O Q (ar _) (λj=>Ks R _ (.inl p) j) I J
 |false=>
 rw[aC,cZ]at D;cases aL:aA (nS P T) 7 with
 |true=>
  rw[aL,df]at D;obtain⟨l,C,E⟩:=ao.1 D;obtain⟨a9,ak,am⟩:=ao.1 E;obtain⟨a7,aO,aE⟩:=ao.1 am;obtain⟨aX,aZ⟩:=cu.1 aE;cases aZ;rw[rU C]at aa;rw[rU ak]at ab;cases aa with
  |bm a1=>
   cases ab with
   |bm a4=>
    obtain⟨aH,aP⟩:=PV aO a1 a4;subst aH;have K:Cv P T a7:=⟨aX⟩;rcases O with rfl|rfl
    ·exact TI (G:=K) I J aP
    ·exact TN (G:=K) I J aP
 |false=>
  rw[aL,cZ]at D;obtain⟨s,C,E⟩:=ao.1 D;obtain⟨z,ak,am⟩:=ao.1 E;obtain⟨aO,aE⟩:=cu.1 am;cases aE;rw[tY C]at aa;rw[tY ak]at ab;cases aa;cases ab;refine iY _ _ _ _ (λj=>by unfold eqGuard;simp) I J λj=> ?_;rcases O with rfl|rfl
  ·have aG:binOp .eql T (.string s) (.string z)=(pure (.bool (s.toList==z.toList)):Sem Value):=rfl;rw[aG,Ph];rfl
  ·have aG:binOp .neq T (.string s) (.string z)=(pure (.bool !(s.toList==z.toList)):Sem Value):=rfl;rw[aG,Ph];rfl
def W2{v}(h:AB v=true){E:aV Ω}{C}(j:bq E v C):∃n,C=.int .i64 n:=by
 have a6:=h;cases v<;>first|cases a6|skip
 ·rename_i G n
  have D:=a6;cases hg.1 D;cases j;simp
 ·cases j;simp
 ·cases j;simp
 ·cases j;simp
 ·cases j;simp
theorem oa{v j}(h:j9 v=some j):v=.bb j:=by cases v<;>cases h;rfl
theorem wrap64(j b):IntKind.i64.wrap (IntKind.i64.wrap j+b)=IntKind.i64.wrap (j+b):=by
 have C:IntKind.i64.bits=64:=rfl;have D:IntKind.i64.signed=true:=rfl;simp[BG,C,D,Bool.true_and,decide_eq_true_eq,show(2:Int) ^ (64-1)=9223372036854775808 from rfl];omega
def RU{v C}(h:Jd v=some C){I:aV Ω}{G}(E:bq I v G):∃D,G=.int .i64 D/\∀j,IntKind.i64.wrap (D+j)=IntKind.i64.wrap (Ω.int C.1+(C.2+j)):=by
 cases v<;>first|(cases h;done)|skip
 ·cases h;cases E;simp
 ·cases h;cases E;exact⟨_,rfl,λj=>by rw[wrap64,Int.add_assoc]⟩
def Pj{E D b}(K:Bj E D b=some v){J:aV Ω}{G I}(aa:bq J D G)(ab:bq J b I):∃(C:Int) (q:Nat×Int) (j:Int),G=.int .i64 C/\I=.int .i64 j/\E q.1 q.2 j=some v/\∀j,IntKind.i64.wrap (C+j)=IntKind.i64.wrap (Ω.int q.1+(q.2+j)):=by
 obtain⟨q,O,Q⟩:=ao.1 (show U _ _=some v from K);obtain⟨ag,R,W⟩:=ao.1 Q;obtain⟨Y,Z⟩:=cu.1 W;obtain⟨C,rfl,ae⟩:=RU O aa;rw[kE R,hg.1 Y]at ab;cases ab;grind
def Zn{ae K b}(J:Pk ae K b=some v){ag:aV Ω}{ak am}(aa:bq ag K ak)(ab:bq ag b am):∃I q ap,ak=.int .i64 I/\am=.int .i64 q/\bq ag v ap/\∀E,(binOp ae T (.int .i64 I) (.int .i64 q)).run P E=.ok ap E:=by
 cases ae<;>first|(cases J;done)|skip
 ·obtain⟨I,q,D,rfl,rfl,j,C⟩:=Pj (show Bj (λQ n D=>some (.gj Q (BK n D))) K b=some v from J) aa ab;cases j;refine⟨I,D,.int _ _,rfl,rfl,?_,λE=>by rfl⟩;rw[C D];exact .gj
 ·have O:bF _ _ _=some v:=J;cases Z:Ps K b with
  |some q=>
   rw[Z]at O;cases O;obtain⟨ay,ar,au⟩:=ao.1 (show U _ _=some q from Z);obtain⟨Q,av,aw⟩:=ao.1 au;cases aw;rw[oa ar]at aa;rw[oa av]at ab;cases aa;cases ab;exact⟨_,_,.int _ _,rfl,rfl,.xs,λE=>by rfl⟩
  |none=>
  rw[Z]at O;obtain⟨I,q,D,rfl,rfl,j,C⟩:=Pj O aa ab;cases j;refine⟨I,D,.int _ _,rfl,rfl,?_,λE=>by rfl⟩;have G:=C (-D);rw[<- Ht]at G;rw[G,<- Ht];exact .gj
 ·obtain⟨Q,j,C⟩:=ao.1 (show U _ _=some v from J);obtain⟨ax,G,R⟩:=ao.1 C;obtain⟨W,Y⟩:=cu.1 R;cases Y;rw[oa j]at aa;rw[oa G,<- bV W]at ab;cases aa;cases ab;exact⟨_,_,_,rfl,rfl,.b,λE=>by simp[binOp,j3]⟩
 ·obtain⟨Q,j,C⟩:=ao.1 (show U _ _=some v from J);obtain⟨ax,G,R⟩:=ao.1 C;obtain⟨W,Y⟩:=cu.1 R;cases Y;rw[oa j]at aa;rw[oa G,<- bV W]at ab;cases aa;cases ab;exact⟨_,_,_,rfl,rfl,.b,λE=>by simp[binOp,j3]⟩
def NV{E}(am:MV E T x y P t h=some (v,a6)):a6=h/\iC Ω P t ⟨d,.binOp E T x y cE,aQ,a3,a2,a0⟩ v:=by
 obtain⟨Y,aa,ab⟩:=ao.1 am;obtain⟨b,ap,ar⟩:=ao.1 ab;obtain⟨I,au⟩:=nM ar;refine⟨au,λaw ac s=> ?_⟩;obtain⟨ay,K,J⟩:=c8 s aa;obtain⟨aC,O,G⟩:=c8 s ap;cases ae:Z _ _ (Bi b)with
 |true=>
  unfold CU at I;rw[ae,df]at I;obtain⟨ax,q,W,rfl,rfl,j,C⟩:=Zn I J G;exact⟨W,j,iY _ _ _ _ (Ko _ _ _ _ _) K O C⟩
 |false=>
 unfold CU at I;rw[ae,cZ]at I;cases Q:hK Y with
 |none=>
  have D:Jr E (zd P T (nS P T) y Y b)=some v:=by
   simp_all
  cases E<;>first|cases D|skip
  ·obtain⟨ak,j,C⟩:=ao.1 (show U _ _=some v from D);cases C;exact⟨_,.b,JS (.inl p) j K O J G Q⟩
  ·obtain⟨ak,j,C⟩:=ao.1 (show U _ _=some v from D);cases C;rw[l0];exact⟨_,.b,JS (.inr p) j K O J G Q⟩
 |some q=>
  cases av:hK b with
  |none=>
   simp_all
  |some ag=>
   have D:Z (Z (Gm E) true (gb q.1 ag.1)) (CT E q.1 q.2 ag.2) none=some v:=by
    simp_all
   rw[kE Q]at J;rw[kE av]at G;cases J;cases G;cases R:Z _ _ (gb _ _)with
   |false=>rw[R]at D;trivial
   |true=>
    rw[R,df]at D;obtain⟨W,j,C⟩:=R9 R D;exact⟨W,j aw,iY _ _ _ _ (Ko _ _ _ _ _) K O C⟩
end
end aX
end
section
namespace aX
variable{Ω:bX}
section
variable{P:Program}{t:dH}{h a6:bQ}{v:al}{d:Option Nat}{aQ T cE S:TypeId}{a3:String}{a2:Array Edge}{a0:Option (Nat×Bool)}{x y z:Operand}
def N8(D:w8 .neg x P t h=some (v,a6)):a6=h/\iC Ω P t ⟨d,.unOp .neg T x,aQ,a3,a2,a0⟩ v:=by
 obtain⟨C,aa,ab⟩:=ao.1 D;obtain⟨R,E⟩:=nM ab;obtain⟨q,G,I⟩:=ao.1 (show U (hK C) _=some v from by assumption);cases I;refine⟨E,λZ O s=> ?_⟩;obtain⟨W,J,j⟩:=c8 s aa;rw[kE G]at j;cases j;refine⟨_,.i,λQ Y K _=> ?_⟩;simp only[execOp,K.eval J,s4];rfl
def D2{j}(D:mC P T=some j):P.underlying T=some (.int j):=by
 obtain⟨C,aa,ab⟩:=ao.1 D;have:=lv aa;cases C<;>cases ab;omega
def NX{j}(E:mC P T=some j)(I:E1 S T x P t h=some (v,a6)):a6=h/\iC Ω P t ⟨d,.convert S T x,aQ,a3,a2,a0⟩ v:=by
 obtain⟨ag,aa,ab⟩:=ao.1 I;obtain⟨ak,O,C⟩:=ao.1 ab;rw[E]at C;obtain⟨q,Q,R⟩:=ao.1 (show U _ _=some _ from C);cases R;refine⟨rfl,λap Z s=> ?_⟩;obtain⟨am,W,D⟩:=c8 s aa;rw[kE Q]at D;cases D;refine⟨_,.i,λae G Y _=> ?_⟩;simp[execOp,Y.eval W,s4];have J:=lv O;have K:=D2 E;have:(convert S T (.int q.1 q.2)).run P G=.ok (.int j (j.wrap q.2)) G:=by
  unfold convert;simp[cg,run_underlying J,run_underlying K];rfl
 simp_all
def N6(E:M9 T x P t h=some (v,a6)):a6=h/\iC Ω P t ⟨d,.makeInterface T x,aQ,a3,a2,a0⟩ v:=by
 obtain⟨Q,aa,ab⟩:=ao.1 E;obtain⟨j,G⟩:=cu.1 ab;cases G;refine⟨rfl,λU O s=> ?_⟩;obtain⟨R,I,J⟩:=c8 s aa;have K:tw P T:=⟨by
  rw[l0]at j;unfold LC at j;cases C:kt P T with
  |none=>simp_all
  |some D=>
   rw[C]at j;have:=lv C;unfold De;rw[this];cases D<;>first|rfl|trivial⟩
 exact⟨_,.y J,Kz I⟩
def N3{O ap}(ak:sH O=some T)(I:kp P T=some ap)(W:yY [x] O P t h=some (v,a6)):a6=h/\iC Ω P t ⟨d,.call ⟨.builtin .len,#[x],#[T]⟩,aQ,a3,a2,a0⟩ v:=by
 have Y:=W;obtain⟨av,aa,ab⟩:=ao.1 Y;rw[ak]at aa;cases aa;obtain⟨D,J,K⟩:=ao.1 ab;rw[I]at K;have j:=K;cases G:lc D with
 |some q=>
  rw[G]at j;cases j;have am:D=.fq q.1 q.2:=by cases D<;>cases G;rfl
  refine⟨rfl,λau R s=> ?_⟩;obtain⟨ar,E,C⟩:=c8 s J;obtain⟨U,Q⟩:=p8 I;refine⟨_,.bb,?_⟩;rw[am]at C;cases C with
  |fq aw Z=>rw[Z];exact wz E
 |none=>
 rw[G]at j;obtain⟨n,ae,ag⟩:=ao.1 j;cases ag;refine⟨rfl,λau R s=> ?_⟩;obtain⟨ar,E,C⟩:=c8 s J;obtain⟨U,Q⟩:=p8 I;refine⟨_,.i,?_⟩;cases C<;>first|cases ae|skip
 all_goals exact wz E
def N1(ar:M3 T x y P t h=some (v,a6)):a6=h/\iC Ω P t ⟨d,.indexAddr T x y,aQ,a3,a2,a0⟩ v:=by
 obtain⟨ae,aa,ab⟩:=ao.1 ar;obtain⟨aI,ak,au⟩:=ao.1 ab;obtain⟨aL,am,E⟩:=ao.1 au;cases W:t5 ae with
 |none=>
  rw[W]at E;obtain⟨q,av,aw⟩:=ao.1 (show U (iX ae) _=some _ from E);obtain⟨ay,R,K⟩:=ao.1 aw;obtain⟨D,O⟩:=cu.1 K;cases O;refine⟨rfl,λaG ap s=> ?_⟩;obtain⟨aC,G,I⟩:=c8 s aa;obtain⟨aE,J,Y⟩:=c8 s ak;obtain⟨ax,rfl⟩:=pl am;rw[ng av]at I;cases Y;cases I with
  |ag j=>
   have Z:=yQ R;rw[bL,nj,decide_eq_true_iff]at D;have:=dV (L:=[]) (d:=d) (aQ:=aQ) (a3:=a3) (a2:=a2) (a0:=a0) (E:=Z) G J Q C;exact⟨_,.ag j,by simpa using this⟩
 |some q=>
  rw[W]at E;obtain⟨ay,R,K⟩:=ao.1 (show U (kp P T) _=some _ from E);obtain⟨D,O⟩:=cu.1 K;cases O;refine⟨rfl,λaG ap s=> ?_⟩;obtain⟨aC,G,I⟩:=c8 s aa;obtain⟨aE,J,Y⟩:=c8 s ak;obtain⟨ax,rfl⟩:=pl am;obtain⟨aH,Z⟩:=p8 R;rw[nj,decide_eq_true_iff]at D;cases Y;cases I<;>first|cases W|skip
  ·rename_i j
   exact⟨_,.ag j,hx G J D⟩
  ·rename_i j aK
   exact⟨_,.ag j,hx G J D⟩
def N2(ar:M4 T x y P t h=some (v,a6)):a6=h/\iC Ω P t ⟨d,.index T x y,aQ,a3,a2,a0⟩ v:=by
 obtain⟨am,aa,ab⟩:=ao.1 ar;obtain⟨aX,Y,aE⟩:=ao.1 ab;obtain⟨aH,Z,D⟩:=ao.1 aE;cases O:n9 am with
 |none=>
  rw[O]at D;obtain⟨J,aG⟩:=cu.1 (show bK _ _=some _ from D);obtain⟨aK,K,G⟩:=ao.1 aG;obtain⟨aO,j,I⟩:=ao.1 G;cases I;refine⟨rfl,λaS ak s=> ?_⟩;obtain⟨aL,Q,C⟩:=c8 s aa;obtain⟨aP,R,W⟩:=c8 s Y;obtain⟨aI,rfl⟩:=pl Z;rw[tY K]at C;cases W;cases C;have E:P.underlying T=some .string:=by
   unfold xN at J;cases E:kt P T with
   |none=>simp_all
   |some ap=>rw[E]at J;have:=lv E;cases ap<;>first|exact this|cases J
  refine⟨_,.i,λaW ag ae _=> ?_⟩;simp[execOp,ae.eval Q,ae.eval R];have au:aK[aH]?=some aO:=j;simp[Instr.index,run_underlying E,asIntOf,au]
 |some l=>
  rw[O]at D;obtain⟨aY,K,G⟩:=ao.1 (show U _ _=some _ from D);obtain⟨j,I⟩:=cu.1 G;obtain⟨ay,aC⟩:=nM I;refine⟨aC,λaS ak s=> ?_⟩;obtain⟨aL,Q,C⟩:=c8 s aa;obtain⟨aP,R,W⟩:=c8 s Y;obtain⟨aI,rfl⟩:=pl Z;rw[rU O]at C;cases W;rw[bL,nj,decide_eq_true_iff]at j;cases C with
  |bm av=>
   obtain⟨ag,aw,ax⟩:=av.get ay;have aV:=yQ K;exact⟨ag,aw,zG (K:=⟨j.1⟩) Q R j.2 ax⟩
theorem t7{o j}(D:oc t o=some j){K:aV Ω}{C}(s:eb K t C):(o=none/\j=none)\/∃q n E,o=some q/\j=some n/\aY (hP C) q=some (.int E (n:Int)):=by
 cases o with
 |none=>cases D;simp
 |some q=>
  obtain⟨O,aa,ab⟩:=ao.1 (show U _ _=some j from D);obtain⟨n,G,I⟩:=ao.1 ab;cases I;obtain⟨R,Q,J⟩:=c8 s aa;obtain⟨E,rfl⟩:=pl G;cases J;simp_all
theorem p4(E)(j y:Nat)(G)(I:j<=y)(D):(Instr.sliceBound (.int E j) y G).run P D=.ok j D:=by rw[run_sliceBound D E j y _ Q C];rfl
def wA{aC:TypeId}{ay aL:Nat}{aw:bA}{n D l J I:Nat}{ag ae ak:Option Operand}{ax ao ap:Option Nat}{Y:bW}[aK:eo P T (aC,ay,aL)](a1:aY Y x=some (.slice aw n D))
  (av:(ag=none/\ax=none)\/∃q n K,ag=some q/\ax=some n/\aY Y q=some (.int K (n:Int))) (aG:(ae=none/\ao=none)\/∃q n K,ae=some q/\ao=some n/\aY Y q=some (.int K (n:Int))) (aW:(ak=none/\ap=none)\/∃q n K,ak=some q/\ap=some n/\aY Y q=some (.int K (n:Int)))
  (a4:ap.isSome=true->ao.isSome=true) (j:ax.getD 0=l) (G:ao.getD n=J) (Z:ap.getD D=I) (aa:l<=J) (ab:J<=I) (aE:I<=D):
  bf P [] Y ⟨d,.slice T x ag ae ak,aQ,a3,a2,a0⟩ (.slice (if I=l then aw else aw.map (·.add (l*ay))) (J-l) (I-l)):=λau ar C _=>by
 obtain⟨aZ,a5,aV,aX,_⟩:=aK.spec;have aS:(sizeOf aC).run P ar=.ok ay ar:=by simp[sizeOf,typeInfo,aV,aX]
 have aO:(mX true n D (ag.map au.eval) (ae.map au.eval) (ak.map au.eval)).run P ar=.ok (l,J,I) ar:=by
  rcases aW with ⟨rfl,rfl⟩|⟨a7,am,aI,rfl,rfl,fM⟩
  ·simp only[tt]at Z;subst Z;rcases aG with ⟨rfl,rfl⟩|⟨aP,E,Q,rfl,rfl,W⟩
   ·simp only[tt]at G;subst G;rcases av with ⟨rfl,rfl⟩|⟨aH,R,O,rfl,rfl,U⟩
    ·simp only[tt]at j;subst j;rfl
    ·simp only[n1]at j;subst j;simp[mX,C.eval U,p4 O R n _ aa]
   ·simp only[n1]at G;subst G;rcases av with ⟨rfl,rfl⟩|⟨aH,R,O,rfl,rfl,U⟩
    ·simp only[tt]at j;subst j;simp[mX,C.eval W,p4 Q E D _ ab]
    ·simp only[n1]at j;subst j;simp[mX,C.eval U,C.eval W,p4 Q E D _ ab,p4 O R E _ aa]
  ·simp only[n1]at Z;subst Z;rcases aG with ⟨rfl,rfl⟩|⟨aP,E,Q,rfl,rfl,W⟩
   ·simp_all
   ·simp only[n1]at G;subst G;rcases av with ⟨rfl,rfl⟩|⟨aH,R,O,rfl,rfl,U⟩
    ·simp only[tt]at j;subst j;simp[mX,C.eval W,C.eval fM,p4 aI am D _ aE,p4 Q E am _ ab]
    ·subst j;simp[mX,C.eval U,C.eval W,C.eval fM,p4 aI am D _ aE,p4 Q E am _ ab,p4 O R E _ aa]
 simp[execOp,C.eval a1];simp only[vr,Instr.slice,cg,run_underlying aZ,db,aO,aS];rfl
end
end aX
end
section
namespace aX
variable{Ω:bX}
section
variable{P:Program}{t:dH}{h a6:bQ}{v:al}{d:Option Nat}{aQ T cE S:TypeId}{a3:String}{a2:Array Edge}{a0:Option (Nat×Bool)}{x y z:Operand}
def TQ{b o n K D j}[C:lH P T (n,D,K)](J:aY j x=some (.pointer (some ⟨b,o,none⟩)))(Q:0<n):
  bf P [] j ⟨d,.slice T x none none none,aQ,a3,a2,a0⟩ (.slice (some ⟨b,o,none⟩) n n):=λO W G _=>by
 obtain⟨I,U,E,R⟩:=C.spec;simp[execOp,G.eval J];simp[vr,mX,run_underlying I,sizeOf,typeInfo,E,je,Instr.sureAddr]
theorem CF{j:Prop}[Decidable j](b o C:Nat):(if j then(some (⟨b,o,none⟩:Addr))else(some (⟨b,o,none⟩:Addr)).map (·.add C))=some ⟨b,if j then o else o+C,none⟩:=by split<;>simp[je]
theorem CS{E}(j l:Nat)(C b:E):Z (aA j l) C b=if j=l then C else b:=by
 by_cases D:j=l
 ·subst D;rw[if_pos p,Nat.beq_refl];rfl
 ·rw[if_neg D];cases G:aA j l with
  |false=>rfl
  |true=>simp_all
def Oc{aL aG aO}(a1:Ng T x aL aG aO P t h=some (v,a6)):a6=h/\iC Ω P t ⟨d,.slice T x aL aG aO,aQ,a3,a2,a0⟩ v:=by
 obtain⟨aZ,aa,ab⟩:=ao.1 a1;obtain⟨j,a8,a9⟩:=ao.1 ab;obtain⟨D,ba,bb⟩:=ao.1 a9;obtain⟨I,bc,av⟩:=ao.1 bb;cases aI:kp P T with
 |none=>
  rw[aI]at av;obtain⟨ak,ay,aC⟩:=ao.1 (show U _ _=some _ from av);obtain⟨q,R,aE⟩:=ao.1 aC;obtain⟨aV,a5⟩:=cu.1 aE;cases a5;simp only[bL,Ig,nj,decide_eq_true_iff]at aV;obtain⟨rfl,rfl,rfl,a7⟩:=aV;refine⟨rfl,λbi aY s=> ?_⟩;obtain⟨bh,Y,aw⟩:=c8 s aa;rw[ng R]at aw;have be:aL=none:=by grind[t7]
  have bf:aG=none:=by grind[t7]
  have bg:aO=none:=by grind[t7]
  subst be bf bg;cases aw with
  |ag E=>exact⟨_,.dm E,TQ (C:=yQ ay) Y a7⟩
 |some ak=>
  rw[aI]at av;obtain⟨ay,aC⟩:=cu.1 (show bK (Z I.isSome D.isSome true) (nL h (O9 aZ ak.2 (j.getD 0) D I))=some (v,a6)from av);obtain⟨R,aE⟩:=nM aC;refine⟨aE,λbi aY s=> ?_⟩;obtain⟨bh,Y,aw⟩:=c8 s aa;obtain⟨bk,am⟩:=p8 aI;have aH:=t7 a8 s;have aP:=t7 ba s;have au:=t7 bc s;have ar:I.isSome=true->D.isSome=true:=λbd=>by rw[bd]at ay;trivial
  cases aw with
  |eA=>
   obtain⟨E,J⟩:=cu.1 (show bK (aA (j.getD 0) 0&&(aA (D.getD 0) 0&&aA (I.getD 0) 0)) (some al.eA)=some v from R);cases J;simp only[bL]at E;have:=wA (P:=P) (T:=T) (aK:=am) (d:=d) (aQ:=aQ) (a3:=a3) (a2:=a2) (a0:=a0) Y aH aP au ar (bV E.1) (bV E.2.1) (bV E.2.2) (bv _) (bv _) (bv _);exact⟨_,.eA,by simpa using this⟩
  |hl=>
   obtain⟨E,J⟩:=cu.1 (show bK (aA (j.getD 0) 0&&(aA (D.getD 0) 0&&I.isNone)) (some al.hl)=some v from R);cases J;simp only[bL,Ig]at E;obtain⟨ax,aS,rfl⟩:=E;have:=wA (P:=P) (T:=T) (aK:=am) (d:=d) (aQ:=aQ) (a3:=a3) (a2:=a2) (a0:=a0) Y aH aP au ar (bV ax) (bV aS) p (bv _) (bu _) (bv _);refine⟨_,?_,this⟩;split<;>exact .hl
  | @dm b o n q aX W E=>
   obtain⟨J,G⟩:=cu.1 (show bK (cN (j.getD 0) (D.getD n)&&(cN (D.getD n) (I.getD q)&&cN (I.getD q) q)) (some (al.dm b (Z (aA (I.getD q) (j.getD 0)) o (oX o (ts (j.getD 0) ak.2))) (n0 (D.getD n) (j.getD 0)) (n0 (I.getD q) (j.getD 0))))=some v from R);cases G;simp only[bL]at J;have:=wA (P:=P) (T:=T) (aK:=am) (d:=d) (aQ:=aQ) (a3:=a3) (a2:=a2) (a0:=a0) Y aH aP au ar p p p (eT J.1) (eT J.2.1) (eT J.2.2);rw[CF]at this;rw[CS];exact⟨_,.dm E,this⟩
  | @cH b o n l aX W E J=>
   cases I with
   |some ap=>
    obtain⟨G,K⟩:=cu.1 (show bK (cN (j.getD 0) (D.getD n)&&(cN (D.getD n) ap&&cN ap n)) (some (al.dm b (Z (aA ap (j.getD 0)) o (oX o (ts (j.getD 0) ak.2))) (n0 (D.getD n) (j.getD 0)) (n0 ap (j.getD 0))))=some v from R);cases K;simp only[bL]at G;have bj:=eT G.2.2;have:=wA (P:=P) (T:=T) (aK:=am) (d:=d) (aQ:=aQ) (a3:=a3) (a2:=a2) (a0:=a0) Y aH aP au ar p p p (eT G.1) (eT G.2.1) (show ap<=W-l by omega);rw[n1,CF]at this;rw[CS];exact⟨_,.dm E,this⟩
   |none=>
    obtain⟨G,K⟩:=cu.1 (show bK (cN (j.getD 0) (D.getD n)&&cN (D.getD n) n) (Z (aA (j.getD 0) 0) (some (al.cH b o (D.getD n) l)) (Z (dT (j.getD 0) n) (some (al.cH b (oX o (ts (j.getD 0) ak.2)) (n0 (D.getD n) (j.getD 0)) (oX l (j.getD 0)))) (some al.hl)))=some v from R);simp only[bL]at G;have ax:=eT G.1;have aS:=eT G.2;have ae:=wA (P:=P) (T:=T) (aK:=am) (d:=d) (aQ:=aQ) (a3:=a3) (a2:=a2) (a0:=a0) Y aH aP au ar p p p ax (show D.getD n<=W-l by omega) (bv _);rw[tt,CF]at ae;generalize j.getD 0=O at*
    generalize D.getD n=M at*
    cases aK:aA O 0 with
    |true=>
     rw[aK,df]at K;cases K;have:=bV aK;subst this;refine⟨_,.cH E (n:=M) (l:=l) C,?_⟩;have a4:(if W-l=0 then o else o+0*ak.2)=o:=Q;rw[a4]at ae;simpa using ae
    |false=>
     rw[aK,cZ,nj]at K
     by_cases aW:O<n
     ·rw[decide_eq_true aW]at K;cases K;rw[if_neg (show ¬W-l=O by omega)]at ae;refine⟨_,.cH E (n:=M-O) (l:=l+O) C,?_⟩;rw[show W-(l+O)=W-l-O by omega];exact ae
     ·rw[decide_eq_false aW]at K;cases K;rw[show M-O=0 by omega]at ae;exact⟨_,.hl,ae⟩
  | _=>cases R
def AK{I:aV Ω}{E:Act}(s:eb I t E):∀{l:List (Nat×Operand)}{j:List (Nat×al)},h6 (λG:Nat×Operand=>U (cX G.2 t) λv=>some (G.1,v)) l=some j->∃C,nr (hP E) l=some C/\C.map (·.1)=j.map (·.1)/\bh I (j.map (·.2)) (C.map (·.2))
 | [],j,D=>by cases D;exact⟨[],rfl,rfl,.nil⟩
 |(ae,x)::l,j,D=>by
  obtain⟨y,aa,ab⟩:=ao.1 (show U _ _=some j from D);obtain⟨z,K,O⟩:=ao.1 aa;cases O;obtain⟨am,Q,R⟩:=ao.1 ab;cases R;obtain⟨ag,W,Y⟩:=c8 s K;obtain⟨C,Z,ak,J⟩:=AK s Q;exact⟨(ae,ag)::C,by simp[nr,W,Z],by simp_all,.cons Y J⟩
theorem TW(j D C E z):uy j ((D,C)::E) z=U (j D) λq=>bK (aA (jr (hM C)) q.2) (U (wS z q.1 (hM C)) (uy j E)):=rfl
def zO{O:aV Ω}{Q:Nat->Option (Nat×Nat)}{Y:Nat->Option (Nat×Nat)}(U:∀K q,Q K=some q->Y K=some q):∀{G:List (Nat×al)}{j:List (Nat×Value)}{z I:List al}{C:cs},j.map (·.1)=G.map (·.1)->bh O (G.map (·.2)) (j.map (·.2))->bh O z C->uy Q G z=some I->∃J,lV Y C j=some J/\bh O I J
 | [],j,z,I,C,aa,ab,E,D=>by
  cases j with
  |nil=>cases D;exact⟨C,rfl,E⟩
  |cons _ _=>trivial
 |(K,aH)::G,j,z,I,C,aa,ab,E,D=>by
  cases j with
  |nil=>trivial
  |cons aG j=>
   simp[eS,BL]at aa;obtain⟨rfl,aa⟩:=aa;cases ab with
   |cons Z b=>
    rw[TW]at D;obtain⟨q,ae,ag⟩:=ao.1 D;obtain⟨ak,am⟩:=cu.1 ag;obtain⟨aI,ap,ar⟩:=ao.1 am;have R:=Z.cells;obtain⟨W,av⟩:=R.lay E ap;replace W:=W;have aw:=R.len;have ax:=E.len;rw[uM]at aw ax;have ay:=bV ak;rw[uM]at ay;obtain⟨J,aE,au⟩:=zO U aa b av ar;refine⟨J,?_,au⟩;have aC:=U _ _ ae;unfold lV;simp_all[BX]
end
end aX
end
section
namespace aX
variable{Ω:bX}
theorem Mc{j}:∀(l:List j)(n),Eo l n=l[n]?
 | [],n=>rfl
 |x::l,0=>rfl
 |x::l,n+1=>by
  show Eo l n= _;rw[Mc l n,x9]
theorem Mv{J K E g}(h:∀C b,E C=some b->g C=some b):∀{l:List J}{j:List K},h6 E l=some j->l.mapM g=some j
 | [],j,D=>by assumption
 |x::l,j,D=>by
  obtain⟨y,aa,ab⟩:=ao.1 (show U _ _=some j from D);obtain⟨s,G,I⟩:=ao.1 ab;cases I;simp[h _ _ aa,Mv h G]
def fg{j C D}(J:∀h,j h->C h){h}(s:G (j::D) h):G (C::D) h:=by
 obtain⟨aa,ab,I,K,O,E,l⟩:=s;exact⟨aa,ab,I,K,O,J _ E,l⟩
def kh{ι:Type}{g}{C:ι->aO}{D G}(E:a4 g ((λh=>∃j,C j h)::D) G):∃j,a4 g (C j::D) G:=by
 obtain⟨aa,ab,J,K,O,⟨j,I⟩,l⟩:=E.s;exact⟨j,E.g,aa,ab,J,K,O,I,l⟩
def cq(Ω:bX)(K:Program)(R:dH)(h:bQ)(o:Oper)(v:al)(Q:bQ):Prop:=∀(g:c0)(F:aO)(C:aV Ω)(j:Act)(I:World),eb C R j->ST g F C h I->∀(E:Act->World->Prop)(O:Exit->Act->World->Prop),
 (∀G J D,C.le D->bq D v G->ST g F D Q J->E (j.put o.dst G) J)->o.wp K j I E O
section
variable{P:Program}{t:dH}{h a6:bQ}{v:al}{d:Option Nat}{aQ T cE S:TypeId}{a3:String}{a2:Array Edge}{a0:Option (Nat×Bool)}{x y z:Operand}{o:Oper}
def cq.iJ(q:a6=h/\iC Ω P t o v):cq Ω P t h o v a6:=λg F D j C s J O Q E=>by
 obtain⟨rfl,q⟩:=q;obtain⟨K,I,G⟩:=q D j s;unfold dv;rw[G j C (d0 j) trivial];exact E K C D (aV.le.refl _) I J
theorem TV{j}(D:DH P T=some j):ey P T j:=by
 obtain⟨C,aa,ab⟩:=ao.1 D;obtain⟨I,E,J⟩:=ao.1 ab;have G:=lv aa;cases C<;>cases E;refine⟨?_⟩;unfold fieldsOf;grind[Mv,ao,mB]
def NW{C}(ae:MX T C P t h=some (v,a6)):a6=h/\iC Ω P t ⟨d,.build T C,aQ,a3,a2,a0⟩ v:=by
 obtain⟨aC,aa,ab⟩:=ao.1 ae;obtain⟨z,ak,j⟩:=ao.1 ab;obtain⟨aG,aE,Y,ax⟩:=s8 ak;obtain⟨C⟩:=C;cases G:DH P T with
 |some ag=>
  rw[G]at j;obtain⟨au,D,E⟩:=ao.1 (show U _ _=some _ from j);cases E;refine⟨rfl,λR Z s=> ?_⟩;obtain⟨aw,I,J,K⟩:=AK s aa;obtain⟨av,O,Q⟩:=zO (Y:=(ag[·]?)) (λar q W=>by rw[<- Mc];omega) J K ((Y R).cells) D;exact⟨_,.bm Q,Dz (K:=TV G) I O⟩
 |none=>
  rw[G]at j;obtain⟨au,D,E⟩:=ao.1 (show U (tT P T) _=some _ from j);obtain⟨ay,am,ap⟩:=ao.1 E;cases ap;refine⟨rfl,λR Z s=> ?_⟩;obtain⟨aw,I,J,K⟩:=AK s aa;obtain⟨av,O,Q⟩:=zO (λar q W=>W) J K ((Y R).cells) am;exact⟨_,.bm Q,Kv (K:=yQ D) I O⟩
def mP(D o:Nat)(G:cs):aO:=λE=>∀j C,G[j]?=some C->hw E ⟨D,o+j,none⟩=some C
theorem ST.cells{g F}{I:aV Ω}{K}(aG:ST g F I h K){b o n J ag l}(au:I b=some (J,ag))(am:l3 h b o n=some l):∃j,bh I l j/\j.length=n/\mP J o j K.hm:=by
 obtain⟨aS,aa,ab⟩:=ao.1 am;obtain⟨ak,ap,ar⟩:=ao.1 ab;have dC:=aG.open au aa
 have Z:∀(C:List _),bh I ak C->(∀D E,C[D]?=some E->hw K.hm ⟨J,D,none⟩=some E)->∃j,bh I l j/\j.length=n/\mP J o j K.hm:=λC av aL=>by
  obtain⟨j,aw,ax⟩:=(av.drop o).take ar;obtain⟨ay,aC⟩:=lr ax;refine⟨j,aw,ay,λD E G=> ?_⟩;have:=aC D E G;rw[qE,tn]at this;simp_all
 rcases yS ap with ⟨aI,rfl⟩|⟨aK,aW,aO,rfl⟩
 ·obtain⟨C,U⟩:=kh dC;obtain⟨Q,R,O,W,Y,⟨aH,aP⟩,aE⟩:=U.s;exact Z C aH λD E G=>(aR.ae (L:=[]) G).get _ ⟨Q,R,O,W,Y,aP,trivial⟩
 ·obtain⟨C,U⟩:=kh dC;obtain⟨Q,R,O,W,Y,⟨aH,aP⟩,aE⟩:=U.s;exact Z C aH λD E G=>(aR.own (L:=[]) G).get _ ⟨Q,R,O,W,Y,aP,trivial⟩
def N4(j:E2 T x P t h=some (v,a6)):a6=h/\∃(q:Nat×Nat) (s:Bool×Nat) (l:List al),cX x t=some (.ag q.1 q.2)/\oL P T=some s/\l3 h q.1 q.2 s.2=some l/\uW s.1 l=some v:=by
 obtain⟨G,aa,ab⟩:=ao.1 j;obtain⟨q,J,C⟩:=ao.1 ab;obtain⟨s,K,D⟩:=ao.1 C;obtain⟨l,O,E⟩:=ao.1 D;obtain⟨Q,I⟩:=nM E;grind[ng]
def Mo{K:aV Ω}{U}(s:eb K t U){q:Nat×Nat}{R l J ar I}(aa:cX x t=some (.ag q.1 q.2))(ab:oL P T=some R)(Z:uW R.1 l=some v)(au:K q.1=some (J,ar))(ae:bh K l I)(av:I.length=R.2):
  ∃j,bq K v j/\bf P [mP J q.2 I] (hP U) ⟨d,.load T x,aQ,a3,a2,a0⟩ j:=by
 obtain⟨j,ak,aw⟩:=c8 s aa;cases aw with
 |ag Y=>
  rw[au]at Y;cases Y;have rd:∀C,G [mP J _ I] C->∀D j,I[D]?=some j->hw C ⟨J,q.2+D,none⟩=some j:=λC E D j Q=>by
   obtain⟨aC,aE,ay,ax,aI,aH,aG⟩:=E;exact hw.sub (aH D j Q) ax
  rcases xK ab with ⟨W,am⟩|⟨W,am⟩
  ·rcases xn Z with ⟨O,rfl⟩|⟨O,_⟩
   ·exact⟨_,.bm ae,er ak ⟨av,λD j Q=>⟨λC E=>rd C E D j Q⟩⟩⟩
   simp_all
  ·subst W;rcases xn Z with ⟨O,_⟩|⟨O,rfl⟩
   ·trivial
   ·cases ae with
    |cons ao ap=>
     cases ap;exact⟨_,ao,d6 ak ⟨λC E=>by simpa using rd C E 0 _ p⟩⟩
def cq.load(D:E2 T x P t h=some (v,a6)):cq Ω P t h ⟨d,.load T x,aQ,a3,a2,a0⟩ v a6:=λg F Y C j s G Z ae K=>by
 obtain⟨rfl,q,am,l,aa,ab,I,J⟩:=N4 D;obtain⟨ao,ak,O⟩:=c8 s aa;cases O with
 |ag E=>
  obtain⟨ap,Q,R,U⟩:=G.cells E I;obtain⟨W,aH,aP⟩:=Mo s aa ab J E Q R;unfold dv;rw[aP C j (d0 C) ⟨j.hm,λ_=>none,λ_=> .inr p,d7.refl _,λ_ _ D=>(by grind),U,trivial⟩];exact K W j Y (aV.le.refl _) aH G
end
end aX
end
section
namespace aX
variable{Ω:bX}
theorem Yt(n j):Go.Proofs.YtioamnghkmcbbaaGreat.fB (n+1) j=j++Go.Proofs.YtioamnghkmcbbaaGreat.fB n j:=by
 unfold Go.Proofs.YtioamnghkmcbbaaGreat.fB;rw[Nat.succ_mul,Nat.add_comm,List.range_add,gM,List.map_map]
 congr 1
 ·apply List.ext_getElem?;grind[Nat.mod_eq_of_lt,List.getElem?_eq_none]
 simp
theorem AY(n j):Go.Proofs.YtioamnghkmcbbaaGreat.fB n j=(gP n j).flatten:=by
 induction n with
 |zero=>simp[Go.Proofs.YtioamnghkmcbbaaGreat.fB]
 |succ n C=>simp_all[Yt,List.replicate_succ]
section
variable{P:Program}{t:dH}{h a6:bQ}{v:al}{d:Option Nat}{aQ T cE S:TypeId}{a3:String}{a2:Array Edge}{a0:Option (Nat×Bool)}{x y z:Operand}{o:Oper}
theorem ST.ae{g:c0}{F:aO}{j:aV Ω}{Q J:World}(I:ST g F j h Q){b:Nat}{G:List al}{C:cs}(O:bh j G C)(dC:a4 g (ae b T C::F::bJ j h) J)(E:Nat):
  ∃D,j.le D/\D h.n=some (b,E)/\ST g F D (h.new (.ce T G)) J:=by
 refine⟨aX.ext j h.n (b,E),?_⟩;refine ST.new I.dp (dC.mono λK s=>fg (λK q=> ?_) s);exact⟨C,O.mono (sd _ (I.dp _ (bv _))),q⟩
theorem cq.alloc(G:MU T P t h=some (v,a6)):cq Ω P t h ⟨d,.alloc T,aQ,a3,a2,a0⟩ v a6:=λg F ak j W s C D E K=>by
 obtain⟨z,aa,ab⟩:=ao.1 G;cases ab;obtain⟨av,au,Z,am⟩:=s8 aa;refine r2 j W (d0 j) C.dC D E λar Y ap ⟨b,I,J⟩ O=> ?_;subst I J;obtain⟨aw,Q,R,U⟩:=C.ae ((Z ak).cells) O 0;exact K _ Y _ Q (.ag R) U
theorem cq.box(G:MW T x P t h=some (v,a6)):cq Ω P t h ⟨d,.box T x,aQ,a3,a2,a0⟩ v a6:=λg F au j Z s C D E K=>by
 obtain⟨z,aa,ab⟩:=ao.1 G;cases ab;obtain⟨ar,Q,R⟩:=c8 s aa;refine wo Q j Z (d0 j) C.dC D E λap ak am ⟨b,I,J⟩ O=> ?_;subst I J;obtain⟨av,U,W,Y⟩:=C.ae R.cells O 0;exact K _ ak _ U (.ag W) Y
def uG{C}{l:List C}(j:nz l=true):l=[]:=by cases l with|nil=>rfl|cons _ _=>cases j
def cq.Sf{n C}(aC:MY T n C P t h=some (v,a6)):cq Ω P t h ⟨d,.buildSlice T n C,aQ,a3,a2,a0⟩ v a6:=λg F Y j ar s D Z ag ak=>by
 obtain⟨bd,aa,ab⟩:=ao.1 aC;obtain⟨aZ,aG,aI⟩:=ao.1 ab;obtain⟨z,aK,aL⟩:=ao.1 aI;obtain⟨I,aO⟩:=cu.1 aL;obtain⟨a8,aS,aE⟩:=ao.1 aO;cases aE;obtain⟨a5,be,au,ax⟩:=s8 aK;obtain⟨a7,aw⟩:=p8 aG;obtain⟨C⟩:=C;obtain⟨bc,am,aX,aY⟩:=AK s aa;obtain⟨bb,aH,aP⟩:=((au Y).cells).xC n;rw[<- AY]at aP;obtain⟨a1,O,ap⟩:=zO (λa9 q aW=>aW) aX aY aH aS;rw[aP]at O;cases J:aA n 0 with
 |true=>
  have:=bV J;subst this;rw[J,df]at I;have aV:=uG I;subst aV;cases am;have:a1=[]:=by simpa[lV,Go.Proofs.YtioamnghkmcbbaaGreat.fB]using O.symm
  subst this;refine Do (R:=[]) (.inl ⟨rfl,rfl,rfl⟩) j ar (d0 j) D.dC Z ag λa4 W ay ⟨b,E,G⟩ K=> ?_;subst E G;obtain⟨av,Q,R,U⟩:=D.ae ap K 0;exact ak _ W _ Q (.dm R) U
 |false=>
  rw[J,cZ]at I;have ba:1<=n:=by cases n with|zero=>trivial|succ n=>simp
  have bf:(ee a5).length=aZ.2:=by
   have:=((au Y).cells).len;simp_all
  refine wq (P:=P) (T:=T) (U:=aw) (W:=ax) (L:=F::bJ Y h) (J:=hP j) ?_ am O j ar (d0 j) D.dC Z ag λa4 W ay ⟨b,E,G⟩ K=> ?_
  ·simp_all
  ·subst E G;obtain⟨av,Q,R,U⟩:=D.ae ap K 0;exact ak _ W av Q (.dm R) U
theorem cO{J:aV Ω}:∀{l}{j},sg l=true->bh J l j->iW j=true
 | [],j,_,h=>by cases h;rfl
 |x::l,j,G,h=>by
  have C:Z _ _ _=true:=G;cases h with
  | @cons _ I _ K E b=>
   cases D:D4 x with
   |true=>rw[D]at C;trivial
   |false=>
    rw[D,cZ]at C;have:oH I=true:=by
     cases E<;>first|rfl|trivial|cases D
    simp[iW,bL];exact⟨this,cO C b⟩
theorem YU(l j C):ej l j [C]=l.set j C:=by rw[xI,rg]
theorem cq.store(bg:Nh T x y P t h=some (v,a6)):cq Ω P t h ⟨d,.store T x y,aQ,a3,a2,a0⟩ v a6:=λg F G E aw s be R ax bJ=>by
 obtain⟨bU,aa,ab⟩:=ao.1 bg;obtain⟨q,bA,bB⟩:=ao.1 ab;obtain⟨aH,bC,bE⟩:=ao.1 bB;obtain⟨bO,a8,bI⟩:=ao.1 bE;obtain⟨a9,bk⟩:=cu.1 bI;obtain⟨bY,bl,bn⟩:=ao.1 bk;cases bn;obtain⟨bN,bp,bs⟩:=ao.1 bl;obtain⟨aC,bt,bx⟩:=ao.1 bs;obtain⟨aZ,a7,bz⟩:=ao.1 bx;cases bz;rw[dN,dN,bL,bL]at a9;obtain⟨O,bW,bf⟩:=a9;obtain⟨b3,aE,bb⟩:=c8 s aa;obtain⟨Q,bc,am⟩:=c8 s bC;rw[ng bA]at bb;cases bb with
 | @ag _ _ I ay a5=>
  have ba:=be.open a5 bp
  have W:=am.cells;have bZ:(ee Q).length=bO.2:=by rw[W.len];simp_all
  have one:=cO bf W;have bP:bq G _ _:=.b1 .nil;have a1:∀(bd:cl) (j:World),a4 g _ j->bd=eR bN aZ->R _ j:=λbd j K bi=>by
   subst bi;exact bJ undef j G (aV.le.refl _) bP (ST.close be.dp a5 K)
  rcases yS bt with ⟨U,rfl⟩|⟨Z,av,au,rfl⟩
  ·obtain⟨D,ak⟩:=kh (C:=λD h=>bh G aC D/\ae I U D h) ba;have ap:bh G aC D:=by obtain⟨_,_,_,_,_,⟨bT,_⟩,_⟩:=ak.s;omega
   have Y:a4 g (ae I U D::F::eB G h q.1) aw:=ak.mono λ_ z=>fg (λ_ z=>z.2) z;obtain⟨bM,aW⟩:=W.lay ap a7;have aY:=ap.len;have aG:=W.len;rw[uM]at aY aG;have aX:cN (q.2+(ee Q).length) D.length=true:=BX C;have done:∀j,a4 g (ae I U (ej D q.2 (ee Q))::F::eB G h q.1) j->R (E.put d undef) j:=λj K=>a1 (.ce U aZ) j (K.mono λ_ z=>fg (λ_ z=>⟨_,aW,z⟩) z) p;rcases xK a8 with ⟨J,aI⟩|⟨J,aK⟩
   ·rw[J,pp]at O;obtain⟨ar,rfl⟩:∃ar,aH=.bm ar:=by cases aH<;>first|exact⟨_,rfl⟩|cases O
    cases am with
    |bm bK=>
     refine f1 (P:=P) (T:=T) (K:=aI) (g:=g) (J:=hP E) (j:=ee (.agg _)) (L:=ae I U D::F::eB G h q.1) aE (by assumption) (by simp_all) one (h3.here aX) E aw (d0 E) Y R ax λgp j aL ⟨aO,aP⟩ K=> ?_;simp_all
   ·have bj:=J;subst J;rw[pp]at O;have aS:ee Q=[Q]:=by
     cases am<;>first|rfl|exact C7 (by trivial)|cases O
    rw[aS]at one aX done;refine c5 (P:=P) (T:=T) (I:=aK) (g:=g) (J:=hP E) (L:=ae I U D::F::eB G h q.1) aE bc (by simpa[iW]using one) (h3.here aX) E aw (d0 E) Y R ax λgp j aL ⟨aO,aP⟩ K=> ?_;simp_all
  ·obtain⟨D,ak⟩:=kh (C:=λD h=>bh G aC D/\own Z av (some ⟨I,0,none⟩) au ay D h) ba;have ap:bh G aC D:=by obtain⟨_,_,_,_,_,⟨bT,_⟩,_⟩:=ak.s;omega
   have Y:=ak.mono λ_ z=>fg (λ_ z=>z.2) z;have b0:=own.facts Y.s;obtain⟨bM,aW⟩:=W.lay ap a7;have aY:=ap.len;have aG:=W.len;rw[uM]at aY aG;have done:∀j,a4 g (own Z av (some ⟨I,0,none⟩) au ay (ej D q.2 (ee Q))::F::eB G h q.1) j->R (E.put d undef) j:=λj K=>a1 (.io Z av au aZ) j (K.mono λ_ z=>fg (λ_ z=>⟨_,aW,z⟩) z) p;rcases xK a8 with ⟨J,aI⟩|⟨J,aK⟩
   ·rw[J,pp]at O;obtain⟨ar,rfl⟩:∃ar,aH=.bm ar:=by cases aH<;>first|exact⟨_,rfl⟩|cases O
    cases am with
    |bm bK=>
     refine Dp (P:=P) (T:=T) (a6:=aI) (g:=g) (J:=hP E) (j:=ee (.agg _)) (L:=own Z av (some ⟨I,0,none⟩) au ay D::F::eB G h q.1) aE (by assumption) (by simp_all) one aN.here C E aw (d0 E) Y R ax λgp j aL ⟨aO,aP⟩ K=> ?_;simp_all
   ·have bj:=J;subst J;rw[pp]at O;have aS:ee Q=[Q]:=by
     cases am<;>first|rfl|exact C7 (by trivial)|cases O
    rw[aS]at one done aG;rw[YU]at done;refine r3 (P:=P) (T:=T) (aZ:=aK) (g:=g) (J:=hP E) (L:=own Z av (some ⟨I,0,none⟩) au ay D::F::eB G h q.1) aE bc (by simpa[iW]using one) aN.here (by grind) E aw (d0 E) Y R ax λgp j aL ⟨aO,aP⟩ K=> ?_;simp_all
end
end aX
end
section
namespace aX
variable{Ω:bX}
theorem EK{C n j}(D:C.length=j)(I:0<j):madeCells C.toArray (n*j)=(Go.Proofs.YtioamnghkmcbbaaGreat.fB n C).toArray:=by
 apply Array.ext
 ·simp[madeCells,Go.Proofs.YtioamnghkmcbbaaGreat.fB,D]
 ·intro G E _;simp[madeCells]at E;have:G % j<C.length:=by simp_all[Nat.mod_lt]
  simp[madeCells,Go.Proofs.YtioamnghkmcbbaaGreat.fB,D,List.getElem?_eq_getElem this]
section
variable{P:Program}{t:dH}{h a6:bQ}{v:al}{d:Option Nat}{aQ T cE S:TypeId}{a3:String}{a2:Array Edge}{a0:Option (Nat×Bool)}{x y z:Operand}{o:Oper}
def cq.Ww(aw:E3 T x y P t h=some (v,a6)):cq Ω P t h ⟨d,.makeSlice T x y,aQ,a3,a2,a0⟩ v a6:=λg F bk O bi s ar bm bn aX=>by
 obtain⟨bt,aa,ab⟩:=ao.1 aw;obtain⟨l,aI,aK⟩:=ao.1 ab;obtain⟨bq,aL,aO⟩:=ao.1 aK;obtain⟨j,aS,aV⟩:=ao.1 aO;obtain⟨I,aW,ax⟩:=ao.1 aV;obtain⟨z,ay,aC⟩:=ao.1 ax;obtain⟨a5,ag,aE⟩:=ao.1 aC;obtain⟨ak,aG⟩:=cu.1 aE;cases aG;simp only[bL]at ak;obtain⟨R,W,Y,D,Z⟩:=ak;have R:=eT R;have W:=eT W;have Y:=eT Y;have D:=eT D;have Z:=bV Z;obtain⟨bp,av⟩:=p8 aW;obtain⟨cf,aH,aP⟩:=ao.1 (show U (kj P _) _=some z from ay);obtain⟨K,bf,bg⟩:=ao.1 aP;rw[ag]at aH;cases aH;have au:=(sG (aC:=bk) 9 bg).cells;have bj:(ee K).length=I.2:=by rw[au.len];omega
 obtain⟨a4,G,bs,a1,_⟩:=av.spec;have aZ:=mB ag;have:G=a5:=by simp_all
 subst this;obtain⟨bz,a7,a8⟩:=c8 s aa;obtain⟨bA,a9,ba⟩:=c8 s aL;obtain⟨bc,rfl⟩:=pl aI;obtain⟨bb,rfl⟩:=pl aS;cases a8;cases ba;have aY:(G.bytes:Int)*(j:Int)<=281474976710656:=by
  grind
 have E:=run_make (P:=P) bi T I.1 G K a4 aZ bf bc bb l j Q C aY C;simp only[Int.toNat_natCast]at E;rw[rZ,a1,EK bj D]at E;unfold dv;simp only[execOp,(d0 O).eval a7,(d0 O).eval a9];simp only[cg,E];have am:=ar.dC.alloc I.1 (Go.Proofs.YtioamnghkmcbbaaGreat.fB j (ee K));obtain⟨bx,bh,J⟩:=au.xC j;rw[<- AY]at J;rw[<- J]at am;obtain⟨bl,bd,be,ap⟩:=ar.ae bh am 0;rw[J]at ap;exact aX _ _ bl bd (.dm be) ap
theorem vY{v n}(C:tU v=some n):v=qP n:=by
 obtain⟨q,aa,ab⟩:=ao.1 (show U (hK v) _=some n from C);obtain⟨j,D⟩:=cu.1 ab;cases D;rw[kE aa];have:q.1=.i64:=by
  cases E:q.1<;>rw[E]at j<;>first|rfl|cases j
 rw[this];rfl
theorem yR{v j}(C:vX v=some j):v=ol j:=by
 obtain⟨l,aa,ab⟩:=ao.1 (show U _ _=some j from C);rw[rU aa];cases l with
 |nil=>trivial
 |cons J l=>
  cases l with
  |nil=>trivial
  |cons b l=>
   cases l with
   |nil=>trivial
   |cons K l=>
    cases l with
    |cons _ _=>trivial
    |nil=>
     obtain⟨x,aH,aP⟩:=ao.1 (show U _ _=some j from ab);obtain⟨y,D,E⟩:=ao.1 aP;obtain⟨z,G,I⟩:=ao.1 E;cases I;rw[vY aH,vY D,vY G];rfl
theorem bq.i64{D:aV Ω}{n j}(C:bq D (qP n) j):j=cW.v n:=by cases C;rfl
theorem bq.lh{G:aV Ω}{ag C}(E:bq G (ol ag) C):C=cW.v (km ag):=by
 cases E with
 |bm h=>
  cases h with
  |cons D b=>
   cases b with
   |cons b j=>
    cases j with
    |cons j d=>
     cases d;cases D;cases b;cases j;rfl
def Lt{j:aV Ω}(n):bq j (qP n) (cW.v n):=.i
def sm{C:aV Ω}(j):bq C (ol j) (cW.v (km j)):=.bm (.cons .i (.cons .i (.cons .i .nil)))
theorem Ny{j q}:km j=km q<->j=q:=by grind[km]
theorem DV(j q):pE j q=decide (j=q):=by grind[pE,dN,lX,Bool.decide_and]
theorem K9{C}:∀{l},(qI dI C l).map km=c1 C (l.map fH)
 | []=>rfl
 |ag::l=>by
  show(Z _ _ (qI dI C l)).map km= _;rw[lX]
  by_cases j:C=ag.1
  ·rw[decide_eq_true j,df];simp[c1,fH,j]
  ·rw[decide_eq_false j,cZ,K9];simp[c1,fH,j]
theorem K8{C}:∀{l},qI pE C l=c1 (km C) (l.map dO)
 | []=>rfl
 |ag::l=>by
  show Z _ _ (qI pE C l)= _;rw[DV]
  by_cases j:C=ag.1
  ·rw[decide_eq_true j,df];simp[c1,dO,j]
  ·rw[decide_eq_false j,cZ,K8];simp[c1,dO,Ny,j]
theorem NM{C v}:∀{l},(u4 dI C v l).map fH=eY C (km v) (l.map fH)
 | []=>rfl
 |ag::l=>by
  show(Z _ _ (ag::u4 dI C v l)).map fH= _;rw[lX]
  by_cases j:C=ag.1
  ·rw[decide_eq_true j,df];simp[eY,fH,j]
  ·rw[decide_eq_false j,cZ,eS,NM];simp[eY,fH,j]
theorem NL{C v}:∀{l},(u4 pE C v l).map dO=eY (km C) v (l.map dO)
 | []=>rfl
 |ag::l=>by
  show(Z _ _ (ag::u4 pE C v l)).map dO= _;rw[DV]
  by_cases j:C=ag.1
  ·rw[decide_eq_true j,df];simp[eY,dO,j]
  ·rw[decide_eq_false j,cZ,eS,NL];simp[eY,dO,Ny,j]
def EL{D}(O:wY P T=some D):∃j,lK P T (j,D.2)/\((D.1=true/\rG P j 3/\yw P j)\/(D.1=false/\Cm P j)):=by
 obtain⟨W,aa,ab⟩:=ao.1 O;obtain⟨K,Q,R⟩:=ao.1 aa;have U:=lv Q;cases K<;>cases R
 rename_i j E
 have J:lK P T (j,E):=⟨U⟩;cases I:mC P j with
 |none=>
  rw[show(j,E).1=j from rfl,I]at ab;obtain⟨C,G⟩:=cu.1 ab;cases G;rw[bL]at C;exact⟨j,J,.inl ⟨rfl,⟨C.1⟩,⟨C.2⟩⟩⟩
 |some q=>
  rw[show(j,E).1=j from rfl,I]at ab;obtain⟨C,G⟩:=cu.1 ab;cases G;have:=hg.1 C;subst this;exact⟨j,J,.inr ⟨rfl,⟨D2 I⟩⟩⟩
def cq.mkMap{O}(ak:Na T O P t h=some (v,a6)):cq Ω P t h ⟨d,.makeMap T O,aQ,a3,a2,a0⟩ v a6:=λg F au j Z s C R U W=>by
 obtain⟨aa,ab⟩:=cu.1 ak;obtain⟨ag,av,am⟩:=ao.1 ab;cases am;cases O with
 |some _=>trivial
 |none=>
  cases Y:ag.1 with
  |true=>
   refine wr (bC:=I) (d9:=Bool) j Z (d0 j) C.dC R U λar Q ae ⟨b,D,E⟩ G=> ?_;subst D E;obtain⟨J,K,ap⟩:=ST.new (o:=.pS []) (c:=0) C.dp G;exact W _ Q _ J (.m K) (by rw[Y,df];omega)
  |false=>
   refine wr (bC:=Int) (d9:=I) (T:=T) (L:=F::bJ au h) (J:=hP j) j Z (d0 j) C.dC R U λar Q ae ⟨b,D,E⟩ G=> ?_;subst D E;obtain⟨J,K,ap⟩:=ST.new (o:=.oD []) (B:=b) (c:=0) (F:=F) C.dp G;exact W _ Q _ J (.m K) (by rw[Y,cZ];omega)
theorem cq.look{G}(aW:M7 T x y G P t h=some (v,a6)):cq Ω P t h ⟨d,.lookup T x y G,aQ,a3,a2,a0⟩ v a6:=λg F J U E s aC aL aO bb=>by
 obtain⟨m,aa,ab⟩:=ao.1 aW;obtain⟨b,a1,a4⟩:=ao.1 ab;obtain⟨bl,a5,a7⟩:=ao.1 a4;obtain⟨aw,a8,a9⟩:=ao.1 a7;obtain⟨z,ba,aY⟩:=ao.1 a9;obtain⟨bi,aZ,W⟩:=ao.1 aY;obtain⟨bm,R,be⟩:=EL a8;obtain⟨bs,aE,aG,_⟩:=s8 ba;obtain⟨bn,Y,ay⟩:=c8 s aa;obtain⟨bp,Z,ae⟩:=c8 s a5;rw[tV a1]at ay;cases ay with
 | @m _ aI aS aX=>
  have bg:=aC.open aX aZ
  have D:∀(ag:Value),bf P (ea J bi aI aS::F::eB J h b) (hP U) ⟨d,.lookup T x y G,aQ,a3,a2,a0⟩ ag->bq J v ag->a6=h->dv P ⟨d,.lookup T x y G,aQ,a3,a2,a0⟩ U E aL aO:=λag bc bh bd=>by
   subst bd;unfold dv;rw[bc U E (d0 U) bg.s];exact bb ag E J (aV.le.refl _) bh aC
  rcases be with ⟨ak,bk,aK⟩|⟨ak,aK⟩
  ·rw[ak,df]at W;obtain⟨j,aH,aP⟩:=ao.1 W;obtain⟨C,am,ap⟩:=ao.1 aP;obtain⟨bj,ar,au⟩:=ao.1 ap;obtain⟨O,av⟩:=cu.1 au;rw[yT aH]at D;rw[yR am]at ae;have:=ae.lh;subst this;rw[l0,Bool.not_eq_true']at O;subst O;have Q:=aG J;rw[nf ar]at Q;cases Q;have K:tM P aw.2 Bool:=⟨λE=>aE E⟩;cases av;rw[K8]at D;cases G with
   |true=>
    refine D _ (us (bC:=I) (d9:=Bool) (j:=km C) (M:=j.map dO) (G:=R) (I:=K) Y Z cY.here) ?_ p;cases c1 (km C) (j.map dO)with
    |none=>exact .b1 (.cons .b (.cons .b .nil))
    |some q=>exact .b1 (.cons .b (.cons .b .nil))
   |false=>
    refine D _ (zI (bC:=I) (d9:=Bool) (j:=km C) (M:=j.map dO) (G:=R) (I:=K) Y Z cY.here) ?_ p;cases c1 (km C) (j.map dO)with
    |none=>exact .b
    |some q=>exact .b
  ·rw[ak,cZ]at W;obtain⟨j,aH,aP⟩:=ao.1 W;obtain⟨C,am,ap⟩:=ao.1 aP;obtain⟨bj,ar,au⟩:=ao.1 ap;obtain⟨O,av⟩:=cu.1 au;rw[yU aH]at D;rw[vY am]at ae;have:=ae.i64;subst this;rw[DV,decide_eq_true_iff]at O;subst O;have Q:=aG J;rw[yR ar]at Q;have:=Q.lh;subst this;have K:tM P aw.2 I:=⟨λE=>aE E⟩;cases av;have ax:=K9 (C:=C) (l:=j);cases G with
   |true=>
    refine D _ (us (bC:=Int) (d9:=I) (j:=C) (M:=j.map fH) (G:=R) (I:=K) Y Z cY.here) ?_ p;rw[<- ax];cases qI dI C j with
    |none=>exact .b1 (.cons (sm (0,0,0)) (.cons .b .nil))
    |some q=>exact .b1 (.cons (sm q) (.cons .b .nil))
   |false=>
    refine D _ (zI (bC:=Int) (d9:=I) (j:=C) (M:=j.map fH) (G:=R) (I:=K) Y Z cY.here) ?_ p;rw[<- ax];cases qI dI C j with
    |none=>assumption
    |some q=>exact sm q
def cq.g8(aE:Ni T x y z P t h=some (v,a6)):cq Ω P t h ⟨d,.mapUpdate T x y z,aQ,a3,a2,a0⟩ v a6:=λg F ax C aw s Z ag ak am=>by
 obtain⟨m,aa,ab⟩:=ao.1 aE;obtain⟨b,aK,aL⟩:=ao.1 ab;obtain⟨bd,aO,aW⟩:=ao.1 aL;obtain⟨bj,aS,aX⟩:=ao.1 aW;obtain⟨bb,aY,aZ⟩:=ao.1 aX;obtain⟨bf,aI,D⟩:=ao.1 aZ;obtain⟨be,ba,a1⟩:=EL aY;obtain⟨bg,ap,ar⟩:=c8 s aa;obtain⟨bh,au,G⟩:=c8 s aO;obtain⟨bi,av,I⟩:=c8 s aS;rw[tV aK]at ar;cases ar with
 | @m _ a8 bc O=>
  have E:=Z.open O aI
  rcases a1 with ⟨Q,a9,ay⟩|⟨Q,ay⟩
  ·rw[Q,df]at D;obtain⟨aG,aH,aP⟩:=ao.1 D;obtain⟨a4,R,U⟩:=ao.1 aP;obtain⟨a7,W,Y⟩:=ao.1 U;cases Y;rw[yT aH]at E;rw[yR R]at G;have:=G.lh;subst this;rw[nf W]at I;cases I;refine pv ap au av aN.here C aw (d0 C) E ag ak λa5 ae aC ⟨J,K⟩ j=> ?_;subst J K;rw[<- NL]at j;exact am _ ae ax (aV.le.refl _) (.b1 .nil) (ST.close Z.dp O j)
  ·rw[Q,cZ]at D;obtain⟨aG,aH,aP⟩:=ao.1 D;obtain⟨a4,R,U⟩:=ao.1 aP;obtain⟨a7,W,Y⟩:=ao.1 U;cases Y;rw[yU aH]at E;rw[vY R]at G;have:=G.i64;subst this;rw[yR W]at I;have:=I.lh;subst this;refine pv ap au av aN.here C aw (d0 C) E ag ak λa5 ae aC ⟨J,K⟩ j=> ?_;subst J K;rw[<- NM]at j;exact am _ ae ax (aV.le.refl _) (.b1 .nil) (ST.close Z.dp O j)
end
end aX
end
section
namespace aX
variable{Ω:bX}
section
variable{P:Program}{t:dH}{h a6:bQ}{v:al}{d:Option Nat}{aQ T cE S:TypeId}{a3:String}{a2:Array Edge}{a0:Option (Nat×Bool)}{x y z:Operand}{o:Oper}
def RO{g aW M aV ao J aG bt}{E U av n O I q:Nat}{R au am ae bn}[bq:eo P T (E,U,av)][bs:cy P E bn](bf:eD aV ao)(bW:a4 g aW J)(bY:aY aV x=some (.slice R n O))(bZ:aY aV y=some (.slice au I q))
  (bO:aN (own E U R n O am) aW M) (bP:ae.length=I*U) (bT:0<I->∃b o,au=some ⟨b,o,none⟩/\mP b o ae J.hm) (aa:∀aS∈ae,aS.oneCell'=true) (b1:aA bn.length U=true) (a1:0<U) (a8:(n+I)*av<=140737488355328) (cb:n+I<=140737488355328)
  (a7:∀v D aX,(∃aE aw,v=.slice aE (n+I) aw/\n+I<=aw/\aw<=maxLen/\(0<n+I->∃b,aE=some ⟨b,0,none⟩)/\aX=own E U aE (n+I) aw (am++ae)::M)->a4 g aX D->aG (ao.put d v) D):
  dv P ⟨d,.call ⟨.builtin .append,#[x,y],#[T,T]⟩,aQ,a3,a2,a0⟩ ao J aG bt:=by
 obtain⟨bk,bp,ak,ay,bg,a9,bb,bj⟩:=bq.zero bs;have bi:=bV b1;have bh:a4 g _ J:=bW.mono λ_=>G.perm bO.perm;obtain⟨ce,aC,bA,b8,bm,⟨b6,bl,b7,aP⟩,l⟩:=bh.s;have be:J.ownsRow 0 E U (.slice R n O) n am:=by
  refine⟨b6,?_⟩;rcases aP with ⟨rfl,rfl,rfl⟩|⟨b,Y,rfl,aZ,bC,bE⟩
  ·simp
  ·exact .inr ⟨b,O,Y,rfl,bu _,b8 _ _ aZ,bl,b7,bC,bE⟩
 have aI:∀K D,D.ownsRow 0 E U K (n+I) (am++ae)->J.grownBy D (Value.slice R n O).ownBlock->(K.ownBlock=(Value.slice R n O).ownBlock\/K.ownBlock=some J.heap.size)->(K=.slice none 0 0->n+I=0)->aG (ao.put d K) D:=by
  intro K D bN ax ca cc;have aO:∀j o,aC j=some o->D.hm j=some o/\some j≠K.ownBlock:=λj o bc=>by
   have bJ:j<J.heap.size:=by
    have:=bm _ _ bc;rcases eC j _ with a6|a6
    ·omega
    ·simp[World.hm,oR a6]at this
   have bM:some j≠(Value.slice R n O).ownBlock:=by
    intro W;rcases aP with ⟨rfl,_⟩|⟨b,Y,rfl,aZ,_⟩
    ·trivial
    ·simp[Value.ownBlock]at W;subst W;rcases bA j with Z|Z
     ·simp_all
     simp_all
   refine⟨by show D.heap[j]?= _;rw[ax.block j bJ bM];exact bm _ _ bc,λW=> ?_⟩;simp_all
  obtain⟨b4,b5⟩:=bN;have ba:pB D=g.base:=by
   have:=bh.g;rw[<- this];simp[pB,ax.os,ax.tape,ax.output]
  rcases b5 with ⟨rfl,bd⟩|⟨b,bz,Y,rfl,_,b9,ab,ag,ap,ar⟩
  ·have bB:=bd;rw[<- bd];refine a7 _ _ _ ⟨none,0,by grind,C,bu _,λZ=>absurd Z C,rfl⟩ ⟨ba,λ_=>none,aC,λ_=> .inl p,λ_ _ E=>(by grind),λj o h=>(aO j o h).1,⟨C,C,bu _,.inl ⟨rfl,bB,rfl⟩⟩,l⟩
  ·refine a7 _ _ _ ⟨some ⟨b,0,none⟩,bz,rfl,ab,ag,λ_=>⟨b,rfl⟩,rfl⟩ ⟨ba,λj=>if j=b then some (.cells Y E (0,0))else none,aC,λj=> ?_,λj o E=> ?_,λj o h=>(aO j o h).1,⟨b4,ab,ag,.inr ⟨b,Y,rfl,Q,ap,ar⟩⟩,l⟩
   ·by_cases aL:j=b
    ·right;cases Z:aC j with
     |none=>rfl
     |some o=>exact absurd (by rw[aL];rfl) (aO j o Z).2
    simp_all
   ·replace E:(if j=b then some (Obj.cells Y _ (0,0))else none)=some o:=E
    by_cases aL:j=b
    ·subst aL;rw[if_pos p]at E;rw[<- E];trivial
    simp_all
 have a5:n+I<=maxLen:=by simp only[maxLen];omega
 unfold dv;have aH:∀K D,(kV #[T,T] aQ #[.slice R n O,.slice au I q]).run P J=.ok K D->(execOp ao.eval ⟨d,.call ⟨.builtin .append,#[x,y],#[T,T]⟩,aQ,a3,a2,a0⟩).run P J=.ok (.value K) D:=by
  intro K D Z;simp only[execOp,resolve,fY,eS,lC,bf.eval bY,bf.eval bZ];simp only[cg,eJ,db,invoke,builtin,Z]
 rcases g9 I with rfl|bK
 ·have b0:ae=[]:=e3 C;subst b0;rcases au with _|bx
  ·have bU:(kV #[T,T] aQ #[.slice R n O,.slice none 0 q]).run P J=.ok (.slice R n O) J:=by
    rcases aP with ⟨rfl,rfl,rfl⟩|⟨b,Y,rfl,_⟩
    ·simp[kV,run_underlying ak,sizeOf,typeInfo,ay,rx,rv]
    ·simp[kV,run_underlying ak,sizeOf,typeInfo,ay,rx,rv,bl,storeCells]
   rw[aH _ _ bU];refine aI _ _ (by simp_all) ⟨rfl,rfl,rfl,bv _,λ_ _ _=>rfl⟩ (.inl p) λW=> ?_;simp only[tg]at W;omega
  ·obtain⟨K,D,ab,ag,ap,ar,aK⟩:=run_append_own_at (P:=P) J 0 T aQ E bk bp U av ak ay bb bg a9 (by rw[bj,bi]) a1 (.slice R n O) n am be bx 0 q [] Q Q Q a5 a8 (bu _);rw[aH _ _ ab];refine aI _ _ ag ap aK λW=> ?_;have:=ar.1 W;simp[tg]at this;omega
 ·obtain⟨b,o,rfl,bI⟩:=bT bK;obtain⟨K,D,ab,ag,ap,ar,aK⟩:=run_append_own_at (P:=P) J 0 T aQ E bk bp U av ak ay bb bg a9 (by rw[bj,bi]) a1 (.slice R n O) n am be ⟨b,o,none⟩ I q ae bP (λb3 aS ak=>by
   rw[je];exact bI b3 aS ak) aa a5 a8 (bu _)
  rw[aH _ _ ab];refine aI _ _ ag ap aK λW=> ?_;have:=ar.1 W;omega
theorem Gz:∀{l}{n}{C},kq l n=some C->C=l.take n
 |l,0,C,j=>by cases l<;>cases j<;>rfl
 | [],n+1,C,j=>by cases j
 |v::l,n+1,C,j=>by
  unfold kq at j;cases h:kq l n with
  |none=>simp_all
  |some D=>rw[h]at j;cases j;rw[List.take_succ_cons,Gz h]
def Nq:∀{D},iW D=true->∀j∈D,j.oneCell'=true
 | [],_,j,h=>by grind
 |x::l,C,j,h=>by
  simp[iW,bL]at C;rcases List.mem_cons.1 h with rfl|h
  ·cases j<;>first|rfl|cases C.1
  ·exact Nq C.2 j h
theorem ST.slice{g F}{K:aV Ω}{ae}(ap:ST g F K h ae){R J W U am}(ao:bq K W am)(G:pN W=some J)(O:sR h R W=some U):
  ∃C j q,am=.slice j J q/\bh K U C/\C.length=J*R/\(j=none->J=0/\q=0)/\(0<J->∃b o,j=some ⟨b,o,none⟩/\mP b o C ae.hm):=by
 have ak:∀(b o n:Nat) (j D:Nat),K b=some (j,D)->xA h R (b,o,n)=some U->∃C,bh K U C/\C.length=n*R/\(0<n->mP j o C ae.hm):=λb o n j D I E=>by
  unfold xA at E;cases Z:aA n 0 with
  |true=>
   rw[Z,df]at E;cases E;have:=bV Z;subst this;exact⟨[],.nil,Q,λh=>absurd h Q⟩
  |false=>
   rw[Z,cZ]at E;obtain⟨C,aa,ab,ag⟩:=ap.cells I E;grind
 cases ao with
 |eA=>cases G;cases O;exact⟨[],none,0,rfl,.nil,Q,(λ_=>⟨rfl,rfl⟩),(λh=>absurd h (dc 0))⟩
 | @hl ar au=>cases G;cases O;exact⟨[],_,_,rfl,.nil,Q,(λh=>by grind),(λh=>absurd h (dc 0))⟩
 | @dm b o n q j D I=>
  have Y:=kw G;subst Y;obtain⟨C,aa,ab,ag⟩:=ak b o n j D I O;grind
 | @cH b o n l j D I av=>
  have Y:=kw G;subst Y;obtain⟨C,aa,ab,ag⟩:=ak b o n j D I O;grind
 | _=>cases G
theorem rf{j:aO}{C:aG}(D:j λ_=>none){h:iV}(s:G C h):G (j::C) h:=
 ⟨λ_=>none,h,λ_=> .inl p,λ_ _ E=>(by grind),d7.refl _,D,s⟩
theorem ST.drop{g F C}{j:aV Ω}{I k x}(Q:∀k,h.n<=k->j k=none)(K:j k=some x)(dC:a4 g (C::F::eB j h k) I):a4 g (C::F::bJ j (h.put k .no)) I:=by
 have O:k<h.n:=by
  grind
 have E:(bJ j (h.put k _)).Perm (c9 j _ k::eB j (h.put k .no) k):=(lF (lD.2 O)).map _;have J:c9 j (h.put k .no) k=λ_=>True:=by simp[c9,zU,K,ea]
 rw[J,A4]at E;exact dC.mono λD s=>s.ep λD s=>s.ep λD s=>G.perm E.symm (rf trivial s)
theorem ST.q5{g F}{C:aV Ω}{K j D E J}(O:∀j,h.n<=j->C j=none)(Q:C j=some (D,E))(dC:a4 g (ea C J D E::F::bJ C h) K):ST g F C (h.put j J) K:=by
 have R:j<h.n:=by
  grind
 refine ST.close O Q (dC.mono λI s=>s.ep λI s=>s.ep λI s=> ?_);have U:(bJ C h).Perm _:=(lF (lD.2 R)).map _;exact(G.perm U s).tail
def ST.grown{g F}{j:aV Ω}{R}(O:∀Q,h.n<=Q->j Q=none){G I n b D:Nat}{E J}(W:bh j E J)(dC:a4 g (own G I (some ⟨b,0,none⟩) n D J::F::bJ j h) R):
  ∃K,j.le K/\bq K (.cH h.n 0 n 0) (.slice (some ⟨b,0,none⟩) n D)/\ST g F K (h.new (.io G I n E)) R:=by
 have ag:=own.facts dC.s;refine⟨aX.ext j h.n (b,D),?_⟩;obtain⟨Y,Z,ae⟩:=ST.new (o:=.io G I n E) O (dC.mono λU s=>fg (λU q=>⟨J,W.mono (sd _ (O _ (bv _))),q⟩) s);refine⟨Y,?_,ae⟩;have:=bq.cH (o:=0) (n:=n) (l:=0) Z C;omega
def XB{g J D E}{C U n:Nat}{W Y}(R:a4 g J D)(au:E.ownsRow D.heap.size C U W n Y)(G:D.grownBy E none)(aC:0<n):
  ∃b K,W=.slice (some ⟨b,0,none⟩) n K/\a4 g (own C U (some ⟨b,0,none⟩) n K Y::J) E:=by
 obtain⟨av,aw⟩:=au;rcases aw with ⟨_,ax⟩|⟨b,Z,O,rfl,am,ay,ab,ae,ag,ak⟩
 ·omega
 ·refine⟨b,Z,rfl,?_⟩;have ao:pB E=g.base:=by
   have:=R.g;rw[<- this];simp[pB,G.os,G.tape,G.output]
  refine⟨ao,λj=>if j=b then some (.cells O C (0,0))else none,D.hm,λj=> ?_,λj o C=> ?_,λj o ap=> ?_,⟨av,ab,ae,.inr ⟨b,O,rfl,Q,ag,ak⟩⟩,R.s⟩
  ·by_cases I:j=b
   ·right;subst I;simp[World.hm,oR am]
   simp_all
  ·replace C:(if j=b then some _ else none)=some o:=C
   by_cases I:j=b
   ·subst I;rw[if_pos p]at C;rw[<- C];trivial
   simp_all
  ·have ar:j<D.heap.size:=by
    rcases eC j _ with a6|a6
    ·omega
    ·simp[World.hm,oR a6]at ap
   show E.heap[j]?= _;rw[G.block j ar Q];trivial
def aaa{D}(j:GD D=some T):D=[T,T]:=by
 match D,j with
 | [G,I],j=>
  have C:Z _ _ _=some T:=j;cases E:aA G I with
  |false=>rw[E]at C;trivial
  |true=>rw[E]at C;cases C;simp_all
def cq.bE{b8}(ap:Jj [x,y] b8 P t h=some (v,a6)):cq Ω P t h ⟨d,.call ⟨.builtin .append,#[x,y],b8.toArray⟩,aQ,a3,a2,a0⟩ v a6:=λg F R aX ak s Y cc cf cm=>by
 have cK:(U (cX x t) λv=>U (cX y t) λav=>U (GD b8) λT=>U (kp P T) λap=>U (pN av) λD=>U (pN v) λn=>U (kj P ap.1) λbc=>U (qh P ap.1) λz=>
  bK (dT 0 ap.2&&(cN ((n+D)*bc.bytes) 140737488355328&&(cN (n+D) 140737488355328&&aA (jr (hM z)) ap.2))) (U (sR h ap.2 av) λay=>bK (sg ay) (I3 v h ap.1 ap.2 D ay)))=some (v,a6):=ap
 obtain⟨bk,aa,ab⟩:=ao.1 cK;obtain⟨d1,c3,c4⟩:=ao.1 ab;obtain⟨W,c6,c7⟩:=ao.1 c4;obtain⟨j,c9,da⟩:=ao.1 c7;obtain⟨D,bZ,cR⟩:=ao.1 da;obtain⟨n,bn,cS⟩:=ao.1 cR;obtain⟨bc,cj,cT⟩:=ao.1 cS;obtain⟨z,ck,cV⟩:=ao.1 cT;obtain⟨cl,cW⟩:=cu.1 cV;obtain⟨ay,c0,c1⟩:=ao.1 cW;obtain⟨c2,bp⟩:=cu.1 c1;have:=aaa c6;subst this;simp only[bL]at cl;obtain⟨bi,bj,bN,bO⟩:=cl;have bi:0<j.2:=eT bi;have bj:=eT bj;have bN:=eT bN;have bO:=bV bO;obtain⟨dY,cb⟩:=p8 c9;obtain⟨bt,bd,d2,dr,de⟩:=cb.spec;have cn:=mB cj;have:bd=bc:=by simp_all
 subst this;subst de;obtain⟨d3,cv,dE⟩:=ao.1 (show U (kj P j.1) (λbc=>U bc.zero λv=>xd 9 v)=some z from ck);obtain⟨cz,dF,dI⟩:=ao.1 dE;rw[cj]at cv;cases cv;obtain⟨dQ,bI,dN,cB⟩:=s8 ck;have dO:aA (ee dQ).length j.2=true:=by rw[((dN R).cells).len,bO];simp
 have dP:cz.cells.size=j.2:=by
  have:=((sG (aC:=R) 9 dI).cells).len;rw[rZ];simp_all
 obtain⟨bB,dy,dz⟩:=c8 s aa;obtain⟨d7,co,dA⟩:=c8 s c3;obtain⟨bC,bM,q,rfl,b6,cx,dK,cy⟩:=Y.slice dA bZ c0;have one:=Nq (cO c2 b6);have ci:∀b9 bg ag,bB=b9->(kV #[W,W] aQ #[b9,.slice bM D q]).run P ak=.ok bg ag->(execOp aX.eval ⟨d,.call ⟨.builtin .append,#[x,y],#[W,W]⟩,aQ,a3,a2,a0⟩).run P ak=.ok (.value bg) ag:=by
  intro b9 bg ag bT bZ;subst bT;simp only[execOp,resolve,fY,eS,lC,(d0 aX).eval dy,(d0 aX).eval co];simp only[cg,eJ,db,invoke,builtin,bZ]
 have b3:∀(aC:bA) (au aw:Nat),D=0->bB=.slice aC au aw->au<=aw->bq R v bB->a6=h->dv P ⟨d,.call ⟨.builtin .append,#[x,y],#[W,W]⟩,aQ,a3,a2,a0⟩ aX ak cc cf:=λaC au aw ba bU di du dh=>by
  subst ba dh;have dt:bC=[]:=e3 C;subst dt;have ds:Src P bd.size W (.slice bM 0 q) 0 [] ak:=by
   cases bM with
   |none=>have:=(dK p).2;subst this;exact Src.ofNil ak bt 0
   |some cC=>exact Src.ofSlice ak bt cC 0 q [] Q Q Q
  have:=run_append_nothing (P:=P) ak W W aQ j.1 bd bt cn aC au aw di _ ds;unfold dv;rw[ci _ _ _ bU this];rw[<- bU];exact cm _ ak R (aV.le.refl _) du Y
 have b4:∀(aC:bA) (au aw:Nat) (K:List al) (G:cs) (bx:Nat) (M:aG) (ab:bQ),bB=.slice aC au aw->au=n->0<n+D->bh R K G->(∀bx,ab.n<=bx->R bx=none)->a4 g (own j.1 j.2 aC au aw G::F::M) ak->(∀ag,(∀b bk,a4 g (own j.1 j.2 (some ⟨b,0,none⟩) (n+D) bk (G++bC)::F::M) ag->a4 g (own j.1 j.2 (some ⟨b,0,none⟩) (n+D) bk (G++bC)::F::bJ R ab) ag))->pU ab j.1 j.2 (n+D) (K++ay)=some (v,a6)->
   dv P ⟨d,.call ⟨.builtin .append,#[x,y],#[W,W]⟩,aQ,a3,a2,a0⟩ aX ak cc cf:=λaC au aw K G bx M ab bU a7 dq dx dg bb dd dk=>by
  subst a7;cases dk;refine RO (P:=P) (T:=W) (bq:=cb) (bs:=cB) (M:=F::M) (d0 aX) bb (by simp_all) co aN.here cx cy one dO bi bj bN ?_;rintro bg ag dU ⟨dR,O,rfl,aH,aP,dJ,rfl⟩ dw;obtain⟨b,rfl⟩:=dJ dq;obtain⟨cA,cp,cr,ct⟩:=ST.grown dg (dx.append b6) (dd ag b O dw);grind
 cases dz with
 |eA=>
  cases bn;have I:Z (aA D 0) (some (al.eA,h)) (pU h j.1 j.2 D ay)=some (v,a6):=bp;cases J:aA D 0 with
  |true=>
   rw[J,df]at I;cases I;exact b3 none 0 0 (bV J) p (bv _) .eA p
  |false=>
   rw[J,cZ]at I;have ba:0<D:=by cases D with|zero=>trivial|succ D=>simp
   refine b4 none 0 0 [] [] 0 (bJ R h) h p p C .nil Y.dp (Y.dC.mono λJ s=>rf ⟨Q,bv _,bu _,.inl ⟨rfl,rfl,rfl⟩⟩ s) (λag b bk q=>q) ?_;rw[iQ];exact I
 | @dm b o E O a5 bP ax=>
  have a7:E=n:=kw bn;subst a7;have I:Z (aA D 0) (bK (cN E O) (some (al.dm b o E O,h))) (Z (dT O (E+D)) (U (xA h j.2 (b,o,E)) λK=>bK (sg K) (pU h j.1 j.2 (E+D) (K++ay))) (U (h.get b) λx=>U (rV x) λq=>bK (aA o 0&&(aA j.1 q.1&&(aA (jr q.2) (O*j.2)&&(cN E O&&cN O 1000000)))) (U (rm q.2 (E*j.2)) λK=>pU (h.put b .no) j.1 j.2 (E+D) (K++ay))))=some (v,a6):=bp;cases J:aA D 0 with
  |true=>
   rw[J,df]at I;obtain⟨aO,aS⟩:=cu.1 I;cases aS;exact b3 _ _ _ (bV J) p (eT aO) (.dm ax) p
  |false=>
   rw[J,cZ]at I;have ba:0<D:=by cases D with|zero=>cases J|succ D=>omega
   rw[nj]at I
   by_cases b0:O<E+D
   ·rw[decide_eq_true b0,df]at I;obtain⟨K,aO,aS⟩:=ao.1 I;obtain⟨bl,a8⟩:=cu.1 aS;cases a8;obtain⟨G,dS,d5,aW,a9,aZ,bm,cM⟩:=Y.slice (bq.dm ax (o:=o) (n:=E) (q:=O)) p (show sR h j.2 (al.dm b o E O)=some K from aO);cases aW;obtain⟨cI,dB,rfl,be⟩:=cy ba;have dn:∀a1 av,G[a1]?=some av->ak.cell? ((⟨a5,o,none⟩:Addr).add a1)=some av:=λa1 av bs=>by
     rw[je];have dj:0<E:=by
      rcases g9 E with bY|bY
      ·subst bY;have:G=[]:=e3 (by simpa using aZ);subst this;cases bs
      ·exact bY
     obtain⟨dV,d4,bT,bf⟩:=cM dj;cases bT;exact bf a1 av bs
    obtain⟨bg,ag,bW,cP,cQ⟩:=run_append_arg_grows (P:=P) ak W aQ j.1 bd cz j.2 bd.bytes bt cn dF dr p dP bi ⟨a5,o,none⟩ E O G aZ dn ⟨cI,dB,none⟩ D q bC cx (λa1 av bs=>by rw[je];exact be a1 av bs) b0 (by unfold maxLen;omega) bj;unfold dv;rw[ci _ _ _ p bW];obtain⟨dW,dZ,rfl,ar⟩:=XB Y.dC cP cQ C;obtain⟨cA,cp,cr,ct⟩:=ST.grown Y.dp (a9.append b6) ar;exact cm _ ag cA cp cr ct
   ·rw[decide_eq_false b0,cZ]at I;obtain⟨ca,aO,aS⟩:=ao.1 I;obtain⟨am,bl,a8⟩:=ao.1 aS;obtain⟨aW,a9⟩:=cu.1 a8;obtain⟨K,aZ,bm⟩:=ao.1 a9;simp only[bL]at aW;obtain⟨aE,aI,aK,aL,aY⟩:=aW;have aE:=bV aE;have aI:=bV aI;have aK:=bV aK;have aL:=eT aL;have aY:=eT aY;subst aE;have b1:ca=.ce am.1 am.2:=by cases ca<;>cases bl;rfl
    subst b1;have bb:=Y.open ax aO
    obtain⟨G,ar⟩:=kh (C:=λG h=>bh R am.2 G/\ae a5 am.1 G h) bb;have bz:bh R am.2 G:=by obtain⟨_,_,_,_,_,⟨bI,_⟩,_⟩:=ar.s;exact bI
    have dL:G.length=O*j.2:=by rw[bz.len];exact aK
    obtain⟨dM,be,bf⟩:=bz.take aZ;have b7:=Gz bf;subst b7;rw[<- aI]at ar;refine b4 _ E O K (G.take (E*j.2)) b (eB R h b) (h.put b .no) p p C be Y.dp (ar.mono λ_ z=>fg (λJ z=>own.kF z.2 dL aL (by unfold maxLen;omega)) z) (λag cG cJ b5=>ST.drop Y.dp ax b5) bm
 | @cH b o E l a5 bP ax bW=>
  have a7:E=n:=kw bn;subst a7;have I:Z (aA D 0) (some (al.cH b o E l,h)) (U (h.get b) λx=>U (yV x) λq=>bK (aA o 0&&(aA l 0&&(cN E q.2.2.1&&(aA j.1 q.1&&aA j.2 q.2.1)))) (U (rm q.2.2.2 (E*j.2)) λK=>pU (h.put b .no) j.1 j.2 (E+D) (K++ay)))=some (v,a6):=bp;cases J:aA D 0 with
  |true=>
   rw[J,df]at I;cases I;exact b3 _ _ _ (bV J) p C (.cH ax bW) p
  |false=>
   rw[J,cZ]at I;have ba:0<D:=by cases D with|zero=>cases J|succ D=>omega
   obtain⟨ca,aO,aS⟩:=ao.1 I;obtain⟨am,bl,a8⟩:=ao.1 aS;obtain⟨aW,a9⟩:=cu.1 a8;obtain⟨K,aZ,bm⟩:=ao.1 a9;simp only[bL]at aW;obtain⟨aE,aI,aK,aL,aY⟩:=aW;have aE:=bV aE;have aI:=bV aI;have aK:=eT aK;have aL:=bV aL;have aY:=bV aY;subst aE;subst aI;have b1:=I8 bl;subst b1;have bb:=Y.open ax aO
   obtain⟨G,ar⟩:=kh (C:=λG h=>bh R am.2.2.2 G/\own am.1 am.2.1 (some ⟨a5,0,none⟩) am.2.2.1 bP G h) bb;have bz:bh R am.2.2.2 G:=by obtain⟨_,_,_,_,_,⟨bI,_⟩,_⟩:=ar.s;exact bI
   obtain⟨dM,be,bf⟩:=bz.take aZ;have b7:=Gz bf;subst b7;rw[<- aL,<- aY]at ar;refine b4 _ E bP K (G.take (E*j.2)) b (eB R h b) (h.put b .no) Q p C be Y.dp (ar.mono λ_ z=>fg (λJ z=>own.less z.2 aK) z) (λag cG cJ b5=>ST.drop Y.dp ax b5) bm
 |hl=>cases bp
 | _=>cases bn
end
end aX
end
section
namespace aX
variable{Ω:bX}
section
variable{P:Program}{t:dH}{h a6:bQ}{v:al}{d:Option Nat}{aQ T cE S:TypeId}{a3:String}{a2:Array Edge}{a0:Option (Nat×Bool)}{x y z:Operand}{o:Oper}
def Fc{C}(j:sH C=some T):C=[T]:=by
 match C,j with
 | [D],j=>cases j;rfl
def Zb{g F}{D:aV Ω}{O}(ar:ST g F D h O){b o W au aG j ab}(Z:D b=some (W,au))(aK:GP h b o aG=some ab)(R:bh D aG j)(aa:iW j=true):∃E,(storeCells ⟨W,o,none⟩ j).run P O=.ok () E/\ST g F D ab E:=by
 obtain⟨bi,aP,aS⟩:=ao.1 aK;obtain⟨av,aW,aX⟩:=ao.1 aS;obtain⟨bj,aw,aY⟩:=ao.1 aX;cases aY;have aC:=ar.open Z aP
 rcases yS aW with ⟨be,rfl⟩|⟨aL,ap,aE,rfl⟩
 ·obtain⟨G,J⟩:=kh aC;have K:bh D av G:=by obtain⟨_,_,_,_,_,⟨bd,_⟩,_⟩:=J.s;omega
  have Q:=J.mono λ_ z=>fg (λ_ z=>z.2) z;obtain⟨ba,ag⟩:=R.lay K aw;have ak:=K.len;have am:=R.len;rw[uM]at ak am;obtain⟨E,Y,I⟩:=rl j o 0 G O (yN aa) C Q;rw[rC]at I;exact⟨E,Y,ST.close ar.dp Z (I.mono λ_ z=>fg (λ_ z=>⟨_,ag,z⟩) z)⟩
 ·obtain⟨G,J⟩:=kh aC;have K:bh D av G:=by obtain⟨_,_,_,_,_,⟨bd,_⟩,_⟩:=J.s;omega
  have Q:=J.mono λ_ z=>fg (λ_ z=>z.2) z;obtain⟨ba,ag⟩:=R.lay K aw;have ak:=K.len;have am:=R.len;rw[uM]at ak am;obtain⟨a8,a9,aI,bb,bc,U,l⟩:=Q.s;obtain⟨aH,aZ,bf,a5⟩:=U.pY;have ay:=U.le;have a1:=U.cap;have bg:=U.len;have a7:a4 g (ae W aL _::F::eB D h b) O:=⟨Q.g,a8,a9,aI,bb,bc,aZ,l⟩;have ax:aE*ap<=au*ap:=Nat.mul_le_mul_right _ ay;obtain⟨E,Y,I⟩:=rl j o 0 _ O (yN aa) C a7;rw[rC]at I;refine⟨E,Y,ST.close ar.dp Z (I.mono λax s=>fg (λax q=>⟨_,ag,?_⟩) s)⟩;have aO:(ej aH o j).take (aE*ap)=ej G o j:=by
   rw[jy _ o j C,jy G o j C,Gs _ j o _ C C,a5]
  rw[<- aO];exact own.kF q (by rw[vc];omega) ay a1
def Xo{n C}(h:iW C=true):iW (gP n C).flatten=true:=by
 have G:∀(j b:List _),iW j=true->iW b=true->iW (j++b)=true:=λj b D I=>by
  induction j with
  |nil=>trivial
  |cons x j E=>
   simp[iW]at D;simp[List.cons_append,iW];simp_all
 induction n with
 |zero=>rfl
 |succ n E=>grind
def cq.SL{aS}(aE:Jk [x] aS P t h=some (v,a6)):cq Ω P t h ⟨d,.call ⟨.builtin .clear,#[x],aS.toArray⟩,aQ,a3,a2,a0⟩ v a6:=λg F E G j s aP av aw aI=>by
 have a4:(U _ _)=some _:=aE;obtain⟨C,aa,ab⟩:=ao.1 a4;obtain⟨aZ,bc,bd⟩:=ao.1 ab;obtain⟨aL,be,bf⟩:=ao.1 bd;obtain⟨z,bg,J⟩:=ao.1 bf;have:=Fc aa;subst this;obtain⟨bs,aY⟩:=p8 be;obtain⟨ak,bI,bA,bC,bz⟩:=aY.spec;obtain⟨Q,bJ,bm,bp⟩:=s8 bg;obtain⟨O,bj,am⟩:=c8 s bc;have aH:∀D,(kW #[C] aQ #[O]).run P j=.ok (.tuple #[]) D->(execOp G.eval ⟨d,.call ⟨.builtin .clear,#[x],#[C]⟩,aQ,a3,a2,a0⟩).run P j=.ok (.value (.tuple #[])) D:=by
  intro D K;simp only[execOp,resolve,fY,eS,lC,(d0 G).eval bj];simp only[cg,eJ,db,invoke,builtin,K]
 have aW:bq E _ _:=.b1 .nil;have aK:(kW #[C] aQ #[O]).run P j=.ok (.tuple #[]) j->v=.b1 []->a6=h->dv P ⟨d,.call ⟨.builtin .clear,#[x],#[C]⟩,aQ,a3,a2,a0⟩ G j av aw:=λbh Y Z=>by
  subst Y Z;unfold dv;rw[aH _ bh];exact aI _ j E (aV.le.refl _) aW aP
 cases ag:qR aZ with
 |true=>
  rw[ag,df]at J;cases J;rw[z5 ag]at am;cases am;exact aK (by simp[kW,run_underlying ak]) p p
 |false=>
  rw[ag,cZ]at J;obtain⟨K,a8⟩:=cu.1 J;obtain⟨q,a9,I⟩:=ao.1 a8;simp only[bL]at K;obtain⟨a1,W,ax⟩:=K;have W:=eT W;have ax:=bV ax;have au:=(bm E).cells;have aX:(ee Q).length=aL.2:=by rw[au.len];omega
  have bn:=cO a1 au;have bx:∀(R aC ar ap ay:Nat),E q.1=some (R,aC)->q.2.1=ar->q.2.2=ap->O=.slice (some ⟨R,ar,none⟩) ap ay->dv P ⟨d,.call ⟨.builtin .clear,#[x],#[C]⟩,aQ,a3,a2,a0⟩ G j av aw:=λR aC ar ap ay a7 Y Z aG=>by
   subst Y Z;cases ae:aA q.2.2 0 with
   |true=>
    rw[ae,df]at I;cases I;have:=bV ae;exact aK (by rw[aG,this];simp[kW,run_underlying ak]) p p
   |false=>
    rw[ae,cZ]at I;obtain⟨ab,ba,bb⟩:=ao.1 I;cases bb;obtain⟨bl,bk,aO⟩:=au.xC q.2.2;obtain⟨D,bt,a5⟩:=Zb (P:=P) aP a7 ba bk (by rw[aO];exact Xo bn);have bE:(eI Q.cells q.2.2).toList=bl:=by
     have:eI Q.cells q.2.2=madeCells (ee Q).toArray (q.2.2*aL.2):=by
      rw[rZ];simp[eI,madeCells,aX]
     rw[this,EK aX W,aO,AY]
    have bB:q.2.2≠0:=λaE=>by simp_all
    have bi:(kW #[C] aQ #[O]).run P j=.ok (.tuple #[]) D:=by
     rw[aG];unfold kW;simp[List.getElem?_cons_zero,cg,run_underlying ak];simp_all
    unfold dv;rw[aH _ bi];exact aI _ D E (aV.le.refl _) aW a5
  cases am<;>first|cases a9|skip
  ·simp_all
  simp_all
end
end aX
end
end
end Go.Proofs.YtioamnghkmcbbaaGreat
