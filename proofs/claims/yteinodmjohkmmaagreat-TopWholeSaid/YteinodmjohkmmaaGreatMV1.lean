/- TopWhole: a part of its proof. -/
import Derived.Laws.BytesString
import Derived.Test.YteinodmjohkmmaaGreatMV0
set_option linter.all false
set_option maxRecDepth 100000
set_option maxHeartbeats 4000000
open Array renaming getElem?_eq_some_iff->vq,replicate->oz
open Bool renaming and_eq_true->co,false->al,or_eq_true->pp,true->ag
open Classical renaming choose->tI,choose_spec->xX
open Function renaming comp_def->U2
open Go renaming Act->fh,Deferred->vt,FuncId->dc,Oper->cI,Operand->cJ,Program->bk,Value->a2,World->dd
open Go.Act renaming put->Kq
open Go.Code renaming wpIn_mono->oA
open Go.Deferred renaming ofValue->oB
open Go.Op renaming operands->KM
open Go.Oper renaming looksAt->EQ,wp->eg
open Go.Region renaming binds->qg,ready->jL,wanted->i6
open Go.Result renaming andThen_ok->dG
open Go.Sem renaming run_bind->cM,run_pure->e5
open List renaming all_cons->K3,all_eq_true->nL,eq_nil_of_length_eq_zero->gX,length->aa,length_map->jM,map_cons->fu,map_toArray->gY,mem_cons->df,mem_of_getElem?->lQ,mem_range->kU,nodup_cons->j3,perm_append_comm->ep,perm_cons_erase->mY,perm_middle->fA,range->gZ,rec->dN
open Nat renaming beq->aH,blt->eY,eq_of_beq_eq_true->cy,eq_zero_or_pos->hh,le_of_ble_eq_true->fq,le_refl->bC,lor->ij,lt_or_ge->dZ,one_shiftLeft->LR,pred->kA
open Option renaming none->af,rec->cK,some->ab
open Go.RowKit
namespace Go.Proofs.YteinodmjohkmmaaGreat
noncomputable section
namespace aV
variable{Ω:dO}
section
variable{P:bk}{t:eJ}{h br:cE}{v:aB}{d:Option Nat}{aO T ci S:TypeId}{pos:String}{aT:Array Edge}{a7:Option (Nat×Bool)}{x y z:cJ}{o:cI}
theorem adk{c}(C:H3 P T=ab c):nV P T c:=by
 let⟨j,an,D⟩:=b1.1 C;have E:=nG an;cases j<;>cases D;exact⟨E⟩
def cW.acj{am}(U:BW [x] am P t h=ab (v,br)):cW Ω P t h ⟨d,.call ⟨.builtin .len,#[x],am.toArray⟩,aO,pos,aT,a7⟩ v br:=by
 have ar:=U;let⟨ap,h1,ae⟩:=b1.1 ar;have:=Iu h1;subst this;cases Z:mq P ap with
 |some aK=>exact cW.ks (SX h1 Z U)
 |none=>
  let⟨c,an,W⟩:=b1.1 ae;rw[Z]at W;let⟨aJ,ax,b,az,aD,aA,C⟩:=i0 (show aq _ _=ab _ from W);have R:=adk ax;refine λg F H a E s O aE aG Y=>?_;let⟨aL,ah,ai⟩:=dS s an;rw[wg az]at ai;cases ai with
  | @m _ Q aI av=>
   have D:=O.open av aA
   cases J:wh aD with
   |some j=>
    rw[J]at C;cases C;rw[BS J]at D;have I:=CD (d:=d) (aO:=aO) (pos:=pos) (aT:=aT) (a7:=a7) (D:=R) (L:=ct Q (j.map gO)::F::fI H h b) ah fL.here;unfold eg;rw[I a E (eZ a) D.s];exact Y _ E H (bb.le.refl _) (by rw[jM];exact .i) O
   |none=>
    rw[J]at C;let⟨j,aF,aM⟩:=b1.1 (show aq _ _=ab _ from C);cases aM;rw[BR aF]at D;have I:=CD (d:=d) (aO:=aO) (pos:=pos) (aT:=aT) (a7:=a7) (H:=jB a) (D:=R) (M:=j.map e1) (L:=ct Q (j.map e1)::F::fI H h b) ah fL.here;unfold eg;rw[I a E (eZ a) D.s];exact Y _ E H (bb.le.refl _) (by rw[jM];exact .i) O
theorem PO{α l}{C:Option α}(j:G4 l=ab C):C.toList=l:=by
 cases l with
 |nil=>cases j;rfl
 |cons x l=>cases l with
  |nil=>cases j;rfl
  |cons _ _=>cases j
theorem cW.range(aL:RS T x P t h=ab (v,br)):cW Ω P t h ⟨d,.range T x,aO,pos,aT,a7⟩ v br:=λg F aV a aI s D ax az aD=>by
 let⟨m,h1,b,an,c,aQ,aX,aP,I⟩:=ns aL;let⟨aW,aJ,aR⟩:=H0 aQ;let⟨aY,aE,aG⟩:=dS s h1;rw[wg an]at aG;cases aG with
 | @m _ O aA E=>
  have J:=D.open E aP
  rcases aR with ⟨U,_⟩|⟨U,_⟩
  .rw[U,ea]at I;let⟨j,aF,C,aq,ar⟩:=en I;cases ar;rw[BR aF]at J;apply wE aE eH.here a aI (eZ a) J ax az λaS av aK ⟨H,Q,R⟩ Y=>?_;subst Q R;have Z:=ST.drop D.eU E Y;let⟨ah,am,ap⟩:=ST.new (h:=h.put b .no) (o:=.tr b j C af) (B:=H) (c:=0) (F:=F) D.eU (Z.mono λW s=>d8 (λW q=>⟨O,aA,wS (H,0) (D.eU _ (bC _)) _ _ E,by
    have aM:(C.map e1).toList=j.map e1:=by rw[<- PO aq];cases C<;>rfl
    simp_all⟩) s)
   exact aD _ av _ ah (.ai am) ap
  .rw[U,dP]at I;let⟨j,aF,C,aq,ar⟩:=en I;cases ar;rw[BS aF]at J;apply wE (b2:=Int) (e4:=aj) (P:=P) (g:=g) (T:=T) (J:=aJ) (M:=j.map gO) (L:=ct O (j.map gO)::F::fI aV h b) (H:=jB a) aE eH.here a aI (eZ a) J ax az λaS av aK ⟨H,Q,R⟩ Y=>?_;subst Q R;have Z:=ST.drop D.eU E Y;let⟨ah,am,ap⟩:=ST.new (h:=h.put b .no) (o:=.ts b j C af) (B:=H) (c:=0) (F:=F) D.eU (Z.mono λW s=>d8 (λW q=>⟨O,aA,wS (H,0) (D.eU _ (bC _)) _ _ E,by
    have aM:(C.map gO).toList=j.map gO:=by rw[<- PO aq];cases C<;>rfl
    simp_all⟩) s)
   exact aD _ av _ ah (.ai am) ap
theorem M4{j q}(C:yR j=ab q):j=.ts q.1 q.2.1 q.2.2.1 q.2.2.2:=by cases j<;>cases C;rfl
theorem M3{j q}(C:yQ j=ab q):j=.tr q.1 q.2.1 q.2.2.1 q.2.2.2:=by cases j<;>cases C;rfl
theorem cW.next{aW}(aI:RP x aW P t h=ab (v,br)):cW Ω P t h ⟨d,.next x aW,aO,pos,aT,a7⟩ v br:=λg F E a az s Y aA aD aE=>by
 let⟨aR,aI⟩:=de.1 (show cm _ _=ab _ from aI);rw[pf,Bool.not_eq_true']at aR;subst aR;let⟨a9,h1,q,an,aJ⟩:=en aI;let⟨aY,aJ⟩:=de.1 aJ;let⟨aV,aZ,ar⟩:=b1.1 aJ;let⟨bc,aF,aM⟩:=dS s h1;rw[pF an]at aM;have a3:=cy aY;rw[a3]at aM;cases aM with
 | @ai _ _ ah a8 am=>
  have D:=Y.open am aZ
  cases aK:yR aV with
  |some G=>
   rw[aK]at ar;rw[M4 aK]at D;let⟨b,j,ax,H⟩:=G;let⟨C,D⟩:=l8 D;let⟨I,D⟩:=l8 D;have ap:E b=ab (C,I):=by obtain⟨_,_,_,_,_,⟨a4,_⟩,_⟩:=D.s;omega
   have av:bj g _ az:=D.mono λ_ z=>d8 (λ_ z=>z.2) z;cases ax with
   |none=>
    have U:ab (aB.cB [.b al],(h.put q.1 .no).put b (.qM j))=ab (v,br):=ar;cases U;apply wD (b2:=Int) (e4:=aj) (P:=P) (g:=g) (M:=j.map gO) (q:=H.map gO) (L:=hK ah C (j.map gO) [] (H.map gO)::F::fI E h q.1) (H:=jB a) aF eH.here a az (eZ a) av aA aD λaP Z aG ⟨O,Q⟩ W=>?_;subst O Q;have aL:=W.mono λ_ z=>I7 z;exact aE _ Z E (bb.le.refl _) (.cB (.cons .b .nil)) (ST.DG (I:=.qM j) Y.eU ap (ST.drop Y.eU am aL))
   |some J=>
    have U:=ar;cases U;apply wC (b2:=Int) (e4:=aj) (P:=P) (g:=g) (M:=j.map gO) (aK:=[]) (D:=gO J) (q:=H.map gO) (L:=hK ah C (j.map gO) [gO J] (H.map gO)::F::fI E h q.1) (H:=jB a) aF eH.here a az (eZ a) av aA aD λaP Z aG ⟨A,aQ,R,aX,O,Q⟩ W=>?_;subst O Q;have:A=[]/\aQ=gO J/\R=[]:=by
     cases A with
     |nil=>simp_all
     |cons _ A=>simp_all
    obtain⟨rfl,rfl,rfl⟩:=this;exact aE _ Z E (bb.le.refl _) (.cB (.cons .b (.cons (PR _) (.cons (uv _) .nil)))) (ST.close (o':=.ts b j af (ab J)) Y.eU am (W.mono λ_ z=>d8 (λ_ z=>⟨C,I,ap,z⟩) z))
  |none=>
   rw[aK]at ar;let⟨G,a0,aS⟩:=b1.1 (show aq (yQ aV) _=ab (v,br)from ar);rw[M3 a0]at D;let⟨b,j,ax,H⟩:=G;let⟨C,D⟩:=l8 (A:=λC h=>∃I,E b=ab (C,I)/\hK ah C (j.map e1) (ax.map e1).toList (H.map e1) h) D;let⟨I,D⟩:=l8 (A:=λI h=>E b=ab (C,I)/\hK ah C (j.map e1) (ax.map e1).toList (H.map e1) h) D;have ap:E b=ab (C,I):=by obtain⟨_,_,_,_,_,⟨a4,_⟩,_⟩:=D.s;omega
   have av:=D.mono λ_ z=>d8 (λ_ z=>z.2) z;cases ax with
   |none=>
    have U:=aS;cases U;apply wD (b2:=aj) (e4:=Bool) (P:=P) (g:=g) (M:=j.map e1) (q:=H.map e1) (L:=hK ah C (j.map e1) [] (H.map e1)::F::fI E h q.1) (H:=jB a) aF eH.here a az (eZ a) av aA aD λaP Z aG ⟨O,Q⟩ W=>?_;subst O Q;have aL:=W.mono λ_ z=>I7 z;exact aE _ Z E (bb.le.refl _) (.cB (.cons .b .nil)) (ST.DG (I:=.rP j) Y.eU ap (ST.drop Y.eU am aL))
   |some J=>
    have U:=aS;cases U;apply wC (b2:=aj) (e4:=Bool) (P:=P) (g:=g) (M:=j.map e1) (aK:=[]) (D:=e1 J) (q:=H.map e1) (L:=hK ah C (j.map e1) [e1 J] (H.map e1)::F::fI E h q.1) (H:=jB a) aF eH.here a az (eZ a) av aA aD λaP Z aG ⟨A,aQ,R,aX,O,Q⟩ W=>?_;subst O Q;have:A=[]/\aQ=e1 J/\R=[]:=by
     cases A with
     |nil=>simp_all
     |cons _ A=>simp_all
    obtain⟨rfl,rfl,rfl⟩:=this;exact aE _ Z E (bb.le.refl _) (.cB (.cons .b (.cons (uv _) (.cons .b .nil)))) (ST.close (o':=.tr b j af (ab J)) Y.eU am (W.mono λ_ z=>d8 (λ_ z=>⟨C,I,ap,z⟩) z))
def cW.entry(Q:RD x P t h=ab (v,br)):cW Ω P t h ⟨d,.entry x,aO,pos,aT,a7⟩ v br:=λg F E a U s ax aL aM az=>by
 let⟨aQ,h1,q,an,W⟩:=en Q;let⟨aG,W⟩:=de.1 W;let⟨aD,aI,R⟩:=b1.1 W;let⟨aR,aA,ar⟩:=dS s h1;rw[pF an]at ar;have aK:=cy aG;rw[aK]at ar;cases ar with
 | @ai _ _ O aP aE=>
  have j:=ax.open aE aI
  cases am:yR aD with
  |some G=>
   rw[am]at R;rw[M4 am]at j;let⟨b,I,J,av⟩:=G;let⟨D,Y,Z⟩:=b1.1 (show aq av _=ab _ from R);subst Y;cases Z;let⟨C,j⟩:=l8 j;let⟨H,j⟩:=l8 j;have ap:=j.mono λ_ z=>d8 (λ_ z=>z.2) z;have ah:=wL (P:=P) (d:=d) (aO:=aO) (pos:=pos) (aT:=aT) (a7:=a7) (L:=hK O C (I.map gO) (J.map gO).toList (ab (gO D))::F::fI E h q.1) aA sB.here;unfold eg;rw[ah a U (eZ a) ap.s];exact az _ U E (bb.le.refl _) (.cB (.cons (PR _) (.cons (uv _) .nil))) ax
  |none=>
   rw[am]at R;let⟨G,Y,Z⟩:=b1.1 (show aq (yQ aD) _=ab (v,br)from R);rw[M3 Y]at j;let⟨b,I,J,av⟩:=G;let⟨D,aJ,aF⟩:=b1.1 (show aq av (λQ=>ab (aB.cB [qE Q.1,.b Q.2],h))=ab (v,br)from Z);subst aJ;cases aF;let⟨C,j⟩:=l8 (A:=λC h=>∃H,E b=ab (C,H)/\hK O C (I.map e1) (J.map e1).toList (ab (e1 D)) h) j;let⟨H,j⟩:=l8 (A:=λH h=>E b=ab (C,H)/\hK O C (I.map e1) (J.map e1).toList (ab (e1 D)) h) j;have ap:=j.mono λ_ z=>d8 (λ_ z=>z.2) z;have ah:=wL (b2:=aj) (e4:=Bool) (P:=P) (C:=e1 D) (d:=d) (aO:=aO) (pos:=pos) (aT:=aT) (a7:=a7) (H:=jB a) (L:=hK O C (I.map e1) (J.map e1).toList (ab (e1 D))::F::fI E h q.1) aA sB.here;unfold eg;rw[ah a U (eZ a) ap.s];exact az _ U E (bb.le.refl _) (.cB (.cons (uv _) (.cons .b .nil))) ax
end
end aV
namespace aV
variable{Ω:dO}
section
variable{P:bk}{t:eJ}{h br:cE}{v:aB}{d:Option Nat}{aO T ci S:TypeId}{pos:String}{aT:Array Edge}{a7:Option (Nat×Bool)}{x y z:cJ}{o:cI}
def vf(j:List UInt8):List a2:=j.map λb=> .int .u8 b.toNat
theorem NC{W:bb Ω}:∀{l}{j}{C},NB l=ab j->bK W l C->C=vf j
 | [],j,C,D,h=>by cases D;cases h;rfl
 |c::l,j,C,D,h=>by
  let⟨b,h1,s,an,J⟩:=en (show aq _ _=ab j from D);cases J;let⟨q,O,n,E,Q⟩:=en h1;let⟨R,I⟩:=de.1 Q;cases I;rw[eK,co,iY,pJ,decide_eq_true_iff]at R;rw[mJ O]at h;cases h with
  |cons a b=>
   cases a;rw[NC an b];have:q.2=(n:Int):=by
    cases H:q.2 with
    |ofNat U=>rw[H]at E;cases E;rfl
    |negSucc U=>rw[H]at E;trivial
   grind[vf,UInt8.toNat_ofNat_of_lt']
def aii{D o n q j C}(J:n=aa j)(O:0<n->p6 D o (vf j) C.hm):(Conv.bytesToString (.slice (ab ⟨D,o,af⟩) n q)).run P C=.ok (.string ⟨⟨j⟩⟩) C:=by
 have H:∀(l:List _) (s:ByteArray),(l.map λb=>(b.toNat:Int)).foldl (λj n=>j.push (UInt8.ofNat n.toNat)) s=⟨⟨s.data.toList++l⟩⟩:=by
  intro l
  induction l with
  |nil=>simp
  |cons b l aq=>simp_all
 have Z:(j.map λb=>(b.toNat:Int)).map (Value.int .u8)=vf j:=by simp[vf,U2]
 have am:(loadCells ⟨D,o,af⟩ n).run P C=.ok (vf j).toArray C:=by
  subst J;rcases hh (aa j)with E|E
  .have:=gX E;subst this;rfl
  .exact HS (L:=[p6 D o _]) ⟨by grind,λQ v I=>⟨λap U=>by
    let⟨ah,ai,W,R,av,aF,ar⟩:=U;exact iR.sub (aF Q v I) R⟩⟩ ⟨C.hm,λ_=>af,λ_=> .inr p,eV.refl _,λ_ _ Y=>bv,O E,trivial⟩
 rw[run_bytesToString C _ n q (j.map λb=>(b.toNat:Int)) bo,H];rfl
def ahs(j:AJ P T=ag):P.underlying T=ab .string:=by
 unfold AJ at j;cases C:mt P T with
 |none=>simp_all
 |some D=>rw[C]at j;have:=nG C;cases D<;>first|exact this|cases j
def afK{H l}:∀{c},u4 h H c=ab l->∃C,rL c=ab C:=by
 intro c j;cases E:rL c with
 |some C=>simp
 |none=>
  have D:yU c=af:=by cases c<;>first|rfl|trivial
  unfold u4 at j;rw[D,E]at j;cases j
def cW.conv(R:Ih S T x P t h=ab (v,br)):cW Ω P t h ⟨d,.convert S T x,aO,pos,aT,a7⟩ v br:=by
 cases Z:pd P T with
 |some aP=>exact cW.ks (SQ Z R)
 |none=>
  refine λg F ap a C s ai ar av aG=>?_;let⟨c,h1,az,an,Y⟩:=en R;rw[Z]at Y;let⟨aE,E⟩:=de.1 (show cm _ _=ab _ from Y);have am:=ahs aE;have bc:=nG an;let⟨a9,aQ,O⟩:=dS s h1;have W:∀(I:a2),(convert S T a9).run P C=.ok I C->bY ap v I->br=h->eg P ⟨d,.convert S T x,aO,pos,aT,a7⟩ a C ar av:=λI aL aM aJ=>by
   subst aJ;unfold eg;simp only[execOp,(eZ a).eval aQ,cM,aL,e5];exact aG I C ap (bb.le.refl _) aM ai
  cases J:sI c with
  |some b=>
   rw[J]at E;cases E;rw[wj J]at O;cases O;apply W _ _ .s p;unfold convert;simp only[cM,run_underlying bc,run_underlying am];rfl
  |none=>
   rw[J]at E;let⟨U,aF,aP,aS,aV⟩:=en (show aq _ _=ab _ from E);let⟨aW,aX⟩:=de.1 aV;let⟨l,ah,aZ,aY,aR⟩:=en aX;cases aR;have:=iY.1 aW;subst this;have be:=Hf aS;have aI:P.underlying S=ab (.slice U):=by cases az<;>cases aF;omega
   let⟨H,aK⟩:=afK ah;obtain⟨bg,Q,q,rfl,a0,a3,a4,a8⟩:=ai.slice O aK ah;have aD:=NC aY a0;subst aD;apply W _ _ .s p;rw[run_convert_bytes_string C S T U Q H q aI be am];have D:H=aa aZ:=by simpa[vf]using a3.symm
   cases Q with
   |none=>
    have j:=(a4 p).1;rw[j]at D;have:=gX D.symm;subst this;rfl
   |some ax=>
    rcases hh H with j|j
    .rw[j]at D;have:=gX D.symm;subst this;have:=run_bytesToString (P:=P) C ax H q [] (by rw[j];rfl);trivial
    .let⟨b,o,aA,rd⟩:=a8 j;cases aA;exact aii D λ_=>rd
theorem C2{j}(h:zG j=ag):j=.i64:=by cases j<;>first|rfl|cases h
theorem cW.rR{E}(H:Ni [x,y] E P t h=ab (v,br)):cW Ω P t h ⟨d,.call ⟨.builtin .max,#[x,y],E.toArray⟩,aO,pos,aT,a7⟩ v br:=by
 let⟨c,h1,Y,an,W,J,q,O,Q⟩:=ns (show aq _ _=ab _ from H);let⟨j,I⟩:=de.1 Q;cases I;rw[co]at j;apply cW.ks ⟨rfl,λai a s=>?_⟩;let⟨Z,R,C⟩:=dS s h1;let⟨ah,U,D⟩:=dS s J;rw[mJ an,C2 j.1]at C;rw[mJ O,C2 j.2]at D;cases C;cases D;exact⟨_,.i,wP R U⟩
def cW.adB{E}(H:Nj [x,y] E P t h=ab (v,br)):cW Ω P t h ⟨d,.call ⟨.builtin .min,#[x,y],E.toArray⟩,aO,pos,aT,a7⟩ v br:=by
 let⟨c,h1,Y,an,W,J,q,O,Q⟩:=ns (show aq _ _=ab _ from H);let⟨j,I⟩:=de.1 Q;cases I;rw[co]at j;apply cW.ks ⟨rfl,λai a s=>?_⟩;let⟨Z,R,C⟩:=dS s h1;let⟨ah,U,D⟩:=dS s J;rw[mJ an,C2 j.1]at C;rw[mJ O,C2 j.2]at D;cases C;cases D;exact⟨_,.i,OV R U⟩
end
end aV
namespace aV
variable{Ω:dO}
variable{P:bk}{t:eJ}{h br:cE}{v:aB}
def DF{l D E}(C:one l D=ab E):∃j,l=[j]/\D j=ab E:=by
 cases l with
 |nil=>cases C
 |cons j l=>cases l with
  |nil=>exact⟨j,rfl,C⟩
  |cons _ _=>cases C
def J1{l E j}(D:two l E=ab j):∃C y,l=[C,y]/\E C y=ab j:=by
 cases l with
 |nil=>cases D
 |cons C l=>
  obtain⟨y,rfl,h⟩:=DF (show one l _=ab j from D);grind
theorem cW.op(o)(j:kg o.op P t h=ab (v,br)):cW Ω P t h o v br:=by
 let⟨U,op,ar,am,R,W⟩:=o;cases op with
 |move C=>exact cW.ks (S1 j)
 |assign C=>exact cW.ks (SN j)
 |pick c a b=>exact cW.ks (S5 j)
 |alloc D=>exact cW.alloc j
 |box D C=>exact cW.box j
 |build D O=>exact cW.ks (SP j)
 |buildSlice D n O=>exact cW.XQ j
 |load D C=>exact cW.load j
 |store D C y=>exact cW.store j
 |nilCheck C=>exact cW.ks (S3 j)
 |binOp op D C y Q=>exact cW.ks (SO j)
 |unOp op D C=>
  cases op with
  |not=>exact cW.ks (S4 j)
  |neg=>exact cW.ks (S2 j)
  | _=>
   let⟨c,h1,ae⟩:=b1.1 (show z4 _ C P t h=ab _ from j);trivial
 |convert S D C=>exact cW.conv j
 |makeInterface D C=>exact cW.ks (S0 j)
 |makeFunc I l c=>exact cW.ks (SZ j)
 |makeMap D ap=>exact cW.mkMap j
 |makeSlice D l c=>exact cW.adz j
 |slice D C ah Y rR=>exact cW.ks (S6 j)
 |fieldAddr D C I=>exact cW.ks (SS j)
 |field D C I=>exact cW.ks (SU j)
 |indexAddr D C y=>exact cW.ks (SV j)
 |index D C y=>exact cW.ks (SW j)
 |lookup D C y ai=>exact cW.look j
 |mapUpdate D C y av=>exact cW.gl j
 |range D C=>exact cW.range j
 |next C q=>exact cW.next j
 |entry C=>exact cW.entry j
 |extract C Z=>exact cW.ks (SR j)
 |call c=>
  let⟨J,⟨H⟩,⟨aq⟩⟩:=c;cases J with
  |builtin b=>
   have E:=j;cases b<;>first|cases E|skip
   .obtain⟨C,y,rfl,_⟩:=J1 (show two H _=ab _ from E);exact cW.ev E
   .obtain⟨C,rfl,_⟩:=DF (show one H _=ab _ from E);exact cW.YI E
   .obtain⟨C,rfl,_⟩:=DF (show one H _=ab _ from E);exact cW.acj E
   .obtain⟨C,y,rfl,_⟩:=J1 (show two H _=ab _ from E);exact cW.rR E
   .obtain⟨C,y,rfl,_⟩:=J1 (show two H _=ab _ from E);exact cW.adB E
  | _=>cases j
 | _=>cases j
end aV
namespace aV
variable{Ω:dO}
structure jO (D C:bb Ω) (h:cE):Prop where
 eU:∀j,h.n<=j->C j=af
 nq:D.le C
def m0(H:bk)(Y:dc->List aB->cE->aK)(I:Q)(U:bb Ω):Prop:=∀D R h v E,Y D R h=ab (v,E)->cu H D/\
 ∀(j:bb Ω) J,bK j R J->jO U j h->O H D J.toArray (I++cz j h) λZ W=>∃C,j.le C/\bY C v Z/\jO U C E/\W=I++cz C E
def lv(U:bk)(Y:ir)(H:Q)(D:bb Ω):Prop:=∀I O h v C,Y I O h=ab (v,C)->∃l c b,D I=ab (l,c)/\v=.b b/\
 ∀(j:bb Ω) J,bK j O J->jO D j h->iP U l J (H++cz j h) λW R=>W=b/\∃E,j.le E/\jO D E C/\R=H++cz E C
def iO(F:aG)(j:Q):aG:=λD=>C (F::j) D
def jO.of_le{E}{H j:bb Ω}{h C}(I:jO E H h)(l:H.le j)(J:∀D,C.n<=D->j D=af):jO E j C:=
 ⟨J,I.nq.trans l⟩
def sD{g F j D E}(H:bj g (iO F j::D) E):bj g (F::(j++D)) E:=H.mono λ_ s=>C.part (N:=F::j) s
theorem qs{g F j D E}(H:bj g (F::(j++D)) E):bj g (iO F j::D) E:=H.mono λ_ s=>C.join (N:=F::j) s
variable{P:bk}{t:eJ}{h br:cE}{v:aB}{b2:bb Ω}{ca:Q}
def Rh{D v name H c}(O:zV P D v name H=ab c):∃j,c=.fn j (v::H)/\g8 P D name j:=by
 let⟨Z,h1,C,an,j,ar,R⟩:=i0 O;let⟨E,U⟩:=de.1 R;cases U;simp only[co]at E;let⟨ah,I,ai⟩:=E;let⟨J,Y,W⟩:=xU (cy I) ao;cases J<;>first|cases W|skip
 refine⟨j.1,rfl,⟨?_⟩⟩;unfold Dt;rw[pc h1,Y];have aq:Z.methods.find? (λC=>C.name==name)=ab C:=bo;let⟨am,ap⟩:=j;simp_all
def A9(Ω:dO)(P:bk)(t:eJ)(o:cI)(c:ps):Prop:=∀(D:bb Ω)(a:fh),e6 D t a->match c with
 | .fn H E=>∃j,bK D E j/\(cu P H->∀C,(execOp a.eval o).run P C=.ok (.enter H j.toArray) C)
 | .cH J E=>∃l I j,D J=ab (l,I)/\bK D E j/\∀C,(execOp a.eval o).run P C=(Instr.yield l j.toArray).run P C
theorem A9.of{c ah}{H ts:Array cJ}{tys}{d:Option Nat}{ty pos aft gd}(ai:y2 ah H.toList P t=ab c):A9 Ω P t ⟨d,.call ⟨ah,H,tys⟩,ty,pos,aft,gd⟩ c:=λa7 a s=>by
 let⟨H⟩:=H;cases ah with
 |builtin b=>cases ai
 |invoke a3 name=>
  let⟨a4,h1,q,an,j,ap,I⟩:=i0 (show aq _ _=ab c from ai);obtain⟨f,rfl,aA⟩:=Rh I;let⟨aV,J,O⟩:=dS s h1;rw[FU an]at O;let⟨W,R,U⟩:=Ad s ap;cases O with
  | @y _ _ aG aQ=>
   refine⟨aG::W,.cons aQ U,λZ E=>?_⟩;have:=g8.run (P:=P) (T:=q.1) (v:=aG) (name:=name) (f:=f) (H.toArray.map a.eval) E;simp only[execOp,resolve,cM,e5,dG,invoke,(eZ a).eval J];rw[gY,mO (eZ a) R]at this ⊢;simp_all
 |value aP=>
  let⟨aY,h1,q,an,j,ap,I⟩:=i0 (show aq (dI aP t) (λv=>aq (sH v) λq=>aq (Ac t H) λj=>Pq q.1 q.2.1 q.2.2 j P)=ab c from ai);let⟨aV,J,O⟩:=dS s h1;rw[yO an]at O;let⟨W,R,U⟩:=Ad s ap;let⟨aX,l,aE⟩:=q;cases O with
  | @f _ _ _ _ aF aD aS ax av=>
   cases aS with
   | @func aZ=>
    cases I;refine⟨aF++(W++aD),ax.append (U.append av),λZ E=>?_⟩;simp only[execOp,resolve,(eZ a).eval J,oB,cM,e5,dG,invoke,gY,mO (eZ a) R];simpa using Z.run (aF++(W++aD)).toArray E
   |method=>trivial
   |via=>trivial
   | @methodOf Y name=>
    let⟨C,ar⟩:=de.1 (show cm (pV l&&pV aE) (PP j λv j=>zV P Y v name j)=ab c from I);rw[co]at C;have D:=w7 C.1;have am:=w7 C.2;subst D am;cases ax;cases av;cases j with
    |nil=>trivial
    |cons aW j=>
     obtain⟨f,rfl,aA⟩:=Rh (show zV P Y aW name j=ab c from ar);cases U with
     | @cons _ aI _ aJ aL aM=>
      refine⟨aI::aJ,.cons aL aM,λZ E=>?_⟩;have a0:=g8.run (P:=P) (T:=Y) (v:=aI) (name:=name) (f:=f) aJ.toArray E;have az:∃D,P.underlying Y=ab (.pointer D):=by
       have q:=aA.h;unfold Dt at q;grind
      let⟨D,az⟩:=az;simp only[execOp,resolve,(eZ a).eval J,oB,cM,e5,dG,invoke,gY,mO (eZ a) R];simp only[run_underlying az,dG,List.append_toArray,List.nil_append,List.getElem?_toArray,List.getElem?_cons_zero,cM];simp_all
   | @yield aT aK aO aR=>
    let⟨C,ar⟩:=de.1 (show cm (pV l&&pV aE) (ab (ps.cH aT j))=ab c from I);cases ar;rw[co]at C;have D:=w7 C.1;have am:=w7 C.2;subst D am;cases ax;cases av;refine⟨aK,aO,W,aR,U,λE=>?_⟩;simp only[execOp,resolve,(eZ a).eval J,oB,invoke,gY,mO (eZ a) R];simp
end aV
namespace aV
variable{Ω:dO}
structure bS (n:Nat) (hS:List vt) (H:bb Ω) (g:d1) (F:aG) (C:Q) (j:bb Ω) (D:eJ) (h:cE) (a:fh) (E:dd):Prop where
 size:a.tmps.size=n
 hS:a.defers=hS
 gu:e6 j D a
 h7:jO H j h
 eD:bj g (iO F C::cz j h) E
theorem bS.di{n hS H g F j}{D:bb Ω}{E h a C}(s:bS n hS H g F j D E h a C):ST g (iO F j) D h C:=⟨s.h7.eU,s.eD⟩
variable{P:bk}{t:eJ}{h br:cE}{v:aB}{b2:bb Ω}{ca:Q}{n:Nat}{hS:List vt}{g:d1}{F:aG}{aI:bb Ω}{a:fh}{w:dd}{r:Option Nat}{call:jn}{cH:ir}{o:cI}
def ael(Z:m0 P (call cH) ca b2)(a3:lv P cH ca b2)(j:Ab P call cH t h o.op=ab (v,br))(s:bS n hS b2 g F ca aI t h a w){R W}
  (Y:∀I D C,aI.le C->bY C v I->jO b2 C br->bj g (iO F ca::cz C br) D->R (a.put o.dst I) D):o.wpIn (lE r) 0 P a w R W:=by
 have aK:kg o.op P t h=ab (v,br)->o.wpIn (lE r) 0 P a w R W:=λO=>by
  apply Oper.tD (λc Z=>?_) (cW.op o O g (iO F ca) aI a w s.gu s.di R W λI D C E H U=>Y I D C E H (s.h7.of_le E U.eU) U.eD);rw[Z]at O;cases O
 cases ah:B3 o.op with
 |none=>
  unfold Ab at j;rw[ah]at j;exact aK j
 |some c=>
  unfold Ab at j;rw[ah]at j;cases aA:wl c.callee with
  |true=>
   have J:ax (wl c.callee) (kg o.op P t h) (aq (y2 c.callee c.args.toList P t) (Ga call cH h))=ab (v,br):=j;rw[aA,ea]at J;exact aK J
  |false=>
   have J:ax (wl c.callee) (kg o.op P t h) (aq (y2 c.callee c.args.toList P t) (Ga call cH h))=ab (v,br):=j;rw[aA,dP]at J;let⟨aQ,h1,ae⟩:=b1.1 J;let⟨aR,aJ,bc,a9,aP,aW⟩:=o;have aY:aJ=.call c:=by cases aJ<;>cases ah;rfl
   subst aY;let⟨bn,bg,be⟩:=c;have aD:=A9.of (d:=aR) (ty:=bc) (pos:=a9) (aft:=aP) (gd:=aW) (tys:=be) (ts:=bg) h1 aI a s.gu;cases aQ with
   |fn aV az=>
    let⟨av,ai,am⟩:=aD;let⟨aL,ap⟩:=Z aV az h v br ae;have ar:=ap aI av ai s.h7;apply Oper.tD (λc j=>by cases j);unfold eg;rw[am aL w];apply(ar g F w (sD s.eD)).mono λaT D aZ=>?_;obtain⟨I,aO,rfl,⟨C,E,H,U,rfl⟩,a0⟩:=aZ;exact Y I D C E H U (qs a0)
   |cH a4 az=>
    let⟨l,bo,av,a7,ai,am⟩:=aD;obtain⟨H,bm,b,ap,rfl,ar⟩:=a3 a4 az h v br ae;have aE:=s.h7.nq _ _ ap;rw[a7]at aE;cases aE;have a8:=ar aI av ai s.h7;refine⟨λ_ _=>trivial,?_⟩;let⟨bp,bq,bh,bl,O,aX⟩:=a8 g F w (sD s.eD);rw[Oper.semAt_eq _ _ _ (λc j=>by cases j),am w,O];refine⟨(λj=>by cases j),RoundIn.mono aX λaT D ⟨bi,aO,aS,⟨aF,C,E,H,aM⟩,q⟩=>?_⟩;subst aS aF aM;exact Y _ D C E .b H (qs q)
def UP{C b}(D:tB C t o.guard=ab b)(s:e6 aI t a):i6 o (yielded C.toArray a.tmps)=b:=by
 unfold i6;cases J:o.guard with
 |none=>
  rw[J]at D;cases D;rfl
 |some q=>
  let⟨H,W⟩:=q;rw[J]at D;let⟨R,h1,ah,an,U,ai,j⟩:=i0 (show aq C[H]? (λR=>aq R.dst λZ=>aq (t.get Z) λv=>cm (iF (UF v)) (ab (cK al (λY=>Y==W) (mI v))))=ab b from D);let⟨am,j⟩:=de.1 j;let⟨ap,I,O⟩:=s ah U ai;show(yielded C.toArray a.tmps H==ab W)=b;cases E:mI U with
  |some Y=>
   rw[E]at j;cases j;rw[pE E]at I;cases I;simp[yielded,h1,an,O]
  |none=>
   rw[E]at j;cases j;have:yielded C.toArray a.tmps H=af:=by
    cases I<;>first|(simp[yielded,h1,an,O];done)|(cases am;done)|cases E
   rw[this];rfl
def wB(n:Nat)(l:List cI):Bool:=l.all λo=>eb n o.dst
def Oe{C}(h:eb n C=ag):∀j,C=ab j->j<n:=λj D=>by subst D;exact fq h
theorem bS.put(s:bS n hS b2 g F ca aI t h a w){j D d C}(E:eb n d=ag)(H:aI.le j)(I:bY j v C)(J:jO b2 j br)(eD:bj g (iO F ca::cz j br) D):bS n hS b2 g F ca j (hX t d v) br (a.put d C) D:=
 ⟨by rw[<- s.size];cases d<;>simp[Kq],by rw[<- s.hS];cases d<;>rfl,(s.gu.mono H).put I (by rw[s.size];exact Oe E),J,eD⟩
def HL(O:m0 P (call cH) ca b2)(R:lv P cH ca b2){D Y}:∀{l}{t}{h}{aI}{a}{w}{j},wB n l=ag->Dj P call cH D l ⟨t,h⟩=ab j->bS n hS b2 g F ca aI t h a w->
  (∀W E U,aI.le W->bS n hS b2 g F ca W j.t j.h E U->Y .normal E U)->wpListIn (lE r) 0 P D.toArray Y l a w
 | [],t,h,aI,a,w,j,_,J,s,I=>by
  cases J;exact I aI a w (bb.le.refl _) s
 |o::l,t,h,aI,a,w,j,C,J,s,I=>by
  let⟨aA,h1,ae⟩:=b1.1 (show aq (Ue P call cH D o t h) (Dj P call cH D l)=ab j from J);let⟨b,an,H⟩:=b1.1 (show aq (tB D t o.guard) (λb=>ax b (aq (Ab P call cH t h o.op) λr=>ab ⟨hX t o.dst r.1,r.2⟩) (ab ⟨hX t o.dst (.cB []),h⟩))=ab aA from h1);have am:=UP (o:=o) an s.gu;simp only[wB,K3,co]at C;unfold wpListIn;rw[am];cases b with
  |true=>
   rw[ea]at H;let⟨⟨v,br⟩,ah,ai⟩:=b1.1 H;cases ai;rw[bJ p];exact ael O R ah s λaJ U W Z ap ar av=>HL O R C.2 ae (s.put C.1 Z ap ar av) λaF E aE az aD=>I aF E aE (Z.trans az) aD
  |false=>
   rw[dP]at H;cases H;rw[a8 ao];exact⟨λ_ _=>trivial,HL O R C.2 ae (s.put C.1 (bb.le.refl _) (.cB .nil) s.h7 s.eD) I⟩
end aV
namespace aV
variable{Ω:dO}
def jq(F:aG)(j:List Nat):aG:=λD=>C (F::kr j) D
def Ex:X->Exit
 | .lc=> .normal
 | .ext j=> .exit j
 | .ret=> .ret
structure re (j:Exit->fh->dd->Prop):Prop where
 no: ¬LetsOut j
 hc:oh j
def re.Ew{j}(q:re j)(C):re (Exit.then C j):=⟨q.no,q.hc⟩
theorem re.ah{j}(q:re j)(id):re (Exit.inBlock id j):=⟨q.no,q.hc⟩
def Ck{n}:∀{l},Cj n l=ag->wB n l=ag
 | [],_=>rfl
 |o::l,h=>by
  have j:ax _ _ _=ag:=h;rw[eK,co]at j;simp only[wB,K3,co];exact⟨j.1,Ck j.2⟩
variable{P:bk}{call:jn}{n:Nat}{g:d1}{F:aG}{r:Option Nat}{cH:ir}{ca:Q}{b2:bb Ω}
def vJ(Ω:dO)(P:bk)(call:jn)(r:Option Nat):Prop:=∀{cH:ir}{ca:Q}{b2:bb Ω}{n:Nat}{g:d1}{F:aG}{H:List vt}{id:Nat}{C:Array cI}{s D:lu}{O:bb Ω}{a:fh}{I:dd}{j:Exit->fh->dd->Prop},m0 P (call cH) ca b2->lv P cH ca b2->re j->Cj n C.toList=ag->I3 P call cH C s=ab D->bS n H b2 g F ca O s.t s.h a I->
 (∀R E J,O.le R->bS n H b2 g F ca R D.t D.h E J->j .normal E J)->(Code.region id C ag).wpIn (lE r) 0 P j a I
def rf(Ω:dO)(P:bk)(call:jn)(r:Option Nat):Prop:=∀{cH:ir}{ca:Q}{b2:bb Ω}{n:Nat}{g:d1}{F:aG}{J:List Nat}{C:cJ}{D:Array Tmp}{H y:Code}{s E:lu}{W:X}{Y:bb Ω}{a:fh}{R:dd}{j:Exit->fh->dd->Prop},lv P cH ca b2->re j->rv n (.rangeFunc C D H y)=ag->ix (.rangeFunc C D H y) P call cH s=ab (W,E)->bS n (mk J) b2 g (jq F J) ca Y s.t s.h a R->
 (∀O Z I U,Y.le Z->bS n (mk O) b2 g (jq F O) ca Z E.t E.h I U->j (Ex W) I U)->(Code.rangeFunc C D H y).wpIn (lE r) 0 P j a R
def R7{q D j s}(E:z9 q D=ab (j,s)):(∃C,q=ab (.lc,C)/\D C=ab (j,s))\/(q=ab (j,s)/\j≠ .lc):=by
 let⟨⟨H,C⟩,h1,ae⟩:=b1.1 E;cases H with
 |lc=>simp_all
 |ext I=>
  grind
 |ret=>
  grind
def Up{C E j a D}(H:j≠ .lc)(h:C (Ex j) a D):Exit.then E C (Ex j) a D:=by
 cases j with
 |lc=>trivial
 |ext I=>exact h
 |ret=>exact h
def Gh(a3:∀{cH}{ca}{b2:bb Ω},lv P cH ca b2->m0 P (call cH) ca b2)(bo:vJ Ω P call r):∀(c){s E}{U}{Y}{am}{a}{H}{ar},(kN c=al->rf Ω P call r)->lv P cH ca b2->re ar->rv n c=ag->ix c P call cH s=ab (U,E)->bS n (mk Y) b2 g (jq F Y) ca am s.t s.h a H->
  (∀az ap I O,am.le ap->bS n (mk az) b2 g (jq F az) ca ap E.t E.h I O->ar (Ex U) I O)->c.wpIn (lE r) 0 P ar a H:=by
 intro c
 induction c with
 |skip=>intro s E U Y am a H ar Z D R ai J C j;cases J;exact wpIn_skip (j Y am a H (bb.le.refl _) C)
 |label l=>intro s E U Y am a H ar Z D R ai J C j;cases J;exact wpIn_label (j Y am a H (bb.le.refl _) C)
 |exit id=>intro s E U Y am a H ar Z D R ai J C j;cases J;exact wpIn_exit (j Y am a H (bb.le.refl _) C)
 |ret=>intro s E U Y am a H ar Z D R ai J C j;cases J;exact wpIn_ret (j Y am a H (bb.le.refl _) C)
 |goto l=>intro s E U Y am a H ar Z D R ai J C j;cases J
 |scope b aI=>intro s E U Y am a H ar Z D R ai J C j;cases J
 |refuse av=>intro s E U Y am a H ar Z D R ai J C j;cases J
 |rangeFunc bA bG U y bB bE=>intro s E bI Y am a H ar Z D R ai J C j;exact Z p D R ai J C j
 |region id aO aZ=>
  intro s E U Y am a H ar Z D R ai J C j;let⟨aE,h1,ae⟩:=b1.1 (show aq (ax aZ (I3 P call cH aO s) (Dj P call cH aO.toList aO.toList s)) (λE=>ab (X.lc,E))=ab (U,E)from J);cases ae;cases aZ with
  |true=>exact bo (a3 D) D R ai h1 C λap I O l aA=>j Y ap I O l aA
  |false=>
   let⟨aO⟩:=aO;exact wpIn_region_lit (HL (a3 D) D (Ck ai) h1 C λap I O l aA=>j Y ap I O l aA)
 |seq W aD aQ aW=>
  intro s E U Y am a H ar Z D R ai J C j;have aF:ax (rv n W) (rv n aD) al=ag:=ai;rw[eK,co]at aF;have aJ:(kN W=al->rf Ω P call r)/\(kN aD=al->rf Ω P call r):=by
   refine⟨λh=>Z ?_,λh=>Z ?_⟩
   .simp_all[ax,kN]
   .show ax (kN W) (kN aD) al=al;rw[h];cases kN W<;>rfl
  apply wpIn_seq;rcases R7 (show z9 (ix W P call cH s) (ix aD P call cH)=ab (U,E)from J)with ⟨aE,h1,ae⟩|⟨h1,ae⟩
  .exact aQ aJ.1 D (R.Ew _) aF.1 h1 C λaz ap I O l aA=>aW aJ.2 D R aF.2 ae aA λbl bz bj bw br aP=>j bl bz bj bw (l.trans br) aP
  .exact aQ aJ.1 D (R.Ew _) aF.1 h1 C λaz ap I O l aA=>Up ae (j az ap I O l aA)
 |cond o W aD aQ aW=>
  intro s E U Y am a H ar Z D R ai J C j;have aF:ax (rv n W) (rv n aD) al=ag:=ai;rw[eK,co]at aF;let⟨v,h1,b,an,a0⟩:=en (show aq (dI o s.t) (λv=>aq (mI v) λb=>ax b (ix W) (ix aD) P call cH s)=ab (U,E)from J);let⟨bH,bq,bc⟩:=dS C.gu h1;rw[pE an]at bc;cases bc;have be:=(eZ a).eval bq;have aJ:(kN W=al->rf Ω P call r)/\(kN aD=al->rf Ω P call r):=by
   refine⟨λh=>Z ?_,λh=>Z ?_⟩
   .simp_all[ax,kN]
   .show ax (kN W) (kN aD) al=al;rw[h];cases kN W<;>rfl
  cases b with
  |true=>exact wpIn_cond_true be (aQ aJ.1 D R aF.1 a0 C j)
  |false=>exact wpIn_cond_false be (aW aJ.2 D R aF.2 a0 C j)
 |block id W aI=>
  intro s E U Y am a H ar Z D R ai J C j;apply wpIn_block;let⟨⟨bx,aE⟩,h1,ae⟩:=b1.1 (show aq (ix W P call cH s) (λq=>X.rec (ix W P call cH s) (λaL=>ax (aH aL id) (ab (X.lc,q.2)) (ix W P call cH s)) (ix W P call cH s) q.1)=ab (U,E)from J);cases bx with
  |lc=>
   have aB:ix W P call cH s=ab (U,E):=ae;rw[h1]at aB;cases aB;exact aI Z D (R.ah id) ai h1 C λaz ap I O l aA=>j az ap I O l aA
  |ret=>
   have aB:ix W P call cH s=ab (U,E):=ae;rw[h1]at aB;cases aB;exact aI Z D (R.ah id) ai h1 C λaz ap I O l aA=>j az ap I O l aA
  |ext aL=>
   have aB:ax (aH aL id) (ab (X.lc,aE)) (ix W P call cH s)=ab (U,E):=ae;apply aI Z D (R.ah id) ai h1 C λaz ap I O l aA=>?_;show if aL=id then ar .normal I O else ar (.exit aL) I O
   rw[FX]at aB
   by_cases a4:aL=id
   .rw[bJ a4]at aB ⊢;cases aB;exact j az ap I O l aA
   .rw[a8 a4]at aB ⊢;rw[h1]at aB;cases aB;exact j az ap I O l aA
 |loop W aI=>
  intro s E U Y am a H ar Z D R ai J C j;have bm:=J
  classical
  let aK:=λa H av=>∃(aE:lu) (aR:List Nat) (aY:bb Ω),HV (ix W P call cH) av aE=ab (U,E)/\am.le aY/\bS n (mk aR) b2 g (jq F aR) ca aY aE.t aE.h a H;let aX:=λa H=>if aT:∃av,aK a H av/\∀aM,aK a H aM->av<=aM then tI aT else 0
  apply wpIn_loop (λa H=>∃av,aK a H av) aX ⟨2000,s,Y,am,bm,bb.le.refl _,C⟩;rintro bi bv ⟨bt,bp⟩;have aS:=De ⟨bt,bp⟩;have a7:=xX aS;have bn:aX bi bv=tI aS:=by
   grind
  generalize tI aS=av at a7 bn;let⟨⟨aE,aR,aY,h1,bg,bh⟩,_⟩:=a7;cases av with
  |zero=>trivial
  |succ av=>
   rcases R7 (show z9 (ix W P call cH aE) (HV (ix W P call cH) av)=ab (U,E)from h1)with ⟨aA,ae,an⟩|⟨ae,an⟩
   .apply aI Z D (R.Ew _) ai ae bh λaz ap I O l aP=>?_;have aV:aK I O av:=⟨aA,az,ap,an,bg.trans l,aP⟩;refine⟨⟨av,aV⟩,?_⟩;have a9:=De ⟨_,aV⟩;have:aX I O<=av:=by
     show(if aT:∃av,aK I O av/\∀aM,aK I O aM->av<=aM then tI aT else 0)<=_;rw[dif_pos a9];exact(xX a9).2 _ aV
    omega
   .exact aI Z D (R.Ew _) ai ae bh λaz ap I O l aP=>Up an (j az ap I O (bg.trans l) aP)
end aV
namespace aV
variable{Ω:dO}
variable{P:bk}{call:jn}{n:Nat}{g:d1}{F:aG}{cH:ir}{ca:Q}{b2:bb Ω}{aI:bb Ω}{h:cE}
def agu{j D c o E}(U:∀j,h.n<=j->aI j=af)(I:aI j=ab (D,c))(R:h.get j=ab o)(s:C (cz aI h) E):C (fk aI o D c::fI aI h j) E:=by
 have O:j<h.n:=by
  grind
 have H:(cz aI h).Perm (dg aI h j::fI aI h j):=(mY (kU.2 O)).map _;have J:dg aI h j=fk aI o D c:=by simp[dg,R,I]
 rw[J]at H;exact C.perm H s
def Yt{H}(az:∀ai,h.n<=ai->aI ai=af)(aL:C (cz aI h) H){b o n R c l}(ax:aI b=ab (R,c))(ar:oo h b o n=ab l):∃j,bK aI l j/\aa j=n/\p6 R o j H:=by
 let⟨aT,h1,aq,an,av⟩:=en ar;have aA:=agu az ax h1 aL;have W:∀(D:List _),bK aI aq D->(∀I J,D[I]?=ab J->iR H ⟨R,I,af⟩=ab J)->∃j,bK aI l j/\aa j=n/\p6 R o j H:=λD aB aQ=>by
  let⟨j,aD,aE⟩:=(aB.drop o).take av;let⟨aJ,aK⟩:=nB aE;refine⟨j,aD,aJ,λI J O=>?_⟩;have:=aK I J O;rw[sP,List.getElem?_drop]at this;simp_all
 let⟨Y,Z,U,am,ap,q,aR⟩:=aA;rcases BQ an with ⟨aO,rfl⟩|⟨aP,aV,aS,rfl⟩
 .let⟨D,aF,aM⟩:=q;exact W D aF λI J O=>(a5.ah (L:=[]) O).get H ⟨Y,Z,U,am,ap,aM,trivial⟩
 .let⟨D,aF,aM⟩:=q;exact W D aF λI J O=>(a5.E (L:=[]) O).get H ⟨Y,Z,U,am,ap,aM,trivial⟩
def Tk{W ap a}(av:∀ax,h.n<=ax->aI ax=af)(aD:C (cz aI h) W)(s:e6 aI ap a):∀{l}{I},hW (λam=>Tj am P ap h) l=ab I->∃J,bK aI I J/\iq P (jB a) [λj=>j=W] l J
 | [],I,O=>by cases O;exact⟨[],.nil,.nil⟩
 |am::l,I,O=>by
  let⟨v,h1,bi,an,aQ⟩:=en (show aq _ _=ab I from O);cases aQ;let⟨J,Z,ah⟩:=Tk av aD s an;cases am with
  |tmp Y=>
   let⟨D,aF,aM⟩:=dS (C:=.tmp Y) s h1;exact⟨D::J,.cons aM Z,.tmp aF ah⟩
  |cell Y a3=>
   let⟨aR,aF,q,aS,bh,aT,a7,aV,aA⟩:=ns (show aq _ _=ab v from h1);let⟨D,aB,az⟩:=dS s (show dI (.tmp Y) ap=ab aR from aF);rw[pF aS]at az;cases az with
   | @ai _ _ a0 a4 aP=>
    let⟨aZ,aE,aX,aY⟩:=Yt av aD aP aV;have rd:∀j,C [λj=>j=W] j->∀E D,aZ[E]?=ab D->iR j _=ab D:=λj H E D U=>by
     let⟨a9,bc,a8,aW,bg,aO,be⟩:=H;exact iR.sub (aO▸aY E D U) aW
    rcases AE aT with ⟨ar,aJ⟩|⟨ar,aJ⟩
    .rcases Ai aA with ⟨R,rfl⟩|⟨R,_⟩
     .exact⟨_,.cons (.cp aE) Z,.cell aB (eQ ⟨aX,λE D U=>⟨λj H=>rd j H E D U⟩⟩) ah⟩
     simp_all
    .subst ar;rcases Ai aA with ⟨R,_⟩|⟨R,rfl⟩
     .trivial
     .cases aE with
      |cons aK aL=>
       cases aL;exact⟨_,.cons aK Z,.cell aB (HT ⟨λj H=>by simpa using rd j H 0 _ p⟩) ah⟩
def afQ{C j}(h:bK aI C j):bY aI (I4 C) (cs j):=by
 cases h with
 |nil=>exact .cB .nil
 |cons a b=>
  cases b with
  |nil=>exact a
  |cons b c=>exact .cB (.cons a (.cons b c))
def M0:∀(l)(C)(E)(j)(v),(FP l C E).get j=ab v->(∃D,j=C+D/\l[D]?=ab v)\/E.get j=ab v
 | [],C,E,j,v,h=> .inr h
 |x::l,C,E,j,v,h=>by
  rcases M0 l _ _ j v h with ⟨D,H,I⟩|e
  .exact .inl ⟨D+1,ad,by assumption⟩
  .rw[dR.ot]at e
   by_cases J:j=C
   .simp_all
   simp_all
theorem bK.at:∀{l}{D}{j:Nat}{v},bK aI l D->l[j]?=ab v->∃C,bY aI v C/\D[j]?=ab C
 | [],_,j,v,h,E=>by grind
 |x::l,_,j,v,h,E=>by
  cases h with
  |cons a b=>
   cases j with
   |zero=>simp_all
   |succ j=>obtain⟨C,aF,aM⟩:=bK.at b fs;simp_all
def XP(aX:∀{cH}{ca}{b2:bb Ω},lv P cH ca b2->m0 P (call cH) ca b2)(aY:vJ Ω P call af)(aZ:rf Ω P call af){aA I}(a3:P.funcs[aA]?=ab I){ap v aq}(R:F1 P I call cH ap h=ab (v,aq))(bc:lv P cH ca b2){Y}(aD:bK aI ap Y)(aP:jO b2 aI h):
  O P aA Y.toArray (ca++cz aI h) λam Z=>∃j,aI.le j/\bY j v am/\jO b2 j aq/\Z=ca++cz j aq:=λg F W a9=>by
 let⟨c,a0,ae⟩:=b1.1 R;let⟨an,aS⟩:=de.1 ae;let⟨⟨ax,E⟩,aT,ar⟩:=b1.1 aS;let⟨bJ,ar⟩:=de.1 ar;let⟨bm,aV,aW⟩:=b1.1 ar;cases aW;rw[eK,co]at an;have bL:aa Y<=I.ntmps:=by rw[aD.len];simp_all
 apply(callsIn_wide (n:=0)).1 (callsIn_of_wp_marks a3 a0 trivial _);have av:bS I.ntmps (mk []) b2 g (jq F []) ca aI (FP ap 0 .kJ) h {tmps:=Y.toArray++oz (I.ntmps-Y.toArray.size) undef,defers:=[]} W:=by
  refine⟨by simp_all,rfl,λaE br aB=>?_,aP,qs (a9.mono λah s=>d8 (λah q=>⟨ah,λ_=>af,λ_=> .inr p,eV.refl _,λ_ _ R=>bv,q,trivial⟩) s)⟩;rcases M0 ap 0 _ aE br aB with ⟨bM,rfl,a4⟩|aB
  .let⟨bO,aF,aM⟩:=bK.at aD a4;grind
  trivial
 have az:∀(D:List _) (j:bb Ω) (U:fh) (J:dd),aI.le _->bS I.ntmps _ b2 g (jq F D) ca j E.t E.h U J->LeavesInM Fence.wide 0 P I U.tmps (λR J=>∃am Z,R=.returned am/\(∃j,aI.le j/\bY j (I4 bm) am/\jO b2 j E.h/\Z=ca++cz j E.h)/\bj g (F::Z) J) U.defers .returning J:=λD j U J l H=>by
  rw[H.hS];have a7:=sD H.eD;have a8:C ((λh=>C (kr D) h):: [λh=>C (F::(ca++cz j E.h)) h]) J.hm:=by
   have bH:=C.part (N:=F::kr D) a7.s;have bI:=C.perm (fA.symm) bH;have fZ:=C.join bI;exact fZ.bl λah q=>C.join (N:=F::(ca++cz j E.h)) (L:=[]) (by simpa using q)
  let⟨be,bg,aL,bn,bo,aF,ai,bh,aO,bp,bq,aM,_⟩:=a8;have bi:C (cz j E.h) ai:=by
   have:C ((F::ca)++cz j E.h) ai:=aM;let⟨bz,bA,_,_,bE,_,bG⟩:=this.split;exact bG.up bE
  let⟨bx,bt,bw⟩:=Tk (P:=P) H.h7.eU bi H.gu aV;refine Df (M:=[λax=>ax=ai]) (D:=ca++cz j E.h) (eZ U) (Y:=I.results.toList) (E:=bx) bN bw (λah av=>?_) ⟨j,l,afQ bt,H.h7,rfl⟩ D J ⟨H.eD.g,?_⟩
  .let⟨bz,bA,_,bB,_,aR,_⟩:=av;subst aR;exact aM.up bB
  .apply C.part (N:=kr D) _;exact⟨be,bg,aL,bn,bo,aF,ai,bh,aO,bp,bq,rfl,trivial⟩
 have aK:=Gh (n:=I.ntmps) (g:=g) (F:=F) (r:=af) aX aY c (ar:=λR U J=>(R=.normal\/R=.ret)/\∃D j,aI.le j/\bS I.ntmps (mk D) b2 g (jq F D) ca j E.t E.h U J) (λ_=>aZ) bc ⟨(λ⟨a,W,aJ,_⟩=>by simp_all),(λc a W ⟨aJ,_⟩=>by simp_all)⟩ an.1 aT av λaQ j U J l H=>?_
 .apply oA (λR a W h=>?_) aK;let⟨aJ,D,j,l,H⟩:=h;cases R with
  |normal=>exact az D j a W l H
  |ret=>exact az D j a W l H
  | _=>simp_all
 .refine⟨?_,aQ,j,l,H⟩;cases ax with
  |lc=>exact .inl p
  |ret=>exact .inr p
  |ext aE=>trivial
end aV
namespace aV
variable{Ω:dO}
variable{P:bk}{nZ:dc}
def yp(P:bk)(nZ:dc):Prop:=cu P nZ/\∀(C:dc)(E H:bz)(D:Q)(I:List aG->Prop),cu P C->(O P C (E++H).toArray D λ_ j=>I j)->
 O P nZ #[.func (.func C) E.toArray H.toArray] D λv j=>v=.tuple #[.agg #[.int .i64 0,.int .i64 0],.bool al]/\I j
def mB(Ω:dO)(P:bk)(W:mA):Prop:=∀D F,W D=ab F->∀J h v E,F J h=ab (v,E)->cu P D/\
 ∀(R j:bb Ω) (H:Q) I,bK j J I->jO R j h->O P D I.toArray (H++cz j h) λY U=>∃C,j.le C/\bY C v Y/\jO R C E/\U=H++cz C E
theorem Yf(C:mA)(n:Nat)(D:ir)(j:dc)(args:List aB)(h:cE):nj P nZ C (n+1) D j args h=cK (ax (aH j nZ) (NN (nj P nZ C n D) args h) (aq ((nk P).get j) λE=>cm (iF (E.name== "runtime.NumGoroutine")) (F1 P E (nj P nZ C n) D args h))) (λF=>F args h) (C j):=rfl
def F5{aq}(aE:mB Ω P aq)(ah:yp P nZ)(aA:∀I:jn,(∀{E}{j}{C:bb Ω},lv P E j C->m0 P (I E) j C)->vJ Ω P I af)(aB:∀I:jn,(∀{E}{j}{C:bb Ω},lv P E j C->m0 P (I E) j C)->rf Ω P I af):
  ∀(n) {E} {j} {C:bb Ω},lv P E j C->m0 P (nj P nZ aq n E) j C
 |0,E,j,C,H=>λf U h v av D=>by cases D
 |n+1,E,j,C,H=>λf U h v av D=>by
  have R:∀{E:ir} {j:Q} {C:bb Ω},lv P E j C->m0 P _ j C:=λH=>F5 aE ah aA aB n H;rw[Yf]at D;cases am:aq f with
  |some F=>
   rw[am]at D;let⟨bc,aG⟩:=aE f F am U h v av D;simp_all
  |none=>
  rw[am]at D;replace D:=D;cases ai:aH f nZ with
  |true=>
   rw[ai,ea]at D;have:=cy ai;subst this;refine⟨ah.1,λar a4 ap Y=>?_⟩;cases U with
   |nil=>cases D
   |cons c U=>
    let⟨h1,ae⟩:=de.1 (show cm _ _=ab _ from D);have:=w7 h1;subst this;let⟨q,an,aL,az,aM⟩:=en ae;let⟨⟨a7,Z⟩,aO,aP⟩:=b1.1 aM;cases aP;let⟨aI,aR⟩:=R H aL _ h a7 Z aO;cases ap with
    |cons a b=>
     cases b;rw[yO an]at a;let⟨O,l,a8⟩:=q;cases a with
     | @f _ _ _ _ aY aJ aV aW aS=>
      cases aV with
      | @func a9=>
       cases az;have aX:=aR ar _ (aW.append aS) Y;have aG:=ah.2 _ aY aJ _ (λW=>∃J,ar.le J/\jO C J Z/\W=j++cz J Z) aI (aX.mono λa3 W aD=>by
        grind)
       apply aG.mono λa3 W aD=>?_;let⟨aK,J,aF,aZ,a0⟩:=aD;subst aK;exact⟨J,aF,.cB (.cons (.cp (.cons .i (.cons .i .nil))) (.cons .b .nil)),aZ,a0⟩
      | _=>cases az
  |false=>
   rw[ai,dP]at D;let⟨O,h1,ae⟩:=b1.1 D;let⟨an,ax⟩:=de.1 ae;have aT:P.funcs[f]?=ab O:=by
    have:=z7 12 P.funcs.toList f O h1;simp_all
   have aQ:O.body.isSome=ag:=by
    let⟨c,aQ,_⟩:=b1.1 ax;simp_all
   refine⟨⟨by unfold B2;simp_all[pf]⟩,λar a4 ap Y=>?_⟩;exact XP (λH=>R H) (aA _ λH=>R H) (aB _ λH=>R H) aT ax H ap Y
def UV{j:bb Ω}:lv P (λ_ _ _=>af) [] j:=λE H h v D C=>by grind
def EA:dO:=⟨λ_=>0,λ_ _ _ _=>True⟩
def YH(aq:yp P nZ)(ai:∀D:jn,(∀{E:ir}{C:Q}{H:bb EA},lv P E C H->m0 P (D E) C H)->vJ EA P D af)(am:∀D:jn,(∀{E:ir}{C:Q}{H:bb EA},lv P E C H->m0 P (D E) C H)->rf EA P D af)
  {n:Nat} {I:dc} {b:Bool} (j:okB (nj P nZ (λ_=>af) n (λ_ _ _=>af) I [] ⟨.kJ,0⟩) (.b b)=ag) (J:Q):O P I #[] J λv U=>v=.bool b/\∃Z,U=J++Z:=by
 cases R:nj P nZ _ n _ I [] _ with
 |none=>rw[R]at j;cases j
 |some W=>
  rw[R]at j;let⟨v,aD⟩:=W;have ar:v=.b b:=by
   cases v<;>first|cases j|skip
   rename_i az
   have aB:t9 az b=ag:=j;simp_all[rr]
  subst ar;let⟨aA,ap⟩:=F5 (λ_ _ h=>bv) aq ai am n (UV (j:=λ_=>af)) I [] _ _ _ R;have av:=ap _ [] .nil ⟨λ_ _=>rfl,λ_ _ j=>ad⟩;have ax:=O.frame J av (λh s=>by simpa[cz]using s);refine ax.mono λW U ⟨Y,⟨aI,aF,aM,aE,aG⟩,ah⟩=>?_;cases aM;exact⟨rfl,Y,ah⟩
end aV
namespace aV
variable{Ω:dO}
theorem Ns(j C):(jw j).testBit C=decide (j=C):=by
 show(1<<<j).testBit C= _;simp[LR,Nat.testBit_two_pow]
theorem ng(D C j:Nat):(ij D (jw C)).testBit j=ag<->D.testBit j=ag\/C=j:=by simp[Ns]
theorem Sc(D C j:Nat):(ij (jw C) D).testBit j=ag<->C=j\/D.testBit j=ag:=by simp[Ns]
theorem Q1(a b j:Nat):(ij a b).testBit j=ag<->a.testBit j=ag\/b.testBit j=ag:=by simp
theorem ahu{a b}(h:Es a b=ag){j}(D:a.testBit j=ag):b.testBit j=ag:=by
 have C:a&&&b=a:=cy h;grind
def adT{a b}(h:Es a b=al):∃j,a.testBit j=ag/\¬b.testBit j=ag:=by
 classical
 by_cases E:∃j,a.testBit j=ag/\¬b.testBit j=ag
 .omega
 .exfalso;have C:a&&&b=a:=by
   apply Nat.eq_of_testBit_eq;simp_all
  have D:aH _ a=al:=h;simp_all
theorem aaH(j):GY j.ground=qg .any j:=by rfl
def Am(l:List Edge):Nat:=dN (nat_lit 0) (λj _ C=>ax (GY j.ground) (ij (jw j.on) C) C) l
theorem Sr(j):∀l:List Edge,(Am l).testBit j=ag<->∃e∈l,qg .any e=ag/\e.on=j
 | []=>by
  show(0:Nat).testBit j=ag<->_;simp
 |e::l=>by
  have C:Am (e::l)=ax _ (ij _ (Am l)) (Am l):=rfl;have E:=Sr j l;rw[C,aaH];cases D:qg _ e with
  |true=>
   grind[ea,Sc]
  |false=>
   simp_all[dP]
theorem DT{o j}:(uX o).testBit j=ag<->∃C∈o.after,qg .any C=ag/\C.on=j:=by
 show(Am _).testBit j=ag<->_;rw[Sr];simp
theorem xi{j}:∀{l},p1 j l=ag<->j∈l
 | []=>⟨λh=>(by cases h),λh=>bv⟩
 |x::l=>by
  show ax _ _ (p1 j l)=ag<->_;rw[qv,pp,xi];simp
theorem rk{j}:∀{l},lw j l=ag<->∀x∈l,j x=ag
 | []=>⟨λ_ _ h=>bv,λ_=>rfl⟩
 |x::l=>by
  show ax _ (lw j l) _=ag<->_;rw[eK,co,rk];simp
def CL{C}:∀{l}{j},ul C l=ab j->j∈l/\C j=ag
 | [],j,h=>by cases h
 |y::l,j,h=>by
  have D:ax _ _ _=ab j:=h;cases E:C y with
  |true=>simp_all[ea]
  |false=>rw[E,dP]at D;let⟨a,b⟩:=CL D;simp_all
theorem zW{j D}:∀{l}{n},D∈tf j l n<->∃C o,l[C]?=ab o/\D=⟨n+C,o,uX o,pW o.op j⟩
 | [],n=>⟨λh=>(by cases h),λ⟨C,o,h,_⟩=>(by trivial)⟩
 |o::l,n=>by
  have E:tf j (o::l) n=⟨n,o,uX o,pW _ j⟩::tf j l _:=rfl;rw[E,df,zW];constructor
  .rintro(rfl|⟨C,H,h,rfl⟩)
   .exact⟨0,o,rfl,rfl⟩
   .exact⟨C+1,H,by assumption,by grind⟩
  grind
abbrev gK(j:bk)(C:Array cI):List hP:=tf j C.toList (nat_lit 0)
variable{P:bk}{az:Array cI}{x y:hP}
def tT(h:x∈gK P az):az[x.i]?=ab x.o/\x.ai=uX x.o/\x.k=pW x.o.op P:=by
 obtain⟨j,o,h1,rfl⟩:=zW.1 h;simp_all
def Bv{j o}(h:az[j]?=ab o):⟨j,o,uX o,pW o.op P⟩∈gK P az:=
 zW.2 ⟨j,o,by simp_all,ao⟩
theorem vX(h:x∈gK P az)(j:y∈gK P az)(C:x.i=y.i):x=y:=by
 obtain⟨D,H,h1,rfl⟩:=zW.1 h;obtain⟨E,I,ae,rfl⟩:=zW.1 j;simp_all
theorem tU(h:x∈gK P az):x.i<az.size:=(vq.1 (tT h).1).1
theorem Po{j}:∀{l},(uq l).testBit j=ag<->∃x∈l,x.i=j/\x.k=2
 | []=>by
  show(0:Nat).testBit j=ag<->_;simp
 |x::l=>by
  have C:uq (x::l)=ax _ (ij _ (uq l)) (uq l):=rfl;have E:=Po (j:=j) (l:=l);rw[C];cases D:aH _ 2 with
  |true=>
   grind[cy,ea,Sc]
  |false=>
   simp_all[Nat.ne_of_beq_eq_false,dP]
abbrev tR(P:bk)(az:Array cI):Nat:=uq (gK P az)
def Fp(h:x∈gK P az):(tR P az).testBit x.i=ag<->x.k=2:=by
 rw[Po];constructor
 .grind[vX]
 grind
structure tX (P:bk) (az:Array cI):Prop where
 bad:∀x∈gK P az,BX x.o.op=al
 MX:∀x∈gK P az,∀y∈gK P az,x.i≠y.i->∀j,x.o.dst=ab j->y.ai.testBit x.i=ag\/x.ai.testBit y.i=ag\/(j∉y.o.looksAt az/\y.o.dst≠ab j)
 Ri:∀x∈gK P az,x.k=2->x.o.guard=af/\∀C,x.ai.testBit C=ag->¬(tR P az).testBit C=ag
 rR:∀x∈gK P az,x.k=2->∀y∈gK P az,x.i≠y.i->(∀j,x.o.dst=ab j->y.o.dst≠ab j)/\∀j,y.o.dst=ab j->j∈x.o.looksAt az->x.ai.testBit y.i=ag
theorem FW{a b:Nat}(h:a≠b):aH a b=al:=by grind[cy]
def WJ(h1:lw (λx=>iF (BX x.o.op)) (gK P az)=ag)(ae:MY az (gK P az)=ag)(an:Rk az (gK P az) (tR P az)=ag):tX P az:=by
 refine⟨λx C=>?_,λx C y O J D H=>?_,λx C I=>?_,λx C I y O J=>?_⟩
 .simp_all[rk,pf]
 .have h:=rk.1 (show lw _ _=ag from ae) x C;rw[H]at h;have j:=rk.1 (show lw _ _=ag from h) y O;rw[FW J,dP,qv,pp]at j;rcases j with j|j
  .have Q:ax _ _ _=ag:=j;rw[qv,pp]at Q;exact Q.elim .inl λq=> .inr (.inl q)
  .refine .inr (.inr ⟨λq=>?_,λq=>?_⟩)
   .grind[xi,ea]
   .have:p1 D (xT y.o)=ag:=xi.2 (by unfold xT;simp_all);rw[this,pf]at j;cases Z:p1 D _<;>rw[Z]at j<;>cases j
 .have h:=rk.1 (show lw _ _=ag from an) x C;rw[I,show aH 2 2=ag from rfl,ea,eK,co,eK,co]at h;refine⟨?_,λah aq ap=>?_⟩
  .cases Y:x.o.guard with
   |none=>rfl
   |some q=>rw[Y]at h;cases h.1
  .have U:x.ai&&&tR P _=0:=cy h.2.1;have:=congrArg (λam=>am.testBit ah) U;grind
 .have h:=rk.1 (show lw _ _=ag from an) x C;rw[I,show aH 2 2=ag from rfl,ea,eK,co,eK,co]at h;have j:=rk.1 (show lw _ _=ag from h.2.2) y O;rw[FW J,dP,eK,co]at j;refine⟨λD H R=>?_,λD R H=>?_⟩
  .have E:=j.1;rw[H]at E;have W:iF _=ag:=E;have:p1 D (xT y.o)=ag:=xi.2 (by simp_all[xT]);rw[this]at W;trivial
  .have E:=j.2;rw[R]at E;grind[mQ,xi,ea]
def yG(l:List hP):rh->Prop
 | .nil=>True
 | .q x s=>x∈l/\yG l s
 | .e x s=>x∈l/\yG l s
def DS(l):∀(n j),yG l (DR l n j)
 |0,j=>trivial
 |n+1,j=>by
  have C:DR l (n+1) j=cK _
   _ _:=rfl
  rw[C];cases h1:ul (λx=>ax _ (eY _ _) _) l with
  |some x=>exact⟨(CL h1).1,DS l n _⟩
  |none=>
   cases ae:ul (λx=>ax _ _ _) l with
   |some x=>exact⟨(CL ae).1,DS l n _⟩
   |none=>
    cases an:ul _ l with
    |some x=>exact⟨(CL an).1,DS l n _⟩
    |none=>trivial
structure rb where
 x:hP
 val:Nat->aB
 o:dn
 B:Nat
 u:a2
def l4(j:rb):aG:=λC=>∀{Ω:dO}(D:bb Ω),fk D j.o j.B 0 C
def m5(F:aG)(j:List rb):aG:=λD=>C (F::j.map l4) D
structure Be (P:bk) (az:Array cI) (E:Nat) (J:eJ) (a:fh) (j:rb):Prop where
 mem:j.x∈gK P az
 k:j.x.k=2
 fF: ¬E.testBit j.x.i=ag
 Sq:∀D,j.x.ai.testBit D=ag->E.testBit D=ag
 op:∀H,(∀C∈j.x.o.looksAt az,H.get C=J.get C)->∀h,kg j.x.o.op P H h=ab (j.val h.n,h.new j.o)
 UN:∀{Ω:dO} (I:bb Ω) k,I k=ab (j.B,0)->bY I (j.val k) j.u
 ey:∀C,j.x.o.dst=ab C->a.tmps[C]?=ab j.u
structure tV (az:Array cI) (E:Nat) (C:List rb) (D:Array Bool):Prop where
 size:D.size=az.size
 av:∀j,j<az.size->(D.getD j ag=ag<->E.testBit j=ag\/∃H∈C,H.x.i=j)
 lt:∀j,E.testBit j=ag->j<az.size
 fE:(C.map (·.x.i)).Nodup
def v3(az:Array cI)(E:Array Bool)(D:Nat):Prop:=∃C:List Nat,(∀j,j<az.size->E.getD j ag=al->j∈C)/\aa C<=D
structure qk (P:bk) (az:Array cI) (j:Nat) (C:List rb) (E:Array Bool) (J:Nat) (H:eJ) (a:fh):Prop where
 av:tV az j C E
 un:v3 az E J
 pN:∀I∈C,Be P az j H a I
 cl:∀x∈gK P az,x.k=2->¬j.testBit x.i=ag->∀D,x.o.dst=ab D->H.get D=af
variable{m pR:Nat}{ik:List rb}{kL:Array Bool}{t:eJ}{a:fh}
theorem aaE{l:Array Bool}{j}(h:j<l.size):l.getD j al=l.getD j ag:=bv
def tV.Py(s:tV az m ik kL){j}(D:j<az.size):kL.getD j al=ag<->m.testBit j=ag\/∃C∈ik,C.x.i=j:=by
 rw[aaE (by rw[s.size];omega)];exact s.av j D
def xK(h:qS m x=ag): ¬m.testBit x.i=ag/\∀j,x.ai.testBit j=ag->m.testBit j=ag:=by
 have C:ax _ _ _=ag:=h;cases D:mQ _ m with
 |true=>rw[D]at C;trivial
 |false=>grind[dP,mQ,ahu]
theorem tV.ready(s:tV az m ik kL)(E:x∈gK P az)(Q:qS m x=ag)(R:∀j∈ik,j.x.i≠x.i):x.i∈jL .any az kL:=by
 let⟨h1,ae⟩:=xK Q;let⟨J,O,U⟩:=tT E;apply mem_ready.2 ⟨?_,x.o,J,λj C H=>?_⟩
 .cases I:kL.getD _ _ with
  |false=>rfl
  |true=>
   rcases(s.av _ (tU E)).1 I with q|⟨j,C,q⟩
   .trivial
   simp_all
 .have D:=ae _ (by rw[O];exact DT.2 ⟨j,C,H,rfl⟩);exact(s.Py (s.lt _ D)).2 (.inl D)
def tV.Iq(s:tV az m ik kL){C}(h:C∈jL .any az kL):∃y∈gK P az,y.i=C/\¬m.testBit C=ag/\(∀j∈ik,j.x.i≠C)/\∀D,y.ai.testBit D=ag->m.testBit D=ag\/∃j∈ik,j.x.i=D:=by
 let⟨h1,o,ae,an⟩:=mem_ready.1 h;have H:=(vq.1 ae).1;refine⟨_,Bv ae,rfl,λq=>?_,λj E q=>?_,λD J=>?_⟩
 .have:=(s.av C H).2 (.inl q);simp_all
 .have:=(s.av C H).2 (.inr ⟨j,E,q⟩);simp_all
 .obtain⟨j,E,I,rfl⟩:=DT.1 J;have q:=an j E I;have O:j.on<az.size:=by
   rcases dZ _ _ with z|z
   .rw[<- s.size];omega
   simp_all
  exact(s.Py O).1 q
theorem TL{l:Array Bool}{j C}(D:j<l.size):(l.setIfInBounds j ag).getD C ag=ag<->l.getD C ag=ag\/j=C:=by
 by_cases h:j=C
 .simp_all
 simp_all
theorem v3.step(O:v3 az kL (pR+1)){j}(D:j<az.size)(H:kL.getD j ag=al):v3 az (kL.setIfInBounds j ag) pR:=by
 let⟨C,h1,ae⟩:=O;have Q:=h1 j D H;refine⟨C.erase j,λJ R I=>?_,?_⟩
 .by_cases E:j=J
  .simp_all
  .rw[getD_set_ne _ E]at I;grind
 simp_all
def v3.pos{C}(E:v3 az kL pR)(h:C∈jL .any az kL):∃j,pR=j+1:=by
 let⟨h1,o,ae,_⟩:=mem_ready.1 h;let⟨H,D,I⟩:=E;have:=D C (vq.1 ae).1 h1;cases pR with
 |zero=>
  simp_all
 |succ j=>simp
theorem xG{C v j}(h:C≠ab j):(hX t C v).get j=t.get j:=by
 cases C with
 |none=>rfl
 |some D=>
  show(dR.set (Nat.succ D) t D _).get j= _;rw[dR.ot,a8 (λE=>h bv)]
theorem IT{C D}{j:Nat}(h:C≠ab j):(a.put C D).tmps[j]?=a.tmps[j]?:=by
 cases C with
 |none=>rfl
 |some E=>
  show(a.tmps.setIfInBounds E D)[j]?= _;simp_all
theorem Be.put(Y:tX P az){C}(q:Be P az m t a C)(Q:x∈gK P az)(J: ¬m.testBit x.i=ag)(I:C.x.i≠x.i)(v D)(E:∀d,x.o.dst≠ab d->D.tmps[d]?=a.tmps[d]?):Be P az (ij m (jw x.i)) (hX t x.o.dst v) D C:=by
 let⟨U,W⟩:=Y.rR _ q.mem q.k x Q I;refine⟨q.mem,q.k,λh=>?_,λR H=>(ng ..).2 (.inl (q.Sq R H)),λZ O h=>q.op Z (λd j=>?_) h,q.UN,λd j=>?_⟩
 .rcases(ng ..).1 h with z|z
  .exact q.fF z
  omega
 .rw[O d j];refine xG λz=>J (q.Sq _ (W d z j))
 .rw[E d (U d j)];exact q.ey d j
theorem qk.put(j:qk P az m ik kL (pR+1) t a)(Y:tX P az)(E:x∈gK P az)(W:qS m x=ag)(J:∀C∈ik,C.x.i≠x.i)(v am):
  qk P az (ij m (jw x.i)) ik (kL.setIfInBounds x.i ag) pR (hX t x.o.dst v) (a.put x.o.dst am):=by
 let⟨h1,ae⟩:=xK W;have Z:=tU E;have ai:=j.av.ready E W J;refine⟨⟨by simp[j.av.size],λI H=>?_,λI H=>?_,j.av.fE⟩,j.un.step Z (mem_ready.1 ai).1,λC O=>(j.pN C O).put Y E h1 (J C O) v _ λd D=>IT D,λy U Q R d D=>?_⟩
 .rw[TL (by rw[j.av.size];omega),j.av.av I H,ng];grind
 .rcases(ng ..).1 H with q|q
  .exact j.av.lt I q
  omega
 .have ah:y.i≠x.i:=λC=>R ((ng ..).2 (.inr C.symm));rw[xG ((Y.rR y U Q x E ah).1 d D)];exact j.cl y U Q (λq=>R ((ng ..).2 (.inl q))) d D
def qk.early(C:qk P az m ik kL (pR+1) t a)(aA:tX P az){e:rb}(H:e.x∈gK P az)(ah:e.x.k=2)(J:e.x.i∈jL .any az kL)(aI:∀j,e.x.o.dst=ab j->j<a.tmps.size)
  (ar:∀O,e.x.ai.testBit O=ag->m.testBit O=ag) (aq:∀R,(∀j∈e.x.o.looksAt az,R.get j=t.get j)->∀h,kg e.x.o.op P R h=ab (e.val h.n,h.new e.o)) (aB:∀{Ω} (Y:bb Ω) Q,Y Q=ab (e.B,0)->bY Y (e.val Q) e.u):
  qk P az m (e::ik) (kL.setIfInBounds e.x.i ag) pR t (a.put e.x.o.dst e.u):=by
 have am:=tU H;let⟨y,aJ,aF,aM,ax,aK⟩:=C.av.Iq (P:=P) J;refine⟨⟨by simp[C.av.size],λap Z=>?_,C.av.lt,?_⟩,C.un.step am (mem_ready.1 J).1,λI D=>?_,C.cl⟩
 .rw[TL (by rw[C.av.size];omega),C.av.av ap Z];grind
 .simp[fu,j3];refine⟨λh=>?_,C.av.fE⟩;grind
 .rcases df.1 D with rfl|D
  .refine⟨H,ah,aM,ar,aq,aB,λj E=>?_⟩;rw[E];show(a.tmps.setIfInBounds j _)[j]?= _;simp_all
  .let⟨U,W,fZ,aD,aE,aG,aL⟩:=C.pN I D;refine⟨U,W,fZ,aD,aE,aG,λj E=>?_⟩;rw[IT ((aA.rR _ U W _ H (ax I D)).1 j E)];simp_all
theorem qk.take{E H D}(C:qk P az m (E++D::H) kL pR t a)(ai:tX P az)(v):
  qk P az (ij m (jw D.x.i)) (E++H) kL pR (hX t D.x.o.dst v) a:=by
 have I:=C.pN D ao;have aA:=tU I.mem;have Z:=(fA.map _).nodup_iff.1 C.av.fE;have ar:=λj am q=>(j3.1 Z).1 (List.mem_map.2 ⟨j,am,q⟩);have ap:∀j,j∈E++D::H<->j=D\/j∈E++H:=λj=>by grind
 refine⟨⟨C.av.size,λQ O=>?_,λQ O=>?_,(j3.1 Z).2⟩,C.un,λj U=>?_,λy ah W Y J R=>?_⟩
 .rw[C.av.av Q O,ng];grind
 .rcases(ng ..).1 O with q|q
  .exact C.av.lt Q q
  omega
 .exact(C.pN j ((ap j).2 (.inr U))).put ai I.mem I.fF (ar j U) v a λJ _=>rfl
 .have aq:y.i≠D.x.i:=λax=>Y ((ng ..).2 (.inr ax.symm));rw[xG ((ai.rR y ah W _ I.mem aq).1 J R)];exact C.cl y ah W (λq=>Y ((ng ..).2 (.inl q))) J R
end aV
namespace aV
variable{Ω:dO}
variable{P:bk}{az:Array cI}{t kS:eJ}{h br:cE}{v:aB}{o:cI}{aI:bb Ω}{a:fh}{w:dd}
def Hp{S C H j}(D:pW (.convert S C H) P=j):(∃j,pd P C=ab j)/\j=0\/j=3:=by
 have E:(cK _ _ _:Nat)=j:=D;cases h1:pd P S<;>cases ae:pd P C<;>rw[h1]at E<;>first|simp_all|simp_all
def Ho{c E}(O:pW (.call c) P=E):(E=0/\c.callee=.builtin .len/\∃j H,uS c.argTypes.toList=ab j/\mq P j=ab H)\/E=3:=by
 have C:ax _ _ _=E:=O;cases D:QD _ with
 |false=>rw[D]at C;exact .inr C.symm
 |true=>
  rw[D,ea]at C;cases h1:uS _ with
  |none=>simp_all
  |some j=>
   rw[h1]at C;cases ae:mq P j with
   |none=>
    simp_all
   |some H=>
    have I:(cK _ _ _:Nat)=E:=C;rw[ae]at I;refine .inl ⟨I.symm,?_,j,H,rfl,ae⟩;cases J:c.callee with
    |builtin b=>
     rw[J]at D;have Q:=D;cases b<;>first|rfl|cases Q
    | _=>rw[J]at D;trivial
def abW(J:pW o.op P=0)(j:kg o.op P t h=ab (v,br)):br=h/\ko Ω P t o v:=by
 let⟨Y,E,aD,ar,U,Z⟩:=o;cases E with
 |move C=>exact S1 j
 |assign C=>exact SN j
 |pick c a b=>exact S5 j
 |build D av=>exact SP j
 |nilCheck C=>exact S3 j
 |binOp E D C y R=>exact SO j
 |unOp E D C=>
  cases E with
  |not=>exact S4 j
  |neg=>exact S2 j
  | _=>
   let⟨c,h1,ae⟩:=b1.1 (show z4 _ C P t h=ab _ from j);trivial
 |convert S D C=>
  rcases Hp J with ⟨⟨am,h1⟩,_⟩|h1
  .exact SQ h1 j
  omega
 |makeInterface D C=>exact S0 j
 |makeFunc I l c=>exact SZ j
 |slice D C ap ah aq=>exact S6 j
 |fieldAddr D C I=>exact SS j
 |field D C I=>exact SU j
 |indexAddr D C y=>exact SV j
 |index D C y=>exact SW j
 |extract C ai=>exact SR j
 |call c=>
  rcases Ho J with ⟨_,h1,D,ax,ae,an⟩|h1
  .let⟨W,⟨O⟩,⟨aA⟩⟩:=c;subst h1;have Q:=Iu ae;subst Q;have H:BW O _ P t h=ab _:=j;obtain⟨C,rfl,_⟩:=DF (show one O _=ab _ from H);exact SX p an H
  omega
 | _=>first|exact absurd _ bL|trivial|trivial
def abX(j:pW o.op P=1):∃C D,o.op=.load C D:=by
 let⟨I,E,Q,O,H,J⟩:=o;cases E with
 |load C D=>simp
 |convert S C D=>
  rcases Hp j with ⟨_,h1⟩|h1<;>cases h1
 |call c=>
  rcases Ho j with ⟨h1,_⟩|h1<;>cases h1
 | _=>first|exact absurd (show(3:Nat)=1 from j) bL|exact absurd (show(2:Nat)=1 from j) ao|exact absurd (show(0:Nat)=1 from j) bL
def Wk(Ω:dO)(P:bk)(az:Array cI)(t:eJ)(o:cI)(mk:Nat->aB)(aq:dn):Prop:=
 (∀kS,(∀j∈o.looksAt az,kS.get j=t.get j)->∀h,kg o.op P kS h=ab (mk h.n,h.new aq))/\
 ∀(aI:bb Ω) (kS:eJ) (a:fh),e6 aI kS a->(∀j∈o.looksAt az,kS.get j=t.get j)->∀(g:d1) (E:Q) (w:dd) (D:fh->dd->Prop) (O:Exit->fh->dd->Prop),bj g E w->
  (∀C I J,(∀{Ω:dO} (aI:bb Ω) H,aI H=ab (C,0)->bY aI (mk H) I)->bj g ((λR=>∀{Ω:dO} (aI:bb Ω),fk aI aq C 0 R)::E) J->D (a.put o.dst I) J)->o.wp P a w D O
theorem Sa{j:cJ}(h:∀C,j=.tmp C->kS.get C=t.get C):dI j kS=dI j t:=by
 cases j with
 |tmp D=>exact h D p
 | _=>rfl
def abY(J:pW o.op P=2)(D:kg o.op P t h=ab (v,br)):∃mk aq,Wk Ω P az t o mk aq:=by
 let⟨aX,bq,bz,bt,aV,a0⟩:=o;cases bq with
 |alloc j=>
  let⟨I,h1,ae⟩:=b1.1 (show aq _ _=ab _ from D);let⟨Q,bT,bB,bG⟩:=vp h1;refine⟨λn=> .ai n 0,.ce j _,λkS _ h=>b1.2 ⟨I,h1,rfl⟩,λaI kS a s _ g aT w av ax am Z=>?_⟩;refine rx (H:=jB a) a w (eZ a) am av ax λbP bA bH ⟨b,aY,aZ⟩ be=>?_;subst aY aZ;exact Z b _ bA (λaI bg D=> .ai D) (be.mono λah s=>d8 (λah q _ aI=>⟨_,(bB aI).cells,q⟩) s)
 |makeSlice j O y=>
  let⟨bp,h1,l,an,aW,aK,c,aL,a4⟩:=ns (show Ij j O y P t h=ab (v,br)from D);let⟨H,aO,I,aJ,R,W,a3⟩:=i0 a4;let⟨Y,bJ⟩:=de.1 a3;have aP:∀kS,(∀C∈EQ az ⟨aX,.makeSlice j O y,bz,bt,aV,a0⟩,kS.get C=t.get C)->dI O kS=dI O t/\dI y kS=dI y t:=λkS E=>
   ⟨Sa λC q=>E C (by subst q;unfold EQ;simp[KM]),Sa λC q=>E C (by subst q;unfold EQ;simp[KM])⟩
  refine⟨λn=> .ey n 0 l c,.ce H.1 (i1 (jx I) c),λkS E h=>?_,λaI kS a s E g aT w av ax am Z=>?_⟩
  .let⟨aF,aM⟩:=aP kS E;refine b1.2 ⟨bp,by simp_all,b1.2 ⟨l,an,b1.2 ⟨aW,by simp_all,b1.2 ⟨c,aL,b1.2 ⟨H,aO,b1.2 ⟨I,aJ,b1.2 ⟨R,W,de.2 ⟨Y,rfl⟩⟩⟩⟩⟩⟩⟩⟩
  .let⟨aF,aM⟩:=aP kS E;rw[<- aF]at h1;rw[<- aM]at aK;simp only[co]at Y;let⟨aA,aD,aE,U,aG⟩:=Y;have aA:=fq aA;have aD:=fq aD;have aE:=fq aE;have U:=fq U;have aG:=cy aG;let⟨bI,aS⟩:=sa aO;let⟨eW,aF,Q,bv,bw⟩:=en (show aq (l9 P H.1) (λR=>aq R.zero λv=>z8 9 v)=ab I from aJ);rw[W]at aF;cases aF;have aR:∀{Ω:dO} (aI:bb Ω),bK aI (jx I) (hp Q):=λaI=>(uQ (aI:=aI) 9 bw).cells;have bE:aa (hp Q)=H.2:=by rw[(aR aI).len];omega
   let⟨bc,ar,bM,a9,_⟩:=aS.spec;have a8:=pc W;have:ar=R:=bo;subst this;let⟨bR,bh,bi⟩:=dS s h1;let⟨bS,bj,bl⟩:=dS s aK;obtain⟨bn,rfl⟩:=ro an;obtain⟨bm,rfl⟩:=ro aL;cases bi;cases bl;have a7:(ar.bytes:Int)*(c:Int)<=281474976710656:=by
    grind
   have ap:=run_make (P:=P) w j H.1 ar Q bc a8 bv bn bm l c ao ad a7 ad;simp only[Int.toNat_natCast]at ap;rw[ua,a9,HZ bE U]at ap;unfold eg;simp only[execOp,(eZ a).eval bh,(eZ a).eval bj];simp[ap];apply Z _ _ _ (λaI bg D=> .ey D) ((am.alloc H.1 (Go.Proofs.YteinodmjohkmmaaGreat.i1 c (hp Q))).mono λah s=>d8 (λah q _ aI=>?_) s);let⟨bO,bx,aQ⟩:=(aR aI).Av c;rw[<- D8]at aQ;subst aQ;exact⟨_,bx,q⟩
 |convert S j O=>
  rcases Hp J with ⟨_,h1⟩|h1<;>cases h1
 |call c=>
  rcases Ho J with ⟨h1,_⟩|h1<;>cases h1
 | _=>first|exact absurd (show(3:Nat)=2 from J) bL|exact absurd (show(0:Nat)=2 from J) bL|exact absurd (show(1:Nat)=2 from J) ao
def ff{α j}{C:α->Bool}(h:dB j C=ag):∃q,j=ab q/\C q=ag:=by
 cases j with
 |none=>cases h
 |some q=>exact⟨q,rfl,h⟩
def v9{α j D}{l C:List α}(h:iu j (D::l) C=ag):∃y s,C=y::s/\j D y=ag/\iu j l s=ag:=by
 cases C with
 |nil=>cases h
 |cons y s=>
  have br:ax _ (iu j l s) _=ag:=h;rw[eK,co]at br;grind
theorem yK{α C}{j:List α}(h:iu C [] j=ag):j=[]:=by
 cases j with
 |nil=>rfl
 |cons y s=>cases h
theorem qu{I}(J:∀{v R}{O Q},I v R=ag->bY aI v O->bY aI R Q->O=Q):∀{l j}{C D},iu I l j=ag->bK aI l C->bK aI j D->C=D
 | [],j,C,D,h,E,H=>by
  have:=yK h;subst this;cases E;cases H;rfl
 |x::l,j,C,D,h,E,H=>by
  obtain⟨y,s,rfl,h1,ae⟩:=v9 h;cases E with
  |cons a b=>cases H with
   |cons c U=>rw[J h1 a c,qu J ae b U]
theorem my.fun{j g C}(h:my aI j g)(D:my aI j C):g=C:=by
 cases h with
 |yield q=>cases D with
  |yield E=>simp_all
 | _=>cases D;rfl
theorem uW{j y}(h:nt j y=ag):j=y:=by
 let⟨a,b⟩:=j;let⟨c,C⟩:=y;have br:ax _ _ _=ag:=h;simp_all[eK,cy]
def DO{j y}(h:Ah j y=ag):j=y:=by
 let⟨a,b,j⟩:=j;let⟨c,C,y⟩:=y;have br:ax _ _ _=ag:=h;rw[eK,co,eK,co]at br;grind[cy,uW]
theorem sY:∀(d){v j}{E H},ka d v j=ag->bY aI v E->bY aI j H->E=H
 |0,v,j,E,H,U,h,br=>by cases U
 |d+1,v,j,E,H,U,h,br=>by
  have Y:∀{v j:aB} {E H:a2},ka d v j=ag->bY aI v E->bY aI j H->E=H:=λU h br=>sY d U h br;have C:zk v j (ka d)=ag:=U;cases v with
  |i aD n=>
   let⟨q,h1,ae⟩:=ff (show dB (ju j) (λq=>ax (hE aD q.1) (fD n q.2) al)=ag from C);rw[eK,co,iY,oa,decide_eq_true_eq]at ae;rw[mJ h1,<- ae.1,<- ae.2]at br;cases h;cases br;rfl
  |b W=>
   let⟨q,h1,ae⟩:=ff (show dB (mI j) (λq=>t9 W q)=ag from C);rw[rr,beq_iff_eq]at ae;rw[pE h1,<- ae]at br;cases h;cases br;rfl
  |s W=>
   let⟨q,h1,ae⟩:=ff (show dB (sI j) (λq=>decide (W=q))=ag from C);rw[decide_eq_true_eq]at ae;rw[wj h1,<- ae]at br;cases h;cases br;rfl
  |ai b o=>
   let⟨q,h1,ae⟩:=ff (show dB (k1 j) (λq=>nt (b,o) q)=ag from C);have:=uW ae;subst this;rw[pF h1]at br;cases h with
   |ai Q=>cases br with
    |ai R=>simp_all
  |hc=>
   rw[C3 (show uA j=ag from C)]at br;cases h;cases br;rfl
  |ey b o n c=>
   let⟨q,h1,ae⟩:=ff (show dB (M5 j) (λq=>Ah (b,o,n,c) q)=ag from C);have:=DO ae;subst this;have an:j=.ey b o n c:=by cases j<;>cases h1;rfl
   subst an;cases h with
   |ey Q=>cases br with
    |ey R=>simp_all
  |dw b o n l=>
   let⟨q,h1,ae⟩:=ff (show dB (M7 j) (λq=>Ah (b,o,n,l) q)=ag from C);have:=DO ae;subst this;have an:j=.dw b o n l:=by cases j<;>cases h1;rfl
   subst an;cases h with
   |dw Q=>cases br with
    |dw R=>simp_all
  |jk=>trivial
  |gk=>
   rw[C4 (show s7 j=ag from C)]at br;cases h;cases br;rfl
  |m b=>
   let⟨q,h1,ae⟩:=ff (show dB (t5 j) (λq=>aH b q)=ag from C);have:=cy ae;subst this;rw[wg h1]at br;cases h with
   |m Q=>cases br with
    |m R=>simp_all
  |fF=>
   have an:j=.fF:=by
    have O:P7 j=ag:=C;cases j<;>cases O;rfl
   subst an;cases h;cases br;rfl
  |f g l c=>
   let⟨q,h1,ae⟩:=ff (show dB (sH j) (λq=>decide (g=q.1)&&(iu (ka d) l q.2.1&&iu (ka d) c q.2.2))=ag from C);simp only[co,decide_eq_true_eq]at ae;let⟨ae,an,aA⟩:=ae;rw[yO h1,<- ae]at br;cases h with
   |f I ap aq=>cases br with
    |f J ar av=>rw[I.fun J,qu Y an ap ar,qu Y aA aq av]
  |lb=>
   rw[Hj (show w6 j=ag from C)]at br;cases h;cases br;rfl
  |y am W=>
   let⟨q,h1,ae⟩:=ff (show dB (BU j) (λq=>ax (aH am q.1) (ka d W q.2) al)=ag from C);rw[eK,co]at ae;rw[FU h1,<- cy ae.1]at br;cases h with
   |y I=>cases br with
    |y J=>grind
  |ld=>
   rw[Hk (show w8 j=ag from C)]at br;cases h;cases br;rfl
  |cp l=>
   let⟨q,h1,ae⟩:=ff (show dB (rn j) (λq=>iu (ka d) l q)=ag from C);rw[t3 h1]at br;cases h with
   |cp I=>cases br with
    |cp J=>rw[qu Y ae I J]
  |cB l=>
   let⟨q,h1,ae⟩:=ff (show dB (yS j) (λq=>iu (ka d) l q)=ag from C);rw[FT h1]at br;cases h with
   |cB I=>cases br with
    |cB J=>rw[qu Y ae I J]
  |dU D=>
   let⟨q,h1,ae⟩:=ff (show dB (nd j) (λq=>aH D q)=ag from C);rw[rp h1,<- cy ae]at br;cases h;cases br;rfl
  |ei D=>
   let⟨q,h1,ae⟩:=ff (show dB (t6 j) (λq=>aH D q)=ag from C);have an:j=.ei q:=by cases j<;>cases h1;rfl
   rw[an,<- cy ae]at br;cases h with
   |ei Q=>cases br with
    |ei R=>simp_all
  |hL D ah=>
   have O:cK (dB (t6 j) λq=>aH D q) (λq=>nt (D,ah) q) (pG j)=ag:=C;cases Z:pG j with
   |some q=>
    rw[Z]at O;have:=uW O;subst this;have an:j=.hL D ah:=by cases j<;>cases Z;rfl
    rw[an]at br;cases h with
    |hL Q=>cases br with
     |hL R=>simp_all
   |none=>
   rw[Z]at O;let⟨q,h1,ae⟩:=ff O;have an:j=.ei q:=by cases j<;>cases h1;rfl
   rw[an,<- cy ae]at br;cases h with
   |hL Q=>cases br with
    |ei R=>simp_all
  |xs i D=>
   let⟨q,h1,ae⟩:=ff (show dB (t7 j) (λq=>nt (i,D) q)=ag from C);have an:j=.xs q.1 q.2:=by cases j<;>cases h1;rfl
   have:=uW ae;subst this;rw[an]at br;cases h;cases br;rfl
  |fg=>trivial
  |lk=>trivial
  |h0 D n=>
   let⟨q,h1,ae⟩:=ff (show dB (wk j) (λq=>ax (aH D q.1) (fD n q.2) al)=ag from C);rw[eK,co,oa,decide_eq_true_eq]at ae;have an:j=.h0 q.1 q.2:=by cases j<;>cases h1;rfl
   rw[an,<- cy ae.1,<- ae.2]at br;cases h;cases br;rfl
abbrev FG:=List (Nat×Nat×List a2)
def mD(aK:FG)(w:dd):Prop:=∀y∈aK,p6 y.1 y.2.1 y.2.2 w.hm
def vZ(aI:bb Ω)(j:pz)(aK:FG):Prop:=∀y∈aK,∃b l c,(b,y.2.1,l)∈j/\aI b=ab (y.1,c)/\bK aI l y.2.2
def vZ.mono{C j aK}(l:aI.le C)(D:vZ aI j aK):vZ C j aK:=λy E=>by
 let⟨b,s,c,h1,ae,an⟩:=D y E;exact⟨b,s,c,h1,l _ _ ae,an.mono l⟩
def agt{j}(E:r5 h j=ag):∀C∈j,∃l,oo h C.1 C.2.1 (k9 C.2.2)=ab l/\iu (ka 9) l C.2.2=ag:=by
 induction j with
 |nil=>simp
 |cons y j J=>
  have H:ax _ (r5 h j) _=ag:=E;rw[eK,co]at H;intro C D;rcases df.1 D with rfl|D
  .cases I:oo h _ _ _ with
   |none=>simp_all
   |some l=>simp_all
  simp_all
def WL{g F j aK}(I:ST g F aI h w)(C:vZ aI j aK)(D:r5 h j=ag):mD aK w:=λy E=>by
 let⟨b,l,c,h1,ae,an⟩:=C y E;let⟨O,H,J⟩:=agt D _ h1;let⟨R,aF,aM,Q⟩:=I.cells ae H;grind[qu,sY]
end aV
namespace aV
variable{Ω:dO}
variable{P:bk}{az:Array cI}{call:jn}{cH:ir}{ca:Q}{b2:bb Ω}{n:Nat}{g:d1}{F:aG}{hS:List vt}{sv full:Nat}
theorem af3{j h C}:kQ P call cH az .nil j h C=ab ⟨j,h⟩:=rfl
theorem TA{C s j h D}:kQ P call cH az (.q C s) j h D=aq (tB az.toList j C.o.guard) λb=>ax b (aq (kg C.o.op P j h) λv=>kQ P call cH az s (hX j C.o.dst v.1) h (D5 C.o.op P j h D)) (kQ P call cH az s (hX j C.o.dst (.cB [])) h D):=rfl
theorem Jf{j s C h D}:kQ P call cH az (.e j s) C h D=ax (aH j.k 2) (aq (kg j.o.op P C h) λv=>kQ P call cH az s (hX C j.o.dst v.1) v.2 D)
  (aq (tB az.toList C j.o.guard) λb=>ax b (aq (Aa P call cH C h j.o.op) λv=>ax (r5 v.2 D) (kQ P call cH az s (hX C j.o.dst v.1) v.2 D) (cm (zK P az j.i j.ai) (kQ P call cH az s (hX C j.o.dst v.1) v.2 []))) (kQ P call cH az s (hX C j.o.dst (.cB [])) h D)):=rfl
def TG{l j s C}(D:qU l sv full (.q j s) C=ag):qS C j=ag/\j.k<2/\qU l sv full s (ij C (jw j.i))=ag:=by
 have E:ax _ (ax _ (qU l sv _ s _) _) _=ag:=D;simp_all[eK,fq]
def TF{l j s C}(E:qU l sv full (.e j s) C=ag):qS C j=ag/\MQ l sv C j.i=ag/\¬j.k<2/\qU l sv full s (ij C (jw j.i))=ag:=by
 have D:ax _ (ax _ (ax _ _ (qU l sv _ s _)) _) _=ag:=E;rw[eK,co,eK,co]at D;let⟨h1,ae,an⟩:=D;cases H:eY _ _ with
 |true=>rw[H]at an;trivial
 |false=>
  grind[dP,eY,Nat.ble_eq_true_of_le]
theorem Pw{j C}:(kA (jw j)).testBit C=ag<->C<j:=by
 show((1<<<j)-1).testBit C=ag<->_;simp[LR]
def Hv(av:tX P az){y}(ah:y∈gK P az)(W:y.k=2):∀(s){J}{R}{h}{I}{am},yG (gK P az) s->qU (gK P az) sv (kA (jw (aa az.toList))) s J=ag->¬J.testBit y.i=ag->(∀E,y.ai.testBit E=ag->J.testBit E=ag)->kQ P call cH az s R h I=ab am->
  ∃H h1 v ae,kg y.o.op P H h1=ab (v,ae)/\∀j∈y.o.looksAt az,H.get j=R.get j
 | .nil,J,R,h,I,am,U,aq,ar,Z,C=>by
  have aR:J=kA _:=cy aq;grind[absurd,Pw,tU]
 | .q O s,J,R,h,I,am,U,aq,ar,Z,C=>by
  let⟨aF,aM,aO⟩:=TG aq;have Y:y.i≠O.i:=λD=>by
   rw[vX ah U.1 D]at W;omega
  have aD: ¬(ij J _).testBit _=ag:=λD=>((ng ..).1 D).elim ar λD=>Y D.symm;have aE:∀E,y.ai.testBit E=ag->(ij J (jw O.i)).testBit E=ag:=λE aA=>(ng ..).2 (.inl (Z E aA));have ax:∀(v:aB) {h I},kQ P call cH az s (hX R O.o.dst v) h I=ab am->∃H h1 v ae,kg y.o.op P H h1=ab (v,ae)/\∀j∈y.o.looksAt az,H.get j=R.get j:=λv h I C=>by
   let⟨H,h1,aK,ae,aI,aJ⟩:=Hv av ah W s U.2 aO aD aE C;refine⟨H,h1,aK,ae,aI,λj ap=>?_⟩;rw[aJ j ap];exact xG λD=>(xK aF).1 (Z _ ((av.rR y ah W O U.1 Y).2 j D ap))
  rw[TA]at C;let⟨b,h1,ae⟩:=b1.1 C;cases b with
  |true=>obtain⟨v,an,aL⟩:=b1.1 ae;grind
  |false=>exact ax _ ae
 | .e O s,J,R,h,I,am,U,aq,ar,Z,C=>by
  let⟨aF,aM,aO,aQ⟩:=TF aq;rw[Jf]at C
  by_cases Y:y.i=O.i
  .have:=vX ah U.1 Y;subst this;rw[W,show aH 2 2=ag from rfl,ea]at C;let⟨v,an,aL⟩:=b1.1 C;grind
  have aD:=λD=>((ng ..).1 D).elim ar λD=>Y D.symm;have aE:∀E,y.ai.testBit E=ag->(ij J (jw O.i)).testBit E=ag:=λE aA=>(ng ..).2 (.inl (Z E aA));have ax:∀(v:aB) {h I},kQ P call cH az s (hX R O.o.dst v) h I=ab am->∃H h1 v ae,kg y.o.op P H h1=ab (v,ae)/\∀j∈y.o.looksAt az,H.get j=R.get j:=λv h I C=>by
   let⟨H,h1,aK,ae,aI,aJ⟩:=Hv av ah W s U.2 aQ aD aE C;refine⟨H,h1,aK,ae,aI,λj ap=>?_⟩;rw[aJ j ap];exact xG λD=>(xK aF).1 (Z _ ((av.rR y ah W O U.1 Y).2 j D ap))
  cases aP:aH O.k 2 with
  |true=>
   grind[ea,b1]
  |false=>
   rw[aP,dP]at C;let⟨b,h1,ae⟩:=b1.1 C;cases b with
   |true=>
    let⟨v,an,aL⟩:=b1.1 ae;cases aS:r5 v.2 I with
    |true=>grind[ea]
    |false=>grind[dP,de]
   |false=>exact ax _ ae
def aek{Y h J v}{o:cI}{H a j}(aJ:m0 P (call cH) ca b2)(R:Aa P call cH Y h o.op=ab (v,J))(s:bS n hS b2 g F ca H Y h a j){I O}
  (aF:∀D E C,H.le C->bY C v D->jO b2 C J->bj g (iO F ca::cz C J) E->I (a.put o.dst D) E):o.wp P a j I O:=by
 have a7:kg _ P Y h=ab _->o.wp P a j I O:=λaB=>
  cW.op o aB g _ H a j s.gu s.di I O λD E C U ai W=>aF D E _ U ai (s.h7.of_le U W.eU) W.eD
 cases ah:B3 o.op with
 |none=>
  simp_all[Aa]
 |some c=>
  unfold Aa at R;rw[ah]at R;have Z:ax _ _ _=ab _:=R;cases aI:wl c.callee with
  |true=>
   simp_all[ea]
  |false=>
   rw[aI,dP]at Z;let⟨av,h1,ae⟩:=b1.1 Z;let⟨aA,am,aT,aS,ar,aE⟩:=o;have aL:am=.call c:=by cases am<;>cases ah;rfl
   subst aL;let⟨aZ,aX,aV⟩:=c;have aK:=A9.of (d:=aA) (ty:=aT) (pos:=aS) (aft:=ar) (gd:=aE) (tys:=aV) (ts:=aX) h1 H a s.gu;cases av with
   |fn aD ap=>
    let⟨aW,aO,aP⟩:=aK;let⟨aq,aQ⟩:=aJ aD ap h v J ae;have aR:=aQ H aW aO s.h7;unfold eg;rw[aP aq j];apply(aR g F j (sD s.eD)).mono λa0 E aM=>?_;obtain⟨D,aY,rfl,⟨C,U,ai,W,rfl⟩,a3⟩:=aM;grind[qs]
   |cH a4 ap=>trivial
theorem Ts{j C}:∀{l},(Ax l j).testBit C=ag<->j.testBit C=ag\/∃x∈l,j.testBit x.i=ag/\x.ai.testBit C=ag
 | []=>⟨.inl,λh=>by rcases h with h|⟨x,J,_⟩;exact h;trivial⟩
 |x::l=>by
  have D:Ax (x::l) j=ax _ (ij _ (Ax l j)) (Ax l j):=rfl;have H:=Ts (j:=j) (C:=C) (l:=l);rw[D];cases E:mQ _ j with
  |true=>
   have I:j.testBit _=ag:=E;rw[ea,Q1,H];grind
  |false=>
   simp_all[mQ,dP]
theorem IJ{j}(D:j∈gK P az){C}(h:j.ai.testBit C=ag):C∈tp az j.i:=by
 let⟨O,E,R⟩:=tT D;rw[E]at h;obtain⟨H,J,I,rfl⟩:=DT.1 h;simp[tp,List.mem_filterMap];grind
def I2:∀(k){C}{F}{j},(∀E,C.testBit E=ag->E∈F)->(I1 (gK P az) k C).testBit j=ag->j∈Au az k F
 |0,C,F,j,h,D=>h j D
 |k+1,C,F,j,h,D=>by
  refine I2 k (λE H=>?_) D;grind[List.mem_eraseDups,Ts,IJ]
def acb{C}(O:C∈gK P az)(h:zK P az C.i C.ai=ag):od az C.i=ag:=by
 have I:=h;simp[od,nL,kU,pp,List.contains_iff_mem];intro H U;obtain⟨o,J⟩:∃o,az[H]?=ab o:=⟨az[H],ao⟩;have E:=Bv (P:=P) J;have q:=rk.1 (show lw _ _=ag from I) _ E;have j:=q;rw[qv,pp,qv,pp,qv,pp]at j;rcases j with j|j|j|j
 .simp_all
 .exact .inl (.inl (.inr (I2 8 (λR D=>IJ O D) j)))
 .refine .inr ?_;unfold xn;simp_all
 .exact .inl (.inr (I2 8 (λR D=>IJ E D) j))
def Vn{g j D}(h:bj g (iO (m5 F []) ca::j) D):bj g (iO F ca::j) D:=
 qs ((sD h).mono λE s=>C.head (A:=m5 F []) (N:=[F]) (λ_ q=>q) s)
def Vo{g E H j D}(J:j.Perm D)(h:bj g (iO (m5 F j) ca::E) H):bj g (iO (m5 F D) ca::E) H:=
 qs ((sD h).mono λI s=>d8 (λI q=>C.perm ((J.map l4).cons F) q) s)
def Vq{g D I j E}(h:bj g (l4 E::iO (m5 F j) ca::D) I):bj g (iO (m5 F (E::j)) ca::D) I:=by
 apply qs (h.mono λH s=>?_);have O:=s.swap;have R:C (m5 F j::(ca++l4 E::D)) H:=by simpa using C.part O
 have U:C (F::(j.map l4++(ca++l4 E::D))) H:=by simpa[m5]using C.part R
 have J:(F::(j.map l4++(ca++l4 E::D))).Perm ((F::(E::j).map l4)++(ca++D)):=by
  grind[List.Perm.cons,fA]
 exact C.join (C.perm J U)
def Vp{g D I j E}(h:bj g (iO (m5 F (E::j)) ca::D) I):bj g (l4 E::iO (m5 F j) ca::D) I:=by
 apply(sD h).mono λH s=>?_;have J:=C.part s;have O:C (l4 E::F::(j.map l4++(ca++D))) H:=by
  have:C (F::l4 E::(j.map l4++(ca++D))) H:=by simpa using J
  exact this.swap
 apply O.bl λH R=>?_;have U:=C.join (N:=F::j.map l4) (by simpa using R);exact C.join (show C _ H from U)
end aV
namespace aV
variable{Ω:dO}
variable{P:bk}{az:Array cI}{call:jn}{cH:ir}{ca:Q}{b2:bb Ω}{n:Nat}{g:d1}{F:aG}{hS:List vt}{eA:Exit->fh->dd->Prop}{tu:lu}{xW:bb Ω}
structure Fd (P:bk) (az:Array cI) (ca:Q) (b2:bb Ω) (n:Nat) (hS:List vt) (g:d1) (F:aG) (xW:bb Ω) (J:Nat) (C:List rb) (D:Array Bool) (I:Nat) (E:eJ) (h:cE) (O:pz) (aK:FG) (j:bb Ω) (a:fh) (H:dd):Prop where
 iX:qk P az J C D I E a
 rd:vZ j O aK
 aW:mD aK H
 fY:bS n hS b2 g (m5 F C) ca j E h a H
 le:xW.le j
 cv:ra az D
def UQ{j}{D:bb Ω}{a o b}(C:tB az.toList j o.guard=ab b)(s:e6 D j a):i6 o (yielded az a.tmps)=b:=by
 have:=UP C s;omega
def wA(Y:tX P az)(aO:Cj n az.toList=ag)(be:m0 P (call cH) ca b2)(a3:∀(O:Nat)(o) ck b,az[O]?=ab o->o.op≠ .select ck b)(bc:oh eA)
  (a9:∀b3 b4 a4,xW.le b3->bS n hS b2 g F ca b3 tu.t tu.h b4 a4->eA .normal b4 a4):
  ∀(s) {aJ} {R} {W} {ap} {U} {h} {H} {aK} {aL} {a} {E},yG (gK P az) s->qU (gK P az) (tR P az) (kA (jw (aa az.toList))) s aJ=ag->
   kQ P call cH az s U h H=ab tu->Fd P az ca b2 n hS g F xW aJ R W ap U h H aK aL a E->oy P az eA (mD aK) ap W a E
 | .nil,aJ,R,W,ap,U,h,H,aK,aL,a,E,I,a0,C,j=>by
  have b5:aJ=kA _:=cy a0;subst b5;have ct:∀am,am<az.size->(kA _).testBit am=ag:=λam aD=>Pw.2 ad;have Z:jL .any az W=[]:=by
   apply List.eq_nil_iff_forall_not_mem.2 λam aD=>?_;let⟨y,J,aF,aM,_⟩:=j.iX.av.Iq (P:=P) aD;grind[tU]
  have ar:R=[]:=by
   cases R with
   |nil=>rfl
   |cons C R=>exact absurd (ct _ (tU (j.iX.pN C ao).mem)) (j.iX.pN C ao).fF
  subst ar;rw[af3]at C;cases C;have q:=a9 aL a E j.le ⟨j.fY.size,j.fY.hS,j.fY.gu,j.fY.h7,Vn j.fY.eD⟩;cases ap with
  |zero=>trivial
  |succ a8=>exact⟨λ_=>q,by simp_all⟩
 | .q D s,aJ,R,W,ap,U,h,H,aK,aL,a,E,I,a0,C,j=>by
  let⟨aF,aM,bB⟩:=TG a0;let⟨bx,cV,ce⟩:=tT I.1;have ar:∀C∈R,C.x.i≠D.i:=λC aY z=>by
   have h1:=(j.iX.pN C aY).k;rw[vX (j.iX.pN C aY).mem I.1 z]at h1;omega
  have Z:=j.iX.av.ready I.1 aF ar;obtain⟨a8,rfl⟩:=j.iX.un.pos Z;have bM:∀O bi,az[O]?=ab bi->O≠D.i->W.getD O ag=al->(∀C∈bi.after,qg .any C=ag->C.on≠D.i)->D.o.apart az bi=ag:=λO bi bh b7 dh dg=>by
   have J:=Bv (P:=P) bh;have dl: ¬(uX bi).testBit D.i=ag:=λz=>by
    grind[DT]
   have dn: ¬D.ai.testBit O=ag:=λz=>by
    have h1:=(xK aF).2 O z;have ae:=(j.iX.av.av O (j.iX.av.lt O h1)).2 (.inl h1);simp_all
   unfold Oper.apart;rw[co];constructor
   .cases br:D.o.dst with
    |none=>rfl
    |some aV=>
     rcases Y.MX D I.1 _ J (λz=>b7 z.symm) aV br with z|z|⟨aP,aB⟩
     .trivial
     .trivial
     simp_all
   .cases cr:bi.dst with
    |none=>rfl
    |some aV=>
     rcases Y.MX _ J D I.1 b7 aV cr with z|z|⟨aP,aB⟩
     .trivial
     .trivial
     simp_all
  have bK:∀(ah:a2) c a E,eA (.panic c) (a.put D.o.dst ah) E->eA (.panic c) a E:=λah c a E z=>absurd z (bc c _ E);have br:eb n D.o.dst=ag:=by
   have h1:=Ck aO;grind[wB,nL,lQ]
  rw[TA]at C;let⟨b,h1,ae⟩:=b1.1 C;have aX:=UQ h1 j.fY.gu;cases b with
  |false=>
   have bw:=wA Y aO be a3 bc a9 s I.2 bB ae ⟨j.iX.put Y I.1 aF ar (.cB []) undef,j.rd,j.aW,j.fY.put br (bb.le.refl _) (.cB .nil) j.fY.h7 j.fY.eD,j.le,j.cv.step Z⟩;exact EB bx a3 (bK _) (λ_=>True) (λ_ _=>trivial) a8 (mD aK) W a E (λ_ _=>trivial) j.cv bM Z (.inr ⟨aX,rfl⟩) j.aW bw
  |true=>
   let⟨⟨v,aA⟩,an,aQ⟩:=b1.1 ae;rcases(show D.k=0\/D.k=1 by omega)with aE|aE
   .obtain⟨b5,cE⟩:=abW ad an;obtain⟨ah,aI,aY⟩:=cE aL a j.fY.gu;have bO:D5 D.o.op P U h H=H:=by
     have cx:pW D.o.op P=0:=ad;cases bz:D.o.op<;>first|rfl|(rw[bz]at cx;trivial)
    rw[bO]at aQ;have bw:=wA Y aO be a3 bc a9 s I.2 bB aQ ⟨j.iX.put Y I.1 aF ar v ah,j.rd,j.aW,j.fY.put br (bb.le.refl _) aI j.fY.h7 j.fY.eD,j.le,j.cv.step Z⟩;exact EB bx a3 (bK _) (λ_=>True) (λ_ _=>trivial) a8 (mD aK) W a E (λ_ _=>trivial) j.cv bM Z (.inl ⟨aX,λE _=>aY a E (eZ a) trivial⟩) j.aW bw
   .let⟨bn,y,bz⟩:=abX (o:=D.o) (by rw[<- ce];omega);rw[bz]at an aQ;obtain⟨rfl,q,cZ,l,aP,aB,fZ,b0⟩:=SY an;let⟨dr,ds,c7⟩:=dS j.fY.gu aP;cases c7 with
    | @ai _ _ aT c cj=>
     let⟨bm,c5,bZ,bG⟩:=j.fY.di.cells cj fZ;let⟨ah,c6,ci⟩:=QY (d:=D.o.dst) (T:=bn) (x:=y) (aO:=D.o.type) (pos:=D.o.pos) (aT:=D.o.after) (a7:=D.o.guard) j.fY.gu aP aB b0 cj c5 bZ;have bR:D.o=⟨D.o.dst,.load bn y,D.o.type,D.o.pos,D.o.after,D.o.guard⟩:=by rw[<- bz]
     rw[<- bR]at ci;have bO:D5 (.load bn y) P U aA H=(q.1,q.2,l)::H:=by
      show(cK H (λv=>cK H (λq=>cK H (λs=>cK H (λl=>(q.1,q.2,l)::H) (oo aA q.1 q.2 s.2)) (qV P bn)) (k1 v)) (dI y U):pz)= _;rw[aP];show(cK H (λs=>cK H (λl=>(q.1,q.2,l)::H) (oo aA q.1 q.2 s.2)) (qV P bn):pz)= _;rw[aB];show(cK H (λl=>(q.1,q.2,l)::H) (oo aA q.1 q.2 cZ.2):pz)= _;rw[fZ]
     rw[bO]at aQ;have aZ:mD ((aT,q.2,bm)::aK) E:=λy J=>by
      rcases df.1 J with rfl|J
      .omega
      .exact j.aW y J
     have cF:vZ aL ((q.1,q.2,l)::H) ((aT,q.2,bm)::aK):=λy J=>by
      rcases df.1 J with rfl|J
      .grind
      .let⟨b,dk,da,c2,c3,ch⟩:=j.rd y J;grind
     have bw:=wA Y aO be a3 bc a9 s I.2 bB aQ ⟨j.iX.put Y I.1 aF ar v ah,cF,aZ,j.fY.put br (bb.le.refl _) c6 j.fY.h7 j.fY.eD,j.le,j.cv.step Z⟩;apply EC (hn:=mD ((aT,q.2,bm)::aK)) (λE aX y J=>aX y bv) _ _ _ _;apply EB bx a3 (bK _) (mD ((aT,q.2,bm)::aK)) (λaR=>?_) a8 (mD ((aT,q.2,bm)::aK)) W a E (λ_ z=>z) j.cv bM Z (.inl ⟨aX,λE aX=>?_⟩) aZ bw
     .exfalso;unfold xn at aR;rw[bx]at aR;simp only at aR;unfold md at aR;grind
     .exact ci a E (eZ a) ⟨E.hm,λ_=>af,λ_=> .inr p,eV.refl _,λ_ _ C=>(by cases C),aX (aT,q.2,bm) ao,trivial⟩
 | .e D s,aJ,R,W,ap,U,h,H,aK,aL,a,E,I,a0,C,j=>by
  let⟨aF,aM,bB,bE⟩:=TF a0;let⟨bx,cV,ce⟩:=tT I.1;have bL:∀{y:hP},y∈gK P az->eb n y.o.dst=ag:=λJ=>by
   have h1:=Ck aO;simp only[wB,nL]at h1;exact h1 _ (lQ (by simpa using(tT J).1))
  have bH:∀{aJ R W ap U h H aK aL a E},qU (gK P az) (tR P az) (kA (jw (aa az.toList))) s aJ=ag->kQ P call cH az s U h H=ab tu->Fd P az ca b2 n hS g F xW aJ R W ap U h H aK aL a E->oy P az eA (mD aK) ap W a E:=
   λa0 C j=>wA Y aO be a3 bc a9 s I.2 a0 C j
  have cg:∀{ap:Nat} {R:List rb} {W:Array Bool} {a:fh} {E:dd},Fd P az ca b2 n hS g F xW aJ R W ap U h H aK aL a E->(∃C∈R,C.x.i=D.i)->oy P az eA (mD aK) ap W a E:=λ{ap R W a E} j ar=>by
   let⟨a7,b6,cN⟩:=ar;have aD:=j.iX.pN a7 b6;have bR:=vX aD.mem I.1 cN;obtain⟨c8,c9,rfl⟩:=List.append_of_mem b6;have aE:=aD.k;subst bR;rw[Jf,aE,show aH 2 2=ag from rfl,ea]at C;let⟨v,an,aQ⟩:=b1.1 C;rw[aD.op U (λ_ _=>rfl) h]at an;cases an;have cC:=Vp (Vo fA j.fY.eD);let⟨aS,bT,bA⟩:=ST.new (B:=a7.B) (c:=0) (o:=a7.o) j.fY.h7.eU (cC.mono λaR q=>d8 (λaR q=>q _) q);apply bH bE aQ ⟨j.iX.take Y _,j.rd.mono aS,j.aW,⟨j.fY.size,j.fY.hS,λam v aI=>?_,j.fY.h7.of_le aS bA.eU,bA.eD⟩,j.le.trans aS,j.cv⟩
   by_cases aO:a7.x.o.dst=ab am
   .rw[aO]at aI;have cb:(dR.set (Nat.succ am) U am (ab (a7.val h.n))).get am=ab v:=aI;rw[dR.ot,bJ p]at cb;cases cb;exact⟨a7.u,aD.UN _ _ bT,aD.ey am aO⟩
   .rw[xG aO]at aI;let⟨ah,aP,aB⟩:=j.fY.gu am v aI;exact⟨ah,aP.mono aS,aB⟩
  induction ap generalizing R W a E with
  |zero=>
   by_cases ar:∃C∈R,C.x.i=D.i
   .exact cg j ar
   .exfalso;have Z:=j.iX.av.ready I.1 aF λC aY z=>ar ⟨C,aY,z⟩;let⟨a8,db⟩:=j.iX.un.pos Z;omega
  |succ a8 cT=>
   by_cases ar:∃C∈R,C.x.i=D.i
   .exact cg j ar
   have bq:∀C∈R,C.x.i≠D.i:=λC aY z=>ar ⟨C,aY,z⟩;have Z:=j.iX.av.ready I.1 aF bq;refine⟨λz=>(by rw[z]at Z;cases Z),λam aD=>?_⟩;obtain⟨y,J,rfl,bU,dp,bV⟩:=j.iX.av.Iq (P:=P) aD;let⟨cc,dj,cU⟩:=tT J
   by_cases aE:y.k=2
   .have b9:∀O,y.ai.testBit O=ag->aJ.testBit O=ag:=λO bh=>by
     rcases bV O bh with z|⟨bo,bt,z⟩
     .exact z
     .have h1:=j.iX.pN bo bt;exact absurd ((Fp h1.mem).2 h1.k) (by rw[z];exact(Y.Ri y J aE).2 O bh)
    let⟨dq,h1,v,ae,aP,aB⟩:=Hv Y J aE (.e D s) I a0 bU b9 C;obtain⟨mk,aq,cX,cY⟩:=abY (az:=az) (o:=y.o) (by rw[<- cU];exact aE) aP;have cu:=(Y.Ri y J aE).1;unfold wpOp;simp only[cc,i6,cu,if_true];refine .inl (cY aL U a j.fY.gu (λaV bg=>(aB aV bg).symm) g [λaR=>aR=E.hm] E _ _ ⟨j.fY.eD.g,E.hm,λ_=>af,λ_=> .inr p,eV.refl _,λ_ _ C=>(by cases C),rfl,trivial⟩ λaT ah a4 aI b8=> .inr ?_);have cG:eV E.hm a4.hm:=by
     let⟨c2,c3,_,_,bZ,_,⟨ch,c4,_,bG,_,bI,_⟩⟩:=b8.s;subst bI;exact bG.trans bZ
    have cD:bj g (l4 ⟨y,mk,aq,aT,ah⟩::iO (m5 F R) ca::cz aL h) a4:=b8.mono λaR q=>q.bl λaR q=>by
     let⟨ch,c4,_,bG,_,bI,_⟩:=q;subst bI;exact j.fY.eD.s.up bG
    have aZ:mD aK a4:=λz cS O ah bh=>iR.sub (j.aW z cS O ah bh) cG;have cq:=j.iX.cl y J aE bU;refine⟨aZ,cT _ _ _ _ ⟨j.iX.early Y (e:=⟨y,mk,aq,aT,ah⟩) J aE aD (λaV bg=>by rw[j.fY.size];exact Oe (bL J) _ bg) b9 (λc0 cL aA=>cX c0 (λaV bg=>by rw[cL aV bg,aB aV bg]) aA) aI,j.rd,aZ,⟨by rw[<- j.fY.size];cases y.o.dst<;>simp[Kq],by rw[<- j.fY.hS];cases y.o.dst<;>rfl,λam v aI=>?_,j.fY.h7,Vq cD⟩,j.le,j.cv.step aD⟩⟩;let⟨c1,fZ,b0⟩:=j.fY.gu am v aI;refine⟨c1,fZ,?_⟩;rw[IT λz=>by rw[cq am z]at aI;cases aI];exact b0
   have cQ:y=D:=by
    have q:=rk.1 (show lw _ _=ag from aM) y J;rw[qv,pp,qv,pp,qv,pp,qv,pp]at q;rcases q with q|q|q|q|q
    .exact absurd q bU
    .exact vX J I.1 (cy q)
    .exact absurd ((Fp J).1 q) aE
    .rcases bV D.i q with z|⟨bo,bt,z⟩
     .exact absurd z (xK aF).1
     .exact absurd z (bq bo bt)
    .rw[pf]at q;let⟨O,aP,aB⟩:=adT (a:=y.ai) (b:=ij aJ (tR P az)) (by simpa using q);rw[Q1]at aB;rcases bV O aP with z|⟨bo,bt,z⟩
     .exact absurd (.inl z) aB
     .have h1:=j.iX.pN bo bt;exact absurd (.inr (by rw[<- z];exact(Fp h1.mem).2 h1.k)) aB
   subst cQ;rw[Jf,FW aE,dP]at C;let⟨b,h1,ae⟩:=b1.1 C;have aX:=UQ h1 j.fY.gu;unfold wpOp;simp only[cc,aX];cases b with
   |false=>
    rw[dP]at ae;simp only[Bool.false_eq_true,if_false];exact .inr ⟨j.aW,bH bE ae ⟨j.iX.put Y I.1 aF bq (.cB []) undef,j.rd,j.aW,j.fY.put (bL I.1) (bb.le.refl _) (.cB .nil) j.fY.h7 j.fY.eD,j.le,j.cv.step Z⟩⟩
   |true=>
    rw[ea]at ae;let⟨⟨v,aA⟩,an,aQ⟩:=b1.1 ae;simp only[if_true];refine .inl (aek be an j.fY λah a4 b3 aS bT bA cW=>?_);have bY:=j.fY.put (bL I.1) aS bT bA cW;cases bP:r5 aA H with
    |true=>
     have bp:ax (r5 aA H) (kQ P call cH az s (hX U y.o.dst v) aA H) (cm (zK P az y.i y.ai) (kQ P call cH az s (hX U y.o.dst v) aA []))=ab tu:=aQ;rw[bP,ea]at bp;have aZ:mD aK a4:=WL bY.di (j.rd.mono aS) bP;exact .inr ⟨aZ,bH bE bp ⟨j.iX.put Y I.1 aF bq v ah,j.rd.mono aS,aZ,bY,j.le.trans aS,j.cv.step Z⟩⟩
    |false=>
     have bp:ax (r5 aA H) (kQ P call cH az s (hX U y.o.dst v) aA H) (cm (zK P az y.i y.ai) (kQ P call cH az s (hX U y.o.dst v) aA []))=ab tu:=aQ;rw[bP,dP]at bp;let⟨cn,cp⟩:=de.1 bp;refine .inl ⟨acb I.1 cn,mD [],(λ_ h=>by cases h),?_⟩;exact wA Y aO be a3 bc a9 s I.2 bE cp ⟨j.iX.put Y I.1 aF bq v ah,(λ_ h=>by cases h),(λ_ h=>by cases h),bY,j.le.trans aS,j.cv.step Z⟩
def NX{C}:∀(l){j},j.get C=af->(qA l j).get C=af
 | [],j,h=>h
 |x::l,j,h=>by
  have E:qA (x::l) j=qA l _:=rfl;rw[E];apply NX l;cases aH _ 2 with
  |false=>exact h
  |true=>
   cases x.o.dst with
   |none=>exact h
   |some D=>
    show(dR.set (Nat.succ D) j D _).get C=af;simp_all[dR.ot,a8]
def NW{D}{j:Nat}:∀(l:List hP){C},D∈l->D.k=2->D.o.dst=ab j->(qA l C).get j=af
 |y::l,C,h,H,E=>by
  have I:qA (y::l) C=qA l _:=rfl;rw[I];rcases df.1 h with rfl|h
  .rw[H,E];apply NX l;show(dR.set (Nat.succ j) C j _).get j=af;rw[dR.ot,bJ p]
  .exact NW l h H E
def NY{E v}:∀(l){j},(qA l j).get E=ab v->j.get E=ab v
 | [],j,h=>h
 |x::l,j,h=>by
  have H:qA (x::l) j=qA l _:=rfl;rw[H]at h;have C:=NY l h;cases D:aH _ 2 with
  |false=>rw[D]at C;trivial
  |true=>
   rw[D,ea]at C;cases I:x.o.dst with
   |none=>simp_all
   |some J=>
    rw[I]at C;simp_all[dR.ot,a8]
def XB{o:cI}(h:BX o.op=al):(∀c,o.op≠ .defer c)/\∀C b,o.op≠ .select C b:=
 ⟨λc j=>(by rw[j]at h;cases h),λC b j=>(by rw[j]at h;cases h)⟩
def Ch(J:P.follows .mixedOrders=ag)(call aQ):vJ Ω P call aQ:=λ{cH ca b2 n g F hS id az s tu aS a aR eA} aq Z Y ar U D aA=>by
 have H:ax _ _ _=ab tu:=U;cases R:R6 P _ with
 |false=>rw[R]at H;trivial
 |true=>
  rw[R,ea]at H;have W:ax _ _ _=ag:=R;rw[eK,co,eK,co,eK,co]at W;let⟨aK,aL,aO,aP⟩:=W;have ai:=WJ aK aL aO;have ap:∀{ah:Nat} {o:cI},az[ah]?=ab o->(∀c,o.op≠ .defer c)/\∀E b,o.op≠ .select E b:=λO=>XB (ai.bad _ (Bv O));have aD:nr az.toList=ag:=by
   unfold nr;grind[List.mem_iff_getElem?]
  have aJ:=wA ai ar aq (λah o E b O=>(ap O).2 E b) Y.hc aA _ (R:=[]) (W:=oz az.size al) (ap:=az.size) (aK:=[]) (E:=aR.drew) (DS _ _ _) aP H
   ⟨⟨⟨ao,λj I=>⟨λh=>bo,λh=>bo⟩,λj h=>absurd h ao,ao⟩,⟨gZ az.size,λj I _=>kU.2 I,ao⟩,λU aV=>(by trivial),λaW aI aB _ aT av=>NW _ aI aB av⟩,
    λy Z=>(by trivial),λy Z=>(by trivial),⟨D.size,D.hS,λj v aE=>D.gu j v (NY _ aE),D.h7,?_⟩,bb.le.refl _,λj I=>?_⟩
  .let⟨l⟩:=az;exact wpIn_region_any J (ED aD Y.no _ _ _ _<|AQ (S:=mD []) _ _ _ _ aJ)
  .apply D.eD.drew.mono λJ q=>?_;have aF:=C.part (N:=F::ca) q;have aM:=C.join (N:=[F]) aF;exact C.join (N:=m5 F []::ca) (show C ((m5 F []::ca)++cz aS s.h) J from aM)
  .exfalso;rcases dZ j az.size with am|am
   .simp_all
   simp_all
end aV
namespace aV
variable{Ω:dO}
variable{P:bk}{call:jn}{n:Nat}{g:d1}{F:aG}{cH:ir}{ca:Q}{b2 aI:bb Ω}{h:cE}
def ur(C:List Nat)(E:bz)(j:Array a2):Array a2:=(C.zip E).foldl (λj (D,a)=>j.setIfInBounds D a) j
theorem Pu:∀(j)(D)(C),(ur j D C).size=C.size
 | [],D,C=>rfl
 |ai::j,[],C=>rfl
 |ai::j,E::D,C=>by
  show(ur j D _).size= _;rw[Pu j D];simp
def TK:∀(C)(H)(j){E}{D},FN n C=ag->D.size=n->bK aI H j->e6 aI E ⟨D,[]⟩->e6 aI (Em C H E) ⟨ur C j D,[]⟩
 | [],H,j,E,D,J,O,I,s=>s
 |ai::C,[],j,E,D,J,O,I,s=>by cases I;exact s
 |ai::C,v::H,j,E,D,J,O,I,s=>by
  cases I with
  | @cons _ Y _ j a b=>
   have R:ax _ _ _=ag:=J;rw[eK,co]at R;apply TK C H j R.2 bo b;exact s.put (d:=ab ai) a (λW U=>by simp_all)
def Tq(call)(bg:∀{cH}{ca}{b2:bb Ω},lv P cH ca b2->m0 P (call cH) ca b2)(bG:∀ar,vJ Ω P call ar):rf Ω P call af:=λ{cH ca b2 n g F H f I R y s bV b0 aI a ah dh} bo dq ct Y O cv=>by
 have be:ax (ax (kN R) (kN y) al) (ND f I (ix R) (ix y)) yY P call cH s=ab (b0,bV):=Y;cases bn:ax (kN R) (kN y) al with
 |false=>rw[bn]at be;trivial
 |true=>
  rw[bn,ea]at be;rw[eK,co]at bn;let⟨dn,h1,q,an,aT,bE,ck⟩:=i0 (show aq (dI f s.t) (λv=>aq (sH v) λq=>aq (FR q.1) λg=>aq (call (Jb cH s.h.n s.t I.toList (ix R P call cH) (ix y P call cH)) g (q.2.1++ .f (.yield s.h.n) [] []::q.2.2) (s.h.new .no)) λar=>ab (X.lc,(⟨s.t,ar.2⟩:lu)))=ab (b0,bV)from be);let⟨⟨du,a7⟩,cl,cn⟩:=b1.1 ck;cases cn;have bH:ax (FN n I.toList) (ax (rv n R) (rv n y) al) al=ag:=ct;rw[eK,co,eK,co]at bH;let⟨cc,ce,cg⟩:=bH;let⟨dt,cY,bJ⟩:=dS O.gu h1;rw[yO an]at bJ;let⟨fn,dr,dk⟩:=q;cases bJ with
  | @f _ cj _ _ a9 a3 cx cC cq=>
   have cB:fn=.func aT/\cj=.func aT:=by
    cases fn<;>first|(cases bE;done)|skip
    cases bE;cases cx;simp
   obtain⟨rfl,rfl⟩:=cB;apply wpIn_rangeFunc λaS _=>?_;have bc:=(O.eD.wb (.deferred (ab []))).wb (.loop {state:=.ready,pending:=af,fn:=aS,tmps:=a.tmps,params:=I,assign:=R,body:=y,defers:=ah.heap.size});rw[World.size_alloc]at bc;have bh:=run_enterLoop_outer (P:=P) (w:=ah) aS a.tmps I R y;generalize dp:(ah.alloc (.deferred (ab []))).alloc (.loop {state:=.ready,pending:=af,fn:=aS,tmps:=a.tmps,params:=I,assign:=R,body:=y,defers:=ah.heap.size})=az at bc bh;obtain⟨l,n9⟩:∃l,l=ah.heap.size+1:=⟨_,rfl⟩;obtain⟨D,bI⟩:∃D,D=ah.heap.size:=⟨_,rfl⟩;let aK:LoopState->Option Code->Obj:=λc7 q=> .loop ⟨c7,q,aS,a.tmps,I,R,y,D⟩;have ap:aI.le (ext aI s.h.n (l,0)):=wS _ (O.h7.eU _ (bC _));have cW:lv P (Jb cH s.h.n s.t I.toList (ix R P call cH) (ix y P call cH)) (bR l (aK .ready af)::ca) (ext aI s.h.n (l,0)):=λaJ aY h v a7 Y=>by
    have a4:ax (aH aJ s.h.n) (aq (cm (aH (k9 aY) (aa I.toList)) (ix R P call cH ⟨Em I.toList aY s.t,h⟩)) λq=>X.rec (aq (ix y P call cH q.2) λar=>X.rec (ab (.b ag,ar.2.h)) (λ_=>af) af ar.1) (λ_=>af) af q.1) (cH aJ aY h)=ab (v,a7):=Y;cases bi:aH aJ s.h.n with
    |false=>
     rw[bi,dP]at a4;let⟨cZ,b8,b,aO,a0,fZ⟩:=bo aJ aY h v a7 a4;refine⟨cZ,b8,b,(O.h7.nq.trans ap) _ _ aO,a0,λaE aL a8 aA=>?_⟩;have bA:=iP.frame [bR l (aK .ready af)] (fZ aE aL a8 ⟨aA.eU,(O.h7.nq.trans ap).trans aA.nq⟩) (M:=bR l (aK .ready af)::ca++cz aE h) cT;refine bA.mono λdj b4 ⟨dg,⟨aF,U,aM,aW,bT⟩,bU⟩=>⟨aF,U,aM,⟨aW.eU,aA.nq.trans aM⟩,?_⟩;simp_all
    |true=>
     have:=cy bi;subst this;rw[bi,ea]at a4;let⟨⟨bx,av⟩,aO,a0⟩:=b1.1 a4;let⟨da,aO⟩:=de.1 aO;have cU:bx=.lc:=by cases bx<;>first|rfl|trivial
     subst cU;let⟨⟨bz,aD⟩,fZ,bA⟩:=b1.1 (show aq (ix y P call cH av) (λar=>X.rec (ab (aB.b ag,ar.2.h)) (λ_=>af) af ar.1)=ab (v,a7)from a0);have cV:bz=.lc:=by cases bz<;>first|rfl|trivial
     subst cV;cases bA;refine⟨l,0,ag,CI _,rfl,λaE aL a8 aA=>?_⟩;have ch:jO b2 aE h:=⟨aA.eU,(O.h7.nq.trans ap).trans aA.nq⟩;intro am J bZ aV;have cS:bj am (bR l (aK .ready af)::J::(ca++cz aE h)) bZ:=aV.mono λ_ s=>s.swap;have cD:aL.toArray.size=I.size:=by
      have:=cy da;rw[<- a8.len]at this;omega
     have cX:=run_yield (P:=P) (args:=aL.toArray) cS.jH cD;refine⟨aS,ur I.toList aL a.tmps,R,y,?_,roundIn_of_wpIn trivial ?_⟩
     .rw[cX]
      congr 2
      simp only[ur];let⟨I⟩:=I;simp
     have c5:bS n (mk []) b2 am (jq (λj=>C [J,bR l (aK .ready af)] j) []) ca aE (Em I.toList aY s.t) h ⟨ur I.toList aL a.tmps,[]⟩ bZ:=by
      refine⟨by rw[show(⟨ur I.toList aL a.tmps,[]⟩:fh).tmps.size= _ from Pu _ _ _];exact O.size,rfl,TK _ _ _ cc O.size a8 λbp v bm=>?_,ch,qs (aV.mono λj s=>?_)⟩
      .let⟨bw,bv,c1⟩:=O.gu bp v bm;exact⟨bw,bv.mono (ap.trans aA.nq),c1⟩
      .have av:C ([J,bR l (aK .ready af)]++(ca++cz aE h)) j:=s;have aD:=C.join av;exact C.join (N:=[λj=>C [J,bR l (aK .ready af)] j]) aD
     have b9:=Gh (r:=ab l) (g:=am) bg (bG _) R (ar:=λY aR aQ=>Y=.normal/\∃ai Z,aE.le Z/\bS n (mk ai) b2 am (jq (λj=>C [J,bR l (aK .ready af)] j) ai) ca Z av.t av.h aR aQ)
      (λE=>by simp_all) bo ⟨(λ⟨a,ah,E,_⟩=>by grind),(λc a ah ⟨E,_⟩=>by grind)⟩ ce aO c5 λai Z aR aQ bq aD=>⟨rfl,ai,Z,bq,aD⟩
     apply oA (λY b5 aZ cL=>?_) b9;let⟨E,W,U,bL,aX⟩:=cL;subst E;have mid:∀{o:Obj} {W:List Nat} {U:bb Ω} {aP:cE} {aZ:dd},bj am (iO (jq (λj=>C [J,bR l o] j) W) ca::cz U aP) aZ->bj am (bR l o::J::(kr W++(ca++cz U aP))) aZ:=λ{o W U aP aZ} bt=>(sD bt).mono λj s=>by
      have aF:C (((λj=>C [J,bR l o] j)::kr W)++(ca++cz U aP)) j:=C.part (N:=(λj=>C [J,bR l o] j)::kr W) s;have aM:C ([J,bR l o]++(kr W++(ca++cz U aP))) j:=C.part (N:=[J,bR l o]) (by simpa using aF);have aW:C (J::bR l o::(kr W++(ca++cz U aP))) j:=aM;exact aW.swap
     have bO:=mid aX.eD;refine⟨_,run_beginRound bO.jH p,?_⟩;have c2:=bO.fU (aK .busy af);have c6:bS n (mk W) b2 am (jq (λj=>C [J,bR l (aK .busy af)] j) W) ca U av.t av.h b5 (aZ.putObj l (aK .busy af)):=by
      refine⟨aX.size,aX.hS,aX.gu,aX.h7,qs (c2.mono λj s=>?_)⟩;have aF:C ([J,bR l (aK .busy af)]++(kr W++(ca++cz U av.h))) j:=s.swap;have aM:C (((λj=>C [J,bR l (aK .busy af)] j)::kr W)++(ca++cz U av.h)) j:=by simpa using C.join aF
      exact C.join aM
     have cb:=Gh (r:=ab l) (g:=am) bg (bG _) y (ar:=λY aR aQ=>Y=.normal/\∃ai Z,U.le Z/\bS n (mk ai) b2 am (jq (λj=>C [J,bR l (aK .busy af)] j) ai) ca Z aD.t aD.h aR aQ)
      (λE=>by simp_all) bo ⟨(λ⟨a,ah,E,_⟩=>by grind),(λc a ah ⟨E,_⟩=>by grind)⟩ cg fZ c6 λai Z aR aQ bq aD=>⟨rfl,ai,Z,bq,aD⟩
     apply oA (λY di dv cN=>?_) cb;let⟨E,dl,db,bM,bY⟩:=cN;subst E;have bP:=mid bY.eD;have c3:=(bP.fU (aK .ready af)).mono λj s=>s.swap;refine⟨_,_,run_endRound af bP.jH,ag,_,rfl,⟨rfl,db,bL.trans bM,⟨bY.h7.eU,aA.nq.trans (bL.trans bM)⟩,rfl⟩,?_⟩;apply bj.mono (λj s=>?_) c3;apply s.bl λj s=>s.bl λj s=>?_;let⟨bx,bz,_,_,c8,_,c9⟩:=s.split;exact c9.up c8
   have cF:(∀aJ,(s.h.new .no).n<=aJ->ext aI s.h.n (l,0) aJ=af)/\bj g (jq F (D::H)::((bR l (aK .ready af)::ca)++cz (ext aI s.h.n (l,0)) (s.h.new .no))) az:=by
    have b6:bj g ((λj=>C [bR l (aK .ready af),bR D (.deferred (ab []))] j)::iO (jq F H) ca::cz aI s.h) az:=by
     apply bc.mono λj E=>?_;rw[<- n9,<- bI]at E;exact C.join (N:=[bR l (aK .ready af),bR D (.deferred (ab []))]) E
    have b7:bj g ((λj=>C ((λj=>C [bR l (aK .ready af),bR D (.deferred (ab []))] j):: [iO (jq F H) ca]) j)::cz aI s.h) az:=b6.mono λj E=>C.join (N:=[(λj=>C [bR l (aK .ready af),bR D (.deferred (ab []))] j),iO (jq F H) ca]) E;let⟨_,_,bB⟩:=ST.new (B:=l) (c:=0) (o:=.no) O.h7.eU b7.Uz;refine⟨bB.eU,bB.eD.mono λj E=>?_⟩;have aF:C ([(λj=>C [bR l (aK .ready af),bR D (.deferred (ab []))] j),iO (jq F H) ca]++cz (ext aI s.h.n (l,0)) (s.h.new .no)) j:=C.part (N:=[(λj=>C [bR l (aK .ready af),bR D (.deferred (ab []))] j),iO (jq F H) ca]) E;have aM:C ([bR l (aK .ready af),bR D (.deferred (ab []))]++(iO (jq F H) ca::cz (ext aI s.h.n (l,0)) (s.h.new .no))) j:=C.part (N:=[bR l (aK .ready af),bR D (.deferred (ab []))]) aF;have aW:C (iO (jq F H) ca::([bR l (aK .ready af),bR D (.deferred (ab []))]++cz (ext aI s.h.n (l,0)) (s.h.new .no))) j:=C.perm fA aM;have bT:C (jq F H::(ca++([bR l (aK .ready af),bR D (.deferred (ab []))]++cz (ext aI s.h.n (l,0)) (s.h.new .no)))) j:=C.part (N:=jq F H::ca) aW;have bU:C (F::(kr H++(ca++([bR l (aK .ready af),bR D (.deferred (ab []))]++cz (ext aI s.h.n (l,0)) (s.h.new .no))))) j:=C.part (N:=F::kr H) bT;have bt:(kr H++(ca++([bR l (aK .ready af),bR D (.deferred (ab []))]++cz (ext aI s.h.n (l,0)) (s.h.new .no)))).Perm (bR D (.deferred (ab []))::(kr H++(bR l (aK .ready af)::(ca++cz (ext aI s.h.n (l,0)) (s.h.new .no))))):=by
     have bv:(ca++bR l (aK .ready af)::bR D (.deferred (ab []))::cz (ext aI s.h.n (l,0)) (s.h.new .no)).Perm (bR D (.deferred (ab []))::bR l (aK .ready af)::(ca++cz (ext aI s.h.n (l,0)) (s.h.new .no))):=
      (fA.trans (fA.cons _)).trans (.swap _ _ _)
     exact(bv.append_left (kr H)).trans fA
    have c4:=C.perm (bt.cons F) bU;exact C.join (N:=F::bR D (.deferred (ab []))::kr H) c4
   let⟨cu,cG⟩:=cF;let⟨b3,cr⟩:=bg cW aT _ _ _ _ cl;have cp:=cr (ext aI s.h.n (l,0)) (a9++Value.func (.yield l) #[] #[]::a3) ((bK.mono ap cC).append (.cons (.f (.yield (CI _)) .nil .nil) (bK.mono ap cq))) ⟨cu,bb.le.refl _⟩ g _ az cG;rw[<- n9,<- bI]at bh;refine⟨l,[⟨.collected D,#[]⟩],az,⟨.fn (.func aT) a3.toArray,a9.toArray++ #[Value.func (.yield l) #[] #[]]⟩,az,aT,(a9++Value.func (.yield l) #[] #[]::a3).toArray,az,bh,?_,λ_ _=>trivial,?_,(λY=>by cases Y),(callsIn_wide (n:=0)).2 (cp.mono ?_)⟩
   .have ci:a.eval (.const (Value.func (.yield l) #[] #[]))=Value.func (.yield l) #[] #[]:=rfl;simp only[resolve,(eZ a).eval cY,oB,cM,e5,dG,ci,gY,fu,List.map_nil]
   .have:=b3.run (a9++Value.func (.yield l) #[] #[]::a3).toArray az;simpa[invoke]using this
   .rintro Y aQ ⟨v,b4,rfl,⟨Z,br,ds,c0,rfl⟩,cQ⟩;have aV:=cQ.mono λj E=>E.swap;refine⟨af,_,run_endLoop aV.jH ao,?_⟩;refine cv (D::H) Z _ _ (ap.trans br) ⟨O.size,?_,λbp v bm=>?_,⟨c0.eU,(O.h7.nq.trans ap).trans br⟩,qs ((aV.fU _).mono λj E=>E.tail)⟩
    .rw[O.hS];rfl
    .let⟨bw,aO,a0⟩:=O.gu bp v bm;exact⟨bw,aO.mono (ap.trans br),a0⟩
end aV
namespace aV
variable{Ω Ω':dO}{P:bk}{aI:bb Ω}{tG:bb Ω'}{ai τ H:Nat->Option Nat}
theorem my.mp(E:∀b j,ai b=ab j->∀D,aI b=ab D->tG j=ab D){g C}(I:iF (C5 g)=ag)(h:my aI g C):my tG g C:=by
 cases h with
 |yield q=>trivial
 | _=>constructor
mutual
theorem bY.mp(D:∀b I,ai b=ab I->∀R,aI b=ab R->tG I=ab R)(E:∀C J,τ C=ab J->Ω'.int J=Ω.int C){v Q}(W:bY aI v Q):∀{j},Ic ai τ v=ab j->bY tG j Q:=by
 cases W with
 |i=>intro j h;cases h;exact .i
 |b=>intro j h;cases h;exact .b
 |s=>intro j h;cases h;exact .s
 | @ai b o _ _ q=>intro j h;let⟨I,h1,ae⟩:=b1.1 (show aq _ _=ab j from h);cases ae;exact .ai (D _ _ h1 _ q)
 |hc=>intro j h;cases h;exact .hc
 | @ey b o n c _ _ q=>intro j h;let⟨I,h1,ae⟩:=b1.1 (show aq _ _=ab j from h);cases ae;exact .ey (D _ _ h1 _ q)
 | @dw b o n l _ _ q ah=>intro j h;let⟨I,h1,ae⟩:=b1.1 (show aq _ _=ab j from h);cases ae;exact .dw (D _ _ h1 _ q) ah
 |jk=>intro j h;cases h;exact .jk
 |gk=>intro j h;cases h;exact .gk
 | @m b _ _ q=>intro j h;let⟨I,h1,ae⟩:=b1.1 (show aq _ _=ab j from h);cases ae;exact .m (D _ _ h1 _ q)
 |fF=>intro j h;cases h;exact .fF
 | @f g _ l c _ _ a b U=>
  intro j h;let⟨Y,h⟩:=de.1 (show cm _ _=ab j from h);let⟨av,h1,ap,ae,h⟩:=en h;cases h;exact .f (a.mp D Y) (bK.mp D E b h1) (bK.mp D E U ae)
 |lb=>intro j h;cases h;exact .lb
 | @y am v _ q=>intro j h;let⟨O,h1,ae⟩:=b1.1 (show aq _ _=ab j from h);cases ae;exact .y (bY.mp D E q h1)
 |ld=>intro j h;cases h;exact .ld
 | @cp l _ q=>intro j h;let⟨O,h1,ae⟩:=b1.1 (show aq _ _=ab j from h);cases ae;exact .cp (bK.mp D E q h1)
 | @cB l _ q=>intro j h;let⟨O,h1,ae⟩:=b1.1 (show aq (zX ai τ l) (λl=>ab (aB.cB l))=ab j from h);cases ae;exact .cB (bK.mp D E q h1)
 | @dU C=>intro j h;let⟨O,h1,ae⟩:=b1.1 (show aq (τ C) (λC=>ab (aB.dU C))=ab j from h);cases ae;rw[<- E _ _ h1];exact .dU
 | @ei b _ _ q=>intro j h;let⟨I,h1,ae⟩:=b1.1 (show aq (ai b) (λb=>ab (aB.ei b))=ab j from h);cases ae;exact .ei (D _ _ h1 _ q)
 |fg=>intro j h;cases h;exact .fg
 |lk q=>intro j h;cases h;exact .lk q
 | @h0 C n=>intro j h;let⟨O,h1,ae⟩:=b1.1 (show aq (τ C) (λC=>ab (aB.h0 C n))=ab j from h);cases ae;rw[<- E _ _ h1];exact .h0
 | @hL b C _ _ q Z=>
  intro j h;let⟨I,h1,J,ae,h⟩:=en (show aq (ai b) (λb=>aq (τ C) λC=>ab (aB.hL b C))=ab j from h);cases h;exact .hL (D _ _ h1 _ q) ((E _ _ ae).trans Z)
 | @xs i C=>
  intro j h;let⟨ar,h1,J,ae,h⟩:=en (show aq (τ i) (λi=>aq (τ C) λC=>ab (aB.xs i C))=ab j from h);cases h;rw[<- E _ _ h1,<- E _ _ ae];exact .xs
theorem bK.mp(D:∀b C,ai b=ab C->∀R,aI b=ab R->tG C=ab R)(E:∀I J,τ I=ab J->Ω'.int J=Ω.int I){l:List aB}{Q:bz}(U:bK aI l Q):∀{j:List aB},zX ai τ l=ab j->bK tG j Q:=by
 cases U with
 |nil=>intro j h;cases h;exact .nil
 | @cons v Y l O a b=>
  intro j h;let⟨Z,h1,W,ae,h⟩:=en (show aq (Ic ai τ v) (λa=>aq (zX ai τ l) λO=>ab (a::O))=ab j from h);cases h;exact .cons (bY.mp D E a h1) (bK.mp D E b ae)
end
theorem fk.mp(R:∀b Q,ai b=ab Q->∀Z,aI b=ab Z->tG Q=ab Z)(U:∀W Y,τ W=ab Y->Ω'.int Y=Ω.int W)(ar:∀I J,H I=ab J->∀j c C,Ω.d5 I j c C->Ω'.d5 J j c C){o D}(E:oq o ai τ H=ab D){j c C}(s:fk aI o j c C):fk tG D j c C:=by
 cases o with
 |ce ah am=>
  let⟨ap,h1,ae⟩:=b1.1 (show aq _ _=ab D from E);cases ae;let⟨O,a,b⟩:=s;exact⟨O,a.mp R U h1,b⟩
 |kO ah av n am=>
  let⟨ap,h1,ae⟩:=b1.1 (show aq _ _=ab D from E);cases ae;let⟨O,a,b⟩:=s;exact⟨O,a.mp R U h1,b⟩
 |cx I=>
  let⟨J,h1,ae⟩:=b1.1 (show aq _ _=ab D from E);cases ae;exact ar _ _ h1 _ _ _ s
 | _=>cases E
def aB.num(Ω:dO):aB->Int
 | .i _ n=>n
 | .dU j=>Ω.int j
 | .h0 j n=>IntKind.i64.wrap (Ω.int j+n)
 | .xs j C=>IntKind.i64.wrap (Ω.int j-Ω.int C)
 | _=>0
def dO.fF(Ω:dO)(C:Nat->aB):dO:=⟨λj=>(C j).num Ω,Ω.d5⟩
def bb.mU(aI:bb Ω)(Ω'):bb Ω':=λj=>aI j
def ZE{U}(Y:∀{I y}{J},U I y=ag->bY aI I J->bY (aI.mU Ω') y J){v j}(aA:nd j=af)(aD:wk j=af)(az:t7 j=af)(ap:pG j=af)(h:zk v j U=ag){J}(C:bY aI v J):bY (aI.mU Ω') j J:=by
 have O:∀{l Q:List aB} {R:List _},iu U l Q=ag->bK aI l R->bK _ Q R:=λ{l}=>by
  induction l with
  |nil=>intro Q R h C;rw[yK h];cases C;exact .nil
  |cons I l aq=>
   intro Q R h C;obtain⟨y,s,rfl,h1,ae⟩:=v9 h;cases C with
   |cons a b=>exact .cons (Y h1 a) (aq ae b)
 cases v with
 |i aE n=>
  let⟨q,h1,ae⟩:=ff (show dB _ _=ag from h);rw[eK,co,iY,oa,decide_eq_true_eq]at ae;rw[mJ h1,<- ae.1,<- ae.2];cases C;constructor
 |b I=>
  let⟨q,h1,ae⟩:=ff (show dB _ _=ag from h);rw[rr,beq_iff_eq]at ae;rw[pE h1,<- ae];cases C;constructor
 |s I=>
  let⟨q,h1,ae⟩:=ff (show dB _ _=ag from h);rw[decide_eq_true_eq]at ae;rw[wj h1,<- ae];cases C;constructor
 |ai b o=>
  let⟨q,h1,ae⟩:=ff (show dB _ _=ag from h);have:=uW ae;subst this;rw[pF h1];cases C with
  |ai q=>exact .ai q
 |hc=>rw[C3 (show uA j=ag from h)];cases C;constructor
 |ey b o n c=>
  let⟨q,h1,ae⟩:=ff (show dB _ _=ag from h);have:=DO ae;subst this;have an:j=.ey b o n c:=by cases j<;>cases h1;rfl
  rw[an];cases C with
  |ey q=>exact .ey q
 |dw b o n l=>
  let⟨q,h1,ae⟩:=ff (show dB _ _=ag from h);have:=DO ae;subst this;have an:j=.dw b o n l:=by cases j<;>cases h1;rfl
  rw[an];cases C with
  |dw q ar=>exact .dw q ar
 |jk=>cases h
 |gk=>rw[C4 (show s7 j=ag from h)];cases C;constructor
 |m b=>
  let⟨q,h1,ae⟩:=ff (show dB _ _=ag from h);rw[wg h1,<- cy ae];cases C with
  |m q=>exact .m q
 |fF=>
  have an:j=.fF:=by
   have am:=h;cases j<;>cases am;rfl
  rw[an];cases C;constructor
 |f g l c=>
  let⟨q,h1,ae⟩:=ff (show dB _ _=ag from h);simp[co,decide_eq_true_eq]at ae;rw[yO h1,<- ae.1];cases C with
  |f D Z ah=>
   refine .f ?_ (O ae.2.1 Z) (O ae.2.2 ah);cases D with
   |yield q=>exact .yield q
   | _=>constructor
 |lb=>rw[Hj (show w6 j=ag from h)];cases C;constructor
 |y av I=>
  let⟨q,h1,ae⟩:=ff (show dB _ _=ag from h);rw[eK,co]at ae;rw[FU h1,<- cy ae.1];cases C with
  |y D=>exact .y (Y ae.2 D)
 |ld=>rw[Hk (show w8 j=ag from h)];cases C;constructor
 |cp l=>
  let⟨q,h1,ae⟩:=ff (show dB _ _=ag from h);rw[t3 h1];cases C with
  |cp D=>exact .cp (O ae D)
 |cB l=>
  let⟨q,h1,ae⟩:=ff (show dB _ _=ag from h);rw[FT h1];cases C with
  |cB D=>exact .cB (O ae D)
 |dU E=>
  let⟨q,h1,ae⟩:=ff (show dB (nd j) (λq=>aH E q)=ag from h);simp_all
 |ei b=>
  let⟨q,h1,ae⟩:=ff (show dB (t6 j) (λq=>aH b q)=ag from h);have an:j=.ei q:=by cases j<;>cases h1;rfl
  rw[an,<- cy ae];cases C with
  |ei q=>exact .ei q
 |fg=>cases h
 |lk=>cases h
 |h0 E n=>
  let⟨q,h1,ae⟩:=ff (show dB (wk j) (λq=>ax (aH E q.1) (fD n q.2) al)=ag from h);simp_all
 |hL b E=>
  have W:cK (dB (t6 j) λq=>aH b q) (λq=>nt (b,E) q) (pG j)=ag:=h;rw[ap]at W;let⟨q,h1,ae⟩:=ff W;have an:j=.ei q:=by cases j<;>cases h1;rfl
  rw[an,<- cy ae];cases C with
  |hL q=>exact .ei q
 |xs i E=>
  let⟨q,h1,ae⟩:=ff (show dB (t7 j) (λq=>nt (i,E) q)=ag from h);simp_all
theorem adX{v}(h:Dz v=ag)(I:v≠ .fg){D}(j:bY aI v D):D=.int .i64 (v.num Ω):=by
 have C:=h;cases v<;>first|(cases C;done)|exact absurd p I|skip
 .rename_i J n
  have E:=C;cases iY.1 E;cases j;rfl
 .cases j;rfl
 .cases j;rfl
 .cases j;rfl
def Hy{D}:∀(d){v j}{Y},zM D d v j=ag->bY aI v Y->bY (aI.mU (Ω.fF D)) j Y
 |0,v,j,Y,h,O=>by cases h
 |d+1,v,j,Y,h,O=>by
  have C:ax _ _ _=ag:=h;cases Z:P9 j with
  |true=>
   rw[Z,ea]at C;have Q:j=.fg:=by cases j<;>cases Z;rfl
   obtain⟨n,rfl⟩:=adW C O;rw[Q];exact .fg
  |false=>
   rw[Z,dP]at C;cases ah:Qa j with
   |true=>
    rw[ah,ea,pf]at C;have Q:j=.lk:=by cases j<;>cases ah;rfl
    rw[Q];refine .lk ?_;cases O<;>first|rfl|trivial|cases C
   |false=>
    rw[ah,dP]at C;cases W:nd j with
    |some E=>
     rw[W]at C;have ae:ax _ _ _=ag:=C;rw[eK,co]at ae;have Q:j=.dU E:=by cases j<;>cases W;rfl
     have aB:v≠ .fg:=λQ=>by
      simp_all[zk,ka]
     rw[adX ae.1 aB O,Q];have:v.num Ω=(Ω.fF D).int E:=by
      show v.num Ω=(D E).num Ω;have an:=ae.2;cases v<;>first|rfl|skip
      .let⟨q,I,J⟩:=ff (show dB (ju _) _=ag from an);rw[eK,co,oa,decide_eq_true_eq]at J;rw[mJ I];exact J.2
      all_goals first
       |(have av:=ae.1;cases av;done)
       |skip
      .let⟨q,I,J⟩:=ff (show dB _ _=ag from an);grind[rp,cy]
      .trivial
      .let⟨q,I,J⟩:=ff (show dB _ _=ag from an);rw[eK,co,oa,decide_eq_true_eq]at J;have ar:D E=.h0 q.1 q.2:=by
        cases R:D E<;>rw[R]at I<;>cases I;rfl
       simp_all
      .let⟨q,I,J⟩:=ff (show dB (t7 (D E)) (λq=>nt (_,_) q)=ag from an);have ar:D E=.xs q.1 q.2:=by
        cases R:D E<;>rw[R]at I<;>cases I;rfl
       grind[uW]
     rw[this];exact .dU
    |none=>
     rw[W]at C;cases am:wk j with
     |some q=>simp_all
     |none=>
      rw[am]at C;cases R:t7 j with
      |some q=>simp_all
      |none=>
       rw[R]at C;cases U:pG j with
       |none=>
        rw[U]at C;exact ZE (λh O=>Hy d h O) W am R U C O
       |some q=>
        rw[U]at C;let⟨ai,I,J⟩:=ff (show dB (pG v) (λai=>ax (aH ai.1 q.1) (ka 9 (.dU ai.2) (D q.2)) al)=ag from C);rw[eK,co]at J;let⟨E,az,aA⟩:=ff (show dB (nd (D q.2)) (λE=>aH ai.2 E)=ag from J.2);have ap:v=.hL ai.1 ai.2:=by cases v<;>cases I;rfl
        have aq:j=.hL q.1 q.2:=by cases j<;>cases U;rfl
        rw[ap]at O;rw[aq,<- cy J.1];cases O with
        |hL aD aE=>
         refine .hL aD ?_;show(D q.2).num Ω= _;rw[rp az,<- cy aA];trivial
def Hx{E}:∀{l j}{C},iu (zM E 9) l j=ag->bK aI l C->bK (aI.mU (Ω.fF E)) j C
 | [],j,C,h,D=>by rw[yK h];cases D;exact .nil
 |x::l,j,C,h,D=>by
  obtain⟨y,s,rfl,h1,ae⟩:=v9 h;cases D with
  |cons a b=>exact .cons (Hy 9 h1 a) (Hx ae b)
def acf{O o j}(h:Dc o O j=ag){I c J}(D:fk aI o I c J):fk (aI.mU (Ω.fF O)) j I c J:=by
 cases o with
 |ce Q R=>
  let⟨q,h1,ae⟩:=ff (show dB (BP j) _=ag from h);rw[eK,co]at ae;have C:j=.ce q.1 q.2:=by cases j<;>cases h1;rfl
  rw[C,<- cy ae.1];let⟨E,a,b⟩:=D;exact⟨E,Hx ae.2 a,b⟩
 |kO Q am n R=>
  let⟨q,h1,ae⟩:=ff (show dB _ _=ag from h);rw[eK,co,eK,co,eK,co]at ae;let⟨U,W,Y,Z⟩:=ae;rw[M2 h1,<- cy U,<- cy W,<- cy Y];let⟨E,a,b⟩:=D;exact⟨E,Hx Z a,b⟩
 |cx ah=>
  let⟨q,h1,ae⟩:=ff (show dB _ _=ag from h);have C:j=.cx q:=by cases j<;>cases h1;rfl
  rw[C,<- cy ae];exact D
 | _=>cases h
def zQ(l:List dn):cE->cE:=dN (λh=>h) (λo _ j h=>j (h.new o)) l
def HB:∀(l)(h),(∀j,h.n<=j->h.get j=af)->(zQ l h).n=h.n+aa l/\∀j,(zQ l h).get j=if j<h.n then h.get j else l[j-h.n]?
 | [],h,C=>⟨rfl,λj=>by
  show h.get j= _;simp_all⟩
 |o::l,h,C=>by
  have D:zQ (o::l) h=zQ l _:=rfl;have E:∀j,(h.new o).get j=if j=h.n then ab o else h.get j:=λj=>by
   simp[cE.get,cE.new,dR.ot]
  have J:(h.new o).n=h.n+1:=rfl;let⟨O,Q⟩:=HB l (h.new o) (λj I=>by grind);grind
theorem qK(l):(fS l).n=aa l:=by
 have:=(HB l ⟨.kJ,0⟩ (λ_ _=>rfl)).1;show(zQ l _).n= _;simp_all
theorem pZ(l j):(fS l).get j=l[j]?:=by
 have:=(HB l ⟨.kJ,0⟩ (λ_ _=>rfl)).2 j;assumption
def TE{E I}:∀{D j:List Nat},D.Nodup->(∀k∈D,k∈j)->C (j.map E) I->C (D.map E) I
 | [],j,_,_,_=>trivial
 |k::D,j,J,O,s=>by
  have ai:=(mY (O k ao)).map E;rw[j3]at J;exact(C.perm ai s).bl λI s=>TE J.2 (λQ U=>(List.mem_erase_of_ne (λR=>J.1 bo)).2 (O Q bo)) s
theorem Of:∀{l},Gn l=al->l.Nodup
 | [],_=> .nil
 |x::l,h=>by
  have j:ax _ _ _=al:=h;cases C:p1 x l with
  |true=>rw[C]at j;trivial
  |false=>
   rw[C,dP]at j;exact j3.2 ⟨λq=>(by grind[xi]),Of j⟩
def PZ:∀(l)(D)(E){j C},(uw l D E).get j=ab C->(∃n,l[n]?=ab j/\C=D+n)\/E.get j=ab C
 | [],D,E,j,C,h=> .inr h
 |x::l,D,E,j,C,h=>by
  rcases PZ l _ _ h with ⟨n,h1,ae⟩|h1
  .exact .inl ⟨n+1,by assumption,ad⟩
  .rw[dR.ot]at h1
   by_cases I:j=x
   .simp_all
   simp_all
def kept{θ}{U ρ3:bb Ω}{h C0 Q}(q:∀b ah,ai b=ab ah->∀O,U b=ab O->ρ3 ah=ab O):∀{I}{J R}{j},hW (λE=>aq (cm (eY E h.n) (h.get E)) λo=>oq o ai ab ab) I=ab J->iu (λO y=>Dc O θ y) J R=ag->(∀D E,I[D]?=ab E->ρ3 (j+D)=U E)->(∀D,D<aa R->C0[j+D]?=R[D]?)->
  C (I.map (dg U h)) Q->C ((List.range' j (aa R)).map (dg (ρ3.mU (Ω.fF θ)) (fS C0))) Q:=λ{I}=>by
 induction I generalizing Q with
 |nil=>
  intro J R j W Y _ _ s;cases W;rw[yK Y];exact trivial
 |cons E I aG=>
  intro J R j W Y h1 ae s;let⟨aV,ax,aW,az,aA⟩:=en (show aq _ _=ab J from W);cases aA;let⟨o,Z,aB⟩:=b1.1 ax;let⟨_,Z⟩:=de.1 Z;obtain⟨c,aP,rfl,aD,aE⟩:=v9 Y;let⟨aJ,aK,ar,aL,aM,a,l⟩:=s;refine⟨aJ,aK,ar,aL,aM,?_,aG az aE (λD E aR=>?_) (λD aQ=>?_) l⟩
  .have am:=h1 0 E p;have ap:=ae 0 ao;rw[Nat.add_zero]at am ap;unfold dg at a ⊢;rw[pZ,ap,show ρ3.mU _ j=ρ3 j from rfl,am];rw[Z]at a;cases aF:U E with
   |none=>simp_all
   |some O=>
    rw[aF]at a;exact acf aD (fk.mp q (λj aT av=>by simp_all) (λD aS av aO c Q aX=>by simp_all) aB a)
  .have:=h1 (D+1) E fs;grind
  .have:=ae (D+1) bo;grind
def Ec{aE:dc}{aL:mA}(a7:yp P aE)(ap:P.follows .mixedOrders=ag)(bc:mB Ω P aL){n:Nat}{am:dc}{av:List aB}{az:Nat->aB}{D:List Nat}{aV:aB}{R Y:List dn}
  (Q:f7 (nj P aE aL n (λ_ _ _=>af) am av (fS R)) az D aV Y=ag) {aI:bb Ω} (a8:∀j,aa R<=j->aI j=af) {aO:bz} (be:bK aI av aO):
  O P am aO.toArray (cz aI (fS R)) λJ aP=>∃aA:bb (Ω.fF az),(∀ah j,D[ah]?=ab j->∀E,aI j=ab E->aA ah=ab E)/\(∀j,aa Y<=j->aA j=af)/\bY aA aV J/\aS aP (cz aA (fS Y)):=by
 let⟨⟨v,h⟩,h1,ae⟩:=ff (show dB (nj P aE aL n _ am av _) (λq=>ax _ _ (dB _ λv=>ax _ (dB (hW _ _) _) _))=ag from Q);cases aK:Gn _ with
 |true=>rw[aK]at ae;cases ae
 |false=>
  rw[aK,dP]at ae;let⟨bA,an,aJ⟩:=ff ae;rw[eK,co]at aJ;let⟨I,aY,aZ⟩:=ff aJ.2;let⟨bl,a4⟩:=F5 bc a7 (λaW _=>Ch ap _ _) (λaW a0=>Tq _ a0 λJ=>Ch ap _ J) n (UV (P:=P) (j:=aI)) am av (fS R) v h h1;have j:=a4 aI aO be ⟨λj U=>a8 j (by rw[qK]at U;omega),bb.le.refl _⟩;refine j.mono λJ aP ⟨Z,aF,aM,bx,bg⟩=>?_;subst bg;have aQ:∀b aD,(uw D 0 .kJ).get b=ab aD->∀E,Z b=ab E->(λW=>(D[W]?).bind Z:bb Ω) aD=ab E:=λb aD a3 E aR=>by
   rcases PZ D 0 .kJ a3 with ⟨n,bB,bE⟩|z
   .grind
   trivial
  have bq:aa D=aa Y:=by
   have bt:∀{D:List Nat} {I:List dn} {F:Nat->Option dn},hW F D=ab I->aa I=aa D:=λ{D}=>by
    induction D with
    |nil=>intro I F Q;cases Q;rfl
    |cons E l aT=>
     intro I F Q;let⟨y,aG,aX⟩:=b1.1 (show aq (F E) (λy=>aq (hW F l) λJ=>ab (y::J))=ab I from Q);grind[b1]
   have bv:∀{I R:List dn},iu (λE y=>Dc E az y) I R=ag->aa I=aa R:=λ{I}=>by
    induction I with
    |nil=>intro R h;rw[yK h]
    |cons E l aT=>intro R h;obtain⟨y,s,rfl,aG,aX⟩:=v9 h;grind
   grind
  refine⟨bb.mU (Ω:=Ω) (λW=>(D[W]?).bind Z) _,λah j a9 E aR=>?_,λj U=>?_,?_,λap s=>?_⟩
  .show(D[ah]?).bind Z=ab E;rw[a9];exact aF _ _ aR
  .show(D[j]?).bind Z=af;grind
  .exact Hy 9 aJ.1 (aM.mp (Ω':=Ω) aQ (λah br Q=>by simp_all) an)
  .have bh:=s;have bi:=TE (Of aK) (j:=gZ h.n) (λj U=>by
    have bw:∀{ar:List Nat} {I:List dn},hW (λj=>aq (cm (eY j h.n) (h.get j)) λo=>oq o (uw D 0 .kJ).get ab ab) ar=ab I->∀j∈ar,j<h.n:=λ{ar}=>by
     induction ar with
     |nil=>simp
     |cons E l aT=>
      intro I Q j U;let⟨y,aG,J,bm,bn⟩:=en (show aq (aq (cm (eY E h.n) (h.get E)) λo=>oq o (uw D 0 .kJ).get ab ab) (λy=>aq (hW (λj=>aq (cm (eY j h.n) (h.get j)) λo=>oq o (uw D 0 .kJ).get ab ab) l) λJ=>ab (y::J))=ab I from Q);let⟨o,bo,bp⟩:=b1.1 aG;rcases df.1 U with rfl|U
      .simp_all[de]
      simp_all
    grind) bh
   have bj:=kept (θ:=az) (ρ3:=λW=>(D[W]?).bind Z) (C0:=Y) (j:=0) aQ aY aZ (λW j U=>by
    grind) (λW _=>by simp) bi
   show C ((gZ (fS Y).n).map _) ap;rw[qK,List.range_eq_range'];exact bj
section
variable{R vG:List dn}{s:Nat}
mutual
def bY.oZ(h:∀C,Ω'.int C=Ω.int C){v D}(I:bY aI v D):bY (Ω:=Ω') (λj=>aI j) v D:=by
 cases I with
 |ai q=>exact .ai q
 |ey q=>exact .ey q
 |dw q J=>exact .dw q J
 |m q=>exact .m q
 |f a b E=>
  refine .f ?_ (bK.oZ h b) (bK.oZ h E);cases a with
  |yield q=>exact .yield q
  | _=>constructor
 |y q=>exact .y (bY.oZ h q)
 |cp q=>exact .cp (bK.oZ h q)
 |cB q=>exact .cB (bK.oZ h q)
 |dU=>rw[<- h];exact .dU
 |ei q=>exact .ei q
 |lk q=>exact .lk q
 |h0=>rw[<- h];exact .h0
 |hL q j=>exact .hL q ((h _).trans j)
 |xs=>rw[<- h,<- h];exact .xs
 | _=>constructor
def bK.oZ(h:∀j,Ω'.int j=Ω.int j){l:List aB}{C:bz}(D:bK aI l C):bK (Ω:=Ω') (λE=>aI E) l C:=by
 cases D with
 |nil=>exact .nil
 |cons a b=>exact .cons (bY.oZ h a) (bK.oZ h b)
end
def gw(Ω:dO)(R:List dn)(s:Nat):aG:=λD=>∃aI:bb Ω,(∀j,aa R<=j->aI j=af)/\(∃c,aI 0=ab (s,c))/\C (cz aI (fS R)) D
def WW{Q:dc}{ah:mA}(ax:yp P Q)(az:P.follows .mixedOrders=ag)(aA:mB Ω P ah){n:Nat}{W:dc}{aq:List aB}{I:Nat->aB}{aJ:List Nat}{am:aB}
  (U:f7 (nj P Q ah n (λ_ _ _=>af) W (.ai 0 0::aq) (fS R)) I (0::aJ) am vG=ag) {ap:bz} (aE:∀aI:bb Ω,bK aI aq ap) {aK:a2->Prop} (aD:∀(aI:bb (Ω.fF I)) j,bY aI am j->aK j):
  O P W (.pointer (ab ⟨s,0,af⟩)::ap).toArray [gw Ω R s] λj J=>aK j/\J=[gw (Ω.fF I) vG s]:=λg F ar Z=>by
 let⟨h1,ae,C,D,E,a,an,aX,aV,aS,aY,⟨aI,aF,⟨c,aM⟩,aR⟩,_⟩:=Z.s;have aG:bj g (F::cz aI _) ar:=⟨Z.g,h1,ae,C,D,E,a,aR.up aS⟩;refine((Ec ax az aA U aF (.cons (.ai aM) (aE aI))) g F ar aG).mono λaW aZ ⟨j,J,av,⟨aT,aL,aO,aP,aQ⟩,Y⟩=>?_;refine⟨j,_,av,⟨aD _ _ aP,rfl⟩,Y.g,?_⟩;let⟨h1,ae,C,D,E,a,l⟩:=Y.s;exact⟨h1,ae,C,D,E,a,ae,λ_=>af,λ_=> .inr p,eV.refl _,λ_ _ U=>bv,⟨aT,aO,⟨c,aL 0 0 p _ aM⟩,aQ _ l⟩,trivial⟩
def H2{α O D}:∀{l:List α}{j:List O},hW D l=ab j->aa j=aa l/\∀(E:Nat) x,l[E]?=ab x->∃y,j[E]?=ab y/\D x=ab y
 | [],j,C=>by cases C;simp
 |x::l,j,C=>by
  let⟨y,Q,s,I,J⟩:=en (show aq _ _=ab j from C);cases J;let⟨h1,ae⟩:=H2 I;grind
def qr{τ H}(U:ny τ H R=ab vG)(ax:∀O Q,τ O=ab Q->Ω'.int Q=Ω.int O)(av:∀I J,H I=ab J->∀E c j,Ω.d5 I E c j->Ω'.d5 J E c j):∀j,gw Ω R s j->gw Ω' vG s j:=λj ⟨aI,aF,aM,aq⟩=>by
 let⟨am,ap⟩:=H2 (show hW _ R=ab vG from U);refine⟨aI,λD Y=>aF D ad,aM,?_⟩;have W:(fS vG).n=(fS R).n:=by rw[qK,qK,am]
 show C ((gZ _).map _) j;rw[W];apply Az _ (λD Y h a=>?_) j aq;have Z:D<aa R:=by simp_all[qK]
 let⟨az,ar,aB⟩:=ap D R[D] ao;unfold dg at a ⊢;rw[pZ,ar];rw[pZ,List.getElem?_eq_getElem Z]at a;cases ah:aI D with
 |none=>simp_all
 |some aA=>
  rw[ah]at a;grind[fk.mp]
def MA{ι:Type}{D I:Nat}{G:ι->Nat->Nat->aG}(aB:R[I]?=ab (.cx D))(h1:∀j,j≠I->R[j]?≠ab (.cx D))(ax:∀Z c E,Ω.d5 D Z c E->∃J,G J Z c E):∀E,gw Ω R s E->∃J,gw ⟨Ω.int,λj=>if j=D then G J else Ω.d5 j⟩ R s E:=λE ⟨aI,aF,aM,aJ⟩=>by
 have aP:=(List.getElem?_eq_some_iff.1 aB).1;have az:I∈gZ (fS R).n:=kU.2 (by rw[qK];omega);have ai:∀{Ω:dO} (aI:bb Ω),(cz aI _).Perm _:=λaI=>(mY az).map _;let⟨am,ap,av,aK,aL,a,l⟩:=C.perm (ai aI) aJ;have ah:(fS R).get I=ab (.cx D):=by rw[pZ];omega
 unfold dg at a;rw[ah]at a;cases O:aI I with
 |none=>simp_all
 |some J=>
  rw[O]at a;let⟨y,aQ⟩:=ax _ _ _ a;refine⟨y,aI,aF,aM,C.perm (ai (Ω:=⟨Ω.int,λj=>if j=D then G y else Ω.d5 j⟩) aI).symm ⟨am,ap,av,aK,aL,?_,?_⟩⟩
  .unfold dg;rw[ah,O];show(if D=D then G y else Ω.d5 D) _ _ am;simp_all
  .apply Az _ (λj aA h b=>?_) ap l;have aD:=((List.nodup_range).mem_erase_iff.1 aA).1;unfold dg at b ⊢;cases aE:(fS R).get j with
   |none=>simp
   |some o=>
    rw[aE]at b;cases O:aI j with
    |none=>simp_all
    |some J=>
     rw[O]at b;cases o with
     |cx Q=>
      have:Q≠D:=λaO=>h1 j aD (by simp_all[pZ]);show(if Q=D then G y else Ω.d5 Q) _ _ h;rw[a8 this];exact b
     |ce aq ar=>obtain⟨U,W,Y⟩:=b;exact⟨U,bK.oZ (Ω:=Ω) (Ω':=⟨Ω.int,λj=>if j=D then G y else Ω.d5 j⟩) (λ_=>rfl) W,Y⟩
     |kO aq aR n ar=>obtain⟨U,W,Y⟩:=b;exact⟨U,bK.oZ (Ω:=Ω) (Ω':=⟨Ω.int,λj=>if j=D then G y else Ω.d5 j⟩) (λ_=>rfl) W,Y⟩
     | _=>exact b
def ZB{E j o C}(h:ka (E+1) C (.ai j o)=ag):C=.ai j o:=by
 have D:=h;cases C<;>first|cases D|skip
 let⟨q,h1,ae⟩:=ff (show dB (k1 (.ai j o)) (λq=>nt _ q)=ag from D);cases h1;grind[uW]
def aen{W j az Z args aB Q}[aD:cu P W](aR:∀aI:bb Ω,bK aI args Q){aK:a2->Prop}(aQ:∀(aI:bb Ω) I,aK I->bY aI aB I)
  (h:∀J c,O P W (.pointer (ab ⟨J,0,af⟩)::Q).toArray [Ω.d5 az J c] λI U=>aK I/\U=[Ω.d5 Z J c]):
  ∀am h v Y,gB j az Z args aB am h=ab (v,Y)->cu P W/\∀(av aI:bb Ω) (E) Q,bK aI am Q->jO av aI h->O P W Q.toArray (E++cz aI h) λI U=>∃ap,aI.le ap/\bY ap v I/\jO av ap Y/\U=E++cz ap Y:=λam D v Y ar=>by
 let⟨ax,aE⟩:=de.1 (show cm _ _=ab _ from ar);let⟨o,a4,aA,aG,aJ⟩:=en aE;let⟨aL,aO⟩:=de.1 aJ;cases aO;have:=cy aL;subst this;have aV:o=.cx aA:=by cases o<;>cases aG;rfl
 subst aV;refine⟨aD,λav aI E a8 aW aq=>?_⟩;cases am with
 |nil=>cases ax
 |cons a9 bc=>
  let⟨y,be,aZ,a0,fZ⟩:=v9 ax;cases aZ;have:=ZB a0;subst this;cases aW with
  |cons a b=>
   cases a with
   | @ai _ _ J c aP=>
    have:=qu (λar a b=>sY 9 ar a b) fZ b (aR aI);subst this;have aS:j<D.n:=by
     rcases dZ j _ with q|q
     .omega
     .rw[aq.eU j q]at aP;trivial
    have aY:∀ah,(cz aI (D.put j ah)).Perm (fk aI ah J c::fI aI D j):=λah=>by
     have ai:(cz aI (D.put j ah)).Perm (dg aI _ j::fI aI _ j):=(mY (kU.2 aS)).map _;simp_all[Eb,dg,fk,CQ]
    have aX:(cz aI D).Perm (fk aI (.cx aA) J c::fI aI D j):=by
     grind[cz,dg,fI,mY,gZ,fk]
    apply O.cr (O.frame (E++fI aI D j) (h J c) (M:=E++cz aI D) λaT s=>?_) λI U aT ⟨a3,⟨aF,aM⟩,a7⟩ s=>⟨E++cz aI (D.put j (.cx Z)),⟨aI,bb.le.refl _,aQ aI I aF,⟨aq.eU,aq.nq⟩,rfl⟩,?_⟩
    .apply C.perm _ s;apply(aX.append_left E).trans;grind[ep,fk]
    .apply C.perm _ s;apply List.Perm.trans _ ((aY (.cx Z)).append_left E).symm;grind[ep,fk]
end
end aV
def y1:aV.yp ar 210:=⟨inferInstance,λH D E C I j h=>by
 have:=B5 (by simpa using h);exact this⟩
def xk:ar.follows .mixedOrders=ag:=cq
def acT:aV.okB (aV.nj ar 210 (λ_=>af) 100 (λ_ _ _=>af) 16 [] ⟨.kJ,0⟩) (.b ag)=ag:=by decide+kernel
def acS(C):Y 16 #[] C λv D=>v=.bool ag/\∃E,D=C++E:=
 aV.YH y1 (λj _=>aV.Ch xk j af) (λj H=>aV.Tq j H λI=>aV.Ch xk j I) acT C
end
end Go.Proofs.YteinodmjohkmmaaGreat
