/- TopBudget: a part of its proof. -/
import Derived.Laws.BytesString
import Derived.Test.YtioamnghkmcbbaaGreatMV0
set_option linter.all false
set_option maxRecDepth 100000
set_option maxHeartbeats 4000000
open Array renaming getElem?_eq_some_iff->tb,replicate->nV
open Bool renaming and_eq_true->bL,or_eq_true->mW
open Classical renaming choose->ru,choose_spec->vn
open Function renaming comp_def->BA
open Go.Act renaming put->GX
open Go.Code renaming wpIn_mono->lw
open Go.Deferred renaming ofValue->lx
open Go.Op renaming operands->Hg
open Go.Oper renaming looksAt->BJ,wp->dv
open Go.Region renaming binds->nW,ready->hX,wanted->hn
open Go.Result renaming andThen_ok->db
open Go.Sem renaming run_bind->cg,run_pure->eJ
open List renaming all_cons->ti,all_eq_true->lz,eq_nil_of_length_eq_zero->e3,length_map->gL,map_cons->eS,map_toArray->fY,mem_cons->cQ,mem_of_getElem?->kZ,mem_range->lD,nodup_cons->ix,perm_append_comm->fZ,perm_cons_erase->lF,perm_middle->e4,range->hZ,rec->ch
open Nat renaming beq->aA,ble->cN,blt->dT,eq_of_beq_eq_true->bV,eq_zero_or_pos->g9,le_of_ble_eq_true->eT,le_refl->bv,lor->gQ,lt_or_ge->eC,one_shiftLeft->Ia,pred->jF
open Option renaming rec->bF
open Go.RowKit
namespace Go.Proofs.YtioamnghkmcbbaaGreat
noncomputable section
section
namespace aX
variable{Ω:bX}
section
variable{P:Program}{t:dH}{h a6:bQ}{v:al}{d:Option Nat}{aQ T cE S:TypeId}{a3:String}{a2:Array Edge}{a0:Option (Nat×Bool)}{x y z:Operand}{o:Oper}
theorem Wk{j}(D:EN P T=some j):lK P T j:=by
 obtain⟨C,E,G⟩:=ao.1 D;have I:=lv E;cases C<;>cases G;exact⟨I⟩
def cq.VI{am}(W:yY [x] am P t h=some (v,a6)):cq Ω P t h ⟨d,.call ⟨.builtin .len,#[x],am.toArray⟩,aQ,a3,a2,a0⟩ v a6:=by
 have ar:=W;obtain⟨ap,aa,ab⟩:=ao.1 ar;have:=Fc aa;subst this;cases ae:kp P ap with
 |some aW=>exact cq.iJ (N3 aa ae W)
 |none=>
  obtain⟨aL,av,Y⟩:=ao.1 ab;rw[ae]at Y;obtain⟨aS,aw,ax⟩:=ao.1 (show U _ _=some _ from Y);obtain⟨b,ay,aC⟩:=ao.1 ax;obtain⟨aG,aE,D⟩:=ao.1 aC;have R:=Wk aw;refine λg F I j G s O aI aK Z=> ?_;obtain⟨aX,ag,ak⟩:=c8 s av;rw[tV ay]at ak;cases ak with
  | @m _ Q aO au=>
   have E:=O.open au aE
   cases K:tW aG with
   |some C=>
    rw[K]at D;cases D;rw[yU K]at E;have J:=zH (d:=d) (aQ:=aQ) (a3:=a3) (a2:=a2) (a0:=a0) (D:=R) (L:=co Q (C.map fH)::F::eB I h b) ag cY.here;unfold dv;rw[J j G (d0 j) E.s];exact Z _ G I (aV.le.refl _) (by rw[gL];exact .i) O
   |none=>
    rw[K]at D;obtain⟨C,aH,aP⟩:=ao.1 (show U _ _=some _ from D);cases aP;rw[yT aH]at E;have J:=zH (d:=d) (aQ:=aQ) (a3:=a3) (a2:=a2) (a0:=a0) (J:=hP j) (D:=R) (M:=C.map dO) (L:=co Q (C.map dO)::F::eB I h b) ag cY.here;unfold dv;rw[J j G (d0 j) E.s];exact Z _ G I (aV.le.refl _) (by rw[gL];exact .i) O
theorem Lo{D l}{C:Option D}(j:DR l=some C):C.toList=l:=by
 cases l with
 |nil=>cases j;rfl
 |cons x l=>cases l with
  |nil=>cases j;rfl
  |cons _ _=>cases j
theorem cq.range(aO:Nf T x P t h=some (v,a6)):cq Ω P t h ⟨d,.range T x,aQ,a3,a2,a0⟩ v a6:=λg F a5 E aI s D aw ax aC=>by
 obtain⟨m,aa,ab⟩:=ao.1 aO;obtain⟨b,aW,aX⟩:=ao.1 ab;obtain⟨a7,aY,aZ⟩:=ao.1 aX;obtain⟨a9,aV,K⟩:=ao.1 aZ;obtain⟨a8,aK,a1⟩:=EL aY;obtain⟨ba,aE,aG⟩:=c8 s aa;rw[tV aW]at aG;cases aG with
 | @m _ Q ay G=>
  have O:=D.open G aV
  rcases a1 with ⟨W,_⟩|⟨W,_⟩
  ·rw[W,df]at K;obtain⟨j,aH,aP⟩:=ao.1 K;obtain⟨C,ar,au⟩:=ao.1 aP;cases au;rw[yT aH]at O;refine zt aE aN.here E aI (d0 E) O aw ax λa4 av aL ⟨J,R,U⟩ Z=> ?_;subst R U;have ae:=ST.drop D.dp G Z;obtain⟨ak,am,ap⟩:=ST.new (h:=h.put b .no) (o:=.q9 b j C none) (B:=J) (c:=0) (F:=F) D.dp (ae.mono λY s=>fg (λY q=>⟨Q,ay,sd (J,0) (D.dp _ (bv _)) _ _ G,by
    have aS:(C.map dO).toList=j.map dO:=by rw[<- Lo ar];cases C<;>rfl
    simp_all⟩) s)
   exact aC _ av _ ak (.ag am) ap
  ·rw[W,cZ]at K;obtain⟨j,aH,aP⟩:=ao.1 K;obtain⟨C,ar,au⟩:=ao.1 aP;cases au;rw[yU aH]at O;refine zt (bC:=Int) (d9:=I) (P:=P) (g:=g) (T:=T) (E:=aK) (M:=j.map fH) (L:=co Q (j.map fH)::F::eB a5 h b) (J:=hP E) aE aN.here E aI (d0 E) O aw ax λa4 av aL ⟨J,R,U⟩ Z=> ?_;subst R U;have ae:=ST.drop D.dp G Z;obtain⟨ak,am,ap⟩:=ST.new (h:=h.put b .no) (o:=.rb b j C none) (B:=J) (c:=0) (F:=F) D.dp (ae.mono λY s=>fg (λY q=>⟨Q,ay,sd (J,0) (D.dp _ (bv _)) _ _ G,by
    have aS:(C.map fH).toList=j.map fH:=by rw[<- Lo ar];cases C<;>rfl
    simp_all⟩) s)
   exact aC _ av _ ak (.ag am) ap
theorem Ja{j q}(C:v5 j=some q):j=.rb q.1 q.2.1 q.2.2.1 q.2.2.2:=by cases j<;>cases C;rfl
theorem I9{j q}(C:v3 j=some q):j=.q9 q.1 q.2.1 q.2.2.1 q.2.2.2:=by cases j<;>cases C;rfl
theorem cq.next{a1}(aK:Nb x a1 P t h=some (v,a6)):cq Ω P t h ⟨d,.next x a1,aQ,a3,a2,a0⟩ v a6:=λg F G E ay s ak aC aE aG=>by
 obtain⟨aX,aK⟩:=cu.1 (show bK _ _=some _ from aK);rw[l0,Bool.not_eq_true']at aX;subst aX;obtain⟨bf,aa,ab⟩:=ao.1 aK;obtain⟨q,a7,aL⟩:=ao.1 ab;obtain⟨a8,aL⟩:=cu.1 aL;obtain⟨aZ,a9,av⟩:=ao.1 aL;obtain⟨bg,aH,aP⟩:=c8 s aa;rw[ng a7]at aP;have bb:=bV a8;rw[bb]at aP;cases aP with
 | @ag _ _ ap be ar=>
  have D:=ak.open ar a9
  cases hi:v5 aZ with
  |some bc=>
   rw[hi]at av;rw[Ja hi]at D;obtain⟨b,j,ax,J⟩:=bc;obtain⟨C,D⟩:=kh D;obtain⟨K,D⟩:=kh D;have au:G b=some (C,K):=by obtain⟨_,_,_,_,_,⟨bd,_⟩,_⟩:=D.s;omega
   have aw:a4 g _ ay:=D.mono λ_ z=>fg (λ_ z=>z.2) z;cases ax with
   |none=>
    have Z:some (al.b1 [.b false],(h.put q.1 .no).put b (.oD j))=some (v,a6):=av;cases Z;refine zs (bC:=Int) (d9:=I) (P:=P) (g:=g) (M:=j.map fH) (q:=J.map fH) (L:=gJ ap C (j.map fH) [] (J.map fH)::F::eB G h q.1) (J:=hP E) aH aN.here E ay (d0 E) aw aC aE λaS am aI ⟨R,Y⟩ ae=> ?_;subst R Y;have aO:=ae.mono λ_ z=>FL z;exact aG _ am G (aV.le.refl _) (.b1 (.cons .b .nil)) (ST.q5 (J:=.oD j) ak.dp au (ST.drop ak.dp ar aO))
   |some O=>
    have Z:=av;cases Z;refine zr (bC:=Int) (d9:=I) (P:=P) (g:=g) (M:=j.map fH) (ay:=[]) (E:=fH O) (q:=J.map fH) (L:=gJ ap C (j.map fH) [fH O] (J.map fH)::F::eB G h q.1) (J:=hP E) aH aN.here E ay (d0 E) aw aC aE λaS am aI ⟨Q,aW,W,a5,R,Y⟩ ae=> ?_;subst R Y;have:Q=[]/\aW=fH O/\W=[]:=by
     cases Q with
     |nil=>simp_all
     |cons _ Q=>simp_all
    obtain⟨rfl,rfl,rfl⟩:=this;exact aG _ am G (aV.le.refl _) (.b1 (.cons .b (.cons (Lt _) (.cons (sm _) .nil)))) (ST.close (o':=.rb b j none (some O)) ak.dp ar (ae.mono λ_ z=>fg (λ_ z=>⟨C,K,au,z⟩) z))
  |none=>
   rw[hi]at av;obtain⟨bc,ba,aY⟩:=ao.1 (show U (v3 aZ) _=some (v,a6)from av);rw[I9 ba]at D;obtain⟨b,j,ax,J⟩:=bc;obtain⟨C,D⟩:=kh (C:=λC h=>∃K,G b=some (C,K)/\gJ ap C (j.map dO) (ax.map dO).toList (J.map dO) h) D;obtain⟨K,D⟩:=kh (C:=λK h=>G b=some (C,K)/\gJ ap C (j.map dO) (ax.map dO).toList (J.map dO) h) D;have au:G b=some (C,K):=by obtain⟨_,_,_,_,_,⟨bd,_⟩,_⟩:=D.s;omega
   have aw:=D.mono λ_ z=>fg (λ_ z=>z.2) z;cases ax with
   |none=>
    have Z:=aY;cases Z;refine zs (bC:=I) (d9:=Bool) (P:=P) (g:=g) (M:=j.map dO) (q:=J.map dO) (L:=gJ ap C (j.map dO) [] (J.map dO)::F::eB G h q.1) (J:=hP E) aH aN.here E ay (d0 E) aw aC aE λaS am aI ⟨R,Y⟩ ae=> ?_;subst R Y;have aO:=ae.mono λ_ z=>FL z;exact aG _ am G (aV.le.refl _) (.b1 (.cons .b .nil)) (ST.q5 (J:=.pS j) ak.dp au (ST.drop ak.dp ar aO))
   |some O=>
    have Z:=aY;cases Z;refine zr (bC:=I) (d9:=Bool) (P:=P) (g:=g) (M:=j.map dO) (ay:=[]) (E:=dO O) (q:=J.map dO) (L:=gJ ap C (j.map dO) [dO O] (J.map dO)::F::eB G h q.1) (J:=hP E) aH aN.here E ay (d0 E) aw aC aE λaS am aI ⟨Q,aW,W,a5,R,Y⟩ ae=> ?_;subst R Y;have:Q=[]/\aW=dO O/\W=[]:=by
     cases Q with
     |nil=>simp_all
     |cons _ Q=>simp_all
    obtain⟨rfl,rfl,rfl⟩:=this;exact aG _ am G (aV.le.refl _) (.b1 (.cons .b (.cons (sm _) (.cons .b .nil)))) (ST.close (o':=.q9 b j none (some O)) ak.dp ar (ae.mono λ_ z=>fg (λ_ z=>⟨C,K,au,z⟩) z))
def cq.entry(R:MZ x P t h=some (v,a6)):cq Ω P t h ⟨d,.entry x,aQ,a3,a2,a0⟩ v a6:=λg F E G Y s aw aP aS ax=>by
 obtain⟨aX,aa,ab⟩:=ao.1 R;obtain⟨q,aH,Z⟩:=ao.1 ab;obtain⟨aI,Z⟩:=cu.1 Z;obtain⟨aC,aK,W⟩:=ao.1 Z;obtain⟨aY,ay,au⟩:=c8 s aa;rw[ng aH]at au;have aO:=bV aI;rw[aO]at au;cases au with
 | @ag _ _ Q aW aE=>
  have j:=aw.open aE aK
  cases ap:v5 aC with
  |some bc=>
   rw[ap]at W;rw[Ja ap]at j;obtain⟨b,K,O,av⟩:=bc;obtain⟨D,ae,ak⟩:=ao.1 (show U av _=some _ from W);subst ae;cases ak;obtain⟨C,j⟩:=kh j;obtain⟨J,j⟩:=kh j;have ar:=j.mono λ_ z=>fg (λ_ z=>z.2) z;have am:=zC (P:=P) (d:=d) (aQ:=aQ) (a3:=a3) (a2:=a2) (a0:=a0) (L:=gJ Q C (K.map fH) (O.map fH).toList (some (fH D))::F::eB E h q.1) ay o9.here;unfold dv;rw[am G Y (d0 G) ar.s];exact ax _ Y E (aV.le.refl _) (.b1 (.cons (Lt _) (.cons (sm _) .nil))) aw
  |none=>
   rw[ap]at W;obtain⟨bc,ae,ak⟩:=ao.1 (show U (v3 aC) _=some (v,a6)from W);rw[I9 ae]at j;obtain⟨b,K,O,av⟩:=bc;obtain⟨D,aL,aG⟩:=ao.1 (show U av (λR=>some (al.b1 [ol R.1,.b R.2],h))=some (v,a6)from ak);subst aL;cases aG;obtain⟨C,j⟩:=kh (C:=λC h=>∃J,E b=some (C,J)/\gJ Q C (K.map dO) (O.map dO).toList (some (dO D)) h) j;obtain⟨J,j⟩:=kh (C:=λJ h=>E b=some (C,J)/\gJ Q C (K.map dO) (O.map dO).toList (some (dO D)) h) j;have ar:=j.mono λ_ z=>fg (λ_ z=>z.2) z;have am:=zC (bC:=I) (d9:=Bool) (P:=P) (C:=dO D) (d:=d) (aQ:=aQ) (a3:=a3) (a2:=a2) (a0:=a0) (J:=hP G) (L:=gJ Q C (K.map dO) (O.map dO).toList (some (dO D))::F::eB E h q.1) ay o9.here;unfold dv;rw[am G Y (d0 G) ar.s];exact ax _ Y E (aV.le.refl _) (.b1 (.cons (sm _) (.cons .b .nil))) aw
end
end aX
end
section
namespace aX
variable{Ω:bX}
section
variable{P:Program}{t:dH}{h a6:bQ}{v:al}{d:Option Nat}{aQ T cE S:TypeId}{a3:String}{a2:Array Edge}{a0:Option (Nat×Bool)}{x y z:Operand}{o:Oper}
def s0(j:List UInt8):List Value:=j.map λb=> .int .u8 b.toNat
theorem JA{ae:aV Ω}:∀{l}{j}{C},Jz l=some j->bh ae l C->C=s0 j
 | [],j,C,D,h=>by cases D;cases h;rfl
 |c::l,j,C,D,h=>by
  obtain⟨b,aa,ab⟩:=ao.1 (show U _ _=some j from D);obtain⟨s,K,O⟩:=ao.1 ab;cases O;obtain⟨q,Q,R⟩:=ao.1 aa;obtain⟨n,E,W⟩:=ao.1 R;obtain⟨Y,J⟩:=cu.1 W;cases J;rw[dN,bL,hg,nj,decide_eq_true_iff]at Y;rw[kE Q]at h;cases h with
  |cons I b=>
   cases I;rw[JA K b];have:q.2=(n:Int):=by
    cases G:q.2 with
    |ofNat Z=>rw[G]at E;cases E;rfl
    |negSucc Z=>rw[G]at E;trivial
   grind[s0,UInt8.toNat_ofNat_of_lt']
def Z2{D o n q j C}(J:n=j.length)(K:0<n->mP D o (s0 j) C.hm):(Conv.bytesToString (.slice (some ⟨D,o,none⟩) n q)).run P C=.ok (.string ⟨⟨j⟩⟩) C:=by
 have G:∀(l:List _) (s:ByteArray),(l.map λb=>(b.toNat:Int)).foldl (λj n=>j.push (UInt8.ofNat n.toNat)) s=⟨⟨s.data.toList++l⟩⟩:=by
  intro l
  induction l with
  |nil=>simp
  |cons b l am=>simp_all
 have Y:(j.map λb=>(b.toNat:Int)).map (Value.int .u8)=s0 j:=by simp[s0,BA]
 have ag:(loadCells ⟨D,o,none⟩ n).run P C=.ok (s0 j).toArray C:=by
  subst J;rcases g9 j.length with E|E
  ·have:=e3 E;subst this;rfl
  ·exact EE (L:=[mP D o _]) ⟨by grind,λO v I=>⟨λak R=>by
    obtain⟨Z,ae,U,Q,ap,aH,ao⟩:=R;exact hw.sub (aH O v I) Q⟩⟩ ⟨C.hm,λ_=>none,λ_=> .inr p,d7.refl _,λ_ _ W=>(by grind),K E,trivial⟩
 rw[run_bytesToString C _ n q (j.map λb=>(b.toNat:Int)) (by simp_all),G];rfl
def Zj(j:xN P T=true):P.underlying T=some .string:=by
 unfold xN at j;cases C:kt P T with
 |none=>simp_all
 |some D=>rw[C]at j;have:=lv C;cases D<;>first|exact this|cases j
def Yq{I l}:∀{j},sR h I j=some l->∃D,pN j=some D:=by
 intro j C;cases G:pN j with
 |some D=>simp
 |none=>
  have E:t5 j=none:=by cases j<;>first|rfl|trivial
  unfold sR at C;rw[E,G]at C;cases C
def cq.conv(R:E1 S T x P t h=some (v,a6)):cq Ω P t h ⟨d,.convert S T x,aQ,a3,a2,a0⟩ v a6:=by
 cases ae:mC P T with
 |some aX=>exact cq.iJ (NX ae R)
 |none=>
  refine λg F ap Q C s ak ar au aI=> ?_;obtain⟨aw,aa,ab⟩:=ao.1 R;obtain⟨ax,aE,Z⟩:=ao.1 ab;rw[ae]at Z;obtain⟨aG,E⟩:=cu.1 (show bK _ _=some _ from Z);have am:=Zj aG;have bg:=lv aE;obtain⟨bf,aY,K⟩:=c8 s aa;have Y:∀(I:Value),(convert S T bf).run P C=.ok I C->bq ap v I->a6=h->dv P ⟨d,.convert S T x,aQ,a3,a2,a0⟩ Q C ar au:=λI aS aW aL=>by
   subst aL;unfold dv;simp only[execOp,(d0 Q).eval aY,cg,aS,eJ];exact aI I C ap (aV.le.refl _) aW ak
  cases J:qy aw with
  |some b=>
   rw[J]at E;cases E;rw[tY J]at K;cases K;refine Y _ ?_ .s p;unfold convert;simp only[cg,run_underlying bg,run_underlying am];rfl
  |none=>
   rw[J]at E;obtain⟨W,aH,aP⟩:=ao.1 (show U _ _=some _ from E);obtain⟨aX,a1,a4⟩:=ao.1 aP;obtain⟨a5,a7⟩:=cu.1 a4;obtain⟨l,ag,a8⟩:=ao.1 a7;obtain⟨ba,a9,aZ⟩:=ao.1 a8;cases aZ;have:=hg.1 a5;subst this;have bh:=D2 a1;have aK:P.underlying S=some (.slice W):=by cases ax<;>cases aH;omega
   obtain⟨G,aO⟩:=Yq ag;obtain⟨bi,O,q,rfl,bb,bc,bd,be⟩:=ak.slice K aO ag;have aC:=JA a9 bb;subst aC;refine Y _ ?_ .s p;rw[run_convert_bytes_string C S T W O G q aK bh am];have D:G=ba.length:=by simpa[s0]using bc.symm
   cases O with
   |none=>
    have j:=(bd p).1;rw[j]at D;have:=e3 D.symm;subst this;rfl
   |some av=>
    rcases g9 G with j|j
    ·rw[j]at D;have:=e3 D.symm;subst this;have:=run_bytesToString (P:=P) C av G q [] (by rw[j];rfl);trivial
    ·obtain⟨b,o,ay,rd⟩:=be j;cases ay;exact Z2 D λ_=>rd
theorem z3{j}(h:wP j=true):j=.i64:=by cases j<;>first|rfl|cases h
theorem cq.pT{E}(G:Jl [x,y] E P t h=some (v,a6)):cq Ω P t h ⟨d,.call ⟨.builtin .max,#[x,y],E.toArray⟩,aQ,a3,a2,a0⟩ v a6:=by
 obtain⟨ag,aa,ab⟩:=ao.1 (show U _ _=some _ from G);obtain⟨am,J,K⟩:=ao.1 ab;obtain⟨ak,O,Q⟩:=ao.1 K;obtain⟨q,R,W⟩:=ao.1 Q;obtain⟨j,I⟩:=cu.1 W;cases I;rw[bL]at j;refine cq.iJ ⟨rfl,λau ae s=> ?_⟩;obtain⟨ap,Y,C⟩:=c8 s aa;obtain⟨ar,Z,D⟩:=c8 s O;rw[kE J,z3 j.1]at C;rw[kE R,z3 j.2]at D;cases C;cases D;exact⟨_,.i,uu Y Z⟩
def cq.Wy{E}(G:Jm [x,y] E P t h=some (v,a6)):cq Ω P t h ⟨d,.call ⟨.builtin .min,#[x,y],E.toArray⟩,aQ,a3,a2,a0⟩ v a6:=by
 obtain⟨ag,aa,ab⟩:=ao.1 (show U _ _=some _ from G);obtain⟨am,J,K⟩:=ao.1 ab;obtain⟨ak,O,Q⟩:=ao.1 K;obtain⟨q,R,W⟩:=ao.1 Q;obtain⟨j,I⟩:=cu.1 W;cases I;rw[bL]at j;refine cq.iJ ⟨rfl,λau ae s=> ?_⟩;obtain⟨ap,Y,C⟩:=c8 s aa;obtain⟨ar,Z,D⟩:=c8 s O;rw[kE J,z3 j.1]at C;rw[kE R,z3 j.2]at D;cases C;cases D;exact⟨_,.i,KA Y Z⟩
end
end aX
end
section
namespace aX
variable{Ω:bX}
section
variable{P:Program}{t:dH}{h a6:bQ}{v:al}
def AG{l D E}(C:one l D=some E):∃j,l=[j]/\D j=some E:=by
 cases l with
 |nil=>cases C
 |cons j l=>cases l with
  |nil=>exact⟨j,rfl,C⟩
  |cons _ _=>cases C
def GF{l E j}(D:sZ l E=some j):∃C y,l=[C,y]/\E C y=some j:=by
 cases l with
 |nil=>cases D
 |cons C l=>
  obtain⟨y,rfl,h⟩:=AG (show one l _=some j from D);grind
theorem cq.op(o)(j:im o.op P t h=some (v,a6)):cq Ω P t h o v a6:=by
 obtain⟨W,op,au,am,U,Y⟩:=o;cases op with
 |move C=>exact cq.iJ (N7 j)
 |assign C=>exact cq.iJ (NU j)
 |pick G R b=>exact cq.iJ (Ob j)
 |alloc D=>exact cq.alloc j
 |box D C=>exact cq.box j
 |build D O=>exact cq.iJ (NW j)
 |buildSlice D n O=>exact cq.Sf j
 |load D C=>exact cq.load j
 |store D C y=>exact cq.store j
 |nilCheck C=>exact cq.iJ (N9 j)
 |binOp op D C y Q=>exact cq.iJ (NV j)
 |unOp op D C=>
  cases op with
  |not=>exact cq.iJ (Oa j)
  |neg=>exact cq.iJ (N8 j)
  | _=>
   obtain⟨G,aa,ab⟩:=ao.1 (show w8 _ C P t h=some _ from j);trivial
 |convert S D C=>exact cq.conv j
 |makeInterface D C=>exact cq.iJ (N6 j)
 |makeFunc J l G=>exact cq.iJ (N5 j)
 |makeMap D ap=>exact cq.mkMap j
 |makeSlice D l G=>exact cq.Ww j
 |slice D C ag Z pT=>exact cq.iJ (Oc j)
 |fieldAddr D C J=>exact cq.iJ (NZ j)
 |field D C J=>exact cq.iJ (N0 j)
 |indexAddr D C y=>exact cq.iJ (N1 j)
 |index D C y=>exact cq.iJ (N2 j)
 |lookup D C y ak=>exact cq.look j
 |mapUpdate D C y av=>exact cq.g8 j
 |range D C=>exact cq.range j
 |next C q=>exact cq.next j
 |entry C=>exact cq.entry j
 |extract C ae=>exact cq.iJ (NY j)
 |call G=>
  obtain⟨K,⟨I⟩,⟨ar⟩⟩:=G;cases K with
  |builtin b=>
   have E:=j;cases b<;>first|cases E|skip
   ·obtain⟨C,y,rfl,_⟩:=GF (show sZ I _=some _ from E);exact cq.bE E
   ·obtain⟨C,rfl,_⟩:=AG (show one I _=some _ from E);exact cq.SL E
   ·obtain⟨C,rfl,_⟩:=AG (show one I _=some _ from E);exact cq.VI E
   ·obtain⟨C,y,rfl,_⟩:=GF (show sZ I _=some _ from E);exact cq.pT E
   ·obtain⟨C,y,rfl,_⟩:=GF (show sZ I _=some _ from E);exact cq.Wy E
  | _=>cases j
 | _=>cases j
end
end aX
end
section
namespace aX
variable{Ω:bX}
structure hq (D C:aV Ω) (h:bQ):Prop where
 dp:∀j,h.n<=j->C j=none
 kK:D.le C
def k1(I:Program)(U:FuncId->List al->bQ->ay)(J:aG)(Q:aV Ω):Prop:=∀E O h v G,U E O h=some (v,G)->b4 I E/\
 ∀(j:aV Ω) K,bh j O K->hq Q j h->D I E K.toArray (J++bJ j h) λW R=>∃C,j.le C/\bq C v W/\hq Q C G/\R=J++bJ C G
def jM(Q:Program)(W:gV)(G:aG)(D:aV Ω):Prop:=∀I K h v C,W I K h=some (v,C)->∃l R b,D I=some (l,R)/\v=.b b/\
 ∀(j:aV Ω) J,bh j K J->hq D j h->ic Q l J (G++bJ j h) λU O=>U=b/\∃E,j.le E/\hq D E C/\O=G++bJ E C
def ha(F:aO)(j:aG):aO:=λC=>G (F::j) C
def hq.of_le{E}{G j:aV Ω}{h C}(I:hq E G h)(l:G.le j)(J:∀D,C.n<=D->j D=none):hq E j C:=
 ⟨J,I.kK.trans l⟩
def qr{g F j C D}(E:a4 g (ha F j::C) D):a4 g (F::(j++C)) D:=E.mono λ_ s=>G.part (N:=F::j) s
theorem n8{g F j C D}(E:a4 g (F::(j++C)) D):a4 g (ha F j::C) D:=E.mono λ_ s=>G.join (N:=F::j) s
section
variable{P:Program}{t:dH}{h a6:bQ}{v:al}{bC:aV Ω}{bB:aG}
def MC{D v name I E}(O:w0 P D v name I=some E):∃j,E=.fn j (v::I)/\vQ P D name j:=by
 obtain⟨ae,aa,ab⟩:=ao.1 O;obtain⟨C,ar,R⟩:=ao.1 ab;obtain⟨j,av,U⟩:=ao.1 R;obtain⟨G,W⟩:=cu.1 U;cases W;simp only[bL]at G;obtain⟨ag,J,ak⟩:=G;obtain⟨K,Z,Y⟩:=vh (bV J) Q;cases K<;>first|cases Y|skip
 refine⟨j.1,rfl,⟨?_⟩⟩;unfold Aw;rw[mB aa,Z];have au:ae.methods.find? (λC=>C.name==name)=some C:=by simp_all
 obtain⟨am,ap⟩:=j;simp_all
def ye(Ω:bX)(P:Program)(t:dH)(o:Oper)(J:mZ):Prop:=∀(D:aV Ω)(E:Act),eb D t E->match J with
 | .fn I G=>∃j,bh D G j/\(b4 P I->∀C,(execOp E.eval o).run P C=.ok (.enter I j.toArray) C)
 | .b8 O G=>∃l K j,D O=some (l,K)/\bh D G j/\∀C,(execOp E.eval o).run P C=(Instr.yield l j.toArray).run P C
def ye.of{D ag}{J ts:Array Operand}{tys}{d:Option Nat}{ty pos aft gd}(ak:wb ag J.toList P t=some D):ye Ω P t ⟨d,.call ⟨ag,J,tys⟩,ty,pos,aft,gd⟩ D:=λbb C s=>by
 obtain⟨J⟩:=J;cases ag with
 |builtin b=>cases ak
 |invoke a9 name=>
  obtain⟨ba,aa,ab⟩:=ao.1 (show U _ _=some D from ak);obtain⟨q,ap,ar⟩:=ao.1 ab;obtain⟨j,au,K⟩:=ao.1 ar;obtain⟨f,rfl,aC⟩:=MC K;obtain⟨a2,O,Q⟩:=c8 s aa;rw[CM ap]at Q;obtain⟨Y,R,W⟩:=xj s au;cases Q with
  | @y _ _ aK aY=>
   refine⟨aK::Y,.cons aY W,λae I=> ?_⟩;have:=vQ.run (P:=P) (T:=q.1) (v:=aK) (name:=name) (f:=f) (J.toArray.map C.eval) I;simp only[execOp,resolve,cg,eJ,db,invoke,(d0 C).eval O];rw[fY,mz (d0 C) R]at this ⊢;simp_all
 |value aX=>
  obtain⟨a5,aa,ab⟩:=ao.1 (show U (cX aX t) (λv=>U (pk v) λq=>U (xi t J) λj=>KZ q.1 q.2.1 q.2.2 j P)=some D from ak);obtain⟨q,ap,ar⟩:=ao.1 ab;obtain⟨j,au,K⟩:=ao.1 ar;obtain⟨a2,O,Q⟩:=c8 s aa;rw[v0 ap]at Q;obtain⟨Y,R,W⟩:=xj s au;obtain⟨a4,l,aH⟩:=q;cases Q with
  | @f _ _ _ _ aI aE a0 ax aw=>
   cases a0 with
   | @func a7=>
    cases K;refine⟨aI++(Y++aE),ax.append (W.append aw),λae I=> ?_⟩;simp only[execOp,resolve,(d0 C).eval O,lx,cg,eJ,db,invoke,fY,mz (d0 C) R];simpa using ae.run (aI++(Y++aE)).toArray I
   |method=>trivial
   |via=>trivial
   | @methodOf Z name=>
    obtain⟨E,av⟩:=cu.1 (show bK (nz l&&nz aH) (Lp j λv j=>w0 P Z v name j)=some D from K);rw[bL]at E;have G:=uG E.1;have am:=uG E.2;subst G am;cases ax;cases aw;cases j with
    |nil=>trivial
    |cons a3 j=>
     obtain⟨f,rfl,aC⟩:=MC (show w0 P Z a3 name j=some D from av);cases W with
     | @cons _ aL _ aO aQ aS=>
      refine⟨aL::aO,.cons aQ aS,λae I=> ?_⟩;have a8:=vQ.run (P:=P) (T:=Z) (v:=aL) (name:=name) (f:=f) aO.toArray I;have ay:∃G,P.underlying Z=some (.pointer G):=by
       have q:=aC.h;unfold Aw at q;grind
      obtain⟨G,ay⟩:=ay;simp only[execOp,resolve,(d0 C).eval O,lx,cg,eJ,db,invoke,fY,mz (d0 C) R];simp only[run_underlying ay,db,List.append_toArray,List.nil_append,List.getElem?_toArray,List.getElem?_cons_zero,cg];simp_all
   | @yield a1 aP aW aZ=>
    obtain⟨E,av⟩:=cu.1 (show bK (nz l&&nz aH) (some (mZ.b8 a1 j))=some D from K);cases av;rw[bL]at E;have G:=uG E.1;have am:=uG E.2;subst G am;cases ax;cases aw;refine⟨aP,aW,Y,aZ,W,λI=> ?_⟩;simp only[execOp,resolve,(d0 C).eval O,lx,invoke,fY,mz (d0 C) R];simp
end
end aX
end
section
namespace aX
variable{Ω:bX}
structure bt (n:Nat) (gl:List Deferred) (I:aV Ω) (g:c0) (F:aO) (D:aG) (C:aV Ω) (E:dH) (h:bQ) (j:Act) (G:World):Prop where
 size:j.tmps.size=n
 gl:j.defers=gl
 fx:eb C E j
 gD:hq I C h
 dC:a4 g (ha F D::bJ C h) G
theorem bt.fC{n gl I g F j}{D:aV Ω}{G h E C}(s:bt n gl I g F j D G h E C):ST g (ha F j) D h C:=⟨s.gD.dp,s.dC⟩
section
variable{P:Program}{t:dH}{h a6:bQ}{v:al}{bC:aV Ω}{bB:aG}{n:Nat}{gl:List Deferred}{g:c0}{F:aO}{aC:aV Ω}{a:Act}{w:World}{r:Option Nat}{call:hE}{b8:gV}{o:Oper}
def Xu(ae:k1 P (call b8) bB bC)(a7:jM P b8 bB bC)(j:xh P call b8 t h o.op=some (v,a6))(s:bt n gl bC g F bB aC t h a w){Q W}
  (Y:∀J E D,aC.le D->bq D v J->hq bC D a6->a4 g (ha F bB::bJ D a6) E->Q (a.put o.dst J) E):o.wpIn (jp r) 0 P a w Q W:=by
 have aI:im o.op P t h=some (v,a6)->o.wpIn (jp r) 0 P a w Q W:=λO=>by
  refine Oper.vl (λC ae=> ?_) (cq.op o O g (ha F bB) aC a w s.fx s.fC Q W λJ E D G I R=>Y J E D G I (s.gD.of_le G R.dp) R.dC);rw[ae]at O;cases O
 cases ag:y7 o.op with
 |none=>
  unfold xh at j;rw[ag]at j;exact aI j
 |some C=>
  unfold xh at j;rw[ag]at j;cases aw:t6 C.callee with
  |true=>
   have K:Z (t6 C.callee) (im o.op P t h) (U (wb C.callee C.args.toList P t) (C5 call b8 h))=some (v,a6):=j;rw[aw,df]at K;exact aI K
  |false=>
   have K:Z (t6 C.callee) (im o.op P t h) (U (wb C.callee C.args.toList P t) (C5 call b8 h))=some (v,a6):=j;rw[aw,cZ]at K;obtain⟨aS,aa,ab⟩:=ao.1 K;obtain⟨aW,aE,bc,bb,aQ,a0⟩:=o;have a2:aE=.call C:=by cases aE<;>cases ag;rfl
   subst a2;obtain⟨bj,be,bd⟩:=C;have ax:=ye.of (d:=aW) (ty:=bc) (pos:=bb) (aft:=aQ) (gd:=a0) (tys:=bd) (ts:=be) aa aC a s.fx;cases aS with
   |fn aZ av=>
    obtain⟨au,ak,am⟩:=ax;obtain⟨aK,ap⟩:=ae aZ av h v a6 ab;have ar:=ap aC au ak s.gD;refine Oper.vl (λC j=>by cases j) ?_;unfold dv;rw[am aK w];refine(ar g F w (qr s.dC)).mono λaY E a3=> ?_;obtain⟨J,aL,rfl,⟨D,G,I,R,rfl⟩,a5⟩:=a3;exact Y J E D G I R (n8 a5)
   |b8 a8 av=>
    obtain⟨l,bk,au,a9,ak,am⟩:=ax;obtain⟨I,bi,b,ap,rfl,ar⟩:=a7 a8 av h v a6 ab;have ay:=s.gD.kK _ _ ap;rw[a9]at ay;cases ay;have ba:=ar aC au ak s.gD;refine⟨λ_ _=>trivial,?_⟩;obtain⟨bl,bm,bf,bh,O,a1⟩:=ba g F w (qr s.dC);rw[Oper.semAt_eq _ _ _ (λC j=>by cases j),am w,O];refine⟨(λj=>by cases j),RoundIn.mono a1 λaY E ⟨bg,aL,aX,⟨aH,D,G,I,aP⟩,q⟩=> ?_⟩;subst aX aH aP;exact Y _ E D G .b I (n8 q)
def PM{C b}(D:ro C t o.guard=some b)(s:eb aC t a):hn o (yielded C.toArray a.tmps)=b:=by
 unfold hn;cases K:o.guard with
 |none=>
  rw[K]at D;cases D;rfl
 |some q=>
  obtain⟨G,W⟩:=q;rw[K]at D;obtain⟨Q,aa,ab⟩:=ao.1 (show U C[G]? (λQ=>U Q.dst λZ=>U (t.get Z) λv=>bK (gg (PF v)) (some (bF false (λY=>Y==W) (kD v))))=some b from D);obtain⟨ae,J,ag⟩:=ao.1 ab;obtain⟨R,ak,j⟩:=ao.1 ag;obtain⟨am,j⟩:=cu.1 j;obtain⟨ap,I,O⟩:=s ae R ak;show(yielded C.toArray a.tmps G==some W)=b;cases E:kD R with
  |some Y=>
   rw[E]at j;cases j;rw[nf E]at I;cases I;simp[yielded,aa,J,O]
  |none=>
   rw[E]at j;cases j;have:yielded C.toArray a.tmps G=none:=by
    cases I<;>first|(simp[yielded,aa,J,O];done)|(cases am;done)|cases E
   rw[this];rfl
def ui(n:Nat)(l:List Oper):Bool:=l.all λo=>ef n o.dst
def J8{C}(h:ef n C=true):∀j,C=some j->j<n:=λj D=>by subst D;exact eT h
theorem bt.put(s:bt n gl bC g F bB aC t h a w){j D d C}(E:ef n d=true)(G:aC.le j)(I:bq j v C)(J:hq bC j a6)(dC:a4 g (ha F bB::bJ j a6) D):bt n gl bC g F bB j (gn t d v) a6 (a.put d C) D:=
 ⟨by rw[<- s.size];cases d<;>simp[GX],by rw[<- s.gl];cases d<;>rfl,(s.fx.mono G).put I (by rw[s.size];exact J8 E),J,dC⟩
def Eu(K:k1 P (call b8) bB bC)(O:jM P b8 bB bC){D Y}:∀{l}{t}{h}{aC}{a}{w}{j},ui n l=true->Aj P call b8 D l ⟨t,h⟩=some j->bt n gl bC g F bB aC t h a w->
  (∀W E R,aC.le W->bt n gl bC g F bB W j.t j.h E R->Y .normal E R)->wpListIn (jp r) 0 P D.toArray Y l a w
 | [],t,h,aC,a,w,j,_,J,s,I=>by
  cases J;exact I aC a w (aV.le.refl _) s
 |o::l,t,h,aC,a,w,j,C,J,s,I=>by
  obtain⟨ax,aa,ab⟩:=ao.1 (show U (Pg P call b8 D o t h) (Aj P call b8 D l)=some j from J);obtain⟨b,ag,G⟩:=ao.1 (show U (ro D t o.guard) (λb=>Z b (U (xh P call b8 t h o.op) λr=>some ⟨gn t o.dst r.1,r.2⟩) (some ⟨gn t o.dst (.b1 []),h⟩))=some ax from aa);have ap:=PM (o:=o) ag s.fx;simp only[ui,ti,bL]at C;unfold wpListIn;rw[ap];cases b with
  |true=>
   rw[df]at G;obtain⟨⟨v,a6⟩,ak,am⟩:=ao.1 G;cases am;rw[if_pos p];exact Xu K O ak s λaI R W ae ar au av=>Eu K O C.2 ab (s.put C.1 ae ar au av) λaH E aE aw ay=>I aH E aE (ae.trans aw) ay
  |false=>
   rw[cZ]at G;cases G;rw[if_neg Q];exact⟨λ_ _=>trivial,Eu K O C.2 ab (s.put C.1 (aV.le.refl _) (.b1 .nil) s.gD s.dC) I⟩
end
end aX
end
section
namespace aX
variable{Ω:bX}
def hG(F:aO)(j:List Nat):aO:=λC=>G (F::iI j) C
def Bl:X->Exit
 | .ju=> .normal
 | .ext j=> .exit j
 | .ret=> .ret
structure o8 (j:Exit->Act->World->Prop):Prop where
 no: ¬LetsOut j
 fJ:l1 j
def o8.Bk{j}(q:o8 j)(C):o8 (Exit.then C j):=⟨q.no,q.fJ⟩
theorem o8.ae{j}(q:o8 j)(id):o8 (Exit.inBlock id j):=⟨q.no,q.fJ⟩
def zp{n}:∀{l},zo n l=true->ui n l=true
 | [],_=>rfl
 |o::l,h=>by
  have j:Z _ _ _=true:=h;rw[dN,bL]at j;simp only[ui,ti,bL];exact⟨j.1,zp j.2⟩
section
variable{P:Program}{call:hE}{n:Nat}{g:c0}{F:aO}{r:Option Nat}{b8:gV}{bB:aG}{bC:aV Ω}
def tx(Ω:bX)(P:Program)(call:hE)(r:Option Nat):Prop:=∀{b8:gV}{bB:aG}{bC:aV Ω}{n:Nat}{g:c0}{F:aO}{I:List Deferred}{id:Nat}{C:Array Oper}{s D:dM}{O:aV Ω}{E:Act}{J:World}{j:Exit->Act->World->Prop},k1 P (call b8) bB bC->jM P b8 bB bC->o8 j->zo n C.toList=true->FG P call b8 C s=some D->bt n I bC g F bB O s.t s.h E J->
 (∀Q G K,O.le Q->bt n I bC g F bB Q D.t D.h G K->j .normal G K)->(Code.region id C true).wpIn (jp r) 0 P j E J
def pa(Ω:bX)(P:Program)(call:hE)(r:Option Nat):Prop:=∀{b8:gV}{bB:aG}{bC:aV Ω}{n:Nat}{g:c0}{F:aO}{K:List Nat}{C:Operand}{D:Array Tmp}{G y:Code}{s E:dM}{U:X}{W:aV Ω}{I:Act}{Q:World}{j:Exit->Act->World->Prop},jM P b8 bB bC->o8 j->ps n (.rangeFunc C D G y)=true->gW (.rangeFunc C D G y) P call b8 s=some (U,E)->bt n (mk K) bC g (hG F K) bB W s.t s.h I Q->
 (∀O Y J R,W.le Y->bt n (mk O) bC g (hG F O) bB Y E.t E.h J R->j (Bl U) J R)->(Code.rangeFunc C D G y).wpIn (jp r) 0 P j I Q
def Np{q D j s}(E:xe q D=some (j,s)):(∃C,q=some (.ju,C)/\D C=some (j,s))\/(q=some (j,s)/\j≠ .ju):=by
 obtain⟨⟨G,C⟩,aa,ab⟩:=ao.1 E;cases G with
 |ju=>simp_all
 |ext I=>
  grind
 |ret=>
  grind
def Pr{C G j D E}(I:j≠ .ju)(h:C (Bl j) D E):Exit.then G C (Bl j) D E:=by
 cases j with
 |ju=>trivial
 |ext J=>exact h
 |ret=>exact h
def Dc(a7:∀{b8}{bB}{bC:aV Ω},jM P b8 bB bC->k1 P (call b8) bB bC)(bk:tx Ω P call r):∀(aH){s G}{R}{Y}{al}{D}{I}{ap},(i5 aH=false->pa Ω P call r)->jM P b8 bB bC->o8 ap->ps n aH=true->gW aH P call b8 s=some (R,G)->bt n (mk Y) bC g (hG F Y) bB al s.t s.h D I->
  (∀au am J O,al.le am->bt n (mk au) bC g (hG F au) bB am G.t G.h J O->ap (Bl R) J O)->aH.wpIn (jp r) 0 P ap D I:=by
 intro aH
 induction aH with
 |skip=>intro s G R Y al D I ap ag E Q ak K C j;cases K;exact wpIn_skip (j Y al D I (aV.le.refl _) C)
 |label l=>intro s G R Y al D I ap ag E Q ak K C j;cases K;exact wpIn_label (j Y al D I (aV.le.refl _) C)
 |exit id=>intro s G R Y al D I ap ag E Q ak K C j;cases K;exact wpIn_exit (j Y al D I (aV.le.refl _) C)
 |ret=>intro s G R Y al D I ap ag E Q ak K C j;cases K;exact wpIn_ret (j Y al D I (aV.le.refl _) C)
 |goto l=>intro s G R Y al D I ap ag E Q ak K C j;cases K
 |scope b aE=>intro s G R Y al D I ap ag E Q ak K C j;cases K
 |refuse ar=>intro s G R Y al D I ap ag E Q ak K C j;cases K
 |rangeFunc bz bI R y bA bE=>intro s G bK Y al D I ap ag E Q ak K C j;exact ag p E Q ak K C j
 |region id aS a5=>
  intro s G R Y al D I ap ag E Q ak K C j;obtain⟨ay,aa,ab⟩:=ao.1 (show U (Z a5 (FG P call b8 aS s) (Aj P call b8 aS.toList aS.toList s)) (λG=>some (X.ju,G))=some (R,G)from K);cases ab;cases a5 with
  |true=>exact bk (a7 E) E Q ak aa C λam J O l av=>j Y am J O l av
  |false=>
   obtain⟨aS⟩:=aS;exact wpIn_region_lit (Eu (a7 E) E (zp ak) aa C λam J O l av=>j Y am J O l av)
 |seq W ax aX a2=>
  intro s G R Y al D I ap ag E Q ak K C j;have aC:Z (ps n W) (ps n ax) false=true:=ak;rw[dN,bL]at aC;have aI:(i5 W=false->pa Ω P call r)/\(i5 ax=false->pa Ω P call r):=by
   refine⟨λh=>ag ?_,λh=>ag ?_⟩
   ·simp_all[Z,i5]
   ·show Z (i5 W) (i5 ax) false=false;rw[h];cases i5 W<;>rfl
  refine wpIn_seq ?_;rcases Np (show xe (gW W P call b8 s) (gW ax P call b8)=some (R,G)from K)with ⟨ay,aa,ab⟩|⟨aa,ab⟩
  ·exact aX aI.1 E (Q.Bk _) aC.1 aa C λau am J O l av=>a2 aI.2 E Q aC.2 ab av λbh bx bg bs bn aW=>j bh bx bg bs (l.trans bn) aW
  ·exact aX aI.1 E (Q.Bk _) aC.1 aa C λau am J O l av=>Pr ab (j au am J O l av)
 |cond o W ax aX a2=>
  intro s G R Y al D I ap ag E Q ak K C j;have aC:Z (ps n W) (ps n ax) false=true:=ak;rw[dN,bL]at aC;obtain⟨v,aa,ab⟩:=ao.1 (show U (cX o s.t) (λv=>U (kD v) λb=>Z b (gW W) (gW ax) P call b8 s)=some (R,G)from K);obtain⟨b,aP,a6⟩:=ao.1 ab;obtain⟨bJ,bm,bb⟩:=c8 C.fx aa;rw[nf aP]at bb;cases bb;have bc:=(d0 D).eval bm;have aI:(i5 W=false->pa Ω P call r)/\(i5 ax=false->pa Ω P call r):=by
   refine⟨λh=>ag ?_,λh=>ag ?_⟩
   ·simp_all[Z,i5]
   ·show Z (i5 W) (i5 ax) false=false;rw[h];cases i5 W<;>rfl
  cases b with
  |true=>exact wpIn_cond_true bc (aX aI.1 E Q aC.1 a6 C j)
  |false=>exact wpIn_cond_false bc (a2 aI.2 E Q aC.2 a6 C j)
 |block id W aE=>
  intro s G R Y al D I ap ag E Q ak K C j;refine wpIn_block ?_;obtain⟨⟨bu,ay⟩,aa,ab⟩:=ao.1 (show U (gW W P call b8 s) (λq=>X.rec (gW W P call b8 s) (λaL=>Z (aA aL id) (some (X.ju,q.2)) (gW W P call b8 s)) (gW W P call b8 s) q.1)=some (R,G)from K);cases bu with
  |ju=>
   have aw:gW W P call b8 s=some (R,G):=ab;rw[aa]at aw;cases aw;exact aE ag E (Q.ae id) ak aa C λau am J O l av=>j au am J O l av
  |ret=>
   have aw:gW W P call b8 s=some (R,G):=ab;rw[aa]at aw;cases aw;exact aE ag E (Q.ae id) ak aa C λau am J O l av=>j au am J O l av
  |ext aL=>
   have aw:Z (aA aL id) (some (X.ju,ay)) (gW W P call b8 s)=some (R,G):=ab;refine aE ag E (Q.ae id) ak aa C λau am J O l av=> ?_;show if aL=id then ap .normal J O else ap (.exit aL) J O
   rw[CS]at aw
   by_cases a8:aL=id
   ·rw[if_pos a8]at aw ⊢;cases aw;exact j au am J O l av
   ·rw[if_neg a8]at aw ⊢;rw[aa]at aw;cases aw;exact j au am J O l av
 |loop W aE=>
  intro s G R Y al D I ap ag E Q ak K C j;have bi:=K
  classical
  let aK:=λD I ar=>∃(ay:dM) (aY:List Nat) (a4:aV Ω),EH (gW W P call b8) ar ay=some (R,G)/\al.le a4/\bt n (mk aY) bC g (hG F aY) bB a4 ay.t ay.h D I
  let a3:=λD I=>if a0:∃ar,aK D I ar/\∀aQ,aK D I aQ->ar<=aQ then ru a0 else 0
  refine wpIn_loop (λD I=>∃ar,aK D I ar) a3 ⟨2000,s,Y,al,bi,aV.le.refl _,C⟩ ?_;rintro bf bq ⟨bp,bl⟩;have aZ:=Ae ⟨bp,bl⟩;have a9:=vn aZ;have bj:a3 bf bq=ru aZ:=by
   grind
  generalize ru aZ=ar at a9 bj;obtain⟨⟨ay,aY,a4,aa,bd,be⟩,_⟩:=a9;cases ar with
  |zero=>trivial
  |succ ar=>
   rcases Np (show xe (gW W P call b8 ay) (EH (gW W P call b8) ar)=some (R,G)from aa)with ⟨av,ab,aP⟩|⟨ab,aP⟩
   ·refine aE ag E (Q.Bk _) ak ab be λau am J O l aW=> ?_;have a1:aK J O ar:=⟨av,au,am,aP,bd.trans l,aW⟩;refine⟨⟨ar,a1⟩,?_⟩;have ba:=Ae ⟨_,a1⟩;have:a3 J O<=ar:=by
     show(if a0:∃ar,aK J O ar/\∀aQ,aK J O aQ->ar<=aQ then ru a0 else 0)<=_;rw[dif_pos ba];exact(vn ba).2 _ a1
    omega
   ·exact aE ag E (Q.Bk _) ak ab be λau am J O l aW=>Pr aP (j au am J O (bd.trans l) aW)
end
end aX
end
section
namespace aX
variable{Ω:bX}
section
variable{P:Program}{call:hE}{n:Nat}{g:c0}{F:aO}{b8:gV}{bB:aG}{bC:aV Ω}{aC:aV Ω}{h:bQ}
def YO{j C D o E}(R:∀j,h.n<=j->aC j=none)(J:aC j=some (C,D))(Q:h.get j=some o)(s:G (bJ aC h) E):G (ea aC o C D::eB aC h j) E:=by
 have O:j<h.n:=by
  grind
 have I:(bJ aC h).Perm (c9 aC h j::eB aC h j):=(lF (lD.2 O)).map _;have K:c9 aC h j=ea aC o C D:=by simp[c9,Q,J]
 rw[K]at I;exact G.perm I s
def SD{D}(au:∀W,h.n<=W->aC W=none)(aK:G (bJ aC h) D){b o n K ag l}(ar:aC b=some (K,ag))(al:l3 h b o n=some l):∃j,bh aC l j/\j.length=n/\mP K o j D:=by
 obtain⟨aY,aa,ab⟩:=ao.1 al;obtain⟨ak,am,ap⟩:=ao.1 ab;have av:=YO au ar aa aK;have Q:∀(C:List _),bh aC ak C->(∀E I,C[E]?=some I->hw D ⟨K,E,none⟩=some I)->∃j,bh aC l j/\j.length=n/\mP K o j D:=λC aw aS=>by
  obtain⟨j,ax,ay⟩:=(aw.drop o).take ap;obtain⟨aE,aI⟩:=lr ay;refine⟨j,ax,aE,λE I J=> ?_⟩;have:=aI E I J;rw[qE,List.getElem?_drop]at this;simp_all
 obtain⟨R,U,O,Y,Z,q,aW⟩:=av;rcases yS am with ⟨aL,rfl⟩|⟨aQ,aZ,aX,rfl⟩
 ·obtain⟨C,aH,aP⟩:=q;exact Q C aH λE I J=>(aR.ae (L:=[]) J).get D ⟨R,U,O,Y,Z,aP,trivial⟩
 ·obtain⟨C,aH,aP⟩:=q;exact Q C aH λE I J=>(aR.own (L:=[]) J).get D ⟨R,U,O,Y,Z,aP,trivial⟩
def Ox{R ak al}(ap:∀ar,h.n<=ar->aC ar=none)(ax:G (bJ aC h) R)(s:eb aC ak al):∀{l}{I},h6 (λae=>Ov ae P ak h) l=some I->∃J,bh aC I J/\jL P (hP al) [λj=>j=R] l J
 | [],I,K=>by cases K;exact⟨[],.nil,.nil⟩
 |ae::l,I,K=>by
  obtain⟨v,aa,ab⟩:=ao.1 (show U _ _=some I from K);obtain⟨bi,aS,aW⟩:=ao.1 ab;cases aW;obtain⟨J,Y,Z⟩:=Ox ap ax s aS;cases ae with
  |tmp W=>
   obtain⟨C,aH,aP⟩:=c8 (D:=.tmp W) s aa;exact⟨C::J,.cons aP Y,.tmp aH Z⟩
  |cell W a8=>
   obtain⟨aX,aH,aP⟩:=ao.1 (show U _ _=some v from aa);obtain⟨q,aY,aZ⟩:=ao.1 aP;obtain⟨bg,a0,a1⟩:=ao.1 aZ;obtain⟨ba,a2,av⟩:=ao.1 a1;obtain⟨C,aw,au⟩:=c8 s (show cX (.tmp W) ak=some aX from aH);rw[ng aY]at au;cases au with
   | @ag _ _ a7 a9 aQ=>
    obtain⟨a6,ay,a4,a5⟩:=SD ap ax aQ a2;have rd:∀j,G [λj=>j=R] j->∀D C,a6[D]?=some C->hw j _=some C:=λj E D C Q=>by
     obtain⟨bc,bd,bb,a3,bf,aL,be⟩:=E;exact hw.sub (aL▸a5 D C Q) a3
    rcases xK a0 with ⟨am,aE⟩|⟨am,aE⟩
    ·rcases xn av with ⟨O,rfl⟩|⟨O,_⟩
     ·exact⟨_,.cons (.bm ay) Y,.cell aw (c7 ⟨a4,λD C Q=>⟨λj E=>rd j E D C Q⟩⟩) Z⟩
     simp_all
    ·subst am;rcases xn av with ⟨O,_⟩|⟨O,rfl⟩
     ·trivial
     ·cases ay with
      |cons aI aK=>
       cases aK;exact⟨_,.cons aI Y,.cell aw (EF ⟨λj E=>by simpa using rd j E 0 _ p⟩) Z⟩
def Yx{D C}(h:bh aC D C):bq aC (FJ D) (bG C):=by
 cases h with
 |nil=>exact .b1 .nil
 |cons j b=>
  cases b with
  |nil=>exact j
  |cons b E=>exact .b1 (.cons j (.cons b E))
def I7:∀(l)(D)(G)(j)(v),(CH l D G).get j=some v->(∃E,j=D+E/\l[E]?=some v)\/G.get j=some v
 | [],D,G,j,v,h=> .inr h
 |x::l,D,G,j,v,h=>by
  rcases I7 l _ _ j v h with ⟨E,I,J⟩|e
  ·exact .inl ⟨E+1,C,by assumption⟩
  ·rw[c4.lp]at e
   by_cases K:j=D
   ·simp_all
   simp_all
theorem bh.at:∀{l}{D}{j:Nat}{v},bh aC l D->l[j]?=some v->∃C,bq aC v C/\D[j]?=some C
 | [],_,j,v,h,E=>by grind
 |x::l,_,j,v,h,E=>by
  cases h with
  |cons G b=>
   cases j with
   |zero=>simp_all
   |succ j=>obtain⟨C,aH,aP⟩:=bh.at b (by assumption);simp_all
def Sd(a5:∀{b8}{bB}{bC:aV Ω},jM P b8 bB bC->k1 P (call b8) bB bC)(a6:tx Ω P call none)(a7:pa Ω P call none){aw J}(a9:P.funcs[aw]?=some J){ak v al}(O:CX P J call b8 ak h=some (v,al))(be:jM P b8 bB bC){U}(aE:bh aC ak U)(aW:hq bC aC h):
  D P aw U.toArray (bB++bJ aC h) λag W=>∃j,aC.le j/\bq j v ag/\hq bC j al/\W=bB++bJ j al:=λg F R bd=>by
 obtain⟨av,a8,ab⟩:=ao.1 O;obtain⟨ax,a0⟩:=cu.1 ab;obtain⟨⟨ar,E⟩,a1,am⟩:=ao.1 a0;obtain⟨bP,am⟩:=cu.1 am;obtain⟨bk,a2,a3⟩:=ao.1 am;cases a3;rw[dN,bL]at ax;have bT:U.length<=J.ntmps:=by rw[aE.len];simp_all
 refine(callsIn_wide (n:=0)).1 (callsIn_of_wp_marks a9 a8 trivial ?_);have ap:bt J.ntmps (mk []) bC g (hG F []) bB aC (CH ak 0 .i3) h {tmps:=U.toArray++nV (J.ntmps-U.toArray.size) undef,defers:=[]} R:=by
  refine⟨by simp_all,rfl,λaI bs ay=> ?_,aW,n8 (bd.mono λZ s=>fg (λZ q=>⟨Z,λ_=>none,λ_=> .inr p,d7.refl _,λ_ _ O=>(by grind),q,trivial⟩) s)⟩;rcases I7 ak 0 _ aI bs ay with ⟨bU,rfl,ba⟩|ay
  ·obtain⟨bW,aH,aP⟩:=bh.at aE ba;grind
  trivial
 have au:∀(C:List _) (j:aV Ω) (Q:Act) (K:World),aC.le _->bt J.ntmps _ bC g (hG F C) bB j E.t E.h Q K->LeavesInM Fence.wide 0 P J Q.tmps (λO K=>∃ag W,O=.returned ag/\(∃j,aC.le j/\bq j (FJ bk) ag/\hq bC j E.h/\W=bB++bJ j E.h)/\a4 g (F::W) K) Q.defers .returning K:=λC j Q K l I=>by
  rw[I.gl];have bb:=qr I.dC;have bc:G ((λh=>G (iI C) h):: [λh=>G (F::(bB++bJ j E.h)) h]) K.hm:=by
   have bN:=G.part (N:=F::iI C) bb.s;have bO:=G.perm (e4.symm) bN;have fM:=G.join bO;exact fM.ep λZ q=>G.join (N:=F::(bB++bJ j E.h)) (L:=[]) (by simpa using q)
  obtain⟨bf,bg,aQ,bl,bm,aH,ae,bi,aS,bn,bp,aP,_⟩:=bc;have bj:G (bJ j E.h) ae:=by
   have:G ((F::bB)++bJ j E.h) ae:=aP;obtain⟨bA,bE,_,_,bK,_,bM⟩:=this.split;exact bM.up bK
  obtain⟨bz,bu,bx⟩:=Ox (P:=P) I.gD.dp bj I.fx a2;refine Af (M:=[λar=>ar=ae]) (E:=bB++bJ j E.h) (d0 Q) (ae:=J.results.toList) (I:=bz) aZ bx (λZ ap=> ?_) ⟨j,l,Yx bu,I.gD,rfl⟩ C K ⟨I.dC.g,?_⟩
  ·obtain⟨bA,bE,_,bI,_,aY,_⟩:=ap;subst aY;exact aP.up bI
  ·refine G.part (N:=iI C) ?_;exact⟨bf,bg,aQ,bl,bm,aH,ae,bi,aS,bn,bp,rfl,trivial⟩
 have aL:=Dc (n:=J.ntmps) (g:=g) (F:=F) (r:=none) a5 a6 av (ap:=λO Q K=>(O=.normal\/O=.ret)/\∃C j,aC.le j/\bt J.ntmps (mk C) bC g (hG F C) bB j E.t E.h Q K) (λ_=>a7) be ⟨(λ⟨Y,R,aK,_⟩=>by simp_all),(λav Y R ⟨aK,_⟩=>by simp_all)⟩ ax.1 a1 ap λaX j Q K l I=> ?_
 ·refine lw (λO Y R h=> ?_) aL;obtain⟨aK,C,j,l,I⟩:=h;cases O with
  |normal=>exact au C j Y R l I
  |ret=>exact au C j Y R l I
  | _=>simp_all
 ·refine⟨?_,aX,j,l,I⟩;cases ar with
  |ju=>exact .inl p
  |ret=>exact .inr p
  |ext aI=>trivial
end
end aX
end
section
namespace aX
variable{Ω:bX}
section
variable{P:Program}{lO:FuncId}
def vH(P:Program)(lO:FuncId):Prop:=b4 P lO/\∀(C:FuncId)(G I:cs)(E:aG)(post:List aO->Prop),b4 P C->(D P C (G++I).toArray E λ_ j=>post j)->
 D P lO #[.func (.func C) G.toArray I.toArray] E λv j=>v=.tuple #[.agg #[.int .i64 0,.int .i64 0],.bool false]/\post j
def k8(Ω:bX)(P:Program)(R:kz):Prop:=∀E F,R E=some F->∀K h v G,F K h=some (v,G)->b4 P E/\
 ∀(O j:aV Ω) (I:aG) J,bh j K J->hq O j h->D P E J.toArray (I++bJ j h) λU Q=>∃C,j.le C/\bq C v U/\hq O C G/\Q=I++bJ C G
theorem Su(C:kz)(n:Nat)(D:gV)(j:FuncId)(args:List al)(h:bQ):ka P lO C (n+1) D j args h=bF (Z (aA j lO) (JE (ka P lO C n D) args h) (U ((lg P).get j) λE=>bK (gg (E.name== "runtime.NumGoroutine")) (CX P E (ka P lO C n) D args h))) (λF=>F args h) (C j):=rfl
def C3{al}(aC:k8 Ω P al)(Z:vH P lO)(aw:∀I:hE,(∀{E}{j}{C:aV Ω},jM P E j C->k1 P (I E) j C)->tx Ω P I none)(ax:∀I:hE,(∀{E}{j}{C:aV Ω},jM P E j C->k1 P (I E) j C)->pa Ω P I none):
  ∀(n) {E} {j} {C:aV Ω},jM P E j C->k1 P (ka P lO al n E) j C
 |0,E,j,C,G=>λf R h v ar D=>by cases D
 |n+1,E,j,C,G=>λf R h v ar D=>by
  have Q:∀{E:gV} {j:aG} {C:aV Ω},jM P E j C->k1 P _ j C:=λG=>C3 aC Z aw ax n G;rw[Su]at D;cases ag:al f with
  |some F=>
   rw[ag]at D;obtain⟨bc,aE⟩:=aC f F ag R h v ar D;simp_all
  |none=>
  rw[ag]at D;replace D:=D;cases ae:aA f lO with
  |true=>
   rw[ae,df]at D;have:=bV ae;subst this;refine⟨Z.1,λam a8 ak W=> ?_⟩;cases R with
   |nil=>cases D
   |cons aK R=>
    obtain⟨aa,ab⟩:=cu.1 (show bK _ _=some _ from D);have:=uG aa;subst this;obtain⟨q,au,O⟩:=ao.1 ab;obtain⟨aP,av,aQ⟩:=ao.1 O;obtain⟨⟨a9,Y⟩,aS,aW⟩:=ao.1 aQ;cases aW;obtain⟨aI,aY⟩:=Q G aP _ h a9 Y aS;cases ak with
    |cons ap b=>
     cases b;rw[v0 au]at ap;obtain⟨K,l,ba⟩:=q;cases ap with
     | @f _ _ _ _ a4 aL a1 a2 aZ=>
      cases a1 with
      | @func bb=>
       cases av;have a3:=aY am _ (a2.append aZ) W;have aE:=Z.2 _ a4 aL _ (λU=>∃J,am.le J/\hq C J Y/\U=j++bJ J Y) aI (a3.mono λa7 U ay=>by
        grind)
       refine aE.mono λa7 U ay=> ?_;obtain⟨aO,J,aH,a5,a6⟩:=ay;subst aO;exact⟨J,aH,.b1 (.cons (.bm (.cons .i (.cons .i .nil))) (.cons .b .nil)),a5,a6⟩
      | _=>cases av
  |false=>
   rw[ae,cZ]at D;obtain⟨K,aa,ab⟩:=ao.1 D;obtain⟨au,O⟩:=cu.1 ab;have a0:P.funcs[f]?=some K:=by
    have:=xc 12 P.funcs.toList f K aa;simp_all
   have aX:K.body.isSome=true:=by
    obtain⟨aK,aX,_⟩:=ao.1 O;simp_all
   refine⟨⟨by unfold y6;simp_all[l0]⟩,λam a8 ak W=> ?_⟩;exact Sd (λG=>Q G) (aw _ λG=>Q G) (ax _ λG=>Q G) a0 O G ak W
theorem PR{j:aV Ω}:jM P (λ_ _ _=>none) [] j:=λE G h v D C=>by grind
def Bp:bX:=⟨λ_=>0,λ_ _ _ _=>True⟩
def SK(al:vH P lO)(ae:∀G:hE,(∀{I:gV}{E:aG}{J:aV Bp},jM P I E J->k1 P (G I) E J)->tx Bp P G none)(ag:∀G:hE,(∀{I:gV}{E:aG}{J:aV Bp},jM P I E J->k1 P (G I) E J)->pa Bp P G none)
  {n:Nat} {K:FuncId} {b:Bool} (j:okB (ka P lO (λ_=>none) n (λ_ _ _=>none) K [] ⟨.i3,0⟩) (.b b)=true) (O:aG):D P K #[] O λv R=>v=.bool b/\∃Y,R=O++Y:=by
 cases Q:ka P lO _ n _ K [] _ with
 |none=>rw[Q]at j;cases j
 |some U=>
  rw[Q]at j;obtain⟨v,aw⟩:=U;have am:v=.b b:=by
   cases v<;>first|cases j|skip
   rename_i ar
   have av:rY ar b=true:=j;simp_all[pp]
  subst am;obtain⟨au,ak⟩:=C3 (λ_ _ h=>(by grind)) al ae ag n (PR (j:=λ_=>none)) K [] _ _ _ Q;have ao:=ak _ [] .nil ⟨λ_ _=>rfl,λ_ _ j=>C⟩;have ap:=D.frame O ao (λh s=>by simpa[bJ]using s);refine ap.mono λU R ⟨W,⟨aC,aH,aP,ax,ay⟩,Z⟩=> ?_;cases aP;exact⟨rfl,W,Z⟩
end
end aX
end
section
namespace aX
variable{Ω:bX}
theorem Js(j C):(hL j).testBit C=decide (j=C):=by
 show(1<<<j).testBit C= _;simp[Ia,Nat.testBit_two_pow]
theorem ld(D C j:Nat):(gQ D (hL C)).testBit j=true<->D.testBit j=true\/C=j:=by simp[Js]
theorem Nu(D C j:Nat):(gQ (hL C) D).testBit j=true<->C=j\/D.testBit j=true:=by simp[Js]
theorem Mp(C b j:Nat):(gQ C b).testBit j=true<->C.testBit j=true\/b.testBit j=true:=by simp
theorem Zk{j b}(h:Bg j b=true){C}(E:j.testBit C=true):b.testBit C=true:=by
 have D:j&&&b=j:=bV h;grind
def WY{j b}(h:Bg j b=false):∃C,j.testBit C=true/\¬b.testBit C=true:=by
 classical
 by_cases G:∃C,j.testBit C=true/\¬b.testBit C=true
 ·omega
 ·exfalso;have D:j&&&b=j:=by
   apply Nat.eq_of_testBit_eq;simp_all
  have E:aA _ j=false:=h;simp_all
theorem Uf(j):DM j.ground=nW .any j:=by rfl
def xr(l:List Edge):Nat:=ch (nat_lit 0) (λj _ C=>Z (DM j.ground) (gQ (hL j.on) C) C) l
theorem NI(j):∀l:List Edge,(xr l).testBit j=true<->∃e∈l,nW .any e=true/\e.on=j
 | []=>by
  show(0:Nat).testBit j=true<->_;simp
 |e::l=>by
  have C:xr (e::l)=Z _ (gQ _ (xr l)) (xr l):=rfl;have E:=NI j l;rw[C,Uf];cases D:nW _ e with
  |true=>
   grind[df,Nu]
  |false=>
   simp_all[cZ]
theorem AN{o j}:(sN o).testBit j=true<->∃C∈o.after,nW .any C=true/\C.on=j:=by
 show(xr _).testBit j=true<->_;rw[NI];simp
theorem uP{j}:∀{l},mI j l=true<->j∈l
 | []=>⟨λh=>(by cases h),λh=>(by grind)⟩
 |x::l=>by
  show Z _ _ (mI j l)=true<->_;rw[ob,mW,uP];simp
theorem pj{j}:∀{l},jO j l=true<->∀x∈l,j x=true
 | []=>⟨λ_ _ h=>(by grind),λ_=>rfl⟩
 |x::l=>by
  show Z _ (jO j l) _=true<->_;rw[dN,bL,pj];simp
def zP{C}:∀{l}{j},sf C l=some j->j∈l/\C j=true
 | [],j,h=>by cases h
 |y::l,j,h=>by
  have D:Z _ _ _=some j:=h;cases E:C y with
  |true=>simp_all[df]
  |false=>rw[E,cZ]at D;obtain⟨G,b⟩:=zP D;simp_all
theorem w1{j D}:∀{l}{n},D∈qY j l n<->∃C o,l[C]?=some o/\D=⟨n+C,o,sN o,nA o.op j⟩
 | [],n=>⟨λh=>(by cases h),λ⟨C,o,h,_⟩=>(by trivial)⟩
 |o::l,n=>by
  have E:qY j (o::l) n=⟨n,o,sN o,nA _ j⟩::qY j l _:=rfl;rw[E,cQ,w1];constructor
  ·rintro(rfl|⟨C,G,h,rfl⟩)
   ·exact⟨0,o,rfl,rfl⟩
   ·exact⟨C+1,G,by assumption,by grind⟩
  grind
abbrev fE(j:Program)(C:Array Oper):List f8:=qY j C.toList (nat_lit 0)
section
variable{P:Program}{ar:Array Oper}{x y:f8}
def rK(h:x∈fE P ar):ar[x.i]?=some x.o/\x.ag=sN x.o/\x.k=nA x.o.op P:=by
 obtain⟨j,o,aa,rfl⟩:=w1.1 h;simp_all
def yz{j o}(h:ar[j]?=some o):⟨j,o,sN o,nA o.op P⟩∈fE P ar:=
 w1.2 ⟨j,o,by simp_all,Q⟩
theorem tH(h:x∈fE P ar)(j:y∈fE P ar)(C:x.i=y.i):x=y:=by
 obtain⟨D,G,aa,rfl⟩:=w1.1 h;obtain⟨E,I,ab,rfl⟩:=w1.1 j;simp_all
theorem rL(h:x∈fE P ar):x.i<ar.size:=(tb.1 (rK h).1).1
theorem KX{j}:∀{l},(sh l).testBit j=true<->∃x∈l,x.i=j/\x.k=2
 | []=>by
  show(0:Nat).testBit j=true<->_;simp
 |x::l=>by
  have C:sh (x::l)=Z _ (gQ _ (sh l)) (sh l):=rfl;have E:=KX (j:=j) (l:=l);rw[C];cases D:aA _ 2 with
  |true=>
   grind[bV,df,Nu]
  |false=>
   simp_all[Nat.ne_of_beq_eq_false,cZ]
abbrev rJ(P:Program)(ar:Array Oper):Nat:=sh (fE P ar)
def Ck(h:x∈fE P ar):(rJ P ar).testBit x.i=true<->x.k=2:=by
 rw[KX];constructor
 ·grind[tH]
 grind
structure rP (P:Program) (ar:Array Oper):Prop where
 bad:∀x∈fE P ar,yZ x.o.op=false
 I4:∀x∈fE P ar,∀y∈fE P ar,x.i≠y.i->∀j,x.o.dst=some j->y.ag.testBit x.i=true\/x.ag.testBit y.i=true\/(j∉y.o.looksAt ar/\y.o.dst≠some j)
 MD:∀x∈fE P ar,x.k=2->x.o.guard=none/\∀C,x.ag.testBit C=true->¬(rJ P ar).testBit C=true
 pT:∀x∈fE P ar,x.k=2->∀y∈fE P ar,x.i≠y.i->(∀j,x.o.dst=some j->y.o.dst≠some j)/\∀j,y.o.dst=some j->j∈x.o.looksAt ar->x.ag.testBit y.i=true
theorem CR{j b:Nat}(h:j≠b):aA j b=false:=by grind[bV]
def Rc(aa:jO (λx=>gg (yZ x.o.op)) (fE P ar)=true)(ab:I5 ar (fE P ar)=true)(Q:MF ar (fE P ar) (rJ P ar)=true):rP P ar:=by
 refine⟨λx C=> ?_,λx C y K J D G=> ?_,λx C I=> ?_,λx C I y K J=> ?_⟩
 ·simp_all[pj,l0]
 ·have h:=pj.1 (show jO _ _=true from ab) x C;rw[G]at h;have j:=pj.1 (show jO _ _=true from h) y K;rw[CR J,cZ,ob,mW]at j;rcases j with j|j
  ·have O:Z _ _ _=true:=j;rw[ob,mW]at O;exact O.elim .inl λq=> .inr (.inl q)
  ·refine .inr (.inr ⟨λq=> ?_,λq=> ?_⟩)
   ·grind[uP,df]
   ·have:mI D (vg y.o)=true:=uP.2 (by unfold vg;simp_all);rw[this,l0]at j;cases ae:mI D _<;>rw[ae]at j<;>cases j
 ·have h:=pj.1 (show jO _ _=true from Q) x C;rw[I,show aA 2 2=true from rfl,df,dN,bL,dN,bL]at h;refine⟨?_,λak ao am=> ?_⟩
  ·cases Y:x.o.guard with
   |none=>rfl
   |some q=>rw[Y]at h;cases h.1
  ·have U:x.ag&&&rJ P _=0:=bV h.2.1;have:=congrArg (λal=>al.testBit ak) U;grind
 ·have h:=pj.1 (show jO _ _=true from Q) x C;rw[I,show aA 2 2=true from rfl,df,dN,bL,dN,bL]at h;have j:=pj.1 (show jO _ _=true from h.2.2) y K;rw[CR J,cZ,dN,bL]at j;refine⟨λD G R=> ?_,λD R G=> ?_⟩
  ·have E:=j.1;rw[G]at E;have W:gg _=true:=E;have:mI D (vg y.o)=true:=uP.2 (by simp_all[vg]);rw[this]at W;trivial
  ·have E:=j.2;rw[R]at E;grind[kI,uP,df]
def vT(l:List f8):pc->Prop
 | .nil=>True
 | .q x s=>x∈l/\vT l s
 | .e x s=>x∈l/\vT l s
def AM(l):∀(n j),vT l (AL l n j)
 |0,j=>trivial
 |n+1,j=>by
  have C:AL l (n+1) j=bF _
   _ _:=rfl
  rw[C];cases aa:sf (λx=>Z _ (dT _ _) _) l with
  |some x=>exact⟨(zP aa).1,AM l n _⟩
  |none=>
   cases ab:sf (λx=>Z _ _ _) l with
   |some x=>exact⟨(zP ab).1,AM l n _⟩
   |none=>
    cases D:sf _ l with
    |some x=>exact⟨(zP D).1,AM l n _⟩
    |none=>trivial
end
structure o3 where
 x:f8
 val:Nat->al
 o:cl
 B:Nat
 u:Value
def ke(j:o3):aO:=λC=>∀{Ω:bX}(D:aV Ω),ea D j.o j.B 0 C
def k3(F:aO)(j:List o3):aO:=λC=>G (F::j.map ke) C
structure yi (D:Program) (I:Array Oper) (G:Nat) (Q:dH) (O:Act) (j:o3):Prop where
 mem:j.x∈fE D I
 k:j.x.k=2
 cR: ¬G.testBit j.x.i=true
 NH:∀E,j.x.ag.testBit E=true->G.testBit E=true
 op:∀J,(∀C∈j.x.o.looksAt I,J.get C=Q.get C)->∀h,im j.x.o.op D J h=some (j.val h.n,h.new j.o)
 PJ:∀{Ω:bX} (K:aV Ω) k,K k=some (j.B,0)->bq K (j.val k) j.u
 dm:∀C,j.x.o.dst=some C->O.tmps[C]?=some j.u
structure rM (C:Array Oper) (G:Nat) (D:List o3) (E:Array Bool):Prop where
 size:E.size=C.size
 Y:∀j,j<C.size->(E.getD j true=true<->G.testBit j=true\/∃I∈D,I.x.i=j)
 lt:∀j,G.testBit j=true->j<C.size
 eQ:(D.map (·.x.i)).Nodup
def tL(G:Array Oper)(E:Array Bool)(D:Nat):Prop:=∃C:List Nat,(∀j,j<G.size->E.getD j true=false->j∈C)/\C.length<=D
structure n2 (G:Program) (j:Array Oper) (C:Nat) (E:List o3) (J:Array Bool) (R:Nat) (K:dH) (O:Act):Prop where
 Y:rM j C E J
 un:tL j J R
 nk:∀Q∈E,yi G j C K O Q
 zc:∀D∈fE G j,D.k=2->¬C.testBit D.i=true->∀I,D.o.dst=some I->K.get I=none
section
variable{P:Program}{ar:Array Oper}{m nu:Nat}{gv:List o3}{i4:Array Bool}{t:dH}{a:Act}{x y:f8}
theorem Uc{l:Array Bool}{j}(h:j<l.size):l.getD j false=l.getD j true:=by grind
def rM.K7(s:rM ar m gv i4){j}(D:j<ar.size):i4.getD j false=true<->m.testBit j=true\/∃C∈gv,C.x.i=j:=by
 rw[Uc (by rw[s.size];omega)];exact s.Y j D
def u9(h:oJ m x=true): ¬m.testBit x.i=true/\∀j,x.ag.testBit j=true->m.testBit j=true:=by
 have C:Z _ _ _=true:=h;cases D:kI _ m with
 |true=>rw[D]at C;trivial
 |false=>grind[cZ,kI,Zk]
theorem rM.ready(s:rM ar m gv i4)(E:x∈fE P ar)(O:oJ m x=true)(Q:∀j∈gv,j.x.i≠x.i):x.i∈hX .any ar i4:=by
 obtain⟨aa,ab⟩:=u9 O;obtain⟨J,K,R⟩:=rK E;refine mem_ready.2 ⟨?_,x.o,J,λj C G=> ?_⟩
 ·cases I:i4.getD _ _ with
  |false=>rfl
  |true=>
   rcases(s.Y _ (rL E)).1 I with q|⟨j,C,q⟩
   ·trivial
   simp_all
 ·have D:=ab _ (by rw[K];exact AN.2 ⟨j,C,G,rfl⟩);exact(s.K7 (s.lt _ D)).2 (.inl D)
def rM.Fa(s:rM ar m gv i4){C}(h:C∈hX .any ar i4):∃y∈fE P ar,y.i=C/\¬m.testBit C=true/\(∀j∈gv,j.x.i≠C)/\∀D,y.ag.testBit D=true->m.testBit D=true\/∃j∈gv,j.x.i=D:=by
 obtain⟨aa,o,ab,I⟩:=mem_ready.1 h;have G:=(tb.1 ab).1;refine⟨_,yz ab,rfl,λq=> ?_,λj E q=> ?_,λD K=> ?_⟩
 ·have:=(s.Y C G).2 (.inl q);simp_all
 ·have:=(s.Y C G).2 (.inr ⟨j,E,q⟩);simp_all
 ·obtain⟨j,E,J,rfl⟩:=AN.1 K;have q:=I j E J;have O:j.on<ar.size:=by
   rcases eC _ _ with z|z
   ·rw[<- s.size];omega
   simp_all
  exact(s.K7 O).1 q
theorem OT{l:Array Bool}{j C}(D:j<l.size):(l.setIfInBounds j true).getD C true=true<->l.getD C true=true\/j=C:=by
 by_cases h:j=C
 ·simp_all
 simp_all
theorem tL.step(K:tL ar i4 (nu+1)){j}(D:j<ar.size)(G:i4.getD j true=false):tL ar (i4.setIfInBounds j true) nu:=by
 obtain⟨C,aa,ab⟩:=K;have O:=aa j D G;refine⟨C.erase j,λJ Q I=> ?_,?_⟩
 ·by_cases E:j=J
  ·simp_all
  ·rw[getD_set_ne _ E]at I;grind
 simp_all
theorem tL.pos{C}(E:tL ar i4 nu)(h:C∈hX .any ar i4):∃j,nu=j+1:=by
 obtain⟨aa,o,ab,_⟩:=mem_ready.1 h;obtain⟨G,D,I⟩:=E;have:=D C (tb.1 ab).1 aa;cases nu with
 |zero=>
  simp_all
 |succ j=>simp
theorem u3{C v j}(h:C≠some j):(gn t C v).get j=t.get j:=by
 cases C with
 |none=>rfl
 |some D=>
  show(c4.set (Nat.succ D) t D _).get j= _;rw[c4.lp,if_neg (λE=>h (by grind))]
theorem FA{C D}{j:Nat}(h:C≠some j):(a.put C D).tmps[j]?=a.tmps[j]?:=by
 cases C with
 |none=>rfl
 |some E=>
  show(a.tmps.setIfInBounds E D)[j]?= _;simp_all
theorem yi.put(W:rP P ar){C}(q:yi P ar m t a C)(O:x∈fE P ar)(J: ¬m.testBit x.i=true)(I:C.x.i≠x.i)(v D)(E:∀d,x.o.dst≠some d->D.tmps[d]?=a.tmps[d]?):yi P ar (gQ m (hL x.i)) (gn t x.o.dst v) D C:=by
 obtain⟨R,U⟩:=W.pT _ q.mem q.k x O I;refine⟨q.mem,q.k,λh=> ?_,λQ G=>(ld ..).2 (.inl (q.NH Q G)),λY K h=>q.op Y (λd j=> ?_) h,q.PJ,λd j=> ?_⟩
 ·rcases(ld ..).1 h with z|z
  ·exact q.cR z
  omega
 ·rw[K d j];refine u3 λz=>J (q.NH _ (U d z j))
 ·rw[E d (R d j)];exact q.dm d j
theorem n2.put(j:n2 P ar m gv i4 (nu+1) t a)(W:rP P ar)(E:x∈fE P ar)(U:oJ m x=true)(J:∀C∈gv,C.x.i≠x.i)(v ak):
  n2 P ar (gQ m (hL x.i)) gv (i4.setIfInBounds x.i true) nu (gn t x.o.dst v) (a.put x.o.dst ak):=by
 obtain⟨aa,ab⟩:=u9 U;have Z:=rL E;have ag:=j.Y.ready E U J;refine⟨⟨by simp[j.Y.size],λI G=> ?_,λI G=> ?_,j.Y.eQ⟩,j.un.step Z (mem_ready.1 ag).1,λC K=>(j.nk C K).put W E aa (J C K) v _ λd D=>FA D,λy R O Q d D=> ?_⟩
 ·rw[OT (by rw[j.Y.size];omega),j.Y.Y I G,ld];grind
 ·rcases(ld ..).1 G with q|q
  ·exact j.Y.lt I q
  omega
 ·have ae:y.i≠x.i:=λC=>Q ((ld ..).2 (.inr C.symm));rw[u3 ((W.pT y R O x E ae).1 d D)];exact j.zc y R O (λq=>Q ((ld ..).2 (.inl q))) d D
def n2.early(C:n2 P ar m gv i4 (nu+1) t a)(au:rP P ar){e:o3}(G:e.x∈fE P ar)(ae:e.x.k=2)(J:e.x.i∈hX .any ar i4)(aC:∀j,e.x.o.dst=some j->j<a.tmps.size)
  (ao:∀K,e.x.ag.testBit K=true->m.testBit K=true) (am:∀Q,(∀j∈e.x.o.looksAt ar,Q.get j=t.get j)->∀h,im e.x.o.op P Q h=some (e.val h.n,h.new e.o)) (av:∀{Ω} (W:aV Ω) O,W O=some (e.B,0)->bq W (e.val O) e.u):
  n2 P ar m (e::gv) (i4.setIfInBounds e.x.i true) nu t (a.put e.x.o.dst e.u):=by
 have ak:=rL G;obtain⟨y,aE,aH,aP,ap,aG⟩:=C.Y.Fa (P:=P) J;refine⟨⟨by simp[C.Y.size],λal Z=> ?_,C.Y.lt,?_⟩,C.un.step ak (mem_ready.1 J).1,λI D=> ?_,C.zc⟩
 ·rw[OT (by rw[C.Y.size];omega),C.Y.Y al Z];grind
 ·simp[eS,ix];refine⟨λh=> ?_,C.Y.eQ⟩;grind
 ·rcases cQ.1 D with rfl|D
  ·refine⟨G,ae,aP,ao,am,av,λj E=> ?_⟩;rw[E];show(a.tmps.setIfInBounds j _)[j]?= _;simp_all
  ·obtain⟨R,U,fM,aw,ax,ay,aI⟩:=C.nk I D;refine⟨R,U,fM,aw,ax,ay,λj E=> ?_⟩;rw[FA ((au.pT _ R U _ G (ap I D)).1 j E)];simp_all
theorem n2.take{E G D}(C:n2 P ar m (E++D::G) i4 nu t a)(ak:rP P ar)(v):
  n2 P ar (gQ m (hL D.x.i)) (E++G) i4 nu (gn t D.x.o.dst v) a:=by
 have I:=C.nk D Q;have av:=rL I.mem;have ae:=(e4.map _).nodup_iff.1 C.Y.eQ;have ap:=λj al q=>(ix.1 ae).1 (List.mem_map.2 ⟨j,al,q⟩);have am:∀j,j∈E++D::G<->j=D\/j∈E++G:=λj=>by grind
 refine⟨⟨C.Y.size,λO K=> ?_,λO K=> ?_,(ix.1 ae).2⟩,C.un,λj U=> ?_,λy ag W Z J R=> ?_⟩
 ·rw[C.Y.Y O K,ld];grind
 ·rcases(ld ..).1 K with q|q
  ·exact C.Y.lt O q
  omega
 ·exact(C.nk j ((am j).2 (.inr U))).put ak I.mem I.cR (ap j U) v a λJ _=>rfl
 ·have ao:y.i≠D.x.i:=λau=>Z ((ld ..).2 (.inr au.symm));rw[u3 ((ak.pT y ag W _ I.mem ao).1 J R)];exact C.zc y ag W (λq=>Z ((ld ..).2 (.inl q))) J R
end
end aX
end
section
namespace aX
variable{Ω:bX}
section
variable{P:Program}{ar:Array Oper}{t jc:dH}{h a6:bQ}{v:al}{o:Oper}{aC:aV Ω}{a:Act}{w:World}
def Ee{S C G j}(D:nA (.convert S C G) P=j):(∃j,mC P C=some j)/\j=0\/j=3:=by
 have E:(bF _ _ _:Nat)=j:=D;cases aa:mC P S<;>cases ab:mC P C<;>rw[aa]at E<;>first|simp_all|simp_all
def Ed{G E}(O:nA (.call G) P=E):(E=0/\G.callee=.builtin .len/\∃j I,sH G.argTypes.toList=some j/\kp P j=some I)\/E=3:=by
 have C:Z _ _ _=E:=O;cases D:L7 _ with
 |false=>rw[D]at C;exact .inr C.symm
 |true=>
  rw[D,df]at C;cases aa:sH _ with
  |none=>simp_all
  |some j=>
   rw[aa]at C;cases ab:kp P j with
   |none=>
    simp_all
   |some I=>
    have J:(bF _ _ _:Nat)=E:=C;rw[ab]at J;refine .inl ⟨J.symm,?_,j,I,rfl,ab⟩;cases K:G.callee with
    |builtin b=>
     rw[K]at D;have Q:=D;cases b<;>first|rfl|cases Q
    | _=>rw[K]at D;trivial
def Vo(K:nA o.op P=0)(j:im o.op P t h=some (v,a6)):a6=h/\iC Ω P t o v:=by
 obtain⟨Z,G,aE,av,W,ae⟩:=o;cases G with
 |move C=>exact N7 j
 |assign C=>exact NU j
 |pick E a b=>exact Ob j
 |build D aw=>exact NW j
 |nilCheck C=>exact N9 j
 |binOp G D C y U=>exact NV j
 |unOp G D C=>
  cases G with
  |not=>exact Oa j
  |neg=>exact N8 j
  | _=>
   obtain⟨E,aa,ab⟩:=ao.1 (show w8 _ C P t h=some _ from j);trivial
 |convert S D C=>
  rcases Ee K with ⟨⟨am,aa⟩,_⟩|aa
  ·exact NX aa j
  omega
 |makeInterface D C=>exact N6 j
 |makeFunc J l E=>exact N5 j
 |slice D C ap ag au=>exact Oc j
 |fieldAddr D C J=>exact NZ j
 |field D C J=>exact N0 j
 |indexAddr D C y=>exact N1 j
 |index D C y=>exact N2 j
 |extract C ak=>exact NY j
 |call E=>
  rcases Ed K with ⟨_,aa,D,ax,ab,Q⟩|aa
  ·obtain⟨Y,⟨O⟩,⟨ay⟩⟩:=E;subst aa;have R:=Fc ab;subst R;have I:yY O _ P t h=some _:=j;obtain⟨C,rfl,_⟩:=AG (show one O _=some _ from I);exact N3 p Q I
  omega
 | _=>first|exact absurd _ bs|trivial|trivial
def Vp(j:nA o.op P=1):∃C D,o.op=.load C D:=by
 obtain⟨J,E,R,O,G,K⟩:=o;cases E with
 |load C D=>simp
 |convert S C D=>
  rcases Ee j with ⟨_,aa⟩|aa<;>cases aa
 |call I=>
  rcases Ed j with ⟨aa,_⟩|aa<;>cases aa
 | _=>first|exact absurd (show(3:Nat)=1 from j) bs|exact absurd (show(2:Nat)=1 from j) Q|exact absurd (show(0:Nat)=1 from j) bs
def QP(Ω:bX)(P:Program)(ar:Array Oper)(t:dH)(o:Oper)(mk:Nat->al)(U:cl):Prop:=
 (∀jc,(∀j∈o.looksAt ar,jc.get j=t.get j)->∀h,im o.op P jc h=some (mk h.n,h.new U))/\
 ∀(aC:aV Ω) (jc:dH) (a:Act),eb aC jc a->(∀j∈o.looksAt ar,jc.get j=t.get j)->∀(g:c0) (E:aG) (w:World) (D:Act->World->Prop) (K:Exit->Act->World->Prop),a4 g E w->
  (∀C I J,(∀{Ω:bX} (aC:aV Ω) G,aC G=some (C,0)->bq aC (mk G) I)->a4 g ((λO=>∀{Ω:bX} (aC:aV Ω),ea aC U C 0 O)::E) J->D (a.put o.dst I) J)->o.wp P a w D K
theorem Ns{j:Operand}(h:∀C,j=.tmp C->jc.get C=t.get C):cX j jc=cX j t:=by
 cases j with
 |tmp D=>exact h D p
 | _=>rfl
def Vq(O:nA o.op P=2)(G:im o.op P t h=some (v,a6)):∃mk U,QP Ω P ar t o mk U:=by
 obtain⟨a4,bz,bI,bA,a2,a8⟩:=o;cases bz with
 |alloc D=>
  obtain⟨K,aa,ab⟩:=ao.1 (show U _ _=some _ from G);obtain⟨W,b1,bK,bN⟩:=s8 aa;refine⟨λn=> .ag n 0,.ce D _,λjc _ h=>ao.2 ⟨K,aa,rfl⟩,λaC jc a s _ g a1 w ax ay au am=> ?_⟩;refine r2 (J:=hP a) a w (d0 a) au ax ay λbY bJ bO ⟨b,a5,a7⟩ bk=> ?_;subst a5 a7;exact am b _ bJ (λaC bl G=> .ag G) (bk.mono λap s=>fg (λap q _ aC=>⟨_,(bK aC).cells,q⟩) s)
 |makeSlice D R y=>
  obtain⟨bx,aa,ab⟩:=ao.1 (show E3 D R y P t h=some (v,a6)from G);obtain⟨l,aO,bc⟩:=ao.1 ab;obtain⟨a3,aQ,bd⟩:=ao.1 bc;obtain⟨j,aS,be⟩:=ao.1 bd;obtain⟨J,aW,a9⟩:=ao.1 be;obtain⟨K,aL,ba⟩:=ao.1 a9;obtain⟨Y,ae,bb⟩:=ao.1 ba;obtain⟨ak,bT⟩:=cu.1 bb;have aX:∀jc,(∀E∈BJ ar ⟨a4,.makeSlice D R y,bI,bA,a2,a8⟩,jc.get E=t.get E)->cX R jc=cX R t/\cX y jc=cX y t:=λjc I=>
   ⟨Ns λE q=>I E (by subst q;unfold BJ;simp[Hg]),Ns λE q=>I E (by subst q;unfold BJ;simp[Hg])⟩
  refine⟨λn=> .dm n 0 l j,.ce J.1 (fB (hM K) j),λjc I h=> ?_,λaC jc a s I g a1 w ax ay au am=> ?_⟩
  ·obtain⟨aH,aP⟩:=aX jc I;refine ao.2 ⟨bx,by simp_all,ao.2 ⟨l,aO,ao.2 ⟨a3,by simp_all,ao.2 ⟨j,aS,ao.2 ⟨J,aW,ao.2 ⟨K,aL,ao.2 ⟨Y,ae,cu.2 ⟨ak,rfl⟩⟩⟩⟩⟩⟩⟩⟩
  ·obtain⟨aH,aP⟩:=aX jc I;rw[<- aH]at aa;rw[<- aP]at aQ;simp only[bL]at ak;obtain⟨aE,aG,aI,Z,aK⟩:=ak;have aE:=eT aE;have aG:=eT aG;have aI:=eT aI;have Z:=eT Z;have aK:=bV aK;obtain⟨bP,a0⟩:=p8 aW;obtain⟨cf,aH,aP⟩:=ao.1 (show U (kj P J.1) (λY=>U Y.zero λv=>xd 9 v)=some K from aL);obtain⟨W,bB,bC⟩:=ao.1 aP;rw[ae]at aH;cases aH;have aZ:∀{Ω:bX} (aC:aV Ω),bh aC (hM K) (ee W):=λaC=>(sG (aC:=aC) 9 bC).cells;have bM:(ee W).length=J.2:=by rw[(aZ aC).len];omega
   obtain⟨bj,aw,bU,bi,_⟩:=a0.spec;have bg:=mB ae;have:aw=Y:=by simp_all
   subst this;obtain⟨bZ,bm,bn⟩:=c8 s aa;obtain⟨b0,bp,bq⟩:=c8 s aQ;obtain⟨bu,rfl⟩:=pl aO;obtain⟨bt,rfl⟩:=pl aS;cases bn;cases bq;have bf:(aw.bytes:Int)*(j:Int)<=281474976710656:=by
    grind
   have av:=run_make (P:=P) w D J.1 aw W bj bg bB bu bt l j Q C bf C;simp only[Int.toNat_natCast]at av;rw[rZ,bi,EK bM Z]at av;unfold dv;simp only[execOp,(d0 a).eval bm,(d0 a).eval bp];simp[av];refine am _ _ _ (λaC bl G=> .dm G) ((au.alloc J.1 (Go.Proofs.YtioamnghkmcbbaaGreat.fB j (ee W))).mono λap s=>fg (λap q _ aC=> ?_) s);obtain⟨bW,bE,aY⟩:=(aZ aC).xC j;rw[<- AY]at aY;subst aY;exact⟨_,bE,q⟩
 |convert S D R=>
  rcases Ee O with ⟨_,aa⟩|aa<;>cases aa
 |call j=>
  rcases Ed O with ⟨aa,_⟩|aa<;>cases aa
 | _=>first|exact absurd (show(3:Nat)=2 from O) bs|exact absurd (show(0:Nat)=2 from O) bs|exact absurd (show(1:Nat)=2 from O) Q
def et{D j}{C:D->Bool}(h:cP j C=true):∃q,j=some q/\C q=true:=by
 cases j with
 |none=>cases h
 |some q=>exact⟨q,rfl,h⟩
def tO{E j D}{l C:List E}(h:gA j (D::l) C=true):∃y s,C=y::s/\j D y=true/\gA j l s=true:=by
 cases C with
 |nil=>cases h
 |cons y s=>
  have a6:Z _ (gA j l s) _=true:=h;rw[dN,bL]at a6;grind
theorem vU{D C}{j:List D}(h:gA C [] j=true):j=[]:=by
 cases j with
 |nil=>rfl
 |cons y s=>cases h
theorem nd{I}(J:∀{v Q}{K O},I v Q=true->bq aC v K->bq aC Q O->K=O):∀{l j}{C D},gA I l j=true->bh aC l C->bh aC j D->C=D
 | [],j,C,D,h,E,G=>by
  have:=vU h;subst this;cases E;cases G;rfl
 |x::l,j,C,D,h,E,G=>by
  obtain⟨y,s,rfl,aa,ab⟩:=tO h;cases E with
  |cons a b=>cases G with
   |cons R U=>rw[J aa a R,nd J ab b U]
theorem ky.fun{j g C}(h:ky aC j g)(D:ky aC j C):g=C:=by
 cases h with
 |yield q=>cases D with
  |yield E=>simp_all
 | _=>cases D;rfl
theorem sL{j y}(h:ln j y=true):j=y:=by
 obtain⟨a,b⟩:=j;obtain⟨C,D⟩:=y;have a6:Z _ _ _=true:=h;simp_all[dN,bV]
def AI{j y}(h:xk j y=true):j=y:=by
 obtain⟨a,b,j⟩:=j;obtain⟨C,D,y⟩:=y;have a6:Z _ _ _=true:=h;rw[dN,bL,dN,bL]at a6;grind[bV,sL]
theorem lf:∀(d){v j}{G I},gF d v j=true->bq aC v G->bq aC j I->G=I
 |0,v,j,G,I,U,h,a6=>by cases U
 |d+1,v,j,G,I,U,h,a6=>by
  have ae:∀{v j:al} {G I:Value},gF d v j=true->bq aC v G->bq aC j I->G=I:=λU h a6=>lf d U h a6;have C:ww v j (gF d)=true:=U;cases v with
  |i ay n=>
   obtain⟨q,aa,ab⟩:=et (show cP (hK j) (λq=>Z (gb ay q.1) (dI n q.2) false)=true from C);rw[dN,bL,hg,lX,decide_eq_true_eq]at ab;rw[kE aa,<- ab.1,<- ab.2]at a6;cases h;cases a6;rfl
  |b W=>
   obtain⟨q,aa,ab⟩:=et (show cP (kD j) (λq=>rY W q)=true from C);rw[pp,beq_iff_eq]at ab;rw[nf aa,<- ab]at a6;cases h;cases a6;rfl
  |s W=>
   obtain⟨q,aa,ab⟩:=et (show cP (qy j) (λq=>decide (W=q))=true from C);rw[decide_eq_true_eq]at ab;rw[tY aa,<- ab]at a6;cases h;cases a6;rfl
  |ag b o=>
   obtain⟨q,aa,ab⟩:=et (show cP (iX j) (λq=>ln (b,o) q)=true from C);have:=sL ab;subst this;rw[ng aa]at a6;cases h with
   |ag Q=>cases a6 with
    |ag R=>simp_all
  |fJ=>
   rw[z4 (show sp j=true from C)]at a6;cases h;cases a6;rfl
  |dm b o n Y=>
   obtain⟨q,aa,ab⟩:=et (show cP (yW j) (λq=>xk (b,o,n,Y) q)=true from C);have:=AI ab;subst this;have D:j=.dm b o n Y:=by cases j<;>cases aa;rfl
   subst D;cases h with
   |dm Q=>cases a6 with
    |dm R=>simp_all
  |cH b o n l=>
   obtain⟨q,aa,ab⟩:=et (show cP (CK j) (λq=>xk (b,o,n,l) q)=true from C);have:=AI ab;subst this;have D:j=.cH b o n l:=by cases j<;>cases aa;rfl
   subst D;cases h with
   |cH Q=>cases a6 with
    |cH R=>simp_all
  |hl=>trivial
  |eA=>
   rw[z5 (show qR j=true from C)]at a6;cases h;cases a6;rfl
  |m b=>
   obtain⟨q,aa,ab⟩:=et (show cP (qx j) (λq=>aA b q)=true from C);have:=bV ab;subst this;rw[tV aa]at a6;cases h with
   |m Q=>cases a6 with
    |m R=>simp_all
  |cR=>
   have D:j=.cR:=by
    have O:LL j=true:=C;cases j<;>cases O;rfl
   subst D;cases h;cases a6;rfl
  |f g l Y=>
   obtain⟨q,aa,ab⟩:=et (show cP (pk j) (λq=>decide (g=q.1)&&(gA (gF d) l q.2.1&&gA (gF d) Y q.2.2))=true from C);simp only[bL,decide_eq_true_eq]at ab;obtain⟨ab,D,ax⟩:=ab;rw[v0 aa,<- ab]at a6;cases h with
   |f J ap au=>cases a6 with
    |f K av aw=>rw[J.fun K,nd ae D ap av,nd ae ax au aw]
  |jt=>
   rw[D6 (show uF j=true from C)]at a6;cases h;cases a6;rfl
  |y ao W=>
   obtain⟨q,aa,ab⟩:=et (show cP (v7 j) (λq=>Z (aA ao q.1) (gF d W q.2) false)=true from C);rw[dN,bL]at ab;rw[CM aa,<- bV ab.1]at a6;cases h with
   |y J=>cases a6 with
    |y K=>grind
  |jv=>
   rw[D7 (show uH j=true from C)]at a6;cases h;cases a6;rfl
  |bm l=>
   obtain⟨q,aa,ab⟩:=et (show cP (n9 j) (λq=>gA (gF d) l q)=true from C);rw[rU aa]at a6;cases h with
   |bm J=>cases a6 with
    |bm K=>rw[nd ae ab J K]
  |b1 l=>
   obtain⟨q,aa,ab⟩:=et (show cP (tZ j) (λq=>gA (gF d) l q)=true from C);rw[CL aa]at a6;cases h with
   |b1 J=>cases a6 with
    |b1 K=>rw[nd ae ab J K]
  |bb E=>
   obtain⟨q,aa,ab⟩:=et (show cP (j9 j) (λq=>aA E q)=true from C);rw[oa aa,<- bV ab]at a6;cases h;cases a6;rfl
  |dK E=>
   obtain⟨q,aa,ab⟩:=et (show cP (pn j) (λq=>aA E q)=true from C);have D:j=.dK q:=by cases j<;>cases aa;rfl
   rw[D,<- bV ab]at a6;cases h with
   |dK Q=>cases a6 with
    |dK R=>simp_all
  |fq E am=>
   have O:bF (cP (pn j) λq=>aA E q) (λq=>ln (E,am) q) (lc j)=true:=C;cases ak:lc j with
   |some q=>
    rw[ak]at O;have:=sL O;subst this;have D:j=.fq E am:=by cases j<;>cases ak;rfl
    rw[D]at a6;cases h with
    |fq Q=>cases a6 with
     |fq R=>simp_all
   |none=>
   rw[ak]at O;obtain⟨q,aa,ab⟩:=et O;have D:j=.dK q:=by cases j<;>cases aa;rfl
   rw[D,<- bV ab]at a6;cases h with
   |fq Q=>cases a6 with
    |dK R=>simp_all
  |xs i E=>
   obtain⟨q,aa,ab⟩:=et (show cP (rW j) (λq=>ln (i,E) q)=true from C);have D:j=.xs q.1 q.2:=by cases j<;>cases aa;rfl
   have:=sL ab;subst this;rw[D]at a6;cases h;cases a6;rfl
  |fL=>trivial
  |h8=>trivial
  |gj E n=>
   obtain⟨q,aa,ab⟩:=et (show cP (t0 j) (λq=>Z (aA E q.1) (dI n q.2) false)=true from C);rw[dN,bL,lX,decide_eq_true_eq]at ab;have D:j=.gj q.1 q.2:=by cases j<;>cases aa;rfl
   rw[D,<- bV ab.1,<- ab.2]at a6;cases h;cases a6;rfl
abbrev Cy:=List (Nat×Nat×List Value)
def kB(ay:Cy)(w:World):Prop:=∀y∈ay,mP y.1 y.2.1 y.2.2 w.hm
def tJ(aC:aV Ω)(C:m4)(ay:Cy):Prop:=∀y∈ay,∃b l j,(b,y.2.1,l)∈C/\aC b=some (y.1,j)/\bh aC l y.2.2
def tJ.mono{C j ay}(l:aC.le C)(E:tJ aC j ay):tJ C j ay:=λy I=>by
 obtain⟨b,s,D,aa,ab,G⟩:=E y I;exact⟨b,s,D,aa,l _ _ ab,G.mono l⟩
def YN{j}(E:p3 h j=true):∀C∈j,∃l,l3 h C.1 C.2.1 (jr C.2.2)=some l/\gA (gF 9) l C.2.2=true:=by
 induction j with
 |nil=>simp
 |cons y j J=>
  have G:Z _ (p3 h j) _=true:=E;rw[dN,bL]at G;intro C D;rcases cQ.1 D with rfl|D
  ·cases I:l3 h _ _ _ with
   |none=>simp_all
   |some l=>simp_all
  simp_all
def Rg{g F j ay}(I:ST g F aC h w)(C:tJ aC j ay)(D:p3 h j=true):kB ay w:=λy E=>by
 obtain⟨b,l,J,aa,ab,K⟩:=C y E;obtain⟨Q,G,O⟩:=YN D _ aa;obtain⟨U,aH,aP,R⟩:=I.cells ab G;grind[nd,lf]
end
end aX
end
section
namespace aX
variable{Ω:bX}
section
variable{P:Program}{ar:Array Oper}{call:hE}{b8:gV}{bB:aG}{bC:aV Ω}{n:Nat}{g:c0}{F:aO}{gl:List Deferred}{eN full:Nat}
theorem YE{j h C}:ja P call b8 ar .nil j h C=some ⟨j,h⟩:=rfl
theorem OI{C s j h D}:ja P call b8 ar (.q C s) j h D=U (ro ar.toList j C.o.guard) λb=>Z b (U (im C.o.op P j h) λv=>ja P call b8 ar s (gn j C.o.dst v.1) h (AU C.o.op P j h D)) (ja P call b8 ar s (gn j C.o.dst (.b1 [])) h D):=rfl
theorem FP{j s C h D}:ja P call b8 ar (.e j s) C h D=Z (aA j.k 2) (U (im j.o.op P C h) λv=>ja P call b8 ar s (gn C j.o.dst v.1) v.2 D)
  (U (ro ar.toList C j.o.guard) λb=>Z b (U (xg P call b8 C h j.o.op) λv=>Z (p3 v.2 D) (ja P call b8 ar s (gn C j.o.dst v.1) v.2 D) (bK (wR P ar j.i j.ag) (ja P call b8 ar s (gn C j.o.dst v.1) v.2 []))) (ja P call b8 ar s (gn C j.o.dst (.b1 [])) h D)):=rfl
def OO{l j s C}(D:oK l eN full (.q j s) C=true):oJ C j=true/\j.k<2/\oK l eN full s (gQ C (hL j.i))=true:=by
 have E:Z _ (Z _ (oK l eN _ s _) _) _=true:=D;simp_all[dN,eT]
def ON{l j s C}(E:oK l eN full (.e j s) C=true):oJ C j=true/\I0 l eN C j.i=true/\¬j.k<2/\oK l eN full s (gQ C (hL j.i))=true:=by
 have D:Z _ (Z _ (Z _ _ (oK l eN _ s _)) _) _=true:=E;rw[dN,bL,dN,bL]at D;obtain⟨aa,ab,G⟩:=D;cases I:dT _ _ with
 |true=>rw[I]at G;trivial
 |false=>
  grind[cZ,dT,Nat.ble_eq_true_of_le]
theorem K5{j C}:(jF (hL j)).testBit C=true<->C<j:=by
 show((1<<<j)-1).testBit C=true<->_;simp[Ia]
def El(ap:rP P ar){y}(Y:y∈fE P ar)(R:y.k=2):∀(s){J}{O}{h}{I}{Z},vT (fE P ar) s->oK (fE P ar) eN (jF (hL ar.toList.length)) s J=true->¬J.testBit y.i=true->(∀E,y.ag.testBit E=true->J.testBit E=true)->ja P call b8 ar s O h I=some Z->
  ∃G aa v ab,im y.o.op P G aa=some (v,ab)/\∀j∈y.o.looksAt ar,G.get j=O.get j
 | .nil,J,O,h,I,Z,Q,ak,am,W,C=>by
  have aW:J=jF _:=bV ak;grind[absurd,K5,rL]
 | .q K s,J,O,h,I,Z,Q,ak,am,W,C=>by
  obtain⟨aH,aP,aL⟩:=OO ak;have U:y.i≠K.i:=λD=>by
   rw[tH Y Q.1 D]at R;omega
  have aw: ¬(gQ J _).testBit _=true:=λD=>((ld ..).1 D).elim am λD=>U D.symm;have ax:∀E,y.ag.testBit E=true->(gQ J (hL K.i)).testBit E=true:=λE av=>(ld ..).2 (.inl (W E av));have au:∀(v:al) {h I},ja P call b8 ar s (gn O K.o.dst v) h I=some Z->∃G aa v ab,im y.o.op P G aa=some (v,ab)/\∀j∈y.o.looksAt ar,G.get j=O.get j:=λv h I C=>by
   obtain⟨G,aa,aE,ab,ay,aC⟩:=El ap Y R s Q.2 aL aw ax C;refine⟨G,aa,aE,ab,ay,λj ae=> ?_⟩;rw[aC j ae];exact u3 λD=>(u9 aH).1 (W _ ((ap.pT y Y R K Q.1 U).2 j D ae))
  rw[OI]at C;obtain⟨b,aa,ab⟩:=ao.1 C;cases b with
  |true=>obtain⟨v,aI,aK⟩:=ao.1 ab;grind
  |false=>exact au _ ab
 | .e K s,J,O,h,I,Z,Q,ak,am,W,C=>by
  obtain⟨aH,aP,aL,aS⟩:=ON ak;rw[FP]at C
  by_cases U:y.i=K.i
  ·have:=tH Y Q.1 U;subst this;rw[R,show aA 2 2=true from rfl,df]at C;obtain⟨v,aI,aK⟩:=ao.1 C;grind
  have aw:=λD=>((ld ..).1 D).elim am λD=>U D.symm;have ax:∀E,y.ag.testBit E=true->(gQ J (hL K.i)).testBit E=true:=λE av=>(ld ..).2 (.inl (W E av));have au:∀(v:al) {h I},ja P call b8 ar s (gn O K.o.dst v) h I=some Z->∃G aa v ab,im y.o.op P G aa=some (v,ab)/\∀j∈y.o.looksAt ar,G.get j=O.get j:=λv h I C=>by
   obtain⟨G,aa,aE,ab,ay,aC⟩:=El ap Y R s Q.2 aS aw ax C;refine⟨G,aa,aE,ab,ay,λj ae=> ?_⟩;rw[aC j ae];exact u3 λD=>(u9 aH).1 (W _ ((ap.pT y Y R K Q.1 U).2 j D ae))
  cases aQ:aA K.k 2 with
  |true=>
   grind[df,ao]
  |false=>
   rw[aQ,cZ]at C;obtain⟨b,aa,ab⟩:=ao.1 C;cases b with
   |true=>
    obtain⟨v,aI,aK⟩:=ao.1 ab;cases aX:p3 v.2 I with
    |true=>grind[df]
    |false=>grind[cZ,cu]
   |false=>exact au _ ab
def Xt{Y h K v}{o:Oper}{I j C}(aI:k1 P (call b8) bB bC)(R:xg P call b8 Y h o.op=some (v,K))(s:bt n gl bC g F bB I Y h j C){J O}
  (aE:∀E G D,I.le D->bq D v E->hq bC D K->a4 g (ha F bB::bJ D K) G->J (j.put o.dst E) G):o.wp P j C J O:=by
 have a9:im _ P Y h=some _->o.wp P j C J O:=λax=>
  cq.op o ax g _ I j C s.fx s.fC J O λE G D U ak W=>aE E G _ U ak (s.gD.of_le U W.dp) W.dC
 cases ag:y7 o.op with
 |none=>
  simp_all[xg]
 |some Q=>
  unfold xg at R;rw[ag]at R;have ae:Z _ _ _=some _:=R;cases aH:t6 Q.callee with
  |true=>
   simp_all[df]
  |false=>
   rw[aH,cZ]at ae;obtain⟨av,aa,ab⟩:=ao.1 ae;obtain⟨aw,al,aZ,aY,au,aC⟩:=o;have aL:al=.call Q:=by cases al<;>cases ag;rfl
   subst aL;obtain⟨a5,a2,a0⟩:=Q;have aK:=ye.of (d:=aw) (ty:=aZ) (pos:=aY) (aft:=au) (gd:=aC) (tys:=a0) (ts:=a2) aa I j s.fx;cases av with
   |fn ay am=>
    obtain⟨a1,aQ,aS⟩:=aK;obtain⟨ap,aW⟩:=aI ay am h v K ab;have aX:=aW I a1 aQ s.gD;unfold dv;rw[aS ap C];refine(aX g F C (qr s.dC)).mono λa6 G aP=> ?_;obtain⟨E,a3,rfl,⟨D,U,ak,W,rfl⟩,a7⟩:=aP;grind[n8]
   |b8 a8 am=>trivial
theorem OF{j C}:∀{l},(xE l j).testBit C=true<->j.testBit C=true\/∃x∈l,j.testBit x.i=true/\x.ag.testBit C=true
 | []=>⟨.inl,λh=>by rcases h with h|⟨x,J,_⟩;exact h;trivial⟩
 |x::l=>by
  have D:xE (x::l) j=Z _ (gQ _ (xE l j)) (xE l j):=rfl;have G:=OF (j:=j) (C:=C) (l:=l);rw[D];cases E:kI _ j with
  |true=>
   have I:j.testBit _=true:=E;rw[df,Mp,G];grind
  |false=>
   simp_all[kI,cZ]
theorem Fr{j}(D:j∈fE P ar){C}(h:j.ag.testBit C=true):C∈q7 ar j.i:=by
 obtain⟨K,E,O⟩:=rK D;rw[E]at h;obtain⟨G,J,I,rfl⟩:=AN.1 h;simp[q7,List.mem_filterMap];grind
def FF:∀(k){C}{F}{j},(∀E,C.testBit E=true->E∈F)->(FE (fE P ar) k C).testBit j=true->j∈xB ar k F
 |0,C,F,j,h,D=>h j D
 |k+1,C,F,j,h,D=>by
  refine FF k (λE G=> ?_) D;grind[List.mem_eraseDups,OF,Fr]
def VC{C}(K:C∈fE P ar)(h:wR P ar C.i C.ag=true):pL ar C.i=true:=by
 have I:=h;simp[pL,lz,lD,mW,List.contains_iff_mem];intro G R;obtain⟨o,J⟩:∃o,ar[G]?=some o:=⟨ar[G],Q⟩;have E:=yz (P:=P) J;have q:=pj.1 (show jO _ _=true from I) _ E;have j:=q;rw[ob,mW,ob,mW,ob,mW]at j;rcases j with j|j|j|j
 ·simp_all
 ·exact .inl (.inl (.inr (FF 8 (λO D=>Fr K D) j)))
 ·refine .inr ?_;unfold uT;simp_all
 ·exact .inl (.inr (FF 8 (λO D=>Fr E D) j))
def Qd{g j C}(h:a4 g (ha (k3 F []) bB::j) C):a4 g (ha F bB::j) C:=
 n8 ((qr h).mono λD s=>G.head (A:=k3 F []) (N:=[F]) (λ_ q=>q) s)
def Qe{g D E j C}(J:j.Perm C)(h:a4 g (ha (k3 F j) bB::D) E):a4 g (ha (k3 F C) bB::D) E:=
 n8 ((qr h).mono λI s=>fg (λI q=>G.perm ((J.map ke).cons F) q) s)
def Qg{g C I j D}(h:a4 g (ke D::ha (k3 F j) bB::C) I):a4 g (ha (k3 F (D::j)) bB::C) I:=by
 refine n8 (h.mono λE s=> ?_);have K:=s.swap;have O:G (k3 F j::(bB++ke D::C)) E:=by simpa using G.part K
 have Q:G (F::(j.map ke++(bB++ke D::C))) E:=by simpa[k3]using G.part O
 have J:(F::(j.map ke++(bB++ke D::C))).Perm ((F::(D::j).map ke)++(bB++C)):=by
  grind[List.Perm.cons,e4]
 exact G.join (G.perm J Q)
def Qf{g C I j D}(h:a4 g (ha (k3 F (D::j)) bB::C) I):a4 g (ke D::ha (k3 F j) bB::C) I:=by
 refine(qr h).mono λE s=> ?_;have J:=G.part s;have K:G (ke D::F::(j.map ke++(bB++C))) E:=by
  have:G (F::ke D::(j.map ke++(bB++C))) E:=by simpa using J
  exact this.swap
 refine K.ep λE O=> ?_;have Q:=G.join (N:=F::j.map ke) (by simpa using O);exact G.join (show G _ E from Q)
end
end aX
end
section
namespace aX
variable{Ω:bX}
section
variable{P:Program}{ar:Array Oper}{call:hE}{b8:gV}{bB:aG}{bC:aV Ω}{n:Nat}{g:c0}{F:aO}{gl:List Deferred}{gx:Exit->Act->World->Prop}{re:dM}{vm:aV Ω}
structure B4 (P:Program) (ar:Array Oper) (bB:aG) (bC:aV Ω) (n:Nat) (gl:List Deferred) (g:c0) (F:aO) (vm:aV Ω) (K:Nat) (C:List o3) (E:Array Bool) (J:Nat) (G:dH) (h:bQ) (O:m4) (ay:Cy) (j:aV Ω) (D:Act) (I:World):Prop where
 he:n2 P ar K C E J G D
 rd:tJ j O ay
 jY:kB ay I
 eZ:bt n gl bC g (k3 F C) bB j G h D I
 le:vm.le j
 eK:o2 ar E
def PN{C}{E:aV Ω}{j o b}(D:ro ar.toList C o.guard=some b)(s:eb E C j):hn o (yielded ar j.tmps)=b:=by
 have:=PM D s;omega
def uh(al:rP P ar)(aS:zo n ar.toList=true)(bf:k1 P (call b8) bB bC)(a9:∀(R:Nat)(o) cp b,ar[R]?=some o->o.op≠ .select cp b)(be:l1 gx)
  (bd:∀b7 b9 ba,vm.le b7->bt n gl bC g F bB b7 re.t re.h b9 ba->gx .normal b9 ba):
  ∀(s) {aL} {W} {ak} {av} {ae} {h} {I} {ay} {aQ} {J} {G},vT (fE P ar) s->oK (fE P ar) (rJ P ar) (jF (hL ar.toList.length)) s aL=true->
   ja P call b8 ar s ae h I=some re->B4 P ar bB bC n gl g F vm aL W ak av ae h I ay aQ J G->l8 P ar gx (kB ay) av ak J G
 | .nil,aL,W,ak,av,ae,h,I,ay,aQ,J,G,K,a8,D,j=>by
  have ca:aL=jF _:=bV a8;subst ca;have cv:∀au,au<ar.size->(jF _).testBit au=true:=λau aE=>K5.2 C;have am:hX .any ar ak=[]:=by
   refine List.eq_nil_iff_forall_not_mem.2 λau aE=> ?_;obtain⟨y,O,aH,aP,_⟩:=j.he.Y.Fa (P:=P) aE;grind[rL]
  have aw:W=[]:=by
   cases W with
   |nil=>rfl
   |cons D W=>exact absurd (cv _ (rL (j.he.nk D Q).mem)) (j.he.nk D Q).cR
  subst aw;rw[YE]at D;cases D;have q:=bd aQ J G j.le ⟨j.eZ.size,j.eZ.gl,j.eZ.fx,j.eZ.gD,Qd j.eZ.dC⟩;cases av with
  |zero=>trivial
  |succ bc=>exact⟨λ_=>q,by simp_all⟩
 | .q E s,aL,W,ak,av,ae,h,I,ay,aQ,J,G,K,a8,D,j=>by
  obtain⟨aH,aP,bE⟩:=OO a8;obtain⟨bx,cO,ck⟩:=rK K.1;have aw:∀D∈W,D.x.i≠E.i:=λD a6 z=>by
   have aa:=(j.he.nk D a6).k;rw[tH (j.he.nk D a6).mem K.1 z]at aa;omega
  have am:=j.he.Y.ready K.1 aH aw;obtain⟨bc,rfl⟩:=j.he.un.pos am;have bT:∀R bi,ar[R]?=some bi->R≠E.i->ak.getD R true=false->(∀D∈bi.after,nW .any D=true->D.on≠E.i)->E.o.apart ar bi=true:=λR bi bh cc di dh=>by
   have O:=yz (P:=P) bh;have dn: ¬(sN bi).testBit E.i=true:=λz=>by
    grind[AN]
   have dq: ¬E.ag.testBit R=true:=λz=>by
    have aa:=(u9 aH).2 R z;have ab:=(j.he.Y.Y R (j.he.Y.lt R aa)).2 (.inl aa);simp_all
   unfold Oper.apart;rw[bL];constructor
   ·cases bq:E.o.dst with
    |none=>rfl
    |some a1=>
     rcases al.I4 E K.1 _ O (λz=>cc z.symm) a1 bq with z|z|⟨aW,aC⟩
     ·trivial
     ·trivial
     simp_all
   ·cases ct:bi.dst with
    |none=>rfl
    |some a1=>
     rcases al.I4 _ O E K.1 cc a1 ct with z|z|⟨aW,aC⟩
     ·trivial
     ·trivial
     simp_all
  have bP:∀(ap:Value) bl J G,gx (.panic bl) (J.put E.o.dst ap) G->gx (.panic bl) J G:=λap bl J G z=>absurd z (be bl _ G);have bq:ef n E.o.dst=true:=by
   have aa:=zp aS;grind[ui,lz,kZ]
  rw[OI]at D;obtain⟨b,aa,ab⟩:=ao.1 D;have a2:=PN aa j.eZ.fx;cases b with
  |false=>
   have bu:=uh al aS bf a9 be bd s K.2 bE ab ⟨j.he.put al K.1 aH aw (.b1 []) undef,j.rd,j.jY,j.eZ.put bq (aV.le.refl _) (.b1 .nil) j.eZ.gD j.eZ.dC,j.le,j.eK.step am⟩;exact Bt bx a9 (bP _) (λ_=>True) (λ_ _=>trivial) bc (kB ay) ak J G (λ_ _=>trivial) j.eK bT am (.inr ⟨a2,rfl⟩) j.jY bu
  |true=>
   obtain⟨⟨v,ax⟩,a5,aX⟩:=ao.1 ab;rcases(show E.k=0\/E.k=1 by omega)with aI|aI
   ·obtain⟨ca,cB⟩:=Vo C a5;obtain⟨ap,aK,a6⟩:=cB aQ J j.eZ.fx;have bU:AU E.o.op P ae h I=I:=by
     have cy:nA E.o.op P=0:=C;cases bz:E.o.op<;>first|rfl|(rw[bz]at cy;trivial)
    rw[bU]at aX;have bu:=uh al aS bf a9 be bd s K.2 bE aX ⟨j.he.put al K.1 aH aw v ap,j.rd,j.jY,j.eZ.put bq (aV.le.refl _) aK j.eZ.gD j.eZ.dC,j.le,j.eK.step am⟩;exact Bt bx a9 (bP _) (λ_=>True) (λ_ _=>trivial) bc (kB ay) ak J G (λ_ _=>trivial) j.eK bT am (.inl ⟨a2,λG _=>a6 J G (d0 J) trivial⟩) j.jY bu
   ·obtain⟨bk,y,bz⟩:=Vp (o:=E.o) (by rw[<- ck];omega);rw[bz]at a5 aX;obtain⟨rfl,q,cV,l,aW,aC,fM,b6⟩:=N4 a5;obtain⟨dt,du,da⟩:=c8 j.eZ.fx aW;cases da with
    | @ag _ _ a0 bl co=>
     obtain⟨bj,c7,b5,bM⟩:=j.eZ.fC.cells co fM;obtain⟨ap,c9,cn⟩:=Mo (d:=E.o.dst) (T:=bk) (x:=y) (aQ:=E.o.type) (a3:=E.o.pos) (a2:=E.o.after) (a0:=E.o.guard) j.eZ.fx aW aC b6 co c7 b5;have bY:E.o=⟨E.o.dst,.load bk y,E.o.type,E.o.pos,E.o.after,E.o.guard⟩:=by rw[<- bz]
     rw[<- bY]at cn;have bU:AU (.load bk y) P ae ax I=(q.1,q.2,l)::I:=by
      show(bF I (λv=>bF I (λq=>bF I (λs=>bF I (λl=>(q.1,q.2,l)::I) (l3 ax q.1 q.2 s.2)) (oL P bk)) (iX v)) (cX y ae):m4)= _;rw[aW];show(bF I (λs=>bF I (λl=>(q.1,q.2,l)::I) (l3 ax q.1 q.2 s.2)) (oL P bk):m4)= _;rw[aC];show(bF I (λl=>(q.1,q.2,l)::I) (l3 ax q.1 q.2 cV.2):m4)= _;rw[fM]
     rw[bU]at aX;have a7:kB ((a0,q.2,bj)::ay) G:=λy O=>by
      rcases cQ.1 O with rfl|O
      ·omega
      ·exact j.jY y O
     have cC:tJ aQ ((q.1,q.2,l)::I) ((a0,q.2,bj)::ay):=λy O=>by
      rcases cQ.1 O with rfl|O
      ·grind
      ·obtain⟨b,dk,de,c2,c3,cm⟩:=j.rd y O;grind
     have bu:=uh al aS bf a9 be bd s K.2 bE aX ⟨j.he.put al K.1 aH aw v ap,cC,a7,j.eZ.put bq (aV.le.refl _) c9 j.eZ.gD j.eZ.dC,j.le,j.eK.step am⟩;refine Bu (gT:=kB ((a0,q.2,bj)::ay)) (λG a2 y O=>a2 y (by grind)) _ _ _ _ ?_;refine Bt bx a9 (bP _) (kB ((a0,q.2,bj)::ay)) (λaY=> ?_) bc (kB ((a0,q.2,bj)::ay)) ak J G (λ_ z=>z) j.eK bT am (.inl ⟨a2,λG a2=> ?_⟩) a7 bu
     ·exfalso;unfold uT at aY;rw[bx]at aY;simp only at aY;unfold kM at aY;grind
     ·exact cn J G (d0 J) ⟨G.hm,λ_=>none,λ_=> .inr p,d7.refl _,λ_ _ D=>(by cases D),a2 (a0,q.2,bj) Q,trivial⟩
 | .e E s,aL,W,ak,av,ae,h,I,ay,aQ,J,G,K,a8,D,j=>by
  obtain⟨aH,aP,bE,bI⟩:=ON a8;obtain⟨bx,cO,ck⟩:=rK K.1;have bQ:∀{y:f8},y∈fE P ar->ef n y.o.dst=true:=λO=>by
   have aa:=zp aS;simp only[ui,lz]at aa;exact aa _ (kZ (by simpa using(rK O).1))
  have bN:∀{aL W ak av ae h I ay aQ J G},oK (fE P ar) (rJ P ar) (jF (hL ar.toList.length)) s aL=true->ja P call b8 ar s ae h I=some re->B4 P ar bB bC n gl g F vm aL W ak av ae h I ay aQ J G->l8 P ar gx (kB ay) av ak J G:=
   λa8 D j=>uh al aS bf a9 be bd s K.2 a8 D j
  have cl:∀{av:Nat} {W:List o3} {ak:Array Bool} {J:Act} {G:World},B4 P ar bB bC n gl g F vm aL W ak av ae h I ay aQ J G->(∃D∈W,D.x.i=E.i)->l8 P ar gx (kB ay) av ak J G:=λ{av W ak J G} j aw=>by
   obtain⟨bb,cb,cH⟩:=aw;have aE:=j.he.nk bb cb;have bY:=tH aE.mem K.1 cH;obtain⟨dc,dd,rfl⟩:=List.append_of_mem cb;have aI:=aE.k;subst bY;rw[FP,aI,show aA 2 2=true from rfl,df]at D;obtain⟨v,a5,aX⟩:=ao.1 D;rw[aE.op ae (λ_ _=>rfl) h]at a5;cases a5;have cz:=Qf (Qe e4 j.eZ.dC);obtain⟨aZ,bZ,bA⟩:=ST.new (B:=bb.B) (c:=0) (o:=bb.o) j.eZ.gD.dp (cz.mono λaY q=>fg (λaY q=>q _) q);refine bN bI aX ⟨j.he.take al _,j.rd.mono aZ,j.jY,⟨j.eZ.size,j.eZ.gl,λau v aK=> ?_,j.eZ.gD.of_le aZ bA.dp,bA.dC⟩,j.le.trans aZ,j.eK⟩
   by_cases aS:bb.x.o.dst=some au
   ·rw[aS]at aK;have ci:(c4.set (Nat.succ au) ae au (some (bb.val h.n))).get au=some v:=aK;rw[c4.lp,if_pos p]at ci;cases ci;exact⟨bb.u,aE.PJ _ _ bZ,aE.dm au aS⟩
   ·rw[u3 aS]at aK;obtain⟨ap,aW,aC⟩:=j.eZ.fx au v aK;exact⟨ap,aW.mono aZ,aC⟩
  induction av generalizing W ak J G with
  |zero=>
   by_cases aw:∃D∈W,D.x.i=E.i
   ·exact cl j aw
   ·exfalso;have am:=j.he.Y.ready K.1 aH λD a6 z=>aw ⟨D,a6,z⟩;obtain⟨bc,dg⟩:=j.he.un.pos am;omega
  |succ bc cK=>
   by_cases aw:∃D∈W,D.x.i=E.i
   ·exact cl j aw
   have bp:∀D∈W,D.x.i≠E.i:=λD a6 z=>aw ⟨D,a6,z⟩;have am:=j.he.Y.ready K.1 aH bp;refine⟨λz=>(by rw[z]at am;cases am),λau aE=> ?_⟩;obtain⟨y,O,rfl,b0,dr,b3⟩:=j.he.Y.Fa (P:=P) aE;obtain⟨cj,dj,cM⟩:=rK O
   by_cases aI:y.k=2
   ·have cf:∀R,y.ag.testBit R=true->aL.testBit R=true:=λR bh=>by
     rcases b3 R bh with z|⟨bm,bs,z⟩
     ·exact z
     ·have aa:=j.he.nk bm bs;exact absurd ((Ck aa.mem).2 aa.k) (by rw[z];exact(al.MD y O aI).2 R bh)
    obtain⟨ds,aa,v,ab,aW,aC⟩:=El al O aI (.e E s) K a8 b0 cf D;obtain⟨mk,U,cS,cT⟩:=Vq (ar:=ar) (o:=y.o) (by rw[<- cM];exact aI) aW;have cx:=(al.MD y O aI).1;unfold wpOp;simp only[cj,hn,cx,if_true];refine .inl (cT aQ ae J j.eZ.fx (λa1 bg=>(aC a1 bg).symm) g [λaY=>aY=G.hm] G _ _ ⟨j.eZ.dC.g,G.hm,λ_=>none,λ_=> .inr p,d7.refl _,λ_ _ D=>(by cases D),rfl,trivial⟩ λa0 ap ba aK ce=> .inr ?_);have cE:d7 G.hm ba.hm:=by
     obtain⟨c2,c3,_,_,b5,_,⟨cm,c6,_,bM,_,bO,_⟩⟩:=ce.s;subst bO;exact bM.trans b5
    have cA:a4 g (ke ⟨y,mk,U,a0,ap⟩::ha (k3 F W) bB::bJ aQ h) ba:=ce.mono λaY q=>q.ep λaY q=>by
     obtain⟨cm,c6,_,bM,_,bO,_⟩:=q;subst bO;exact j.eZ.dC.s.up bM
    have a7:kB ay ba:=λz cJ R ap bh=>hw.sub (j.jY z cJ R ap bh) cE;have cs:=j.he.zc y O aI b0;refine⟨a7,cK _ _ _ _ ⟨j.he.early al (e:=⟨y,mk,U,a0,ap⟩) O aI aE (λa1 bg=>by rw[j.eZ.size];exact J8 (bQ O) _ bg) cf (λcW cG ax=>cS cW (λa1 bg=>by rw[cG a1 bg,aC a1 bg]) ax) aK,j.rd,a7,⟨by rw[<- j.eZ.size];cases y.o.dst<;>simp[GX],by rw[<- j.eZ.gl];cases y.o.dst<;>rfl,λau v aK=> ?_,j.eZ.gD,Qg cA⟩,j.le,j.eK.step aE⟩⟩;obtain⟨c1,fM,b6⟩:=j.eZ.fx au v aK;refine⟨c1,fM,?_⟩;rw[FA λz=>by rw[cs au z]at aK;cases aK];exact b6
   have cI:y=E:=by
    have q:=pj.1 (show jO _ _=true from aP) y O;rw[ob,mW,ob,mW,ob,mW,ob,mW]at q;rcases q with q|q|q|q|q
    ·exact absurd q b0
    ·exact tH O K.1 (bV q)
    ·exact absurd ((Ck O).1 q) aI
    ·rcases b3 E.i q with z|⟨bm,bs,z⟩
     ·exact absurd z (u9 aH).1
     ·exact absurd z (bp bm bs)
    ·rw[l0]at q;obtain⟨R,aW,aC⟩:=WY (j:=y.ag) (b:=gQ aL (rJ P ar)) (by simpa using q);rw[Mp]at aC;rcases b3 R aW with z|⟨bm,bs,z⟩
     ·exact absurd (.inl z) aC
     ·have aa:=j.he.nk bm bs;exact absurd (.inr (by rw[<- z];exact(Ck aa.mem).2 aa.k)) aC
   subst cI;rw[FP,CR aI,cZ]at D;obtain⟨b,aa,ab⟩:=ao.1 D;have a2:=PN aa j.eZ.fx;unfold wpOp;simp only[cj,a2];cases b with
   |false=>
    rw[cZ]at ab;simp only[Bool.false_eq_true,if_false];exact .inr ⟨j.jY,bN bI ab ⟨j.he.put al K.1 aH bp (.b1 []) undef,j.rd,j.jY,j.eZ.put (bQ K.1) (aV.le.refl _) (.b1 .nil) j.eZ.gD j.eZ.dC,j.le,j.eK.step am⟩⟩
   |true=>
    rw[df]at ab;obtain⟨⟨v,ax⟩,a5,aX⟩:=ao.1 ab;simp only[if_true];refine .inl (Xt bf a5 j.eZ λap ba b7 aZ bZ bA cP=> ?_);have b4:=j.eZ.put (bQ K.1) aZ bZ bA cP;cases bW:p3 ax I with
    |true=>
     have bn:Z (p3 ax I) (ja P call b8 ar s (gn ae y.o.dst v) ax I) (bK (wR P ar y.i y.ag) (ja P call b8 ar s (gn ae y.o.dst v) ax []))=some re:=aX;rw[bW,df]at bn;have a7:kB ay ba:=Rg b4.fC (j.rd.mono aZ) bW;exact .inr ⟨a7,bN bI bn ⟨j.he.put al K.1 aH bp v ap,j.rd.mono aZ,a7,b4,j.le.trans aZ,j.eK.step am⟩⟩
    |false=>
     have bn:Z (p3 ax I) (ja P call b8 ar s (gn ae y.o.dst v) ax I) (bK (wR P ar y.i y.ag) (ja P call b8 ar s (gn ae y.o.dst v) ax []))=some re:=aX;rw[bW,cZ]at bn;obtain⟨cq,cr⟩:=cu.1 bn;refine .inl ⟨VC K.1 cq,kB [],(λ_ h=>by cases h),?_⟩;exact uh al aS bf a9 be bd s K.2 bI cr ⟨j.he.put al K.1 aH bp v ap,(λ_ h=>by cases h),(λ_ h=>by cases h),b4,j.le.trans aZ,j.eK.step am⟩
def JP{C}:∀(l){j},j.get C=none->(oe l j).get C=none
 | [],j,h=>h
 |x::l,j,h=>by
  have E:oe (x::l) j=oe l _:=rfl;rw[E];refine JP l ?_;cases aA _ 2 with
  |false=>exact h
  |true=>
   cases x.o.dst with
   |none=>exact h
   |some D=>
    show(c4.set (Nat.succ D) j D _).get C=none;simp_all[c4.lp,if_neg]
def JO{D}{j:Nat}:∀(l:List f8){C},D∈l->D.k=2->D.o.dst=some j->(oe l C).get j=none
 |y::l,C,h,G,E=>by
  have I:oe (y::l) C=oe l _:=rfl;rw[I];rcases cQ.1 h with rfl|h
  ·rw[G,E];refine JP l ?_;show(c4.set (Nat.succ j) C j _).get j=none;rw[c4.lp,if_pos p]
  ·exact JO l h G E
def JQ{E v}:∀(l){j},(oe l j).get E=some v->j.get E=some v
 | [],j,h=>h
 |x::l,j,h=>by
  have G:oe (x::l) j=oe l _:=rfl;rw[G]at h;have C:=JQ l h;cases D:aA _ 2 with
  |false=>rw[D]at C;trivial
  |true=>
   rw[D,df]at C;cases I:x.o.dst with
   |none=>simp_all
   |some J=>
    rw[I]at C;simp_all[c4.lp,if_neg]
def RZ{o:Oper}(h:yZ o.op=false):(∀C,o.op≠ .defer C)/\∀D b,o.op≠ .select D b:=
 ⟨λC j=>(by rw[j]at h;cases h),λD b j=>(by rw[j]at h;cases h)⟩
def zn(J:P.follows .mixedOrders=true)(call aS):tx Ω P call aS:=λ{b8 bB bC n g F gl id ar s re aX aY aW gx} ao Y W ap R C av=>by
 have E:Z _ _ _=some re:=R;cases O:No P _ with
 |false=>rw[O]at E;trivial
 |true=>
  rw[O,df]at E;have U:Z _ _ _=true:=O;rw[dN,bL,dN,bL,dN,bL]at U;obtain⟨aI,aK,aL,aQ⟩:=U;have ag:=Rc aI aK aL;have am:∀{ae:Nat} {o:Oper},ar[ae]?=some o->(∀ak,o.op≠ .defer ak)/\∀D b,o.op≠ .select D b:=λK=>RZ (ag.bad _ (yz K));have ax:nG ar.toList=true:=by
   unfold nG;grind[List.mem_iff_getElem?]
  have aE:=uh ag ap ao (λae o D b K=>(am K).2 D b) W.fJ av _ (W:=[]) (ak:=nV ar.size false) (av:=ar.size) (ay:=[]) (G:=aW.drew) (AM _ _ _) aQ E
   ⟨⟨⟨Q,λj I=>⟨λh=>(by simp_all),λh=>(by simp_all)⟩,λj h=>absurd h Q,Q⟩,⟨hZ ar.size,λj I _=>lD.2 I,Q⟩,λR a0=>(by trivial),λa1 aC aw _ aZ au=>JO _ aC aw au⟩,
    λy Y=>(by trivial),λy Y=>(by trivial),⟨C.size,C.gl,λj v ay=>C.fx j v (JQ _ ay),C.gD,?_⟩,aV.le.refl _,λj I=> ?_⟩
  ·obtain⟨l⟩:=ar;exact wpIn_region_any J (Bv ax W.no _ _ _ _<|xX (S:=kB []) _ _ _ _ aE)
  ·refine C.dC.drew.mono λJ q=> ?_;have aH:=G.part (N:=F::bB) q;have aP:=G.join (N:=[F]) aH;exact G.join (N:=k3 F []::bB) (show G ((k3 F []::bB)++bJ aX s.h) J from aP)
  ·exfalso;rcases eC j ar.size with al|al
   ·simp_all
   simp_all
end
end aX
end
section
namespace aX
variable{Ω:bX}
section
variable{P:Program}{call:hE}{n:Nat}{g:c0}{F:aO}{b8:gV}{bB:aG}{bC aC:aV Ω}{h:bQ}
def si(D:List Nat)(G:cs)(j:Array Value):Array Value:=(D.zip G).foldl (λj (E,C)=>j.setIfInBounds E C) j
theorem K3:∀(j)(D)(C),(si j D C).size=C.size
 | [],D,C=>rfl
 |ag::j,[],C=>rfl
 |ag::j,E::D,C=>by
  show(si j D _).size= _;rw[K3 j D];simp
def OS:∀(C)(G)(j){E}{D},CG n C=true->D.size=n->bh aC G j->eb aC E ⟨D,[]⟩->eb aC (Bc C G E) ⟨si C j D,[]⟩
 | [],G,j,E,D,J,K,I,s=>s
 |ag::C,[],j,E,D,J,K,I,s=>by cases I;exact s
 |ag::C,v::G,j,E,D,J,K,I,s=>by
  cases I with
  | @cons _ W _ j Q b=>
   have O:Z _ _ _=true:=J;rw[dN,bL]at O;refine OS C G j O.2 (by simp_all) b ?_;exact s.put (d:=some ag) Q (λU R=>by simp_all)
def OD(call)(be:∀{b8}{bB}{bC:aV Ω},jM P b8 bB bC->k1 P (call b8) bB bC)(bM:∀au,tx Ω P call au):pa Ω P call none:=λ{b8 bB bC n g F E f I R y s b3 b6 aC O ak dk} bk du cA ae K cC=>by
 have bd:Z (Z (i5 R) (i5 y) false) (JB f I (gW R) (gW y)) wa P call b8 s=some (b6,b3):=ae;cases bj:Z (i5 R) (i5 y) false with
 |false=>rw[bj]at bd;trivial
 |true=>
  rw[bj,df]at bd;rw[dN,bL]at bj;obtain⟨ds,aa,ab⟩:=ao.1 (show U (cX f s.t) (λv=>U (pk v) λq=>U (CJ q.1) λg=>U (call (FN b8 s.h.n s.t I.toList (gW R P call b8) (gW y P call b8)) g (q.2.1++ .f (.yield s.h.n) [] []::q.2.2) (s.h.new .no)) λau=>some (X.ju,(⟨s.t,au.2⟩:dM)))=some (b6,b3)from bd);obtain⟨q,cq,cr⟩:=ao.1 ab;obtain⟨aZ,bI,cs⟩:=ao.1 cr;obtain⟨⟨dz,a9⟩,ct,cv⟩:=ao.1 cs;cases cv;have bN:Z (CG n I.toList) (Z (ps n R) (ps n y) false) false=true:=cA;rw[dN,bL,dN,bL]at bN;obtain⟨ck,cl,cm⟩:=bN;obtain⟨dy,c1,bT⟩:=c8 K.fx aa;rw[v0 cq]at bT;obtain⟨fn,dw,dq⟩:=q;cases bT with
  | @f _ cp _ _ bb a7 cE cH cy=>
   have cG:fn=.func aZ/\cp=.func aZ:=by
    cases fn<;>first|(cases bI;done)|skip
    cases bI;cases cE;simp
   obtain⟨rfl,rfl⟩:=cG;refine wpIn_rangeFunc λaY _=> ?_;have bc:=(K.dC.tQ (.deferred (some []))).tQ (.loop {state:=.ready,pending:=none,fn:=aY,tmps:=O.tmps,params:=I,assign:=R,body:=y,defers:=ak.heap.size});rw[World.size_alloc]at bc;have bf:=run_enterLoop_outer (P:=P) (w:=ak) aY O.tmps I R y;generalize dt:(ak.alloc (.deferred (some []))).alloc (.loop {state:=.ready,pending:=none,fn:=aY,tmps:=O.tmps,params:=I,assign:=R,body:=y,defers:=ak.heap.size})=aw at bc bf;obtain⟨l,bP⟩:∃l,l=ak.heap.size+1:=⟨_,rfl⟩;obtain⟨C,bO⟩:∃C,C=ak.heap.size:=⟨_,rfl⟩
   let ay:LoopState->Option Code->Obj:=λdd q=> .loop ⟨dd,q,aY,O.tmps,I,R,y,C⟩
   have ar:aC.le (ext aC s.h.n (l,0)):=sd _ (K.gD.dp _ (bv _));have cV:jM P (FN b8 s.h.n s.t I.toList (gW R P call b8) (gW y P call b8)) (bz l (ay .ready none)::bB) (ext aC s.h.n (l,0)):=λaK a3 h v a9 ae=>by
    have a8:Z (aA aK s.h.n) (U (bK (aA (jr a3) I.toList.length) (gW R P call b8 ⟨Bc I.toList a3 s.t,h⟩)) λq=>X.rec (U (gW y P call b8 q.2) λau=>X.rec (some (.b true,au.2.h)) (λ_=>none) none au.1) (λ_=>none) none q.1) (b8 aK a3 h)=some (v,a9):=ae;cases bg:aA aK s.h.n with
    |false=>
     rw[bg,cZ]at a8;obtain⟨c2,cf,b,aQ,a6,fM⟩:=bk aK a3 h v a9 a8;refine⟨c2,cf,b,(K.gD.kK.trans ar) _ _ aQ,a6,λaI aL ba ax=> ?_⟩;have bA:=ic.frame [bz l (ay .ready none)] (fM aI aL ba ⟨ax.dp,(K.gD.kK.trans ar).trans ax.kK⟩) (M:=bz l (ay .ready none)::bB++bJ aI h) (λ_ s=>s);refine bA.mono λdn b9 ⟨dj,⟨aH,W,aP,a1,b0⟩,b1⟩=>⟨aH,W,aP,⟨a1.dp,ax.kK.trans aP⟩,?_⟩;simp_all
    |true=>
     have:=bV bg;subst this;rw[bg,df]at a8;obtain⟨⟨bu,av⟩,aQ,a6⟩:=ao.1 a8;obtain⟨dh,aQ⟩:=cu.1 aQ;have cS:bu=.ju:=by cases bu<;>first|rfl|trivial
     subst cS;obtain⟨⟨bx,aE⟩,fM,bA⟩:=ao.1 (show U (gW y P call b8 av) (λau=>X.rec (some (al.b true,au.2.h)) (λ_=>none) none au.1)=some (v,a9)from a6);have cT:bx=.ju:=by cases bx<;>first|rfl|trivial
     subst cT;cases bA;refine⟨l,0,true,ux _,rfl,λaI aL ba ax=> ?_⟩;have cn:hq bC aI h:=⟨ax.dp,(K.gD.kK.trans ar).trans ax.kK⟩;intro ap J b5 a0;have cR:a4 ap (bz l (ay .ready none)::J::(bB++bJ aI h)) b5:=a0.mono λ_ s=>s.swap;have cI:aL.toArray.size=I.size:=by
      have:=bV dh;rw[<- ba.len]at this;omega
     have cW:=run_yield (P:=P) (args:=aL.toArray) cR.hV cI;refine⟨aY,si I.toList aL O.tmps,R,y,?_,roundIn_of_wpIn trivial ?_⟩
     ·rw[cW]
      congr 2
      simp only[si];obtain⟨I⟩:=I;simp
     have da:bt n (mk []) bC ap (hG (λj=>G [J,bz l (ay .ready none)] j) []) bB aI (Bc I.toList a3 s.t) h ⟨si I.toList aL O.tmps,[]⟩ b5:=by
      refine⟨by rw[show(⟨si I.toList aL O.tmps,[]⟩:Act).tmps.size= _ from K3 _ _ _];exact K.size,rfl,OS _ _ _ ck K.size ba λbl v bi=> ?_,cn,n8 (a0.mono λj s=> ?_)⟩
      ·obtain⟨bs,bq,c4⟩:=K.fx bl v bi;exact⟨bs,bq.mono (ar.trans ax.kK),c4⟩
      ·have av:G ([J,bz l (ay .ready none)]++(bB++bJ aI h)) j:=s;have aE:=G.join av;exact G.join (N:=[λj=>G [J,bz l (ay .ready none)] j]) aE
     have ci:=Dc (r:=some l) (g:=ap) be (bM _) R (ap:=λae aX aW=>ae=.normal/\∃am ag,aI.le ag/\bt n (mk am) bC ap (hG (λj=>G [J,bz l (ay .ready none)] j) am) bB ag av.t av.h aX aW)
      (λD=>by simp_all) bk ⟨(λ⟨O,ak,D,_⟩=>by grind),(λce O ak ⟨D,_⟩=>by grind)⟩ cl aQ da λam ag aX aW bm aE=>⟨rfl,am,ag,bm,aE⟩
     refine lw (λae ca a5 cM=> ?_) ci;obtain⟨D,Y,W,bU,a2⟩:=cM;subst D;have mid:∀{o:Obj} {Y:List Nat} {W:aV Ω} {aS:bQ} {a5:World},a4 ap (ha (hG (λj=>G [J,bz l o] j) Y) bB::bJ W aS) a5->a4 ap (bz l o::J::(iI Y++(bB++bJ W aS))) a5:=λ{o Y W aS a5} bp=>(qr bp).mono λj s=>by
      have aH:G (((λj=>G [J,bz l o] j)::iI Y)++(bB++bJ W aS)) j:=G.part (N:=(λj=>G [J,bz l o] j)::iI Y) s;have aP:G ([J,bz l o]++(iI Y++(bB++bJ W aS))) j:=G.part (N:=[J,bz l o]) (by simpa using aH);have a1:G (J::bz l o::(iI Y++(bB++bJ W aS))) j:=aP;exact a1.swap
     have bY:=mid a2.dC;refine⟨_,run_beginRound bY.hV p,?_⟩;have c6:=bY.eR (ay .busy none);have dc:bt n (mk Y) bC ap (hG (λj=>G [J,bz l (ay .busy none)] j) Y) bB W av.t av.h ca (a5.putObj l (ay .busy none)):=by
      refine⟨a2.size,a2.gl,a2.fx,a2.gD,n8 (c6.mono λj s=> ?_)⟩;have aH:G ([J,bz l (ay .busy none)]++(iI Y++(bB++bJ W av.h))) j:=s.swap;have aP:G (((λj=>G [J,bz l (ay .busy none)] j)::iI Y)++(bB++bJ W av.h)) j:=by simpa using G.join aH
      exact G.join aP
     have cj:=Dc (r:=some l) (g:=ap) be (bM _) y (ap:=λae aX aW=>ae=.normal/\∃am ag,W.le ag/\bt n (mk am) bC ap (hG (λj=>G [J,bz l (ay .busy none)] j) am) bB ag aE.t aE.h aX aW)
      (λD=>by simp_all) bk ⟨(λ⟨O,ak,D,_⟩=>by grind),(λce O ak ⟨D,_⟩=>by grind)⟩ cm fM dc λam ag aX aW bm aE=>⟨rfl,am,ag,bm,aE⟩
     refine lw (λae dm dA cO=> ?_) cj;obtain⟨D,dr,di,bW,b4⟩:=cO;subst D;have bZ:=mid b4.dC;have c7:=(bZ.eR (ay .ready none)).mono λj s=>s.swap;refine⟨_,_,run_endRound none bZ.hV,true,_,rfl,⟨rfl,di,bU.trans bW,⟨b4.gD.dp,ax.kK.trans (bU.trans bW)⟩,rfl⟩,?_⟩;refine a4.mono (λj s=> ?_) c7;refine s.ep λj s=>s.ep λj s=> ?_;obtain⟨bu,bx,_,_,de,_,dg⟩:=s.split;exact dg.up de
   have cJ:(∀aK,(s.h.new .no).n<=aK->ext aC s.h.n (l,0) aK=none)/\a4 g (hG F (C::E)::((bz l (ay .ready none)::bB)++bJ (ext aC s.h.n (l,0)) (s.h.new .no))) aw:=by
    have cb:a4 g ((λj=>G [bz l (ay .ready none),bz C (.deferred (some []))] j)::ha (hG F E) bB::bJ aC s.h) aw:=by
     refine bc.mono λj D=> ?_;rw[<- bP,<- bO]at D;exact G.join (N:=[bz l (ay .ready none),bz C (.deferred (some []))]) D
    have cc:a4 g ((λj=>G ((λj=>G [bz l (ay .ready none),bz C (.deferred (some []))] j):: [ha (hG F E) bB]) j)::bJ aC s.h) aw:=cb.mono λj D=>G.join (N:=[(λj=>G [bz l (ay .ready none),bz C (.deferred (some []))] j),ha (hG F E) bB]) D;obtain⟨_,_,bE⟩:=ST.new (B:=l) (c:=0) (o:=.no) K.gD.dp cc.Pz;refine⟨bE.dp,bE.dC.mono λj D=> ?_⟩;have aH:G ([(λj=>G [bz l (ay .ready none),bz C (.deferred (some []))] j),ha (hG F E) bB]++bJ (ext aC s.h.n (l,0)) (s.h.new .no)) j:=G.part (N:=[(λj=>G [bz l (ay .ready none),bz C (.deferred (some []))] j),ha (hG F E) bB]) D;have aP:G ([bz l (ay .ready none),bz C (.deferred (some []))]++(ha (hG F E) bB::bJ (ext aC s.h.n (l,0)) (s.h.new .no))) j:=G.part (N:=[bz l (ay .ready none),bz C (.deferred (some []))]) aH;have a1:G (ha (hG F E) bB::([bz l (ay .ready none),bz C (.deferred (some []))]++bJ (ext aC s.h.n (l,0)) (s.h.new .no))) j:=G.perm e4 aP;have b0:G (hG F E::(bB++([bz l (ay .ready none),bz C (.deferred (some []))]++bJ (ext aC s.h.n (l,0)) (s.h.new .no)))) j:=G.part (N:=hG F E::bB) a1;have b1:G (F::(iI E++(bB++([bz l (ay .ready none),bz C (.deferred (some []))]++bJ (ext aC s.h.n (l,0)) (s.h.new .no))))) j:=G.part (N:=F::iI E) b0;have bp:(iI E++(bB++([bz l (ay .ready none),bz C (.deferred (some []))]++bJ (ext aC s.h.n (l,0)) (s.h.new .no)))).Perm (bz C (.deferred (some []))::(iI E++(bz l (ay .ready none)::(bB++bJ (ext aC s.h.n (l,0)) (s.h.new .no))))):=by
     have bq:(bB++bz l (ay .ready none)::bz C (.deferred (some []))::bJ (ext aC s.h.n (l,0)) (s.h.new .no)).Perm (bz C (.deferred (some []))::bz l (ay .ready none)::(bB++bJ (ext aC s.h.n (l,0)) (s.h.new .no))):=
      (e4.trans (e4.cons _)).trans (.swap _ _ _)
     exact(bq.append_left (iI E)).trans e4
    have c9:=G.perm (bp.cons F) b1;exact G.join (N:=F::bz C (.deferred (some []))::iI E) c9
   obtain⟨cB,cK⟩:=cJ;obtain⟨b7,cz⟩:=be cV aZ _ _ _ _ ct;have cx:=cz (ext aC s.h.n (l,0)) (bb++Value.func (.yield l) #[] #[]::a7) ((bh.mono ar cH).append (.cons (.f (.yield (ux _)) .nil .nil) (bh.mono ar cy))) ⟨cB,aV.le.refl _⟩ g _ aw cK;rw[<- bP,<- bO]at bf;refine⟨l,[⟨.collected C,#[]⟩],aw,⟨.fn (.func aZ) a7.toArray,bb.toArray++ #[Value.func (.yield l) #[] #[]]⟩,aw,aZ,(bb++Value.func (.yield l) #[] #[]::a7).toArray,aw,bf,?_,λ_ _=>trivial,?_,(λae=>by cases ae),(callsIn_wide (n:=0)).2 (cx.mono ?_)⟩
   ·have co:O.eval (.const (Value.func (.yield l) #[] #[]))=Value.func (.yield l) #[] #[]:=rfl;simp only[resolve,(d0 O).eval c1,lx,cg,eJ,db,co,fY,eS,List.map_nil]
   ·have:=b7.run (bb++Value.func (.yield l) #[] #[]::a7).toArray aw;simpa[invoke]using this
   ·rintro ae aW ⟨v,b9,rfl,⟨ag,bn,dx,c3,rfl⟩,cP⟩;have a0:=cP.mono λj D=>D.swap;refine⟨none,_,run_endLoop a0.hV Q,?_⟩;refine cC (C::E) ag _ _ (ar.trans bn) ⟨K.size,?_,λbl v bi=> ?_,⟨c3.dp,(K.gD.kK.trans ar).trans bn⟩,n8 ((a0.eR _).mono λj D=>D.tail)⟩
    ·rw[K.gl];rfl
    ·obtain⟨bs,aQ,a6⟩:=K.fx bl v bi;exact⟨bs,aQ.mono (ar.trans bn),a6⟩
end
end aX
end
namespace aX
section
variable{Ω Ω':bX}{P:Program}{aC:aV Ω}{rt:aV Ω'}{ag τ J:Nat->Option Nat}
theorem ky.mp(E:∀b j,ag b=some j->∀D,aC b=some D->rt j=some D){g C}(G:gg (z6 g)=true)(h:ky aC g C):ky rt g C:=by
 cases h with
 |yield q=>trivial
 | _=>constructor
mutual
theorem bq.mp(C:∀b E,ag b=some E->∀Q,aC b=some Q->rt E=some Q)(D:∀G I,τ G=some I->Ω'.int I=Ω.int G){v O}(Z:bq aC v O):∀{j},MG ag τ v=some j->bq rt j O:=by
 cases Z with
 |i=>intro j h;cases h;exact .i
 |b=>intro j h;cases h;exact .b
 |s=>intro j h;cases h;exact .s
 | @ag b o _ _ q=>intro j h;obtain⟨E,aa,ab⟩:=ao.1 (show U _ _=some j from h);cases ab;exact .ag (C _ _ aa _ q)
 |fJ=>intro j h;cases h;exact .fJ
 | @dm b o n W _ _ q=>intro j h;obtain⟨E,aa,ab⟩:=ao.1 (show U _ _=some j from h);cases ab;exact .dm (C _ _ aa _ q)
 | @cH b o n l _ _ q al=>intro j h;obtain⟨E,aa,ab⟩:=ao.1 (show U _ _=some j from h);cases ab;exact .cH (C _ _ aa _ q) al
 |hl=>intro j h;cases h;exact .hl
 |eA=>intro j h;cases h;exact .eA
 | @m b _ _ q=>intro j h;obtain⟨E,aa,ab⟩:=ao.1 (show U _ _=some j from h);cases ab;exact .m (C _ _ aa _ q)
 |cR=>intro j h;cases h;exact .cR
 | @f g _ l W _ _ R b Y=>
  intro j h;obtain⟨ae,h⟩:=cu.1 (show bK _ _=some j from h);obtain⟨au,aa,h⟩:=ao.1 h;obtain⟨ap,ab,h⟩:=ao.1 h;cases h;exact .f (R.mp C ae) (bh.mp C D b aa) (bh.mp C D Y ab)
 |jt=>intro j h;cases h;exact .jt
 | @y am v _ q=>intro j h;obtain⟨K,aa,ab⟩:=ao.1 (show U _ _=some j from h);cases ab;exact .y (bq.mp C D q aa)
 |jv=>intro j h;cases h;exact .jv
 | @bm l _ q=>intro j h;obtain⟨K,aa,ab⟩:=ao.1 (show U _ _=some j from h);cases ab;exact .bm (bh.mp C D q aa)
 | @b1 l _ q=>intro j h;obtain⟨K,aa,ab⟩:=ao.1 (show U _ _=some j from h);cases ab;exact .b1 (bh.mp C D q aa)
 | @bb G=>intro j h;obtain⟨K,aa,ab⟩:=ao.1 (show U _ _=some j from h);cases ab;rw[<- D _ _ aa];exact .bb
 | @dK b _ _ q=>intro j h;obtain⟨E,aa,ab⟩:=ao.1 (show U _ _=some j from h);cases ab;exact .dK (C _ _ aa _ q)
 |fL=>intro j h;cases h;exact .fL
 |h8 q=>intro j h;cases h;exact .h8 q
 | @gj G n=>intro j h;obtain⟨K,aa,ab⟩:=ao.1 (show U _ _=some j from h);cases ab;rw[<- D _ _ aa];exact .gj
 | @fq b G _ _ q ak=>
  intro j h;obtain⟨E,aa,h⟩:=ao.1 (show U _ _=some j from h);obtain⟨I,ab,h⟩:=ao.1 h;cases h;exact .fq (C _ _ aa _ q) ((D _ _ ab).trans ak)
 | @xs i G=>
  intro j h;obtain⟨ar,aa,h⟩:=ao.1 (show U _ _=some j from h);obtain⟨I,ab,h⟩:=ao.1 h;cases h;rw[<- D _ _ aa,<- D _ _ ab];exact .xs
theorem bh.mp(D:∀b C,ag b=some C->∀O,aC b=some O->rt C=some O)(E:∀G I,τ G=some I->Ω'.int I=Ω.int G){l:List al}{K:cs}(R:bh aC l K):∀{j:List al},EV ag τ l=some j->bh rt j K:=by
 cases R with
 |nil=>intro j h;cases h;exact .nil
 | @cons v Z l W Q b=>
  intro j h;obtain⟨ae,aa,h⟩:=ao.1 (show U _ _=some j from h);obtain⟨Y,ab,h⟩:=ao.1 h;cases h;exact .cons (bq.mp D E Q aa) (bh.mp D E b ab)
end
theorem ea.mp(W:∀b R,ag b=some R->∀ak,aC b=some ak->rt R=some ak)(Y:∀Z ae,τ Z=some ae->Ω'.int ae=Ω.int Z)(ar:∀K O,J K=some O->∀j C D,Ω.b6 K j C D->Ω'.b6 O j C D){o E}(G:sV o ag τ J=some E){j C D}(s:ea aC o j C D):ea rt E j C D:=by
 cases o with
 |ce al am=>
  obtain⟨ap,aa,ab⟩:=ao.1 (show U _ _=some E from G);cases ab;obtain⟨Q,I,b⟩:=s;exact⟨Q,I.mp W Y aa,b⟩
 |io al au n am=>
  obtain⟨ap,aa,ab⟩:=ao.1 (show U _ _=some E from G);cases ab;obtain⟨Q,I,b⟩:=s;exact⟨Q,I.mp W Y aa,b⟩
 |b3 K=>
  obtain⟨O,aa,ab⟩:=ao.1 (show U _ _=some E from G);cases ab;exact ar _ _ aa _ _ _ s
 | _=>cases G
def al.num(Ω:bX):al->Int
 | .i _ n=>n
 | .bb j=>Ω.int j
 | .gj j n=>IntKind.i64.wrap (Ω.int j+n)
 | .xs j C=>IntKind.i64.wrap (Ω.int j-Ω.int C)
 | _=>0
def bX.cR(Ω:bX)(C:Nat->al):bX:=⟨λj=>(C j).num Ω,Ω.b6⟩
def aV.jd(aC:aV Ω)(Ω'):aV Ω':=λk=>aC k
def Tw{U}(ae:∀{I y}{K},U I y=true->bq aC I K->bq (aC.jd Ω') y K){v j}(ay:j9 j=none)(aE:t0 j=none)(ax:rW j=none)(ar:lc j=none)(h:ww v j U=true){K}(C:bq aC v K):bq (aC.jd Ω') j K:=by
 have O:∀{l Q:List al} {R:List _},gA U l Q=true->bh aC l R->bh _ Q R:=λ{l}=>by
  induction l with
  |nil=>intro Q R h C;rw[vU h];cases C;exact .nil
  |cons I l au=>
   intro Q R h C;obtain⟨y,s,rfl,aa,ab⟩:=tO h;cases C with
   |cons ak b=>exact .cons (ae aa ak) (au ab b)
 cases v with
 |i aG n=>
  obtain⟨q,aa,ab⟩:=et (show cP _ _=true from h);rw[dN,bL,hg,lX,decide_eq_true_eq]at ab;rw[kE aa,<- ab.1,<- ab.2];cases C;constructor
 |b I=>
  obtain⟨q,aa,ab⟩:=et (show cP _ _=true from h);rw[pp,beq_iff_eq]at ab;rw[nf aa,<- ab];cases C;constructor
 |s I=>
  obtain⟨q,aa,ab⟩:=et (show cP _ _=true from h);rw[decide_eq_true_eq]at ab;rw[tY aa,<- ab];cases C;constructor
 |ag b o=>
  obtain⟨q,aa,ab⟩:=et (show cP _ _=true from h);have:=sL ab;subst this;rw[ng aa];cases C with
  |ag q=>exact .ag q
 |fJ=>rw[z4 (show sp j=true from h)];cases C;constructor
 |dm b o n W=>
  obtain⟨q,aa,ab⟩:=et (show cP _ _=true from h);have:=AI ab;subst this;have D:j=.dm b o n W:=by cases j<;>cases aa;rfl
  rw[D];cases C with
  |dm q=>exact .dm q
 |cH b o n l=>
  obtain⟨q,aa,ab⟩:=et (show cP _ _=true from h);have:=AI ab;subst this;have D:j=.cH b o n l:=by cases j<;>cases aa;rfl
  rw[D];cases C with
  |cH q av=>exact .cH q av
 |hl=>cases h
 |eA=>rw[z5 (show qR j=true from h)];cases C;constructor
 |m b=>
  obtain⟨q,aa,ab⟩:=et (show cP _ _=true from h);rw[tV aa,<- bV ab];cases C with
  |m q=>exact .m q
 |cR=>
  have D:j=.cR:=by
   have ap:=h;cases j<;>cases ap;rfl
  rw[D];cases C;constructor
 |f g l W=>
  obtain⟨q,aa,ab⟩:=et (show cP _ _=true from h);simp[bL,decide_eq_true_eq]at ab;rw[v0 aa,<- ab.1];cases C with
  |f E am ao=>
   refine .f ?_ (O ab.2.1 am) (O ab.2.2 ao);cases E with
   |yield q=>exact .yield q
   | _=>constructor
 |jt=>rw[D6 (show uF j=true from h)];cases C;constructor
 |y aw I=>
  obtain⟨q,aa,ab⟩:=et (show cP _ _=true from h);rw[dN,bL]at ab;rw[CM aa,<- bV ab.1];cases C with
  |y E=>exact .y (ae ab.2 E)
 |jv=>rw[D7 (show uH j=true from h)];cases C;constructor
 |bm l=>
  obtain⟨q,aa,ab⟩:=et (show cP _ _=true from h);rw[rU aa];cases C with
  |bm E=>exact .bm (O ab E)
 |b1 l=>
  obtain⟨q,aa,ab⟩:=et (show cP _ _=true from h);rw[CL aa];cases C with
  |b1 E=>exact .b1 (O ab E)
 |bb G=>
  obtain⟨q,aa,ab⟩:=et (show cP (j9 j) (λq=>aA G q)=true from h);simp_all
 |dK b=>
  obtain⟨q,aa,ab⟩:=et (show cP (pn j) (λq=>aA b q)=true from h);have D:j=.dK q:=by cases j<;>cases aa;rfl
  rw[D,<- bV ab];cases C with
  |dK q=>exact .dK q
 |fL=>cases h
 |h8=>cases h
 |gj G n=>
  obtain⟨q,aa,ab⟩:=et (show cP (t0 j) (λq=>Z (aA G q.1) (dI n q.2) false)=true from h);simp_all
 |fq b G=>
  have Y:bF (cP (pn j) λq=>aA b q) (λq=>ln (b,G) q) (lc j)=true:=h;rw[ar]at Y;obtain⟨q,aa,ab⟩:=et Y;have D:j=.dK q:=by cases j<;>cases aa;rfl
  rw[D,<- bV ab];cases C with
  |fq q=>exact .dK q
 |xs i G=>
  obtain⟨q,aa,ab⟩:=et (show cP (rW j) (λq=>ln (i,G) q)=true from h);simp_all
theorem W5{v}(h:AB v=true)(G:v≠ .fL){D}(j:bq aC v D):D=.int .i64 (v.num Ω):=by
 have C:=h;cases v<;>first|(cases C;done)|exact absurd p G|skip
 ·rename_i I n
  have E:=C;cases hg.1 E;cases j;rfl
 ·cases j;rfl
 ·cases j;rfl
 ·cases j;rfl
def En{D}:∀(d){v j}{Y},wT D d v j=true->bq aC v Y->bq (aC.jd (Ω.cR D)) j Y
 |0,v,j,Y,h,K=>by cases h
 |d+1,v,j,Y,h,K=>by
  have C:Z _ _ _=true:=h;cases ae:LN j with
  |true=>
   rw[ae,df]at C;have O:j=.fL:=by cases j<;>cases ae;rfl
   obtain⟨n,rfl⟩:=W2 C K;rw[O];exact .fL
  |false=>
   rw[ae,cZ]at C;cases ak:LO j with
   |true=>
    rw[ak,df,l0]at C;have O:j=.h8:=by cases j<;>cases ak;rfl
    rw[O];refine .h8 ?_;cases K<;>first|rfl|trivial|cases C
   |false=>
    rw[ak,cZ]at C;cases W:j9 j with
    |some E=>
     rw[W]at C;have ab:Z _ _ _=true:=C;rw[dN,bL]at ab;have O:j=.bb E:=by cases j<;>cases W;rfl
     have aw:v≠ .fL:=λO=>by
      simp_all[ww,gF]
     rw[W5 ab.1 aw K,O];have:v.num Ω=(Ω.cR D).int E:=by
      show v.num Ω=(D E).num Ω;have R:=ab.2;cases v<;>first|rfl|skip
      ·obtain⟨q,G,I⟩:=et (show cP (hK _) _=true from R);rw[dN,bL,lX,decide_eq_true_eq]at I;rw[kE G];exact I.2
      all_goals first
       |(have ar:=ab.1;cases ar;done)
       |skip
      ·obtain⟨q,G,I⟩:=et (show cP _ _=true from R);grind[oa,bV]
      ·trivial
      ·obtain⟨q,G,I⟩:=et (show cP _ _=true from R);rw[dN,bL,lX,decide_eq_true_eq]at I;have ap:D E=.gj q.1 q.2:=by
        cases Q:D E<;>rw[Q]at G<;>cases G;rfl
       simp_all
      ·obtain⟨q,G,I⟩:=et (show cP (rW (D E)) (λq=>ln (_,_) q)=true from R);have ap:D E=.xs q.1 q.2:=by
        cases Q:D E<;>rw[Q]at G<;>cases G;rfl
       grind[sL]
     rw[this];exact .bb
    |none=>
     rw[W]at C;cases al:t0 j with
     |some q=>simp_all
     |none=>
      rw[al]at C;cases Q:rW j with
      |some q=>simp_all
      |none=>
       rw[Q]at C;cases U:lc j with
       |none=>
        rw[U]at C;exact Tw (λh K=>En d h K) W al Q U C K
       |some q=>
        rw[U]at C;obtain⟨ag,G,I⟩:=et (show cP (lc v) (λag=>Z (aA ag.1 q.1) (gF 9 (.bb ag.2) (D q.2)) false)=true from C);rw[dN,bL]at I;obtain⟨E,au,av⟩:=et (show cP (j9 (D q.2)) (λE=>aA ag.2 E)=true from I.2);have am:v=.fq ag.1 ag.2:=by cases v<;>cases G;rfl
        have ao:j=.fq q.1 q.2:=by cases j<;>cases U;rfl
        rw[am]at K;rw[ao,<- bV I.1];cases K with
        |fq ax ay=>
         refine .fq ax ?_;show(D q.2).num Ω= _;rw[oa au,<- bV av];trivial
def Em{E}:∀{l j}{C},gA (wT E 9) l j=true->bh aC l C->bh (aC.jd (Ω.cR E)) j C
 | [],j,C,h,D=>by rw[vU h];cases D;exact .nil
 |x::l,j,C,h,D=>by
  obtain⟨y,s,rfl,aa,ab⟩:=tO h;cases D with
  |cons G b=>exact .cons (En 9 aa G) (Em ab b)
def VF{Q o j}(h:Ac o Q j=true){I K O}(E:ea aC o I K O):ea (aC.jd (Ω.cR Q)) j I K O:=by
 cases o with
 |ce R U=>
  obtain⟨q,aa,ab⟩:=et (show cP (rV j) _=true from h);rw[dN,bL]at ab;have D:j=.ce q.1 q.2:=by cases j<;>cases aa;rfl
  rw[D,<- bV ab.1];obtain⟨G,C,b⟩:=E;exact⟨G,Em ab.2 C,b⟩
 |io R al n U=>
  obtain⟨q,aa,ab⟩:=et (show cP _ _=true from h);rw[dN,bL,dN,bL,dN,bL]at ab;obtain⟨W,Y,Z,ae⟩:=ab;rw[I8 aa,<- bV W,<- bV Y,<- bV Z];obtain⟨G,C,b⟩:=E;exact⟨G,Em ae C,b⟩
 |b3 ak=>
  obtain⟨q,aa,ab⟩:=et (show cP _ _=true from h);have D:j=.b3 q:=by cases j<;>cases aa;rfl
  rw[D,<- bV ab];exact E
 | _=>cases h
def wV(l:List cl):bQ->bQ:=ch (λh=>h) (λo _ j h=>j (h.new o)) l
def Ep:∀(l)(h),(∀j,h.n<=j->h.get j=none)->(wV l h).n=h.n+l.length/\∀j,(wV l h).get j=if j<h.n then h.get j else l[j-h.n]?
 | [],h,C=>⟨rfl,λj=>by
  show h.get j= _;simp_all⟩
 |o::l,h,C=>by
  have D:wV (o::l) h=wV l _:=rfl;have E:∀j,(h.new o).get j=if j=h.n then some o else h.get j:=λj=>by
   simp[bQ.get,bQ.new,c4.lp]
  have I:(h.new o).n=h.n+1:=rfl;obtain⟨K,O⟩:=Ep l (h.new o) (λj G=>by grind);grind
theorem qW(l):(fa l).n=l.length:=by
 have:=(Ep l ⟨.i3,0⟩ (λ_ _=>rfl)).1;show(wV l _).n= _;simp_all
theorem pQ(l j):(fa l).get j=l[j]?:=by
 have:=(Ep l ⟨.i3,0⟩ (λ_ _=>rfl)).2 j;assumption
def OM{D E}:∀{C j:List Nat},C.Nodup->(∀k∈C,k∈j)->G (j.map D) E->G (C.map D) E
 | [],j,_,_,_=>trivial
 |k::C,j,I,K,s=>by
  have ag:=(lF (K k Q)).map D;rw[ix]at I;exact(G.perm ag s).ep λE s=>OM I.2 (λO U=>(List.mem_erase_of_ne (λR=>I.1 (by simp_all))).2 (K O (by simp_all))) s
theorem J9:∀{l},Dn l=false->l.Nodup
 | [],_=> .nil
 |x::l,h=>by
  have j:Z _ _ _=false:=h;cases C:mI x l with
  |true=>rw[C]at j;trivial
  |false=>
   rw[C,cZ]at j;exact ix.2 ⟨λq=>(by grind[uP]),J9 j⟩
def LB:∀(l)(E)(G){j D},(sn l E G).get j=some D->(∃n,l[n]?=some j/\D=E+n)\/G.get j=some D
 | [],E,G,j,D,h=> .inr h
 |x::l,E,G,j,D,h=>by
  rcases LB l _ _ h with ⟨n,aa,ab⟩|aa
  ·exact .inl ⟨n+1,by assumption,C⟩
  ·rw[c4.lp]at aa
   by_cases I:j=x
   ·simp_all
   simp_all
def Vl{θ}{Y ρ3:aV Ω}{h C0 R}(q:∀b al,ag b=some al->∀K,Y b=some K->ρ3 al=some K):∀{E}{I W}{j},h6 (λD=>U (bK (dT D h.n) (h.get D)) λo=>sV o ag some some) E=some I->gA (λK y=>Ac K θ y) I W=true->(∀C D,E[C]?=some D->ρ3 (j+C)=Y D)->(∀C,C<W.length->C0[j+C]?=W[C]?)->
  G (E.map (c9 Y h)) R->G ((List.range' j W.length).map (c9 (ρ3.jd (Ω.cR θ)) (fa C0))) R:=λ{E}=>by
 induction E generalizing R with
 |nil=>
  intro I W j Z ae _ _ s;cases Z;rw[vU ae];exact trivial
 |cons D E aL=>
  intro I W j Z ae aa ab s;obtain⟨a2,aw,ax⟩:=ao.1 (show U _ _=some I from Z);obtain⟨a3,ay,aE⟩:=ao.1 ax;cases aE;obtain⟨o,ak,aG⟩:=ao.1 aw;obtain⟨_,ak⟩:=cu.1 ak;obtain⟨ar,aX,rfl,aH,aI⟩:=tO ae;obtain⟨aO,aP,au,aQ,aS,O,l⟩:=s;refine⟨aO,aP,au,aQ,aS,?_,aL ay aI (λC D aZ=> ?_) (λC aY=> ?_) l⟩
  ·have am:=aa 0 D p;have ap:=ab 0 Q;rw[Nat.add_zero]at am ap;unfold c9 at O ⊢;rw[pQ,ap,show ρ3.jd _ j=ρ3 j from rfl,am];rw[ak]at O;cases aK:Y D with
   |none=>simp_all
   |some K=>
    rw[aK]at O;exact VF aH (ea.mp q (λj a1 av=>by simp_all) (λC a0 av aW ar R a4=>by simp_all) aG O)
  ·have:=aa (C+1) D (by assumption);grind
  ·have:=ab (C+1) (by simp_all);grind
def xG{ay:FuncId}{aL:kz}(a6:vH P ay)(R:P.follows .mixedOrders=true)(a9:k8 Ω P aL){n:Nat}{ap:FuncId}{au:List al}{av:Nat->al}{C:List Nat}{aY:al}{W ae:List cl}
  (O:gq (ka P ay aL n (λ_ _ _=>none) ap au (fa W)) av C aY ae=true) {aC:aV Ω} (a7:∀j,W.length<=j->aC j=none) {aO:cs} (ba:bh aC au aO):
  D P ap aO.toArray (bJ aC (fa W)) λK aQ=>∃aw:aV (Ω.cR av),(∀am j,C[am]?=some j->∀E,aC j=some E->aw am=some E)/\(∀j,ae.length<=j->aw j=none)/\bq aw aY K/\∀R,G aQ R->G (bJ aw (fa ae)) R:=by
 obtain⟨⟨v,h⟩,aa,ab⟩:=et (show cP (ka P ay aL n _ ap au _) (λq=>Z _ _ (cP _ λv=>Z _ (cP (h6 _ _) _) _))=true from O);cases aK:Dn _ with
 |true=>rw[aK]at ab;cases ab
 |false=>
  rw[aK,cZ]at ab;obtain⟨bu,a0,aI⟩:=et ab;rw[dN,bL]at aI;obtain⟨I,a1,a2⟩:=et aI.2;obtain⟨bf,a5⟩:=C3 a9 a6 (λaZ _=>zn R _ _) (λaZ a3=>OD _ a3 λK=>zn R _ K) n (PR (P:=P) (j:=aC)) ap au (fa W) v h aa;have j:=a5 aC aO ba ⟨λj Q=>a7 j (by rw[qW]at Q;omega),aV.le.refl _⟩;refine j.mono λK aQ ⟨ak,aH,aP,bt,bb⟩=> ?_;subst bb;have aS:∀b ax,(sn C 0 .i3).get b=some ax->∀E,ak b=some E->(λY=>(C[Y]?).bind ak:aV Ω) ax=some E:=λb ax a4 E aW=>by
   rcases LB C 0 .i3 a4 with ⟨n,bx,bz⟩|z
   ·grind
   trivial
  have bl:C.length=ae.length:=by
   have bn:∀{C:List Nat} {I:List cl} {F:Nat->Option cl},h6 F C=some I->I.length=C.length:=λ{C}=>by
    induction C with
    |nil=>intro I F O;cases O;rfl
    |cons E l aX=>
     intro I F O;obtain⟨y,aE,aG⟩:=ao.1 (show U (F E) (λy=>U (h6 F l) λK=>some (y::K))=some I from O);grind[ao]
   have bp:∀{I W:List cl},gA (λE y=>Ac E av y) I W=true->I.length=W.length:=λ{I}=>by
    induction I with
    |nil=>intro W h;rw[vU h]
    |cons E l aX=>intro W h;obtain⟨y,s,rfl,aE,aG⟩:=tO h;grind
   grind
  refine⟨aV.jd (Ω:=Ω) (λY=>(C[Y]?).bind ak) _,λam j a8 E aW=> ?_,λj Q=> ?_,?_,λR s=> ?_⟩
  ·show(C[am]?).bind ak=some E;rw[a8];exact aH _ _ aW
  ·show(C[j]?).bind ak=none;grind
  ·exact En 9 aI.1 (aP.mp (Ω':=Ω) aS (λam bm O=>by simp_all) a0)
  ·have bc:=s;have bd:=OM (J9 aK) (j:=hZ h.n) (λj Q=>by
    have bs:∀{ar:List Nat} {I:List cl},h6 (λj=>U (bK (dT j h.n) (h.get j)) λo=>sV o (sn C 0 .i3).get some some) ar=some I->∀j∈ar,j<h.n:=λ{ar}=>by
     induction ar with
     |nil=>simp
     |cons E l aX=>
      intro I O j Q;obtain⟨y,aE,aG⟩:=ao.1 (show U (U (bK (dT E h.n) (h.get E)) λo=>sV o (sn C 0 .i3).get some some) (λy=>U (h6 (λj=>U (bK (dT j h.n) (h.get j)) λo=>sV o (sn C 0 .i3).get some some) l) λK=>some (y::K))=some I from O);obtain⟨K,bg,bi⟩:=ao.1 aG;obtain⟨o,bj,bk⟩:=ao.1 aE;rcases cQ.1 Q with rfl|Q
      ·simp_all[cu]
      simp_all
    grind) bc
   have be:=Vl (θ:=av) (ρ3:=λY=>(C[Y]?).bind ak) (C0:=ae) (j:=0) aS a1 a2 (λY j Q=>by
    grind) (λY _=>by simp) bd
   show G ((hZ (fa ae).n).map _) R;rw[qW,List.range_eq_range'];exact be
end
end aX
namespace aX
section
variable{Ω Ω':bX}{P:Program}{aC:aV Ω}{W tv:List cl}{s:Nat}
mutual
def bq.mr(h:∀C,Ω'.int C=Ω.int C){v D}(I:bq aC v D):bq (Ω:=Ω') (λj=>aC j) v D:=by
 cases I with
 |ag q=>exact .ag q
 |dm q=>exact .dm q
 |cH q J=>exact .cH q J
 |m q=>exact .m q
 |f E b G=>
  refine .f ?_ (bh.mr h b) (bh.mr h G);cases E with
  |yield q=>exact .yield q
  | _=>constructor
 |y q=>exact .y (bq.mr h q)
 |bm q=>exact .bm (bh.mr h q)
 |b1 q=>exact .b1 (bh.mr h q)
 |bb=>rw[<- h];exact .bb
 |dK q=>exact .dK q
 |h8 q=>exact .h8 q
 |gj=>rw[<- h];exact .gj
 |fq q j=>exact .fq q ((h _).trans j)
 |xs=>rw[<- h,<- h];exact .xs
 | _=>constructor
def bh.mr(h:∀j,Ω'.int j=Ω.int j){l:List al}{C:cs}(E:bh aC l C):bh (Ω:=Ω') (λG=>aC G) l C:=by
 cases E with
 |nil=>exact .nil
 |cons D b=>exact .cons (bq.mr h D) (bh.mr h b)
end
def gU(Ω:bX)(W:List cl)(s:Nat):aO:=λD=>∃aC:aV Ω,(∀j,W.length<=j->aC j=none)/\(∃C,aC 0=some (s,C))/\G (bJ aC (fa W)) D
def Rs{O:FuncId}{Z:kz}(au:vH P O)(av:P.follows .mixedOrders=true)(aw:k8 Ω P Z){n:Nat}{R:FuncId}{am:List al}{J:Nat->al}{aI:List Nat}{ae:al}
  (Q:gq (ka P O Z n (λ_ _ _=>none) R (.ag 0 0::am) (fa W)) J (0::aI) ae tv=true) {ak:cs} (aE:∀aC:aV Ω,bh aC am ak) {ay:Value->Prop} (ax:∀(aC:aV (Ω.cR J)) j,bq aC ae j->ay j):
  D P R (.pointer (some ⟨s,0,none⟩)::ak).toArray [gU Ω W s] λj K=>ay j/\K=[gU (Ω.cR J) tv s]:=λg F ao Y=>by
 obtain⟨aa,ab,E,G,I,C,a0,a1,aY,aW,a2,⟨aC,aH,⟨ap,aP⟩,aS⟩,_⟩:=Y.s;have aG:a4 g (F::bJ aC _) ao:=⟨Y.g,aa,ab,E,G,I,C,aS.up aW⟩;refine((xG au av aw Q aH (.cons (.ag aP) (aE aC))) g F ao aG).mono λaZ a3 ⟨j,K,ar,⟨aX,aK,aL,aO,aQ⟩,U⟩=> ?_;refine⟨j,_,ar,⟨ax _ _ aO,rfl⟩,U.g,?_⟩;obtain⟨aa,ab,E,G,I,C,l⟩:=U.s;exact⟨aa,ab,E,G,I,C,ab,λ_=>none,λ_=> .inr p,d7.refl _,λ_ _ Q=>(by grind),⟨aX,aL,⟨ap,aK 0 0 p _ aP⟩,aQ _ l⟩,trivial⟩
def Mu{K O D}:∀{l:List K}{j:List O},h6 D l=some j->j.length=l.length/\∀(E:Nat) x,l[E]?=some x->∃y,j[E]?=some y/\D x=some y
 | [],j,C=>by cases C;simp
 |x::l,j,C=>by
  obtain⟨y,Q,G⟩:=ao.1 (show U _ _=some j from C);obtain⟨s,I,J⟩:=ao.1 G;cases J;obtain⟨aa,ab⟩:=Mu I;grind
def yG{τ Y}(Z:nP τ Y W=some tv)(av:∀R U,τ R=some U->Ω'.int U=Ω.int R)(au:∀K O,Y K=some O->∀I J j,Ω.b6 K I J j->Ω'.b6 O I J j):∀j,gU Ω W s j->gU Ω' tv s j:=λj ⟨aC,aH,aP,ap⟩=>by
 obtain⟨am,ao⟩:=Mu (show h6 _ W=some tv from Z);refine⟨aC,λD ag=>aH D C,aP,?_⟩;have ae:(fa tv).n=(fa W).n:=by rw[qW,qW,am]
 show G ((hZ _).map _) j;rw[ae];refine vb _ (λD ag h E=> ?_) j ap;have ak:D<W.length:=by simp_all[qW]
 obtain⟨aw,ar,ay⟩:=ao D W[D] Q;unfold c9 at E ⊢;rw[pQ,ar];rw[pQ,List.getElem?_eq_getElem ak]at E;cases al:aC D with
 |none=>simp_all
 |some ax=>
  rw[al]at E;grind[ea.mp]
def Rq{ι:Type}{C E:Nat}{bc:ι->Nat->Nat->aO}(aw:W[E]?=some (.b3 C))(aa:∀j,j≠E->W[j]?≠some (.b3 C))(ar:∀Y Z D,Ω.b6 C Y Z D->∃I,bc I Y Z D):∀D,gU Ω W s D->∃I,gU ⟨Ω.int,λj=>if j=C then bc I else Ω.b6 j⟩ W s D:=λD ⟨aC,aH,aP,aE⟩=>by
 have aL:=(List.getElem?_eq_some_iff.1 aw).1;have au:E∈hZ (fa W).n:=lD.2 (by rw[qW];omega);have al:∀{Ω:bX} (aC:aV Ω),(bJ aC _).Perm _:=λaC=>(lF au).map _;obtain⟨ag,ak,ap,aG,aI,J,l⟩:=G.perm (al aC) aE;have ae:(fa W).get E=some (.b3 C):=by rw[pQ];omega
 unfold c9 at J;rw[ae]at J;cases K:aC E with
 |none=>simp_all
 |some I=>
  rw[K]at J;obtain⟨y,aQ⟩:=ar _ _ _ J;refine⟨y,aC,aH,aP,G.perm (al (Ω:=⟨Ω.int,λj=>if j=C then bc y else Ω.b6 j⟩) aC).symm ⟨ag,ak,ap,aG,aI,?_,?_⟩⟩
  ·unfold c9;rw[ae,K];show(if C=C then bc y else Ω.b6 C) _ _ ag;simp_all
  ·refine vb _ (λj av h b=> ?_) ak l;have ax:=((List.nodup_range).mem_erase_iff.1 av).1;unfold c9 at b ⊢;cases ay:(fa W).get j with
   |none=>simp
   |some o=>
    rw[ay]at b;cases K:aC j with
    |none=>simp_all
    |some I=>
     rw[K]at b;cases o with
     |b3 O=>
      have:O≠C:=λaK=>aa j ax (by simp_all[pQ]);show(if O=C then bc y else Ω.b6 O) _ _ h;rw[if_neg this];exact b
     |ce am ao=>obtain⟨Q,R,U⟩:=b;exact⟨Q,bh.mr (Ω:=Ω) (Ω':=⟨Ω.int,λj=>if j=C then bc y else Ω.b6 j⟩) (λ_=>rfl) R,U⟩
     |io am aS n ao=>obtain⟨Q,R,U⟩:=b;exact⟨Q,bh.mr (Ω:=Ω) (Ω':=⟨Ω.int,λj=>if j=C then bc y else Ω.b6 j⟩) (λ_=>rfl) R,U⟩
     | _=>exact b
def Tu{E j o C}(h:gF (E+1) C (.ag j o)=true):C=.ag j o:=by
 have D:=h;cases C<;>first|cases D|skip
 obtain⟨q,aa,ab⟩:=et (show cP (iX (.ag j o)) (λq=>ln _ q)=true from D);cases aa;grind[sL]
def Xv{R j av Y args ax O}[aE:b4 P R](aX:∀aC:aV Ω,bh aC args O){ay:Value->Prop}(aW:∀(aC:aV Ω) I,ay I->bq aC ax I)
  (h:∀J K,D P R (.pointer (some ⟨J,0,none⟩)::O).toArray [Ω.b6 av J K] λI Q=>ay I/\Q=[Ω.b6 Y J K]):
  ∀ae h v U,gI j av Y args ax ae h=some (v,U)->b4 P R/\∀(ar aC:aV Ω) (E) O,bh aC ae O->hq ar aC h->D P R O.toArray (E++bJ aC h) λI Q=>∃ak,aC.le ak/\bq ak v I/\hq ar ak U/\Q=E++bJ ak U:=λae C v U ap=>by
 obtain⟨au,aG⟩:=cu.1 (show bK _ _=some _ from ap);obtain⟨o,a7,aI⟩:=ao.1 aG;obtain⟨aw,aK,aL⟩:=ao.1 aI;obtain⟨aO,aQ⟩:=cu.1 aL;cases aQ;have:=bV aO;subst this;have a0:o=.b3 aw:=by cases o<;>cases aK;rfl
 subst a0;refine⟨aE,λar aC E a9 a1 am=> ?_⟩;cases ae with
 |nil=>cases au
 |cons ba bb=>
  obtain⟨y,bc,a4,a5,fM⟩:=tO au;cases a4;have:=Tu a5;subst this;cases a1 with
  |cons al b=>
   cases al with
   | @ag _ _ J K aS=>
    have:=nd (λap al b=>lf 9 ap al b) fM b (aX aC);subst this;have aY:j<C.n:=by
     rcases eC j _ with q|q
     ·omega
     ·rw[am.dp j q]at aS;trivial
    have a3:∀Z,(bJ aC (C.put j Z)).Perm (ea aC Z J K::eB aC C j):=λZ=>by
     have ag:(bJ aC (C.put j Z)).Perm (c9 aC _ j::eB aC _ j):=(lF (lD.2 aY)).map _;simp_all[A4,c9,ea,zU]
    have a2:(bJ aC C).Perm (ea aC (.b3 aw) J K::eB aC C j):=by
     grind[bJ,c9,eB,lF,hZ,ea]
    refine D.dR (D.frame (E++eB aC C j) (h J K) (M:=E++bJ aC C) λaZ s=> ?_) λI Q aZ ⟨a6,⟨aH,aP⟩,a8⟩ s=>⟨E++bJ aC (C.put j (.b3 Y)),⟨aC,aV.le.refl _,aW aC I aH,⟨am.dp,am.kK⟩,rfl⟩,?_⟩
    ·refine G.perm ?_ s;refine(a2.append_left E).trans ?_;grind[fZ,ea]
    ·refine G.perm ?_ s;refine List.Perm.trans ?_ ((a3 (.b3 Y)).append_left E).symm;grind[fZ,ea]
end
end aX
namespace aX
def lS(C j:Nat):aO:=uq (if j % 2=0 then some ⟨C,0,none⟩else none) (j/2/9223372036854775808) (j/2 % 9223372036854775808)
def pI:al->Bool| .i .i64 _=>true| .bb _=>true| .gj _ _=>true| .fL=>true| .xs _ _=>true| _=>false
def O8:al->Bool| .eA=>true| .dm _ _ _ _=>true| .cH _ _ _ _=>true| .dK _=>true| .fq _ _=>true| _=>false
def sC(Y:List al)(h:bQ):ay:=match Y with
 | [.ag 0 0,U,id,W,.bm D,.bm [Q,.b Z,.b y,n,R]]=>bK (pI U&&(pI id&&(pI W&&(D.all pI&&(aA D.length 18&&(pI Q&&(pI n&&O8 R))))))) (match h.get 0 with
  |some (.ce j [E,G,I,J,K,O,C,.dK b])=>bK (aA j 88&&pI C) (match h.get b with
   |some (.b3 6)=>some (.b1 [],((((h.put b .no).put 0 .no).new (.b3 6)).put 0 (.ce j [E,G,I,J,K,O,C,.dK h.n])))
   | _=>none)
  | _=>none)
 | _=>none
section
variable{Ω:bX}{aC:aV Ω}
def so{v C}(h:bq aC v C)(j:pI v=true):∃n,C=.int .i64 n:=by
 cases h with
 | @i D n=>cases D<;>first|exact⟨_,rfl⟩|cases j
 |bb=>simp
 |gj=>simp
 |fL=>simp
 |xs=>simp
 | _=>cases j
def YZ{v j}(h:bq aC v j)(E:O8 v=true):∃C n D,j=.slice C n D:=by
 cases h with
 |eA=>simp
 |dm=>simp
 |cH=>simp
 |dK=>exact⟨_,_,_,rfl⟩
 |fq=>exact⟨_,_,_,rfl⟩
 | _=>cases E
def LK:∀{l:List al}{D:cs},bh aC l D->l.all pI=true->∃j:List Int,D=j.map (.int .i64 ·)/\j.length=l.length
 | _,_,.nil,_=>⟨[],rfl,rfl⟩
 | _,_,.cons E b,C=>by
  simp only[ti,bL]at C;obtain⟨n,rfl⟩:=so E C.1;obtain⟨j,rfl,G⟩:=LK b C.2;exact⟨n::j,rfl,by simp_all⟩
theorem Ud{h:bQ}{C j}(o)(D:j≠C):(h.put C o).get j=h.get j:=by simp_all[bQ.get,bQ.put,c4.lp]
theorem a4.Ln{g j C D E}(G:∀h,j h->C h)(h:a4 g (j::D) E):a4 g (C::D) E:=h.mono λI s=>fg G s
def S3{C}(E){j}(h:j<=maxLen)(D:C=none/\E=0/\j=0\/∃b,C=some ⟨b,0,none⟩):∃G D,h4 G D=.slice C E j/\lS G D=uq C E j:=by
 unfold h4 lS;have I:j<9223372036854775808:=by unfold maxLen at h;omega
 rcases D with ⟨rfl,rfl,rfl⟩|⟨b,rfl⟩
 ·exact⟨0,1,rfl,rfl⟩
 ·refine⟨b,2*(E*9223372036854775808+j),?_⟩;grind
def Fh(ba:∀J O,Ω.b6 6 J O=lS J O):∀Y h v aG,sC Y h=some (v,aG)->b4 E 44/\
  ∀(a2 aC:aV Ω) (K) a1,bh aC Y a1->hq a2 aC h->D E 44 a1.toArray (K++bJ aC h) λaZ a3=>∃aL,aC.le aL/\bq aL v aZ/\hq a2 aL aG/\a3=K++bJ aL aG:=by
 intro Y h v aG aY;unfold sC at aY;split at aY
 case h_2=>grind
 rename_i c8 id c9 da c3 cW y n c6
 obtain⟨ax,ay⟩:=cu.1 aY;simp only[bL]at ax;obtain⟨co,cp,cq,cr,cs,ct,cv,cx⟩:=ax;split at ay
 case h_2=>trivial
 rename_i c2 bT bU a6 bW bY bZ b0 b cj
 obtain⟨aE,a8⟩:=cu.1 ay;simp only[bL]at aE;obtain⟨cz,cA⟩:=aE;have:=bV cz;subst this;split at a8
 case h_2=>trivial
 rename_i ck
 cases a8;refine⟨inferInstance,λa2 aC K a1 Q a7=> ?_⟩;cases Q with|cons aP Q=> ?_
 cases aP with| @ag _ _ S b5 gp=> ?_
 cases Q with|cons aQ Q=> ?_
 cases Q with|cons aS Q=> ?_
 cases Q with|cons aW Q=> ?_
 cases Q with|cons Z Q=> ?_
 cases Q with|cons I Q=> ?_
 cases Q;obtain⟨cE,rfl⟩:=so aQ co;obtain⟨cy,rfl⟩:=so aS cp;obtain⟨cJ,rfl⟩:=so aW cq;cases Z with|bm Z=> ?_
 cases I with|bm I=> ?_
 obtain⟨cI,rfl,bb⟩:=LK Z cr;rw[bV cs]at bb;cases I with|cons b9 I=> ?_
 cases I with|cons ca I=> ?_
 cases I with|cons cb I=> ?_
 cases I with|cons cc I=> ?_
 cases I with|cons cf I=> ?_
 cases I;obtain⟨b7,rfl⟩:=so b9 ct;obtain⟨cH,rfl⟩:=so cc cv;obtain⟨bi,bk,bj,rfl⟩:=YZ cf cx;cases ca;cases cb
 match cI,bb with
 | [aP,aQ,aS,aW,Z,I,bA,bB,bC,bE,bl,bn,bp,bs,bt,bu,bx,bz],_=>
 intro g F am cn;have ci:0≠b:=λq=>by simp_all
 have ak:ST g _ aC h am:=⟨a7.dp,cn.mono λ_ s=>G.join (N:=F::K) s⟩;have cK:=ak.open gp cj
 obtain⟨J,O,a0⟩:∃J O,aC b=some (J,O):=by
  obtain⟨_,_,_,_,_,⟨Y,j,_⟩,_⟩:=cK.s;cases j with|cons _ j=> ?_
  cases j with|cons _ j=> ?_
  cases j with|cons _ j=> ?_
  cases j with|cons _ j=> ?_
  cases j with|cons _ j=> ?_
  cases j with|cons _ j=> ?_
  cases j with|cons _ j=> ?_
  cases j with|cons cX j=> ?_
  cases cX with|dK q=>simp_all
 have aH:=ST.drop ak.dp a0 (ak.open a0 ck);have bf:ST g (λC=>G [ea aC (.b3 6) J O,λC=>G (F::K) C] C) aC (h.put b .no) am:=⟨ak.dp,aH.mono λ_ s=>G.join (N:=[_,_]) s⟩;have bd:=ST.drop bf.dp gp (bf.open gp (by rw[Ud _ ci];omega));obtain⟨aa,ab,b8,cS,cT,⟨Y,j,cV⟩,l⟩:=bd.s;have cM:a4 g (ae S 88 Y::(λC=>G [ea aC (.b3 6) J O,λC=>G (F::K) C] C)::bJ aC ((h.put b .no).put 0 .no)) am:=⟨bd.g,aa,ab,b8,cS,cT,cV,l⟩;cases j with| @cons _ ao _ _ bI j=> ?_
 cases j with| @cons _ ap _ _ bK j=> ?_
 cases j with| @cons _ ar _ _ bM j=> ?_
 cases j with| @cons _ au _ _ bN j=> ?_
 cases j with| @cons _ av _ _ bO j=> ?_
 cases j with| @cons _ aw _ _ bP j=> ?_
 cases j with| @cons _ dc _ _ a5 j=> ?_
 cases j with| @cons _ dd _ _ bQ j=> ?_
 cases j;obtain⟨al,rfl⟩:=so a5 cA;cases bQ with| @dK _ c1 a6 be=> ?_
 rw[a0]at be;cases be;have cl:ea aC (.b3 6) J O=lS J O:=ba J O;have cO:a4 g ((λC=>G ((λC=>G (F::K) C)::bJ aC ((h.put b .no).put 0 .no)) C):: [ae S 88 [ao,ap,ar,au,av,aw,.int .i64 al,h4 J O],lS J O]) am:=cM.mono λC s=>by
  have aK:=(G.part (N:=[_,_]) s.swap);rw[cl]at aK;refine G.join (N:=(λC=>G (F::K) C)::bJ aC ((h.put b .no).put 0 .no)) (L:=[ae S 88 [ao,ap,ar,au,av,aw,.int .i64 al,h4 J O],lS J O]) (G.perm ?_ aK);exact(List.Perm.swap ..).trans (.cons _ ((List.Perm.swap ..).trans (fZ (l₁:=[_,_]))))
 refine(jW S _ _ _ ao ap ar au av aw al cE cy cJ b7 cH aP aQ aS aW Z I bA bB bC bE bl bn bp bs bt bu bx bz cW y bi bk bj g _ am cO).mono λc4 bg ⟨aZ,a3,ax,⟨ay,aO,aI,aX,cB,c7,cC,aE⟩,cm⟩=> ?_;subst aE;obtain⟨U,W,cZ,c0⟩:=S3 aI cB cC;have cP:a4 g (ea (ext aC h.n (U,W)) (.b3 6) U W::(λC=>G [ae S 88 [ao,ap,ar,au,av,aw,.int .i64 al,.slice aO aI aX],λC=>G (F::K) C] C)::bJ aC ((h.put b .no).put 0 .no)) bg:=cm.mono λC s=>by
  have aK:=G.part (N:=(λC=>G (F::K) C)::bJ aC ((h.put b .no).put 0 .no)) s;rw[show ea (ext aC h.n (U,W)) (.b3 6) U W=uq aO aI aX from(ba U W).trans c0];refine G.ep (C:=[ae S 88 [ao,ap,ar,au,av,aw,.int .i64 al,.slice aO aI aX],λC=>G (F::K) C]++bJ aC ((h.put b .no).put 0 .no)) (λC s=>G.join s) (G.perm ?_ aK);exact(List.Perm.cons _ (fZ (l₂:=[_,_]))).trans ((List.Perm.swap ..).trans ((List.Perm.cons _ (List.Perm.swap ..)).trans (List.Perm.swap ..)))
 obtain⟨R,cG,bc⟩:=ST.new (h:=(h.put b .no).put 0 .no) (o:=.b3 6) (B:=U) (c:=W) ak.dp cP;have cR:a4 g (ea (ext aC h.n (U,W)) (.ce 88 [bT,bU,a6,bW,bY,bZ,b0,.dK h.n]) S b5::(λC=>G (F::K) C)::bJ (ext aC h.n (U,W)) (((h.put b .no).put 0 .no).new (.b3 6))) bg:=a4.Ln (λC s=>⟨_,.cons (bI.mono R) (.cons (bK.mono R) (.cons (bM.mono R) (.cons (bN.mono R) (.cons (bO.mono R) (.cons (bP.mono R) (.cons (a5.mono R) (.cons (cZ▸ .dK cG) .nil))))))),s⟩) (bc.dC.mono λC s=>G.part (N:=[_,_]) s);have a9:=ST.q5 bc.dp (R _ _ gp) cR;exact⟨aZ,K++bJ _ _,ax,⟨_,R,ay▸ .b1 .nil,⟨a9.dp,a7.kK.trans R⟩,rfl⟩,a9.dC.mono λ_ s=>G.part (N:=F::K) s⟩
end
end aX
def t9:aX.vH E 162:=⟨inferInstance,λI D G C post j h=>by
 have:=C4 (by simpa using h);exact this⟩
def sx:E.follows .mixedOrders=true:=O
section
namespace aX
open Go
def cf:al:=.i .i64 0
def Ot(j:Nat):List al:=.i .i64 1:: .i .i64 j:: .bb 1:: .bb 2:: .bb 3:: .bb 4:: .bb 5:: .bb 6::fB [cf] 10
def GV:List al:=fB [cf] 18
def fU(one:Bool)(j:Nat->Nat):List cl:=[.ce 88 [.ag 10 0,.cH 1 0 2 0,.ag 8 0,.fJ,.bb 20,.bb 21,.bb 22,.dK 18],.io 80 1 2 [.ag 2 0,.ag 3 0],.ce 107 [.ag 4 0,.ag 6 0,.bb 23,.fJ,.bb 24,.bb 25,.h8,.bb 26],.ce 107 [.ag 5 0,.ag 7 0,.bb 27,.fJ,.bb 28,.bb 29,.h8,.bb 30],
 .ce 132 (cf::GV++[.bb 31,.bb 0]),.ce 132 (cf::GV++[.bb 32,.bb 0]),.ce 162 [.eA,.i .i64 1000,.b false],.ce 162 [.eA,.i .i64 1000,.b false],.ce 160 [.ag 9 0,cf,.b false,.bb 33],.ce 219 [Z one (.dm 19 0 1 1) .eA,cf,cf,.i .i64 2],.ce 155 [.ag 11 0,.ag 12 0,.bb 34,.fJ],
 .ce 204 [.ag 13 0,.ag 14 0,.ag 15 0,.ag 16 0,.ag 17 0],.b3 (j 0),.b3 (j 1),.b3 (j 2),.b3 (j 3),.b3 (j 4),.b3 (j 5),.b3 6]++Z one [.ce 3 [cf]] []
def sM:List (Nat×Nat×Nat):=[(20,0,4),(21,0,5),(22,0,6),(23,2,2),(24,2,4),(25,2,5),(26,2,7),(27,3,2),(28,3,4),(29,3,5),(30,3,7),(31,4,19),(32,5,19),(33,8,3),(34,10,2)]
def ua(h:bQ)(b C:Nat):Option al:=U (h.get b) λo=>U (vZ o) λj=>pA j C
def ks(D:ay):Nat->al:=bF (λj=> .bb j) (λq j=>ch (.bb j) (λC _ g=>Z (aA j C.1) (bF (.bb j) (λv=>v) (ua q.2 C.2.1 C.2.2)) g) sM) D
def q4(l:List (Nat×(List al->bQ->ay))):kz:=λC=>ch none (λj _ D=>Z (aA C j.1) (some j.2) D) l
def jZ(C:kz)(j:Nat)(D:List al)(W:List cl):ay:=ka E 162 C 100 (λ_ _ _=>none) j (.ag 0 0::D) (fa W)
def LR(h:bQ):List Nat:=[1,2,3,4,5,6,7,8,9,10,11,12,13,14,15,16,17]++(bF [] (λj=>bF [] (λb=>[b]) (pn j)) (ua h 0 7)++bF [] (λj=>bF [] (λb=>[b.1]) (yW j)) (ua h 9 0))
def ow(j:ay):List Nat:=0::bF [] (λq=>LR q.2) j
def Vt(j:ay):List cl:=bF [] (λq=>bF [] (λC=>C) (Ab (ow j) q.2)) j
def OR(j:List al)(D:Nat)(v:al):List al:=ch (λ_=>[]) (λE l C n=>Z (aA n 0) (v::l) (E::C (jF n))) j D
def WR(o:cl)(b:Nat):cl:=bF o (λq=> .ce q.1 (ch q.2 (λj _ C=>Z (aA j.2.1 b) (OR C j.2.2 (.bb j.1)) C) sM)) (rV o)
def WQ(W:List cl):Nat->List cl:=ch (λ_=>[]) (λo _ j b=>WR o b::j (Nat.succ b)) W
def nb(j b C:Nat):List al:=[.bm [.bb j,.bb b,.bb C]]
def qB(j:Nat)(C y:List al):List al:=[.bm (.i .i64 j::C++y)]
def fM:List al:=[cf,cf,cf]
def ug:al:=.b1 [.bm (fB [.fL] 7),cf]
def DL:al:=.b1 [.bm [.bb 41,.bb 42,.bb 43],.b true]
def As(j:Nat):List al:=Z (aA j 1) (qB 1 [.bb 1,.bb 2,.bb 3] fM) (Z (aA j 2) (qB 2 [.bb 1,cf,cf] fM) (Z (aA j 3) (qB 3 fM [.bb 4,.bb 5,.bb 6]) (qB 4 fM [.bb 4,cf,cf])))
def Xh(j:Nat):List (Nat×(List al->bQ->ay)):=
 Z (aA j 1) [(261,gI 12 0 10 (As 1) ug),(278,gI 13 1 11 (nb 1 2 3) cf),(281,gI 14 2 12 (nb 1 2 3) cf),(284,gI 15 3 13 (nb 1 2 3) cf)]
 (Z (aA j 2) [(275,gI 12 0 0 [.bb 1] DL),(261,gI 12 0 10 (qB 2 [.bb 41,.bb 42,.bb 43] fM) ug),(279,gI 13 1 11 (nb 41 42 43) cf),(282,gI 14 2 12 (nb 41 42 43) cf),(285,gI 15 3 13 (nb 41 42 43) cf)]
 (Z (aA j 3) [(261,gI 12 0 10 (As 3) ug),(287,gI 16 4 14 (nb 4 5 6) cf),(290,gI 17 5 15 (nb 4 5 6) cf)]
 [(276,gI 12 0 0 [.bb 4] DL),(261,gI 12 0 10 (qB 4 fM [.bb 41,.bb 42,.bb 43]) ug),(288,gI 16 4 14 (nb 41 42 43) cf),(291,gI 17 5 15 (nb 41 42 43) cf)]))
def xa(C j:Nat):kz:=q4 ((44,sC)::(207,gI 12 0 0 (As C) (.i .i64 j))::Z (aA j 0) (Xh C) [])
def rn(j C:Nat)(one:Bool):ay:=jZ (xa j C) 8 [cf,.bm (Ot j)] (fU one λD=>D)
def xW(C j:Nat)(one:Bool):List cl:=WQ (Vt (rn C j one)) 0
def qw(C j:Nat)(one:Bool):ay:=jZ (xa C j) 9 [cf,.i .i64 50] (xW C j one)
def zX(C j:Nat):Nat:=Z (aA j 0) (Z (cN C 2) 6 5) 2
def zV(D C:Nat)(j:Nat):Nat:=Z (aA C 0) (Z (cN D 2) (Z (cN j 3) (j+10) j) (Z (aA j 0) 10 (Z (cN 4 j) (j+10) j))) j
def vk(C j:Nat)(one:Bool):Bool:=gq (rn C j one) (ks (rn C j one)) (ow (rn C j one)) cf (xW C j one)
def tR(C j:Nat)(one:Bool):Bool:=gq (qw C j one) (ks (qw C j one)) (ow (qw C j one)) (.b1 [.i .i64 (zX C j),.b true]) (fU true (zV C j))
def zf:List (Nat×Nat):=[(1,0),(1,1),(1,2),(1,4),(1,5),(2,0),(2,1),(2,6),(3,0),(3,1),(3,2),(3,3),(3,4),(3,5),(4,0),(4,1),(4,6)]
def A7(one:Bool):Bool:=ch true (λj _ C=>Z (vk j.1 j.2 one) (Z (tR j.1 j.2 one) C false) false) zf
theorem YI:A7 true=true:=by decide+kernel
theorem YH:A7 false=true:=by decide+kernel
end aX
end
def V8:aX.okB (aX.ka E 162 (λ_=>none) 100 (λ_ _ _=>none) 12 [] ⟨.i3,0⟩) (.b true)=true:=by decide+kernel
def Ew(C):D E 12 #[] C λv G=>v=.bool true/\∃I,G=C++I:=
 aX.SK t9 (λj _=>aX.zn sx j none) (λj J=>aX.OD j J λK=>aX.zn sx j K) V8 C
end
end Go.Proofs.YtioamnghkmcbbaaGreat
