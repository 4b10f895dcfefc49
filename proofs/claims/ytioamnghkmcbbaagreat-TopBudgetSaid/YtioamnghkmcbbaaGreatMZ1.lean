/- TopBudget: a part of its proof. -/
import Derived.JoinedOf
import Derived.Test.YtioamnghkmcbbaaGreatProg
import Derived.Test.YtioamnghkmcbbaaGreatMZ0
set_option linter.all false
set_option maxRecDepth 100000
set_option maxHeartbeats 4000000
open List renaming any_eq_true->Hv,append_nil->dA,filterMap_cons->HF,mem_reverse->oV,perm_append_comm->fZ,tail->tq,take->HZ
open Nat renaming beq->aA,le_refl->bv,rec->iy,zero_le->bu
open Option renaming rec->bF
open Go.RowKit
namespace Go.Proofs.YtioamnghkmcbbaaGreat
noncomputable section
namespace aX
def sB(j:Nat)(args:List al):List al->bQ->ay:=λC h=>bK (gA (gF (nat_lit 9)) C args) (some (.b1 [.ag h.n (nat_lit 0),cf],h.new (.b3 j)))
section
variable{Ω:bX}
theorem cm.new{Q:Nat}[ak:b4 E Q]{R args ae}(ap:∀j:aV Ω,bh j args ae)
  (h:D E Q ae.toArray [] λv U=>∃C,v=.tuple #[.pointer (some ⟨C,0,none⟩),.int .i64 0]/\U=[Ω.b6 R C 0]):cm Ω (Q,sB R args):=λaQ I v aL O=>by
 obtain⟨am,ao⟩:=cu.1 (show bK _ _=some _ from O);cases ao;refine⟨ak,λaS j K aO au W=> ?_⟩;have:=nd (λO al b=>lf 9 O al b) am au (ap j);subst this;intro g F aG av;refine(h g _ aG (av.mono λJ s=>G.join (N:=F::(K++bJ j I)) (by rw[dA];exact s))).mono λaK aI ⟨aC,U,aH,⟨C,aP,ax⟩,ar⟩=> ?_;subst ax;have ay:a4 g (ea (ext j I.n (C,0)) (.b3 R) C 0::(λJ=>G _ J)::bJ j I) aI:=ar.mono λJ s=>by
  have aE:=G.part s;refine G.ep (C:=(F::K)++bJ j I) (λJ s=>G.join s) (G.perm ?_ aE);exact fZ
 obtain⟨Y,aw,Z⟩:=ST.new W.dp ay;exact⟨aC,K++bJ _ _,aH,⟨_,Y,aP▸ .b1 (.cons (.ag aw) (.cons .i .nil)),⟨Z.dp,W.kK.trans Y⟩,rfl⟩,Z.dC.mono λ_ s=>G.part s⟩
end
def rT:List al:=[.i .i64 30]
def Nk:kz:=q4 [(70,sB 0 rT),(108,sB 1 rT),(109,sB 2 rT),(110,sB 3 rT),(111,sB 4 rT),(112,sB 5 rT)]
def Ay(n:Nat):ay:=ka E 162 Nk 100 (λ_ _ _=>none) 4 [.bm [.i .i64 30,.i .i64 2,.i .i64 n]] (fa [])
def iK(h:bQ)(b j:Nat):Nat:=bF 999 (λv=>bF (bF (bF 999 (λq=>q.1) (CK v)) (λq=>q.1) (yW v)) (λq=>q.1) (iX v)) (ua h b j)
def LS(O:ay):List Nat:=bF [] (λq=>bF [] (λl=>bF [] (λv=>bF [] (λC=>
 (λD=>(λJ=>(λE G=>(λK I=>(λj=>[D,J,E,G,iK q.2 E 0,iK q.2 G 0,iK q.2 E 1,iK q.2 G 1,K,iK q.2 K 0,I,j,iK q.2 I 1,iK q.2 j 0,iK q.2 j 1,iK q.2 j 2,iK q.2 j 3,iK q.2 j 4,C.1,iK q.2 C.1 4,iK q.2 C.1 5]) (iK q.2 I 0)) (iK q.2 D 2) (iK q.2 D 0)) (iK q.2 J 0) (iK q.2 J 1)) (iK q.2 D 1)) (iK q.2 C.1 0)) (iX v)) (pA l 0)) (tZ q.1)) O
def wN:List cl:=.ce 88 [.ag 10 0,.cH 1 0 2 0,.ag 8 0,.fJ,.bb 20,.bb 21,.bb 22,.eA]::HZ 17 (tq (fU false λj=>j))
def lZ(n:Nat):List cl:=bF [] (λq=>bF [] (λj=>j) (Ab (LS (Ay n)) q.2)) (Ay n)
def MJ(n:Nat):Bool:=gq (Ay n) (λj=> .bb j) (LS (Ay n)) (.b1 [.ag 18 0,cf]) (lZ n)
def Pe(n:Nat):ay:=ka E 162 (λ_=>none) 100 (λ_ _ _=>none) 5 [.ag 18 0] (fa (lZ n))
def ZT(n:Nat)(C:ay)(j:Nat):al:=Z (aA j 0) (.i .i64 n) (ks C j)
def Pd(n:Nat):Bool:=gq (Pe n) (ZT n (Pe n)) [0,1,2,3,4,5,6,7,8,9,10,11,12,13,14,15,16,17] (.ag 0 0) wN
def uO(n:Nat):Bool:=Z (MJ n) (Pd n) false
def Wj:Z (uO 0) (Z (uO 1) (Z (uO 2) (Z (uO 3) (Z (uO 4) (uO 5) false) false) false) false) false=true:=by decide+kernel
end aX
namespace aX
def Cq(n E:Nat):aO:=λh=>∃j:aV ⟨λ_=>0,qM [] [] 0⟩,(∀C,(lZ n).length<=C->j C=none)/\(∃D,j 18=some (E,D))/\G (bJ j (fa (lZ n))) h
def Mt{n}(h:n<=5):MJ n=true/\Pd n=true:=by
 have j:=Wj;have D:∀{E y:Bool},Z E y false=true->E=true/\y=true:=λ{E y} h=>by
  cases E with
  |false=>cases h
  |true=>exact⟨rfl,h⟩
 obtain⟨J,j⟩:=D j;obtain⟨K,j⟩:=D j;obtain⟨O,j⟩:=D j;obtain⟨Q,j⟩:=D j;obtain⟨R,I⟩:=D j;have G:n=0\/n=1\/n=2\/n=3\/n=4\/n=5:=C;rcases G with rfl|rfl|rfl|rfl|rfl|rfl
 ·trivial
 ·trivial
 ·trivial
 ·trivial
 ·trivial
 ·exact D I
def vi{Ω}:∀j:aV Ω,bh j rT [.int .i64 30]:=λj=> .cons .i .nil
def Xi:k8 ⟨λ_=>0,qM [] [] 0⟩ E Nk:=mK (hb (cm.new vi ZM) (cm.new vi Vk) (hb (cm.new vi VS) (cm.new vi XT) (hb (cm.new vi U2) (cm.new vi YW) mm)))
def WN{n:Nat}(Q:n<=5):D E 4 #[.agg #[.int .i64 30,.int .i64 2,.int .i64 n]] [] λv C=>∃j,v=.tuple #[.pointer (some ⟨j,0,none⟩),.int .i64 0]/\C=[Cq n j]:=by
 have O:=(Mt Q).1;have h:=xG t9 sx Xi O (λ_ _=>rfl) (.cons (.bm (.cons .i (.cons .i (.cons .i .nil)))) .nil);refine D.dR h λv C ak ⟨ae,_,U,W,Y⟩ s=> ?_;cases W with|b1 q=> ?_
 cases q with|cons I q=> ?_
 cases q with|cons K q=> ?_
 cases q;cases K;cases I with| @ag _ _ j J Z=> ?_
 exact⟨[Cq n j],⟨j,rfl,rfl⟩,G.fold (λh s=>⟨λR=>ae R,U,⟨J,Z⟩,s⟩) (by rw[dA];exact Y _ s)⟩
def WV{Ω:bX}(O:Ω.b6 6=lS){J:aV Ω}(ap:∀D,18<=D->J D=none){Q}(q:G (bJ J (fa wN)) Q):G (bJ (ext J 18 (0,1)) (fa (fU false λE=>E))) Q:=by
 have I:J.le (ext J 18 (0,1)):=sd _ (ap 18 (bv _));have av:(fa wN).n=18:=by rfl
 have aw:(fa (fU false λE=>E)).n=19:=by rfl
 unfold bJ at q ⊢;rw[av]at q;rw[aw,List.range_succ,List.map_append];have ao:c9 (ext J 18 (0,1)) (fa (fU false λE=>E)) 18=lS 0 1:=by
  rw[xt aZ,ux];show Ω.b6 6 0 1= _;rw[O]
 rw[List.map_cons,List.map_nil,ao];refine G.perm (fZ) (rf ⟨[],own.nil_ _ _ _ trivial⟩ (vb _ (λD ar h K=> ?_) _ q));have ay:=List.mem_range.1 ar
 by_cases am:D=0
 ·subst am;rw[xt aZ]at K;rw[xt aZ];cases R:J 0 with
  |none=>simp_all
  |some aE=>
   rw[R]at K;rw[I _ _ R];obtain⟨aC,j,ax⟩:=K;cases j with|cons U j=> ?_
   cases j with|cons W j=> ?_
   cases j with|cons Y j=> ?_
   cases j with|cons Z j=> ?_
   cases j with|cons ae j=> ?_
   cases j with|cons ag j=> ?_
   cases j with|cons ak j=> ?_
   cases j with|cons al j=> ?_
   cases j;cases al;exact⟨_,.cons (U.mono I) (.cons (W.mono I) (.cons (Y.mono I) (.cons (Z.mono I) (.cons (ae.mono I) (.cons (ag.mono I) (.cons (ak.mono I) (.cons (.dK (ux _)) .nil))))))),ax⟩
 ·have O:(fa (fU false λE=>E)).get D=(fa wN).get D:=by
   rw[pQ,pQ];obtain⟨D,rfl⟩:∃au,D=au+1:=⟨D-1,C⟩;show(tq (fU false λE=>E))[D]?=(HZ 17 (tq (fU false λE=>E)))[D]?;grind
  have:=NK I (fa wN) D h K;simp_all[c9]
def YT{n J}(ae:n<=5):D E 5 #[.pointer (some ⟨J,0,none⟩)] [Cq n J] λv I=>∃s,v=.pointer (some ⟨s,0,none⟩)/\I=[ji [] [] 0 n false s]:=by
 have W:=(Mt ae).2;refine D.open (E:=λC=>(∀j,(lZ n).length<=j->C j=none)/\∃Q,C 18=some _) (λh ⟨C,O,b,q⟩=>⟨C,⟨O,b⟩,q⟩) λC ⟨Y,Q,U⟩=> ?_
 rw[dA];have h:=xG t9 sx (λau F ar=>by grind) W Y (.cons (.ag U) .nil);refine D.dR h λv I aw ⟨ap,_,ak,am,ao⟩ s=> ?_;cases am with| @ag _ _ K R ax=> ?_
 refine⟨[ji [] [] 0 n _ K],⟨K,rfl,rfl⟩,G.fold (λh q=> ?_) (by rw[dA];exact ao _ s)⟩;have al:∀j,18<=j->ap j=none:=ak;refine⟨bX.cR _ _,⟨rfl,rfl,rfl,rfl,rfl,rfl,rfl,rfl⟩,G.fold (λh q=>⟨ext _ 18 (0,1),λj Z=> ?_,⟨R,?_⟩,q⟩) (by rw[dA];exact WV p al q)⟩
 ·have av:19<=j:=Z;unfold ext;grind
 ·assumption
end aX
section
attribute [local irreducible] G bf cc
instance:e5 be:=⟨7,λj=>j.l,λ_=>rfl,λj v h=>by
 simp only[be.l,List.mem_cons,List.not_mem_nil,or_false]at h;rcases h with rfl|rfl|rfl|rfl|rfl|rfl|rfl<;>rfl⟩
section
variable{P:Program}{f:FuncId}{args:Array Value}{X bB:aO}{ay:Value->Prop}{yJ:Nat->aO}{V:Nat->Value}
def D.ls(h:D P f args [X] λv j=>ay v/\j=[bB])(M):D P f args (X::M) λv j=>ay v/\j=bB::M:=
 (D.frame M h λ_ s=>G.perm (fZ (l₁:=[_])) s).dR λv j K ⟨J,⟨C,E⟩,I⟩ s=>⟨_,⟨C,rfl⟩,by subst E I;exact G.perm (fZ) s⟩
def D.Z1(h:D P f args [X] λv C=>∃j,v=V j/\C=[yJ j])(M):D P f args (X::M) λv C=>∃j,v=V j/\C=yJ j::M:=
 (D.frame M h λ_ s=>G.perm (fZ (l₁:=[_])) s).dR λv C O ⟨K,⟨j,E,I⟩,J⟩ s=>⟨_,⟨j,E,rfl⟩,by subst I J;exact G.perm (fZ) s⟩
def D.WK(h:D P f args [] λv C=>∃j,v=V j/\C=[yJ j])(M):D P f args M λv C=>∃j,v=V j/\C=yJ j::M:=
 (D.frame M h λ_ s=>by rwa[dA]).dR λv C O ⟨K,⟨j,E,I⟩,J⟩ s=>⟨_,⟨j,E,rfl⟩,by subst I J;exact G.perm (fZ) s⟩
end
def D.Pu{E K args I post}(h:D E K args [I] post)(M):D E K args (I::M) λv C=>∃(J:aO) (j:aG),(post v j/\∀h,J h->G j h)/\C=J::M:=
 (D.frame M h λ_ s=>G.perm (fZ (l₁:=[_])) s).dR λv C R ⟨j,O,Q⟩ s=>⟨_,⟨λh=>G j h,j,⟨O,λ_ h=>h⟩,rfl⟩,by subst Q;exact G.join (G.perm fZ s)⟩
def xH{j C h}(E:G (j++C) h):G j h:=by
 obtain⟨_,_,_,I,_,D,_⟩:=G.split E;exact D.up I
@[reducible] def ph:List Value:=[j 1,j 3,j 0,j 0,j 0,j 2147483647,j (-3),j 3,j 0,j 0,j 0,j 0,j 0,j 0,j 0,j 0,j 0,j 0]
def V7(j):D E 12 #[] j λv I=>v=.bool true/\∃C,I=(λh=>G C h)::j:=
 (Ew j).dR λv I O ⟨J,C,K⟩ s=>⟨_,⟨J,C,rfl⟩,by subst K;exact G.join (G.perm fZ s)⟩
def Pf(n:Nat)(one:Bool)(j:Nat):aX.ay:=iy (aX.vj n one) (λ_ C=>aX.oM C) j
structure IF (C m:Nat) (j S:List I):Prop where
 inv:aX.Inv j S
 m:m<=C
def Z4(aQ:Nat)(cq:aQ<256)(q:bl)(a3 n aV)(l:List be)(Y)(bk:Rd Y a3 n l)(cu:n<=9223372036854775807):
  D E 3 #[.int .u8 aQ,q.v,.slice a3 n aV] Y λv a4=>v=.bool true/\a4=Y:=by
 have cs:l.length=n:=bk.len bs;have av:aQ % 6<=5:=C;refine ap λg F=> ?_;refine aS λZ=> ?_;refine aD (zK (q:=6) p p Q) ?_;refine aD (TC p C) ?_;refine ad ?_;refine aL ?_;generalize aQ % 6=W at*
 have bI:=aX.WN av;refine K ?_;refine GE (aw p (D.WK bI _)) ?_;rintro _ _ ⟨ce,rfl,rfl⟩;iterate 5 refine ad ?_
 refine bD ?_;iterate 6 refine ad ?_
 refine dG ?_;have bJ:=aX.YT (J:=ce) av;refine K ?_;refine GE (aw p (D.pick aI (D.Z1 bJ _))) ?_;rintro _ _ ⟨s,rfl,rfl⟩;refine ad ?_;refine aS λU=> ?_;refine aL ?_;refine b5 (j:=aX.ji [] [] 0 (W:Nat) false s::fp U [] []::ae Z 27 (ee q.v)::F::Y) ?_ ?_
 ·apply bR;focus ((repeat' first|exact aN.here|apply aN.skip|apply aN.bE);done)
  refine px (j:=none) (E:=0) (C:=none) (I:=0) (O:=[]) (Q:=[]) p p p p ?_;apply bR;focus ((repeat' first|exact aN.here|apply aN.skip|apply aN.bE);done)
  exact λh aP=>aX.rf ⟨rfl,bv _,bu _,.inl ⟨rfl,rfl,rfl⟩⟩ (aX.rf ⟨rfl,bv _,bu _,.inl ⟨rfl,rfl,rfl⟩⟩ aP)
 (repeat first|refine bZ ?_|refine fi ?_|refine gk ?_)
 refine hs (ι:=Nat×List I×List I×Bool) (λ_=>[(4,R Z),(7,j (W:Nat)),(10,R s),(11,R U)]) (λJ=>aX.ji J.2.1 J.2.2.1 J.1 (W:Nat) J.2.2.2 s::fp U J.2.1 J.2.2.1::ae Z 27 (ee q.v)::F::Y) (λJ=>IF 15 J.1 J.2.1 J.2.2.1) ?_ ?_
 ·refine aF ?_;refine cJ (ι:=Nat×Nat×List I×List I×Bool) (λJ=>[(2,.slice a3 n aV),(4,R Z),(7,j (W:Nat)),(10,R s),(11,R U),(12,j (J.1:Nat))]) (λJ=>aX.ji J.2.2.1 J.2.2.2.1 J.2.1 (W:Nat) J.2.2.2.2 s::fp U J.2.2.1 J.2.2.2.1::ae Z 27 (ee q.v)::F::Y)
   (λJ=>J.1<=15/\IF J.1 J.2.1 J.2.2.1 J.2.2.2.1) (λJ=>15-J.1) (0,0,[],[],false) ⟨bu _,aX.Inv.nil,bv _⟩ a8 (λ_ s=>s) ?_
  rintro⟨G,am,O,S,one⟩ ⟨ay,ag⟩;simp only at ay ag;dsimp only
  by_cases aW:G<n
  ·by_cases cp:G<15
   ·obtain⟨b6,b7,rfl,b4⟩:=bk.at_ C;have bO:l[G]?=some l[G]:=List.getElem?_eq_getElem C;have ck:=b4 _ _ bO;generalize l[G]=ao at*
    have bn:aB Y b6 (b7+G*7) 7 ao.l:=ck;have bL:=ag.inv.hz;have bN:=ag.m;have aC:=Of U O S (qC ao) C;rw[(IV O S ao).1,(IV O S ao).2]at aC;obtain⟨cn,bb,cb,b8,cc,ct,bT,bP⟩:=aX.RN (one:=one) (s:=s) (b:=(W:Nat)) ao ag.inv (C:=am) C;have bK:=ag.inv.a2 ao;refine K ?_;refine dE 43 p (decide_eq_true C) ?_;refine ad ?_;refine br p p p p ?_
    (first|refine aD (nt (q:=15) p p) ?_|refine aD (py p p) ?_)
    refine ad ?_;refine af ?_;refine cD p (decide_eq_true C) ?_;refine aJ ?_;iterate 3 refine ad ?_
    refine aD (hx p p C) ?_;refine aD (er p (by repeat' first|exact bn|apply aB.skip)) ?_;refine bw p (SS ao _) ?_;refine GE (aw p (D.pick aI (D.ls (ay:=λv=>∃ax:be,∃al:Int,v=.tuple #[ax.v,j al]) aC _))) ?_;rintro _ _ ⟨⟨ax,al,rfl⟩,rfl⟩;refine bD ?_;iterate 3 refine ad ?_
    refine aD (hx p p C) ?_;refine aD (er p (by repeat' first|exact bn|apply aB.skip)) ?_;refine ad ?_;refine a9 (D.pick aI (D.ls (ay:=λv=>v=j bb) bT _)) ?_;refine a9 (D.pick aI (D.ls (ay:=λv=>v=.tuple #[j cb,.bool true]) bP _)) ?_;refine af ?_;exact bM (G+1,b8,aX.qu O S ao,aX.qv O S ao,cc) ⟨C,bK,by grind⟩ C a8 aq
   ·refine aF ?_;refine cv ?_;iterate 5 refine ad ?_
    refine dE 43 p (decide_eq_true C) ?_;refine ad ?_;refine br p p p p ?_
    (first|refine aD (nt (q:=15) p p) ?_|refine aD (py p p) ?_)
    refine ad ?_;refine af ?_;refine b2 p (decide_eq_false C) ?_;refine aF ?_;exact ex (am,O,S,one) ⟨ag.inv,by have:=ag.m;omega⟩ a8 (λ_ s=>s)
  ·refine aF ?_;refine cv ?_;iterate 5 refine ad ?_
   refine dE 43 p (decide_eq_false C) ?_;refine K ?_;refine aF ?_;exact ex (am,O,S,one) ⟨ag.inv,by have:=ag.m;omega⟩ a8 (λ_ s=>s)
 rintro⟨am,O,S,one⟩ a0;simp only at a0;dsimp only;have bL:=a0.inv.hz;have bN:=a0.m;have aY:=FD q;have bh:=YB U O S ⟨3,ci,aX.dS⟩ C;refine K ?_;refine aU λak=> ?_;refine cF ?_;refine aL ?_;have bc:∀M,aB (ae ak 53 ph::M) ak (0+1) 7 (be.mk 3 ci aX.dS).l:=λM=>eO.pM (G:=1) (n:=18) (I:=ph) (aB.ae p) p (λbm v cr=>by match bm with
   |0=>trivial
   |1=>trivial
   |2=>trivial
   |3=>trivial
   |4=>trivial
   |5=>trivial
   |6=>trivial
   |bm+7=>trivial)
 refine b5 (j:=aX.ji O S am (W:Nat) one s::fp U O S::ae ak 53 ph::ae Z 27 (ee q.v)::F::Y) aq ?_
 by_cases aZ:q.dn=0
 case neg=>
  refine K ?_;refine a9 (aY _) ?_;refine dE 71 p (decide_eq_true aZ) ?_;refine K ?_;refine GE (aw p (Ew _)) ?_;rintro _ _ ⟨rfl,bf,rfl⟩;refine ad ?_;refine af ?_;exact aj (C:=Y) p (.tmp p .nil) (λh aP=>(xH aP).tail.tail.tail.tail) ⟨rfl,rfl⟩
 rw[aZ]at aY
 by_cases aG:cA O S 30 ⟨3,ci,aX.dS⟩=0
 case neg=>
  refine K ?_;refine bw p (aY _) ?_;iterate 4 refine ad ?_
  refine br p p p p ?_;refine aD (er p (by repeat' first|exact bc _|apply aB.skip)) ?_;refine br p p p p ?_;refine bw p (D.pick aI (D.ls (ay:=λv=>v=j (cA O S 30 ⟨3,ci,aX.dS⟩)) bh _)) ?_;iterate 2 refine ad ?_
  refine af ?_;refine cD p (decide_eq_true aG) ?_;refine aJ ?_;refine GE (aw p (Ew _)) ?_;rintro _ _ ⟨rfl,bf,rfl⟩;refine ad ?_;refine af ?_;exact aj (C:=Y) p (.tmp p .nil) (λh aP=>(xH aP).tail.tail.tail.tail) ⟨rfl,rfl⟩
 have au:aX.gw O S am q:=⟨a0.inv,aG,C,aZ⟩;have b1:=aX.aai (s:=s) (one:=one) au av;have b3:=aX.aaj (s:=s) (one:=one) au av;refine aJ ?_;refine ad ?_;refine bw p (aY _) ?_;iterate 4 refine ad ?_
 refine br p p p p ?_;refine aD (er p (by repeat' first|exact bc _|apply aB.skip)) ?_;refine br p p p p ?_;refine bw p (D.pick aI (D.ls (ay:=λv=>v=j (cA O S 30 ⟨3,ci,aX.dS⟩)) bh _)) ?_;iterate 2 refine ad ?_
 refine af ?_;refine b2 p (by rw[aG];rfl) ?_;refine aJ ?_;iterate 2 refine ad ?_
 refine bw p (D.pick aI (D.ls (ay:=λv=>v=j 0) b1 _)) ?_;iterate 5 refine ad ?_
 refine br p p p p ?_;refine bw p (D.pick aI (D.ls (ay:=λv=>v=j 0) b3 _)) ?_;iterate 2 refine ad ?_
 refine dG ?_;refine aJ ?_;refine ad ?_;refine aL ?_
 (repeat first|refine bZ ?_|refine fi ?_|refine gk ?_)
 refine hs (ι:=Unit) (λ_=>[(4,R Z),(7,j (W:Nat)),(10,R s),(11,R U),(13,R ak)]) (λ_=>aX.k9 O S am q s (aX.FX W one)::fp U O S::ae ak 53 ph::ae Z 27 (ee q.v)::F::Y) (λ_=>True) ?_ ?_
 ·refine aF ?_;refine cJ (ι:=Nat) (λG=>[(4,R Z),(7,j (W:Nat)),(10,R s),(11,R U),(13,R ak),(14,j (G:Nat))]) (λG=>aX.k9 O S am q s (Pf W one G)::fp U O S::ae ak 53 ph::ae Z 27 (ee q.v)::F::Y) (λG=>G<=3) (λG=>3-G) 0 (bu _) a8 aq ?_;rintro G ay
  by_cases aW:G<3
  ·have ba:=aX.Ze (s:=s) au (j:=Pf W one G) (by
    obtain⟨a5,b,aV⟩:=aX.YL (one:=one) av;have:G=0\/G=1\/G=2:=C;rcases this with rfl|rfl|rfl
    ·exact a5
    ·exact b
    ·exact aV)
   refine aJ ?_;refine ad ?_
   (first|refine aD (nt (q:=3) p p) ?_|refine aD (py p p) ?_)
   refine af ?_;refine cD p (decide_eq_true C) ?_;refine aJ ?_;refine ad ?_;refine bw p (D.pick aI (D.ls (ay:=λv=>v=aX.oE) ba _)) ?_;refine bD ?_;iterate 3 refine ad ?_
   refine af ?_;exact bM (G+1) C C a8 (λ_ s=>s)
  ·have al:G=3:=C;subst al;refine aJ ?_;refine ad ?_
   (first|refine aD (nt (q:=3) p p) ?_|refine aD (py p p) ?_)
   refine dG ?_;refine aF ?_;exact ex () trivial a8 (λ_ s=>s)
 rintro _ _;refine aJ ?_;refine ad ?_;refine aL ?_
 (repeat first|refine bZ ?_|refine fi ?_|refine gk ?_)
 refine hs (ι:=Unit) (λ_=>[(4,R Z),(7,j (W:Nat)),(10,R s),(11,R U),(13,R ak)]) (λ_=>aX.k9 O S am q s (aX.kP W one W)::fp U O S::ae ak 53 ph::ae Z 27 (ee q.v)::F::Y) (λ_=>True) ?_ ?_
 ·refine aF ?_;refine cJ (ι:=Nat) (λG=>[(4,R Z),(7,j (W:Nat)),(10,R s),(11,R U),(13,R ak),(15,j (G:Nat))]) (λG=>aX.k9 O S am q s (aX.kP W one G)::fp U O S::ae ak 53 ph::ae Z 27 (ee q.v)::F::Y) (λG=>G<=W) (λG=>W-G) 0 (bu _) a8 (λ_ s=>s) ?_;rintro G ay
  by_cases aW:G<W
  ·obtain⟨cf,cg⟩:=aX.Oo (aX.Du (one:=one) av).1 G aW;have a7:=aX.NF (s:=s) (G:=1) au cf;have ba:=aX.Zf (s:=s) au cg;refine aJ ?_;iterate 3 refine ad ?_
   refine af ?_;refine cD p (decide_eq_true C) ?_;refine aJ ?_;refine ad ?_;refine bw p (D.pick aI (D.ls (ay:=λv=>v=j (1:Nat)) a7 _)) ?_;refine ad ?_;refine dG ?_;refine aJ ?_;refine ad ?_;refine bw p (D.pick aI (D.ls (ay:=λv=>v=aX.oE) ba _)) ?_;refine bD ?_;iterate 3 refine ad ?_
   refine af ?_;exact bM (G+1) C C a8 (λ_ s=>s)
  ·have al:G=W:=C;subst al;refine aJ ?_;iterate 3 refine ad ?_
   refine af ?_;refine b2 p (decide_eq_false C) ?_;refine aF ?_;exact ex () trivial a8 (λ_ s=>s)
 rintro _ _;have a7:=aX.NF (s:=s) (G:=2) au (aX.Du (one:=one) av).2.1;have bW:=aX.Tp (s:=s) (one:=one) au av;refine aJ ?_;refine ad ?_;refine bw p (D.pick aI (D.ls (ay:=λv=>v=j (2:Nat)) a7 _)) ?_;refine ad ?_;refine dG ?_;refine aJ ?_;refine ad ?_;refine GE (aw p (D.pick aI (D.ls (ay:=λv=>∃aK:Int,v=.tuple #[j aK,.bool true]) bW _))) ?_;rintro _ _ ⟨⟨cx,rfl⟩,rfl⟩;refine aL ?_;have aC:=Of U O S ⟨3,ci,aX.dS⟩ C;rw[if_pos aG,if_pos aG]at aC;have bQ:D E 6 #[R U,(be.mk 3 ci aX.dS).v] [fp U O S] λv a4=>(∃ax:be,∃al:Int,v=.tuple #[ax.v,j al])/\a4=[fp U O (ds S aX.dS)]:=aC;refine aJ ?_;iterate 2 refine ad ?_
 refine aD (er p (by repeat' first|exact bc _|apply aB.skip)) ?_;refine GE (aw p (D.pick aI (D.ls (ay:=λv=>∃ax:be,∃al:Int,v=.tuple #[ax.v,j al]) bQ _))) ?_;rintro _ _ ⟨⟨ax,al,rfl⟩,rfl⟩;refine bD ?_;refine ad ?_;refine aL ?_;refine b5 (j:=aX.pe O S am q (aA W 0) s::fp U O (ds S aX.dS)::ae ak 53 ph::ae Z 27 (ee q.v)::F::Y) aq ?_;refine qp (ι:=aO) (F:=λar=>aX.Told s (aX.o5 q (aX.gC q O (ds S aX.dS))) 600 ar) (D:=λar=>[ar]) (λh bb=> ?_) λar ch=> ?_
 ·obtain⟨ar,a5,b⟩:=aX.aan au bb;exact⟨ar,a5,aX.sJ b⟩
 have bX:(if q.bi then[]else bj (aX.gC q O (ds S aX.dS))).length<=1000:=by
  split
  ·exact bu _
  ·rw[bj,List.length_mergeSort];have aa:=q.xl O;have ab:=q.FZ ((ds S aX.dS).map aX.mS);rw[List.length_map,qs]at ab;unfold aX.gC bl.ids;rw[List.length_append];omega
 have bC:=X9 U O (ds S aX.dS) q (by rw[qs];omega) aZ;generalize aX.gC q O (ds S aX.dS)=aH at*
 refine aF ?_;refine cJ (ι:=Nat×aO) (λJ=>[(4,R Z),(10,R s),(11,R U),(16,j (J.1:Nat))]) (λJ=>J.2::fp U O (ds S aX.dS)::ae ak 53 ph::ae Z 27 (ee q.v)::F::Y) (λJ=>J.1<=600/\aX.Told s (aX.o5 q aH) (600-J.1) J.2) (λJ=>600-J.1) (0,ar) ⟨bu _,ch⟩ a8 (λ_ s=>s) ?_;rintro⟨G,ar⟩ ⟨ay,ag⟩;simp only at ay ag;dsimp only
 by_cases aW:G<600
 ·obtain⟨aK,bY⟩:∃aK,600-G=aK+1:=⟨599-G,C⟩;rw[bY]at ag;refine aJ ?_;refine ad ?_
  (first|refine aD (nt (q:=600) p p) ?_|refine aD (py p p) ?_)
  refine af ?_;refine cD p (decide_eq_true C) ?_;rcases ag with a6|⟨bq,a6,cj⟩
  ·refine aF ?_;refine cv ?_;refine ad ?_;refine GE (aw p (D.pick aI (D.Pu a6 _))) ?_;rintro _ _ ⟨bA,cl,⟨⟨bd,b9,rfl,bt⟩,bU⟩,rfl⟩;iterate 4 refine ad ?_
   refine aU λbB=> ?_;refine cF ?_;iterate 2 refine ad ?_
   refine bD ?_;refine ad ?_;refine f7 ?_;have bx:∀M,Rd (bA::M) bd (if q.bi then[]else bj aH).length (if q.bi then[]else bj aH):=λM=>aM.of bU bt;refine hr 2 (aE [0,1,2,3] (.e 4 (.e 5 (.q 6 (.e 7 (.q 8 (.q 9 .nil))))))) ?_;iterate 4 refine ai ?_
   refine an (a1 p p p (aw p (D.pick aI (D.Pu bC _))) ?_);rintro _ _ ⟨co,cm,⟨⟨bp,ca,rfl,bz⟩,bV⟩,rfl⟩;refine bg ?_;refine an (a1 p p p (aw p (YA (!q.bi) aH.length bd bp b9 ca (if q.bi then[]else bj aH) _ (by repeat' first|exact bx _|apply Rd.skip) (by repeat' first|exact aM.of bV bz|apply Rd.skip) bX)) ?_);rintro _ _ ⟨rfl,rfl⟩;refine bg ?_;refine ai ?_;refine an (f9 p p p ⟨_,rfl,rfl⟩ p (aw p (V7 _)) ?_);rintro _ _ ⟨rfl,bf,rfl⟩;refine bg ?_;iterate 2 refine ai ?_
   refine cK ?_;exact aj (C:=Y) p (.tmp p .nil) aq ⟨rfl,rfl⟩
  ·refine aF ?_;refine cv ?_;refine ad ?_;refine bw p (D.pick aI (D.ls (ay:=λv=>v=aX.oE) a6 _)) ?_;iterate 4 refine ad ?_
   refine aU λbB=> ?_;refine cF ?_;iterate 2 refine ad ?_
   refine bD ?_;refine ad ?_;refine dG ?_;refine aJ ?_;iterate 3 refine ad ?_
   refine af ?_;have b0:600-(G+1)=aK:=C;exact bM (G+1,bq) ⟨C,by rw[b0];exact cj⟩ C a8 aq
 ·have:600-G=0:=C;rw[this]at ag;exact ag.elim
end
namespace aX
def uc(D:Program):Nat->List Nat->List Nat->Option (List Nat):=iy (λ_ _=>none) (λ_ E j seen=>List.rec (some seen) (λC j _=>Z (seen.contains C) (E j seen) (U ((lg D).get C) λG=>E (D.leadsTo G++j) (C::seen))) j)
theorem look{j g C}(h:(lg j).get g=some C):j.funcs[g]?=some C:=by
 have:=xc 12 j.funcs.toList g C h;simpa using this
def Da{j}:∀(n)(I seen E),uc j n I seen=some E->∀G,n<=G->j.closureVia G I seen=E.reverse
 |0,_,_,_,h,_,_=>by cases h
 |n+1,[],seen,E,h,G,O=>by
  have:seen=E:=by injection h
  subst this;cases G<;>rfl
 |n+1,D::I,seen,E,h,0,O=>C
 |n+1,D::I,seen,E,h,G+1,O=>by
  have h:Z (seen.contains D) (uc j n I seen) (U ((lg j).get D) λJ=>uc j n (j.leadsTo J++I) (D::seen))=some E:=h;unfold Program.closureVia;cases R:seen.contains D with
  |true=>
   rw[R]at h;rw[if_pos p];exact Da n _ _ _ h G C
  |false=>
   rw[R]at h;rw[if_neg Q];have h:U ((lg j).get D) (λJ=>uc j n (j.leadsTo J++I) (D::seen))=some E:=h;cases K:(lg j).get D with
   |none=>rw[K]at h;cases h
   |some J=>
    rw[K]at h;rw[look K];exact Da n _ _ _ h G C
theorem KY{C E:Type}{j g:C->Option E}:∀(l:List C),(∀x∈l,j x=g x)->l.filterMap j=l.filterMap g
 | [],_=>rfl
 |x::l,h=>by rw[HF,HF,h x Q,KY l λy D=>h y (by simp[D])]
def KH(j:Program)(n E:Nat)(G:List String):Bool:=match uc j n [E] []with
 |some C=>C.all (λg=>((lg j).get g).isSome)&&(C.reverse.filterMap (λg=>((lg j).get g).bind λfn=>if fn.ours||fn.body.isNone||fn.name== "runtime.NumGoroutine" then some fn.name else none)==G)&&
  (C.any λg=>((lg j).get g).any λfn=>match fn.body with|some D=>D.unfollowed|none=>entryCalls fn)&&(C.all λg=>(((lg j).get g).bind (·.body)).elim true λD=>D.globalsNamed.isEmpty)&&
  (C.all λg=>(((lg j).get g).bind λfn=>if fn.body.isNone then entryReads.lookup fn.name else none).isNone)
 |none=>false
def aaZ{j n D R}(h:KH j n D R=true)(ak:Nat.ble n (1+(j.funcs.toList.map λg=>(j.leadsTo g).length+1).sum)=true):j.inPlace D=R/\j.unfollowed D=true/\j.recurses D=true/\j.varsNamed D=[]:=by
 unfold KH at h;cases K:uc j n [D] []with
 |none=>rw[K]at h;cases h
 |some G=>
  rw[K]at h;simp only[Bool.and_eq_true,List.all_eq_true,beq_iff_eq]at h;obtain⟨⟨⟨⟨aa,ab⟩,Y⟩,Z⟩,ae⟩:=h;have J:j.closure D=G.reverse:=Da n _ _ _ K _ (Nat.le_of_ble_eq_true ak);have E:∀g∈G.reverse,j.funcs[g]?=(lg j).get g:=λg C=>by
   obtain⟨I,O⟩:=Option.isSome_iff_exists.1 (aa g (oV.1 C));rw[look O,O]
  have Q:j.unfollowed D=true:=by
   unfold Program.unfollowed;rw[J];obtain⟨g,C,al⟩:=Hv.1 Y;exact Hv.2 ⟨g,oV.2 C,by rw[E g (oV.2 C)];exact al⟩
  refine⟨?_,Q,by unfold Program.recurses;rw[Q];rfl,?_⟩
  ·unfold Program.inPlace;rw[J,<- ab];exact KY _ λg C=>by rw[E g C]
  ·unfold Program.varsNamed;rw[J];have U:(G.reverse.flatMap λg=>((j.funcs[g]?).bind (·.body)).elim [] Code.globalsNamed)=[]:=by
    rw[List.flatMap_eq_nil_iff];intro g C;rw[E g C];have:=Z g (oV.1 C);cases ag:((lg j).get g).bind (·.body)with
    |none=>rfl
    |some am=>rw[ag]at this;simpa using this
   have W:(G.reverse.filterMap λg=>(j.funcs[g]?).bind λI=>if I.body.isNone then entryReads.lookup I.name else none)=[]:=by
    rw[List.filterMap_eq_nil_iff];intro g C;rw[E g C];exact Option.isNone_iff_eq_none.1 (ae g (oV.1 C))
   rw[U,W];rfl
end aX
def JJ:∀(n)(j),j.length=n*7->∃l:List be,flat l=ints j
 |0,j,h=>⟨[],by
  have:j=[]:=List.eq_nil_of_length_eq_zero (by simpa using h);subst this;rfl⟩
 |n+1,j,h=>by
  have O:∃C b D E G I g J,j=C::b::D::E::G::I::g::J:=by
   iterate 7
    rcases j with _|⟨_,j⟩
    ·simp at h<;>omega
   exact⟨_,_,_,_,_,_,_,_,rfl⟩
  obtain⟨C,b,D,E,G,I,g,J,rfl⟩:=O;obtain⟨l,K⟩:=JJ n J (by simp at h;omega);exact⟨⟨C,⟨b,D,E⟩,⟨G,I,g⟩⟩::l,by rw[jo,K];rfl⟩
def Yr{D j n C}(h:Reads D 7 j n (ints C)):∃l:List be,Rd [old D.hm] j n l:=by
 obtain⟨l,E⟩:=JJ n C (by simpa[ints]using h.1);refine⟨l,?_⟩;unfold Rd;rw[E];exact Yl bs h
def abi(D O Q R U W Y Z ae ag ak J n G ar I)(am:(Lit.int .u8 D).wf=true)(aw:n<=G)(ao:G<=maxLen)(h:Reads I 7 J n (ints ar)):
  Calls E 3 #[.int .u8 D,.agg #[j O,j Q,j R,j U,j W,j Y,j Z,j ae,j ag,j ak],.slice J n G] I λal au=>al=.returned (.bool true)/\Below I.heap.size I au:=by
 obtain⟨l,ap⟩:=Yr h;have av:0<=D/\D<256:=by simp[Lit.wf,IntKind.min,IntKind.max,IntKind.signed,IntKind.bits]at am;omega
 obtain⟨K,rfl⟩:∃K:Nat,D=K:=⟨D.toNat,C⟩;exact VD (Z4 K C ⟨O,⟨Q,R,U,W⟩,⟨Y,Z,ae⟩,ag,ak⟩ J n G l _ ap (by unfold maxLen at ao;omega))
end
end Go.Proofs.YtioamnghkmcbbaaGreat
