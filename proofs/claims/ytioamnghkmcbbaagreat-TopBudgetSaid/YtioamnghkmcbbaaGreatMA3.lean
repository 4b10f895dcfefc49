/- TopBudget: a part of its proof. -/
import Derived.Test.YtioamnghkmcbbaaGreatFrame
import Derived.Test.YtioamnghkmcbbaaGreatMA2
set_option linter.all false
set_option maxRecDepth 100000
set_option maxHeartbeats 4000000
open Bool renaming not_eq_false'->kU
open Nat renaming zero_le->bu
open Go.RowKit
namespace Go.Proofs.YtioamnghkmcbbaaGreat
noncomputable section
section
attribute [local irreducible] G bf cc
@[reducible] def zN (C q:Int):Value:=.iface 221 (.agg #[j C,j q])
def ZW(D q)(I:q≠0)(C):me E 163 #[j D,j q] C (zN D q) λG=>G=C:=by
 refine yf Tryz.func163 p p p ?_;intro g F;refine K ?_;refine af ?_;refine cD p (decide_eq_true I) ?_;refine K ?_;refine aD (Kz p) ?_;exact Ql (W:= #[]) p λQ R J O=>A3 p J p O
def Rz(C q)(J:q≠0)(D):me E 117 #[j C,j q] D (zN C q) λG=>G=D:=by
 refine yf Tryz.func117 p p p ?_;intro g F;refine K ?_;exact Cb p (ZW C q J _) λR U G O I Q=>A3 p O p (I▸Q)
def YX(b R U W Y Z h)(ao: ¬(1<=b/\b<=4))(I):D E 119 #[.agg #[j 1,j b,j R,j U,j W,j Y,j Z,j h,j 0,j 0,j 0,j 0,j 0,j 0,j 0,j 0,j 0,j 0]] I λv Q=>v=.bool false/\Q=I:=by
 refine ap λg F=> ?_;refine aU λam=> ?_;refine ad ?_;refine bD ?_;iterate 2 refine ad ?_
 refine bD ?_;iterate 2 refine ad ?_
 refine af ?_;refine d3 p (λJ=> ?y1211) (λJ=> ?n1211)
 case' n1211=>
  refine aJ ?_;iterate 2 refine ad ?_
  refine af ?_;refine d3 p (λO=> ?y1227) (λO=> ?n1227)
  case' n1227=>
   have ak:=O;try simp[kU]at ak
   refine bI ?_;exact⟨by simp_all[bG]<;>(intros;omega),rfl⟩
  case' y1227=>
   refine aJ ?_;iterate 5 refine ad ?_
   refine f0 p p p (λae=> ?y1232) (λae=> ?n1232)
   case' n1232=>
    try simp[kU]at al
    refine bI ?_;exact⟨by simp_all[bG]<;>(intros;omega),rfl⟩
   case' y1232=>
    try simp[kU]at al
    refine bI ?_;exact⟨by simp_all[bG]<;>(intros;omega),rfl⟩
 case' y1211=>
  have ag:=J;try simp[kU]at ag
  refine K ?_;refine f0 p p p (λC=> ?y1216) (λC=> ?n1216)
  case' n1216=>
   have G:=C;try simp[kU]at G
   refine bI ?_;exact⟨by simp_all[bG]<;>(intros;omega),rfl⟩
  case' y1216=>
   have G:=C;try simp[kU]at G
   refine ad ?_;refine br p p p C ?_;refine ad ?_;refine br p p p C ?_;refine ad ?_;refine br p p p C ?_;refine ad ?_;refine aD (eP p C p) ?_;refine ad ?_;refine af ?_;refine aj p (.tmp p .nil) az ⟨by simp_all[bG]<;>(intros;omega),rfl⟩
def YJ(b G I J K O h)(R: ¬(1<=b/\b<=4))(C):D E 116 #[.agg #[j 1,j b,j G,j I,j J,j K,j O,j h,j 0,j 0,j 0,j 0,j 0,j 0,j 0,j 0,j 0,j 0]] C λv Q=>v=.bool false/\Q=C:=by
 refine ap λg F=> ?_;refine aS λU=> ?_;refine a9 (YX b G I J K O h R _) ?_;refine af ?_;refine aj p (.tmp p .nil) az ⟨rfl,rfl⟩
def YY(s b G C)(h:aR C ⟨s,0,none⟩ (j 0))(J:aR C ⟨b,0,none⟩ (j 0)):D E 115 #[R s,j G,.slice (ak b) 4 4] C λv I=>v=.tuple #[]/\I=C:=by
 refine ap λg F=> ?_;refine af ?_;refine cJ (λ_=>[(0,.pointer _),(1,.int _ G),(8,.slice _ 4 4),(9,.int _ 4),(10,.int _ 0)]) (λ_=>F::C) (λ_=>True) (λ_=>0) () trivial a8 bo ?_;rintro _ _;refine K ?_;exact aj rfl .nil aq ⟨rfl,rfl⟩
section
variable(s:Nat)(b c d e f g1 h:Int)(uz: ¬(1<=b/\b<=4))(L:aG)(uB:aR L ⟨s,0,none⟩ (j 0))
include uz uB
theorem Zd:me E 75 #[R s,.agg #[j 1,j b,j c,j d,j e,j f,j g1,j h,j 0,j 0,j 0,j 0,j 0,j 0,j 0,j 0,j 0,j 0]] L (zN 0 8) λC=>C=L:=by
 refine yf Tryz.func75 p p p ?_;intro g F;refine aJ ?_;refine aS λO=> ?_;refine aU λD=> ?_;refine a9 (YY s D 10 _ (by repeat' first|exact uB|apply aR.skip) dX) ?_;refine bw p (YJ b c d e f g1 h uz _) ?_;refine aD (cL p) ?_;refine K ?_;exact Cb p (Rz 0 8 Q _) λJ U C G e I=>A3 p G p ((e▸I).mono λ_ s=>s.tail.tail)
theorem Zc(D G)(I:aR L ⟨D,0,none⟩ (R s))(aa:aB L G 0 18 [j 1,j b,j c,j d,j e,j f,j g1,j h,j 0,j 0,j 0,j 0,j 0,j 0,j 0,j 0,j 0,j 0]):me E 74 #[R D,R G] L (zN 0 8) λC=>C=L:=by
 refine yf Tryz.func74 p p p ?_;intro g F;refine aJ ?_;refine aD (d6 p (by repeat' first|exact I|apply aR.skip)) ?_;refine aD (er p (by repeat' first|exact aa|apply aB.skip)) ?_;exact Cb p (Zd s b c d e f g1 h uz _ uB.skip) λO Q C J e K=>A3 p J p (e▸K)
theorem P6(C G)(O:aR L ⟨C,0,none⟩ (R s))(aa:aB L G 0 18 [j 1,j b,j c,j d,j e,j f,j g1,j h,j 0,j 0,j 0,j 0,j 0,j 0,j 0,j 0,j 0,j 0]):D E 114 #[.func (.func 74) #[] #[R C,R G]] L λv I=>v=.tuple #[.agg #[j 0,j 8],.bool true]/\I=L:=by
 have K:=λJ=>Sw (J:=[]) (Zc s b c d e f g1 h uz (J++L) (.bE uB) C G (.bE O) (.bE aa));refine ap λg F=> ?_;refine aS λQ=> ?_;refine a9 (K [_,_]) ?_;refine af ?_;refine aj p (.cell p (c7 bS) (.tmp p .nil)) az ⟨rfl,rfl⟩
theorem Tc(C G)(O:aR L ⟨C,0,none⟩ (R s))(aa:aB L G 0 18 [j 1,j b,j c,j d,j e,j f,j g1,j h,j 0,j 0,j 0,j 0,j 0,j 0,j 0,j 0,j 0,j 0]):D E 73 #[R s,.func (.func 74) #[] #[R C,R G]] L λv I=>v=j 8/\I=L:=by
 have K:=λJ=>P6 s b c d e f g1 h uz (J++L) (.bE uB) C G (.bE O) (.bE aa);refine ap λg F=> ?_;refine a9 (K [_]) ?_;refine aS λQ=> ?_;refine af ?_;refine aj p (.tmp p .nil) az ⟨rfl,rfl⟩
theorem Ry:D E 43 #[R s,.agg #[j 1,j b,j c,j d,j e,j f,j g1,j h,j 0,j 0,j 0,j 0,j 0,j 0,j 0,j 0,j 0,j 0]] L λv C=>v=j 8/\C=L:=by
 have K:=λG O Q=>Tc s b c d e f g1 h uz (G++L) (.bE uB) O Q;refine ap λg F=> ?_;refine aU λI=> ?_;refine aS λJ=> ?_;refine a9 (K [_,_,_] I J dX bS) ?_;refine af ?_;refine aj p (.tmp p .nil) az ⟨rfl,rfl⟩
end
def yI(j n G C):D E 682 #[.slice j n G] C λv I=>∃b,v=.func (.func 687) #[] #[R b]/\I=ae b 59 [.slice j n G]::C:=by
 refine ap λg F=> ?_;refine aS λJ=> ?_;refine af ?_;exact aj rfl (.tmp p .nil) aq ⟨J,rfl,rfl⟩
def aag{S:Type}(l b Q n U W)(J:Nat->S->List aO)(Inv:Nat->S->Prop)(am:∀G s,Inv G s->Rd (J G s) Q n W)(aK:n<=1000000)
  (ax:∀G s ao,W[G]?=some ao->Inv G s->ic E l [j ao] (J G s) λq Y=>q=true/\∃O,Inv (G+1) O/\Y=J (G+1) O) (Z) (al:Inv 0 Z):
  D E 687 #[Value.func (.yield l) #[] #[],R b] (ae b 59 [.slice Q n U]::J 0 Z) λv Y=>v=.tuple #[]/\∃O,Inv n O/\Y=ae b 59 [.slice Q n U]::J n O:=by
 have aI:=(am 0 Z al).len bs;refine ap λg F=> ?_;refine af ?_;refine cJ (ι:=Nat×S) (λI=>[(0,Value.func (.yield l) #[] #[]),(5,.slice Q n U),(6,j (n:Nat)),(7,j (I.1:Nat))]) (λI=>F::ae b 59 [.slice Q n U]::J I.1 I.2) (λI=>I.1<=n/\Inv I.1 I.2) (λI=>n-I.1) (0,Z) ⟨bu _,al⟩ a8 az ?_;rintro⟨G,s⟩ ⟨aH,ag⟩;refine K ?_;refine af ?_;refine cp p (λau=> ?_) (λau=> ?_)
 ·obtain⟨ar,aA,rfl,aC⟩:=(am G s ag).at_ C;have ak:W[G]?=some W[G]:=List.getElem?_eq_getElem C;have aE:=(aC _ _ ak).at_ (i:=0) p;have ay:=ax G s _ ak ag;generalize W[G]=aL at*
  refine aJ ?_;refine ad ?_;refine aD (d6 p (aR.skip (aR.skip aE))) ?_;refine K ?_;refine ym p p p (ic.frame [F,ae b 59 [.slice (some ⟨ar,aA,none⟩) n U]] ay (λ_ s=>s)) ?_;rintro q Y ⟨aG,⟨rfl,O,aw,rfl⟩,rfl⟩;refine aD (cL p) ?_;refine K ?_;refine af ?_;exact bM (G+1,O) ⟨C,aw⟩ C a8 az
 ·have av:G=n:=C;subst av;refine aF ?_;exact e6 (D:=[]) (j:=[]) (C:=ae b 59 [.slice Q G U]::J G s) p .nil az ⟨rfl,s,ag,rfl⟩
def P1(b W n Z)(I:List Int)(O)(av:Rd O W n I)(aK:n<=1000000):
  D E 692 #[.slice none 0 0,.func (.func 687) #[] #[R b]] (ae b 59 [.slice W n Z]::O) λv au=>∃U J,v=.slice U I.length J/\((0<I.length->∃b,U=(ak b))/\I.length<=J/\J<=maxLen)/\au=own 3 1 U I.length J (flat I)::ae b 59 [.slice W n Z]::O:=by
 have aE:=av.len bs;refine yg Tryz.func692 p p p ?_;intro g F aw;refine aJ ?_;refine aS λY=> ?_;refine af ?_;refine b5 (own.nil_ 3 1) ?_;refine Cf (post:=λaY ao=>aY=none/\∃s:Option _×Nat,((0<n->∃b,s.1=(ak b))/\n<=s.2/\s.2<=maxLen)/\ao=own 3 1 s.1 n s.2 (flat (I.take n))::ae Y 59 [.slice s.1 n s.2]::F::ae b 59 [.slice W n Z]::O) (by rw[<- aw];rfl) p p ?_ ?_ ?_
 ·intro l ag ay aA;have aQ:=aag (S:=Option Addr×Nat) l b W n Z I
   (λG s=>bz l (ay .ready none)::bz ag (.deferred (some []))::own 3 1 s.1 G s.2 (flat (I.take G))::ae Y 59 [.slice s.1 G s.2]::F::O)
   (λG s=>(0<G->∃b,s.1=(ak b))/\G<=s.2/\s.2<=maxLen)
   (λG s _=>av.skip.skip.skip.skip.skip) aK ?_ (none,0) ⟨λh=>absurd h (Nat.lt_irrefl 0),Nat.le_refl _,bu _⟩
  ·refine(D.pre aq aQ).dR ?_;rintro v au aG ⟨rfl,s,aP,rfl⟩ a3;refine⟨_,⟨.ready,none,_,Q,⟨rfl,s,aP,rfl⟩,rfl⟩,?_⟩;revert aG;exact aq
  ·intro G s al a5 ⟨aV,aW,aX⟩;have a2:G<n:=by grind
   have ar:I.take (G+1)=I.take G++[al]:=by
    simp_all[List.take_add_one]
   have a4:(I.take G).length=G:=by grind
   refine aA (ι:=Unit) (τ:=λ_=>[(2,R Y),(5,j al)]) (M:=λ_=>bz ag (.deferred (some []))::own 3 1 s.1 G s.2 (flat (I.take G))::ae Y 59 [.slice s.1 G s.2]::F::O) (Fy:=λ_=>True) ?_ ?_
   ·intro g ax _ _;refine K ?_;refine aL ?_;exact yq () trivial a8 az
   ·intro g ax _ _ _ _;refine K ?_;refine aU λa0=> ?_;refine GE (bx p p aI cn (cS p) aZ Q ah ah) ?_;rintro _ _ ⟨am,ap,rfl,aC,aH,aO,rfl⟩;refine cF ?_;refine af ?_;have a1:flat (I.take (G+1))=flat (I.take G)++[j al]:=by rw[ar,<- gm];rfl
    exact yp (bz ag (.deferred (some []))::own 3 1 am (G+1) ap (flat (I.take G)++[j al])::ae Y 59 [.slice am (G+1) ap]::F::O) ⟨rfl,(am,ap),⟨aO,aC,aH⟩,by grind⟩ aq
 ·rintro ag ao ⟨-,⟨U,J⟩,⟨aV,aW,aX⟩,rfl⟩;have ar:I.take n=I:=List.take_of_length_le C;rw[ar];refine K ?_;refine af ?_;exact yo [ag] rfl (by rw[<- aw];rfl) p (.tmp p .nil) (M:=own 3 1 U n J (flat I)::ae Y 59 [.slice U n J]::F::ae b 59 [.slice W n Z]::O) (j:=own 3 1 U n J (flat I)::ae b 59 [.slice W n Z]::O) aq aq ⟨U,J,by rw[aE];rfl,by simp_all,by simp_all⟩
 ·rintro ag J ao ⟨h,_⟩;cases h
def P8(b I n K)(j:List Int)(J)(Q:Rd J I n j)(U:n<=1000000):
  D E 686 #[.func (.func 687) #[] #[R b]] (ae b 59 [.slice I n K]::J) λv O=>∃G C,v=.slice G j.length C/\((0<j.length->∃b,G=(ak b))/\j.length<=C/\C<=maxLen)/\O=own 3 1 G j.length C (flat j)::ae b 59 [.slice I n K]::J:=by
 refine ap λg F=> ?_;refine GE (aw p (D.pick aI (P1 b I n K j _ Q.skip U))) ?_;rintro _ _ ⟨G,C,rfl,⟨W,Y,Z⟩,rfl⟩;refine ad ?_;refine af ?_;exact aj rfl (.tmp p .nil) aq ⟨G,C,rfl,⟨W,Y,Z⟩,rfl⟩
def yH(b J n Q j O)(U:Rd O J n j)(Z:n<=1000000):
  D E 681 #[.func (.func 687) #[] #[R b]] (ae b 59 [.slice J n Q]::O) λv Y=>∃I G,v=.slice I j.length G/\((0<j.length->∃b,I=(ak b))/\j.length<=G/\G<=maxLen)/\Y=own 3 1 I j.length G (flat (bj j))::ae b 59 [.slice J n Q]::O:=by
 have am:=U.len bs;refine ap λg F=> ?_;refine GE (aw p (D.pick aI (P8 b J n Q j _ U.skip Z))) ?_;rintro _ _ ⟨I,G,rfl,⟨W,ag,al⟩,rfl⟩;refine K ?_;refine a9 (D.pick aI (Bd I _ G j _ W p C)) ?_;refine af ?_;exact aj rfl (.tmp p .nil) aq ⟨I,G,rfl,⟨W,ag,al⟩,rfl⟩
end
def VD{E I args j}(h:D E I args [old j.hm] λv C=>v=.bool true/\C=[old j.hm]):
  Calls E I args j λG J=>G=.returned (.bool true)/\Below j.heap.size j J:=by
 refine(y8 h (a4.start j)).mono λG J ⟨v,C,K,⟨O,Q⟩,R⟩=> ?_;subst O Q;exact⟨K,R.below⟩
def Yl{D j C n E}(K:0<j)(h:Reads D j C n E):aM [old D.hm] j C n E:=by
 refine⟨h.1,λG=> ?_⟩;obtain⟨b,o,rfl,Q,I⟩:=h.2 (Nat.mul_pos G K);refine⟨b,o,rfl,λO v J=>aR.old ?_⟩;obtain⟨aa,rfl⟩:=List.getElem?_eq_some_iff.1 J;exact I O aa
end
end Go.Proofs.YtioamnghkmcbbaaGreat
