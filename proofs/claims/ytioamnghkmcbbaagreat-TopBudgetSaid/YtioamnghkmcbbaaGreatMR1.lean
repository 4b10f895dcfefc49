/- TopBudget: a part of its proof. -/
import Derived.Test.YtioamnghkmcbbaaGreatMR0
set_option linter.all false
set_option maxRecDepth 100000
set_option maxHeartbeats 4000000
open Classical renaming not_not->x0
open List renaming filter_append->l9,flatMap_cons->tm,getElem?_eq_getElem->cb,length->oT,map_append->gM,mem_append->cT,mem_cons->cQ,mem_cons_of_mem->kY,mem_cons_self->tp,mem_filter->gN,mem_map->jg,nodup_cons->ix,perm_append_comm->fZ,perm_append_singleton->HW,perm_ext_iff_of_nodup->BR,replicate->gP
open List.Perm renaming filter->PZ,map->x7,of_eq->P0
open List.cons renaming inj->Hx
open Nat renaming lt_irrefl->dc,zero_le->bu
open Option.some renaming inj->kw
open Go.RowKit
namespace Go.Proofs.YtioamnghkmcbbaaGreat
noncomputable section
namespace W.bN
def gH(M:List (I×Bool)):List I:=M.map (·.1)
def jR(M:List (I×Bool)):List I:=(M.filter (·.2)).map (·.1)
theorem Eb(M j):gH (M++j)=gH M++gH j:=by simp[gH]
theorem Di(M j):jR (M++j)=jR M++jR j:=by simp[jR]
theorem J3(j b M):jR ((j,b)::M)=(if b then[j]else[])++jR M:=by cases b<;>simp[jR]
theorem sj{p}:∀{M},c1 p M=none<->p∉gH M
 | []=>by simp[c1,gH]
 |x::M=>by
  unfold c1
  by_cases h:p=x.1
  ·simp[h,gH]
  ·have:=sj (p:=p) (M:=M);simp[h,this,gH]
theorem xw{j v}:∀{M},j∉gH M->eY j v M=M++[(j,v)]
 | [],_=>rfl
 |x::M,h=>by
  have aa:j≠x.1:=λC=>h (by simp[gH,C]);have ab:j∉gH M:=λC=>h (by simp_all[gH]);simp[eY,aa,xw ab]
def Fx{j}:∀{M},j∈gH M->∃C b W,M=C++(j,b)::W/\j∉gH C/\c1 j M=some b/\∀v,eY j v M=C++(j,v)::W
 | [],h=>by trivial
 |x::M,h=>by
  by_cases aa:j=x.1
  ·exact⟨[],x.2,M,by simp_all,by simp[gH],by simp[c1,aa],λv=>by simp[eY,aa]⟩
  ·have ab:j∈gH M:=by
    simp_all[gH,cQ]
   obtain⟨C,b,W,G,I,D,E⟩:=Fx ab;refine⟨x::C,b,W,by simp_all,λJ=> ?_,by simp[c1,aa,D],λv=>by simp[eY,aa,E]⟩;simp_all[gH,cQ]
theorem MA{j M}:j∈jR M<->(j,true)∈M:=by simp[jR]
theorem Mz{j M}:j∈gB M<->(j,false)∈M:=by simp[gB]
theorem RL(M):(gB M).Sublist (gH M):=List.filter_sublist.map _
theorem qJ{p b}:∀{M},(gH M).Nodup->(c1 p M=some b<->(p,b)∈M)
 | [],_=>by simp[c1]
 |x::M,h=>by
  have j:=ix.1 (show(x.1::gH M).Nodup from h);have E:=qJ (p:=p) (b:=b) j.2;obtain⟨D,G⟩:=x;unfold c1
  by_cases aa:p=D
  ·subst aa;have ab:∀b,(p,b)∉M:=λb C=>j.1 (jg.2 ⟨_,C,rfl⟩);grind
  simp_all
theorem I1{M}(j:(gH M).Nodup):(gB M).Perm ((gH M).filter λC=>!decide (C∈jR M)):=by
 rw[BR ((RL M).nodup j) (j.filter _)];intro C;rw[Mz,gN];simp[Bool.not_eq_true',decide_eq_false_iff_not,MA];rw[<- qJ j,<- qJ j];constructor
 ·intro h;refine⟨x0.1 λE=> ?_,by simp_all⟩;grind[sj]
 ·rintro⟨aa,ab⟩;cases D:c1 C M with
  |none=>simp_all[sj]
  |some b=>simp_all
structure iB (M:List (I×Bool)) (j d:List I):Prop where
 k:(gH M).Perm j
 d:(jR M).Perm d
theorem iB.len{M j d}(h:iB M j d):M.length=j.length:=by have:=h.k.length_eq;simpa[gH]using this
theorem iB.Lb{M j d}(h:iB M j d)(E:j.Nodup){C}:c1 C M=some false<->C∈j/\C∉d:=by
 have D:=h.k.nodup_iff.2 E;rw[<- h.k.mem_iff,<- h.d.mem_iff];rw[qJ D,<- Mz,(I1 D).mem_iff,gN];simp
def iB.Lc{M j d}(h:iB M j d)(D:j.Nodup){C}:c1 C M=some true<->C∈d:=by
 have E:=h.k.nodup_iff.2 D;rw[<- h.d.mem_iff,qJ E,MA]
def iB.get_some{M j d}(h:iB M j d){p}:(c1 p M).isSome=true<->p∈j:=by
 rw[<- h.k.mem_iff];cases C:c1 p M with
 |none=>simp[sj.1 C]
 |some b=>
  simp[Option.isSome_some,true_iff];exact x0.1 λD=>by rw[sj.2 D]at C;trivial
theorem iB.new{M C d}(h:iB M C d){j}(I:j∉C){g}(D:g.Perm (j::C)):iB (eY j false M) g d:=by
 have E:=λG=>I (h.k.mem_iff.1 G);rw[xw E];refine⟨?_,?_⟩
 ·rw[Eb];exact(HW j _).trans ((h.k.cons j).trans D.symm)
 ·rw[Di];simpa[jR]using h.d
theorem iB.mark{M C d}(h:iB M C d){j}(E:c1 j M=some false):iB (eY j true M) C (d++[j]):=by
 have I:=x0.1 λJ=>by rw[sj.2 J]at E;trivial
 obtain⟨O,b,W,G,Q,D,K⟩:=Fx I;rw[E]at D;have R:=(kw D).symm;rw[K];have aa:=h.k;have ab:=h.d;rw[G]at aa ab;refine⟨?_,?_⟩
 ·rw[Eb]at aa ⊢;trivial
 ·rw[Di,J3]at ab ⊢;grind
def iB.back{M C d}(h:iB M C d){j}(E:c1 j M=some true):iB (eY j false M) C (d.erase j):=by
 have I:=x0.1 λJ=>by rw[sj.2 J]at E;trivial
 obtain⟨O,b,W,G,Q,D,K⟩:=Fx I;rw[E]at D;have R:=(kw D).symm;rw[K];have aa:=h.k;have ab:=h.d;rw[G]at aa ab;refine⟨?_,?_⟩
 ·rw[Eb]at aa ⊢;trivial
 ·rw[Di,J3]at ab ⊢;grind
theorem iB.gB{M:List (I×Bool)}{C d:List I}(h:iB M C d)(E:C.Nodup):(gB M).Perm (C.filter λj=>!decide (j∈d)):=by
 have G:=h.k.nodup_iff.2 E;refine(I1 G).trans ?_;have D:(λj=>!decide (j∈jR M))=λj=>!decide (j∈d):=by
  funext j
  have:=h.d.mem_iff (a:=j);simp_all
 rw[D];exact h.k.filter _
theorem J4(j:b9)(M:List (I×Bool)):hO j M=((jR M).filter (dI j)).map (·.id):=by simp[hO,jR,List.filter_map,dI,Bool.and_comm]
def SG{G l}(o:G.of l)(j:dg I.less l):∃U,jH U [G]:=by
 cases l with
 |nil=>exact⟨0,[],0,o,j,Int.le_refl _,Q,trivial⟩
 |cons D q=>
  obtain⟨E,K⟩:∃E,(D::q)[(D::q).length-1]?=some E:=⟨_,cb Q⟩;refine⟨D.x,D::q,E.x,o,j,rX j (bu _) p K,λW O=> ?_,trivial⟩;obtain⟨R,J,rfl⟩:=List.mem_iff_getElem.1 O;exact⟨rX j (bu R) p (cb J),rX j C (cb J) K⟩
def R4{b j l}(o:j.of l)(C:dg I.less l):(fT b j).gf b<=4*j.fw+1:=by
 unfold fT;split
 ·obtain⟨D,h⟩:=SG o C;have:=h.gf b j.fw Q;grind[eM]
 simp[a5.gf]
def R5{b:b9}{j:a5}{l:List I}(o:j.of l)(C:dg I.less l):((fT b j).d1 b).Perm ((l.filter (dI b)).map (·.id)):=
 (jz _).symm.trans ((P0 (R1 o C)).trans (jz _))
def Jo(b){E}:∀(j),(∀x∈j,x.at_ E)->(∀x∈j,x.l.length<=512)->eM b (ft b j)<=41*j.length
 | [],_,_=>Nat.le_refl _
 |x::j,h,ab=>by
  have J:=Jo b j (λy D=>h y (kY _ D)) (λy D=>ab y (kY _ D));have C:=h x tp;have G:=R4 (b:=b) C.o C.a;have I:=C.o.fw 9 (ab x tp);grind[eM,ft]
def Jp(b:b9){D:aG}:∀(j:List fm),(∀x∈j,x.at_ D)->(ii b (ft b j)).Perm (((j.flatMap (·.l)).filter (dI b)).map (·.id))
 | [],_=> .refl _
 |x::j,h=>by
  have I:=Jp b j (λy G=>h y (kY _ G));have C:=h x tp;have E:=R5 (b:=b) C.o C.a;rw[tm,l9,gM];exact E.append I
theorem V3(o:Option fm)(j:List (Option fm)):eG (o::j)=(match o with|none=>[]|some C=>if 0<C.l.length then[C]else[])++eG j:=by
 unfold eG;grind
theorem V4(j:List (Option fm)):(eG j).flatMap (·.l)=j.flatMap opts:=by
 induction j with
 |nil=>rfl
 |cons o j C=>
  grind[V3,opts,List.eq_nil_of_length_eq_zero]
def V5(j):(eG j).length<=j.length:=by grind[eG,List.length_filterMap_le]
def Mg{j C}(h:C∈eG j):some C∈j:=by
 have:=(gN.1 h).1;simp_all
def jI(C:List (Option fm))(j:List (List I)):Prop:=C.map opts=j.map (a7 I.less)
theorem jI.len{C j}(h:jI C j):C.length=j.length:=by have:=congrArg oT h;simp_all
theorem jI.flat:∀{C}{j},jI C j->(C.flatMap opts).Perm j.flatten
 | [],[],_=> .refl _
 | [],_:: _,h=>by trivial
 | _:: _,[],h=>by trivial
 |o::C,l::j,h=>by
  have aa:=(Hx h).1;have ab:jI C j:=(Hx h).2;rw[tm,List.flatten_cons,aa];exact(e1 l).append ab.flat
theorem jI.take{C j}(h:jI C j)(k):jI (C.take k) (j.take k):=by
 unfold jI at*
 simp_all
theorem jI.at_{j D}(h:jI j D){C:Nat}{o}(E:j[C]?=some o):∃l,D[C]?=some l/\opts o=a7 I.less l:=by
 have aa:(j.map opts)[C]?=some (opts o):=by grind
 rw[show j.map _=D.map _ from h,List.getElem?_map]at aa;grind
theorem Y5:a7 I.less []=[]:=by simp[a7]
theorem jI.put{E K D C G Q}(h:jI K D)(J:Ct E K C G Q):jI (jw K C G) (h7 [E] D)/\l2 [E] D=G.l.length:=by
 have am:=h.len;obtain⟨U,W⟩:=NR C D _ (λal O=>by
  have ae:=Nat.lt_of_lt_of_le O J.le;have g:=cb ae;obtain⟨l,ag,j⟩:=h.at_ g;have:=J.full al _ O g;rw[j,e0]at this;simp_all) (by
  rcases J.end_ with j|⟨o,j,R⟩
  ·omega
  ·right;obtain⟨l,ag,j⟩:=h.at_ j;have Y:=congrArg oT j;rw[R,e0]at Y;simp_all)
 have Z:=((h.take C).flat.symm.cons E);have ak:G.l=a7 I.less ([E]++(D.take C).flatten):=by
  rw[J.l,e9];exact l4 fX (l5 fX _) ((e1 _).trans Z.symm)
 constructor
 ·unfold jI;rw[U,jw];simp[gM,List.map_replicate,List.map_cons,List.map_drop];rw[show K.map _=D.map _ from h,Y5];show gP C []++G.l:: _= _;grind
 ·rw[W,ak,e0]
structure mh where
 A:Option Addr
 c:Nat
 b:Nat
 da:List (Option fm)
 M:List (I×Bool)
 N:List aO
structure jj (j:mh) (S:ct):Prop where
 og:jI j.da S.Y
 at_:∀o∈j.da,hk j.N o
 mp:iB j.M S.Y.flatten S.d
 A:0<j.da.length->∃b,j.A=(ak b)
def uN(s:Nat)(C:Int)(j:mh)(S:ct):List aO:=[ae s 259 (hj j.A j.da.length j.c j.b (S.d.length:Nat) C (S.ed:Nat)),co j.b j.M,own 325 1 j.A j.da.length j.c (flat j.da),f5 j.N]
def gY(s:Nat)(C:Int)(S:ct):aO:=λh=>∃j:mh,jj j S/\G (uN s C j S) h
structure qq (j:mh) (S:ct):Prop extends jj j S where
 dt:j.da.length<=j.c
 d5:j.c<=maxLen
def L8{s C S h}(q:gY s C S h):∃j:mh,qq j S/\G (uN s C j S) h:=by
 obtain⟨j,g,q⟩:=q;have D:=own.facts (G.tail (G.tail q));exact⟨j,⟨g,D.2.1,D.2.2.1⟩,q⟩
def D.Ah{G I args E s C S post}(W:∀j,qq j S->D G I args (ae s 259 (hj j.A j.da.length j.c j.b (S.d.length:Nat) C (S.ed:Nat))::co j.b j.M::own 325 1 j.A j.da.length j.c (flat j.da)::f5 j.N::E) post):D G I args (gY s C S::E) post:=
 D.open (ι:=mh) (E:=λj=>qq j S) (J:=λj=>uN s C j S) (λ_ h=>L8 h) λj J=>W j J
def nn{C M s I S n}{E D:Int}{J}(j)(R:j.da.length=n)(Q:(S.d.length:Nat)=E)(O:(S.ed:Nat)=D)(U:flat j.da=J)(g:jj j S)(K:∀h,G C h->G (ae s 259 (hj j.A n j.c j.b E I D)::co j.b j.M::own 325 1 j.A n j.c J::f5 j.N::M) h):∀h,G C h->G (gY s I S::M) h:=λh W=>by
 subst R Q O U;exact G.fold (λh q=>⟨j,g,q⟩) (K h W)
def hk.mono{L M}(j:∀h,G M h->G L h){o}(h:hk L o):hk M o:=λD C=>eb.mono j (h D C)
theorem hk.f5{j:aG}{C:aG}{o:Option fm}(h:hk j o):hk (f5 j::C) o:=h.mono λ_ s=>by
 obtain⟨aa,ab,I,E,J,D,l⟩:=s;exact G.up D E
def jj.CO{j S}(h:jj j S){C}:∀o∈j.da,hk (f5 j.N::C) o:=λo D=>(h.at_ o D).f5
def jj.M5{C S}(h:jj C S){j}(E:S.Y.flatten.length<=j):∀o∈C.da,(opts o).length<=j:=λo D=>by
 have aa:=h.og.flat.length_eq;have ab:(opts o).Sublist _:=List.sublist_flatten_of_mem (jg.2 ⟨o,D,rfl⟩)|>λh=>by assumption
 grind
theorem jj.eG{j:mh}{S:ct}(h:jj j S){C:aG}:∀D∈eG j.da,D.at_ (f5 j.N::C):=V2 h.CO
theorem jj.d1{j:mh}{S:ct}(h:jj j S)(E:S.Y.flatten.Nodup)(C:b9):(ii C (ft C (Proofs.YtioamnghkmcbbaaGreat.W.bN.eG j.da))).Perm (hO C j.M++((S.live).filter (dI C)).map (·.id)):=by
 have aa:=Jp C (D:=f5 _:: []) _ h.eG;rw[V4]at aa;refine aa.trans ?_;rw[J4,<- gM,<- l9];refine x7 _ (PZ _ ?_);refine h.og.flat.trans ?_;have ab:S.live.Perm _:=e1 _;have D:(jR j.M++gB j.M).Perm (gH j.M):=by
  unfold jR gB gH;rw[<- gM];exact x7 _ (List.filter_append_perm _ _)
 exact h.mp.k.symm.trans (D.symm.trans ((h.mp.gB E).trans ab.symm|>.append_left _))
theorem jj.dead{C S}(h:jj C S)(j):bj (hO j C.M)=li j S.d:=by
 rw[J4];exact Bf ((h.mp.d.filter _).map _)
end W.bN
namespace W.bN
attribute [local irreducible] G bf cc
def wX{n j}(h:n=0\/2 ^ (n-1)<=j)(D:j<=600):n<=10:=by
 rcases h with h|h
 ·omega
 ·rcases Nat.lt_or_ge n 11 with aa|aa
  ·omega
  ·have:2 ^ 10<=2 ^ (n-1):=Nat.pow_le_pow_right Q C;omega
def xH{j M h}(s:G (j++M) h):G j h:=by
 obtain⟨aa,ab,D,C,E,n,l⟩:=s.split;exact n.up C
def Tn{C M j h}(s:G (f5 C::f5 M::j) h):G (f5 (C++M)::j) h:=by
 have aa:=G.part s;have ab:=aa.perm List.perm_middle;have D:=G.part ab;have E:G ((C++M)++j) h:=D.perm (by
  rw[<- List.append_assoc];exact(fZ).append_right j)
 exact G.join E
def Ke{j M}(C:∀h,G j h->G M h):∀h,G j h->G (f5 []::M) h:=Tk (j:=[]) C
theorem Xf{j}:hk j none:=λC h=>by grind
def WL{j}{S:ct}{C}(E:jI C S.Y)(G:j∉S.Y.flatten)(K:eg j=true)(I:S.Y.flatten.Nodup)(J:∀q∈S.Y.flatten,eg q=true)(D):lZ (e9 j (C.take D))=0:=by
 have aa:((C.take D).flatMap opts).Sublist (C.flatMap opts):=by
  grind[List.take_append_drop,List.sublist_append_left]
 have ab:=E.flat;have Q:=ix.2 ⟨λh=>G (ab.mem_iff.1 (aa.subset h)),aa.nodup (ab.nodup_iff.2 I)⟩;have O:(e9 j _).Perm (j::(C.take D).flatMap _):=e1 _;unfold lZ;grind
def Mb(s K S I U)(Z:I∉S.Y.flatten)(av:eg I=true)(aC:S.Y.flatten.Nodup)(ap:∀q∈S.Y.flatten,eg q=true)(aH:S.Y.length<=50)(aI:S.Y.flatten.length<=1000)(aG:S.ed<=1000000000):
  D E 374 #[R s,I.v] (gY s K S::U) λv W=>v=.tuple #[]/\W=gY s K (S.put I)::U:=by
 refine D.Ah λJ j=> ?_;have aa:=j.og.len;have ab:=j.og.flat.length_eq;refine(VY s _ _ _ _ K _ _ I _ _ _ j.A p j.CO C C j.dt j.d5 (WL j.og Z av aC ap) ⟨Q,C⟩).dR ?_;rintro v W aw ⟨ak,am,ag,O,al,rfl,ae,ar,rfl⟩ ay;obtain⟨ao,aE⟩:=j.og.put ae;refine⟨_,⟨rfl,rfl⟩,?_⟩;have au:jj ⟨ak,am,J.b,jw _ ag O,eY I false J.M,al++J.N⟩ (S.put I):=⟨ao,λo ax=> ?_,?_,λ_=>ar⟩
 ·refine nn _ p p (D:=(S.ed:Int)+(O.l.length:Nat)) ?_ p au (λh s=> ?_) aw ay
  ·show((S.ed+l2 _ _:Nat):Int)= _;omega
  ·exact G.ep (λ_ s=>G.ep (λ_ s=>G.ep (λ_ s=>Tn s) s) s) s
 ·rcases cT.1 (show o∈gP ag _++some O::J.da.drop _ from ax)with h|h
  ·grind[Xf]
  ·rcases cQ.1 h with rfl|h
   ·intro y aA;cases aA;exact eb.mono (λ_ s=>xH s) ae.t
   ·exact(j.at_ o (List.mem_of_mem_drop h)).mono (λ_ s=>xH (s.perm fZ))
 ·exact j.mp.new Z (AQ _ _)
section
variable{x:mh}{S:ct}{s:Nat}{bT:Int}{L:aG}(nv:qq x S)(h:aB L s 0 5 (hj x.A x.da.length x.c x.b (S.d.length:Nat) bT (S.ed:Nat)))(zZ:cY L x.b x.M)
include nv h zZ
theorem IA(K:S.live.length+S.d.length=S.Y.flatten.length)(J:S.Y.flatten.length<=100000):D E 229 #[R s] L λv G=>v=j (S.live.length:Nat)/\G=L:=by
 have I:=nv.mp.len;have:=VQ h zZ C C;rwa[show x.M.length-S.d.length=S.live.length by omega]at this
theorem Iz(j)(G:S.Y.flatten.Nodup):D E 373 #[R s,j.v] L λv C=>v=.bool (decide (j∈S.live))/\C=L:=by
 have:=VX j h zZ;rwa[show decide _=decide _ from decide_eq_decide.2 ((nv.mp.Lb G).trans ct.kL.symm)]at this
theorem QB(j)(J:S.Y.flatten.Nodup):D E 233 #[R s,j.v] L λv C=>v=.tuple #[.bool (decide (j∈S.d)),.bool (decide (j∈S.Y.flatten))]/\C=L:=by
 have:=Ma j h zZ;have G:(c1 j x.M).getD false=decide (j∈S.d):=by
  have aa:=nv.mp.Lc J (C:=j);cases K:c1 j _ with
  |none=>
   simp_all
  |some b=>grind
 have I:(c1 j x.M).isSome=decide (j∈S.Y.flatten):=by
  have aa:=nv.mp.get_some (p:=j);grind
 rwa[G,I]at this
end
def fQ.Am{S j}(h:fQ S j)(C:j<=600):S.Y.length<=10:=wX h.fw C
def QN(s J S G ax Z)(W:fQ S ax)(aQ:ax<=300):
  D E 281 #[R s,G.v] (gY s J S::Z) λv ay=>v=j (gX J S.live G)/\ay=gY s J (S.ins J G)::Z:=by
 refine D.Ah λI U=> ?_;have ak:=tF G;have aG:=W.su;have aX:=W.e2;have aL:=W.lN;have aP:=W.Am C;have aw:=λM aa ab=>IA (s:=s) (bT:=J) (L:=M) U aa ab aG C;have al:=λM aa ab=>Iz (s:=s) (bT:=J) (L:=M) U aa ab G W.eQ;have au:=λM aa ab=>QB (s:=s) (bT:=J) (L:=M) U aa ab G W.eQ;have aH:G∈S.live<->G∈S.Y.flatten/\G∉S.d:=ct.kL;unfold ct.ins gX;cases av:eg G with
 |false=>
  rw[av]at ak;rw[if_pos p,if_neg Q];refine ap λg F=> ?_;refine aS λam=> ?_;refine br p p p p ?_;refine bw p (ak _) ?_;refine br p p p p ?_;refine aD (cL p) ?_;refine K ?_;refine af ?_;exact aj (C:=gY s J S::Z) p (.tmp p .nil) (by(repeat first|exact bo|refine nn I p p p p U.tojj ?_|refine b7 ?_)<;>fail) ⟨rfl,rfl⟩
 |true=>
  rw[av]at ak;rw[if_neg Q]
  by_cases ar:G∈S.live
  ·rw[decide_eq_true ar]at al;rw[if_pos ar,if_neg Q];refine ap λg F=> ?_;refine aS λam=> ?_;refine br p p p p ?_;refine bw p (ak _) ?_;refine br p p p p ?_;refine aD (cL p) ?_;refine K ?_;refine a9 (al _ bS (by repeat' first|exact cY.here|apply cY.skip)) ?_;refine af ?_;exact aj (C:=gY s J S::Z) p (.tmp p .nil) (by(repeat first|exact bo|refine nn I p p p p U.tojj ?_|refine b7 ?_)<;>fail) ⟨rfl,rfl⟩
  ·rw[decide_eq_false ar]at al;rw[if_neg ar]
   by_cases ao:J<=S.live.length
   ·rw[if_pos ao,if_neg Q];refine ap λg F=> ?_;refine aS λam=> ?_;refine br p p p p ?_;refine bw p (ak _) ?_;refine br p p p p ?_;refine aD (cL p) ?_;refine K ?_;refine a9 (al _ bS (by repeat' first|exact cY.here|apply cY.skip)) ?_;refine aW (aE [0,2,3,4,5] (.e 1 (.q 6 (.q 7 .nil)))) ?_;iterate 5 refine ai ?_
    refine cU p p (aw _ bS (by repeat' first|exact cY.here|apply cY.skip)) ?_;iterate 2 refine ai ?_
    refine cK ?_;refine cD p (decide_eq_true ao) ?_;refine K ?_;refine af ?_;exact aj (C:=gY s J S::Z) p (.tmp p .nil) (by(repeat first|exact bo|refine nn I p p p p U.tojj ?_|refine b7 ?_)<;>fail) ⟨rfl,rfl⟩
   ·rw[if_neg ao,if_pos p]
    by_cases ag:G∈S.d
    ·rw[if_pos ag];rw[decide_eq_true ag]at au;have aC:=U.mp.back ((U.mp.Lc W.eQ).2 ag);have aV:=List.length_pos_of_mem ag;have aO:=List.length_erase_of_mem ag;refine ap λg F=> ?_;refine aS λam=> ?_;refine br p p p p ?_;refine bw p (ak _) ?_;refine br p p p p ?_;refine aD (cL p) ?_;refine K ?_;refine a9 (al _ bS (by repeat' first|exact cY.here|apply cY.skip)) ?_;refine aW (aE [0,2,3,4,5] (.e 1 (.q 6 (.q 7 .nil)))) ?_;iterate 5 refine ai ?_
     refine cU p p (aw _ bS (by repeat' first|exact cY.here|apply cY.skip)) ?_;iterate 2 refine ai ?_
     refine cK ?_;refine b2 p (decide_eq_false ao) ?_;refine K ?_;refine a9 (au _ bS (by repeat' first|exact cY.here|apply cY.skip)) ?_;refine aW (aE [0,1,2,3,4] (.e 5 .nil)) ?_;iterate 5 refine ai ?_
     refine an (cj O p p p (pv p p p aI) ?_);rintro _ _ ⟨rfl,rfl⟩;refine K ?_;refine af ?_;have aA:jj ⟨I.A,I.c,I.b,I.da,eY G false I.M,I.N⟩ ⟨S.Y,S.d.erase G,S.ed⟩:=⟨U.og,U.at_,aC,U.A⟩;exact aj (C:=gY s J ⟨S.Y,S.d.erase G,S.ed⟩::Z) p (.tmp p .nil) (by(repeat first|exact bo|refine nn ⟨I.A,I.c,I.b,I.da,eY G false I.M,I.N⟩ p (E:=((S.d.length-1:Nat):Int)) (by show((S.d.erase G).length:Int)= _;omega) p p aA ?_|refine b7 ?_)<;>fail) ⟨rfl,rfl⟩
    ·rw[if_neg ag];rw[decide_eq_false ag]at au;have aK:=λM=>Mb s J S G M (λh=>ar (aH.2 ⟨h,ag⟩)) av W.eQ W.a0 C C C;refine bH λg F=> ?_;refine aJ ?_;refine aU λam=> ?_;refine ad ?_;refine af ?_;refine aJ ?_;iterate 4 refine ad ?_
     refine br p p p p ?_;refine bw p (ak _) ?_;refine br p p p p ?_;refine aD (cL p) ?_;iterate 2 refine ad ?_
     refine dG ?_;refine aJ ?_;iterate 2 refine ad ?_
     refine bw p (al _ bS (by repeat' first|exact cY.here|apply cY.skip)) ?_;refine ad ?_;refine dG ?_;refine aW (aE [0,2,3,4,5] (.e 1 (.q 6 (.q 7 .nil)))) ?_;iterate 5 refine ai ?_
     refine cU p p (aw _ bS (by repeat' first|exact cY.here|apply cY.skip)) ?_;iterate 2 refine ai ?_
     refine cK ?_;refine b2 p (decide_eq_false ao) ?_;refine aF ?_;refine aJ ?_;iterate 2 refine ad ?_
     refine bw p (au _ bS (by repeat' first|exact cY.here|apply cY.skip)) ?_;iterate 5 refine ad ?_
     refine bD ?_;refine ad ?_;refine dG ?_;refine b5 (j:=gY s J S::ae am 43 [j G.id,j G.x,j G.y]::F::Z) (by(repeat first|exact bo|refine nn I p p p p U.tojj ?_|refine b7 ?_)<;>fail) ?_;refine aJ ?_;iterate 2 refine ad ?_
     refine bw p (aK _) ?_;refine bD ?_;refine ad ?_;refine af ?_;exact aj (C:=gY s J (S.put G)::Z) p (.tmp p .nil) aq ⟨rfl,rfl⟩
def VW(s O S W Z)(ax:S.Y.flatten.Nodup)(aL:∀q∈S.Y.flatten,eg q=true)(bf:S.Y.flatten.length<=W)(aV:W<=300)(bb:S.ed<=100000000):
  D E 375 #[R s] (gY s O S::Z) λv ay=>v=.tuple #[]/\ay=gY s O S.vV::Z:=by
 refine D.Ah λI av=> ?_;have be:=av.mp.len;have ao:=λM h=>VL s I.b I.da.length I.c I.A O S.ed S.d.length I.M M h C;have aG:a7 _ _=S.live:=l4 fX (l5 fX _) ((e1 _).trans (av.mp.gB ax));rw[aG]at ao;have aS:S.live.Nodup:=(e1 _).nodup_iff.2 (ax.filter _);have bd:S.live.length<=W:=by
  have:S.live.length<=S.Y.flatten.length:=by unfold ct.live;rw[e0];grind
  omega
 have ag:∀q∈S.live,eg q=true:=λq au=>aL q (ct.kL.1 au).1;unfold ct.vV;generalize S.live=l at*
 refine ap λg F=> ?_;refine GE (aw p (D.pick aI (ao _ bS))) ?_;rintro _ _ ⟨am,ae,rfl,aO,rfl⟩;refine K ?_;refine GE (Tg p aI) ?_;rintro _ _ ⟨rfl,rfl⟩;refine K ?_;refine af ?_;have a1:jj ⟨none,0,I.b,[],[],[]⟩ ⟨[],[],S.ed⟩:=⟨rfl,Q,⟨.refl _,.refl _⟩,λh=>absurd h (dc 0)⟩;refine b5 (own.nil_ 325 1) ?_;refine cJ (λG=>[(0,R s),(17,.slice am l.length ae),(18,j (l.length:Nat)),(19,j (G:Nat))]) (λG=>gY s O ((l.take G).foldl ct.put ⟨[],[],S.ed⟩)::own 43 3 am l.length ae (flat l)::F::Z) (λG=>G<=l.length) (λG=>l.length-G) 0 (bu _) a8 (by(repeat first|exact bo|refine nn ⟨none,0,I.b,[],[],[]⟩ p (E:=0) p p p a1 ?_|apply Ke|refine b7 ?_)<;>fail) ?_;rintro G bc;refine K ?_;refine af ?_;refine cp p (λaC=> ?_) (λaC=> ?_)
 ·obtain⟨U,rfl⟩:=aO C;have aK:l[G]?=some l[G]:=cb C;have a5:l.take (G+1)=l.take G++[l[G]]:=List.take_succ_eq_append_getElem C;have au:∀J,Rd (own 43 3 (ak U) l.length ae (flat l)::J) (ak U) l.length l:=λJ=>aM.own (bU _) (λ_=>⟨U,rfl⟩);have a9:∀J,aB (own 43 3 (ak U) l.length ae (flat l)::J) U (0+G*3) 3 [j l[G].id,j l[G].x,j l[G].y]:=λJ=>ll p aK J;have al:(l.take G).Sublist l:=List.take_sublist _ _;have ar:=zT (l.take G) ⟨[],[],S.ed⟩ W trivial (by grind) (λq h=>ag q (al.subset (by assumption))) p (by grind) (.inl p);have aW:l[G] ∉l.take G:=λh=>by
   grind
  have aQ:=ag l[G] (List.getElem_mem _);have aZ:(l.take G).length=G:=by simp_all
  have a6:(l.take (G+1)).foldl ct.put ⟨[],[],S.ed⟩=((l.take G).foldl ct.put ⟨[],[],S.ed⟩).put l[G]:=by rw[a5,List.foldl_append];rfl
  rw[aZ]at ar;have a0:=al.nodup aS;have aY:∀q∈l.take G,eg q=true:=λq h=>ag q (al.subset h);generalize(l.take G).foldl ct.put ⟨[],[],S.ed⟩=aA at*
  obtain⟨aH,aP,bg,a3,a4⟩:=ar;simp only[List.flatten_nil,List.nil_append]at aP;have bh:=aP.length_eq;have bi:=wX a3 C;have bj:W*G<=300*300:=Nat.mul_le_mul aV C;generalize l[G]=a2 at*
  have aX:=λM=>Mb s O aA a2 M (λh=>aW (aP.mem_iff.1 h)) aQ (aP.nodup_iff.2 a0) (λq h=>aY q (aP.mem_iff.1 h)) C C (by simp at a4;omega);refine aJ ?_;refine ad ?_;refine aD (er p (by repeat' first|exact a9 _|apply aB.skip)) ?_;refine aU λba=> ?_;refine cF ?_;refine bD ?_;iterate 2 refine ad ?_
  refine bw p (D.pick aI (aX _)) ?_;refine bD ?_;iterate 2 refine ad ?_
  refine af ?_;refine bM (G+1) C C a8 ?_;rw[a6];exact aq
 ·have aE:G=l.length:=C;subst aE;rw[List.take_length];refine aF ?_;exact e6 (D:=[]) (j:=[]) (C:=gY s O (l.foldl ct.put ⟨[],[],S.ed⟩)::Z) p .nil aq ⟨rfl,rfl⟩
def fQ.Wl{S E j}(h:fQ S E)(C:j∈S.live):(S.mark j).live.length+(S.mark j).d.length=(S.mark j).Y.flatten.length:=by
 have aa:=ct.kL.1 C;refine Proofs.YtioamnghkmcbbaaGreat.W.bN.su h.eQ ?_ ?_
 ·show(S.d++[j]).Nodup;rw[(HW j _).nodup_iff];exact ix.2 ⟨aa.2,h.mu⟩
 ·intro q D;rcases cT.1 (show q∈S.d++[j]from D)with ab|ab
  ·exact h.oi q ab
  ·have:q=j:=by simp_all
   rw[this];exact aa.1
def QM(s Q S G ar Z)(U:fQ S ar)(ay:ar<=300):
  D E 282 #[R s,G.v] (gY s Q S::Z) λv av=>v=j (pt S.live G)/\av=gY s Q (S.del G)::Z:=by
 refine D.Ah λI J=> ?_;have aH:=U.su;have aO:=U.e2;have aG:=U.lN;have ag:=λM aa ab=>Iz (s:=s) (bT:=Q) (L:=M) J aa ab G U.eQ;unfold ct.del pt
 by_cases W:G∈S.live
 ·rw[decide_eq_true W]at ag;rw[if_pos W,if_pos W];have aC:=U.Wl W;have ao:(S.mark G).d.length=S.d.length+1:=by show(S.d++[G]).length= _;simp
  have aA:=J.mp.mark ((J.mp.Lb U.eQ).2 (ct.kL.1 W));have al:jj ⟨I.A,I.c,I.b,I.da,eY G _ _,I.N⟩ (S.mark G):=⟨J.og,J.at_,aA,J.A⟩;have aw:qq _ _:=⟨al,J.dt,J.d5⟩;have am:=λM aa ab=>IA (s:=s) (bT:=Q) (L:=M) aw aa ab aC (by show S.Y.flatten.length<=_;omega);rw[ao]at am;have aK:(S.mark G).Y.flatten.length=S.Y.flatten.length:=rfl;have ax:=λM=>VW s Q (S.mark G) ar M U.eQ U.a0 U.e2 ay (by show S.ed<=_;omega)
  by_cases au:(S.mark G).d.length<=S.live.length-1
  ·rw[if_pos au];refine ap λg F=> ?_;refine aS λak=> ?_;refine bw p (ag _ bS (by repeat' first|exact cY.here|apply cY.skip)) ?_;refine aD (cL p) ?_;refine K ?_;refine aW (aE [0,1,2,3,4] (.e 5 .nil)) ?_;iterate 5 refine ai ?_
   refine an (cj O p p p (pv p p p aI) ?_);rintro _ _ ⟨rfl,rfl⟩;refine K ?_;refine aL ?_;refine aW (aE [0,1,2,3,4] (.e 5 (.q 6 .nil))) ?_;iterate 5 refine ai ?_
   refine cU p p (am _ bS (by repeat' first|exact cY.here|apply cY.skip)) ?_;refine ai ?_;refine cK ?_;refine b2 p (decide_eq_false C) ?_;refine K ?_;refine af ?_;exact aj (C:=gY s Q (S.mark G)::Z) p (.tmp p .nil) (by(repeat first|exact bo|refine nn ⟨I.A,I.c,I.b,I.da,eY G true I.M,I.N⟩ p (E:=((S.d.length+1:Nat):Int)) (by rw[ao]) p p al ?_|refine b7 ?_)<;>fail) ⟨rfl,rfl⟩
  ·rw[if_neg au];refine ap λg F=> ?_;refine aS λak=> ?_;refine bw p (ag _ bS (by repeat' first|exact cY.here|apply cY.skip)) ?_;refine aD (cL p) ?_;refine K ?_;refine aW (aE [0,1,2,3,4] (.e 5 .nil)) ?_;iterate 5 refine ai ?_
   refine an (cj O p p p (pv p p p aI) ?_);rintro _ _ ⟨rfl,rfl⟩;refine K ?_;refine aL ?_;refine aW (aE [0,1,2,3,4] (.e 5 (.q 6 .nil))) ?_;iterate 5 refine ai ?_
   refine cU p p (am _ bS (by repeat' first|exact cY.here|apply cY.skip)) ?_;refine ai ?_;refine cK ?_;refine cD p (decide_eq_true C) ?_;refine b5 (j:=gY s Q (S.mark G)::ae ak 43 [j G.id,j G.x,j G.y]::F::Z) (by(repeat first|exact bo|refine nn ⟨I.A,I.c,I.b,I.da,eY G true I.M,I.N⟩ p (E:=((S.d.length+1:Nat):Int)) (by rw[ao]) p p al ?_|refine b7 ?_)<;>fail) ?_;refine K ?_;refine a9 (ax _) ?_;refine af ?_;exact aj (C:=gY s Q (S.mark G).vV::Z) p (.tmp p .nil) aq ⟨rfl,rfl⟩
 ·rw[decide_eq_false W]at ag;rw[if_neg W,if_neg W];refine ap λg F=> ?_;refine aU λak=> ?_;refine ad ?_;refine af ?_;refine aJ ?_;iterate 3 refine ad ?_
  refine dG ?_;refine aJ ?_;iterate 2 refine ad ?_
  refine bw p (ag _ bS (by repeat' first|exact cY.here|apply cY.skip)) ?_;refine aD (cL p) ?_;refine ad ?_;refine f7 ?_;refine aJ ?_;refine ad ?_;refine af ?_;exact aj (C:=gY s Q S::Z) p (.tmp p .nil) (by(repeat first|exact bo|refine nn I p p p p J.tojj ?_|refine b7 ?_)<;>fail) ⟨rfl,rfl⟩
end W.bN
namespace W.bN
def fQ.UP{S G I j}(h:fQ S G)(O:G<=300)(D:gX I S.live j=0):(S.ins I j).live.Perm (j::S.live):=by
 have E:j∉S.live:=λE=>by
  unfold gX at D;grind
 rw[BR (h.ins O).wW (ix.2 ⟨E,h.wW⟩)];intro q;rw[ct.kL,cQ,ct.kL];unfold ct.ins;rw[if_pos D]
 by_cases C:j∈S.d
 ·rw[if_pos C];rw[h.mu.mem_erase_iff];constructor
  ·grind
  ·rintro(J|⟨aa,ab⟩)
   ·subst J;exact⟨h.oi q C,λK=>K.1 p⟩
   simp_all
 ·rw[if_neg C];show q∈(h7 _ _).flatten/\q∉S.d<->_;rw[(AQ _ _).mem_iff,List.singleton_append,cQ];grind
def fQ.S9{S D j}(h:fQ S D)(G:D<=300)(J:j∈S.live):(S.del j).live.Perm (S.live.erase j):=by
 rw[BR (h.del G).wW (h.wW.erase j)];intro q;rw[h.wW.mem_erase_iff];unfold ct.del;rw[if_pos J];have I:q∈(S.mark j).live<->q≠j/\q∈S.live:=by
  rw[ct.kL,ct.kL];show q∈S.Y.flatten/\q∉S.d++[j]<->_;grind
 split
 ·omega
 ·rw[<- I];have Q:(S.mark j).live.Nodup:=by
   exact(e1 _).nodup_iff.2 (h.eQ.filter _)
  have K:∀C∈(S.mark j).live,C∈S.Y.flatten:=λC E=>(ct.kL.1 E).1;have O:(S.mark j).live.length<=S.Y.flatten.length:=by
   unfold ct.live;rw[e0];exact List.length_filter_le _ _
  obtain⟨_,R,U,_,_⟩:=zT (S.mark j).live ⟨[],[],S.ed⟩ D trivial (by assumption) (λC E=>h.a0 C (K C (by assumption))) p (by have:=h.e2;grind) (.inl p);rw[ct.kL];show q∈((S.mark j).live.foldl ct.put ⟨[],[],S.ed⟩).Y.flatten/\q∉((S.mark j).live.foldl ct.put ⟨[],[],S.ed⟩).d<->_;grind
end W.bN
namespace W.bN
attribute [local irreducible] G bf cc
section
variable{x:mh}{S:ct}{s:Nat}{bT:Int}{L:aG}(nv:qq x S)(h:aB L s 0 5 (hj x.A x.da.length x.c x.b (S.d.length:Nat) bT (S.ed:Nat)))
include nv h
theorem QC(Q:Rd L x.A x.da.length x.da)(Z:∀o∈x.da,hk L o)(W:x.da.length<=1000):D E 349 #[R s] L λv G=>Made 325 (eG x.da) L v G:=by
 have U:=λI aa ab K=>VZ s x.b x.da.length x.c x.A bT S.ed S.d.length x.da I aa ab K C;generalize eG _=ae at*
 refine ap λg F=> ?_;refine GE (aw p (U _ (by repeat' first|exact h|apply aB.skip) (by repeat' first|exact Q|apply Rd.skip) (λo Y=>by simp_all[hk.skip]))) ?_;rintro _ _ ⟨j,J,rfl,O,rfl⟩;refine ad ?_;refine af ?_;exact aj rfl (.tmp p .nil) aq ⟨j,J,rfl,O,rfl⟩
end
end W.bN
namespace W.bN
theorem UG(j l):(li j l).length=(l.filter (dI j)).length:=by rw[li,(jz _).length_eq,List.length_map]
section
variable{x:mh}{S:ct}{s m:Nat}{bT:Int}{L:aG}(nv:qq x S)(ok:fQ S m)(ez:m<=300)(h:aB L s 0 5 (hj x.A x.da.length x.c x.b (S.d.length:Nat) bT (S.ed:Nat)))
include nv ok ez h
theorem QA(j):D E 350 #[R s,j.v] (co x.b x.M::L) λv G=>Made 3 (li j S.d) (co x.b x.M::L) v G:=by
 have J:=ok.e2;have I:=nv.mp.len;have:=VN s _ _ _ _ bT _ _ j x.M L h C;rwa[nv.dead j]at this
variable(Un:Rd L x.A x.da.length x.da)(pC:∀o∈x.da,hk L o)
include Un pC
end
def VT(C I)(aa:1<=C)(ab:C<=1048576):D E 109 #[j C] I λv J=>∃s,v=.tuple #[R s,j 0]/\J=gY s C ⟨[],[],0⟩::I:=
 (VU C I aa ab).dR λv J U ⟨s,b,K,O⟩ W=>by
  subst O;refine⟨_,⟨s,K,rfl⟩,?_⟩;have Y:jj ⟨none,0,b,[],[],[]⟩ ⟨[],[],0⟩:=⟨rfl,Q,⟨.refl _,.refl _⟩,λh=>absurd h (dc 0)⟩;refine nn _ p rfl p p Y (λh s=> ?_) U W;exact G.ep (λ_ s=>G.ep (λ_ s=>own.nil_ _ 1 _ (Ke bo _ s)) s) s
end W.bN
end
end Go.Proofs.YtioamnghkmcbbaaGreat
