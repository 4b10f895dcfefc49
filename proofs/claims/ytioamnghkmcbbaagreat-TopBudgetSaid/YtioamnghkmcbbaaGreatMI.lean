/- TopBudget: a part of its proof. -/
import Derived.Test.YtioamnghkmcbbaaGreatMid
import Derived.Test.YtioamnghkmcbbaaGreatMA3
import Derived.Test.YtioamnghkmcbbaaGreatMS
set_option linter.all false
set_option maxRecDepth 100000
set_option maxHeartbeats 4000000
open Go.Op renaming equal->dD
open Go.Result renaming andThen_ok->db
open Go.Sem renaming run_bind->cg
open List renaming append_nil->dA,countP_le_length->nX,eq_nil_of_length_eq_zero->e3,erase_sublist->HE,filter_congr->tk,filter_cons->nY,filter_eq_nil_iff->lA,flatMap_append->HH,getElem?_eq_getElem->cb,length_append->bP,length_cons->fc,length_erase_of_mem->to,length_filter_le->hY,length_singleton->fD,length_take->lB,map_append->gM,mem_append->cT,mem_cons->cQ,mem_cons_of_mem->kY,mem_filter->gN,mem_of_mem_erase->oU,nodup_append->rA,perm_middle->e4,reverse_append->mY,sum_append->BT,take_add_one->yb,take_of_length_le->jE
open List.Perm renaming append->Hu
open Nat renaming le_refl->bv,lt_irrefl->dc,zero_le->bu
open Go.RowKit
namespace Go.Proofs.YtioamnghkmcbbaaGreat
noncomputable section
namespace S.en
def _root_.Go.Proofs.YtioamnghkmcbbaaGreat.I.flip(s:I):I:=⟨s.id,s.y,s.x⟩
def _root_.Go.Proofs.YtioamnghkmcbbaaGreat.I.ends(s j:I):Bool:=s.flip.less j.flip
def l6:ev I.ends:=⟨λD=>I.nC _,λh j=>I.qV h j,λ{D q} h j=>I.qU (λC=>h (by
 rw[I.zM]at*
 simp[I.flip]at C;omega)) j⟩
inductive av where
 |nil
 |node (b:Nat) (mid:Int) (j:bA) (D:Nat) (K:List I) (C:bA) (E:Nat) (q:List I) (n:Nat) (J G:av)
def av.addr:av->Option Addr
 | .nil=>none
 | .node b _ _ _ _ _ _ _ _ _ _=>(ak b)
def av.bp:av->List I
 | .nil=>[]
 | .node _ _ _ _ D _ _ _ _ C j=>D++(C.bp++j.bp)
def av.size:av->Nat
 | .nil=>0
 | .node _ _ _ _ _ _ _ _ n _ _=>n
def av.depth:av->Nat
 | .nil=>0
 | .node _ _ _ _ _ _ _ _ _ C j=>max C.depth j.depth+1
def av.mF(mid:Int)(j q:List I)(D C:List I):Prop:=
 dg I.less j/\q=a7 I.ends j/\(∀s∈j,s.x<=mid/\mid<=s.y)/\(∀s∈D,s.y<mid)/\(∀s∈C,mid<s.x)
def av.ok:av->Prop
 | .nil=>True
 | .node _ mid _ _ D _ _ q n C j=>av.mF mid D q C.bp j.bp/\n=D.length+C.size+j.size/\max C.size j.size<=3*n/4/\0<n/\C.ok/\j.ok
theorem av.ok.size:∀{j:av},j.ok->j.size=j.bp.length
 | .nil,_=>rfl
 | .node _ mid _ _ E _ _ q n D C,⟨_,h,_,_,aa,ab⟩=>by
  simp[av.size,av.bp,bP];rw[<- aa.size,<- ab.size];omega
def av.ok.fair:∀{C:av},C.ok->∀s∈C.bp,s.x<=s.y
 | .nil,_,s,j=>by trivial
 | .node _ mid _ _ G _ _ q n E D,⟨h,_,_,_,aa,ab⟩,s,j=>by
  simp[av.bp,cT]at j;rcases j with j|j|j
  ·have:=h.2.2.1 s j;omega
  ·exact aa.fair s j
  ·exact ab.fair s j
theorem av.ok.nodup:∀{C:av},C.ok->C.bp.Nodup
 | .nil,_=> .nil
 | .node _ mid _ _ W _ _ q n U R,⟨h,_,_,_,aa,ab⟩=>by
  obtain⟨G,O,Q,I,J⟩:=h;refine rA.2 ⟨G.nodup fX,rA.2 ⟨aa.nodup,ab.nodup,λs j K E D=> ?_⟩,λs j K E D=> ?_⟩
  ·subst D;have:=I s j;have:=J s E;have:=aa.fair s j;omega
  grind
def av.has(s:I):av->Bool
 | .nil=>false
 | .node _ mid _ _ D _ _ _ _ C j=>if s.y<mid then C.has s else if mid<s.x then j.has s else decide (s∈D)
theorem av.ok.has{s}(C:s.x<=s.y):∀{j:av},j.ok->(j.has s=true<->s∈j.bp)
 | .nil,_=>by simp[av.has,av.bp]
 | .node _ mid _ _ U _ _ q n R Q,⟨h,_,_,_,aa,ab⟩=>by
  obtain⟨E,G,I,J,K⟩:=h;simp[av.has,av.bp];split
  ·rename_i D
   rw[aa.has C];grind
  ·split
   ·rename_i D O
    rw[ab.has C];grind
   grind
def av.own(C v mid:Int)(j q:List I):List I:=if v<mid then j.filter (λs=>decide (s.x<=v))else if mid<C then q.filter (λs=>decide (C<=s.y))else j
def mL(j v:Int)(s:I):Bool:=decide (j<=v/\s.x<=v/\j<=s.y)
def XC{C v mid j q}(K:C<=v)(D:q=a7 I.ends j)(J:∀s∈j,s.x<=mid/\mid<=s.y):(av.own C v mid j q).Perm (j.filter (mL C v)):=by
 unfold av.own;split
 ·grind[tk,mL]
 ·split
  ·rename_i E G
   subst D;refine List.Perm.trans ((e1 j).filter _) ?_;grind[tk,mL]
  grind[List.filter_eq_self,mL]
def av.found(j v:Int):av->List I
 | .nil=>[]
 | .node _ mid _ _ E _ _ q _ D C=>av.own j v mid E q++((if j<mid then D.found j v else[])++(if mid<v then C.found j v else[]))
theorem av.ok.found{D v}(C:D<=v):∀{j:av},j.ok->(j.found D v).Perm (j.bp.filter (mL D v))
 | .nil,_=> .refl _
 | .node _ mid _ _ W _ _ q n U R,⟨h,_,_,_,aa,ab⟩=>by
  obtain⟨K,E,G,O,Q⟩:=h;simp[av.bp,List.filter_append];refine(XC C E G).append (Hu ?_ ?_)
  ·split
   ·exact aa.found C
   ·rename_i I
    rw[lA.2];intro s J;unfold mL;grind
  ·split
   ·exact ab.found C
   ·rename_i I
    rw[lA.2];intro s J;unfold mL;grind
def av.seen(u v:Int):av->Nat
 | .nil=>0
 | .node _ mid _ _ _ _ _ _ _ C j=>1+((if u<mid then C.seen u v else 0)+(if mid<v then j.seen u v else 0))
theorem av.ok.seen{u v}:∀{j:av},j.ok->j.seen u v<=2*j.size-1
 | .nil,_=>bu _
 | .node _ mid _ _ O _ _ q n K J,⟨h,E,G,I,aa,ab⟩=>by
  have C:=aa.seen (u:=u) (v:=v);have D:=ab.seen (u:=u) (v:=v);simp[av.seen,av.size];grind
def eL(l:List I):List Int:=l.flatMap λs=>[s.x,s.y]
theorem qG:∀l:List I,(eL l).length=2*l.length
 | []=>rfl
 |a::l=>by
  have:=qG l;grind[eL,List.length_nil]
theorem Kk(v):∀l:List I,(∀s∈l,s.x<=s.y)->2*(l.filter λs=>decide (s.y<v)).length<=(dk cG v (eL l)).length
 | [],_=>bv _
 |a::l,h=>by
  have C:=Kk v l λs j=>h s (kY _ j);unfold dk cG eL at*
  grind
theorem Kj(v):∀l:List I,(∀s∈l,s.x<=s.y)->2*(l.filter λs=>decide (v<s.x)).length<=(d2 cG v (eL l)).length
 | [],_=>bv _
 |a::l,h=>by
  have C:=Kj v l λs j=>h s (kY _ j);unfold d2 cG eL at*
  grind
def ME{l v}(j:∀s∈l,s.x<=s.y)(h:(a7 cG (eL l))[l.length]?=some v):2*(l.filter λs=>decide (s.y<v)).length<=l.length/\2*(l.filter λs=>decide (v<s.x)).length<=l.length:=by
 have aa:=uQ p9 h;have ab:=EU p9 h;grind[Kk,Kj,qG]
instance:e5 (Option Addr):=⟨1,λj=>[.pointer j],λ_=>rfl,λ_ v h=>by simp at h;subst h;rfl⟩
def _root_.Go.Proofs.YtioamnghkmcbbaaGreat.aR.q3{j N D C v}(E:∀h,j h->G N h)(l:aR N C v):aR (j::D) C v:=⟨λh s=>by
 obtain⟨aa,ab,K,I,O,J,Q⟩:=s;exact hw.sub (l.1 _ (E _ J)) I⟩
def _root_.Go.Proofs.YtioamnghkmcbbaaGreat.aB.q3{j N D b o n C}(E:∀h,j h->G N h)(l:aB N b o n C):aB (j::D) b o n C:=⟨l.1,λJ v I=>(l.2 J v I).q3 E⟩
def _root_.Go.Proofs.YtioamnghkmcbbaaGreat.aM.Nl{D C J E n j I}(O:∀h,D h->G C h)(h:aM C E j n I):aM (D::J) E j n I:=
 ⟨h.1,λR=>let ⟨b,o,K,W⟩:=h.2 R;⟨b,o,K,λU v Q=>(W U v Q).q3 O⟩⟩
@[reducible] def oq (mid:Int) (C:bA) (K I:Nat) (D:bA) (O J:Nat) (G E:bA) (n:Nat):List Value:=[j mid,.slice C K I,.slice D O J,.pointer G,.pointer E,j (n:Nat)]
structure m2 (C:bA) (n j:Nat):Prop where
 a:0<n->∃b,C=(ak b)
 le:n<=j
 cap:j<=maxLen
def av.fit:av->Prop
 | .nil=>True
 | .node b mid j D J C E q n I G=>(m2 j J.length D/\m2 C q.length E)/\I.fit/\G.fit
def eh:av->aO
 | .nil=>λ_=>True
 | .node b mid C E j D I q n K J=>λh=>G [ae b 415 (oq mid C j.length E D q.length I K.addr J.addr n),own 45 3 C j.length E (flat j),own 45 3 D q.length I (flat q),eh K,eh J] h
def e7(j:aG):av->Prop
 | .nil=>True
 | .node b mid D G C E I q n K J=>(m2 D C.length G/\m2 E q.length I)/\aB j b 0 6 (oq mid D C.length G E q.length I K.addr J.addr n)/\Rd j D C.length C/\Rd j E q.length q/\e7 j K/\e7 j J
def e7.mono{L M}(f:∀h,G M h->G L h):∀{j},e7 L j->e7 M j
 | .nil,_=>trivial
 | .node b mid C E O D I q n K J,h=>⟨h.1,h.2.1.mono f,h.2.2.1.mono f,h.2.2.2.1.mono f,h.2.2.2.2.1.mono f,h.2.2.2.2.2.mono f⟩
theorem e7.skip{D j C}(h:e7 j C):e7 (D::j) C:=h.mono λ_ s=>s.tail
def e7.q3{j N D}(f:∀h,j h->G N h):∀{C},e7 N C->e7 (j::D) C
 | .nil,_=>trivial
 | .node b mid j I Q E J q n O K,h=>⟨h.1,h.2.1.q3 f,aM.Nl f h.2.2.1,aM.Nl f h.2.2.2.1,h.2.2.2.2.1.q3 f,h.2.2.2.2.2.q3 f⟩
def sq:∀(G)(K),G.fit->e7 (eh G::K) G
 | .nil,_,_=>trivial
 | .node b mid I O E J Q q n D C,K,j=>e7.q3 (N:=[ae b 415 (oq mid I E.length O J q.length Q D.addr C.addr n),own 45 3 I E.length O (flat E),own 45 3 J q.length Q (flat q),eh D,eh C]) (λ_ h=>h)
  ⟨j.1,aB.ae p,Rd.skip (aM.own (bU _) j.1.1.a),Rd.skip (Rd.skip (aM.own (bU _) j.1.2.a)),(sq D _ j.2.1).skip.skip.skip,(sq C [] j.2.2).skip.skip.skip.skip⟩
section
variable{P:Program}{B:Exit->Act->World->Prop}{g:c0}{n:Nat}{aK:List eU}{J:bW}{L M:aG}{b:Nat}{mid:Int}{A W:bA}{c:Nat}{ag:List I}{d:Nat}{q:List I}{m:Nat}{lo hi:av}
def z7(b:Nat)(mid:Int)(A:bA)(c:Nat)(ag:List I)(W:bA)(d:Nat)(q:List I)(m:Nat)(lo hi:av):List aO:=[ae b 415 (oq mid A ag.length c W q.length d lo.addr hi.addr m),own 45 3 A ag.length c (flat ag),own 45 3 W q.length d (flat q),eh lo,eh hi]
def Dq(j:∀h,G L h->G (z7 b mid A c ag W d q m lo hi++M) h):∀h,G L h->G (eh (.node b mid A c ag W d q m lo hi)::M) h:=λh s=>
 G.fold (N:=z7 b mid A c ag W d q m lo hi) (λ_ h=>h) (j h s)
def wu(j:∀h,G L h->G M h):∀h,G L h->G (eh .nil::M) h:=λh s=>
 ⟨λ_=>none,h,λ_=> .inl p,λ_ _ C=>(by grind),d7.refl _,trivial,j h s⟩
end
structure Qx (C:aG) (b:Nat) (mid:Int) (E:bA) (G:Nat) (D:List I) (W:bA) (J:Nat) (q:List I) (Q:Nat) (O K:av):Prop where
 aaR:aR C ⟨b,0+0,none⟩ (j mid)
 KG:aR C ⟨b,0+1,none⟩ (.slice E D.length G)
 aaV:aR C ⟨b,0+2,none⟩ (.slice W q.length J)
 KF:aR C ⟨b,0+3+0*1,none⟩ (.pointer O.addr)
 KE:aR C ⟨b,0+3+1*1,none⟩ (.pointer K.addr)
 DB:aR C ⟨b,0+5,none⟩ (j (Q:Nat))
 abg:Rd C E D.length D
 abh:Rd C W q.length q
 aba:m2 E D.length G
 abb:m2 W q.length J
 Uw:e7 C O
 Uv:e7 C K
theorem e7.f{C b mid j D K W E q J I G}(h:e7 C (.node b mid j D K W E q J I G)):Qx C b mid j D K W E q J I G:=
 ⟨h.2.1.at_ (i:=0) p,h.2.1.at_ (i:=1) p,h.2.1.at_ (i:=2) p,h.2.1.at_ (i:=3) p,h.2.1.at_ (i:=4) p,h.2.1.at_ (i:=5) p,h.2.2.1,h.2.2.2.1,h.1.1,h.1.2,h.2.2.2.2.1,h.2.2.2.2.2⟩
end S.en
namespace S.en
attribute [local irreducible] G
def h9(C:bA)(D:Nat)(j:List I):Prop:=(0<j.length->∃b,C=(ak b))/\j.length<=D
def d8(l:List I):List Int:=l.map (·.id)
def hy(s:I):Bool:=kg s.id&&dF s.x&&dF s.y&&decide (s.x<=s.y)
def yv(s O):D E 383 #[s.v] O λv Q=>v=.bool (hy s)/\Q=O:=by
 refine ap λg F=> ?_;refine aS λR=> ?_;refine bw p (wQ _ _) ?_;refine ad ?_;refine f0 p p p (λC=> ?y672) (λC=> ?n672)
 case' n672=>
  have I:=C;try simp only[jQ]at I
  refine el p p p C ?_;refine el p p p C ?_;refine aD (eW p C p) ?_;iterate 13 refine ad ?_
  refine af ?_;refine aj p (.tmp p .nil) az ⟨by simp_all[bG,hy],rfl⟩
 case' y672=>
  have I:=C;try simp only[jQ]at I
  refine ad ?_;refine br p p p C ?_;refine ad ?_;refine br p p p C ?_;refine bw p (m1 _ _) ?_;refine aD (eP p C p) ?_;refine ad ?_;refine f0 p p p (λG=> ?y676) (λG=> ?n676)
  case' n676=>
   have J:=G;try simp only[jQ]at J
   refine el p p p G ?_;refine el p p p G ?_;refine aD (eW p G p) ?_;iterate 8 refine ad ?_
   refine af ?_;refine aj p (.tmp p .nil) az ⟨by simp_all[bG,hy],rfl⟩
  case' y676=>
   have J:=G;try simp only[jQ]at J
   refine ad ?_;refine br p p p G ?_;refine ad ?_;refine br p p p G ?_;refine bw p (m1 _ _) ?_;refine aD (eP p G p) ?_;refine ad ?_;refine f0 p p p (λj=> ?y680) (λj=> ?n680)
   case' n680=>
    have K:=j;try simp only[jQ]at K
    refine el p p p j ?_;refine el p p p j ?_;refine el p p p j ?_;refine el p p p j ?_;refine aD (eW p j p) ?_;refine ad ?_;refine af ?_;refine aj p (.tmp p .nil) az ⟨by simp_all[bG,hy],rfl⟩
   case' y680=>
    have K:=j;try simp only[jQ]at K
    refine ad ?_;refine br p p p j ?_;refine ad ?_;refine br p p p j ?_;refine ad ?_;refine br p p p j ?_;refine ad ?_;refine br p p p j ?_;refine ad ?_;refine aD (eP p j p) ?_;refine ad ?_;refine af ?_;refine aj p (.tmp p .nil) az ⟨by simp_all[bG,hy],rfl⟩
def fV(C:Int)(j:List I)(s:I):Int:=if hy s=false then 1 else if s∈j then 5 else if C<=(j.length:Nat)then 4 else 0
def kd(j:List I)(s:I):Int:=if s∈j then 0 else 6
def ny(C:Int)(j:List I)(s:I):List I:=if fV C j s=0 then j++[s]else j
section
variable{P:Program}{L:aG}{J:bW}{d:Option Nat}{aQ T cE:TypeId}{a3:String}{a2:Array Edge}{a0:Option (Nat×Bool)}{x y:Operand}
end
end S.en
namespace S.en
attribute [local irreducible] G bf cc
def uI(C G)(h:e7 G C):D E 241 #[.pointer C.addr] G λv I=>v=j (C.size:Nat)/\I=G:=by
 cases C with
 |nil=>
  refine ap λg F=> ?_;refine af ?_;refine aj p (.tmp p .nil) az ⟨rfl,rfl⟩
 |node b mid J K Y W O q U R Q=>
  obtain⟨aH,aP,ak,al,am,ao,ar,au,av,Z,ae,ag⟩:=h.f;refine ap λg F=> ?_;refine af ?_;refine aj p (.tmp p .nil) az ⟨rfl,rfl⟩
def g7(mid:Int)(s:I):Int:=if s.y<mid then 0 else if mid<s.x then 1 else-1
def p7(b mid s C)(h:aR C ⟨b,0+0,none⟩ (j mid)):D E 323 #[R b,s.v] C λv J=>v=j (g7 mid s)/\J=C:=by
 unfold g7;refine ap λg F=> ?_;refine aS λK=> ?_;refine aL ?_;refine aW (aE [0,1,2,3,4,5,6] (.q 7 .nil)) ?_;iterate 8 refine ai ?_
 refine cK ?_;refine cp p (λG=> ?_) (λG=> ?_)
 ·rw[if_pos G];exact dq
 ·rw[if_neg G];refine aW (aE [0,1,2,3,4,5,6] (.q 7 .nil)) ?_;iterate 8 refine ai ?_
  refine cK ?_;refine cp p (λI=> ?_) (λI=> ?_)
  ·rw[if_pos I];exact dq
  ·rw[if_neg I];exact dq
def uA(b mid K U Z W Y q j J I G)(h:e7 G (.node b mid K U Z W Y q j J I))(ak:j<=100000):
  D E 328 #[R b] G λv O=>v=.bool (decide (3*j/4<max J.size I.size))/\O=G:=by
 obtain⟨aH,aP,am,ao,ar,au,av,aw,ax,al,ae,ag⟩:=h.f;refine ap λg F=> ?_;refine aL ?_;refine aW (aE [0,1,2,3,4,6,7,8,9,10,13,14,15,16,17,18] (.e 5 (.e 11 (.q 12 (.q 19 (.q 20 .nil)))))) ?_;iterate 3 refine ai ?_
 refine dd p (dV p p ah ah) ?_;iterate 4 refine ai ?_
 refine dd p (dV p p ah ah) ?_;iterate 5 refine ai ?_
 refine dd p (KB rfl p C) ?_;refine dd p (hQ (D:=3*(j:Int)) (q:=4) p p C Q C) ?_;refine cU p p (uI J _ ae.skip) ?_;refine cU p p (uI I _ ag.skip) ?_;refine bI ?_;exact⟨congrArg Value.bool (by rw[decide_eq_decide];omega),rfl⟩
def ms(j b:Int):Int:=if j<b then-1 else if b<j then 1 else 0
def B3(C b J):D E 140 #[j C,j b] J λv O=>v=j (ms C b)/\O=J:=by
 unfold ms;refine ap λg F=> ?_;refine a9 (D5 C _) ?_;refine a9 (D5 b _) ?_;refine af ?_;refine cp p (λG=> ?_) (λG=> ?_)
 ·rw[if_pos G];exact dq
 ·rw[if_neg G];refine K ?_;refine af ?_;refine cp p (λI=> ?_) (λI=> ?_)
  ·rw[if_pos I];exact dq
  ·rw[if_neg I];exact dq
def pZ:List Int->Int
 | []=>0
 |x::l=>if x≠0 then x else pZ l
def QZ(O n W l J)(Y:Rd J O n l)(aw:n<=1000000):D E 491 #[.slice O n W] J λv Z=>v=j (pZ l)/\Z=J:=by
 have aa:=Y.len bs;refine ap λg F=> ?_;refine af ?_;refine cJ (λG=>[(3,.int _ 0),(6,.slice O n W),(7,.int _ _),(8,.int _ (G:Nat))]) (λ_=>F::J) (λG=>G<=n/\pZ l=pZ (l.drop G)) (λG=>n-G) 0 ⟨bu _,rfl⟩ a8 az ?_;rintro G ⟨av,I⟩;refine K ?_;refine af ?_;refine cp p (λae=> ?_) (λae=> ?_)
 ·obtain⟨au,ax,rfl,ao⟩:=Y.at_ C;have am:l[G]?=some l[G]:=cb C;have ar:=(ao _ _ am).at_ (i:=0) p;have ak:l.drop G=l[G]::l.drop (G+1):=List.drop_eq_getElem_cons C;rw[ak]at I;generalize l[G]=U at*
  have ay:=ar;have al:∀R,pZ (U::R)=if U≠0 then U else pZ R:=λR=>rfl
  rw[al]at I;refine K ?_;refine af ?_;refine cp p (λQ=> ?_) (λQ=> ?_)
  ·rw[if_pos Q]at I;refine bI ?_;exact⟨by rw[I];rfl,rfl⟩
  ·rw[if_neg Q]at I;refine K ?_;refine af ?_;exact bM (G+1) ⟨C,I⟩ C a8 az
 ·have ag:l.drop G=[]:=List.drop_of_length_le C;rw[ag]at I;refine bI ?_;exact⟨by rw[I];rfl,rfl⟩
def Qh(s C:I)(G):D E 417 #[s.v,C.v] G λv J=>v=j (pZ [ms s.y C.y,ms s.x C.x,ms s.id C.id])/\J=G:=by
 refine ap λg F=> ?_;refine aU λO=> ?_;refine aS λR=> ?_;refine aL ?_;refine aW (aE [0,1,2,3,5,6,7,8,10,11,12,13] (.e 4 (.e 9 (.e 14 (.e 15 (.e 16 (.q 17 .nil))))))) ?_;iterate 12 refine ai ?_
 refine cU p p (B3 s.y C.y _) ?_;refine cU p p (B3 s.x C.x _) ?_;refine cU p p (B3 s.id C.id _) ?_;refine hu λK=> ?_;refine cU p p (QZ (ak K) 3 3 [ms s.y C.y,ms s.x C.x,ms s.id C.id] _ cr Q) ?_;exact dq
def Ts(s j):decide (pZ [ms s.y j.y,ms s.x j.x,ms s.id j.id]<0)=I.ends s j:=by
 have C:(I.ends s j=true)<->(s.y<j.y\/s.y=j.y/\(s.x<j.x\/s.x=j.x/\s.id<j.id)):=by
  unfold I.ends;rw[I.oA];rfl
 rw[Bool.eq_iff_iff,C,decide_eq_true_iff];grind[pZ,ms]
def Dt:k6 327 I.ends:=⟨λs j C=>by
 refine ap λg F=> ?_;refine aU λD=> ?_;refine aS λE=> ?_;refine a9 (Qh s j _) ?_;refine af ?_;refine aj p (.tmp p .nil) az ⟨congrArg Value.bool (Ts s j),rfl⟩⟩
def pP:k6 244 I.less:=⟨λs C j=>pO s C j⟩
def R6:k6 741 (λs j=>decide (s.x<j.x)):=⟨λs j C=>by
 refine ap λg F=> ?_;refine aU λD=> ?_;refine aS λE=> ?_;refine af ?_;refine aj p (.tmp p .nil) az ⟨rfl,rfl⟩⟩
def JN:k6 743 (λs j=>decide (s.y<j.y)):=⟨λs j C=>by
 refine ap λg F=> ?_;refine aU λD=> ?_;refine aS λE=> ?_;refine af ?_;refine aj p (.tmp p .nil) az ⟨rfl,rfl⟩⟩
def VK{s j:I}(h:s.less j=true):s.x<=j.x:=by rw[I.oA]at h;omega
def Tt{s j}(h:I.ends j s=false):s.y<=j.y:=by
 have: ¬(I.ends j s=true):=by simp_all
 unfold I.ends at this;rw[I.oA]at this;simp[I.flip]at this;omega
def Xy(b mid au ax G W ag q a5 a4 aZ J v Z)(h:e7 Z (.node b mid au ax G W ag q a5 a4 aZ))(a1:dg I.less G)(am:q=a7 I.ends G)(a0:G.length<=1000000):
  D E 740 #[R b,j J,j v] Z λa9 aI=>(∃aw aC aK,a9=.slice aw aC aK/\Rd Z aw aC (av.own J v mid G q))/\aI=Z:=by
 obtain⟨aH,aP,bd,be,bf,bg,aG,a6,a8,ar,bb,bc⟩:=h.f;have ba:q.length=G.length:=by rw[am,e0]
 refine ap λg F=> ?_;refine af ?_;refine cp p (λaL=> ?_) (λaL=> ?_)
 ·have U:av.own J v mid G q=G.filter (λs=>decide (s.x<=v)):=by simp_all[av.own,if_pos]
  have Y:G.Pairwise (λK b=>decide (b.x<=v)=true->decide (K.x<=v)=true):=a1.imp λal=>by
   have:=VK al;grind
  have O:G.countP (λs=>decide (s.x<=v))<=G.length:=nX;have ao:=wC _ G Y;have aY:=mA _ G Y;rw[U,<- ao];generalize G.countP (λs=>decide (s.x<=v))=ae at*
  refine aW (aE [0,1,2,3,4,5,6,7,8,9] (.e 10 (.q 11 (.q 12 .nil)))) ?_;iterate 10 refine ai ?_
  refine cU p p (P4 R6 au G.length ax ae G ⟨0,v,0⟩ _ cr a0 O (λaA K ay=>by grind)) ?_;refine cV p (h5 p p (by have:=a8.le;omega)) ?_;refine bI ?_;exact⟨⟨_,_,_,rfl,aG.take O⟩,rfl⟩
 ·refine aF ?_;refine cv ?_;iterate 7 refine ad ?_
  refine af ?_;refine cp p (λaO=> ?_) (λaO=> ?_)
  ·have U:av.own J v mid G q=q.filter (λs=>decide (J<=s.y)):=by simp_all[av.own,if_neg,if_pos]
   have a2:fG I.ends q:=by rw[am];exact l5 l6 G
   have Y:q.Pairwise (λK b=>decide (b.y<J)=true->decide (K.y<J)=true):=a2.imp λal=>by
    have:=Tt al;grind
   have O:q.countP (λs=>decide (s.y<J))<=q.length:=nX;have ao:=DC _ q Y;have aY:=mA _ q Y;have aV:q.filter (λs=>decide (J<=s.y))=q.filter (λs=>!decide (s.y<J)):=tk λs _=>by
    grind
   rw[U,aV,<- ao];generalize q.countP (λs=>decide (s.y<J))=ae at*
   by_cases aX:0<q.length
   ·obtain⟨aQ,rfl⟩:=ar.a aX;refine aW (aE [0,1,2,3,4,5,6,7,8,9] (.e 10 (.q 11 (.q 12 .nil)))) ?_;iterate 10 refine ai ?_
    refine cU p p (Io JN (ak aQ) q.length ag ae q ⟨0,0,J⟩ _ cr C O (λaA K ay=>by grind)) ?_;refine cV p (ga p p O ar.le) ?_;refine bI ?_;exact⟨⟨_,_,_,rfl,a6.drop O ar.le⟩,rfl⟩
   ·have aS:q=[]:=e3 C;have a3:ae=0:=C;clear am;subst aS a3;refine aW (aE [0,1,2,3,4,5,6,7,8,9] (.e 10 (.q 11 (.q 12 .nil)))) ?_;iterate 10 refine ai ?_
    refine cU p p (Io JN W 0 ag 0 [] ⟨0,0,J⟩ _ cr Q (bv _) (λaA K ay=>by trivial)) ?_;refine cV p (uv (l:=0) (h:=0) p (.inr ⟨_,_,rfl,rfl⟩) (.inl ⟨rfl,rfl⟩) (bv _) (bu _)) ?_;refine bI ?_;exact⟨⟨_,_,_,rfl,Rd.nil _ _⟩,rfl⟩
  ·have U:av.own J v mid G q=G:=by simp_all[av.own,if_neg]
   rw[U];refine bI ?_;exact⟨⟨_,_,_,rfl,aG⟩,rfl⟩
def i0(C:List (Option Addr×Nat×List I)):List I:=C.flatMap λj=>j.2.2
def y9(j C):(i0 (j.take C)).length<=(i0 j).length:=by grind[List.take_append_drop,i0,bP]
def JD{C:List (Option Addr×Nat×List I)}{j D}(h:C[j]?=some D):i0 (C.take (j+1))=i0 (C.take j)++D.2.2:=by simp_all[i0,yb]
def P9(W J I U)(aS:I.length=J)(aO:J<=1000)(au:∀G R,I[G]?=some R->aR U ⟨W,0+G*1,none⟩ (.slice R.1 R.2.2.length R.2.1)/\Rd U R.1 R.2.2.length R.2.2)(aW:(i0 I).length<=500000):
  D E 415 #[.slice (ak W) J J] U λv aA=>Made 45 (i0 I) U v aA:=by
 refine ap λg F=> ?_;refine aL ?_
 (repeat first|refine bZ ?_|refine fi ?_|refine gk ?_)
 refine hs (ι:=Unit) (λ_=>[(0,.slice (ak W) J J),(3,j ((i0 I).length:Nat))]) (λ_=>F::U) (λ_=>True) ?_ ?_
 ·refine aF ?_;refine cJ (ι:=Nat) (λG=>[(0,.slice (ak W) J J),(3,j ((i0 (I.take G)).length:Nat)),(9,.slice (ak W) J J),(10,j (J:Nat)),(11,j (G:Nat))]) (λ_=>F::U) (λG=>G<=J) (λG=>J-G) 0 (bu _) a8 az ?_;intro G aQ;have aH:=y9 I G;refine K ?_;refine af ?_;refine cp p (λae=> ?_) (λae=> ?_)
  ·have Z:I[G]?=some I[G]:=cb C;obtain⟨aK,av⟩:=au G _ Z;have Y:=JD Z;have am:=y9 I (G+1);rw[Y,bP]at am;generalize I[G]=R at*
   refine aJ ?_;iterate 3 refine ad ?_
   refine bD ?_;iterate 5 refine ad ?_
   refine bD ?_;iterate 2 refine ad ?_
   refine af ?_;refine b2 p (decide_eq_false Q) ?_;refine K ?_;refine af ?_;exact bM (G+1) C C ⟨rfl,by rw[Y,bP];rfl,rfl,rfl,rfl,trivial⟩ az
  ·have ag:I.take G=I:=jE C;rw[ag];refine aF ?_;exact ex () trivial a8 az
 ·rintro _ _;refine K ?_;refine GE (aw p (Ci (i0 I).length _ C)) ?_;rintro _ _ ⟨ax,aC,rfl,rfl⟩;refine K ?_;refine af ?_;refine cJ (ι:=Nat×Option Addr×Nat) (λO=>[(6,.slice O.2.1 (i0 (I.take O.1)).length O.2.2),(25,.slice (ak W) J J),(26,j (J:Nat)),(27,j (O.1:Nat))]) (λO=>own 45 3 O.2.1 (i0 (I.take O.1)).length O.2.2 (flat (i0 (I.take O.1)))::F::U) (λO=>O.1<=J/\(0< (i0 (I.take O.1)).length->∃b,O.2.1=(ak b))) (λO=>J-O.1) (0,ax,aC) ⟨bu _,λh=>absurd h (dc 0)⟩ a8 az ?_;rintro⟨G,ao,ar⟩ ⟨aG,al⟩;simp only at aG al;dsimp only;have aH:=y9 I G;refine K ?_;refine af ?_;refine cp p (λae=> ?_) (λae=> ?_)
  ·have Z:I[G]?=some I[G]:=cb C;obtain⟨aK,av⟩:=au G _ Z;have Y:=JD Z;have am:=y9 I (G+1);rw[Y,bP]at am;generalize I[G]=R at*
   refine K ?_;refine GE (bx p p aI (aM.skip (aM.skip av)) ((cO _)) aZ bs ah ah) ?_;rintro _ _ ⟨ay,aE,rfl,aP,aV,aX,rfl⟩;refine K ?_;refine af ?_;refine bM (G+1,ay,aE) ⟨C,by simp_all⟩ C ⟨by rw[Y,bP];rfl,rfl,rfl,rfl,trivial⟩ ?_;rw[Y,bP,fI];exact aq
  ·have ag:I.take G=I:=jE C;rw[ag]at al ⊢;refine K ?_;refine af ?_;exact aj (C:=own 45 3 ao (i0 I).length ar (flat (i0 I))::U) p (.tmp p .nil) aq ⟨ao,ar,rfl,al,rfl⟩
def Gr:∀(Y)(j),e7 j Y->Y.bp.length<=100000->D E 321 #[.pointer Y.addr] j λv aA=>Made 45 Y.bp j v aA
 | .nil,j,h,ay=>by
  refine ap λg F=> ?_;refine af ?_;refine aj (C:=own 45 3 none 0 0 []::j) p (.tmp p .nil) ?_ ⟨none,0,rfl,λh=>absurd h (dc 0),rfl⟩;exact λh s=>(own.nil_ 45 3 h s).swap
 | .node b mid O R U W am q ao J I,j,h,ay=>by
  simp only[av.bp,bP]at ay;have aI:=λj h=>Gr J j h C;have aK:=λj h=>Gr I j h C;obtain⟨aH,aP,aS,aV,aX,aY,aZ,a0,a2,aQ,aL,aO⟩:=h.f;have aG:∀Z ak ag al,i0 [(O,R,U),(Z,ak,J.bp),(ag,al,I.bp)]=(av.node b mid O R U W am q ao J I).bp:=λ_ _ _ _=>by simp[i0,av.bp]
  refine ap λg F=> ?_;refine aW (aE [0,1,2,3,4,5,6,7,8,10,11,12,13,14] (.e 9 (.e 15 (.e 16 (.e 17 (.q 18 .nil)))))) ?_;iterate 7 refine ai ?_
  refine dd p (dV p p ah ah) ?_;iterate 4 refine ai ?_
  refine dd p (dV p p ah ah) ?_;refine ai ?_;refine an (a1 p p p (aw p (aI _ aL.skip)) ?_);rintro _ _ ⟨Z,ak,rfl,aa,rfl⟩;refine cM ?_;refine an (a1 p p p (aw p (aK _ aO.skip.skip)) ?_);rintro _ _ ⟨ag,al,rfl,ab,rfl⟩;refine cM ?_;refine hu λaC=> ?_;refine an (a1 p p p (aw p (P9 aC 3 [(O,R,U),(Z,ak,J.bp),(ag,al,I.bp)] _ p Q (λk a3 G=>by match k,G with|0,G=> {cases G;exact⟨aR.ae p,cr⟩}|1,G=> {cases G;exact⟨aR.ae p,Rd.skip (Rd.skip (aM.own (bU _) aa))⟩}|2,G=> {cases G;exact⟨aR.ae p,Rd.skip (aM.own (bU _) ab)⟩}|k+3,G=> {simp at G}) (by grind[av.bp]))) ?_);rintro _ _ ⟨ar,au,rfl,ax,rfl⟩;refine cM ?_;refine K ?_;rw[aG]at ax ⊢;refine aF ?_;exact aj (C:=own 45 3 ar (av.node b mid O R U W am q ao J I).bp.length au (flat (av.node b mid O R U W am q ao J I).bp)::j) p (.tmp p .nil) aq ⟨ar,au,rfl,ax,rfl⟩
def hf(l:List I):List Int:=l.map (·.id)
theorem DW(l):(hf l).length=l.length:=List.length_map _
def UE{l:List I}{j C}(h:l[j]?=some C):hf (l.take (j+1))=hf (l.take j)++[C.id]:=by simp_all[hf,yb]
def pi(l:List av):List (Option Addr):=l.map av.addr
def av.ids(C v:Int):av->List Int
 | .nil=>[]
 | .node _ mid _ _ j _ _ q _ E D=>bj (hf (av.own C v mid j q))
def av.nH(C v:Int):av->List av
 | .nil=>[]
 | .node _ mid _ _ E _ _ q _ j D=>if C<mid/\j.addr.isSome=true then[j]else[]
def av.nI(E v:Int):av->List av
 | .nil=>[]
 | .node _ mid _ _ D _ _ q _ C j=>if mid<v/\j.addr.isSome=true then[j]else[]
def av.bY(C v:Int)(j:av):List av:=j.nH C v++j.nI C v
def Wd(C:av)(G v I)(h:C.addr=none\/v<G):D E 738 #[.pointer C.addr,j G,j v] I λO J=>O=.tuple #[.slice none 0 0,.slice none 0 0]/\J=I:=by
 cases R:C.addr with
 |none=>
  refine ap λg F=> ?_;refine af ?_;refine aj p (.tmp p (.tmp p .nil)) az ⟨rfl,rfl⟩
 |some Q=>
  have K:v<G:=by
   simp_all
  refine ap λg F=> ?_;refine af ?_;refine cD p (decide_eq_true K) ?_;exact dq
def EG(b mid ae ag J W al q am Z Y G v au)(h:e7 au (.node b mid ae ag J W al q am Z Y))(bA:dg I.less J)(a6:q=a7 I.ends J)(a5:J.length<=100000)(ca:G<=v):
  D E 738 #[R b,j G,j v] au λbF bf=>∃aO ax aQ aA,bF=.tuple #[.slice aO (av.ids G v (.node b mid ae ag J W al q am Z Y)).length ax,.slice aQ (av.bY G v (.node b mid ae ag J W al q am Z Y)).length aA]/\
   ((0< (av.ids G v (.node b mid ae ag J W al q am Z Y)).length->∃b,aO=(ak b))/\(0< (av.bY G v (.node b mid ae ag J W al q am Z Y)).length->∃b,aQ=(ak b)))/\
   bf=own 3 1 aO (av.ids G v (.node b mid ae ag J W al q am Z Y)).length ax (flat (av.ids G v (.node b mid ae ag J W al q am Z Y)))::own 263 1 aQ (av.bY G v (.node b mid ae ag J W al q am Z Y)).length aA (flat (pi (av.bY G v (.node b mid ae ag J W al q am Z Y))))::au:=by
 have bz:=λau h=>Xy b mid ae ag J W al q am Z Y G v au h bA a6 C;obtain⟨aH,aP,ch,ci,cj,ck,cl,cm,co,cc,ce,cf⟩:=h.f;have b8:(av.own G v mid J q).length<=100000:=by
  have b9:q.length=J.length:=by rw[a6,e0]
  grind[av.own,Nat.le_trans,hY]
 have bQ:av.nH G v (.node b mid ae ag J W al q am Z Y)=if G<mid/\Z.addr.isSome=true then[Z]else[]:=rfl
 have bl:av.nI G v (.node b mid ae ag J W al q am Z Y)=if mid<v/\Y.addr.isSome=true then[Y]else[]:=rfl
 unfold av.bY;generalize av.nH G v (.node b mid ae ag J W al q am Z Y)=ar at*
 generalize av.nI G v (.node b mid ae ag J W al q am Z Y)=aG at*
 have bm:av.ids G v (.node b mid ae ag J W al q am Z Y)=bj (hf (av.own G v mid J q)):=rfl;rw[bm];refine ap λg F=> ?_;refine af ?_;refine b2 p (decide_eq_false C) ?_;refine K ?_;refine GE (aw p (bz _ h.skip)) ?_;rintro _ _ ⟨⟨bb,aV,bg,rfl,a9⟩,rfl⟩;iterate 2 refine ad ?_
 refine aL ?_;have b1:(av.own G v mid J q).length=aV:=a9.len bs;generalize av.own G v mid J q=U at*
 (repeat first|refine bZ ?_|refine fi ?_|refine gk ?_)
 refine hs (ι:=Option Addr×Nat) (λO=>[(0,R b),(1,j G),(2,j v),(6,.slice O.1 (hf U).length O.2),(7,.slice none 0 0)]) (λO=>own 3 1 O.1 (hf U).length O.2 (flat (hf U))::F::au) (λO=>0< (hf U).length->∃b,O.1=(ak b)) ?_ ?_
 ·refine aF ?_;refine b5 (own.nil_ 3 1) ?_;refine cJ (ι:=Nat×Option Addr×Nat) (λao=>[(0,R b),(1,j G),(2,j v),(6,.slice ao.2.1 (hf (U.take ao.1)).length ao.2.2),(7,.slice none 0 0),(20,.slice bb aV bg),(21,j (aV:Nat)),(22,j (ao.1:Nat))]) (λao=>own 3 1 ao.2.1 (hf (U.take ao.1)).length ao.2.2 (flat (hf (U.take ao.1)))::F::au) (λao=>ao.1<=aV/\(0< (hf (U.take ao.1)).length->∃b,ao.2.1=(ak b))) (λao=>aV-ao.1) (0,none,0) ⟨bu _,λh=>absurd h (dc 0)⟩ a8 az ?_;rintro⟨aK,aC,aE⟩ ⟨bp,aY⟩;simp only at bp aY;dsimp only;have b0:(hf (U.take aK)).length<=100000:=by grind[DW,lB]
  refine K ?_;refine af ?_;refine cp p (λax=> ?_) (λax=> ?_)
  ·obtain⟨bC,bE,rfl,bI⟩:=a9.at_ C;have a3:U[aK]?=some U[aK]:=cb C;have bJ:=bI _ _ a3;have ba:=UE a3;generalize U[aK]=aX at*
   have cq:aB (F::au) bC (bE+aK*3) 3 [j aX.id,j aX.x,j aX.y]:=bJ;refine K ?_;refine aS λbO=> ?_;refine aU λbK=> ?_;refine GE (bx p p aI cn (cS p) aZ Q ah ah) ?_;rintro _ _ ⟨bc,bh,rfl,bU,b3,b7,rfl⟩;refine K ?_;refine af ?_;refine bM (aK+1,bc,bh) ⟨C,by simp_all⟩ C ⟨rfl,rfl,rfl,by simp only;rw[ba,bP];rfl,rfl,rfl,rfl,rfl,trivial⟩ ?_;simp only;rw[ba,bP,<- gm];exact aq
  ·have bn:U.take aK=U:=jE C;rw[bn]at aY ⊢;refine aF ?_;exact ex (aC,aE) aY a8 az
 ·rintro⟨aC,aE⟩ a2;simp only at a2;dsimp only;have bB:(bj (hf U)).length=(hf U).length:=rj _;have bX:(hf U).length<=100000:=by rw[DW];omega
  refine K ?_;refine bw p (D.pick aI (Bd aC _ aE (hf U) _ a2 p C)) ?_;refine aL ?_;rw[bB];generalize flat (bj (hf U))=a0 at*
  generalize(hf U).length=aW at*
  refine b5 (own.nil_ 263 1) ?_
  (repeat first|refine fi ?_|refine gk ?_)
  refine bZ ?_;refine hs (ι:=Option Addr×Nat) (λO=>[(0,R b),(1,j G),(2,j v),(6,.slice aC aW aE),(7,.slice O.1 ar.length O.2)]) (λO=>own 263 1 O.1 ar.length O.2 (flat (pi ar))::own 3 1 aC aW aE a0::F::au) (λO=>0<ar.length->∃b,O.1=(ak b)) ?_ ?_
  ·by_cases ax:G<mid
   ·cases a5:Z.addr.isSome with
    |true=>
     have ay:ar=[Z]:=by simp_all
     subst ay;refine K ?_;refine dE 40 p (decide_eq_true ax) ?_;iterate 3 refine ad ?_
     refine br p p p p ?_;refine aD (dV p p ah ah) ?_;refine K ?_;refine aD (dV p p ah ah) ?_;refine ad ?_;refine aU λbL=> ?_;refine GE (bx p p aI cn (cS p) aZ Q ah ah) ?_;rintro _ _ ⟨bd,bi,rfl,bV,b4,bq,rfl⟩;refine ad ?_;refine af ?_;exact ex (bd,bi) (λ_=>bq Q) a8 aq
    |false=>
     have ay:ar=[]:=by simp_all
     subst ay;refine K ?_;refine dE 40 p (decide_eq_true ax) ?_;iterate 3 refine ad ?_
     refine br p p p p ?_;refine aD (dV p p ah ah) ?_;refine K ?_;refine aF ?_;exact ex (none,0) (λh=>absurd h (dc 0)) a8 aq
   ·have ay:ar=[]:=by simp_all
    subst ay;refine K ?_;refine dE 40 p (decide_eq_false ax) ?_;refine K ?_;refine aF ?_;exact ex (none,0) (λh=>absurd h (dc 0)) a8 aq
  ·rintro⟨aO,ax⟩ a1;simp only at a1;dsimp only;have bT:ar.length<=1:=by grind
   (repeat first|refine fi ?_|refine gk ?_)
   refine bZ ?_;refine hs (ι:=Option Addr×Nat) (λO=>[(6,.slice aC aW aE),(7,.slice O.1 (ar++aG).length O.2)]) (λO=>own 263 1 O.1 (ar++aG).length O.2 (flat (pi (ar++aG)))::own 3 1 aC aW aE a0::F::au) (λO=>0< (ar++aG).length->∃b,O.1=(ak b)) ?_ ?_
   ·by_cases aA:mid<v
    ·cases a5:Y.addr.isSome with
     |true=>
      have ay:aG=[Y]:=by simp_all
      subst ay;refine K ?_;refine dE 62 p (decide_eq_true aA) ?_;iterate 3 refine ad ?_
      refine br p p p p ?_;refine aD (dV p p ah ah) ?_;refine K ?_;refine aD (dV p p ah ah) ?_;refine ad ?_;refine aU λbN=> ?_;refine GE (bx p p aI cn (cS p) aZ Q ah ah) ?_;rintro _ _ ⟨be,bk,rfl,bW,b6,bt,rfl⟩;refine ad ?_;refine af ?_;exact ex (be,bk) (λ_=>bt Q) ⟨rfl,by simp only[bP,fD];rfl,trivial⟩ (by
       simp only[bP,fD,pi,gM,List.map_cons,List.map_nil];rw[fI];exact aq)
     |false=>
      have ay:aG=[]:=by simp_all
      subst ay;refine K ?_;refine dE 62 p (decide_eq_true aA) ?_;iterate 3 refine ad ?_
      refine br p p p p ?_;refine aD (dV p p ah ah) ?_;refine K ?_;refine aF ?_;exact ex (aO,ax) (λh=>a1 (by grind)) ⟨rfl,by rw[dA];rfl,trivial⟩ (by rw[dA];exact aq)
    ·have ay:aG=[]:=by rw[bl];simp[aA]
     subst ay;refine aJ ?_;iterate 7 refine ad ?_
     refine dE 62 p (decide_eq_false aA) ?_;iterate 7 refine ad ?_
     refine dG ?_;refine aF ?_;exact ex (aO,ax) (λh=>a1 (by simpa using h)) ⟨rfl,by rw[dA];rfl,trivial⟩ (by rw[dA];exact aq)
   ·rintro⟨aQ,aA⟩ a4;simp only at a4;dsimp only;refine aJ ?_;iterate 4 refine ad ?_
    refine af ?_;exact aj (C:=own 3 1 aC aW aE a0::own 263 1 aQ (ar++aG).length aA (flat (pi (ar++aG)))::au) p (.tmp p (.tmp p .nil)) aq ⟨aC,aE,aQ,aA,rfl,⟨a2,a4⟩,rfl⟩
end S.en
namespace S.en
def av.ij(j v:Int)(C:av):List Int:=if j<=v then C.ids j v else[]
def av.eX(j v:Int)(C:av):List av:=if j<=v then C.bY j v else[]
def av.d1(j v:Int):av->List Int
 | .nil=>[]
 | .node b mid E G K W I q J D C=>av.ids j v (.node b mid E G K W I q J D C)++((if j<mid then D.d1 j v else[])++(if mid<v then C.d1 j v else[]))
def av.iG(j v:Int)(C:av):List Int:=if j<=v then C.d1 j v else[]
def jT(j v:Int)(C:List av):List Int:=C.flatMap (av.iG j v)
def av.bi:av->Nat
 | .nil=>0
 | .node _ _ _ _ _ _ _ _ _ C j=>C.bi+j.bi+1
def qf(C:List av):Nat:=(C.map λj=>2*j.bi+1).sum
def nQ(C:List av):Nat:=(C.map λj=>j.bp.length).sum
theorem av.yK{j:av}(h: ¬j.addr.isSome=true):j=.nil:=by
 cases j with
 |nil=>rfl
 |node=>trivial
theorem av.DJ(D v)(E:av):E.iG D v=E.ij D v++jT D v (E.eX D v):=by
 unfold av.iG av.ij av.eX jT
 by_cases G:D<=v
 ·simp[if_pos G];cases E with
  |nil=>rfl
  |node b mid K O U W Q q R J I=>
   simp[av.d1,av.bY,HH]
   congr 2
   ·simp[av.nH]
    by_cases j:D<mid
    ·by_cases C:J.addr.isSome=true
     ·rw[if_pos j,if_pos ⟨j,C⟩];simp[av.iG,if_pos G]
     ·rw[if_pos j,if_neg (λh=>C h.2),av.yK C];rfl
    grind
   ·simp[av.nI]
    by_cases j:mid<v
    ·by_cases C:I.addr.isSome=true
     ·rw[if_pos j,if_pos ⟨j,C⟩];simp[av.iG,if_pos G]
     ·rw[if_pos j,if_neg (λh=>C h.2),av.yK C];rfl
    grind
 grind
def Xz{D v mid j q}(C:q=a7 I.ends j):(av.own D v mid j q).length<=j.length:=by
 have E:q.length=j.length:=by rw[C,e0]
 unfold av.own;grind
def av.ok.UJ{C v}{j:av}(h:j.ok):(j.ij C v).length<=j.bp.length:=by
 unfold av.ij;split
 ·cases j with
  |nil=>exact bu _
  |node b mid D E O W G q K J I=>
   have:=Xz (D:=C) (v:=v) (mid:=mid) h.1.2.1;simp[av.ids,av.bp,bP,rj,DW];omega
 simp
theorem aau(l j):qf (l++j)=qf l+qf j:=by simp[qf,BT]
theorem Y3(l j):nQ (l++j)=nQ l+nQ j:=by simp[nQ,BT]
def av.MR{j:av->Prop}{R v b mid I J Q W K q O E D}(aa:j E)(ab:j D):∀G∈av.eX R v (.node b mid I J Q W K q O E D),j G:=by
 intro G C;unfold av.eX at C;split at C
 ·rcases cT.1 C with h|h
  ·simp[av.nH]at h;simp_all
  ·simp[av.nI]at h;simp_all
 trivial
def av.MP(j v)(G:av):qf (G.eX j v)<=2*G.bi/\(G.eX j v).length<=2/\nQ (G.eX j v)<=G.bp.length:=by
 unfold av.eX;split
 ·cases G with
  |nil=>exact⟨bu _,bu _,bu _⟩
  |node b mid E I O W J q K D C=>
   have Q:qf (av.nH j v (.node b mid E I O W J q K D C))<=2*D.bi+1/\(av.nH j v (.node b mid E I O W J q K D C)).length<=1/\nQ (av.nH j v (.node b mid E I O W J q K D C))<=D.bp.length:=by
    simp[av.nH];split<;>simp[qf,nQ]
   have R:qf (av.nI j v (.node b mid E I O W J q K D C))<=2*C.bi+1/\(av.nI j v (.node b mid E I O W J q K D C)).length<=1/\nQ (av.nI j v (.node b mid E I O W J q K D C))<=C.bp.length:=by
    simp[av.nI];split<;>simp[qf,nQ]
   simp[av.bY,av.bi,av.bp,aau,Y3,bP];omega
 ·exact⟨bu _,bu _,bu _⟩
theorem av.ok.bY{E v}{j:av}(h:j.ok):∀D∈j.eX E v,D.ok:=by
 cases j with
 |nil=>intro D C;unfold av.eX at C;split at C<;>cases C
 |node b mid G I R W J q Q O K=>exact av.MR h.2.2.2.2.1 h.2.2.2.2.2
theorem e7.bY{D G v j}(h:e7 D j):∀E∈j.eX G v,e7 D E:=by
 cases j with
 |nil=>intro E C;unfold av.eX at C;split at C<;>cases C
 |node b mid I J U W K q R Q O=>exact av.MR h.2.2.2.2.1 h.2.2.2.2.2
def av.ok.wH{C v}(D:C<=v):∀{j:av},j.ok->(j.d1 C v).Perm (hf (j.bp.filter (mL C v)))
 |j,h=>by
  have aa:∀{j:av},(j.d1 C v).Perm (hf (j.found C v)):=by
   intro j
   induction j with
   |nil=>rfl
   |node b mid E G U W I q R Q J K O=>
    simp[av.found,hf,gM];refine(jz _).append (Hu ?_ ?_)
    ·split
     ·trivial
     rfl
    ·split
     ·trivial
     rfl
  exact aa.trans ((h.found D).map _)
def av.ok.T6{D v}{j:av}(h:j.ok):(j.iG D v).Perm (hf (j.bp.filter (mL D v))):=by
 unfold av.iG
 by_cases C:D<=v
 ·rw[if_pos C];exact h.wH C
 ·rw[if_neg C,lA.2]
  ·rfl
  ·intro s _;simp[mL];omega
end S.en
namespace S.en
attribute [local irreducible] G bf cc
def vO(C v:Int)(j:av)(J:aG)(O:Value)(K:aG):Prop:=∃D G E I,O=.tuple #[.slice D (j.ij C v).length G,.slice E (j.eX C v).length I]/\
   ((0< (j.ij C v).length->∃b,D=(ak b))/\(0< (j.eX C v).length->∃b,E=(ak b)))/\
   K=own 3 1 D (j.ij C v).length G (flat (j.ij C v))::own 263 1 E (j.eX C v).length I (flat (pi (j.eX C v)))::J
def We(G I v J)(h:e7 J G)(R:G.ok)(ao:G.bp.length<=100000):D E 738 #[.pointer G.addr,j I,j v] J λY O=>vO I v G J Y O:=by
 by_cases K:G.addr=none\/v<I
 ·have Q:G.ij I v=[]/\G.eX I v=[]:=by
   unfold av.ij av.eX;rcases K with K|K
   ·cases G with
    |nil=>exact⟨by split<;>rfl,by split<;>rfl⟩
    |node=>trivial
   grind
  unfold vO;rw[Q.1,Q.2];refine(Wd G I v J K).dR ?_;rintro Y O ax ⟨rfl,rfl⟩ s;exact⟨_,⟨none,0,none,0,rfl,⟨λh=>absurd h (dc 0),λh=>absurd h (dc 0)⟩,rfl⟩,own.nil_ 3 1 _ (own.nil_ _ 1 _ s)⟩
 ·have U:I<=v:=by
   omega
  cases G with
  |nil=>exact absurd (.inl p) K
  |node b mid ae ag au W ak q ar ap am=>
   have al:∀{aw:Type} {Z y:aw},(if I<=v then Z else y)=Z:=if_pos U;simp[av.bp,bP]at ao;unfold vO av.ij av.eX;simp[al];exact EG b mid ae ag au W ak q ar ap am I v J h R.1.1 R.1.2.1 C U
def Cn(C I v G)(h:e7 G C)(Y:C.ok)(W:C.bp.length<=100000):D E 734 #[.pointer C.addr,j I,j v] G λZ O=>vO I v C G Z O:=by
 refine ap λg F=> ?_;refine GE (aw p (We C I v _ h.skip Y W)) ?_;rintro _ _ ⟨J,Q,K,R,rfl,U,rfl⟩;iterate 4 refine ad ?_
 refine af ?_;exact aj rfl (.tmp p (.tmp p .nil)) aq ⟨J,Q,K,R,rfl,U,rfl⟩
structure lb (C:aG) (E:Nat) (D:av) (bT:Int):Prop where
 root:aR C ⟨E,0+0,none⟩ (.pointer D.addr)
 bT:aR C ⟨E,0+1,none⟩ (j bT)
 i:e7 C D
theorem lb.skip{E j D C bT}(h:lb j D C bT):lb (E::j) D C bT:=⟨h.root.skip,h.bT.skip,h.i.skip⟩
theorem av.DQ(s b mid E G D W I q J C j):(av.node b mid E G D W I q J C j).has s=if s.y<mid then C.has s else if mid<s.x then j.has s else decide (s∈D):=rfl
section
variable{t:Nat}{T:av}{bT:Int}{L:aG}(h:lb L t T bT)
include h
theorem LQ:D E 457 #[R t] L λv j=>v=.pointer T.addr/\j=L:=by
 have aa:=h.root;refine ap λg F=> ?_;refine af ?_;refine aj p (.tmp p .nil) az ⟨rfl,rfl⟩
theorem Uu:D E 527 #[R t] L λv j=>v=.pointer T.addr/\j=L:=by
 refine ap λg F=> ?_;refine a9 (LQ h.skip) ?_;refine af ?_;refine aj p (.tmp p .nil) az ⟨rfl,rfl⟩
theorem LE(s)(aw:T.ok)(au:T.bp.length<=100000):D E 384 #[R t,s.v] L λv Y=>v=.bool (T.has s)/\Y=L:=by
 refine ap λg F=> ?_;refine aS λZ=> ?_;refine a9 (LQ h.skip.skip) ?_;refine af ?_;refine cJ (λG=>[(3,.pointer _),(5,.pointer _)]) (λG=>ae Z 45 [j s.id,j s.x,j s.y]::F::L) (λG=>e7 L G/\G.ok/\G.has s=T.has s/\G.bp.length<=100000) (λG=>G.bi) T ⟨h.i,aw,rfl,au⟩ a8 az ?_;rintro G ⟨al,O,am,ao⟩;cases G with
 |nil=>
  rw[<- am];exact dq
 |node b mid U ag Q W aK q aL ax ar=>
  obtain⟨aH,aP,aQ,aV,aX,aY,aZ,a0,a1,aO,ay,aA⟩:=al.f;simp only[av.bp,bP]at ao;refine aJ ?_;iterate 2 refine ad ?_
  refine f7 ?_
  by_cases aC:s.y<mid
  ·have J:g7 mid s=0:=by simp_all[g7,if_pos]
   have I:=λL h=>p7 b mid s L h;rw[J]at I;refine K ?_;refine a9 (I _ dX) ?_;refine aD (dV p p ah ah) ?_;iterate 2 refine ad ?_
   refine af ?_;exact bM ax ⟨ay,O.2.2.2.2.1,by simp_all[av.DQ,if_pos],C⟩ (by grind[av.bi]) a8 az
  ·by_cases aI:mid<s.x
   ·have J:g7 mid s=1:=by simp_all[g7,if_neg,if_pos]
    have I:=λL h=>p7 b mid s L h;rw[J]at I;refine K ?_;refine a9 (I _ dX) ?_;refine aD (dV p p ah ah) ?_;iterate 2 refine ad ?_
    refine af ?_;exact bM ar ⟨aA,O.2.2.2.2.2,by simp_all[av.DQ,if_neg,if_pos],C⟩ (by grind[av.bi]) a8 az
   ·have J:g7 mid s= -1:=by simp_all[g7,if_neg]
    have I:=λL h=>p7 b mid s L h;rw[J]at I;have ak:decide (s∈Q)=T.has s:=by simp_all[av.DQ]
    rw[<- ak];refine aJ ?_;iterate 2 refine ad ?_
    refine bw p (I _ dX) ?_;refine ad ?_;refine bD ?_;iterate 2 refine ad ?_
    refine f7 ?_;refine aW (aE [0,1,2,3,4] (.e 5 (.q 6 .nil))) ?_;iterate 5 refine ai ?_
    refine cU p p (Qt pP fX U Q.length ag Q s _ cr C O.1.1) ?_;refine ai ?_;refine cK ?_;refine aj p (.tmp p .nil) az ⟨rfl,rfl⟩
end
end S.en
namespace S.en
def Bm(E:Nat)(D:Int)(C:av):List aO:=[ae E 265 [.pointer C.addr,j D],eh C]
def oP(l:List I)(j:av):Prop:=j.ok/\j.fit/\j.bp.Perm l
def oO(D:Nat)(C:Int)(l:List I):aO:=λh=>∃j:av,oP l j/\G (Bm D C j) h
section
variable{P:Program}{f:FuncId}{args:Array Value}{L:aG}{t b:Nat}{bT:Int}{l:List I}{T:TypeId}{α:Type}[gv:e5 α]{m:List α}
def D.Py{K:Value->Prop}{J}(W:∀(T),oP l T->D P f args (ae t 265 [.pointer T.addr,j bT]::eh T::L) λv E=>K v/\∃C,oP J C/\E=ae t 265 [.pointer C.addr,j bT]::eh C::L):D P f args (oO t bT l::L) λv E=>K v/\E=oO t bT J::L:=
 (D.open (ι:=av) (J:=Bm t bT) (E:=oP l) (λ_ h=>h) λT o=>W T o).dR λv E U ⟨O,C,R,Q⟩ q=>⟨_,⟨O,rfl⟩,by
  subst Q;exact G.fold (λh q=>⟨C,R,q⟩) q⟩
end
def Tm{I M E D C l}(o:oP l C)(J:∀h,G I h->G (ae E 265 [.pointer C.addr,j D]::eh C::M) h):∀h,G I h->G (oO E D l::M) h:=λh q=>
 G.fold (N:=Bm E D C) (λh q=>⟨C,o,q⟩) (J h q)
def TT{s}(h:hy s=true):s.x<=s.y/\dF s.x=true/\dF s.y=true:=by simp_all[hy,decide_eq_true_eq]
def av.DP{s}:∀{j:av},j.has s=true->s∈j.bp
 | .nil,h=>by trivial
 | .node _ mid _ _ E _ _ _ _ D C,h=>by
  simp[av.has]at h;simp[av.bp,cT];split at h
  ·exact .inr (.inl (av.DP h))
  ·split at h
   ·exact .inr (.inr (av.DP h))
   simp_all
theorem av.ok.Lm{s}{j:av}(o:j.ok):j.has s=decide (s∈j.bp):=by
 by_cases h:s∈j.bp
 ·rw[decide_eq_true h];exact(o.has (o.fair s h)).2 h
 ·rw[decide_eq_false h];cases C:j.has s with
  |false=>rfl
  |true=>exact absurd (av.DP C) h
def hD(mid:Int)(l:List I):List I:=l.filter λs=>decide (s.y<mid)
def hA(mid:Int)(l:List I):List I:=l.filter λs=>decide (mid<s.x)
def fO(mid:Int)(l:List I):List I:=l.filter λs=>decide (s.x<=mid/\mid<=s.y)
def NC(mid):∀(l)(j:∀s∈l,s.x<=s.y),(fO mid l++(hD mid l++hA mid l)).Perm l
 | [],_=> .nil
 |a::l,j=>by
  have G:=NC mid l λs C=>j s (kY _ C);unfold fO hD hA at*
  simp only[nY]
  by_cases D:a.y<mid
  ·grind
  ·by_cases E:mid<a.x
   ·grind
   grind
def LZ{mid l C j}(E:l.Nodup)(D:∀s∈l,s.x<=mid/\mid<=s.y)(aa:∀s∈C,s.y<mid)(ab:∀s∈j,mid<s.x):av.mF mid (a7 I.less l) (a7 I.ends l) C j:=
 ⟨Be fX E,l4 l6 (l5 l6 l) ((e1 l).trans (e1 l).symm),λs G=>D s ((e1 l).subset G),aa,ab⟩
def Vs{mid j q K E s}(h:av.mF mid j q K E)(J:s∉j)(Z:s.x<=mid/\mid<=s.y):av.mF mid (eR I.less s j) (eR I.ends s q) K E:=by
 obtain⟨C,D,Y,O,Q⟩:=h;have G:=D▸e1 j;have R:=D▸Be l6 (C.nodup fX);have U:=λh=>J (G.subset h);refine⟨NO fX s j C J,?_,λae W=> ?_,O,Q⟩
 ·exact l4 l6 ((NO l6 s q R U).bj l6) ((u5 s q).trans ((List.Perm.cons s G).trans (u5 s j).symm))
 ·rcases cQ.1 ((u5 s j).subset W)with h|h
  ·simp_all
  simp_all
def Ef{mid D q C j}(h:av.mF mid D q C j):dg I.ends q:=h.2.1▸Be l6 (h.1.nodup fX)
def Vr{mid j q D C s}(h:av.mF mid j q D C):av.mF mid (j.erase s) (q.erase s) D C:=by
 have O:=Ef h;obtain⟨E,G,I,J,K⟩:=h;have Q:=G▸e1 j;refine⟨E.sub HE,?_,λU R=>I U (oU R),J,K⟩;exact l4 l6 ((O.sub HE).bj l6) (Q.erase s)
def Sg{b mid K Q O R n D j l}(U:∀s∈l,s.x<=s.y)(al:l.Nodup)(ax:0<l.length)(ag:(a7 cG (eL l))[l.length]?=some mid)(Y:D.ok)(W:j.ok)(G:D.bp.Perm (hD mid l))(J:j.bp.Perm (hA mid l))(ak:n=(a7 I.less (fO mid l)).length+D.size+j.size):
  (av.node b mid K Q (a7 I.less (fO mid l)) O R (a7 I.ends (fO mid l)) n D j).ok/\(av.node b mid K Q (a7 I.less (fO mid l)) O R (a7 I.ends (fO mid l)) n D j).bp.Perm l:=by
 have Z:((a7 I.less _)++(D.bp++j.bp)).Perm l:=((e1 _).append (G.append J)).trans (NC mid l U);have ae:=Z.length_eq;simp[bP]at ae;obtain⟨ay,aA⟩:=ME U ag;have am:=G.length_eq;have ao:=J.length_eq;have ap:=Y.size;have ar:=W.size;have au:(hD mid l).length=(l.filter _).length:=rfl;have aw:(hA mid l).length=(l.filter _).length:=rfl;refine⟨⟨LZ (al.filter _) (λs E=> ?_) (λs E=> ?_) (λs E=> ?_),ak,C,C,Y,W⟩,Z⟩
 ·have:=(gN.1 E).2;simp_all
 ·have:=(gN.1 (G.subset E)).2;simp_all
 ·have:=(gN.1 (J.subset E)).2;simp_all
def av.ok.Wi{b mid E I D G J q n C j}(h:(av.node b mid E I D G J q n C j).ok){s}(Y:s.x<=s.y)(K:s∈(av.node b mid E I D G J q n C j).bp):(s.y<mid->s∈C.bp)/\(mid<s.x->s∈j.bp)/\(¬s.y<mid->¬mid<s.x->s∈D):=by
 obtain⟨⟨O,Q,R,U,W⟩,_,_,_,aa,ab⟩:=h;simp[av.bp]at K;grind
end S.en
namespace S.en
attribute [local irreducible] G bf cc
def ik(b:Nat)(mid:Int)(C:bA)(D:Nat)(j:List I)(W:bA)(E:Nat)(q:List I)(O:Nat)(J G:av)(K:aG):List aO:=ae b 415 (oq mid C j.length D W q.length E J.addr G.addr O)::own 45 3 C j.length D (flat j)::own 45 3 W q.length E (flat q)::eh J::eh G::K
structure Fit (j:bA) (C:Nat) (ag:List I) (W:bA) (D:Nat) (q:List I) (lo hi:av):Prop where
 ag:m2 j ag.length C
 q:m2 W q.length D
 lo:lo.fit
 hi:hi.fit
def uJ{E:bA}{G:Nat}{K:List I}{W:bA}{J:Nat}{q:List I}{D C:av}(j:Fit E G K W J q D C)(b:Nat)(mid:Int)(O:Nat)(Q:aG):e7 (ik b mid E G K W J q O D C Q) (.node b mid E G K W J q O D C):=
 ⟨⟨j.ag,j.q⟩,aB.ae p,Rd.skip (aM.own (bU _) j.ag.a),Rd.skip (Rd.skip (aM.own (bU _) j.q.a)),(sq D _ j.lo).skip.skip.skip,(sq C _ j.hi).skip.skip.skip.skip⟩
def yC(l:List I)(C:aG)(v:Value)(D:aG):Prop:=∃j:av,(j.ok/\j.fit/\j.bp.Perm l)/\v=.pointer j.addr/\D=eh j::C
section
variable{A:bA}{c:Nat}{ag:List I}{W:bA}{d:Nat}{q:List I}{lo hi:av}
def jW(J:Fit A c ag W d q lo hi)(b:Nat)(mid:Int)(C:Nat)(j:aG)(aa:ag.length<=100000)(ab:lo.size<=100000)(Y:hi.size<=100000):
  D E 460 #[R b] (ik b mid A c ag W d q C lo hi j) λv G=>v=(R b)/\G=ik b mid A c ag W d q (ag.length+lo.size+hi.size) lo hi j:=by
 obtain⟨aH,aP,ak,al,am,ao,ar,au,aw,Z,Q,U⟩:=(uJ J b mid C j).f;refine ap λg F=> ?_;refine aL ?_;refine aW (aE [0,1,2,3,4,5,6,7,8,9,10,13,14,15,16,17] (.e 11 (.q 12 (.e 18 (aE [19,20,21] (.e 22 .nil)))))) ?_;iterate 9 refine ai ?_
 refine dd p (dV p p ah ah) ?_;iterate 4 refine ai ?_
 refine dd p (dV p p ah ah) ?_;refine ai ?_;refine cU p p (uI lo _ Q.skip) ?_;refine ai ?_;refine cU p p (uI hi _ U.skip) ?_;iterate 3 refine ai ?_
 refine an (cj O p p p (c5 p p p cd) ?_);rintro _ _ ⟨rfl,rfl⟩;refine K ?_;refine af ?_;exact aj (C:=ae b 415 (oq mid A ag.length c W q.length d lo.addr hi.addr (ag.length+lo.size+hi.size))::own 45 3 A ag.length c (flat ag)::own 45 3 W q.length d (flat q)::eh lo::eh hi::j) p (.tmp p .nil) aq ⟨rfl,rfl⟩
end
def z8(b:Nat)(mid:Int)(am W:bA)(aH av aI aE:Nat)(ag Z:bA)(al:Nat)(j:bA)(n G:Nat)(l:List I)(Q:aG)(aV:Rd Q j n l)(aW:n<=100000)(ak:n<=G):
  D E 459 #[R b,.slice j n G] (ae b 415 (oq mid am aH av W aI aE ag Z al)::Q) λv au=>∃J U O Y,v=(R b)/\(m2 J (a7 I.less l).length U/\m2 O (a7 I.ends l).length Y)/\au=ae b 415 (oq mid J (a7 I.less l).length U O (a7 I.ends l).length Y ag Z al)::own 45 3 J (a7 I.less l).length U (flat (a7 I.less l))::own 45 3 O (a7 I.ends l).length Y (flat (a7 I.ends l))::Q:=by
 have ax:=λM h=>(rQ fX pP j n G l M h C ak).made;have aA:=λM h=>(rQ l6 Dt j n G l M h C ak).made;generalize a7 _ l=aX at*
 generalize a7 _ l=q at*
 refine ap λg F=> ?_;refine GE (aw p (ax _ cr)) ?_;rintro _ _ ⟨ao,ay,rfl,aK,aL,aO,rfl⟩;refine ad ?_;refine GE (aw p (aA _ cr)) ?_;rintro _ _ ⟨ar,aC,rfl,aP,aQ,aS,rfl⟩;refine K ?_;refine af ?_;exact aj rfl (.tmp p .nil) aq ⟨ao,ay,ar,aC,rfl,⟨⟨aK,aL,aO⟩,⟨aP,aQ,aS⟩⟩,rfl⟩
def Tr{l:List I}{D C}(h:l[D]?=some C):flat (eL (l.take (D+1)))=flat (eL (l.take D))++[Value.int .i64 C.x,j C.y]:=by
 unfold eL;rw[yb,h,HH,fI];rfl
def Fl{C}{l:List I}{D j}(h:l[D]?=some j):(l.take (D+1)).filter C=(l.take D).filter C++(if C j=true then[j]else[]):=by simp_all[yb,nY]
def Mq(mid l):(hD mid l).length<=l.length:=hY _ _
def Lq(mid l):(hA mid l).length<=l.length:=hY _ _
def Nx(mid l):(fO mid l).length<=l.length:=hY _ _
def qz:∀(a0:Nat)(am:bA)(n ao:Nat)(l:List I)(U:aG)(_:n<=a0)(_:Rd U am n l)(_:n<=100000)(_:n<=ao)(_:∀s∈l,s.x<=s.y)(_:l.Nodup),
  D E 541 #[.slice am n ao] U λv b1=>yC l U v b1:=by
 intro a0
 induction a0 using Nat.strongRecOn with
 | _ a0 bz=>
 intro am n ao l U cC bi cP cE aY bk;have aa:l.length=n:=bi.len bs;have ca:=qG l;refine ap λg F=> ?_;refine aL ?_
 (repeat first|refine bZ ?_|refine fi ?_|refine gk ?_)
 refine hs (ι:=Option _×Nat) (λG=>[(0,.slice am n ao),(3,.slice G.1 (2*n) G.2)]) (λG=>own 3 1 G.1 (2*n) G.2 (flat (eL l))::F::U) (λG=>(0<2*n->∃b,G.1=(ak b))/\2*n<=G.2) ?_ ?_
 ·refine aF ?_;refine b5 (own.nil_ 3 1) ?_;refine cJ (ι:=Nat×Option Addr×Nat) (λG=>[(0,.slice am n ao),(3,.slice G.2.1 (2*G.1) G.2.2),(14,.slice am n ao),(15,j (n:Nat)),(16,j (G.1:Nat))]) (λG=>own 3 1 G.2.1 (2*G.1) G.2.2 (flat (eL (l.take G.1)))::F::U) (λG=>G.1<=n/\(0<2*G.1->∃b,G.2.1=(ak b))/\2*G.1<=G.2.2) (λG=>n-G.1) (0,none,0) ⟨bu _,λh=>absurd h (dc 0),bv _⟩ a8 az ?_;rintro⟨J,av,Y⟩ ⟨bh,aV,aX⟩;simp only at bh aV aX;dsimp only;refine K ?_;refine af ?_;refine cp p (λax=> ?_) (λax=> ?_)
  ·obtain⟨bd,aA,rfl,a6⟩:=bi.at_ C;have ar:l[J]?=some l[J]:=cb C;have aC:=a6 _ _ ar;have ag:=Tr ar;generalize l[J]=W at*
   have bX:aB U bd (aA+J*3) 3 [j W.id,j W.x,j W.y]:=aC;refine K ?_;refine aS λcy=> ?_;refine aU λcx=> ?_;refine GE (bx p p aI cn (cS p) aZ Q ah ah) ?_;rintro _ _ ⟨bY,b4,rfl,cH,cN,cf,rfl⟩;refine K ?_;refine af ?_;refine bM (J+1,bY,b4) ⟨C,λ_=>cf Q,C⟩ C a8 ?_;simp only[ag];exact aq
  ·have aQ:J=n:=C;subst aQ;rw[jE C];refine aF ?_;exact ex (av,Y) ⟨aV,aX⟩ a8 az
 ·rintro⟨av,Y⟩ ⟨aV,aX⟩;simp only at aV aX;dsimp only;have ci:Rd (own 3 1 av (2*n) Y (flat (eL l))::F::U) av (2*n) (eL l):=aM.own (by rw[bU,ca,aa];rfl) aV;rcases Nat.eq_zero_or_pos n with bp|bp
  ·subst bp;have aQ:l=[]:=e3 aa;subst aQ;refine K ?_;refine bw p (QQ av Y _) ?_;iterate 5 refine ad ?_
   refine bD ?_;refine ad ?_;refine aD (cL p) ?_;refine K ?_;refine af ?_;exact aj (C:=eh .nil::U) p (.tmp p .nil) (by(repeat first|exact bo|apply wu|refine b7 ?_)<;>fail) ⟨.nil,⟨trivial,trivial,.refl _⟩,rfl,rfl⟩
  ·obtain⟨mid,cc⟩:∃mid,(a7 cG (eL l))[2*n/2]?=some mid:=⟨_,cb (by rw[e0];omega)⟩;have bt:(a7 cG (eL l))[l.length]?=some mid:=by simp_all
   obtain⟨cm,co⟩:=ME aY bt;refine K ?_;refine bw p (QR av (2*n) Y (eL l) mid _ ci C aX cc) ?_;iterate 5 refine ad ?_
   refine bD ?_;refine ad ?_;refine aD (cL p) ?_;refine K ?_;refine aS λal=> ?_;refine aS λbn=> ?_;refine af ?_;refine b5 (own.nil_ 45 3) ?_;refine b5 (own.nil_ 45 3) ?_;refine b5 (own.nil_ 45 3) ?_;refine cJ (ι:=Nat×(Option Addr×Nat)×(Option Addr×Nat)×(Option Addr×Nat)) (λG=>[(8,R al),(9,R bn),(10,.slice G.2.2.2.1 (fO mid (l.take G.1)).length G.2.2.2.2),(38,.slice am n ao),(39,j (n:Nat)),(40,j (G.1:Nat))])
    (λG=>own 45 3 G.2.1.1 (hD mid (l.take G.1)).length G.2.1.2 (flat (hD mid (l.take G.1)))::own 45 3 G.2.2.1.1 (hA mid (l.take G.1)).length G.2.2.1.2 (flat (hA mid (l.take G.1)))::own 45 3 G.2.2.2.1 (fO mid (l.take G.1)).length G.2.2.2.2 (flat (fO mid (l.take G.1)))
     ::ae bn 625 [.slice G.2.1.1 (hD mid (l.take G.1)).length G.2.1.2,.slice G.2.2.1.1 (hA mid (l.take G.1)).length G.2.2.1.2]::ae al 415 (oq mid none 0 0 none 0 0 none none 0)::F::U)
    (λG=>G.1<=n/\((0< (hD mid (l.take G.1)).length->∃b,G.2.1.1=(ak b))/\(hD mid (l.take G.1)).length<=G.2.1.2)/\((0< (hA mid (l.take G.1)).length->∃b,G.2.2.1.1=(ak b))/\(hA mid (l.take G.1)).length<=G.2.2.1.2)/\((0< (fO mid (l.take G.1)).length->∃b,G.2.2.2.1=(ak b))/\(fO mid (l.take G.1)).length<=G.2.2.2.2))
    (λG=>n-G.1) (0,(none,0),(none,0),(none,0)) ⟨bu _,⟨λh=>absurd h (dc 0),bv _⟩,⟨λh=>absurd h (dc 0),bv _⟩,⟨λh=>absurd h (dc 0),bv _⟩⟩ a8 aq ?_
   rintro⟨J,⟨aK,a4⟩,⟨aO,ax⟩,⟨aP,a5⟩⟩ ⟨bh,⟨bL,bN⟩,⟨bO,bQ⟩,⟨bT,bV⟩⟩;simp only at bh bL bN bO bQ bT bV;dsimp only;have ct:=Mq mid (l.take J);have cu:=Lq mid (l.take J);have cv:=Nx mid (l.take J);rw[lB]at ct cu cv;refine K ?_;refine af ?_;refine cp p (λb8=> ?_) (λb8=> ?_)
   ·have ar:l[J]?=some l[J]:=cb C;have au:hD mid (l.take (J+1))= _:=Fl ar;have ag:hA mid (l.take (J+1))= _:=Fl ar;have Z:fO mid (l.take (J+1))= _:=Fl ar;have cK:=aY l[J] (List.getElem_mem _);obtain⟨bd,aA,rfl,a6⟩:=bi.at_ C;have aC:=a6 _ _ ar;generalize l[J]=W at*
    have bX:aB U bd (aA+J*3) 3 [j W.id,j W.x,j W.y]:=aC;have ay:=λU h=>p7 al mid W U h;change hD mid (l.take (J+1))=hD mid (l.take J)++ _ at au;change hA mid (l.take (J+1))=hA mid (l.take J)++ _ at ag;change fO mid (l.take (J+1))=fO mid (l.take J)++ _ at Z
    by_cases cA:W.y<mid
    ·have Y:g7 mid W=0:=by simp_all[g7,if_pos]
     rw[Y]at ay;rw[if_pos (by simp_all)]at au;rw[if_neg (by grind),dA]at ag Z;generalize hD mid (l.take J)=bB at*
     generalize hA mid (l.take J)=bC at*
     generalize fO mid (l.take J)=bE at*
     refine K ?_;refine aS λbm=> ?_;refine a9 (ay _ dX) ?_;refine aW (aE [0,1,2,3,4] (.e 5 (.e 6 (.q 7 (.e 8 .nil))))) ?_;iterate 2 refine ai ?_
     refine dd p (dV p p ah ah) ?_;iterate 2 refine ai ?_
     refine hu λb3=> ?_;refine an (dh O p p p (bx p p aI cn (cS p) aZ Q ah ah) ?_);rintro _ _ ⟨bb,bf,rfl,b9,ce,bj,rfl⟩;refine dd p (dV p p ah ah) ?_;refine an (cj O p p p (c5 p p p cd) ?_);rintro _ _ ⟨rfl,rfl⟩
     all_goals
      refine K ?_;refine af ?_;refine bM (J+1,(bb,bf),(aO,ax),(aP,a5)) ⟨C,⟨λ_=>bj Q,by simp_all⟩,⟨by simp_all,by simp_all⟩,⟨by simp_all,by simp_all⟩⟩ C ⟨rfl,rfl,by simp only[Z];rfl,rfl,rfl,rfl,trivial⟩ ?_;simp only[au,ag,Z,bP,fD];rw[<- gm];exact aq
    ·by_cases cB:mid<W.x
     ·have Y:g7 mid W=1:=by simp_all[g7,if_neg,if_pos]
      rw[Y]at ay;rw[if_pos (by simp_all)]at ag;rw[if_neg (by simp_all),dA]at au Z;generalize hD mid (l.take J)=bB at*
      generalize hA mid (l.take J)=bC at*
      generalize fO mid (l.take J)=bE at*
      refine K ?_;refine aS λbm=> ?_;refine a9 (ay _ dX) ?_;refine aW (aE [0,1,2,3,4] (.e 5 (.e 6 (.q 7 (.e 8 .nil))))) ?_;iterate 2 refine ai ?_
      refine dd p (dV p p ah ah) ?_;iterate 2 refine ai ?_
      refine hu λb3=> ?_;refine an (dh O p p p (bx p p aI cn (cS p) aZ Q ah ah) ?_);rintro _ _ ⟨bb,bf,rfl,b9,ce,bj,rfl⟩;refine dd p (dV p p ah ah) ?_;refine an (cj O p p p (c5 p p p cd) ?_);rintro _ _ ⟨rfl,rfl⟩
      all_goals
       refine K ?_;refine af ?_;refine bM (J+1,(aK,a4),(bb,bf),(aP,a5)) ⟨C,⟨by simp_all,by simp_all⟩,⟨λ_=>bj Q,by simp_all⟩,⟨by simp_all,by simp_all⟩⟩ C ⟨rfl,rfl,by simp only[Z];rfl,rfl,rfl,rfl,trivial⟩ ?_;simp only[au,ag,Z,bP,fD];rw[<- gm];exact aq
     ·have Y:g7 mid W= -1:=by simp_all[g7,if_neg]
      rw[Y]at ay;rw[if_pos (by simp_all)]at Z;rw[if_neg (by simp_all),dA]at au;rw[if_neg (by simp_all),dA]at ag;generalize hD mid (l.take J)=bB at*
      generalize hA mid (l.take J)=bC at*
      generalize fO mid (l.take J)=bE at*
      refine K ?_;refine aS λbm=> ?_;refine a9 (ay _ dX) ?_;refine aU λcz=> ?_;refine GE (bx p p aI cn (cS p) aZ Q ah ah) ?_;rintro _ _ ⟨b0,b6,rfl,cI,cO,ch,rfl⟩;refine K ?_;refine af ?_;refine bM (J+1,(aK,a4),(aO,ax),(b0,b6)) ⟨C,⟨by simp_all,by simp_all⟩,⟨by simp_all,by simp_all⟩,⟨λ_=>ch Q,by simp_all⟩⟩ C ⟨rfl,rfl,by simp only[Z,bP,fD];rfl,rfl,rfl,rfl,trivial⟩ ?_;simp only[au,ag,Z,bP,fD];rw[<- gm];exact aq
   ·have aQ:J=n:=C;subst aQ;rw[jE C]at*
    have cq:∀M,Rd (own 45 3 aK (hD mid l).length a4 (flat (hD mid l))::M) aK (hD mid l).length (hD mid l):=λM=>aM.own (bU _) bL;have cr:∀M,Rd (own 45 3 aO (hA mid l).length ax (flat (hA mid l))::M) aO (hA mid l).length (hA mid l):=λM=>aM.own (bU _) bO;have cs:∀M,Rd (own 45 3 aP (fO mid l).length a5 (flat (fO mid l))::M) aP (fO mid l).length (fO mid l):=λM=>aM.own (bU _) bT;have cR:2*(hD mid l).length<=l.length:=cm;have cV:2*(hA mid l).length<=l.length:=co;have cW:=Mq mid l;have a6:=Lq mid l;have cX:=Nx mid l;have ck:=λM h=>bz (hD mid l).length C aK (hD mid l).length a4 (hD mid l) M (bv _) h C bN (λs bl=>aY s ((gN.1 bl).1)) (bk.filter _);have cl:=λM h=>bz (hA mid l).length C aO (hA mid l).length ax (hA mid l) M (bv _) h C bQ (λs bl=>aY s ((gN.1 bl).1)) (bk.filter _);refine aF ?_;refine aW (aE [0,1,2,4,5] (.e 3 (.e 6 (aE [7,8,9] (.e 10 .nil))))) ?_;refine ai ?_;refine dd p (dV p p ah ah) ?_;refine ai ?_;refine dd p (dV p p ah ah) ?_;refine ai ?_;refine an (a1 p p p (aw p (ck _ (by repeat' first|exact cq _|apply Rd.skip))) ?_);rintro _ _ ⟨a2,⟨bF,bI,bK⟩,rfl,rfl⟩;refine cM ?_;refine an (a1 p p p (aw p (cl _ (by repeat' first|exact cr _|apply Rd.skip))) ?_);rintro _ _ ⟨a3,⟨aA,bJ,aH⟩,rfl,rfl⟩;refine cM ?_;iterate 3 refine ai ?_
    refine an (cj O p p p (f1 p p p p cd) ?_);rintro _ _ ⟨rfl,rfl⟩;have cZ:=bK.length_eq;have bX:=aH.length_eq;have c0:=bF.size;have c1:=aA.size;have c2:(a7 I.less (fO mid l)).length=(fO mid l).length:=e0 _;refine K ?_;refine GE (aw p (D.pick aI (z8 al mid none none 0 0 0 0 a2.addr a3.addr 0 aP (fO mid l).length a5 (fO mid l) _ (by repeat' first|exact cs _|apply Rd.skip) C bV))) ?_;rintro _ _ ⟨ba,be,bc,bg,rfl,⟨aC,bW⟩,rfl⟩;refine a9 (D.pre (M:=ik al mid ba be (a7 I.less (fO mid l)) bc bg (a7 I.ends (fO mid l)) 0 a2 a3 (F::U)) aq (jW ⟨aC,bW,bI,bJ⟩ al mid 0 _ C C C)) ?_;refine aL ?_;have bq:=Sg (b:=al) (K:=ba) (Q:=be) (O:=bc) (R:=bg) aY bk C bt bF aA bK aH p;refine aF ?_;exact aj (C:=eh (.node al mid ba be (a7 I.less (fO mid l)) bc bg (a7 I.ends (fO mid l)) ((a7 I.less (fO mid l)).length+a2.size+a3.size) a2 a3)::U) p (.tmp p .nil) (λh s=>(Dq (M:=F::U) (λ_ s=>s) h s).swap) ⟨_,⟨bq.1,⟨⟨aC,bW⟩,bI,bJ⟩,bq.2⟩,rfl,rfl⟩
def lT{J O I W U q G j}(Z:Fit J O I W U q G j)(b mid ao Q)(Y:av.mF mid I q G.bp j.bp)(au:G.ok)(ar:j.ok)(a4:I.length+G.bp.length+j.bp.length<=100000)(l)(aH:(I++(G.bp++j.bp)).Perm l):
  D E 461 #[R b] (ik b mid J O I W U q ao G j Q) λv aY=>yC l Q v aY:=by
 have a7:=au.size;have a8:=ar.size;obtain⟨n,aO⟩:∃n,n=I.length+G.size+j.size:=⟨_,rfl⟩;have ax:=λM=>jW Z b mid ao M C C C;rw[<- aO]at ax;have al:=λM=>uJ Z b mid n M;have a5:q.length=I.length:=by rw[Y.2.1,e0]
 have ak:=λM h=>uA b mid J O I W U q n G j M h C;have aS:=λM h=>Gr (.node b mid J O I W U q n G j) M h (by grind[av.bp]);have a2:(av.node b mid J O I W U q n G j).bp=I++(G.bp++j.bp):=rfl;rw[a2]at aS;have aZ:∀s∈I++(G.bp++j.bp),s.x<=s.y:=λs am=>by
  rcases cT.1 am with h|h
  ·have:=Y.2.2.1 s h;omega
  ·rcases cT.1 h with h|h
   ·exact au.fair s h
   ·exact ar.fair s h
 have a0:(I++(G.bp++j.bp)).Nodup:=by
  refine rA.2 ⟨Y.1.nodup fX,rA.2 ⟨au.nodup,ar.nodup,λs am a3 ae aE=> ?_⟩,λs am a3 ae aE=> ?_⟩
  ·subst aE;have:=Y.2.2.2.1 s am;have:=Y.2.2.2.2 s ae;grind
  ·subst aE;have:=Y.2.2.1 s am;rcases cT.1 ae with ae|ae
   ·have:=Y.2.2.2.1 s ae;omega
   ·have:=Y.2.2.2.2 s ae;omega
 have aP:=λJ n O M aa ab aG=>qz n J n O _ M (bv _) aa ab aG aZ a0;have aQ:(I++(G.bp++j.bp)).length<=100000:=by grind
 by_cases aW:max G.size j.size<=3*n/4/\0<n
 ·rw[decide_eq_false (by omega: ¬3*n/4<max _ _)]at ak;have a1:(av.node b mid J O I W U q n G j).ok:=⟨Y,aO,aW.1,aW.2,au,ar⟩;refine ap λg F=> ?_;refine bw p (D.pre (M:=ik b mid J O I W U q ao G j (F::Q)) (by exact aq) (ax _)) ?_;refine bw p (ak _ (al _)) ?_;iterate 4 refine ad ?_
  refine br p p p p ?_;refine aD (d6 p ((uJ Z b mid n (F::Q)).f.DB)) ?_;iterate 2 refine ad ?_
  refine af ?_;refine b2 p (decide_eq_false C) ?_;refine K ?_;refine af ?_;exact aj (C:=eh (.node b mid J O I W U q n G j)::Q) p (.tmp p .nil) (λh s=>(Dq (M:=F::Q) (λ_ s=>s) h s).swap) ⟨_,⟨a1,⟨⟨Z.ag,Z.q⟩,Z.lo,Z.hi⟩,aH⟩,rfl,rfl⟩
 ·have aV:=λM h=>(aS M h).made;generalize I++(G.bp++j.bp)=aX at*
  by_cases a6:max G.size j.size<=3*n/4
  ·rw[decide_eq_false (by omega: ¬3*n/4<max G.size j.size)]at ak;refine ap λg F=> ?_;refine bw p (D.pre (M:=ik b mid J O I W U q ao G j (F::Q)) (by exact aq) (ax _)) ?_;refine bw p (ak _ (al _)) ?_;iterate 4 refine ad ?_
   refine br p p p p ?_;refine aD (d6 p ((uJ Z b mid n (F::Q)).f.DB)) ?_;iterate 2 refine ad ?_
   refine af ?_;refine cD p (decide_eq_true C) ?_;refine K ?_;refine GE (aw p (aV _ (al _))) ?_;rintro _ _ ⟨ay,aC,rfl,aa,ab,aG,rfl⟩;refine GE (aw p (aP ay aX.length aC _ (aM.own (bU _) aa) aQ ab)) ?_;rintro _ _ ⟨aA,⟨aI,aK,aL⟩,rfl,rfl⟩;refine ad ?_;refine af ?_;exact aj (C:=eh aA::Q) p (.tmp p .nil) (by exact aq) ⟨_,⟨aI,aK,aL.trans aH⟩,rfl,rfl⟩
  ·rw[decide_eq_true (by omega:3*n/4<max G.size j.size)]at ak;refine ap λg F=> ?_;refine bw p (D.pre (M:=ik b mid J O I W U q ao G j (F::Q)) (by exact aq) (ax _)) ?_;refine a9 (ak _ (al _)) ?_;refine GE (aw p (aV _ (al _))) ?_;rintro _ _ ⟨ay,aC,rfl,aa,ab,aG,rfl⟩;refine GE (aw p (aP ay aX.length aC _ (aM.own (bU _) aa) aQ ab)) ?_;rintro _ _ ⟨aA,⟨aI,aK,aL⟩,rfl,rfl⟩;refine ad ?_;refine af ?_;exact aj (C:=eh aA::Q) p (.tmp p .nil) (by exact aq) ⟨_,⟨aI,aK,aL.trans aH⟩,rfl,rfl⟩
def IH(C b)(J: -9223372036854775808<=C/\C<=9223372036854775807)(K: -9223372036854775808<=b/\b<=9223372036854775807)(G):D E 458 #[j C,j b] G λv I=>v=j ((C+b)/2)/\I=G:=λg F Q O=>
 (mid_any C b J K Q).mono λR U ⟨aa,ab⟩=>⟨_,G,aa,⟨rfl,rfl⟩,ab▸O⟩
def Xn{b j C W D s}(h:s.x<=s.y):(av.node b ((s.x+s.y)/2) j C (a7 I.less [s]) W D (a7 I.ends [s]) ((a7 I.less [s]).length+av.nil.size+av.nil.size) .nil .nil).ok/\(av.node b ((s.x+s.y)/2) j C (a7 I.less [s]) W D (a7 I.ends [s]) ((a7 I.less [s]).length+av.nil.size+av.nil.size) .nil .nil).bp.Perm [s]:=by
 have E:(a7 I.less [s]).length=1:=e0 _;refine⟨⟨LZ Q (λJ G=> ?_) (by simp[av.bp]) (by simp[av.bp]),rfl,?_,?_,trivial,trivial⟩,?_⟩
 ·grind
 ·omega
 ·omega
 ·simp only[av.bp,dA];exact e1 _
def KO{b mid C D J W E q K I G}(j:(av.node b mid C D J W E q K I G).fit):Fit C D J W E q I G:=⟨j.1.1,j.1.2,j.2.1,j.2.2⟩
def J1{O R args G Q}{E:List I}(h:D O R args G λK J=>∃j C,K=.tuple #[.slice j E.length C,.bool true]/\(0<E.length->∃b,j=(ak b))/\J=own Q 3 j E.length C (flat E)::G):D O R args G λK J=>∃j C,K=.tuple #[.slice j E.length C,.bool true]/\m2 j E.length C/\J=own Q 3 j E.length C (flat E)::G:=
 h.dR λv J Z ⟨j,C,U,W,Y⟩ s=>by
  subst Y;have q:=own.facts s;exact⟨_,⟨j,C,U,⟨W,q.2.1,q.2.2.1⟩,rfl⟩,s⟩
def sQ:∀(J)(s)(G),J.ok->J.fit->s.x<=s.y->(-9223372036854775808<=s.x/\s.x<=9223372036854775807)->(-9223372036854775808<=s.y/\s.y<=9223372036854775807)->s∉J.bp->J.bp.length<=90000->
  D E 385 #[.pointer J.addr,s.v] (eh J::G) λv bx=>yC (s::J.bp) G v bx
 | .nil,s,G,bn,a4,a5,aX,aY,aV,bm=>by
  have bq:=λb Z am W ao=>Xn (b:=b) (j:=Z) (C:=am) (W:=W) (D:=ao) a5;refine ap λg F=> ?_;refine aS λba=> ?_;refine aW (aE [0,1,2,3,7] (.hc 4 (.q 5 (.hc 6 (.e 8 (.e 9 (.e 10 (.q 11 .nil)))) 8 (.e 6 (.e 9 (.e 10 (.q 11 .nil)))))) 8 (.e 4 (.q 5 (.e 6 (.e 9 (.e 10 (.q 11 .nil)))))))) ?_;iterate 5 refine ai ?_
  refine h1 ?x724_0 ?x724_1
  case' x724_1=>
   refine a1 p p p (e8 aZ p p) ?_;rintro _ _ ⟨aO,rfl,rfl⟩;refine cM ?_;refine cU p p (IH s.x s.y aX aY _) ?_;refine ai ?_;refine hu λR=> ?_;refine an (dh O p p p (aw p (D.pick aI (z8 R ((s.x+s.y)/2) none none 0 0 0 0 none none 0 (ak aO) 1 1 [s] _ cr Q (bv _)))) ?_);rintro _ _ ⟨aC,aH,aG,aK,rfl,⟨ax,ay⟩,rfl⟩;refine an (dh O p p p (aw p (D.pre (M:=ik R ((s.x+s.y)/2) aC aH (a7 I.less [s]) aG aK (a7 I.ends [s]) 0 .nil .nil (F::G)) (by(repeat first|exact bo|apply wu|refine b7 ?_)<;>fail) (jW (lo:=.nil) (hi:=.nil) ⟨ax,ay,trivial,trivial⟩ R ((s.x+s.y)/2) 0 _ (by rw[e0];simp) (by trivial) (by trivial)))) ?_);rintro _ _ ⟨rfl,rfl⟩;refine ai ?_;refine dl ?_
  case' x724_0=>
   refine a1 p p p (aw p (IH s.x s.y aX aY _)) ?_;rintro _ _ ⟨rfl,rfl⟩;refine cM ?_;refine ai ?_;refine h1 ?x725_0 ?x725_1
   case' x725_1=>
    refine a1 p p p (e8 aZ p p) ?_;rintro _ _ ⟨aO,rfl,rfl⟩;refine cM ?_;refine hu λR=> ?_;refine an (dh O p p p (aw p (D.pick aI (z8 R ((s.x+s.y)/2) none none 0 0 0 0 none none 0 (ak aO) 1 1 [s] _ cr Q (bv _)))) ?_);rintro _ _ ⟨aC,aH,aG,aK,rfl,⟨ax,ay⟩,rfl⟩;refine an (dh O p p p (aw p (D.pre (M:=ik R ((s.x+s.y)/2) aC aH (a7 I.less [s]) aG aK (a7 I.ends [s]) 0 .nil .nil (F::G)) (by(repeat first|exact bo|apply wu|refine b7 ?_)<;>fail) (jW (lo:=.nil) (hi:=.nil) ⟨ax,ay,trivial,trivial⟩ R ((s.x+s.y)/2) 0 _ (by rw[e0];simp) (by trivial) (by trivial)))) ?_);rintro _ _ ⟨rfl,rfl⟩;refine ai ?_;refine dl ?_
   case' x725_0=>
    refine a1 p p p (wo p) ?_;rintro _ _ ⟨R,rfl,rfl⟩;refine cM ?_;refine hu λaO=> ?_;refine an (dh O p p p (aw p (D.pick aI (z8 R ((s.x+s.y)/2) none none 0 0 0 0 none none 0 (ak aO) 1 1 [s] _ cr Q (bv _)))) ?_);rintro _ _ ⟨aC,aH,aG,aK,rfl,⟨ax,ay⟩,rfl⟩;refine an (dh O p p p (aw p (D.pre (M:=ik R ((s.x+s.y)/2) aC aH (a7 I.less [s]) aG aK (a7 I.ends [s]) 0 .nil .nil (F::G)) (by(repeat first|exact bo|apply wu|refine b7 ?_)<;>fail) (jW (lo:=.nil) (hi:=.nil) ⟨ax,ay,trivial,trivial⟩ R ((s.x+s.y)/2) 0 _ (by rw[e0];simp) (by trivial) (by trivial)))) ?_);rintro _ _ ⟨rfl,rfl⟩;refine ai ?_;refine dl ?_
  all_goals
   refine aF ?_;exact aj (C:=eh (.node R ((s.x+s.y)/2) aC aH (a7 I.less [s]) aG aK (a7 I.ends [s]) ((a7 I.less [s]).length+av.nil.size+av.nil.size) .nil .nil)::G) p (.tmp p .nil) (λh s=>(Dq (M:=F::G) (λ_ s=>s) h s).swap) ⟨_,⟨(bq _ _ _ _ _).1,⟨⟨ax,ay⟩,trivial,trivial⟩,(bq _ _ _ _ _).2⟩,rfl,rfl⟩
 | .node b mid Z am j W ao q ar Y U,s,G,bn,a4,a5,aX,aY,aV,bm=>by
  have bJ:=λM aa ab=>sQ Y s M aa a4.2.1 a5 aX aY ab;have bK:=λM aa ab=>sQ U s M aa a4.2.2 a5 aX aY ab;have al:=KO a4;obtain⟨bc,b0,b1,b3,be,bf⟩:=bn;have bI:=bc;obtain⟨a6,a8,bj,bk,bl⟩:=bI;have bF:=Ef bc;have b4:q.length=j.length:=by rw[a8,e0]
  simp only[av.bp,cT,not_or]at aV;simp only[av.bp,bP]at bm;have bE:(av.node b mid Z am j W ao q ar Y U).bp=j++(Y.bp++U.bp):=rfl;rw[bE];have b5:=λM=>uJ al b mid ar M;have aL:=λM=>p7 b mid s M;refine D.open (ι:=Unit) (E:=λ_=>True) (J:=λ_=>z7 b mid Z am j W ao q ar Y U) (λ_ h=>⟨(),trivial,h⟩) λ_ _=> ?_
  show D _ _ _ (ae b 415 (oq mid Z j.length am W q.length ao Y.addr U.addr ar)::own 45 3 Z j.length am (flat j)::own 45 3 W q.length ao (flat q)::eh Y::eh U::G) _
  by_cases bz:s.y<mid
  ·have aP:g7 mid s=0:=by simp_all[g7,if_pos]
   rw[aP]at aL;refine ap λg F=> ?_;refine aS λba=> ?_;refine a9 (aL _ dX) ?_;refine hr 5 (aE [0,1,2,3,4,5,6,7,8,10,11] (.e 9 (.q 12 (.e 13 .nil)))) ?_;iterate 6 refine ai ?_
   refine dd p (dV p p ah ah) ?_;iterate 4 refine ai ?_
   refine an (dh O p p p (aw p (D.pick aI (bJ _ be aV.2.1 C))) ?_);rintro _ _ ⟨J,⟨bh,bi,aA⟩,rfl,rfl⟩;refine dd p (dV p p ah ah) ?_;refine an (cj O p p p (c5 p p p cd) ?_);rintro _ _ ⟨rfl,rfl⟩;have bb:=aA.length_eq;simp only[fc]at bb;have aQ:av.mF mid j q J.bp U.bp:=⟨a6,a8,bj,λbg bd=>(cQ.1 (aA.subset bd)).elim (λh=>h▸bz) (bk bg),bl⟩;refine K ?_;refine GE (aw p (D.pre (M:=ik b mid Z am j W ao q ar J U (F::G)) (by unfold ik;exact aq) (lT ⟨al.ag,al.q,bi,al.hi⟩ b mid ar _ aQ bh bf C (s::(j++(Y.bp++U.bp))) (((aA.append_right _).append_left j).trans e4)))) ?_;rintro _ _ ⟨au,⟨a0,a2,a3⟩,rfl,rfl⟩;refine ad ?_;refine af ?_;exact aj (C:=eh au::G) p (.tmp p .nil) (λh s=>s.swap) ⟨au,⟨a0,a2,a3⟩,rfl,rfl⟩
  ·by_cases bB:mid<s.x
   ·have aP:g7 mid s=1:=by simp_all[g7,if_neg,if_pos]
    rw[aP]at aL;refine ap λg F=> ?_;refine aS λba=> ?_;refine a9 (aL _ dX) ?_;refine hr 6 (aE [0,1,2,3,4,5,6,7,8,10,11] (.e 9 (.q 12 (.e 13 .nil)))) ?_;iterate 6 refine ai ?_
    refine dd p (dV p p ah ah) ?_;iterate 4 refine ai ?_
    refine an (dh O p p p (aw p (D.pick aI (bK _ bf aV.2.2 C))) ?_);rintro _ _ ⟨J,⟨bh,bi,aA⟩,rfl,rfl⟩;refine dd p (dV p p ah ah) ?_;refine an (cj O p p p (c5 p p p cd) ?_);rintro _ _ ⟨rfl,rfl⟩;have bb:=aA.length_eq;simp only[fc]at bb;have aQ:av.mF mid j q Y.bp J.bp:=⟨a6,a8,bj,bk,λbg bd=>(cQ.1 (aA.subset bd)).elim (λh=>h▸bB) (bl bg)⟩;refine K ?_;refine GE (aw p (D.pre (M:=ik b mid Z am j W ao q ar Y J (F::G)) (by unfold ik;exact aq) (lT ⟨al.ag,al.q,al.lo,bi⟩ b mid ar _ aQ be bh C (s::(j++(Y.bp++U.bp))) ((((aA.append_left _).trans e4).append_left j).trans e4)))) ?_;rintro _ _ ⟨au,⟨a0,a2,a3⟩,rfl,rfl⟩;refine ad ?_;refine af ?_;exact aj (C:=eh au::G) p (.tmp p .nil) (λh s=>s.swap) ⟨au,⟨a0,a2,a3⟩,rfl,rfl⟩
   ·have aP:g7 mid s= -1:=by simp_all[g7,if_neg]
    rw[aP]at aL;have aQ:=Vs bc aV.1 C;have bN:∀M,Rd (own 45 3 Z j.length am (flat j)::M) Z j.length j:=λM=>aM.own (bU _) al.ag.a;have bO:∀M,Rd (own 45 3 W q.length ao (flat q)::M) W q.length q:=λM=>aM.own (bU _) al.q.a;have bQ:=λM h=>(IJ pP fX Z j.length am j s M h C a6).made;have bT:=λM h=>(IJ Dt l6 W q.length ao q s M h C bF).made;have b6:(eR I.less s j).length=j.length+1:=XZ s j;have bV:=u5 (Y:=I.less) s j;generalize eR I.less s j=bL at*
    generalize eR I.ends s q=bM at*
    refine ap λg F=> ?_;refine aS λba=> ?_;refine a9 (aL _ dX) ?_;refine aW (aE [0,1,2,3,4,5,6,8,9,10,11,12] (.e 7 (.e 13 (.q 14 (.q 15 (.e 16 (.q 17 (.q 18 (.e 19 .nil))))))))) ?_;iterate 12 refine ai ?_
    refine an (a1 p p p (aw p (bQ _ (by repeat' first|exact bN _|apply Rd.skip))) ?_);rintro _ _ ⟨bs,bA,rfl,bW,bX,bY,rfl⟩;refine cM ?_;refine an (a1 p p p (aw p (bT _ (by repeat' first|exact bO _|apply Rd.skip))) ?_);rintro _ _ ⟨bt,bC,rfl,ax,ay,bZ,rfl⟩;refine cM ?_;iterate 2 refine ai ?_
    refine an (dh O p p p (c5 p p p cd) ?_);rintro _ _ ⟨rfl,rfl⟩;iterate 2 refine ai ?_
    refine an (cj O p p p (c5 p p p cd) ?_);rintro _ _ ⟨rfl,rfl⟩
    all_goals
     refine K ?_;refine GE (aw p (D.pre (M:=ik b mid bs bA bL bt bC bM ar Y U (F::G)) (by exact aq) (lT ⟨⟨bW,bX,bY⟩,⟨ax,ay,bZ⟩,al.lo,al.hi⟩ b mid ar _ aQ be bf C (s::(j++(Y.bp++U.bp))) (bV.append_right _)))) ?_;rintro _ _ ⟨au,⟨a0,a2,a3⟩,rfl,rfl⟩;refine ad ?_;refine af ?_;exact aj (C:=eh au::G) p (.tmp p .nil) (λh s=>s.swap) ⟨au,⟨a0,a2,a3⟩,rfl,rfl⟩
def r1:∀(J)(s)(R),J.ok->J.fit->s∈J.bp->J.bp.length<=90000->
  D E 386 #[.pointer J.addr,s.v] (eh J::R) λv be=>yC (J.bp.erase s) R v be
 | .nil,s,R,aL,aH,aK,ba=>by simp[av.bp]at aK
 | .node b mid ae al j W am q Y G I,s,R,aL,aH,aK,ba=>by
  have bn:=aL.fair s aK;obtain⟨bx,bz,bA⟩:=aL.Wi bn aK;have bs:=λM aa ab=>r1 G s M aa aH.2.1 ab;have bt:=λM aa ab=>r1 I s M aa aH.2.2 ab;have Q:=KO aH;obtain⟨aP,bL,bM,bN,aV,aX⟩:=aL;have bk:=aP;obtain⟨aO,aG,a2,a3,a4⟩:=bk;have bj:=Ef aP;have bm:q.Perm j:=aG▸e1 j;have bO:q.length=j.length:=by rw[aG,e0]
  simp only[av.bp,bP]at ba;have bh:(av.node b mid ae al j W am q Y G I).bp=j++(G.bp++I.bp):=rfl;rw[bh];have bT:=λM=>uJ Q b mid Y M;have ao:=λM=>p7 b mid s M;refine D.open (E:=λ_=>True) (J:=λ_=>z7 b mid ae al j W am q Y G I) (λ_ h=>⟨(),trivial,h⟩) λ_ _=> ?_
  show D _ _ _ _ _
  by_cases a6:s.y<mid
  ·have ar:g7 mid s=0:=by simp_all[g7,if_pos]
   rw[ar]at ao;have U:=bx a6;have bq:s∉j:=λh=>by grind
   have au:(j++(G.bp++I.bp)).erase s=j++(G.bp.erase s++I.bp):=by
    grind
   have a8:=to U;rw[au];refine ap λg F=> ?_;refine aS λa5=> ?_;refine a9 (ao _ dX) ?_;refine hr 5 (aE [0,1,2,3,4,5,6,7,8,10,11] (.e 9 (.q 12 (.e 13 .nil)))) ?_;iterate 6 refine ai ?_
   refine dd p (dV p p ah ah) ?_;iterate 4 refine ai ?_
   refine an (dh O p p p (aw p (D.pick aI (bs _ aV U C))) ?_);rintro _ _ ⟨J,⟨aZ,a0,ak⟩,rfl,rfl⟩;refine dd p (dV p p ah ah) ?_;refine an (cj O p p p (c5 p p p cd) ?_);rintro _ _ ⟨rfl,rfl⟩;have bi:=ak.length_eq;have ax:av.mF mid j q J.bp I.bp:=⟨aO,aG,a2,λaY aQ=>a3 aY (oU (ak.subset aQ)),a4⟩;refine K ?_;refine GE (aw p (D.pre (M:=ik b mid ae al j W am q Y J I (F::R)) (by unfold ik;exact aq) (lT ⟨Q.ag,Q.q,a0,Q.hi⟩ b mid Y _ ax aZ aX C (j++(G.bp.erase s++I.bp)) ((ak.append_right _).append_left j)))) ?_;rintro _ _ ⟨Z,⟨ay,aA,aC⟩,rfl,rfl⟩;refine ad ?_;refine af ?_;exact aj (C:=eh Z::R) p (.tmp p .nil) (λh s=>s.swap) ⟨Z,⟨ay,aA,aC⟩,rfl,rfl⟩
  ·by_cases a7:mid<s.x
   ·have ar:g7 mid s=1:=by simp_all[g7,if_neg,if_pos]
    rw[ar]at ao;have U:=bz a7;have bq:s∉j:=λh=>by grind
    have bQ:s∉G.bp:=λh=>by simp_all
    have au:(j++(G.bp++I.bp)).erase s=j++(G.bp++I.bp.erase s):=by
     grind
    have a8:=to U;rw[au];refine ap λg F=> ?_;refine aS λa5=> ?_;refine a9 (ao _ dX) ?_;refine hr 6 (aE [0,1,2,3,4,5,6,7,8,10,11] (.e 9 (.q 12 (.e 13 .nil)))) ?_;iterate 6 refine ai ?_
    refine dd p (dV p p ah ah) ?_;iterate 4 refine ai ?_
    refine an (dh O p p p (aw p (D.pick aI (bt _ aX U C))) ?_);rintro _ _ ⟨J,⟨aZ,a0,ak⟩,rfl,rfl⟩;refine dd p (dV p p ah ah) ?_;refine an (cj O p p p (c5 p p p cd) ?_);rintro _ _ ⟨rfl,rfl⟩;have bi:=ak.length_eq;have ax:av.mF mid j q G.bp J.bp:=⟨aO,aG,a2,a3,λaY aQ=>a4 aY (oU (ak.subset aQ))⟩;refine K ?_;refine GE (aw p (D.pre (M:=ik b mid ae al j W am q Y G J (F::R)) (by unfold ik;exact aq) (lT ⟨Q.ag,Q.q,Q.lo,a0⟩ b mid Y _ ax aV aZ C (j++(G.bp++I.bp.erase s)) ((ak.append_left _).append_left j)))) ?_;rintro _ _ ⟨Z,⟨ay,aA,aC⟩,rfl,rfl⟩;refine ad ?_;refine af ?_;exact aj (C:=eh Z::R) p (.tmp p .nil) (λh s=>s.swap) ⟨Z,⟨ay,aA,aC⟩,rfl,rfl⟩
   ·have ar:g7 mid s= -1:=by simp_all[g7,if_neg]
    rw[ar]at ao;have U:=bA a6 a7;have bl:s∈q:=bm.symm.subset U;have au:(j++(G.bp++I.bp)).erase s=j.erase s++(G.bp++I.bp):=List.erase_append_left _ U;have a8:=to U;rw[au];have ax:=Vr (s:=s) aP;have bC:∀M,Rd (own 45 3 ae j.length al (flat j)::M) ae j.length j:=λM=>aM.own (bU _) Q.ag.a;have bE:∀M,Rd (own 45 3 W q.length am (flat q)::M) W q.length q:=λM=>aM.own (bU _) Q.q.a;have bF:=λM h=>J1 (Im pP fX ae j.length al j s M h C aO U);have bI:=λM h=>J1 (Im Dt l6 W q.length am q s M h C bj bl);generalize j.erase s=bb at*
    generalize q.erase s=bB at*
    refine ap λg F=> ?_;refine aS λa5=> ?_;refine a9 (ao _ dX) ?_;refine aW (aE [0,1,2,3,4,5] (.e 6 (aE [7,8,9,10,11] (.e 12 .nil)))) ?_;iterate 6 refine ai ?_
    refine an (a1 p p p (aw p (bF _ (by repeat' first|exact bC _|apply Rd.skip))) ?_);rintro _ _ ⟨bc,bf,rfl,bJ,rfl⟩;refine cM ?_;iterate 5 refine ai ?_
    refine an (cj O p p p (c5 p p p cd) ?_);rintro _ _ ⟨rfl,rfl⟩
    all_goals
     refine aW (aE [0,1,2,3,4,5] (.e 6 (aE [7,8,9,10,11] (.e 12 .nil)))) ?_;iterate 6 refine ai ?_
     refine an (a1 p p p (aw p (bI _ (by repeat' first|exact bE _|apply Rd.skip))) ?_);rintro _ _ ⟨bd,bg,rfl,bK,rfl⟩;refine cM ?_;iterate 5 refine ai ?_
     refine an (cj O p p p (c5 p p p cd) ?_);rintro _ _ ⟨rfl,rfl⟩
     all_goals
      refine K ?_;refine GE (aw p (D.pre (M:=ik b mid bc bf bb bd bg bB Y G I (F::R)) (by exact aq) (lT ⟨bJ,bK,Q.lo,Q.hi⟩ b mid Y _ ax aV aX C (bb++(G.bp++I.bp)) (.refl _)))) ?_;rintro _ _ ⟨Z,⟨ay,aA,aC⟩,rfl,rfl⟩;refine ad ?_;refine af ?_;exact aj (C:=eh Z::R) p (.tmp p .nil) (λh s=>s.swap) ⟨Z,⟨ay,aA,aC⟩,rfl,rfl⟩
def Ut(G I)(aa:1<=G)(ab:G<=1048576):D E 111 #[j G] I λv O=>∃J,v=.tuple #[R J,j 0]/\O=oO J G []::I:=by
 refine ap λg F=> ?_;refine dE 6 p (decide_eq_false C) ?_;iterate 3 refine ad ?_
 refine af ?_;refine b2 p (decide_eq_false C) ?_;refine K ?_;refine aS λQ=> ?_;refine af ?_;exact aj rfl (.tmp p (.tmp p .nil)) (λh s=>(Tm (C:=.nil) (M:=F::I) ⟨trivial,trivial,.refl _⟩ (by(repeat first|exact bo|apply wu|refine b7 ?_)<;>fail) h s).swap) ⟨Q,rfl,rfl⟩
def Us(Q J I s ak G)(o:oP I G)(aV:I.length<=1000):
  D E 287 #[R Q,s.v] (ae Q 265 [.pointer G.addr,j J]::eh G::ak) λv aA=>v=j (fV J I s)/\∃W,oP (ny J I s) W/\aA=ae Q 265 [.pointer W.addr,j J]::eh W::ak:=by
 obtain⟨ag,ar,am⟩:=o;have aQ:=am.length_eq;have aX:=ag.size;have ao:∀M,lb (ae Q 265 [.pointer G.addr,j J]::eh G::M) Q G J:=λM=>⟨aR.ae p,aR.ae p,(sq G M ar).skip⟩;have al:=yv s;have Z:=λM h=>LE (t:=Q) (T:=G) (bT:=J) (L:=M) h s ag C;rw[ag.Lm]at Z;have ay:=am.mem_iff (a:=s);rw[show decide (s∈G.bp)=decide (s∈I)from decide_eq_decide.2 ay]at Z;cases av:hy s with
 |false=>
  have U:fV J I s=1:=by simp_all[fV,if_pos]
  have Y:ny J I s=I:=if_neg C;rw[U,Y];rw[av]at al;refine ap λg F=> ?_;refine aS λau=> ?_;refine br p p p p ?_;refine bw p (al _) ?_;refine br p p p p ?_;refine aD (cL p) ?_;refine K ?_;refine af ?_;exact aj (C:=ae Q 265 [.pointer G.addr,j J]::eh G::ak) p (.tmp p .nil) aq ⟨rfl,G,⟨ag,ar,am⟩,rfl⟩
 |true=>
  rw[av]at al
  by_cases ax:s∈I
  ·have U:fV J I s=5:=by simp_all[fV,if_neg,if_pos]
   have Y:ny J I s=I:=if_neg C;rw[U,Y];rw[decide_eq_true ax]at Z;refine ap λg F=> ?_;refine aS λau=> ?_;refine br p p p p ?_;refine bw p (al _) ?_;refine br p p p p ?_;refine aD (cL p) ?_;refine K ?_;refine a9 (Z _ (by repeat' first|exact ao _|apply lb.skip)) ?_;refine af ?_;exact aj (C:=ae Q 265 [.pointer G.addr,j J]::eh G::ak) p (.tmp p .nil) aq ⟨rfl,G,⟨ag,ar,am⟩,rfl⟩
  ·rw[decide_eq_false ax]at Z
   by_cases aP:J<=I.length
   ·have U:fV J I s=4:=by simp_all[fV,if_neg,if_pos]
    have Y:ny J I s=I:=if_neg C;rw[U,Y];refine ap λg F=> ?_;refine aS λau=> ?_;refine br p p p p ?_;refine bw p (al _) ?_;refine br p p p p ?_;refine aD (cL p) ?_;refine K ?_;refine a9 (Z _ (by repeat' first|exact ao _|apply lb.skip)) ?_;refine aW (aE [0,1,2,3,5,6,7,8] (.e 4 (.q 9 (.q 10 .nil)))) ?_;iterate 8 refine ai ?_
    refine cU p p (uI G _ (by repeat' first|exact(ao _).i|apply e7.skip)) ?_;iterate 2 refine ai ?_
    refine cK ?_;refine cD p (decide_eq_true C) ?_;refine K ?_;refine af ?_;exact aj (C:=ae Q 265 [.pointer G.addr,j J]::eh G::ak) p (.tmp p .nil) aq ⟨rfl,G,⟨ag,ar,am⟩,rfl⟩
   ·have U:fV J I s=0:=by simp_all[fV,if_neg]
    have Y:ny J I s=I++[s]:=if_pos U;obtain⟨aC,aG,aH⟩:=TT av;simp only[dF,Bool.and_eq_true,decide_eq_true_eq]at aG aH;rw[U,Y];refine ap λg F=> ?_;refine aS λau=> ?_;refine br p p p p ?_;refine bw p (al _) ?_;refine br p p p p ?_;refine aD (cL p) ?_;refine K ?_;refine a9 (Z _ (by repeat' first|exact ao _|apply lb.skip)) ?_;refine aW (aE [0,1,2,3,5,6,7,8] (.e 4 (.q 9 (.q 10 .nil)))) ?_;iterate 8 refine ai ?_
    refine cU p p (uI G _ (by repeat' first|exact(ao _).i|apply e7.skip)) ?_;iterate 2 refine ai ?_
    refine cK ?_;refine b2 p (decide_eq_false C) ?_;refine aF ?_;refine hr 3 (aE [0,1,2,3,4,5] (.e 6 (.q 7 (.q 8 (.e 9 .nil))))) ?_;iterate 6 refine ai ?_
    refine an (dh O p p p (aw p (D.pick aI (sQ G s _ ag ar aC C C (λh=>ax (ay.1 h)) C))) ?_);rintro _ _ ⟨W,⟨aK,aL,aO⟩,rfl,rfl⟩;iterate 2 refine ai ?_
    refine an (cj O p p p (c5 p p p cd) ?_);rintro _ _ ⟨rfl,rfl⟩;refine K ?_;refine af ?_;exact aj (C:=ae Q 265 [.pointer W.addr,j J]::eh W::ak) p (.tmp p .nil) aq ⟨rfl,W,⟨aK,aL,aO.trans ((List.Perm.cons s am).trans (List.perm_append_singleton s I).symm)⟩,rfl⟩
def Ur(I U Q s Z G)(o:oP Q G)(aG:Q.length<=1000):
  D E 288 #[R I,s.v] (ae I 265 [.pointer G.addr,j U]::eh G::Z) λv ar=>v=j (kd Q s)/\∃J,oP (Q.erase s) J/\ar=ae I 265 [.pointer J.addr,j U]::eh J::Z:=by
 obtain⟨ag,am,ak⟩:=o;have aC:=ak.length_eq;have aA:∀M,lb (ae I 265 [.pointer _,.int _ U]::eh G::M) I G U:=λM=>⟨aR.ae p,aR.ae p,(sq G M am).skip⟩;have W:=λM h=>LE (t:=I) (bT:=U) (L:=M) h s ag C;rw[ag.Lm]at W;have ao:=ak.mem_iff (a:=s);rw[show decide _=decide _ from decide_eq_decide.2 ao]at W
 by_cases Y:s∈Q
 ·have al:kd Q s=0:=if_pos Y;rw[al];rw[decide_eq_true Y]at W;refine ap λg F=> ?_;refine aS λau=> ?_;refine bw p (W _ (by simp_all[lb.skip])) ?_;refine aD (cL p) ?_;refine K ?_;refine aF ?_;refine hr 3 (aE [0,1,2,3,4,5] (.e 6 (.q 7 (.q 8 (.e 9 .nil))))) ?_;iterate 6 refine ai ?_
  refine an (dh O p p p (aw p (D.pick aI (r1 G s _ ag am (ao.2 Y) C))) ?_);rintro _ _ ⟨J,⟨av,ax,ay⟩,rfl,rfl⟩;iterate 2 refine ai ?_
  refine an (cj O p p p (c5 p p p cd) ?_);rintro _ _ ⟨rfl,rfl⟩;refine K ?_;refine af ?_;exact aj (C:=ae I 265 [.pointer J.addr,j U]::eh J::Z) p (.tmp p .nil) aq ⟨rfl,J,⟨av,ax,ay.trans (ak.erase s)⟩,rfl⟩
 ·have al:kd Q s=6:=if_neg Y;rw[al,List.erase_of_not_mem Y];rw[decide_eq_false Y]at W;refine ap λg F=> ?_;refine aS λau=> ?_;refine bw p (W _ (by simp_all[lb.skip])) ?_;refine aD (cL p) ?_;refine K ?_;refine af ?_;exact aj (C:=ae I 265 [.pointer G.addr,j U]::eh G::Z) p (.tmp p .nil) aq ⟨rfl,G,⟨ag,am,ak⟩,rfl⟩
end S.en
namespace S.en
section
variable(t b:Nat)(bT:Int)(k:List I)(ag:I)(L:aG)
def Qy(J:k.length<=1000):D E 287 #[R t,ag.v] (oO t bT k::L) λv C=>v=j (fV bT k ag)/\C=oO t bT (ny bT k ag)::L:=
 D.Py λG o=>Us t bT k ag L G o J
def Qv(J:k.length<=1000):D E 288 #[R t,ag.v] (oO t bT k::L) λv C=>v=j (kd k ag)/\C=oO t bT (k.erase ag)::L:=
 D.Py λG o=>Ur t bT k ag L G o J
end
instance aaD:e5 av:=⟨1,λj=>[.pointer j.addr],λ_=>rfl,λ_ v h=>by simp at h;subst h;rfl⟩
def ba(b:Nat)(D:Int)(l:List av):aO:=λh=>∃C:Option Addr×Nat,(0<l.length->∃b,C.1=(ak b))/\G [ae b 619 [.slice C.1 l.length C.2,j D],own 263 1 C.1 l.length C.2 (flat l)] h
def sX{s E l M I}(h:G (ba s E l::M) I):∃D C,(0<l.length->∃b,D=(ak b))/\l.length<=C/\C<=maxLen/\G (ae s 619 [.slice D l.length C,j E]::own 263 1 D l.length C (flat l)::M) I:=by
 obtain⟨aa,ab,K,R,U,⟨⟨D,C⟩,Q,q⟩,W⟩:=h;have J:=own.facts (L:=[]) q.tail;exact⟨D,C,Q,J.2.1,J.2.2.1,G.head (A:=λh=>h=aa) (N:=[ae s 619 [.slice D l.length C,j E],own 263 1 D l.length C (flat l)]) (λ_ O=>O▸q) ⟨aa,ab,K,R,U,rfl,W⟩⟩
def D.nR{I J args G b O l post}
  (W:∀E C,(0<l.length->∃b,E=(ak b))->l.length<=C->C<=maxLen->D I J args (ae b 619 [.slice E l.length C,j O]::own 263 1 E l.length C (flat l)::G) post):D I J args (ba b O l::G) post:=λg F U K=>by
 obtain⟨E,C,aa,ab,Q,R⟩:=sX K.s.swap;exact W E C aa ab Q g F U ⟨K.g,R.perm (e4 (l₁:=[_,_]))⟩
def lR{C M b c A D l}(I:0<l.length->∃b,A=(ak b))(E:∀h,G C h->G (ae b 619 [.slice A l.length c,j D]::own 263 1 A l.length c (flat l)::M) h):∀h,G C h->G (ba b D l::M) h:=λh s=>
 G.fold (N:=[_,_]) (λh q=>⟨(A,c),I,q⟩) (E h s)
def Fj{E b j I C v D}(K:(v::C::D).length=j*1)(O:2<=j)(Q:j<=maxLen):∀h,G (ae b I (C::v::D)::E) h->G (own I 1 (ak b) 2 j [C,v]::E) h:=λh s=>by
 obtain⟨aa,ab,J,R,U,q,W⟩:=s;exact⟨aa,ab,J,R,U,own.kF (n:=2) (c:=j) (dP:=1) (j:=C::v::D) q K O Q,W⟩
theorem Gw(j v C):ej (ej (j::v::C) (0+0*1) [v]) (0+1*1) [j]=v::j::C:=by
 rw[jy (j::v::C) _ _ Q,jy _ _ _ Q];simp
end S.en
namespace S.en
attribute [local irreducible] G
abbrev kS:Nat:=263
abbrev GS:Nat:=579
abbrev GT:Nat:=617
abbrev s6:Nat:=710
abbrev qg:Nat:=712
abbrev rr:Type:=av
def rF{G c1 c2 I}{post:List aO->Prop}[J:b4 E G](h:D E G (c1++[]++c2).toArray I λv C=>post C):
  D E 114 #[.func (.func G) c1.toArray c2.toArray] I λv C=>v=.tuple #[.agg #[j 0,j 0],.bool false]/\post C:=F6
def pb(L):D E 526 #[j 65536] L λv C=>∃b,v=.tuple #[R b,j 0]/\C=ba b 65536 []::L:=Gd
def m5(b l C):D E 728 #[R b] (ba b 65536 l::C) λv G=>v=j (l.length:Nat)/\G=ba b 65536 l::C:=Ge
def xM(b G J C)(h:aB C b 0 2 [.slice G 0 J,j 65536]):D E 739 #[R b] C λv I=>v=.tuple #[.pointer none,.bool false]/\I=C:=Gf
def xL(b J n O l)(I:av)(G)(h:aB G b 0 2 [.slice J n O,j 65536])(U:Rd G J n (l++[I]))(Y:n=l.length+1)(W:n<=65536):D E 739 #[R b] G λv K=>v=.tuple #[.pointer I.addr,.bool true]/\K=G:=Gg
def xq(b j):D E 735 #[R b] (ba b 65536 []::j) λv C=>v=.tuple #[.pointer none,.bool false]/\C=ba b 65536 []::j:=Gh
def xp(b l j G)(W:l.length+1<=65536):D E 735 #[R b] (ba b 65536 (l++[j])::G) λv I=>v=.tuple #[.pointer j.addr,.bool true]/\I=ba b 65536 l::G:=Gi
def sO(b J G q l I j)(U:Rd j J G I)(W:l.length+G<=65536):D E 580 #[R b,.slice J G q] (ba b 65536 l::j) λv O=>v=.tuple #[]/\O=ba b 65536 (l++I)::j:=Gj
def xv(J K b G C q l I j)(ab:aR j ⟨J,0,none⟩ (R b))(W:aR j ⟨K,0,none⟩ (.slice G C q))(U:Rd j G C I)(Q:l.length+C<=65536):
  D E 579 #[R J,R K] (ba b 65536 l::j) λv O=>O=ba b 65536 (l++I)::j:=Gk
def rO(b J G q l I C)(W:Rd C J G I)(U:l.length+G<=65536):D E 528 #[R b,.slice J G q] (ba b 65536 l::C) λv K=>v=j 0/\K=ba b 65536 (l++I)::C:=Gl
def tE(C n I)(l:List av)(j)(J:Rd j C n l)(R:n<=1000000):
  D E 736 #[.slice C n I] j λv G=>Made 263 l j v G:=F7
def vL(I C)(l:List av)(J)(Y:0<l.length->∃b,I=(ak b))(ab:l.length<=2):
  D E 737 #[.slice I l.length C] (own 263 1 I l.length C (flat l)::J) λv ag=>v=.tuple #[]/\ag=own 263 1 I l.length C (flat l.reverse)::J:=F8
def i1(j:Program)(C:TypeId):Bool:=match j.underlying C with
 |some (.func _ _ _)=>true
 | _=>false
class iU (j:Program) (C:TypeId):Prop where
 h:i1 j C=true
def iU.spec{j C}(D:iU j C):∃E b G,j.underlying C=some (.func E b G):=by
 have h:=D.h;unfold i1 at h;split at h
 ·exact⟨_,_,_,by assumption⟩
 ·cases h
def wy{j O I}{U:Option Nat}{ak C Q ag R W J y G E b}[K:iU j C](Z:aY I J=some (.func G E b))(ae:aY I y=some .nilFunc):bf j O I ⟨U,.binOp .eql C J y Q,ak,ag,R,W⟩ (.bool false):=
 iY _ _ _ _ (λD=>by unfold eqGuard;split<;>rfl) Z ae λD=>by
  obtain⟨_,_,_,Y⟩:=K.spec;have ab:(dD C (.func G E b) .nilFunc).run j D=.ok false D:=by
   unfold dD;rw[show Op.maxDepth=9999+1 from rfl];unfold Op.equalIn;simp only[cg,run_underlying Y,db];rfl
  show((do pure (.bool (<- dD C (.func G E b) .nilFunc)):Sem Value)).run j D= _;simp only[cg,ab,db,Sem.run_pure]
instance:iU E 709:=⟨O⟩
structure gz (S:Type)where
 V:S->aO
 ok:av->S->Prop
 kids:av->List av
 g8:av->S->S
 f:FuncId
 dt:List Value
 d5:List Value
 dL:List av->S->Nat->Prop
structure gz.Good {S:Type} (j:gz S) (O:aG):Prop where
 pq:b4 E j.f
 qe:∀(M:aG) (I:av) (C:S),(∀h,G M h->G O h)->j.ok I C->D E j.f (j.dt++[Value.pointer I.addr]++j.d5).toArray (j.V C::M) λv Q=>Made 263 (j.kids I) (j.V (j.g8 I C)::M) v Q
 next:∀(l:List av) (I:av) (C:S) (J:Nat),j.dL (l++[I]) C J->∃K,J=K+1/\j.dL (l++(j.kids I).reverse) (j.g8 I C) K
 stop:∀(C:S) (J:Nat),j.dL [] C J->J=0
 cap:∀(l:List av) (C:S) (J:Nat),j.dL l C J->l.length<=60000/\∀I∈l,j.ok I C/\(j.kids I).length<=2
@[reducible] def eH {S} (C:gz S) (s n:Nat):List Value:=[R s,.func (.func C.f) C.dt.toArray C.d5.toArray,j (n:Nat)]
def xZ{S}(G:gz S)(j s n C):D E 733 #[R j] (ae j 712 (eH G s n)::ba s 65536 []::C) λv I=>v=.bool false/\I=ae j 712 (eH G s n)::ba s 65536 []::C:=F9
def xY{S}(j O s n l I)(Q:S)(J U)(Y:j.Good U)(Z:∀h,G J h->G U h)(ak:j.ok I Q)(ag:(j.kids I).length<=2)(ar:l.length<=60000)(au:n<=1000000000000):
  D E 733 #[R O] (ae O 712 (eH j s n)::ba s 65536 (l++[I])::j.V Q::J) λv W=>v=.bool true/\W=ae O 712 (eH j s (n+1))::ba s 65536 (l++(j.kids I).reverse)::j.V (j.g8 I Q)::J:=Ga
def xV{S}(I Y W J s Q U l)(al:S)(Z ag)(au:I.Good ag)(aC:∀h,G Z h->G ag h)(aA:I.dL l al U)(aH:U<=100000000):
  D E 732 #[R Y,R W] (ae Y 710 [R J]::ae W 3 [j (Q:Nat)]::ae J 712 (eH I s 0)::ba s 65536 l::I.V al::Z)
   λv av=>∃am ao,I.dL am ao (U-min Q U)/\av=ae Y 710 [R J]::ae W 3 [j (Q:Nat)]::ae J 712 (eH I s (min Q U))::ba s 65536 am::I.V ao::Z:=Gb
def rR{S}(C:gz S)(s K I l Y J W)(ak:C.Good W)(ag:∀h,G J h->G W h)(ae:C.dL l Y I)(al:I<=100000000):
  D E 729 #[R s,j (K:Nat),.func (.func C.f) C.dt.toArray C.d5.toArray] (ba s 65536 l::C.V Y::J)
   λv Z=>∃O U,v=.tuple #[j (min K I:Nat),j 0]/\C.dL O U (I-min K I)/\Z=ba s 65536 O::C.V U::J:=Gc
end S.en
namespace S.en
def av.gf(C v:Int)(j:av):Nat:=if C<=v then j.seen C v else if j.addr.isSome=true then 1 else 0
def ei(j v:Int)(C:List av):Nat:=(C.map (av.gf j v)).sum
theorem Ey(j v l C):ei j v (l++C)=ei j v l+ei j v C:=by simp[ei,BT]
theorem av.pR{D v}{E:av}(h:E.addr.isSome=true):E.gf D v=1+ei D v (E.eX D v):=by
 unfold av.eX
 by_cases G:D<=v
 ·rw[if_pos G];cases E with
  |nil=>cases h
  |node b mid Q R Z W U q Y O K=>
   simp[av.bY,Ey,av.nH,av.nI];have I:∀J:av,J.gf D v=J.seen D v:=λJ=>if_pos G;rw[I,av.seen]
   congr 1
   congr 1
   ·by_cases j:D<mid
    ·by_cases C:O.addr.isSome=true
     ·rw[if_pos j,if_pos ⟨j,C⟩];simp[ei,I]
     ·rw[if_pos j,if_neg (λh=>C h.2),av.yK C];rfl
    ·rw[if_neg j,if_neg (λh=>j h.1)];rfl
   ·by_cases j:mid<v
    ·by_cases C:K.addr.isSome=true
     ·rw[if_pos j,if_pos ⟨j,C⟩];simp[ei,I]
     ·rw[if_pos j,if_neg (λh=>C h.2),av.yK C];rfl
    ·rw[if_neg j,if_neg (λh=>j h.1)];rfl
 ·rw[if_neg G];unfold av.gf;rw[if_neg G,if_pos h];rfl
def av.ok.Mj{C v}{j:av}(h:j.ok):j.gf C v<=2*j.bp.length+1:=by
 unfold av.gf;split
 ·have:=h.seen (u:=C) (v:=v);have:=h.size;omega
 grind
def av.ok.Vm{I v}{D:av}(h:D.ok):∀C∈D.eX I v,C.addr.isSome=true/\C.depth+1<=D.depth/\4*C.size<=3*D.size:=by
 cases D with
 |nil=>intro C j;unfold av.eX at j;split at j<;>cases j
 |node b mid J K ak W O q G Z Y=>
  intro C j;obtain⟨_,Q,R,U,ae,ag⟩:=h;unfold av.eX at j;split at j
  ·rcases cT.1 j with h|h
   ·simp only[av.nH]at h;split at h
    ·rename_i E
     simp at h;subst h;refine⟨E.2,?_,?_⟩
     ·simp[av.depth];omega
     ·show 4*C.size<=3*G;omega
    trivial
   ·simp only[av.nI]at h;split at h
    ·rename_i E
     simp at h;subst h;refine⟨E.2,?_,?_⟩
     ·simp[av.depth];omega
     ·show 4*C.size<=3*G;omega
    trivial
  trivial
def sb{E D W}{I:Option Nat}{R O K G J U C}(Z:aY W U=some (j C)):
  bf E D W ⟨I,.call ⟨.builtin .max,#[U,.const (j 0)],O⟩,R,K,G,J⟩ (j (C.toNat:Nat)):=by
 have h:=uu (P:=E) (L:=D) (d:=I) (aQ:=R) (K:=O) (a3:=K) (a2:=G) (a0:=J) (y:=.const (.int _ 0)) Z p;have Y:max C 0=((C.toNat:Nat):Int):=Q;rwa[Y]at h
@[reducible] def wM (s:Nat) (I v:Int) (C:bA) (G D E:Nat):List Value:=[R s,j I,j v,.slice C G D,j (E:Nat)]
def ki(b s:Nat)(D v:Int)(j:List Int)(C:Nat):aO:=λh=>∃y:Option Addr×Nat,(0<j.length->∃b,y.1=(ak b))/\G [ae b 584 (wM s D v y.1 j.length y.2 C),own 3 1 y.1 j.length y.2 (flat j)] h
def Lu{b s I K v C M E}(h:G (ki b s K v C I::M) E):∃D j,(0<C.length->∃b,D=(ak b))/\C.length<=j/\j<=maxLen/\G (ae b 584 (wM s K v D C.length j I)::own 3 1 D C.length j (flat C)::M) E:=by
 obtain⟨aa,ab,O,U,W,⟨⟨D,j⟩,R,q⟩,Y⟩:=h;have J:=own.facts q.tail;exact⟨D,j,R,J.2.1,J.2.2.1,G.head (A:=λh=>h=aa) (λ_ Q=>Q▸q) ⟨aa,ab,O,U,W,rfl,Y⟩⟩
def D.z0{I J args G b s O Q v C post}
  (W:∀E j,(0<C.length->∃b,E=(ak b))->C.length<=j->j<=maxLen->D I J args (ae b 584 (wM s Q v E C.length j O)::own 3 1 E C.length j (flat C)::G) post):D I J args (ki b s Q v C O::G) post:=λg F Y K=>by
 obtain⟨E,j,aa,ab,R,U⟩:=Lu K.s.swap;exact W E j aa ab R g F Y ⟨K.g,U.perm (e4 (l₁:=[_,_]))⟩
def Cd{K E g J G U I b s Q R v C}
  (h:∀D j,(0<C.length->∃b,D=(ak b))->C.length<=j->j<=maxLen->bc K E g J G U (ae b 584 (wM s R v D C.length j Q)::own 3 1 D C.length j (flat C)::I)):bc K E g J G U (ki b s R v C Q::I):=λW v ag O=>by
 obtain⟨D,j,aa,ab,Y,Z⟩:=Lu O.s;exact h D j aa ab Y W v ag ⟨O.g,Z⟩
def pw{E M b s D I C J v j}(O:0<j.length->∃b,C=(ak b))(K:∀h,G E h->G (ae b 584 (wM s J v C j.length D I)::own 3 1 C j.length D (flat j)::M) h):∀h,G E h->G (ki b s J v j I::M) h:=λh Q=>
 G.fold (N:=[_,_]) (λh q=>⟨(C,D),O,q⟩) (K h Q)
structure jh (D v:Int) (G:List Int) (E:aG) (l:List av) (ids:List Int) (C:Nat):Prop where
 rest:C=ei D v l
 small:C<=60000
 ok:∀j∈l,e7 E j/\j.ok/\j.addr.isSome=true/\j.bp.length<=1000
 ids:ids++jT D v l.reverse=G
@[reducible] def Lv (b s:Nat) (D v:Int) (G:Nat) (I:List Int) (E:aG):gz (List Int)where
 V:=λC=>ki b s D v C G
 ok:=λj C=>(e7 E j/\j.ok/\j.bp.length<=1000)/\C.length<=1000000
 kids:=λj=>j.eX D v
 g8:=λj C=>C++j.ij D v
 f:=730
 dt:=[R b]
 d5:=[]
 dL:=jh D v I E
theorem KQ:∀l:List av,(flat (pi l):cs)=flat l
 | []=>rfl
 |x::l=>by
  have j:pi (x::l)=x.addr::pi l:=rfl;rw[j,jo,jo,KQ l];rfl
theorem jh.len{E v j C l ids D}(h:jh E v j C l ids D)(G:j.length<=1000000):ids.length<=1000000:=by
 have:=congrArg List.length h.ids;grind
theorem av.ED{C v}{j:av}(h:j.addr.isSome=true):1<=j.gf C v:=by rw[av.pR h];simp
def sv{j v}:∀{l},(∀x∈l,x.addr.isSome=true)->l.length<=ei j v l
 | [],_=>bv _
 |x::l,h=>by
  have aa:=sv (j:=j) (v:=v) λy C=>h y (kY _ C);grind[av.ED,ei,fc]
theorem Ez(j v l):ei j v l.reverse=ei j v l:=((List.reverse_perm l).map _).sum_nat
theorem K0(j v l C):jT j v (l++C)=jT j v l++jT j v C:=by simp[jT]
def av.Xb{E v}{D j:av}(h:j∈D.eX E v):j.bp.length<=D.bp.length:=by
 have aa:=(D.MP E v).2.2;have ab:∀{C:List av},j∈C->j.bp.length<=nQ C:=by
  intro C
  induction C with
  |nil=>simp
  |cons y I G=>
   intro h;unfold nQ at*
   grind
 grind
theorem jh.next{j v K G l D ids I}(h:jh j v K G (l++[D]) ids I):
  ∃J,I=J+1/\jh j v K G (l++(D.eX j v).reverse) (ids++D.ij j v) J:=by
 have aa:=h.rest;have ab:=h.small;obtain⟨W,O,Y,ae⟩:=h.ok D (cT.2 (.inr (List.mem_singleton.2 p)));have Z:ei j v (l++[D])=ei j v l+(1+ei j v (D.eX j v)):=by rw[Ey,<- av.pR Y];rfl
 have Q:jT j v (l++[D]).reverse=D.ij j v++(jT j v (D.eX j v)++jT j v l.reverse):=by
  rw[mY,List.reverse_singleton,K0];have:jT j v [D]=D.iG j v:=by simp[jT]
  rw[this,D.DJ j v,List.append_assoc]
 have R:jT j v (l++(D.eX j v).reverse).reverse=jT j v (D.eX j v)++jT j v l.reverse:=by rw[mY,List.reverse_reverse,K0]
 have U:ei j v (l++(D.eX j v).reverse)=ei j v l+ei j v (D.eX j v):=by rw[Ey,Ez]
 refine⟨ei j v l+ei j v _,C,U.symm,C,λy E=> ?_,?_⟩
 ·rcases cT.1 E with E|E
  ·exact h.ok y (cT.2 (.inl E))
  ·have E:=List.mem_reverse.1 E;exact⟨W.bY y E,O.bY y E,(O.Vm y E).1,by have:=av.Xb E;omega⟩
 ·rw[R,<- h.ids,Q];simp
theorem jh.done{E v J G l ids D}(j:jh E v J G l ids D):(l.length:Int)=0<->D=0:=by
 have aa:=j.rest;have ab:=sv (j:=E) (v:=v) λK I=>(j.ok K I).2.2.1;constructor
 ·intro h;have:l=[]:=e3 C;subst this;assumption
 omega
def jh.end_{E v C D l ids}(j:jh E v C D l ids 0):l=[]/\ids=C:=by
 have aa:l=[]:=e3 (by have:=j.done.2 p;omega);subst aa;exact⟨rfl,by simpa[jT]using j.ids⟩
def jh.start{u v C j}(h:e7 C j)(o:j.ok)(D:j.bp.length<=1000)(E:j.addr.isSome=true):jh u v (j.iG u v) C [j] [] (j.gf u v):=
 ⟨by rfl,by have:=o.Mj (C:=u) (v:=v);omega,λI G=>by simp_all,by simp[jT]⟩
end S.en
namespace S.en
attribute [local irreducible] G bf cc
def Co(C G v I)(h:e7 I C)(W:C.ok)(U:C.bp.length<=100000):D E 734 #[.pointer C.addr,j G,j v] I λY R=>∃J O K Q,Y=.tuple #[.slice J (C.ij G v).length O,.slice K (C.eX G v).length Q]/\
   ((0< (C.ij G v).length->∃b,J=(ak b))/\(0< (C.eX G v).length->∃b,K=(ak b)))/\
   R=own 3 1 J (C.ij G v).length O (flat (C.ij G v))::own 263 1 K (C.eX G v).length Q (flat (C.eX G v))::I:=by
 have:=Cn C G v I h W U;unfold vO at this;rw[KQ]at this;exact this
def UD(b s O G v I j J)(av:e7 J j)(Z:j.ok)(aX:j.bp.length<=1000)(aQ:I.length<=1000000):
  D E 730 #[R b,.pointer j.addr] (ki b s G v I O::J) λax ak=>Made 263 (j.eX G v) (ki b s G v (I++j.ij G v) O::J) ax ak:=by
 have au:=λM h=>Co j G v M h Z C;have aS:(j.ij G v).length<=j.bp.length:=Z.UJ;refine D.z0 λay aC aH aK aO=> ?_;generalize j.eX G v=ae at*
 generalize j.ij G v=U at*
 have ar:(I++U).length=I.length+U.length:=bP;refine ap λg F=> ?_;refine aL ?_;refine aW (aE [0,1,2,3,4,5,6,7,8] (.e 9 (aE [10,11,12,13,14] .nil))) ?_;iterate 9 refine ai ?_
 refine an (a1 p p p (aw p (au _ (by repeat' first|exact av|apply e7.skip))) ?_);rintro _ _ ⟨aA,aG,W,Y,rfl,⟨am,ao⟩,rfl⟩;refine cM ?_;refine K ?_;refine GE (bx p p aI ((by repeat' first|exact aM.own (bU _) am|apply aM.skip)) ((cO _)) aZ Q ah ah) ?_;rintro _ _ ⟨ag,al,rfl,aP,aV,aY,rfl⟩;refine K ?_;refine af ?_;refine aj (C:=own 263 1 W ae.length Y (flat ae)::ki b s G v (I++U) O::J) p (.tmp p .nil) ?_ ⟨W,Y,rfl,ao,rfl⟩;apply bR;focus ((repeat' first|exact aN.here|apply aN.skip|apply aN.bE);done)
 apply bR;focus ((repeat' first|exact aN.here|apply aN.skip|apply aN.bE);done)
 refine pw (D:=al) (C:=ag) (by simp_all) ?_;rw[ar,fI];exact aq
def UC(b s G v J O I)(R:O.length<=1000000):(Lv b s G v J O I).Good I where
 pq:=inferInstanceAs (b4 E 730)
 qe:=λM C D Q j=>UD b s J G v D C M (j.1.1.mono Q) j.1.2.1 j.1.2.2 j.2
 next:=λl C D K h=>h.next
 stop:=λD K h=>by rw[h.rest];rfl
 cap:=λl D K h=>⟨by
  have:=sv (j:=G) (v:=v) λC j=>(h.ok C j).2.2.1;have:=h.rest;have:=h.small;omega,λC j=>⟨⟨⟨(h.ok C j).1,(h.ok C j).2.1,(h.ok C j).2.2.2⟩,h.len R⟩,(C.MP G v).2.1⟩⟩
def hR(b:Nat)(j v:Int)(I:List Int)(C:aG)(E D:Nat):aO:=λh=>∃y:Nat×List av×List Int,jh j v I C y.2.1 y.2.2 E/\G [ki b y.1 j v y.2.2 D,ba y.1 65536 y.2.1] h
def D.hR{K:Program}{O:FuncId}{args:Array Value}{J C:aG}{b G E:Nat}{j v:Int}{I:List Int}{post:Value->List aO->Prop}
  (W:∀s l Q,jh j v I C l Q G->D K O args (ki b s j v Q E::ba s 65536 l::J) post):D K O args (hR b j v I C G E::J) post:=
 D.open (ι:=Nat×List av×List Int) (E:=λy=>jh j v I C y.2.1 y.2.2 G) (J:=λy=>[ki b y.1 j v y.2.2 E,ba y.1 65536 y.2.1]) (λ_ h=>h) λy R=>W y.1 y.2.1 y.2.2 R
def uk{D M E b s J I C v K l j}(Q:jh C v K E l j J)(O:∀h,G D h->G (ki b s C v j I::ba s 65536 l::M) h):∀h,G D h->G (hR b C v K E J I::M) h:=λh R=>
 G.fold (N:=[_,_]) (λh q=>⟨(s,l,j),Q,q⟩) (O h R)
def UB(Y I aC G v J)(h:lb J Y I aC)(o:I.ok)(ax:I.bp.length<=1000):
  D E 440 #[R Y,j G,j v] J λaG ag=>∃Q,aG=(R Q)/\ag=hR Q G v (I.iG G v) J (I.gf G v) 0::J:=by
 refine ap λg F=> ?_;refine GE (aw p (pb _)) ?_;rintro _ _ ⟨s,rfl,rfl⟩;refine K ?_;refine a9 (Uu h.skip.skip) ?_;refine aL ?_;cases I with
 |nil=>
  refine K ?_;refine aS λO=> ?_;refine af ?_;refine b5 (own.nil_ 3 1) ?_;have ao:av.nil.iG G v=[]:=by unfold av.iG;split<;>rfl
  have aH:av.nil.gf G v=0:=by unfold av.gf;split<;>rfl
  have U:jh G v (av.nil.iG G v) J [] [] (av.nil.gf G v):=⟨by assumption,C,(λ_ h=>by grind),by rw[ao];rfl⟩;refine aj (C:=hR O G v (av.nil.iG G v) J (av.nil.gf G v) 0::J) p (.tmp p .nil) ?_ ⟨O,rfl,rfl⟩;apply bR;focus ((repeat' first|exact aN.here|apply aN.skip|apply aN.bE);done)
  refine uk (s:=s) U ?_;refine pw (D:=0) (C:=none) (λh=>absurd h (dc 0)) ?_;exact aq
 |node b mid Z Q aE W am q aA ay au=>
  have U:=jh.start (u:=G) (v:=v) h.i o ax p;generalize ar:av.node b mid Z Q aE W am q aA ay au=I at*
  have aK:I.addr=(ak b):=by rw[<- ar];rfl
  refine aF ?_;refine cD p (by simp_all) ?_;refine K ?_;refine aU λal=> ?_;refine bw p (D.pick aI (rO s (ak al) 1 1 [] [I] _ (by repeat' first|exact aM.ae p|apply aM.skip) bs)) ?_;refine bD ?_;iterate 4 refine ad ?_
  refine aU λO=> ?_;refine ad ?_;refine af ?_;refine b5 (own.nil_ 3 1) ?_;refine aj (C:=hR O G v (I.iG G v) J (I.gf G v) 0::J) p (.tmp p .nil) ?_ ⟨O,rfl,rfl⟩;apply bR;focus ((repeat' first|exact aN.here|apply aN.skip|apply aN.bE);done)
  refine uk (s:=s) U ?_;refine pw (D:=0) (C:=none) (λh=>absurd h (dc 0)) ?_;exact aq
def UA(b I J Q v W U O n)(aA:∀h,G O h->G U h)(aC:W.length<=1000000)(aX:J<=1000000000):
  D E 726 #[R b,j n] (hR b Q v W U I J::O) λaE am=>aE=.tuple #[j (min n.toNat I:Nat),.bool (decide (I-min n.toNat I=0))]/\am=hR b Q v W U (I-min n.toNat I) (J+min n.toNat I)::O:=by
 refine D.hR λs l Z ag=> ?_;have aY:=ag.small;refine bH λg F=> ?_;refine aJ ?_;iterate 2 refine ad ?_
 refine bD ?_;iterate 2 refine ad ?_
 refine dG ?_;refine b5 (j:=ki b s Q v Z J::ba s 65536 l::F::O) aq ?_;refine Cd λaG ao au aO aQ=> ?_;refine aJ ?_;iterate 5 refine ad ?_
 refine aD (sb p) ?_;iterate 2 refine ad ?_
 refine GE (aw p (D.pre (M:=ba s 65536 l::ki b s Q v Z J::F::O) (by(repeat first|exact bo|apply pw (D:=ao) au|refine b7 ?_)<;>fail) (rR (Lv b s Q v J W U) s n.toNat I l Z (F::O) U (UC b s Q v J W U aC) (λh ae=>aA h ae.tail) ag C))) ?_;rintro _ _ ⟨Y,al,rfl,ay,rfl⟩;iterate 5 refine ad ?_
 refine bD ?_;iterate 2 refine ad ?_
 refine dG ?_;refine b5 (j:=ki b s Q v al J::ba s 65536 Y::F::O) (λ_ ae=>ae.swap) ?_;refine Cd λaH ap av aP aS=> ?_;refine aJ ?_;iterate 8 refine ad ?_
 refine cF ?_;refine aL ?_;refine b5 (j:=ki b s Q v al (J+min n.toNat I)::ba s 65536 Y::F::O) (by(repeat first|exact bo|apply pw (D:=ap) av|refine b7 ?_)<;>fail) ?_;have ak:=ay;refine Cd λaK ar ax aV aW=> ?_;refine K ?_;refine a9 (D.pick aI (m5 s Y _)) ?_;refine af ?_;rw[decide_eq_decide.2 ak.done];refine aj (C:=hR b Q v W U (I-min n.toNat I) (J+min n.toNat I)::O) p (.tmp p (.tmp p .nil)) ?_ ⟨rfl,rfl⟩;apply bR;focus ((repeat' first|exact aN.here|apply aN.skip|apply aN.bE);done)
 refine uk (s:=s) ak ?_;exact(by(repeat first|exact bo|apply pw (D:=ar) ax|refine b7 ?_)<;>fail)
def Uz(b K O v C I G):D E 725 #[R b] (hR b O v C I 0 K::G) λZ Q=>Z=j (C.length:Nat)/\Q=hR b O v C I 0 K::G:=by
 refine D.hR λs l am Y=> ?_;obtain⟨ag,J⟩:=Y.end_;refine D.z0 λae U W ak al=> ?_;rw[<- J];refine ap λg F=> ?_;refine af ?_;refine aj rfl (.tmp p .nil) ?_ ⟨rfl,rfl⟩;apply bR;focus ((repeat' first|exact aN.here|apply aN.skip|apply aN.bE);done)
 refine uk (s:=s) (by rw[J];omega) ?_;exact(by(repeat first|exact bo|apply pw (D:=U) W|refine b7 ?_)<;>fail)
def Ux(b j I K v J G C):D E 723 #[R b] (hR b K v J G j I::C) λY Q=>Y=.bool (decide (j=0))/\Q=hR b K v J G j I::C:=by
 refine D.hR λs l ak O=> ?_;refine D.z0 λZ U W ae ag=> ?_;refine ap λg F=> ?_;refine br p p p p ?_;refine a9 (D.pick aI (m5 s l _)) ?_;refine af ?_;rw[decide_eq_decide.2 O.done];refine aj (C:=hR b K v J G j I::C) p (.tmp p .nil) ?_ ⟨rfl,rfl⟩;apply bR;focus ((repeat' first|exact aN.here|apply aN.skip|apply aN.bE);done)
 refine uk (s:=s) O ?_;exact(by(repeat first|exact bo|apply pw (D:=U) W|refine b7 ?_)<;>fail)
def Uy(b W Y v j U Q)(aA:j.length<=100000):D E 724 #[R b] (hR b Y v j U 0 W::Q) λax ag=>
  ∃J G,ax=.slice J j.length G/\((0<j.length->∃b,J=(ak b))/\j.length<=G/\G<=maxLen)/\ag=own 3 1 J j.length G (flat (bj j))::hR b Y v j U 0 W::Q:=by
 refine D.hR λs l I ae=> ?_;obtain⟨ay,am⟩:=ae.end_;refine D.z0 λK O Z aC aE=> ?_;subst am;have ao:∀M:List aO,Rd (own 3 1 K _ O _::M) K _ I:=λM=>aM.own (bU _) Z;refine ap λg F=> ?_;refine GE (aw p (yI K I.length O _)) ?_;rintro _ _ ⟨al,rfl,rfl⟩;refine GE (aw p (D.pick aI (yH al K I.length O I _ (by repeat' first|exact ao _|apply Rd.skip) C))) ?_;rintro _ _ ⟨J,G,rfl,⟨ar,au,av⟩,rfl⟩;refine ad ?_;refine af ?_;refine aj (C:=own 3 1 J I.length G (flat (bj I))::hR b Y v I U 0 W::Q) p (.tmp p .nil) ?_ ⟨J,G,rfl,⟨ar,au,av⟩,rfl⟩;apply bR;focus ((repeat' first|exact aN.here|apply aN.skip|apply aN.bE);done)
 apply bR;focus ((repeat' first|exact aN.here|apply aN.skip|apply aN.bE);done)
 refine uk (s:=s) ae ?_;exact(by(repeat first|exact bo|apply pw (D:=O) Z|refine b7 ?_)<;>fail)
end S.en
end
end Go.Proofs.YtioamnghkmcbbaaGreat
