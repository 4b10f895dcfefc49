/- TopWhole: a part of its proof. -/
import Derived.Test.YteinodmjohkmmaaGreatMA3
import Derived.Test.YteinodmjohkmmaaGreatMS
set_option linter.all false
set_option maxRecDepth 100000
set_option maxHeartbeats 4000000
open Bool renaming false->al,true->ag
open Go renaming Addr->cg,FuncId->dc,Program->bk,TypeId->bq,Value->a2
open Go.Op renaming equal->eo
open Go.Result renaming andThen_ok->dG
open Go.Sem renaming run_bind->cM
open List renaming append_nil->dC,countP_le_length->qi,eq_nil_of_length_eq_zero->gX,erase_append_left->Lb,erase_append_right->EW,erase_sublist->Lc,filter_cons->tM,getElem?_eq_getElem->b8,length->aa,length_append->b4,length_cons->f0,length_erase_of_mem->vA,length_filter_le->kj,length_map->jM,length_mergeSort->ky,length_singleton->hg,length_take->oE,map_append->ez,map_map->yi,mem_append->b9,mem_cons->df,mem_cons_of_mem->gn,mem_cons_self->ll,mem_filter->ii,mem_flatMap->kz,mem_of_mem_erase->q3,nodup_append->tN,perm_append_comm->ep,perm_middle->fA,sum_append->LF,take_add_one->A3,take_of_length_le->lR
open List.cons renaming injEq->so
open Nat renaming le_refl->bC,zero_le->bO
open Option renaming none->af,some->ab
open Go.RowKit
namespace Go.Proofs.YteinodmjohkmmaaGreat
noncomputable section
namespace S.eT
def _root_.Go.Proofs.YteinodmjohkmmaaGreat.aj.flip(s:aj):aj:=⟨s.id,s.y,s.x⟩
def _root_.Go.Proofs.YteinodmjohkmmaaGreat.aj.ends(s j:aj):Bool:=s.flip.less j.flip
def ow:fl aj.ends:=⟨λD=>aj.pY _,λh j=>aj.tc h j,λ{D q} h j=>aj.tb (λC=>h (by
 rw[aj.CJ]at*
 simp[aj.flip]at C;omega)) j⟩
inductive aE where
 |nil
 |node (b:Nat) (mid:Int) (A:a3) (c:Nat) (H:List aj) (j:a3) (C:Nat) (q:List aj) (n:Nat) (E D:aE)
def aE.Z:aE->Option cg
 | .nil=>af
 | .node b _ _ _ _ _ _ _ _ _ _=>(U b)
def aE.bU:aE->List aj
 | .nil=>[]
 | .node _ _ _ _ D _ _ _ _ C j=>D++(C.bU++j.bU)
def aE.size:aE->Nat
 | .nil=>0
 | .node _ _ _ _ _ _ _ _ n _ _=>n
def aE.pe(mid:Int)(j q:List aj)(D C:List aj):Prop:=
 d0 aj.less j/\q=bw aj.ends j/\(∀s∈j,s.x<=mid/\mid<=s.y)/\(∀s∈D,s.y<mid)/\(∀s∈C,mid<s.x)
def aE.ok:aE->Prop
 | .nil=>True
 | .node _ mid _ _ D _ _ q n C j=>aE.pe mid D q C.bU j.bU/\n=aa D+C.size+j.size/\max C.size j.size<=3*n/4/\0<n/\C.ok/\j.ok
theorem aE.ok.size:∀{j:aE},j.ok->j.size=aa j.bU
 | .nil,_=>rfl
 | .node _ mid _ _ E _ _ q n D C,⟨_,h,_,_,h1,ae⟩=>by
  simp only[aE.size,aE.bU,b4];rw[<- h1.size,<- ae.size];omega
def aE.ok.fair:∀{C:aE},C.ok->∀s∈C.bU,s.x<=s.y
 | .nil,_,s,j=>by trivial
 | .node _ mid _ _ H _ _ q n E D,⟨h,_,_,_,h1,ae⟩,s,j=>by
  simp[aE.bU,b9]at j;rcases j with j|j|j
  .have:=h.2.2.1 s j;omega
  .exact h1.fair s j
  .exact ae.fair s j
theorem aE.ok.nodup:∀{C:aE},C.ok->C.bU.Nodup
 | .nil,_=> .nil
 | .node _ mid _ _ Y _ _ q n W U,⟨h,_,_,_,h1,ae⟩=>by
  obtain⟨H,Q,R,I,J⟩:=h;apply tN.2 ⟨H.nodup hu,tN.2 ⟨h1.nodup,ae.nodup,λs j O E D=>?_⟩,λs j O E D=>?_⟩
  .subst D;have:=I s j;have:=J s E;have:=h1.fair s j;omega
  grind
def aE.has(s:aj):aE->Bool
 | .nil=>al
 | .node _ mid _ _ D _ _ _ _ C j=>if s.y<mid then C.has s else if mid<s.x then j.has s else decide (s∈D)
theorem aE.ok.has{s}(C:s.x<=s.y):∀{j:aE},j.ok->(j.has s=ag<->s∈j.bU)
 | .nil,_=>by simp[aE.has,aE.bU]
 | .node _ mid _ _ W _ _ q n U R,⟨h,_,_,_,h1,ae⟩=>by
  obtain⟨E,H,I,J,O⟩:=h;simp[aE.has,aE.bU];split
  .rename_i D
   rw[h1.has C];grind
  .split
   .rename_i D Q
    rw[ae.has C];grind
   grind
def aE.E(C v mid:Int)(j q:List aj):List aj:=if v<mid then j.filter (λs=>decide (s.x<=v))else if mid<C then q.filter (λs=>decide (C<=s.y))else j
def aE.found(j v:Int):aE->List aj
 | .nil=>[]
 | .node _ mid _ _ H _ _ q _ D C=>aE.E j v mid H q++((if j<mid then D.found j v else[])++(if mid<v then C.found j v else[]))
def aE.seen(j v:Int):aE->Nat
 | .nil=>0
 | .node _ mid _ _ _ _ _ _ _ D C=>1+((if j<mid then D.seen j v else 0)+(if mid<v then C.seen j v else 0))
def fB(l:List aj):List Int:=l.flatMap λs=>[s.x,s.y]
theorem sX:∀l:List aj,aa (fB l)=2*aa l
 | []=>rfl
 |a::l=>by
  have:=sX l;grind[fB,List.length_nil]
theorem OC(v):∀l:List aj,(∀s∈l,s.x<=s.y)->2*aa (l.filter λs=>decide (s.y<v))<=aa (el dq v (fB l))
 | [],_=>bC _
 |a::l,h=>by
  have C:=OC v l λs j=>h s (gn _ j);unfold el dq fB at*
  grind
theorem OB(v):∀l:List aj,(∀s∈l,s.x<=s.y)->2*aa (l.filter λs=>decide (v<s.x))<=aa (fp dq v (fB l))
 | [],_=>bC _
 |a::l,h=>by
  have C:=OB v l λs j=>h s (gn _ j);unfold fp dq fB at*
  grind
def Rj{l v}(j:∀s∈l,s.x<=s.y)(h:(bw dq (fB l))[aa l]?=ab v):2*aa (l.filter λs=>decide (s.y<v))<=aa l/\2*aa (l.filter λs=>decide (v<s.x))<=aa l:=by
 have h1:=xj sd h;have ae:=Ib sd h;grind[OC,OB,sX]
instance:d3 (Option cg):=⟨1,λa=>[.pointer a],λ_=>rfl,λ_ v h=>by simp at h;subst h;rfl⟩
def _root_.Go.Proofs.YteinodmjohkmmaaGreat.a5.qP{A N j a v}(D:∀h,A h->C N h)(l:a5 N a v):a5 (A::j) a v:=⟨λh s=>by
 let⟨h1,ae,I,E,J,H,O⟩:=s;exact iR.sub (l.1 _ (D _ H)) E⟩
def _root_.Go.Proofs.YteinodmjohkmmaaGreat.aU.qP{A N D b o n j}(E:∀h,A h->C N h)(l:aU N b o n j):aU (A::D) b o n j:=⟨l.1,λI v H=>(l.2 I v H).qP E⟩
def _root_.Go.Proofs.YteinodmjohkmmaaGreat.bf.R3{D j I E n A H}(O:∀h,D h->C j h)(h:bf j E A n H):bf (D::I) E A n H:=
 ⟨h.1,λR=>let⟨b,o,J,W⟩:=h.2 R;⟨b,o,J,λU v Q=>(W U v Q).qP O⟩⟩
@[reducible] def pU (mid:Int) (A:a3) (I c:Nat) (C:a3) (J H:Nat) (E D:a3) (n:Nat):List Value:=[j mid,.slice A I c,.slice C J H,.pointer E,.pointer D,j (n:Nat)]
structure px (A:a3) (n c:Nat):Prop where
 a:0<n->∃b,A=(U b)
 le:n<=c
 cap:c<=maxLen
def aE.fit:aE->Prop
 | .nil=>True
 | .node b mid A c H j C q n E D=>(px A (aa H) c/\px j (aa q) C)/\E.fit/\D.fit
def fr:aE->aG
 | .nil=>λ_=>True
 | .node b mid A c j D H q n O I=>λh=>C [ah b 419 (pU mid A (aa j) c D (aa q) H O.Z I.Z n),E 44 3 A (aa j) c (J j),E 44 3 D (aa q) H (J q),fr O,fr I] h
def fa(j:Q):aE->Prop
 | .nil=>True
 | .node b mid A c C D E q n I H=>(px A (aa C) c/\px D (aa q) E)/\aU j b 0 6 (pU mid A (aa C) c D (aa q) E I.Z H.Z n)/\Rd j A (aa C) C/\Rd j D (aa q) q/\fa j I/\fa j H
def fa.mono{L M:Q}(f:aS M L):∀{j},fa L j->fa M j
 | .nil,_=>trivial
 | .node b mid A c I C D q n H E,h=>⟨h.1,h.2.1.mono f,h.2.2.1.mono f,h.2.2.2.1.mono f,h.2.2.2.2.1.mono f,h.2.2.2.2.2.mono f⟩
theorem fa.ap{D j C}(h:fa j C):fa (D::j) C:=h.mono λ_ s=>s.tail
def fa.qP{A}{N D:Q}(f:∀h,A h->C N h):∀{j},fa N j->fa (A::D) j
 | .nil,_=>trivial
 | .node b mid A c O E H q n J I,h=>⟨h.1,h.2.1.qP f,bf.R3 f h.2.2.1,bf.R3 f h.2.2.2.1,h.2.2.2.2.1.qP f,h.2.2.2.2.2.qP f⟩
def rI:∀(I)(R:Q),I.fit->fa (fr I::R) I
 | .nil,_,_=>trivial
 | .node b mid A c H O U q n D C,R,j=>fa.qP (N:=[ah b 419 (pU mid A (aa H) c O (aa q) U D.Z C.Z n),E 44 3 A (aa H) c (J H),E 44 3 O (aa q) U (J q),fr D,fr C]) (λ_ h=>h)
  ⟨j.1,aU.ah p,Rd.ap (bf.E (ck _) j.1.1.a),Rd.ap (Rd.ap (bf.E (ck _) j.1.2.a)),(rI D _ j.2.1).ap.ap.ap,(rI C [] j.2.2).ap.ap.ap.ap⟩
section
variable{P:bk}{B:Exit->Act->World->Prop}{g:d1}{n:Nat}{K:List fj}{H:cU}{L M:Q}{b:Nat}{mid:Int}{A R:a3}{c:Nat}{ai:List aj}{d:Nat}{q:List aj}{m:Nat}{lo hi:aE}
def uB(b:Nat)(mid:Int)(A:a3)(c:Nat)(ai:List aj)(R:a3)(d:Nat)(q:List aj)(m:Nat)(lo hi:aE):List aG:=[ah b 419 (pU mid A (aa ai) c R (aa q) d lo.Z hi.Z m),E 44 3 A (aa ai) c (J ai),E 44 3 R (aa q) d (J q),fr lo,fr hi]
theorem Cp(j:aS L (uB b mid A c ai R d q m lo hi++M)):aS L (fr (.node b mid A c ai R d q m lo hi)::M):=λh s=>
 C.fold (N:=uB b mid A c ai R d q m lo hi) (λ_ h=>h) (j h s)
def Zk(j:aS L M):aS L (fr .nil::M):=λh s=>
 ⟨λ_=>af,h,λ_=> .inl p,λ_ _ C=>bv,eV.refl _,trivial,j h s⟩
end
structure VS (C:Q) (b:Nat) (mid:Int) (A:a3) (c:Nat) (D:List aj) (R:a3) (E:Nat) (q:List aj) (J:Nat) (I H:aE):Prop where
 ajt:a5 C ⟨b,0+0,af⟩ (j mid)
 uj:a5 C ⟨b,0+1,af⟩ (.slice A D.length c)
 ajx:a5 C ⟨b,0+2,af⟩ (.slice R q.length E)
 O5:a5 C ⟨b,0+3+0*1,af⟩ (.pointer I.Z)
 O4:a5 C ⟨b,0+3+1*1,af⟩ (.pointer H.Z)
 O6:a5 C ⟨b,0+5,af⟩ (j (J:Nat))
 ajI:Rd C A D.length D
 ajJ:Rd C R q.length q
 ajE:px A D.length c
 ajF:px R q.length E
 aa3:fa C I
 aa2:fa C H
theorem fa.f{j b mid A c I R C q H E D}(h:fa j (.node b mid A c I R C q H E D)):VS j b mid A c I R C q H E D:=
 ⟨h.2.1.at_ (i:=0) p,h.2.1.at_ (i:=1) p,h.2.1.at_ (i:=2) p,h.2.1.at_ (i:=3) p,h.2.1.at_ (i:=4) p,h.2.1.at_ (i:=5) p,h.2.2.1,h.2.2.2.1,h.1.1,h.1.2,h.2.2.2.2.1,h.2.2.2.2.2⟩
def aE.bG:aE->List Nat
 | .nil=>[]
 | .node b _ _ _ _ _ _ _ _ C j=>b::(C.bG++j.bG)
def aE.ih:aE->Prop
 | .nil=>True
 | .node _ _ _ _ j _ _ q _ D C=>(d0 aj.less j/\q=bw aj.ends j)/\D.ih/\C.ih
def aE.ok.ih:∀{j:aE},j.ok->j.ih
 | .nil,_=>trivial
 | .node _ _ _ _ _ _ _ _ _ D C,h=>⟨⟨h.1.1,h.1.2.1⟩,h.2.2.2.2.1.ih,h.2.2.2.2.2.ih⟩
structure aE.sC (j:aE):Prop where
 fit:j.fit
 ih:j.ih
 h8:j.bU.length<=1000
def hH(j:List aE):aG:=λh=>(∀D∈j,D.sC)/\C (j.map fr) h
def iC(C:aE)(j:List aE)(a:Nat):Prop:=a∈C.bG\/∃D∈j,a∈D.bG
def On{E M:Q}{j D}(O:j.sC)(J:aS E (fr j::hH D::M)):aS E (hH (j::D)::M):=λh s=>
 C.fold (N:=[fr j,hH D]) (λh q=>by
  let⟨h1,ae,H,U,W,a,ah,ai,Z,Y,am,⟨b,c⟩,l⟩:=q;exact⟨λy R=>(df.1 R).elim (λI=>I▸O) (b y),h1,ae,H,U,W,a,c.up Y⟩) (J h s)
theorem wJ{j M:Q}(C:aS j M):aS j (hH []::M):=λh s=>
 ⟨λ_=>af,h,λ_=> .inl p,λ_ _ D=>bv,eV.refl _,⟨λ_ h=>bv,trivial⟩,C h s⟩
def Oo{E M:Q}{j D}(O:aS E (hH j::hH D::M)):aS E (hH (j++D)::M):=λh s=>
 C.fold (N:=[hH j,hH D]) (λh q=>by
  let⟨h1,ae,I,Y,Z,⟨a,H⟩,U,W,J,ah,ai,⟨b,c⟩,l⟩:=q;refine⟨λy R=>(b9.1 R).elim (a y) (b y),?_⟩;rw[ez];have am:C [λh=>C _ h,λh=>C _ h] h:=⟨h1,ae,I,Y,Z,H,U,W,J,ah,ai,c,l⟩;have:=C.part am;exact(C.perm (ep) (by simpa using C.part (C.perm (ep) this)))) (O h s)
def QL{b mid aq A U R W c Y Z ah am ap ar q av ax Q O J D E C}(h1:∀a∈Q.bG,iC J E a)(ai:∀a∈(aE.node b aq U Y av W ah ax ap J O).bG,iC D C a):∀a∈(aE.node b mid A c ar R Z q am Q O).bG,iC D (C++E) a:=λa j=>by
 have up:∀a,iC D C a->iC D (C++E) a:=λa h=>h.imp_right λ⟨I,H,h⟩=>⟨I,b9.2 (.inl H),h⟩;simp[aE.bG,df,b9]at j ai;rcases j with rfl|j|j
 .simp_all
 .rcases h1 a j with h|⟨I,H,h⟩
  .simp_all
  .exact .inr ⟨I,b9.2 (.inr H),h⟩
 simp_all
def QK{b mid aq A U R W c Y Z ah am ap ar q av ax Q O J D E C}(h1:∀a∈O.bG,iC J E a)(ai:∀a∈(aE.node b aq U Y av W ah ax ap Q J).bG,iC D C a):∀a∈(aE.node b mid A c ar R Z q am Q O).bG,iC D (C++E) a:=λa j=>by
 have up:∀a,iC D C a->iC D (C++E) a:=λa h=>h.imp_right λ⟨I,H,h⟩=>⟨I,b9.2 (.inl H),h⟩;simp[aE.bG,df,b9]at j ai;rcases j with rfl|j|j
 .simp_all
 .simp_all
 .rcases h1 a j with h|⟨I,H,h⟩
  .simp_all
  .exact .inr ⟨I,b9.2 (.inr H),h⟩
attribute [local irreducible] C
def iL(A:a3)(c:Nat)(j:List aj):Prop:=(0<aa j->∃b,A=(U b))/\aa j<=c
def gj(l:List aj):List Int:=l.map (·.id)
def je(s:aj):Bool:=l7 s.id&&ew s.x&&ew s.y&&decide (s.x<=s.y)
def Br(s J):aY 507 #[s.v] J (.bool (je s)) J:=by
 refine aD ?_;refine bP λO=>?_;apply a9 (zJ _ _) _;refine h4 p p p (λj=>?y672) (λj=>?n672)
 case' n672=>
  have E:=j;try simp only[jV]at E
  apply ak _;refine ba p (.tmp p .nil) a1 ⟨by simp_all[cs,je],rfl⟩
 case' y672=>
  have E:=j;try simp only[jV]at E
  apply ak _;apply a9 (pw _ _) _;refine h4 p p p (λC=>?y676) (λC=>?n676)
  case' n676=>
   have H:=C;try simp only[jV]at H
   apply ak _;refine ba p (.tmp p .nil) a1 ⟨by simp_all[cs,je],rfl⟩
  case' y676=>
   have H:=C;try simp only[jV]at H
   apply ak _;apply a9 (pw _ _) _;refine h4 p p p (λD=>?y680) (λD=>?n680)
   case' n680=>
    have I:=D;try simp only[jV]at I
    apply ak _;refine ba p (.tmp p .nil) a1 ⟨by simp_all[cs,je],rfl⟩
   case' y680=>
    have I:=D;try simp only[jV]at I
    apply ak _;refine ba p (.tmp p .nil) a1 ⟨by simp_all[cs,je],rfl⟩
def hF(C:Int)(j:List aj)(s:aj):Int:=if je s=al then 1 else if s∈j then 5 else if C<=(aa j:Nat)then 4 else 0
def mL(j:List aj)(s:aj):Int:=if s∈j then 0 else 6
def uy(C:Int)(j:List aj)(s:aj):List aj:=if hF C j s=0 then j++[s]else j
variable{P:bk}{L:Q}{H:cU}{d:Option Nat}{aO T ci:bq}{pos:String}{aT:Array Edge}{a7:Option (Nat×Bool)}{x y:Operand}
end S.eT
namespace S.eT
attribute [local irreducible] C bh b6
def w9(C D)(h:fa D C):aY 249 #[.pointer C.Z] D (j (C.size:Nat)) D:=by
 cases C with
 |nil=>
  refine bt ?_;exact c8
 |node b mid A c O R E q J I H=>
  obtain⟨aF,aM,Y,ah,ai,am,ap,aq,ar,Q,U,W⟩:=h.f;refine bt ?_;exact c8
def iI(mid:Int)(s:aj):Int:=if s.y<mid then 0 else if mid<s.x then 1 else-1
def r9(b mid s C)(h:a5 C ⟨b,0+0,af⟩ (j mid)):aY 327 #[I b,s.v] C (j (iI mid s)) C:=by
 unfold iI;refine aD ?_;refine bg λH=>?_;refine c0 p (λD=>?_) (λD=>?_)
 .rw[bJ D];exact fG
 .rw[a8 D];apply ak _;refine c0 p (λE=>?_) (λE=>?_)
  .rw[bJ E];exact fG
  .rw[a8 E];exact fG
def CW(b mid A c J R H q E D C j)(h:fa j (.node b mid A c J R H q E D C))(U:E<=100000):
  aY 332 #[I b] j (.bool (decide (3*E/4<max D.size C.size))) j:=by
 obtain⟨aF,aM,Y,Z,ah,ai,am,aq,ar,W,O,Q⟩:=h.f;refine bt ?_;refine pn (bE [0,1,2,3,4,6,7,8,9,10,13,14,15,16,17,18] (.e 5 (.e 11 (.q 12 (.q 19 (.q 20 .nil)))))) ?_;apply dM (w9 D _ O.ap) _;apply dM (w9 C _ Q.ap) _;apply eO _;exact⟨congrArg Value.bool (by rw[decide_eq_decide];omega),rfl⟩
def o0(a b:Int):Int:=if a<b then-1 else if b<a then 1 else 0
def Fb(a b E):aY 43 #[j a,j b] E (j (o0 a b)) E:=by
 unfold o0;refine aD ?_;refine dQ (Hi a _) ?_;apply a9 (Hi b _) _;refine c0 p (λC=>?_) (λC=>?_)
 .rw[bJ C];exact fG
 .rw[a8 C];apply ak _;refine c0 p (λD=>?_) (λD=>?_)
  .rw[bJ D];exact fG
  .rw[a8 D];exact fG
def rY:List Int->Int
 | []=>0
 |x::l=>if x≠0 then x else rY l
def Wu(A n c l E)(O:Rd E A n l)(ap:n<=1000000):aY 424 #[.slice A n c] E (j (rY l)) E:=by
 have h1:=O.len bL;refine bt λ{g F}=>?_;refine cL (λC=>[(3,.int _ 0),(6,.slice A n c),(7,.int _ _),(8,.int _ (C:Nat))]) (λ_=>F::E) (λC=>C<=n/\rY l=rY (l.drop C)) (λC=>n-C) 0 ⟨bO _,rfl⟩ aZ a1 ?_;rintro C ⟨am,D⟩;apply ak _;refine c0 p (λQ=>?_) (λQ=>?_)
 .obtain⟨ai,aq,rfl,Z⟩:=O.at_ ad;have Y:l[C]?=ab l[C]:=b8 ad;have ah:=(Z _ _ Y).at_ (i:=0) p;have U:l.drop C=l[C]::l.drop (C+1):=List.drop_eq_getElem_cons ad;rw[U]at D;generalize l[C]=J at*
  have ar:=ah;have W:∀I,rY (J::I)=if J≠0 then J else rY I:=λI=>rfl
  rw[W]at D;apply ak _;refine c0 p (λH=>?_) (λH=>?_)
  .rw[bJ H]at D;apply dk _;exact⟨by rw[D];rfl,rfl⟩
  .rw[a8 H]at D;apply ak _;exact b7 (C+1) ⟨ad,D⟩ ad aZ a1
 .have R:l.drop C=[]:=List.drop_of_length_le ad;rw[R]at D;apply dk _;exact⟨by rw[D];rfl,rfl⟩
def Vr(s C:aj)(D):aY 374 #[s.v,C.v] D (j (rY [o0 s.y C.y,o0 s.x C.x,o0 s.id C.id])) D:=by
 refine aD ?_;refine bd λH=>?_;apply bg λI=>?_;apply fK (bE [0,1,2,3,5,6,7,8,10,11,12,13] (.e 4 (.e 9 (.e 14 (.e 15 (.e 16 (.q 17 .nil))))))) _;apply dM (Fb s.y C.y _) _;apply dM (Fb s.x C.x _) _;apply dM (Fb s.id C.id _) _;apply h5 λE=>?_;refine dM (Wu (U E) 3 3 [o0 s.y C.y,o0 s.x C.x,o0 s.id C.id] _ cX ao) ?_;exact c8
def Zz(s j):decide (rY [o0 s.y j.y,o0 s.x j.x,o0 s.id j.id]<0)=aj.ends s j:=by
 have C:(aj.ends s j=ag)<->(s.y<j.y\/s.y=j.y/\(s.x<j.x\/s.x=j.x/\s.id<j.id)):=by
  unfold aj.ends;rw[aj.ta];rfl
 rw[Bool.eq_iff_iff,C,decide_eq_true_iff];grind[rY,o0]
def Gz:m7 331 aj.ends:=⟨λs j C=>by
 refine aD ?_;refine bd λD=>?_;apply bP λE=>?_;apply a9 (Vr s j _) _;refine ba p (.tmp p .nil) a1 ⟨congrArg Value.bool (Zz s j),rfl⟩⟩
def rN:m7 252 aj.less:=⟨λs C j=>rM s C j⟩
def XH:m7 729 (λs j=>decide (s.x<j.x)):=⟨λs j C=>by
 refine aD ?_;refine bd λD=>?_;apply bg λE=>?_;exact c8⟩
def NV:m7 731 (λs j=>decide (s.y<j.y)):=⟨λs j C=>by
 refine aD ?_;refine bd λD=>?_;apply bg λE=>?_;exact c8⟩
def acm{s j:aj}(h:s.less j=ag):s.x<=j.x:=by rw[aj.ta]at h;omega
def ZA{s j}(h:aj.ends j s=al):s.y<=j.y:=by
 have: ¬(aj.ends j s=ag):=bo;unfold aj.ends at this;rw[aj.ta]at this;simp[aj.flip]at this;omega
def aeq(b mid A c C R Z q aV aT aO D v Q)(h:fa Q (.node b mid A c C R Z q aV aT aO))(aQ:d0 aj.less C)(ai:q=bw aj.ends C)(aP:aa C<=1000000):
  Y 728 #[I b,j D,j v] Q λaY aA=>(∃aq ax aB,aY=.slice aq ax aB/\Rd Q aq ax (aE.E D v mid C q))/\aA=Q:=by
 let⟨aF,aM,a4,a7,a9,bb,az,aW,aX,ap,a0,a3⟩:=h.f;have aZ:aa q=aa C:=by rw[ai,gV]
 refine bt ?_;refine c0 p (λaD=>?_) (λaD=>?_)
 .have J:aE.E D v mid C q=C.filter (λs=>decide (s.x<=v)):=by simp_all[aE.E,bJ]
  have O:C.Pairwise (λa b=>decide (b.x<=v)=ag->decide (a.x<=v)=ag):=aQ.imp λah=>by
   have:=acm ah;grind
  have H:C.countP (λs=>decide (s.x<=v))<=aa C:=qi;have am:=zs _ C O;have aL:=o9 _ C O;rw[J,<- am];generalize C.countP (λs=>decide (s.x<=v))=W at*
  apply ak _;refine dM (Vc XH A (aa C) c W C ⟨0,v,0⟩ _ cX aP H (λav a ar=>by grind)) ?_;refine eh p (kH p p (by have:=aX.le;omega)) ?_;apply dk _;exact⟨⟨_,_,_,rfl,az.take H⟩,rfl⟩
 .apply ak _;refine c0 p (λaG=>?_) (λaG=>?_)
  .have J:aE.E D v mid C q=q.filter (λs=>decide (D<=s.y)):=by simp_all[aE.E,a8,bJ]
   have aR:gM aj.ends q:=by rw[ai];exact ov ow C
   have O:q.Pairwise (λa b=>decide (b.y<D)=ag->decide (a.y<D)=ag):=aR.imp λah=>by
    have:=ZA ah;grind
   have H:q.countP (λs=>decide (s.y<D))<=aa q:=qi;have am:=GK _ q O;have aL:=o9 _ q O;have aJ:q.filter (λs=>decide (D<=s.y))=q.filter (λs=>!decide (s.y<D)):=List.filter_congr λs _=>by
    grind
   rw[J,aJ,<- am];generalize q.countP (λs=>decide (s.y<D))=W at*
   by_cases aK:0<aa q
   .obtain⟨aH,rfl⟩:=ap.a aK;apply ak _;refine dM (L6 NV (U aH) (aa q) Z W q ⟨0,0,D⟩ _ cX ad H (λav a ar=>by grind)) ?_;refine eh p (iW p p H ap.le) ?_;apply dk _;exact⟨⟨_,_,_,rfl,aW.drop H ap.le⟩,rfl⟩
   .have aI:q=[]:=gX ad;have aS:W=0:=ad;clear ai;subst aI aS;apply ak _;refine dM (L6 NV R 0 Z 0 [] ⟨0,0,D⟩ _ cX ao (bC _) (λav a ar=>by trivial)) ?_;refine eh p (wQ (l:=0) (h:=0) p (.inr ⟨_,_,rfl,rfl⟩) (.inl bD) (bC _) (bO _)) ?_;apply dk _;exact⟨⟨_,_,_,rfl,Rd.nil _ _⟩,rfl⟩
  .have J:aE.E D v mid C q=C:=by simp_all[aE.E,a8]
   rw[J];apply dk _;exact⟨⟨_,_,_,rfl,az⟩,rfl⟩
def iQ(C:List (Option cg×Nat×List aj)):List aj:=C.flatMap λj=>j.2.2
def B4(j C):aa (iQ (j.take C))<=aa (iQ j):=by grind[List.take_append_drop,iQ,b4]
def NL{C:List (Option cg×Nat×List aj)}{j D}(h:C[j]?=ab D):iQ (C.take (j+1))=iQ (C.take j)++D.2.2:=by simp_all[iQ,A3]
def Vh(R H D Q)(aM:aa D=H)(aJ:H<=1000)(aq:∀C O,D[C]?=ab O->a5 Q ⟨R,0+C*1,af⟩ (.slice O.1 O.2.2.length O.2.1)/\Rd Q O.1 O.2.2.length O.2.2)(aQ:aa (iQ D)<=500000):
  Y 372 #[.slice (U R) H H] Q λv az=>Made 44 (iQ D) Q v az:=by
 refine aD λ{g F}=>?_;apply cc;apply fV _;apply ef (ι:=Unit) (λ_=>[(0,.slice (U R) H H),(3,j (aa (iQ D):Nat))]) (λ_=>F::Q) (λ_=>True) _ _
 .apply bs _;apply cL (ι:=Nat) (λC=>[(0,.slice (U R) H H),(3,j (aa (iQ (D.take C)):Nat)),(9,.slice (U R) H H),(10,j (H:Nat)),(11,j (C:Nat))]) (λ_=>F::Q) (λC=>C<=H) (λC=>H-C) 0 (bO _) aZ a1;intro C aL;have aG:=B4 D C;apply ak _;refine c0 p (λah=>?_) (λah=>?_)
  .have Z:D[C]?=ab D[C]:=b8 ad;let⟨aH,aI⟩:=aq C _ Z;have W:=NL Z;have ap:=B4 D (C+1);rw[W,b4]at ap;generalize D[C]=O at*
   apply ak _;exact b7 (C+1) ad ad ⟨rfl,by rw[W,b4];rfl,rfl,rfl,rfl,trivial⟩ a1
  .have ai:D.take C=D:=lR ad;rw[ai];apply bs _;exact cC () trivial aZ a1
 .rintro _ _;apply aC _;refine aP (Fo (aa (iQ D)) _ ad) ?_;rintro _ _ ⟨av,aB,rfl,rfl⟩;apply ak _;apply cL (ι:=Nat×Option cg×Nat) (λI=>[(6,.slice I.2.1 (aa (iQ (D.take I.1))) I.2.2),(25,.slice (U R) H H),(26,j (H:Nat)),(27,j (I.1:Nat))]) (λI=>E 44 3 I.2.1 (aa (iQ (D.take I.1))) I.2.2 (J (iQ (D.take I.1)))::F::Q) (λI=>I.1<=H/\(0<aa (iQ (D.take I.1))->∃b,I.2.1=(U b))) (λI=>H-I.1) (0,av,aB) ⟨bO _,db⟩ aZ a1;rintro⟨C,ar,aA⟩ ⟨aF,am⟩;simp only at aF am;dsimp only;have aG:=B4 D C;apply ak _;refine c0 p (λah=>?_) (λah=>?_)
  .have Z:D[C]?=ab D[C]:=b8 ad;let⟨aH,aI⟩:=aq C _ Z;have W:=NL Z;have ap:=B4 D (C+1);rw[W,b4]at ap;generalize D[C]=O at*
   apply aC _;apply fz λax aE aK aO aS=>?_;refine b7 (C+1,ax,aE) ⟨ad,by simp_all⟩ ad ⟨by rw[W,b4];rfl,rfl,rfl,rfl,trivial⟩ ?_;rw[W,b4,gS];exact au
  .have ai:D.take C=D:=lR ad;rw[ai]at am ⊢;apply ak _;exact aR ⟨ar,aA,rfl,am,rfl⟩
def JK:∀(D)(j),fa j D->aa D.bU<=100000->Y 325 #[.pointer D.Z] j λv aq=>Made 44 D.bU j v aq
 | .nil,j,h,ai=>by
  refine bt ?_;refine ba (C:=E 44 3 af 0 0 []::j) p (.tmp p .nil) ?_ ⟨af,0,rfl,db,rfl⟩;exact λh s=>(E.c7 44 3 h s).swap
 | .node b mid A c W R ax q aG I H,j,h,ai=>by
  simp only[aE.bU,b4]at ai;have aA:=λj h=>JK I j h ad;have aB:=λj h=>JK H j h ad;let⟨aF,aM,aK,aL,aO,aP,aQ,aS,aT,aJ,aH,aI⟩:=h.f;have az:∀J Q O U,iQ [(A,c,W),(J,Q,I.bU),(O,U,H.bU)]=(aE.node b mid A c W R ax q aG I H).bU:=λ_ _ _ _=>by simp[iQ,aE.bU]
  refine aD ?_;refine pn (bE [0,1,2,3,4,5,6,7,8,10,11,12,13,14] (.e 9 (.e 15 (.e 16 (.e 17 (.q 18 .nil)))))) ?_;apply dV (aA _ aH.ap) _;rintro _ _ ⟨J,Q,rfl,h1,rfl⟩;apply cV _;apply dV (aB _ aI.ap.ap) _;rintro _ _ ⟨O,U,rfl,ae,rfl⟩;apply cV _;apply h5 λar=>?_;refine dV (Vh ar 3 [(A,c,W),(J,Q,I.bU),(O,U,H.bU)] _ p ao (λk aV C=>by match k,C with|0,C=> {cases C;exact⟨a5.ah p,cX⟩}|1,C=> {cases C;exact⟨a5.ah p,Rd.ap (Rd.ap (bf.E (ck _) h1))⟩}|2,C=> {cases C;exact⟨a5.ah p,Rd.ap (bf.E (ck _) ae)⟩}|k+3,C=> {simp at C}) (by grind[aE.bU])) ?_;rintro _ _ ⟨am,av,rfl,an,rfl⟩;apply cV _;apply aC _;rw[az]at an ⊢;apply ak _;exact aR ⟨am,av,rfl,an,rfl⟩
def kc(l:List aj):List Int:=l.map (·.id)
theorem G9(l):aa (kc l)=aa l:=jM _
def aa6{l:List aj}{j a}(h:l[j]?=ab a):kc (l.take (j+1))=kc (l.take j)++[a.id]:=by simp_all[kc,A3]
def sF(l:List aE):List (Option cg):=l.map aE.Z
def aE.ids(C v:Int):aE->List Int
 | .nil=>[]
 | .node _ mid _ _ j _ _ q _ H D=>b5 (kc (aE.E C v mid j q))
def aE.rU(C v:Int):aE->List aE
 | .nil=>[]
 | .node _ mid _ _ E _ _ q _ j D=>if C<mid/\j.Z.isSome=ag then[j]else[]
def aE.rV(E v:Int):aE->List aE
 | .nil=>[]
 | .node _ mid _ _ D _ _ q _ C j=>if mid<v/\j.Z.isSome=ag then[j]else[]
def aE.dF(C v:Int)(j:aE):List aE:=j.rU C v++j.rV C v
def ac8(C:aE)(D v E)(h:C.Z=af\/v<D):Y 726 #[.pointer C.Z,j D,j v] E λI H=>I=.tuple #[.slice af 0 0,.slice af 0 0]/\H=E:=by
 cases J:C.Z with
 |none=>
  refine bt ?_;refine ba p (.tmp p (.tmp p .nil)) a1 bD
 |some a=>
  have O:v<D:=by
   simp_all
  refine bt ?_;exact c8
def HU(b mid A c D R ai q am ah W C v ax)(h:fa ax (.node b mid A c D R ai q am ah W))(bz:d0 aj.less D)(aY:q=bw aj.ends D)(aX:aa D<=100000)(ch:C<=v):
  Y 726 #[I b,j C,j v] ax λbG bb=>∃aH aA aJ aI,bG=.tuple #[.slice aH (aa (aE.ids C v (.node b mid A c D R ai q am ah W))) aA,.slice aJ (aa (aE.dF C v (.node b mid A c D R ai q am ah W))) aI]/\
   ((0<aa (aE.ids C v (.node b mid A c D R ai q am ah W))->∃b,aH=(U b))/\(0<aa (aE.dF C v (.node b mid A c D R ai q am ah W))->∃b,aJ=(U b)))/\
   bb=E 3 1 aH (aa (aE.ids C v (.node b mid A c D R ai q am ah W))) aA (J (aE.ids C v (.node b mid A c D R ai q am ah W)))::E 250 1 aJ (aa (aE.dF C v (.node b mid A c D R ai q am ah W))) aI (J (sF (aE.dF C v (.node b mid A c D R ai q am ah W))))::ax:=by
 have bx:=λax h=>aeq b mid A c D R ai q am ah W C v ax h bz aY ad;obtain⟨aF,aM,cl,cm,cn,co,cp,cq,cr,ci,cj,ck⟩:=h.f;have cb:aa (aE.E C v mid D q)<=100000:=by
  have ce:aa q=aa D:=by rw[aY,gV]
  grind[aE.E,Nat.le_trans,kj]
 have bS:aE.rU C v (.node b mid A c D R ai q am ah W)=if C<mid/\ah.Z.isSome=ag then[ah]else[]:=rfl
 have bi:aE.rV C v (.node b mid A c D R ai q am ah W)=if mid<v/\W.Z.isSome=ag then[W]else[]:=rfl
 unfold aE.dF;generalize aE.rU C v (.node b mid A c D R ai q am ah W)=ar at*
 generalize aE.rV C v (.node b mid A c D R ai q am ah W)=aG at*
 have bj:aE.ids C v (.node b mid A c D R ai q am ah W)=b5 (kc (aE.E C v mid D q)):=rfl;rw[bj];refine bt λ{g F}=>?_;apply aP (bx _ h.ap) _;rintro _ _ ⟨⟨a4,aK,bc,rfl,a0⟩,rfl⟩;iterate 2 apply ay _
 apply cc;have b1:aa (aE.E C v mid D q)=aK:=a0.len bL;generalize aE.E C v mid D q=Q at*
 apply fV _;apply ef (ι:=Option cg×Nat) (λH=>[(0,I b),(1,j C),(2,j v),(6,.slice H.1 (aa (kc Q)) H.2),(7,.slice af 0 0)]) (λH=>E 3 1 H.1 (aa (kc Q)) H.2 (J (kc Q))::F::ax) (λH=>0<aa (kc Q)->∃b,H.1=(U b)) _ _
 .apply bs _;apply bp (E.c7 3 1);apply cL (ι:=Nat×Option cg×Nat) (λaq=>[(0,I b),(1,j C),(2,j v),(6,.slice aq.2.1 (aa (kc (Q.take aq.1))) aq.2.2),(7,.slice af 0 0),(20,.slice a4 aK bc),(21,j (aK:Nat)),(22,j (aq.1:Nat))]) (λaq=>E 3 1 aq.2.1 (aa (kc (Q.take aq.1))) aq.2.2 (J (kc (Q.take aq.1)))::F::ax) (λaq=>aq.1<=aK/\(0<aa (kc (Q.take aq.1))->∃b,aq.2.1=(U b))) (λaq=>aK-aq.1) (0,af,0) ⟨bO _,db⟩ aZ a1;rintro⟨aD,az,aB⟩ ⟨bm,aO⟩;simp only at bm aO;dsimp only;have b0:aa (kc (Q.take aD))<=100000:=by grind[G9,oE]
  apply ak _;refine c0 p (λaA=>?_) (λaA=>?_)
  .obtain⟨bB,bE,rfl,bH⟩:=a0.at_ ad;have aV:Q[aD]?=ab Q[aD]:=b8 ad;have bI:=bH _ _ aV;have a3:=aa6 aV;generalize Q[aD]=a at*
   have ct:aU (F::ax) bB (bE+aD*3) 3 [j a.id,j a.x,j a.y]:=bI;apply aC _;apply bP λbR=>?_;apply bd λbJ=>?_;apply fz λa7 be bU b2 ca=>?_;refine b7 (aD+1,a7,be) ⟨ad,by simp_all⟩ ad ⟨rfl,rfl,rfl,by simp only;rw[a3,b4];rfl,rfl,rfl,rfl,rfl,trivial⟩ ?_;simp only;rw[a3,b4,<- gi];exact au
  .have bl:Q.take aD=Q:=lR ad;rw[bl]at aO ⊢;apply bs _;exact cC (az,aB) aO aZ a1
 .rintro⟨az,aB⟩ aS;simp only at aS;dsimp only;have bA:aa (b5 (kc Q))=aa (kc Q):=sc _;have bZ:aa (kc Q)<=100000:=by rw[G9];omega
  apply aC _;refine f1 p (O.pick aN (En az _ aB (kc Q) _ aS p ad)) ?_;apply cc;rw[bA];generalize J (b5 (kc Q))=aT at*
  generalize aa (kc Q)=aL at*
  apply bp (E.c7 250 1)
  (repeat first|apply yx|apply Bk)
  apply vS;apply ef (ι:=Option cg×Nat) (λH=>[(0,I b),(1,j C),(2,j v),(6,.slice az aL aB),(7,.slice H.1 (aa ar) H.2)]) (λH=>E 250 1 H.1 (aa ar) H.2 (J (sF ar))::E 3 1 az aL aB aT::F::ax) (λH=>0<aa ar->∃b,H.1=(U b)) _ _
  .by_cases aA:C<mid
   .cases aX:ah.Z.isSome with
    |true=>
     have av:ar=[ah]:=bo;subst av;apply dY _;apply bd λbK=>?_;apply fz λa8 bg bV b3 bn=>?_;exact cC (a8,bg) (λ_=>bn ao) aZ au
    |false=>
     have av:ar=[]:=bo;subst av;apply dY _;exact cC (af,0) db aZ au
   .have av:ar=[]:=bo;subst av;apply ak _;exact cC (af,0) db aZ au
  .rintro⟨aH,aA⟩ aQ;simp only at aQ;dsimp only;have bT:aa ar<=1:=bv
   (repeat first|apply yx|apply Bk)
   apply vS;apply ef (ι:=Option cg×Nat) (λH=>[(6,.slice az aL aB),(7,.slice H.1 (aa (ar++aG)) H.2)]) (λH=>E 250 1 H.1 (aa (ar++aG)) H.2 (J (sF (ar++aG)))::E 3 1 az aL aB aT::F::ax) (λH=>0<aa (ar++aG)->∃b,H.1=(U b)) _ _
   .by_cases aI:mid<v
    .cases aX:W.Z.isSome with
     |true=>
      have av:aG=[W]:=bo;subst av;apply dY _;apply bd λbM=>?_;apply fz λa9 bh bY b6 br=>?_;exact cC (a9,bh) (λ_=>br ao) ⟨rfl,by simp only[b4,hg];rfl,trivial⟩ (by
       simp only[b4,hg,sF,ez,List.map_cons,List.map_nil];rw[gS];exact au)
     |false=>
      have av:aG=[]:=bo;subst av;apply dY _;exact cC (aH,aA) (λh=>aQ bv) ⟨rfl,by rw[dC];rfl,trivial⟩ DN
    .have av:aG=[]:=by rw[bi];simp[aI]
     subst av;apply ak _;exact cC (aH,aA) (λh=>aQ (by simpa using h)) ⟨rfl,by rw[dC];rfl,trivial⟩ DN
   .rintro⟨aJ,aI⟩ aW;simp only at aW;dsimp only;apply ak _;exact aR ⟨az,aB,aJ,aI,rfl,⟨aS,aW⟩,rfl⟩
end S.eT
namespace S.eT
def aE.kd(j v:Int)(C:aE):List Int:=if j<=v then C.ids j v else[]
def aE.gU(j v:Int)(C:aE):List aE:=if j<=v then C.dF j v else[]
def aE.fd(j v:Int):aE->List Int
 | .nil=>[]
 | .node b mid A c I R E q H D C=>aE.ids j v (.node b mid A c I R E q H D C)++((if j<mid then D.fd j v else[])++(if mid<v then C.fd j v else[]))
def aE.aap(j v:Int)(C:aE):List Int:=if j<=v then C.fd j v else[]
def aaq(j v:Int)(C:List aE):List Int:=C.flatMap (aE.aap j v)
def aE.cj:aE->Nat
 | .nil=>0
 | .node _ _ _ _ _ _ _ _ _ C j=>C.cj+j.cj+1
def si(C:List aE):Nat:=(C.map λj=>2*j.cj+1).sum
def sb(C:List aE):Nat:=(C.map λj=>aa j.bU).sum
def aer{D v mid j q}(C:q=bw aj.ends j):aa (aE.E D v mid j q)<=aa j:=by
 have H:aa q=aa j:=by rw[C,gV]
 unfold aE.E;grind
def aE.ih.PY{C v}{j:aE}(h:j.ih):aa (j.kd C v)<=aa j.bU:=by
 unfold aE.kd;split
 .cases j with
  |nil=>exact bO _
  |node b mid A c J R D q I H E=>
   have:=aer (D:=C) (v:=v) (mid:=mid) h.1.2;simp only[aE.ids,aE.bU,b4,sc,G9];omega
 .exact bO _
theorem ai7(l j):si (l++j)=si l+si j:=by simp[si,LF]
theorem ag2(l j):sb (l++j)=sb l+sb j:=by simp[sb,LF]
def aE.ad2{j:aE->Prop}{Q v b mid A c O R I q J E D}(h1:j E)(ae:j D):∀H∈aE.gU Q v (.node b mid A c O R I q J E D),j H:=by
 intro H C;unfold aE.gU at C;split at C
 .rcases b9.1 C with h|h
  .simp[aE.rU]at h;simp_all
  .simp[aE.rV]at h;simp_all
 trivial
def aE.Rt(j v)(E:aE):si (E.gU j v)<=2*E.cj/\aa (E.gU j v)<=2/\sb (E.gU j v)<=aa E.bU:=by
 unfold aE.gU;split
 .cases E with
  |nil=>exact⟨bO _,bO _,bO _⟩
  |node b mid A c J R H q I D C=>
   have O:si (aE.rU j v (.node b mid A c J R H q I D C))<=2*D.cj+1/\aa (aE.rU j v (.node b mid A c J R H q I D C))<=1/\sb (aE.rU j v (.node b mid A c J R H q I D C))<=aa D.bU:=by
    simp[aE.rU];split<;>simp[si,sb]
   have Q:si (aE.rV j v (.node b mid A c J R H q I D C))<=2*C.cj+1/\aa (aE.rV j v (.node b mid A c J R H q I D C))<=1/\sb (aE.rV j v (.node b mid A c J R H q I D C))<=aa C.bU:=by
    simp[aE.rV];split<;>simp[si,sb]
   simp[aE.dF,aE.cj,aE.bU,ai7,ag2,b4];omega
 .exact⟨bO _,bO _,bO _⟩
attribute [local irreducible] C bh b6
def mz(C v:Int)(j:aE)(R:Q)(Y:a2)(W:Q):Prop:=∃D I H O,Y=.tuple #[.slice D (aa (j.kd C v)) I,.slice H (aa (j.gU C v)) O]/\
   ((0<aa (j.kd C v)->∃b,D=(U b))/\(0<aa (j.gU C v)->∃b,H=(U b)))/\
   W=E 3 1 D (aa (j.kd C v)) I (J (j.kd C v))::E 250 1 H (aa (j.gU C v)) O (J (sF (j.gU C v)))::R
def ac9(C D v I)(h:fa I C)(Q:C.ih)(aq:aa C.bU<=100000):Y 726 #[.pointer C.Z,j D,j v] I λW J=>mz D v C I W J:=by
 by_cases H:C.Z=af\/v<D
 .have O:C.kd D v=[]/\C.gU D v=[]:=by
   unfold aE.kd aE.gU;rcases H with H|H
   .cases C with
    |nil=>exact⟨by split<;>rfl,by split<;>rfl⟩
    |node=>cases H
   .exact⟨a8 ad,a8 ad⟩
  unfold mz;rw[O.1,O.2];apply(ac8 C D v I H).cr;rintro W J az ⟨rfl,rfl⟩ s;exact⟨_,⟨af,0,af,0,rfl,⟨db,db⟩,rfl⟩,E.c7 3 1 _ (E.c7 250 1 _ s)⟩
 .have U:D<=v:=by
   rcases Int.lt_or_le v D with h1|h1
   .exact absurd (.inr h1) H
   .exact h1
  cases C with
  |nil=>exact absurd (.inl p) H
  |node b mid A c ax R ai q av ar ap=>
   have am:∀{α:Type} {ah y:α},(if D<=v then ah else y)=ah:=bJ U;simp only[aE.bU,b4]at aq;unfold mz aE.kd aE.gU;simp only[am];exact HU b mid A c ax R ai q av ar ap D v I h Q.1.1 Q.1.2 ad U
def Fs(C E v D)(h:fa D C)(W:C.ih)(U:aa C.bU<=100000):Y 722 #[.pointer C.Z,j E,j v] D λah J=>mz E v C D ah J:=by
 refine aD ?_;refine aP (ac9 C E v _ h.ap W U) ?_;rintro _ _ ⟨H,O,I,Q,rfl,R,rfl⟩;apply ak _;exact aR ⟨H,O,I,Q,rfl,R,rfl⟩
structure pA (C:Q) (E:Nat) (D:aE) (bT:Int):Prop where
 root:a5 C ⟨E,0+0,af⟩ (.pointer D.Z)
 bT:a5 C ⟨E,0+1,af⟩ (j bT)
 i:fa C D
theorem pA.ap{E j D C bT}(h:pA j D C bT):pA (E::j) D C bT:=⟨h.root.ap,h.bT.ap,h.i.ap⟩
theorem aE.G3(s b mid A c D R E q H C j):(aE.node b mid A c D R E q H C j).has s=if s.y<mid then C.has s else if mid<s.x then j.has s else decide (s∈D):=rfl
section
variable{t:Nat}{T:aE}{bT:Int}{L:Q}(h:pA L t T bT)
include h
theorem Qh:aY 533 #[I t] L (.pointer T.Z) L:=by
 have h1:=h.root;refine bt ?_;exact c8
theorem aa0:aY 483 #[I t] L (.pointer T.Z) L:=by
 refine aD ?_;refine a9 (Qh h.ap) ?_;exact c8
theorem P2(s)(aq:T.ok)(am:aa T.bU<=100000):aY 508 #[I t,s.v] L (.bool (T.has s)) L:=by
 refine aD λ{g F}=>?_;apply bP λO=>?_;apply a9 (Qh h.ap.ap) _;refine cL (λC=>[(3,.pointer _),(5,.pointer _)]) (λC=>ah O 44 [j s.id,j s.x,j s.y]::F::L) (λC=>fa L C/\C.ok/\C.has s=T.has s/\aa C.bU<=100000) (λC=>C.cj) T ⟨h.i,aq,rfl,am⟩ aZ a1 ?_;rintro C ⟨W,H,Y,Z⟩;cases C with
 |nil=>
  rw[<- Y];exact fG
 |node b mid A c J R aB q aG ar ai=>
  obtain⟨aF,aM,aI,aJ,aK,aL,aO,aP,aQ,aH,av,ax⟩:=W.f;simp only[aE.bU,b4]at Z;apply bQ _;iterate 2 apply ay _
  apply m3 _
  by_cases az:s.y<mid
  .have E:iI mid s=0:=by simp_all[iI,bJ]
   have D:=λL h=>r9 b mid s L h;rw[E]at D;apply aC _;apply sf (D _ ec) _;exact b7 ar ⟨av,H.2.2.2.2.1,by simp_all[aE.G3,bJ],ad⟩ (by grind[aE.cj]) aZ a1
  .by_cases aA:mid<s.x
   .have E:iI mid s=1:=by simp_all[iI,a8,bJ]
    have D:=λL h=>r9 b mid s L h;rw[E]at D;apply aC _;apply sf (D _ ec) _;exact b7 ai ⟨ax,H.2.2.2.2.2,by simp_all[aE.G3,a8,bJ],ad⟩ (by grind[aE.cj]) aZ a1
   .have E:iI mid s= -1:=by simp_all[iI,a8]
    have D:=λL h=>r9 b mid s L h;rw[E]at D;have U:decide (s∈J)=T.has s:=by simp_all[aE.G3]
    rw[<- U];apply ak _;apply a9 (D _ ec) _;refine dM (VP rN hu A (aa J) c J s _ cX ad H.1.1) ?_;exact c8
end
end S.eT
namespace S.eT
def Uy(E:Nat)(D:Int)(C:aE):List aG:=[ah E 252 [.pointer C.Z,j D],fr C]
def nE(l:List aj)(j:aE):Prop:=j.ok/\j.fit/\j.bU.Perm l
def Uv(E:Nat)(D:Int)(l:List aj):aG:=λh=>∃j:aE,nE l j/\C (Uy E D j) h
section
variable{P:bk}{f:dc}{args:Array a2}{L:Q}{t b:Nat}{bT:Int}{l:List aj}{T:bq}{α:Type}[ik:d3 α]{m:List α}
end
def Zr{I M H E D l}(o:nE l D)(J:aS I (ah H 252 [.pointer D.Z,j E]::fr D::M)):aS I (Uv H E l::M):=λh q=>
 C.fold (N:=Uy H E D) (λh q=>⟨D,o,q⟩) (J h q)
def Z6{s}(h:je s=ag):s.x<=s.y/\ew s.x=ag/\ew s.y=ag:=by simp_all[je,decide_eq_true_eq]
def aE.G2{s}:∀{j:aE},j.has s=ag->s∈j.bU
 | .nil,h=>by trivial
 | .node _ mid _ _ E _ _ _ _ D C,h=>by
  simp[aE.has]at h;simp[aE.bU,b9];split at h
  .exact .inr (.inl (aE.G2 h))
  .split at h
   .exact .inr (.inr (aE.G2 h))
   simp_all
theorem aE.ok.PN{s}{j:aE}(o:j.ok):j.has s=decide (s∈j.bU):=by
 by_cases h:s∈j.bU
 .rw[cO h];exact(o.has (o.fair s h)).2 h
 .rw[cw h];cases C:j.has s with
  |false=>rfl
  |true=>exact absurd (aE.G2 C) h
def jh(mid:Int)(l:List aj):List aj:=l.filter λs=>decide (s.y<mid)
def jf(mid:Int)(l:List aj):List aj:=l.filter λs=>decide (mid<s.x)
def hd(mid:Int)(l:List aj):List aj:=l.filter λs=>decide (s.x<=mid/\mid<=s.y)
def Sn(mid):∀(l)(j:∀s∈l,s.x<=s.y),(hd mid l++(jh mid l++jf mid l)).Perm l
 | [],_=> .nil
 |a::l,j=>by
  have H:=Sn mid l λs C=>j s (gn _ C);unfold hd jh jf at*
  simp only[tM]
  by_cases D:a.y<mid
  .grind
  .by_cases E:mid<a.x
   .grind
   grind
def Qv{mid l C j}(E:l.Nodup)(D:∀s∈l,s.x<=mid/\mid<=s.y)(h1:∀s∈C,s.y<mid)(ae:∀s∈j,mid<s.x):aE.pe mid (bw aj.less l) (bw aj.ends l) C j:=
 ⟨Eo hu E,ou ow (ov ow l) ((f8 l).trans (f8 l).symm),λs H=>D s ((f8 l).subset H),h1,ae⟩
def ab0{mid j q J E s}(h:aE.pe mid j q J E)(I:s∉j)(Z:s.x<=mid/\mid<=s.y):aE.pe mid (fU aj.less s j) (fU aj.ends s q) J E:=by
 let⟨C,D,Y,O,Q⟩:=h;have H:=D▸f8 j;have R:=D▸Eo ow (C.nodup hu);have U:=λh=>I (H.subset h);refine⟨SG hu s j C I,?_,λah W=>?_,O,Q⟩
 .exact ou ow ((SG ow s q R U).b5 ow) ((xI s q).trans ((List.Perm.cons s H).trans (xI s j).symm))
 .rcases df.1 ((xI s j).subset W)with h|h
  .simp_all
  simp_all
def Hq{mid D q C j}(h:aE.pe mid D q C j):d0 aj.ends q:=h.2.1▸Eo ow (h.1.nodup hu)
def abZ{mid j q D C s}(h:aE.pe mid j q D C):aE.pe mid (j.erase s) (q.erase s) D C:=by
 have Q:=Hq h;let⟨E,H,I,J,O⟩:=h;have R:=H▸f8 j;refine⟨E.sub Lc,?_,λW U=>I W (q3 U),J,O⟩;exact ou ow ((Q.sub Lc).b5 ow) (R.erase s)
def XR{b mid A c I J n C j l}(O:∀s∈l,s.x<=s.y)(ah:l.Nodup)(ax:0<aa l)(Y:(bw dq (fB l))[aa l]?=ab mid)(R:C.ok)(Q:j.ok)(E:C.bU.Perm (jh mid l))(H:j.bU.Perm (jf mid l))(Z:n=aa (bw aj.less (hd mid l))+C.size+j.size):
  (aE.node b mid A c (bw aj.less (hd mid l)) I J (bw aj.ends (hd mid l)) n C j).ok/\(aE.node b mid A c (bw aj.less (hd mid l)) I J (bw aj.ends (hd mid l)) n C j).bU.Perm l:=by
 have U:((bw aj.less _)++(C.bU++j.bU)).Perm l:=((f8 _).append (E.append H)).trans (Sn mid l O);have W:=U.length_eq;simp[b4]at W;let⟨az,aA⟩:=Rj O Y;have ai:=E.length_eq;have am:=H.length_eq;have ap:=R.size;have aq:=Q.size;have ar:aa (jh mid l)=aa (l.filter _):=rfl;have av:aa (jf mid l)=aa (l.filter _):=rfl;refine⟨⟨Qv (ah.filter _) (λs D=>?_) (λs D=>?_) (λs D=>?_),Z,ad,ad,R,Q⟩,U⟩
 .have:=(ii.1 D).2;simp_all
 .have:=(ii.1 (E.subset D)).2;simp_all
 .have:=(ii.1 (H.subset D)).2;simp_all
def aE.ok.adh{b mid A c D E H q n C j}(h:(aE.node b mid A c D E H q n C j).ok){s}(W:s.x<=s.y)(I:s∈(aE.node b mid A c D E H q n C j).bU):(s.y<mid->s∈C.bU)/\(mid<s.x->s∈j.bU)/\(¬s.y<mid->¬mid<s.x->s∈D):=by
 let⟨⟨J,O,Q,R,U⟩,_,_,_,h1,ae⟩:=h;simp[aE.bU]at I;grind
attribute [local irreducible] C bh b6
def hG(b:Nat)(mid:Int)(A:a3)(c:Nat)(j:List aj)(R:a3)(C:Nat)(q:List aj)(O:Nat)(H D:aE)(I:Q):List aG:=ah b 419 (pU mid A (aa j) c R (aa q) C H.Z D.Z O)::E 44 3 A (aa j) c (J j)::E 44 3 R (aa q) C (J q)::fr H::fr D::I
structure Fit (A:a3) (c:Nat) (ai:List aj) (R:a3) (j:Nat) (q:List aj) (lo hi:aE):Prop where
 ai:px A ai.length c
 q:px R q.length j
 lo:lo.fit
 hi:hi.fit
def zH{A c I R H q D C}(j:Fit A c I R H q D C)(b mid J O):fa (hG b mid A c I R H q J D C O) (.node b mid A c I R H q J D C):=
 ⟨⟨j.ai,j.q⟩,aU.ah p,Rd.ap (bf.E (ck _) j.ai.a),Rd.ap (Rd.ap (bf.E (ck _) j.q.a)),(rI D _ j.lo).ap.ap.ap,(rI C _ j.hi).ap.ap.ap.ap⟩
def Wl(l:List aj)(C:Q)(v:a2)(D:Q):Prop:=∃j:aE,(j.ok/\j.fit/\j.bU.Perm l)/\v=.pointer j.Z/\D=fr j::C
def Fu(S:List Nat)(l:List aj)(D:Q)(v:a2)(E:Q):Prop:=∃(j:aE) (C:List aE),(j.ok/\j.fit/\j.bU.Perm l)/\(∀a∈S,iC j C a)/\v=.pointer j.Z/\E=fr j::hH C::D
def Om{I M:Q}{b mid A R c C O j q H D}(U:aS I (ah b 419 (pU mid A (aa j) c R (aa q) C H.Z D.Z O)::E 44 3 A (aa j) c (J j)::E 44 3 R (aa q) C (J q)::fr H::fr D::M)):aS I (fr (.node b mid A c j R C q O H D)::M):=Cp U
section
variable{A:a3}{c:Nat}{ai:List aj}{R:a3}{d:Nat}{q:List aj}{lo hi:aE}
def mT(D:Fit A c ai R d q lo hi)(b mid C j)(h1:aa ai<=100000)(ae:lo.size<=100000)(an:hi.size<=100000):
  aY 553 #[I b] (hG b mid A c ai R d q C lo hi j) (I b) (hG b mid A c ai R d q (aa ai+lo.size+hi.size) lo hi j):=by
 obtain⟨aF,aM,O,Q,U,W,Y,Z,ah,J,E,H⟩:=(zH D b mid C j).f;refine bt ?_;refine pn (bE [0,1,2,3,4,5,6,7,8,9,10,13,14,15,16,17] (.e 11 (.q 12 (.e 18 (bE [19,20,21] (.e 22 .nil)))))) ?_;apply dM (w9 lo _ E.ap) _;apply dM (w9 hi _ H.ap) _;exact aR bD
end
def C7(b mid A R aE c aF aB Z W am j n C l O)(aM:Rd O j n l)(aO:n<=100000)(ai:n<=C):
  Y 552 #[I b,.slice j n C] (ah b 419 (pU mid A aE c R aF aB Z W am)::O) λv ar=>∃D Q H U,v=(I b)/\(px D (aa (bw aj.less l)) Q/\px H (aa (bw aj.ends l)) U)/\ar=ah b 419 (pU mid D (aa (bw aj.less l)) Q H (aa (bw aj.ends l)) U Z W am)::E 44 3 D (aa (bw aj.less l)) Q (J (bw aj.less l))::E 44 3 H (aa (bw aj.ends l)) U (J (bw aj.ends l))::O:=by
 have av:=λM h=>(tZ hu rN j n C l M h ad ai).made;have az:=λM h=>(tZ ow Gz j n C l M h ad ai).made;generalize bw _ l=aQ at*
 generalize bw _ l=q at*
 refine aD ?_;refine aP (av _ cX) ?_;rintro _ _ ⟨ap,ax,rfl,aG,aH,aI,rfl⟩;apply ay _;apply aP (az _ cX) _;rintro _ _ ⟨aq,aA,rfl,aJ,aK,aL,rfl⟩;apply ak _;exact aR ⟨ap,ax,aq,aA,rfl,⟨⟨aG,aH,aI⟩,⟨aJ,aK,aL⟩⟩,rfl⟩
def Zy{l:List aj}{C a}(h:l[C]?=ab a):J (fB (l.take (C+1)))=J (fB (l.take C))++[Value.int .i64 a.x,j a.y]:=by
 unfold fB;rw[A3,h,List.flatMap_append,gS];rfl
def IG{j}{l:List aj}{C a}(h:l[C]?=ab a):(l.take (C+1)).filter j=(l.take C).filter j++(if j a=ag then[a]else[]):=by simp_all[A3,tM]
def Q2(mid l):aa (jh mid l)<=aa l:=kj _ _
def PQ(mid l):aa (jf mid l)<=aa l:=kj _ _
def Sf(mid l):aa (hd mid l)<=aa l:=kj _ _
def sL:∀(aM:Nat)(A:a3)(n c:Nat)(l:List aj)(H:Q)(_:n<=aM)(_:Rd H A n l)(_:n<=100000)(_:n<=c)(_:∀s∈l,s.x<=s.y)(_:l.Nodup),
  Y 578 #[.slice A n c] H λv b2=>Wl l H v b2:=by
 intro aM
 induction aM using Nat.strongRecOn with
 | _ aM bt=>
 intro A n c l H cH bc cU cI aL bh;have h1:aa l=n:=bc.len bL;have ce:=sX l;refine aD λ{g F}=>?_;apply cc;apply fV _;apply ef (ι:=Option _×Nat) (λC=>[(0,.slice A n c),(3,.slice C.1 (2*n) C.2)]) (λC=>E 3 1 C.1 (2*n) C.2 (J (fB l))::F::H) (λC=>(0<2*n->∃b,C.1=(U b))/\2*n<=C.2) _ _
 .apply bs _;apply bp (E.c7 3 1);apply cL (ι:=Nat×Option cg×Nat) (λC=>[(0,.slice A n c),(3,.slice C.2.1 (2*C.1) C.2.2),(14,.slice A n c),(15,j (n:Nat)),(16,j (C.1:Nat))]) (λC=>E 3 1 C.2.1 (2*C.1) C.2.2 (J (fB (l.take C.1)))::F::H) (λC=>C.1<=n/\(0<2*C.1->∃b,C.2.1=(U b))/\2*C.1<=C.2.2) (λC=>n-C.1) (0,af,0) ⟨bO _,db,bC _⟩ aZ a1;rintro⟨D,av,W⟩ ⟨bb,aJ,aK⟩;simp only at bb aJ aK;dsimp only;apply ak _;refine c0 p (λax=>?_) (λax=>?_)
  .obtain⟨aY,aA,rfl,aT⟩:=bc.at_ ad;have aq:l[D]?=ab l[D]:=b8 ad;have aB:=aT _ _ aq;have am:=Zy aq;generalize l[D]=R at*
   have bZ:aU H aY (aA+D*3) 3 [j R.id,j R.x,j R.y]:=aB;apply aC _;apply bP λcD=>?_;apply bd λcB=>?_;apply fz λb0 b5 cJ cQ cj=>?_;refine b7 (D+1,b0,b5) ⟨ad,λ_=>cj ao,ad⟩ ad aZ ?_;simp only[am];exact au
  .have aI:D=n:=ad;subst aI;rw[lR ad];apply bs _;exact cC (av,W) ⟨aJ,aK⟩ aZ a1
 .rintro⟨av,W⟩ ⟨aJ,aK⟩;simp only at aJ aK;dsimp only;have cm:Rd (E 3 1 av (2*n) W (J (fB l))::F::H) av (2*n) (fB l):=bf.E (by rw[ck,ce,h1];rfl) aJ;rcases Nat.eq_zero_or_pos n with bm|bm
  .subst bm;have aI:l=[]:=gX h1;subst aI;apply aC _;apply a9 (Wm av W _) _;exact aR ⟨.nil,⟨trivial,trivial,.refl _⟩,rfl,rfl⟩ Ae
  .obtain⟨mid,ch⟩:∃mid,(bw dq (fB l))[2*n/2]?=ab mid:=⟨_,b8 uV⟩;have br:(bw dq (fB l))[aa l]?=ab mid:=bo;let⟨cp,cr⟩:=Rj aL br;apply aC _;refine f1 p (Wn av (2*n) W (fB l) mid _ cm ad aK ch) ?_;iterate 5 apply ay _
   apply ee _;apply ay _;refine a6 (gz p) ?_;apply aC _;apply bP λap=>?_;apply bg λbl=>?_;apply bp (E.c7 44 3);apply bp (E.c7 44 3);apply bp (E.c7 44 3);refine cL (ι:=Nat×(Option cg×Nat)×(Option cg×Nat)×(Option cg×Nat)) (λC=>[(8,I ap),(9,I bl),(10,.slice C.2.2.2.1 (aa (hd mid (l.take C.1))) C.2.2.2.2),(38,.slice A n c),(39,j (n:Nat)),(40,j (C.1:Nat))])
    (λC=>E 44 3 C.2.1.1 (aa (jh mid (l.take C.1))) C.2.1.2 (J (jh mid (l.take C.1)))::E 44 3 C.2.2.1.1 (aa (jf mid (l.take C.1))) C.2.2.1.2 (J (jf mid (l.take C.1)))::E 44 3 C.2.2.2.1 (aa (hd mid (l.take C.1))) C.2.2.2.2 (J (hd mid (l.take C.1)))
     ::ah bl 630 [.slice C.2.1.1 (aa (jh mid (l.take C.1))) C.2.1.2,.slice C.2.2.1.1 (aa (jf mid (l.take C.1))) C.2.2.1.2]::ah ap 419 (pU mid af 0 0 af 0 0 af af 0)::F::H)
    (λC=>C.1<=n/\((0<aa (jh mid (l.take C.1))->∃b,C.2.1.1=(U b))/\aa (jh mid (l.take C.1))<=C.2.1.2)/\((0<aa (jf mid (l.take C.1))->∃b,C.2.2.1.1=(U b))/\aa (jf mid (l.take C.1))<=C.2.2.1.2)/\((0<aa (hd mid (l.take C.1))->∃b,C.2.2.2.1=(U b))/\aa (hd mid (l.take C.1))<=C.2.2.2.2))
    (λC=>n-C.1) (0,(af,0),(af,0),(af,0)) ⟨bO _,⟨db,bC _⟩,⟨db,bC _⟩,⟨db,bC _⟩⟩ aZ au ?_
   rintro⟨D,⟨aE,aQ⟩,⟨aG,ax⟩,⟨aH,aS⟩⟩ ⟨bb,⟨bM,bR⟩,⟨bS,bT⟩,⟨bU,bV⟩⟩;simp only at bb bM bR bS bT bU bV;dsimp only;have cx:=Q2 mid (l.take D);have cy:=PQ mid (l.take D);have cz:=Sf mid (l.take D);rw[oE]at cx cy cz;apply ak _;refine c0 p (λca=>?_) (λca=>?_)
   .have aq:l[D]?=ab l[D]:=b8 ad;have ar:jh mid (l.take (D+1))= _:=IG aq;have am:jf mid (l.take (D+1))= _:=IG aq;have ai:hd mid (l.take (D+1))= _:=IG aq;have cN:=aL l[D] (List.getElem_mem _);obtain⟨aY,aA,rfl,aT⟩:=bc.at_ ad;have aB:=aT _ _ aq;generalize l[D]=R at*
    have bZ:aU H aY (aA+D*3) 3 [j R.id,j R.x,j R.y]:=aB;have az:=λH h=>r9 ap mid R H h;change jh mid (l.take (D+1))=jh mid (l.take D)++ _ at ar;change jf mid (l.take (D+1))=jf mid (l.take D)++ _ at am;change hd mid (l.take (D+1))=hd mid (l.take D)++ _ at ai
    by_cases cF:R.y<mid
    .have W:iI mid R=0:=by simp_all[iI,bJ]
     rw[W]at az;rw[bJ bo]at ar;rw[a8 bv,dC]at am ai;generalize jh mid (l.take D)=bz at*
     generalize jf mid (l.take D)=bA at*
     generalize hd mid (l.take D)=bB at*
     apply aC _;apply bP λbj=>?_;apply a9 (az _ ec) _;refine fc p (iU p p aw aw) ?_;apply ak _;apply h5 λb3=>?_;refine bF (py cq p p p (dH p p aN gL (hA p) bN ao aw aw) ?_);rintro _ _ ⟨aW,a4,rfl,cb,ci,be,rfl⟩;refine fc p (iU p p aw aw) ?_;apply dl _
     all_goals
      apply ak _;refine b7 (D+1,(aW,a4),(aG,ax),(aH,aS)) ⟨ad,⟨λ_=>be ao,by simp_all⟩,⟨by simp_all,by simp_all⟩,⟨by simp_all,by simp_all⟩⟩ ad ⟨rfl,rfl,by simp only[ai];rfl,rfl,rfl,rfl,trivial⟩ ?_;simp only[ar,am,ai,b4,hg];rw[<- gi];exact au
    .by_cases cG:mid<R.x
     .have W:iI mid R=1:=by simp_all[iI,a8,bJ]
      rw[W]at az;rw[bJ bo]at am;rw[a8 bo,dC]at ar ai;generalize jh mid (l.take D)=bz at*
      generalize jf mid (l.take D)=bA at*
      generalize hd mid (l.take D)=bB at*
      apply aC _;apply bP λbj=>?_;apply dQ (az _ ec) _;apply ed (bE [0,1,2,3,4] (.e 5 (.e 6 (.q 7 (.e 8 .nil))))) _;iterate 2 apply bu _
      refine fc p (iU p p aw aw) ?_;iterate 2 apply bu _
      apply h5 λb3=>?_;refine bF (py cq p p p (dH p p aN gL (hA p) bN ao aw aw) ?_);rintro _ _ ⟨aW,a4,rfl,cb,ci,be,rfl⟩;refine fc p (iU p p aw aw) ?_;apply oP _
      all_goals
       apply aC _;apply cd _;refine b7 (D+1,(aE,aQ),(aW,a4),(aH,aS)) ⟨ad,⟨by simp_all,by simp_all⟩,⟨λ_=>be ao,by simp_all⟩,⟨by simp_all,by simp_all⟩⟩ ad ⟨rfl,rfl,by simp only[ai];rfl,rfl,rfl,rfl,trivial⟩ ?_;simp only[ar,am,ai,b4,hg];rw[<- gi];exact au
     .have W:iI mid R= -1:=by simp_all[iI,a8]
      rw[W]at az;rw[bJ bo]at ai;rw[a8 bo,dC]at ar;rw[a8 bo,dC]at am;generalize jh mid (l.take D)=bz at*
      generalize jf mid (l.take D)=bA at*
      generalize hd mid (l.take D)=bB at*
      apply aC _;apply bP λbj=>?_;apply dQ (az _ ec) _;apply bd λcE=>?_;refine GE (dH p p aN gL (hA p) bN ao aw aw) ?_;rintro _ _ ⟨b1,b6,rfl,cK,cS,cl,rfl⟩;apply aC _;apply cd _;refine b7 (D+1,(aE,aQ),(aG,ax),(b1,b6)) ⟨ad,⟨by simp_all,by simp_all⟩,⟨by simp_all,by simp_all⟩,⟨λ_=>cl ao,by simp_all⟩⟩ ad ⟨rfl,rfl,by simp only[ai,b4,hg];rfl,rfl,rfl,rfl,trivial⟩ ?_;simp only[ar,am,ai,b4,hg];rw[<- gi];exact au
   .have aI:D=n:=ad;subst aI;rw[lR ad]at*
    have ct:∀M,Rd (E 44 3 aE (aa (jh mid l)) aQ (J (jh mid l))::M) aE (aa (jh mid l)) (jh mid l):=λM=>bf.E (ck _) bM;have cu:∀M,Rd (E 44 3 aG (aa (jf mid l)) ax (J (jf mid l))::M) aG (aa (jf mid l)) (jf mid l):=λM=>bf.E (ck _) bS;have cv:∀M,Rd (E 44 3 aH (aa (hd mid l)) aS (J (hd mid l))::M) aH (aa (hd mid l)) (hd mid l):=λM=>bf.E (ck _) bU;have cW:2*aa (jh mid l)<=aa l:=cp;have cX:2*aa (jf mid l)<=aa l:=cr;have cY:=Q2 mid l;have aT:=PQ mid l;have cZ:=Sf mid l;have cn:=λM h=>bt (aa (jh mid l)) ad aE (aa (jh mid l)) aQ (jh mid l) M (bC _) h ad bR (λs bi=>aL s ((ii.1 bi).1)) (bh.filter _);have co:=λM h=>bt (aa (jf mid l)) ad aG (aa (jf mid l)) ax (jf mid l) M (bC _) h ad bT (λs bi=>aL s ((ii.1 bi).1)) (bh.filter _);apply bs _;apply ed (bE [0,1,2,4,5] (.e 3 (.e 6 (bE [7,8,9] (.e 10 .nil))))) _;apply bu _;refine fc p (iU p p aw aw) ?_;apply bu _;refine fc p (iU p p aw aw) ?_;apply bu _;refine bF (bW p p p (c5 p (cn _ (bx ct))) ?_);rintro _ _ ⟨aO,⟨bG,bH,bK⟩,rfl,rfl⟩;apply cV _;refine bF (bW p p p (c5 p (co _ (bx cu))) ?_);rintro _ _ ⟨aP,⟨aA,bI,aF⟩,rfl,rfl⟩;apply cV _;iterate 3 apply bu _
    apply oP _;have c1:=bK.length_eq;have bZ:=aF.length_eq;have c2:=bG.size;have c3:=aA.size;have c4:aa (bw aj.less (hd mid l))=aa (hd mid l):=gV _;apply aC _;refine GE (c5 p (O.pick aN (C7 ap mid af af 0 0 0 0 aO.Z aP.Z 0 aH (aa (hd mid l)) aS (hd mid l) _ (bx cv) ad bV))) ?_;rintro _ _ ⟨aV,a0,aX,a7,rfl,⟨aB,bY⟩,rfl⟩;refine dQ (O.pre (M:=hG ap mid aV a0 (bw aj.less (hd mid l)) aX a7 (bw aj.ends (hd mid l)) 0 aO aP (F::H)) au (mT ⟨aB,bY,bH,bI⟩ ap mid 0 _ ad ad ad)) ?_;apply cc;have bn:=XR (b:=ap) (A:=aV) (c:=a0) (I:=aX) (J:=a7) aL bh ad br bG aA bK aF p;exact bs (ba (C:=fr (.node ap mid aV a0 (bw aj.less (hd mid l)) aX a7 (bw aj.ends (hd mid l)) (aa (bw aj.less (hd mid l))+aO.size+aP.size) aO aP)::H) p ds (λh s=>(Cp (M:=F::H) cT h s).swap) ⟨_,⟨bn.1,⟨⟨aB,bY⟩,bH,bI⟩,bn.2⟩,rfl,rfl⟩)
def n3{A c J R Q q H D}(U:Fit A c J R Q q H D)(b mid ar Z)(W:aE.pe mid J q H.bU D.bU)(ap:H.ok)(ax:D.ok)(a7:aa J+aa H.bU+aa D.bU<=1000)(l)(aI:(J++(H.bU++D.bU)).Perm l):
  Y 554 #[I b] (hG b mid A c J R Q q ar H D Z) λv aX=>Fu (aE.node b mid A c J R Q q ar H D).bG l Z v aX:=by
 have aV:(aE.node b mid A c J R Q q (aa J+H.size+D.size) H D).sC:=⟨⟨⟨U.ai,U.q⟩,U.lo,U.hi⟩,⟨⟨W.1,W.2.1⟩,ap.ih,ax.ih⟩,by simp only[aE.bU,b4];omega⟩;have be:=ap.size;have bg:=ax.size;obtain⟨n,aB⟩:∃n,n=aa J+H.size+D.size:=⟨_,rfl⟩;have aD:=λM=>mT U b mid ar M ad ad ad;rw[<- aB]at aD;have az:=λM=>zH U b mid n M;have bb:aa q=aa J:=by rw[W.2.1,gV]
 have am:=λM h=>CW b mid A c J R Q q n H D M h ad;have aQ:=λM h=>JK (.node b mid A c J R Q q n H D) M h (by simp only[aE.bU,b4];omega);have a4:(aE.node b mid A c J R Q q n H D).bU=J++(H.bU++D.bU):=rfl;rw[a4]at aQ;have aZ:∀s∈J++(H.bU++D.bU),s.x<=s.y:=λs aq=>by
  rcases b9.1 aq with h|h
  .have:=W.2.2.1 s h;omega
  .rcases b9.1 h with h|h
   .exact ap.fair s h
   .exact ax.fair s h
 have a0:(J++(H.bU++D.bU)).Nodup:=by
  apply tN.2 ⟨W.1.nodup hu,tN.2 ⟨ap.nodup,ax.nodup,λs aq aA ah aH=>?_⟩,λs aq aA ah aH=>?_⟩
  .subst aH;have:=W.2.2.2.1 s aq;have:=W.2.2.2.2 s ah;have:=ap.fair s aq;omega
  .subst aH;have:=W.2.2.1 s aq;rcases b9.1 ah with ah|ah
   .have:=W.2.2.2.1 s ah;omega
   .have:=W.2.2.2.2 s ah;omega
 have aM:=λA n c M h1 ae an=>sL n A n c (J++(H.bU++D.bU)) M (bC _) h1 ae an aZ a0;have aO:aa (J++(H.bU++D.bU))<=100000:=by simp only[b4];omega
 by_cases aT:max H.size D.size<=3*n/4/\0<n
 .rw[cw (by omega: ¬3*n/4<max H.size D.size)]at am;have a8:a5 (hG b mid A c J R Q q n H D Z) ⟨b,0+5,af⟩ (j (n:Nat)):=(zH U b mid n Z).f.O6;have a3:(aE.node b mid A c J R Q q n H D).ok:=⟨W,aB,aT.1,aT.2,ap,ax⟩;refine bt λ{g F}=>?_;refine a9 (O.pre (M:=hG b mid A c J R Q q ar H D (F::Z)) (by unfold hG;exact au) (aD _)) ?_;apply a9 (am _ (az _)) _;exact aR ⟨_,[],⟨a3,⟨⟨U.ai,U.q⟩,U.lo,U.hi⟩,aI⟩,λa av=> .inl av,rfl,rfl⟩ (λh s=>C.bl (λ_ aA=>C.bl (λh aA=>wJ cT h aA) aA) (Cp (M:=F::Z) cT h s).swap)
 .have aS:=λM h=>(aQ M h).made;generalize J++(H.bU++D.bU)=aW at*
  by_cases bc:max H.size D.size<=3*n/4
  .rw[cw (by omega: ¬3*n/4<max H.size D.size)]at am;refine bt λ{g F}=>?_;refine a9 (O.pre (M:=hG b mid A c J R Q q ar H D (F::Z)) (by unfold hG;exact au) (aD _)) ?_;apply a9 (am _ (az _)) _;apply aP (aS _ (az _)) _;rintro _ _ ⟨aF,aG,rfl,h1,ae,an,rfl⟩;apply aP (aM aF (aa aW) aG _ (bf.E (ck _) h1) aO ae) _;rintro _ _ ⟨aY,⟨aJ,aK,aL⟩,rfl,rfl⟩;apply ak _;exact aR ⟨_,[.node b mid A c J R Q q n H D],⟨aJ,aK,aL.trans aI⟩,λa av=> .inr ⟨_,.head _,show a∈(aE.node b mid A c J R Q q n H D).bG from av⟩,rfl,rfl⟩ (by unfold hG;exact(by(repeat first|exact cf|apply On (aB▸aV)|apply Om|apply wJ|apply ek _)<;>fail))
  .rw[cO (by omega:3*n/4<max H.size D.size)]at am;refine bt λ{g F}=>?_;refine a9 (O.pre (M:=hG b mid A c J R Q q ar H D (F::Z)) (by unfold hG;exact au) (aD _)) ?_;apply a9 (am _ (az _)) _;apply aP (aS _ (az _)) _;rintro _ _ ⟨aF,aG,rfl,h1,ae,an,rfl⟩;apply aP (aM aF (aa aW) aG _ (bf.E (ck _) h1) aO ae) _;rintro _ _ ⟨aY,⟨aJ,aK,aL⟩,rfl,rfl⟩;apply ak _;exact aR ⟨_,[.node b mid A c J R Q q n H D],⟨aJ,aK,aL.trans aI⟩,λa av=> .inr ⟨_,.head _,show a∈(aE.node b mid A c J R Q q n H D).bG from av⟩,rfl,rfl⟩ (by unfold hG;exact(by(repeat first|exact cf|apply On (aB▸aV)|apply Om|apply wJ|apply ek _)<;>fail))
def Mt(a b)(D: -9223372036854775808<=a/\a<=9223372036854775807)(E: -9223372036854775808<=b/\b<=9223372036854775807)(C):aY 551 #[j a,j b] C (j ((a+b)/2)) C:=λg F I H=>
 (adt a b D E I).mono λJ O ⟨h1,ae⟩=>⟨_,C,h1,bD,ae▸H⟩
def aeg{b A c R j s}(h:s.x<=s.y):(aE.node b ((s.x+s.y)/2) A c (bw aj.less [s]) R j (bw aj.ends [s]) (aa (bw aj.less [s])+aE.nil.size+aE.nil.size) .nil .nil).ok/\(aE.node b ((s.x+s.y)/2) A c (bw aj.less [s]) R j (bw aj.ends [s]) (aa (bw aj.less [s])+aE.nil.size+aE.nil.size) .nil .nil).bU.Perm [s]:=by
 have C:aa (bw aj.less [s])=1:=gV _;refine⟨⟨Qv ao (λE D=>?_) (by simp[aE.bU]) (by simp[aE.bU]),rfl,?_,?_,trivial,trivial⟩,?_⟩
 .grind
 .omega
 .omega
 .simp only[aE.bU,dC];exact f8 _
def Pf{b mid A c H R C q I E D}(j:(aE.node b mid A c H R C q I E D).fit):Fit A c H R C q E D:=⟨j.1.1,j.1.2,j.2.1,j.2.2⟩
def N6{R Y args H W}{D:List aj}(h:O R Y args H λQ I=>∃j C,Q=.tuple #[.slice j (aa D) C,.bool ag]/\(0<aa D->∃b,j=(U b))/\I=E W 3 j (aa D) C (J D)::H):O R Y args H λQ I=>∃j C,Q=.tuple #[.slice j (aa D) C,.bool ag]/\px j (aa D) C/\I=E W 3 j (aa D) C (J D)::H:=
 h.cr λv I am ⟨j,C,Z,ah,ai⟩ s=>by
  subst ai;have q:=E.facts s;exact⟨_,⟨j,C,Z,⟨ah,q.2.1,q.2.2.1⟩,rfl⟩,s⟩
def r1:∀(D)(s)(H:Q),D.ok->D.fit->s.x<=s.y->(-9223372036854775808<=s.x/\s.x<=9223372036854775807)->(-9223372036854775808<=s.y/\s.y<=9223372036854775807)->s∉D.bU->aa D.bU<=900->
  Y 509 #[.pointer D.Z,s.v] (fr D::H) λv bL=>Fu D.bG (s::D.bU) H v bL
 | .nil,s,H,bB,a0,a3,aT,aV,aS,bA=>by
  have bH:=λb A c R aq=>aeg (b:=b) (A:=A) (c:=c) (R:=R) (j:=aq) a3;refine bt λ{g F}=>?_;apply bg λbb=>?_;apply fK (bE [0,1,2,3,7] (.iw 4 (.q 5 (.iw 6 (.e 8 (.e 9 (.e 10 (.q 11 .nil)))) 8 (.e 6 (.e 9 (.e 10 (.q 11 .nil)))))) 8 (.e 4 (.q 5 (.e 6 (.e 9 (.e 10 (.q 11 .nil)))))))) _;refine jt ?x102_0 ?x102_1
  case' x102_1=>
   refine bW p p p (gR bN p p) ?_;rintro _ _ ⟨aJ,rfl,rfl⟩;apply cV _;apply dM (Mt s.x s.y aT aV _) _;apply h5 λam=>?_;refine jl (O.pick aN (C7 am ((s.x+s.y)/2) af af 0 0 0 0 af af 0 (U aJ) 1 1 [s] _ cX ad (bC _))) ?_;rintro _ _ ⟨aD,aK,aF,aL,rfl,⟨av,ax⟩,rfl⟩;refine jl (O.pre (M:=hG am ((s.x+s.y)/2) aD aK (bw aj.less [s]) aF aL (bw aj.ends [s]) 0 .nil .nil (F::H)) Ae (mT (lo:=.nil) (hi:=.nil) ⟨av,ax,trivial,trivial⟩ am ((s.x+s.y)/2) 0 _ (by rw[gV];simp) (by simp[aE.size]) (by simp[aE.size]))) ?_;rintro _ _ ⟨rfl,rfl⟩;apply ak _
  case' x102_0=>
   refine bW p p p (c5 p (Mt s.x s.y aT aV _)) ?_;rintro _ _ ⟨rfl,rfl⟩;apply cV _;apply bu _;refine jt ?x103_0 ?x103_1
   case' x103_1=>
    refine bW p p p (gR bN p p) ?_;rintro _ _ ⟨aJ,rfl,rfl⟩;apply cV _;apply h5 λam=>?_;refine jl (O.pick aN (C7 am ((s.x+s.y)/2) af af 0 0 0 0 af af 0 (U aJ) 1 1 [s] _ cX ad (bC _))) ?_;rintro _ _ ⟨aD,aK,aF,aL,rfl,⟨av,ax⟩,rfl⟩;refine jl (O.pre (M:=hG am ((s.x+s.y)/2) aD aK (bw aj.less [s]) aF aL (bw aj.ends [s]) 0 .nil .nil (F::H)) Ae (mT (lo:=.nil) (hi:=.nil) ⟨av,ax,trivial,trivial⟩ am ((s.x+s.y)/2) 0 _ (by rw[gV];simp) (by simp[aE.size]) (by simp[aE.size]))) ?_;rintro _ _ ⟨rfl,rfl⟩;apply ak _
   case' x103_0=>
    refine bW p p p (ue p) ?_;rintro _ _ ⟨am,rfl,rfl⟩;apply cV _;apply h5 λaJ=>?_;refine jl (O.pick aN (C7 am ((s.x+s.y)/2) af af 0 0 0 0 af af 0 (U aJ) 1 1 [s] _ cX ad (bC _))) ?_;rintro _ _ ⟨aD,aK,aF,aL,rfl,⟨av,ax⟩,rfl⟩;refine jl (O.pre (M:=hG am ((s.x+s.y)/2) aD aK (bw aj.less [s]) aF aL (bw aj.ends [s]) 0 .nil .nil (F::H)) Ae (mT (lo:=.nil) (hi:=.nil) ⟨av,ax,trivial,trivial⟩ am ((s.x+s.y)/2) 0 _ (by rw[gV];simp) (by simp[aE.size]) (by simp[aE.size]))) ?_;rintro _ _ ⟨rfl,rfl⟩;apply ak _
  all_goals
   apply ak _;exact aR ⟨_,[],⟨(bH _ _ _ _ _).1,⟨⟨av,ax⟩,trivial,trivial⟩,(bH _ _ _ _ _).2⟩,λa bS=>by simp[aE.bG]at bS,rfl,rfl⟩ (λh s=>C.bl (λ_ az=>C.bl (λh az=>wJ cT h az) az) (Cp (M:=F::H) cT h s).swap)
 | .node b mid A c j R aq q ar W I,s,H,bB,a0,a3,aT,aV,aS,bA=>by
  have bY:=λM h1 ae=>r1 W s M h1 a0.2.1 a3 aT aV ae;have bZ:=λM h1 ae=>r1 I s M h1 a0.2.2 a3 aT aV ae;have ap:=Pf a0;let⟨bi,ch,ci,cj,bm,bn⟩:=bB;have bV:=bi;let⟨a4,a7,br,bv,bz⟩:=bV;have bT:=Hq bi;have cl:aa q=aa j:=by rw[a7,gV]
  simp only[aE.bU,b9,not_or]at aS;simp only[aE.bU,b4]at bA;have bR:(aE.node b mid A c j R aq q ar W I).bU=j++(W.bU++I.bU):=rfl;rw[bR];have cm:=λM=>zH ap b mid ar M;have aB:=λM=>r9 b mid s M;apply O.open (ι:=Unit) (D:=λ_=>True) (E:=λ_=>uB b mid A c j R aq q ar W I) (λ_ h=>⟨(),trivial,h⟩) λ_ _=>?_
  show O _ _ _ (ah b 419 (pU mid A (aa j) c R (aa q) aq W.Z I.Z ar)::E 44 3 A (aa j) c (J j)::E 44 3 R (aa q) aq (J q)::fr W::fr I::H) _
  by_cases aZ:s.y<mid
  .have aM:iI mid s=0:=by unfold iI;rw[bJ aZ]
   rw[aM]at aB;refine bt λ{g F}=>?_;apply bg λbb=>?_;apply a9 (aB _ ec) _;apply hZ 5 (bE [0,1,2,3,4,5,6,7,8,10,11] (.e 9 (.q 12 (.e 13 .nil)))) _;refine fc p (iU p p aw aw) ?_;apply ak _;refine jl (O.pick aN (bY _ bm aS.2.1 ad)) ?_;rintro _ _ ⟨D,aG,⟨bo,bp,aA⟩,bh,rfl,rfl⟩;refine fc p (iU p p aw aw) ?_;apply dl _;have be:=aA.length_eq;simp only[f0]at be;have aQ:aE.pe mid j q D.bU I.bU:=⟨a4,a7,br,λaz bj=>(df.1 (aA.subset bj)).elim (λh=>h▸aZ) (bv az),bz⟩;apply ak _;refine aP (O.pre (M:=hG b mid A c j R aq q ar D I (F::hH aG::H)) (by unfold hG;exact au) (n3 ⟨ap.ai,ap.q,bp,ap.hi⟩ b mid ar _ aQ bo bn ad (s::(j++(W.bU++I.bU))) (((aA.append_right _).append_left j).trans fA))) ?_;rintro _ _ ⟨aI,aH,⟨aW,aX,aY⟩,aO,rfl,rfl⟩;apply ak _;exact aR ⟨aI,aH++aG,⟨aW,aX,aY⟩,QL bh aO,rfl,rfl⟩ DI
  .by_cases bc:mid<s.x
   .have aM:iI mid s=1:=by unfold iI;rw[a8 aZ,bJ bc]
    rw[aM]at aB;refine bt λ{g F}=>?_;apply bg λbb=>?_;apply a9 (aB _ ec) _;apply hZ 6 (bE [0,1,2,3,4,5,6,7,8,10,11] (.e 9 (.q 12 (.e 13 .nil)))) _;refine fc p (iU p p aw aw) ?_;apply ak _;refine jl (O.pick aN (bZ _ bn aS.2.2 ad)) ?_;rintro _ _ ⟨D,aG,⟨bo,bp,aA⟩,bh,rfl,rfl⟩;refine fc p (iU p p aw aw) ?_;apply dl _;have be:=aA.length_eq;simp only[f0]at be;have aQ:aE.pe mid j q W.bU D.bU:=⟨a4,a7,br,bv,λaz bj=>(df.1 (aA.subset bj)).elim (λh=>h▸bc) (bz az)⟩;apply ak _;refine aP (O.pre (M:=hG b mid A c j R aq q ar W D (F::hH aG::H)) (by unfold hG;exact au) (n3 ⟨ap.ai,ap.q,ap.lo,bp⟩ b mid ar _ aQ bm bo ad (s::(j++(W.bU++I.bU))) ((((aA.append_left _).trans fA).append_left j).trans fA))) ?_;rintro _ _ ⟨aI,aH,⟨aW,aX,aY⟩,aO,rfl,rfl⟩;apply ak _;exact aR ⟨aI,aH++aG,⟨aW,aX,aY⟩,QK bh aO,rfl,rfl⟩ DI
   .have aM:iI mid s= -1:=by unfold iI;rw[a8 aZ,a8 bc]
    rw[aM]at aB;have aQ:=ab0 bi aS.1 ad;have b2:∀M,Rd (E 44 3 A (aa j) c (J j)::M) A (aa j) j:=λM=>bf.E (ck _) ap.ai.a;have b3:∀M,Rd (E 44 3 R (aa q) aq (J q)::M) R (aa q) q:=λM=>bf.E (ck _) ap.q.a;have b5:=λM h=>(My rN hu A (aa j) c j s M h ad a4).made;have b6:=λM h=>(My Gz ow R (aa q) aq q s M h ad bT).made;have cn:aa (fU aj.less s j)=aa j+1:=ae8 s j;have b7:=xI (av:=aj.less) s j;generalize fU aj.less s j=b0 at*
    generalize fU aj.ends s q=b1 at*
    refine bt λ{g F}=>?_;apply bg λbb=>?_;apply a9 (aB _ ec) _;apply fK (bE [0,1,2,3,4,5,6,8,9,10,11,12] (.e 7 (.e 13 (.q 14 (.q 15 (.e 16 (.q 17 (.q 18 (.e 19 .nil))))))))) _;apply dV (b5 _ (bx b2)) _;rintro _ _ ⟨bI,bM,rfl,ca,cb,cc,rfl⟩;apply cV _;apply dV (b6 _ (bx b3)) _;rintro _ _ ⟨bK,bP,rfl,av,ax,ce,rfl⟩;apply cV _;apply dl _
    all_goals
     apply ak _;refine aP (O.pre (M:=hG b mid bI bM b0 bK bP b1 ar W I (F::H)) (by unfold hG;exact au) (n3 ⟨⟨ca,cb,cc⟩,⟨av,ax,ce⟩,ap.lo,ap.hi⟩ b mid ar _ aQ bm bn ad (s::(j++(W.bU++I.bU))) (b7.append_right _))) ?_;rintro _ _ ⟨aI,aH,⟨aW,aX,aY⟩,aO,rfl,rfl⟩;apply ak _;exact aR ⟨aI,aH,⟨aW,aX,aY⟩,aO,rfl,rfl⟩
def uc:∀(H)(s)(am:Q),H.ok->H.fit->s∈H.bU->aa H.bU<=900->
  Y 510 #[.pointer H.Z,s.v] (fr H::am) λv bn=>Fu H.bG (H.bU.erase s) am v bn
 | .nil,s,am,aS,aO,aQ,bi=>by simp[aE.bU]at aQ
 | .node b mid A c j R ap q W C D,s,am,aS,aO,aQ,bi=>by
  have bH:=aS.fair s aQ;let⟨bM,bP,bR⟩:=aS.adh bH aQ;have bK:=λM h1 ae=>uc C s M h1 aO.2.1 ae;have bL:=λM h1 ae=>uc D s M h1 aO.2.2 ae;have I:=Pf aO;let⟨aX,b2,b3,b5,a0,a3⟩:=aS;have bz:=aX;let⟨aT,aK,aL,aV,bc⟩:=bz;have bw:=Hq aX;have bB:q.Perm j:=aK▸f8 j;have b6:aa q=aa j:=by rw[aK,gV]
  simp only[aE.bU,b4]at bi;have br:(aE.node b mid A c j R ap q W C D).bU=j++(C.bU++D.bU):=rfl;rw[br];have b7:=λM=>zH I b mid W M;have ar:=λM=>r9 b mid s M;apply O.open (ι:=Unit) (D:=λ_=>True) (E:=λ_=>uB b mid A c j R ap q W C D) (λ_ h=>⟨(),trivial,h⟩) λ_ _=>?_
  show O _ _ _ (ah b 419 (pU mid A (aa j) c R (aa q) ap C.Z D.Z W)::E 44 3 A (aa j) c (J j)::E 44 3 R (aa q) ap (J q)::fr C::fr D::am) _
  by_cases aA:s.y<mid
  .have aB:iI mid s=0:=by unfold iI;rw[bJ aA]
   rw[aB]at ar;have U:=bM aA;have aY:s∉j:=λh=>by have:=aL s h;omega
   have aD:(j++(C.bU++D.bU)).erase s=j++(C.bU.erase s++D.bU):=by
    rw[EW _ aY,Lb _ U]
   have bh:=vA U;rw[aD];refine bt λ{g F}=>?_;apply bg λbe=>?_;apply a9 (ar _ ec) _;apply hZ 5 (bE [0,1,2,3,4,5,6,7,8,10,11] (.e 9 (.q 12 (.e 13 .nil)))) _;refine fc p (iU p p aw aw) ?_;apply ak _;refine jl (O.pick aN (bK _ a0 U ad)) ?_;rintro _ _ ⟨H,av,⟨a7,bb,aq⟩,aW,rfl,rfl⟩;refine fc p (iU p p aw aw) ?_;apply dl _;have bv:=aq.length_eq;have aG:aE.pe mid j q H.bU D.bU:=⟨aT,aK,aL,λa4 aZ=>aV a4 (q3 (aq.subset aZ)),bc⟩;apply ak _;refine aP (O.pre (M:=hG b mid A c j R ap q W H D (F::hH av::am)) (by unfold hG;exact au) (n3 ⟨I.ai,I.q,bb,I.hi⟩ b mid W _ aG a7 a3 ad (j++(C.bU.erase s++D.bU)) ((aq.append_right _).append_left j))) ?_;rintro _ _ ⟨az,ax,⟨aH,aI,aJ⟩,aF,rfl,rfl⟩;apply ak _;exact aR ⟨az,ax++av,⟨aH,aI,aJ⟩,QL aW aF,rfl,rfl⟩ DI
  .by_cases aM:mid<s.x
   .have aB:iI mid s=1:=by unfold iI;rw[a8 aA,bJ aM]
    rw[aB]at ar;have U:=bP aM;have aY:s∉j:=λh=>by have:=aL s h;omega
    have bI:s∉C.bU:=λh=>by have:=aV s h;omega
    have aD:(j++(C.bU++D.bU)).erase s=j++(C.bU++D.bU.erase s):=by
     rw[EW _ aY,EW _ bI]
    have bh:=vA U;rw[aD];refine bt λ{g F}=>?_;apply bg λbe=>?_;apply a9 (ar _ ec) _;apply hZ 6 (bE [0,1,2,3,4,5,6,7,8,10,11] (.e 9 (.q 12 (.e 13 .nil)))) _;refine fc p (iU p p aw aw) ?_;apply ak _;refine jl (O.pick aN (bL _ a3 U ad)) ?_;rintro _ _ ⟨H,av,⟨a7,bb,aq⟩,aW,rfl,rfl⟩;refine fc p (iU p p aw aw) ?_;apply dl _;have bv:=aq.length_eq;have aG:aE.pe mid j q C.bU H.bU:=⟨aT,aK,aL,aV,λa4 aZ=>bc a4 (q3 (aq.subset aZ))⟩;apply ak _;refine aP (O.pre (M:=hG b mid A c j R ap q W C H (F::hH av::am)) (by unfold hG;exact au) (n3 ⟨I.ai,I.q,I.lo,bb⟩ b mid W _ aG a0 a7 ad (j++(C.bU++D.bU.erase s)) ((aq.append_left _).append_left j))) ?_;rintro _ _ ⟨az,ax,⟨aH,aI,aJ⟩,aF,rfl,rfl⟩;apply ak _;exact aR ⟨az,ax++av,⟨aH,aI,aJ⟩,QK aW aF,rfl,rfl⟩ DI
   .have aB:iI mid s= -1:=by unfold iI;rw[a8 aA,a8 aM]
    rw[aB]at ar;have U:=bR aA aM;have bA:s∈q:=bB.symm.subset U;have aD:(j++(C.bU++D.bU)).erase s=j.erase s++(C.bU++D.bU):=Lb _ U;have bh:=vA U;rw[aD];have aG:=abZ (s:=s) aX;have bT:∀M,Rd (E 44 3 A (aa j) c (J j)::M) A (aa j) j:=λM=>bf.E (ck _) I.ai.a;have bV:∀M,Rd (E 44 3 R (aa q) ap (J q)::M) R (aa q) q:=λM=>bf.E (ck _) I.q.a;have bY:=λM h=>N6 (L2 rN hu A (aa j) c j s M h ad aT U);have bZ:=λM h=>N6 (L2 Gz ow R (aa q) ap q s M h ad bw bA);generalize j.erase s=bj at*
    generalize q.erase s=bS at*
    refine bt λ{g F}=>?_;apply bg λbe=>?_;apply a9 (ar _ ec) _;apply dV (bY _ (bx bT)) _;rintro _ _ ⟨bl,bo,rfl,b0,rfl⟩;apply cV _;apply dl _
    all_goals
     apply ak _;apply dV (bZ _ (bx bV)) _;rintro _ _ ⟨bm,bp,rfl,b1,rfl⟩;apply cV _;apply dl _
     all_goals
      apply ak _;refine aP (O.pre (M:=hG b mid bl bo bj bm bp bS W C D (F::am)) (by unfold hG;exact au) (n3 ⟨b0,b1,I.lo,I.hi⟩ b mid W _ aG a0 a3 ad (bj++(C.bU++D.bU)) (.refl _))) ?_;rintro _ _ ⟨az,ax,⟨aH,aI,aJ⟩,aF,rfl,rfl⟩;apply ak _;exact aR ⟨az,ax,⟨aH,aI,aJ⟩,aF,rfl,rfl⟩
def aaY(C D)(h1:1<=C)(ae:C<=1048576):Y 86 #[j C] D λv H=>∃E,v=.tuple #[I E,j 0]/\H=Uv E C []::D:=by
 refine bt λ{g F}=>?_;apply bg λJ=>?_;exact aR ⟨J,rfl,rfl⟩ (λh s=>(Zr (D:=.nil) (M:=F::D) ⟨trivial,trivial,.refl _⟩ Ae h s).swap)
def aaW(aq D C s)(aF:Q)(E)(o:nE C E)(aV:aa C<=800):
  Y 456 #[I aq,s.v] (ah aq 252 [.pointer E.Z,j D]::fr E::aF) λv aI=>v=j (hF D C s)/\∃W aE,nE (uy D C s) W/\(∀a∈E.bG,iC W aE a)/\aI=ah aq 252 [.pointer W.Z,j D]::fr W::hH aE::aF:=by
 let⟨U,ax,am⟩:=o;have aT:=am.length_eq;have aW:=U.size;have ar:∀M,pA (ah aq 252 [.pointer _,.int _ D]::fr E::M) aq E D:=λM=>⟨a5.ah p,a5.ah p,(rI E M ax).ap⟩;have ai:=Br s;have R:=λM h=>P2 (t:=aq) (bT:=D) (L:=M) h s U ad;rw[U.PN]at R;have aG:=am.mem_iff (a:=s);rw[show decide _=decide _ from decide_eq_decide.2 aG]at R;cases aA:je s with
 |false=>
  have H:hF D C s=1:=by simp_all[hF,bJ]
  have J:uy D C s=C:=a8 ad;rw[H,J];rw[aA]at ai;refine aD ?_;refine bg λaz=>?_;apply a9 (ai _) _;exact aR ⟨rfl,E,[],⟨U,ax,am⟩,λa av=> .inl av,rfl⟩ DJ
 |true=>
  rw[aA]at ai
  by_cases aB:s∈C
  .have H:hF D C s=5:=by simp_all[hF,a8,bJ]
   have J:uy D C s=C:=a8 ad;rw[H,J];rw[cO aB]at R;refine aD ?_;refine bg λaz=>?_;apply a9 (ai _) _;apply a9 (R _ (bx ar)) _;exact aR ⟨rfl,E,[],⟨U,ax,am⟩,λa av=> .inl av,rfl⟩ DJ
  .rw[cw aB]at R
   by_cases aS:D<=aa C
   .have H:hF D C s=4:=by simp_all[hF,a8,bJ]
    have J:uy D C s=C:=a8 ad;rw[H,J];refine aD ?_;refine bg λaz=>?_;apply a9 (ai _) _;apply dQ (R _ (bx ar)) _;apply fK (bE [0,1,2,3,5,6,7,8] (.e 4 (.q 9 (.q 10 .nil)))) _;refine dM (w9 E _ (by repeat' first|exact(ar _).i|apply fa.ap)) ?_;exact aR ⟨rfl,E,[],⟨U,ax,am⟩,λa av=> .inl av,rfl⟩ DJ
   .have H:hF D C s=0:=by simp_all[hF,a8]
    have J:uy D C s=C++[s]:=bJ H;let⟨aJ,aK,aL⟩:=Z6 aA;simp[ew,Bool.and_eq_true,decide_eq_true_eq]at aK aL;rw[H,J];refine aD ?_;refine bg λaz=>?_;apply a9 (ai _) _;apply dQ (R _ (bx ar)) _;apply fK (bE [0,1,2,3,5,6,7,8] (.e 4 (.q 9 (.q 10 .nil)))) _;refine nW p p (w9 E _ (by repeat' first|exact(ar _).i|apply fa.ap)) ?_;iterate 2 apply bu _
    apply fO _;refine e9 p (cw ad) ?_;apply bs _;apply hZ 3 (bE [0,1,2,3,4,5] (.e 6 (.q 7 (.q 8 (.e 9 .nil))))) _;refine jl (O.pick aN (r1 E s _ U ax aJ ad ad (λh=>aB (aG.1 h)) ad)) ?_;rintro _ _ ⟨W,aH,⟨aO,aP,aQ⟩,aM,rfl,rfl⟩;apply ak _;exact aR ⟨rfl,W,aH,⟨aO,aP,aQ.trans ((List.Perm.cons s am).trans (List.perm_append_singleton s C).symm)⟩,aM,rfl⟩
def aaS(R U D s)(av:Q)(C)(o:nE D C)(aL:aa D<=800):
  Y 457 #[I R,s.v] (ah R 252 [.pointer C.Z,j U]::fr C::av) λv aA=>v=j (mL D s)/\∃E ar,nE (D.erase s) E/\(∀a∈C.bG,iC E ar a)/\aA=ah R 252 [.pointer E.Z,j U]::fr E::hH ar::av:=by
 let⟨W,aq,ai⟩:=o;have aK:=ai.length_eq;have aJ:∀M,pA (ah R 252 [.pointer _,.int _ U]::fr C::M) R C U:=λM=>⟨a5.ah p,a5.ah p,(rI C M aq).ap⟩;have H:=λM h=>P2 (t:=R) (bT:=U) (L:=M) h s W ad;rw[W.PN]at H;have ax:=ai.mem_iff (a:=s);rw[show decide _=decide _ from decide_eq_decide.2 ax]at H
 by_cases J:s∈D
 .have am:mL D s=0:=bJ J;rw[am];rw[cO J]at H;refine aD ?_;refine bP λaB=>?_;refine f1 p (H _ (by simp_all[pA.ap])) ?_;refine a6 (gz p) ?_;apply aC _;apply bs _;apply hZ 3 (bE [0,1,2,3,4,5] (.e 6 (.q 7 (.q 8 (.e 9 .nil))))) _;refine jl (O.pick aN (uc C s _ W aq (ax.2 J) ad)) ?_;rintro _ _ ⟨E,az,⟨aG,aH,aI⟩,aE,rfl,rfl⟩;apply ak _;exact aR ⟨rfl,E,az,⟨aG,aH,aI.trans (ai.erase s)⟩,aE,rfl⟩
 .have am:mL D s=6:=a8 J;rw[am,List.erase_of_not_mem J];rw[cw J]at H;refine aD ?_;refine bP λaB=>?_;refine a9 (H _ (by simp_all[pA.ap])) ?_;exact aR ⟨rfl,C,[],⟨W,aq,ai⟩,λa aF=> .inl aF,rfl⟩ DJ
end S.eT
namespace S.eT
def nD(H:Nat)(E:Int)(l:List aj)(S:List Nat):aG:=λh=>∃D:aE×List aE,(nE l D.1/\∀a∈S,iC D.1 D.2 a)/\C [ah H 252 [.pointer D.1.Z,j E],fr D.1,hH D.2] h
def acE{H I D E}(h:∀a∈H.bG,iC I E a){a}(j:iC H D a):iC I (E++D) a:=by
 rcases j with j|⟨y,C,j⟩
 .rcases h a j with h|⟨y,C,h⟩
  .exact .inl h
  .exact .inr ⟨y,b9.2 (.inl C),h⟩
 .exact .inr ⟨y,b9.2 (.inr C),j⟩
section
variable{P:bk}{f:dc}{args:Array a2}{L:Q}{t:Nat}{bT:Int}{l:List aj}{S:List Nat}
def O.Uw{W:a2->Prop}{U}(R:∀(I)(M:Q),nE l I->O P f args (ah t 252 [.pointer I.Z,j bT]::fr I::M) λv D=>W v/\∃E H,nE U E/\(∀a∈I.bG,iC E H a)/\D=ah t 252 [.pointer E.Z,j bT]::fr E::hH H::M):
  O P f args (nD t bT l S::L) λv D=>W v/\D=nD t bT U S::L:=by
 have aq:∀(J:aE×List aE),(nE l _/\∀a∈S,iC _ _ a)->O P f _ _ λv D=>W v/\D=nD t bT U S::L:=λJ o=>
  (R J.1 (hH J.2::L) o.1).cr λv D av ⟨Y,E,H,ar,am,ai⟩ q=>⟨_,⟨Y,rfl⟩,by
   subst ai;have aM:=C.bl (λ_ s=>C.bl (λ_ s=>Oo cT _ s) s) q;exact C.fold (λh q=>⟨(E,H++J.2),⟨ar,λa ap=>acE am (o.2 a ap)⟩,q⟩) aM⟩
 exact O.open (ι:=aE×List aE) (λ_ h=>h) aq
end
def V0(H D C E S)(J:Q)(U:aa C<=800):aY 456 #[I H,E.v] (nD H D C S::J) (j (hF D C E)) (nD H D (uy D C E) S::J):=
 O.Uw λR M o=>aaW H D C E M R o U
def VZ(E H C D S)(J:Q)(U:aa C<=800):aY 457 #[I E,D.v] (nD E H C S::J) (j (mL C D)) (nD E H (C.erase D) S::J):=
 O.Uw λR M o=>aaS E H C D M R o U
def abz{j}{D:Q}{h}(s:C (hH j::D) h):∀E∈j,E.sC:=by
 let⟨_,_,_,_,_,q,_⟩:=s;exact q.1
def Qj:∀{j}{D}{J:Q},(∀D∈j,D.sC)->D∈j->fa (hH j::J) D
 |y::j,D,J,H,h=>by
  have O:∀h,hH (y::j) h->C _ h:=λh s=>C.bl (λ_ s=>by
   obtain⟨h1,ae,U,R,W,a,_⟩:=C.join (L:=[]) (by simpa using s);exact C.up (C.one (X:=hH j) ⟨λI E=>H I (gn _ E),a⟩) R) (show C _ h from s.2)
  rcases df.1 h with rfl|h
  .exact fa.qP O (rI _ _ (H _ ll).fit)
  .exact fa.qP O ((Qj (λI E=>H I (gn _ E)) h).ap)
def V2(D H)(h1:1<=D)(ae:D<=1048576):Y 86 #[j D] H λv J=>∃E,v=.tuple #[I E,j 0]/\J=nD E D [] []::H:=
 (aaY D H h1 ae).cr λv J ap ⟨E,R,U⟩ q=>⟨_,⟨E,R,rfl⟩,by
  subst U;let⟨W,Z,Q,ah,ai,⟨O,o,q⟩,am⟩:=q;refine⟨W,Z,Q,ah,ai,⟨(O,[]),⟨o,λa h=>by grind⟩,?_⟩,am⟩;exact C.bl (λ_ q=>C.bl (λ_ q=>wJ cT _ q) q) q⟩
instance aje:d3 aE:=⟨1,λj=>[.pointer j.Z],λ_=>rfl,λ_ v h=>by simp at h;subst h;rfl⟩
def be(b:Nat)(H:Int)(l:List aE):aG:=λh=>∃D:Option cg×Nat,(0<aa l->∃b,D.1=(U b))/\C [ah b 602 [.slice D.1 (aa l) D.2,j H],E 250 1 D.1 (aa l) D.2 (J l)] h
def va{s D l M H}(h:C (be s D l::M) H):∃A c,(0<aa l->∃b,A=(U b))/\aa l<=c/\c<=maxLen/\C (ah s 602 [.slice A (aa l) c,j D]::E 250 1 A (aa l) c (J l)::M) H:=by
 let⟨h1,ae,O,W,Y,⟨⟨A,c⟩,R,q⟩,Z⟩:=h;have I:=E.facts (L:=[]) q.tail;exact⟨A,c,R,I.2.1,I.2.2.1,C.head (A:=λh=>h=h1) (N:=[ah s 602 [.slice A (aa l) c,j D],E 250 1 A (aa l) c (J l)]) (λ_ Q=>Q▸q) ⟨h1,ae,O,W,Y,rfl,Z⟩⟩
def O.p8{D H args C b Q l W}
  (R:∀A c,(0<aa l->∃b,A=(U b))->aa l<=c->c<=maxLen->O D H args (ah b 602 [.slice A (aa l) c,j Q]::E 250 1 A (aa l) c (J l)::C) W):O D H args (be b Q l::C) W:=λg F Z I=>by
 let⟨A,c,h1,ae,an,Y⟩:=va I.s.swap;exact R A c h1 ae an g F Z ⟨I.g,Y.perm (fA (l₁:=[_,_]))⟩
def n1{D M b c A H l}(O:0<aa l->∃b,A=(U b))(I:aS D (ah b 602 [.slice A (aa l) c,j H]::E 250 1 A (aa l) c (J l)::M)):aS D (be b H l::M):=λh s=>
 C.fold (N:=[_,_]) (λh q=>⟨(A,c),O,q⟩) (I h s)
theorem tx{b C l j}(h:l.map aE.Z=j.map aE.Z):be b C l=be b C j:=by
 have D:∀{l j:List aE},l.map aE.Z=j.map aE.Z->J l=J j:=λ{l}=>by
  induction l with
  |nil=>simp
  |cons I l H=>intro j h;cases j with
   |nil=>grind
   |cons y j=>
    simp[so]at h;rw[h9,h9,H h.2];show[Value.pointer _]++ _=[Value.pointer _]++ _;grind
 have E:aa l=aa j:=by have:=congrArg aa h;grind
 unfold be;rw[E,D h]
def IB{D b c H j v C}(J:aa (v::j::C)=c*1)(O:2<=c)(Q:c<=maxLen):aS (ah b H (j::v::C)::D) (E H 1 (U b) 2 c [j,v]::D):=λh s=>by
 let⟨h1,ae,I,R,W,q,Y⟩:=s;exact⟨h1,ae,I,R,W,E.gP (n:=2) (c:=c) (eF:=1) (j:=j::v::C) q J O Q,Y⟩
theorem JR(j v C):eS (eS (j::v::C) (0+0*1) [v]) (0+1*1) [j]=v::j::C:=by
 rw[lh (j::v::C) _ _ ao,lh _ _ _ ao];simp
attribute [local irreducible] C
abbrev mV:Nat:=250
abbrev Ke:Nat:=567
abbrev Kf:Nat:=600
abbrev tF:Nat:=708
abbrev qZ:Nat:=710
abbrev vn:Type:=aE
def sr{D}{c1 c2:bz}{E}{po_:List aG->Prop}[H:cu ar D](h:Y D (c1++[]++c2).toArray E λv C=>po_ C):
  Y 166 #[.func (.func D) c1.toArray c2.toArray] E λv C=>v=.tuple #[.agg #[j 0,j 0],.bool false]/\po_ C:=Jn
def tY(C):Y 482 #[j 65536] C λv D=>∃b,v=.tuple #[I b,j 0]/\D=be b 65536 []::C:=Jx
def m9(b l C):aY 716 #[I b] (be b 65536 l::C) (j (l.length:Nat)) (be b 65536 l::C):=Jy
def AI(b A c C)(h:aU C b 0 2 [.slice A 0 c,j 65536]):aY 727 #[I b] C (.tuple #[.pointer none,.bool false]) C:=Jz
def AH(b A n c l)(D:aE)(C)(h:aU C b 0 2 [.slice A n c,j 65536])(E:Rd C A n (l++[D]))(J:n=l.length+1)(H:n<=65536):aY 727 #[I b] C (.tuple #[.pointer D.Z,.bool true]) C:=JA
def Al(b j):aY 723 #[I b] (be b 65536 []::j) (.tuple #[.pointer none,.bool false]) (be b 65536 []::j):=JB
def Ak(b l j C)(H:l.length+1<=65536):aY 723 #[I b] (be b 65536 (l++[j])::C) (.tuple #[.pointer j.Z,.bool true]) (be b 65536 l::C):=JC
def u1(b A C q l D j)(E:Rd j A C D)(H:l.length+C<=65536):aY 535 #[I b,.slice A C q] (be b 65536 l::j) (.tuple #[]) (be b 65536 (l++D)::j):=JD
def Ao(E H b A C q l D j)(ae:a5 j ⟨E,0,none⟩ (I b))(an:a5 j ⟨H,0,none⟩ (.slice A C q))(R:Rd j A C D)(Q:l.length+C<=65536):
  Y 534 #[I E,I H] (be b 65536 l::j) λv J=>J=be b 65536 (l++D)::j:=JE
def tW(b A D q l E C)(R:Rd C A D E)(Q:l.length+D<=65536):aY 484 #[I b,.slice A D q] (be b 65536 l::C) (j 0) (be b 65536 (l++E)::C):=JF
def vU(A n c)(l:List aE)(j)(D:Rd j A n l)(O:n<=1000000):
  Y 724 #[.slice A n c] j λv C=>Made 250 l j v C:=Jo
def yB(A c)(l:List aE)(D)(Q:0<l.length->∃b,A=(U b))(ae:l.length<=2):
  aY 725 #[.slice A l.length c] (E 250 1 A l.length c (J l)::D) (.tuple #[]) (E 250 1 A l.length c (J l.reverse)::D):=Jp
def lG(j:bk)(C:bq):Bool:=match j.underlying C with
 |some (.func _ _ _)=>ag
 | _=>al
class kC (j:bk) (C:bq):Prop where
 h:lG j C=ag
def kC.spec{j C}(D:kC j C):∃a b c,j.underlying C=some (.func a b c):=Jq
def wM{j O H}{U:Option Nat}{am C Q ai R W I y E a b}[J:kC j C](Z:aX H I=ab (.func E a b))(ah:aX H y=ab .nilFunc):bh j O H ⟨U,.binOp .eql C I y Q,am,ai,R,W⟩ (.bool al):=
 jU _ _ _ _ (λD=>by unfold eqGuard;split<;>rfl) Z ah λD=>by
  obtain⟨_,_,_,Y⟩:=J.spec;have ae:(eo C (.func E a b) .nilFunc).run j D=.ok al D:=by
   unfold eo;rw[show Op.maxDepth=9999+1 from rfl];unfold Op.equalIn;simp only[cM,run_underlying Y,dG];rfl
  show((do pure (.bool (<- eo C (.func E a b) .nilFunc)):Sem a2)).run j D= _;simp only[cM,ae,dG,Sem.run_pure]
instance:kC ar 707:=⟨cq⟩
structure h6 (S:Type)where
 V:S->aG
 ok:aE->S->Prop
 kids:aE->List aE
 gl:aE->S->S
 f:dc
 c1:List a2
 c2:List a2
 il:List aE->S->Nat->Prop
@[reducible] def e3 {S} (C:h6 S) (s n:Nat):List Value:=[I s,.func (.func C.f) C.c1.toArray C.c2.toArray,j (n:Nat)]
def AS{S}(D:h6 S)(j s n C):aY 721 #[I j] (ah j 710 (e3 D s n)::be s 65536 []::C) (.bool false) (ah j 710 (e3 D s n)::be s 65536 []::C):=Jr
def AR{S}(j J s n l C)(D:S)(H:Q)(U:cu ar j.f)(ai:∀M:List aG,(aS M H)->Y j.f (j.c1++[Value.pointer C.Z]++j.c2).toArray (j.V D::M) λv R=>Made 250 (j.kids C) (j.V (j.gl C D)::M) v R)(W:(j.kids C).length<=2)(ax:l.length<=60000)(az:n<=1000000000000):
  aY 721 #[I J] (ah J 710 (e3 j s n)::be s 65536 (l++[C])::j.V D::H) (.bool true) (ah J 710 (e3 j s (n+1))::be s 65536 (l++(j.kids C).reverse)::j.V (j.gl C D)::H):=Js
def Kb{S}(C R J E s l D)(H:S)(U:Q)(ai:cu ar C.f)(aq:∀M:List aG,(aS M U)->Y C.f (C.c1++[Value.pointer D.Z]++C.c2).toArray (C.V H::M) λv W=>Made 250 (C.kids D) (C.V (C.gl D H)::M) v W)(am:(C.kids D).length<=2)(ap:l.length<=60000):
  Y 720 #[I R,I J] (ah R 708 [I E]::ah J 3 [j (1:Nat)]::ah E 710 (e3 C s 0)::be s 65536 (l++[D])::C.V H::U)
   λv W=>W=ah R 708 [I E]::ah J 3 [j (1:Nat)]::ah E 710 (e3 C s 1)::be s 65536 (l++(C.kids D).reverse)::C.V (C.gl D H)::U:=Jt
def yI{S}(C:h6 S)(s l D E)(H:Q)(R:cu ar C.f)(ah:∀M:List aG,(aS M H)->Y C.f (C.c1++[Value.pointer D.Z]++C.c2).toArray (C.V E::M) λv J=>Made 250 (C.kids D) (C.V (C.gl D E)::M) v J)(U:(C.kids D).length<=2)(W:l.length<=60000):
  Y 717 #[I s,j (1:Nat),.func (.func C.f) C.c1.toArray C.c2.toArray] (be s 65536 (l++[D])::C.V E::H)
   λv J=>v=.tuple #[j (1:Nat),j 0]/\J=be s 65536 (l++(C.kids D).reverse)::C.V (C.gl D E)::H:=Ju
def Kc{S}(H:h6 S)(E D C s)(J:Q):
  Y 720 #[I E,I D] (ah E 708 [I C]::ah D 3 [j (1:Nat)]::ah C 710 (e3 H s 0)::be s 65536 []::J)
   λv R=>R=ah E 708 [I C]::ah D 3 [j (1:Nat)]::ah C 710 (e3 H s 0)::be s 65536 []::J:=Jv
def yH{S}(C:h6 S)(s)(D:Q):
  Y 717 #[I s,j (1:Nat),.func (.func C.f) C.c1.toArray C.c2.toArray] (be s 65536 []::D)
   λv E=>v=.tuple #[j (0:Nat),j 0]/\E=be s 65536 []::D:=Jw
end S.eT
namespace S.eT
def aE.np(C v:Int)(j:aE):Nat:=if C<=v then j.seen C v else if j.Z.isSome=ag then 1 else 0
def HN(j v:Int)(C:List aE):Nat:=(C.map (aE.np j v)).sum
def aE.ad4{H v}{E:aE}:∀D∈E.gU H v,D.Z.isSome=ag:=by
 cases E with
 |nil=>intro D j;unfold aE.gU at j;split at j<;>cases j
 |node b mid A c U R I q Q O J=>
  intro D j;unfold aE.gU at j;split at j
  .rcases b9.1 j with h|h
   .simp only[aE.rU]at h;split at h
    .rename_i C
     simp at h;subst h;exact C.2
    .cases h
   .simp only[aE.rV]at h;split at h
    .rename_i C
     simp at h;subst h;exact C.2
    .cases h
  .cases j
def CF{E D W}{I:Option Nat}{R Q O H J U C}(Z:aX W U=ab (j C)):
  bh E D W ⟨I,.call ⟨.builtin .max,#[U,.const (j 0)],Q⟩,R,O,H,J⟩ (j (C.toNat:Nat)):=by
 have h:=wP (P:=E) (L:=D) (d:=I) (aO:=R) (J:=Q) (pos:=O) (aT:=H) (a7:=J) (y:=.const (.int _ 0)) Z p;have Y:max C 0=((C.toNat:Nat):Int):=ao;rwa[Y]at h
@[reducible] def zE (s:Nat) (E v:Int) (A:a3) (D c C:Nat):List Value:=[I s,j E,j v,.slice A D c,j (C:Nat)]
def jg(b s:Nat)(H v:Int)(j:List Int)(D:Nat):aG:=λh=>∃y:Option cg×Nat,(0<aa j->∃b,y.1=(U b))/\C [ah b 573 (zE s H v y.1 (aa j) y.2 D),E 3 1 y.1 (aa j) y.2 (J j)] h
def PS{b s H O v j M D}(h:C (jg b s O v j H::M) D):∃A c,(0<aa j->∃b,A=(U b))/\aa j<=c/\c<=maxLen/\C (ah b 573 (zE s O v A (aa j) c H)::E 3 1 A (aa j) c (J j)::M) D:=by
 let⟨h1,ae,Q,Y,Z,⟨⟨A,c⟩,W,q⟩,ai⟩:=h;have I:=E.facts q.tail;exact⟨A,c,W,I.2.1,I.2.2.1,C.head (A:=λh=>h=h1) (λ_ R=>R▸q) ⟨h1,ae,Q,Y,Z,rfl,ai⟩⟩
def O.CX{D H args C b s Q Y v j W}
  (R:∀A c,(0<aa j->∃b,A=(U b))->aa j<=c->c<=maxLen->O D H args (ah b 573 (zE s Y v A (aa j) c Q)::E 3 1 A (aa j) c (J j)::C) W):O D H args (jg b s Y v j Q::C) W:=λg F ai I=>by
 let⟨A,c,h1,ae,an,Z⟩:=PS I.s.swap;exact R A c h1 ae an g F ai ⟨I.g,Z.perm (fA (l₁:=[_,_]))⟩
def Bl{O C g I D Y H b s R W v j}
  (h:∀A c,(0<aa j->∃b,A=(U b))->aa j<=c->c<=maxLen->G O C g I D Y (ah b 573 (zE s W v A (aa j) c R)::E 3 1 A (aa j) c (J j)::H)):G O C g I D Y (jg b s W v j R::H):=λa v ai Q=>by
 let⟨A,c,h1,ae,an,Z⟩:=PS Q.s;exact h A c h1 ae an a v ai ⟨Q.g,Z⟩
def qD{D M b s c H A I v j}(Q:0<aa j->∃b,A=(U b))(O:aS D (ah b 573 (zE s I v A (aa j) c H)::E 3 1 A (aa j) c (J j)::M)):aS D (jg b s I v j H::M):=λh R=>
 C.fold (N:=[_,_]) (λh q=>⟨(A,c),Q,q⟩) (O h R)
structure VT (D v:Int) (H:List Int) (E:Q) (l:List aE) (ids:List Int) (C:Nat):Prop where
 rest:C=HN D v l
 small:C<=60000
 ok:∀j∈l,fa E j/\j.ih/\j.Z.isSome=ag/\j.bU.length<=1000
 ids:ids++aaq D v l.reverse=H
@[reducible] def PT (b s:Nat) (D v:Int) (H:Nat) (J:List Int) (E:Q):h6 (List Int)where
 V:=λC=>jg b s D v C H
 ok:=λj C=>(fa E j/\j.ih/\aa j.bU<=1000)/\aa C<=1000000
 kids:=λj=>j.gU D v
 gl:=λj C=>C++j.kd D v
 f:=718
 c1:=[I b]
 c2:=[]
 il:=VT D v J E
theorem Pi:∀l:List aE,(J (sF l):bz)=J l
 | []=>rfl
 |x::l=>by
  have j:sF (x::l)=x.Z::sF l:=rfl;rw[j,h9,h9,Pi l];rfl
attribute [local irreducible] C bh b6
def Ft(C D v H)(h:fa H C)(ai:C.ih)(ah:aa C.bU<=100000):Y 722 #[.pointer C.Z,j D,j v] H λam W=>∃I Q O R,am=.tuple #[.slice I (aa (C.kd D v)) Q,.slice O (aa (C.gU D v)) R]/\
   ((0<aa (C.kd D v)->∃b,I=(U b))/\(0<aa (C.gU D v)->∃b,O=(U b)))/\
   W=E 3 1 I (aa (C.kd D v)) Q (J (C.kd D v))::E 250 1 O (aa (C.gU D v)) R (J (C.gU D v))::H:=by
 have:=Fs C D v H h ai ah;unfold mz at this;rw[Pi]at this;exact this
def aa5(b s Q C v D j H)(aB:fa H j)(ah:j.ih)(aO:aa j.bU<=1000)(aK:aa D<=1000000000):
  Y 718 #[I b,.pointer j.Z] (jg b s C v D Q::H) λaD aq=>Made 250 (j.gU C v) (jg b s C v (D++j.kd C v) Q::H) aD aq:=by
 have aA:=λM h=>Ft j C v M h ah ad;have aL:aa (j.kd C v)<=aa j.bU:=ah.PY;apply O.CX λA c aG aH aI=>?_;generalize j.gU C v=ai at*
 generalize j.kd C v=R at*
 have az:aa (D++R)=aa D+aa R:=b4;refine bt ?_;refine dV (aA _ (bx aB)) ?_;rintro _ _ ⟨aE,aF,U,W,rfl,⟨av,ax⟩,rfl⟩;apply cV _;apply aC _;refine GE (dH p p aN ((by repeat' first|exact bf.E (ck _) av|apply bf.ap)) ((e8 _)) bN ao aw aw) ?_;rintro _ _ ⟨am,ar,rfl,aJ,aM,aP,rfl⟩;apply ak _;refine ba (C:=E 250 1 U (aa ai) W (J ai)::jg b s C v (D++R) Q::H) p ds ?_ ⟨U,W,rfl,ax,rfl⟩;apply cP;exact aN;apply cP;exact aN;apply qD (c:=ar) (A:=am) bo;rw[az,gS];exact au
def aE.rt(j:aE):List aE:=if j.Z.isSome then[j]else[]
def aa4(am C aA aq v D)(h:pA D am C aA):
  Y 436 #[I am,j aq,j v] D λaB ar=>∃c s,aB=(I c)/\ar=jg c s aq v [] 0::be s 65536 C.rt::D:=by
 refine aD ?_;refine aP (tY _) ?_;rintro _ _ ⟨s,rfl,rfl⟩;apply aC _;apply a9 (aa0 h.ap.ap) _;cases C with
 |nil=>
  apply aC _;apply bg λH=>?_;apply bp (E.c7 3 1);exact aR ⟨H,s,rfl,rfl⟩ (by(repeat first|exact cf|apply qD (c:=0) (A:=af) db|apply ek _)<;>fail)
 |node b mid A c ai R J q ah W Q=>
  have ax:(aE.node b mid A c ai R J q ah W Q).rt=[aE.node b mid A c ai R J q ah W Q]:=rfl;rw[ax];generalize az:aE.node b mid A c ai R J q ah W Q=C at*
  have aF:C.Z=(U b):=by rw[<- az];rfl
  apply bs _;refine gJ p bo ?_;apply aC _;apply bd λav=>?_;refine dQ (O.pick aN (tW s (U av) 1 1 [] [C] _ ID bL)) ?_;apply bg λH=>?_;apply bp (E.c7 3 1);exact aR ⟨H,s,rfl,rfl⟩ (by(repeat first|exact cf|apply qD (c:=0) (A:=af) db|apply ek _)<;>fail)
def aaZ(E D J H v C)(h:pA C E D J):
  Y 397 #[I E,j H,j v] C λQ O=>∃c s,Q=(I c)/\O=jg c s H v [] 0::be s 65536 D.rt::C:=by
 refine aD ?_;refine aP (b3 (aa4 E D J H v C h)) ?_;rintro _ _ ⟨_,⟨c,s,rfl,rfl⟩,rfl⟩;apply gD _;exact aR ⟨c,s,rfl,rfl⟩
def abv(b s E C v l D J H)(aB:fa H D)(ax:D.ih)(av:aa D.bU<=1000)(aq:aa l<=60000)(az:aa J<=1000000000)(aO:E<=1000000000):
  Y 714 #[I b,j 1] (jg b s C v J E::be s 65536 (l++[D])::H) λaD U=>aD=.tuple #[j (1:Nat),.bool (decide ((aa (l++(D.gU C v).reverse):Int)=0))]/\U=jg b s C v (J++D.kd C v) (E+1)::be s 65536 (l++(D.gU C v).reverse)::H:=by
 have Q:=λM h=>yI (PT b s C v E [] []) s l D J M (inferInstanceAs (cu _ _)) h (D.Rt C v).2.1 aq;have aA:=λM h=>aa5 b s E C v J D M h ax av az;dsimp only at Q;generalize J++D.kd C v=R at*
 refine cR λ{g F}=>?_;apply bQ _;iterate 2 apply ay _
 apply ee _;iterate 2 apply ay _
 apply hl _;apply pb [1,1] _;apply Bl λA c ah aH aJ=>?_;apply dY _;refine f1 p (O.pre (dp (qD (c:=c) ah)) (Q (F::H) (λM ar=>aA M (aB.ap.mono ar)))) ?_;iterate 5 apply ay _
 apply ee _;iterate 2 apply ay _
 apply hl _;apply bp (j:=jg b s C v R E::be s 65536 (l++(D.gU C v).reverse)::F::H) (λ_ aE=>aE.swap);apply Bl λaF W ai aI aK=>?_;apply bQ _;iterate 8 apply ay _
 apply fv _;apply cc;apply bp (j:=jg b s C v R (E+1)::be s 65536 (l++(D.gU C v).reverse)::F::H) (dp (qD (c:=W) ai));apply Bl λaG Z am aL aM=>?_;apply aC _;apply a9 (O.pick aN (m9 s _ _)) _;exact aR bD (dp (qD (c:=Z) am))
def abw(b s C D v H)(E:Q)(ai:C<=1000000000):
  Y 714 #[I b,j 1] (jg b s D v H C::be s 65536 []::E) λW J=>W=.tuple #[j (0:Nat),.bool ag]/\J=jg b s D v H C::be s 65536 []::E:=by
 have U:=λM=>yH (PT b s D v C [] []) s M;refine cR ?_;refine bQ ?_;iterate 2 apply ay _
 apply ee _;iterate 2 apply ay _
 apply hl _;apply pb [1,1] _;apply Bl λA c R Z ah=>?_;apply dY _;apply dQ (O.pick aN (U _)) _;apply a9 (O.pick aN (m9 s _ _)) _;exact aR bD (dp (qD (c:=c) R))
def abf(b s C E v l D)(j:Q):Y 711 #[I b] (jg b s E v D C::be s 65536 l::j) λR H=>R=.bool (decide ((aa l:Int)=0))/\H=jg b s E v D C::be s 65536 l::j:=by
 apply O.CX λA c J U W=>?_;refine bt ?_;refine a9 (O.pick aN (m9 s l _)) ?_;exact aR bD (dp (qD (c:=c) J))
structure aE.BG (j:aE):Prop where
 ih:j.ih
 h8:j.bU.length<=1000
theorem aE.at_{a}:∀{D},a∈D.bG->D.BG->∃H:aE,H.Z=(U a)/\(∀j,fa j D->fa j H)/\(∀c∈H.bG,c∈D.bG)/\H.BG
 | .node b mid A c ai R Q q ah Y W,C,E=>by
  have O:=E.h8;simp[aE.bU,b4]at O;simp[aE.bG,df,b9]at C;rcases C with rfl|C|C
  .exact⟨_,rfl,λ_ h=>h,λ_ h=>h,E⟩
  .let⟨y,h1,ae,an,I⟩:=aE.at_ C ⟨E.ih.2.1,ad⟩;exact⟨y,h1,λj h=>ae j h.2.2.2.2.1,λc J=>gn _ (b9.2 (.inl (an c J))),I⟩
  .let⟨y,h1,ae,an,I⟩:=aE.at_ C ⟨E.ih.2.2,ad⟩;exact⟨y,h1,λj h=>ae j h.2.2.2.2.2,λc J=>gn _ (b9.2 (.inr (an c J))),I⟩
def acD{D C a}(h:iC D C a)(O:D.BG)(H:∀j∈C,j.sC):∃j:aE,j.Z=(U a)/\(∀E,fa E D->(∀y∈C,fa E y)->fa E j)/\(∀c∈j.bG,c∈D.bG++C.flatMap aE.bG)/\j.BG:=by
 rcases h with h|⟨y,I,h⟩
 .grind[aE.at_]
 .let⟨j,h1,ae,an,J⟩:=aE.at_ h ⟨(H y I).ih,(H y I).h8⟩;grind
def QJ{C j}:∀a∈C.bG++j.flatMap aE.bG,iC C j a:=λa D=>(b9.1 D).imp id λh=>kz.1 h
def HC{C j a}(h:iC C j a):a∈C.bG++j.flatMap aE.bG:=b9.2 (h.imp id λh=>kz.2 h)
def aE.pl(a:Nat):aE:=.node a 0 af 0 [] af 0 [] 0 .nil .nil
def aE.jb:aE->Nat
 | .nil=>0
 | .node b _ _ _ _ _ _ _ _ _ _=>b
theorem Rv{Q v}{C y:aE}(h:y∈C.gU Q v):y.Z=(aE.pl y.jb).Z/\y.jb∈C.bG:=by
 have U:=aE.ad4 y h;have h1:y.Z=(aE.pl y.jb).Z/\y.jb∈y.bG:=by
  cases y with
  |nil=>trivial
  |node=>exact⟨rfl,ll⟩
 refine⟨h1.1,?_⟩;cases C with
 |nil=>unfold aE.gU aE.dF at h;split at h<;>cases h
 |node b mid A c O R D q J I E=>
  exact aE.ad2 (j:=λH=>∀a∈H.bG,a∈(aE.node b mid A c O R D q J I E).bG) (λa j=>gn _ (b9.2 (.inl j))) (λa j=>gn _ (b9.2 (.inr j))) y h _ h1.2
structure kV where
 s:Nat
 u:Int
 v:Int
 di:List Int
 k:Nat
 a:List Nat
def sO(b:Nat)(y:kV):List aG:=[jg b y.s y.u y.v y.di y.k,be y.s 65536 (y.a.map aE.pl)]
def jy(b j:Nat)(S:List Nat):aG:=λh=>∃y:kV,jo j S y.a (aa y.di) y.k/\C (sO b y) h
def YO{b C D S j}(H:C<=D)(E:∀a∈S,a∈j):∀h,jy b C S h->jy b D j h:=λh ⟨y,o,q⟩=>⟨y,o.up H E,q⟩
theorem O.jy{D:bk}{H:dc}{args:Array a2}{C:Q}{b j:Nat}{S:List Nat}{J:a2->List aG->Prop}(R:∀s W v U I E,jo j S E (aa U) I->O D H args (jg b s W v U I::be s 65536 (E.map aE.pl)::C) J):O D H args (jy b j S::C) J:=
 O.open (ι:=kV) (D:=λy=>jo j S y.a (aa y.di) y.k) (E:=sO b) (λ_ h=>h) λy o=>R y.s y.u y.v y.di y.k y.a o
def wF{H M:Q}{b J s D O v S j E l}(o:jo J S j (aa E) D)(R:l.map aE.Z=(j.map aE.pl).map aE.Z)(I:aS H (jg b s O v E D::be s 65536 l::M)):aS H (jy b J S::M):=by
 rw[tx R]at I;exact λh U=>C.fold (λh q=>⟨⟨s,O,v,E,D,j⟩,o,q⟩) (I h U)
def Oy{H M:Q}{J I l S D E}(o:nE l D)(R:∀a∈S,iC D E a)(O:aS H (ah J 252 [.pointer D.Z,j I]::fr D::hH E::M)):aS H (nD J I l S::M):=λh s=>
 C.fold (N:=[_,_,_]) (λh q=>⟨(D,E),⟨o,R⟩,q⟩) (O h s)
def O.aif{W Y args}{U:Q}{J I l S ai}(R:∀D E,nE l D->(∀a∈S,iC D E a)->(∀C∈E,C.sC)->O W Y args (ah J 252 [.pointer D.Z,j I]::fr D::hH E::U) ai):O W Y args (nD J I l S::U) ai:=
 O.open (ι:=aE×List aE) (D:=λC=>nE l C.1/\(∀a∈S,iC C.1 C.2 a)/\∀y∈C.2,aE.sC y) (E:=λC=>[ah J 252 [.pointer C.1.Z,j I],fr C.1,hH C.2]) (λ_ ⟨C,o,q⟩=>⟨C,⟨o.1,o.2,abz q.tail.tail⟩,q⟩) λC H=>R C.1 C.2 H.1 H.2.1 H.2.2
def aa1(b am ar aq l S)(W:Q)(aH:am<=50000)(aW:aa l<=1000):Y 714 #[I b,j 1] (jy b am S::nD ar aq l S::W) λv az=>∃aA n aM,v=.tuple #[j (n:Nat),.bool aM]/\(∀a∈S,a∈aA)/\az=jy b (am+1) aA::nD ar aq l aA::W:=by
 apply O.jy λs D v R ai aK o=>?_;have aX:=o.i;have aY:=o.k;rcases List.eq_nil_or_concat aK with h|⟨J,a,h⟩
 .subst h;exact(abw b s ai D v R _ ad).cr λv az aH ⟨aB,aD⟩ q=>⟨_,⟨S,0,ag,aB,λa h=>h,rfl⟩,wF (o.up (Nat.le_succ am) λa h=>h) p cT _ (aD▸q)⟩
 .rw[List.concat_eq_append]at h;subst h;have aR:=o.n;rw[b4]at aR;apply O.pre Jc;apply O.aif λH ax g aF aJ=>?_;let⟨E,a0,aT,aV,av⟩:=acD (aF a (o.a a ao)) ⟨g.1.ih,by rw[g.2.2.length_eq];omega⟩ aJ;have aO:((J++[a]).map aE.pl).map aE.Z=(J.map aE.pl++[E]).map aE.Z:=by
   rw[ez,ez,ez];show _++[(U a)]= _++[E.Z];grind
  rw[tx aO];have aQ:∀M,fa (ah ar 252 [.pointer H.Z,j aq]::fr H::hH ax::M) E:=λM=>aT _ (rI H _ g.2.1).ap λy aI=>(Qj (J:=M) aJ aI).ap.ap;apply O.pre (M:=jg b s D v R ai::be s 65536 (J.map aE.pl++[E])::ah ar 252 [.pointer H.Z,j aq]::fr H::hH ax::W) au;refine(abv b s ai D v (J.map aE.pl) E R _ (aQ W) av.ih av.h8 bv ad ad).cr λaZ az aH ⟨aB,aD⟩ q=>⟨_,⟨H.bG++ax.flatMap aE.bG,1,_,aB,λa aP=>HC (aF a aP),rfl⟩,?_⟩;subst aD;have aL:aa (R++E.kd D v)<=aa R+1000:=by
   have h1:=av.ih.PY (C:=D) (v:=v);have ae:=av.h8;grind
  generalize R++E.kd D v=aS at*
  refine wF (s:=s) (O:=D) (v:=v) (E:=aS) (l:=J.map aE.pl++(E.gU D v).reverse) (j:=J++((E.gU D v).map aE.jb).reverse) (D:=ai+1) (o.next (λc aG=>HC (aF c aG)) (λc aG=>?_) (by rw[jM];exact(E.Rt D v).2.1) aL) ?_ ?_ aH q
  .obtain⟨y,aI,rfl⟩:=List.mem_map.1 aG;exact aV _ (Rv aI).2
  .rw[ez,ez,ez,<- List.map_reverse,yi (l:=(E.gU D v).reverse),yi (l:=(E.gU D v).reverse)];grind[List.map_congr_left,Rv]
  .exact λh q=>C.bl (λh q=>C.bl (λh q=>Oy g QJ cT h q) q) q
def aaU(b s W Z v j)(H:Q)(ar:aa j<=100000000):Y 712 #[I b] (jg b s Z v j W::H) λaq ah=>
  ∃C D,aq=.slice C (aa j) D/\(0<aa j->∃b,C=(U b))/\ah=E 3 1 C (aa j) D (J (b5 j))::jg b s Z v j W::H:=by
 refine O.CX λA c R av ax=>?_;have am:∀M:List aG,Rd (E 3 1 A _ c _::M) A _ j:=λM=>bf.E (ck _) R;refine aD ?_;refine aP (BI A _ c _) ?_;rintro _ _ ⟨ai,rfl,rfl⟩;refine aP (O.pick aN (BH ai A _ c j _ (bx am) ad)) ?_;rintro _ _ ⟨C,D,rfl,⟨ap,az,aA⟩,rfl⟩;apply gD _;exact aR ⟨C,D,rfl,ap,rfl⟩ (dp (qD (c:=c) R))
def aaT(b D S)(j:Q):Y 711 #[I b] (jy b D S::j) λv C=>(∃E,v=.bool E)/\C=jy b D S::j:=
 O.jy λs W Z U R ah o=>(abf b s R W Z _ U j).cr λv C ai ⟨H,J⟩ q=>⟨_,⟨⟨_,H⟩,rfl⟩,wF o p cT _ (J▸q)⟩
def aaX(b D S)(C:Q):Y 713 #[I b] (jy b D S::C) λv E=>(∃n,v=j n)/\E=jy b D S::C:=by
 apply O.jy λs J R ai ah U o=>?_;apply O.CX λA c H W Z=>?_;refine bt ?_;refine ba rfl ds ?_ ⟨⟨_,rfl⟩,rfl⟩;apply cP;exact aN;exact wF (s:=s) (O:=J) (v:=R) o p (dp (qD (c:=c) H))
def aaV(b D S)(H:Q)(Z:D<=50000):Y 712 #[I b] (jy b D S::H) (yy (jy b D S::H)):=
 O.jy λs ai am j ah aq o=>(aaU b s ah ai am j _ (by have:=o.i;omega)).cr λv ap Z ⟨R,U,ar,av,W⟩ q=>⟨E 3 1 R (aa (b5 j)) U (J (b5 j))::jy b D S::H,⟨R,U,b5 j,by rw[b5,ky];omega,by rw[b5,ky];omega,by rw[b5,ky];have:=o.i;omega,rfl⟩,by
  subst W;rw[show aa (b5 j)=aa j by rw[b5,ky]];exact C.bl (wF o p cT) q⟩
end S.eT
end
end Go.Proofs.YteinodmjohkmmaaGreat
