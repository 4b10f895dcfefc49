/- TopWhole: a part of its proof. -/
import Derived.IntWalk
import Derived.Laws.Entries
import Derived.Laws.MakeOwn
import Derived.Lib.AppendZeros
import Derived.Lib.Overlaps
import Derived.OpenShut
import Derived.Recover
import Derived.Sort.Grow
import Derived.Test.YteinodmjohkmmaaGreatProg
import Derived.Test.YteinodmjohkmmaaGreatMA0
set_option linter.all false
set_option maxRecDepth 100000
set_option maxHeartbeats 4000000
open Array renaming getElem?_append_left->Ki,getElem?_modify->Kj,length_toList->Kl,replicate->oz,toList_filter->EG
open Bool renaming and_eq_true->co,false->al,true->ag
open Classical renaming em->vs
open Go renaming Exit->jK,FuncId->dc,Oper->cI,Operand->cJ,Program->bk,TypeId->bq,Value->a2,World->dd
open Go.Addr renaming add_lit->kT
open Go.Addr.mk renaming injEq->EI
open Go.Builtin renaming append_->q0,clear_->nJ,copy_->Kr,delete_->xZ,firstCells->x0,lenOf->x1,nextslicecap->Ks,zeroCells->ft
open Go.Code renaming wp_mono->EK
open Go.Deferred renaming ofValue->oB
open Go.Instr renaming lookup->KG,makeInterface->KH,mapUpdate->AV,typeAssert->KK
open Go.Op renaming equal->eo,equalIn->lO,maxDepth->nK
open Go.Oper renaming wp->eg
open Go.Question renaming forced->U3
open Go.Region renaming wanted->i6
open Go.Result renaming andThen_ok->dG
open Go.Sem renaming run->KQ,run_bind->cM,run_map->x8,run_pure->e5
open Go.Sort renaming ahead->KR
open Go.World renaming frozen?->KW
open List renaming all_eq_true->nL,append_assoc->jm,cons_append->K7,ext_getElem?->vx,filter_cons_of_neg->vz,filter_cons_of_pos->EX,filter_eq_self->yb,getElem?_eq_getElem->b8,getElem?_eq_none->mw,getElem?_eq_some_iff->h2,getElem?_of_mem->ye,getElem?_take_of_lt->Lj,getElem_mem->gG,length->aa,length_append->b4,length_take->oE,mapM->yg,mapM_toArray->yh,map_append->ez,map_cons->fu,map_nil->mX,map_toArray->gY,mem_cons->df,mem_cons_of_mem->gn,mem_filter->ii,mem_of_getElem?->lQ,mem_range->kU,mergeSort_perm->Lu,nodup_cons->j3,pairwise_append->pr,pairwise_cons->gH,pairwise_mergeSort->Lx,perm_middle->fA,range->gZ,set_eq_take_append_cons_drop->LC,size_toArray->LD,takeWhile_append_dropWhile->yj,takeWhile_prefix->LI,take_append_drop->kk
open List.Perm renaming append_left->qh
open Nat renaming add_mul->nO,add_zero->vD,beq->aH,ble->da,eq_of_beq_eq_true->cy,eq_zero_or_pos->hh,le_of_ble_eq_true->fq,le_refl->bC,lt_or_ge->dZ,min_eq_left->LM,mod_lt->q6,mul_le_mul_right->oH,sub_mul->LS,succ_mul->LU,zero_add->h3,zero_le->bO
open Option renaming none->af,some->ab
open Option.some renaming injEq->tO
open Prod.mk renaming injEq->tP
open Go.RowKit
namespace Go.Proofs.YteinodmjohkmmaaGreat
noncomputable section
theorem lh:∀(j:bz)(D)(C:bz),D+aa C<=aa j->eS j D C=j.take D++C++j.drop (D+aa C)
 | [],D,C,h=>by
  simp_all[eS]
 |c::j,D,[],h=>by rw[tv];simp
 |c::j,0,v::C,h=>by
  have E:=lh j 0 C bo;simp_all[eS]
 |c::j,D+1,v::C,h=>by
  have E:=lh j D (v::C) bv;grind[eS]
theorem JL(C E:bz)(D j)(h:D+aa E<=j)(H:j<=aa C):
  (C.take D++E++C.drop (D+aa E)).take j=(C.take j).take D++E++(C.take j).drop (D+aa E):=by
 apply vx;intro I;grind
section
variable{e eF n c b:Nat}{A:a3}{xs:bz}{h:j5}
def E.rX(o:E e eF (U b) n c xs h):∃j,ah b e j h/\aa j=c*eF/\j.take (n*eF)=xs:=by
 rcases o.eC with ⟨C,_⟩|⟨I,D,C,J,O,H⟩
 .trivial
 .simp[tO,EI,and_true]at C;subst C;exact⟨D.toList,⟨ad⟩,ad,H⟩
theorem E.gP{j}(H:ah b e j h)(I:aa j=c*eF)(D:n<=c)(C:c<=maxLen):E e eF (U b) n c (j.take (n*eF)) h:=
 ⟨by simp_all,D,C,.inr ⟨b,j.toArray,rfl,H.eq,ad,rfl⟩⟩
theorem E.less(o:E e eF A n c xs h){j}(C:j<=n):E e eF A j c (xs.take (j*eF)) h:=by
 have R:j*eF<=n*eF:=oH _ C;refine⟨by rw[oE,o.len];omega,Nat.le_trans C o.le,o.cap,?_⟩;rcases o.eC with ⟨D,H,I⟩|⟨J,O,D,H,I,Q⟩
 .simp_all
 grind
def E.more(o:E e eF (U b) n c xs h){k}(h1:n<=k)(ae:k<=c):∃C:List a2,aa C=(k-n)*eF/\E e eF (U b) k c (xs++C) h:=by
 let⟨j,D,H,I⟩:=o.rX;have J:n*eF<=k*eF:=oH _ h1;have O:k*eF<=c*eF:=oH _ ae;refine⟨(j.take (k*eF)).drop (n*eF),by simp_all[LS],?_⟩;have:xs++(j.take (k*eF)).drop (n*eF)=j.take (k*eF):=by
  rw[<- I];have:=kk (n*eF) (j.take (k*eF));grind
 rw[this];exact E.gP D H ae o.cap
end
section
variable{P:bk}{g:d1}{L M:Q}{H:cU}{d:Option Nat}{aO T ci:bq}{pos:String}{aT:Array Edge}{a7:Option (Nat×Bool)}{x y z:cJ}{v u:a2}
def Ix{j:bz}(h:∀u∈j,u.oneCell'=ag):∀u∈j,qQ u=ag:=λu C=>by
 have:=h u C;assumption
def Pd{j n O q I E D}(U:bf L j I O E)(Y:C L D.hm)(am:n<=O):(x0 j n (.slice I O q)).run P D=.ok (E.take (n*j)).toArray D:=by
 have ai:aa (E.take (n*j))=n*j:=by
  rw[oE,U.1];simp_all
 have Z:∀a:Addr,(∀J v,(E.take _)[J]?=ab v->D.cell? _=ab v)->(loadCells a (n*j)).run P D=.ok (E.take (n*j)).toArray D:=λa h=>by
  have:=run_loadCells_list (P:=P) D a (E.take (n*j)) h;simp_all
 rcases hh n with R|R
 .subst R;cases I with
  |none=>simp[x0]
  |some a=>
   show(loadCells a _).run P D= _;simp_all
 .obtain⟨b,o,rfl,W⟩:=U.2 ad;apply Z _ λJ v ah=>?_;rw[kT];apply(W J v _).1 _ Y;grind
def Iy{j:bz}(h:∀u∈j,u.oneCell'=ag)(D):∀u∈j.take D,u.oneCell'=ag:=λu C=>h u (List.mem_of_mem_take C)
def C.none_{h}:C [] h:=trivial
theorem C.one{X h}(x:X h):C [X] h:=⟨h,λ_=>af,λ_=> .inr p,eV.refl _,λ_ _ j=>bv,x,trivial⟩
def Cs{I D n c j:Nat}{A}{R J:bz}{L M O:Q}(h:eH (E I D A n c R) L M)(Y:j<=n)(U:R.take (j*D)=J)(W:aS M O):aS L (E I D A j c J::O):=λ_ s=>
 C.head (N:=[E I D A j c J]) (λh o=>C.one (U▸o.less Y)) ((s.perm h.perm).bl W)
theorem bf.drop{L j b o n D}(h:bf L j (ab ⟨b,o,af⟩) n D){k c}(U:k<=n)(R:n<=c):bf L j (ab ⟨b,(if c=k then o else o+k*j),af⟩) (n-k) (D.drop (k*j)):=by
 refine⟨by rw[List.length_drop,h.1,LS],λO=>?_⟩;let⟨J,Y,E,I⟩:=h.2 ad;obtain⟨rfl,rfl⟩:=E;refine⟨b,o+k*j,by grind,λW v C=>?_⟩;rw[List.getElem?_drop]at C;rw[Nat.add_assoc];exact I _ _ C
def Cl{Z D aG b o R n c J ax I q:Nat}{ar:a3}{am O}[aE:eu P T (Z,D,aG)](bg:aX H x=ab (.slice (ab ⟨b,o,af⟩) J ax))(bh:aX H y=ab (.slice ar I q))
  (a0:eH (E Z D (U b) n c am) L M) (az:bf L D ar I O) (h1:∀u∈O.take (min I J*D),u.oneCell'=ag) (aZ:0<min I J->o=R*D) (aR:R+min I J<=n):
  b6 P g L H ⟨d,.call ⟨.builtin .copy,#[x,y],#[T,ci]⟩,aO,pos,aT,a7⟩ λbp aF=>bp=j (min I J:Nat)/\aF=E Z D (U b) n c (am.take (R*D)++O.take (min I J*D)++am.drop ((R+min I J)*D))::M:=λa W aA aB bx bz aK=>by
 let⟨bb,bK,aQ,a9,_⟩:=aE.spec;have aD:bj g _ W:=aB.mono λ_=>C.perm a0.perm;let⟨bm,bn,aJ,br,bt,ai,l⟩:=aD.s;let⟨ap,aL,aP,bI⟩:=ai.rX;have bJ:=ai.len;have be:bj g (ah b Z ap::M) W:=⟨aD.g,bm,bn,aJ,br,bt,aL,l⟩;have aW:=Pd (P:=P) (q:=q) az aB.s (Nat.min_le_left I J);have bH:aa (O.take (min I J*D))=min I J*D:=by
  rw[oE,az.1];simp
 have aS:(R+min I J)*D<=n*D:=oH _ aR;have bG:n*D<=c*D:=oH _ ai.le;have a8:∃Y,(storeCells ⟨b,o,af⟩ (O.take (min I J*D))).run P W=.ok () Y/\bj g (E Z D (U b) n c (am.take (R*D)++O.take (min I J*D)++am.drop ((R+min I J)*D))::M) Y:=by
  rcases hh (min I J)with aq|aq
  .refine⟨W,?_,?_⟩
   .rw[aq];simp[storeCells]
   .rw[aq];simp_all
  .have bA:=aZ aq;rw[nO]at aS;obtain⟨Y,av,ae⟩:=tz _ o 0 ap W (Ix h1) ad be;refine⟨Y,av,?_⟩;rw[vD]at ae;have bE:o+aa (O.take (min I J*D))<=aa ap:=ad;have aV:aa (eS ap o (O.take (min I J*D)))=c*D:=by rw[xQ,aP]
   let⟨bi,bl,aI,bv,bw,aM,bo⟩:=ae.s;have bB:=E.gP (eF:=D) aM aV ai.le ai.cap;refine⟨ae.g,bi,bl,aI,bv,bw,?_,bo⟩;grind[eS,JL,lh,nO]
 let⟨Y,av,bc⟩:=a8;have a4:(Kr #[T,ci] aO #[.slice (ab ⟨b,o,af⟩) J ax,.slice ar I q]).run P W=.ok (j (min I J:Nat)) Y:=by
  have aY:Nat.min I J=min I J:=rfl;simp[Kr,run_underlying bb,x1,sizeOf,typeInfo,aQ,a9,aY,aW,av,goInt]
 unfold eg;simp only[execOp,resolve,gY,fu,mX,aA.eval bg,aA.eval bh];simp[cM,e5,dG,invoke,builtin,a4];exact aK _ _ _ bD bc
def Y9{R D aE b j n c I q:Nat}{ai:a3}{Z J}[aB:eu P T (R,D,aE)](a8:aX H x=ab (.slice (U b) j c))(a9:aX H y=ab (.slice ai I q))
  (aV:eH (E R D (U b) n c Z) L M) (W:bf L D ai I J) (h1:∀u∈J,u.oneCell'=ag) (aQ:j<=n) (ar:j+I<=c):
  b6 P g L H ⟨d,.call ⟨.builtin .append,#[x,y],#[T,T]⟩,aO,pos,aT,a7⟩ λbi aD=>bi=.slice (U b) (j+I) c/\aD=E R D (U b) (j+I) c (Z.take (j*D)++J)::M:=λa Y av ax br bt aJ=>by
 let⟨a0,bw,aP,aY,_⟩:=aB.spec;have az:bj g (E R D (U b) n c Z::M) Y:=ax.mono λ_=>C.perm aV.perm;let⟨be,bg,aG,bl,bm,aA,l⟩:=az.s;let⟨O,aK,am,aZ⟩:=aA.rX;have a4:bj g (ah b R O::M) Y:=⟨az.g,be,bg,aG,bl,bm,aK,l⟩;have aq:=Pd (P:=P) (q:=q) W ax.s (bC I);rw[<- W.1,List.take_length]at aq;have aM:j*D+aa J<=aa O:=by rw[W.1,am,<- nO];simp_all[oH]
 let⟨bp,aI,ae⟩:=tz (P:=P) J (j*D) 0 O Y (Ix h1) ad a4;rw[vD]at ae;have aS:aa (eS O (j*D) J)=c*D:=by rw[xQ,am]
 let⟨bb,bc,aF,bn,bo,aL,bh⟩:=ae.s;have ap:=E.gP (eF:=D) (n:=j+I) aL aS ar aA.cap;have aR:j*D<=n*D:=oH _ aQ;have:(eS O (j*D) J).take ((j+I)*D)=Z.take (j*D)++J:=by
  rw[lh _ _ _ aM,<- aZ,List.take_take,LM aR,nO,<- W.1];have bv:aa (O.take (j*D)++J)=j*D+aa J:=by
   grind
  grind
 rw[this]at ap;have aW:(q0 #[T,T] aO #[.slice (U b) j c,.slice ai I q]).run P Y=.ok (.slice (U b) (j+I) c) bp:=by
  simp[q0,run_underlying a0,sizeOf,typeInfo,aP,aY,x1,ar,aq,kT,aI]
 unfold eg;simp only[execOp,resolve,gY,fu,mX,av.eval a8,av.eval a9];simp only[cM,e5,dG,invoke,builtin,aW];exact aJ _ _ _ bD ⟨ae.g,bb,bc,aF,bn,bo,ap,bh⟩
def GJ{R O Z b o n c}{l h j:Nat}{aF aM W aA aB aD}[Y:eu P T (R,O,Z)](az:aX H x=ab (.slice (ab ⟨b,o,af⟩) n c))(ap:aX H aF=ab (.int aA l))(ai:aX H aM=ab (.int aB h))(aq:aX H W=ab (.int aD j))(h1:l<=h)(ae:h<=j)(an:j<=c):
  bh P L H ⟨d,.slice T x (ab aF) (ab aM) (ab W),aO,pos,aT,a7⟩ (.slice (ab ⟨b,(if j=l then o else o+l*O),af⟩) (h-l) (j-l)):=λa C D _=>by
 let⟨ax,aG,am,av,_⟩:=Y.spec;have J:∀(U:IntKind) (E y:Nat) (I:BoundsCode),E<=y->(Instr.sliceBound _ y I).run P C=.ok E C:=λU E y I aE=>by
  rw[run_sliceBound C U E y I ao ad];rfl
 simp only[execOp,D.eval az];have ah:(sizeOf R).run P C=.ok O C:=by simp[sizeOf,typeInfo,am,av]
 simp only[Instr.sliceAt,Instr.slice,Instr.sliceBounds,cM,run_underlying ax,dG,ah,Option.map_some,D.eval ap,D.eval ai,D.eval aq,J _ _ _ _ h1,J _ _ _ _ ae,J _ _ _ _ an,e5]
 congr 3
 by_cases ar:j=l
 .simp_all
 .simp[ar,kT]
def Og{O D aD b o W n c j q:Nat}{aq I:bz}[az:eu P T (O,D,aD)][aA:cG P O I](a0:(I.all λu=>u.oneCell')=ag)(a9:aH (aa I) D=ag)(aZ:aX H x=ab (.slice (ab ⟨b,o,af⟩) j q))
  (aS:eH (E O D (U b) n c aq) L M) (aR:0<j->o=W*D) (aM:n<=W) (aP:W+j<=c):
  b6 P g L H ⟨d,.call ⟨.builtin .clear,#[x],#[T]⟩,aO,pos,aT,a7⟩ λbl aB=>bl=.tuple #[]/\aB=E O D (U b) n c aq::M:=λa J aV aW bt bv ar=>by
 let⟨R,bL,bA,bI,_⟩:=az.spec;have am:bj g _ J:=aW.mono λ_=>C.perm aS.perm;unfold eg;simp only[execOp,resolve,gY,fu,mX,aV.eval aZ];rcases hh j with Z|Z
 .subst Z;have ai:(nJ #[T] aO #[.slice (ab ⟨b,o,af⟩) 0 q]).run P J=.ok (.tuple #[]) J:=by
   simp[nJ,run_underlying R]
  simp only[cM,e5,dG,invoke,builtin,ai];exact ar _ _ _ bD am
 .let⟨bg,bh,aF,bm,bn,ap,l⟩:=am.s;let⟨Y,aJ,aL,bJ⟩:=ap.rX;have aY:bj g (ah b O Y::M) J:=⟨am.g,bg,bh,aF,bm,bn,aJ,l⟩;let⟨bP,a3,a4⟩:=aA.run J;have bb:=cy a9;have bw:=aR Z;have bK:∀u∈I,u.oneCell'=ag:=hA a0;have bE:aa (ft I.toArray j).toList=j*D:=by simp only[ft,Kl,Array.size_map,Array.size_range,LD,bb]
  have a8:∀u∈(ft I.toArray j).toList,u.oneCell'=ag:=by
   intro u R;simp only[ft,Array.toList_map,List.mem_map]at R;obtain⟨bM,bB,rfl⟩:=R;grind[hh,q6,gG]
  have bx:W*D+j*D<=c*D:=by rw[<- nO];exact oH _ aP
  have bH:n*D<=W*D:=oH _ aM;let⟨br,aG,ae⟩:=tz (P:=P) (ft I.toArray j).toList o 0 Y J (Ix a8) ad aY;rw[vD]at ae;have aQ:aa (eS Y o (ft I.toArray j).toList)=c*D:=by rw[xQ,aL]
  let⟨bc,be,aE,bo,bp,aK,bi⟩:=ae.s;have av:=E.gP (eF:=D) (n:=n) aK aQ ap.le ap.cap;have aI:(eS Y o (ft I.toArray j).toList).take (n*D)=aq:=by
   grind[lh,jm,List.take_append,LM,oE]
  rw[aI]at av;have ai:(nJ #[T] aO #[.slice (ab ⟨b,o,af⟩) j q]).run P J=.ok (.tuple #[]) br:=by
   have bG:j≠0:=ad;obtain⟨ax,rfl⟩:∃ax,j=ax+1:=⟨j-1,ad⟩;simp only[nJ,cM,run_underlying R,dG,a3,a4,aG,e5,List.getElem?_toArray,List.getElem?_cons_zero]
  simp only[cM,e5,dG,invoke,builtin,ai];exact ar _ _ _ bD ⟨ae.g,bc,be,aE,bo,bp,av,bi⟩
end
variable{P:bk}
def af4(E Q R aE H C J aB aD)(av:P.underlying Q=ab (.slice H))(ax:P.underlying R=ab (.int aD))(ai:P.info? H=ab C)(aA:C.zero=ab J)
  (b) (j D) (I:bz) (am:aa I=j*C.size) (aL:∀O v,I[O]?=ab v->E.cell? (b.add O)=ab v)
  (n) (aF:0<n) (aM:0<C.size) (aK:D<j+n) (aI:((j+n:Nat):Int)<=9223372036854775807) (aJ:Ks (j+n) D*C.bytes<=281474976710656) (aG:n*C.bytes<=281474976710656):
  (q0 #[Q,R] aE #[.slice (ab b) j D,.int aB n]).run P E=
   .ok (.slice (U E.heap.size) (j+n) (grownCap E (j+n) D H)) (E.drew.alloc (.cells (I.toArray++ft J.cells n++ft J.cells (grownCap E (j+n) D H-(j+n))) H)):=by
 have ap: ¬(j+n<=D):=ad;have az:IntKind.i64.wrap (n:Int)=n:=by rw[IntKind.wrap_i64];omega
 have Z: ¬(9223372036854775807< ((j:Int)+(n:Int))):=ad;have W: ¬(281474976710656<Ks (j+n) D*C.bytes):=ad;have Y: ¬(281474976710656< (n:Int)*(C.bytes:Int)):=by
  omega
 have aq: ¬((n:Int)<0):=ao;have ar: ¬(n*C.size=0):=Nat.mul_ne_zero ad ad;have ah:=run_firstCells_some (P:=P) E.drew _ j b j D I am fs;simp[q0,run_underlying av,run_underlying ax,sizeOf,typeInfo,zeroValue,ai,aA,asInt,asIntOf,az,ap,aq,ar,Z,W,Y,U3,ah,newRow,grownCap]
section
variable{g:d1}{L M:Q}{H:cU}{d:Option Nat}{aO T ci:bq}{pos:String}{aT:Array Edge}{a7:Option (Nat×Bool)}{x y z:cJ}{v u:a2}
def P6(P:bk)(T:bq):Bool:=match P.underlying T with
 |some (.int _)=>ag
 | _=>al
class yz (P:bk) (T:bq):Prop where
 h:P6 P T=ag:=by kernel_rfl
def yz.spec(j:yz P T):∃C,P.underlying T=ab (.int C):=by
 have h:=j.h;unfold P6 at h;grind
def Za{J I ap b D n c j:Nat}{aE W aG}[aI:eu P T (J,I,ap)][aK:cG P J aG][aJ:yz P ci](bi:aH (aa aG) I=ag)(bG:0<I)(bg:aX H x=ab (.slice (U b) D c))(bh:aX H y=ab (.int aE (j:Int)))
  (a8:eH (E J I (U b) n c W) L M) (aV:D<=n) (aY:0<j) (bb:c<D+j) (bI:(D+j)*ap<=140737488355328) (bK:D+j<=140737488355328):
  b6 P g L H ⟨d,.call ⟨.builtin .append,#[x,y],#[T,ci]⟩,aO,pos,aT,a7⟩ λbt aL=>∃am Y aF,bt=.slice (U am) (D+j) Y/\aa aF=j*I/\D+j<=Y/\Y<=maxLen/\aL=E J I (U am) (D+j) Y (W.take (D*I)++aF)::L:=λa O av az bz bA aQ=>by
 let⟨bx,R,be,aS,bL,bJ,aW,aD⟩:=aI.zero aK;have aB:=cy bi;let⟨bn,aZ⟩:=aJ.spec;have aA:bj g _ O:=az.mono λ_=>C.perm a8.perm;let⟨bM,bP,bB,bR,bS,br,l⟩:=aA.s;have a3:aa (W.take _)=D*I:=(br.less aV).len;have a4:∀ai v,(W.take (D*I))[ai]?=ab v->O.cell? ((⟨b,0,af⟩:Addr).add ai)=ab v:=λai v ah=>by
  rw[kT,h3];rw[List.getElem?_take]at ah;split at ah
  .exact(a5.E ah).1 _ aA.s
  trivial
 have bc:=af4 O T ci aO J bx R aE bn be aZ aS aW _ D c _ bo a4 j aY ad bb ad (growslice_fits ad bo) (by
  grind)
 unfold eg;simp only[execOp,resolve,gY,fu,mX,av.eval bg,av.eval bh];simp only[cM,e5,dG,invoke,builtin,bc];have ar:=grownCap_ge O (D+j) c J;have aq:=grownCap_le_maxLen O (D+j) c J (by simp[maxLen];omega);have Z:=(az.drew).alloc J (W.take (D*I)++((ft R.cells j).toList++(ft R.cells (grownCap O (D+j) c J-(D+j))).toList));have aP:(W.take (D*I)++((ft R.cells j).toList++(ft R.cells (grownCap O (D+j) c J-(D+j))).toList)).toArray=(W.take (D*I)).toArray++ft R.cells j++ft R.cells (grownCap O (D+j) c J-(D+j)):=by
  simp
 rw[aP]at Z;have ax:aa (ft R.cells j).toList=j*I:=by simp[ft,aD,aB]
 have a9:aa (ft R.cells (grownCap O (D+j) c J-(D+j))).toList=(grownCap O (D+j) c J-(D+j))*I:=by simp[ft,aD,aB]
 apply aQ _ _ _ ⟨O.heap.size,grownCap O (D+j) c J,(ft R.cells j).toList,rfl,ax,ar,aq,rfl⟩;let⟨bl,bm,aM,bv,bw,aR,bp⟩:=Z.s;refine⟨Z.g,bl,bm,aM,bv,bw,?_,bp⟩;have a0:aa (W.take (D*I)++((ft R.cells j).toList++(ft R.cells (grownCap O (D+j) c J-(D+j))).toList))=grownCap O (D+j) c J*I:=by
  rw[b4,b4,a3,ax,a9,<- nO,<- nO];grind
 have bH:=E.gP (eF:=I) (n:=D+j) aR a0 ar aq;have bE:(W.take (D*I)++((ft R.cells j).toList++(ft R.cells (grownCap O (D+j) c J-(D+j))).toList)).take ((D+j)*I)=W.take (D*I)++(ft R.cells j).toList:=by
  grind[nO]
 simp_all
def ZD(E I q n c D C j):(eqGuard E T x y (.slice I n c) (.slice q D C)).run P j=.ok () j:=by
 unfold eqGuard;simp
theorem ZH{C}(E:eu P T C)(j n c O J D):(eo T (.slice j n c) (.slice af O J)).run P D=.ok j.isNone D:=by
 let⟨U,s,R⟩:=C;let⟨I,_⟩:=E.spec;unfold eo;rw[show nK=9999+1 from rfl];unfold lO;cases j<;>simp[cM,run_underlying I]<;>rfl
def GG{j n c I E J}[R:eu P T J](C:aX H x=ab (.slice j n c))(D:aX H y=ab (.slice af I E)):bh P L H ⟨d,.binOp .eql T x y ci,aO,pos,aT,a7⟩ (.bool j.isNone):=
 jU _ _ _ _ (ZD _ _ _ _ _ _ _) C D λO=>by
  show((do pure (.bool (<- eo T _ _)):Sem a2)).run P O= _;simp[ZH]
class Fx (P:bk) (D:dc) (T:outParam bq):Prop where
 h:∃j C,P.funcs[D]?=ab j/\(j.name== "runtime.NumGoroutine")=al/\j.body.isNone=ag/\Extern.findNext j=af/\Extern.find j=ab (Extern.SlicesOverlaps.overlaps #[T,T] #[C]):=by kernel_rfl
theorem T0{j:dd}{b T C}(h:j.hm b=ab (.cells C T (0,0))):j.shape? b=ab (T,C.size):=by
 have D:j.heap[b]?=ab _:=h;simp[World.shape?,D]
theorem Pv{j:dd}{b E T C}(h:j.hm b=ab (.cells C T (0,0))):j.frozen? ⟨b,E,af⟩=al:=by
 have D:j.heap[b]?=ab _:=h;simp[KW,D]
def Z2{J}{I O aJ j az ai R D aA am W n c:Nat}{aq aK bl bj ap aG}[aE:Fx P J T][aD:eu P T (I,O,aJ)](a4:aX H x=ab (.slice (ab ⟨j,az,af⟩) ai R))(a8:aX H y=ab (.slice (ab ⟨D,aA,af⟩) am W))
  (aW:eH (ah j aq aK) L ap) (aY:eH (E I O (U D) n c bl) ap aG) (bv:0<c) (bt:0<O):
  bh P L H ⟨d,.call ⟨.value (.func J),#[x,y],bj⟩,aO,pos,aT,a7⟩ (.bool al):=λa C ax a3=>by
 let⟨br,aI,aF,aM,bb,bc,be⟩:=aE.h;let⟨a0,bH,aS,aZ,_⟩:=aD.spec;let⟨bA,bB,aP,bg,bi,av,l⟩:=a3.perm aW.perm;let⟨bx,bz,bn,aB,bG,a9,bE⟩:=l.perm aY.perm;rcases a9.eC with ⟨Y,_⟩|⟨bm,aL,Y,ar,bo,bp⟩
 .omega
 simp[tO,EI,and_true]at Y;subst Y;have h1:=bg _ _ av.eq;have ae:=bi _ _ (aB _ _ ar);have aV:j≠D:=λaQ=>by
  subst aQ;rcases aP j with Z|Z
  .rw[av.eq]at Z;trivial
  .rw[aB _ _ ar]at Z;trivial
 have aR:aL.size≠0:=by
  simp_all[Nat.ne_of_gt]
 have bw:(callFunc J #[.slice (ab ⟨j,az,af⟩) ai R,.slice (ab ⟨D,aA,af⟩) am W]).run P C=.ok (.value (.bool al)) C:=by
  rw[run_callFunc_extern aF aM bb bc be,Lib.run_overlaps_apart C T aI I a0 O (λC=>by simp[sizeOf,typeInfo,aS,aZ]) _ _ ai R am W aV aq I _ _ (T0 h1) (T0 ae) aR (Pv h1) (Pv h1)];rfl
 show(callFunc J _).run P C= _;simp[ax.eval a4,ax.eval a8];assumption
def ZL{O n c C}[D:eu P T C](J:aX H x=ab (.slice O n c)):bh P L H ⟨d,.call ⟨.builtin .cap,#[x],#[T]⟩,aO,pos,aT,a7⟩ (j c):=λa U E _=>by
 let⟨R,s,b⟩:=C;let⟨I,_⟩:=D.spec;simp[execOp,resolve,invoke,builtin,E.eval J,run_underlying I,Builtin.cap_,goInt]
def Zb{C J Y j:Nat}{ar ax}[az:eu P T (C,J,Y)][aB:cG P C ax][aA:yz P ci](aZ:aH (aa ax) J=ag)(bi:0<J)(aW:aX H x=ab (.slice af 0 0))(aY:aX H y=ab (.int ar (j:Int)))
  (aL:0<j) (bl:j*Y<=140737488355328) (bn:j<=140737488355328):
  b6 P g L H ⟨d,.call ⟨.builtin .append,#[x,y],#[T,ci]⟩,aO,pos,aT,a7⟩ λa9 aD=>∃W O av,a9=.slice (U W) j O/\aa av=j*J/\j<=O/\O<=maxLen/\aD=E C J (U W) j O av::L:=λa D ai aV bg bh aG=>by
 let⟨be,I,aS,aJ,bo,bm,aK,aq⟩:=az.zero aB;have ap:=cy aZ;let⟨a4,aM⟩:=aA.spec;have aR:=Lib.run_append_nil_zeros D T ci aO C be I ar a4 aS aM aJ aK j aL ad ad bv;unfold eg;simp[execOp,resolve,gY,fu,ai.eval aW,ai.eval aY];simp[dG,invoke,builtin,aR];have ah:=grownCap_ge D j 0 C;have Z:=grownCap_le_maxLen D j 0 C (by simp[maxLen];omega);have R:=(aV.drew).alloc C ((ft I.cells j).toList++(ft I.cells (grownCap D j 0 C-j)).toList);have aF:((ft I.cells j).toList++(ft I.cells (grownCap D j 0 C-j)).toList).toArray=ft I.cells j++ft I.cells (grownCap D j 0 C-j):=by
  simp
 rw[aF]at R;have am:aa (ft I.cells j).toList=j*J:=by simp[ft,aq,ap]
 have aQ:aa (ft I.cells (grownCap D j 0 C-j)).toList=(grownCap D j 0 C-j)*J:=by simp[ft,aq,ap]
 apply aG _ _ _ ⟨D.heap.size,grownCap D j 0 C,(ft _ j).toList,rfl,am,ah,Z,rfl⟩;let⟨a0,a3,aE,bb,bc,aI,a8⟩:=R.s;refine⟨R.g,a0,a3,aE,bb,bc,?_,a8⟩;have aP:aa ((ft I.cells j).toList++(ft I.cells (grownCap D j 0 C-j)).toList)=grownCap D j 0 C*J:=by
  rw[b4,am,aQ,<- nO];simp_all
 have bj:=E.gP aI aP ah Z;simp_all
end
section
open Go.ChangeMaps (setBlock)
section
variable{P:bk}{g:d1}{L lT:Q}{H:cU}{d:Option Nat}{aO T ci k e:bq}{pos:String}{aT:Array Edge}{a7:Option (Nat×Bool)}{x y z:cJ}{b:Nat}{b2 e4:Type}[dE b2][dE e4][DecidableEq b2]{M:List (b2×e4)}
theorem AC{j b D c}(h:j.heap[b]?=ab (.map D c))(C):(setObj b C).run P j=.ok () (j.putObj b C):=by simp[setObj,KQ,h,World.putObj]
theorem s3{j b C c}(h:j.heap[b]?=ab (.map C c)):(getObj b).run P j=.ok (.map C c) j:=by simp[getObj,KQ,h]
def ze:b6 P g L H ⟨d,.makeMap T af,aO,pos,aT,a7⟩ λI C=>∃b,I=.map (ab b)/\C=ct b ([]:List (b2×e4))::L:=λa j U E J O D=>by
 have R:(Instr.makeMap T af).run P j=.ok (.map (ab j.heap.size)) (j.alloc (.map #[] 0)):=by
  rfl
 exact D _ _ _ ⟨_,rfl,rfl⟩ (xl ⟨rfl,ao,ao⟩ (E.wb _))
def wO{j:b2}[I:nV P T (k,e)][D:vV P k b2][Inhabited e4][J:v5 P e e4](U:aX H x=ab (.map (ab b)))(W:aX H y=ab (dE.v j))(O:fL L b M):
  bh P L H ⟨d,.lookup T x y ag,aO,pos,aT,a7⟩ (.tuple #[dE.v ((dL j M).getD default),.bool (dL j M).isSome]):=λa Z E R=>by
 let⟨am,ai,Y,C⟩:=O.f _ R;have C:=C;simp[execOp,E.eval U,E.eval W];simp[KG,cM,run_underlying I.h,dG,s3 C,e5,D.e7,D.find Z j _ M Y.rd];rcases CO j M 0 with ⟨h1,ae,an⟩|⟨aq,ah,h1,ae,an,ap⟩
 .simp[h1,ae,J.run]
 simp_all
def ry{j:b2}{v:e4}[ah:nV P T (k,e)][I:vV P k b2](am:aX H x=ab (.map (ab b)))(ap:aX H y=ab (dE.v j))(aq:aX H z=ab (dE.v v))(az:eH (ct b M) L lT):
  b6 P g L H ⟨d,.mapUpdate T x y z,aO,pos,aT,a7⟩ λaD ar=>aD=undef/\ar=ct b (f6 j v M)::lT:=λa E D aB aE aF ai=>by
 let⟨J,U,O,Y⟩:=Ds (aB.mono λ_=>C.perm az.perm);have R:=Y.jH;unfold eg;rcases CO j M 0 with ⟨h1,ae,an⟩|⟨Z,aG,h1,ae,an,av⟩
 .have W:(AV T (.map (ab b)) (dE.v j) (dE.v v)).run P E=.ok () (E.putObj b (.map (J.push {key:=(dE.v j),val:=dE.v v,born:=U}) (U+1))):=by
   simp only[AV,cM,run_underlying ah.h,dG,s3 R,I.e7,I.find E j J.toList M O.rd,h1,AC R]
  simp only[execOp,D.eval am,D.eval ap,D.eval aq,cM,W,dG,e5];exact ai _ _ _ bD (an v▸xl (O.push j v) (Y.fU _))
 .have ax:(J[Z]?).map (·.key)=ab (dE.v j):=by
   have:=congrArg (λl=>l[Z]?) O.rd;grind[tO,o7,o8,tP]
  have aA:=I.same j;have W:(AV T (.map (ab b)) (dE.v j) (dE.v v)).run P E=.ok () (E.putObj b (.map (J.modify Z λe=> {e with key:=(dE.v j),val:=dE.v v}) U)):=by
   simp only[AV,cM,run_underlying ah.h,dG,s3 R,I.e7,I.find E j J.toList M O.rd,h1,h3,ax,Option.getD_some,Instr.keyThatStays,aA,if_true,e5,AC R]
  simp only[execOp,D.eval am,D.eval ap,D.eval aq,cM,W,e5];exact ai _ _ _ bD (av v▸xl (O.put j v an) (Y.fU _))
def CD[D:nV P T (k,e)](U:aX H x=ab (.map (ab b)))(J:fL L b M):bh P L H ⟨d,.call ⟨.builtin .len,#[x],#[T]⟩,aO,pos,aT,a7⟩ (j (aa M:Nat)):=λa Y O R=>by
 let⟨I,E,W,C⟩:=J.f _ R;have C:Y.heap[b]?=ab (.map I E):=C;simp only[execOp,resolve,gY,fu,O.eval U];simp[invoke,builtin,Builtin.len_,run_underlying D.h,s3 C,goInt,W.len]
def Zc[I:nV P T (k,e)](ah:aX H x=ab (.map (ab b)))(U:eH (ct b M) L lT):
  b6 P g L H ⟨d,.call ⟨.builtin .clear,#[x],#[T]⟩,aO,pos,aT,a7⟩ λai J=>ai=.tuple #[]/\J=ct b ([]:List (b2×e4))::lT:=λa E Y Z am ap R=>by
 let⟨aq,O,ar,D⟩:=Ds (Z.mono λ_=>C.perm U.perm);have j:=D.jH;unfold eg;have W:(nJ #[T] aO #[.map (ab b)]).run P E=.ok (.tuple #[]) (E.putObj b (.map #[] O)):=by
  simp[nJ,run_underlying I.h,s3 j,AC j]
 simp[execOp,resolve,gY,fu,mX,Y.eval ah,cM,e5,dG,invoke,builtin,W];exact R _ _ _ bD (xl ⟨rfl,ao,ao⟩ (D.fU _))
def l2(j:b2):List (b2×e4)->List (b2×e4)
 | []=>[]
 |x::M=>if j=x.1 then M else x::l2 j M
def Ps(C:b2):∀(M:List (b2×e4)) (j:Nat),(lF C M j=af/\l2 C M=M)\/∃D v,lF C M j=ab (j+D,v)/\D<aa M/\l2 C M=M.eraseIdx D
 | [],j=> .inl bD
 |x::M,j=>by
  by_cases h:C=x.1
  .simp_all[lF,l2]
  .rcases Ps C M (j+1)with ⟨h1,ae⟩|⟨D,v,h1,ae,an⟩
   .simp_all[lF,l2]
   .exact .inr ⟨D+1,v,by simp[lF,h,h1];omega,by simp_all,by simp[l2,h,an]⟩
theorem map_eraseIdx{α D:Type}(C:α->D):∀(l:List α)(j),(l.eraseIdx j).map C=(l.map C).eraseIdx j
 | [],_=>rfl
 | _:: _,0=>rfl
 |x::l,j+1=>by simp[map_eraseIdx C l j]
theorem lU.del{C:Array MapEntry}{I:Nat}(D:lU C I M){j:Nat}(O:j<aa M):lU (C.eraseIdxIfInBounds j) I (M.eraseIdx j):=by
 have R:=D.len;have E:(C.eraseIdxIfInBounds j).toList=C.toList.eraseIdx j:=by
  simp
 refine⟨?_,?_,?_⟩
 .rw[E,map_eraseIdx,map_eraseIdx,D.rd]
 .intro e J;rw[E]at J;exact D.old e (List.mem_of_mem_eraseIdx J)
 .rw[E];exact((List.eraseIdx_sublist _ _).map _).nodup D.fE
def Oh{j:b2}[Y:nV P T (k,e)][I:vV P k b2](ap:aX H x=ab (.map (ab b)))(aq:aX H y=ab (dE.v j))(av:eH (ct b M) L lT):
  b6 P g L H ⟨d,.call ⟨.builtin .delete,#[x,y],#[T,ci]⟩,aO,pos,aT,a7⟩ λaA ar=>aA=.tuple #[]/\ar=ct b (l2 j M)::lT:=λa D R ax aB aD ai=>by
 let⟨J,Z,U,am⟩:=Ds (ax.mono λ_=>C.perm av.perm);have O:=am.jH;unfold eg;have ah:∀W,(xZ #[T,ci] aO #[.map (ab b),dE.v j]).run P D=.ok (.tuple #[]) (D.putObj b W)->bj g _ _:=λW _=>am.fU W;rcases Ps j M 0 with ⟨h1,ae⟩|⟨az,v,h1,ae,an⟩
 .have E:(xZ #[T,ci] aO #[.map (ab b),dE.v j]).run P D=.ok (.tuple #[]) (D.putObj b (.map J Z)):=by
   simp[xZ,run_underlying Y.h,s3 O,AC O,I.e7,I.find D j J.toList M U.rd,h1]
  simp only[execOp,resolve,gY,fu,mX,R.eval ap,R.eval aq,cM,e5,dG,invoke,builtin,E];exact ai _ _ _ bD (ae.symm▸xl U (ah _ E))
 .have E:(xZ #[T,ci] aO #[.map (ab b),dE.v j]).run P D=.ok (.tuple #[]) (D.putObj b (.map (J.eraseIdxIfInBounds az) Z)):=by
   simp[xZ,run_underlying Y.h,s3 O,AC O,I.e7,I.find D j J.toList M U.rd,h1]
  simp only[execOp,resolve,gY,fu,mX,R.eval ap,R.eval aq,cM,e5,dG,invoke,builtin,E];exact ai _ _ _ bD (an.symm▸xl (U.del ae) (ah _ E))
structure FE (j:Array MapEntry) (C E:Nat) (seen:Array Nat) (M J:List (b2×e4)) (q:Option (b2×e4)):Prop where
 ok:lU j C M
 old:∀e∈j.toList,e.born<E
 le:E<=C
 left:(leftOf j seen).toList.map o7=J.map o8
 last:∀I,q=ab I->∃D∈j.toList,o7 D=o8 I/\∃O:Array Nat,seen=O.push D.born
def hK(D b:Nat)(M j:List (b2×e4))(q:Option (b2×e4)):aG:=λh=>∃y:Array MapEntry×Nat×Nat×Array Nat,FE y.1 y.2.1 y.2.2.1 y.2.2.2 M j q/\C [bR D (.mapIter (ab b) y.2.2.1 y.2.2.2 y.2.1),bR b (.map y.1 y.2.1)] h
variable{w:dd}{r:Nat}{aK:List (b2×e4)}{q:Option (b2×e4)}
def afS(E:bj g (hK r b M aK q::L) w):∃D j I seen,FE D j I seen M aK q/\bj g (bR r (.mapIter (ab b) I seen j)::bR b (.map D j)::L) w:=by
 let⟨h1,ae,d,O,R,⟨y,J,o⟩,l⟩:=E.s;exact⟨y.1,y.2.1,y.2.2.1,y.2.2.2,J,E.g,C.head (λ_ e=>e▸o) ⟨h1,ae,d,O,R,rfl,l⟩⟩
def I6{D:Array MapEntry}{j E:Nat}{seen:Array Nat}(J:FE D j E seen M aK q)(I:bj g (bR r (.mapIter (ab b) E seen j)::bR b (.map D j)::L) w):bj g (hK r b M aK q::L) w:=
 ⟨I.g,C.fold (N:=[_,_]) (λh n=>⟨(D,j,E,seen),J,n⟩) I.s⟩
def I7{h:j5}(s:C (hK r b M aK q::L) h):C (ct b M::L) h:=by
 let⟨h1,ae,d,E,I,⟨y,D,o⟩,l⟩:=s;have J:=C.head (λ_ e=>e▸o) ⟨h1,ae,d,E,I,rfl,l⟩;have R:=C.tail J;exact C.fold (λh n=>by
  let⟨U,W,_,O,_,j,_⟩:=n;exact⟨(y.1,y.2.1),D.ok,⟨O _ _ j.eq⟩⟩) R
def Zo{j:Q}(C:aS (ct b M::L) j):aS (hK r b M aK q::L) j:=λh s=>C h (I7 s)
structure sB (L:Q) (r:Nat) (R:b2×e4):Prop where
 f:∀h,C L h->∃(D:Array MapEntry) (I O:Nat) (J:Array Nat) (j:MapEntry) (E:Nat),j∈D.toList/\o7 j=o8 R/\(D.toList.map (·.born)).Nodup/\h E=ab (.map D I)/\h r=ab (.mapIter (ab E) O (J.push j.born) I)
def sB.here{j:b2×e4}:sB (hK r b M aK (ab j)::L) r j:=⟨λh s=>by
 let⟨h1,ae,d,D,ar,⟨y,C,ap,aq,ai,Y,Z,R,ax,az,am,ah,av,U,_⟩,l⟩:=s;let⟨J,O,E,W,I⟩:=C.last j p;refine⟨y.1,y.2.1,y.2.2.1,W,J,b,O,E,C.ok.fE,D _ _ (Z _ _ (ah _ _ U.eq)),?_⟩;rw[<- I];exact D _ _ (Y _ _ R.eq)⟩
def wE[J:nV P T (k,e)](Z:aX H x=ab (.map (ab b)))(U:eH (ct b M) L lT):
  b6 P g L H ⟨d,.range T x,aO,pos,aT,a7⟩ λv O=>∃r,v=(I r)/\O=hK r b M M af::lT:=λa w W Y ah ai R=>by
 let⟨j,am,D,E⟩:=Ds (Y.mono λ_=>C.perm U.perm);unfold eg;simp[execOp,W.eval Z,cM,run_range_map w T k e b j _ J.h E.jH,e5];apply R _ _ _ ⟨_,rfl,rfl⟩ (I6 ⟨D,D.old,bC _,_,(λ_ h=>by grind)⟩ (E.wb _));have:(leftOf j #[])=j:=by simp[leftOf]
 rw[this];exact D.rd
def Oj(W:aX H x=ab (I r))(aJ:eH (hK r b M aK q) L lT):
  b6 P g L H ⟨d,.next x al,aO,pos,aT,a7⟩ λv aq=>(aK=[]/\v=.tuple #[.bool al]/\aq=hK r b M aK q::lT)\/∃A E R,aK=A++E::R/\v=.tuple #[.bool ag,dE.v E.1,dE.v E.2]/\aq=hK r b M (A++R) (ab E)::lT:=λa w aA aP aV aW av=>by
 let⟨O,J,Y,seen,D,U⟩:=afS (aP.mono λ_=>C.perm aJ.perm);have aL:=U.jH;have aI:=(U.mono λ_ s=>s.swap).jH;unfold eg;rcases run_next_at (P:=P) w aO r b _ _ _ O _ aL aI D.old D.le with ⟨a8,ah⟩|⟨j,ax,ai,aG,ah⟩
 .simp only[execOp,aA.eval W,cM,ah,dG,e5];have aE:aK=[]:=by
   have:=congrArg aa D.left;grind
  exact av _ _ _ (.inl ⟨aE,rfl,rfl⟩) (I6 D U)
 .simp only[execOp,aA.eval W,cM,ah,dG,e5];let⟨bc,be⟩:=mem_left ax;let⟨am,ap,Z⟩:=List.append_of_mem ax;have az:=D.left;rw[Z,ez,fu]at az;let⟨A,aY,aZ,a9,aF⟩:=List.map_eq_append_iff.1 az.symm;let⟨E,R,a0,bg,bb⟩:=List.map_eq_cons_iff.1 aF;have aQ:bj g (bR r (.mapIter (ab b) Y seen J)::bR b (.map O J)::lT) ai:=by
   rcases aG with rfl|rfl
   .omega
   .exact U.drew
  have aR:=aQ.fU (.mapIter (ab b) Y (seen.push j.born) J);have aM:setBlock ai r (.mapIter (ab b) Y (seen.push j.born) J)=ai.putObj r (.mapIter (ab b) Y (seen.push j.born) J):=rfl;rw[aM];have ar:j.key=dE.v E.1/\j.val=dE.v E.2:=by
   simp_all[o7,o8]
  rw[ar.1,ar.2];apply av _ _ _ (.inr ⟨A,E,R,by simp_all,rfl,rfl⟩) (I6 ⟨D.ok,D.old,D.le,_,λbi h=> _⟩ aR)
  .have aD:(leftOf O (seen.push j.born)).toList=(leftOf O seen).toList.filter λx=>!(x.born==j.born):=by
    unfold leftOf;rw[EG,EG,List.filter_filter];grind
   have aB:((leftOf O seen).toList.map (·.born)).Nodup:=by
    unfold leftOf;rw[EG];exact(List.filter_sublist.map _).nodup D.ok.fE
   rw[Z,ez,fu]at aB;have aS:=(fA.nodup_iff.1 aB);have bh:=(j3.1 aS).1;rw[aD,Z,List.filter_append,List.filter_cons];have a3:am.filter (λx=>!(x.born==j.born))=am:=yb.2 λx W=>by
    simp_all
   have a4:ap.filter (λx=>!(x.born==j.born))=ap:=yb.2 λx W=>by
    simp_all
   grind
  grind
def wD(R:aX H x=ab (I r))(E:eH (hK r b M [] q) L lT):
  b6 P g L H ⟨d,.next x al,aO,pos,aT,a7⟩ λv j=>v=.tuple #[.bool al]/\j=hK r b M [] q::lT:=λa w J O C D U=>
 Oj R E a w J O C D λv Y j h W=>by
  simp_all
def wC{D:b2×e4}(Y:aX H x=ab (I r))(O:eH (hK r b M (D::aK) q) L lT):
  b6 P g L H ⟨d,.next x al,aO,pos,aT,a7⟩ λv C=>∃A j R,D::aK=A++j::R/\v=.tuple #[.bool ag,dE.v j.1,dE.v j.2]/\C=hK r b M (A++R) (ab j)::lT:=λa w U W E J Z=>
 Oj Y O a w U W E J λv ai C h ah=>by
  grind
def CE{j:b2}[I:nV P T (k,e)][D:vV P k b2][Inhabited e4][J:v5 P e e4](U:aX H x=ab (.map (ab b)))(W:aX H y=ab (dE.v j))(O:fL L b M):
  bh P L H ⟨d,.lookup T x y al,aO,pos,aT,a7⟩ (dE.v ((dL j M).getD default)):=λa w E R=>by
 let⟨ai,ah,Y,C⟩:=O.f _ R;have C:=C;simp[execOp,E.eval U,E.eval W];simp[KG,cM,run_underlying I.h,dG,s3 C,e5,D.e7,D.find w j _ M Y.rd];rcases CO j M 0 with ⟨h1,ae,an⟩|⟨ap,Z,h1,ae,an,am⟩
 .simp[h1,ae,J.run]
 simp_all
def wL{C:b2×e4}(W:aX H x=ab (I r))(O:sB L r C):bh P L H ⟨d,.entry x,aO,pos,aT,a7⟩ (.tuple #[dE.v C.1,dE.v C.2]):=λa w R U=>by
 let⟨J,ai,am,ah,E,D,Y,j,Z,h1,ae⟩:=O.f _ U;have h1:=h1;have ae:=ae;have:=run_entry_at (P:=P) w r D _ ah J _ E ae h1 Y Z;simp[o7,o8,tP]at j;simp[execOp,R.eval W,cM,this,dG,e5,j.1,j.2]
end
end
variable{g:d1}{L:Q}{H:cU}{d:Option Nat}{aO T:bq}{pos:String}{aT:Array Edge}{a7:Option (Nat×Bool)}
def i1(n:Nat)(j:bz):List a2:=(gZ (n*aa j)).map λC=>j.getD (C % aa j) (.bool al)
def zd{D}{j am n:Nat}{C W J O}[Y:eu P T (D,j,am)][Z:cG P D C](E:(aH (aa C) j&&da 1 j&&da 1 n&&da (n*j) 1000)=ag)(aQ:pO H J=ab O)
  (aA:n6 (λI=>ab (I*j,j)) (i1 n C) O=ab W):
  b6 P g L H ⟨d,.buildSlice T n J.toArray,aO,pos,aT,a7⟩ λaI ai=>∃b,aI=.slice (U b) n n/\ai=ah b D W::L:=λa R aR aF aM aP az=>by
 simp only[co]at E;have aV:=cy E.1.1.1;have aK:=fq E.1.1.2;have aL:=fq E.1.2;have aW:=fq E.2;have aX:=Nat.mul_pos aL aK;obtain⟨aE,aS,aB,aD,_⟩:=Y.spec;have aq:(sizeOf D).run P R=.ok j R:=by simp[sizeOf,typeInfo,aB,aD]
 unfold eg;have ap:(J.toArray.map λ(I,aJ)=>(I,a.eval aJ))=O.toArray:=by grind[zn]
 obtain⟨v,ar,av⟩:=Z.run R;have ax:(Array.range (n*j)).map (λaG=>C.toArray[aG % C.toArray.size]!)=(i1 n C).toArray:=by
  grind[i1,q6]
 simp[execOp,Instr.buildSlice,cM,run_underlying aE,dG,aq,ap];rw[a8 ad];rw[a8 ad];simp only[cM,ar,dG,e5,av,ax,zt aA];exact az _ _ _ ⟨_,rfl,rfl⟩ (aF.alloc D _)
section
variable{M:Q}{ci:bq}{x y:cJ}{v:a2}
def lG(P:bk)(T:bq):Bool:=match P.underlying T with
 |some (.func ..)=>ag
 | _=>al
def Px(h:lG P T=ag):∃a b c,P.underlying T=ab (.func a b c):=by grind[lG]
def GA(I j v)(E:j=.nilFunc\/∃C a b,j=.func C a b)(J:v=.nilFunc)(D):(eqGuard I T x y j v).run P D=.ok () D:=by rcases E with rfl|⟨C,a,b,rfl⟩<;>(unfold eqGuard;simp)
theorem OH(C:lG P T=ag)(j):(eo T .nilFunc .nilFunc).run P j=.ok ag j:=by
 obtain⟨a,b,c,D⟩:=Px C;unfold eo;rw[show nK=9999+1 from rfl];unfold lO;simp[cM,run_underlying D]<;>rfl
def ZG(C:lG P T=ag)(D a b j):(eo T (.func D a b) .nilFunc).run P j=.ok al j:=by
 obtain⟨_,_,_,E⟩:=Px C;unfold eo;rw[show nK=9999+1 from rfl];unfold lO;simp[cM,run_underlying E]<;>rfl
def ZO(E:lG P T=ag)(j:aX H x=ab .nilFunc)(C:aX H y=ab .nilFunc):bh P L H ⟨d,.binOp .eql T x y ci,aO,pos,aT,a7⟩ (.bool ag):=
 jU _ _ _ _ (GA _ _ _ (.inl p) p) j C λD=>by
  show((do pure (.bool (<- eo T _ _)):Sem a2)).run P D= _;simp_all[OH]
end
variable{fn:Func}{n:Nat}
def er{D j C F J}(Y:fn.results=D.toArray)(h:iq P H L D j)(U:aS L (F::C))(W:J (cs j) C):G P (lK P fn g F J) g n [] H L:=λa O E I=>by
 refine⟨E.defers,cs j,?_,C,W,I.mono U⟩;unfold results;rw[Y];simp only[yh,cM,x8];have ah:=h.run E.e I.s;generalize ai:yg (m:=Sem) _ D=Z;have R:Z.run P O=.ok j O:=bv;rw[R];cases j with
 |nil=>rfl
 |cons v l=>cases l<;>simp[cs]
class qo (P:bk) (T:bq) (j:outParam IntKind):Prop where
 h:P.underlying T=ab (.int j)
section
variable{ci:bq}{x y z:cJ}{v u:a2}
def CG{C}{j q:Nat}(E:aX H x=ab (.int C (j:Int)))(I:aX H y=ab (.int C (q:Int)))(J:0<q):bh P L H ⟨d,.binOp .rem T x y ci,aO,pos,aT,a7⟩ (.int C ((j % q:Nat):Int)):=
 kF _ _ j q _ E I λO=>by
  have D:((j:Int)).tmod (q:Int)=((j % q:Nat):Int):=by rfl
  simp[binOp,Op.intDiv,show q≠0 by omega,D]
def ZM{D}{C:Nat}[I:qo P T D][E:qo P ci .i64](R:aX H x=ab (.int D (C:Int)))(Z:C<=9223372036854775807):bh P L H ⟨d,.convert T ci x,aO,pos,aT,a7⟩ (j (C:Int)):=λa U O _=>by
 simp[execOp,O.eval R];have J:P.intKind ci=.i64:=by unfold Program.intKind;rw[E.h]
 have W:=run_convert_int U T ci D (C:Int) (by rw[I.h];rfl) (by rw[J];exact E.h);have Y:IntKind.wrap _ _=C:=IntWalk.i64_in _ ad;simp_all
def CB{am}{n I j:Nat}{D}{C:bz}[J:mZ P T (n,D,I)][O:dh P D](ah:aX H x=ab (.agg C.toArray))(ai:aX H y=ab (.int am (j:Int)))(R:j<n)(Z:C[j*I]?=ab v):bh P L H ⟨d,.index T x y,aO,pos,aT,a7⟩ v:=λa ap E _=>by
 obtain⟨Y,aq,U,W⟩:=J.spec;simp[execOp,E.eval ah,E.eval ai];simp[Instr.index,run_underlying Y,asIntOf,R,sizeOf,typeInfo,U,W,part,(O.run ap).1,Z]
end
section
attribute [local irreducible] C
def ec{L:Q}{a:Addr}{v:Value}(h:a5 L a v:=by repeat' first|exact a5.ah p|assumption|apply a5.ap|apply a5.ev):a5 L a v:=h
def cA{L:Q}{b o n:Nat}{j:bz}(h:aU L b o n j:=by repeat' first|exact aU.ah p|assumption|apply aU.ap|apply aU.ev):aU L b o n j:=h
def oU{b C:Nat}{D:bz}{L j:Q}(h:iN b C D L j:=by repeat' first|exact iN.here p|apply iN.ap|apply iN.ev):iN b C D L j:=h
def aw{j:Prop}(h:j:=by first|omega|(simp;done)|(simp;omega)):j:=h
def aN{C:aG}{L j:Q}(h:eH C L j:=by repeat' first|exact eH.here|apply eH.ap|apply eH.ev):eH C L j:=h
def gL{L:Q}{j n:Nat}{A:a3}{C:bz}(h:bf L j A n C:=by repeat' first|exact bf.ah p|assumption|apply bf.ap|apply bf.ev):bf L j A n C:=h
def cX{α:Type}[d3 α]{L:Q}{A:a3}{n:Nat}{l:List α}(h:Rd L A n l:=by repeat' first|exact bf.ah p|assumption|apply Rd.ap|apply Rd.ev):Rd L A n l:=h
theorem a1{L M:Q}(h:aS L M:=by(repeat first|exact λ_ s=>s|apply k4|apply kG|apply sS)<;>fail):aS L M:=h
theorem au{L M:Q}(h:aS L M:=by(repeat first|exact cf|(apply Cn;exact aN;focus rfl)|(apply zi;exact aN;focus rfl)|(apply cP;exact aN)|apply kG|apply sS)<;>fail):aS L M:=h
def tQ{L M:Q}(h:aS L M:=by first|exact a1|exact au):aS L M:=h
def vK{P:Program}{L:Q}{H:cU}{o:Oper}{v:Value}(h:bh P L H o v:=by first|(apply l5;rfl)|(apply fC;rfl;exact ec)|(apply ui;rfl)|(apply ug;rfl)|(apply ON;rfl)|(apply gh;rfl;exact cA)|(apply wN;rfl;rfl)|(apply zp;rfl)|(apply iV;rfl;rfl;exact aw)|(apply CC;rfl;rfl;exact aw;exact aw)|(apply OO;rfl;rfl)|(apply OP;rfl;rfl)|(apply rB (q:=1);rfl;rfl)|(apply rB (q:=0);rfl;rfl)|(apply rB;rfl;rfl)|(apply rA;rfl;rfl)|(apply ZN;rfl;rfl)|(apply ZY;rfl;rfl)|(apply ZR;rfl;rfl)|(apply ajl;rfl;rfl)|(apply Z0;rfl;rfl)|(apply ajn;rfl;rfl)|(apply pQ;rfl;rfl;rfl)|(apply rD;rfl;rfl;rfl)|(apply ZU;rfl;rfl)|(apply CA;rfl;rfl)|(apply ZV;rfl;rfl)|(apply OS;rfl;rfl)|(apply OR;rfl;rfl)|(apply pP (q:=1);rfl;rfl;exact aw)|(apply pP (q:=2);rfl;rfl;exact aw)|(apply pP;rfl;rfl;exact aw)|(apply GD;rfl;rfl;exact aw)|(apply wR (q:=1);rfl;rfl;exact aw)|(apply zr (q:=1);rfl;rfl;exact aw)|(apply wR;rfl;rfl;exact aw)|(apply zr;rfl;rfl;exact aw)|(apply ajo;rfl)|(apply gz;rfl)|(apply OW;rfl;rfl;exact aw)|(apply ZL;rfl)|(apply ajk;rfl;rfl)|(apply ajm;rfl;rfl)|(apply OV;rfl;rfl)|(apply wP;rfl;rfl)|(apply OT;rfl;rfl)):bh P L H o v:=h
def gT:Nat->List fj->List fj
 |n+1,.code (.seq D y)::j=>gT n (.code D:: .code y::j)
 |n+1,.code .skip::j=>gT n j
 |n+1,.ah _::j=>gT n j
 |n+1,.code (.block id c)::j=>gT n (.code c:: .ah id::j)
 |n+1,.code (.exit id)::j=>match vg id j with
  |some C=>gT n C
  |none=> .code (.exit id)::j
 | _,j=>j
section
variable{B:jK->Act->dd->Prop}{K:List fj}{S:Q}{az:Array cI}{l lo:List cI}{s:iM}
def pv:∀(m)(K),G P B g n (gT m K) H L->G P B g n K H L
 |0,K,h=>by
  have j:gT 0 K=K:=by unfold gT;rfl
  rwa[j]at h
 |m+1,[],h=>h
 |m+1,.inv C::K,h=>h
 |m+1,.ah D::K,h=>Bk (pv m K h)
 |m+1,.code c::K,h=>by
  cases c with
  |seq E y=>exact vS (pv m _ h)
  |skip=>exact yx (pv m _ h)
  |block id c=>exact VH (pv m _ h)
  |exit id=>
   unfold gT at h;split at h
   .rename_i j
    exact Me j (pv m _ h)
   .exact h
  | _=>exact h
def bs{j:List fj}(h:G P B g n j H L)(C:gT 60 K=j:=by rfl):G P B g n K H L:=pv 60 K (C▸h)
def a6{o:Oper}{v:Value}(C:bh P L H o v)(h:du P B g n az l K (eM H o.dst v) L)(D:o.guard=none:=by rfl)(j:eb n o.dst=true:=by rfl):du P B g n az (o::l) K H L:=Fj D j C h
def GE{o:Oper}{C:Value->List aG->Prop}(E:b6 P g L H o C)(h:∀v j,C v j->du P B g n az l K (eM H o.dst v) j)(I:o.guard=none:=by rfl)(D:eb n o.dst=true:=by rfl):du P B g n az (o::l) K H L:=st I D E h
def eh{fn:Func}{j:d1}{F:aG}{D:Value->List aG->Prop}{C:Nat}{o:Oper}{v:Value}(O:lo[C]?=some o)(I:bh P S H o v)(h:dv P (lK P fn j F D) g n lo S s K (eM H o.dst v) L)(R:md o=false:=by rfl)(J:o.guard=none:=by rfl)(E:eb n o.dst=true:=by rfl):dv P (lK P fn j F D) g n lo S (.q C s) K H L:=qq dm O R J E I h
def fc{fn:Func}{j:d1}{F:aG}{D:Value->List aG->Prop}{C:Nat}{o:Oper}{v:Value}(O:lo[C]?=some o)(I:bh P [] H o v)(h:dv P (lK P fn j F D) g n lo S s K (eM H o.dst v) L)(R:md o=true:=by rfl)(J:o.guard=none:=by rfl)(E:eb n o.dst=true:=by rfl):dv P (lK P fn j F D) g n lo S (.q C s) K H L:=mC dm O R J E I h
inductive oO (P:Program) (L:Q) (az:Array Oper) (H:cU) (C:Option Nat) (D:Op) (aO:TypeId) (pos:String) (aT:Array Edge):Option (Nat×Bool)->Value->Prop where
 |plain {v:Value} (O:bh P L H ⟨C,D,aO,pos,aT,af⟩ v):oO P L az H C D aO pos aT af v
 |Kg {j d:Nat} {b:Bool} {v:Value} (J:(az[j]?).bind (·.dst)=ab d) (I:H.get d=ab (.bool b)) (O:bh P L H ⟨C,D,aO,pos,aT,af⟩ v):oO P L az H C D aO pos aT (ab (j,b)) v
 |no {j d:Nat} {b E:Bool} (J:(az[j]?).bind (·.dst)=ab d) (I:H.get d=ab (.bool E)) (R:E=!b):oO P L az H C D aO pos aT (ab (j,b)) undef
 |un {j d:Nat} {b:Bool} (J:(az[j]?).bind (·.dst)=ab d) (I:H.get d=ab undef):oO P L az H C D aO pos aT (ab (j,b)) undef
def ay{E:Option Nat}{J:Op}{aO:TypeId}{pos:String}{aT:Array Edge}{a7:Option (Nat×Bool)}{v:Value}(h:du P B g n az l K (eM H E v) L)(C:eb n E=true:=by rfl)(R:oO P L az H E J aO pos aT a7 v:=by first|(apply oO.plain;exact vK)|(apply oO.Kg p p;exact vK)|exact oO.no p p p|exact oO.un p p):du P B g n az (⟨E,J,aO,pos,aT,a7⟩::l) K H L:=by
 cases R with
 |plain I=>exact Fj p C I h
 |Kg D j I=>exact hC D j C p (Fj p C I h)
 |no D j O=>exact ql D j C O h
 |un D j=>exact VD D j C h
inductive kZ (P:Program) (S:Q) (lo:List Oper) (H:cU) (o:Oper):Value->Prop where
 |m {v:Value} (J:md o=ag) (C:o.guard=af) (E:bh P [] H o v):kZ P S lo H o v
 |q {v:Value} (J:md o=al) (C:o.guard=af) (E:bh P S H o v):kZ P S lo H o v
 |Id {j d:Nat} {b:Bool} {v:Value} (J:md o=ag) (C:o.guard=ab (j,b)) (I:(lo[j]?).bind (·.dst)=ab d) (D:H.get d=ab (.bool b)) (E:bh P [] H o v):kZ P S lo H o v
 |IW {j d:Nat} {b:Bool} {v:Value} (J:md o=al) (C:o.guard=ab (j,b)) (I:(lo[j]?).bind (·.dst)=ab d) (D:H.get d=ab (.bool b)) (E:bh P S H o v):kZ P S lo H o v
 |no {j d:Nat} {b O:Bool} (C:o.guard=ab (j,b)) (I:(lo[j]?).bind (·.dst)=ab d) (D:H.get d=ab (.bool O)) (R:O=!b):kZ P S lo H o undef
 |un {j d:Nat} {b:Bool} (C:o.guard=ab (j,b)) (I:(lo[j]?).bind (·.dst)=ab d) (D:H.get d=ab undef):kZ P S lo H o undef
def bu{fn:Func}{R:d1}{F:aG}{W:Value->List aG->Prop}{U:Nat}{o:Oper}{v:Value}(h:dv P (lK P fn R F W) g n lo S s K (eM H o.dst v) L)(O:lo[U]?=some o:=by rfl)(J:eb n o.dst=true:=by rfl)(Z:kZ P S lo H o v:=by first|(apply kZ.m p p;exact vK)|(apply kZ.q p p;exact vK)|(apply kZ.Id p p p p;exact vK)|(apply kZ.IW p p p p;exact vK)|exact kZ.no p p p p|exact kZ.un p p p):dv P (lK P fn R F W) g n lo S (.q U s) K H L:=by
 cases Z with
 |m I j D=>exact mC dm O I j J D h
 |q I j D=>exact qq dm O I j J D h
 |Id I j E C D=>exact f3 dm O I j E ⟨_,C,rfl⟩ J D h
 |IW I j E C D=>exact j6 dm O I j E ⟨_,C,rfl⟩ J D h
 |no j E C Y=>exact sA dm O j E ⟨_,C,Y⟩ J h
 |un j E C=>exact WK dm O j E C J h
def fP.val{a D v}(E:fP H a)(h:H.get D=ab v):fP ((D,v)::H) a:=by
 intro s I j;simp only[cU.get]at j;cases C:aH D s with
 |true=>
  rw[C]at j;have:v=I:=by simpa using j
  subst this;rw[<- cy C];exact E _ _ h
 |false=>rw[C]at j;exact E _ _ (by simpa using j)
def hN(D){b C}(I:H.get D=ab (.bool b))(E:b=C)(h:du P B g n az l K ((D,.bool C)::H) L):du P B g n az l K H L:=λa O j J=>by
 subst E;exact h a O ⟨j.size,j.defers,j.e.val I⟩ J
def jS(D){b C}(J:H.get D=ab (.bool b))(E:b=C)(h:dv P B g n lo S s K ((D,.bool C)::H) L):dv P B g n lo S s K H L:=λR h1 ae an I a U j O=>by
 subst E;exact h R h1 ae an I a U ⟨j.size,j.defers,j.e.val J⟩ O
def bQ{id:Nat}{j:List fj}(h:du P B g n l.toArray l j H L)(C:gT 60 K=.code (.region id l.toArray false)::j:=by rfl):G P B g n K H L:=pv 60 K (C▸jP h)
def ee{id:Nat}{j:List fj}(h:du P B g n l.toArray l j H L)(C:gT 60 K=.code (.region id l.toArray false)::j:=by rfl):du P B g n az [] K H L:=cc (bQ h C)
def FA{id:Nat}{j:List fj}(h:du P B g n l.toArray l j H L)(C:gT 60 K=.code (.region id l.toArray false)::j:=by rfl):dv P B g n lo S .nil K H L:=jR (bQ h C)
def bE:List Nat->iM->iM
 | [],s=>s
 |i::l,s=> .q i (bE l s)
def ed{id:Nat}{j:List fj}(s:iM)(h:dv P B g n l L s j H L)(C:gT 60 K=.code (.region id l.toArray true)::j:=by rfl)(E:P.follows .mixedOrders=true:=by kernel_rfl)(D:(nr l&&(Region.noSelect l.toArray&&Nat.beq s.len l.length&&jj l.toArray s (Array.replicate l.length false)))=true:=by kernel_rfl):G P B g n K H L:=pv 60 K (C▸pu s E D h)
def yv{id:Nat}{j:List fj}(C:Nat)(s:iM)(h:dv P B g n l (sZ L C) s j H L)(D:gT 60 K=.code (.region id l.toArray true)::j:=by rfl)(I:P.follows .mixedOrders=true:=by kernel_rfl)(E:(nr l&&(Region.noSelect l.toArray&&Nat.beq s.len l.length&&jj l.toArray s (Array.replicate l.length false)))=true:=by kernel_rfl):G P B g n K H L:=pv 60 K (D▸VJ C s I E h)
def kB{c:Operand}{C y:Code}{j:List fj}{b:Bool}(h:G P B g n (.code C::j) H L)(D:gT 60 K=.code (.cond c C y)::j:=by rfl)(I:aX H c=some (.bool b):=by rfl)(E:b=true:=by rfl):G P B g n K H L:=pv 60 K (D▸gJ I E h)
def mx{c:Operand}{I y:Code}{j:List fj}{b:Bool}(h:G P B g n (.code y::j) H L)(C:gT 60 K=.code (.cond c I y)::j:=by rfl)(E:aX H c=some (.bool b):=by rfl)(D:b=false:=by rfl):G P B g n K H L:=pv 60 K (C▸e9 E D h)
def cd{j:List fj}(h:G P B g n j H L)(C:gT 60 K=j:=by rfl):du P B g n az [] K H L:=cc (bs h C)
def fO{j:List fj}(h:G P B g n j H L)(C:gT 60 K=j:=by rfl):dv P B g n lo S .nil K H L:=jR (bs h C)
def m3{c:Operand}{C y:Code}{j:List fj}{b:Bool}(h:G P B g n (.code C::j) H L)(D:gT 60 K=.code (.cond c C y)::j:=by rfl)(I:aX H c=some (.bool b):=by rfl)(E:b=true:=by rfl):du P B g n az [] K H L:=cc (kB h D I E)
def hl{c:Operand}{I y:Code}{j:List fj}{b:Bool}(h:G P B g n (.code y::j) H L)(C:gT 60 K=.code (.cond c I y)::j:=by rfl)(E:aX H c=some (.bool b):=by rfl)(D:b=false:=by rfl):du P B g n az [] K H L:=cc (mx h C E D)
def bd{o:Oper}{j:Nat->Value}{M:Nat->List aG}(h:∀b,du P B g n az l K (eM H o.dst (j b)) (M b))(I:o.guard=none:=by rfl)(D:eb n o.dst=true:=by rfl)(E:b6 P g L H o (λv C=>∃b,v=j b/\C=M b):=by first|(apply ue;rfl)|exact rx|(apply gR;rfl;rfl;rfl)|(apply zd;rfl;rfl;rfl)|exact n0):du P B g n az (o::l) K H L:=st I D E (by rintro _ _ ⟨b,rfl,rfl⟩;exact h b)
def fv{o:Oper}{j:Value}{M:Q}(h:du P B g n az l K (eM H o.dst j) M)(I:o.guard=none:=by rfl)(D:eb n o.dst=true:=by rfl)(E:b6 P g L H o (λv C=>v=j/\C=M):=by first|(apply o2;rfl;rfl;rfl;exact oU)|(apply rz;rfl;rfl;rfl;rfl;exact oU)):du P B g n az (o::l) K H L:=st I D E (by rintro _ _ ⟨rfl,rfl⟩;exact h)
def f1{d:Option Nat}{j:FuncId}{D:List Operand}{R:Array TypeId}{aO:TypeId}{pos:String}{aT:Array Edge}{args:bz}{C:Value}{M:Q}[U:cu P j](I:hw H D=some args)(c:O P j args.toArray L λv E=>v=C/\E=M)(h:du P B g n az l K (eM H d C) M)(J:eb n d=true:=by rfl):du P B g n az (⟨d,.call ⟨.value (.func j),D.toArray,R⟩,aO,pos,aT,none⟩::l) K H L:=st p J (c5 I c) (by rintro _ _ ⟨rfl,rfl⟩;exact h)
def h5{D:Nat}{o:Oper}{j:Nat->Value}{M:Nat->List aG}(h:∀b,dv P B g n lo (M b) s K (eM H o.dst (j b)) (M b))(U:lo[D]?=some o:=by rfl)(R:o.guard=none:=by rfl)(J:eb n o.dst=true:=by rfl)(O:b6 P g L H o (λv E=>∃b,v=j b/\E=M b):=by first|(apply ue;rfl)|exact rx|(apply gR;rfl;rfl;rfl)|(apply zd;rfl;rfl;rfl)|exact n0)(I:∀b h,C (M b) h->C S h:=by intro b;exact tQ):dv P B g n lo S (.e D s) K H L:=bF (bW U R J O (by rintro _ _ ⟨b,rfl,rfl⟩;exact⟨_,λ_ s=>s,I b,h b⟩))
def nW{C:Nat}{d:Option Nat}{j:FuncId}{E:List Operand}{Y:Array TypeId}{aO:TypeId}{pos:String}{aT:Array Edge}{args:bz}{D:Value}{M:Q}[Z:cu P j](W:lo[C]?=some ⟨d,.call ⟨.value (.func j),E.toArray,Y⟩,aO,pos,aT,none⟩)(R:hw H E=some args)(c:O P j args.toArray L λv I=>v=D/\I=M)(h:dv P B g n lo M s K (eM H d D) M)(U:eb n d=true:=by rfl)(J:aS M S:=by exact tQ):dv P B g n lo S (.e C s) K H L:=bF (bW W p U (c5 R c) (by rintro _ _ ⟨rfl,rfl⟩;exact⟨_,λ_ s=>s,J,h⟩))
end
end
def P1(P:bk)(T:bq):Bool:=match P.underlying T with
 |some (.interface _)=>ag
 | _=>al
class su (P:bk) (T:bq):Prop where
 h:P1 P T=ag
def su.spec{P T}(j:su P T):∃C,P.underlying T=ab (.interface C):=by
 have h:=j.h;unfold P1 at h;grind
def Gi(P:bk)(T:bq):Bool:=match P.underlying T with
 |some (.interface _)=>al
 |some _=>ag
 |none=>al
class vH (P:bk) (T:bq):Prop where
 h:Gi P T=ag
def Dt(P:bk)(T:bq)(name:String)(C:dc):Bool:=
 match P.info? T,P.underlying T with
 |some E,ab (.pointer _)=>(match E.methods.find? (·.name==name)with
  |some j=>j.path.isEmpty&&(match j.func with|some (D,ag)=>aH C D| _=>al)
  |none=>al)
 | _,_=>al
class g8 (P:bk) (T:bq) (name:String) (j:outParam dc):Prop where
 h:Dt P T name j=ag
section
variable{ci:bq}{x:cJ}{v:a2}
def ZP[C:su P T](E:aX H x=ab .nilIface):bh P L H ⟨d,.binOp .eql T x (.const .nilIface) ci,aO,pos,aT,a7⟩ (.bool ag):=
 jU _ _ _ _ (λj=>by unfold eqGuard;simp) E p λj=>by
  let⟨I,D⟩:=C.spec;have ae:(eo T .nilIface .nilIface).run P j=.ok ag j:=by
   unfold eo;rw[show nK=9999+1 from rfl];unfold lO;simp only[cM,run_underlying D];rfl
  show((do pure (.bool (<- eo T .nilIface .nilIface)):Sem a2)).run P j= _;simp_all
theorem OJ[C:su P T]{S}(j):(eo T (.iface S v) .nilIface).run P j=.ok al j:=by
 let⟨E,D⟩:=C.spec;unfold eo;rw[show nK=9999+1 from rfl];unfold lO;simp only[cM,run_underlying D];rfl
def ZQ[D:su P T]{S}(C:aX H x=ab (.iface S v)):bh P L H ⟨d,.binOp .eql T x (.const .nilIface) ci,aO,pos,aT,a7⟩ (.bool al):=
 jU _ _ _ _ (λj=>by rfl) C p λj=>by
  show((do pure (.bool (<- eo T _ _)):Sem a2)).run P j= _;simp[OJ]
def ZZ[D:su P T]{S}(C:aX H x=ab (.iface S v)):bh P L H ⟨d,.binOp .neq T x (.const .nilIface) ci,aO,pos,aT,a7⟩ (.bool ag):=
 jU _ _ _ _ (λj=>by rfl) C p λj=>by
  show((do pure (.bool !(<- eo T _ _)):Sem a2)).run P j= _;simp[OJ]
def vH.spec(C:vH P T):∃j,P.underlying T=ab j/\∀D,j≠ .interface D:=by
 have h:=C.h;unfold Gi at h;grind
def OU[C:vH P T](I:aX H x=ab v):bh P L H ⟨d,.makeInterface T x,aO,pos,aT,a7⟩ (.iface T v):=λa j E _=>by
 let⟨J,D,O⟩:=C.spec;simp[execOp,E.eval I];have:(KH T v).run P j=.ok (.iface T v) j:=by
  unfold KH;simp only[cM,run_underlying D,dG];rfl
 simp_all
def Z5[C:vH P ci]{S}(I:aX H x=ab (.iface ci v)):bh P L H ⟨d,.typeAssert x S ci ag,aO,pos,aT,a7⟩ (.tuple #[v,.bool ag]):=λa j E _=>by
 let⟨J,D,O⟩:=C.spec;simp[execOp,E.eval I];have:(KK (.iface ci v) S ci ag).run P j=.ok (.tuple #[v,.bool ag]) j:=by
  unfold KK;simp only[cM,run_underlying D,dG];rfl
 simp_all
theorem g8.run{name f}[D:g8 P T name f][R:cu P f](args j):(callMethod (.iface T v) name args).run P j=.ok (.enter f (#[v]++args)) j:=by
 have h:=D.h;unfold Dt at h;split at h
 .rename_i Z ai J Y
  split at h
  .rename_i ah O
   simp[co]at h;let⟨h1,ae⟩:=h;split at ae
   .rename_i am I
    have E:=cy ae;subst E;have U:ah.path.toList=[]:=bo;have q:∀n,(method (n+1) T v name).run P j=.ok (f,v) j:=λn=>by
     unfold method;have W:(typeInfo T).run P j=.ok Z j:=by simp[typeInfo,J]
     simp[cM,W,dG,O,U,follow,I];unfold receiverAt;simp[cM,run_underlying Y,dG,Place.get,e5]
    have ap:(program).run P j=.ok P j:=rfl;unfold callMethod;simp[Made.depth];rw[show ∀C,C+100=(C+99)+1 from λ_=>rfl];simp[q];exact R.run _ j
   trivial
  trivial
 trivial
def Cm{name j C I}{args:bz}{E}[Z:g8 P T name j][R:cu P j](Y:aX H x=ab (.iface T v))(aq:hw H C=ab args)(h:O P j (v::args).toArray L E):
  b6 P g L H ⟨d,.call ⟨.invoke x name,C.toArray,I⟩,aO,pos,aT,a7⟩ E:=λa D U W ah ai ap=>by
 unfold eg;have J:(execOp a.eval ⟨d,.call ⟨.invoke x name,C.toArray,I⟩,aO,pos,aT,a7⟩).run P D=.ok (.enter j (v::args).toArray) D:=by
  have:=g8.run (P:=P) (T:=T) (v:=v) (name:=name) (C.toArray.map a.eval) D;simp only[execOp,resolve,e5,dG,invoke,U.eval Y];grind[mO]
 rw[J];apply(yZ h W).mono λam av ar=>?_;grind
end
def nC(v:a2):List PanicEntry:=[{v,recovered:=al}]
def m4(P:bk)(E:dc)(args:Array a2)(L:Q)(v:a2)(I:List aG->Prop):Prop:=
 ∀g F C,bj g (F::L) C->Calls P E args C λD J=>∃j,D=.panicked (nC v)/\I j/\bj g (F::j) J
def I5(g:d1)(F:aG)(v:a2)(D:List aG->Prop):jK->Act->dd->Prop
 | .panic C,a,E=>a.defers=[]/\C=nC v/\∃j,D j/\bj g (F::j) E
 | _,_,_=>False
def tS{I P C D a E}(h:C (.panic D) a E):∀j,gf I P C j (.panic D) a E
 | []=>h
 | .code _::j=>by exact tS h j
 | .ah _::j=>by exact tS h j
 | .inv _::j=>by exact tS h j
section
variable{x:cJ}{v:a2}{B:jK->Act->dd->Prop}{K:List fj}{az:Array cI}{l:List cI}
def pt{C c args D}(R:P.funcs[C]?=ab fn)(O:fn.body=ab c)(ai:fn.ntmps=n)(ah:da (aa args) n=ag)
  (h:∀(g:d1) (F),G P (I5 g.base F v D) g.base n [.code c] (nc args 0) (F::L)):m4 P C args.toArray L v D:=λg F E U=>by
 apply calls_of_wp R O;have am:args.toArray.size<=fn.ntmps:=bo;have:=h g F {tmps:=args.toArray++oz (fn.ntmps-args.toArray.size) undef,defers:=[]} E ⟨by simp_all,rfl,λW v j=>?_⟩ U.base
 .apply EK (λj a E h=>?_) (wpIn_wide.1 this);cases j with
  |panic Y=>
   let⟨h1,ae,I,an,J⟩:=h;exact⟨h1,I,by grind,an,J.pg⟩
  | _=>exact h.elim
 .obtain⟨ap,rfl,Z⟩:=wc _ 0 W v j;grind
def oK{C E U args R}[W:cu P C](Y:hw H E=ab args)(am:m4 P C args.toArray L v R)
  (h:∀a j D,fW g n H a->R D->bj g D j->B (.panic (nC v)) a j):du P B g n az (⟨d,.call ⟨.value (.func C),E.toArray,U⟩,aO,pos,aT,af⟩::l) K H L:=λa j J O=>by
 apply wpListIn_plain p λap ar=>?_;apply Oper.tD (λc av=>by trivial);unfold eg;have I:(execOp a.eval ⟨d,.call ⟨.value (.func C),E.toArray,U⟩,aO,pos,aT,af⟩).run P j=.ok (.enter C args.toArray) j:=by
  show(callFunc C _).run P j= _;rw[gY,mO J.e Y];simpa using W.run _ j
 rw[I];have h1:bj g ((λ_=>True)::L) j:=⟨O.g,λ_=>af,j.hm,λ_=> .inl p,λ_ _ I=>bv,eV.refl _,trivial,O.s⟩;apply(am g _ j h1).mono λaq ax ah=>?_;obtain⟨D,rfl,Z,ai⟩:=ah;exact tS (h _ _ D J Z (ai.mono λ_ s=>s.tail)) K
def VC{T}{U:Array bq}(I:aX H x=ab (.iface T v))(h:∀a j,fW g n H a->bj g L j->B (.panic (nC (.iface T v))) a j):du P B g n az (⟨d,.panic x,aO,pos,aT,af⟩::l) K H L:=λa j C E=>by
 apply wpListIn_plain p λJ O=>?_;apply Oper.tD (λc R=>by trivial);unfold eg;have D:(execOp a.eval ⟨d,.panic x,aO,pos,aT,af⟩).run P j=.halt (.panic (.iface T v)) j:=by
  simp[execOp,C.e.eval I];rfl
 rw[D];exact tS (h _ _ C E) K
def pj{F C j a D}(E:g.l3=[])(J:fW g n H a)(I:C j)(O:bj g (F::j) D):I5 g F v C (.panic (nC v)) a D:=⟨J.defers.trans E,rfl,j,I,O⟩
end
section
variable{M:Q}{ci:bq}{x y:cJ}{v:a2}
def lB{b o n c j I R}[aY:dh P T](aJ:aX H x=ab (.pointer (ab ⟨b,o,af⟩)))(aK:aX H y=ab v)(aE:qQ v=ag)(aB:eH (E I j (U b) n c R) L M)(bb:o<n*j):
  b6 P g L H ⟨d,.store T x y,aO,pos,aT,a7⟩ λO W=>O=undef/\W=E I j (U b) n c (R.set o v)::M:=λa Z aD aF ai am ax=>by
 have Y:=aF.mono λ_=>C.perm aB.perm;let⟨aL,aM,aq,aP,aQ,J,l⟩:=Y.s;let⟨D,az,a4,bc⟩:=J.rX;have aA:=J.le;have a3:=J.cap;have aI:bj g (ah b I D::M) Z:=⟨Y.g,aL,aM,aq,aP,aQ,az,l⟩;have a9:n*j<=c*j:=oH _ aA;have a8:o<aa D:=ad;apply(o2 aJ aK aE (iN.here (by simp;omega))) a Z aD aI ai am λO aV W ⟨ar,av⟩ aG=>?_;subst av;apply ax O aV _ ⟨ar,rfl⟩ (aG.mono λh s=>?_);have aZ:eS D o [v]=D.set o v:=by
  grind[lh,LC]
 have a0:(eS D o [v]).take (n*j)=R.set o v:=by simp_all[List.take_set]
 let⟨h1,ae,ap,aR,aS,q,aW⟩:=s;refine⟨h1,ae,ap,aR,aS,?_,aW⟩;grind[E.gP]
def Gq{b o n c D ai J R j}[a3:hM P T ai](aM:aX H x=ab (.pointer (ab ⟨b,o,af⟩)))(aP:aX H y=ab (.agg j.toArray))(aD:aH (aa j) ai=ag)(aI:kE j=ag)(aF:eH (E J D (U b) n c R) L M)(bc:o+aa j<=n*D):
  b6 P g L H ⟨d,.store T x y,aO,pos,aT,a7⟩ λO W=>O=undef/\W=E J D (U b) n c (eS R o j)::M:=λa am aG aJ ap aq aA=>by
 have Z:=aJ.mono λ_=>C.perm aF.perm;let⟨aQ,aR,av,aS,aV,I,l⟩:=Z.s;let⟨Y,aB,a9,be⟩:=I.rX;have aE:=I.le;have a8:=I.cap;have bg:=I.len;have aL:bj g (ah b J Y::M) am:=⟨Z.g,aQ,aR,av,aS,aV,aB,l⟩;have bb:n*D<=c*D:=oH _ aE;apply(rz aM aP aD aI (iN.here (Nat.ble_eq_true_of_le ad))) a am aG aL ap aq λO aZ W ⟨ax,az⟩ aK=>?_;subst az;apply aA O aZ _ ⟨ax,rfl⟩ (aK.mono λh s=>?_);have a4:(eS Y o j).take (n*D)=eS R o j:=by
  grind[lh,JL]
 let⟨h1,ae,ar,aW,aY,q,a0⟩:=s;refine⟨h1,ae,ar,aW,aY,?_,a0⟩;grind[E.gP,xQ]
def Pn{α}[C:d3 α](l j a)(D:j<aa l):eS (J l) (j*C.eF) (C.hq a)=J (l.set j a):=by rw[lh _ _ _ (by rw[ck,d3.len,<- LU];exact oH _ D),LC,bJ D,gS,h9,zw,zu,d3.len,LU,jm]
end
section
variable{M:Q}{ci:bq}{x y:cJ}{v:a2}
def Oi{C Z O j:Nat}{Y W aS}[am:eu P T (C,Z,O)][ap:cG P C aS](aI:aX H x=ab (.int Y 0))(aJ:aX H y=ab (.int W (j:Int)))
  (aZ:j*O<=140737488355328) (a3:j<=140737488355328):
  b6 P g L H ⟨d,.makeSlice T x y,aO,pos,aT,a7⟩ λaP aq=>∃J,aP=.slice (U J) 0 j/\aq=E C Z (U J) 0 j []::L:=λa ah R aG aV aW av=>by
 obtain⟨I,ai,aF,aA,aE,a0,aB,a4⟩:=am.zero ap;have ax:(I.bytes:Int)*(j:Int)<=281474976710656:=by
  grind
 have aD:=run_make ah T C I ai aF aA aB Y W 0 j (Int.le_refl _) ao ax ad;unfold eg;simp[execOp,R.eval aI,R.eval aJ];simp[aD];have D:=aG.alloc C (madeCells ai.cells (j*I.size)).toList;rw[Array.toArray_toList]at D;apply av _ _ _ ⟨ah.heap.size,rfl,rfl⟩;obtain⟨aK,aL,ar,aQ,aR,az,aM⟩:=D.s;refine⟨D.g,aK,aL,ar,aQ,aR,?_,aM⟩;have aY:=E.gP az (by rw[Kl,size_madeCells,aE]) (bO _) (by unfold maxLen;omega);simp_all
end
def O.cr{P D args L I cr}(h:O P D args L I)(R:∀v j E,I v j->C j E->∃M,cr v M/\C M E):O P D args L cr:=λg F am U=>
 (h g F am U).mono λap aq ⟨v,j,J,W,q⟩=>by
  let⟨h1,ae,d,Z,ah,a,l⟩:=q.s;let⟨M,Y,ai⟩:=R v j ae W l;exact⟨v,M,J,Y,q.g,h1,ae,d,Z,ah,a,ai⟩
def O.open{P I args L A}{ι:Type}{E:ι->List aG}{D:ι->Prop}{U}(ap:∀h,A h->∃j,D j/\C (E j) h)(R:∀j,D j->O P I args (E j++L) U):O P I args (A::L) U:=λg F av J=>by
 let⟨h1,ae,d,aq,ar,Z,ah⟩:=J.s.swap;let⟨j,Y,am⟩:=ap _ Z;have ai:=C.head (λ_ W=>W▸am) ⟨h1,ae,d,aq,ar,rfl,ah⟩;exact R j Y g F av ⟨J.g,ai.perm fA⟩
variable{az:Array cI}{eA:jK->Act->List Frame->dd->Prop}{i:Nat}{rest:List Nat}{a:Act}{cv:List Frame}{w:dd}{o:cI}
def ai1(I:az[i]?=ab o)(E:o.guard=af)(h:o.wp P a w (λC j=>wpOpsS P az eA rest C cv j) (λD C j=>eA D C cv j)):wpOpsS P az eA (i::rest) a cv w:=by
 unfold wpOpsS;simp[I,i6,E,if_true];unfold eg at h;split
 .rename_i j J
  rw[J]at h;trivial
 omega
def aiZ(E:az[i]?=ab o)(D:o.guard=af)(j:(execOp a.eval o).run P w=.ok .recover w)(C:recoverD cv=af)(h:wpOpsS P az eA rest (a.put o.dst .nilIface) cv w):wpOpsS P az eA (i::rest) a cv w:=by
 unfold wpOpsS;simp[E,i6,D,if_true,j,C];omega
def ai0{j v}(I:az[i]?=ab o)(E:o.guard=af)(C:(execOp a.eval o).run P w=.ok .recover w)(D:recoverD cv=ab (v,j))(h:wpOpsS P az eA rest (a.put o.dst v) j w):wpOpsS P az eA (i::rest) a cv w:=by
 unfold wpOpsS;simp[I,i6,E,if_true,C,D];omega
def oR{I}(E:fW g n H a)(Y:bj g L w)(U:az[i]?=ab o)(R:o.guard=af)(J:eb n o.dst=ag)(O:b6 P g L H o I)
  (h:∀v j D C,I v j->fW g n (eM H o.dst v) D->bj g j C->wpOpsS P az eA rest D cv C):wpOpsS P az eA (i::rest) a cv w:=
 ai1 U R (O a w E.e Y _ _ λv C j W Z=>h v j _ C W (E.lJ v J) Z)
def Jj(g)(C:g.l3=[])(args n)(I:aa args<=n):fW g n (nc args 0) {tmps:=args.toArray++oz (n-args.toArray.size) undef,defers:=[]}:=
 ⟨by simp_all,C.symm,λD v j=>by
  obtain⟨J,rfl,E⟩:=wc _ 0 D v j;grind⟩
def xL{P fn H L D j}(I:fn.results=D.toArray)(h:iq P H L D j){a w}(J:fP H a)(O:C L w.hm):(results fn a.tmps).run P w=.ok (cs j) w:=by
 unfold results;rw[I];simp only[yh,cM,x8];have U:=h.run J O;generalize W:yg (m:=Sem) _ D=R;have E:R.run P w=.ok j w:=bv;rw[E];cases j with
 |nil=>rfl
 |cons v l=>cases l<;>simp[cs]
def fP.aee{H a j}(h:fP H a)(C:j.tmps=a.tmps):fP H j:=λE v D=>by rw[C];exact h E v D
def ai3{P az eA rest a w o H L g D}(O:o.guard=af)(J:b6 P g L H o D)(U:fP H a)(W:bj g L w)
  (h:∀v j C,D v j->bj g j C->wpList P az eA rest (a.put o.dst v) C):wpList P az eA (o::rest) a w:=wpList_plain O λE I=>J a w U W E _ λv C j R Y=>I _ _ (h v j C R Y)
def m4.frame{P E args L M v I}(gd)(h:m4 P E args L v I)(O:aS M (gd++L)):m4 P E args M v λj=>∃D,I D/\j=gd++D:=by
 intro g F w R;have h1:=R.mono λU s=>C.join (N:=F::gd) (s.bl O);refine(h g _ w h1).mono λY Z ⟨j,J,W,q⟩=>⟨_,J,⟨j,W,rfl⟩,q.mono λU s=>C.part s⟩
noncomputable abbrev ar:=Tryz.prog
class eI (P:bk) (T:bq) (j:outParam (List (Nat×Nat))):Prop extends FI P T j where
 k:((List.range j.length).all λi=>decide (wU P T i=j[i]?.map λC=>(C.1,C.2,!Nat.beq C.2 1)))=ag:=by kernel_rfl
class Bp (l:List (Nat×Nat)) (i:Nat) (o s:outParam Nat):Prop where
 h:l[i]?=ab (o,s)
instance{o s l}:Bp ((o,s)::l) 0 o s:=⟨rfl⟩
instance{a l i o s}[h:Bp l i o s]:Bp (a::l) (i+1) o s:=⟨h.h⟩
class Fw (n:Nat) (b:outParam Bool):Prop where
 h:(!Nat.beq n 1)=b
instance:Fw 1 al:=⟨rfl⟩
instance{n}:Fw (n+2) ag:=⟨rfl⟩
instance{P T l i o s b}[j:eI P T l][h:Bp l i o s][ae:Fw s b]:kW P T i (o,s,b):=⟨by
 have:=nL.1 j.k i (kU.2 (h2.1 h.h).1);rw[of_decide_eq_true this,h.h,<- ae.h];rfl⟩
class oN (a b:Nat):Prop where
 h:a<b
instance(j C:Nat):oN j (C+j+1):=⟨by omega⟩
def Yg: [(2,461),(464,115),(580,33),(640,5),(646,21),(668,22),(691,19),(711,4),(716,20),(737,5)].all (λj=>(gZ j.2).all λC=>B2 ar (C+j.1))=ag:=by decide+kernel
theorem qz{a n j:Nat}(C:(a,n)∈ [(2,461),(464,115),(580,33),(640,5),(646,21),(668,22),(691,19),(711,4),(716,20),(737,5)])[h:oN j n]:cu ar (j+a):=⟨nL.1 (nL.1 Yg _ C) j (kU.2 h.h)⟩
instance(j:Nat)[oN j 461]:cu ar (j+2):=qz (n:=461) ao
instance(j:Nat)[oN j 115]:cu ar (j+464):=qz (n:=115) ao
instance(j:Nat)[oN j 33]:cu ar (j+580):=qz (n:=33) ao
instance(j:Nat)[oN j 5]:cu ar (j+640):=qz (n:=5) ao
instance(j:Nat)[oN j 21]:cu ar (j+646):=qz (n:=21) ao
instance(j:Nat)[oN j 22]:cu ar (j+668):=qz (n:=22) ao
instance(j:Nat)[oN j 19]:cu ar (j+691):=qz (n:=19) ao
instance(j:Nat)[oN j 4]:cu ar (j+711):=qz (n:=4) ao
instance(j:Nat)[oN j 20]:cu ar (j+716):=qz (n:=20) ao
instance(j:Nat)[oN j 5]:cu ar (j+737):=qz (n:=5) ao
instance:dh ar 3:={}
instance:cG ar 3 [j 0]:={}
instance:yz ar 3:={}
instance:dh ar 4:={}
instance:cG ar 4 [.bool al]:={}
instance:dh ar 5:={}
instance:cG ar 5 [.int .u8 0]:={}
instance:mZ ar 22 (3,5,1):={}
instance:eu ar 23 (57,22,192):={}
instance:hM ar 25 3:={}
instance:cG ar 25 [j 0,j 0,j 0]:={}
instance:eI ar 25 [(0,1),(1,1),(2,1)]:={}
instance:fN ar 27:={}
instance:dh ar 28:={}
instance:dh ar 32:={}
instance:fN ar 32:={}
instance:dh ar 33:={}
instance:fN ar 33:={}
instance:dh ar 37:={}
instance:cG ar 37 [.slice af 0 0]:={}
instance:eu ar 37 (42,3,24):={}
instance:dh ar 38:={}
instance:cG ar 38 [.slice af 0 0]:={}
instance:eu ar 38 (44,3,24):={}
instance:cG ar 40 [.slice af 0 0,.slice af 0 0,j 0]:={}
instance:eI ar 40 [(0,1),(1,1),(2,1)]:={}
instance:hM ar 42 3:={}
instance:cG ar 42 [j 0,j 0,j 0]:={}
instance:ss ar 42 3:={}
instance:eI ar 42 [(0,1),(1,1),(2,1)]:={}
instance:hM ar 44 3:={}
instance:cG ar 44 [j 0,j 0,j 0]:={}
instance:ss ar 44 3:={}
instance:eI ar 44 [(0,1),(1,1),(2,1)]:={}
instance:hM ar 46 7:={}
instance:cG ar 46 [j 0,j 0,j 0,j 0,j 0,j 0,j 0]:={}
instance:eI ar 46 [(0,1),(1,3),(4,3)]:={}
instance:hM ar 48 4:={}
instance:cG ar 48 [j 0,j 0,j 0,j 0]:={}
instance:eI ar 48 [(0,1),(1,1),(2,1),(3,1)]:={}
instance:hM ar 50 3:={}
instance:kW ar 50 0 (0,1,al):={}
instance:kW ar 50 1 (1,1,al):={}
instance:kW ar 50 2 (2,1,al):={}
instance:hM ar 52 10:={}
instance:cG ar 52 [j 0,j 0,j 0,j 0,j 0,j 0,j 0,j 0,j 0,j 0]:={}
instance:eI ar 52 [(0,1),(1,4),(5,3),(8,1),(9,1)]:={}
instance:hM ar 54 18:={}
instance:cG ar 54 [j 0,j 0,j 0,j 0,j 0,j 0,j 0,j 0,j 0,j 0,j 0,j 0,j 0,j 0,j 0,j 0,j 0,j 0]:={}
instance:eI ar 54 [(0,1),(1,7),(8,10)]:={}
instance:dh ar 55:={}
instance:cG ar 55 [.slice af 0 0]:={}
instance:eu ar 55 (5,1,1):={}
instance:hM ar 57 22:={}
instance:cG ar 57 [j 0,j 0,j 0,j 0,j 0,j 0,j 0,j 0,j 0,j 0,j 0,j 0,j 0,j 0,j 0,j 0,j 0,j 0,j 0,j 0,j 0,.slice af 0 0]:={}
instance:kW ar 57 0 (0,1,al):={}
instance:kW ar 57 1 (1,1,al):={}
instance:kW ar 57 2 (2,1,al):={}
instance:kW ar 57 3 (3,18,ag):={}
instance:kW ar 57 4 (21,1,al):={}
instance:dh ar 71:={}
instance:eu ar 71 (210,1,24):={}
instance:dh ar 72:={}
instance:eu ar 72 (55,1,24):={}
instance:cG ar 74 [.pointer af,j 0,j 0,j 0,.slice af 0 0,.slice af 0 0]:={}
instance:eI ar 74 [(0,1),(1,3),(4,1),(5,1)]:={}
instance:dh ar 75:={}
instance:eu ar 75 (105,1,8):={}
instance:dh ar 76:={}
instance:fN ar 76:={}
instance:dh ar 77:={}
instance:fN ar 77:={}
instance:dh ar 78:={}
instance:eu ar 78 (213,27,224):={}
instance:cG ar 80 [.pointer af,.slice af 0 0,.pointer af,.pointer af,j 0,j 0,j 0,.slice af 0 0]:={}
instance:eI ar 80 [(0,1),(1,1),(2,1),(3,1),(4,1),(5,1),(6,1),(7,1)]:={}
instance:fN ar 83:={}
instance:dh ar 84:={}
instance:fN ar 84:={}
instance:kW ar 86 2 (2,1,al):={}
instance:kW ar 86 3 (3,1,al):={}
instance:dh ar 99:={}
instance:fN ar 99:={}
instance:dh ar 102:={}
instance:fN ar 102:={}
instance:dh ar 105:={}
instance:cG ar 105 [.pointer af]:={}
instance:fN ar 105:={}
instance:dh ar 106:={}
instance:fN ar 106:={}
instance:cG ar 108 [.pointer af,.pointer af,j 0,.pointer af,j 0,j 0,.bool al,j 0]:={}
instance:eI ar 108 [(0,1),(1,1),(2,1),(3,1),(4,1),(5,1),(6,1),(7,1)]:={}
instance:dh ar 120:={}
instance:dh ar 121:={}
instance:cG ar 123 [.map af,.map af,j 0]:={}
instance:eI ar 123 [(0,1),(1,1),(2,1)]:={}
instance:dh ar 137:={}
instance:fN ar 137:={}
instance:cG ar 141 [.pointer af,j 0,.bool al,j 0]:={}
instance:eI ar 141 [(0,1),(1,1),(2,1),(3,1)]:={}
instance:dh ar 142:={}
instance:cG ar 142 [j 0]:={}
instance:cG ar 144 [j 0,j 0,j 0,j 0,j 0,j 0,j 0,j 0,j 0,j 0,j 0,j 0,j 0,j 0,j 0,j 0,j 0,j 0,j 0,j 0,j 0]:={}
instance:eI ar 144 [(0,1),(1,18),(19,1),(20,1)]:={}
instance:cG ar 146 [.slice af 0 0,j 0,.bool al]:={}
instance:eI ar 146 [(0,1),(1,1),(2,1)]:={}
instance:dh ar 156:={}
instance:cG ar 156 [.slice af 0 0]:={}
instance:eu ar 156 (3,1,8):={}
instance:hM ar 158 2:={}
instance:cG ar 158 [j 0,.slice af 0 0]:={}
instance:eI ar 158 [(0,1),(1,1)]:={}
instance:hM ar 160 5:={}
instance:cG ar 160 [j 0,.bool al,.bool al,j 0,.slice af 0 0]:={}
instance:eI ar 160 [(0,1),(1,1),(2,1),(3,2)]:={}
instance:cG ar 163 [j 0,j 0,j 0,j 0,j 0,j 0,j 0,j 0,j 0,j 0,j 0,j 0,j 0,j 0,j 0,j 0,j 0,j 0,j 0,j 0,.bool al]:={}
instance:eI ar 163 [(0,1),(1,1),(2,18),(20,1)]:={}
instance:fN ar 182:={}
instance:fN ar 183:={}
instance:fN ar 184:={}
instance:fN ar 185:={}
instance:fN ar 186:={}
instance:cG ar 203 [.slice af 0 0,j 0,j 0,j 0]:={}
instance:eI ar 203 [(0,1),(1,1),(2,1),(3,1)]:={}
instance:dh ar 210:={}
instance:cG ar 210 [.slice af 0 0]:={}
instance:eu ar 210 (160,5,48):={}
instance:cG ar 213 [j 0,j 0,j 0,j 0,j 0,j 0,j 0,j 0,j 0,j 0,j 0,j 0,j 0,j 0,j 0,j 0,j 0,j 0,j 0,j 0,j 0,j 0,j 0,.bool al,.bool al,j 0,.slice af 0 0]:={}
instance:eI ar 213 [(0,1),(1,1),(2,1),(3,1),(4,18),(22,5)]:={}
instance:dh ar 240:={}
instance:cG ar 240 [.pointer af]:={}
instance:fN ar 240:={}
instance:cG ar 242 [.pointer af,j 0,j 0,j 0]:={}
instance:eI ar 242 [(0,1),(1,1),(2,1),(3,1)]:={}
instance:dh ar 243:={}
instance:dh ar 244:={}
instance:eu ar 244 (353,1,8):={}
instance:cG ar 246 [.slice af 0 0,.map af,j 0,j 0,j 0]:={}
instance:eI ar 246 [(0,1),(1,1),(2,1),(3,1),(4,1)]:={}
instance:dh ar 247:={}
instance:cG ar 247 [.pointer af]:={}
instance:fN ar 247:={}
instance:cG ar 249 [.pointer af,j 0]:={}
instance:eI ar 249 [(0,1),(1,1)]:={}
instance:dh ar 250:={}
instance:cG ar 250 [.pointer af]:={}
instance:fN ar 250:={}
instance:cG ar 252 [.pointer af,j 0]:={}
instance:eI ar 252 [(0,1),(1,1)]:={}
instance:dh ar 253:={}
instance:fN ar 253:={}
instance:dh ar 255:={}
instance:fN ar 255:={}
instance:cG ar 257 [.pointer af,.pointer af,.slice af 0 0,j 0,j 0]:={}
instance:eI ar 257 [(0,1),(1,1),(2,1),(3,1),(4,1)]:={}
instance:dh ar 268:={}
instance:hM ar 293 2:={}
instance:cG ar 293 [j 0,j 0]:={}
instance:eI ar 293 [(0,1),(1,1)]:={}
instance:hM ar 309 2:={}
instance:cG ar 309 [.pointer af,.pointer af]:={}
instance:mZ ar 309 (2,253,1):={}
instance:cG ar 311 [j 0,j 0,.slice af 0 0,.pointer af,.pointer af]:={}
instance:eI ar 311 [(0,1),(1,1),(2,1),(3,2)]:={}
instance:eu ar 315 (318,1,8):={}
instance:dh ar 318:={}
instance:cG ar 318 [.pointer af]:={}
instance:dh ar 320:={}
instance:dh ar 353:={}
instance:cG ar 353 [.pointer af]:={}
instance:fN ar 353:={}
instance:dh ar 357:={}
instance:dh ar 371:={}
instance:kW ar 373 0 (0,1,al):={}
instance:kW ar 373 1 (1,10,ag):={}
instance:kW ar 373 3 (12,1,al):={}
instance:eu ar 378 (142,1,8):={}
instance:dh ar 386:={}
instance:hM ar 395 2:={}
instance:mZ ar 395 (2,240,1):={}
instance:cG ar 397 [j 0,j 0,j 0,.bool al,.pointer af,.pointer af,j 0,j 0,j 0,j 0,j 0]:={}
instance:eI ar 397 [(0,3),(3,1),(4,2),(6,1),(7,4)]:={}
instance:dh ar 403:={}
instance:fN ar 403:={}
instance:cG ar 405 [.pointer af,.slice af 0 0]:={}
instance:eI ar 405 [(0,1),(1,1)]:={}
instance:dh ar 406:={}
instance:dh ar 408:={}
instance:fN ar 408:={}
instance:hM ar 409 2:={}
instance:cG ar 409 [.pointer af,.pointer af]:={}
instance:mZ ar 409 (2,403,1):={}
instance:cG ar 411 [.pointer af,j 0,j 0,.pointer af,.pointer af]:={}
instance:eI ar 411 [(0,1),(1,1),(2,1),(3,2)]:={}
instance:cG ar 414 [j 0,j 0,j 0,j 0,j 0,j 0,.pointer af,.pointer af,j 0]:={}
instance:eI ar 414 [(0,3),(3,3),(6,1),(7,1),(8,1)]:={}
instance:hM ar 417 2:={}
instance:cG ar 417 [.pointer af,.pointer af]:={}
instance:mZ ar 417 (2,250,1):={}
instance:cG ar 419 [j 0,.slice af 0 0,.slice af 0 0,.pointer af,.pointer af,j 0]:={}
instance:eI ar 419 [(0,1),(1,1),(2,1),(3,2),(5,1)]:={}
instance:cG ar 450 [.slice af 0 0]:={}
instance:eI ar 450 [(0,1)]:={}
instance:fN ar 458:={}
instance:fN ar 462:={}
instance:fN ar 464:={}
instance:fN ar 467:={}
instance:fN ar 470:={}
instance:dh ar 483:={}
instance:eu ar 483 (487,5,40):={}
instance:cG ar 485 [.slice af 0 0,.pointer af,.pointer af]:={}
instance:eI ar 485 [(0,1),(1,1),(2,1)]:={}
instance:hM ar 487 5:={}
instance:cG ar 487 [j 0,j 0,j 0,j 0,j 0]:={}
instance:eI ar 487 [(0,3),(3,1),(4,1)]:={}
instance:eu ar 492 (37,1,24):={}
instance:eu ar 494 (38,1,24):={}
instance:cG ar 507 [.pointer af,j 0,.nilFunc,.slice af 0 0,j 0]:={}
instance:eI ar 507 [(0,1),(1,1),(2,1),(3,1),(4,1)]:={}
instance:dh ar 541:={}
instance:cG ar 541 [.pointer af]:={}
instance:fN ar 541:={}
instance:hM ar 545 3:={}
instance:cG ar 545 [.pointer af,j 0,j 0]:={}
instance:eI ar 545 [(0,1),(1,1),(2,1)]:={}
instance:cG ar 547 [.pointer af,j 0,j 0,j 0,j 0,.bool al,.slice af 0 0,j 0,j 0]:={}
instance:eI ar 547 [(0,1),(1,4),(5,1),(6,1),(7,1),(8,1)]:={}
instance:dh ar 554:={}
instance:fN ar 554:={}
instance:cG ar 560 [.pointer af,j 0,j 0,j 0,.bool al,.slice af 0 0,j 0,j 0]:={}
instance:eI ar 560 [(0,1),(1,3),(4,1),(5,1),(6,1),(7,1)]:={}
instance:dh ar 561:={}
instance:fN ar 561:={}
instance:cG ar 566 [.pointer af,j 0,j 0,j 0,j 0,.bool al,.slice af 0 0,j 0,j 0]:={}
instance:eI ar 566 [(0,1),(1,4),(5,1),(6,1),(7,1),(8,1)]:={}
instance:dh ar 567:={}
instance:fN ar 567:={}
instance:cG ar 573 [.pointer af,j 0,j 0,.slice af 0 0,j 0]:={}
instance:eI ar 573 [(0,1),(1,1),(2,1),(3,1),(4,1)]:={}
instance:dh ar 587:={}
instance:eu ar 587 (545,3,24):={}
instance:cG ar 589 [.slice af 0 0,j 0]:={}
instance:eI ar 589 [(0,1),(1,1)]:={}
instance:dh ar 592:={}
instance:eu ar 592 (247,1,8):={}
instance:cG ar 594 [.slice af 0 0,j 0]:={}
instance:eI ar 594 [(0,1),(1,1)]:={}
instance:dh ar 596:={}
instance:eu ar 596 (240,1,8):={}
instance:cG ar 598 [.slice af 0 0,j 0]:={}
instance:eI ar 598 [(0,1),(1,1)]:={}
instance:dh ar 600:={}
instance:eu ar 600 (250,1,8):={}
instance:cG ar 602 [.slice af 0 0,j 0]:={}
instance:eI ar 602 [(0,1),(1,1)]:={}
instance:dh ar 624:={}
instance:cG ar 630 [.slice af 0 0,.slice af 0 0]:={}
instance:mZ ar 630 (2,38,1):={}
instance:cG ar 636 [.pointer af,j 0,j 0]:={}
instance:eI ar 636 [(0,1),(1,1),(2,1)]:={}
instance:dh ar 664:={}
instance:dh ar 665:={}
instance:cG ar 665 [.pointer af]:={}
instance:cG ar 667 [.pointer af,.nilFunc,j 0]:={}
instance:eI ar 667 [(0,1),(1,1),(2,1)]:={}
instance:dh ar 682:={}
instance:dh ar 683:={}
instance:cG ar 683 [.pointer af]:={}
instance:cG ar 685 [.pointer af,.nilFunc,j 0]:={}
instance:eI ar 685 [(0,1),(1,1),(2,1)]:={}
instance:dh ar 693:={}
instance:dh ar 694:={}
instance:cG ar 694 [.pointer af]:={}
instance:cG ar 696 [.pointer af,.nilFunc,j 0]:={}
instance:eI ar 696 [(0,1),(1,1),(2,1)]:={}
instance:dh ar 707:={}
instance:dh ar 708:={}
instance:cG ar 708 [.pointer af]:={}
instance:cG ar 710 [.pointer af,.nilFunc,j 0]:={}
instance:eI ar 710 [(0,1),(1,1),(2,1)]:={}
instance:Fx ar 463 37:=⟨⟨_,4,Tryz.func463,cq,cq,cq,cq⟩⟩
instance:Fx ar 579 38:=⟨⟨_,4,Tryz.func579,cq,cq,cq,cq⟩⟩
abbrev Y(j:dc)(a:Array a2)(L:List aG)(C:a2->List aG->Prop):Prop:=O ar j a L C
abbrev aY(C:dc)(a:Array a2)(L:List aG)(v:a2)(M:List aG):Prop:=O ar C a L λw j=>w=v/\j=M
def ds{P:Program}{H:cU}{L:List aG}{j:Nat}{v:Value}(h:H.get j=some v:=by rfl):iq P H L [.tmp j] [v]:=.tmp h .nil
section
attribute [local irreducible] C
variable{B:jK->Act->dd->Prop}{K:List fj}{l:List cI}
def Mc{o:Oper}{I j:Nat}{b D:Bool}(h1:D=true->du P B g n az (o::l) K ((j,.bool true)::H) L)(ae:D=false->du P B g n az (o::l) K ((j,.bool false)::H) L)(J:o.guard=some (I,b):=by rfl)(O:(az[I]?).bind (·.dst)=some j:=by rfl)(E:H.get j=some (.bool D):=by rfl):du P B g n az (o::l) K H L:=by
 cases C:D with
 |true=>exact hN j E C (h1 C)
 |false=>exact hN j E C (ae C)
def Bf{d:Option Nat}{C:Op}{aO:TypeId}{pos:String}{aT:Array Edge}{j D:Nat}{b:Bool}(h:du P B g n az (⟨d,C,aO,pos,aT,none⟩::l) K H L)(I:(az[j]?).bind (·.dst)=some D:=by rfl)(J:H.get D=some (.bool b):=by rfl)(E:eb n d=true:=by rfl):du P B g n az (⟨d,C,aO,pos,aT,some (j,b)⟩::l) K H L:=hC I J E p h
def vO{o:Oper}{C j:Nat}{b D y:Bool}(h:du P B g n az (o::l) K ((j,.bool y)::H) L)(J:o.guard=some (C,b):=by rfl)(O:(az[C]?).bind (·.dst)=some j:=by rfl)(E:H.get j=some (.bool D):=by rfl)(I:D=y:=by assumption):du P B g n az (o::l) K H L:=hN j E I h
def Fh{c:Operand}{C y:Code}{j:List fj}{b:Bool}(h:G P B g n (.code C::j) H L)(D:gT 60 K=.code (.cond c C y)::j:=by rfl)(I:aX H c=some (.bool b):=by rfl)(E:b=true:=by assumption):du P B g n az [] K H L:=m3 h D I E
def L8{c:Operand}{I y:Code}{C:List fj}{b:Bool}(h1:b=true->G P B g n (.code I::C) H L)(ae:b=false->G P B g n (.code y::C) H L)(D:gT 60 K=.code (.cond c I y)::C:=by rfl)(E:aX H c=some (.bool b):=by rfl):du P B g n az [] K H L:=by
 cases j:b with
 |true=>exact m3 (h1 j) D E j
 |false=>exact hl (ae j) D E j
def L9{c:Operand}{I y:Code}{C:List fj}{b:Bool}(h1:b=true->G P B g n (.code I::C) H L)(ae:b=false->G P B g n (.code y::C) H L)(D:gT 60 K=.code (.cond c I y)::C:=by rfl)(E:aX H c=some (.bool b):=by rfl):G P B g n K H L:=by
 cases j:b with
 |true=>exact kB (h1 j) D E j
 |false=>exact mx (ae j) D E j
def Fg{id:Nat}{j:List fj}(h:dv P B g n l L (bE (List.range l.length) .nil) j H L)(C:gT 60 K=.code (.region id l.toArray true)::j:=by rfl)(E:P.follows .mixedOrders=true:=by kernel_rfl)(D:(nr l&&(Region.noSelect l.toArray&&Nat.beq (bE (List.range l.length) .nil).len l.length&&jj l.toArray (bE (List.range l.length) .nil) (Array.replicate l.length false)))=true:=by kernel_rfl):G P B g n K H L:=ed _ h C E D
def Fi{c:Operand}{C y:Code}{j:List fj}{b:Bool}(h:G P B g n (.code C::j) H L)(D:gT 60 K=.code (.cond c C y)::j:=by rfl)(I:aX H c=some (.bool b):=by rfl)(E:b=true:=by assumption):G P B g n K H L:=kB h D I E
def pC {A:Prop} (h:A:=by
  (repeat' (first
   |refine ay ?_|refine bu ?_|refine jR ?_|refine bQ ?_|refine ee ?_|refine Fg ?_|refine Vy ?_|refine m3 ?_|refine hl ?_|refine kB ?_|refine mx ?_
   |refine bd λ_=>?_|refine fv ?_|(refine f1 p IF ?_)
   |refine Bf ?_|refine Vz ?_|refine VE ?_|refine vO (y:=true) ?_|refine vO (y:=false) ?_|refine Mc (λ_=>?_) (λ_=>?_)|refine VG (λ_=>?_) (λ_=>?_)
   |refine Fh ?_|refine Ma ?_|refine Fi ?_|refine Mb ?_|refine L8 (λ_=>?_) (λ_=>?_)|refine L9 (λ_=>?_) (λ_=>?_)
   |((first|refine cd ?_|refine bs ?_);refine ba p (.tmp p .nil) a1 ⟨?_,rfl⟩;first|rfl|(simp_all[cs];done)|(simp_all[cs];omega)|(simp[cs]at*;split<;>first|(simp_all;done)|grind))))):A:=h
structure hk (j:Prop):Prop where
 h:j
def SL{C j:Prop}(h:C)(D:hk C->j:=by intro h;(first|refine ay ?_|refine bu ?_|refine bQ ?_|refine ee ?_|refine jR ?_|refine FA ?_|refine m3 ?_|refine hl ?_|refine kB ?_|refine mx ?_|refine fv ?_|refine ql p p p fs ?_|refine hC p p p fs ?_|refine a6 (pQ p fs p) ?_|refine a6 (rD p fs p) ?_|refine sA dm p p p ⟨_,rfl,by assumption⟩ p ?_|refine bF (sz p p p ⟨_,rfl,by first|rfl|assumption⟩ rfl ?_)|refine gJ p fs ?_|refine e9 p fs ?_);exact h.h):j:=D ⟨h⟩
def aC{C j:Prop}(h:C)(D:hk C->j:=by intro h;(repeat refine SL ?_);exact h.h):j:=D ⟨h⟩
def cR{P:Program}{C:FuncId}{fn:Func}{j:Nat}{c:Code}{args:bz}{L:Q}{D:Value->List aG->Prop}(h:∀{g F},G P (lK P fn g F D) g (j+1) [.code c] (nc args 0) (F::L))(I:P.funcs[C]?=some fn:=by rfl)(E:fn.body=some c:=by rfl)(R:fn.ntmps=j+1:=by rfl)(J:Nat.ble args.length (j+1)=true:=by rfl):O P C args.toArray L D:=Vk I E R J λ_ _=>h
def aD{P:Program}{C:FuncId}{args:bz}{L:Q}{D:Value->List aG->Prop}{j:d1->aG->Prop}(h:∀{g F},j g F)(E:hk (∀{g F},j g F)->O P C args.toArray L D:=by intro h;refine cR λ{g F}=>?_;refine aC ?_;exact h.h (g:=g) (F:=F)):O P C args.toArray L D:=E ⟨h⟩
def fG{j:Prop}(C:j:=by refine aC ?_;(first|refine cd ?_|refine bs ?_|skip);refine ba p (by repeat first|exact .nil|apply iq.tmp p) a1 ⟨rfl,rfl⟩):j:=C
def dk{C j:Prop}(h:C)(D:hk C->j:=by intro h;refine aC ?_;(first|refine cd ?_|refine bs ?_|skip);refine ba p (by repeat first|exact .nil|apply iq.tmp p) a1 h.h):j:=D ⟨h⟩
theorem aF{C j:Prop}(h:C)(D:hk C->j:=by intro h;(first|refine SL ?_|refine vO (y:=true) ?_|refine vO (y:=false) ?_|refine Fh ?_|refine Ma ?_|refine Fi ?_|refine Mb ?_|refine Fg ?_|refine Vy ?_|(refine f1 p IF ?_)|(refine nW p p IF ?_));exact h.h):j:=D ⟨h⟩
theorem aM{C D j:Prop}(h1:C)(ae:D)(E:hk C->hk D->j:=by intro h1 ae;first|exact Mc h1.h ae.h|exact VG h1.h ae.h|exact L8 h1.h ae.h|exact L9 h1.h ae.h):j:=E ⟨h1⟩ ⟨ae⟩
theorem ek{C j:Prop}(h:C)(D:hk C->j:=by intro h;first|(apply Cn;(exact aN);(focus rfl);exact h.h)|(apply zi;(exact aN);(focus rfl);exact h.h)|(apply cP;(exact aN);exact h.h)|(apply kG;exact h.h)|(apply sS;exact h.h)):j:=D ⟨h⟩
theorem aZ{j:Prop}(h:j:=by repeat' first|exact trivial|refine⟨rfl,?_⟩):j:=h
def cV{M S:Q}{C:List aG->Prop}(h:C M)(D:aS M S:=by exact tQ):∃j,(aS M j)/\(aS j S)/\C j:=⟨M,λ_ s=>s,D,h⟩
def bX{M S:Q}{C:List aG->Prop}(h:C S)(D:aS M S:=by exact tQ):∃j,(aS M j)/\(aS j S)/\C j:=⟨S,D,λ_ s=>s,h⟩
def dQ{C:Prop}{d:Option Nat}{j:FuncId}{E:List Operand}{W:Array TypeId}{aO:TypeId}{pos:String}{aT:Array Edge}{args:bz}{D:Value}{M:Q}[Y:cu P j](c:O P j args.toArray L λv I=>v=D/\I=M)(h:C)(J:hw H E=some args:=by rfl)(R:eb n d=true:=by rfl)(U:hk C->du P B g n az l K (eM H d D) M:=by intro h;refine aC ?_;exact h.h):du P B g n az (⟨d,.call ⟨.value (.func j),E.toArray,W⟩,aO,pos,aT,none⟩::l) K H L:=f1 J c (U ⟨h⟩) R
def bP{C:Nat->Prop}{o:Oper}{j:Nat->Value}{M:Nat->List aG}(h:∀b,C b)(J:o.guard=none:=by rfl)(E:eb n o.dst=true:=by rfl)(I:b6 P g L H o (λv D=>∃b,v=j b/\D=M b):=by first|(apply ue;rfl)|exact rx|(apply gR;rfl;rfl;rfl)|(apply zd;rfl;rfl;rfl)|exact n0)(O:hk (∀b,C b)->∀b,du P B g n az l K (eM H o.dst (j b)) (M b):=by intro h b;refine aC ?_;exact h.h b):du P B g n az (o::l) K H L:=bd (O ⟨h⟩) J E I
def fV{C j:Prop}(h:C)(D:hk C->j:=by intro h;(repeat first|refine vS ?_|refine yx ?_|refine Bk ?_);exact h.h):j:=D ⟨h⟩
def Eh(H:cU):List ResultVar->List a2
 | .tmp C::j=>(match H.get C with|some v=>v|none=> .tuple #[])::Eh H j
 | _=>[]
def Eg(H:cU):List ResultVar->Bool
 | .tmp C::j=>(match H.get C with|some _=>ag|none=>al)&&Eg H j
 | []=>ag
 | _=>al
def TC{P H L}:∀j,Eg H j=ag->iq P H L j (Eh H j)
 | [],_=> .nil
 | .tmp D::j,h=>by
  simp only[Eg,co]at h;unfold Eh;cases C:H.get D with
  |none=>rw[C]at h;exact absurd h.1 bL
  |some v=>exact .tmp C (TC j h.2)
 | .cell _ _:: _,h=>by cases h
def aR{P:Program}{fn:Func}{g:d1}{n:Nat}{K:List fj}{H:cU}{L j:Q}{F:aG}{C:Value->List aG->Prop}(I:C (cs (Eh H fn.results.toList)) j)(D:aS L (F::j):=by exact au)(E:Eg H fn.results.toList=true:=by rfl):G P (lK P fn g F C) g n (.code .ret::K) H L:=
 ba ao (TC _ E) D I
def gD{C j:Prop}(h:C)(D:hk C->j:=by intro h;refine aC ?_;refine cd ?_;exact h.h):j:=D ⟨h⟩
def rs{b y:Bool}(h:b=y:=by first|assumption|exact cO (by first|assumption|omega)|exact cw (by first|assumption|omega)):b=y:=h
def afj(o:cI):Bool:=md o||match o.op with
 | .load _ _| .lookup _ _ _ _| .slice _ _ _ _ _=>ag
 | .call ⟨.builtin b,_,_⟩=>b==.len||b==.cap||b==.min||b==.max
 | _=>al
def z2:Nat->List cI->iM
 | _,[]=> .nil
 |i,o::l=>match afj o with
  |true=> .q i (z2 (i+1) l)
  |false=> .e i (z2 (i+1) l)
def vL{P:Program}{L:Q}{H:cU}{o:Oper}{v:Value}(h:bh P L H o v:=by first|(apply iU;rfl;rfl;exact aw;exact aw)|(apply jC;rfl;rfl;exact aw;exact aw;exact aw)|(apply l6;rfl;rfl;exact aw;exact aw)|(apply iW;rfl;rfl;exact aw;exact aw)|(apply kH;rfl;rfl;exact aw)|(apply zo;rfl;rfl;rfl;rfl;rfl;rfl)|(apply uh;rfl;rfl;rfl;rfl;rfl;rfl)|(apply GG;rfl;rfl)|(apply wM;rfl;rfl)|(apply CG;rfl;rfl;exact aw)|(apply ZM;rfl;exact aw)|(apply n2;rfl)|(apply GF;rfl;rfl)|(apply OX;rfl;rfl)|(apply Z1;rfl;rfl)|(apply O3;rfl;rfl)|(apply GI;rfl;rfl;exact aw)):bh P L H o v:=h
section
variable{S:Q}{lo:List cI}{s:iM}
def VF{j:Option Nat}{C:Op}{aO:TypeId}{pos:String}{aT:Array Edge}{a7:Option (Nat×Bool)}{v:Value}(h:du P B g n az l K (eM H j v) L)(D:eb n j=true:=by rfl)(E:oO P L az H j C aO pos aT a7 v:=by first|(apply oO.plain;exact vL)|(apply oO.Kg p p;exact vL)):du P B g n az (⟨j,C,aO,pos,aT,a7⟩::l) K H L:=ay h D E
def WN{fn:Func}{j:d1}{F:aG}{C:Value->List aG->Prop}{i:Nat}{o:Oper}{v:Value}(h:dv P (lK P fn j F C) g n lo S s K (eM H o.dst v) L)(E:lo[i]?=some o:=by rfl)(D:eb n o.dst=true:=by rfl)(I:kZ P S lo H o v:=by first|(apply kZ.m p p;exact vL)|(apply kZ.q p p;exact vL)|(apply kZ.Id p p p p;exact vL)|(apply kZ.IW p p p p;exact vL)):dv P (lK P fn j F C) g n lo S (.q i s) K H L:=bu h E D I
def Bi{o:Oper}{C j:Nat}{b D y:Bool}(h:du P B g n az (o::l) K ((j,.bool y)::H) L)(J:o.guard=some (C,b):=by rfl)(O:(az[C]?).bind (·.dst)=some j:=by rfl)(E:H.get j=some (.bool D):=by rfl)(I:D=y:=by exact rs):du P B g n az (o::l) K H L:=hN j E I h
def Bh{o:Oper}{C j i:Nat}{b D y:Bool}(h:dv P B g n lo S (.q i s) K ((j,.bool y)::H) L)(O:lo[i]?=some o:=by rfl)(J:o.guard=some (C,b):=by rfl)(R:(lo[C]?).bind (·.dst)=some j:=by rfl)(E:H.get j=some (.bool D):=by rfl)(I:D=y:=by exact rs):dv P B g n lo S (.q i s) K H L:=jS j E I h
def Bg{o:Oper}{C j i:Nat}{b D y:Bool}(h:dv P B g n lo S (.e i s) K ((j,.bool y)::H) L)(O:lo[i]?=some o:=by rfl)(J:o.guard=some (C,b):=by rfl)(R:(lo[C]?).bind (·.dst)=some j:=by rfl)(E:H.get j=some (.bool D):=by rfl)(I:D=y:=by exact rs):dv P B g n lo S (.e i s) K H L:=jS j E I h
def Vm{c:Operand}{C y:Code}{j:List fj}{b:Bool}(h:G P B g n (.code C::j) H L)(D:gT 60 K=.code (.cond c C y)::j:=by rfl)(I:aX H c=some (.bool b):=by rfl)(E:b=true:=by exact rs):G P B g n K H L:=kB h D I E
def Vs{c:Operand}{I y:Code}{j:List fj}{b:Bool}(h:G P B g n (.code y::j) H L)(C:gT 60 K=.code (.cond c I y)::j:=by rfl)(E:aX H c=some (.bool b):=by rfl)(D:b=false:=by exact rs):G P B g n K H L:=mx h C E D
def Vx{id:Nat}{j:List fj}(h:dv P B g n l L (z2 0 l) j H L)(C:gT 60 K=.code (.region id l.toArray true)::j:=by rfl)(E:P.follows .mixedOrders=true:=by kernel_rfl)(D:(nr l&&(Region.noSelect l.toArray&&Nat.beq (z2 0 l).len l.length&&jj l.toArray (z2 0 l) (Array.replicate l.length false)))=true:=by decide+kernel):G P B g n K H L:=ed _ h C E D
def oP{i:Nat}{o:Oper}{j:Value}{M:Q}(h:G P B g n K (eM H o.dst j) M)(J:lo[i]?=some o:=by rfl)(I:o.guard=none:=by rfl)(D:eb n o.dst=true:=by rfl)(E:b6 P g L H o (λv C=>v=j/\C=M):=by first|(apply o2;rfl;rfl;rfl;exact oU)|(apply rz;rfl;rfl;rfl;rfl;exact oU)|(apply lB;rfl;rfl;rfl;exact aN;first|exact ao|exact ad))(O:od lo.toArray i=true:=by decide+kernel):dv P B g n lo S (.e i .nil) K H L:=bF (hD O J I D E (by rintro _ _ ⟨rfl,rfl⟩;exact h))
def lX{i:Nat}{o:Oper}{j:Value}{M:Q}(h:dv P B g n lo M s K (eM H o.dst j) M)(J:lo[i]?=some o:=by rfl)(I:o.guard=none:=by rfl)(D:eb n o.dst=true:=by rfl)(E:b6 P g L H o (λv C=>v=j/\C=M):=by first|(apply o2;rfl;rfl;rfl;exact oU)|(apply rz;rfl;rfl;rfl;rfl;exact oU)|(apply lB;rfl;rfl;rfl;exact aN;first|exact ao|exact ad))(O:od lo.toArray i=true:=by decide+kernel):dv P B g n lo S (.e i s) K H L:=bF (py O J I D E (by rintro _ _ ⟨rfl,rfl⟩;exact h))
end
def ak{C j:Prop}(h:C)(D:hk C->j:=by intro h;(repeat (first|refine ay ?_|refine bu ?_|refine bQ ?_|refine ee ?_|refine FA ?_|refine cd ?_|refine fO ?_|refine kB ?_|refine mx ?_|refine fv ?_|refine oP ?_|refine lX ?_|refine Vx ?_|refine a6 (pQ p rs p) ?_|refine a6 (rD p rs p) ?_|refine Bf ?_|refine ql p p p p ?_|refine bF (sz p p p ⟨_,rfl,rfl⟩ p ?_)|refine Bi (y:=true) ?_|refine Bi (y:=false) ?_|refine Bh (y:=true) ?_|refine Bh (y:=false) ?_|refine Bg (y:=true) ?_|refine Bg (y:=false) ?_|refine Vm ?_|refine Vs ?_));(try refine bs ?_);exact h.h):j:=D ⟨h⟩
def dl{C j:Prop}(h:C)(D:hk C->j:=by intro h;(repeat (first|refine ay ?_|refine bu ?_|refine cd ?_|refine fO ?_|refine fv ?_|refine oP ?_|refine lX ?_|refine a6 (pQ p rs p) ?_|refine a6 (rD p rs p) ?_|refine Bf ?_|refine ql p p p p ?_|refine bF (sz p p p ⟨_,rfl,rfl⟩ p ?_)|refine Bi (y:=true) ?_|refine Bi (y:=false) ?_|refine Bh (y:=true) ?_|refine Bh (y:=false) ?_|refine Bg (y:=true) ?_|refine Bg (y:=false) ?_));(try refine bs ?_);exact h.h):j:=D ⟨h⟩
def bt{P:Program}{C:FuncId}{args:bz}{L:Q}{D:Value->List aG->Prop}{j:d1->aG->Prop}(h:∀{g F},j g F)(E:hk (∀{g F},j g F)->O P C args.toArray L D:=by intro h;refine cR λ{g F}=>?_;refine ak ?_;exact h.h (g:=g) (F:=F)):O P C args.toArray L D:=E ⟨h⟩
def bg{C:Nat->Prop}{j:Prop}(h:∀b,C b)(D:hk (∀b,C b)->j:=by intro h;(first|refine bd λb=>?_|refine h5 λb=>?_);refine ak ?_;exact h.h b):j:=D ⟨h⟩
def dY{C j:Prop}(h:C)(D:hk C->j:=by intro h;refine ak ?_;(repeat ((first|refine VF ?_|refine WN ?_);refine ak ?_));exact h.h):j:=D ⟨h⟩
def AN{P:Program}{C:FuncId}{args:bz}{L:Q}{D:Value->List aG->Prop}{j:d1->aG->Prop}(h:∀{g F},j g F)(E:hk (∀{g F},j g F)->O P C args.toArray L D:=by intro h;refine cR λ{g F}=>?_;refine dY ?_;exact h.h (g:=g) (F:=F)):O P C args.toArray L D:=E ⟨h⟩
def AM{C:Nat->Prop}{j:Prop}(h:∀b,C b)(D:hk (∀b,C b)->j:=by intro h;(first|refine bd λb=>?_|refine h5 λb=>?_);refine dY ?_;exact h.h b):j:=D ⟨h⟩
def Y0{j:Prop}(h:j:=by decide+kernel):j:=h
def FD{L:Q}{j n:Nat}{A:a3}{C:bz}(h:bf L j A n C:=by first|exact gL|exact Rd.nil (α:=aj) _ _|(repeat' first|(apply_assumption;done)|apply bf.ap|apply bf.ev)):bf L j A n C:=h
def Ik{C:bz}(h:∀j∈C,j.oneCell'=true:=by first|exact hA p|exact e8 _):∀j∈C,j.oneCell'=true:=h
def fz{I j C D:a3->Nat->Prop}{E:Prop}(h:∀A c,j A c->C A c->D A c->I A c)(J:hk (∀A c,j A c->C A c->D A c->I A c)->E:=by intro h;refine GE (dH p p aN FD Ik bN aw aw aw) ?_;rintro _ _ ⟨A,c,rfl,h1,ae,an,rfl⟩;refine ak ?_;exact h.h A c h1 ae an):E:=J ⟨h⟩
def nH{I j C D:a3->Nat->Prop}{E:Prop}(h:∀A c,j A c->C A c->D A c->I A c)(J:hk (∀A c,j A c->C A c->D A c->I A c)->E:=by intro h;(first|refine bF ?_|skip);(first|(refine bW p p p (dH p p aN FD Ik bN aw aw aw) ?_;rintro _ _ ⟨A,c,rfl,h1,ae,an,rfl⟩;refine bX ?_;refine ak ?_;exact h.h A c h1 ae an)|(refine py Y0 p p p (dH p p aN FD Ik bN aw aw aw) ?_;rintro _ _ ⟨A,c,rfl,h1,ae,an,rfl⟩;refine ak ?_;exact h.h A c h1 ae an))):E:=J ⟨h⟩
section
variable{S:Q}{lo:List cI}{s:iM}
def fK{id:Nat}{j:List fj}{C:Prop}(s:iM)(h:C)(D:gT 60 K=.code (.region id l.toArray true)::j:=by rfl)(I:P.follows .mixedOrders=true:=by kernel_rfl)(E:(nr l&&(Region.noSelect l.toArray&&Nat.beq s.len l.length&&jj l.toArray s (Array.replicate l.length false)))=true:=by kernel_rfl)(J:hk C->dv P B g n l L s j H L:=by intro h;refine ak ?_;exact h.h):G P B g n K H L:=ed s (J ⟨h⟩) D I E
def pn{id:Nat}{j:List fj}{C:Prop}(s:iM)(h:C)(D:gT 60 K=.code (.region id l.toArray true)::j:=by rfl)(I:P.follows .mixedOrders=true:=by kernel_rfl)(E:(nr l&&(Region.noSelect l.toArray&&Nat.beq s.len l.length&&jj l.toArray s (Array.replicate l.length false)))=true:=by kernel_rfl)(J:hk C->dv P B g n l L s j H L:=by intro h;refine dY ?_;exact h.h):G P B g n K H L:=ed s (J ⟨h⟩) D I E
def hZ{id:Nat}{j:List fj}{C:Prop}(D:Nat)(s:iM)(h:C)(E:gT 60 K=.code (.region id l.toArray true)::j:=by rfl)(J:P.follows .mixedOrders=true:=by kernel_rfl)(I:(nr l&&(Region.noSelect l.toArray&&Nat.beq s.len l.length&&jj l.toArray s (Array.replicate l.length false)))=true:=by kernel_rfl)(O:hk C->dv P B g n l (sZ L D) s j H L:=by intro h;refine ak ?_;exact h.h):G P B g n K H L:=yv D s (O ⟨h⟩) E J I
def a9{C:Prop}{d:Option Nat}{j:FuncId}{E:List Operand}{W:Array TypeId}{aO:TypeId}{pos:String}{aT:Array Edge}{args:bz}{D:Value}{M:Q}[Y:cu P j](c:O P j args.toArray L λv I=>v=D/\I=M)(h:C)(J:hw H E=some args:=by rfl)(R:eb n d=true:=by rfl)(U:hk C->du P B g n az l K (eM H d D) M:=by intro h;refine ak ?_;exact h.h):du P B g n az (⟨d,.call ⟨.value (.func j),E.toArray,W⟩,aO,pos,aT,none⟩::l) K H L:=f1 J c (U ⟨h⟩) R
def sf{C:Prop}{d:Option Nat}{j:FuncId}{E:List Operand}{W:Array TypeId}{aO:TypeId}{pos:String}{aT:Array Edge}{args:bz}{D:Value}{M:Q}[Y:cu P j](c:O P j args.toArray L λv I=>v=D/\I=M)(h:C)(J:hw H E=some args:=by rfl)(R:eb n d=true:=by rfl)(U:hk C->du P B g n az l K (eM H d D) M:=by intro h;refine dY ?_;exact h.h):du P B g n az (⟨d,.call ⟨.value (.func j),E.toArray,W⟩,aO,pos,aT,none⟩::l) K H L:=f1 J c (U ⟨h⟩) R
def dM{C:Prop}{i:Nat}{d:Option Nat}{j:FuncId}{E:List Operand}{Z:Array TypeId}{aO:TypeId}{pos:String}{aT:Array Edge}{args:bz}{D:Value}{M:Q}[ah:cu P j](c:O P j args.toArray L λv I=>v=D/\I=M)(h:C)(W:lo[i]?=some ⟨d,.call ⟨.value (.func j),E.toArray,Z⟩,aO,pos,aT,none⟩:=by rfl)(R:hw H E=some args:=by rfl)(U:eb n d=true:=by rfl)(J:aS M S:=by exact tQ)(Y:hk C->dv P B g n lo M s K (eM H d D) M:=by intro h;refine ak ?_;exact h.h):dv P B g n lo S (.e i s) K H L:=nW W R c (Y ⟨h⟩) U J
def UD{C:Prop}{i:Nat}{d:Option Nat}{j:FuncId}{E:List Operand}{Z:Array TypeId}{aO:TypeId}{pos:String}{aT:Array Edge}{args:bz}{D:Value}{M:Q}[ah:cu P j](c:O P j args.toArray L λv I=>v=D/\I=M)(h:C)(W:lo[i]?=some ⟨d,.call ⟨.value (.func j),E.toArray,Z⟩,aO,pos,aT,none⟩:=by rfl)(R:hw H E=some args:=by rfl)(U:eb n d=true:=by rfl)(J:aS M S:=by exact tQ)(Y:hk C->dv P B g n lo M s K (eM H d D) M:=by intro h;refine dY ?_;exact h.h):dv P B g n lo S (.e i s) K H L:=nW W R c (Y ⟨h⟩) U J
theorem wr{C:Prop}{i:Nat}{d:Option Nat}{j:FuncId}{E:List Operand}{Z:Array TypeId}{aO:TypeId}{pos:String}{aT:Array Edge}{args:bz}{D:Value}{M:Q}[ah:cu P j](W:lo[i]?=some ⟨d,.call ⟨.value (.func j),E.toArray,Z⟩,aO,pos,aT,none⟩)(R:hw H E=some args)(c:O P j args.toArray L λv I=>v=D/\I=M)(h:C)(U:eb n d=true:=by rfl)(J:aS M S:=by exact tQ)(Y:hk C->dv P B g n lo M s K (eM H d D) M:=by intro h;refine ak ?_;exact h.h):dv P B g n lo S (.e i s) K H L:=nW W R c (Y ⟨h⟩) U J
def aP{d:Option Nat}{j:FuncId}{E:List Operand}{R:Array TypeId}{aO:TypeId}{pos:String}{aT:Array Edge}{args:bz}{D:Value->List aG->Prop}[U:cu P j](c:O P j args.toArray L D)(h:∀v C,D v C->du P B g n az l K (eM H d v) C)(I:hw H E=some args:=by rfl)(J:eb n d=true:=by rfl):du P B g n az (⟨d,.call ⟨.value (.func j),E.toArray,R⟩,aO,pos,aT,none⟩::l) K H L:=GE (c5 I c) h p J
def dV{i:Nat}{d:Option Nat}{D:FuncId}{I:List Operand}{W:Array TypeId}{aO:TypeId}{pos:String}{aT:Array Edge}{args:bz}{E:Value->List aG->Prop}[Y:cu P D](c:O P D args.toArray L E)(h:∀v j,E v j->∃C,(aS j C)/\(aS C S)/\dv P B g n lo C s K (eM H d v) j)(U:lo[i]?=some ⟨d,.call ⟨.value (.func D),I.toArray,W⟩,aO,pos,aT,none⟩:=by rfl)(J:hw H I=some args:=by rfl)(R:eb n d=true:=by rfl):dv P B g n lo S (.e i s) K H L:=bF (bW U p R (c5 J c) h)
def jl{i:Nat}{d:Option Nat}{C:FuncId}{E:List Operand}{W:Array TypeId}{aO:TypeId}{pos:String}{aT:Array Edge}{args:bz}{D:Value->List aG->Prop}[Y:cu P C](c:O P C args.toArray L D)(h:∀v j,D v j->dv P B g n lo j s K (eM H d v) j)(R:lo[i]?=some ⟨d,.call ⟨.value (.func C),E.toArray,W⟩,aO,pos,aT,none⟩:=by rfl)(I:hw H E=some args:=by rfl)(J:eb n d=true:=by rfl)(U:od lo.toArray i=true:=by decide+kernel):dv P B g n lo S (.e i s) K H L:=bF (py U R p J (c5 I c) h)
def qb{i:Nat}{d:Option Nat}{j:FuncId}{E:List Operand}{W:Array TypeId}{aO:TypeId}{pos:String}{aT:Array Edge}{args:bz}{D:Value->List aG->Prop}[Y:cu P j](c:O P j args.toArray L D)(h:∀v C,D v C->G P B g n K (eM H d v) C)(R:lo[i]?=some ⟨d,.call ⟨.value (.func j),E.toArray,W⟩,aO,pos,aT,none⟩:=by rfl)(I:hw H E=some args:=by rfl)(J:eb n d=true:=by rfl)(U:od lo.toArray i=true:=by decide+kernel):dv P B g n lo S (.e i .nil) K H L:=bF (hD U R p J (c5 I c) h)
end
def IY{P:Program}{H:cU}{L:Q}{j:List ResultVar}{C:bz}(h:iq P H L j C:=by repeat first|exact .nil|apply iq.tmp p|apply iq.cell p (eQ cA)):iq P H L j C:=h
def aaC{P:Program}{fn:Func}{g:d1}{n:Nat}{K E:List fj}{H:cU}{L:Q}{F:aG}{C:Value->List aG->Prop}{D:bz}(h:∃j,C (cs D) j/\aS L (F::j))(R:iq P H L fn.results.toList D:=by exact IY)(I:gT 60 K=.code .ret::E:=by rfl):G P (lK P fn g F C) g n K H L:=
 let⟨_,O,J⟩:=h;bs (ba ao R J O) I
def c8{j:Prop}(C:j:=by refine ak ?_;refine ba p IY a1 bD):j:=C
def eO{C j:Prop}(h:C)(D:hk C->j:=by intro h;refine ak ?_;refine ba p IY a1 h.h):j:=D ⟨h⟩
def jr(M L F:Q):Prop:=aS M (F++L)
theorem jr.nil{M:Q}:jr M [] M:=λh s=>by simpa using s
theorem jr.cons{C:aG}{M j L F:Q}(D:eH C M j)(h:jr j L F):jr M (C::L) F:=λE s=>((s.perm D.perm).bl h).perm fA.symm
theorem jr.ah{b T:Nat}{cv C:bz}{M j L F:Q}(E:eH (YteinodmjohkmmaaGreat.ah b T cv) M j)(D:cv=C)(h:jr j L F):jr M (YteinodmjohkmmaaGreat.ah b T C::L) F:=D▸ .cons E h
theorem jr.E{C D n c:Nat}{A:a3}{I J:bz}{M j L F:Q}(R:eH (YteinodmjohkmmaaGreat.E C D A n c I) M j)(O:I=J)(h:jr j L F):jr M (YteinodmjohkmmaaGreat.E C D A n c J::L) F:=O▸ .cons R h
theorem jr.all{M:Q}:jr M M []:=λh s=>s
def jr.abT{j:aG}{M L F:Q}(h:jr M L F):jr (j::M) L (j::F):=λC s=>s.bl h
def b3{P:Program}{C:FuncId}{args:Array Value}{L M F:Q}{D:Value->List aG->Prop}(h:O P C args L D)(J:jr M L F:=by repeat (first|exact jr.nil|(apply jr.cons;(exact aN))|(apply jr.ah;(exact aN);(focus rfl))|(apply jr.E;(exact aN);(focus rfl))|exact jr.all|apply jr.abT)):O P C args M λv I=>∃j,D v j/\I=F++j:=O.frame F h J
def eX{C j:Prop}(h:C)(D:hk C->j:=by intro h;refine ak ?_;refine aaC h.h):j:=D ⟨h⟩
inductive sw:Nat->aG->Q->Q->Prop where
 |z {j:aG} {L:Q}:sw 0 j (j::L) L
 |s {i:Nat} {j D:aG} {L C:Q} (h:sw i j L C):sw (i+1) j (D::L) (D::C)
theorem sw.ai{i C L j}(h:sw i C L j):eH C L j:=by induction h with
 |z=>exact .here
 |s _ D=>exact .ap D
inductive sx:List Nat->Q->Q->Prop where
 |nil {L:Q}:sx [] L L
 |cons {i:Nat} {D:List Nat} {C:aG} {L j M:Q} (a:sw i C L j) (h:sx D j M):sx (i::D) L (C::M)
theorem sx.e{C L M}(h:sx C L M):aS L M:=by induction h with
 |nil=>exact λ_ s=>s
 |cons a _ j=>exact cP a.ai j
def pb{P:Program}{B:Exit->Act->World->Prop}{g:d1}{n:Nat}{K:List fj}{H:cU}{L M:Q}(C:List Nat)(h:G P B g n K H M)(j:sx C L M:=by repeat' first|exact sx.nil|apply sx.cons|exact sw.z|apply sw.s):G P B g n K H L:=bp j.e h
theorem dp{A j:Prop}(a:A)(h:A7 A->j:=by intro a;(repeat first|exact cf|apply a.h|refine a.h ?_|refine ek ?_)<;>fail):j:=h ⟨a⟩
def k3{A B j:Prop}(a:A)(b:B)(h:A7 A->A7 B->j:=by intro a b;(repeat first|exact cf|apply a.h|refine a.h ?_|apply b.h|refine b.h ?_|refine ek ?_)<;>fail):j:=h ⟨a⟩ ⟨b⟩
end
section
attribute [local irreducible] C bh b6
instance:su ar 20:=⟨cq⟩
def Yp(L):aY 292 #[.nilIface] L (.tuple #[.agg #[j 0,j 0],.bool al]) L:=by
 apply aD λ{g F}=>?_;apply bP λC=>?_;apply a6 (ZP p) _;apply ak _;refine ba p (.cell p (eQ cA) (.tmp p .nil)) a1 bD
def Xf(C D g)(M:Q)(w)(Z:bj g (ah C 293 [j 0,j 0]::ah D 4 [.bool al]::M) w):
  CallsD ar 291 #[I C,I D] .returning w λR aG aI=>aG=.returning/\R=.returned (.tuple #[])/\bj g (ah C 293 [j 0,j 0]::ah D 4 [.bool al]::M) aI:=by
 have Y:=Z.base;apply callsD_of_wpS Tryz.func291 p λO cv W=>?_;apply wpS_region;have U:=Jj g.base p [I C,I D] 7 ao;apply aiZ rfl p p (by simp[recoverD,W]);apply oR (U.lJ _ rfl) Y p p p (c5 p (Yp _));rintro _ _ aJ aR ⟨rfl,rfl⟩ aA ai;apply oR aA ai p p p (bh.sR (l5 p));rintro _ _ aK aS ⟨rfl,rfl⟩ aB am;apply oR aB am p p p (bh.sR (wN p p));rintro _ _ aL aV ⟨rfl,rfl⟩ aD aq;apply oR aD aq p p p (bh.sR (wN p p));rintro _ _ aM aW ⟨rfl,rfl⟩ aE av;apply oR aE av p p p (rz p p p p (iN.here p));rintro _ _ aP aX ⟨rfl,rfl⟩ aF ax;apply oR aF ax p p p (o2 p p p (iN.ap (iN.here p)));rintro _ _ aQ aY ⟨rfl,rfl⟩ J E;refine⟨J.defers,.returning,?_,.tuple #[],xL (D:=[]) (j:=[]) p .nil J.e E.s,rfl,rfl,E.pg⟩;obtain⟨⟩:=O;simp_all
instance:vH ar 293:=⟨cq⟩
def Yo(C q L):aY 292 #[.iface 293 (.agg #[j C,j q])] L (.tuple #[.agg #[j C,j q],.bool ag]) L:=by
 apply bt λ{g F}=>?_;apply bg λD=>?_;apply a6 (ZQ p) _;apply ak _;apply a6 (Z5 p) _;apply ak _;apply bg λE=>?_;refine ba p (.cell p (eQ cA) (.tmp p .nil)) a1 bD
def Xe(D E g)(M:Q)(w C q)(ai:bj g (ah D 293 [j 0,j 0]::ah E 4 [.bool al]::M) w):
  CallsD ar 291 #[I D,I E] (.panicking (nC (.iface 293 (.agg #[j C,j q])))) w λU aI aJ=>settle aI=.returning/\U=.returned (.tuple #[])/\bj g (ah D 293 [j C,j q]::ah E 4 [.bool ag]::M) aJ:=by
 have Z:=ai.base;apply callsD_of_wpS Tryz.func291 p λR cv Y=>?_;apply wpS_region;have W:=Jj g.base p [I D,I E] 7 ao;apply ai0 (v:=.iface 293 (.agg #[j C,j q])) (j:={R with mode:=.panicking [{v:=.iface 293 (.agg #[j C,j q]),recovered:=ag}]}::cv) p p p (by simp[recoverD,Y,nC]);apply oR (W.lJ _ rfl) Z p p p (c5 p (Yo C q _));rintro _ _ aK aS ⟨rfl,rfl⟩ aB am;apply oR aB am p p p (bh.sR (l5 p));rintro _ _ aL aV ⟨rfl,rfl⟩ aD aq;apply oR aD aq p p p (bh.sR (wN p p));rintro _ _ aM aW ⟨rfl,rfl⟩ aE av;apply oR aE av p p p (bh.sR (wN p p));rintro _ _ aP aX ⟨rfl,rfl⟩ aF ax;apply oR aF ax p p p (rz p p p p (iN.here p));rintro _ _ aQ aY ⟨rfl,rfl⟩ aG aA;apply oR aG aA p p p (o2 p p p (iN.ap (iN.here p)));rintro _ _ aR aZ ⟨rfl,rfl⟩ O J;refine⟨O.defers,.panicking [{v:=.iface 293 (.agg #[j C,j q]),recovered:=ag}],?_,.tuple #[],xL (D:=[]) (j:=[]) p .nil O.e J.s,rfl,rfl,J.pg⟩;rfl
end
def ls(P:bk)(I:dc)(args:Array a2)(L:Q)(J E:a2->List aG->Prop):Prop:=
 ∀g F w,bj g (F::L) w->Calls P I args w λC D=>(∃v j,C=.returned v/\J v j/\bj g (F::j) D)\/∃v j,C=.panicked (nC v)/\E v j/\bj g (F::j) D
def r3(P:bk)(fn:Func)(g:d1)(F:aG)(D C:a2->List aG->Prop):jK->Act->dd->Prop:=λj a w=>lK P fn g F D j a w\/∃v,I5 g F v (C v) j a w
section
variable{M:Q}{x:cJ}{B:jK->Act->dd->Prop}{K:List fj}{l:List cI}{f:dc}{args:Array a2}{kP cr X ajb:a2->List aG->Prop}
def ls.frame(gd:Q)(h:ls P f args L kP X)(O:aS M (gd++L)):ls P f args M (λv j=>∃D,kP v D/\j=gd++D) (λv j=>∃D,X v D/\j=gd++D):=λg F w R=>by
 have h1:=R.mono λJ s=>C.join (N:=F::gd) (s.bl O);apply(h g _ w h1).mono λU W q=>?_;rcases q with ⟨v,j,E,I,q⟩|⟨v,j,E,I,q⟩
 .exact .inl ⟨v,_,E,⟨j,I,rfl⟩,q.mono λJ s=>C.part s⟩
 .exact .inr ⟨v,_,E,⟨j,I,rfl⟩,q.mono λJ s=>C.part s⟩
def Bb{c args}(I:P.funcs[f]?=ab fn)(E:fn.body=ab c)(Z:fn.ntmps=n)(Y:da (aa args) n=ag)
  (h:∀(g:d1) (F),G P (r3 P fn g.base F kP X) g.base n [.code c] (nc args 0) (F::L)):ls P f args.toArray L kP X:=λg F w J=>by
 apply calls_of_wp I E;have ah:args.toArray.size<=fn.ntmps:=bo;have:=h g F {tmps:=args.toArray++oz (fn.ntmps-args.toArray.size) undef,defers:=[]} w ⟨by simp_all,rfl,λO v j=>?_⟩ J.base
 .apply EK (λj a w h=>?_) (wpIn_wide.1 this);have cv:∀j,j≠ .outgrown->gf g.base.ie P (r3 P fn _ F kP X) [] j a w->r3 P fn g.base F kP X j a w:=λj U h=>by cases j<;>first|exact h|trivial
  cases j with
  |outgrown=>trivial
  |normal=>
   rcases cv _ ao h with h|⟨v,h⟩
   .let⟨h1,v,ae,C,an,D⟩:=h;exact⟨h1,v,ae,.inl ⟨v,C,rfl,an,D.pg⟩⟩
   trivial
  |ret=>
   rcases cv _ ao h with h|⟨v,h⟩
   .let⟨h1,v,ae,C,an,D⟩:=h;exact⟨h1,v,ae,.inl ⟨v,C,rfl,an,D.pg⟩⟩
   trivial
  |panic R=>
   rcases cv _ ao h with h|⟨v,h⟩
   .trivial
   .let⟨h1,ae,C,an,D⟩:=h;exact⟨h1,.inr ⟨v,C,by grind,an,D.pg⟩⟩
  | _=>
   rcases cv _ ao h with h|⟨v,h⟩
   .trivial
   assumption
 .obtain⟨ai,rfl,W⟩:=wc _ 0 O v j;grind
def Fl{I}{C:bz}{j:Q}{F}(R:fn.results=I.toArray)(h:iq P H L I C)(J:aS L (F::j))(O:kP (cs C) j):G P (r3 P fn g F kP X) g n (.code .ret::K) H L:=λa w D E=>
 wpIn_ret (vW (.inl ⟨D.defers,cs C,xL R h D.e E.s,j,O,E.mono J⟩))
def VK{I}{C:bz}{j:Q}{F}(R:fn.results=I.toArray)(h:iq P H L I C)(J:aS L (F::j))(O:kP (cs C) j):G P (r3 P fn g F kP X) g n [] H L:=λa w D E=>
 .inl ⟨D.defers,cs C,xL R h D.e E.s,j,O,E.mono J⟩
def D9{F}{j:Q}{a w v}(C:g.l3=[])(E:fW g n H a)(D:X v j)(I:bj g (F::j) w):r3 P fn g F kP X (.panic (nC v)) a w:=.inr ⟨v,pj C E D I⟩
def F6{E J w eA}(h:ls P E J L kP X)(I:bj g L w)(h1:∀v j C,kP v j->bj g j C->eA (.returned v) C)(ae:∀v j C,X v j->bj g j C->eA (.panicked (nC v)) C):Calls P E J w eA:=by
 have R:bj g ((λ_=>True)::L) w:=⟨I.g,λ_=>af,w.hm,λ_=> .inl p,λ_ _ O=>bv,eV.refl _,trivial,I.s⟩;apply(h g _ w R).mono λO C q=>?_;rcases q with ⟨v,j,rfl,D,q⟩|⟨v,j,rfl,D,q⟩
 .exact h1 v j C D (q.mono λ_ s=>s.tail)
 .exact ae v j C D (q.mono λ_ s=>s.tail)
def VA{I J}{args:bz}[O:cu P f](W:hw H I=ab args)(Y:eb n d=ag)(ah:ls P f args.toArray L kP X)
  (h:∀v a w j,fW g n H a->X v j->bj g j w->B (.panic (nC v)) a w) (ai:∀v j,kP v j->du P B g n az l K (eM H d v) j):du P B g n az (⟨d,.call ⟨.value (.func f),I.toArray,J⟩,aO,pos,aT,af⟩::l) K H L:=λa w D Z=>by
 apply wpListIn_plain p λap U=>?_;apply Oper.tD (λc aq=>by trivial);unfold eg;have R:(execOp a.eval ⟨d,.call ⟨.value (.func f),I.toArray,J⟩,aO,pos,aT,af⟩).run P w=.ok (.enter f args.toArray) w:=by
  show(callFunc f _).run P w= _;rw[gY,mO D.e W];simpa using O.run _ w
 rw[R];exact F6 ah Z (λv j am C E=>U _ _ (ai v j C _ _ (D.lJ v Y) E)) λv j am C E=>tS (h v _ _ j D C E) K
def VB{q C D O R}{args:bz}[U:cu P f](ai:aX H q=ab (.func (.func f) C.toArray D.toArray))(Z:hw H O=ab args)(ah:eb n d=ag)(ap:ls P f (C++args++D).toArray L kP X)
  (h:∀v a w j,fW g n H a->X v j->bj g j w->B (.panic (nC v)) a w) (aq:∀v j,kP v j->du P B g n az l K (eM H d v) j):du P B g n az (⟨d,.call ⟨.value q,O.toArray,R⟩,aO,pos,aT,af⟩::l) K H L:=λa w E am=>by
 apply wpListIn_plain p λav Y=>?_;apply Oper.tD (λc ax=>by trivial);unfold eg;have W:(execOp a.eval ⟨d,.call ⟨.value q,O.toArray,R⟩,aO,pos,aT,af⟩).run P w=.ok (.enter f (C++args++D).toArray) w:=by
  have:=U.run (C++args++D).toArray w;simp only[execOp,resolve,E.e.eval ai,oB,invoke];rw[gY,mO E.e Z];simp_all
 rw[W];exact F6 ap am (λv j ar I J=>Y _ _ (aq v j I _ _ (E.lJ v ah) J)) λv j ar I J=>tS (h v _ _ j E I J) K
def ai2{eA rest a w q D E O R}{args:bz}[U:cu P f](Z:aX H q=ab (.func (.func f) D.toArray E.toArray))(ar:hw H O=ab args)(h:ls P f (D++args++E).toArray L kP X)(ah:fP H a)(ai:bj g L w)
  (am:∀v j C,kP v j->bj g j C->wpList P az eA rest (a.put d v) C) (ap:∀v j C,X v j->bj g j C->eA (.panic (nC v)) a C):wpList P az eA (⟨d,.call ⟨.value q,O.toArray,R⟩,aO,pos,aT,af⟩::rest) a w:=wpList_plain p λaq Y=>by
 unfold eg;have W:(execOp a.eval ⟨d,.call ⟨.value q,O.toArray,R⟩,aO,pos,aT,af⟩).run P w=.ok (.enter f (D++args++E).toArray) w:=by
  have:=U.run (D++args++E).toArray w;simp[execOp,resolve,ah.eval Z,oB,invoke];grind[mO]
 rw[W];exact F6 h ai (λv j C I J=>Y _ _ (am v j C I J)) λv j C I J=>ap v j C I J
end
section
attribute [local irreducible] C bh b6
def F9{W:dc}{R U:bz}{L:Q}{aI:List aG->Prop}{aB:a2->List aG->Prop}[a9:cu ar W](h:ls ar W (R++[]++U).toArray L (λ_ D=>aI D) λv D=>(∃C q,v=.iface 293 (.agg #[j C,j q]))/\aB v D):
  Y 210 #[.func (.func W) R.toArray U.toArray] L λv D=>(v=.tuple #[.agg #[j 0,j 0],.bool al]/\aI D)\/∃C q,v=.tuple #[.agg #[j C,j q],.bool ag]/\aB (.iface 293 (.agg #[j C,j q])) D:=λg F w a0=>by
 apply calls_of_wp_defers (fn:=Tryz.f210) Tryz.func210 p;have aZ:=Jj g.base p [.func (.func W) R.toArray U.toArray] 7 ao
 suffices a8:∀ax,ax=bodyPostD ar Tryz.f210 (λZ ai=>∃v D,Z=.returned v/\((v=.tuple #[.agg #[j 0,j 0],.bool al]/\aI D)\/∃C q,v=.tuple #[.agg #[j C,j q],.bool ag]/\aB (.iface 293 (.agg #[j C,j q])) D)/\bj g (F::D) ai)->
   G ar ax g.base 7 [.code (Tryz.f210.body.get p)] (nc [.func (.func W) R.toArray U.toArray] 0) (F::L)from EK (λZ a w h=>by cases Z<;>first|exact h|exact h.elim) (wpIn_wide.1 (a8 _ p _ _ aZ a0.base))
 intro ax aL;apply ak _;apply bd λE=>?_;apply bg λJ=>?_;intro a aS aq a3;apply wpListIn_plain p λaV aQ=>?_;refine⟨λ_ _=>trivial,?_⟩;have aJ:a.eval (.tmp 4)=.func (.func 291) #[] #[I E,I J]:=aq.e.eval p;have aK:∀(aO:bq) (av:String) (am:Array Edge),(execOp a.eval ⟨af,.defer ⟨.value (.tmp 4),#[],#[]⟩,aO,av,am,af⟩).run ar aS=.ok (.defer ⟨.fn (.func 291) #[I E,I J],#[]⟩) aS:=λ_ _ _=>by
  simp[execOp,resolve,aJ,oB]
 rw[show ∀(aO:bq) (av:String) (am:Array Edge),Oper.semAt (lE g.base.ie).round a.eval ⟨af,.defer ⟨.value (.tmp 4),#[],#[]⟩,aO,av,am,af⟩=execOp a.eval ⟨af,.defer ⟨.value (.tmp 4),#[],#[]⟩,aO,av,am,af⟩from λ_ _ _=>rfl,aK];apply aQ _ _;clear aQ aV aK aJ;show(Code.seq _ _).wpIn Fence.wide 0 _ _ _ _;apply wpIn_wide.2;have aX:=aq.e;have bc:=aq.size;have aM:=aq.defers;apply wp_seq (wp_region_lit _);have aP:=fP.aee (j:={a with defers:=⟨.fn (.func 291) #[I E,I J],#[]⟩::a.defers}) aX p;apply ai3 p (bh.sR (l5 p)) aP a3;rintro v bb be ⟨rfl,rfl⟩ a4;have aD:=fP.put aP (t:=5) (.func (.func W) R.toArray U.toArray) (by show 5<a.tmps.size;omega);apply ai2 (D:=R) (E:=U) p p (ls.frame [ah J 4 [.bool al],ah E 293 [j 0,j 0],F] h cT) aD a4 _ _
 .rintro v aW O ⟨aA,aE,rfl⟩ aF;have aY:=aD.put (t:=6) v (by simp[Act.put];omega);apply wp_ret;subst aL;show Leaves _ _ _ _ (_::a.defers) .returning O;rw[aM];apply leaves_cons ao (f:=291) (args:= #[I E,I J]) ((inferInstance:cu ar 291).run #[I E,I J] O);refine(Xf E J g.base _ O (aF.mono λ_ s=>s.swap)).mono λZ aR ai ⟨h1,ae,an⟩=>?_;subst h1 ae;show Leaves _ _ _ _ [] .returning ai;exact⟨_,xL (D:=[.cell 2 293,.cell 3 4]) (j:=[.agg #[j 0,j 0],.bool al]) p (.cell p (eQ (aU.ah p)) (.cell p (HT (a5.ap (a5.ah p))) .nil)) aY an.s,_,aA,rfl,.inl ⟨rfl,aE⟩,(an.mono λ_ s=>s.tail.tail).pg⟩
 .rintro v aW O ⟨aA,⟨⟨C,q,rfl⟩,aE⟩,rfl⟩ aF;subst aL;show Leaves _ _ _ _ (_::a.defers) (.panicking (nC _)) O;rw[aM];apply leaves_cons ao (f:=291) (args:= #[I E,I J]) ((inferInstance:cu ar 291).run #[I E,I J] O);refine(Xe E J g.base _ O C q (aF.mono λ_ s=>s.swap)).mono λZ aR ai ⟨h1,ae,an⟩=>?_;subst ae;show Leaves _ _ _ _ [] (settle aR) ai;rw[h1];exact⟨_,xL (D:=[.cell 2 293,.cell 3 4]) (j:=[.agg #[j C,j q],.bool ag]) p (.cell p (eQ (aU.ah p)) (.cell p (HT (a5.ap (a5.ah p))) .nil)) aD an.s,_,aA,rfl,.inr ⟨C,q,rfl,aE⟩,(an.mono λ_ s=>s.tail.tail).pg⟩
def B5{D}{E I:bz}{L}{J:List aG->Prop}[R:cu ar D](h:Y D (E++[]++I).toArray L λv C=>J C):
  Y 210 #[.func (.func D) E.toArray I.toArray] L λv C=>v=.tuple #[.agg #[j 0,j 0],.bool al]/\J C:=
 (F9 (aB:=λ_ _=>False) λg F w O=>(h g F w O).mono λ_ _ q=> .inl q).mono λ_ _ q=>q.resolve_right λ⟨_,_,_,q⟩=>q
def Yn{I}{R U:bz}{L O J q}[Z:cu ar I](h:m4 ar I (R++[]++U).toArray L (.iface 293 (.agg #[j J,j q])) O):
  Y 210 #[.func (.func I) R.toArray U.toArray] L λv D=>v=.tuple #[.agg #[j J,j q],.bool ag]/\O D:=
 (F9 (aI:=λ_=>False) (aB:=λv D=>v=.iface 293 (.agg #[j J,j q])/\O D) λg F w W=>(h g F w W).mono λ_ _ ⟨D,E,C,s⟩=> .inr ⟨_,D,E,⟨⟨_,_,rfl⟩,rfl,C⟩,s⟩).mono λv D C=>by
  rcases C with ⟨_,C⟩|⟨_,_,rfl,E,C⟩
  .exact C.elim
  .cases E;exact⟨rfl,C⟩
end
theorem aj.ta(j q:aj):j.less q=ag<->(j.x<q.x\/j.x=q.x/\(j.y<q.y\/j.y=q.y/\j.id<q.id)):=by
 unfold aj.less;grind
theorem aj.CJ(j q:aj):j=q<->(j.id=q.id/\j.x=q.x/\j.y=q.y):=by
 obtain⟨a,b,c⟩:=j;obtain⟨d,C,D⟩:=q;simp
theorem aj.pY(j:aj):j.less j=al:=by
 cases h:j.less j with
 |false=>rfl
 |true=>rw[aj.ta]at h;omega
theorem aj.tc{j q C:aj}(h:j.less q=ag)(D:q.less C=ag):j.less C=ag:=by rw[aj.ta]at*;omega
theorem aj.Dg{j q:aj}(h:j.less q=ag):q.less j=al:=by
 cases C:q.less j with
 |false=>rfl
 |true=>rw[aj.ta]at*;omega
theorem aj.tb{j q:aj}(h:j≠q)(D:j.less q=al):q.less j=ag:=by
 rw[aj.ta];have C: ¬j.less q=ag:=bo;rw[aj.ta]at C;rw[ne_eq,aj.CJ]at h;omega
def aj.NZ(j q:aj): ¬0<j.cmp q<->q.less j=al:=by
 unfold aj.cmp
 by_cases h:j=q
 .subst h;simp[aj.pY]
 .by_cases C:j.less q=ag
  .simp[h,C,aj.Dg C]
  .have D:j.less q=al:=bo;simp[h,D,aj.tb h D]
def aj.YJ(j q:aj):0<j.cmp q<->q.less j=ag:=by
 have:=aj.NZ j q;grind
def d9(l:List aj):Prop:=l.Pairwise λa b=>a.less b=ag
def eR(v:aj)(l:List aj):List aj:=l.takeWhile (λj=>!v.less j)++v::l.dropWhile (λj=>!v.less j)
def lf(v:aj)(l:List aj):Nat:=aa (l.takeWhile (λj=>!v.less j))
def DW(v l):lf v l<=aa l:=(LI _).length_le
theorem SI(v l):eR v l=l.take (lf v l)++[v]++l.drop (lf v l):=by
 have h:=yj (p:=λj=>!v.less j) (l:=l);have C:∀(a b:List aj),a++b=l->l.take (aa a)=a/\l.drop (aa a)=b:=by
  grind
 grind[lf,eR]
theorem u2(v l):(eR v l).Perm (v::l):=by grind[eR,yj]
def afa(v l):aa (eR v l)=aa l+1:=by rw[(u2 v l).length_eq];rfl
theorem IQ(v):∀(l),d9 l->∀(j)(a),l[j]?=ab a->(v.less a=ag<->lf v l<=j)
 | [],_,j,a,h=>by trivial
 |b::l,D,j,a,h=>by
  unfold d9 at D;rw[gH]at D;cases E:v.less b with
  |true=>
   have C:lf v (b::l)=0:=by simp[lf,E]
   rw[C];refine⟨λ_=>bO _,λ_=>?_⟩;grind[aj.tc]
  |false=>
   have C:lf v (b::l)=lf v l+1:=by simp[lf,E]
   rw[C];cases j with
   |zero=>
    simp_all
   |succ j=>
    rw[IQ v l D.2 j a fs];simp
def SH(v l)(C:d9 l)(J:v∉l):d9 (eR v l):=by
 induction l with
 |nil=>simp[eR,d9]
 |cons b l O=>
  have I:=C;unfold d9 at C;rw[gH]at C;cases E:v.less b with
  |true=>
   have D:eR v (b::l)=v::b::l:=by simp[eR,E]
   rw[D];unfold d9;rw[gH];refine⟨λa j=>?_,I⟩;rcases df.1 j with rfl|j
   .omega
   grind[aj.tc]
  |false=>
   have D:eR v (b::l)=b::eR v l:=by simp[eR,E]
   rw[D];unfold d9;rw[gH];refine⟨λa j=>?_,O C.2 (λh=>J (gn _ h))⟩;rcases df.1 ((u2 v l).subset j)with rfl|j
   .simp_all[aj.tb]
   simp_all
theorem d9.nodup{l}(h:d9 l):l.Nodup:=h.imp λ{a b} C j=>by subst j;rw[aj.pY]at C;trivial
def d9.append{l j}(h1:d9 l)(ae:d9 j)(h:∀a∈l,∀b∈j,a.less b=ag):d9 (l++j):=pr.2 ⟨h1,ae,h⟩
def d9.sub{l j}(h:d9 j)(s:l.Sublist j):d9 l:=h.sublist s
section
variable{α:Type}[DecidableEq α]
theorem GL(j:α->Bool):∀(l:List α),l.Pairwise (λa b=>j b=ag->j a=ag)->l.filter j++l.filter (λC=>!j C)=l
 | [],_=>rfl
 |a::l,h=>by
  rw[gH]at h;have I:=GL j l h.2;cases E:j a with
  |true=>simp_all
  |false=>
   have D:l.filter j=[]:=by
    simp_all
   grind
theorem zs(j:α->Bool)(l:List α)(h:l.Pairwise (λa b=>j b=ag->j a=ag)):l.take (l.countP j)=l.filter j:=by
 have C:l.countP j=aa (l.filter j):=List.countP_eq_length_filter;rw[C];have ae:=congrArg (List.take (aa (l.filter j))) (GL j l h);grind
theorem GK(j:α->Bool)(l:List α)(h:l.Pairwise (λa b=>j b=ag->j a=ag)):l.drop (l.countP j)=l.filter (λC=>!j C):=by grind[GL,List.append_cancel_left]
def o9(j:α->Bool)(l:List α)(h:l.Pairwise (λa b=>j b=ag->j a=ag))(C:Nat)(a:α)(E:l[C]?=ab a):(!j a)=ag<->l.countP j<=C:=by
 rcases dZ C (l.countP j)with h1|h1
 .have:a∈l.filter j:=by
   rw[<- zs j l h];exact lQ (i:=C) bo
  simp_all
 .have:a∈l.filter (λD=>!j D):=by
   rw[<- GK j l h];exact lQ (i:=C-l.countP j) bo
  simp_all
structure fl {α:Type} (C:α->α->Bool):Prop where
 jE:∀j,C j j=al
 gu:∀{j q D},C j q=ag->C q D=ag->C j D=ag
 hY:∀{j q},j≠q->C j q=al->C q j=ag
theorem fl.asym{j:α->α->Bool}(o:fl j){C q:α}(h:j C q=ag):j q C=al:=by
 cases D:j q C with
 |false=>rfl
 |true=>have:=o.gu h D;rw[o.jE]at this;trivial
def fl.Xp{j:α->α->Bool}(o:fl j){C q:α}(h:j C q=al)(D:j q C=al):C=q:=by
 rcases vs _ with e|e
 .omega
 .rw[o.hY e h]at D;grind
def fl.Dd{j:α->α->Bool}(o:fl j){C q D:α}(h:j q C=al)(J:j D q=al):j D C=al:=by
 cases I:j D C with
 |false=>rfl
 |true=>
  rcases vs (C=q)with E|E
  .simp_all
  .have:=o.gu I (o.hY (Ne.symm E) h);simp_all
theorem hu:fl aj.less:=⟨aj.pY,aj.tc,aj.tb⟩
def d0(j:α->α->Bool)(l:List α):Prop:=l.Pairwise λa b=>j a b=ag
def gM(j:α->α->Bool)(l:List α):Prop:=l.Pairwise λa b=>j b a=al
def fU(C:α->α->Bool)(v:α)(l:List α):List α:=l.takeWhile (λj=>!C v j)++v::l.dropWhile (λj=>!C v j)
def mj(j:α->α->Bool)(v:α)(l:List α):Nat:=aa (l.takeWhile (λC=>!j v C))
variable{av:α->α->Bool}
theorem d0.b5(o:fl av){l:List α}(h:d0 av l):gM av l:=h.imp λh=>o.asym h
def gM.nf(o:fl av):∀{l:List α},gM av l->l.Nodup->d0 av l
 | [],_,_=> .nil
 |a::l,h,j=>by
  unfold gM at h;rw[gH]at h;rw[j3]at j;exact gH.2 ⟨λb C=>o.hY (λD=>j.1 (D▸C)) (h.1 b C),gM.nf o h.2 j.2⟩
def ae6(v:α)(l:List α):mj av v l<=aa l:=(LI _).length_le
theorem ae7(v:α)(l:List α):fU av v l=l.take (mj av v l)++[v]++l.drop (mj av v l):=by
 have h:=yj (p:=λj=>!av v j) (l:=l);have C:∀(a b:List α),a++b=l->l.take (aa a)=a/\l.drop (aa a)=b:=by
  grind
 grind[mj,fU]
theorem xI(v:α)(l:List α):(fU av v l).Perm (v::l):=by grind[fU,yj]
def ae8(v:α)(l:List α):aa (fU av v l)=aa l+1:=by rw[(xI v l).length_eq];rfl
theorem DV(o:fl av)(v:α):∀(l:List α),d0 av l->∀(j:Nat)(a:α),l[j]?=ab a->(av v a=ag<->mj av v l<=j)
 | [],_,j,a,h=>by trivial
 |b::l,C,j,a,h=>by
  unfold d0 at C;rw[gH]at C;cases E:av v b with
  |true=>
   have D:mj av v (b::l)=0:=by simp[mj,E]
   rw[D];refine⟨λ_=>bO _,λ_=>?_⟩;cases j with
   |zero=>simp_all
   |succ j=>exact o.gu E (C.1 a (lQ fs))
  |false=>
   have D:mj av v (b::l)=mj av v l+1:=by simp[mj,E]
   rw[D];cases j with
   |zero=>
    simp_all
   |succ j=>
    rw[DV o v l C.2 j a fs];simp
def SG(o:fl av)(v:α)(l:List α)(C:d0 av l)(I:v∉l):d0 av (fU av v l):=by
 induction l with
 |nil=>simp[fU,d0]
 |cons b l O=>
  have J:=C;unfold d0 at C;rw[gH]at C;cases D:av v b with
  |true=>
   have E:fU av v (b::l)=v::b::l:=by simp[fU,D]
   rw[E];unfold d0;rw[gH];refine⟨λa j=>?_,J⟩;rcases df.1 j with rfl|j
   .omega
   .exact o.gu D (C.1 a j)
  |false=>
   have E:fU av v (b::l)=b::fU av v l:=by simp[fU,D]
   rw[E];unfold d0;rw[gH];refine⟨λa j=>?_,O C.2 (λh=>I (gn _ h))⟩;rcases df.1 ((xI v l).subset j)with rfl|j
   .exact o.hY (λh=>I bo) D
   simp_all
theorem d0.nodup(o:fl av){l:List α}(h:d0 av l):l.Nodup:=h.imp λ{a b} C j=>by subst j;rw[o.jE]at C;trivial
theorem gM.unique(o:fl av):∀{l j:List α},gM av l->gM av j->l.Perm j->l=j
 | [],j,_,_,C=>by simp_all
 |a::l,[],_,_,C=>by simp_all
 |a::l,b::j,h1,ae,C=>by
  unfold gM at h1 ae;rw[gH]at h1 ae;have E:a=b:=by
   have I:a∈b::j:=C.subset ao;have J:b∈a::l:=C.symm.subset ao;rcases df.1 I with h|h
   .omega
   .rcases df.1 J with D|D
    .simp_all
    .exact o.Xp (ae.1 _ h) (h1.1 _ D)
  subst E;rw[gM.unique o h1.2 ae.2 C.cons_inv]
def d0.sub{l j:List α}(h:d0 av j)(s:l.Sublist j):d0 av l:=h.sublist s
def bw(av:α->α->Bool)(l:List α):List α:=l.mergeSort λj y=>!av y j
theorem f8(l:List α):(bw av l).Perm l:=Lu l _
theorem gV(l:List α):aa (bw av l)=aa l:=(f8 l).length_eq
theorem ov(o:fl av)(l:List α):gM av (bw av l):=by
 have:=Lx (le:=λj y:α=>!av y j) (λa b c h1 ae=>by
  simp[Bool.not_eq_true']at h1 ae ⊢;exact o.Dd h1 ae) (λa b=>by
  cases h:av b a with
  |false=>rfl
  |true=>simp[o.asym h]) l
 exact this.imp λh=>by simp_all
def ou(o:fl av){l j:List α}(h:gM av j)(C:j.Perm l):j=bw av l:=h.unique o (ov o l) (C.trans (f8 l).symm)
theorem Ua(o:fl av)(l q:List α):bw av (bw av l++bw av q)=bw av (l++q):=
 (ou o (ov o _) ((f8 _).trans ((f8 l).append (f8 q))))
def Eo(o:fl av){l:List α}(h:l.Nodup):d0 av (bw av l):=(ov o l).nf o ((f8 l).nodup_iff.2 h)
theorem d0.n4(o:fl av){l:List α}(h:d0 av l)(v:α):l.Pairwise (λa b=>av b v=ag->av a v=ag):=h.imp λj C=>o.gu j C
def kM(av:α->α->Bool)(v:α)(l:List α):Nat:=l.countP (λj=>av j v)
def ac4(v:α)(l:List α):kM av v l<=aa l:=List.countP_le_length
def QU(o:fl av){l:List α}(h:d0 av l)(v a:α)(C:l[kM av v l]?=ab a):(!av v a)=decide (v∈l):=by
 have h1:=(o9 _ l (h.n4 o v) _ a C).2 (bC _);have J:av a v=al:=bo;have R:=lQ C
 by_cases j:v∈l
 .rw[cO j];obtain⟨E,D⟩:=ye j;have ae:=(o9 _ l (h.n4 o v) _ v D).1 (by simp[o.jE]);have O:kM av v l<=E:=ae;rcases Nat.lt_or_eq_of_le O with an|an
  .have U:=(h2.1 D).1;have Y:=List.pairwise_iff_getElem.1 h _ E ad U an;grind
  simp_all
 .rw[cw j];have W:a≠v:=λI=>j (I▸R);simp[o.hY W J]
theorem QV(o:fl av){l:List α}(h:d0 av l)(v:α)(D: ¬kM av v l<aa l):v∉l:=λC=>by
 obtain⟨E,j⟩:=ye C;have ae:=(o9 _ l (h.n4 o v) _ v j).1 (by simp[o.jE]);grind[kM]
def ac3(o:fl av){l:List α}(h:d0 av l)(v:α)(D:v∈l):kM av v l<aa l/\l.take (kM av v l)++l.drop (kM av v l+1)=l.erase v:=by
 have C:kM av v l<aa l:=by
  grind[QV]
 refine⟨C,?_⟩;have j:=b8 C;have h1:=QU o h v _ j;rw[cO D]at h1;have ae:=(o9 _ l (h.n4 o v) _ _ j).2 (bC _);have E:l[kM av v l]=v:=by
  rcases vs _ with an|an
  .omega
  .have:=o.hY an bo;simp_all
 have I:v∉l.take (kM av v l):=by
  rw[show l.take (kM av v l)=l.filter _ from zs _ l (h.n4 o v)];simp_all
 grind[kk,List.drop_eq_getElem_cons,List.erase_cons_head]
end
def ins(j:Int)(l:List Int):List Int:=l.takeWhile (λy=>decide (y<=j))++j::l.dropWhile (λy=>decide (y<=j))
def Ja(l:List Int):List Int:=l.foldl (λo j=>ins j o) []
section
open Go.RowKit Go.Sort
def b5(l:List Int):List Int:=l.mergeSort λj y=>decide (j<=y)
def Tt{P aE}{Y am:Nat}{args}{eA:List a2->Prop}(b n c R)(L:Q)
  (h:∀w,Holds id w b 0 R.toArray->b<w.heap.size->Calls P aE args w λaD Z=>aD=.returned (.tuple #[])/\∃D aQ ax,eA D/\aa D=aa R/\Z=grow (putRow id (KR w aQ) b 0 D.toArray) ax):
  O P aE args (E Y am (U b) n c R::L) λv aS=>v=.tuple #[]/\∃D,eA D/\aS=E Y am (U b) n c D::L:=by
 intro g F w aL;have a9:bj g (E Y am (U b) n c R::F::L) w:=aL.mono λ_ s=>s.swap;obtain⟨bm,bb,aB,bh,aR,⟨av,bc,be,bg⟩,l⟩:=a9.s;rcases bg with ⟨ah,_⟩|⟨bi,W,ah,ap,aV,aq⟩
 .cases ah
 simp only[tO,EI,and_true]at ah;subst ah;have ai:w.heap[b]?=ab (.cells W Y (0,0)):=bh _ _ ap;have aJ:b<w.heap.size:=(Array.getElem?_eq_some_iff.1 ai).1;rw[<- av]at aq;have bl:aa R<=W.size:=by
  have:=congrArg aa aq;rw[oE]at this;simp at this;omega
 have aW:Holds id w b 0 R.toArray:=λj C=>by
  have aI:j<aa R:=by simpa using C
  refine⟨?_,by simp[KW,ai]⟩;rw[h3];simp only[World.cell?,ai];obtain⟨aA,aK⟩:∃aA,R[j]?=ab aA:=⟨_,b8 aI⟩;have I:=aK;rw[<- aq,Lj aI]at I;rw[a8 ao];have ae:W[j]?=ab aA:=by simpa using I
  rw[ae];simp[aK]
 refine(h w aW aJ).mono λaD Z ⟨aF,D,aQ,ax,aX,aP,aM⟩=>⟨_,_,aF,⟨rfl,D,aX,rfl⟩,?_⟩;refine bj.mono (L:=E Y am (U b) n c D::F::L) (λ_ s=>s.swap) ?_;have aG:Z.heap=w.heap.modify b (onCells (putCells id 0 D.toArray))++ax:=by rw[aM];rfl
 have a4:∀j,j<w.heap.size->j≠b->Z.heap[j]?=w.heap[j]?:=λj C aZ=>by
  rw[aG,Ki (by simpa using C),Kj,a8 (Ne.symm aZ)]
 have aY:Z.heap[b]?=ab (.cells (putCells id 0 D.toArray W) Y (0,0)):=by
  rw[aG,Ki (by simpa using aJ),Kj,bJ p,ai];rfl
 refine⟨by rw[<- aL.g,aM];rfl,λj=>if j=b then ab (.cells (putCells id 0 D.toArray W) Y (0,0))else af,bb,λj=>?_,λj o J=>?_,λj o J=>?_,⟨by rw[aP];exact av,bc,be,.inr ⟨b,putCells id 0 D.toArray W,rfl,ao,by simp[putCells,aV],?_⟩⟩,l⟩
 .by_cases C:j=b
  .right;rcases aB j with I|I
   .rw[C,ap]at I;cases I
   .exact I
  .left;simp[C]
 .replace J:(if j=b then ab (Obj.cells (putCells id 0 D.toArray W) Y (0,0))else af)=ab o:=J
  by_cases C:j=b
  .subst C;rw[bJ p]at J;rw[<- J];exact aY
  .rw[a8 C]at J;cases J
 .have C:j≠b:=λC=>by
   rcases aB j with I|I
   .rw[C,ap]at I;cases I
   .rw[I]at J;cases J
  have a3:j<w.heap.size:=by
   have:=aR _ _ J;rcases dZ j w.heap.size with ar|ar
   .exact ar
   .simp[World.hm,Array.getElem?_eq_none ar]at this
  show Z.heap[j]?= _;rw[a4 j a3 C];exact aR _ _ J
 .rw[<- av];apply vx;intro j
  by_cases C:j<aa R
  .rw[Lj C];have a0:j<W.size:=ad;simp[putCells,a0,C,aP,show j<aa D by omega]
  .rw[mw (by simp;omega),mw ad]
def agY{P Z C}(b n c j)(L:Q)(aA:aa j=n)(aE:0<n)
  (h:∀w,Holds (Value.int .i64) w b 0 j.toArray->b<w.heap.size->Calls P Z #[.slice (U b) (aa j) c] w λY am=>
   Y=.returned (.tuple #[])/\∃D R,am=grow (putRow (Value.int .i64) (KR w D) b 0 (j.mergeSort λap y=>decide (ap<=y)).toArray) R):
  O P Z #[.slice (U b) n c] (E C 1 (U b) n c (J j)::L) λv W=>v=.tuple #[]/\W=E C 1 (U b) n c (J (b5 j))::L:=by
 have I:∀l:List Int,J l=l.map (Value.int .i64):=λl=>by induction l with
  |nil=>rfl
  |cons a l aD=>rw[h9,aD];rfl
 subst aA;apply(Tt (Y:=C) (am:=1) (eA:=λaq=>aq=J (b5 j)) b (aa j) c (J j) L λw ar av=>(h w (λai ah=>?_) av).mono λY am ⟨aF,D,R,aM⟩=>⟨aF,_,D,R,rfl,?_,?_⟩).mono λv W ⟨q,aq,aB,C⟩=>⟨q,aB▸C⟩
 .have ax:ai<aa j:=by simpa using ah
  have:=ar ai (by simpa[I]using ah);simpa[I,ax]using this
 .simp[I,b5]
 .have:putCells (Value.int .i64) 0 (b5 j).toArray=putCells id 0 ((b5 j).map (Value.int .i64)).toArray:=by
   funext c
   simp only[putCells,LD,List.length_map]
   congr 1
   funext D ap
   split
   .simp[show D<aa (b5 j) by omega]
   .rfl
  rw[aM,I];unfold putRow;rw[<- this];rfl
end
theorem zl:∀(l j:List Int),l.Perm j->l.Pairwise (·<= ·)->j.Pairwise (·<= ·)->l=j
 | [],j,C,_,_=>by simp_all
 |a::l,[],C,_,_=>by simp_all
 |a::l,b::j,C,h1,ae=>by
  rw[gH]at h1 ae;have D:a=b:=by
   have E:a∈b::j:=C.subset ao;have I:b∈a::l:=C.symm.subset ao;grind
  subst D;rw[zl l j C.cons_inv h1.2 ae.2]
theorem nA(l):(b5 l).Perm l:=Lu l _
theorem qW(l:List Int):(b5 l).Pairwise (·<= ·):=by
 have:=Lx (le:=λj y:Int=>decide (j<=y)) (λa b c h1 ae=>by grind) (λa b=>by grind) l;exact this.imp λh=>by simp_all
theorem P5(j l):(ins j l).Perm (j::l):=by grind[ins,yj]
theorem abk(j:Int)(l:List Int)(h:l.Pairwise (·<= ·)):(ins j l).Pairwise (·<= ·):=by
 induction l with
 |nil=>simp[ins]
 |cons a l E=>
  rw[gH]at h
  by_cases C:a<=j
  .have D:ins j (a::l)=a::ins j l:=by simp[ins,C]
   grind[gH,P5]
  .have D:ins j (a::l)=j::a::l:=by simp[ins,C]
   grind[gH]
def Tn(l o:List Int)(C:o.Pairwise (·<= ·)):(l.foldl (λo j=>ins j o) o).Pairwise (·<= ·)/\(l.foldl (λo j=>ins j o) o).Perm (o++l):=by
 induction l generalizing o with
 |nil=>simp_all
 |cons a l D=>
  grind[abk,P5]
def afX(l):(Ja l).Perm l:=by simpa[Ja]using(Tn l [] .nil).2
theorem To(l j)(h:l.Perm j):Ja l=b5 j:=
 zl _ _ ((afX l).trans (h.trans (nA j).symm)) (Tn l [] .nil).1 (qW j)
section
variable{α:Type}[DecidableEq α]{av:α->α->Bool}
def el(av:α->α->Bool)(v:α)(l:List α):List α:=l.filter λj=>av j v
def eL(v:α)(l:List α):List α:=l.filter λj=>decide (j=v)
def fp(av:α->α->Bool)(v:α)(l:List α):List α:=l.filter λj=>av v j
def DP(o:fl av)(v:α):∀l:List α,(el av v l++(eL v l++fp av v l)).Perm l
 | []=> .refl _
 |a::l=>by
  have j:=DP o v l;unfold el eL fp at*
  rcases vs (a=v)with h|h
  .subst h;rw[vz (by simp[o.jE]),EX ao,vz (by simp[o.jE]),K7];grind
  .cases h1:av a v with
   |true=>
    rw[EX ad,vz bo,vz (by simp[o.asym h1]),K7];simp_all
   |false=>
    rw[vz bo,vz bo,EX (by simp[o.hY h h1]),<- jm];grind
def xB(o:fl av)(v:α)(l:List α):aa (el av v l)+aa (eL v l)+aa (fp av v l)=aa l:=by
 have:=(DP o v l).length_eq;grind
theorem td{v j:α}{l:List α}(h:j∈eL v l):j=v:=by
 have:=(ii.1 h).2;simp_all
def Di{v:α}{l:List α}(h:v∈l):0<aa (eL v l):=List.length_pos_of_mem (ii.2 ⟨h,ao⟩)
theorem JN(o:fl av)(v:α)(l:List α):bw av l=bw av (el av v l)++(eL v l++bw av (fp av v l)):=by
 apply(ou o _ (((f8 _).append (qh _ (f8 _))).trans (DP o v l))).symm;have I:∀C∈bw av (el av v l),av C v=ag:=λC j=>by
  have:=(ii.1 ((f8 _).subset j)).2;omega
 have E:∀C∈bw av (fp av v l),av v C=ag:=λC j=>by
  have:=(ii.1 ((f8 _).subset j)).2;omega
 unfold gM;rw[pr,pr];refine⟨ov o _,⟨?_,ov o _,λC j y D=>?_⟩,λC j y D=>?_⟩
 .exact List.pairwise_of_forall_mem_list λC j y D=>by rw[td j,td D];exact o.jE v
 .rw[td j];exact o.asym (E y D)
 .rcases List.mem_append.1 D with D|D
  .rw[td D];exact o.asym (I C j)
  .exact o.asym (o.gu (I C j) (E y D))
theorem Ig(o:fl av)(v:α)(l:List α){j:Nat}(h:j<aa (el av v l)):(bw av l)[j]?=(bw av (el av v l))[j]?:=by grind[JN,gV]
def Rr(o:fl av)(v:α)(l:List α){j:Nat}(h1:aa (el av v l)<=j)(ae:j<aa (el av v l)+aa (eL v l)):(bw av l)[j]?=ab v:=by grind[JN,gV,eL,gG]
theorem If(o:fl av)(v:α)(l:List α){j:Nat}(h:aa (el av v l)+aa (eL v l)<=j):(bw av l)[j]?=(bw av (fp av v l))[j-aa (el av v l)-aa (eL v l)]?:=by grind[JN,gV]
def xj(o:fl av){l:List α}{j:Nat}{v:α}(h:(bw av l)[j]?=ab v):aa (el av v l)<=j:=by
 rcases dZ j _ with h1|h1
 .rw[Ig o v l h1]at h;have ae:=(f8 _).subset (lQ h);have:=(ii.1 ae).2;rw[o.jE]at this;trivial
 omega
def Ib(o:fl av){l:List α}{j:Nat}{v:α}(h:(bw av l)[j]?=ab v):aa (fp av v l)+j<aa l:=by
 have C:=xB o v l;rcases dZ j (aa (el av v l)+aa (eL v l))with h1|h1
 .omega
 .rw[If o v l h1]at h;have ae:=(f8 _).subset (lQ h);have:=(ii.1 ae).2;rw[o.jE]at this;trivial
def Dr(o:fl av){l:List α}{j:Nat}{v:α}(h:(bw av l)[j]?=ab v):j<aa (el av v l)+aa (eL v l):=by
 have:=xB o v l;have:=Ib o h;omega
def z3{l:List α}{j:Nat}{v:α}(h:(bw av l)[j]?=ab v):v∈l:=(f8 l).subset (lQ h)
end
def dq(a b:Int):Bool:=decide (a<b)
def sd:fl dq:=⟨λC=>by simp[dq],λh j=>by simp[dq]at*;omega,λh j=>by simp[dq]at*;omega⟩
theorem ag5(l):bw dq l=b5 l:=(ou sd ((qW l).imp λh=>by simp[dq];omega) (nA l)).symm
def ew(n:Int):Bool:=decide (-1099511627776<=n)&&decide (n<=1099511627776)
def qc(n C j:Int):Bool:=decide (C<=n/\n<=j)
def pw(n L):aY 378 #[j n] L (.bool (ew n)) L:=by
 apply cR λ{g F}=>?_;repeat' first|apply aF _|apply bd λ_=>?_|apply aM (λ_=>?_) (λ_=>?_)|fail
 all_goals first|contradiction|(apply dk _;exact⟨by simp_all[cs,ew]<;>(omega),rfl⟩)
def Fc(n L):aY 67 #[j n] L (.bool (ew n)) L:=by
 apply cR λ{g F}=>?_;repeat' first|apply aF _|apply bd λ_=>?_|apply aM (λ_=>?_) (λ_=>?_)|fail
 all_goals first|contradiction|(apply dk _;exact⟨by simp_all[cs,ew]<;>(omega),rfl⟩)
def aec(n L):aY 427 #[j n] L (.bool (!ew n)) L:=by
 have C:=pw;apply cR λ{g F}=>?_;repeat' first|apply aF _|apply bd λ_=>?_|apply aM (λ_=>?_) (λ_=>?_)|fail
 all_goals first|contradiction|(apply dk _;exact bD)
def US(n D C L):aY 371 #[j n,j D,j C] L (.bool (qc n D C)) L:=by
 apply cR λ{g F}=>?_;repeat' first|apply aF _|apply bd λ_=>?_|apply aM (λ_=>?_) (λ_=>?_)|fail
 all_goals first|contradiction|(apply dk _;exact⟨by simp_all[cs,qc]<;>(omega),rfl⟩)
structure cS where
 cN:Int
 cQ:Int
 c9:Int
 cZ:Int
@[reducible] def cS.v (b:cS):Value:=.agg #[j b.cN,j b.cQ,j b.c9,j b.cZ]
structure j8 where
 cN:Int
 cQ:Int
 y:Int
structure t0 where
 id:Int
 lo:Int
 hi:Int
def cS.has(b:cS)(j y:Int):Bool:=qc j b.cN b.cQ&&qc y b.c9 b.cZ
def j8.u7(w:j8)(j y:Int):Bool:=qc j w.cN w.cQ&&decide (w.y<=y)
def t0.DG(s j:t0):Bool:=decide (s.lo<=s.hi/\j.lo<=j.hi/\s.lo<=j.hi/\j.lo<=s.hi)
def Mi(b:cS)(C:aj)(L):aY 342 #[.agg #[j b.cN,j b.cQ,j b.c9,j b.cZ],.agg #[j C.id,j C.x,j C.y]] L (.bool (b.has C.x C.y)) L:=by
 have D:=US;apply cR λ{g F}=>?_;repeat' first|apply aF _|apply bd λ_=>?_|apply aM (λ_=>?_) (λ_=>?_)|fail
 all_goals first|contradiction|(apply dk _;exact⟨by simp_all[cs,cS.has,qc]<;>(omega),rfl⟩)
def W0(w:j8)(C:aj)(L):aY 343 #[.agg #[j w.cN,j w.cQ,j w.y],.agg #[j C.id,j C.x,j C.y]] L (.bool (w.u7 C.x C.y)) L:=by
 have D:=US;apply cR λ{g F}=>?_;repeat' first|apply aF _|apply bd λ_=>?_|apply aM (λ_=>?_) (λ_=>?_)|fail
 all_goals first|contradiction|(apply dk _;exact⟨by simp_all[cs,j8.u7,qc]<;>(omega),rfl⟩)
def cS.e7(b:cS):Int:=
 if ew b.cN&&ew b.cQ&&ew b.c9&&ew b.cZ then(if b.cN>b.cQ\/b.c9>b.cZ then 3 else 0)else 2
def j8.dy(w:j8):cS:=⟨w.cN,w.cQ,w.y,1099511627776⟩
section
attribute [local irreducible] C bh b6
def gI(L:Q):Option Addr->fi->Prop
 |ai,.nil=>ai=af
 |ai,.node j I E=>∃b A c D C,ai=(U b)/\aU L b 0 3 [.slice A (aa j) c,.pointer D,.pointer C]/\Rd L A (aa j) j/\aa j<=c/\c<=maxLen/\gI L D I/\gI L C E
theorem gI.ap{D L}:∀{C}{j:a3},gI L j C->gI (D::L) j C
 | .nil,_,h=>h
 | .node W Z Y,_,⟨b,A,c,U,R,E,h1,ae,an,I,J,O⟩=>⟨b,A,c,U,R,E,h1.ap,ae.ap,an,I,J.ap,O.ap⟩
def gI.ev{N L C j}(h:gI L j C):gI (N++L) j C:=by
 induction N with
 |nil=>exact h
 |cons E N D=>exact D.ap
def UA(C:aj)(L):aY 417 #[.agg #[j C.id,j C.x,j C.y]] L (.agg #[j C.id,j C.y,j C.x]) L:=by
 refine bt ?_;refine bd λD=>?_;apply bg λE=>?_;refine ba p (.cell p (eQ cA) .nil) a1 bD
def rM(C q:aj)(L):aY 311 #[.agg #[j C.id,j C.x,j C.y],.agg #[j q.id,j q.x,j q.y]] L (.bool (C.less q)) L:=by
 refine bt ?_;refine bd λD=>?_;apply bg λE=>?_;refine c0 p (λh1=>?_) (λh1=>?_)
 .apply eO _;exact⟨by simp[cs,aj.less,h1],rfl⟩
 .apply ak _;refine c0 p (λae=>?_) (λae=>?_)
  .apply eO _;exact⟨by simp[cs,aj.less,h1,ae],rfl⟩
  .apply eO _;exact⟨by simp[cs,aj.less,h1,ae],rfl⟩
def XX(C q:aj)(L):aY 462 #[.agg #[j C.id,j C.x,j C.y],.agg #[j q.id,j q.x,j q.y],.func (.func 311) #[] #[]] L (j (C.cmp q)) L:=by
 refine bt ?_;refine bd λE=>?_;apply AM λI=>?_;refine c0 p (λh1=>?_) (λh1=>?_)
 .apply ak _;refine ba p ds a1 ⟨?_,rfl⟩;let⟨O,R,U⟩:=C;let⟨W,Y,Z⟩:=q;simp at h1;simp[cs,aj.cmp,h1]
 .have D:C≠q:=λJ=>h1 bo;apply ak _;refine GE (f4 p p (rM C q _)) ?_;rintro _ _ ⟨rfl,rfl⟩;apply ak _;refine eG p (λae=>?_) (λae=>?_)
  .apply eO _;exact⟨by simp[cs,aj.cmp,D,ae],rfl⟩
  .apply eO _;exact⟨by simp[cs,aj.cmp,D,ae],rfl⟩
def N1(C q:aj)(L):aY 416 #[.agg #[j C.id,j C.x,j C.y],.agg #[j q.id,j q.x,j q.y]] L (j (C.cmp q)) L:=by
 refine bt ?_;refine bd λD=>?_;apply bg λE=>?_;apply a9 (XX C q _) _;exact c8
def J9(C q L):aY 365 #[.agg #[j C.id,j C.x,j C.y],.agg #[j q.id,j q.x,j q.y]] L (j (up C q)) L:=by
 refine bt ?_;refine bd λD=>?_;apply bg λE=>?_;apply fK (.q 0 (.q 2 (.e 1 (.e 3 (.e 4 (.q 5 .nil)))))) _;apply dM (UA C _) _;apply dM (UA q _) _;apply dM (N1 C.kw q.kw _) _;exact c8
def lM(D C L)(h:gI L D C):aY 414 #[.pointer D] L (j (aa C.es)) L:=by
 cases C with
 |nil=>
  cases h;refine bt ?_;exact c8
 |node E W U=>
  obtain⟨b,A,c,Z,Y,rfl,h1,ae,an,I,J,O⟩:=h;have R:=h1.at_ (i:=0) p;refine bt ?_;exact c8
def OD(C j L)(h:gI L C j):Y 461 #[.pointer C] L λv D=>(∃A c,v=.slice A (aa j.es) c/\Rd L A (aa j.es) j.es/\aa j.es<=c/\c<=maxLen)/\D=L:=by
 cases j with
 |nil=>
  cases h;refine bt ?_;refine eO ?_;exact⟨⟨af,0,rfl,Rd.nil _ _,bC _,bO _⟩,rfl⟩
 |node I W U=>
  obtain⟨b,A,c,ah,Z,rfl,h1,ae,an,E,J,O⟩:=h;have R:=h1.at_ (i:=0) p;refine bt ?_;refine eO ?_;exact⟨⟨_,_,rfl,ae,an,E⟩,rfl⟩
end
end
end Go.Proofs.YteinodmjohkmmaaGreat
