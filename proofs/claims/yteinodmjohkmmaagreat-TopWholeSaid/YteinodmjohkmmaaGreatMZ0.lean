/- TopWhole: a part of its proof. -/
import Derived.Test.YteinodmjohkmmaaGreatMA3
import Derived.Test.YteinodmjohkmmaaGreatMG
import Derived.Test.YteinodmjohkmmaaGreatMI
import Derived.Test.YteinodmjohkmmaaGreatMK
import Derived.Test.YteinodmjohkmmaaGreatMP
import Derived.Test.YteinodmjohkmmaaGreatMR
import Derived.Test.YteinodmjohkmmaaGreatMU
import Derived.Test.YteinodmjohkmmaaGreatMV1
set_option linter.all false
set_option maxRecDepth 100000
set_option maxHeartbeats 4000000
open Bool renaming false->al,not_eq_false'->gm,true->ag
open Go renaming Addr->cg,FuncId->dc,Value->a2
open List renaming append_nil->dC,getElem?_eq_some_iff->h2,length->aa,length_append->b4,length_eraseP_le->Ln,length_filter_le->kj,map_inj_left->nM,mem_append->b9,mem_cons_self->ll,mem_map->lm,mem_range->kU,mem_singleton->oF,perm_append_comm->ep,perm_cons_erase->mY,perm_middle->fA,range->gZ,range'->vB,range_eq_range'->Ly,rec->dN
open List.Perm renaming append_left->qh
open Nat renaming add->jN,beq->aH,beq_refl->yl,ble->da,blt->eY,eq_of_beq_eq_true->cy,le_of_ble_eq_true->fq,le_refl->bC,le_succ->gp,le_succ_of_le->q5,le_trans->hj,pred->kA,rec->nP,sub->kl,succ_le_succ->E9,zero_le->bO
open Option renaming none->af,rec->cK,some->ab
open Go.RowKit
namespace Go.Proofs.YteinodmjohkmmaaGreat
noncomputable section
namespace aV
open Go
def eW:aB:=.i .i64 0
def tl(l:List (Nat×(List aB->cE->aK))):mA:=λC=>dN af (λj _ D=>ax (aH C j.1) (ab j.2) D) l
def kv(C:mA)(j:Nat)(D:List aB)(R:List dn):aK:=nj ar 210 C 100 (λ_ _ _=>af) j (.ai 0 0::D) (fS R)
def e2(a n:Nat):List aB:=nP (λ_=>[]) (λ_ j a=> .dU a::j (Nat.succ a)) n a
def iQ(C:aB)(j:Nat->Nat):List dn:=[.ce 86 [.ai 1 0,.ai 2 0,.dU 34,C],.ce 188 [.ai 3 0,.ai 4 0,.ai 5 0,.ai 6 0,.ai 7 0],.cx (j 0),.cx (j 1),.cx (j 2),.cx (j 3),.cx (j 4),.cx (j 5)]
def dj:List dn:=iQ .hc λj=>j
def y4(j:Nat):List aB:=[.cp (.i .i64 j::e2 1 6)]
def y3:List aB:=[.cp (.dU 7::e2 1 6)]
def jT(a:Nat):List aB:=[.cp (e2 a 3)]
def fZ:List aB:=[eW,eW,eW]
def wt(j:Nat)(C y:List aB):List aB:=[.cp (.i .i64 j::C++y)]
def ajd(j:Nat):List aB:=ax (aH j 1) (wt 1 (e2 1 3) fZ) (ax (aH j 2) (wt 2 (e2 41 3) fZ) (ax (aH j 3) (wt 3 fZ (e2 4 3)) (wt 4 fZ (e2 41 3))))
def wz:aB:=.cB [.cp (i1 [.fg] 7),eW]
def CT:aB:=.cB [.cp (e2 41 3),.b ag]
def RW(j:Nat):mA:=tl ((406,gB 2 0 0 (y4 j) eW)::ax (aH j 2) [(444,gB 2 0 0 [.dU 1] CT)] (ax (aH j 4) [(445,gB 2 0 0 [.dU 4] CT)] []))
def ad8(j:Nat):mA:=tl [(406,gB 2 0 0 y3 (.i .i64 j))]
def gy(j:Nat):aK:=kv (RW j) 289 (y4 j) dj
def Qi(j:Nat):List Nat:=[0,1,2,3,4,5,6,7]++ax (aH j 1) [12,23,21] (ax (aH j 2) [13,24,22] (ax (aH j 3) [12,21,19] [13,22,20]))
def nm:List Nat:=[0,1,2,3,4,5,6,7,8,9,10]
def ke:List Nat:=[0,1,2,3,4,5,6,7]
def QA(D:aK)(j:List Nat):List dn:=cK [] (λq=>cK [] (λC=>C) (Qz j q.2)) D
def aij(C j:Nat):Option Nat:=ax (aH C 1) (ax (da j 3) (ab (jN j 40)) (ab j)) (ax (aH C 3) (ax (da j 6) (ab (jN j 37)) (ab j)) (ab j))
def aia(C j:Nat):aB:=ax (da 41 j) (ax (aH C 1) (.dU (kl j 40)) (ax (aH C 3) (.dU (kl j 37)) (.dU j))) (.dU j)
def J5(j:Nat):List dn:=cK [] (λR=>R) (ny (aij j) ab (QA (gy j) (Qi j)))
def Du(j:Nat):Nat:=ax (da j 2) 4 3
def wu(j:Nat):List aB:=ax (da j 2) (wt j (e2 41 3) fZ) (wt j fZ (e2 41 3))
def Pt(j:Nat):List (Nat×Nat):=ax (aH j 1) [(447,1),(450,2),(453,3)] (ax (aH j 2) [(448,1),(451,2),(454,3)] (ax (aH j 3) [(456,4),(459,5)] [(457,4),(460,5)]))
def aem(j:Nat):Nat:=ax (aH j 1) 2 (ax (aH j 2) 1 (ax (aH j 3) 4 3))
def Q8{α j:Type}(C:α->j)(l:List α):List j:=dN [] (λE _ D=>C E::D) l
def RZ(C:Nat):mA:=tl ((268,gB 2 0 10 (wu C) wz)::Q8 (λj=>(j.1,gB (jN j.2 2) j.2 (jN j.2 10) (jT 41) eW)) (Pt C))
def R1(C:Nat):mA:=tl (Q8 (λj=>(j.1,gB (jN j.2 2) (jN j.2 10) j.2 (jT 41) eW)) (Pt (aem C)))
def Er(j:Nat)(R:List dn):aK:=kv (RZ j) 102 [.i .i64 1] R
def sJ(j:Nat)(R:List dn):aK:=kv (R1 j) 103 [.i .i64 1] R
def cF(j C:Nat):List dn:=nP (J5 j) (λ_ R=>QA (Er j R) nm) C
def Cw(C j:Nat):Nat:=ax (da C 2) (ax (da j 3) (jN j 10) j) (ax (aH j 0) 10 (ax (da 4 j) (jN j 10) j))
def aib(j:Nat):aB:=ax (aH j 34) (.h0 34 (.ofNat (nat_lit 1))) (.dU j)
def gW(j:Nat):aB:=.dU j
def pi(n:Nat)(b:Bool):aB:=.cB [.i .i64 n,.b b]
def EE(R:List dn):aK:=kv (λ_=>af) 10 [] R
def Nl(j:Nat):Bool:=f7 (gy j) (aia j) (Qi j) eW (J5 j)
def OM(j:Nat):Bool:=f7 (kv (ad8 j) 289 y3 dj) gW ke (.i .i64 j) dj
def Uf(j C:Nat):Bool:=ax (aH (Nat.succ C) (Du j)) (f7 (Er j (cF j C)) aib ke (pi 1 ag) (iQ .hc (Cw j))) (f7 (Er j (cF j C)) gW nm (pi 1 al) (cF j (Nat.succ C)))
def Nk(j C:Nat):Bool:=ax (aH C 0) (f7 (sJ j (cF j C)) gW ke (pi 0 ag) dj) (ax (aH C 1) (f7 (sJ j (cF j C)) gW ke (pi 1 ag) dj) (f7 (sJ j (cF j C)) gW nm (pi 1 al) (cF j (kA C))))
def F3(j C:Nat):Bool:=ax (f7 (kv (λ_=>af) 289 y3 (cF j C)) gW nm (.i .i64 7) (cF j C)) (ax (f7 (EE (cF j C)) gW nm (.cB [ax (da j 2) (.cp (.i .i64 j::(e2 41 3++fZ))) (.cp (.i .i64 j::(fZ++e2 41 3))),.b ag]) (cF j C))
 (ax (f7 (kv (λ_=>af) 201 [.dU 35] (cF j C)) gW nm (.b al) (cF j C)) (f7 (kv (λ_=>af) 11 [] (cF j C)) gW nm (.dU 34) (cF j C)) al) al) al
def DA(I:List aB->Option Nat)(C D E:Nat)(args:Nat->List aB)(H:Nat->aB):List aB->cE->aK:=λj h=>aq (I j) λb=>cm (iu (ka (nat_lit 9)) j (args b)) (cm (eY b h.n) (aq (h.get b) λo=>aq (t4 o) λg=>cm (aH g C) (ab (H h.n,(h.put b (.cx D)).new (.cx E)))))
def lH(b j C D:Nat)(args:List aB)(E:Nat->aB):List aB->cE->aK:=DA (λ_=>ab b) j C D (λb=> .ai b 0::args) E
def qO(args:List aB)(j:aB):List aB->cE->aK:=λC h=>cm (iu (ka (nat_lit 9)) C args) (ab (j,h))
def TH(j:List aB):Option Nat:=aq (wX j 1) t6
def Im:mA:=tl [(26,lH 2 0 0 40 [] .ei),(27,lH 2 0 0 41 [] .ei)]
def IN(R:List dn):aK:=kv Im 14 [] R
def JM(R:List dn):aK:=kv Im 15 [] R
def k0{α:Type}(l j:List α):List α:=dN j (λC _ s=>C::s) l
def xh(C:aK)(j:List Nat)(n g:Nat)(R:List dn):Bool:=f7 C gW (k0 j [n]) (.ei n) (k0 R [.cx g])
def yW:List aB:=[.cp (e2 62 4)]
def nw(n:Nat):aB:=.ai n 0
def ady(j:Nat):List (Nat×(List aB->cE->aK)):=
 ax (aH j 1) [(393,lH 3 1 1 31 yW nw)]
 (ax (aH j 2) [(388,lH 4 2 37 36 [] .ei),(387,DA TH 36 36 31 (λb=>[.cp (e2 62 4),.ei b]) nw),(389,lH 4 37 37 33 yW .ei)]
 (ax (aH j 3) [(392,lH 5 3 3 31 [.cp (e2 66 3)] nw)]
 (ax (aH j 4) [(391,lH 5 3 3 31 [.cp (e2 66 3)] nw)]
 (ax (aH j 5) [(398,lH 7 5 5 31 [.dU 69] nw)]
 [(397,lH 6 4 4 31 [.dU 69,.dU 70] nw)]))))
def Il(j:Nat):mA:=tl ((259,qO [.cp (.i .i64 j::e2 62 9)] eW)::ady j)
def hI(j:Nat):Nat:=ax (aH j 1) 1 (ax (aH j 2) 2 (ax (da j 4) 3 (ax (aH j 5) 5 4)))
def uG(j:Nat):aK:=kv (Il j) 282 [.cp (.i .i64 j::e2 62 9),.i .i64 (hI j)] dj
def iK:List (Nat×Nat):=[(1,0),(1,1),(1,2),(1,3),(2,0),(2,1),(2,2),(2,3),(3,0),(3,1),(3,2),(4,0),(4,1),(4,2)]
def rl{α:Type}(j:α->Bool)(l:List α):Bool:=dN ag (λD _ C=>ax (j D) C al) l
def Ha:Bool:=ax (rl (λj=>Nl j) [1,2,3,4]) (ax (rl (λj=>OM j) [1,2,3,4,5,6]) (ax (f7 (kv (λ_=>af) 102 [.i .i64 1] dj) gW ke (pi 0 ag) dj) (ax (f7 (kv (λ_=>af) 103 [.i .i64 1] dj) gW ke (pi 0 ag) dj) (ax (f7 (EE dj) gW ke (.cB [.cp (i1 [eW] 7),.b al]) dj)
 (ax (f7 (kv (λ_=>af) 201 [.dU 34] dj) gW ke (.b ag) dj) (f7 (kv (λ_=>af) 11 [] dj) gW ke (.dU 34) dj) al) al) al) al) al) al
def ajc:Bool:=ax (Ha) (rl (λj=>ax (Uf j.1 j.2) (ax (Nk j.1 j.2) (F3 j.1 j.2) al) al) iK) al
def po(j:Nat):Nat:=ax (aH j 1) 464 (ax (aH j 2) 458 (ax (da j 4) 462 (ax (aH j 5) 470 467)))
def dA(j:Nat)(C:aB):dn:=.ce 373 (.y (po j) (.ai 9 0):: .i .i64 j::k0 (e2 62 9) [.i .i64 (hI j),C])
def QZ(j:Nat):Bool:=ax (aH j 2) (f7 (uG 2) gW (k0 ke [18,22,23,21]) (.cB [.ai 8 0,eW]) (k0 (iQ .hc λC=>ax (aH C 2) 37 C) [dA 2 (.ei 10),.cx 31,.cx 33,.cx 36]))
 (f7 (uG j) gW (k0 ke [18,ax (aH (hI j) 3) 21 19]) (.cB [.ai 8 0,eW]) (k0 dj [dA j .gk,.cx 31]))
def ae4:Bool:=ax (xh (IN dj) ke 8 40 dj) (ax (xh (JM dj) ke 8 41 dj) (rl (λj=>ax (xh (IN (cF j.1 j.2)) nm 11 40 (cF j.1 j.2)) (xh (JM (cF j.1 j.2)) nm 11 41 (cF j.1 j.2)) al) iK) al) al
def ac1:Bool:=rl (λj=>QZ j) [1,2,3,4,5,6,7]
end aV
namespace aV
open Go
theorem Hb:Ha=ag:=by decide+kernel
theorem F8:rl (λj=>ax (Uf j.1 j.2) (ax (Nk j.1 j.2) (F3 j.1 j.2) al) al) iK=ag:=by decide+kernel
def ae5:ae4=ag:=by decide+kernel
def ac2:ac1=ag:=by decide+kernel
end aV
theorem O.cx{H Q args}{α:Type}{G E}{J:a2->Prop}{I:α->Prop}{A:α->List aG}(U:∀h,G h->∃j,I j/\C (A j) h)
  (R:∀j,I j->O H Q args (A j) λv D=>J v/\∀h,C D h->E h):O H Q args [G] λv D=>J v/\D=[E]:=
 O.open U λj q=>by
  rw[dC];exact(R j q).cr λv D Y ⟨W,cl⟩ s=>⟨[E],⟨W,rfl⟩,C.fold cl (by rw[dC];exact s)⟩
theorem O.mk{J Q args}{A:Nat->aG}{H:Nat->aG}(R:O J Q args [] λv E=>∃D,v=.tuple #[I D,j 0]/\∀h,C E h->H D h):
  O J Q args [] λv E=>∃D,v=.tuple #[I D,j 0]/\E=[H D]:=
 R.cr λv E W ⟨D,U,cl⟩ s=>⟨[H D],⟨D,U,rfl⟩,C.fold (N:=E) cl (by rw[dC];exact s)⟩
variable{P:List aj}{m D:Nat}{ai:aj}{bB:List Nat}
theorem C0{l}(j:l.Perm P)(E:fe ai=ag)(H:ai∉P)(C:aa P<D):jD D l ai=0:=by
 have:=j.length_eq;unfold jD;grind
theorem FL{l}(j:l.Perm P):(l++[ai]).Perm (gN P ai):=((List.perm_append_singleton ai l).trans (j.cons ai)).trans (oV P ai).symm
def zb{l:List aj}(C:l.Perm P)(j:hU P)(E:ai∈P):(l.erase ai).Perm (hT P ai.id):=by grind[sQ]
theorem Ob{l}(j:l.Perm P)(C:ai∈P):qB l ai=0:=bJ (j.mem_iff.2 C)
structure ej where
 gA:List Nat
 gC:List Nat
 it:List Nat
 fJ:List Nat
 K:List aG
structure ej.le (a b:ej):Prop where
 gA:∀j∈a.gA,j∈b.gA
 gC:∀j∈a.gC,j∈b.gC
 it:∀j∈a.it,j∈b.it
 fJ:∀j∈a.fJ,j∈b.fJ
 K:aS b.K a.K
theorem ej.refl(a:ej):a.le a:=⟨λ_ h=>h,λ_ h=>h,λ_ h=>h,λ_ h=>h,λ_ h=>h⟩
def mb(D:Nat)(P:List aj)(m:Nat)(bB:List Nat)(E _c:Nat):aG:=λh=>∃j:List aj×Nat,(j.1.Perm P/\j.2<=m)/\C [fb.pk E D j.1 j.2 bB] h
def Qr(J:fe ai=ag)(Q:ai∉P)(H:aa P<D)(Y:m<=100000)(an:D<=300)(C c):aY 447 #[I C,ai.v] [mb D P m bB C c] (j 0) [mb D (gN P ai) (m+1) bB C c]:=
 O.cx (λ_ h=>h) λE ⟨aF,aM⟩=>(fb.V9 C D E.1 ai E.2 bB [] ad (by have:=aF.length_eq;omega)).mono λv W ⟨R,U⟩=>⟨by rw[R,C0 aF J Q H],λh s=>⟨(_,E.2+1),⟨FL aF,E9 aM⟩,by
  rw[U,qI,bJ (C0 aF J Q H)]at s;exact s⟩⟩
def Qq(R:hU P)(H:ai∈P)(Y:m<=100000)(W:aa P<=300)(C c):aY 448 #[I C,ai.v] [mb D P m bB C c] (j 0) [mb D (hT P ai.id) (m+1) bB C c]:=
 O.cx (λ_ h=>h) λE ⟨aF,aM⟩=>(fb.V6 C D E.1 ai E.2 bB [] ad (by have:=aF.length_eq;omega)).mono λv U ⟨J,Q⟩=>⟨by rw[J,Ob aF H],λh s=>⟨(_,E.2+1),⟨zb aF R H,E9 aM⟩,Q▸s⟩⟩
def abN(h1:1<=D)(ae:D<=300):Y 83 #[j (D:Nat)] [] λv E=>∃C,v=.tuple #[I C,j 0]/\E=[mb D [] 0 [] C 0]:=
 O.mk (A:=λC=>fb.pk C D [] 0 []) ((fb.abG D [] ad ad).mono λv E ⟨C,H,J⟩=>⟨C,H,λh s=>⟨([],0),⟨.refl _,bC _⟩,J▸s⟩⟩)
def kK(D:Nat)(P:List aj)(m:Nat)(E:Q)(j _c:Nat):aG:=λh=>∃S:R.cY.c3,(R.cY.gq S 100 m/\S.live.Perm P)/\C [R.cY.jG j D S E] h
def QF{E}(J:fe ai=ag)(U:ai∉P)(H:aa P<D)(am:m<=100000)(an:D<=30)(C c):aY 450 #[I C,ai.v] [kK D P m E C c] (j 0) [kK D (gN P ai) (m+1) E C c]:=
 O.cx (λ_ h=>h) λS ⟨aF,aM⟩=>(R.cY.Wf C D S E ai 100 m [] aF ao ad).mono λv ah ⟨W,Y⟩=>⟨by rw[W,C0 aM J U H],λh s=>by
  have Q:=(aF.abj ao (C0 aM J U H)).trans (aM.cons ai);have Z:=Q.length_eq;simp[List.length_cons]at Z;exact⟨_,⟨(aF.ins ao).low ad,Q.trans (oV P ai).symm⟩,Y▸s⟩⟩
def QE{E}(W:hU P)(H:ai∈P)(ap:m<=100000)(ah:aa P<=30)(C c):aY 451 #[I C,ai.v] [kK D P m E C c] (j 0) [kK D (hT P ai.id) (m+1) E C c]:=
 O.cx (λ_ h=>h) λS ⟨aF,aM⟩=>(R.cY.We C D S E ai 100 m [] aF ao ad).mono λv Y ⟨Q,U⟩=>⟨by rw[Q,Ob aM H],λh s=>by
  have J:=aF.Y6 ao (aM.mem_iff.2 H);have am:=J.length_eq;have Z:aa (S.live.erase ai)<=aa S.live:=List.length_erase_le;have:=aM.length_eq;exact⟨_,⟨(aF.del ao).low ad,J.trans (zb aM W H)⟩,U▸s⟩⟩
def acu(h1:1<=D)(ae:D<=300):Y 84 #[j (D:Nat)] [] λv E=>∃C,v=.tuple #[I C,j 0]/\E=[kK D [] 0 [] C 0]:=
 O.mk (A:=λC=>R.cY.jG C D ⟨[],[],0⟩ []) ((R.cY.acv D [] ad ad).mono λv E ⟨C,H,J⟩=>⟨C,H,λh s=>⟨⟨[],[],0⟩,⟨R.cY.gq.zero.up (bO _) (bO _),(f8 _).trans (.refl _)⟩,J▸s⟩⟩)
theorem Mw{l}(C:l.Perm P)(j:fe ai=ag)(I:ai∉P)(E:aa P<D):et.jD D l ai=0:=by
 have:=C.length_eq;have H:et.fe ai=ag:=j;unfold et.jD;grind
def mi(D:Nat)(P:List aj)(bB:List Nat)(j _c:Nat):aG:=λh=>∃l:List aj,l.Perm P/\C [et.nF j D l bB] h
def Sw(H:fe ai=ag)(J:ai∉P)(E:aa P<D)(an:D<=300)(C c):aY 453 #[I C,ai.v] [mi D P bB C c] (j 0) [mi D (gN P ai) bB C c]:=
 O.cx (λ_ h=>h) λl q=>(et.Wz C D l ai bB [] xy).mono λv U ⟨Q,R⟩=>⟨by rw[Q,Mw q H J E],λh s=>⟨_,(q.cons ai).trans (oV P ai).symm,by
  rw[R,et.C1,bJ (Mw q H J E)]at s;exact s⟩⟩
def Su(Q:hU P)(E:ai∈P)(U:aa P<=300)(C c):aY 454 #[I C,ai.v] [mi D P bB C c] (j 0) [mi D (hT P ai.id) bB C c]:=
 O.cx (λ_ h=>h) λl q=>(et.Wy C D l ai bB [] xy).mono λv R ⟨H,J⟩=>⟨by rw[H];exact congrArg _ (bJ (q.mem_iff.2 E)),λh s=>⟨_,zb q Q E,J▸s⟩⟩
def aeW(h1:1<=D)(ae:D<=300):Y 85 #[j (D:Nat)] [] λv E=>∃C,v=.tuple #[I C,j 0]/\E=[mi D [] [] C 0]:=
 O.mk (A:=λC=>et.nF C D [] []) ((et.WA D [] ⟨ad,ad⟩).mono λv E ⟨C,H,J⟩=>⟨C,H,λh s=>⟨[],.refl _,J▸s⟩⟩)
def O9(j:fe ai=ag)(C:ai.x<=ai.y):(l7 ai.id&&ew ai.x&&ew ai.y&&decide (ai.x<=ai.y))=ag:=by simp_all[fe,cO]
theorem P4{l}(C:l.Perm P)(j:fe ai=ag)(E:ai.x<=ai.y)(J:ai∉P)(H:aa P<D):YteinodmjohkmmaaGreat.S.eT.hF D l ai=0:=by
 have:=C.length_eq;have I:S.eT.je ai=ag:=O9 j E;unfold S.eT.hF;grind
theorem ME{l}(C:l.Perm P)(j:fe ai=ag)(E:ai.x<=ai.y)(J:ai∉P)(H:aa P<D):YteinodmjohkmmaaGreat.S.fw.hF D l ai=0:=by
 have:=C.length_eq;have I:S.fw.je ai=ag:=O9 j E;unfold S.fw.hF;grind
def ma(D:Nat)(P:List aj)(bB:List Nat)(j _c:Nat):aG:=λh=>∃l:List aj,l.Perm P/\C [YteinodmjohkmmaaGreat.S.eT.nD j D l bB] h
def Qd(J:fe ai=ag)(R:ai.x<=ai.y)(Q:ai∉P)(H:aa P<D)(an:D<=300)(C c):aY 456 #[I C,ai.v] [ma D P bB C c] (j 0) [ma D (gN P ai) bB C c]:=
 O.cx (λ_ h=>h) λl q=>(YteinodmjohkmmaaGreat.S.eT.V0 C D l ai bB [] xy).mono λv U ⟨W,E⟩=>⟨by grind[P4],λh s=>⟨_,FL q,by
  rw[E,YteinodmjohkmmaaGreat.S.eT.uy,bJ (P4 q J R Q H)]at s;exact s⟩⟩
def Qb(Q:hU P)(E:ai∈P)(U:aa P<=300)(C c):aY 457 #[I C,ai.v] [ma D P bB C c] (j 0) [ma D (hT P ai.id) bB C c]:=
 O.cx (λ_ h=>h) λl q=>(YteinodmjohkmmaaGreat.S.eT.VZ C D l ai bB [] xy).mono λv R ⟨H,J⟩=>⟨by rw[H];exact congrArg _ (bJ (q.mem_iff.2 E)),λh s=>⟨_,zb q Q E,J▸s⟩⟩
def abx(h1:1<=D)(ae:D<=300):Y 86 #[j (D:Nat)] [] λv E=>∃C,v=.tuple #[I C,j 0]/\E=[ma D [] [] C 0]:=
 O.mk (A:=λC=>YteinodmjohkmmaaGreat.S.eT.nD C D [] []) ((YteinodmjohkmmaaGreat.S.eT.V2 D [] ad ad).mono λv E ⟨C,H,J⟩=>⟨C,H,λh s=>⟨[],.refl _,J▸s⟩⟩)
def mo(D:Nat)(P:List aj)(m:Nat)(bB:List Nat)(j _c:Nat):aG:=λh=>∃s:YteinodmjohkmmaaGreat.S.fw.na,(s.k.Perm P/\s.b<=m)/\C [YteinodmjohkmmaaGreat.S.fw.nz j D s bB] h
def TO(Q:fe ai=ag)(U:ai.x<=ai.y)(R:ai∉P)(J:aa P<D)(ah:m<=50000)(an:D<=100)(C c):aY 459 #[I C,ai.v] [mo D P m bB C c] (j 0) [mo D (gN P ai) (m+1) bB C c]:=
 O.cx (λ_ h=>h) λs ⟨q,aM⟩=>(YteinodmjohkmmaaGreat.S.fw.WT (L:=[]) (t:=C) (bT:=D) (s:=s) (ai:=ai) xy ad).mono λv Y ⟨Z,E⟩=>⟨by grind[ME],λh W=>by
  have H:=ME q Q U R J;unfold YteinodmjohkmmaaGreat.S.fw.na.ins at E;rw[bJ H]at E;exact⟨_,⟨FL q,by
   unfold YteinodmjohkmmaaGreat.S.fw.ux;grind⟩,E▸W⟩⟩
def TN(R:hU P)(H:ai∈P)(Y:aa P<=100)(Z:m<=50000)(C c):aY 460 #[I C,ai.v] [mo D P m bB C c] (j 0) [mo D (hT P ai.id) (m+1) bB C c]:=
 O.cx (λ_ h=>h) λs ⟨q,aM⟩=>(YteinodmjohkmmaaGreat.S.fw.WS (L:=[]) (t:=C) (bT:=D) (s:=s) (ai:=ai) xy ad).mono λv W ⟨Q,E⟩=>⟨by rw[Q];exact congrArg _ (bJ (q.mem_iff.2 H)),λh U=>by
  have J:YteinodmjohkmmaaGreat.S.fw.mL _ ai=0:=bJ (q.mem_iff.2 H);unfold YteinodmjohkmmaaGreat.S.fw.na.del at E;rw[bJ J]at E;exact⟨_,⟨zb q R H,by
   unfold YteinodmjohkmmaaGreat.S.fw.ud;grind⟩,E▸U⟩⟩
def agI(h1:1<=D)(ae:D<=100):Y 87 #[j (D:Nat)] [] λv E=>∃C,v=.tuple #[I C,j 0]/\E=[mo D [] 0 [] C 0]:=
 O.mk (A:=λC=>YteinodmjohkmmaaGreat.S.fw.nz C D ⟨[],[],0⟩ []) ((YteinodmjohkmmaaGreat.S.fw.WU (H:=[]) (D:=D) ad ad).mono λv E ⟨C,H,J⟩=>⟨C,H,λh s=>⟨⟨[],[],0⟩,⟨.refl _,bC _⟩,J▸s⟩⟩)
section
abbrev MI:=Nat×Nat×List (Int×aj)×List (Int×aj)
def AK(D:Nat)(E:Nat)(C:MI):List aG:=[ah E 123 [.map (ab C.1),.map (ab C.2.1),j (D:Nat)],ct C.1 C.2.2.1,ct C.2.1 C.2.2.2]
def ig(D:Nat)(P S:List aj)(E _c:Nat):aG:=λh=>∃j:MI,(js j.2.2.1 P/\js j.2.2.2 S)/\C (AK D E j) h
variable{S:List aj}{c:bZ}
def Um(Y:aa P+aa S<=1000)(E Q):aY 406 #[I E,c.v] [ig D P S E Q] (j (ex P S D c)) [ig D P S E Q]:=
 O.cx (λ_ h=>h) λC ⟨H,J⟩=>(ahI c E C.1 C.2.1 D C.2.2.1 C.2.2.2 (AK D E C) P S H J (aU.ah p) km km ad).mono λv W ⟨R,U⟩=>⟨R,λh s=>⟨C,⟨H,J⟩,U▸s⟩⟩
def adp(h:ex P S D c=0)(j:c.k=1):dW P c.ai.id=al:=by grind[ex,bZ.mH,bZ.jZ,bZ.id]
def adr(h:ex P S D c=0)(j:c.k=3):dW S c.s.id=al:=by grind[ex,bZ.mH,bZ.jZ,bZ.id]
theorem adm(h:ex P S D c=0)(j:c.k=2):dW P c.ai.id=ag:=by grind[ex,bZ.mH,bZ.jZ,bZ.id]
theorem adn(h:ex P S D c=0)(j:c.k=4):dW S c.s.id=ag:=by grind[ex,bZ.mH,bZ.jZ,bZ.id]
def za(v:a2):Prop:=∃b:bZ,v=.tuple #[b.v,j 0]
section
variable(fX:ex P S D c=0)(nl:P.length+S.length<=1000)(B k:Nat)
include fX nl
theorem ahW(E:c.k=1):Y 268 #[I B,c.v] [ig D P S B k] λv C=>za v/\C=[ig D (gN P c.ai) S B k]:=
 O.cx (λ_ h=>h) λj ⟨H,J⟩=>(ahC c B j.1 j.2.1 D j.2.2.1 j.2.2.2 [] P S H J E fX ad).mono λv C ⟨Q,R⟩=>⟨⟨_,Q⟩,λh s=>⟨(j.1,j.2.1,f6 c.ai.id c.ai j.2.2.1,j.2.2.2),⟨H.put (adp fX E),J⟩,by subst R;exact s⟩⟩
theorem ahY(E:c.k=3):Y 268 #[I B,c.v] [ig D P S B k] λv C=>za v/\C=[ig D P (gN S c.s) B k]:=
 O.cx (λ_ h=>h) λj ⟨H,J⟩=>(ahE c B j.1 j.2.1 D j.2.2.1 j.2.2.2 [] P S H J E fX ad).mono λv C ⟨Q,R⟩=>⟨⟨_,Q⟩,λh s=>⟨(j.1,j.2.1,j.2.2.1,f6 c.s.id c.s j.2.2.2),⟨H,J.put (adr fX E)⟩,by subst R;exact s⟩⟩
theorem ahX(R:hU P)(U:c.k=2):Y 268 #[I B,c.v] [ig D P S B k] λv E=>za v/\E=[ig D (hT P c.ai.id) S B k]:=
 O.cx (λ_ h=>h) λj ⟨C,H⟩=>(ahD c B j.1 j.2.1 D j.2.2.1 j.2.2.2 [] P S C H U fX ad).mono λv E ⟨J,Q⟩=>⟨⟨_,J⟩,λh s=>⟨(j.1,j.2.1,l2 c.ai.id j.2.2.1,j.2.2.2),⟨by
  rcases C.get c.ai.id with ⟨_,g⟩|⟨q,g,_,_,_⟩
  .grind[adm]
  .exact C.del R g,H⟩,by subst Q;exact s⟩⟩
theorem ahZ(R:hU S)(U:c.k=4):Y 268 #[I B,c.v] [ig D P S B k] λv E=>za v/\E=[ig D P (hT S c.s.id) B k]:=
 O.cx (λ_ h=>h) λj ⟨H,C⟩=>(ahF c B j.1 j.2.1 D j.2.2.1 j.2.2.2 [] P S H C U fX ad).mono λv E ⟨J,Q⟩=>⟨⟨_,J⟩,λh s=>⟨(j.1,j.2.1,j.2.2.1,l2 c.s.id j.2.2.2),⟨H,by
  rcases C.get c.s.id with ⟨_,g⟩|⟨q,g,_,_,_⟩
  .grind[adn]
  .exact C.del R g⟩,by subst Q;exact s⟩⟩
end
theorem PB{l M}(H:js M l)(C:hU l)(E:ai∈l):dL ai.id M=ab ai:=by
 rcases H.get ai.id with ⟨_,g⟩|⟨q,g,j,m,_⟩
 .grind[wZ]
 .rw[g,C.inj m E j]
def ah1(W:hU P)(Z:ai∈P)(E Q):Y 444 #[I E,j ai.id] [ig D P S E Q] λv H=>v=.tuple #[ai.v,.bool ag]/\H=[ig D P S E Q]:=
 O.cx (λ_ h=>h) λC ⟨J,am⟩=>(ahK ai.id E C.1 C.2.1 D C.2.2.1 C.2.2.2 (AK D E C) (aU.ah p) km km).mono λv H ⟨R,U⟩=>⟨by rw[R,PB J W Z];rfl,λh s=>⟨C,⟨J,am⟩,U▸s⟩⟩
def ah3(W:hU S)(Z:ai∈S)(E Q):Y 445 #[I E,j ai.id] [ig D P S E Q] λv H=>v=.tuple #[ai.v,.bool ag]/\H=[ig D P S E Q]:=
 O.cx (λ_ h=>h) λC ⟨am,J⟩=>(ahP ai.id E C.1 C.2.1 D C.2.2.1 C.2.2.2 (AK D E C) (aU.ah p) km km).mono λv H ⟨R,U⟩=>⟨by rw[R,PB J W Z];rfl,λh s=>⟨C,⟨am,J⟩,U▸s⟩⟩
def ah0(h1:1<=D)(ae:D<=300):Y 49 #[j (D:Nat)] [] λv H=>∃E,v=.tuple #[I E,j 0]/\H=[ig D [] [] E 0]:=
 O.cr (JS D ad ad []) λv H W ⟨E,J,Q,R,U⟩ s=>⟨[ig D [] [] E 0],⟨E,R,rfl⟩,C.fold (N:=AK D E (J,Q,[],[])) (λh s=>⟨(J,Q,[],[]),⟨.nil,.nil⟩,s⟩) (by rw[dC];subst U;exact s)⟩
end
namespace aV
variable{s k e:Nat}{Ω:dO}
def he{C:bb Ω}{j n}(h:Ω.int j=n):bY C (.dU j) (.int .i64 n):=h▸ .dU
def UM{j:bb Ω}{n:Int}(h:n=(k:Nat)):bY j (.i .i64 (k:Nat)) (.int .i64 n):=h▸ .i
def WX{R H:List dn}{Q:mA}(j:aK)(aq:mB Ω ar Q){n:Nat}{I:dc}{Z:List aB}{C:Nat->aB}{O:List Nat}{U:aB}{W:bz}{aK:a2->Prop}(av:j=nj ar 210 Q n (λ_ _ _=>af) I (.ai 0 0::Z) (fS R))
  (h:f7 j C O U H=ag) (ap:∃J,O=0::J) (ax:∀E:bb Ω,bK E Z W) (am:∀(E:bb (Ω.fF C)) j,bY E U j->aK j):
  Y I (.pointer (ab ⟨s,0,af⟩)::W).toArray [gw Ω R s] λj ah=>aK j/\ah=[gw (Ω.fF C) H s]:=by
 subst av;obtain⟨J,rfl⟩:=ap;exact WW y1 xk aq h ax am
def se(j:bb Ω):∀n a,bK j (e2 a n) (((vB a n).map Ω.int).map (Value.int .i64))
 |0,_=> .nil
 |n+1,a=> .cons .dU (se j n (a+1))
def Ti(j:bb Ω):∀n,bK j (i1 [eW] n) ((List.replicate n (0:Int)).map (Value.int .i64))
 |0=> .nil
 |n+1=> .cons .i (Ti j n)
theorem nY{j y}(h:ax j y al=ag):j=ag/\y=ag:=by
 cases j with
 |false=>cases h
 |true=>trivial
def dK(Ω:dO)(H:Nat×(List aB->cE->aK)):Prop:=∀O h v E,H.2 O h=ab (v,E)->cu ar H.1/\
 ∀(R j:bb Ω) (I:Q) J,bK j O J->jO R j h->Y H.1 J.toArray (I++cz j h) λW U=>∃C,j.le C/\bY C v W/\jO R C E/\U=I++cz C E
def jY{l}(h:∀H∈l,dK Ω H):mB Ω ar (tl l):=by
 induction l with
 |nil=>intro C F e;cases e
 |cons H l J=>
  intro C F e;have j:ax _ _ _=ab F:=e;cases E:aH C _
  .rw[E]at j;exact J (λy I=>h y (List.mem_cons_of_mem _ I)) C F j
  .rw[E]at j;have:=cy E;cases j;subst this;exact h H ll
theorem dK.di{E:Nat}[ap:cu ar E]{k J O args Q R G I}(ah:Ω.d5 J=G)(am:Ω.d5 O=I)(Z:∀H:bb Ω,bK H args R){aK:a2->Prop}(W:∀(H:bb Ω) j,aK j->bY H Q j)
  (h:∀C c,Y E (.pointer (ab ⟨C,0,af⟩)::R).toArray [G C c] λj U=>aK j/\U=[I C c]):dK Ω (E,gB k J O args Q):=by
 subst ah am;exact aen Z W h
theorem iH{n}(C:bb Ω)(j)(h:j=.int .i64 (n:Nat)):bY C (.i .i64 (n:Nat)) j:=h▸ .i
def DZ(C:bb Ω)(j)(h:za j):bY C wz j:=by
 obtain⟨b,rfl⟩:=h;exact .cB (.cons (.cp (.cons .fg (.cons .fg (.cons .fg (.cons .fg (.cons .fg (.cons .fg (.cons .fg .nil)))))))) (.cons .i .nil))
theorem xV{j:bb Ω}{a}{ai:aj}(h1:Ω.int a=ai.id)(ae:Ω.int (a+1)=ai.x)(an:Ω.int (a+2)=ai.y):bK j (jT a) [ai.v]:=.cons (.cp (.cons (he h1) (.cons (he ae) (.cons (he an) .nil)))) .nil
def S9{ai:aj}(h1:Ω.int 41=ai.id)(ae:Ω.int 42=ai.x)(an:Ω.int 43=ai.y)(C:bb Ω)(j)(h:j=.tuple #[ai.v,.bool ag]):bY C CT j:=by
 subst h;exact .cB (.cons (.cp (.cons (he h1) (.cons (he ae) (.cons (he an) .nil)))) (.cons .b .nil))
def dK.val{C:Nat}[I:cu ar C]{args H us}(U:∀j:bb Ω,bK j args us){v0}(R:∀j:bb Ω,bY j H v0)
  (h:∀E,aY C us.toArray E v0 E):dK Ω (C,qO args H):=λav am v ah e=>by
 let⟨O,Q⟩:=de.1 (show cm _ _=ab _ from e);cases Q;refine⟨I,λax j Z aq W J=>?_⟩;have:=qu (λe a b=>sY 9 e a b) O W (U j);subst this;exact(h _).mono λap Y ⟨aF,aM⟩=>⟨j,bb.le.refl _,aF▸R j,J,aM⟩
theorem dK.mk{ah:Nat}[aI:cu ar ah]{bk aB I R args aG}{us:Nat->Nat->List a2}{aK:a2->Nat->Nat->Prop}(aZ:∀(j:bb Ω) b E c,j b=ab (E,c)->bK j (args b) (us E c))(aY:∀(j:bb Ω) n E c U,j n=ab (E,c)->aK U E c->bY j (aG n) U)
  (h:∀E c,Y ah (us E c).toArray [Ω.d5 aB E c] λU av=>∃O Q,aK U O Q/\av=[Ω.d5 I E c,Ω.d5 R O Q]):dK Ω (ah,DA bk aB I R args aG):=λbv H v bq e=>by
 let⟨b,bo,e⟩:=b1.1 (show aq _ _=ab _ from e);let⟨aJ,aL⟩:=de.1 e;let⟨aX,aM⟩:=de.1 aL;let⟨o,aO,aP⟩:=b1.1 aM;let⟨g,aQ,aR⟩:=b1.1 aP;let⟨aS,aT⟩:=de.1 aR;have:=cy aS;subst this;have a3:o=.cx g:=by cases o<;>cases aQ;rfl
 subst a3;cases aT;have a0:b<H.n:=fq aX;refine⟨aI,λbx j J bt a7 ax=>λaz F bm aA=>?_⟩;have am:∀W:cE,W.n=H.n->(cz j W).Perm (dg j W b::fI j W b):=λW aW=>(mY (kU.2 (aW▸a0))).map _;obtain⟨E,c,ap⟩:∃E c,j b=ab (E,c):=by
  cases br:j b with
  |some bw=>grind
  |none=>
   have s:=C.perm ((qh _ (am H p)).trans fA) (show C ((F::J)++cz j H) _ from aA.s);let⟨_,_,_,_,_,a,_⟩:=s;unfold dg at a;simp_all
 have:=qu (λe a b=>sY 9 e a b) aJ a7 (aZ j b E c ap);subst this;have aV:dg j H b=Ω.d5 g E c:=by simp[dg,aO,ap,fk]
 have aF:=aA.mono λZ s=>C.join (N:=F::(J++fI j H b)) (by
  have ai:=am H p;rw[aV]at ai;refine C.perm ?_ s;exact((ai.append_left J).trans (fA.trans (ep (l₁:=[_])))).cons F)
 refine(h E c az _ bm aF).mono λbp bn ⟨U,av,a8,⟨O,Q,bg,bh⟩,a4⟩=>?_;subst bh;have be:bj az (fk (ext j H.n (O,Q)) (.cx R) O Q::(λZ=>C _ Z)::cz j _) bn:=a4.mono λZ s=>by
  have bi:=C.part s;have ai:=am (H.put b (.cx I)) p;rw[Eb,show dg j (H.put b (.cx I)) b=Ω.d5 I E c by simp[dg,CQ,ap,fk]]at ai;apply C.bl (j:=(F::J)++cz j (H.put b (.cx I))) (λZ s=>C.join s) (C.perm _ bi);show((F::(J++fI j H b))++[Ω.d5 I E c,Ω.d5 R O Q]).Perm (Ω.d5 R O Q::(F::J++cz j (H.put b (.cx I))));have bc:(F::J++cz j (H.put b (.cx I))).Perm ((F::(J++fI j H b))++[Ω.d5 I E c]):=((ai.append_left J).trans (fA.trans (ep (l₁:=[_])))).cons F;apply List.Perm.trans _ (bc.symm.cons _);rw[show[Ω.d5 I E c,Ω.d5 R O Q]=[Ω.d5 I E c]++[Ω.d5 R O Q]from rfl,<- List.append_assoc];grind[ep]
 let⟨aD,a9,aE⟩:=ST.new (h:=H.put b (.cx I)) (o:=.cx R) (B:=O) (c:=Q) ax.eU be;exact⟨U,J++cz _ _,a8,⟨_,aD,aY _ _ _ _ _ a9 bg,⟨aE.eU,ax.nq.trans aD⟩,rfl⟩,aE.eD.mono λ_ s=>C.part (N:=F::J) s⟩
theorem rm{α E}:∀{l:List α},rl E l=ag->∀C∈l,E C=ag
 | [],_,_,h=>by grind
 |y::l,h,C,j=>by
  let⟨a,b⟩:=nY (show ax _ _ _=ag from h);rcases List.mem_cons.1 j with rfl|j
  .omega
  .exact rm b C j
def MB{R E}(aO:R[k]?=ab (.cx E))(h1:∀j,j≠k->R[j]?≠ab (.cx E)):∀W,gw Ω R s W->∃av c aK,C [Ω.d5 E av c,aK] W/\∀G Y,C [G av c,aK] Y->gw ⟨Ω.int,λj=>if j=E then G else Ω.d5 j⟩ R s Y:=λW ⟨H,aF,aM,aR⟩=>by
 have aS:=(h2.1 aO).1;have aJ:k∈gZ (fS R).n:=kU.2 (by rw[qK];omega);have ai:∀{Ω:dO} (H:bb Ω),(cz H _).Perm (dg H _ k::fI H _ k):=λH=>(mY aJ).map _;have az:(fS R).get k=ab (.cx E):=by rw[pZ];omega
 have am:=C.perm (ai H) aR;cases Q:H k with
 |none=>
  let⟨U,ah,ax,aA,aB,a,l⟩:=am;simp_all[dg]
 |some J=>
  have aI:dg H (fS R) k=Ω.d5 E J.1 J.2:=by simp[dg,az,Q,fk]
  rw[aI]at am;refine⟨J.1,J.2,λh=>C _ h,C.bl (λh I=>C.fold (λ_ I=>I) (by rw[dC];exact I)) am,λG Y I=>?_⟩;have I:=C.part (C.swap I);let⟨U,ah,ax,aA,aB,a,l⟩:=C.perm ep I;refine⟨λk=>H k,aF,aM,C.perm (ai _).symm ⟨U,ah,ax,aA,aB,?_,?_⟩⟩
  .unfold dg;rw[az];show(match H k with|none=>(λ_=>False:aG)|some J=>fk _ _ _ _) U;rw[Q];show(if E=E then G else Ω.d5 E) _ _ U;simp_all
  .apply Az _ (λj aL h b=>?_) ah l;have aP:=((List.nodup_range).mem_erase_iff.1 aL).1;unfold dg at b ⊢;cases aQ:(fS R).get j with
   |none=>simp
   |some o=>
    rw[aQ]at b;have O:=b;show(match H j with|none=>(λ_=>False:aG)|some J=>fk _ o _ _) h;cases Q:H j with
    |none=>simp_all
    |some J=>
     rw[Q]at O;cases o with
     |cx Z=>
      have:Z≠E:=λe=>h1 j aP (by simp_all[pZ]);show(if Z=E then G else Ω.d5 Z) _ _ h;rw[a8 this];trivial
     |ce aD aE=>obtain⟨ap,aq,ar⟩:=O;exact⟨ap,bK.oZ (Ω:=Ω) (Ω':=⟨Ω.int,λj=>if j=E then G else Ω.d5 j⟩) (λ_=>rfl) aq,ar⟩
     |kO aD I n aE=>obtain⟨ap,aq,ar⟩:=O;exact⟨ap,bK.oZ (Ω:=Ω) (Ω':=⟨Ω.int,λj=>if j=E then G else Ω.d5 j⟩) (λ_=>rfl) aq,ar⟩
     | _=>exact O
end aV
section
attribute [local irreducible] C bh b6
def s5(j:Nat->Int):Bool:=decide ((j 0=1/\1<=j 1/\j 1<=4)\/(j 0=2/\1<=j 8/\j 8<=7))
def Ea(U R):aY 89 #[gF U] R (.bool (s5 U)) R:=by
 refine cR ?_;refine bQ ?_;apply bd λW=>?_;apply ay _;apply ee _;iterate 2 apply ay _
 apply ee _;iterate 2 apply ay _
 apply cd _;refine eG p (λE=>?y294) (λE=>?n294)
 case' n294=>
  have I:=E;try simp only[jV]at I
  apply bQ _;iterate 2 apply ay _
  apply cd _;refine eG p (λH=>?y310) (λH=>?n310)
  case' n310=>
   have O:=H;try simp only[jV]at O
   apply bQ _;apply ay _;apply cd _;refine ba p (.tmp p .nil) a1 ⟨congrArg Value.bool Ag,rfl⟩
  case' y310=>
   have O:=H;try simp only[jV]at O
   apply bQ _;iterate 5 apply ay _
   refine h4 p p p (λC=>?y315) (λC=>?n315)
   case' n315=>
    have Q:=C;try simp only[jV]at Q
    refine ql p p p C ?_;refine ql p p p C ?_;refine ql p p p C ?_;refine a6 (rD p C p) ?_;apply ay _;apply cd _;refine ba p (.tmp p .nil) a1 ⟨congrArg Value.bool Ag,rfl⟩
   case' y315=>
    have Q:=C;try simp only[jV]at Q
    apply ay _;refine hC p p p C ?_;apply ay _;refine hC p p p C ?_;apply ay _;refine hC p p p C ?_;apply ay _;refine a6 (pQ p C p) ?_;apply ay _;apply cd _;refine ba p (.tmp p .nil) a1 ⟨congrArg Value.bool Ag,rfl⟩
 case' y294=>
  have I:=E;try simp only[jV]at I
  apply bQ _;iterate 5 apply ay _
  refine h4 p p p (λj=>?y299) (λj=>?n299)
  case' n299=>
   have J:=j;try simp only[jV]at J
   refine ql p p p j ?_;refine ql p p p j ?_;refine ql p p p j ?_;refine a6 (rD p j p) ?_;apply ay _;apply cd _;refine ba p (.tmp p .nil) a1 ⟨congrArg Value.bool Ag,rfl⟩
  case' y299=>
   have J:=j;try simp only[jV]at J
   apply ay _;refine hC p p p j ?_;apply ay _;refine hC p p p j ?_;apply ay _;refine hC p p p j ?_;apply ay _;refine a6 (pQ p j p) ?_;apply ay _;apply cd _;refine ba p (.tmp p .nil) a1 ⟨congrArg Value.bool Ag,rfl⟩
def D0(j C):aY 52 #[gF j] C (.bool (s5 j)) C:=by
 refine cR ?_;refine bQ ?_;apply bd λE=>?_;apply ay _;apply ee _;apply ay _;refine f1 p (Ea j _) ?_;apply ay _;apply cd _;exact c8
namespace aV
def Tv(c:Nat):List aB:=.i .i64 1:: .i .i64 c::e2 2 16
def Tw(c:Nat):List aB:=.i .i64 2::(k0 (e2 1 7) (.i .i64 c::e2 9 9))
def Jg(j:Nat)(H:List aB)(E:aB):Bool:=f7 (nj ar 210 (λ_=>af) 100 (λ_ _ _=>af) j H (fS [])) (λC=> .dU C) [] E []
def FO:aB:=.cp (i1 [.fg] 18)
def aei:rl (λc=>Jg 91 [.cp (Tv c)] FO) [1,2,3,4]=ag:=by decide+kernel
def aej:rl (λc=>Jg 91 [.cp (Tw c)] FO) [1,2,3,4,5,6,7]=ag:=by decide+kernel
def SC(Ω:dO){H:dc}{U:List aB}{R:bz}{J:aB}{aK:a2->Prop}(h:Jg H U J=ag)(Z:bK (Ω:=Ω) (λ_=>af) U R)(W:∀(aq:bb (Ω.fF λah=> .dU ah)) v,bY aq J v->aK v)(j:Q):
  Y H R.toArray j λv I=>aK v/\I=j:=by
 refine O.cr (O.frame j (Ec (R:=[]) y1 xk (aL:=λ_=>af) (λH F E=>by cases E) h (λ_ _=>rfl) Z) λh s=>?_) λv I av ⟨ar,⟨ax,_,_,am,_⟩,E⟩ s=>⟨j,⟨W _ _ am,rfl⟩,?_⟩
 .show C (j++[]) h;rwa[dC]
 .subst E;let⟨_,_,_,ap,_,a,_⟩:=C.split s;exact a.up ap
def u6(j:Nat->Int):dO:=⟨j,λ_ _ _ _=>False⟩
def MU{Ω}(j:bb Ω)(v)(h:bY j FO v):∃aV,v=gF aV:=by
 change bY j (.cp [.fg,.fg,.fg,.fg,.fg,.fg,.fg,.fg,.fg,.fg,.fg,.fg,.fg,.fg,.fg,.fg,.fg,.fg]) v at h;cases h with|cp h=>?_
 cases h with| @cons _ aW _ _ C h=>?_
 cases h with| @cons _ aX _ _ E h=>?_
 cases h with| @cons _ bc _ _ Y h=>?_
 cases h with| @cons _ xV _ _ Z h=>?_
 cases h with| @cons _ be _ _ ah h=>?_
 cases h with| @cons _ bg _ _ am h=>?_
 cases h with| @cons _ bh _ _ ap h=>?_
 cases h with| @cons _ bi _ _ aq h=>?_
 cases h with| @cons _ bj _ _ ar h=>?_
 cases h with| @cons _ bk _ _ av h=>?_
 cases h with| @cons _ aY _ _ H h=>?_
 cases h with| @cons _ aZ _ _ I h=>?_
 cases h with| @cons _ a0 _ _ J h=>?_
 cases h with| @cons _ a3 _ _ O h=>?_
 cases h with| @cons _ a4 _ _ Q h=>?_
 cases h with| @cons _ a7 _ _ R h=>?_
 cases h with| @cons _ a8 _ _ U h=>?_
 cases h with| @cons _ a9 _ _ W h=>?_
 cases h;cases C;cases E;cases Y;cases Z;cases ah;cases am;cases ap;cases aq;cases ar;cases av;cases H;cases I;cases J;cases O;cases Q;cases R;cases U;cases W
 rename_i az aA aL aM aO aP aQ aR aS aT aB aD aE aF aG aI aJ aK
 exact⟨λax=>[az,aA,aL,aM,aO,aP,aQ,aR,aS,aT,aB,aD,aE,aF,aG,aI,aJ,aK].getD ax 0,rfl⟩
def af0{j:Nat->Int}{c}(E:j 0=1)(h1:j 1=(c:Nat))(C:bb (u6 j)):bK C [.cp (Tv c)] [gF j]:=by
 refine .cons (.cp ?_) .nil;show bK C (.i .i64 1:: .i .i64 c::e2 2 16) (.int .i64 (j 0):: .int .i64 (j 1)::((vB 2 16).map (u6 j).int).map (Value.int .i64));rw[E,h1];exact .cons .i (.cons .i (se C 16 2))
def af1{j:Nat->Int}{c}(H:j 0=2)(h1:j 8=(c:Nat))(C:bb (u6 j)):bK C [.cp (Tw c)] [gF j]:=by
 refine .cons (.cp ?_) .nil;show bK C (.i .i64 2::(k0 (e2 1 7) (.i .i64 c::e2 9 9))) (.int .i64 (j 0)::(((vB 1 7).map (u6 j).int).map (Value.int .i64)++(.int .i64 (j 8)::((vB 9 9).map (u6 j).int).map (Value.int .i64))));rw[H,h1];have E:k0 (e2 1 7) (.i .i64 c::e2 9 9)=e2 1 7++(.i .i64 c::e2 9 9):=rfl;rw[E];exact .cons .i ((se C 7 1).append (.cons .i (se C 9 9)))
end aV
def afY(j)(h:s5 j=al)(C):Y 127 #[gF j] C λv H=>(∃I,v=gF I)/\H=C:=by
 have E:=Ea j;rw[h]at E;refine cR ?_;refine bQ ?_;apply bd λJ=>?_;apply bd λO=>?_;apply ee _;apply ay _;refine f1 p (E _) ?_;apply ay _;apply m3 _;apply bQ _;apply ay _;apply fv _;apply cd _;refine ba p (.cell p (eQ cA) .nil) a1 ⟨⟨λ_=>0,rfl⟩,rfl⟩
def IX(j E):Y 91 #[gF j] E λv O=>(∃C,v=gF C)/\O=E:=by
 cases h:s5 j with
 |true=>
  rcases of_decide_eq_true h with ⟨H,h1,W⟩|⟨H,h1,Z⟩
  .obtain⟨c,I⟩:∃c:Nat,j 1=(c:Nat):=⟨(j 1).toNat,ad⟩;exact aV.SC (aV.u6 j) (R:=[gF j]) (aK:=λv=>∃C,v=gF C) (aV.rm aV.aei c (by
    have:c=1\/c=2\/c=3\/c=4:=ad;simpa using this)) (aV.af0 H I _) (λJ v j=>aV.MU J v j) E
  .obtain⟨c,I⟩:∃c:Nat,j 8=(c:Nat):=⟨(j 8).toNat,ad⟩;exact aV.SC (aV.u6 j) (R:=[gF j]) (aK:=λv=>∃C,v=gF C) (aV.rm aV.aej c (by
    have:c=1\/c=2\/c=3\/c=4\/c=5\/c=6\/c=7:=ad;simpa using this)) (aV.af1 H I _) (λJ v j=>aV.MU J v j) E
 |false=>
  have Q:=afY j h;refine cR ?_;refine bQ ?_;apply bd λR=>?_;apply bd λU=>?_;apply ee _;apply ay _;refine GE (c5 p (Q _)) ?_;rintro _ _ ⟨⟨C,rfl⟩,rfl⟩;apply fv _;apply cd _;refine ba p (.cell p (eQ cA) .nil) a1 ⟨⟨C,rfl⟩,rfl⟩
def yr(E:dc)(args:Array a2)(j:Q)(C:List aG->Prop):Prop:=(Y E args j λ_ H=>C H)\/∃ai q,m4 ar E args j (lD ai q) C
def Ve{H}{E Q:bz}{J O}[U:cu ar H](h:yr H (E++Q).toArray J O):Y 166 #[.func (.func H) E.toArray Q.toArray] J λv C=>(∃ai q I,v=.tuple #[.agg #[j ai,j q],.bool I])/\O C:=by
 have E:Y 210 #[.func (.func H) E.toArray Q.toArray] J λv C=>(∃ai q I,v=.tuple #[.agg #[j ai,j q],.bool I])/\O C:=by
  rcases h with h|⟨ai,q,h⟩
  .exact(B5 (by rw[dC];exact h)).mono λv C ⟨a,b⟩=>⟨⟨_,_,_,a⟩,b⟩
  .exact(Yn (J:=ai) (q:=q) bo).mono λv C ⟨a,b⟩=>⟨⟨_,_,_,a⟩,b⟩
 refine aD ?_;refine bP λZ=>?_;apply aP (b3 E) _;rintro _ _ ⟨W,⟨⟨ai,q,I,rfl⟩,R⟩,rfl⟩;apply eX _;exact⟨_,⟨⟨_,_,_,rfl⟩,R⟩,(λ_ s=>s.tail)⟩
def Cf(s){E}{C O:bz}{H J}[W:cu ar E](h:yr E (C++O).toArray H J):Y 124 #[I s,.func (.func E) C.toArray O.toArray] H λv Q=>(∃R,v=j R)/\J Q:=by
 have C:=Ve h;refine aD ?_;refine aP (b3 C) ?_;rintro _ _ ⟨Z,⟨⟨ai,q,am,rfl⟩,U⟩,rfl⟩;apply ak _;apply bg λah=>?_;exact aR ⟨⟨_,rfl⟩,U⟩ (λ_ s=>s.tail)
section
variable(s:Nat)(ai:Int)(r:Nat->Int)(t b:Int)
def agb:Y 284 #[I s] [dX s ai r t b] λv C=>(∃E,v=j E)/\∃J O,C=[dX s J r O b]:=by
 have Q:=Cf s (C:=[.pointer _]) (by
  by_cases H:ai=1
  .exact .inl ((agD s ai r t b H).mono λv C h=>h)
  .exact .inr ⟨_,_,agE s ai r t b H⟩)
 refine aD ?_;refine aP (b3 Q) ?_;rintro _ _ ⟨_,⟨⟨E,rfl⟩,J,O,rfl⟩,rfl⟩;apply ak _;exact aR ⟨⟨_,rfl⟩,_,_,rfl⟩
def age:Y 198 #[I s] [dX s ai r t b] λv C=>(∃E,v=j E)/\∃J,C=[dX s J r t b]:=by
 have O:=Cf s (C:=[.pointer _]) (by
  by_cases H:ai=2
  .exact .inl ((agN s ai r t b H).mono λv C h=>h)
  .exact .inr ⟨_,_,agO s ai r t b H⟩)
 refine aD ?_;refine aP (b3 O) ?_;rintro _ _ ⟨_,⟨⟨E,rfl⟩,J,rfl⟩,rfl⟩;apply ak _;exact aR ⟨⟨_,rfl⟩,_,rfl⟩
end
section
variable(s vd ve:Nat)(ai:Int)(r q:Nat->Int)(t b:Int)
def Vu(s vd ve:Nat)(b:Int)(j:Q):Prop:=∃C H J E,j=[dX s C H J b,ah vd 99 [I s],ah ve 54 (gE E)]
def Tg(b)(H:Nat)(C y)(E:Q):Rd (ah b H [j C,j y]::E) (U b) 2 [C,y]:=bf.ah p
def D4(b)(J:Nat)(E y H C)(I:Q):Rd (ah b J [j E,j y,j H,j C]::I) (U b) 4 [E,y,H,C]:=bf.ah p
def aad:yr 356 #[I vd,I ve] [dX s ai r t b,ah vd 99 [I s],ah ve 54 (gE q)] (Vu s vd ve b):=by
 by_cases E:ai=1\/ai=3
 .refine .inl ?_;refine aD ?_;refine bd λj=>?_;refine dQ (u9 s ai 10 _ _ 2 p bL (by simpa using E) _ (Tg _ _ _ _ _) ec) ?_;apply a9 (O.pick aN (TJ s ai r t b 0 _)) _;exact er (D:=[]) (j:=[]) (C:=[dX s 0 (λ_=>0) t b,ah vd 99 [I s],ah ve 54 (gE r)]) p .nil au ⟨_,_,_,_,rfl⟩
 .refine .inr ⟨ai,10,?_⟩;refine pt (fn:=Tryz.f356) (n:=7) Tryz.func356 p p p ?_;intro g F;apply aC _;apply bd λj=>?_;exact oK p (AF s ai 10 ao _ [1,3] 2 p ao bo _ (Tg _ _ _ _ _) ec) λa R Q H C J=>pj (j:=[dX s ai r t b,ah vd 99 [I s],ah ve 54 (gE q)]) p H ⟨_,_,_,_,rfl⟩ ((C▸J).mono au)
end
section
variable(s:Nat)(ai:Int)(r q:Nat->Int)(t b:Int)
def agc:Y 288 #[I s] [dX s ai r t b] λv O=>(∃C E,v=.tuple #[gF C,j E])/\∃H C J,O=[dX s H C J b]:=by
 have U:=λW Z=>Cf s (C:=[]) (aad s W Z ai r (λ_=>0) t b);refine aD ?_;refine bd λQ=>?_;apply bP λR=>?_;apply aP (b3 (U Q R)) _;rintro _ _ ⟨_,⟨⟨E,rfl⟩,H,C,J,ah,rfl⟩,rfl⟩;apply eX _;exact⟨_,⟨⟨_,_,rfl⟩,_,_,_,rfl⟩,au⟩
end
section
variable(s:Nat)(ai:Int)(r q:Nat->Int)(t b:Int)
def agF(C:Q):Y 191 #[I s,gF r] (dX s ai q t b::C) λv E=>(∃n,v=j n)/\E=dX s ai q t b::C:=by
 refine aD ?_;refine bP λU=>?_;refine h4 p p p (λH=>?y331) (λH=>?n331)
 case' n331=>
  try simp[gm]at O
  apply ak _;exact aR ⟨⟨_,rfl⟩,rfl⟩
 case' y331=>
  try simp[gm]at O
  apply ak _;refine eG p (λJ=>?y337) (λJ=>?n337)
  case' n337=>
   try simp[gm]at R
   apply ak _;exact aR ⟨⟨_,rfl⟩,rfl⟩
  case' y337=>
   try simp[gm]at R
   apply ak _;exact aR ⟨⟨_,rfl⟩,rfl⟩
def ag9(H:ai=0)(E:s5 r=ag):Y 126 #[I s,gF r] [dX s ai q t b] λv C=>∃J Q U,C=[dX s J Q U b]:=by
 subst H;have j:=D0 r;rw[E]at j;refine aD ?_;refine bP λZ=>?_;apply bd λah=>?_;refine dQ (u9 s 0 10 _ _ 4 p bL ao _ (D4 _ _ _ _ _ _ _) ec) ?_;apply dQ (j _) _;apply bd λW=>?_;refine a9 (u9 s 0 7 _ _ 1 p ao ao _ (xJ _ _ _ _) ec) ?_;apply fK (bE [0,1,2,3,4,6] (.e 5 (.e 7 (.q 8 (.q 9 (.e 10 (.q 11 (.q 12 (.e 13 (.q 14 (.q 15 (.e 16 .nil)))))))))))) _;apply dV (O.pick aN (agF s 0 r q t b _)) _;rintro _ _ ⟨⟨n,rfl⟩,rfl⟩;apply cV _;apply dV (IX r _) _;rintro _ _ ⟨⟨R,rfl⟩,rfl⟩;apply cV _;apply ak _;exact er (D:=[]) (j:=[]) (C:=[dX s n R 0 b]) p .nil au ⟨_,_,_,rfl⟩
def aha:yr 126 #[I s,gF r] [dX s ai q t b] λj=>∃Z ah am,j=[dX s Z ah am b]:=by
 have J:=D0 r
 by_cases O:ai∈ [(0:Int),1,2,3]
 .cases Q:s5 r with
  |false=>
   rw[Q]at J;refine .inr ⟨0,8,?_⟩;refine pt Tryz.func126 p p p ?_;intro g F;apply bQ _;apply bP λR=>?_;apply bd λU=>?_;refine dQ (u9 s ai 10 _ [0,1,2,3] 4 p bL O _ (D4 _ _ _ _ _ _ _) ec) ?_;apply dQ (J _) _;exact oK p (FJ 0 8 ao _) λa W j E C H=>pj (j:=[dX s ai q t b]) p E ⟨_,_,_,rfl⟩ ((C▸H).mono au)
  |true=>
   by_cases Y:ai=0
   .exact .inl ((ag9 s ai r q t b Y Q).mono λv j h=>h)
   .rw[Q]at J;refine .inr ⟨ai,7,?_⟩;refine pt (fn:=Tryz.f126) (n:=28) Tryz.func126 p p p ?_;intro g F;apply bQ _;apply bP λR=>?_;apply bd λU=>?_;refine dQ (u9 s ai 10 _ [0,1,2,3] 4 p bL O _ (D4 _ _ _ _ _ _ _) ec) ?_;apply dQ (J _) _;apply bd λap=>?_;exact oK p (AF s ai 7 ao _ [0] 1 p ao bo _ (xJ _ _ _ _) ec) λa W j E C H=>pj (j:=[dX s ai q t b]) p E ⟨_,_,_,rfl⟩ ((C▸H).mono au)
 .refine .inr ⟨ai,10,?_⟩;refine pt (fn:=Tryz.f126) (n:=28) Tryz.func126 p p p ?_;intro g F;apply bQ _;apply bP λR=>?_;apply bd λU=>?_;exact oK p (AF s ai 10 ao _ [0,1,2,3] 4 p ao O _ (D4 _ _ _ _ _ _ _) ec) λa W j E C H=>pj (j:=[dX s ai q t b]) p E ⟨_,_,_,rfl⟩ ((C▸H).mono au)
def ahj(J O):yr 125 #[I J,I O] [dX s ai q t b,ah J 99 [I s],ah O 54 (gE r)] λH=>∃j C E,H=[dX s j C E b]:=by
 rcases aha s ai r q t b with h|⟨Y,W,h⟩
 .refine .inl ?_;refine aD ?_;refine aP (b3 h) ?_;rintro _ _ ⟨_,⟨j,C,E,rfl⟩,rfl⟩;apply ak _;exact er rfl .nil au ⟨_,_,_,rfl⟩
 .refine .inr ⟨Y,W,?_⟩;refine pt (fn:=Tryz.f125) (n:=5) Tryz.func125 p p p ?_;intro g F;apply aC _;refine oK p (m4.frame [F] h au) λa am H R Q U=>?_;obtain⟨Z,⟨j,C,E,rfl⟩,rfl⟩:=Q;exact pj (j:=[dX s j C E b]) p R ⟨_,_,_,rfl⟩ U
def agq:Y 90 #[I s,gF r] [dX s ai q t b] λv O=>(∃C,v=j C)/\∃E H J,O=[dX s E H J b]:=by
 have U:=λW Z=>Cf s (C:=[]) (ahj s ai r q t b W Z);refine aD ?_;refine bd λQ=>?_;apply bP λR=>?_;apply aP (b3 (U Q R)) _;rintro _ _ ⟨_,⟨⟨C,rfl⟩,E,H,J,rfl⟩,rfl⟩;apply ak _;exact aR ⟨⟨_,rfl⟩,_,_,_,rfl⟩
end
@[reducible] def lN (J:Nat) (E:a3) (U R Y:Nat) (Z:a3) (H W ah:Int) (C:a3) (Q O:Nat):List Value:=[I J,.slice E U R,I Y,.pointer Z,j H,j W,j ah,.slice C Q O]
@[reducible] def lZ (O bc:Nat) (J:Int) (E:a3) (Q seen:Int) (C:Bool) (H:Int):List Value:=[I O,I bc,j J,.pointer E,j Q,j seen,.bool C,j H]
@[reducible] def p7 (C:Int) (H y:Bool) (n:Int) (A:a3) (E c:Nat):Value:=.agg #[j C,.bool H,.bool y,j n,.slice A E c]
def oT(v:a2):Prop:=∃C J y n A I c H E,v=.tuple #[p7 C J y n A I c,.bool H,j E]
def uM(j):Y 131 #[] j λv C=>oT v/\C=j:=by
 refine aD ?_;refine bg λE=>?_;refine ba p (.cell p (eQ cA) (.tmp p (.tmp p .nil))) a1 ⟨⟨0,al,al,0,af,0,0,al,0,rfl⟩,rfl⟩
def ub(E C):aY 93 #[j E] C (p7 E al al 0 af 0 0) C:=by
 refine aD ?_;refine bg λH=>?_;refine ba p (.cell p (eQ cA) .nil) a1 bD
section
variable(S aJ:Nat)(bI:a3)(a4 a0 aL:Nat)(aW:a3)(jv op di:Int)(i7:a3)(jd jc:Nat)
def Dy(ar R id o H U y n A Q c):Y 58 #[I S,j R,j id,j o,gF ar,p7 H U y n A Q c] [ah S 80 (lN aJ bI a4 a0 aL aW jv op di i7 jd jc),k6 i7 jd jc] λv E=>v=.tuple #[]/\∃C O J,E=[ah S 80 (lN aJ bI a4 a0 aL aW jv op di C O J),k6 C O J]:=
 (mT S i7 jd jc _ _ _ _ _ _ di R id o H n _ _ _ _ _ _ _ _ _ _ _ _ _ _ _ _ _ _ U y A Q c).mono λv E ⟨am,W,aq,Z,h1,ae,an,ap⟩=>⟨am,W,aq,Z,ap⟩
variable(c bn bc:Nat)(o:Int)(bH:a3)(mu seen:Int)(z:Bool)(iy:Int)(ai:Int)(r:Nat->Int)(t b:Int)(id:Int)
def afl:aY 92 #[I S,j id,I c] [ah S 80 (lN aJ bI a4 a0 aL aW jv op di i7 jd jc),cb aL,ah c 108 (lZ bn bc o bH mu seen z iy),dX bn ai r t b] (.tuple #[]) [ah S 80 (lN aJ bI a4 a0 aL aW jv op di i7 jd jc),cb aL,ah c 108 (lZ bn bc o bH mu seen z iy),dX bn ai r t b]:=by
 have E:=afi (q:=aL) id;refine aD ?_;refine a9 (O.pick aN (Ei bn ai r t b _)) ?_;refine c0 p (λC=>?_) (λC=>?_)
 .apply ak _;apply aP (b3 E) _;rintro _ _ ⟨_,⟨⟨H,rfl⟩,rfl⟩,rfl⟩;apply ak _;exact er (C:=[ah S 80 (lN aJ bI a4 a0 aL aW jv op di i7 jd jc),cb aL,ah c 108 (lZ bn bc o bH mu seen z iy),dX bn ai r t b]) p .nil au bD
 .exact bs (er (D:=[]) (j:=[]) (C:=[ah S 80 (lN aJ bI a4 a0 aL aW jv op di i7 jd jc),cb aL,ah c 108 (lZ bn bc o bH mu seen z iy),dX bn ai r t b]) p .nil au bD)
def ah8(C J y n A H E):Y 204 #[I S,j id,I c,p7 C J y n A H E] [ah S 80 (lN aJ bI a4 a0 aL aW jv op di i7 jd jc),k6 i7 jd jc,cb aL,ah c 108 (lZ bn bc o bH mu seen z iy),dX bn ai r t b]
  λv ar=>oT v/\∃O R Q W Z ap,ar=[ah S 80 (lN aJ bI a4 a0 aL aW jv op di O R Q),k6 O R Q,cb aL,ah c 108 (lZ bn bc o af mu seen z iy),dX bn W Z ap b]:=by
 have az:=agc bn ai r t b;have aA:=SM (q:=aL) id;have U:=Dy S aJ bI a4 a0 aL aW jv op di;refine aD ?_;refine bd λaF=>?_;apply bP λaG=>?_;apply aP (b3 az) _;rintro _ _ ⟨_,⟨⟨am,aI,rfl⟩,W,Z,ap,rfl⟩,rfl⟩;apply ak _;apply bg λaE=>?_;apply qb (b3 (U i7 jd jc am 2 id o C J y n A H E)) _;rintro _ _ ⟨_,⟨rfl,aq,ax,av,rfl⟩,rfl⟩;apply ak _;apply qb (b3 (U aq ax av am 3 id o C J y n A H E)) _;rintro _ _ ⟨_,⟨rfl,aB,aO,aM,rfl⟩,rfl⟩;apply aC _;apply aP (b3 aA) _;rintro _ _ ⟨_,⟨⟨aK,rfl⟩,rfl⟩,rfl⟩;apply eX _;exact⟨_,⟨⟨_,_,_,_,_,_,_,_,_,rfl⟩,_,_,_,_,_,_,rfl⟩,au⟩
end
end
def kp:Option Nat->Option cg
 |none=>af
 |some b=>(U b)
structure v2 where
 jv:Int
 op:Int
 di:Int
 i7:Option cg
 jd:Nat
 jc:Nat
@[reducible] def vb (S C:Nat) (j:a3) (H E I:Nat) (J:Option Nat) (y:v2):List aG:=[ah S 80 (lN C j H E I (kp J) y.jv y.op y.di y.i7 y.jd y.jc),k6 y.i7 y.jd y.jc]
def cn(S E:Nat)(j:a3)(I H J:Nat)(O:Option Nat):aG:=λh=>∃y:v2,C (vb S E j I H J O y) h
structure yq where
 o:Int
 mu:Int
 seen:Int
 z:Bool
 iy:Int
 ai:Int
 r:Nat->Int
 t:Int
@[reducible] def y6 (c j bc:Nat) (b:Int) (C:Option Nat) (y:yq):List aG:=[ah c 108 (lZ j bc y.o (kp C) y.mu y.seen y.z y.iy),dX j y.ai y.r y.t b]
def c4(c E bc:Nat)(b:Int)(j:Option Nat):aG:=λh=>∃y:yq,C (y6 c E bc b j y) h
section
variable{S aJ:Nat}{bI:a3}{a4 a0 aL:Nat}{aW:Option Nat}{c bn bc:Nat}{b:Int}{bH:Option Nat}
def O.li{C args j E}(R:∀y:v2,Y C args (vb S aJ bI a4 a0 aL aW y++j) E):Y C args (cn S aJ bI a4 a0 aL aW::j) E:=
 O.open (E:=vb S aJ bI a4 a0 aL aW) (D:=λ_=>True) (λh ⟨y,q⟩=>⟨y,trivial,q⟩) λy _=>R y
theorem O.cl{C args j E}(R:∀y:yq,Y C args (y6 c bn bc b bH y++j) E):Y C args (c4 c bn bc b bH::j) E:=
 O.open (E:=y6 c bn bc b bH) (D:=λ_=>True) (λh ⟨y,q⟩=>⟨y,trivial,q⟩) λy _=>R y
def k5{I M:Q}{J O R j H E}{A:a3}(U:kp aW=A)(W:aS I (ah S 80 (lN aJ bI a4 a0 aL A J O R j H E)::k6 j H E::M)):aS I (cn S aJ bI a4 a0 aL aW::M):=by
 subst U;exact λh q=>C.fold (N:=vb S aJ bI a4 a0 aL aW ⟨J,O,R,j,H,E⟩) (λh q=>⟨_,q⟩) (W h q)
def lC{j M:Q}{o J seen O E ai H I}{A:a3}(R:kp bH=A)(U:aS j (ah c 108 (lZ bn bc o A J seen O E)::dX bn ai H I b::M)):aS j (c4 c bn bc b bH::M):=by
 subst R;exact λh q=>C.fold (N:=y6 c bn bc b bH ⟨o,J,seen,O,E,ai,H,I⟩) (λh q=>⟨_,q⟩) (U h q)
theorem O.hB{I args C}{H:a2->Prop}{M:Q}{E:List aG->Prop}(R:Y I args C λv j=>H v/\E j)(h:∀j,E j->aS j M):Y I args C λv j=>H v/\j=M:=
 R.cr λv j J ⟨a,q⟩ s=>⟨M,⟨a,rfl⟩,h j q J s⟩
def JW(id J U y n A R Q):Y 204 #[I S,j id,I c,p7 J U y n A R Q] [cn S aJ bI a4 a0 aL aW,cb aL,c4 c bn bc b bH] λv H=>oT v/\H=[cn S aJ bI a4 a0 aL aW,cb aL,c4 c bn bc b af]:=by
 apply O.li λs=>?_;refine O.pre (λh q=>C.perm (ep (l₁:=vb S aJ bI a4 a0 aL aW s++[cb aL])) q) (O.cl λE=>?_);refine O.hB (O.pre (λh q=>?_) (ah8 S aJ bI a4 a0 aL (kp aW) s.jv s.op s.di s.i7 s.jd s.jc c bn bc E.o (kp bH) E.mu E.seen E.z E.iy E.ai E.r E.t b id J U y n A R Q)) λH ⟨Z,am,ah,ap,aq,ar,W⟩ h q=>?_
 .exact C.perm ((ep)) q
 .subst W;exact k5 rfl (λh q=>C.bl (λh q=>C.bl (λh q=>C.bl (λh q=>lC rfl cT h q) q) q) q) h q
def S8(id):aY 92 #[I S,j id,I c] [cn S aJ bI a4 a0 aL aW,cb aL,c4 c bn bc b bH] (.tuple #[]) [cn S aJ bI a4 a0 aL aW,cb aL,c4 c bn bc b bH]:=by
 apply O.li λs=>?_;refine O.pre (λh q=>C.perm (ep (l₁:=vb S aJ bI a4 a0 aL aW s++[cb aL])) q) (O.cl λE=>?_);refine O.hB (O.frame [k6 s.i7 s.jd s.jc] (afl S aJ bI a4 a0 aL (kp aW) s.jv s.op s.di s.i7 s.jd s.jc c bn bc E.o (kp bH) E.mu E.seen E.z E.iy E.ai E.r E.t b id) (λh q=>?_)|>.mono λv J ⟨R,⟨a,Q⟩,H⟩=>(⟨a,Q▸H⟩: _/\J= _)) λJ H h q=>?_
 .exact C.perm (by
   exact(ep).trans (List.Perm.swap ..)) q
 .subst H;exact k5 rfl (λh q=>C.bl (λh q=>C.bl (λh q=>C.bl (λh q=>lC rfl cT h q) q) q) q) h (C.swap q)
def Fm{j g n C H}{E:Q}(h:∀y:v2,G ar j g n C H (ah S 80 (lN aJ bI a4 a0 aL (kp aW) y.jv y.op y.di y.i7 y.jd y.jc)::k6 y.i7 y.jd y.jc::E)):G ar j g n C H (cn S aJ bI a4 a0 aL aW::E):=
 qm (ι:=v2) (D:=vb S aJ bI a4 a0 aL aW) (F:=λ_=>True) (λh ⟨y,q⟩=>⟨y,trivial,q⟩) λy _=>h y
def VI{j g n C H}{E:Q}(h:∀y:yq,G ar j g n C H (ah c 108 (lZ bn bc y.o (kp bH) y.mu y.seen y.z y.iy)::dX bn y.ai y.r y.t b::E)):G ar j g n C H (c4 c bn bc b bH::E):=
 qm (ι:=yq) (D:=y6 c bn bc b bH) (F:=λ_=>True) (λh ⟨y,q⟩=>⟨y,trivial,q⟩) λy _=>h y
end
namespace aV
def te(n b:Nat):Option Nat:=ax (eY b n) (ab b) af
def adf{n b j}(h:te n b=ab j):b=j/\b<n:=by
 unfold te at h;cases C:eY b n<;>rw[C]at h
 .cases h
 .cases h;simp_all
variable{Ω Ω':dO}{s:Nat}{oI yo L0:List dn}{τ H:Nat->Option Nat}
def BF{E:bb Ω}(J:hW (λo=>oq o (te (aa oI)) τ H) oI=ab L0)(av:∀Z ah,τ Z=ab ah->Ω'.int ah=Ω.int Z)(ar:∀W Y,H W=ab Y->∀Q c I,Ω.d5 W Q c I->Ω'.d5 Y Q c I)(aI:∃c,E 0=ab (s,c))(h1:0<aa oI):
  aS (cz E (fS (oI++yo))) (gw Ω' L0 s::(vB (aa oI) (aa yo)).map (dg E (fS (oI++yo)))):=λI q=>by
 let⟨ax,az⟩:=H2 J;have ap:gZ (fS (oI++yo)).n=gZ (aa oI)++vB (aa oI) (aa yo):=by
  rw[qK,b4,Ly,Ly,<- List.range'_append_1];simp
 have q:C ((gZ _).map _) I:=q;rw[ap,List.map_append]at q;apply C.fold (λh aB=>?_) q;refine⟨λj=>if j<aa oI then E j else af,λj U=>a8 ad,?_,?_⟩
 .simp_all
 .show C ((gZ _).map _) h;rw[qK,ax];apply Az _ (λj U h a=>?_) h aB;have O:=kU.1 U;let⟨aA,aD,aE⟩:=az j oI[j] ao;unfold dg at a ⊢;rw[pZ,aD];rw[pZ,List.getElem?_append_left O,List.getElem?_eq_getElem O]at a;have R:=a;show(match(if j<aa oI then E j else af)with|none=>(λ_=>False:aG)|some am=>fk _ aA _ _) h;rw[bJ O];cases aq:E j with
  |none=>simp_all
  |some am=>
   rw[aq]at R;exact fk.mp (λb aF J am aJ=>by
    obtain⟨rfl,ae⟩:=adf J;simp_all) av ar aE R
def Ee{R E ah}(am){J:dc}{av}{aq:bz}{ax W ap G}(aD:am=kv ah J av R)(h:f7 am ax W ap E=ag)(aA:∃U,W=0::U)
  (aB:mB Ω ar ah) (aE:∀j:bb Ω,bK j av aq) (pre:∀h,G h->gw Ω R s h):
  Y J (.pointer (ab ⟨s,0,af⟩)::aq).toArray [G] λv I=>∃j:bb (Ω.fF ax),bY j ap v/\(∃c,j 0=ab (s,c))/\I=cz j (fS E):=by
 subst aD;obtain⟨U,rfl⟩:=aA;apply O.open (E:=λC:bb Ω=>cz C (fS R)) (D:=λC=>(∀Z,aa R<=Z->C Z=af)/\∃c,C 0=ab (s,c)) (λh q=>?_) λj ⟨az,c,Q⟩=>?_
 .let⟨j,aF,aM,aQ⟩:=pre h q;grind
 .rw[dC];exact O.cr (Ec y1 xk aB h az (.cons (.ai Q) (aE j))) λv I aO ⟨aL,aG,aP,aI,aJ⟩ aK=>⟨_,⟨aL,aI,⟨c,aG 0 0 p _ Q⟩,rfl⟩,aJ _ aK⟩
structure cU (D:Nat) (j:bM) (C:ej) (m n:Nat) (Ω:dO):Prop where
 g0:Ω.d5 0=ig D j.P j.S
 g1:Ω.d5 1=mb D j.P m C.gA
 g2:Ω.d5 2=kK D j.P m C.K
 g3:Ω.d5 3=mi D j.P C.gC
 g4:Ω.d5 4=ma D j.S C.it
 g5:Ω.d5 5=mo D j.S m C.fJ
 wY:Ω.d5 10=ig D j.hm j.hn
 h1:Ω.d5 11=mb D j.hm n C.gA
 ae:Ω.d5 12=kK D j.hm n C.K
 an:Ω.d5 13=mi D j.hm C.gC
 zz:Ω.d5 14=ma D j.hn C.it
 CU:Ω.d5 15=mo D j.hn n C.fJ
 v:Ω.int 34=j.v
 zD:Ω.int 41=j.ai.id
 i2:Ω.int 42=j.ai.x
 i3:Ω.int 43=j.ai.y
def dz(j:bM):List dn:=if j.k=0 then dj else cF j.k j.dD
theorem O.up{P J args G I C}{aK:a2->Prop}(R:O P J args [G] λv j=>aK v/\j=[I])(h:∀E,I E->C E):O P J args [G] λv j=>aK v/\j=[C]:=
 R.cr λv j E ⟨a,b⟩ s=>⟨[C],⟨a,rfl⟩,d8 h (b▸s)⟩
variable{n B c:Nat}{eA:List aj}{K:Q}{h:j5}
def zI(j:P.Perm eA)(C:m<=n):mb D P m bB B c h->mb D eA n bB B c h:=λ⟨E,⟨a,l⟩,I⟩=>⟨E,⟨a.trans j,hj l C⟩,I⟩
def zO(j:P.Perm eA)(C:m<=n):kK D P m K B c h->kK D eA n K B c h:=λ⟨E,⟨a,l⟩,I⟩=>⟨E,⟨a.up (bC _) C,l.trans j⟩,I⟩
def Sv(j:P.Perm eA):mi D P bB B c h->mi D eA bB B c h:=λ⟨C,a,E⟩=>⟨C,a.trans j,E⟩
def Qc(j:P.Perm eA):ma D P bB B c h->ma D eA bB B c h:=λ⟨C,a,E⟩=>⟨C,a.trans j,E⟩
def AD(j:P.Perm eA)(C:m<=n):mo D P m bB B c h->mo D eA n bB B c h:=λ⟨E,⟨a,l⟩,I⟩=>⟨E,⟨a.trans j,hj l C⟩,I⟩
section
variable{x:bM}{W:ej}
theorem bM.Bz(j:x.k=1):x.hm=gN x.P x.ai/\x.hn=x.S/\x.c=⟨1,x.ai,f2⟩:=by simp[bM.hm,bM.hn,bM.c,k2,j,mM,mN]
theorem bM.BA(j:x.k=2):x.hm=hT x.P x.ai.id/\x.hn=x.S/\x.c=⟨2,x.ai,f2⟩:=by simp[bM.hm,bM.hn,bM.c,k2,j,mM,mN]
theorem bM.m8(j:x.k=3):x.hn=gN x.S x.ai/\x.hm=x.P/\x.c=⟨3,f2,x.ai⟩:=by simp[bM.hm,bM.hn,bM.c,k2,j,mM,mN]
theorem bM.BB(j:x.k=4):x.hn=hT x.S x.ai.id/\x.hm=x.P/\x.c=⟨4,f2,x.ai⟩:=by simp[bM.hm,bM.hn,bM.c,k2,j,mM,mN]
def UW{j:bb Ω}:bK j fZ [.int .i64 0,.int .i64 0,.int .i64 0]:=.cons .i (.cons .i (.cons .i .nil))
def cU.kt{n}(j:cU D x W m n Ω)(C:bb Ω):bK C (jT 41) [x.ai.v]:=xV j.zD j.i2 j.i3
def cU.N7{n}(C:cU D x W m n Ω)(h1:1<=x.k)(zz:x.k<=4)(E:bb Ω):bK E (wu x.k) [x.c.v]:=by
 have j:x.k=1\/x.k=2\/x.k=3\/x.k=4:=ad;rcases j with j|j|j|j
 .rw[(bM.Bz j).2.2,j];exact .cons (.cp (.cons .i (.cons (he C.zD) (.cons (he C.i2) (.cons (he C.i3) UW))))) .nil
 .rw[(bM.BA j).2.2,j];exact .cons (.cp (.cons .i (.cons (he C.zD) (.cons (he C.i2) (.cons (he C.i3) UW))))) .nil
 .rw[(bM.m8 j).2.2,j];exact .cons (.cp (.cons .i (.cons .i (.cons .i (.cons .i (.cons (he C.zD) (.cons (he C.i2) (.cons (he C.i3) .nil)))))))) .nil
 .rw[(bM.BB j).2.2,j];exact .cons (.cp (.cons .i (.cons .i (.cons .i (.cons .i (.cons (he C.zD) (.cons (he C.i2) (.cons (he C.i3) .nil)))))))) .nil
def H9{α:Type}{ai:α->Prop}{a b c j}(C:ai a)(E:ai b)(I:ai c)(J:ai j):∀x∈ [a,b,c,j],ai x:=λx O=>by
 grind
def Dp{α:Type}{ai:α->Prop}{a b c}(j:ai a)(C:ai b)(E:ai c):∀x∈ [a,b,c],ai x:=λx I=>by
 grind
def p0{α:Type}{ai:α->Prop}{a b}(j:ai a)(C:ai b):∀x∈ [a,b],ai x:=λx E=>by
 grind
def R0(Z:x.ok D)(h1:1<=x.k)(av:m<=40000)(j:cU D x W m (m+1) Ω):mB Ω ar (RZ x.k):=by
 let⟨J,ax,az⟩:=Z;obtain⟨_,Y,_,ap,ah,am⟩:1<=x.k/\x.k<=4/\x.dD< (if x.k<=2 then 4 else 3)/\nS D x.P x.S x.k x.ai:=by
  grind
 have aq:=J.h8;have E:=j.N7 h1 Y;have C:x.k=1\/x.k=2\/x.k=3\/x.k=4:=ad;have I:ex _ _ D x.c=0:=ap;rcases C with C|C|C|C
 .let⟨aF,aM,O⟩:=bM.Bz C;rw[C]at E ⊢;rw[O]at E I;let⟨a,b,U⟩:=Dn I;apply jY (H9 (a:=(268,gB 2 0 10 (wu 1) wz)) (b:=(447,gB 3 1 11 (jT 41) eW)) (c:=(450,gB 4 2 12 (jT 41) eW)) (j:=(453,gB 5 3 13 (jT 41) eW)) _ _ _ _)
  .exact dK.di j.g0 (j.wY.trans bo) E DZ λB c=>ahW (c:=⟨1,x.ai,f2⟩) I ad B c p
  .exact dK.di j.g1 (j.h1.trans bv) j.kt iH λB c=>Qr a (uJ b) ad ad ad B c
  .exact dK.di j.g2 (j.ae.trans bv) j.kt iH λB c=>QF a (uJ b) ad ad ad B c
  .exact dK.di j.g3 (j.an.trans bv) j.kt iH λB c=>Sw a (uJ b) ad ad B c
 .let⟨aF,aM,O⟩:=bM.BA C;rw[C]at E ⊢;rw[O]at E I;have b:=ah C;apply jY (H9 (a:=(268,gB 2 0 10 (wu 2) wz)) (b:=(448,gB 3 1 11 (jT 41) eW)) (c:=(451,gB 4 2 12 (jT 41) eW)) (j:=(454,gB 5 3 13 (jT 41) eW)) _ _ _ _)
  .exact dK.di j.g0 (j.wY.trans bo) E DZ λB c=>ahX (c:=⟨2,x.ai,f2⟩) I ad B c J.ip p
  .exact dK.di j.g1 (j.h1.trans bv) j.kt iH λB c=>Qq J.ip b ad ad B c
  .exact dK.di j.g2 (j.ae.trans bv) j.kt iH λB c=>QE J.ip b ad ad B c
  .exact dK.di j.g3 (j.an.trans bv) j.kt iH λB c=>Su J.ip b ad B c
 .let⟨aF,aM,O⟩:=bM.m8 C;rw[C]at E ⊢;rw[O]at E I;let⟨a,R,b,U⟩:=Do I;apply jY (Dp (a:=(268,gB 2 0 10 (wu 3) wz)) (b:=(456,gB 6 4 14 (jT 41) eW)) (c:=(459,gB 7 5 15 (jT 41) eW)) _ _ _)
  .exact dK.di j.g0 (j.wY.trans bo) E DZ λB c=>ahY (c:=⟨3,f2,x.ai⟩) I ad B c p
  .exact dK.di j.g4 (j.zz.trans bv) j.kt iH λB c=>Qd a R (uJ b) ad ad B c
  .exact dK.di j.g5 (j.CU.trans bv) j.kt iH λB c=>TO a R (uJ b) ad ad ad B c
 .let⟨aF,aM,O⟩:=bM.BB C;rw[C]at E ⊢;rw[O]at E I;have b:=am C;apply jY (Dp (a:=(268,gB 2 0 10 (wu 4) wz)) (b:=(457,gB 6 4 14 (jT 41) eW)) (c:=(460,gB 7 5 15 (jT 41) eW)) _ _ _)
  .exact dK.di j.g0 (j.wY.trans bo) E DZ λB c=>ahZ (c:=⟨4,f2,x.ai⟩) I ad B c J.is p
  .exact dK.di j.g4 (j.zz.trans bv) j.kt iH λB c=>Qb J.is b ad B c
  .exact dK.di j.g5 (j.CU.trans bv) j.kt iH λB c=>TN J.is b ad ad B c
def aea(ap:x.ok D)(h1:1<=x.k)(aB:m<=40000)(j:cU D x W (m+1) m Ω):mB Ω ar (R1 x.k):=by
 let⟨I,aD,aE⟩:=ap;obtain⟨_,az,_,ax,aq,av⟩:1<=x.k/\x.k<=4/\x.dD< (if x.k<=2 then 4 else 3)/\nS D x.P x.S x.k x.ai:=by
  grind
 have aA:=I.h8;have C:x.k=1\/x.k=2\/x.k=3\/x.k=4:=ad;have Y:ex _ _ D x.c=0:=ax;rcases C with C|C|C|C
 .let⟨aF,aM,U⟩:=bM.Bz C;rw[C];rw[U]at Y;let⟨a,b,am⟩:=Dn Y;have ah:=v8 x.P x.ai;have E:=Od I.ip b;have J:=zF I.ip b;apply jY (Dp (c:=(454,gB 5 13 3 (jT 41) eW)) _ _ _)
  .exact dK.di (j.h1.trans bv) j.g1 j.kt iH λB c=>O.up (Qq (m:=m) (D:=D) J zU ad ad B c) λh=>zI E (bC _)
  .exact dK.di (j.ae.trans bv) j.g2 j.kt iH λB c=>O.up (QE (m:=m) (D:=D) J zU ad ad B c) λh=>zO E (bC _)
  .exact dK.di (j.an.trans bv) j.g3 j.kt iH λB c=>O.up (Su (D:=D) J zU ad B c) λh=>Sv E
 .let⟨aF,aM,U⟩:=bM.BA C;rw[C];have b:=aq C;have ah:=Ci I.ip b;have E:=MM I.ip b;have R:=uJ (PI I.ip b);have a:=I.zy _ b;apply jY (Dp (a:=(447,gB 3 11 1 (jT 41) eW)) (b:=(450,gB 4 12 2 (jT 41) eW)) (c:=(453,gB 5 13 3 (jT 41) eW)) _ _ _)
  .exact dK.di (j.h1.trans bv) j.g1 j.kt iH λB c=>O.up (Qr (m:=m) (D:=D) a R ad ad ad B c) λh=>zI E (bC _)
  .exact dK.di (j.ae.trans bv) j.g2 j.kt iH λB c=>O.up (QF (m:=m) (D:=D) a R ad ad ad B c) λh=>zO E (bC _)
  .exact dK.di (j.an.trans bv) j.g3 j.kt iH λB c=>O.up (Sw (D:=D) a R ad ad B c) λh=>Sv E
 .let⟨aF,aM,U⟩:=bM.m8 C;rw[C];rw[U]at Y;let⟨a,Z,b,am⟩:=Do Y;have ah:=v8 x.S x.ai;have E:=Od I.is b;have J:=zF I.is b;apply jY (p0 (a:=(457,gB 6 14 4 (jT 41) eW)) (b:=(460,gB 7 15 5 (jT 41) eW)) _ _)
  .exact dK.di (j.zz.trans bv) j.g4 j.kt iH λB c=>O.up (Qb (D:=D) J zU ad B c) λh=>Qc E
  .exact dK.di (j.CU.trans bv) j.g5 j.kt iH λB c=>O.up (TN (m:=m) (D:=D) J zU ad ad B c) λh=>AD E (bC _)
 .let⟨aF,aM,U⟩:=bM.BB C;rw[C];have b:=av C;have ah:=Ci I.is b;have E:=MM I.is b;have R:=uJ (PI I.is b);let⟨a,Z⟩:=I.gs _ b;apply jY (p0 (a:=(456,gB 6 14 4 (jT 41) eW)) (b:=(459,gB 7 15 5 (jT 41) eW)) _ _)
  .exact dK.di (j.zz.trans bv) j.g4 j.kt iH λB c=>O.up (Qd (D:=D) a Z R ad ad B c) λh=>Qc E
  .exact dK.di (j.CU.trans bv) j.g5 j.kt iH λB c=>O.up (TO (m:=m) (D:=D) a Z R ad ad ad B c) λh=>AD E (bC _)
end
def uz(C:bM)(c:bZ)(j:Nat):Int:=if j=34 then C.v else if j=41 then C.ai.id else if j=42 then C.ai.x else if j=43 then C.ai.y else if j=1 then c.ai.id else if j=2 then c.ai.x else if j=3 then c.ai.y else if j=4 then c.s.id else if j=5 then c.s.x else if j=6 then c.s.y else c.k
def eP(D:Nat)(j:bM)(E:ej)(m n C:Nat):Nat->Nat->aG:=if C=0 then ig D j.P j.S else if C=1 then mb D j.P m E.gA else if C=2 then kK D j.P m E.K else if C=3 then mi D j.P E.gC else if C=4 then ma D j.S E.it else if C=5 then mo D j.S m E.fJ
 else if C=10 then ig D j.hm j.hn else if C=11 then mb D j.hm n E.gA else if C=12 then kK D j.hm n E.K else if C=13 then mi D j.hm E.gC else if C=14 then ma D j.hn E.it else mo D j.hn n E.fJ
def ic(D:Nat)(j:bM)(C:ej)(m n:Nat)(c:bZ):dO:=⟨uz j c,eP D j C m n⟩
def bA(D:Nat)(j:bM)(C:ej)(m s:Nat):aG:=gw (ic D j C m m hz) (dz j) s
def oj(j:Nat):Option Nat:=ax (aH j 34) (ab j) (ax (da 41 j) (ax (da j 43) (ab j) af) af)
def p2(j:Nat):Option Nat:=ax (da j 5) (ab j) (ax (da 10 j) (ax (da j 15) (ab j) af) af)
def tj(j:Nat):Option Nat:=ax (aH j 34) (ab j) af
def xp(j:Nat):Option Nat:=ax (da j 5) (ab j) af
def xt{j C}(h:oj j=ab C):j=C/\(j=34\/j=41\/j=42\/j=43):=by
 unfold oj at h;cases E:aH j 34<;>rw[E]at h
 .cases h1:da 41 j<;>rw[h1]at h
  .cases h
  .cases ae:da j 43<;>rw[ae]at h
   .cases h
   .cases h;have:=fq h1;have:=fq ae;omega
 .cases h;simp_all
def xr{j C}(h:p2 j=ab C):j=C/\(j<=5\/(10<=j/\j<=15)):=by
 unfold p2 at h;cases E:da j 5<;>rw[E]at h
 .cases h1:da 10 j<;>rw[h1]at h
  .cases h
  .cases ae:da j 15<;>rw[ae]at h
   .cases h
   .cases h;simp_all
 .cases h;simp_all
def tk{j C}(h:tj j=ab C):j=C/\j=34:=by
 unfold tj at h;cases E:aH j 34<;>rw[E]at h
 .cases h
 .cases h;simp_all
def xq{j C}(h:xp j=ab C):j=C/\j<=5:=by
 unfold xp at h;cases E:da j 5<;>rw[E]at h
 .cases h
 .cases h;simp_all
def aiG:iK.map (λj=>ny oj p2 (cF j.1 j.2))=iK.map λj=>ab (cF j.1 j.2):=cq
def UE:∀j∈iK,ny oj p2 (cF j.1 j.2)=ab (cF j.1 j.2):=nM.1 aiG
def Hc:ny tj xp dj=ab dj:=by rfl
def rQ{C j}(h1:1<=C)(I:C<=4)(J:j< (if C<=2 then 4 else 3)):(C,j)∈iK:=by
 have E:C=1\/C=2\/C=3\/C=4:=ad;rcases E with rfl|rfl|rfl|rfl
 .have:j=0\/j=1\/j=2\/j=3:=bv;rcases this with rfl|rfl|rfl|rfl<;>simp[iK]
 .have:j=0\/j=1\/j=2\/j=3:=bv;rcases this with rfl|rfl|rfl|rfl<;>simp[iK]
 .have:j=0\/j=1\/j=2:=bv;rcases this with rfl|rfl|rfl<;>simp[iK]
 .have:j=0\/j=1\/j=2:=bv;rcases this with rfl|rfl|rfl<;>simp[iK]
section
variable{mc rS:Nat}{x y:bM}{W:ej}{c d:bZ}
def cU.DD:cU D x W m n (ic D x W m n c):=⟨rfl,rfl,rfl,rfl,rfl,rfl,rfl,rfl,rfl,rfl,rfl,rfl,rfl,rfl,rfl,rfl⟩
def aaF(Z:m<=mc)(ah:n<=rS)(j):∀B c h,eP D x W m n j B c h->eP D x W mc rS j B c h:=λB c h=>by
 by_cases R:j=0;·subst R;exact id
 by_cases h1:j=1;·subst h1;exact zI (c:=c) (.refl _) Z
 by_cases ae:j=2;·subst ae;exact zO (c:=c) (.refl _) Z
 by_cases an:j=3;·subst an;exact id
 by_cases U:j=4;·subst U;exact id
 by_cases Y:j=5;·subst Y;exact AD (c:=c) (.refl _) Z
 by_cases C:j=10;·subst C;exact id
 by_cases E:j=11;·subst E;exact zI (c:=c) (.refl _) ah
 by_cases I:j=12;·subst I;exact zO (c:=c) (.refl _) ah
 by_cases J:j=13;·subst J;exact id
 by_cases O:j=14;·subst O;exact id
 unfold eP;rw[a8 R,a8 h1,a8 ae,a8 an,a8 U,a8 Y,a8 C,a8 E,a8 I,a8 J,a8 O,a8 R,a8 h1,a8 ae,a8 an,a8 U,a8 Y,a8 C,a8 E,a8 I,a8 J,a8 O];exact AD (.refl _) ah
def NM(ah:x.ok D)(O:∀C,C=34\/C=41\/C=42\/C=43->Ω.int C=uz x c C)(g:∀E,E<=5\/(10<=E/\E<=15)->∀B c h,Ω.d5 E B c h->eP D x W mc rS E B c h):∀j,gw Ω (dz x) s j->gw (ic D x W mc rS c) (dz x) s j:=by
 have J:∀R,ny oj p2 R=ab R->∀j,gw Ω R s j->gw (ic D x W mc rS c) R s j:=λR Y j=>qr Y (λC ap h=>by
  obtain⟨rfl,ae⟩:=xt h;exact(O C ae).symm) (λE am h B c j q=>by
  obtain⟨rfl,ae⟩:=xr h;exact g E ae B c j q) j
 by_cases I:x.k=0
 .rw[dz,bJ I];exact J _ bN
 .obtain⟨h1,U,Z,_⟩:1<=x.k/\x.k<=4/\x.dD< (if x.k<=2 then 4 else 3)/\nS D _ _ _ _:=by
   rcases ah.u with u|u
   .omega
   omega
  rw[dz,a8 I];exact J _ (UE _ (rQ h1 U Z))
def mK(E:x.ok D)(j:m<=mc)(C:n<=rS):∀h,gw (ic D x W m n c) (dz x) s h->gw (ic D x W mc rS d) (dz x) s h:=
 NM E (λJ h=>by rcases h with rfl|rfl|rfl|rfl<;>rfl) λI _=>aaF j C I
def Hd(E:Ω.int 34=x.v)(g:∀C,C<=5->∀B c h,Ω.d5 C B c h->eP D x W mc rS C B c h):∀j,gw Ω dj s j->gw (ic D x W mc rS c) dj s j:=λj=>
 qr Hc (λJ O h=>by
  obtain⟨rfl,rfl⟩:=tk h;exact E.symm) (λC I h B c j q=>by
  obtain⟨rfl,ae⟩:=xq h;exact g C ae B c j q) j
end
end aV
def bM.n7(j:bM):bM:=if j.k=0 then j else if j.dD+1=(if j.k<=2 then 4 else 3)then⟨j.hm,j.hn,IntKind.i64.wrap (j.v+1),0,0,j.ai⟩else⟨j.P,j.S,j.v,j.k,j.dD+1,j.ai⟩
def bM.qy(j:bM):bM:=if j.k=0 then j else if j.dD<=1 then⟨j.P,j.S,j.v,0,0,j.ai⟩else⟨j.P,j.S,j.v,j.k,j.dD-1,j.ai⟩
variable{x:bM}
theorem bM.ok.un(h:x.ok D)(j:x.k≠0):1<=x.k/\x.k<=4/\x.dD< (if x.k<=2 then 4 else 3)/\nS D x.P x.S x.k x.ai:=by grind[u]
theorem bM.ok.n7(h:x.ok D):x.n7.ok D:=by
 unfold bM.n7
 by_cases j:x.k=0
 .simp_all
 .let⟨h1,C,H,E⟩:=h.un j;rw[a8 j]
  by_cases ae:x.dD+1=(if x.k<=2 then 4 else 3)
  .rw[bJ ae];exact⟨h.i.idle E h1 C,h.le,.inl p⟩
  .rw[a8 ae];exact⟨h.i,h.le,.inr ⟨h1,C,by grind,E⟩⟩
theorem bM.ok.qy(h:x.ok D):x.qy.ok D:=by
 unfold bM.qy
 by_cases j:x.k=0
 .simp_all
 .let⟨h1,C,H,E⟩:=h.un j;rw[a8 j]
  by_cases ae:x.dD<=1
  .rw[bJ ae];exact⟨h.i,h.le,.inl p⟩
  .rw[a8 ae];exact⟨h.i,h.le,.inr ⟨h1,C,by grind,E⟩⟩
namespace aV
def oX{Ω R H s G I U}(j){J:dc}{ah}{Z:bz}{C Q W}{aK:a2->Prop}(ax:j=kv U J ah R)(h:f7 j C Q W H=ag)(aq:∃aA,Q=0::aA)
  (av:mB Ω ar U) (az:∀E:bb Ω,bK E ah Z) (ap:∀(E:bb (Ω.fF C)) j,bY E W j->aK j) (pre:∀h,G h->gw Ω R s h) (aB:∀h,gw (Ω.fF C) H s h->I h):
  Y J (.pointer (ab ⟨s,0,af⟩)::Z).toArray [G] λv am=>aK v/\am=[I]:=
 O.up (O.pre (M:=[gw Ω R s]) (λh q=>d8 pre q) (WX (n:=100) j av ax h aq az ap)) aB
section
variable{s:Nat}{W:ej}
def uL{Ω:dO}:mB Ω ar (λ_=>af):=λC F j=>by grind
def Q0{l:List (Nat×Nat)}{j C}(h:l.lookup j=ab C):(j,C)∈l:=by
 induction l with
 |nil=>grind
 |cons x l E=>
  grind
def agG:List (Nat×Nat):=[(10,0),(11,1),(12,2),(13,3),(4,4),(5,5)]
def agH:List (Nat×Nat):=[(10,0),(1,1),(2,2),(3,3),(14,4),(15,5)]
def Zu: [1,2].map (λC=>ny tj (λj=>agG.lookup j) (iQ .hc (Cw C)))=[1,2].map λ_=>ab dj:=by rfl
def Zv: [3,4].map (λC=>ny tj (λj=>agH.lookup j) (iQ .hc (Cw C)))=[3,4].map λ_=>ab dj:=by rfl
def Rc{α:Type}{ai:α->Prop}{a b c j C E}(H:ai a)(I:ai b)(J:ai c)(O:ai j)(Q:ai C)(R:ai E):∀x∈ [a,b,c,j,C,E],ai x:=λx U=>by
 grind
theorem ends{E}{Ω:dO}(h1:1<=x.k)(Z:x.k<=4)(O:Ω.int 34=IntKind.i64.wrap (x.v+1))(J:Ω.d5=eP D x W m E)(I:m<=E):∀j,gw Ω (iQ .hc (Cw x.k)) s j->bA D ⟨x.hm,x.hn,IntKind.i64.wrap (x.v+1),0,0,x.ai⟩ W E s j:=by
 have ah:x.k=1\/x.k=2\/x.k=3\/x.k=4:=ad;unfold bA dz;rw[bJ p]
 by_cases ae:x.k<=2
 .apply qr (nM.1 Zu _ bv) (λU Y h=>?_) λQ R h C c j q=>?_
  .obtain⟨rfl,rfl⟩:=tk h;exact O.symm
  .rw[J]at q;have H:x.hn=x.S:=by
    have:x.k=1\/x.k=2:=ad;rcases this with e|e
    .exact(bM.Bz e).2.1
    .exact(bM.BA e).2.1
   apply Rc (ai:=λai=>∀C c j,eP D x W m E ai.1 C c j->eP D ⟨x.hm,x.hn,IntKind.i64.wrap _,0,0,x.ai⟩ W E E ai.2 C c j) (λ_ _ _=>id) (λ_ _ _=>id) (λ_ _ _=>id) (λ_ _ _=>id) (λC c j q=>?_) (λC c j q=>?_) _ (Q0 h) C c j q
   .rw[H];exact q
   .rw[H];exact AD (c:=c) (.refl _) I q
 .apply qr (nM.1 Zv x.k bv) (λU Y h=>?_) λQ R h C c j q=>?_
  .obtain⟨rfl,rfl⟩:=tk h;exact O.symm
  .rw[J]at q;have H:x.hm=x.P:=by
    have:x.k=3\/x.k=4:=ad;rcases this with e|e
    .exact(bM.m8 e).2.1
    .exact(bM.BB e).2.1
   apply Rc (ai:=λai=>∀C c j,eP D x W m E ai.1 C c j->eP D ⟨x.hm,x.hn,IntKind.i64.wrap (x.v+1),0,0,x.ai⟩ W E E ai.2 C c j) (λ_ _ _=>id) (λC c j q=>?_) (λC c j q=>?_) (λC c j q=>?_) (λ_ _ _=>id) (λ_ _ _=>id) _ (Q0 h) C c j q
   .rw[H];exact zI (c:=c) (.refl _) I q
   .rw[H];exact zO (c:=c) (.refl _) I q
   .rw[H];exact q
def Aw{n b}:∀{Ω}(C:bb Ω) j,bY C (pi n b) j->j=.tuple #[.int .i64 (n:Nat),.bool b]:=λC j h=>by
 cases h with
 |cB q=>cases q with
  |cons a q=>cases q with
   |cons E q=>cases q;cases a;cases E;rfl
def NF(C:x.ok D)(j:m<=40000):Y 102 #[.pointer (ab ⟨s,0,af⟩),.int .i64 1] [bA D x W m s] λv Q=>(∃n R,v=.tuple #[.int .i64 n,.bool R])/\Q=[bA D x.n7 W (m+1) s]:=by
 unfold bM.n7
 by_cases H:x.k=0
 .rw[bJ H];have e:dz x=dj:=by rw[dz,bJ H]
  have h:=Hb;have h:=(nY (nY (nY h).2).2).1;refine oX (Ω:=ic D x W m m hz) _ p h ⟨_,rfl⟩ uL (λE=> .cons .i .nil) (λE J q=>⟨_,_,Aw E J q⟩) (λj q=>?_) λj q=>?_
  .simp_all[bA]
  .exact mK C (gp m) (gp m) j (by rw[e];exact q)
 .rw[a8 H];let⟨h1,O,am,Z⟩:=C.un H;have e:dz x=cF x.k x.dD:=by rw[dz,a8 H]
  have I:=(nY (rm F8 _ (rQ h1 O am))).1;have U:Du x.k=if x.k<=2 then 4 else 3:=by
   have ap:x.k=1\/x.k=2\/x.k=3\/x.k=4:=ad;rcases ap with e|e|e|e<;>rw[e]<;>rfl
  have I:ax _ _ _=ag:=I
  by_cases ae:x.dD+1=(if x.k<=2 then 4 else 3)
  .rw[bJ ae];rw[U,<- ae,yl]at I;exact oX (Ω:=ic D x W m _ hz) _ p I ⟨_,rfl⟩ (R0 C h1 j cU.DD) (λE=> .cons .i .nil) (λE J q=>⟨_,_,Aw E J q⟩) (λj q=>by
    rw[<- e];exact mK C (bC _) (gp m) j q) λj q=>ends h1 O p p (gp m) j q
  .rw[a8 ae];have ah:aH (Nat.succ x.dD) (Du x.k)=al:=by
    cases ar:aH (Nat.succ x.dD) (Du x.k)with
    |false=>rfl
    |true=>simp_all
   rw[ah]at I;have aq:bM.ok D ⟨x.P,x.S,x.v,x.k,x.dD+1,x.ai⟩:=⟨C.i,C.le,.inr ⟨h1,O,by grind,Z⟩⟩;exact oX (Ω:=ic D x W m (m+1) hz) (ah:=[.i .i64 1]) (Z:=[.int .i64 1]) (Er x.k (cF x.k x.dD)) p I ⟨_,rfl⟩ (R0 C h1 j cU.DD) (λE=> .cons .i .nil) (λE J q=>⟨_,_,Aw E J q⟩) (λj q=>by
    rw[<- e];exact mK C (bC _) (gp m) j q) λj q=>by
     apply mK (m:=m) (n:=m+1) (c:=hz) aq (gp m) (bC _) j;rw[dz,a8 H];exact q
def XZ(H:x.ok D)(j:m<=40000):Y 103 #[.pointer (ab ⟨s,0,af⟩),.int .i64 1] [bA D x W m s] λv O=>(∃n Q,v=.tuple #[.int .i64 n,.bool Q])/\O=[bA D x.qy W (m+1) s]:=by
 unfold bM.qy
 by_cases E:x.k=0
 .rw[bJ E];have R:dz x=dj:=by rw[dz,bJ E]
  have h:=Hb;have h:=(nY (nY (nY (nY h).2).2).2).1;refine oX (Ω:=ic D x W m m hz) _ p h ⟨_,rfl⟩ uL (λJ=> .cons .i .nil) (λJ Z q=>⟨_,_,Aw J Z q⟩) (λj q=>?_) λj q=>?_
  .simp_all[bA]
  .exact mK H (gp m) (gp m) j (by rw[R];exact q)
 .rw[a8 E];let⟨h1,ap,aB,az⟩:=H.un E;have R:dz x=cF x.k x.dD:=by rw[dz,a8 E]
  have C:=(nY (nY (rm F8 _ (rQ h1 ap aB))).2).1;have C:ax (aH x.dD 0) (f7 (sJ x.k (cF x.k x.dD)) gW ke (pi 0 ag) dj) (ax (aH x.dD 1) (f7 (sJ x.k (cF x.k x.dD)) gW ke (pi 1 ag) dj) (f7 (sJ x.k (cF x.k x.dD)) gW nm (pi 1 al) (cF x.k (kA x.dD))))=ag:=C;have pre:∀j,bA D x W m s j->gw (ic D x W (m+1) m hz) (cF x.k x.dD) s j:=λj q=>by
   rw[<- R];exact mK H (gp m) (bC _) j q
  have ar:∀j,gw (dO.fF (ic D x W (m+1) m hz) gW) dj s j->bA D ⟨x.P,x.S,x.v,0,0,x.ai⟩ W (m+1) s j:=λj q=>by
   rw[bA,dz,bJ p];refine Hd p (λI aq aI c h q=>?_) j q;have aA:I=0\/I=1\/I=2\/I=3\/I=4\/I=5:=ad;rcases aA with rfl|rfl|rfl|rfl|rfl|rfl<;>exact q
  have U:∀{ah:List dn} {am:aG} {n:Nat} {b:Bool} {av:List Nat},(∃aE,av=0::aE)->f7 (sJ x.k (cF x.k x.dD)) gW av (pi n b) ah=ag->(∀j,gw (dO.fF (ic D x W (m+1) m hz) gW) ah s j->am j)->Y 103 #[.pointer (ab ⟨s,0,af⟩),.int .i64 1] [bA D x W m s] λv O=>(∃n Q,v=.tuple #[.int .i64 n,.bool Q])/\O=[am]:=
   λaq C aF=>oX (Ω:=ic D x W (m+1) m hz) (ah:=[.i .i64 1]) (Z:=[.int .i64 1]) (sJ x.k (cF x.k x.dD)) p C aq (aea H h1 j cU.DD) (λJ=> .cons .i .nil) (λJ Z q=>⟨_,_,Aw J Z q⟩) pre aF
  by_cases aJ:x.dD=0
  .rw[bJ ad];rw[show aH x.dD 0=ag by simp_all]at C;exact U ⟨_,rfl⟩ C ar
  rw[show aH x.dD 0=al by grind[cy]]at C
  by_cases aK:x.dD=1
  .rw[bJ ad];rw[show aH x.dD 1=ag by simp_all]at C;exact U ⟨_,rfl⟩ C ar
  rw[show aH x.dD 1=al by grind[cy]]at C;rw[a8 ad];have aD:bM.ok D ⟨x.P,x.S,x.v,x.k,x.dD-1,x.ai⟩:=⟨H.i,H.le,.inr ⟨h1,ap,by grind,az⟩⟩;exact U ⟨_,rfl⟩ C λj q=>by
   apply mK (m:=m+1) (n:=m) (c:=hz) aD (bC _) (gp m) j;rw[dz,a8 E];exact q
end
end aV
def bM.sK(x:bM)(k:Nat)(ai:aj):bM:=⟨x.P,x.S,x.v,k,0,ai⟩
def bM.wr(x:bM):a2:=.tuple #[(if x.k=0 then hz else x.c).v,.bool (decide (x.k≠0))]
namespace aV
section
variable{s:Nat}{W:ej}{c:bZ}
def CZ:(∀C∈ [1,2,3,4],Nl C=ag)/\(∀j∈ [1,2,3,4,5,6],OM j=ag)/\f7 (EE dj) gW ke (.cB [.cp (i1 [eW] 7),.b al]) dj=ag/\f7 (kv (λ_=>af) 11 [] dj) gW ke (.dU 34) dj=ag:=by grind[Hb,Ha,nY,rm]
def J7{j C:Nat}(h:(j,C)∈iK):f7 (kv (λ_=>af) 289 y3 (cF j C)) gW nm (.i .i64 7) (cF j C)=ag/\f7 (EE (cF j C)) gW nm (.cB [ax (da j 2) (.cp (.i .i64 j::(e2 41 3++fZ))) (.cp (.i .i64 j::(fZ++e2 41 3))),.b ag]) (cF j C)=ag/\f7 (kv (λ_=>af) 11 [] (cF j C)) gW nm (.dU 34) (cF j C)=ag:=by grind[nY,rm,F8,F3]
def Ut{Ω}{H:bb Ω}(h1:Ω.int 1=c.ai.id)(ae:Ω.int 2=c.ai.x)(an:Ω.int 3=c.ai.y)(j:Ω.int 4=c.s.id)(C:Ω.int 5=c.s.x)(E:Ω.int 6=c.s.y):bK H (e2 1 6) [.int .i64 c.ai.id,.int .i64 c.ai.x,.int .i64 c.ai.y,.int .i64 c.s.id,.int .i64 c.s.x,.int .i64 c.s.y]:=
 .cons (he h1) (.cons (he ae) (.cons (he an) (.cons (he j) (.cons (he C) (.cons (he E) .nil)))))
def Gd(y){j}(C:bb (ic D y W m j c)):bK C y3 [c.v]:=.cons (.cp (.cons (he p) (Ut p p p p p p))) .nil
def NP(y){j n}(C:c.k=(j:Nat))(E:bb (ic D y W m n c)):bK E (y4 j) [c.v]:=.cons (.cp (.cons (UM C) (Ut p p p p p p))) .nil
def Hg{Ω j}(E:bb Ω)(C)(h:bY E (.i .i64 (j:Nat)) C):C=.int .i64 (j:Nat):=by cases h;rfl
def X3(C:x.ok D)(H:x.k≠0):aY 289 #[.pointer (ab ⟨s,0,af⟩),c.v] [bA D x W m s] (.int .i64 7) [bA D x W m s]:=by
 let⟨h1,I,J,R⟩:=C.un H;have E:dz x=cF x.k x.dD:=by rw[dz,a8 H]
 exact oX _ p (J7 (rQ h1 I J)).1 ⟨_,rfl⟩ uL (Gd x) (λQ O q=>Hg Q O q) (λj q=>by
  rw[<- E];exact mK C (bC _) (bC _) j q) λj q=>mK C (bC _) (bC _) j (by rw[E];exact q)
def Pa(j:x.ok D):aa x.P+aa x.S<=1000:=by
 have h1:=j.i.h8;have ae:=j.le;omega
def wq{y n}(U:x.ok D)(O:x.k=0)(E:y.P=x.P)(I:y.S=x.S)(aX:y.v=x.v):∀H,bA D x W m s H->gw (ic D y W m n c) dj s H:=λH q=>by
 have J:dz x=dj:=by rw[dz,bJ O]
 rw[bA,J]at q;apply Hd (show x.v=y.v from aX.symm) (λC R j c h q=>?_) H q;have Q:C=0\/C=1\/C=2\/C=3\/C=4\/C=5:=ad;rcases Q with rfl|rfl|rfl|rfl|rfl|rfl
 .show ig D _ _ j c h;rw[E,I];exact q
 .show mb D _ m _ j c h;rw[E];exact q
 .show kK D _ m _ j c h;rw[E];exact q
 .show mi D _ _ j c h;rw[E];exact q
 .show ma D _ _ j c h;rw[I];exact q
 .show mo D _ m _ j c h;rw[I];exact q
def X5(j:x.ok D)(C:x.k=0)(Q:ex x.P x.S D c≠0):aY 289 #[.pointer (ab ⟨s,0,af⟩),c.v] [bA D x W m s] (.int .i64 (ex x.P x.S D c)) [bA D x W m s]:=by
 have I:dz x=dj:=by rw[dz,bJ C]
 rcases adq _ _ D c with h|⟨Y,R,h⟩
 .exact absurd h Q
 have O:=CZ.2.1 Y R;rw[h];exact oX (Ω:=ic D x W m m c) _ p O ⟨_,rfl⟩ (jY λy E=>by
   rw[oF]at E;subst E;exact dK.di p p (Gd x) iH λH q=>(Um (Pa j) H q).mono λv am ⟨ap,J⟩=>⟨by simp_all,J⟩) (Gd x) (λah Z q=>Hg ah Z q) (wq j C p p p) λU q=>mK j (bC _) (bC _) U (by rw[I];exact q)
def X0(E:x.ok D)(av:x.k=0)(az:ex x.P x.S D c=0):∃j ai,(c.k=(j:Nat)/\1<=j/\j<=4/\nS D x.P x.S j ai/\(j=1->ai=c.ai)/\(j=3->ai=c.s)/\(j=2->ai.id=c.ai.id)/\(j=4->ai.id=c.s.id))/\
  aY 289 #[.pointer (ab ⟨s,0,af⟩),c.v] [bA D x W m s] (.int .i64 (0:Nat)) [bA D (x.sK j ai) W m s]:=by
 let⟨j,ai,I,h1,Q,H,U,Z,Y,ah⟩:=nS.of az;refine⟨j,ai,⟨I,h1,Q,H,U,Z,Y,ah⟩,?_⟩;have J:j=1\/j=2\/j=3\/j=4:=ad;have ax:=CZ.1 j bo;have aB:(x.sK j ai).ok D:=⟨E.i,E.le,.inr ⟨h1,Q,by show 0< (if j<=2 then 4 else 3);grind,H⟩⟩;have aq:dz (x.sK j ai)=J5 j:=by rw[dz,a8 (show ¬(x.sK j ai).k=0 from λam=>by have:j=0:=am;omega)];rfl
 have R:dK (ic D (x.sK j ai) W m m c) (406,gB 2 0 0 _ eW):=dK.di p p (NP _ I) iH λC q=>(Um (Pa E) C q).mono λv aG ⟨aI,ap⟩=>⟨by simp_all,ap⟩;have aE:mB (ic D (x.sK j ai) W m m c) ar (RW j):=by
  rcases J with rfl|rfl|rfl|rfl
  .exact jY (l:=[_]) λy aD=>by
    simp_all
  .apply jY (p0 R _);exact dK.di p p (λO=> .cons (he (Y p).symm) .nil) (S9 p p p) λC q=>ah1 E.i.ip (H.2.1 p) C q
  .exact jY (l:=[_]) λy aD=>by
    simp_all
  .apply jY (p0 (a:=(406,gB 2 0 0 (y4 4) eW)) (b:=(445,gB 2 0 0 [.dU 4] CT)) R _);exact dK.di p p (R:=[.int .i64 ai.id]) (λO=> .cons (he (ah p).symm) .nil) (S9 p p p) λC q=>ah3 E.i.is (H.2.2 p) C q
 refine oX (Ω:=ic D (x.sK j ai) W m m c) (ah:=y4 j) (Z:=[c.v]) _ p ax ?_ aE (NP _ I) (λO aF q=>Hg O aF q) (wq E av p p p) λaA q=>NM (c:=hz) aB (λaK h=>?_) (λaJ _ C c h=>id) aA (by rw[aq];omega)
 .rcases J with rfl|rfl|rfl|rfl<;>exact⟨_,rfl⟩
 .rcases J with rfl|rfl|rfl|rfl
  .have:=U p;subst this;rcases h with rfl|rfl|rfl|rfl<;>rfl
  .rcases h with rfl|rfl|rfl|rfl<;>rfl
  .have:=Z p;subst this;rcases h with rfl|rfl|rfl|rfl<;>rfl
  .rcases h with rfl|rfl|rfl|rfl<;>rfl
def Ye(O:x.ok D):aY 10 #[.pointer (ab ⟨s,0,af⟩)] [bA D x W m s] x.wr [bA D x W m s]:=by
 by_cases j:x.k=0
 .have H:dz x=dj:=by rw[dz,bJ j]
  refine oX _ p CZ.2.2.1 ⟨_,rfl⟩ uL (λC=> .nil) (λC Y q=>?_) (wq O j p p p) λJ q=>mK (c:=hz) O (bC _) (bC _) J (by rw[H];exact q);unfold bM.wr;rw[bJ j,j];exact sY 9 (show ka 9 _ _=ag by rfl) q (.cB (.cons (.cp (Ti C 7)) (.cons .b .nil)))
 .let⟨h1,Q,R,Z⟩:=O.un j;have H:dz x=cF x.k x.dD:=by rw[dz,a8 j]
  refine oX _ p (J7 (rQ h1 Q R)).2.1 ⟨_,rfl⟩ uL (λC=> .nil) (λC Y q=>?_) (λJ q=>by
   rw[<- H];exact q) λJ q=>mK O (bC _) (bC _) J (by rw[H];exact q)
  unfold bM.wr;rw[a8 j,show decide _=ag from cO j];have E:=cU.N7 (cU.DD) h1 Q C;have U:x.k=1\/x.k=2\/x.k=3\/x.k=4:=ad;rcases U with I|I|I|I
  all_goals
   rw[I]at q E;cases E with
   |cons E _=>exact sY 9 bN q (.cB (.cons E (.cons .b .nil)))
def NH(H:x.ok D):Y 11 #[.pointer (ab ⟨s,0,af⟩)] [bA D x W m s] λv J=>v=.int .i64 x.v/\J=[bA D x W m s]:=by
 by_cases C:x.k=0
 .have j:dz x=dj:=by rw[dz,bJ C]
  exact oX _ p CZ.2.2.2 ⟨_,rfl⟩ uL (λI=> .nil) (λI R q=>by cases q;rfl) (wq H C p p p) λE q=>mK (c:=hz) H (bC _) (bC _) E (by rw[j];exact q)
 .let⟨h1,O,Q,U⟩:=H.un C;have j:dz x=cF x.k x.dD:=by rw[dz,a8 C]
  exact oX (Ω:=ic D x W m m hz) _ p (J7 (rQ h1 O Q)).2.2 ⟨_,rfl⟩ uL (λI=> .nil) (λI R q=>by cases q;rfl) (λE q=>by
   rw[<- j];exact q) λE q=>mK H (bC _) (bC _) E (by rw[j];exact q)
end
end aV
section
attribute [local irreducible] C bh b6
def XS(s)(E H:a3)(v)(C:Q):Y 20 #[I s] (ah s 86 [.pointer E,.pointer H,j v,.pointer af]::C) λO J=>O=.bool al/\J=ah s 86 [.pointer E,.pointer H,j v,.pointer af]::C:=by
 refine bt ?_;exact aR bD
def XT(s)(E H:a3)(v a)(C:Q):Y 20 #[I s] (ah s 86 [.pointer E,.pointer H,j v,.pointer (ab a)]::C) λO J=>O=.bool ag/\J=ah s 86 [.pointer E,.pointer H,j v,.pointer (ab a)]::C:=by
 refine bt ?_;exact aR bD
def aiJ(s)(C E:a3)(v n)(H:Q):Y 201 #[I s,j n] (ah s 86 [.pointer C,.pointer E,j v,.pointer af]::H) λR J=>R=.bool (decide (v=n))/\J=ah s 86 [.pointer C,.pointer E,j v,.pointer af]::H:=by
 refine bt ?_;refine a9 (O.pick aN (XS s C E v _)) ?_;exact aR bD
def aiK(s)(C E:a3)(v n a)(H:Q):Y 201 #[I s,j n] (ah s 86 [.pointer C,.pointer E,j v,.pointer (ab a)]::H) λR J=>R=.bool al/\J=ah s 86 [.pointer C,.pointer E,j v,.pointer (ab a)]::H:=by
 refine bt ?_;refine a9 (O.pick aN (XT s C E v a _)) ?_;exact aR bD
end
namespace aV
section
variable{Ω:dO}{s:Nat}{R:List dn}
def MC{I:Nat}{J}(aq:R[0]?=ab (.ce I J)):∀O,gw Ω R s O->∃(E:bb Ω) (H:bz) (aK:aG),bK E J H/\C [ah s I H,aK] O/\∀Q,C [ah s I H,aK] Q->gw Ω R s Q:=λO ⟨E,aF,aM,ax⟩=>by
 let⟨c,aM⟩:=aM;have aD:=(h2.1 aq).1;have ap:0∈gZ (fS R).n:=kU.2 (by rw[qK];omega);have ai:(cz E _).Perm (dg E _ 0::fI E _ 0):=(mY ap).map _;have am:(fS R).get 0=ab (.ce I J):=by rw[pZ];omega
 have U:dg E (fS R) 0=fk E (.ce I J) s c:=by simp[dg,am,aM]
 have W:=C.perm ai ax;rw[U]at W;let⟨ar,av,Z,az,aA,⟨H,Y,aB⟩,l⟩:=W;refine⟨E,H,λh=>C _ h,Y,C.bl (λh j=>C.fold (λ_ j=>j) (by rw[dC];exact j)) ⟨ar,av,Z,az,aA,aB,l⟩,λQ j=>?_⟩;have j:=C.part (C.swap j);have j:=C.perm ep j;refine⟨E,aF,⟨c,aM⟩,C.perm ai.symm ?_⟩;rw[U];exact d8 (λh j=>⟨H,Y,j⟩) j
end
section
variable{s:Nat}{W:ej}
def aiB:iK.map (λx=>(cF x.1 x.2)[0]?)=iK.map λ_=>ab (.ce 86 [.ai 1 0,.ai 2 0,.dU 34,.ai 8 0]):=cq
def abb:dj[0]?=ab (.ce 86 [.ai 1 0,.ai 2 0,.dU 34,.hc]):=by rfl
def Ym(Y:x.ok D):∀E,bA D x W m s E->∃(y:Option cg×Option cg×Int×Option cg×aG),((y.2.2.2.1=af<->x.k=0)/\y.2.2.1=x.v)/\C [ah s 86 [.pointer y.1,.pointer y.2.1,.int .i64 y.2.2.1,.pointer y.2.2.2.1],y.2.2.2.2] E/\
  ∀Q,C [ah s 86 [.pointer y.1,.pointer y.2.1,.int .i64 y.2.2.1,.pointer y.2.2.2.1],y.2.2.2.2] Q->bA D x W m s Q:=λE q=>by
 by_cases j:x.k=0
 .have H:dz x=dj:=by rw[dz,bJ j]
  unfold bA at q ⊢;rw[H]at q ⊢;let⟨am,Z,aK,v,a,b⟩:=MC abb E q;cases v with|cons I v=>?_
  cases v with|cons J v=>?_
  cases v with|cons xV v=>?_
  cases v with|cons O v=>?_
  cases v;cases I;cases J;cases xV;cases O;exact⟨⟨_,_,_,_,aK⟩,⟨⟨λ_=>j,λ_=>rfl⟩,rfl⟩,a,b⟩
 .let⟨h1,R,U,ap⟩:=Y.un j;have H:dz x=cF x.k x.dD:=by rw[dz,a8 j]
  unfold bA at q ⊢;rw[H]at q ⊢;let⟨am,Z,aK,v,a,b⟩:=MC (nM.1 aiB _ (rQ h1 R U)) E q;cases v with|cons I v=>?_
  cases v with|cons J v=>?_
  cases v with|cons xV v=>?_
  cases v with|cons O v=>?_
  cases v;cases I;cases J;cases xV;cases O;exact⟨⟨_,_,_,_,aK⟩,⟨⟨λh=>bv,λh=>absurd h j⟩,rfl⟩,a,b⟩
def NG(aB:x.ok D)(n):Y 201 #[.pointer (ab ⟨s,0,af⟩),.int .i64 n] [bA D x W m s] λv j=>v=.bool (decide (x.k=0/\x.v=n))/\j=[bA D x W m s]:=by
 refine O.cr (I:=λv j=>v=.bool _/\∃E,(∀h,C E h->bA D x W m s h)/\j=E) ?_ λv j aQ ⟨a,E,az,H⟩ q=>⟨_,⟨a,rfl⟩,C.fold az (by rw[dC];exact H▸q)⟩;refine λg F U Z=>?_;let⟨h1,ae,av,aD,aE,a,l⟩:=Z.s;let⟨an,aP,aO,aF,aS,b,aR⟩:=l;let⟨y,⟨aL,aJ⟩,aM,ar⟩:=Ym aB _ b;let⟨ap,aq,v,aG,aK⟩:=y;subst aJ;have am:bj g (F:: [ah s 86 _,aK]) U:=⟨Z.g,h1,ae,av,aD,aE,a,C.up aM aF⟩;cases aG with
 |none=>
  have aA:=aL.1 p;exact aiJ s ap aq _ n _ g F U am|>.mono λH aI ⟨R,j,I,⟨ax,J⟩,Q⟩=>⟨R,j,I,⟨by simp_all,_,λh q=>ar h (J▸q),rfl⟩,Q⟩
 |some a=>
  have aA: ¬x.k=0:=λh=>by simp_all
  exact aiK s ap aq _ n a _ g F U am|>.mono λH aI ⟨R,j,I,⟨ax,J⟩,Q⟩=>⟨R,j,I,⟨by simp_all,_,λh q=>ar h (J▸q),rfl⟩,Q⟩
end
def kb(R:List dn)(b:Nat):Nat:=cK 0 (λo=>cK 0 (λj=>j) (t4 o)) (R[b]?)
def og(C:Nat)(R:List dn):Nat:=dN 0 (λo _ j=>cK j (λE=>ax (aH E C) (Nat.succ j) j) (t4 o)) R
def xv(R:List dn)(b:Nat):Nat:=ax (aH (kb R b) (kl b 2)) (jN b 8) (kl b 2)
def Is(C j:Nat):Option Nat:=ax (aH j C) af (p2 j)
theorem Ie{j}:∀{R}{C:Nat},R[C]?=ab (.cx j)->1<=og j R
 | [],C,h=>by trivial
 |o::R,0,h=>by
  cases h;show 1<=ax _ _ _;rw[yl];exact E9 (bO _)
 |o::R,C+1,h=>by
  have E:=Ie (C:=C) fs;show 1<= @cK _ (λ_=>Nat) (og j R) _ _;cases t4 o with
  |none=>omega
  |some H=>
   show 1<=ax _ _ _;cases aH H j
   .trivial
   .exact q5 E
def z1{C}:∀{R}{H E:Nat},og C R=1->R[H]?=ab (.cx C)->E≠H->R[E]?≠ab (.cx C)
 | [],H,E,_,h,_=>ao
 |o::R,H,E,J,h,Y=>λW=>by
  have I: @cK _ (λ_=>Nat) (og C R) _ _=1:=J;cases H with
  |zero=>
   cases h;have j:ax _ _ _=1:=I;rw[yl]at j;have O:Nat.succ (og C R)=1:=j;cases E with
   |zero=>omega
   |succ E=>
    grind[Ie]
  |succ H=>
   have ai:=Ie (C:=H) fs;cases E with
   |zero=>
    cases W;have j:ax _ _ _=1:=I;rw[yl]at j;have O:Nat.succ (og C R)=1:=j;omega
   |succ E=>
    have U:og C R=1:=by
     cases Z:t4 o with
     |none=>simp_all
     |some ah=>
      rw[Z]at I;have j:ax _ _ _=1:=I;cases Q:aH ah C with
      |false=>rw[Q]at j;trivial
      |true=>
       rw[Q]at j;have O:Nat.succ (og C R)=1:=j;omega
    exact z1 U (H:=H) (E:=E) fs (λJ=>Y ad) fs
theorem aix:iK.map (λx=>[3,4,5,6,7].map λb=>(cF x.1 x.2)[b]?)=iK.map λx=>[3,4,5,6,7].map λb=>ab (.cx (kb (cF x.1 x.2) b)):=cq
theorem aiy:iK.map (λx=>[3,4,5,6,7].map λb=>og (kb (cF x.1 x.2) b) (cF x.1 x.2))=iK.map λx=>[3,4,5,6,7].map λb=>1:=cq
theorem aiz:iK.map (λx=>[3,4,5,6,7].map λb=>ax (aH (kb (cF x.1 x.2) b) (kl b 2)) ag (aH (kb (cF x.1 x.2) b) (jN b 8)))=iK.map λx=>[3,4,5,6,7].map λb=>ag:=cq
theorem aiA:iK.map (λx=>[3,4,5,6,7].map λb=>ny oj (Is (xv (cF x.1 x.2) b)) (cF x.1 x.2))=iK.map λx=>[3,4,5,6,7].map λb=>ab (cF x.1 x.2):=cq
theorem aa7: [3,4,5,6,7].map (λb=>dj[b]?)=[3,4,5,6,7].map λb=>ab (.cx (kb dj b)):=by rfl
theorem aa8: [3,4,5,6,7].map (λb=>og (kb dj b) dj)=[3,4,5,6,7].map λb=>1:=by rfl
theorem aa9: [3,4,5,6,7].map (λb=>ax (aH (kb dj b) (kl b 2)) ag (aH (kb dj b) (jN b 8)))=[3,4,5,6,7].map λb=>ag:=by rfl
theorem aba: [3,4,5,6,7].map (λb=>ny oj (Is (xv dj b)) dj)=[3,4,5,6,7].map λb=>ab dj:=by rfl
section
variable{s b:Nat}{W:ej}
def Yl(I:x.ok D)(J:b∈ [3,4,5,6,7]):(dz x)[b]?=ab (.cx (kb (dz x) b))/\og (kb (dz x) b) (dz x)=1/\ax (aH (kb (dz x) b) (kl b 2)) ag (aH (kb (dz x) b) (jN b 8))=ag/\ny oj (Is (xv (dz x) b)) (dz x)=ab (dz x):=by
 by_cases j:x.k=0
 .have C:dz x=dj:=by rw[dz,bJ j]
  grind[nM,aa7,aa8,aa9,aba]
 .let⟨h1,E,H,O⟩:=I.un j;have C:dz x=cF x.k x.dD:=by rw[dz,a8 j]
  rw[C];have Q:=rQ h1 E H;grind[nM,aix,aiy,aiz,aiA]
def y0(aB:x.ok D)(av:b∈ [3,4,5,6,7]):∀H,bA D x W m s H->∃J E c aK,(J=b-2\/J=b+8)/\C [eP D x W m m J E c,aK] H/\
  ∀(I) R,(∀j,(j<=5\/(10<=j/\j<=15))->j≠b-2->j≠b+8->eP D x I m m j=eP D x W m m j)->C [eP D x I m m J E c,aK] R->bA D x I m s R:=λH q=>by
 let⟨U,aq,Y,ar⟩:=Yl aB av;let⟨E,c,aK,aF,aM⟩:=MB U (λj Q=>z1 aq U Q) H q;have aA:kb (dz x) b=b-2\/kb (dz x) b=b+8:=by
  cases ah:aH (kb (dz x) b) (kl b 2)with
  |true=>simp_all
  |false=>rw[ah]at Y;exact .inr (cy Y)
 refine⟨kb _ b,E,c,aK,aA,aF,λI R az aE=>?_⟩;apply qr ar (λj am h=>?_) (λj am h E c H q=>?_) _ (aM _ _ aE)
 .obtain⟨rfl,ae⟩:=xt h;rfl
 .have O:ax _ af _=ab am:=h;cases Z:aH j _ with
  |true=>rw[Z]at O;trivial
  |false=>
   rw[Z]at O;obtain⟨rfl,ae⟩:=xr O;have aG:j≠xv (dz x) b:=λap=>by simp_all
   show eP D x I m m j E c H;have aD:(if j=kb _ b then eP D x I m m _ else eP D x W m m j) E c H:=q
   by_cases Q:j=kb (dz x) b
   .simp_all
   .rw[a8 Q]at aD;have aI:xv (dz x) b=if kb (dz x) b=b-2 then b+8 else b-2:=by
     unfold xv;split
     .simp_all[ax,yl]
     .rename_i ap
      cases ah:aH (kb (dz x) b) (kl b 2)with
      |true=>simp_all
      |false=>rfl
    rw[az j ae ?_ ?_]
    .omega
    .grind
    grind
end
end aV
variable{B c:Nat}{h:j5}
abbrev Mm:=List aj×Nat×fb.aA×Nat×List fb.aA
@[reducible] def Qs (D B:Nat) (y:Mm):List aG:=[fb.d6 y.2.2.1,ah B 242 (fb.hb y.2.2.1.Z (y.1.length:Nat) D y.2.2.2.1),fb.gr y.2.2.2.2]
def xb(D:Nat)(P:List aj)(m:Nat)(bB:List Nat)(B _c:Nat):aG:=λh=>∃y:Mm,((y.1.Perm P/\y.2.1<=m)/\(fb.nU y.2.2.1 y.2.2.2.1 y.1 y.2.1/\∀a∈bB,fb.kf y.2.2.1 y.2.2.2.2 a)/\∀a∈y.2.2.1.bG,a∈bB)/\C (Qs D B y) h
def abP:xb D P m bB B c h->mb D P m bB B c h:=λ⟨y,⟨a,b,_⟩,q⟩=>⟨(y.1,y.2.1),a,fb.sW b.1 b.2 cT h q⟩
def abO:mb D P m bB B c h->∃E,(∀a∈bB,a∈E)/\xb D P m E B c h:=λ⟨x,a,q⟩=>by
 let⟨h1,ae,J,I,O,⟨y,⟨g,H⟩,q⟩,_⟩:=q;exact⟨y.1.bG++y.2.2.flatMap _,λa j=>(H a j).mem,⟨(x.1,x.2,y.1,y.2.1,y.2.2),⟨a,⟨g,fb.QM⟩,λa j=>b9.2 (.inl j)⟩,C.up q I⟩⟩
def abQ(H:cS)(B c):Y 393 #[I B,H.v] [xb D P m bB B c] λv E=>∃b,v=(I b)/\E=[xb D P m bB B c,fb.jz b 0 bB]:=
 O.open (E:=Qs D B) (λ_ h=>h) λy ⟨ai,g,W⟩=>by
  rw[dC];refine(fb.abH B _ H _ (a5.ap (a5.ah p))).cr λv E U ⟨b,s,J,Q⟩ q=>⟨[xb D P m bB B c,fb.jz b 0 bB],⟨b,J,rfl⟩,?_⟩;subst Q;have aM:=fb.wG (J:=0) (S:=bB) (j:=y.2.2.1.rt.map fb.aA.jb) ⟨λa R=>?_,?_,bO _,bO _⟩ ?_ cT U q
  .exact C.swap (C.bl (λh j=>C.fold (λh j=>⟨y,⟨ai,g,W⟩,j⟩) (by rw[dC];exact j)) aM)
  .obtain⟨x,Z,rfl⟩:=lm.1 R;simp_all[fb.aA.rt,fb.aA.F0]
  .grind[fb.aA.rt]
  .grind[fb.aA.rt,fb.aA.F0]
abbrev Mx:=List aj×et.bi×List et.bi
@[reducible] def Sx (D B:Nat) (y:Mx):List aG:=[ah B 249 (et.jI y.2.1 D),et.dr y.2.1,et.ha y.2.2]
def p3(D:Nat)(P:List aj)(bB:List Nat)(B _c:Nat):aG:=λh=>∃y:Mx,(y.1.Perm P/\(y.2.1.t.i9 y.1/\∀a∈bB,et.iD y.2.1 y.2.2 a)/\∀a∈y.2.1.bG,a∈bB)/\C (Sx D B y) h
def Sz:p3 D P bB B c h->mi D P bB B c h:=λ⟨y,⟨a,b,_⟩,q⟩=>⟨y.1,a,et.OA b.1 b.2 cT h q⟩
def Sy:mi D P bB B c h->∃E,(∀a∈bB,a∈E)/\p3 D P E B c h:=λ⟨x,a,q⟩=>by
 let⟨h1,ae,J,I,O,⟨y,⟨g,H⟩,q⟩,_⟩:=q;exact⟨y.1.bG++y.2.flatMap _,λa j=>et.HF (H a j),⟨(x,y.1,y.2),⟨a,⟨g,et.QN⟩,λa j=>b9.2 (.inl j)⟩,C.up q I⟩⟩
def St(E av){W B c}(R:∀(x)(J),aU J B 0 2 (et.jI x D)->Y W #[I B,.agg #[j E.cN,j E.cQ,j E.y]] J λQ H=>∃c s,Q=(I c)/\H=et.iT c s E av [] 0 0::et.be s 65536 x.rt::J):
  Y W #[I B,.agg #[j E.cN,j E.cQ,j E.y]] [p3 D P bB B c] λv H=>∃b,v=(I b)/\H=[p3 D P bB B c,et.iS b 0 bB]:=
 O.open (E:=Sx D B) (λ_ h=>h) λy ⟨ai,g,Q⟩=>by
  rw[dC];refine(R _ _ (aU.ah p)).cr λv H ar ⟨b,s,am,ap⟩ q=>⟨[p3 D P bB B c,et.iS b 0 bB],⟨b,am,rfl⟩,?_⟩;subst ap;have ax:∀{x:et.bi},x.Z.isSome=ag->x.Z=(et.bi.pl x.jb).Z/\x.jb∈x.bG:=λ{x} h=>by
   cases x with
   |nil=>cases h
   |node=>exact⟨rfl,ll⟩
  have aM:=et.wH (S:=bB) (j:=y.2.1.rt.map et.bi.jb) ⟨λa aq=>?_,?_,bO _,bO _⟩ (bC 0) ?_ cT ar q
  .exact C.swap (C.bl (λh U=>C.fold (λh U=>⟨y,⟨ai,g,Q⟩,U⟩) (by rw[dC];exact U)) aM)
  .obtain⟨x,az,rfl⟩:=lm.1 aq;simp_all[et.bi.rt]
  .grind[et.bi.rt]
  .grind[et.bi.rt]
def aeX(C:j8)(B c):Y 392 #[I B,.agg #[j C.cN,j C.cQ,j C.y]] [p3 D P bB B c] λv H=>∃b,v=(I b)/\H=[p3 D P bB B c,et.iS b 0 bB]:=
 St C ag λx E h=>et.aeG B x D C E h
def aeV(C:j8)(B c):Y 391 #[I B,.agg #[j C.cN,j C.cQ,j C.y]] [p3 D P bB B c] λv H=>∃b,v=(I b)/\H=[p3 D P bB B c,et.iS b 0 bB]:=
 St C al λx E h=>et.aeu B x D C E h
abbrev Mj:=List aj×YteinodmjohkmmaaGreat.S.eT.aE×List YteinodmjohkmmaaGreat.S.eT.aE
@[reducible] def uB (D B:Nat) (y:Mj):List aG:=[ah B 252 [.pointer y.2.1.Z,j (D:Nat)],YteinodmjohkmmaaGreat.S.eT.fr y.2.1,YteinodmjohkmmaaGreat.S.eT.hH y.2.2]
def uC(D:Nat)(P:List aj)(bB:List Nat)(B _c:Nat):aG:=λh=>∃y:Mj,(y.1.Perm P/\(YteinodmjohkmmaaGreat.S.eT.nE y.1 y.2.1/\∀a∈bB,YteinodmjohkmmaaGreat.S.eT.iC y.2.1 y.2.2 a)/\∀a∈y.2.1.bG,a∈bB)/\C (uB D B y) h
def Qg:uC D P bB B c h->ma D P bB B c h:=λ⟨y,⟨a,b,_⟩,q⟩=>⟨y.1,a,YteinodmjohkmmaaGreat.S.eT.Oy b.1 b.2 cT h q⟩
def Qf:ma D P bB B c h->∃E,(∀a∈bB,a∈E)/\uC D P E B c h:=λ⟨x,a,q⟩=>by
 let⟨h1,ae,J,I,O,⟨y,⟨g,H⟩,q⟩,_⟩:=q;exact⟨y.1.bG++y.2.flatMap _,λa j=>YteinodmjohkmmaaGreat.S.eT.HC (H a j),⟨(x,y.1,y.2),⟨a,⟨g,YteinodmjohkmmaaGreat.S.eT.QJ⟩,λa j=>b9.2 (.inl j)⟩,C.up q I⟩⟩
def Qe(J v B c):Y 397 #[I B,j J,j v] [uC D P bB B c] λv H=>∃b,v=(I b)/\H=[uC D P bB B c,YteinodmjohkmmaaGreat.S.eT.jy b 0 bB]:=
 O.open (E:=uB D B) (λ_ h=>h) λy ⟨ai,g,aq⟩=>by
  rw[dC];refine(YteinodmjohkmmaaGreat.S.eT.aaZ B _ D J v _ ⟨a5.ah p,a5.ah p,YteinodmjohkmmaaGreat.S.eT.fa.ap (YteinodmjohkmmaaGreat.S.eT.rI _ _ g.1.2.1)⟩).cr λv H W ⟨b,s,Q,R⟩ q=>⟨[uC D P bB B c,YteinodmjohkmmaaGreat.S.eT.jy b 0 bB],⟨b,Q,rfl⟩,?_⟩;subst R;have ar:∀{x:YteinodmjohkmmaaGreat.S.eT.aE},x.Z.isSome=ag->x.Z=(YteinodmjohkmmaaGreat.S.eT.aE.pl x.jb).Z/\x.jb∈x.bG:=λ{x} h=>by
   cases x with
   |nil=>cases h
   |node=>exact⟨rfl,ll⟩
  have aM:=YteinodmjohkmmaaGreat.S.eT.wF (J:=0) (S:=bB) (j:=y.2.1.rt.map YteinodmjohkmmaaGreat.S.eT.aE.jb) ⟨λa U=>?_,?_,bO _,bO _⟩ ?_ cT W q
  .exact C.swap (C.bl (λh E=>C.fold (λh E=>⟨y,⟨ai,g,aq⟩,E⟩) (by rw[dC];exact E)) aM)
  .obtain⟨x,am,rfl⟩:=lm.1 U;unfold YteinodmjohkmmaaGreat.S.eT.aE.rt at am;simp_all
  .unfold YteinodmjohkmmaaGreat.S.eT.aE.rt;grind
  .unfold YteinodmjohkmmaaGreat.S.eT.aE.rt;grind
abbrev MD:=YteinodmjohkmmaaGreat.S.fw.na×YteinodmjohkmmaaGreat.S.fw.yF
@[reducible] def TP (D B:Nat) (y:MD):List aG:=YteinodmjohkmmaaGreat.S.fw.gb B y.2.1 y.2.2.1 y.2.2.2.1 y.2.2.2.2.1 y.2.2.2.2.2.1 D y.1.b [YteinodmjohkmmaaGreat.S.fw.hV y.2.2.2.2.2.2]
def xR(D:Nat)(P:List aj)(m:Nat)(bB:List Nat)(B _c:Nat):aG:=λh=>∃y:MD,((y.1.k.Perm P/\y.1.b<=m)/\(YteinodmjohkmmaaGreat.S.fw.mG y.2.1 y.2.2.1 y.2.2.2.1 y.2.2.2.2.1 y.2.2.2.2.2.1 y.1.k y.1.aK/\∀a∈bB,YteinodmjohkmmaaGreat.S.fw.mR y.2.2.1 y.2.2.2.2.2.2 a)/\∀a∈y.2.2.1.bG,a∈bB)/\C (TP D B y) h
def agK:xR D P m bB B c h->mo D P m bB B c h:=λ⟨y,⟨a,b,_⟩,q⟩=>⟨y.1,a,YteinodmjohkmmaaGreat.S.fw.Gx b.1 b.2 cT h q⟩
def agJ:mo D P m bB B c h->∃E,(∀a∈bB,a∈E)/\xR D P m E B c h:=λ⟨x,a,q⟩=>by
 let⟨h1,ae,J,I,O,⟨y,⟨g,H⟩,q⟩,_⟩:=q;exact⟨y.2.1.bG++y.2.2.2.2.2.flatMap _,λa j=>YteinodmjohkmmaaGreat.S.fw.HG (H a j),⟨(x,y),⟨a,⟨g,YteinodmjohkmmaaGreat.S.fw.QO⟩,λa j=>b9.2 (.inl j)⟩,C.up q I⟩⟩
def agL(v)(aq:aa P<=200)(B c):Y 398 #[I B,j v] [xR D P m bB B c] λv J=>∃b,v=(I b)/\J=[xR D P m bB B c,YteinodmjohkmmaaGreat.S.fw.jA b 0 bB]:=
 O.open (E:=TP D B) (λ_ h=>h) λy ⟨ai,g,R⟩=>by
  rw[dC];have Z:y.2.1.aK.length<=1000:=by
   have h1:=g.1.small;have ae:=g.1.perm.length_eq;have an:=ai.1.length_eq;rw[<- g.1.vm]at h1;omega
  refine(YteinodmjohkmmaaGreat.S.fw.agp v _ (g.1.w2 B D _ _) g.1.qd Z).cr λv J ah ⟨b,U,W⟩ q=>⟨[xR D P m bB B c,YteinodmjohkmmaaGreat.S.fw.jA b 0 bB],⟨b,U,rfl⟩,?_⟩;subst W;have aM:=YteinodmjohkmmaaGreat.S.fw.wI (I:=0) (S:=bB) ⟨λa E=>?_,?_,bO _,bO _⟩ (bS.Nw _) cT ah q
  .exact C.swap (C.bl (λh H=>C.fold (λh H=>⟨y,⟨ai,g,R⟩,H⟩) (by rw[dC];exact H)) aM)
  .apply R a;cases Q:y.2.2.1 with
   |nil=>rw[Q]at E;trivial
   |node b ap ax A am m av ar=>
    rw[Q]at E;simp[bS.qx,Option.toList,oF]at E;subst E;exact ll
  .simp
namespace aV
def G8(l:List Int)(B c:Nat):aG:=λh=>∃A n,l1 B c=.slice A (aa l) n/\E 3 1 A (aa l) n (J l) h
def Cd{A:a3}(m){c}(h:c<=maxLen)(j:A=af/\m=0/\c=0\/∃b,A=ab ⟨b,0,af⟩):∃B j,l1 B j=.slice A m c:=by
 unfold l1;have C:c<9223372036854775808:=by unfold maxLen at h;omega
 rcases j with ⟨rfl,rfl,rfl⟩|⟨b,rfl⟩
 .exact⟨0,1,rfl⟩
 .refine⟨b,2*(m*9223372036854775808+c),?_⟩;grind
variable{K:Q}
structure kX (P:List aj) (m:Nat)where
 t:Nat
 S:R.cY.c3
 x:R.cY.oM
 ok:R.cY.gq S 100 m
 ai:S.live.Perm P
 dD:R.cY.rc x S
def kX.G(D:Nat)(x:kX P m)(B _c:Nat):aG:=λh=>B=x.t/\C (R.cY.zP x.t D x.x x.S) h
@[reducible] def kX.H (D:Nat) (x:kX P m):List aG:=[ct x.x.b x.x.M,ah x.t 246 (R.cY.iZ x.x.A (aa x.x.eN) x.x.c x.x.b (aa x.S.d:Nat) D (x.S.fm:Nat)),E 353 1 x.x.A (aa x.x.eN) x.x.c (J x.x.eN)]
def kX.pa(D:Nat)(x:kX P m)(B _c:Nat):aG:=λh=>B=x.t/\C (x.H D) h
def kX.qT(x:kX P m)(B c:Nat):aG:=λh=>∃y:Option cg×Nat,(l1 B c=.slice y.1 (aa (R.cY.hy x.x.eN)) y.2/\(0<aa (R.cY.hy x.x.eN)->∃b,y.1=ab ⟨b,0,af⟩))/\C [E 353 1 y.1 (aa (R.cY.hy x.x.eN)) y.2 (J (R.cY.hy x.x.eN)),hB x.x.N] h
theorem kX.of{B c h}(q:kK D P m K B c h):∃x:kX P m,(aS x.x.N K)/\x.G D B c h:=by
 let⟨S,⟨ok,ai⟩,g⟩:=q;let⟨a,b,d,E,H,g,_⟩:=g;let⟨x,⟨dD,j⟩,g⟩:=R.cY.Hz g;exact⟨⟨B,S,x,ok,ai,dD⟩,λh q=>j▸dD.kept h q,rfl,C.up g E⟩
theorem kX.mU(x:kX P m){B c j H h}(q:C [x.pa D B c,x.qT j H] h):kK D P m x.x.N B c h:=by
 let⟨h1,ae,I,O,U,⟨J,a⟩,⟨an,ah,Z,W,am,⟨y,_,b⟩,_⟩⟩:=q;subst J;have E:=C.up b.tail W;have Y:=C.part ⟨h1,ae,I,O,U,a,E⟩;refine⟨x.S,⟨x.ok,x.ai⟩,R.cY.o6 ⟨x.x.A,x.x.c,x.x.b,x.x.eN,x.x.M,x.x.N,x.x.N⟩ p p p p ⟨x.dD.pL,x.dD.at_,x.dD.mp,x.dD.A,λ_ h=>h⟩ cT h ?_⟩;exact C.perm ((List.Perm.swap ..).trans (.refl _)) Y
def acx(am:D<=300)(x:kX P m)(B c):Y 388 #[.pointer (ab ⟨B,0,af⟩)] [x.G D B c] λv U=>∃H I,v=l1 H I/\U=[x.pa D B c,x.qT H I]:=
 O.open (E:=λ_:Unit=>R.cY.zP x.t D x.x x.S) (D:=λ_=>B=x.t) (λh q=>⟨(),q.1,q.2⟩) λ_ aq=>by
  subst aq;rw[dC];have aE:=x.ok.Dk ao;have aF:=x.dD.pL.len;refine(R.cY.V3 x.dD (aU.ah p) (Rd.ap (Rd.ap (bf.E (ck _) x.dD.A))) (λo aD=>R.cY.ji.ap (R.cY.ji.ap (R.cY.ji.ap (x.dD.tokY.FV o aD)))) ad).cr λv U am ⟨A,n,ar,av,ax⟩ g=>?_;subst ax;let⟨_,_,az,aA⟩:=E.facts g;let⟨H,I,Z⟩:=Cd _ az aA;refine⟨_,⟨H,I,ar.trans Z.symm,rfl⟩,?_⟩;have aB:C (x.H D++[E 353 1 A (aa (R.cY.hy x.x.eN)) n (J (R.cY.hy x.x.eN)),hB x.x.N]) am:=by
   have ai:=g;apply C.perm _ ai;exact(List.Perm.swap ..).trans ((List.Perm.cons _ (List.Perm.swap ..)).trans ((List.Perm.swap ..).trans (List.Perm.cons _ (List.Perm.cons _ (List.Perm.swap ..)))))
  exact d8 (λh j=>⟨rfl,j⟩) ((C.join aB).bl λh j=>C.fold (λh j=>⟨(A,n),⟨Z,av⟩,j⟩) j)
def aco(x:kX P m)(j:cS)(B c):Y 387 #[j.v,l1 B c] [x.qT B c] λv U=>∃b,v=.pointer (ab ⟨b,0,af⟩)/\U=[x.qT B c,R.cY.kq b x.x.N]:=by
 have ah:=x.ok.hY;have aA:=x.ok.Dk ao;have aB:=x.dD.pL.len;have aE:=R.cY.acP x.x.eN;have aD:=R.cY.Nm j (E:=hB _:: []) _ x.dD.tokY.hy (λJ I=>by have:=x.dD.tokY.RJ ah _ (R.cY.QS I);simp[R.cY.opts]at this;omega);have av:=(x.dD.tokY.fd x.ok.fE j).length_eq;rw[b4]at av;have h1:aa (R.cY.jW j x.x.M)<=1000:=by
  have ar:aa (R.cY.jW j x.x.M)=aa (R.cY.qH j x.S.d):=by rw[<- x.dD.tokY.dead j,b5,List.length_mergeSort]
  rw[ar,R.cY.abg];have h1:=kj (R.cY.fD j) x.S.d;have ae:=x.ok.h8;omega
 have ae:aa ((x.S.live.filter (R.cY.fD j)).map (·.id))<=100:=by
  rw[List.length_map];have an:=kj (R.cY.fD j) x.S.live;have az:=x.ok.rO;omega
 refine O.open (E:=λy:Option _×Nat=>[E _ 1 _ _ _ _,hB _]) (λh q=>q) λ⟨A,n⟩ ⟨W,Z⟩=>?_
 rw[W,dC];have ax:∀J∈R.cY.hy _,aa J.l<=1000:=λJ I=>by have:=x.dD.tokY.RJ ah _ (R.cY.QS I);simp[R.cY.opts]at this;omega
 refine(R.cY.afC j A _ n _ _ _ (λh s=>s.tail) (bf.E (ck _) Z) ad (x.dD.tokY.hy) ax ad).cr λv U aF ⟨a,am,ap⟩ g=>⟨[x.qT B c,R.cY.kq a _],⟨a,am,rfl⟩,?_⟩;subst ap;have aq:=R.cY.Co ⟨λh q=>C.fold (λ_ H=>H) (by rw[dC];exact q),by grind,by grind⟩ cT _ g;exact C.swap (aq.bl λh H=>C.fold (N:=[_,_]) (L:=[]) (λh H=>⟨(A,n),⟨W,Z⟩,H⟩) H)
def acp(az:m<=100000)(x:kX P m)(J B c):Y 389 #[.pointer (ab ⟨B,0,af⟩),J.v] [x.pa D B c] λv U=>∃H I,v=l1 H I/\U=[x.pa D B c,G8 (R.cY.qH J x.S.d) H I]:=
 O.open (E:=λ_:Unit=>x.H D) (D:=λ_=>B=x.t) (λh q=>⟨(),q.1,q.2⟩) λ_ am=>by
  subst am;rw[dC];refine(R.cY.VY x.dD x.ok ao (aU.ah p) J).cr λv U az ⟨A,n,ap,_,aq⟩ g=>?_;subst aq;let⟨_,_,ar,av⟩:=E.facts g;let⟨H,I,Z⟩:=Cd _ ar av;refine⟨_,⟨H,I,ap.trans Z.symm,rfl⟩,?_⟩;have ax:=g;exact C.swap (d8 (λh j=>⟨A,n,Z,j⟩) (ax.bl λh j=>C.fold (λh j=>⟨rfl,j⟩) (by rw[dC];exact j)))
section
variable{s:Nat}{W:ej}
abbrev yt:=List aj×Nat×Nat×aG
def wT(j:x.ok D):aa x.P<=30/\aa x.S<=30/\aa x.hm<=31/\aa x.hn<=31:=by
 have h1:=j.i.h8;have ae:=j.le;have C:aa x.hm<=aa x.P+1:=by
  unfold bM.hm mM;split
  .rw[v8];simp
  .split
   .exact q5 (Ln)
   simp
 have E:aa x.hn<=aa x.S+1:=by
  unfold bM.hn mN;split
  .rw[v8];simp
  .split
   .exact q5 (Ln)
   simp
 omega
def GW{bB j}(h1:j≠1)(ae:j≠11):eP D x ⟨bB,W.gC,W.it,W.fJ,W.K⟩ m m j=eP D x W m m j:=by unfold eP;grind
def CS{bB j}(h1:j≠3)(ae:j≠13):eP D x ⟨W.gA,bB,W.it,W.fJ,W.K⟩ m m j=eP D x W m m j:=by unfold eP;grind
theorem CR{bB j}(h1:j≠4)(ae:j≠14):eP D x ⟨W.gA,W.gC,bB,W.fJ,W.K⟩ m m j=eP D x W m m j:=by unfold eP;grind
theorem GX{bB j}(E:j<=5\/(10<=j/\j<=15))(h1:j≠5)(ae:j≠15):eP D x ⟨W.gA,W.gC,W.it,bB,W.K⟩ m m j=eP D x W m m j:=by
 have C:j=0\/j=1\/j=2\/j=3\/j=4\/j=10\/j=11\/j=12\/j=13\/j=14:=ad;rcases C with rfl|rfl|rfl|rfl|rfl|rfl|rfl|rfl|rfl|rfl<;>rfl
def aav(O:x.ok D):∀H,bA D x W m s H->∃j:yt,(∀bB I,C [mb D j.1 m bB j.2.1 j.2.2.1,j.2.2.2] I->bA D x ⟨bB,W.gC,W.it,W.fJ,W.K⟩ m s I)/\C [mb D j.1 m W.gA j.2.1 j.2.2.1,j.2.2.2] H:=λH q=>by
 let⟨U,B,c,aK,E,aF,aM⟩:=y0 O (b:=3) ao H q;have J:=λbB=>aM ⟨bB,W.gC,W.it,W.fJ,W.K⟩;rcases E with E|E<;>subst E
 .exact⟨(x.P,B,c,aK),λbB I j=>J bB _ (λR _ h1 ae=>GW h1 ae) j,aF⟩
 .exact⟨(x.hm,B,c,aK),λbB I j=>J bB _ (λR _ h1 ae=>GW h1 ae) j,aF⟩
def aax(O:x.ok D):∀H,bA D x W m s H->∃j:yt,(∀bB I,C [mi D j.1 bB j.2.1 j.2.2.1,j.2.2.2] I->bA D x ⟨W.gA,bB,W.it,W.fJ,W.K⟩ m s I)/\C [mi D j.1 W.gC j.2.1 j.2.2.1,j.2.2.2] H:=λH q=>by
 let⟨U,B,c,aK,E,aF,aM⟩:=y0 O (b:=5) ao H q;have J:=λbB=>aM ⟨W.gA,bB,W.it,W.fJ,W.K⟩;rcases E with E|E<;>subst E
 .exact⟨(x.P,B,c,aK),λbB I j=>J bB _ (λR _ h1 ae=>CS h1 ae) j,aF⟩
 .exact⟨(x.hm,B,c,aK),λbB I j=>J bB _ (λR _ h1 ae=>CS h1 ae) j,aF⟩
def aau(J:x.ok D):∀H,bA D x W m s H->∃j:yt,(j.1.length<=31/\∀bB I,C [ma D j.1 bB j.2.1 j.2.2.1,j.2.2.2] I->bA D x ⟨W.gA,W.gC,bB,W.fJ,W.K⟩ m s I)/\C [ma D j.1 W.it j.2.1 j.2.2.1,j.2.2.2] H:=λH q=>by
 let⟨am,B,c,aK,E,aF,aM⟩:=y0 J (b:=6) ao H q;have O:=λbB=>aM ⟨W.gA,W.gC,bB,W.fJ,W.K⟩;let⟨U,Y,Z,ah⟩:=wT J;rcases E with E|E<;>subst E
 .exact⟨(x.S,B,c,aK),⟨by grind,λbB I j=>O bB _ (λR _ h1 ae=>CR h1 ae) j⟩,aF⟩
 .exact⟨(x.hn,B,c,aK),⟨ad,λbB I j=>O bB _ (λR _ h1 ae=>CR h1 ae) j⟩,aF⟩
def aay(O:x.ok D):∀H,bA D x W m s H->∃j:yt,(j.1.length<=31/\∀bB I,C [mo D j.1 m bB j.2.1 j.2.2.1,j.2.2.2] I->bA D x ⟨W.gA,W.gC,W.it,bB,W.K⟩ m s I)/\C [mo D j.1 m W.fJ j.2.1 j.2.2.1,j.2.2.2] H:=λH q=>by
 let⟨ap,B,c,aK,E,aF,aM⟩:=y0 O (b:=7) ao H q;have R:=λbB=>aM ⟨W.gA,W.gC,W.it,bB,W.K⟩;let⟨Y,Z,ah,am⟩:=wT O;rcases E with E|E<;>subst E
 .exact⟨(x.S,B,c,aK),⟨by grind,λbB I j=>R bB _ (λU J h1 ae=>GX J h1 ae) j⟩,aF⟩
 .exact⟨(x.hn,B,c,aK),⟨ad,λbB I j=>R bB _ (λU J h1 ae=>GX J h1 ae) j⟩,aF⟩
def aaw(J:x.ok D):∀H,bA D x W m s H->∃j:yt,(∀I,C [kK D j.1 m W.K j.2.1 j.2.2.1,j.2.2.2] I->bA D x W m s I)/\C [kK D j.1 m W.K j.2.1 j.2.2.1,j.2.2.2] H:=λH q=>by
 let⟨O,B,c,aK,E,aF,aM⟩:=y0 J (b:=4) ao H q;rcases E with E|E<;>subst E
 .exact⟨(x.P,B,c,aK),λI j=>aM W _ (λ_ _ _ _=>rfl) j,aF⟩
 .exact⟨(x.hm,B,c,aK),λI j=>aM W _ (λ_ _ _ _=>rfl) j,aF⟩
def v1(X:ej->aG)(D:Nat)(x:bM)(W:ej)(m s:Nat)(v:a2)(C:Q):Prop:=(∃n E,v=.tuple #[.int .i64 n,.bool E])/\∃j,W.le j/\C=[X j,bA D x j m s]
def ahe(Z:x.ok D)(b j)(U:j<=50000):Y 689 #[.pointer (ab ⟨b,0,af⟩),.int .i64 1] [fb.jz b j W.gA,bA D x W m s] (v1 (λE=>fb.jz b (j+1) E.gA) D x W m s):=by
 apply O.pre (λh q=>q.swap) (O.open (aav Z) λar am=>?_);apply O.open (λ_ h=>h) λy ah=>?_
 refine O.cr (O.pre (λh q=>C.perm ((List.Perm.cons _ (List.Perm.swap ..)).trans (List.Perm.swap ..)) q) (fb.abJ b j _ D _ _ _ _ U)) λv ap aq ⟨bB,n,H,I,R,J⟩ q=>⟨_,⟨⟨n,H,I⟩,⟨bB,W.gC,W.it,W.fJ,W.K⟩,⟨R,λ_ h=>h,λ_ h=>h,λ_ h=>h,λ_ h=>h⟩,rfl⟩,?_⟩;subst J;apply C.bl (λh q=>?_) q;exact C.fold (λh q=>am bB h (d8 (λh q=>⟨y,ah,C.one q⟩) q)) q
def ahf(Z:x.ok D)(b j)(U:j<=50000):Y 666 #[.pointer (ab ⟨b,0,af⟩),.int .i64 1] [et.iS b j W.gC,bA D x W m s] (v1 (λE=>et.iS b (j+1) E.gC) D x W m s):=by
 apply O.pre (λh q=>q.swap) (O.open (aax Z) λar am=>?_);apply O.open (λ_ h=>h) λy ah=>?_
 refine O.cr (O.pre (λh q=>C.perm ((List.Perm.cons _ (List.Perm.swap ..)).trans (List.Perm.swap ..)) q) (et.aeH b j _ D y _ _ U)) λv ap aq ⟨bB,n,H,I,R,J⟩ q=>⟨_,⟨⟨n,H,I⟩,⟨W.gA,bB,W.it,W.fJ,W.K⟩,⟨λ_ h=>h,R,λ_ h=>h,λ_ h=>h,λ_ h=>h⟩,rfl⟩,?_⟩;subst J;apply C.bl (λh q=>?_) q;exact C.fold (λh q=>am bB h (d8 (λh q=>⟨y,ah,C.one q⟩) q)) q
def ahd(am:x.ok D)(b j)(Z:j<=50000):Y 714 #[.pointer (ab ⟨b,0,af⟩),.int .i64 1] [YteinodmjohkmmaaGreat.S.eT.jy b j W.it,bA D x W m s] (v1 (λH=>YteinodmjohkmmaaGreat.S.eT.jy b (j+1) H.it) D x W m s):=by
 apply O.pre (λh q=>q.swap) (O.open (aau am) λav ap=>?_);apply O.open (λ_ h=>h) λy E=>?_
 have ah:aa y<=1000:=by have:=E.length_eq;omega
 refine O.cr (O.pre (λh q=>C.perm ((List.Perm.cons _ (List.Perm.swap ..)).trans (List.Perm.swap ..)) q) (YteinodmjohkmmaaGreat.S.eT.aa1 b j _ D y _ _ Z ah)) λv aq ar ⟨bB,n,I,J,U,R⟩ q=>⟨_,⟨⟨n,I,J⟩,⟨W.gA,W.gC,bB,W.fJ,W.K⟩,⟨λ_ h=>h,λ_ h=>h,U,λ_ h=>h,λ_ h=>h⟩,rfl⟩,?_⟩;subst R;apply C.bl (λh q=>?_) q;exact C.fold (λh q=>ap.2 bB h (d8 (λh q=>⟨y,E,C.one q⟩) q)) q
def ahh(am:x.ok D)(b j)(Z:j<=50000):Y 735 #[.pointer (ab ⟨b,0,af⟩),.int .i64 1] [YteinodmjohkmmaaGreat.S.fw.jA b j W.fJ,bA D x W m s] (v1 (λH=>YteinodmjohkmmaaGreat.S.fw.jA b (j+1) H.fJ) D x W m s):=by
 apply O.pre (λh q=>q.swap) (O.open (aay am) λav ap=>?_);apply O.open (λ_ h=>h) λy E=>?_
 have ah:aa y.k<=1000:=by have:=E.1.length_eq;omega
 refine O.cr (O.pre (λh q=>C.perm ((List.Perm.cons _ (List.Perm.swap ..)).trans (List.Perm.swap ..)) q) (YteinodmjohkmmaaGreat.S.fw.agr b j _ D y _ _ Z ah)) λv aq ar ⟨bB,n,I,J,U,R⟩ q=>⟨_,⟨⟨n,I,J⟩,⟨W.gA,W.gC,W.it,bB,W.K⟩,⟨λ_ h=>h,λ_ h=>h,λ_ h=>h,U,λ_ h=>h⟩,rfl⟩,?_⟩;subst R;apply C.bl (λh q=>?_) q;exact C.fold (λh q=>ap.2 bB h (d8 (λh q=>⟨y,E,C.one q⟩) q)) q
def ahg(J:x.ok D)(b):Y 644 #[.pointer (ab ⟨b,0,af⟩),.int .i64 1] [R.cY.kq b W.K,bA D x W m s] (v1 (λj=>R.cY.kq b j.K) D x W m s):=by
 apply O.pre (λh q=>q.swap) (O.open (aaw J) λap Z=>?_);apply O.open (λ_ h=>h) λy U=>?_
 refine O.cr (O.pre (λh q=>C.perm ((List.Perm.cons _ (List.Perm.swap ..)).trans (List.Perm.swap ..)) q) (R.cY.afB b _ D y _ _)) λv ah am ⟨⟨n,E,H⟩,I⟩ q=>⟨_,⟨⟨n,E,H⟩,W,W.refl,rfl⟩,?_⟩;subst I;apply C.bl (λh q=>?_) q;exact C.fold (λh q=>Z h (d8 (λh q=>⟨y,U,C.one q⟩) q)) q
end
structure ys where
 k:Nat
 b:Nat
 q:d4
 of:Int
 A:Option cg
 n:Nat
 d:Nat
def ox(C m:Nat)(j:ej)(b:Nat):aG:=if C=1 then fb.jz b m j.gA else if C=2 then R.cY.kq b j.K else if C=3 then et.iS b m j.gC else if C=5 then YteinodmjohkmmaaGreat.S.fw.jA b m j.fJ else YteinodmjohkmmaaGreat.S.eT.jy b m j.it
def ys.ok(y:ys):Prop:=(y.k=1\/y.k=2\/y.k=3\/y.k=5\/y.k=6)/\(y.q.cj=al->y.n=0)/\(y.k=2->y.q.cj=ag)
@[reducible] def ys.l (y:ys) (m:Nat) (j:ej) (c:Nat):List aG:=[ah c 373 (hR (po y.k) y.b y.q y.of y.A y.n y.d),ox y.k m j y.b]
def lz(m:Nat)(j:ej)(c:Nat):aG:=λh=>∃y:ys,y.ok/\C (y.l m j c) h
section
variable{s:Nat}{W hO:ej}
def aiX{j m I b}(E:m<=I)(C:W.le hO):∀h,ox j m W b h->ox j I hO b h:=λh=>by
 by_cases h1:j=1;·subst h1;exact fb.YP E C.gA h
 by_cases ae:j=2;·subst ae;exact R.cY.YR C.K h
 by_cases an:j=3;·subst an;exact et.YQ E C.gC h
 by_cases H:j=5;·subst H;exact YteinodmjohkmmaaGreat.S.fw.YS E C.fJ h
 unfold ox;rw[a8 h1,a8 ae,a8 an,a8 H,a8 h1,a8 ae,a8 an,a8 H];exact YteinodmjohkmmaaGreat.S.eT.YO E C.it h
def N3{m j c}(H:m<=j)(E:W.le hO):∀h,lz m W c h->lz j hO c h:=λh ⟨y,o,q⟩=>⟨y,o,C.bl (λh q=>d8 (aiX H E) q) q⟩
instance:g8 ar 464 "Step" 689:=⟨cq⟩
instance:g8 ar 458 "Step" 644:=⟨cq⟩
instance:g8 ar 462 "Step" 666:=⟨cq⟩
instance:g8 ar 470 "Step" 735:=⟨cq⟩
instance:g8 ar 467 "Step" 714:=⟨cq⟩
instance:g8 ar 464 "Done" 686:=⟨cq⟩
instance:g8 ar 458 "Done" 641:=⟨cq⟩
instance:g8 ar 462 "Done" 663:=⟨cq⟩
instance:g8 ar 470 "Done" 732:=⟨cq⟩
instance:g8 ar 467 "Done" 711:=⟨cq⟩
instance:g8 ar 464 "N" 688:=⟨cq⟩
instance:g8 ar 458 "N" 643:=⟨cq⟩
instance:g8 ar 462 "N" 665:=⟨cq⟩
instance:g8 ar 470 "N" 734:=⟨cq⟩
instance:g8 ar 467 "N" 713:=⟨cq⟩
instance:g8 ar 464 "IDs" 687:=⟨cq⟩
instance:g8 ar 458 "IDs" 642:=⟨cq⟩
instance:g8 ar 462 "IDs" 664:=⟨cq⟩
instance:g8 ar 470 "IDs" 733:=⟨cq⟩
instance:g8 ar 467 "IDs" 712:=⟨cq⟩
def YX(I:x.ok D)(c E)(J:E<=50000):Y 200 #[.pointer (ab ⟨c,0,af⟩),.int .i64 1] [lz E W c,bA D x W m s] (v1 (λhO=>lz (E+1) hO c) D x W m s):=by
 apply O.open (λ_ h=>h) λy am=>?_
 let⟨R,b,q,H,A,n,j⟩:=y;have ax:Y 200 #[.pointer (ab ⟨c,0,af⟩),.int .i64 1] (ah c 373 (hR (po R) b q H A n j):: [ox R E W b,bA D x W m s]) λv Z=>(∃n j,v=.tuple #[.int .i64 n,.bool j])/\∃U,(∃hO,W.le hO/\U=[ox R (E+1) hO b,bA D x hO m s])/\Z=ah c 373 (hR (po R) b q H A n j)::U:=by
  let⟨h1,ae,an⟩:=am;rcases h1 with h1|h1|h1|h1|h1<;>(replace h1:=h1;subst h1)
  .exact y9 c b 464 q H A n j _ (ahe I b E J)
  .exact y9 c b 458 q H A n j _ (ahg I b)
  .exact y9 c b 462 q H A n j _ (ahf I b E J)
  .exact y9 c b 470 q H A n j _ (ahh I b E J)
  .exact y9 c b 467 q H A n j _ (ahd I b E J)
 refine ax.cr λv Z az ⟨ap,U,⟨hO,av,aq⟩,ar⟩ q=>⟨_,⟨ap,hO,av,rfl⟩,?_⟩;subst ar aq;exact C.fold (λh q=>⟨_,am,q⟩) q
def YW(c j)(aq:j<=50000):Y 203 #[.pointer (ab ⟨c,0,af⟩)] [lz j W c] λv ap=>∃(Z:Int) (B:a3) (I:Nat) (l:List Int) (am:Bool),v=.tuple #[.agg #[.int .i64 Z,.slice B (aa l) I],.bool am]/\((0<aa l->∃b,B=ab ⟨b,0,af⟩)/\aa l<=100000000)/\ap=[E 3 1 B (aa l) I (J l),lz j W c]:=by
 apply O.open (λ_ h=>h) λy av=>?_
 let⟨ar,b,q,U,A,n,H⟩:=y;have aB:Y 203 #[.pointer (ab ⟨c,0,af⟩)] (ah c 373 (hR (po ar) b q U A n H):: [ox ar j W b]) λv ap=>∃(Z:Int) (B:Option _) (I:Nat) (l:List Int) (am:Bool),v=.tuple #[.agg #[.int .i64 Z,.slice B (aa l) I],.bool am]/\((0<aa l->∃b,B=ab ⟨b,0,af⟩)/\aa l<=100000000)/\ap=E 3 1 B (aa l) I (J l)::ah c 373 (hR (po ar) b q U A n H):: [ox ar j W b]:=by
  let⟨h1,ae,an⟩:=av;rcases h1 with h1|h1|h1|h1|h1<;>(replace h1:=h1;subst h1)
  .exact y7 c b 464 q U A n H _ (fb.abD b j _ []) (fb.abF b j _ []) λh=>⟨ae h,fb.abE b j _ [] aq⟩
  .exact y7 c b 458 q U A n H _ (R.cY.aft b _ []) (R.cY.afx b _ []) λh=>by simp_all
  .exact y7 c b 462 q U A n H _ (et.aex b j _ []) (et.aeD b j _ []) λh=>⟨ae h,et.aez b j _ [] aq⟩
  .exact y7 c b 470 q U A n H _ (YteinodmjohkmmaaGreat.S.fw.af9 b j _ []) (YteinodmjohkmmaaGreat.S.fw.agl b j _ []) λh=>⟨ae h,YteinodmjohkmmaaGreat.S.fw.agh b j _ [] aq⟩
  .exact y7 c b 467 q U A n H _ (YteinodmjohkmmaaGreat.S.eT.aaT b j _ []) (YteinodmjohkmmaaGreat.S.eT.aaX b j _ []) λh=>⟨ae h,YteinodmjohkmmaaGreat.S.eT.aaV b j _ [] aq⟩
 refine aB.cr λv ap aD ⟨Z,B,I,l,am,ax,az,aA⟩ q=>⟨_,⟨Z,B,I,l,am,ax,az,rfl⟩,?_⟩;subst aA;exact C.bl (λh q=>C.fold (λh q=>⟨_,av,q⟩) q) q
end
@[reducible] def aff (q:d4):List Int:=[q.kind,q.dy.cN,q.dy.cQ,q.dy.c9,q.dy.cZ,q.wn.cN,q.wn.cQ,q.wn.y,q.x,q.hi]
def w3(x:bM)(q:d4)(j:Nat):Int:=if j=34 then x.v else(aff q).getD (j-61) 0
section
variable{s:Nat}{W:ej}{q:d4}
def mz(D:Nat)(x:bM)(W:ej)(m s:Nat)(v:a2)(C:Q):Prop:=∃c j,v=.tuple #[.pointer (ab ⟨c,0,af⟩),.int .i64 0]/\W.le j/\C=[lz 0 j c,bA D x j m s]
def IV{Ω:dO}{j}(H:q.kind=(j:Nat))(E:Ω.int=w3 x q)(C:bb Ω):bK C [.cp (.i .i64 j::e2 62 9)] [q.v]:=by
 refine .cons (.cp (.cons (UM H) ?_)) .nil;have:=se C 9 62;rw[E]at this;trivial
theorem dK.e7{Ω:dO}{j}(I:q.kind=(j:Nat))(H:Ω.int=w3 x q)(O:q.e7=0):dK Ω (259,qO [.cp (.i .i64 j::e2 62 9)] eW):=
 dK.val (us:=[q.v]) (λC=>IV I H C) (v0:=.int .i64 (0:Nat)) (λC=> .i) λE=>(II q E).mono λv J ⟨a,b⟩=>⟨by simp_all,b⟩
def N4{Ω}{J:bb Ω}{j E c Y}(ap:q.kind=(j:Nat))(am:Ω.int=w3 x q){O}{A:a3}{n H}(Z:∀R,bY J O R->R=.slice A n H)(I:∃U,J 9=ab (E,U)){h}:fk J (dA j O) c Y h->ah c 373 (hR (po j) E q (hI j:Nat) A n H) h:=λ⟨ar,v,a⟩=>by
 have aX:ar=hR (po j) E q (hI j:Nat) A n H:=by
  cases v with|cons C v=>?_
  cases C with|y C=>?_
  cases C with|ai C=>?_
  let⟨U,I⟩:=I;rw[I]at C;cases C;cases v with|cons aq v=>?_
  cases aq;cases v with|cons av v=>?_
  cases v with|cons ax v=>?_
  cases v with|cons az v=>?_
  cases v with|cons aA v=>?_
  cases v with|cons aB v=>?_
  cases v with|cons aD v=>?_
  cases v with|cons aE v=>?_
  cases v with|cons aF v=>?_
  cases v with|cons aG v=>?_
  cases v with|cons aJ v=>?_
  cases v with|cons aI v=>?_
  cases v;cases av;cases ax;cases az;cases aA;cases aB;cases aD;cases aE;cases aF;cases aG;cases aJ;rw[Z _ aI,am,hR,ap];rfl
 simp_all
theorem yL{α}:∀l j:List α,k0 l j=l++j
 | [],j=>rfl
 |x::l,j=>congrArg (x:: ·) (yL l j)
def abc:hW (λo=>oq o (te (aa dj)) tj xp) dj=ab dj:=by rfl
def PV: [1,2,3,4,5].map (λj=>dj[j+2]?)=[1,2,3,4,5].map λj=>ab (.cx j):=by rfl
def PW: [1,2,3,4,5].map (λj=>og j dj)=[1,2,3,4,5].map λj=>1:=by rfl
def tq{Ω}{C:bb Ω}{R j o}(E:R[j]?=ab o){h}(q:dg C (fS R) j h):∃B c,C j=ab (B,c)/\fk C o B c h:=by
 unfold dg at q;rw[pZ,E]at q;cases H:C j with
 |none=>simp_all
 |some I=>rw[H]at q;grind
def xf{H R J bj:Nat}{ι:Type}{G:ι->Nat->Nat->aG}{E:ι->ej}(aX:x.ok D)(aE:x.k=0)(aI:q.kind=(H:Nat))(aT:po H=po R)(bt:R=1\/R=3\/R=5\/R=6)(aF:J∈ [1,2,3,4,5])
  (aW:f7 (uG H) gW (k0 ke [18,bj]) (.cB [.ai 8 0,eW]) (k0 dj [dA H .gk,.cx 31])=ag) (aY:∀B c h,eP D x W m m J B c h->∃y,G y B c h) (bp:∀y B c h,G y B c h->eP D x (E y) m m J B c h) (aV:∀y,W.le (E y))
  (bx:∀y j,j<=5->j≠J->eP D x (E y) m m j=eP D x W m m j) (a9:∀y (Ω:dO),Ω.int=w3 x q->Ω.d5 J=G y->Ω.d5 31=(λB _=>ox R 0 (E y) B)->mB Ω ar (Il H)):
  Y 282 #[.pointer (ab ⟨s,0,af⟩),q.v,.int .i64 (hI H:Nat)] [bA D x W m s] (mz D x W m s):=by
 have aD:=nM.1 PV _ aF;have aP:=nM.1 PW _ aF;have a0:J≠31:=λI=>by simp_all
 apply O.open (E:=λy:ι=>[gw ⟨uz x hz,λj=>if j=J then G y else eP D x W m m j⟩ dj s]) (D:=λ_=>True) (λh U=>?_) λy _=>?_
 .obtain⟨y,aZ⟩:=MA aD (λj ax=>z1 aP aD ax) aY h (wq aX aE p p p h U);exact⟨y,trivial,C.one aZ⟩
 .rw[dC];let Ω:dO:=⟨w3 x q,λj=>if j=J then G y else if j=31 then(λB _=>ox R 0 (E y) B)else eP D x W m m j⟩;have aQ:=a9 y Ω p (bJ p) ((a8 (Ne.symm a0)).trans (bJ p));refine(Ee (Ω:=Ω) (av:=[.cp (.i .i64 H::e2 62 9),.i .i64 (hI H)]) (aq:=[q.v,.int .i64 (hI H:Nat)]) (uG H) p aW ⟨_,rfl⟩ aQ (λav=>?_) λh U=>?_).cr λv bo ah ⟨av,Z,aS,aO⟩ U=>?_
  .have:=IV (Ω:=Ω) aI p av;cases this with
   |cons a _=>exact .cons a (.cons .i .nil)
  .apply qr (Ω':=Ω) Hc (λj az I=>?_) (λj az I B c ah q=>?_) h U
   .obtain⟨rfl,rfl⟩:=tk I;rfl
   .obtain⟨rfl,aR⟩:=xq I;grind
  .cases Z with|cB Z=>?_
   cases Z with|cons aB Z=>?_
   cases aB with| @ai _ _ c bq aB=>?_
   cases Z with|cons bk Z=>?_
   cases Z;cases bk;refine⟨[lz 0 (E y) c,bA D x (E y) m s],⟨c,E y,rfl,aV y,rfl⟩,?_⟩;subst aO;rw[yL]at U;have bm:=BF (Ω':=ic D x (E y) m m hz) abc (λj az I=>by obtain⟨rfl,rfl⟩:=tk I;rfl) (λj az I B c ah q=>?_) aS bv ah U
   .have I:dz x=dj:=by rw[dz,bJ aE]
    have fZ:C (bA D x (E y) m s:: [dg av (fS (dj++[dA H .gk,.cx 31])) 8,dg av (fS (dj++[dA H .gk,.cx 31])) 9]) ah:=by
     rw[bA,I];exact bm
    apply C.swap (C.bl (λh U=>C.fold (N:=[_,_]) (L:=[]) (λh U=>?_) U) fZ);let⟨a3,a4,aL,be,bg,a,l⟩:=U;let⟨aA,a7,aM,bh,bi,b,bw⟩:=l;let⟨bn,br,aJ,ap⟩:=tq (o:=dA H .gk) bN a;let⟨am,aK,bc,aq⟩:=tq (o:=.cx 31) bN b;rw[aB]at aJ;cases aJ;have ap:=N4 (Ω:=Ω.fF gW) (q:=q) (x:=x) (E:=am) (A:=af) (n:=0) (H:=0) aI p (λbz v=>by cases v;rfl) ⟨_,bc⟩ ap;have aq:ox R 0 (E y) am aA:=by
     have aq:(if 31=J then G y else if 31=31 then(λB _=>ox R 0 (E y) B)else eP D x W m m 31) am aK aA:=aq;grind
    refine⟨⟨R,am,q,hI H,af,0,0⟩,⟨by grind,λ_=>rfl,λI=>by simp_all⟩,?_⟩;rw[aT]at ap;exact⟨a3,a4,aL,be,bg,ap,aA,a7,aM,bh,bi,aq,trivial⟩
   .obtain⟨rfl,aR⟩:=xq I;show eP D x (E y) m m j B c ah;have bb:(if j=J then G y else if j=31 then(λB _=>ox R 0 (E y) B)else eP D x W m m j) B c ah:=q
    by_cases ax:j=J
    .simp_all
    .rw[a8 ax,a8 (show ¬j=31 by omega)]at bb;simp_all
end
section
variable{s:Nat}{W:ej}{q:d4}
def u0{Ω}(j:bb Ω)(n B c v)(h:j n=ab (B,c))(C:v=.pointer (ab ⟨B,0,af⟩)):bY j (nw n) v:=by rw[C];exact .ai h
def xg{j C:Nat}(E:j∈ [1,2,3,4,5,6,7])(ae:aH j 2=al)(H:ax (aH (hI j) 3) 21 19=C):f7 (uG j) gW (k0 ke [18,C]) (.cB [.ai 8 0,eW]) (k0 dj [dA j .gk,.cx 31])=ag:=by
 have h:=rm ac2 j E;unfold QZ at h;rw[ae]at h;subst H;exact h
def vT(l:List Nat):={bB:List Nat// ∀a∈l,a∈bB}
def acU(U:x.ok D)(J:x.k=0)(Z:q.e7=0)(E:q.kind=(1:Nat)):Y 282 #[.pointer (ab ⟨s,0,af⟩),q.v,.int .i64 (hI 1:Nat)] [bA D x W m s] (mz D x W m s):=
 xf (H:=1) (R:=1) (J:=1) (bj:=19) (ι:=vT W.gA) (G:=λy=>xb D x.P m y.1) (E:=λy=>⟨y.1,W.gC,W.it,W.fJ,W.K⟩) U J E p (.inl p) ao (xg ao p p) (λB c h j=>by
  obtain⟨bB,a,b⟩:=abO j;exact⟨⟨bB,a⟩,b⟩) (λy B c h j=>abP j) (λy=>⟨y.2,λ_ h=>h,λ_ h=>h,λ_ h=>h,λ_ h=>h⟩) (λy aq ap R=>GW R ad) λy Ω C h1 O=>
  jY (p0 (a:=(259,qO [.cp (.i .i64 1::e2 62 9)] eW)) (b:=(393,lH 3 1 1 31 yW nw)) (dK.e7 E C Z) (dK.mk (us:=λB c=>[.pointer (ab ⟨B,0,af⟩),q.dy.v]) (aK:=λv B c=>v=.pointer (ab ⟨B,0,af⟩)) (λah b B c h=> .cons (.ai h) (.cons (.cp (by
    have:=se ah 4 62;rw[C]at this;trivial)) .nil)) u0 λB c=>by
   rw[h1,O];exact(abQ _ B c).mono λv am ⟨b,H,I⟩=>⟨b,0,H,I⟩))
def acW(U:x.ok D)(J:x.k=0)(Z:q.e7=0)(E:q.kind=(3:Nat)):Y 282 #[.pointer (ab ⟨s,0,af⟩),q.v,.int .i64 (hI 3:Nat)] [bA D x W m s] (mz D x W m s):=
 xf (H:=3) (R:=3) (J:=3) (bj:=21) (ι:=vT W.gC) (G:=λy=>p3 D x.P y.1) (E:=λy=>⟨W.gA,y.1,W.it,W.fJ,W.K⟩) U J E p (.inr (.inl p)) ao (xg ao p p) (λB c h j=>by
  obtain⟨bB,a,b⟩:=Sy j;exact⟨⟨bB,a⟩,b⟩) (λy B c h j=>Sz j) (λy=>⟨λ_ h=>h,y.2,λ_ h=>h,λ_ h=>h,λ_ h=>h⟩) (λy aq ap R=>CS R ad) λy Ω C h1 O=>
  jY (p0 (a:=(259,qO [.cp (.i .i64 3::e2 62 9)] eW)) (b:=(392,lH 5 3 3 31 [.cp (e2 66 3)] nw)) (dK.e7 E C Z) (dK.mk (us:=λB c=>[.pointer (ab ⟨B,0,af⟩),.agg #[.int .i64 q.wn.cN,.int .i64 q.wn.cQ,.int .i64 q.wn.y]]) (aK:=λv B c=>v=.pointer (ab ⟨B,0,af⟩)) (λah b B c h=> .cons (.ai h) (.cons (.cp (by
    have:=se ah 3 66;rw[C]at this;trivial)) .nil)) u0 λB c=>by
   rw[h1,O];exact(aeX _ B c).mono λv am ⟨b,H,I⟩=>⟨b,0,H,I⟩))
def acX(U:x.ok D)(J:x.k=0)(Z:q.e7=0)(E:q.kind=(4:Nat)):Y 282 #[.pointer (ab ⟨s,0,af⟩),q.v,.int .i64 (hI 4:Nat)] [bA D x W m s] (mz D x W m s):=
 xf (H:=4) (R:=3) (J:=3) (bj:=21) (ι:=vT W.gC) (G:=λy=>p3 D x.P y.1) (E:=λy=>⟨W.gA,y.1,W.it,W.fJ,W.K⟩) U J E p (.inr (.inl p)) ao (xg ao p p) (λB c h j=>by
  obtain⟨bB,a,b⟩:=Sy j;exact⟨⟨bB,a⟩,b⟩) (λy B c h j=>Sz j) (λy=>⟨λ_ h=>h,y.2,λ_ h=>h,λ_ h=>h,λ_ h=>h⟩) (λy aq ap R=>CS R ad) λy Ω C h1 O=>
  jY (p0 (a:=(259,qO [.cp (.i .i64 4::e2 62 9)] eW)) (b:=(391,lH 5 3 3 31 [.cp (e2 66 3)] nw)) (dK.e7 E C Z) (dK.mk (us:=λB c=>[.pointer (ab ⟨B,0,af⟩),.agg #[.int .i64 q.wn.cN,.int .i64 q.wn.cQ,.int .i64 q.wn.y]]) (aK:=λv B c=>v=.pointer (ab ⟨B,0,af⟩)) (λah b B c h=> .cons (.ai h) (.cons (.cp (by
    have:=se ah 3 66;rw[C]at this;trivial)) .nil)) u0 λB c=>by
   rw[h1,O];exact(aeV _ B c).mono λv am ⟨b,H,I⟩=>⟨b,0,H,I⟩))
def acY(H:x.ok D)(O:x.k=0)(ah:q.e7=0)(E:q.kind=(5:Nat)):Y 282 #[.pointer (ab ⟨s,0,af⟩),q.v,.int .i64 (hI 5:Nat)] [bA D x W m s] (mz D x W m s):=
 xf (H:=5) (R:=5) (J:=5) (bj:=19) (ι:=vT W.fJ) (G:=λy=>xR D x.S m y.1) (E:=λy=>⟨W.gA,W.gC,W.it,y.1,W.K⟩) H O E p (.inr (.inr (.inl p))) ao (xg ao p p) (λB c h j=>by
  obtain⟨bB,a,b⟩:=agJ j;exact⟨⟨bB,a⟩,b⟩) (λy B c h j=>agK j) (λy=>⟨λ_ h=>h,λ_ h=>h,λ_ h=>h,y.2,λ_ h=>h⟩) (λy ap U Z=>GX (.inl U) Z ad) λy Ω C h1 R=>
  jY (p0 (a:=(259,qO [.cp (.i .i64 5::e2 62 9)] eW)) (b:=(398,lH 7 5 5 31 [.dU 69] nw)) (dK.e7 E C ah) (dK.mk (us:=λB c=>[.pointer (ab ⟨B,0,af⟩),.int .i64 q.x]) (aK:=λv B c=>v=.pointer (ab ⟨B,0,af⟩)) (λaq b B c h=> .cons (.ai h) (.cons (he (by rw[C];rfl)) .nil)) u0 λB c=>by
   rw[h1,R];exact(agL _ (by have:=wT H;omega) B c).mono λv am ⟨b,I,J⟩=>⟨b,0,I,J⟩))
def acZ(U:x.ok D)(J:x.k=0)(Z:q.e7=0)(E:q.kind=(6:Nat)):Y 282 #[.pointer (ab ⟨s,0,af⟩),q.v,.int .i64 (hI 6:Nat)] [bA D x W m s] (mz D x W m s):=
 xf (H:=6) (R:=6) (J:=4) (bj:=19) (ι:=vT W.it) (G:=λy=>uC D x.S y.1) (E:=λy=>⟨W.gA,W.gC,y.1,W.fJ,W.K⟩) U J E p (.inr (.inr (.inr p))) ao (xg ao p p) (λB c h C=>by
  obtain⟨bB,a,b⟩:=Qf C;exact⟨⟨bB,a⟩,b⟩) (λy B c h C=>Qg C) (λy=>⟨λ_ h=>h,λ_ h=>h,y.2,λ_ h=>h,λ_ h=>h⟩) (λy ap am R=>CR R ad) λy Ω j h1 O=>
  jY (p0 (a:=(259,qO [.cp (.i .i64 6::e2 62 9)] eW)) (b:=(397,lH 6 4 4 31 [.dU 69,.dU 70] nw)) (dK.e7 E j Z) (dK.mk (us:=λB c=>[.pointer (ab ⟨B,0,af⟩),.int .i64 q.x,.int .i64 q.hi]) (aK:=λv B c=>v=.pointer (ab ⟨B,0,af⟩)) (λaq b B c h=> .cons (.ai h) (.cons (he (by rw[j];rfl)) (.cons (he (by rw[j];rfl)) .nil))) u0 λB c=>by
   rw[h1,O];exact(Qe _ _ B c).mono λv ah ⟨b,H,I⟩=>⟨b,0,H,I⟩))
def ac0(U:x.ok D)(J:x.k=0)(Z:q.e7=0)(E:q.kind=(7:Nat)):Y 282 #[.pointer (ab ⟨s,0,af⟩),q.v,.int .i64 (hI 7:Nat)] [bA D x W m s] (mz D x W m s):=
 xf (H:=7) (R:=6) (J:=4) (bj:=19) (ι:=vT W.it) (G:=λy=>uC D x.S y.1) (E:=λy=>⟨W.gA,W.gC,y.1,W.fJ,W.K⟩) U J E p (.inr (.inr (.inr p))) ao (xg ao p p) (λB c h C=>by
  obtain⟨bB,a,b⟩:=Qf C;exact⟨⟨bB,a⟩,b⟩) (λy B c h C=>Qg C) (λy=>⟨λ_ h=>h,λ_ h=>h,y.2,λ_ h=>h,λ_ h=>h⟩) (λy ap am R=>CR R ad) λy Ω j h1 O=>
  jY (p0 (a:=(259,qO [.cp (.i .i64 7::e2 62 9)] eW)) (b:=(397,lH 6 4 4 31 [.dU 69,.dU 70] nw)) (dK.e7 E j Z) (dK.mk (us:=λB c=>[.pointer (ab ⟨B,0,af⟩),.int .i64 q.x,.int .i64 q.hi]) (aK:=λv B c=>v=.pointer (ab ⟨B,0,af⟩)) (λaq b B c h=> .cons (.ai h) (.cons (he (by rw[j];rfl)) (.cons (he (by rw[j];rfl)) .nil))) u0 λB c=>by
   rw[h1,O];exact(Qe _ _ B c).mono λv ah ⟨b,H,I⟩=>⟨b,0,H,I⟩))
end
def oY:List dn:=iQ .hc λj=>ax (aH j 2) 37 j
def Ir(j:Nat):Option Nat:=ax (aH j 37) (ab j) (ax (aH j 2) af (xp j))
def JY(j:Nat):Option Nat:=ax (aH j 37) (ab 2) (ax (aH j 2) af (xp j))
def Yi:hW (λo=>oq o (te (aa oY)) tj Ir) oY=ab oY:=by rfl
def Yj:ny tj JY oY=ab dj:=by rfl
def NK:oY[4]?=ab (.cx 37):=by rfl
def Yh:og 37 oY=1:=by rfl
def aef{j C}(h:Ir j=ab C):j=C/\(j=37\/(j<=5/\j≠2)):=by
 unfold Ir at h;cases E:aH j 37<;>rw[E]at h
 .cases h1:aH j 2<;>rw[h1]at h
  .obtain⟨rfl,H⟩:=xq h;exact⟨rfl,.inr ⟨H,λI=>by simp_all⟩⟩
  trivial
 .cases h;simp_all
def aih{j C}(h:JY j=ab C):(j=37/\C=2)\/(j=C/\j<=5/\j≠2):=by
 unfold JY at h;cases E:aH j 37<;>rw[E]at h
 .cases h1:aH j 2<;>rw[h1]at h
  .obtain⟨rfl,H⟩:=xq h;exact .inr ⟨rfl,H,λI=>by simp_all⟩
  trivial
 .cases h;simp_all
def ac7:f7 (uG 2) gW (k0 ke [18,22,23,21]) (.cB [.ai 8 0,eW]) (k0 oY [dA 2 (.ei 10),.cx 31,.cx 33,.cx 36])=ag:=by rfl
section
variable{s:Nat}{W:ej}{q:d4}
abbrev Mp(P:List aj)(m:Nat)(K:Q):={y:kX P m//aS y.x.N K}
def uR(x:bM)(q:d4)(D m:Nat)(W:ej)(y:kX x.P m):dO:=⟨w3 x q,λj=>if j=2 then y.G D else if j=31 then(λB _=>R.cY.kq B y.x.N)else if j=33 then G8 (R.cY.qH q.dy y.S.d)else if j=36 then y.qT else if j=37 then y.pa D else eP D x W m m j⟩
def acV(aP:x.ok D)(aO:x.k=0)(J:m<=40000)(bn:q.e7=0)(az:q.kind=(2:Nat)):Y 282 #[.pointer (ab ⟨s,0,af⟩),q.v,.int .i64 (hI 2:Nat)] [bA D x W m s] (mz D x W m s):=by
 have aM:=nM.1 PV 2 ao;have a9:=nM.1 PW 2 ao;have bm:D<=300:=by have:=aP.le;omega
 apply O.open (E:=λy:Mp x.P m W.K=>[gw ⟨uz x hz,λj=>if j=2 then y.1.G D else eP D x W m m j⟩ dj s]) (D:=λ_=>True) (λh H=>?_) λ⟨y,bi⟩ _=>?_
 .obtain⟨y,bp⟩:=MA (ι:=Mp _ m _) (G:=λy=>y.1.G D) aM (λj aq=>z1 a9 aM aq) (λB c h H=>by
   obtain⟨y,a,b⟩:=kX.of H;exact⟨⟨y,a⟩,b⟩) h (wq aP aO p p p h H)
  exact⟨y,trivial,C.one bp⟩
 .rw[dC];have aT:∀I:bb (uR x q D m W y),bK I yW [q.dy.v]:=λI=> .cons (.cp (se I 4 62)) .nil;have bc:mB (uR x q D m W y) ar (Il 2):=jY (H9 (a:=(259,qO [.cp (.i .i64 2::e2 62 9)] eW)) (b:=(388,lH 4 2 37 36 [] .ei)) (c:=(387,DA TH 36 36 31 (λb=>[.cp (e2 62 4),.ei b]) nw)) (j:=(389,lH 4 37 37 33 yW .ei)) (dK.e7 (x:=x) (Ω:=uR x q D m W y) az p bn)
   (dK.mk (us:=λB c=>[.pointer (ab ⟨B,0,af⟩)]) (aK:=λv B c=>v=l1 B c) (λI b B c h=> .cons (.ai h) .nil) (λI n B c v h E=>by rw[E];exact .ei h) λB c=>acx bm y B c)
   (dK.mk (us:=λB c=>[q.dy.v,l1 B c]) (aK:=λv B c=>v=.pointer (ab ⟨B,0,af⟩)) (λI b B c h=>by
    cases aT I with
    |cons a _=>exact .cons a (.cons (.ei h) .nil)) u0 λB c=>(aco y q.dy B c).mono λv aV ⟨b,am,aE⟩=>⟨b,0,am,aE⟩)
   (dK.mk (us:=λB c=>[.pointer (ab ⟨B,0,af⟩),q.dy.v]) (aK:=λv B c=>v=l1 B c) (λI b B c h=> .cons (.ai h) (aT I)) (λI n B c v h E=>by rw[E];exact .ei h) λB c=>acp ad y q.dy B c))
  refine(Ee (Ω:=uR x q D m W y) (av:=[.cp (.i .i64 2::e2 62 9),.i .i64 (hI 2)]) (aq:=[q.v,.int .i64 (hI 2:Nat)]) (uG 2) p ac7 ⟨_,rfl⟩ bc (λI=>?_) λh H=>?_).cr λv aV J ⟨I,am,bg,aE⟩ H=>?_
  .have:=IV (x:=x) (Ω:=uR x q D m W y) az p I;cases this with
   |cons a _=>exact .cons a (.cons .i .nil)
  .apply qr (Ω':=uR x q D m W y) Hc (λj av E=>?_) (λj av E B c J U=>?_) h H
   .obtain⟨rfl,rfl⟩:=tk E;rfl
   .obtain⟨rfl,be⟩:=xq E;have U:(if j=2 then y.G D else eP D x W m m j) B c J:=U;show(if j=2 then y.G D else if j=31 then _ else if j=33 then _ else if j=36 then _ else if j=37 then _ else eP D x W m m j) B c J;grind
  .cases am with|cB am=>?_
   cases am with|cons aL am=>?_
   cases aL with| @ai _ _ c b3 aL=>?_
   cases am with|cons bZ am=>?_
   cases am;cases bZ;have bh:W.le ⟨W.gA,W.gC,W.it,W.fJ,y.x.N⟩:=⟨λ_ h=>h,λ_ h=>h,λ_ h=>h,λ_ h=>h,bi⟩;refine⟨[lz 0 ⟨W.gA,W.gC,W.it,W.fJ,y.x.N⟩ c,bA D x ⟨W.gA,W.gC,W.it,W.fJ,y.x.N⟩ m s],⟨c,_,rfl,bh,rfl⟩,?_⟩;subst aE;rw[yL]at H;have b0:=BF (Ω':=⟨uz x hz,λj=>if j=37 then y.pa D else eP D x W m m j⟩) Yi (λj av E=>by obtain⟨rfl,rfl⟩:=tk E;rfl) (λj av E B c J U=>?_) bg bL J H
   .have fZ:C (gw ⟨uz x hz,λj=>if j=37 then y.pa D else eP D x W m m j⟩ oY s:: [dg I (fS (oY++[dA 2 (.ei 10),.cx 31,.cx 33,.cx 36])) 8,dg I (fS (oY++[dA 2 (.ei 10),.cx 31,.cx 33,.cx 36])) 9,dg I (fS (oY++[dA 2 (.ei 10),.cx 31,.cx 33,.cx 36])) 10,dg I (fS (oY++[dA 2 (.ei 10),.cx 31,.cx 33,.cx 36])) 11]) J:=b0;let⟨aQ,bv,a0,bI,bP,b1,l⟩:=fZ;let⟨bw,bx,a3,bR,bS,a,bq⟩:=l;let⟨aR,bz,a4,bT,bU,b,br⟩:=bq;let⟨cc,ce,b7,cl,bV,aW,bt⟩:=br;let⟨bE,cb,b8,bY,ck,aX,ca⟩:=bt;let⟨b2,b5,aS,aI⟩:=tq (o:=dA 2 (.ei 10)) bN a;let⟨ap,b6,bH,aJ⟩:=tq (o:=.cx 31) bN b;let⟨aA,Z,bG,ch⟩:=tq (o:=.cx 33) bN aW;let⟨aB,aD,ci,aG⟩:=tq (o:=.cx 36) bN aX;rw[aL]at aS;cases aS;have aI:=N4 (Ω:=(uR x q D m W y).fF gW) (q:=q) (x:=x) (E:=ap) (A:=if Z % 2=0 then ab ⟨aA,0,af⟩else af) (n:=Z/2/9223372036854775808) (H:=Z/2 % 9223372036854775808) az p (λcm v=>by
     cases v with
     |ei v=>rw[bG]at v;cases v;rfl) ⟨_,bH⟩ aI
    have aJ:R.cY.kq ap y.x.N aR:=aJ;have aG:y.qT aB aD bE:=aG;let⟨B,ax,aK,aF,a7⟩:=MB NK (λj aq=>z1 Yh NK aq) aQ b1;have aF:=aF;have all:C [y.pa D B ax,aK,ah c 373 (hR (po 2) ap q (hI 2:Nat) (if Z % 2=0 then ab ⟨aA,0,af⟩else af) (Z/2/9223372036854775808) (Z/2 % 9223372036854775808)),R.cY.kq ap y.x.N,y.qT aB aD] J:=by
     refine C.part (N:=[y.pa D B ax,aK]) ⟨aQ,bv,a0,bI,bP,aF,bw,bx,a3,bR,bS,aI,aR,bz,a4,bT,bU,aJ,?_⟩;exact C.up (C.one aG) ((bY.trans bV))
    have yJ:C ([y.pa D B ax,y.qT aB aD]++[aK,ah c 373 (hR (po 2) ap q (hI 2:Nat) (if Z % 2=0 then ab ⟨aA,0,af⟩else af) (Z/2/9223372036854775808) (Z/2 % 9223372036854775808)),R.cY.kq ap y.x.N]) J:=by
     apply C.perm _ all;grind[List.Perm.cons,ep]
    have bj:q.cj=ag:=by simp[d4.cj,az]
    have aY:=C.fold (λh H=>y.mU H) yJ;have aZ:=C.fold (N:=[kK D x.P m y.x.N B ax,aK]) (λh H=>a7 (kK D x.P m y.x.N) h H) aY;refine C.swap (C.bl (λh H=>C.fold (N:=[_,_]) (L:=[]) (λh H=>⟨⟨2,ap,q,(hI 2:Nat),_,_,_⟩,⟨.inr (.inl p),λE=>absurd (show q.cj=al from E) bo,λ_=>bj⟩,H⟩) H) (d8 (λh H=>?_) aZ))
    .have E:dz x=dj:=by rw[dz,bJ aO]
     rw[bA,E];refine qr (Ω':=ic D x ⟨W.gA,W.gC,W.it,W.fJ,y.x.N⟩ m m hz) Yj (λj av E=>by obtain⟨rfl,rfl⟩:=tk E;rfl) (λj av E B c J U=>?_) h H;rcases aih E with ⟨rfl,rfl⟩|⟨rfl,be,aq⟩
     .trivial
     .have U:(if j=37 then kK D x.P m y.x.N else if j=37 then y.pa D else eP D x W m m j) B c J:=U;rw[a8 (show ¬j=37 by omega),a8 (show ¬j=37 by omega)]at U;have bk:j=0\/j=1\/j=3\/j=4\/j=5:=ad;rcases bk with rfl|rfl|rfl|rfl|rfl<;>exact U
   .obtain⟨rfl,aq⟩:=aef E;have U:(if j=2 then y.G D else if j=31 then(λB _=>R.cY.kq B y.x.N)else if j=33 then G8 (R.cY.qH q.dy y.S.d)else if j=36 then y.qT else if j=37 then y.pa D else eP D x W m m j) B c J:=U;grind
def X7(H:x.ok D)(E:x.k=0)(I:m<=40000)(C:q.e7=0):Y 282 #[.pointer (ab ⟨s,0,af⟩),q.v,.int .i64 (q.choice.headD 0)] [bA D x W m s] (mz D x W m s):=by
 have j:q.kind=1\/q.kind=2\/q.kind=3\/q.kind=4\/q.kind=5\/q.kind=6\/q.kind=7:=by
  have h:=C;unfold d4.e7 at h;omega
 rcases j with j|j|j|j|j|j|j
 .rw[show q.choice.headD 0=(hI 1:Nat) by simp[d4.choice,C,j];rfl];exact acU H E C j
 .rw[show q.choice.headD 0=(hI 2:Nat) by simp[d4.choice,C,j];rfl];exact acV H E I C j
 .rw[show q.choice.headD 0=(hI 3:Nat) by simp[d4.choice,C,j];rfl];exact acW H E C j
 .rw[show q.choice.headD 0=(hI 4:Nat) by simp[d4.choice,C,j];rfl];exact acX H E C j
 .rw[show q.choice.headD 0=(hI 5:Nat) by simp[d4.choice,C,j];rfl];exact acY H E C j
 .rw[show q.choice.headD 0=(hI 6:Nat) by simp[d4.choice,C,j];rfl];exact acZ H E C j
 .rw[show q.choice.headD 0=(hI 7:Nat) by simp[d4.choice,C,j];rfl];exact ac0 H E C j
end
end aV
section
attribute [local irreducible] C bh b6
def Rd.head{C A n l}(h:Rd C A n l)(E:0<n):∃b o,A=ab ⟨b,o,af⟩/\a5 C ⟨b,o+0*1,af⟩ (j (l.headD 0)):=by
 have I:=h.len bL;obtain⟨b,o,rfl,H⟩:=h.at_ E;cases l with
 |nil=>simp_all
 |cons a l=>exact⟨b,o,rfl,(H 0 a p).at_ rfl⟩
def Wx(q:d4)(C):aY 281 #[q.v] C (.tuple #[j (q.choice.headD 0),.bool (decide (0<aa q.choice))]) C:=by
 refine aD ?_;refine bP λR=>?_;apply aP (b3 (Yv q C)) _;rintro _ _ ⟨_,⟨O,U,E,rfl,Y,Q,rfl,I⟩,rfl⟩;apply dl _;have H:aS (E++C) C:=sS cf;generalize E++C=M at*
 apply ak _;refine c0 p (λh1=>?_) (λh1=>?_)
 .obtain⟨b,o,rfl,W⟩:=I.head ad;apply eX _;exact⟨_,⟨by rw[cO ad];rfl,rfl⟩,(kG (k4 H))⟩
 .have J:q.choice=[]:=List.eq_nil_of_length_eq_zero ad;apply ak _;exact aR ⟨by rw[J];rfl,rfl⟩ (kG (k4 H))
def d4.only(q:d4):d4:=
 if q.kind=1\/q.kind=2 then⟨q.kind,q.dy,⟨0,0,0⟩,0,0⟩else if q.kind=3\/q.kind=4 then⟨q.kind,⟨0,0,0,0⟩,q.wn,0,0⟩
 else if q.kind=5 then⟨q.kind,⟨0,0,0,0⟩,⟨0,0,0⟩,q.x,0⟩else if q.kind=6\/q.kind=7 then⟨q.kind,⟨0,0,0,0⟩,⟨0,0,0⟩,q.x,q.hi⟩else⟨0,⟨0,0,0,0⟩,⟨0,0,0⟩,0,0⟩
def dA(m:Nat)(j:ej):Option Nat->aG
 |none=>λ_=>True
 |some c=>aV.lz m j c
def Zl{C M:Q}{E j}(H:aS C M):aS C (dA E j af::M):=λh q=>aV.xP (A:=dA E j af) trivial (H h q)
section
variable{S aJ:Nat}{bI:a3}{a4 a0 aL:Nat}{aW:Option Nat}{bn bc:Nat}{b:Int}{bH:Option Nat}
def O8(id):Y 202 #[I S,j id,I c] [cn S aJ bI a4 a0 aL aW,cb aL,c4 c bn bc b bH] λv H=>oT v/\H=[cn S aJ bI a4 a0 aL aW,cb aL,c4 c bn bc b af]:=by
 refine O.pre (λh q=>C.perm (ep (l₁:=[cn S aJ bI a4 a0 aL aW,cb aL])) q) (O.cl λE=>?_);have R:=S8 (S:=S) (aJ:=aJ) (bI:=bI) (a4:=a4) (a0:=a0) (aL:=aL) (aW:=aW) (c:=c) (bn:=bn) (bc:=bc) (b:=b) (bH:=af) id;refine aD λ{g F}=>?_;apply bP λJ=>?_;apply aP (b3 (agb bn E.ai E.r E.t b)) _;rintro _ _ ⟨_,⟨⟨Q,rfl⟩,ap,aq,rfl⟩,rfl⟩;apply dl _;refine bp (j:=[F,ah J 160 [j 0,.bool al,.bool al,j 0,.slice af 0 0],cn S aJ bI a4 a0 aL aW,cb aL,c4 c bn bc b af]) (dp (lC (bH:=af) p)) ?_;apply aC _;apply aP (b3 R) _;rintro _ _ ⟨_,⟨rfl,rfl⟩,rfl⟩;apply ak _;apply aP (uM _) _;rintro _ _ ⟨⟨W,x,y,n,A,am,U,Z,Q,rfl⟩,rfl⟩;apply eX _;exact⟨_,⟨⟨_,_,_,_,_,_,_,_,_,rfl⟩,rfl⟩,au⟩
end
section
variable{W:ej}{S aJ:Nat}{bI:a3}{a4 a0 aL:Nat}{aW:Option Nat}{bn bc:Nat}{b:Int}{bH:Option Nat}
def Fr(D m:Nat)(x:bM)(W:ej)(H S aJ:Nat)(bI:a3)(a4 a0 aL:Nat)(aW:Option Nat)(c bn bc:Nat)(b:Int)(E:Q):Prop:=∃j C,W.le j/\E=[cn S aJ bI a4 a0 aL aW,cb aL,aV.bA D x j m aJ,c4 c bn bc b C,dA H j C]
def ade(O:x.ok D)(aK:m<=40000)(q:d4)(id):Y 199 #[I S,j id,I c,q.v] [cn S aJ bI a4 a0 aL aW,cb aL,aV.bA D x W m aJ,c4 c bn bc b bH] λv aB=>oT v/\Fr D m x W 0 S aJ bI a4 a0 aL aW c bn bc b aB:=by
 have aM:=λC=>JW (S:=S) (aJ:=aJ) (bI:=bI) (a4:=a4) (a0:=a0) (aL:=aL) (aW:=aW) (c:=c) (bn:=bn) (bc:=bc) (b:=b) (bH:=bH) id C al al 0 af 0 0;have aI:=λbH=>O8 (S:=S) (aJ:=aJ) (bI:=bI) (a4:=a4) (a0:=a0) (aL:=aL) (aW:=aW) (c:=c) (bn:=bn) (bc:=bc) (b:=b) (bH:=bH) id;have aq:=aV.NH (m:=m) (s:=aJ) (W:=W) O;have am:=aV.NG (m:=m) (s:=aJ) (W:=W) O x.v;have H:=Wv q;have aE:=Wx q
 by_cases ap:q.e7=0
 .rw[ap]at H;refine aD λ{g F}=>?_;apply bd λQ=>?_;apply bP λE=>?_;apply dQ (H _) _;apply bp (j:=c4 c bn bc b bH:: [F,ah Q 52 _,ah E _ _,cb aL,aV.bA D x W m aJ,cn S aJ bI a4 a0 aL aW]) au;apply VI λaO=>?_;apply pb [7,2,2,2,2,2] _;apply Fm λy=>?_;apply fK (bE [0,1,2,3,4,5,7,8,9,10] (.e 6 (.q 11 (.q 12 (.e 13 (.q 14 (.q 15 (.e 16 .nil)))))))) _;apply dV (b3 aq) _;rintro _ _ ⟨_,⟨rfl,rfl⟩,rfl⟩;apply cV _;apply ak _;apply dV (b3 am) _;rintro _ _ ⟨_,⟨rfl,rfl⟩,rfl⟩;apply cV _;apply aC _
  by_cases J:x.k=0/\x.v=x.v
  case neg=>
   rw[cw J];apply kB _;apply bp (j:=[F,ah E 160 [j 0,.bool al,.bool al,j 0,.slice af 0 0],cn S aJ bI a4 a0 aL aW,cb aL,aV.bA D x W m aJ,c4 c bn bc b bH]) ol;apply aC _;apply aP (b3 (aI bH)) _;rintro _ _ ⟨_,⟨⟨C,ax,az,n,A,av,R,ar,Z,rfl⟩,rfl⟩,rfl⟩;apply eX _;exact⟨_,⟨⟨_,_,_,_,_,_,_,_,_,rfl⟩,W,af,W.refl,rfl⟩,Af⟩
  case pos=>
   rw[cO J];apply mx _;have aG:=aV.X7 (D:=D) (m:=m) (s:=aJ) (x:=x) (W:=W) (q:=q) O J.1 aK ap;apply aC _;apply dQ (aE _) _;apply aC _;apply hZ 8 (bE [0,1,2,3,4,5,6] (.e 7 (bE [8,9,10,11,12] (.e 13 .nil)))) _;apply dV (b3 aG) _;rintro _ _ ⟨_,⟨U,aA,rfl,aF,rfl⟩,rfl⟩;apply bX _;apply ak _;apply aP (uM _) _;rintro _ _ ⟨⟨C,ax,az,n,A,av,R,ar,Z,rfl⟩,rfl⟩;apply eX _;exact⟨_,⟨⟨_,_,_,_,_,_,_,_,_,rfl⟩,aA,ab U,aF,rfl⟩,(k3 (k5 p) (lC (bH:=ab U) p))⟩
 .clear aq am;refine aD ?_;refine bd λQ=>?_;apply bP λE=>?_;apply a9 (H _) _;apply a9 (ub _ _) _;apply aP (b3 (aM q.e7)) _;rintro _ _ ⟨_,⟨⟨C,ax,az,n,A,av,R,ar,Z,rfl⟩,rfl⟩,rfl⟩;apply eX _;exact⟨_,⟨⟨_,_,_,_,_,_,_,_,_,rfl⟩,W,af,W.refl,rfl⟩,Af⟩
end
end
section
attribute [local irreducible] C bh b6
theorem YU{E j C}:dA E j (ab C)=aV.lz E j C:=rfl
attribute [local irreducible] aV.bA aV.lz cn c4 cb
def aik(q:d4)(H B U)(l:List Int)(J)(am:Rd J B (aa l) l)(ap:aa l<=100000000):Y 205 #[q.v,.agg #[j H,.slice B (aa l) U],j 0] J λv Z=>(∃aq A n c,v=p7 0 ag aq H A n c)/\Z=J:=by
 have E:=Mv q;cases W:q.cj with
 |true=>
  rw[W]at E;refine aD λ{g F}=>?_;apply bd λO=>?_;apply bd λQ=>?_;apply bg λR=>?_;apply ef (λC=>[(3,I O),(4,I Q),(6,I R),(7,I C)]) (λC=>F::ah O 52 [j q.kind,j q.dy.cN,j q.dy.cQ,j q.dy.c9,j q.dy.cZ,j q.wn.cN,j q.wn.cQ,j q.wn.y,j q.x,j q.hi]::ah Q 158 [j H,.slice B (aa l) U]::ah R 160 [j 0,.bool al,.bool al,j 0,.slice af 0 0]::ah C 160 [j 0,.bool ag,.bool al,j H,.slice af 0 0]::J) (λ_=>True) _ _
  .apply bs _;apply fK (bE [0,3,4,5] (.iw 1 (.q 2 (.q 6 (.e 7 (.e 8 .nil)))) 7 (.e 1 (.q 2 (.q 6 (.e 8 .nil)))))) _;refine jt ?x534_0 ?x534_1
   case' x534_1=>
    refine bW p p p rx ?_;rintro _ _ ⟨C,rfl,rfl⟩;apply cV _;apply dM (E _) _
   case' x534_0=>
    refine bW p p p (c5 p (E _)) ?_;rintro _ _ ⟨rfl,rfl⟩;apply cV _;apply aC _;apply bg λC=>?_
   all_goals
    apply bs _;exact cC C trivial aZ au
  rintro C-;apply gD _;refine ba p (.cell p (eQ cA) .nil) a1 ⟨⟨_,_,_,_,rfl⟩,rfl⟩
 |false=>
  rw[W]at E;refine aD λ{g F}=>?_;apply bd λO=>?_;apply bd λQ=>?_;apply bg λR=>?_;apply ef (ι:=Nat) (λC=>[(3,I O),(4,I Q),(6,I R),(7,I C)]) (λC=>F::ah O 52 [j q.kind,j q.dy.cN,j q.dy.cQ,j q.dy.c9,j q.dy.cZ,j q.wn.cN,j q.wn.cQ,j q.wn.y,j q.x,j q.hi]::ah Q 158 [j H,.slice B (aa l) U]::ah R 160 [j 0,.bool al,.bool al,j 0,.slice af 0 0]::ah C 160 [j 0,.bool ag,.bool ag,j H,.slice af 0 0]::J) (λ_=>True) _ _
  .apply bs _;apply fK (bE [0,3,4,5] (.iw 1 (.q 2 (.q 6 (.e 7 (.e 8 .nil)))) 7 (.e 1 (.q 2 (.q 6 (.e 8 .nil)))))) _;refine jt ?x535_0 ?x535_1
   case' x535_1=>
    refine bW p p p rx ?_;rintro _ _ ⟨C,rfl,rfl⟩;apply cV _;apply dM (E _) _
   case' x535_0=>
    refine bW p p p (c5 p (E _)) ?_;rintro _ _ ⟨rfl,rfl⟩;apply cV _;apply aC _;apply bg λC=>?_
   all_goals
    apply bs _;exact cC C trivial aZ au
  rintro C-;apply aC _;apply aP (L1 B (aa l) U l _ (bx am) ap) _;rintro _ _ ⟨ar,av,rfl,ax,rfl⟩;apply eX _;exact⟨_,⟨⟨_,_,_,_,rfl⟩,rfl⟩,au⟩
section
variable{W:ej}{S aJ:Nat}{bI:a3}{a4 a0 aL:Nat}{aW:Option Nat}{bn bc:Nat}{b:Int}{bH:Option Nat}
def YV{j C}(E:j<=C):∀h,dA j W bH h->dA C W bH h:=λh q=>by
 cases bH with
 |none=>trivial
 |some c=>exact aV.N3 E W.refl h q
def adc(Z:x.ok D)(H:m<=40000)(q:d4)(id J):Y 199 #[I S,j id,I c,q.v] [cn S aJ bI a4 a0 aL aW,cb aL,aV.bA D x W m aJ,c4 c bn bc b bH] λv E=>oT v/\Fr D m x W J S aJ bI a4 a0 aL aW c bn bc b E:=
 (ade Z H q id).cr λv E H ⟨a,O,Q,U,R⟩ q=>⟨_,⟨a,O,Q,U,rfl⟩,by
  subst R;exact C.bl (λh q=>C.bl (λh q=>C.bl (λh q=>C.bl (λh q=>aV.d8 (YV (bO J)) q) q) q) q) q⟩
def Xz(aK:x.ok D)(bh:m<=40000)(q:d4)(id am)(bl:am<=40000):Y 132 #[I S,j id,I c,q.v] [cn S aJ bI a4 a0 aL aW,cb aL,aV.bA D x W m aJ,c4 c bn bc b bH,dA am W bH] λv aY=>oT v/\Fr D m x W (am+1) S aJ bI a4 a0 aL aW c bn bc b aY:=by
 cases bH with
 |none=>
  have be:=adc (J:=am+1) (W:=W) (S:=S) (aJ:=aJ) (bI:=bI) (a4:=a4) (a0:=a0) (aL:=aL) (aW:=aW) (c:=c) (bn:=bn) (bc:=bc) (b:=b) (bH:=af) aK bh q id;apply O.pre (M:=c4 c bn bc b af:: [cn S aJ bI a4 a0 aL aW,cb aL,aV.bA D x W m aJ]) au (O.cl λC=>?_);refine aD λ{g F}=>?_;apply bd λap=>?_;apply bd λZ=>?_;iterate 2 apply ay _
  apply ee _;iterate 5 apply ay _
  apply m3 _;refine bp (j:=[F,ah ap 52 [j q.kind,j q.dy.cN,j q.dy.cQ,j q.dy.c9,j q.dy.cZ,j q.wn.cN,j q.wn.cQ,j q.wn.y,j q.x,j q.hi],ah Z 160 [j 0,.bool al,.bool al,j 0,.slice af 0 0],cn S aJ bI a4 a0 aL aW,cb aL,aV.bA D x W m aJ,c4 c bn bc b af]) (dp (lC (bH:=af) p)) ?_;apply aC _;apply aP (b3 be) _;rintro _ _ ⟨_,⟨⟨az,aF,aG,n,A,aB,ax,aA,R,rfl⟩,H,a7,ar,rfl⟩,rfl⟩;apply eX _;exact⟨_,⟨⟨_,_,_,_,_,_,_,_,_,rfl⟩,H,a7,ar,rfl⟩,au⟩
 |some Q=>
  have aS:=aV.YX (D:=D) (m:=m) (s:=aJ) (x:=x) (W:=W) aK Q am ad;have aR:=O8 (S:=S) (aJ:=aJ) (bI:=bI) (a4:=a4) (a0:=a0) (aL:=aL) (aW:=aW) (c:=c) (bn:=bn) (bc:=bc) (b:=b) (bH:=ab Q) id;have bi:=λaT av A n R=>JW (S:=S) (aJ:=aJ) (bI:=bI) (a4:=a4) (a0:=a0) (aL:=aL) (aW:=aW) (c:=c) (bn:=bn) (bc:=bc) (b:=b) (bH:=ab Q) id 0 ag aT av A n R;have aI:=λH=>aV.YW (W:=H) Q (am+1) ad;rw[YU];apply O.pre (M:=c4 c bn bc b (ab Q):: [cn S aJ bI a4 a0 aL aW,cb aL,aV.bA D x W m aJ,aV.lz am W Q]) au (O.cl λC=>?_);have aq:=λH=>aV.NG (D:=D) (m:=m) (s:=aJ) (x:=x) (W:=H) aK C.mu
  by_cases aQ:x.k=0/\x.v=C.mu
  .rw[cO aQ]at aq;refine aD λ{g F}=>?_;apply bd λap=>?_;apply bP λZ=>?_;apply aP (b3 aS) _;rintro _ _ ⟨_,⟨⟨n,aO,rfl⟩,H,ar,rfl⟩,rfl⟩;apply aC _;have aq:=aq H;have aI:=aI H;apply bp (j:=cn S aJ bI a4 a0 aL aW:: [F,ah ap 52 [j q.kind,j q.dy.cN,j q.dy.cQ,j q.dy.c9,j q.dy.cZ,j q.wn.cN,j q.wn.cQ,j q.wn.y,j q.x,j q.hi],ah Z 160 [j 0,.bool al,.bool al,j 0,.slice af 0 0],cb aL,aV.lz (am+1) H Q,ah c 108 (lZ bn bc C.o (U Q) C.mu C.seen C.z C.iy),dX bn C.ai C.r C.t b,aV.bA D x H m aJ]) au;apply Fm λy=>?_;apply ak _;apply dV (b3 aq) _;rintro _ _ ⟨_,⟨rfl,rfl⟩,rfl⟩;apply cV _;apply aC _;apply bp (j:=[F,ah ap 52 [j q.kind,j q.dy.cN,j q.dy.cQ,j q.dy.c9,j q.dy.cZ,j q.wn.cN,j q.wn.cQ,j q.wn.y,j q.x,j q.hi],ah Z 160 [j 0,.bool al,.bool al,j 0,.slice af 0 0],cn S aJ bI a4 a0 aL aW,cb aL,aV.bA D x H m aJ,aV.lz (am+1) H Q,ah c 108 (lZ bn bc C.o (U Q) C.mu C.seen C.z C.iy),dX bn C.ai C.r C.t b]) rZ;apply bs _;refine c0 p (λbb=>?_) (λbb=>?_)
   .refine bp (j:=[F,ah Z 160 [j 0,.bool al,.bool al,j 0,.slice af 0 0],cn S aJ bI a4 a0 aL aW,cb aL,aV.bA D x H m aJ,c4 c bn bc b (ab Q)]) (dp (lC (bH:=ab Q) p)) ?_;apply aC _;apply aP (b3 aR) _;rintro _ _ ⟨_,⟨⟨az,aF,aG,aE,A,aB,ax,aA,R,rfl⟩,rfl⟩,rfl⟩;apply eX _;exact⟨_,⟨⟨_,_,_,_,_,_,_,_,_,rfl⟩,H,af,ar,rfl⟩,Af⟩
   .apply ak _;cases aO with
    |false=>
     apply aC _;apply aP (uM _) _;rintro _ _ ⟨⟨az,aF,aG,aE,A,aB,ax,aA,R,rfl⟩,rfl⟩;apply eX _;exact⟨_,⟨⟨_,_,_,_,_,_,_,_,_,rfl⟩,H,ab Q,ar,rfl⟩,(dp (lC (bH:=ab Q) p))⟩
    |true=>
     apply aC _;apply aP (b3 aI) _;rintro _ _ ⟨_,⟨av,B,R,l,aT,rfl,⟨a8,bg⟩,rfl⟩,rfl⟩;apply aC _;apply bd λaM=>?_;apply fv _;apply ay _;apply cc;refine bp (j:=E 3 1 B (aa l) R (J l):: [F,ah aM 158 [j av,.slice B (aa l) R],ah ap 52 [j q.kind,j q.dy.cN,j q.dy.cQ,j q.dy.c9,j q.dy.cZ,j q.wn.cN,j q.wn.cQ,j q.wn.y,j q.x,j q.hi],ah Z 160 [j 0,.bool al,.bool al,j 0,.slice af 0 0],cn S aJ bI a4 a0 aL aW,cb aL,aV.bA D x H m aJ,c4 c bn bc b (ab Q)]) (dp (lC (bH:=ab Q) p)) ?_;have a9:=aik q av B R l (E 3 1 B (aa l) R (J l):: [F,ah aM 158 [j av,.slice B (aa l) R],ah ap 52 [j q.kind,j q.dy.cN,j q.dy.cQ,j q.dy.c9,j q.dy.cZ,j q.wn.cN,j q.wn.cQ,j q.wn.y,j q.x,j q.hi],ah Z 160 [j 0,.bool al,.bool al,j 0,.slice af 0 0],cn S aJ bI a4 a0 aL aW,cb aL,aV.bA D x H m aJ,c4 c bn bc b (ab Q)]) (bf.E (ck _) a8) bg;apply aC _;apply aP (a9) _;rintro _ _ ⟨⟨bj,aX,aE,aZ,rfl⟩,rfl⟩;apply aP (b3 (bi bj av aX aE aZ)) _;rintro _ _ ⟨_,⟨⟨az,aF,aG,bm,A,aB,ax,aA,bk,rfl⟩,rfl⟩,rfl⟩;apply eX _;exact⟨_,⟨⟨_,_,_,_,_,_,_,_,_,rfl⟩,H,af,ar,rfl⟩,Af⟩
  .rw[cw aQ]at aq;refine aD λ{g F}=>?_;apply bd λap=>?_;apply bP λZ=>?_;apply aP (b3 aS) _;rintro _ _ ⟨_,⟨⟨n,aO,rfl⟩,H,ar,rfl⟩,rfl⟩;apply dl _;have aq:=aq H;apply bp (j:=cn S aJ bI a4 a0 aL aW:: [F,ah ap 52 [j q.kind,j q.dy.cN,j q.dy.cQ,j q.dy.c9,j q.dy.cZ,j q.wn.cN,j q.wn.cQ,j q.wn.y,j q.x,j q.hi],ah Z 160 [j 0,.bool al,.bool al,j 0,.slice af 0 0],cb aL,aV.lz (am+1) H Q,ah c 108 (lZ bn bc C.o (U Q) C.mu C.seen C.z C.iy),dX bn C.ai C.r C.t b,aV.bA D x H m aJ]) au;apply Fm λy=>?_;apply ak _;apply dV (b3 aq) _;rintro _ _ ⟨_,⟨rfl,rfl⟩,rfl⟩;apply cV _;iterate 13 apply bu _
   apply fO _;refine gJ p p ?_;refine bp (j:=[F,ah Z 160 [j 0,.bool al,.bool al,j 0,.slice af 0 0],cn S aJ bI a4 a0 aL aW,cb aL,aV.bA D x H m aJ,c4 c bn bc b (ab Q)]) (k3 (k5 p) (lC (bH:=ab Q) p)) ?_;apply aC _;apply aP (b3 aR) _;rintro _ _ ⟨_,⟨⟨az,aF,aG,aE,A,aB,ax,aA,R,rfl⟩,rfl⟩,rfl⟩;apply eX _;exact⟨_,⟨⟨_,_,_,_,_,_,_,_,_,rfl⟩,H,af,ar,rfl⟩,Af⟩
end
end
section
attribute [local irreducible] C bh b6
def lV(D:Nat)(x C:bM):Prop:=C=x\/C=x.n7\/C=x.qy\/(x.k=0/\∃j ai,1<=j/\j<=4/\nS D x.P x.S j ai/\C=x.sK j ai)
theorem lV.ok{D x C}(h:lV D x C)(j:x.ok D):C.ok D:=by
 rcases h with rfl|rfl|rfl|⟨J,I,ai,h1,E,H,rfl⟩
 .omega
 .exact j.n7
 .exact j.qy
 .exact⟨j.i,j.le,.inr ⟨h1,E,by show 0< (if I<=2 then 4 else 3);grind,H⟩⟩
namespace aV
section
variable{s:Nat}{W:ej}{c:bZ}
def ws(E:x.ok D){C}(j:m<=C):∀h,bA D x W m s h->bA D x W C s h:=mK E j j
def X1(C:x.ok D):Y 289 #[.pointer (ab ⟨s,0,af⟩),c.v] [bA D x W m s] λv j=>∃U E,v=.int .i64 U/\lV D x E/\j=[bA D E W (m+1) s]:=by
 have up:∀{E:bM} {I:dc} {a:Array _} {aK:a2->Prop},E.ok D->O _ I a _ _->Y I a [bA D x W m s] λv j=>aK v/\j=[bA D E W _ s]:=λam R=>O.up R (ws am (gp m))
 by_cases H:x.k=0
 .by_cases Q:ex x.P x.S D c=0
  .obtain⟨ap,ai,⟨aq,h1,Z,ah,_⟩,R⟩:=X0 C H Q;have J:lV D x _:=.inr (.inr (.inr ⟨H,ap,ai,h1,Z,ah,rfl⟩));exact(up (J.ok C) R).mono λv j ⟨a,b⟩=>⟨_,_,a,J,b⟩
  .exact(up C (X5 C H Q)).mono λv j ⟨a,b⟩=>⟨_,_,a,.inl p,b⟩
 .exact(up C (X3 C H)).mono λv j ⟨a,b⟩=>⟨_,_,a,.inl p,b⟩
end
end aV
attribute [local irreducible] aV.bA aV.lz cn c4 cb dA
section
variable{W:ej}{S aJ:Nat}{bI:a3}{a4 a0 aL:Nat}{aW:Option Nat}{bn bc:Nat}{b:Int}{bH:Option Nat}
def W6(D m:Nat)(x:bM)(W:ej)(S aJ:Nat)(bI:a3)(a4 a0 aL:Nat)(aW:Option Nat)(c bn bc:Nat)(b:Int)(bH:Option Nat)(E:Q):Prop:=∃C j,lV D x C/\(j=bH\/j=af)/\E=[cn S aJ bI a4 a0 aL aW,cb aL,aV.bA D C W (m+1) aJ,c4 c bn bc b j]
def ai6(ar:x.ok D)(aF:m<=40000)(am:bZ)(id):Y 206 #[.pointer (ab ⟨S,0,af⟩),.int .i64 id,.pointer (ab ⟨c,0,af⟩),am.v] [cn S aJ bI a4 a0 aL aW,cb aL,aV.bA D x W m aJ,c4 c bn bc b bH] λv ax=>oT v/\W6 D m x W S aJ bI a4 a0 aL aW c bn bc b bH ax:=by
 have av:=λj=>JW (S:=S) (aJ:=aJ) (bI:=bI) (a4:=a4) (a0:=a0) (aL:=aL) (aW:=aW) (c:=c) (bn:=bn) (bc:=bc) (b:=b) (bH:=bH) id j al al 0 af 0 0;have aB:=aV.X1 (m:=m) (s:=aJ) (W:=W) (c:=am) ar;have aE:=aV.NF (s:=aJ) (W:=W) ar aF;apply O.pre au (O.cl λaG=>?_);apply O.pre (M:=cn S aJ bI a4 a0 aL aW:: [cb aL,aV.bA D x W m aJ,ah c _ _,dX bn _ _ _ b]) au (O.li λy=>?_);obtain⟨o,aQ,seen,aI,aK,ai,aM,aO⟩:=aG;cases aI with
 |false=>
  refine aD λ{g F}=>?_;apply bd λaz=>?_;apply bP λC=>?_;apply hZ 6 (bE [0,1,2,3,4] (.e 5 (.q 6 .nil))) _;apply dV (b3 aB) _;rintro _ _ ⟨_,⟨j,R,rfl,ap,rfl⟩,rfl⟩;apply bX _;apply ak _
  by_cases aq:j=0
  .subst aq;apply dY _;apply aP (uM _) _;rintro _ _ ⟨⟨H,U,Z,n,A,Q,E,J,I,rfl⟩,rfl⟩;apply eX _;exact⟨_,⟨⟨_,_,_,_,_,_,_,_,_,rfl⟩,R,bH,ap,.inl p,rfl⟩,ol⟩
  .apply bs _;refine gJ p (cO aq) ?_;apply bp (j:=[F,ah C 160 [.int .i64 0,.bool al,.bool al,.int .i64 0,.slice af 0 0],cn S aJ bI a4 a0 aL aW,cb aL,aV.bA D R W (m+1) aJ,c4 c bn bc b bH]) ol;apply aC _;apply a9 (ub _ _) _;apply aP (b3 (av j)) _;rintro _ _ ⟨_,⟨⟨H,U,Z,n,A,Q,E,J,I,rfl⟩,rfl⟩,rfl⟩;apply eX _;exact⟨_,⟨⟨_,_,_,_,_,_,_,_,_,rfl⟩,R,af,ap,.inr p,rfl⟩,au⟩
 |true=>
  refine aD λ{g F}=>?_;apply bd λaz=>?_;apply bP λC=>?_;apply aP (b3 aE) _;rintro _ _ ⟨_,⟨⟨n,aA,rfl⟩,rfl⟩,rfl⟩;apply dY _;apply bp (j:=[F,ah C 160 [.int .i64 0,.bool al,.bool al,.int .i64 0,.slice af 0 0],cn S aJ bI a4 a0 aL aW,cb aL,aV.bA D x.n7 W (m+1) aJ,c4 c bn bc b bH]) ol;cases aA with
  |true=>
   apply ak _;apply a9 (ub _ _) _;apply aP (b3 (av 0)) _;rintro _ _ ⟨_,⟨⟨H,U,Z,n,A,Q,E,J,I,rfl⟩,rfl⟩,rfl⟩;apply eX _;exact⟨_,⟨⟨_,_,_,_,_,_,_,_,_,rfl⟩,x.n7,af,.inr (.inl p),.inr p,rfl⟩,au⟩
  |false=>
   apply ak _;apply aP (uM _) _;rintro _ _ ⟨⟨H,U,Z,n,A,Q,E,J,I,rfl⟩,rfl⟩;apply eX _;exact⟨_,⟨⟨_,_,_,_,_,_,_,_,_,rfl⟩,x.n7,bH,.inr (.inl p),.inl p,rfl⟩,au⟩
end
end
end
end Go.Proofs.YteinodmjohkmmaaGreat
