/- Trees of cells: laying intervals, and building all anew. -/
import Derived.Test.YtmgkmammkmlakaaSgT
import Derived.Test.YtmgkmammkmlakaaSgS
import Derived.Test.YtmgkmammkmlakaaPst1
namespace Go.Proofs.Ytmgkmammkmlakaa
attribute [local irreducible] sat
set_option linter.unusedVariables false
set_option linter.unusedSimpArgs false
set_option maxRecDepth 100000

def qR (R : List Int) (s : Pt) : Nat × Nat := (cellR R s.x, cellR R s.y)
@[reducible] def tgC (x : RA) (X : Option Addr) (A : Option Addr) (n c : Nat) (most : Int) (built : Nat) : List Value := [.pointer x.addr, .pointer X, .slice A n c, .int .i64 most, .int .i64 (built : Nat)]
@[reducible] def Pt.cs (s : Pt) : List Value := [.int .i64 s.id, .int .i64 s.x, .int .i64 s.y]
@[reducible] def noP : Pt → Bool := fun _ => false
/-- What putting an interval in, or taking it out, makes of a node's own. -/
def Gput (s : Pt) (A : Option Addr) (c : Nat) (m : List Pt) (A' : Option Addr) (c' : Nat) (m' : List Pt) : Prop := m' = putP s m ∧ AdOk A' c' m'
def Gcut (s : Pt) (A : Option Addr) (c : Nat) (m : List Pt) (A' : Option Addr) (c' : Nat) (m' : List Pt) : Prop := m' = m.erase s ∧ AdOk A' c' m'
def Gsame (A : Option Addr) (c : Nat) (m : List Pt) (A' : Option Addr) (c' : Nat) (m' : List Pt) : Prop := A' = A ∧ c' = c ∧ m' = m
theorem SgOk.put {q : Pt → Nat × Nat} {l : List Pt} {s : Pt} {X Y : SA} {f t : Nat} (h : SgOk q l X f t noP) (ho : Asc l) (hs : (q s).1 ≤ (q s).2) (hl : Laid (q s).1 (q s).2 (Gput s) X Y) : SgOk q (putP s l) Y f t noP :=
  SgOk.laid (g := putP s) (fun _ _ _ _ _ _ h => h.1) (fun p hp => by rw [filter_putP p s l ho, hp]; rfl) (fun p hp => by rw [filter_putP p s l ho, hp]; rfl) hs h rfl hl
theorem SgOk.cut {q : Pt → Nat × Nat} {l : List Pt} {s : Pt} {X Y : SA} {f t : Nat} (h : SgOk q l X f t noP) (hs : (q s).1 ≤ (q s).2) (hl : Laid (q s).1 (q s).2 (Gcut s) X Y) : SgOk q (l.erase s) Y f t noP :=
  SgOk.laid (g := fun m => m.erase s) (fun _ _ _ _ _ _ h => h.1) (fun p hp => by rw [filter_erase p s l, hp]; rfl) (fun p hp => by rw [filter_erase p s l, hp]; rfl) hs h rfl hl
theorem lay1_ctr (s : Pt) (sb b f t : Nat) (A : Option Addr) (c : Nat) (m : List Pt) (p q : Option Addr) (M : List HP) (ha : AdOk A c m) (hm : m.length ≤ 1000) (ho : Asc m) :
    Ctr Try.prog 33 #[.pointer (some ⟨b, 0, none⟩), .pointer (some ⟨sb, 0, none⟩)] (blk sb 32 s.cs :: blk b 58 (sgC f t A m.length c p q) :: own 32 3 A m.length c (flat m) :: M) fun v L' => v = .tuple #[] ∧ ∃ A' c' m', (Gput s A c m A' c' m' ∧ True) ∧ L' = blk sb 32 s.cs :: blk b 58 (sgC f t A' m'.length c' p q) :: own 32 3 A' m'.length c' (flat m') :: M := by
  have hr : ∀ M, Rd (own 32 3 A m.length c (flat m) :: M) A m.length m := fun M => Rc.own (flat_length m) ha.1
  refine Ctr_of (fn := Try.f33) (n := 12) Try.func33 rfl rfl rfl ?_
  intro g F
  (repeat first | refine G_seq ?_ | refine G_skip ?_ | refine G_endblk ?_ | refine G_block ?_ | refine G_exit rfl ?_)
  (repeat first | refine G_seq ?_ | refine G_skip ?_ | refine G_endblk ?_ | refine G_block ?_ | refine G_exit rfl ?_)
  refine G_draw (.q 0 (.q 1 (.q 2 (.q 3 (.q 4 (.q 5 (.e 6 (.q 7 (.q 8 (.e 9 .nil)))))))))) (by kernel_rfl) (by kernel_rfl) ?_
  refine RS_m retB_noPanic rfl rfl rfl rfl (ev_move rfl) ?_
  refine RS_m retB_noPanic rfl rfl rfl rfl (ev_move rfl) ?_
  (first | refine RS_m retB_noPanic rfl rfl rfl rfl (ev_nilCheck rfl) ?_ | refine RS_m retB_noPanic rfl rfl rfl rfl (ev_nilCheckF (by simp) rfl) ?_)
  refine RS_m retB_noPanic rfl rfl rfl rfl (ev_fieldAddr rfl) ?_
  refine RS_q retB_noPanic rfl rfl rfl rfl (ev_load rfl (by repeat' first | exact Ld.blk rfl | assumption | apply Ld.skip | apply Ld.app)) ?_
  refine RS_q retB_noPanic rfl rfl rfl rfl (ev_loadN rfl (by repeat' first | exact LdN.blk rfl | assumption | apply LdN.skip | apply LdN.app)) ?_
  refine RS_e (RE_eff rfl rfl rfl (eff_call rfl ((Put_ctr A m.length c m s _ (by repeat' first | exact hr _ | apply Rd.skip) (by omega) ho).made)) ?_); rintro _ _ ⟨A', c', rfl, e1, e2, e3, rfl⟩; refine ⟨_, fun _ s => s, (by first | ((repeat first | exact fun _ s => s | apply en_keep | apply en_drop | apply en_app) <;> fail) | ((repeat first | exact en_refl | (apply en_blk; focus ((repeat' first | exact Pick.here | apply Pick.skip | apply Pick.app); done); focus rfl) | (apply en_own; focus ((repeat' first | exact Pick.here | apply Pick.skip | apply Pick.app); done); focus rfl) | (apply en_pick; focus ((repeat' first | exact Pick.here | apply Pick.skip | apply Pick.app); done)) | apply en_drop | apply en_app) <;> fail)), ?_⟩
  (first | refine RS_m retB_noPanic rfl rfl rfl rfl (ev_nilCheck rfl) ?_ | refine RS_m retB_noPanic rfl rfl rfl rfl (ev_nilCheckF (by simp) rfl) ?_)
  refine RS_m retB_noPanic rfl rfl rfl rfl (ev_fieldAddr rfl) ?_
  refine RS_e (RE_last (by kernel_rfl) rfl rfl rfl (eff_store rfl rfl rfl (by repeat' first | exact Upd.here rfl | apply Upd.skip | apply Upd.app)) ?_); rintro _ _ ⟨rfl, rfl⟩
  (repeat first | refine G_seq ?_ | refine G_skip ?_ | refine G_endblk ?_ | refine G_block ?_ | refine G_exit rfl ?_)
  exact G_end (rs := []) (vs := []) (L' := blk sb 32 s.cs :: blk b 58 (sgC f t A' (putP s m).length c' p q) :: own 32 3 A' (putP s m).length c' (flat (putP s m)) :: M) rfl .nil (by (repeat first | exact en_refl | (apply en_blk; focus ((repeat' first | exact Pick.here | apply Pick.skip | apply Pick.app); done); focus rfl) | (apply en_own; focus ((repeat' first | exact Pick.here | apply Pick.skip | apply Pick.app); done); focus rfl) | (apply en_pick; focus ((repeat' first | exact Pick.here | apply Pick.skip | apply Pick.app); done)) | apply en_drop | apply en_app) <;> fail) ⟨rfl, A', c', putP s m, ⟨⟨rfl, e1, e2⟩, trivial⟩, rfl⟩
section
variable {S : Type} {fid : FuncId} [CalT Try.prog fid] {c1 c2 : List Value} {C : S → List HP} {step : S → Nat → Nat → List Pt → S} {I : S → Nat → Prop} {wt : Nat → Nat → List Pt → Nat} {G9 : Option Addr → Nat → List Pt → Option Addr → Nat → List Pt → Prop} {P9 : Nat → Nat → Option Addr → Nat → List Pt → Prop}
theorem teach_ctr
    (hf : ∀ (s : S) (r b f t : Nat) (A : Option Addr) (c : Nat) (m : List Pt) (p q : Option Addr) (M : List HP), P9 f t A c m → I s (wt f t m + r) → Ctr Try.prog fid (c1 ++ [Value.pointer (some ⟨b, 0, none⟩)] ++ c2).toArray (C s ++ blk b 58 (sgC f t A m.length c p q) :: own 32 3 A m.length c (flat m) :: M) fun v L' => v = .tuple #[] ∧ ∃ A' c' m', (G9 A c m A' c' m' ∧ I (step s f t m) r) ∧ L' = C (step s f t m) ++ blk b 58 (sgC f t A' m'.length c' p q) :: own 32 3 A' m'.length c' (flat m') :: M)
    (t : Nat) (x : RA) (X : SA) (A : Option Addr) (n c : Nat) (most : Int) (built : Nat) (s : Pt) (s0 : S) (r : Nat) (M : List HP) (ht : LdN M t 0 5 (tgC x X.addr A n c most built)) (hx : RIn M x) (o : x.ok) (hb : x.R.length ≤ 1000) (hs : s.x ≤ s.y) (hP : X.each P9) (hI : I s0 (X.at_ (qR x.R s).1 (qR x.R s).2 wt + r)) :
    Ctr Try.prog 32 #[.pointer (some ⟨t, 0, none⟩), s.v, .func (.func fid) c1.toArray c2.toArray] ((fun h => sat (C s0) h) :: saH X :: M) fun v L' => v = .tuple #[] ∧ ∃ Y, (Laid (qR x.R s).1 (qR x.R s).2 G9 X Y ∧ I (X.run (qR x.R s).1 (qR x.R s).2 step s0) r) ∧ L' = (fun h => sat (C (X.run (qR x.R s).1 (qR x.R s).2 step s0)) h) :: saH Y :: M := by
  have h0 : Ld M ⟨t, 0 + 0, none⟩ (.pointer x.addr) := ht.at_ (i := 0) rfl
  have h1 : Ld M ⟨t, 0 + 1, none⟩ (.pointer X.addr) := ht.at_ (i := 1) rfl
  have hc := fun L h => RCells_ctr x s.x s.y L h o (by omega) hs
  have hn := fun M => neach_ctr hf X s0 r M hP hI
  unfold qR at hn ⊢
  simp only at hn ⊢
  refine Ctr_of (fn := Try.f32) (n := 30) Try.func32 rfl rfl rfl ?_
  intro g F
  (repeat first | refine G_seq ?_ | refine G_skip ?_ | refine G_endblk ?_ | refine G_block ?_ | refine G_exit rfl ?_)
  refine G_region ?_
  refine GO_eff rfl rfl (eff_box rfl) ?_; rintro _ _ ⟨b4, rfl, rfl⟩
  refine GO_nil ?_
  (repeat first | refine G_seq ?_ | refine G_skip ?_ | refine G_endblk ?_ | refine G_block ?_ | refine G_exit rfl ?_)
  refine G_draw (.q 0 (.q 1 (.q 2 (.q 3 (.q 4 (.q 5 (.q 6 (.q 7 (.e 8 (.q 9 (.q 10 (.q 11 (.q 12 (.q 13 (.q 14 (.q 15 .nil)))))))))))))))) (by kernel_rfl) (by kernel_rfl) ?_
  refine RS_m retB_noPanic rfl rfl rfl rfl (ev_move rfl) ?_
  (first | refine RS_m retB_noPanic rfl rfl rfl rfl (ev_nilCheck rfl) ?_ | refine RS_m retB_noPanic rfl rfl rfl rfl (ev_nilCheckF (by simp) rfl) ?_)
  refine RS_m retB_noPanic rfl rfl rfl rfl (ev_fieldAddr rfl) ?_
  refine RS_q retB_noPanic rfl rfl rfl rfl (ev_load rfl (by repeat' first | exact Ld.blk rfl | assumption | apply Ld.skip | apply Ld.app)) ?_
  refine RS_m retB_noPanic rfl rfl rfl rfl (ev_fieldAddr rfl) ?_
  refine RS_q retB_noPanic rfl rfl rfl rfl (ev_load rfl (by repeat' first | exact Ld.blk rfl | assumption | apply Ld.skip | apply Ld.app)) ?_
  refine RS_m retB_noPanic rfl rfl rfl rfl (ev_fieldAddr rfl) ?_
  refine RS_q retB_noPanic rfl rfl rfl rfl (ev_load rfl (by repeat' first | exact Ld.blk rfl | assumption | apply Ld.skip | apply Ld.app)) ?_
  refine RS_e (RE_eff rfl rfl rfl (eff_call rfl (hc _ (by repeat' first | exact hx | apply RIn.skip))) ?_); rintro _ _ ⟨rfl, rfl⟩; refine ⟨_, fun _ s => s, (by first | ((repeat first | exact fun _ s => s | apply en_keep | apply en_drop | apply en_app) <;> fail) | ((repeat first | exact en_refl | (apply en_blk; focus ((repeat' first | exact Pick.here | apply Pick.skip | apply Pick.app); done); focus rfl) | (apply en_own; focus ((repeat' first | exact Pick.here | apply Pick.skip | apply Pick.app); done); focus rfl) | (apply en_pick; focus ((repeat' first | exact Pick.here | apply Pick.skip | apply Pick.app); done)) | apply en_drop | apply en_app) <;> fail)), ?_⟩
  refine RS_m retB_noPanic rfl rfl rfl rfl (ev_move rfl) ?_
  refine RS_m retB_noPanic rfl rfl rfl rfl (ev_extract rfl rfl) ?_
  refine RS_m retB_noPanic rfl rfl rfl rfl (ev_extract rfl rfl) ?_
  refine RS_m retB_noPanic rfl rfl rfl rfl (ev_extract rfl rfl) ?_
  refine RS_m retB_noPanic rfl rfl rfl rfl (ev_assign rfl) ?_
  refine RS_m retB_noPanic rfl rfl rfl rfl (ev_assign rfl) ?_
  refine RS_m retB_noPanic rfl rfl rfl rfl (ev_assign rfl) ?_
  refine RS_nil ?_
  (repeat first | refine G_seq ?_ | refine G_skip ?_ | refine G_endblk ?_ | refine G_block ?_ | refine G_exit rfl ?_)
  refine G_region ?_
  refine GO_q rfl rfl (ev_move rfl) ?_
  (first | refine GO_q rfl rfl (ev_nilCheck rfl) ?_ | refine GO_q rfl rfl (ev_nilCheckF (by simp) rfl) ?_)
  refine GO_q rfl rfl (ev_fieldAddr rfl) ?_
  refine GO_q rfl rfl (ev_load rfl (by repeat' first | exact Ld.blk rfl | assumption | apply Ld.skip | apply Ld.app)) ?_
  refine GO_q rfl rfl (ev_move rfl) ?_
  refine GO_q rfl rfl (ev_move rfl) ?_
  refine GO_q rfl rfl (ev_move rfl) ?_
  refine GO_eff rfl rfl (eff_call rfl (Ctr.pre (M := (fun h => sat (C s0) h) :: saH X :: F :: M) (by (repeat first | exact en_refl | (apply en_blk; focus ((repeat' first | exact Pick.here | apply Pick.skip | apply Pick.app); done); focus rfl) | (apply en_own; focus ((repeat' first | exact Pick.here | apply Pick.skip | apply Pick.app); done); focus rfl) | (apply en_pick; focus ((repeat' first | exact Pick.here | apply Pick.skip | apply Pick.app); done)) | apply en_drop | apply en_app) <;> fail) (hn _))) ?_; rintro _ _ ⟨rfl, Y, ⟨a1, a2⟩, rfl⟩
  refine GO_nil ?_
  (repeat first | refine G_seq ?_ | refine G_skip ?_ | refine G_endblk ?_ | refine G_block ?_ | refine G_exit rfl ?_)
  exact G_end (rs := []) (vs := []) (L' := (fun h => sat (C (X.run (cellR x.R s.x) (cellR x.R s.y) step s0)) h) :: saH Y :: M) rfl .nil (by (repeat first | exact en_refl | (apply en_blk; focus ((repeat' first | exact Pick.here | apply Pick.skip | apply Pick.app); done); focus rfl) | (apply en_own; focus ((repeat' first | exact Pick.here | apply Pick.skip | apply Pick.app); done); focus rfl) | (apply en_pick; focus ((repeat' first | exact Pick.here | apply Pick.skip | apply Pick.app); done)) | apply en_drop | apply en_app) <;> fail) ⟨rfl, Y, ⟨a1, a2⟩, rfl⟩
end
theorem lay_ctr (t : Nat) (x : RA) (X : SA) (A : Option Addr) (n c : Nat) (most : Int) (built : Nat) (s : Pt) (M : List HP) (ht : LdN M t 0 5 (tgC x X.addr A n c most built)) (hx : RIn M x) (o : x.ok) (hb : x.R.length ≤ 1000) (hs : s.x ≤ s.y) (hP : X.each fun _ _ A c m => AdOk A c m ∧ m.length ≤ 1000 ∧ Asc m) :
    Ctr Try.prog 19 #[.pointer (some ⟨t, 0, none⟩), s.v] (saH X :: M) fun v L' => v = .tuple #[] ∧ ∃ Y, Laid (qR x.R s).1 (qR x.R s).2 (Gput s) X Y ∧ L' = saH Y :: M := by
  refine Ctr_of (fn := Try.f19) (n := 8) Try.func19 rfl rfl rfl ?_
  intro g F
  (repeat first | refine G_seq ?_ | refine G_skip ?_ | refine G_endblk ?_ | refine G_block ?_ | refine G_exit rfl ?_)
  refine G_region ?_
  refine GO_eff rfl rfl (eff_box rfl) ?_; rintro _ _ ⟨b3, rfl, rfl⟩
  refine GO_nil ?_
  have hT := fun M ht hx => teach_ctr (S := Unit) (fid := 33) (c1 := []) (c2 := [.pointer (some ⟨b3, 0, none⟩)]) (C := fun _ => [blk b3 32 s.cs]) (step := fun s _ _ _ => s) (I := fun _ _ => True) (wt := fun _ _ _ => 0) (G9 := Gput s) (P9 := fun _ _ A c m => AdOk A c m ∧ m.length ≤ 1000 ∧ Asc m) (fun _ r b f t A c m p q M hp _ => lay1_ctr s b3 b f t A c m p q M hp.1 hp.2.1 hp.2.2) t x X A n c most built s () 0 M ht hx o hb hs hP trivial
  (repeat first | refine G_seq ?_ | refine G_skip ?_ | refine G_endblk ?_ | refine G_block ?_ | refine G_exit rfl ?_)
  refine G_region ?_
  refine GO_q rfl rfl (ev_move rfl) ?_
  refine GO_q rfl rfl (ev_loadN rfl (by repeat' first | exact LdN.blk rfl | assumption | apply LdN.skip | apply LdN.app)) ?_
  refine GO_q rfl rfl (ev_makeFunc rfl rfl) ?_
  refine GO_eff rfl rfl (eff_call rfl (Ctr.pre (M := (fun h => sat [blk b3 32 s.cs] h) :: saH X :: F :: M) (fun h q => (show ∀ h, sat _ h → sat ((fun h => sat [blk b3 32 s.cs] h) :: saH X :: F :: M) h from fun h q => sat.join (N := [blk b3 32 s.cs]) ((show ∀ h, sat _ h → sat (blk b3 32 s.cs :: saH X :: F :: M) h from (by (repeat first | exact en_refl | (apply en_blk; focus ((repeat' first | exact Pick.here | apply Pick.skip | apply Pick.app); done); focus rfl) | (apply en_own; focus ((repeat' first | exact Pick.here | apply Pick.skip | apply Pick.app); done); focus rfl) | (apply en_pick; focus ((repeat' first | exact Pick.here | apply Pick.skip | apply Pick.app); done)) | apply en_drop | apply en_app) <;> fail)) h q)) h q) (hT _ (by repeat' first | exact ht | apply LdN.skip) (by repeat' first | exact hx | apply RIn.skip)))) ?_; rintro _ _ ⟨rfl, Y, ⟨a1, _⟩, rfl⟩
  refine GO_nil ?_
  (repeat first | refine G_seq ?_ | refine G_skip ?_ | refine G_endblk ?_ | refine G_block ?_ | refine G_exit rfl ?_)
  exact G_end (rs := []) (vs := []) (L' := saH Y :: M) rfl .nil (by (repeat first | exact en_refl | (apply en_blk; focus ((repeat' first | exact Pick.here | apply Pick.skip | apply Pick.app); done); focus rfl) | (apply en_own; focus ((repeat' first | exact Pick.here | apply Pick.skip | apply Pick.app); done); focus rfl) | (apply en_pick; focus ((repeat' first | exact Pick.here | apply Pick.skip | apply Pick.app); done)) | apply en_drop | apply en_app) <;> fail) ⟨rfl, Y, a1, rfl⟩
theorem SgOk.ad {q : Pt → Nat × Nat} {l : List Pt} {X : SA} {f t : Nat} {o : Pt → Bool} (h : SgOk q l X f t o) (ha : X.each fun _ _ A c m => AdOk A c m) (hl : l.length ≤ 1000) (ho : Asc l) : X.each fun _ _ A c m => AdOk A c m ∧ m.length ≤ 1000 ∧ Asc m :=
  (ha.and h.sub).mono fun _ _ _ _ _ h => ⟨h.1, Nat.le_trans h.2.1.length_le hl, ho.sub h.2.1⟩
theorem take_put {l : List Pt} (ho : Asc l) {i : Nat} (hi : i < l.length) : l.take (i + 1) = putP l[i] (l.take i) := by
  rw [List.take_succ_eq_append_getElem hi, putP_last]
  intro a ha
  have h1 : l.take (i + 1) = l.take i ++ [l[i]] := List.take_succ_eq_append_getElem hi
  have h2 : Asc (l.take i ++ [l[i]]) := h1 ▸ ho.sub (List.take_sublist _ _)
  unfold Asc at h2
  rw [List.pairwise_append] at h2
  exact h2.2.2 a ha _ (by simp)
theorem anew_ctr (t : Nat) (x x' : RA) (root A : Option Addr) (c : Nat) (l : List Pt) (most : Int) (built : Nat) (M : List HP) (o : x'.ok) (hb : x'.R.length ≤ 1000) (hl : l.length ≤ 1000) (ho : Asc l) (ha : AdOk A c l) (hs : ∀ s ∈ l, s.x ≤ s.y) (hbu : built ≤ 1000000) :
    Ctr Try.prog 20 #[.pointer (some ⟨t, 0, none⟩), .pointer x'.addr] (blk t 43 (tgC x root A l.length c most built) :: raH x' :: own 32 3 A l.length c (flat l) :: M) fun v L' => v = .tuple #[] ∧ ∃ Y, (SgOk (qR x'.R) l Y 0 (2 * x'.R.length) noP ∧ Y.each fun _ _ A c m => AdOk A c m) ∧ L' = blk t 43 (tgC x' Y.addr A l.length c most (built + 1)) :: raH x' :: own 32 3 A l.length c (flat l) :: saH Y :: M := by
  have hx : ∀ M, RIn (raH x' :: M) x' := fun M => raH_in o M
  refine Ctr_of (fn := Try.f20) (n := 37) Try.func20 rfl rfl rfl ?_
  intro g F
  (repeat first | refine G_seq ?_ | refine G_skip ?_ | refine G_endblk ?_ | refine G_block ?_ | refine G_exit rfl ?_)
  refine G_region ?_
  refine GO_q rfl rfl (ev_move rfl) ?_
  refine GO_q rfl rfl (ev_move rfl) ?_
  (first | refine GO_q rfl rfl (ev_nilCheck rfl) ?_ | refine GO_q rfl rfl (ev_nilCheckF (by simp) rfl) ?_)
  refine GO_q rfl rfl (ev_fieldAddr rfl) ?_
  refine GO_eff rfl rfl (eff_store rfl rfl rfl (by repeat' first | exact Upd.here rfl | apply Upd.skip | apply Upd.app)) ?_; rintro _ _ ⟨rfl, rfl⟩
  refine GO_nil ?_
  (repeat first | refine G_seq ?_ | refine G_skip ?_ | refine G_endblk ?_ | refine G_block ?_ | refine G_exit rfl ?_)
  refine G_region ?_
  refine GO_q rfl rfl (ev_move rfl) ?_
  refine GO_q rfl rfl (ev_move rfl) ?_
  refine GO_eff rfl rfl (eff_call rfl (RLen_ctr x' _ (by repeat' first | exact hx _ | apply RIn.skip))) ?_; rintro _ _ ⟨rfl, rfl⟩
  refine GO_q rfl rfl (ev_mul rfl rfl (by first | omega | (simp; done) | (simp; omega))) ?_
  refine GO_eff rfl rfl (eff_call rfl (build_ctr (2 * x'.R.length) 0 (2 * x'.R.length) _ (by omega) (by omega) (by omega))) ?_; rintro _ _ ⟨X0, rfl, ⟨hok, had⟩, rfl⟩
  (first | refine GO_q rfl rfl (ev_nilCheck rfl) ?_ | refine GO_q rfl rfl (ev_nilCheckF (by simp) rfl) ?_)
  refine GO_q rfl rfl (ev_fieldAddr rfl) ?_
  refine GO_eff rfl rfl (eff_store rfl rfl rfl (by repeat' first | exact Upd.here rfl | apply Upd.skip | apply Upd.app)) ?_; rintro _ _ ⟨rfl, rfl⟩
  refine GO_nil ?_
  (repeat first | refine G_seq ?_ | refine G_skip ?_ | refine G_endblk ?_ | refine G_block ?_ | refine G_exit rfl ?_)
  refine G_region ?_
  refine GO_q rfl rfl (ev_move rfl) ?_
  (first | refine GO_q rfl rfl (ev_nilCheck rfl) ?_ | refine GO_q rfl rfl (ev_nilCheckF (by simp) rfl) ?_)
  refine GO_q rfl rfl (ev_fieldAddr rfl) ?_
  refine GO_q rfl rfl (ev_load rfl (by repeat' first | exact Ld.blk rfl | assumption | apply Ld.skip | apply Ld.app)) ?_
  (first | refine GO_q rfl rfl (ev_addN (q := 1) rfl rfl (by first | omega | (simp; done) | (simp; omega))) ?_ | refine GO_q rfl rfl (ev_add rfl rfl (by first | omega | (simp; done) | (simp; omega))) ?_)
  (first | refine GO_q rfl rfl (ev_nilCheck rfl) ?_ | refine GO_q rfl rfl (ev_nilCheckF (by simp) rfl) ?_)
  refine GO_q rfl rfl (ev_fieldAddr rfl) ?_
  refine GO_eff rfl rfl (eff_store rfl rfl rfl (by repeat' first | exact Upd.here rfl | apply Upd.skip | apply Upd.app)) ?_; rintro _ _ ⟨rfl, rfl⟩
  refine GO_nil ?_
  (repeat first | refine G_seq ?_ | refine G_skip ?_ | refine G_endblk ?_ | refine G_block ?_ | refine G_exit rfl ?_)
  refine G_region ?_
  refine GO_q rfl rfl (ev_move rfl) ?_
  (first | refine GO_q rfl rfl (ev_nilCheck rfl) ?_ | refine GO_q rfl rfl (ev_nilCheckF (by simp) rfl) ?_)
  refine GO_q rfl rfl (ev_fieldAddr rfl) ?_
  refine GO_q rfl rfl (ev_load rfl (by repeat' first | exact Ld.blk rfl | assumption | apply Ld.skip | apply Ld.app)) ?_
  refine GO_q rfl rfl (ev_len rfl) ?_
  refine GO_q rfl rfl (ev_move rfl) ?_
  refine GO_nil ?_
  (repeat first | refine G_seq ?_ | refine G_skip ?_ | refine G_endblk ?_ | refine G_block ?_ | refine G_exit rfl ?_)
  refine G_loop (ι := Nat × SA) (fun z => [(0, .pointer (some ⟨t, 0, none⟩)), (27, .slice A l.length c), (28, .int .i64 (l.length : Nat)), (29, .int .i64 (z.1 : Nat))]) (fun z => saH z.2 :: F :: blk t 43 (tgC x' X0.addr A l.length c most (built + 1)) :: raH x' :: own 32 3 A l.length c (flat l) :: M) (fun z => z.1 ≤ l.length ∧ SgOk (qR x'.R) (l.take z.1) z.2 0 (2 * x'.R.length) noP ∧ (z.2.each fun _ _ A c m => AdOk A c m) ∧ z.2.addr = X0.addr) (fun z => l.length - z.1) (0, X0) ⟨Nat.zero_le _, hok _ _, had, rfl⟩ ⟨rfl, rfl, rfl, rfl, trivial⟩ (by (repeat first | exact en_refl | (apply en_blk; focus ((repeat' first | exact Pick.here | apply Pick.skip | apply Pick.app); done); focus rfl) | (apply en_own; focus ((repeat' first | exact Pick.here | apply Pick.skip | apply Pick.app); done); focus rfl) | (apply en_pick; focus ((repeat' first | exact Pick.here | apply Pick.skip | apply Pick.app); done)) | apply en_drop | apply en_app) <;> fail) ?_
  rintro ⟨i, X⟩ ⟨f1, f2, f3, f4⟩
  simp only at f1 f2 f3 f4
  dsimp only
  (repeat first | refine G_seq ?_ | refine G_skip ?_ | refine G_endblk ?_ | refine G_block ?_ | refine G_exit rfl ?_)
  refine G_region ?_
  (first | refine GO_q rfl rfl (ev_lssN rfl rfl) ?_ | refine GO_q rfl rfl (ev_lss rfl rfl) ?_)
  refine GO_nil ?_
  (repeat first | refine G_seq ?_ | refine G_skip ?_ | refine G_endblk ?_ | refine G_block ?_ | refine G_exit rfl ?_)
  refine G_cond rfl (fun c1 => ?_) (fun c1 => ?_)
  · have hrd : Rd (own 32 3 A l.length c (flat l) :: M) A l.length l := Rc.own (flat_length l) ha.1
    obtain ⟨b1, o1, rfl, x1⟩ := hrd.at_ (by omega)
    have g1 : l[i]? = some l[i] := List.getElem?_eq_getElem (by omega)
    have y1 := x1 _ _ g1
    have tp := take_put ho c1
    have hsi := hs l[i] (List.getElem_mem _)
    generalize l[i] = u at *
    have z1 : LdN (own 32 3 (some ⟨b1, o1, none⟩) l.length c (flat l) :: M) b1 (o1 + i * 3) 3 [.int .i64 u.id, .int .i64 u.x, .int .i64 u.y] := y1
    have htl : (l.take i).length ≤ 1000 := by rw [List.length_take]; omega
    have hta : Asc (l.take i) := ho.sub (List.take_sublist _ _)
    (repeat first | refine G_seq ?_ | refine G_skip ?_ | refine G_endblk ?_ | refine G_block ?_ | refine G_exit rfl ?_)
    refine G_region ?_
    (first | refine GO_q rfl rfl (ev_indexAddrN rfl rfl (by first | omega | (simp; done) | (simp; omega))) ?_ | refine GO_q rfl rfl (ev_indexAddr rfl rfl (by first | omega | (simp; done) | (simp; omega)) (by first | omega | (simp; done) | (simp; omega))) ?_)
    refine GO_q rfl rfl (ev_loadN rfl (by repeat' first | exact LdN.blk rfl | assumption | apply LdN.skip | apply LdN.app)) ?_
    refine GO_eff rfl rfl eff_alloc ?_; rintro _ _ ⟨b5, rfl, rfl⟩
    refine GO_eff rfl rfl (eff_storeN rfl rfl rfl rfl (by repeat' first | exact Upd.here rfl | apply Upd.skip | apply Upd.app)) ?_; rintro _ _ ⟨rfl, rfl⟩
    refine GO_nil ?_
    have hlay := fun M' ht hx => lay_ctr t x' X (some ⟨b1, o1, none⟩) l.length c most (built + 1) u M' ht hx o hb hsi (f2.ad f3 htl hta)
    rw [f4] at hlay
    (repeat first | refine G_seq ?_ | refine G_skip ?_ | refine G_endblk ?_ | refine G_block ?_ | refine G_exit rfl ?_)
    refine G_region ?_
    refine GO_q rfl rfl (ev_move rfl) ?_
    refine GO_q rfl rfl (ev_loadN rfl (by repeat' first | exact LdN.blk rfl | assumption | apply LdN.skip | apply LdN.app)) ?_
    refine GO_eff rfl rfl (eff_call rfl (Ctr.pick (by repeat' first | exact Pick.here | apply Pick.skip | apply Pick.app) (hlay _ (by repeat' first | exact LdN.blk rfl | apply LdN.skip) (by repeat' first | exact hx _ | apply RIn.skip)))) ?_; rintro _ _ ⟨rfl, Y, hY, rfl⟩
    refine GO_nil ?_
    (repeat first | refine G_seq ?_ | refine G_skip ?_ | refine G_endblk ?_ | refine G_block ?_ | refine G_exit rfl ?_)
    refine G_region ?_
    (first | refine GO_q rfl rfl (ev_addN (q := 1) rfl rfl (by first | omega | (simp; done) | (simp; omega))) ?_ | refine GO_q rfl rfl (ev_add rfl rfl (by first | omega | (simp; done) | (simp; omega))) ?_)
    refine GO_q rfl rfl (ev_move rfl) ?_
    refine GO_nil ?_
    (repeat first | refine G_seq ?_ | refine G_skip ?_ | refine G_endblk ?_ | refine G_block ?_ | refine G_exit rfl ?_)
    refine G_round (i + 1, Y) ⟨by simp only; omega, ?_, ?_, by rw [hY.addr]; exact f4⟩ (by simp only; omega) ⟨rfl, rfl, rfl, rfl, trivial⟩ (by (repeat first | exact en_refl | (apply en_blk; focus ((repeat' first | exact Pick.here | apply Pick.skip | apply Pick.app); done); focus rfl) | (apply en_own; focus ((repeat' first | exact Pick.here | apply Pick.skip | apply Pick.app); done); focus rfl) | (apply en_pick; focus ((repeat' first | exact Pick.here | apply Pick.skip | apply Pick.app); done)) | apply en_drop | apply en_app) <;> fail)
    · simp only
      rw [tp]
      exact f2.put hta (cellR_mono _ hsi) hY
    · exact hY.each (P := fun _ _ A c m => AdOk A c m) (fun _ _ _ _ _ _ _ _ _ g => g.2) f3
  · have e : i = l.length := by omega
    subst e
    rw [List.take_length] at f2
    (repeat first | refine G_seq ?_ | refine G_skip ?_ | refine G_endblk ?_ | refine G_block ?_ | refine G_exit rfl ?_)
    refine G_end (rs := []) (vs := []) (L' := blk t 43 (tgC x' X0.addr A l.length c most (built + 1)) :: raH x' :: own 32 3 A l.length c (flat l) :: saH X :: M) rfl .nil (by (repeat first | exact en_refl | (apply en_blk; focus ((repeat' first | exact Pick.here | apply Pick.skip | apply Pick.app); done); focus rfl) | (apply en_own; focus ((repeat' first | exact Pick.here | apply Pick.skip | apply Pick.app); done); focus rfl) | (apply en_pick; focus ((repeat' first | exact Pick.here | apply Pick.skip | apply Pick.app); done)) | apply en_drop | apply en_app) <;> fail) ⟨rfl, X, ⟨f2, f3⟩, by rw [f4]⟩
/-- The ends of all. -/
def endsOf (l : List Pt) : List Int := l.flatMap fun s => [s.x, s.y]
theorem endsOf_snoc (l : List Pt) (s : Pt) : endsOf (l ++ [s]) = endsOf l ++ [s.x, s.y] := by simp [endsOf]
theorem endsOf_length (l : List Pt) : (endsOf l).length = 2 * l.length := by
  induction l with
  | nil => rfl
  | cons a l ih => simp only [endsOf, List.flatMap_cons, List.length_append, List.length_cons] at ih ⊢; simp only [List.length_nil]; omega
def fairP (s : Pt) : Bool := goodId s.id && good s.x && good s.y && decide (s.x ≤ s.y)
theorem KFair_ctr (s : Pt) (L : List HP) : Ctr Try.prog 14 #[s.v] L fun v L' => v = .bool (fairP s) ∧ L' = L := by
  refine Ctr_of (fn := Try.f14) (n := 23) Try.func14 rfl rfl rfl ?_
  intro g F
  (repeat first | refine G_seq ?_ | refine G_skip ?_ | refine G_endblk ?_ | refine G_block ?_ | refine G_exit rfl ?_)
  refine G_region ?_
  refine GO_eff rfl rfl (eff_box rfl) ?_; rintro _ _ ⟨b1, rfl, rfl⟩
  refine GO_q rfl rfl (ev_assign rfl) ?_
  refine GO_nil ?_
  (repeat first | refine G_seq ?_ | refine G_skip ?_ | refine G_endblk ?_ | refine G_block ?_ | refine G_exit rfl ?_)
  refine G_region ?_
  refine GO_q rfl rfl (ev_fieldAddr rfl) ?_
  refine GO_q rfl rfl (ev_load rfl (by repeat' first | exact Ld.blk rfl | assumption | apply Ld.skip | apply Ld.app)) ?_
  refine GO_eff rfl rfl (eff_call rfl (kid_id_ctr _ _)) ?_; rintro _ _ ⟨rfl, rfl⟩
  refine GO_q rfl rfl (ev_move rfl) ?_
  refine GO_guard rfl rfl rfl (fun hc17 => ?y17) (fun hc17 => ?n17)
  case' n17 =>
    have hd17 := hc17
    try simp only [decide_eq_true_eq, decide_eq_false_iff_not, Bool.not_true, Bool.not_false, Bool.not_eq_true', Bool.not_eq_false'] at hd17
    refine GO_no rfl rfl rfl hc17 ?_
    refine GO_no rfl rfl rfl hc17 ?_
    refine GO_q rfl rfl (ev_pick_f rfl hc17 rfl) ?_
    refine GO_q rfl rfl (ev_move rfl) ?_
    refine GO_no rfl rfl rfl rfl ?_
    refine GO_no rfl rfl rfl rfl ?_
    refine GO_no rfl rfl rfl rfl ?_
    refine GO_q rfl rfl (ev_pick_f rfl rfl rfl) ?_
    refine GO_q rfl rfl (ev_move rfl) ?_
    refine GO_no rfl rfl rfl rfl ?_
    refine GO_no rfl rfl rfl rfl ?_
    refine GO_no rfl rfl rfl rfl ?_
    refine GO_no rfl rfl rfl rfl ?_
    refine GO_no rfl rfl rfl rfl ?_
    refine GO_q rfl rfl (ev_pick_f rfl rfl rfl) ?_
    refine GO_q rfl rfl (ev_assign rfl) ?_
    refine GO_nil ?_
    (repeat first | refine G_seq ?_ | refine G_skip ?_ | refine G_endblk ?_ | refine G_block ?_ | refine G_exit rfl ?_)
    refine G_ret rfl (.tmp rfl .nil) (by (repeat first | exact fun _ s => s | apply en_keep | apply en_drop | apply en_app) <;> fail) ⟨by simp_all [retv, fairP], rfl⟩
  case' y17 =>
    have hd17 := hc17
    try simp only [decide_eq_true_eq, decide_eq_false_iff_not, Bool.not_true, Bool.not_false, Bool.not_eq_true', Bool.not_eq_false'] at hd17
    refine GO_q rfl rfl (ev_fieldAddr rfl) ?_
    refine GO_yes rfl rfl rfl hc17 ?_
    refine GO_q rfl rfl (ev_load rfl (by repeat' first | exact Ld.blk rfl | assumption | apply Ld.skip | apply Ld.app)) ?_
    refine GO_yes rfl rfl rfl hc17 ?_
    refine GO_eff rfl rfl (eff_call rfl (Good_ctr _ _)) ?_; rintro _ _ ⟨rfl, rfl⟩
    refine GO_q rfl rfl (ev_pick_t rfl hc17 rfl) ?_
    refine GO_q rfl rfl (ev_move rfl) ?_
    refine GO_guard rfl rfl rfl (fun hc21 => ?y21) (fun hc21 => ?n21)
    case' n21 =>
      have hd21 := hc21
      try simp only [decide_eq_true_eq, decide_eq_false_iff_not, Bool.not_true, Bool.not_false, Bool.not_eq_true', Bool.not_eq_false'] at hd21
      refine GO_no rfl rfl rfl hc21 ?_
      refine GO_no rfl rfl rfl hc21 ?_
      refine GO_q rfl rfl (ev_pick_f rfl hc21 rfl) ?_
      refine GO_q rfl rfl (ev_move rfl) ?_
      refine GO_no rfl rfl rfl rfl ?_
      refine GO_no rfl rfl rfl rfl ?_
      refine GO_no rfl rfl rfl rfl ?_
      refine GO_no rfl rfl rfl rfl ?_
      refine GO_no rfl rfl rfl rfl ?_
      refine GO_q rfl rfl (ev_pick_f rfl rfl rfl) ?_
      refine GO_q rfl rfl (ev_assign rfl) ?_
      refine GO_nil ?_
      (repeat first | refine G_seq ?_ | refine G_skip ?_ | refine G_endblk ?_ | refine G_block ?_ | refine G_exit rfl ?_)
      refine G_ret rfl (.tmp rfl .nil) (by (repeat first | exact fun _ s => s | apply en_keep | apply en_drop | apply en_app) <;> fail) ⟨by simp_all [retv, fairP], rfl⟩
    case' y21 =>
      have hd21 := hc21
      try simp only [decide_eq_true_eq, decide_eq_false_iff_not, Bool.not_true, Bool.not_false, Bool.not_eq_true', Bool.not_eq_false'] at hd21
      refine GO_q rfl rfl (ev_fieldAddr rfl) ?_
      refine GO_yes rfl rfl rfl hc21 ?_
      refine GO_q rfl rfl (ev_load rfl (by repeat' first | exact Ld.blk rfl | assumption | apply Ld.skip | apply Ld.app)) ?_
      refine GO_yes rfl rfl rfl hc21 ?_
      refine GO_eff rfl rfl (eff_call rfl (Good_ctr _ _)) ?_; rintro _ _ ⟨rfl, rfl⟩
      refine GO_q rfl rfl (ev_pick_t rfl hc21 rfl) ?_
      refine GO_q rfl rfl (ev_move rfl) ?_
      refine GO_guard rfl rfl rfl (fun hc25 => ?y25) (fun hc25 => ?n25)
      case' n25 =>
        have hd25 := hc25
        try simp only [decide_eq_true_eq, decide_eq_false_iff_not, Bool.not_true, Bool.not_false, Bool.not_eq_true', Bool.not_eq_false'] at hd25
        refine GO_no rfl rfl rfl hc25 ?_
        refine GO_no rfl rfl rfl hc25 ?_
        refine GO_no rfl rfl rfl hc25 ?_
        refine GO_no rfl rfl rfl hc25 ?_
        refine GO_q rfl rfl (ev_pick_f rfl hc25 rfl) ?_
        refine GO_q rfl rfl (ev_assign rfl) ?_
        refine GO_nil ?_
        (repeat first | refine G_seq ?_ | refine G_skip ?_ | refine G_endblk ?_ | refine G_block ?_ | refine G_exit rfl ?_)
        refine G_ret rfl (.tmp rfl .nil) (by (repeat first | exact fun _ s => s | apply en_keep | apply en_drop | apply en_app) <;> fail) ⟨by simp_all [retv, fairP], rfl⟩
      case' y25 =>
        have hd25 := hc25
        try simp only [decide_eq_true_eq, decide_eq_false_iff_not, Bool.not_true, Bool.not_false, Bool.not_eq_true', Bool.not_eq_false'] at hd25
        refine GO_q rfl rfl (ev_fieldAddr rfl) ?_
        refine GO_yes rfl rfl rfl hc25 ?_
        refine GO_q rfl rfl (ev_load rfl (by repeat' first | exact Ld.blk rfl | assumption | apply Ld.skip | apply Ld.app)) ?_
        refine GO_yes rfl rfl rfl hc25 ?_
        refine GO_q rfl rfl (ev_fieldAddr rfl) ?_
        refine GO_yes rfl rfl rfl hc25 ?_
        refine GO_q rfl rfl (ev_load rfl (by repeat' first | exact Ld.blk rfl | assumption | apply Ld.skip | apply Ld.app)) ?_
        refine GO_yes rfl rfl rfl hc25 ?_
        refine GO_q rfl rfl (ev_leq rfl rfl) ?_
        refine GO_q rfl rfl (ev_pick_t rfl hc25 rfl) ?_
        refine GO_q rfl rfl (ev_assign rfl) ?_
        refine GO_nil ?_
        (repeat first | refine G_seq ?_ | refine G_skip ?_ | refine G_endblk ?_ | refine G_block ?_ | refine G_exit rfl ?_)
        refine G_ret rfl (.tmp rfl .nil) (by (repeat first | exact fun _ s => s | apply en_keep | apply en_drop | apply en_app) <;> fail) ⟨by simp_all [retv, fairP], rfl⟩
/-- What is true of a tree: x the numbers, X the nodes, l its intervals in order, k as they came. -/
structure TOk (x : RA) (X : SA) (A : Option Addr) (c : Nat) (l k : List Pt) (R : List Int) : Prop where
  xo : x.ok
  xR : x.R = R
  ad : X.each fun _ _ A c m => AdOk A c m
  a : AdOk A c l
  asc : Asc l
  sg : SgOk (qR R) l X 0 (2 * R.length) noP
  ends : ∀ s ∈ l, s.x ∈ R ∧ s.y ∈ R ∧ s.x ≤ s.y
  small : R.length ≤ 4 * l.length + 6
  perm : l.Perm k
structure TIn (L : List HP) (t : Nat) (x : RA) (X : SA) (A : Option Addr) (c : Nat) (l : List Pt) (most : Int) (built : Nat) : Prop where
  t : LdN L t 0 5 (tgC x X.addr A l.length c most built)
  x : RIn L x
  X : SIn L X
  l : Rd L A l.length l
theorem TIn.skip {Y : HP} {L : List HP} {t : Nat} {x : RA} {X : SA} {A : Option Addr} {c : Nat} {l : List Pt} {most : Int} {built : Nat} (h : TIn L t x X A c l most built) : TIn (Y :: L) t x X A c l most built := ⟨h.t.skip, h.x.skip, h.X.skip, h.l.skip⟩
theorem TIn.app {N L : List HP} {t : Nat} {x : RA} {X : SA} {A : Option Addr} {c : Nat} {l : List Pt} {most : Int} {built : Nat} (h : TIn L t x X A c l most built) : TIn (N ++ L) t x X A c l most built := by
  induction N with
  | nil => exact h
  | cons X N ih => exact ih.skip
/-- A tree as it lies in memory. -/
def tgL (t : Nat) (x : RA) (X : SA) (A : Option Addr) (c : Nat) (l : List Pt) (most : Int) (built : Nat) (M : List HP) : List HP := blk t 43 (tgC x X.addr A l.length c most built) :: raH x :: saH X :: own 32 3 A l.length c (flat l) :: M
theorem TOk.in_ {x : RA} {X : SA} {A : Option Addr} {c : Nat} {l k : List Pt} {R : List Int} (o : TOk x X A c l k R) (t : Nat) (most : Int) (built : Nat) (M : List HP) : TIn (tgL t x X A c l most built M) t x X A c l most built :=
  ⟨LdN.blk rfl, RIn.skip (raH_in o.xo _), SIn.skip (SIn.skip (saH_in o.ad _)), Rd.skip (Rd.skip (Rd.skip (Rc.own (flat_length l) o.a.1)))⟩
theorem thas_ctr (t : Nat) (x : RA) (X : SA) (A : Option Addr) (c : Nat) (l : List Pt) (most : Int) (built : Nat) (s : Pt) (L : List HP) (h : TIn L t x X A c l most built) (ho : Asc l) (hl : l.length ≤ 1000) :
    Ctr Try.prog 15 #[.pointer (some ⟨t, 0, none⟩), s.v] L fun v L' => v = .bool (decide (s ∈ l)) ∧ L' = L := by
  have h2 : Ld L ⟨t, 0 + 2, none⟩ (.slice A l.length c) := h.t.at_ (i := 2) rfl
  have hr := h.l
  generalize hd : decide (s ∈ l) = d
  have hh := fun L hr => HasS_ctr A l.length c l s L hr (by omega) ho
  rw [hd] at hh
  refine Ctr_of (fn := Try.f15) (n := 15) Try.func15 rfl rfl rfl ?_
  intro g F
  (repeat first | refine G_seq ?_ | refine G_skip ?_ | refine G_endblk ?_ | refine G_block ?_ | refine G_exit rfl ?_)
  refine G_region ?_
  refine GO_eff rfl rfl (eff_box rfl) ?_; rintro _ _ ⟨b3, rfl, rfl⟩
  refine GO_q rfl rfl (ev_assign rfl) ?_
  refine GO_nil ?_
  (repeat first | refine G_seq ?_ | refine G_skip ?_ | refine G_endblk ?_ | refine G_block ?_ | refine G_exit rfl ?_)
  (repeat first | refine G_seq ?_ | refine G_skip ?_ | refine G_endblk ?_ | refine G_block ?_ | refine G_exit rfl ?_)
  refine G_draw (.q 0 (.q 1 (.q 2 (.q 3 (.q 4 (.q 5 (.q 6 (.q 7 (.e 8 (.q 9 (.q 10 .nil))))))))))) (by kernel_rfl) (by kernel_rfl) ?_
  refine RS_m retB_noPanic rfl rfl rfl rfl (ev_move rfl) ?_
  (first | refine RS_m retB_noPanic rfl rfl rfl rfl (ev_neqNil rfl rfl) ?_ | refine RS_m retB_noPanic rfl rfl rfl rfl (ev_neqPtr rfl rfl) ?_)
  refine RS_m retB_noPanic rfl rfl rfl rfl (ev_move rfl) ?_
  refine RS_m_yes retB_noPanic rfl rfl rfl rfl ⟨_, rfl, rfl⟩ rfl (ev_move rfl) ?_
  (first | refine RS_m_yes retB_noPanic rfl rfl rfl rfl ⟨_, rfl, rfl⟩ rfl (ev_nilCheck rfl) ?_ | refine RS_m_yes retB_noPanic rfl rfl rfl rfl ⟨_, rfl, rfl⟩ rfl (ev_nilCheckF (by simp) rfl) ?_)
  refine RS_m_yes retB_noPanic rfl rfl rfl rfl ⟨_, rfl, rfl⟩ rfl (ev_fieldAddr rfl) ?_
  refine RS_q_yes retB_noPanic rfl rfl rfl rfl ⟨_, rfl, rfl⟩ rfl (ev_load rfl (by repeat' first | exact Ld.blk rfl | assumption | apply Ld.skip | apply Ld.app)) ?_
  refine RS_q_yes retB_noPanic rfl rfl rfl rfl ⟨_, rfl, rfl⟩ rfl (ev_loadN rfl (by repeat' first | exact LdN.blk rfl | assumption | apply LdN.skip | apply LdN.app)) ?_
  refine RS_e (RE_eff_yes rfl rfl rfl ⟨_, rfl, rfl⟩ rfl (eff_call rfl (hh _ (by repeat' first | exact Rc.blk rfl | assumption | apply Rd.skip | apply Rd.app))) ?_); rintro _ _ ⟨rfl, rfl⟩; refine ⟨_, fun _ s => s, (by first | ((repeat first | exact fun _ s => s | apply en_keep | apply en_drop | apply en_app) <;> fail) | ((repeat first | exact en_refl | (apply en_blk; focus ((repeat' first | exact Pick.here | apply Pick.skip | apply Pick.app); done); focus rfl) | (apply en_own; focus ((repeat' first | exact Pick.here | apply Pick.skip | apply Pick.app); done); focus rfl) | (apply en_pick; focus ((repeat' first | exact Pick.here | apply Pick.skip | apply Pick.app); done)) | apply en_drop | apply en_app) <;> fail)), ?_⟩
  refine RS_m retB_noPanic rfl rfl rfl rfl (ev_pick_t rfl rfl rfl) ?_
  refine RS_m retB_noPanic rfl rfl rfl rfl (ev_assign rfl) ?_
  refine RS_nil ?_
  (repeat first | refine G_seq ?_ | refine G_skip ?_ | refine G_endblk ?_ | refine G_block ?_ | refine G_exit rfl ?_)
  refine G_ret rfl (.tmp rfl .nil) (by (repeat first | exact fun _ s => s | apply en_keep | apply en_drop | apply en_app) <;> fail) ⟨rfl, rfl⟩
/-- What Insert tells. -/
def insE (most : Int) (k : List Pt) (s : Pt) : Int := if fairP s = false then 1 else if s ∈ k then 5 else if most ≤ (k.length : Nat) then 4 else 0
def bothIn (R : List Int) (s : Pt) : Bool := hasR R s.x && hasR R s.y
def insR (R : List Int) (s : Pt) : List Int := if bothIn R s then R else ofL (R ++ [s.x, s.y])
def insB (R : List Int) (s : Pt) (b : Nat) : Nat := if bothIn R s then b else b + 1
theorem fairP.le {s : Pt} (h : fairP s = true) : s.x ≤ s.y := by unfold fairP at h; simp at h; exact h.2
theorem tInsert_ctr (t : Nat) (x : RA) (X : SA) (A : Option Addr) (c : Nat) (l k : List Pt) (R : List Int) (most : Int) (built : Nat) (s : Pt) (M : List HP) (o : TOk x X A c l k R) (hk : k.length ≤ 100) (hb : built ≤ 100000) :
    Ctr Try.prog 9 #[.pointer (some ⟨t, 0, none⟩), s.v] (tgL t x X A c l most built M) fun v L' => v = .int .i64 (insE most k s) ∧ ∃ x' X' A' c' l', (if insE most k s = 0 then TOk x' X' A' c' l' (k ++ [s]) (insR R s) else x' = x ∧ X' = X ∧ A' = A ∧ c' = c ∧ l' = l) ∧ L' = tgL t x' X' A' c' l' most (if insE most k s = 0 then insB R s built else built) M := by
  have hin := o.in_ t most built M
  have hll : l.length = k.length := o.perm.length_eq
  have h2 : ∀ L', Ld (blk t 43 (tgC x X.addr A l.length c most built) :: L') ⟨t, 0 + 2, none⟩ (.slice A l.length c) := fun L' => Ld.blk rfl
  have hhas := fun L h => thas_ctr t x X A c l most built s L h o.asc (by omega)
  have hmem : decide (s ∈ l) = decide (s ∈ k) := decide_eq_decide.2 o.perm.mem_iff
  rw [hmem] at hhas
  by_cases c1 : fairP s = false
  · have e : insE most k s = 1 := by unfold insE; rw [if_pos c1]
    have hf := KFair_ctr s
    rw [c1] at hf
    rw [e]
    refine Ctr.mono (post := fun v L' => v = .int .i64 1 ∧ L' = tgL t x X A c l most built M) ?_ (fun v L' h => ⟨h.1, x, X, A, c, l, ⟨rfl, rfl, rfl, rfl, rfl⟩, h.2⟩)
    generalize tgL t x X A c l most built M = LL at *
    refine Ctr_of (fn := Try.f9) (n := 62) Try.func9 rfl rfl rfl ?_
    intro g F
    (repeat first | refine G_seq ?_ | refine G_skip ?_ | refine G_endblk ?_ | refine G_block ?_ | refine G_exit rfl ?_)
    refine G_region ?_
    refine GO_eff rfl rfl (eff_box rfl) ?_; rintro _ _ ⟨b3, rfl, rfl⟩
    refine GO_q rfl rfl (ev_assign rfl) ?_
    refine GO_nil ?_
    (repeat first | refine G_seq ?_ | refine G_skip ?_ | refine G_endblk ?_ | refine G_block ?_ | refine G_exit rfl ?_)
    (repeat first | refine G_seq ?_ | refine G_skip ?_ | refine G_endblk ?_ | refine G_block ?_ | refine G_exit rfl ?_)
    refine G_region ?_
    refine GO_q rfl rfl (ev_move rfl) ?_
    (first | refine GO_q rfl rfl (ev_eqlNil rfl rfl) ?_ | refine GO_q rfl rfl (ev_eqlPtr rfl rfl) ?_)
    refine GO_q rfl rfl (ev_move rfl) ?_
    refine GO_yes rfl rfl rfl rfl ?_
    refine GO_q rfl rfl (ev_loadN rfl (by repeat' first | exact LdN.blk rfl | assumption | apply LdN.skip | apply LdN.app)) ?_
    refine GO_yes rfl rfl rfl rfl ?_
    refine GO_eff rfl rfl (eff_call rfl (hf _)) ?_; rintro _ _ ⟨rfl, rfl⟩
    refine GO_yes rfl rfl rfl rfl ?_
    refine GO_q rfl rfl (ev_not rfl) ?_
    refine GO_q rfl rfl (ev_pick_f rfl rfl rfl) ?_
    refine GO_q rfl rfl (ev_assign rfl) ?_
    refine GO_nil ?_
    (repeat first | refine G_seq ?_ | refine G_skip ?_ | refine G_endblk ?_ | refine G_block ?_ | refine G_exit rfl ?_)
    refine G_cond_t rfl rfl ?_
    (repeat first | refine G_seq ?_ | refine G_skip ?_ | refine G_endblk ?_ | refine G_block ?_ | refine G_exit rfl ?_)
    refine G_region ?_
    refine GO_q rfl rfl (ev_assign rfl) ?_
    refine GO_nil ?_
    (repeat first | refine G_seq ?_ | refine G_skip ?_ | refine G_endblk ?_ | refine G_block ?_ | refine G_exit rfl ?_)
    refine G_ret rfl (.tmp rfl .nil) (by (repeat first | exact fun _ s => s | apply en_keep | apply en_drop | apply en_app) <;> fail) ⟨rfl, rfl⟩
  · have hf := KFair_ctr s
    have c1' : fairP s = true := by simpa using c1
    have hxy := fairP.le c1'
    rw [c1'] at hf
    by_cases c2 : s ∈ k
    · have e : insE most k s = 5 := by unfold insE; rw [if_neg c1, if_pos c2]
      rw [decide_eq_true c2] at hhas
      rw [e]
      refine Ctr.mono (post := fun v L' => v = .int .i64 5 ∧ L' = tgL t x X A c l most built M) ?_ (fun v L' h => ⟨h.1, x, X, A, c, l, ⟨rfl, rfl, rfl, rfl, rfl⟩, h.2⟩)
      generalize tgL t x X A c l most built M = LL at *
      refine Ctr_of (fn := Try.f9) (n := 62) Try.func9 rfl rfl rfl ?_
      intro g F
      (repeat first | refine G_seq ?_ | refine G_skip ?_ | refine G_endblk ?_ | refine G_block ?_ | refine G_exit rfl ?_)
      refine G_region ?_
      refine GO_eff rfl rfl (eff_box rfl) ?_; rintro _ _ ⟨b3, rfl, rfl⟩
      refine GO_q rfl rfl (ev_assign rfl) ?_
      refine GO_nil ?_
      (repeat first | refine G_seq ?_ | refine G_skip ?_ | refine G_endblk ?_ | refine G_block ?_ | refine G_exit rfl ?_)
      (repeat first | refine G_seq ?_ | refine G_skip ?_ | refine G_endblk ?_ | refine G_block ?_ | refine G_exit rfl ?_)
      refine G_region ?_
      refine GO_q rfl rfl (ev_move rfl) ?_
      (first | refine GO_q rfl rfl (ev_eqlNil rfl rfl) ?_ | refine GO_q rfl rfl (ev_eqlPtr rfl rfl) ?_)
      refine GO_q rfl rfl (ev_move rfl) ?_
      refine GO_yes rfl rfl rfl rfl ?_
      refine GO_q rfl rfl (ev_loadN rfl (by repeat' first | exact LdN.blk rfl | assumption | apply LdN.skip | apply LdN.app)) ?_
      refine GO_yes rfl rfl rfl rfl ?_
      refine GO_eff rfl rfl (eff_call rfl (hf _)) ?_; rintro _ _ ⟨rfl, rfl⟩
      refine GO_yes rfl rfl rfl rfl ?_
      refine GO_q rfl rfl (ev_not rfl) ?_
      refine GO_q rfl rfl (ev_pick_f rfl rfl rfl) ?_
      refine GO_q rfl rfl (ev_assign rfl) ?_
      refine GO_nil ?_
      (repeat first | refine G_seq ?_ | refine G_skip ?_ | refine G_endblk ?_ | refine G_block ?_ | refine G_exit rfl ?_)
      refine G_cond_f rfl rfl ?_
      (repeat first | refine G_seq ?_ | refine G_skip ?_ | refine G_endblk ?_ | refine G_block ?_ | refine G_exit rfl ?_)
      refine G_region ?_
      refine GO_q rfl rfl (ev_move rfl) ?_
      refine GO_q rfl rfl (ev_loadN rfl (by repeat' first | exact LdN.blk rfl | assumption | apply LdN.skip | apply LdN.app)) ?_
      refine GO_eff rfl rfl (eff_call rfl (hhas _ hin.skip.skip)) ?_; rintro _ _ ⟨rfl, rfl⟩
      refine GO_q rfl rfl (ev_assign rfl) ?_
      refine GO_nil ?_
      (repeat first | refine G_seq ?_ | refine G_skip ?_ | refine G_endblk ?_ | refine G_block ?_ | refine G_exit rfl ?_)
      refine G_cond_t rfl rfl ?_
      (repeat first | refine G_seq ?_ | refine G_skip ?_ | refine G_endblk ?_ | refine G_block ?_ | refine G_exit rfl ?_)
      refine G_region ?_
      refine GO_q rfl rfl (ev_assign rfl) ?_
      refine GO_nil ?_
      (repeat first | refine G_seq ?_ | refine G_skip ?_ | refine G_endblk ?_ | refine G_block ?_ | refine G_exit rfl ?_)
      refine G_ret rfl (.tmp rfl .nil) (by (repeat first | exact fun _ s => s | apply en_keep | apply en_drop | apply en_app) <;> fail) ⟨rfl, rfl⟩
    · rw [decide_eq_false c2] at hhas
      by_cases c3 : most ≤ (k.length : Nat)
      · have e : insE most k s = 4 := by unfold insE; rw [if_neg c1, if_neg c2, if_pos c3]
        rw [e]
        refine Ctr.mono (post := fun v L' => v = .int .i64 4 ∧ L' = tgL t x X A c l most built M) ?_ (fun v L' h => ⟨h.1, x, X, A, c, l, ⟨rfl, rfl, rfl, rfl, rfl⟩, h.2⟩)
        have h2' : Ld (tgL t x X A c l most built M) ⟨t, 0 + 2, none⟩ (.slice A l.length c) := hin.t.at_ (i := 2) rfl
        have h3' : Ld (tgL t x X A c l most built M) ⟨t, 0 + 3, none⟩ (.int .i64 most) := hin.t.at_ (i := 3) rfl
        generalize tgL t x X A c l most built M = LL at *
        refine Ctr_of (fn := Try.f9) (n := 62) Try.func9 rfl rfl rfl ?_
        intro g F
        (repeat first | refine G_seq ?_ | refine G_skip ?_ | refine G_endblk ?_ | refine G_block ?_ | refine G_exit rfl ?_)
        refine G_region ?_
        refine GO_eff rfl rfl (eff_box rfl) ?_; rintro _ _ ⟨b3, rfl, rfl⟩
        refine GO_q rfl rfl (ev_assign rfl) ?_
        refine GO_nil ?_
        (repeat first | refine G_seq ?_ | refine G_skip ?_ | refine G_endblk ?_ | refine G_block ?_ | refine G_exit rfl ?_)
        (repeat first | refine G_seq ?_ | refine G_skip ?_ | refine G_endblk ?_ | refine G_block ?_ | refine G_exit rfl ?_)
        refine G_region ?_
        refine GO_q rfl rfl (ev_move rfl) ?_
        (first | refine GO_q rfl rfl (ev_eqlNil rfl rfl) ?_ | refine GO_q rfl rfl (ev_eqlPtr rfl rfl) ?_)
        refine GO_q rfl rfl (ev_move rfl) ?_
        refine GO_yes rfl rfl rfl rfl ?_
        refine GO_q rfl rfl (ev_loadN rfl (by repeat' first | exact LdN.blk rfl | assumption | apply LdN.skip | apply LdN.app)) ?_
        refine GO_yes rfl rfl rfl rfl ?_
        refine GO_eff rfl rfl (eff_call rfl (hf _)) ?_; rintro _ _ ⟨rfl, rfl⟩
        refine GO_yes rfl rfl rfl rfl ?_
        refine GO_q rfl rfl (ev_not rfl) ?_
        refine GO_q rfl rfl (ev_pick_f rfl rfl rfl) ?_
        refine GO_q rfl rfl (ev_assign rfl) ?_
        refine GO_nil ?_
        (repeat first | refine G_seq ?_ | refine G_skip ?_ | refine G_endblk ?_ | refine G_block ?_ | refine G_exit rfl ?_)
        refine G_cond_f rfl rfl ?_
        (repeat first | refine G_seq ?_ | refine G_skip ?_ | refine G_endblk ?_ | refine G_block ?_ | refine G_exit rfl ?_)
        refine G_region ?_
        refine GO_q rfl rfl (ev_move rfl) ?_
        refine GO_q rfl rfl (ev_loadN rfl (by repeat' first | exact LdN.blk rfl | assumption | apply LdN.skip | apply LdN.app)) ?_
        refine GO_eff rfl rfl (eff_call rfl (hhas _ hin.skip.skip)) ?_; rintro _ _ ⟨rfl, rfl⟩
        refine GO_q rfl rfl (ev_assign rfl) ?_
        refine GO_nil ?_
        (repeat first | refine G_seq ?_ | refine G_skip ?_ | refine G_endblk ?_ | refine G_block ?_ | refine G_exit rfl ?_)
        refine G_cond_f rfl rfl ?_
        (repeat first | refine G_seq ?_ | refine G_skip ?_ | refine G_endblk ?_ | refine G_block ?_ | refine G_exit rfl ?_)
        refine G_draw (.q 0 (.q 1 (.q 2 (.q 3 (.q 4 (.q 5 (.q 6 (.q 7 (.q 8 (.q 9 (.q 10 .nil))))))))))) (by kernel_rfl) (by kernel_rfl) ?_
        refine RS_m retB_noPanic rfl rfl rfl rfl (ev_move rfl) ?_
        (first | refine RS_m retB_noPanic rfl rfl rfl rfl (ev_nilCheck rfl) ?_ | refine RS_m retB_noPanic rfl rfl rfl rfl (ev_nilCheckF (by simp) rfl) ?_)
        refine RS_m retB_noPanic rfl rfl rfl rfl (ev_fieldAddr rfl) ?_
        refine RS_q retB_noPanic rfl rfl rfl rfl (ev_load rfl (by repeat' first | exact Ld.blk rfl | assumption | apply Ld.skip | apply Ld.app)) ?_
        refine RS_q retB_noPanic rfl rfl rfl rfl (ev_len rfl) ?_
        refine RS_m retB_noPanic rfl rfl rfl rfl (ev_move rfl) ?_
        (first | refine RS_m retB_noPanic rfl rfl rfl rfl (ev_nilCheck rfl) ?_ | refine RS_m retB_noPanic rfl rfl rfl rfl (ev_nilCheckF (by simp) rfl) ?_)
        refine RS_m retB_noPanic rfl rfl rfl rfl (ev_fieldAddr rfl) ?_
        refine RS_q retB_noPanic rfl rfl rfl rfl (ev_load rfl (by repeat' first | exact Ld.blk rfl | assumption | apply Ld.skip | apply Ld.app)) ?_
        refine RS_m retB_noPanic rfl rfl rfl rfl (ev_geq rfl rfl) ?_
        refine RS_m retB_noPanic rfl rfl rfl rfl (ev_assign rfl) ?_
        refine RS_nil ?_
        (repeat first | refine G_seq ?_ | refine G_skip ?_ | refine G_endblk ?_ | refine G_block ?_ | refine G_exit rfl ?_)
        refine G_cond_t rfl (decide_eq_true (by omega)) ?_
        (repeat first | refine G_seq ?_ | refine G_skip ?_ | refine G_endblk ?_ | refine G_block ?_ | refine G_exit rfl ?_)
        refine G_region ?_
        refine GO_q rfl rfl (ev_assign rfl) ?_
        refine GO_nil ?_
        (repeat first | refine G_seq ?_ | refine G_skip ?_ | refine G_endblk ?_ | refine G_block ?_ | refine G_exit rfl ?_)
        refine G_ret rfl (.tmp rfl .nil) (by (repeat first | exact fun _ s => s | apply en_keep | apply en_drop | apply en_app) <;> fail) ⟨rfl, rfl⟩
      · have e : insE most k s = 0 := by unfold insE; rw [if_neg c1, if_neg c2, if_neg c3]
        have hRl : x.R.length ≤ 1000 := by rw [o.xR]; have := o.small; omega
        have hrk := fun L h => rlow_ctr x s.x L h o.xo (by omega)
        have hxR := o.xR
        have hsl : s ∉ l := fun h => c2 (o.perm.mem_iff.1 h)
        rw [e]
        simp only [if_true]
        unfold tgL
        refine Ctr_of (fn := Try.f9) (n := 62) Try.func9 rfl rfl rfl ?_
        intro g F
        (repeat first | refine G_seq ?_ | refine G_skip ?_ | refine G_endblk ?_ | refine G_block ?_ | refine G_exit rfl ?_)
        refine G_region ?_
        refine GO_eff rfl rfl (eff_box rfl) ?_; rintro _ _ ⟨b3, rfl, rfl⟩
        refine GO_q rfl rfl (ev_assign rfl) ?_
        refine GO_nil ?_
        (repeat first | refine G_seq ?_ | refine G_skip ?_ | refine G_endblk ?_ | refine G_block ?_ | refine G_exit rfl ?_)
        (repeat first | refine G_seq ?_ | refine G_skip ?_ | refine G_endblk ?_ | refine G_block ?_ | refine G_exit rfl ?_)
        refine G_region ?_
        refine GO_q rfl rfl (ev_move rfl) ?_
        (first | refine GO_q rfl rfl (ev_eqlNil rfl rfl) ?_ | refine GO_q rfl rfl (ev_eqlPtr rfl rfl) ?_)
        refine GO_q rfl rfl (ev_move rfl) ?_
        refine GO_yes rfl rfl rfl rfl ?_
        refine GO_q rfl rfl (ev_loadN rfl (by repeat' first | exact LdN.blk rfl | assumption | apply LdN.skip | apply LdN.app)) ?_
        refine GO_yes rfl rfl rfl rfl ?_
        refine GO_eff rfl rfl (eff_call rfl (hf _)) ?_; rintro _ _ ⟨rfl, rfl⟩
        refine GO_yes rfl rfl rfl rfl ?_
        refine GO_q rfl rfl (ev_not rfl) ?_
        refine GO_q rfl rfl (ev_pick_f rfl rfl rfl) ?_
        refine GO_q rfl rfl (ev_assign rfl) ?_
        refine GO_nil ?_
        (repeat first | refine G_seq ?_ | refine G_skip ?_ | refine G_endblk ?_ | refine G_block ?_ | refine G_exit rfl ?_)
        refine G_cond_f rfl rfl ?_
        (repeat first | refine G_seq ?_ | refine G_skip ?_ | refine G_endblk ?_ | refine G_block ?_ | refine G_exit rfl ?_)
        refine G_region ?_
        refine GO_q rfl rfl (ev_move rfl) ?_
        refine GO_q rfl rfl (ev_loadN rfl (by repeat' first | exact LdN.blk rfl | assumption | apply LdN.skip | apply LdN.app)) ?_
        refine GO_eff rfl rfl (eff_call rfl (hhas _ hin.skip.skip)) ?_; rintro _ _ ⟨rfl, rfl⟩
        refine GO_q rfl rfl (ev_assign rfl) ?_
        refine GO_nil ?_
        (repeat first | refine G_seq ?_ | refine G_skip ?_ | refine G_endblk ?_ | refine G_block ?_ | refine G_exit rfl ?_)
        refine G_cond_f rfl rfl ?_
        (repeat first | refine G_seq ?_ | refine G_skip ?_ | refine G_endblk ?_ | refine G_block ?_ | refine G_exit rfl ?_)
        refine G_draw (.q 0 (.q 1 (.q 2 (.q 3 (.q 4 (.q 5 (.q 6 (.q 7 (.q 8 (.q 9 (.q 10 .nil))))))))))) (by kernel_rfl) (by kernel_rfl) ?_
        refine RS_m retB_noPanic rfl rfl rfl rfl (ev_move rfl) ?_
        (first | refine RS_m retB_noPanic rfl rfl rfl rfl (ev_nilCheck rfl) ?_ | refine RS_m retB_noPanic rfl rfl rfl rfl (ev_nilCheckF (by simp) rfl) ?_)
        refine RS_m retB_noPanic rfl rfl rfl rfl (ev_fieldAddr rfl) ?_
        refine RS_q retB_noPanic rfl rfl rfl rfl (ev_load rfl (by repeat' first | exact Ld.blk rfl | assumption | apply Ld.skip | apply Ld.app)) ?_
        refine RS_q retB_noPanic rfl rfl rfl rfl (ev_len rfl) ?_
        refine RS_m retB_noPanic rfl rfl rfl rfl (ev_move rfl) ?_
        (first | refine RS_m retB_noPanic rfl rfl rfl rfl (ev_nilCheck rfl) ?_ | refine RS_m retB_noPanic rfl rfl rfl rfl (ev_nilCheckF (by simp) rfl) ?_)
        refine RS_m retB_noPanic rfl rfl rfl rfl (ev_fieldAddr rfl) ?_
        refine RS_q retB_noPanic rfl rfl rfl rfl (ev_load rfl (by repeat' first | exact Ld.blk rfl | assumption | apply Ld.skip | apply Ld.app)) ?_
        refine RS_m retB_noPanic rfl rfl rfl rfl (ev_geq rfl rfl) ?_
        refine RS_m retB_noPanic rfl rfl rfl rfl (ev_assign rfl) ?_
        refine RS_nil ?_
        (repeat first | refine G_seq ?_ | refine G_skip ?_ | refine G_endblk ?_ | refine G_block ?_ | refine G_exit rfl ?_)
        refine G_cond_f rfl (decide_eq_false (by omega)) ?_
        (repeat first | refine G_seq ?_ | refine G_skip ?_ | refine G_endblk ?_ | refine G_block ?_ | refine G_exit rfl ?_)
        have hlen := putP_length s l
        have hasc := putP_asc s l o.asc hsl
        have hbi : ([s.x, s.y].all (hasR x.R)) = bothIn R s := by simp [bothIn, hxR]
        have hra : ∀ M, Rd (own 32 3 A l.length c (flat l) :: M) A l.length l := fun M => Rc.own (flat_length l) o.a.1
        have hrx : ∀ M, RIn (raH x :: M) x := fun M => raH_in o.xo M
        (repeat first | refine G_seq ?_ | refine G_skip ?_ | refine G_endblk ?_ | refine G_block ?_ | refine G_exit rfl ?_)
        refine G_draw (.q 0 (.q 1 (.q 2 (.q 3 (.q 4 (.q 5 (.e 6 (.q 7 (.q 8 (.e 9 .nil)))))))))) (by kernel_rfl) (by kernel_rfl) ?_
        refine RS_m retB_noPanic rfl rfl rfl rfl (ev_move rfl) ?_
        refine RS_m retB_noPanic rfl rfl rfl rfl (ev_move rfl) ?_
        (first | refine RS_m retB_noPanic rfl rfl rfl rfl (ev_nilCheck rfl) ?_ | refine RS_m retB_noPanic rfl rfl rfl rfl (ev_nilCheckF (by simp) rfl) ?_)
        refine RS_m retB_noPanic rfl rfl rfl rfl (ev_fieldAddr rfl) ?_
        refine RS_q retB_noPanic rfl rfl rfl rfl (ev_load rfl (by repeat' first | exact Ld.blk rfl | assumption | apply Ld.skip | apply Ld.app)) ?_
        refine RS_q retB_noPanic rfl rfl rfl rfl (ev_loadN rfl (by repeat' first | exact LdN.blk rfl | assumption | apply LdN.skip | apply LdN.app)) ?_
        refine RS_e (RE_eff rfl rfl rfl (eff_call rfl ((Put_ctr A l.length c l s _ (by repeat' first | exact hra _ | apply Rd.skip) (by omega) o.asc).made)) ?_); rintro _ _ ⟨A', c', rfl, e1, e2, e3, rfl⟩; refine ⟨_, fun _ s => s, (by first | ((repeat first | exact fun _ s => s | apply en_keep | apply en_drop | apply en_app) <;> fail) | ((repeat first | exact en_refl | (apply en_blk; focus ((repeat' first | exact Pick.here | apply Pick.skip | apply Pick.app); done); focus rfl) | (apply en_own; focus ((repeat' first | exact Pick.here | apply Pick.skip | apply Pick.app); done); focus rfl) | (apply en_pick; focus ((repeat' first | exact Pick.here | apply Pick.skip | apply Pick.app); done)) | apply en_drop | apply en_app) <;> fail)), ?_⟩
        (first | refine RS_m retB_noPanic rfl rfl rfl rfl (ev_nilCheck rfl) ?_ | refine RS_m retB_noPanic rfl rfl rfl rfl (ev_nilCheckF (by simp) rfl) ?_)
        refine RS_m retB_noPanic rfl rfl rfl rfl (ev_fieldAddr rfl) ?_
        refine RS_e (RE_last (by kernel_rfl) rfl rfl rfl (eff_store rfl rfl rfl (by repeat' first | exact Upd.here rfl | apply Upd.skip | apply Upd.app)) ?_); rintro _ _ ⟨rfl, rfl⟩
        refine G_heap (L' := blk b3 32 s.cs :: blk t 43 (tgC x X.addr A' (putP s l).length c' most built) :: raH x :: saH X :: own 32 3 A' (putP s l).length c' (flat (putP s l)) :: F :: M) (by (repeat first | exact en_refl | (apply en_blk; focus ((repeat' first | exact Pick.here | apply Pick.skip | apply Pick.app); done); focus rfl) | (apply en_own; focus ((repeat' first | exact Pick.here | apply Pick.skip | apply Pick.app); done); focus rfl) | (apply en_pick; focus ((repeat' first | exact Pick.here | apply Pick.skip | apply Pick.app); done)) | apply en_drop | apply en_app) <;> fail) ?_
        (repeat first | refine G_seq ?_ | refine G_skip ?_ | refine G_endblk ?_ | refine G_block ?_ | refine G_exit rfl ?_)
        refine G_draw (.q 0 (.q 1 (.q 2 (.q 3 (.q 4 (.q 5 (.q 6 (.q 7 (.e 8 (.e 9 .nil)))))))))) (by kernel_rfl) (by kernel_rfl) ?_
        refine RS_m retB_noPanic rfl rfl rfl rfl (ev_move rfl) ?_
        (first | refine RS_m retB_noPanic rfl rfl rfl rfl (ev_nilCheck rfl) ?_ | refine RS_m retB_noPanic rfl rfl rfl rfl (ev_nilCheckF (by simp) rfl) ?_)
        refine RS_m retB_noPanic rfl rfl rfl rfl (ev_fieldAddr rfl) ?_
        refine RS_q retB_noPanic rfl rfl rfl rfl (ev_load rfl (by repeat' first | exact Ld.blk rfl | assumption | apply Ld.skip | apply Ld.app)) ?_
        refine RS_m retB_noPanic rfl rfl rfl rfl (ev_fieldAddr rfl) ?_
        refine RS_q retB_noPanic rfl rfl rfl rfl (ev_load rfl (by repeat' first | exact Ld.blk rfl | assumption | apply Ld.skip | apply Ld.app)) ?_
        refine RS_m retB_noPanic rfl rfl rfl rfl (ev_fieldAddr rfl) ?_
        refine RS_q retB_noPanic rfl rfl rfl rfl (ev_load rfl (by repeat' first | exact Ld.blk rfl | assumption | apply Ld.skip | apply Ld.app)) ?_
        refine RS_e (RE_eff rfl rfl rfl (eff_buildSliceN (by rfl) rfl rfl) ?_); rintro _ _ ⟨b45, rfl, rfl⟩; refine ⟨_, fun _ s => s, (by first | ((repeat first | exact fun _ s => s | apply en_keep | apply en_drop | apply en_app) <;> fail) | ((repeat first | exact en_refl | (apply en_blk; focus ((repeat' first | exact Pick.here | apply Pick.skip | apply Pick.app); done); focus rfl) | (apply en_own; focus ((repeat' first | exact Pick.here | apply Pick.skip | apply Pick.app); done); focus rfl) | (apply en_pick; focus ((repeat' first | exact Pick.here | apply Pick.skip | apply Pick.app); done)) | apply en_drop | apply en_app) <;> fail)), ?_⟩
        refine RS_e (RE_last (by kernel_rfl) rfl rfl rfl (eff_call rfl (RkHas_ctr x (some ⟨b45, 0, none⟩) 2 2 [s.x, s.y] _ (by repeat' first | exact hrx _ | apply RIn.skip) o.xo (by omega) (by repeat' first | exact Rc.blk rfl | apply Rd.skip) (by omega))) ?_); rintro _ _ ⟨rfl, rfl⟩
        rw [hbi]
        have hle : ∀ u ∈ putP s l, u.x ≤ u.y := fun u hu => by
          rcases List.mem_cons.1 ((putP_perm s l).subset hu) with rfl | hu
          · exact hxy
          · exact (o.ends u hu).2.2
        have hpk : (putP s l).Perm (k ++ [s]) := (putP_perm s l).trans ((o.perm.cons s).trans (List.perm_append_singleton s k).symm)
        cases c4 : bothIn R s with
        | true =>
          have eR : insR R s = R := by unfold insR; rw [if_pos c4]
          have eB : insB R s built = built := by unfold insB; rw [if_pos c4]
          have hm2 : s.x ∈ R ∧ s.y ∈ R := by unfold bothIn hasR at c4; simpa using c4
          rw [eR, eB]
          (repeat first | refine G_seq ?_ | refine G_skip ?_ | refine G_endblk ?_ | refine G_block ?_ | refine G_exit rfl ?_)
          refine G_cond_t rfl rfl ?_
          (repeat first | refine G_seq ?_ | refine G_skip ?_ | refine G_endblk ?_ | refine G_block ?_ | refine G_exit rfl ?_)
          refine G_region ?_
          refine GO_q rfl rfl (ev_move rfl) ?_
          refine GO_q rfl rfl (ev_loadN rfl (by repeat' first | exact LdN.blk rfl | assumption | apply LdN.skip | apply LdN.app)) ?_
          refine GO_eff rfl rfl (eff_call rfl (Ctr.pick (by repeat' first | exact Pick.here | apply Pick.skip | apply Pick.app) (lay_ctr t x X A' (putP s l).length c' most built s _ (by repeat' first | exact LdN.blk rfl | apply LdN.skip) (by repeat' first | exact hrx _ | apply RIn.skip) o.xo hRl hxy (o.sg.ad o.ad (by omega) o.asc)))) ?_; rintro _ _ ⟨rfl, Y, hY, rfl⟩
          refine GO_nil ?_
          have eY := hY.addr
          have hsg := o.sg.put (s := s) o.asc (cellR_mono _ hxy) (by rw [← hxR]; exact hY)
          (repeat first | refine G_seq ?_ | refine G_skip ?_ | refine G_endblk ?_ | refine G_block ?_ | refine G_exit rfl ?_)
          refine G_region ?_
          refine GO_q rfl rfl (ev_assign rfl) ?_
          refine GO_nil ?_
          (repeat first | refine G_seq ?_ | refine G_skip ?_ | refine G_endblk ?_ | refine G_block ?_ | refine G_exit rfl ?_)
          refine G_ret (L' := tgL t x Y A' c' (putP s l) most built M) rfl (.tmp rfl .nil) ?_ ⟨rfl, x, Y, A', c', putP s l, ⟨o.xo, o.xR, hY.each (P := fun _ _ A c m => AdOk A c m) (fun _ _ _ _ _ _ _ _ _ g => g.2) o.ad, ⟨e1, e2⟩, hasc, hsg, fun u hu => ?_, by have := o.small; omega, hpk⟩, rfl⟩
          · unfold tgL
            rw [eY]
            exact (by (repeat first | exact en_refl | (apply en_blk; focus ((repeat' first | exact Pick.here | apply Pick.skip | apply Pick.app); done); focus rfl) | (apply en_own; focus ((repeat' first | exact Pick.here | apply Pick.skip | apply Pick.app); done); focus rfl) | (apply en_pick; focus ((repeat' first | exact Pick.here | apply Pick.skip | apply Pick.app); done)) | apply en_drop | apply en_app) <;> fail)
          · rcases List.mem_cons.1 ((putP_perm s l).subset hu) with rfl | hu
            · exact ⟨hm2.1, hm2.2, hxy⟩
            · exact o.ends u hu
        | false =>
          have eR : insR R s = ofL (R ++ [s.x, s.y]) := by unfold insR; rw [c4]; rfl
          have eB : insB R s built = built + 1 := by unfold insB; rw [c4]; rfl
          have hRlen := ofL_length (R ++ [s.x, s.y])
          rw [List.length_append, List.length_cons, List.length_cons, List.length_nil] at hRlen
          have hRmem := ofL_mem (R ++ [s.x, s.y])
          rw [eR, eB]
          have hsm := o.small
          (repeat first | refine G_seq ?_ | refine G_skip ?_ | refine G_endblk ?_ | refine G_block ?_ | refine G_exit rfl ?_)
          refine G_cond_f rfl rfl ?_
          generalize hR' : ofL (R ++ [s.x, s.y]) = R' at *
          have hW := fun b L h => RWith_ctr x (some ⟨b, 0, none⟩) 2 2 [s.x, s.y] L h o.xo (by omega)
          rw [hxR, hR'] at hW
          (repeat first | refine G_seq ?_ | refine G_skip ?_ | refine G_endblk ?_ | refine G_block ?_ | refine G_exit rfl ?_)
          refine G_draw (.q 0 (.q 1 (.q 2 (.q 3 (.q 4 (.q 5 (.q 6 (.q 7 (.q 8 (.e 9 (.e 10 (.e 11 .nil)))))))))))) (by kernel_rfl) (by kernel_rfl) ?_
          refine RS_m retB_noPanic rfl rfl rfl rfl (ev_move rfl) ?_
          refine RS_m retB_noPanic rfl rfl rfl rfl (ev_move rfl) ?_
          (first | refine RS_m retB_noPanic rfl rfl rfl rfl (ev_nilCheck rfl) ?_ | refine RS_m retB_noPanic rfl rfl rfl rfl (ev_nilCheckF (by simp) rfl) ?_)
          refine RS_m retB_noPanic rfl rfl rfl rfl (ev_fieldAddr rfl) ?_
          refine RS_q retB_noPanic rfl rfl rfl rfl (ev_load rfl (by repeat' first | exact Ld.blk rfl | assumption | apply Ld.skip | apply Ld.app)) ?_
          refine RS_m retB_noPanic rfl rfl rfl rfl (ev_fieldAddr rfl) ?_
          refine RS_q retB_noPanic rfl rfl rfl rfl (ev_load rfl (by repeat' first | exact Ld.blk rfl | assumption | apply Ld.skip | apply Ld.app)) ?_
          refine RS_m retB_noPanic rfl rfl rfl rfl (ev_fieldAddr rfl) ?_
          refine RS_q retB_noPanic rfl rfl rfl rfl (ev_load rfl (by repeat' first | exact Ld.blk rfl | assumption | apply Ld.skip | apply Ld.app)) ?_
          refine RS_e (RE_eff rfl rfl rfl (eff_buildSliceN (by rfl) rfl rfl) ?_); rintro _ _ ⟨b59, rfl, rfl⟩; refine ⟨_, fun _ s => s, (by first | ((repeat first | exact fun _ s => s | apply en_keep | apply en_drop | apply en_app) <;> fail) | ((repeat first | exact en_refl | (apply en_blk; focus ((repeat' first | exact Pick.here | apply Pick.skip | apply Pick.app); done); focus rfl) | (apply en_own; focus ((repeat' first | exact Pick.here | apply Pick.skip | apply Pick.app); done); focus rfl) | (apply en_pick; focus ((repeat' first | exact Pick.here | apply Pick.skip | apply Pick.app); done)) | apply en_drop | apply en_app) <;> fail)), ?_⟩
          refine RS_e (RE_eff rfl rfl rfl (eff_call rfl (hW _ _ (by repeat' first | exact hrx _ | apply RIn.skip) (by repeat' first | exact Rc.blk rfl | apply Rd.skip) (by omega) (by omega))) ?_); rintro _ _ ⟨x', d1, d2, d3, rfl, rfl⟩; refine ⟨_, fun _ s => s, (by first | ((repeat first | exact fun _ s => s | apply en_keep | apply en_drop | apply en_app) <;> fail) | ((repeat first | exact en_refl | (apply en_blk; focus ((repeat' first | exact Pick.here | apply Pick.skip | apply Pick.app); done); focus rfl) | (apply en_own; focus ((repeat' first | exact Pick.here | apply Pick.skip | apply Pick.app); done); focus rfl) | (apply en_pick; focus ((repeat' first | exact Pick.here | apply Pick.skip | apply Pick.app); done)) | apply en_drop | apply en_app) <;> fail)), ?_⟩
          refine RS_e (RE_last (by kernel_rfl) rfl rfl rfl (eff_call rfl (Ctr.pre (M := blk t 43 (tgC x X.addr A' (putP s l).length c' most built) :: raH x' :: own 32 3 A' (putP s l).length c' (flat (putP s l)) :: F :: M) (by (repeat first | exact en_refl | (apply en_blk; focus ((repeat' first | exact Pick.here | apply Pick.skip | apply Pick.app); done); focus rfl) | (apply en_own; focus ((repeat' first | exact Pick.here | apply Pick.skip | apply Pick.app); done); focus rfl) | (apply en_pick; focus ((repeat' first | exact Pick.here | apply Pick.skip | apply Pick.app); done)) | apply en_drop | apply en_app) <;> fail) (anew_ctr t x x' X.addr A' c' (putP s l) most built _ d2 (by rw [d1]; omega) (by omega) hasc ⟨e1, e2⟩ hle (by omega)))) ?_); rintro _ _ ⟨rfl, Y, ⟨hsg, had⟩, rfl⟩
          (repeat first | refine G_seq ?_ | refine G_skip ?_ | refine G_endblk ?_ | refine G_block ?_ | refine G_exit rfl ?_)
          refine G_region ?_
          refine GO_q rfl rfl (ev_assign rfl) ?_
          refine GO_nil ?_
          (repeat first | refine G_seq ?_ | refine G_skip ?_ | refine G_endblk ?_ | refine G_block ?_ | refine G_exit rfl ?_)
          refine G_ret (L' := tgL t x' Y A' c' (putP s l) most (built + 1) M) rfl (.tmp rfl .nil) ?_ ⟨rfl, x', Y, A', c', putP s l, ⟨d2, d1, had, ⟨e1, e2⟩, hasc, by rw [d1] at hsg; exact hsg, fun u hu => ?_, by omega, hpk⟩, rfl⟩
          · unfold tgL
            exact (by (repeat first | exact en_refl | (apply en_blk; focus ((repeat' first | exact Pick.here | apply Pick.skip | apply Pick.app); done); focus rfl) | (apply en_own; focus ((repeat' first | exact Pick.here | apply Pick.skip | apply Pick.app); done); focus rfl) | (apply en_pick; focus ((repeat' first | exact Pick.here | apply Pick.skip | apply Pick.app); done)) | apply en_drop | apply en_app) <;> fail)
          · rcases List.mem_cons.1 ((putP_perm s l).subset hu) with rfl | hu
            · exact ⟨(hRmem _).2 (by simp), (hRmem _).2 (by simp), hxy⟩
            · have := o.ends u hu
              exact ⟨(hRmem _).2 (by simp [this.1]), (hRmem _).2 (by simp [this.2.1]), this.2.2⟩
def delE (k : List Pt) (s : Pt) : Int := if s ∈ k then 0 else 6
def delR (R : List Int) (k : List Pt) : List Int := if 4 * k.length + 4 < R.length then ofL (endsOf k) else R
def delB (R : List Int) (k : List Pt) (b : Nat) : Nat := if 4 * k.length + 4 < R.length then b + 1 else b
theorem endsOf_mem (l : List Pt) (v : Int) : v ∈ endsOf l ↔ ∃ s ∈ l, v = s.x ∨ v = s.y := by simp [endsOf]
theorem ofL_perm {l m : List Pt} (h : l.Perm m) : ofL (endsOf l) = ofL (endsOf m) := Up.unique (ofL_up _) (ofL_up _) fun v => by
  rw [ofL_mem, ofL_mem, endsOf_mem, endsOf_mem]
  constructor
  · rintro ⟨s, h1, h2⟩; exact ⟨s, h.mem_iff.1 h1, h2⟩
  · rintro ⟨s, h1, h2⟩; exact ⟨s, h.mem_iff.2 h1, h2⟩
theorem tNew_ctr (most : Int) (L : List HP) (h1 : 1 ≤ most) (h2 : most ≤ 1048576) : Ctr Try.prog 8 #[.int .i64 most] L fun v L' => ∃ t x X A c l, v = .tuple #[.pointer (some ⟨t, 0, none⟩), .int .i64 0] ∧ TOk x X A c l [] [] ∧ L' = tgL t x X A c l most 0 L := by
  refine Ctr_of (fn := Try.f8) (n := 14) Try.func8 rfl rfl rfl ?_
  intro g F
  (repeat first | refine G_seq ?_ | refine G_skip ?_ | refine G_endblk ?_ | refine G_block ?_ | refine G_exit rfl ?_)
  refine G_region ?_
  refine GO_q rfl rfl (ev_assign rfl) ?_
  refine GO_q rfl rfl (ev_assign rfl) ?_
  refine GO_nil ?_
  (repeat first | refine G_seq ?_ | refine G_skip ?_ | refine G_endblk ?_ | refine G_block ?_ | refine G_exit rfl ?_)
  refine G_region ?_
  refine GO_q rfl rfl (ev_move rfl) ?_
  (first | refine GO_q rfl rfl (ev_lssN (q := 1) rfl rfl) ?_ | refine GO_q rfl rfl (ev_lss rfl rfl) ?_)
  refine GO_q rfl rfl (ev_move rfl) ?_
  refine GO_yes rfl rfl rfl (decide_eq_false (by omega)) ?_
  refine GO_q rfl rfl (ev_move rfl) ?_
  refine GO_yes rfl rfl rfl (decide_eq_false (by omega)) ?_
  refine GO_q rfl rfl (ev_gtr rfl rfl) ?_
  refine GO_q rfl rfl (ev_pick_f rfl (decide_eq_false (by omega)) rfl) ?_
  refine GO_nil ?_
  (repeat first | refine G_seq ?_ | refine G_skip ?_ | refine G_endblk ?_ | refine G_block ?_ | refine G_exit rfl ?_)
  refine G_cond_f rfl (decide_eq_false (by omega)) ?_
  have hB := fun L => build_ctr 0 0 0 L (Nat.le_refl _) (Nat.le_refl _) (by omega)
  (repeat first | refine G_seq ?_ | refine G_skip ?_ | refine G_endblk ?_ | refine G_block ?_ | refine G_exit rfl ?_)
  refine G_region ?_
  refine GO_eff rfl rfl (eff_call rfl (hB _)) ?_; rintro _ _ ⟨X, rfl, ⟨hok, had⟩, rfl⟩
  refine GO_q rfl rfl (ev_move rfl) ?_
  refine GO_q rfl rfl (ev_build rfl rfl) ?_
  refine GO_eff rfl rfl (eff_box rfl) ?_; rintro _ _ ⟨b13, rfl, rfl⟩
  refine GO_q rfl rfl (ev_assign rfl) ?_
  refine GO_q rfl rfl (ev_assign rfl) ?_
  refine GO_nil ?_
  refine G_heap (own.nil_ 32 3) ?_
  have en0 : ∀ {L M : List HP}, (∀ h, sat L h → sat M h) → ∀ h, sat L h → sat (raH .nil :: M) h := fun g h s => sat.fold (N := []) (fun _ _ => trivial) (g h s)
  (repeat first | refine G_seq ?_ | refine G_skip ?_ | refine G_endblk ?_ | refine G_block ?_ | refine G_exit rfl ?_)
  refine G_ret (L' := tgL b13 .nil X none 0 [] most 0 L) rfl (.tmp rfl (.tmp rfl .nil)) ?_ ⟨b13, .nil, X, none, 0, [], rfl, ⟨⟨fun h => absurd h (Nat.lt_irrefl 0), Nat.le_refl _, .nil⟩, rfl, had, ⟨fun h => absurd h (Nat.lt_irrefl 0), Nat.le_refl _⟩, .nil, hok _ _, fun s h => (by cases h), Nat.zero_le _, .nil⟩, rfl⟩
  unfold tgL
  exact (by (repeat first | exact en_refl | apply en0 | (apply en_blk; focus ((repeat' first | exact Pick.here | apply Pick.skip | apply Pick.app); done); focus rfl) | (apply en_own; focus ((repeat' first | exact Pick.here | apply Pick.skip | apply Pick.app); done); focus rfl) | (apply en_pick; focus ((repeat' first | exact Pick.here | apply Pick.skip | apply Pick.app); done)) | apply en_drop | apply en_app) <;> fail)
theorem tNew_bad (most : Int) (L : List HP) (h : most < 1 ∨ 1048576 < most) : Ctr Try.prog 8 #[.int .i64 most] L fun v L' => v = .tuple #[.pointer none, .int .i64 1] ∧ L' = L := by
  by_cases h1 : most < 1
  · skip
    refine Ctr_of (fn := Try.f8) (n := 14) Try.func8 rfl rfl rfl ?_
    intro g F
    (repeat first | refine G_seq ?_ | refine G_skip ?_ | refine G_endblk ?_ | refine G_block ?_ | refine G_exit rfl ?_)
    refine G_region ?_
    refine GO_q rfl rfl (ev_assign rfl) ?_
    refine GO_q rfl rfl (ev_assign rfl) ?_
    refine GO_nil ?_
    (repeat first | refine G_seq ?_ | refine G_skip ?_ | refine G_endblk ?_ | refine G_block ?_ | refine G_exit rfl ?_)
    refine G_region ?_
    refine GO_q rfl rfl (ev_move rfl) ?_
    (first | refine GO_q rfl rfl (ev_lssN (q := 1) rfl rfl) ?_ | refine GO_q rfl rfl (ev_lss rfl rfl) ?_)
    refine GO_q rfl rfl (ev_move rfl) ?_
    refine GO_no rfl rfl rfl (decide_eq_true h1) ?_
    refine GO_no rfl rfl rfl (decide_eq_true h1) ?_
    refine GO_q rfl rfl (ev_pick_t rfl (decide_eq_true h1) rfl) ?_
    refine GO_nil ?_
    (repeat first | refine G_seq ?_ | refine G_skip ?_ | refine G_endblk ?_ | refine G_block ?_ | refine G_exit rfl ?_)
    refine G_cond_t rfl rfl ?_
    (repeat first | refine G_seq ?_ | refine G_skip ?_ | refine G_endblk ?_ | refine G_block ?_ | refine G_exit rfl ?_)
    refine G_region ?_
    refine GO_q rfl rfl (ev_assign rfl) ?_
    refine GO_q rfl rfl (ev_assign rfl) ?_
    refine GO_nil ?_
    (repeat first | refine G_seq ?_ | refine G_skip ?_ | refine G_endblk ?_ | refine G_block ?_ | refine G_exit rfl ?_)
    refine G_ret rfl (.tmp rfl (.tmp rfl .nil)) (by (repeat first | exact fun _ s => s | apply en_keep | apply en_drop | apply en_app) <;> fail) ⟨rfl, rfl⟩
  · skip
    refine Ctr_of (fn := Try.f8) (n := 14) Try.func8 rfl rfl rfl ?_
    intro g F
    (repeat first | refine G_seq ?_ | refine G_skip ?_ | refine G_endblk ?_ | refine G_block ?_ | refine G_exit rfl ?_)
    refine G_region ?_
    refine GO_q rfl rfl (ev_assign rfl) ?_
    refine GO_q rfl rfl (ev_assign rfl) ?_
    refine GO_nil ?_
    (repeat first | refine G_seq ?_ | refine G_skip ?_ | refine G_endblk ?_ | refine G_block ?_ | refine G_exit rfl ?_)
    refine G_region ?_
    refine GO_q rfl rfl (ev_move rfl) ?_
    (first | refine GO_q rfl rfl (ev_lssN (q := 1) rfl rfl) ?_ | refine GO_q rfl rfl (ev_lss rfl rfl) ?_)
    refine GO_q rfl rfl (ev_move rfl) ?_
    refine GO_yes rfl rfl rfl (decide_eq_false h1) ?_
    refine GO_q rfl rfl (ev_move rfl) ?_
    refine GO_yes rfl rfl rfl (decide_eq_false h1) ?_
    refine GO_q rfl rfl (ev_gtr rfl rfl) ?_
    refine GO_q rfl rfl (ev_pick_f rfl (decide_eq_false h1) rfl) ?_
    refine GO_nil ?_
    (repeat first | refine G_seq ?_ | refine G_skip ?_ | refine G_endblk ?_ | refine G_block ?_ | refine G_exit rfl ?_)
    refine G_cond_t rfl (decide_eq_true (by omega)) ?_
    (repeat first | refine G_seq ?_ | refine G_skip ?_ | refine G_endblk ?_ | refine G_block ?_ | refine G_exit rfl ?_)
    refine G_region ?_
    refine GO_q rfl rfl (ev_assign rfl) ?_
    refine GO_q rfl rfl (ev_assign rfl) ?_
    refine GO_nil ?_
    (repeat first | refine G_seq ?_ | refine G_skip ?_ | refine G_endblk ?_ | refine G_block ?_ | refine G_exit rfl ?_)
    refine G_ret rfl (.tmp rfl (.tmp rfl .nil)) (by (repeat first | exact fun _ s => s | apply en_keep | apply en_drop | apply en_app) <;> fail) ⟨rfl, rfl⟩
section
variable {t : Nat} {x : RA} {X : SA} {A : Option Addr} {c : Nat} {l : List Pt} {most : Int} {built : Nat}
theorem tTop_ctr (L : List HP) (h : TIn L t x X A c l most built) : Ctr Try.prog 54 #[.pointer (some ⟨t, 0, none⟩)] L fun v L' => v = .pointer X.addr ∧ L' = L := by
  have h0 : Ld L ⟨t, 0 + 1, none⟩ (.pointer X.addr) := h.t.at_ (i := 1) rfl
  refine Ctr_of (fn := Try.f54) (n := 9) Try.func54 rfl rfl rfl ?_
  intro g F
  (repeat first | refine G_seq ?_ | refine G_skip ?_ | refine G_endblk ?_ | refine G_block ?_ | refine G_exit rfl ?_)
  refine G_region ?_
  refine GO_q rfl rfl (ev_assign rfl) ?_
  refine GO_nil ?_
  (repeat first | refine G_seq ?_ | refine G_skip ?_ | refine G_endblk ?_ | refine G_block ?_ | refine G_exit rfl ?_)
  refine G_region ?_
  refine GO_q rfl rfl (ev_move rfl) ?_
  (first | refine GO_q rfl rfl (ev_eqlNil rfl rfl) ?_ | refine GO_q rfl rfl (ev_eqlPtr rfl rfl) ?_)
  refine GO_nil ?_
  (repeat first | refine G_seq ?_ | refine G_skip ?_ | refine G_endblk ?_ | refine G_block ?_ | refine G_exit rfl ?_)
  refine G_cond_f rfl rfl ?_
  (repeat first | refine G_seq ?_ | refine G_skip ?_ | refine G_endblk ?_ | refine G_block ?_ | refine G_exit rfl ?_)
  refine G_region ?_
  refine GO_q rfl rfl (ev_move rfl) ?_
  (first | refine GO_q rfl rfl (ev_nilCheck rfl) ?_ | refine GO_q rfl rfl (ev_nilCheckF (by simp) rfl) ?_)
  refine GO_q rfl rfl (ev_fieldAddr rfl) ?_
  refine GO_q rfl rfl (ev_load rfl (by repeat' first | exact Ld.blk rfl | assumption | apply Ld.skip | apply Ld.app)) ?_
  refine GO_q rfl rfl (ev_assign rfl) ?_
  refine GO_nil ?_
  (repeat first | refine G_seq ?_ | refine G_skip ?_ | refine G_endblk ?_ | refine G_block ?_ | refine G_exit rfl ?_)
  refine G_ret rfl (.tmp rfl .nil) (by (repeat first | exact fun _ s => s | apply en_keep | apply en_drop | apply en_app) <;> fail) ⟨rfl, rfl⟩
theorem tRoot_ctr (L : List HP) (h : TIn L t x X A c l most built) : Ctr Try.prog 40 #[.pointer (some ⟨t, 0, none⟩)] L fun v L' => v = .pointer X.addr ∧ L' = L := by
  refine Ctr_of (fn := Try.f40) (n := 5) Try.func40 rfl rfl rfl ?_
  intro g F
  (repeat first | refine G_seq ?_ | refine G_skip ?_ | refine G_endblk ?_ | refine G_block ?_ | refine G_exit rfl ?_)
  refine G_region ?_
  refine GO_q rfl rfl (ev_assign rfl) ?_
  refine GO_nil ?_
  (repeat first | refine G_seq ?_ | refine G_skip ?_ | refine G_endblk ?_ | refine G_block ?_ | refine G_exit rfl ?_)
  refine G_region ?_
  refine GO_q rfl rfl (ev_move rfl) ?_
  refine GO_eff rfl rfl (eff_call rfl (tTop_ctr _ h.skip)) ?_; rintro _ _ ⟨rfl, rfl⟩
  refine GO_q rfl rfl (ev_assign rfl) ?_
  refine GO_nil ?_
  (repeat first | refine G_seq ?_ | refine G_skip ?_ | refine G_endblk ?_ | refine G_block ?_ | refine G_exit rfl ?_)
  refine G_ret rfl (.tmp rfl .nil) (by (repeat first | exact fun _ s => s | apply en_keep | apply en_drop | apply en_app) <;> fail) ⟨rfl, rfl⟩
theorem tcell_ctr (v : Int) (L : List HP) (h : TIn L t x X A c l most built) (o : x.ok) (hb : x.R.length ≤ 1000) : Ctr Try.prog 55 #[.pointer (some ⟨t, 0, none⟩), .int .i64 v] L fun r L' => r = .int .i64 (cellR x.R v : Nat) ∧ L' = L := by
  have h0 : Ld L ⟨t, 0 + 0, none⟩ (.pointer x.addr) := h.t.at_ (i := 0) rfl
  have hx := h.x
  refine Ctr_of (fn := Try.f55) (n := 13) Try.func55 rfl rfl rfl ?_
  intro g F
  (repeat first | refine G_seq ?_ | refine G_skip ?_ | refine G_endblk ?_ | refine G_block ?_ | refine G_exit rfl ?_)
  refine G_region ?_
  refine GO_q rfl rfl (ev_assign rfl) ?_
  refine GO_nil ?_
  (repeat first | refine G_seq ?_ | refine G_skip ?_ | refine G_endblk ?_ | refine G_block ?_ | refine G_exit rfl ?_)
  refine G_region ?_
  refine GO_q rfl rfl (ev_move rfl) ?_
  (first | refine GO_q rfl rfl (ev_eqlNil rfl rfl) ?_ | refine GO_q rfl rfl (ev_eqlPtr rfl rfl) ?_)
  refine GO_nil ?_
  (repeat first | refine G_seq ?_ | refine G_skip ?_ | refine G_endblk ?_ | refine G_block ?_ | refine G_exit rfl ?_)
  refine G_cond_f rfl rfl ?_
  (repeat first | refine G_seq ?_ | refine G_skip ?_ | refine G_endblk ?_ | refine G_block ?_ | refine G_exit rfl ?_)
  refine G_region ?_
  refine GO_q rfl rfl (ev_move rfl) ?_
  (first | refine GO_q rfl rfl (ev_nilCheck rfl) ?_ | refine GO_q rfl rfl (ev_nilCheckF (by simp) rfl) ?_)
  refine GO_q rfl rfl (ev_fieldAddr rfl) ?_
  refine GO_q rfl rfl (ev_load rfl (by repeat' first | exact Ld.blk rfl | assumption | apply Ld.skip | apply Ld.app)) ?_
  refine GO_q rfl rfl (ev_move rfl) ?_
  refine GO_eff rfl rfl (eff_call rfl (RCell_ctr x v _ hx.skip o (by omega))) ?_; rintro _ _ ⟨rfl, rfl⟩
  refine GO_q rfl rfl (ev_assign rfl) ?_
  refine GO_nil ?_
  (repeat first | refine G_seq ?_ | refine G_skip ?_ | refine G_endblk ?_ | refine G_block ?_ | refine G_exit rfl ?_)
  refine G_ret rfl (.tmp rfl .nil) (by (repeat first | exact fun _ s => s | apply en_keep | apply en_drop | apply en_app) <;> fail) ⟨rfl, rfl⟩
theorem tCell_ctr (v : Int) (L : List HP) (h : TIn L t x X A c l most built) (o : x.ok) (hb : x.R.length ≤ 1000) : Ctr Try.prog 41 #[.pointer (some ⟨t, 0, none⟩), .int .i64 v] L fun r L' => r = .int .i64 (cellR x.R v : Nat) ∧ L' = L := by
  refine Ctr_of (fn := Try.f41) (n := 8) Try.func41 rfl rfl rfl ?_
  intro g F
  (repeat first | refine G_seq ?_ | refine G_skip ?_ | refine G_endblk ?_ | refine G_block ?_ | refine G_exit rfl ?_)
  refine G_region ?_
  refine GO_q rfl rfl (ev_assign rfl) ?_
  refine GO_nil ?_
  (repeat first | refine G_seq ?_ | refine G_skip ?_ | refine G_endblk ?_ | refine G_block ?_ | refine G_exit rfl ?_)
  refine G_region ?_
  refine GO_q rfl rfl (ev_move rfl) ?_
  refine GO_q rfl rfl (ev_move rfl) ?_
  refine GO_eff rfl rfl (eff_call rfl (tcell_ctr v _ h.skip o hb)) ?_; rintro _ _ ⟨rfl, rfl⟩
  refine GO_q rfl rfl (ev_assign rfl) ?_
  refine GO_nil ?_
  (repeat first | refine G_seq ?_ | refine G_skip ?_ | refine G_endblk ?_ | refine G_block ?_ | refine G_exit rfl ?_)
  refine G_ret rfl (.tmp rfl .nil) (by (repeat first | exact fun _ s => s | apply en_keep | apply en_drop | apply en_app) <;> fail) ⟨rfl, rfl⟩
end
end Go.Proofs.Ytmgkmammkmlakaa
