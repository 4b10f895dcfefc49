/- That a cursor over cells lives (the small seat). -/
import Derived.Test.YtmgkmammkmlakaaS7S
namespace Go.Proofs.Ytmgkmammkmlakaa
attribute [local irreducible] sat
open Go.RowKit
set_option linter.unusedVariables false
set_option linter.unusedSimpArgs false
set_option maxRecDepth 100000

section
variable {t : Nat} {x : RA} {X : SA} {A : Option Addr} {c : Nat} {l k : List Pt} {R : List Int} {most : Int} {built : Nat}
theorem TOk.wy (o : TOk x X A c l k R) (hR : R.length ≤ 500) (v : Int) : X.wn (cellR R v) = Go.Proofs.Ytmgkmammkmlakaa.wy 70 0 (2 * R.length) (cellR R v) ∧ X.wn (cellR R v) ≤ 11 := by
  have h := o.sg.wn 10 (Nat.zero_le _) (cellR_le R v) (by omega)
  have h2 := wy_more 10 60 0 (2 * R.length) (cellR R v) (by omega)
  have h3 := wy_le 10 0 (2 * R.length) (cellR R v) (Nat.zero_le _)
  rw [h]
  exact ⟨h2.symm, h3⟩
theorem cStab_ctr (v : Int) (L : List HP) (h : TIn L t x X A c l most built) (o : TOk x X A c l k R) (hR : R.length ≤ 1000) : Ctr Try.prog 10 #[.pointer (some ⟨t, 0, none⟩), .int .i64 v] L fun r L' => ∃ cb, r = .pointer (some ⟨cb, 0, none⟩) ∧ L' = blk cb 55 (cuC X (cellR R v) none none 0 0 0) :: L := by
  have cc := fun L h => tCell_ctr (t := t) (X := X) (A := A) (c := c) (l := l) (most := most) (built := built) v L h o.xo (by rw [o.xR]; exact hR)
  rw [o.xR] at cc
  have hb : ∀ L, TIn L t x X A c l most built → Ctr Try.prog 22 #[.pointer (some ⟨t, 0, none⟩), .int .i64 v, .nilFunc] L fun r L' => ∃ cb, r = .pointer (some ⟨cb, 0, none⟩) ∧ L' = blk cb 55 (cuC X (cellR R v) none none 0 0 0) :: L := fun L h => by
    refine Ctr_of (fn := Try.f22) (n := 17) Try.func22 rfl rfl rfl ?_
    intro g F
    (repeat first | refine G_seq ?_ | refine G_skip ?_ | refine G_endblk ?_ | refine G_block ?_ | refine G_exit rfl ?_)
    refine G_region ?_
    refine GO_q rfl rfl (ev_assign rfl) ?_
    refine GO_nil ?_
    (repeat first | refine G_seq ?_ | refine G_skip ?_ | refine G_endblk ?_ | refine G_block ?_ | refine G_exit rfl ?_)
    refine G_region ?_
    refine GO_q rfl rfl (ev_move rfl) ?_
    (first | refine GO_q rfl rfl (ev_eqlNil rfl rfl) ?_ | refine GO_q rfl rfl (ev_eqlPtr rfl rfl) ?_)
    refine GO_nil ?_
    (repeat first | refine G_seq ?_ | refine G_skip ?_ | refine G_endblk ?_ | refine G_block ?_ | refine G_exit rfl ?_)
    refine G_cond_f rfl rfl ?_
    (repeat first | refine G_seq ?_ | refine G_skip ?_ | refine G_endblk ?_ | refine G_block ?_ | refine G_exit rfl ?_)
    refine G_region ?_
    refine GO_q rfl rfl (ev_move rfl) ?_
    refine GO_eff rfl rfl (eff_call rfl (tRoot_ctr _ h.skip)) ?_; rintro _ _ ⟨rfl, rfl⟩
    refine GO_q rfl rfl (ev_move rfl) ?_
    refine GO_q rfl rfl (ev_move rfl) ?_
    refine GO_eff rfl rfl (eff_call rfl (cc _ h.skip)) ?_; rintro _ _ ⟨rfl, rfl⟩
    refine GO_q rfl rfl (ev_move rfl) ?_
    refine GO_q rfl rfl (ev_build rfl rfl) ?_
    refine GO_eff rfl rfl (eff_box rfl) ?_; rintro _ _ ⟨b16, rfl, rfl⟩
    refine GO_q rfl rfl (ev_assign rfl) ?_
    refine GO_nil ?_
    (repeat first | refine G_seq ?_ | refine G_skip ?_ | refine G_endblk ?_ | refine G_block ?_ | refine G_exit rfl ?_)
    exact G_ret (L' := blk b16 55 (cuC X (cellR R v) none none 0 0 0) :: L) rfl (.tmp rfl .nil) (by (repeat first | exact en_refl | (apply en_blk; focus ((repeat' first | exact Pick.here | apply Pick.skip | apply Pick.app); done); focus rfl) | (apply en_own; focus ((repeat' first | exact Pick.here | apply Pick.skip | apply Pick.app); done); focus rfl) | (apply en_pick; focus ((repeat' first | exact Pick.here | apply Pick.skip | apply Pick.app); done)) | apply en_drop | apply en_app) <;> fail) ⟨b16, rfl, rfl⟩
  refine Ctr_of (fn := Try.f10) (n := 8) Try.func10 rfl rfl rfl ?_
  intro g F
  (repeat first | refine G_seq ?_ | refine G_skip ?_ | refine G_endblk ?_ | refine G_block ?_ | refine G_exit rfl ?_)
  refine G_region ?_
  refine GO_q rfl rfl (ev_assign rfl) ?_
  refine GO_nil ?_
  (repeat first | refine G_seq ?_ | refine G_skip ?_ | refine G_endblk ?_ | refine G_block ?_ | refine G_exit rfl ?_)
  refine G_region ?_
  refine GO_q rfl rfl (ev_move rfl) ?_
  refine GO_q rfl rfl (ev_move rfl) ?_
  refine GO_eff rfl rfl (eff_call rfl (hb _ h.skip)) ?_; rintro _ _ ⟨cb, rfl, rfl⟩
  refine GO_q rfl rfl (ev_assign rfl) ?_
  refine GO_nil ?_
  (repeat first | refine G_seq ?_ | refine G_skip ?_ | refine G_endblk ?_ | refine G_block ?_ | refine G_exit rfl ?_)
  exact G_ret (L' := blk cb 55 (cuC X (cellR R v) none none 0 0 0) :: L) rfl (.tmp rfl .nil) (by (repeat first | exact en_refl | (apply en_blk; focus ((repeat' first | exact Pick.here | apply Pick.skip | apply Pick.app); done); focus rfl) | (apply en_own; focus ((repeat' first | exact Pick.here | apply Pick.skip | apply Pick.app); done); focus rfl) | (apply en_pick; focus ((repeat' first | exact Pick.here | apply Pick.skip | apply Pick.app); done)) | apply en_drop | apply en_app) <;> fail) ⟨cb, rfl, rfl⟩
end
theorem lv5 : lv 70 5 = 4 := by decide
theorem lives23_ctr (L : List HP) : Ctr Try.prog 6 #[] L fun v L' => v = .bool true ∧ ∃ X, L' = X ++ L := by
  have c1 := fun t L => SInsert_ctr t 3 ⟨[], [], 0⟩ ⟨1, 0, 5⟩ L (by decide) (by decide)
  have c2 := fun t L => SInsert_ctr t 3 lS1 ⟨2, 4, 9⟩ L (by decide) (by decide)
  have c9 := fun L => cLevels_ctr 5 L (by decide) (by decide)
  rw [lv5] at c9
  rw [lI0, lk0] at c1
  rw [lI1, lk1] at c2
  refine Ctr_of (fn := Try.f6) (n := 47) Try.func6 rfl rfl rfl ?_
  intro g F
  (repeat first | refine G_seq ?_ | refine G_skip ?_ | refine G_endblk ?_ | refine G_block ?_ | refine G_exit rfl ?_)
  refine G_region ?_
  refine GO_q rfl rfl (ev_assign rfl) ?_
  refine GO_nil ?_
  (repeat first | refine G_seq ?_ | refine G_skip ?_ | refine G_endblk ?_ | refine G_block ?_ | refine G_exit rfl ?_)
  refine G_region ?_
  refine GO_eff rfl rfl (eff_call rfl (SNew_ctr 3 _ (by decide) (by decide))) ?_; rintro _ _ ⟨t, rfl, rfl⟩
  refine GO_q rfl rfl (ev_move rfl) ?_
  refine GO_q rfl rfl (ev_extract rfl rfl) ?_
  refine GO_q rfl rfl (ev_extract rfl rfl) ?_
  refine GO_q rfl rfl (ev_assign rfl) ?_
  refine GO_q rfl rfl (ev_assign rfl) ?_
  refine GO_nil ?_
  (repeat first | refine G_seq ?_ | refine G_skip ?_ | refine G_endblk ?_ | refine G_block ?_ | refine G_exit rfl ?_)
  refine G_region ?_
  refine GO_q rfl rfl (ev_move rfl) ?_
  refine GO_q rfl rfl (ev_build rfl rfl) ?_
  refine GO_eff rfl rfl (eff_call rfl (Ctr.pick (by repeat' first | exact Pick.here | apply Pick.skip | apply Pick.app) (c1 t _))) ?_; rintro _ _ ⟨rfl, rfl⟩
  refine GO_q rfl rfl (ev_assign rfl) ?_
  refine GO_nil ?_
  (repeat first | refine G_seq ?_ | refine G_skip ?_ | refine G_endblk ?_ | refine G_block ?_ | refine G_exit rfl ?_)
  refine G_region ?_
  refine GO_q rfl rfl (ev_move rfl) ?_
  refine GO_q rfl rfl (ev_build rfl rfl) ?_
  refine GO_eff rfl rfl (eff_call rfl (Ctr.pick (by repeat' first | exact Pick.here | apply Pick.skip | apply Pick.app) (c2 t _))) ?_; rintro _ _ ⟨rfl, rfl⟩
  refine GO_q rfl rfl (ev_assign rfl) ?_
  refine GO_nil ?_
  refine G_open (ι := RA × SA × Option Addr × Nat × List Pt) (N := segZ t 3 lS2) (F := segO lS2) (fun _ h => h) fun z ot => ?_
  obtain ⟨x, X, A3, c3, l⟩ := z
  replace ot : TOk x X A3 c3 l lS2.k lS2.R := ot
  have hT := ot.in_ t 3 lS2.b L
  have hdrop : ∀ h, sat (tgL t x X A3 c3 l 3 lS2.b L) h → sat L h := by
    unfold tgL
    exact (by (repeat first | exact fun _ s => s | apply en_keep | apply en_drop | apply en_app) <;> fail)
  refine G_heap (L' := F :: tgL t x X A3 c3 l 3 lS2.b L) (by
    show ∀ h, sat (blk t 43 (tgC x X.addr A3 l.length c3 3 lS2.b) :: raH x :: saH X :: own 32 3 A3 l.length c3 (flat l) :: F :: L) h → sat (F :: blk t 43 (tgC x X.addr A3 l.length c3 3 lS2.b) :: raH x :: saH X :: own 32 3 A3 l.length c3 (flat l) :: L) h
    exact (by (repeat first | exact en_refl | (apply en_blk; focus ((repeat' first | exact Pick.here | apply Pick.skip | apply Pick.app); done); focus rfl) | (apply en_own; focus ((repeat' first | exact Pick.here | apply Pick.skip | apply Pick.app); done); focus rfl) | (apply en_pick; focus ((repeat' first | exact Pick.here | apply Pick.skip | apply Pick.app); done)) | apply en_drop | apply en_app) <;> fail)) ?_
  generalize tgL t x X A3 c3 l 3 lS2.b L = LL at *
  have hw := (ot.wy (by decide) 4).2
  have hw5 : X.wn (cellR lS2.R 4) ≤ 5 := by
    have h := ot.sg.wn 4 (Nat.zero_le _) (cellR_le lS2.R 4) (by decide)
    rw [h]; exact wy_le 4 _ _ _ (Nat.zero_le _)
  have hst := ot.stab 4
  rw [lSt] at hst
  have htl : (idsOf (X.way (cellR lS2.R 4))).length = 2 := by rw [← srt_length, hst]; rfl
  have hkl : l.length = 2 := ot.perm.length_eq
  have hql : (bgnK lS2.k 0 0).length ≤ lS2.k.length := by unfold bgnK; rw [srt_length, idsOf_length]; exact List.length_filter_le _ _
  have hI : CuI (F :: LL) (qR lS2.R) l (cellR lS2.R 4) none (bgnK lS2.k 0 0) (idsOf (X.way (cellR lS2.R 4))) X none [] (X.wn (cellR lS2.R 4)) := ⟨hT.X.skip, ot.leads 4, by simp [pdL], rfl, .inl rfl⟩
  have cS := fun cb => cRun_ctr cb (cellR lS2.R 4) 9 (qR lS2.R) l (bgnK lS2.k 0 0) (idsOf (X.way (cellR lS2.R 4))) (F :: LL) (by have : lS2.k.length = 2 := rfl; omega) (by omega) (by omega) X none none 0 0 (X.wn (cellR lS2.R 4)) [] (fun h => absurd h (Nat.lt_irrefl 0)) hI (by omega) (by have : Int.toNat 9 = 9 := rfl; omega)
  (repeat first | refine G_seq ?_ | refine G_skip ?_ | refine G_endblk ?_ | refine G_block ?_ | refine G_exit rfl ?_)
  refine G_region ?_
  refine GO_q rfl rfl (ev_move rfl) ?_
  refine GO_eff rfl rfl (eff_call rfl (cStab_ctr 4 _ hT.skip ot (by decide))) ?_; rintro _ _ ⟨cb, rfl, rfl⟩
  refine GO_q rfl rfl (ev_assign rfl) ?_
  refine GO_nil ?_
  refine G_heap (own.nil_ 3 1) ?_
  (repeat first | refine G_seq ?_ | refine G_skip ?_ | refine G_endblk ?_ | refine G_block ?_ | refine G_exit rfl ?_)
  refine G_region ?_
  refine GO_q rfl rfl (ev_move rfl) ?_
  refine GO_eff rfl rfl (eff_call rfl (Ctr.pre (M := blk cb 55 (cuC X (cellR lS2.R 4) none none ([] : List Int).length 0 0) :: own 3 1 none ([] : List Int).length 0 (flat ([] : List Int)) :: F :: LL) (by (repeat first | exact en_refl | (apply en_blk; focus ((repeat' first | exact Pick.here | apply Pick.skip | apply Pick.app); done); focus rfl) | (apply en_own; focus ((repeat' first | exact Pick.here | apply Pick.skip | apply Pick.app); done); focus rfl) | (apply en_pick; focus ((repeat' first | exact Pick.here | apply Pick.skip | apply Pick.app); done)) | apply en_drop | apply en_app) <;> fail) (cS cb))) ?_; rintro _ _ ⟨rfl, A', d', ids', ⟨hp', hA'⟩, rfl⟩
  refine GO_q rfl rfl (ev_move rfl) ?_
  refine GO_q rfl rfl (ev_extract rfl rfl) ?_
  refine GO_q rfl rfl (ev_extract rfl rfl) ?_
  refine GO_q rfl rfl (ev_assign rfl) ?_
  refine GO_q rfl rfl (ev_assign rfl) ?_
  refine GO_nil ?_
  have hlen : ids'.length = 2 := by rw [hp'.length_eq]; exact htl
  (repeat first | refine G_seq ?_ | refine G_skip ?_ | refine G_endblk ?_ | refine G_block ?_ | refine G_exit rfl ?_)
  refine G_region ?_
  refine GO_q rfl rfl (ev_move rfl) ?_
  refine GO_q rfl rfl (ev_eql rfl rfl) ?_
  refine GO_q rfl rfl (ev_move rfl) ?_
  refine GO_yes rfl rfl rfl rfl ?_
  refine GO_q rfl rfl (ev_move rfl) ?_
  refine GO_yes rfl rfl rfl rfl ?_
  refine GO_q rfl rfl (ev_eql rfl rfl) ?_
  refine GO_q rfl rfl (ev_pick_t rfl rfl rfl) ?_
  refine GO_q rfl rfl (ev_move rfl) ?_
  refine GO_yes rfl rfl rfl rfl ?_
  refine GO_q rfl rfl (ev_move rfl) ?_
  refine GO_yes rfl rfl rfl rfl ?_
  refine GO_q rfl rfl (ev_eql rfl rfl) ?_
  refine GO_q rfl rfl (ev_pick_t rfl rfl rfl) ?_
  refine GO_q rfl rfl (ev_move rfl) ?_
  refine GO_yes rfl rfl rfl rfl ?_
  refine GO_q rfl rfl (ev_move rfl) ?_
  refine GO_q rfl rfl (ev_pick_t rfl rfl rfl) ?_
  refine GO_q rfl rfl (ev_move rfl) ?_
  refine GO_yes rfl rfl rfl rfl ?_
  refine GO_q rfl rfl (ev_move rfl) ?_
  refine GO_yes rfl rfl rfl rfl ?_
  refine GO_eff rfl rfl (eff_call rfl (cN_ctr none _ (LdN.blk rfl))) ?_; rintro _ _ ⟨rfl, rfl⟩
  refine GO_yes rfl rfl rfl rfl ?_
  refine GO_q rfl rfl (ev_eql rfl rfl) ?_
  refine GO_q rfl rfl (ev_pick_t rfl rfl rfl) ?_
  refine GO_q rfl rfl (ev_move rfl) ?_
  refine GO_yes rfl rfl rfl (by simp [hlen]) ?_
  refine GO_eff rfl rfl (eff_call rfl (c9 _)) ?_; rintro _ _ ⟨rfl, rfl⟩
  refine GO_yes rfl rfl rfl (by simp [hlen]) ?_
  refine GO_q rfl rfl (ev_eql rfl rfl) ?_
  refine GO_q rfl rfl (ev_pick_t rfl (by simp [hlen]) rfl) ?_
  refine GO_q rfl rfl (ev_assign rfl) ?_
  refine GO_nil ?_
  (repeat first | refine G_seq ?_ | refine G_skip ?_ | refine G_endblk ?_ | refine G_block ?_ | refine G_exit rfl ?_)
  refine G_heap (L' := F :: LL) (by (repeat first | exact fun _ s => s | apply en_keep | apply en_drop | apply en_app) <;> fail) ?_
  exact G_ret (L' := [] ++ L) rfl (.tmp rfl .nil) (en_keep hdrop) ⟨rfl, [], rfl⟩
end Go.Proofs.Ytmgkmammkmlakaa
