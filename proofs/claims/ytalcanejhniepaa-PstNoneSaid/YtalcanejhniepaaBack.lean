/- The law PstBack: the walk. -/
import Derived.Test.YtalcanejhniepaaLives
import Derived.Test.YtalcanejhniepaaRef
namespace Go.Proofs.Ytalcanejhniepaa
attribute [local irreducible] sat
set_option linter.unusedVariables false
set_option linter.unusedSimpArgs false
set_option maxRecDepth 100000

theorem good_hi {n : Int} (h : good n = true) : n ≤ 1099511627776 := by
  unfold good at h; simp at h; exact h.2
theorem goodP_y {p : Pt} (h : goodP p = true) : p.y ≤ 1099511627776 := by
  unfold goodP at h; simp at h; exact good_hi h.2.2
theorem hits_win (w : Wn) (l : List Pt) (h : ∀ p ∈ l, goodP p = true) : hits (fun p => Bx.has ⟨w.x1, w.x2, w.y, 1099511627776⟩ p.x p.y) l = winIds w l := by
  unfold hits winIds
  congr 1
  refine List.filter_congr fun p hp => ?_
  have := goodP_y (h p hp)
  unfold Bx.has Wn.sees wthn
  simp [this]
theorem PstBack_ctr (A : Option Addr) (n c : Nat) (acts : List Ac) (p : Pt) (w : Wn) (L : List HP) (hl : Rd L A n acts) (hn : n ≤ 9223372036854775807) (ha : ∀ a ∈ acts, a.at_ ≤ 9223372036854775807) :
    Ctr Try.prog 4 #[.slice A n c, p.v, .agg #[.int .i64 w.x1, .int .i64 w.x2, .int .i64 w.y]] L fun v L' => v = .bool true ∧ L' = L := by
  refine Ctr_of (fn := Try.f4) (n := 54) Try.func4 rfl rfl rfl ?_
  intro g F
  (repeat first | refine G_seq ?_ | refine G_skip ?_ | refine G_endblk ?_ | refine G_block ?_ | refine G_exit rfl ?_)
  refine G_region ?_
  refine GO_eff rfl rfl (eff_box rfl) ?_; rintro _ _ ⟨b4, rfl, rfl⟩
  refine GO_eff rfl rfl (eff_box rfl) ?_; rintro _ _ ⟨b5, rfl, rfl⟩
  refine GO_q rfl rfl (ev_assign rfl) ?_
  refine GO_nil ?_
  (repeat first | refine G_seq ?_ | refine G_skip ?_ | refine G_endblk ?_ | refine G_block ?_ | refine G_exit rfl ?_)
  refine G_region ?_
  refine GO_q rfl rfl (ev_move rfl) ?_
  refine GO_eff rfl rfl (eff_call rfl (Ctr.frame (blk b5 45 [.int .i64 w.x1, .int .i64 w.x2, .int .i64 w.y] :: blk b4 39 [.int .i64 p.id, .int .i64 p.x, .int .i64 p.y] :: F :: []) (Made_ctr A n c acts L hl hn ha) (fun _ s => s))) ?_; rintro _ _ ⟨_, ⟨t, s, l, rfl, ⟨hl1, hl2⟩, rfl⟩, rfl⟩
  refine GO_q rfl rfl (ev_move rfl) ?_
  refine GO_q rfl rfl (ev_extract rfl rfl) ?_
  refine GO_q rfl rfl (ev_extract rfl rfl) ?_
  refine GO_q rfl rfl (ev_extract rfl rfl) ?_
  refine GO_q rfl rfl (ev_assign rfl) ?_
  refine GO_q rfl rfl (ev_assign rfl) ?_
  refine GO_q rfl rfl (ev_assign rfl) ?_
  refine GO_nil ?_
  (repeat first | refine G_seq ?_ | refine G_skip ?_ | refine G_endblk ?_ | refine G_block ?_ | refine G_exit rfl ?_)
  refine G_region ?_
  refine GO_q rfl rfl (ev_move rfl) ?_
  refine GO_q rfl rfl (ev_not rfl) ?_
  refine GO_nil ?_
  (repeat first | refine G_seq ?_ | refine G_skip ?_ | refine G_endblk ?_ | refine G_block ?_ | refine G_exit rfl ?_)
  refine G_cond_f rfl rfl ?_
  have e5 := hits_win w l hl2
  have hsl : (srt (winIds w l)).length ≤ 80 := by
    rw [srt, List.length_mergeSort, winIds, List.length_map]
    exact Nat.le_trans (List.length_filter_le ..) hl1
  refine G_heap (L' := blk b5 45 [.int .i64 w.x1, .int .i64 w.x2, .int .i64 w.y] :: blk b4 39 [.int .i64 p.id, .int .i64 p.x, .int .i64 p.y] :: F :: treeS t 60 l :: setS s 60 l :: L) (fun _ s => s) ?_
  refine G_heap (L' := setS s 60 l :: blk b5 45 [.int .i64 w.x1, .int .i64 w.x2, .int .i64 w.y] :: blk b4 39 [.int .i64 p.id, .int .i64 p.x, .int .i64 p.y] :: F :: treeS t 60 l :: L) (by (repeat first | exact en_refl | (apply en_blk; focus ((repeat' first | exact Pick.here | apply Pick.skip | apply Pick.app); done); focus rfl) | (apply en_own; focus ((repeat' first | exact Pick.here | apply Pick.skip | apply Pick.app); done); focus rfl) | (apply en_pick; focus ((repeat' first | exact Pick.here | apply Pick.skip | apply Pick.app); done)) | apply en_drop | apply en_app) <;> fail) ?_
  refine G_open (ι := Option Addr × Nat) (F := fun x => 0 < l.length → ∃ b, x.1 = some ⟨b, 0, none⟩) (N := fun x => [blk s 34 [.slice x.1 l.length x.2, .int .i64 60], own 39 3 x.1 l.length x.2 (flat l)]) (fun _ h => h) fun x hx => ?_
  obtain ⟨B, d⟩ := x
  dsimp only at hx
  refine G_heap (L' := blk s 34 [.slice B l.length d, .int .i64 60] :: own 39 3 B l.length d (flat l) :: blk b5 45 [.int .i64 w.x1, .int .i64 w.x2, .int .i64 w.y] :: blk b4 39 [.int .i64 p.id, .int .i64 p.x, .int .i64 p.y] :: F :: treeS t 60 l :: L) (fun _ s => s) ?_
  have hb : ∀ L', LdN (blk s 34 [.slice B l.length d, .int .i64 60] :: L') s 0 2 [.slice B l.length d, .int .i64 60] := fun L' => LdN.blk rfl
  have hr : ∀ L', Rd (own 39 3 B l.length d (flat l) :: L') B l.length l := fun L' => Rc.own (flat_length l) hx
  by_cases h0 : insC 60 l p = 0
  · have e6 : insL 60 l p = p :: l := by unfold insL; rw [if_pos h0]
    have e7 : delC (p :: l) p = 0 := if_pos (List.mem_cons_self ..)
    have e8 : (p :: l).erase p = l := by simp
    (repeat first | refine G_seq ?_ | refine G_skip ?_ | refine G_endblk ?_ | refine G_block ?_ | refine G_exit rfl ?_)
    refine G_region ?_
    refine GO_q rfl rfl (ev_move rfl) ?_
    refine GO_q rfl rfl (ev_loadN rfl (by repeat' first | exact LdN.blk rfl | assumption | apply LdN.skip | apply LdN.app)) ?_
    refine GO_eff rfl rfl (eff_call rfl (Ctr.pick (by repeat' first | exact Pick.here | apply Pick.skip | apply Pick.app) (PInsert_ctr t 60 l p _ (by omega)))) ?_; rintro _ _ ⟨rfl, rfl⟩
    refine GO_q rfl rfl (ev_eql rfl rfl) ?_
    refine GO_q rfl rfl (ev_move rfl) ?_
    refine GO_yes rfl rfl rfl (decide_eq_true h0) ?_
    refine GO_q rfl rfl (ev_move rfl) ?_
    refine GO_yes rfl rfl rfl (decide_eq_true h0) ?_
    refine GO_q rfl rfl (ev_loadN rfl (by repeat' first | exact LdN.blk rfl | assumption | apply LdN.skip | apply LdN.app)) ?_
    refine GO_yes rfl rfl rfl (decide_eq_true h0) ?_
    refine GO_eff rfl rfl (eff_call rfl (Ctr.pick (by repeat' first | exact Pick.here | apply Pick.skip | apply Pick.app) (PDelete_ctr t 60 _ p _ (by rw [e6]; simp; omega)))) ?_; rintro _ _ ⟨rfl, rfl⟩
    refine GO_yes rfl rfl rfl (decide_eq_true h0) ?_
    refine GO_q rfl rfl (ev_neq rfl rfl) ?_
    refine GO_q rfl rfl (ev_pick_t rfl (decide_eq_true h0) rfl) ?_
    refine GO_nil ?_
    rw [e6, e7, e8]
    (repeat first | refine G_seq ?_ | refine G_skip ?_ | refine G_endblk ?_ | refine G_block ?_ | refine G_exit rfl ?_)
    refine G_cond_f rfl rfl ?_
    (repeat first | refine G_seq ?_ | refine G_skip ?_ | refine G_endblk ?_ | refine G_block ?_ | refine G_exit rfl ?_)
    refine G_draw (.q 0 (.q 1 (.q 3 (.q 4 (.q 5 (.q 6 (.q 7 (.q 8 (.q 9 (.q 10 (.e 2 (.e 11 (.e 12 (.q 13 (.q 14 (.q 16 (.q 17 (.q 18 (.q 19 (.q 20 (.e 15 (.q 21 (.q 22 (.q 23 (.e 24 (.q 25 (.q 26 .nil))))))))))))))))))))))))))) (by kernel_rfl) (by kernel_rfl) ?_
    refine RS_q retB_noPanic rfl rfl rfl (ev_move rfl) ?_
    refine RS_q retB_noPanic rfl rfl rfl (ev_loadN rfl (by repeat' first | exact LdN.blk rfl | assumption | apply LdN.skip | apply LdN.app)) ?_
    refine RS_q retB_noPanic rfl rfl rfl (ev_move rfl) ?_
    refine RS_q retB_noPanic rfl rfl rfl (ev_fieldAddr rfl) ?_
    refine RS_q retB_noPanic rfl rfl rfl (ev_load rfl (by repeat' first | exact Ld.blk rfl | assumption | apply Ld.skip | apply Ld.app)) ?_
    refine RS_q retB_noPanic rfl rfl rfl (ev_fieldAddr rfl) ?_
    refine RS_q retB_noPanic rfl rfl rfl (ev_load rfl (by repeat' first | exact Ld.blk rfl | assumption | apply Ld.skip | apply Ld.app)) ?_
    refine RS_q retB_noPanic rfl rfl rfl (ev_fieldAddr rfl) ?_
    refine RS_q retB_noPanic rfl rfl rfl (ev_load rfl (by repeat' first | exact Ld.blk rfl | assumption | apply Ld.skip | apply Ld.app)) ?_
    refine RS_q retB_noPanic rfl rfl rfl (ev_build rfl rfl) ?_
    refine RS_e (RE_eff rfl rfl rfl (eff_call rfl (Ctr.pick (by repeat' first | exact Pick.here | apply Pick.skip | apply Pick.app) (SReport_ctr t 60 w l _ (by omega)))) ?_); rintro _ _ ⟨A30, c30, rfl, hA30, rfl⟩; refine ⟨_, (by first | ((repeat first | exact fun _ s => s | apply en_keep | apply en_drop | apply en_app) <;> fail) | ((repeat first | exact en_refl | (apply en_blk; focus ((repeat' first | exact Pick.here | apply Pick.skip | apply Pick.app); done); focus rfl) | (apply en_own; focus ((repeat' first | exact Pick.here | apply Pick.skip | apply Pick.app); done); focus rfl) | (apply en_pick; focus ((repeat' first | exact Pick.here | apply Pick.skip | apply Pick.app); done)) | apply en_drop | apply en_app) <;> fail)), fun _ s => s, ?_⟩
    refine RS_e (RE_eff rfl rfl rfl (eff_call rfl (RReport_ctr0 s B d 60 ⟨w.x1, w.x2, w.y, 1099511627776⟩ l _ (by repeat' first | exact hb _ | apply LdN.skip) (by repeat' first | exact hr _ | apply Rd.skip) (by omega))) ?_); rintro _ _ ⟨X39, ⟨A39, c39, rfl, i1, i2, i3⟩, rfl⟩; refine ⟨_, (by first | ((repeat first | exact fun _ s => s | apply en_keep | apply en_drop | apply en_app) <;> fail) | ((repeat first | exact en_refl | (apply en_blk; focus ((repeat' first | exact Pick.here | apply Pick.skip | apply Pick.app); done); focus rfl) | (apply en_own; focus ((repeat' first | exact Pick.here | apply Pick.skip | apply Pick.app); done); focus rfl) | (apply en_pick; focus ((repeat' first | exact Pick.here | apply Pick.skip | apply Pick.app); done)) | apply en_drop | apply en_app) <;> fail)), fun _ s => s, ?_⟩
    refine RS_e (RE_eff rfl rfl rfl (eff_call rfl (Same_ctr A30 A39 _ _ c30 c39 _ _ _ (Rd.app (Rc.own (flat_length _) hA30)) (Rd.mono (fun h s => en_app (fun _ s => s) h (s.perm List.perm_append_comm)) i3) (Nat.le_trans hsl (by decide)))) ?_); rintro _ _ ⟨rfl, rfl⟩; refine ⟨_, (by first | ((repeat first | exact fun _ s => s | apply en_keep | apply en_drop | apply en_app) <;> fail) | ((repeat first | exact en_refl | (apply en_blk; focus ((repeat' first | exact Pick.here | apply Pick.skip | apply Pick.app); done); focus rfl) | (apply en_own; focus ((repeat' first | exact Pick.here | apply Pick.skip | apply Pick.app); done); focus rfl) | (apply en_pick; focus ((repeat' first | exact Pick.here | apply Pick.skip | apply Pick.app); done)) | apply en_drop | apply en_app) <;> fail)), fun _ s => s, ?_⟩
    refine RS_q retB_noPanic rfl rfl rfl (ev_move rfl) ?_
    refine RS_q_yes retB_noPanic rfl rfl rfl ⟨_, rfl, (by rw [e5]; simp)⟩ rfl (ev_move rfl) ?_
    refine RS_q_yes retB_noPanic rfl rfl rfl ⟨_, rfl, (by rw [e5]; simp)⟩ rfl (ev_move rfl) ?_
    (first | refine RS_q_yes retB_noPanic rfl rfl rfl ⟨_, rfl, (by rw [e5]; simp)⟩ rfl (ev_nilCheck rfl) ?_ | refine RS_q_yes retB_noPanic rfl rfl rfl ⟨_, rfl, (by rw [e5]; simp)⟩ rfl (ev_nilCheckF (by simp) rfl) ?_)
    refine RS_q_yes retB_noPanic rfl rfl rfl ⟨_, rfl, (by rw [e5]; simp)⟩ rfl (ev_fieldAddr rfl) ?_
    refine RS_q_yes retB_noPanic rfl rfl rfl ⟨_, rfl, (by rw [e5]; simp)⟩ rfl (ev_load rfl (by repeat' first | exact Ld.blk rfl | assumption | apply Ld.skip | apply Ld.app)) ?_
    refine RS_q_yes retB_noPanic rfl rfl rfl ⟨_, rfl, (by rw [e5]; simp)⟩ rfl (ev_len rfl) ?_
    refine RS_e (RE_eff_yes rfl rfl rfl ⟨_, rfl, (by rw [e5]; simp)⟩ rfl (eff_call rfl (Ctr.pick (by repeat' first | exact Pick.here | apply Pick.skip | apply Pick.app) (SLen_ctr t 60 l _))) ?_); rintro _ _ ⟨rfl, rfl⟩; refine ⟨_, (by first | ((repeat first | exact fun _ s => s | apply en_keep | apply en_drop | apply en_app) <;> fail) | ((repeat first | exact en_refl | (apply en_blk; focus ((repeat' first | exact Pick.here | apply Pick.skip | apply Pick.app); done); focus rfl) | (apply en_own; focus ((repeat' first | exact Pick.here | apply Pick.skip | apply Pick.app); done); focus rfl) | (apply en_pick; focus ((repeat' first | exact Pick.here | apply Pick.skip | apply Pick.app); done)) | apply en_drop | apply en_app) <;> fail)), fun _ s => s, ?_⟩
    refine RS_q_yes retB_noPanic rfl rfl rfl ⟨_, rfl, (by rw [e5]; simp)⟩ rfl (ev_eql rfl rfl) ?_
    refine RS_q retB_noPanic rfl rfl rfl (ev_pick_t rfl (by rw [e5]; simp) rfl) ?_
    refine RS_q retB_noPanic rfl rfl rfl (ev_move rfl) ?_
    refine RS_e (RE_eff_yes rfl rfl rfl ⟨_, rfl, (by simp)⟩ rfl (eff_call rfl (lives_ctr _)) ?_); rintro _ _ ⟨rfl, X52, rfl⟩; refine ⟨_, (by first | ((repeat first | exact fun _ s => s | apply en_keep | apply en_drop | apply en_app) <;> fail) | ((repeat first | exact en_refl | (apply en_blk; focus ((repeat' first | exact Pick.here | apply Pick.skip | apply Pick.app); done); focus rfl) | (apply en_own; focus ((repeat' first | exact Pick.here | apply Pick.skip | apply Pick.app); done); focus rfl) | (apply en_pick; focus ((repeat' first | exact Pick.here | apply Pick.skip | apply Pick.app); done)) | apply en_drop | apply en_app) <;> fail)), fun _ s => s, ?_⟩
    refine RS_q retB_noPanic rfl rfl rfl (ev_pick_t rfl (by simp) rfl) ?_
    refine RS_q retB_noPanic rfl rfl rfl (ev_assign rfl) ?_
    refine RS_nil ?_
    (repeat first | refine G_seq ?_ | refine G_skip ?_ | refine G_endblk ?_ | refine G_block ?_ | refine G_exit rfl ?_)
    exact G_ret (L' := L) rfl (.tmp rfl .nil) (by (repeat first | exact fun _ s => s | apply en_keep | apply en_drop | apply en_app) <;> fail) ⟨by simp [retv], rfl⟩
  · have e6 : insL 60 l p = l := by unfold insL; rw [if_neg h0]
    (repeat first | refine G_seq ?_ | refine G_skip ?_ | refine G_endblk ?_ | refine G_block ?_ | refine G_exit rfl ?_)
    refine G_region ?_
    refine GO_q rfl rfl (ev_move rfl) ?_
    refine GO_q rfl rfl (ev_loadN rfl (by repeat' first | exact LdN.blk rfl | assumption | apply LdN.skip | apply LdN.app)) ?_
    refine GO_eff rfl rfl (eff_call rfl (Ctr.pick (by repeat' first | exact Pick.here | apply Pick.skip | apply Pick.app) (PInsert_ctr t 60 l p _ (by omega)))) ?_; rintro _ _ ⟨rfl, rfl⟩
    refine GO_q rfl rfl (ev_eql rfl rfl) ?_
    refine GO_q rfl rfl (ev_move rfl) ?_
    refine GO_no rfl rfl rfl (decide_eq_false h0) ?_
    refine GO_no rfl rfl rfl (decide_eq_false h0) ?_
    refine GO_no rfl rfl rfl (decide_eq_false h0) ?_
    refine GO_no rfl rfl rfl (decide_eq_false h0) ?_
    refine GO_q rfl rfl (ev_pick_f rfl (decide_eq_false h0) rfl) ?_
    refine GO_nil ?_
    rw [e6]
    (repeat first | refine G_seq ?_ | refine G_skip ?_ | refine G_endblk ?_ | refine G_block ?_ | refine G_exit rfl ?_)
    refine G_cond_f rfl rfl ?_
    (repeat first | refine G_seq ?_ | refine G_skip ?_ | refine G_endblk ?_ | refine G_block ?_ | refine G_exit rfl ?_)
    refine G_draw (.q 0 (.q 1 (.q 3 (.q 4 (.q 5 (.q 6 (.q 7 (.q 8 (.q 9 (.q 10 (.e 2 (.e 11 (.e 12 (.q 13 (.q 14 (.q 16 (.q 17 (.q 18 (.q 19 (.q 20 (.e 15 (.q 21 (.q 22 (.q 23 (.e 24 (.q 25 (.q 26 .nil))))))))))))))))))))))))))) (by kernel_rfl) (by kernel_rfl) ?_
    refine RS_q retB_noPanic rfl rfl rfl (ev_move rfl) ?_
    refine RS_q retB_noPanic rfl rfl rfl (ev_loadN rfl (by repeat' first | exact LdN.blk rfl | assumption | apply LdN.skip | apply LdN.app)) ?_
    refine RS_q retB_noPanic rfl rfl rfl (ev_move rfl) ?_
    refine RS_q retB_noPanic rfl rfl rfl (ev_fieldAddr rfl) ?_
    refine RS_q retB_noPanic rfl rfl rfl (ev_load rfl (by repeat' first | exact Ld.blk rfl | assumption | apply Ld.skip | apply Ld.app)) ?_
    refine RS_q retB_noPanic rfl rfl rfl (ev_fieldAddr rfl) ?_
    refine RS_q retB_noPanic rfl rfl rfl (ev_load rfl (by repeat' first | exact Ld.blk rfl | assumption | apply Ld.skip | apply Ld.app)) ?_
    refine RS_q retB_noPanic rfl rfl rfl (ev_fieldAddr rfl) ?_
    refine RS_q retB_noPanic rfl rfl rfl (ev_load rfl (by repeat' first | exact Ld.blk rfl | assumption | apply Ld.skip | apply Ld.app)) ?_
    refine RS_q retB_noPanic rfl rfl rfl (ev_build rfl rfl) ?_
    refine RS_e (RE_eff rfl rfl rfl (eff_call rfl (Ctr.pick (by repeat' first | exact Pick.here | apply Pick.skip | apply Pick.app) (SReport_ctr t 60 w l _ (by omega)))) ?_); rintro _ _ ⟨A30, c30, rfl, hA30, rfl⟩; refine ⟨_, (by first | ((repeat first | exact fun _ s => s | apply en_keep | apply en_drop | apply en_app) <;> fail) | ((repeat first | exact en_refl | (apply en_blk; focus ((repeat' first | exact Pick.here | apply Pick.skip | apply Pick.app); done); focus rfl) | (apply en_own; focus ((repeat' first | exact Pick.here | apply Pick.skip | apply Pick.app); done); focus rfl) | (apply en_pick; focus ((repeat' first | exact Pick.here | apply Pick.skip | apply Pick.app); done)) | apply en_drop | apply en_app) <;> fail)), fun _ s => s, ?_⟩
    refine RS_e (RE_eff rfl rfl rfl (eff_call rfl (RReport_ctr0 s B d 60 ⟨w.x1, w.x2, w.y, 1099511627776⟩ l _ (by repeat' first | exact hb _ | apply LdN.skip) (by repeat' first | exact hr _ | apply Rd.skip) (by omega))) ?_); rintro _ _ ⟨X39, ⟨A39, c39, rfl, i1, i2, i3⟩, rfl⟩; refine ⟨_, (by first | ((repeat first | exact fun _ s => s | apply en_keep | apply en_drop | apply en_app) <;> fail) | ((repeat first | exact en_refl | (apply en_blk; focus ((repeat' first | exact Pick.here | apply Pick.skip | apply Pick.app); done); focus rfl) | (apply en_own; focus ((repeat' first | exact Pick.here | apply Pick.skip | apply Pick.app); done); focus rfl) | (apply en_pick; focus ((repeat' first | exact Pick.here | apply Pick.skip | apply Pick.app); done)) | apply en_drop | apply en_app) <;> fail)), fun _ s => s, ?_⟩
    refine RS_e (RE_eff rfl rfl rfl (eff_call rfl (Same_ctr A30 A39 _ _ c30 c39 _ _ _ (Rd.app (Rc.own (flat_length _) hA30)) (Rd.mono (fun h s => en_app (fun _ s => s) h (s.perm List.perm_append_comm)) i3) (Nat.le_trans hsl (by decide)))) ?_); rintro _ _ ⟨rfl, rfl⟩; refine ⟨_, (by first | ((repeat first | exact fun _ s => s | apply en_keep | apply en_drop | apply en_app) <;> fail) | ((repeat first | exact en_refl | (apply en_blk; focus ((repeat' first | exact Pick.here | apply Pick.skip | apply Pick.app); done); focus rfl) | (apply en_own; focus ((repeat' first | exact Pick.here | apply Pick.skip | apply Pick.app); done); focus rfl) | (apply en_pick; focus ((repeat' first | exact Pick.here | apply Pick.skip | apply Pick.app); done)) | apply en_drop | apply en_app) <;> fail)), fun _ s => s, ?_⟩
    refine RS_q retB_noPanic rfl rfl rfl (ev_move rfl) ?_
    refine RS_q_yes retB_noPanic rfl rfl rfl ⟨_, rfl, (by rw [e5]; simp)⟩ rfl (ev_move rfl) ?_
    refine RS_q_yes retB_noPanic rfl rfl rfl ⟨_, rfl, (by rw [e5]; simp)⟩ rfl (ev_move rfl) ?_
    (first | refine RS_q_yes retB_noPanic rfl rfl rfl ⟨_, rfl, (by rw [e5]; simp)⟩ rfl (ev_nilCheck rfl) ?_ | refine RS_q_yes retB_noPanic rfl rfl rfl ⟨_, rfl, (by rw [e5]; simp)⟩ rfl (ev_nilCheckF (by simp) rfl) ?_)
    refine RS_q_yes retB_noPanic rfl rfl rfl ⟨_, rfl, (by rw [e5]; simp)⟩ rfl (ev_fieldAddr rfl) ?_
    refine RS_q_yes retB_noPanic rfl rfl rfl ⟨_, rfl, (by rw [e5]; simp)⟩ rfl (ev_load rfl (by repeat' first | exact Ld.blk rfl | assumption | apply Ld.skip | apply Ld.app)) ?_
    refine RS_q_yes retB_noPanic rfl rfl rfl ⟨_, rfl, (by rw [e5]; simp)⟩ rfl (ev_len rfl) ?_
    refine RS_e (RE_eff_yes rfl rfl rfl ⟨_, rfl, (by rw [e5]; simp)⟩ rfl (eff_call rfl (Ctr.pick (by repeat' first | exact Pick.here | apply Pick.skip | apply Pick.app) (SLen_ctr t 60 l _))) ?_); rintro _ _ ⟨rfl, rfl⟩; refine ⟨_, (by first | ((repeat first | exact fun _ s => s | apply en_keep | apply en_drop | apply en_app) <;> fail) | ((repeat first | exact en_refl | (apply en_blk; focus ((repeat' first | exact Pick.here | apply Pick.skip | apply Pick.app); done); focus rfl) | (apply en_own; focus ((repeat' first | exact Pick.here | apply Pick.skip | apply Pick.app); done); focus rfl) | (apply en_pick; focus ((repeat' first | exact Pick.here | apply Pick.skip | apply Pick.app); done)) | apply en_drop | apply en_app) <;> fail)), fun _ s => s, ?_⟩
    refine RS_q_yes retB_noPanic rfl rfl rfl ⟨_, rfl, (by rw [e5]; simp)⟩ rfl (ev_eql rfl rfl) ?_
    refine RS_q retB_noPanic rfl rfl rfl (ev_pick_t rfl (by rw [e5]; simp) rfl) ?_
    refine RS_q retB_noPanic rfl rfl rfl (ev_move rfl) ?_
    refine RS_e (RE_eff_yes rfl rfl rfl ⟨_, rfl, (by simp)⟩ rfl (eff_call rfl (lives_ctr _)) ?_); rintro _ _ ⟨rfl, X52, rfl⟩; refine ⟨_, (by first | ((repeat first | exact fun _ s => s | apply en_keep | apply en_drop | apply en_app) <;> fail) | ((repeat first | exact en_refl | (apply en_blk; focus ((repeat' first | exact Pick.here | apply Pick.skip | apply Pick.app); done); focus rfl) | (apply en_own; focus ((repeat' first | exact Pick.here | apply Pick.skip | apply Pick.app); done); focus rfl) | (apply en_pick; focus ((repeat' first | exact Pick.here | apply Pick.skip | apply Pick.app); done)) | apply en_drop | apply en_app) <;> fail)), fun _ s => s, ?_⟩
    refine RS_q retB_noPanic rfl rfl rfl (ev_pick_t rfl (by simp) rfl) ?_
    refine RS_q retB_noPanic rfl rfl rfl (ev_assign rfl) ?_
    refine RS_nil ?_
    (repeat first | refine G_seq ?_ | refine G_skip ?_ | refine G_endblk ?_ | refine G_block ?_ | refine G_exit rfl ?_)
    exact G_ret (L' := L) rfl (.tmp rfl .nil) (by (repeat first | exact fun _ s => s | apply en_keep | apply en_drop | apply en_app) <;> fail) ⟨by simp [retv], rfl⟩
end Go.Proofs.Ytalcanejhniepaa
