/- Plan: the laws. -/
import Derived.Test.YtcdafmmfcjbodaaPj
import Derived.Test.YtcdafmmfcjbodaaBrP
namespace Go.Proofs.Ytcdafmmfcjbodaa
attribute [local irreducible] sat
open Go.RowKit
set_option linter.unusedVariables false
set_option linter.unusedSimpArgs false
set_option maxRecDepth 100000

def liveQ : Qy := ⟨5, ⟨0, 0, 0, 0⟩, ⟨0, 0, 0⟩, 3, 0⟩
def liveS : List Sp := [⟨4, 1, 9⟩, ⟨2, 3, 3⟩]
theorem liveQ_chk : liveQ.chk = 0 := by simp [liveQ, Qy.chk, spanChk, good]
theorem liveQ_ids : liveQ.ids [] liveS = [4, 2] := by decide
theorem liveQ_n : liveQ.n [] liveS = 2 := by
  unfold Qy.n
  rw [if_neg (by rw [liveQ_chk]; simp), liveQ_ids]; rfl
theorem liveQ_out : liveQ.out [] liveS = [2, 4] := by
  rw [← Qy.rOut_eq]
  unfold Qy.rOut
  rw [if_neg (by rw [liveQ_chk]; simp), liveQ_ids]
  decide
theorem liveQ_choice : liveQ.choice = [5, 4] := by
  unfold Qy.choice
  rw [if_neg (by rw [liveQ_chk]; simp)]
  decide
theorem lives25_ctr (L : List HP) : Ctr Try.prog 22 #[] L fun v L' => v = .bool true ∧ L' = L := by
  have Z1 := fun A m d M hs => Plain_ctr liveQ none A 0 0 m d [] liveS M (Rd.nil _ _) hs (by omega)
  have Z2 := fun M => PChoice_ctr liveQ M
  rw [liveQ_n, liveQ_out] at Z1
  rw [liveQ_choice] at Z2
  refine Ctr_of (fn := Try.f22) (n := 39) Try.func22 rfl rfl rfl ?_
  intro g F
  (repeat first | refine G_seq ?_ | refine G_skip ?_ | refine G_endblk ?_ | refine G_block ?_ | refine G_exit rfl ?_)
  refine G_region ?_
  refine GO_q rfl rfl (ev_assign rfl) ?_
  refine GO_nil ?_
  (repeat first | refine G_seq ?_ | refine G_skip ?_ | refine G_endblk ?_ | refine G_block ?_ | refine G_exit rfl ?_)
  refine G_region ?_
  refine GO_q rfl rfl (ev_build rfl rfl) ?_
  refine GO_eff rfl rfl eff_alloc ?_; rintro _ _ ⟨b1, rfl, rfl⟩
  refine GO_eff rfl rfl (eff_storeN rfl rfl rfl rfl (by repeat' first | exact Upd.here rfl | apply Upd.skip | apply Upd.app)) ?_; rintro _ _ ⟨rfl, rfl⟩
  refine GO_nil ?_
  (repeat first | refine G_seq ?_ | refine G_skip ?_ | refine G_endblk ?_ | refine G_block ?_ | refine G_exit rfl ?_)
  refine G_region ?_
  refine GO_q rfl rfl (ev_loadN rfl (by repeat' first | exact LdN.blk rfl | assumption | apply LdN.skip | apply LdN.app)) ?_
  refine GO_q rfl rfl (ev_build rfl rfl) ?_
  refine GO_q rfl rfl (ev_build rfl rfl) ?_
  refine GO_eff rfl rfl (eff_buildSliceN (by rfl) rfl rfl) ?_; rintro _ _ ⟨b8, rfl, rfl⟩
  refine GO_eff rfl rfl (eff_call rfl (Z1 (some ⟨b8, 0, none⟩) 2 2 _ (Rc.blk rfl) (by omega))) ?_; rintro _ _ ⟨A1, c1, N1, rfl, k1, K1, rfl, R1⟩; obtain ⟨b91, o91, rfl, X1⟩ := R1.head (by simp)
  refine GO_eff rfl rfl eff_alloc ?_; rintro _ _ ⟨b2, rfl, rfl⟩
  refine GO_eff rfl rfl (eff_storeN rfl rfl rfl rfl (by repeat' first | exact Upd.here rfl | apply Upd.skip | apply Upd.app)) ?_; rintro _ _ ⟨rfl, rfl⟩
  refine GO_nil ?_
  (repeat first | refine G_seq ?_ | refine G_skip ?_ | refine G_endblk ?_ | refine G_block ?_ | refine G_exit rfl ?_)
  refine G_region ?_
  refine GO_q rfl rfl (ev_loadN rfl (by repeat' first | exact LdN.blk rfl | assumption | apply LdN.skip | apply LdN.app)) ?_
  refine GO_eff rfl rfl (eff_call rfl (Z2 _)) ?_; rintro _ _ ⟨A2, c2, N2, rfl, k2, K2, rfl, R2⟩; obtain ⟨b92, o92, rfl, X2⟩ := R2.head (by simp)
  refine GO_q rfl rfl (ev_assign rfl) ?_
  refine GO_nil ?_
  (repeat first | refine G_seq ?_ | refine G_skip ?_ | refine G_endblk ?_ | refine G_block ?_ | refine G_exit rfl ?_)
  refine G_region ?_
  refine GO_q rfl rfl (ev_fieldAddr rfl) ?_
  refine GO_q rfl rfl (ev_load rfl (by repeat' first | exact Ld.blk rfl | assumption | apply Ld.skip | apply Ld.app)) ?_
  refine GO_q rfl rfl (ev_eql rfl rfl) ?_
  refine GO_q rfl rfl (ev_move rfl) ?_
  refine GO_yes rfl rfl rfl rfl ?_
  refine GO_q rfl rfl (ev_fieldAddr rfl) ?_
  refine GO_yes rfl rfl rfl rfl ?_
  refine GO_q rfl rfl (ev_load rfl (by repeat' first | exact Ld.blk rfl | assumption | apply Ld.skip | apply Ld.app)) ?_
  refine GO_yes rfl rfl rfl rfl ?_
  refine GO_q rfl rfl (ev_len rfl) ?_
  refine GO_yes rfl rfl rfl rfl ?_
  refine GO_q rfl rfl (ev_eql rfl rfl) ?_
  refine GO_q rfl rfl (ev_pick_t rfl rfl rfl) ?_
  refine GO_q rfl rfl (ev_move rfl) ?_
  refine GO_yes rfl rfl rfl rfl ?_
  refine GO_q rfl rfl (ev_fieldAddr rfl) ?_
  refine GO_yes rfl rfl rfl rfl ?_
  refine GO_q rfl rfl (ev_load rfl (by repeat' first | exact Ld.blk rfl | assumption | apply Ld.skip | apply Ld.app)) ?_
  refine GO_yes rfl rfl rfl rfl ?_
  (first | refine GO_q rfl rfl (ev_indexAddrN rfl rfl (by first | omega | (simp; done) | (simp; omega))) ?_ | refine GO_q rfl rfl (ev_indexAddr rfl rfl (by first | omega | (simp; done) | (simp; omega)) (by first | omega | (simp; done) | (simp; omega))) ?_)
  refine GO_yes rfl rfl rfl rfl ?_
  refine GO_q rfl rfl (ev_load rfl (by repeat' first | exact Ld.blk rfl | assumption | apply Ld.skip | apply Ld.app)) ?_
  refine GO_yes rfl rfl rfl rfl ?_
  refine GO_q rfl rfl (ev_eql rfl rfl) ?_
  refine GO_q rfl rfl (ev_pick_t rfl rfl rfl) ?_
  refine GO_q rfl rfl (ev_move rfl) ?_
  refine GO_yes rfl rfl rfl rfl ?_
  refine GO_q rfl rfl (ev_move rfl) ?_
  refine GO_yes rfl rfl rfl rfl ?_
  refine GO_q rfl rfl (ev_len rfl) ?_
  refine GO_yes rfl rfl rfl rfl ?_
  refine GO_q rfl rfl (ev_eql rfl rfl) ?_
  refine GO_q rfl rfl (ev_pick_t rfl rfl rfl) ?_
  refine GO_q rfl rfl (ev_move rfl) ?_
  refine GO_yes rfl rfl rfl rfl ?_
  refine GO_q rfl rfl (ev_move rfl) ?_
  refine GO_yes rfl rfl rfl rfl ?_
  (first | refine GO_q rfl rfl (ev_indexAddrN rfl rfl (by first | omega | (simp; done) | (simp; omega))) ?_ | refine GO_q rfl rfl (ev_indexAddr rfl rfl (by first | omega | (simp; done) | (simp; omega)) (by first | omega | (simp; done) | (simp; omega))) ?_)
  refine GO_yes rfl rfl rfl rfl ?_
  refine GO_q rfl rfl (ev_load rfl (by repeat' first | exact Ld.blk rfl | assumption | apply Ld.skip | apply Ld.app)) ?_
  refine GO_yes rfl rfl rfl rfl ?_
  refine GO_q rfl rfl (ev_eql rfl rfl) ?_
  refine GO_q rfl rfl (ev_pick_t rfl rfl rfl) ?_
  refine GO_q rfl rfl (ev_assign rfl) ?_
  refine GO_nil ?_
  (repeat first | refine G_seq ?_ | refine G_skip ?_ | refine G_endblk ?_ | refine G_block ?_ | refine G_exit rfl ?_)
  exact G_ret (L' := L) rfl (.tmp rfl .nil) (en_app (by repeat first | exact en_refl | apply en_drop | apply en_app)) ⟨rfl, rfl⟩

theorem choice_len (q : Qy) : q.choice.length ≤ 2 := by
  unfold Qy.choice
  repeat' split
  all_goals simp
theorem planChecks_ctr (q : Qy) (L : List HP) : Ctr Try.prog 5 #[q.v] L fun v L' => v = .bool true ∧ L' = L := by
  have hlen := choice_len q
  refine Ctr_of (fn := Try.f5) (n := 71) Try.func5 rfl rfl rfl ?_
  intro g F
  (repeat first | refine G_seq ?_ | refine G_skip ?_ | refine G_endblk ?_ | refine G_block ?_ | refine G_exit rfl ?_)
  refine G_region ?_
  refine GO_eff rfl rfl (eff_box rfl) ?_; rintro _ _ ⟨b1, rfl, rfl⟩
  refine GO_q rfl rfl (ev_assign rfl) ?_
  refine GO_nil ?_
  (repeat first | refine G_seq ?_ | refine G_skip ?_ | refine G_endblk ?_ | refine G_block ?_ | refine G_exit rfl ?_)
  refine G_region ?_
  refine GO_q rfl rfl (ev_loadN rfl (by repeat' first | exact LdN.blk rfl | assumption | apply LdN.skip | apply LdN.app)) ?_
  refine GO_eff rfl rfl (eff_call rfl (Ctr.frame [blk b1 37 (cellsL q.v), F] (rChoice_ctr q L) (by (repeat first | exact fun _ s => s | apply en_keep | apply en_drop | apply en_app) <;> fail))) ?_; rintro _ _ ⟨_, ⟨A7, c7, N7, rfl, k7, K7, rfl, R7⟩, rfl⟩
  refine GO_q rfl rfl (ev_assign rfl) ?_
  refine GO_nil ?_
  have HML : ∀ h, sat (N7 ++ L) h → sat L h := en_app en_refl
  generalize N7 ++ L = M at *
  (repeat first | refine G_seq ?_ | refine G_skip ?_ | refine G_endblk ?_ | refine G_block ?_ | refine G_exit rfl ?_)
  refine G_region ?_
  refine GO_q rfl rfl (ev_loadN rfl (by repeat' first | exact LdN.blk rfl | assumption | apply LdN.skip | apply LdN.app)) ?_
  refine GO_eff rfl rfl (eff_call rfl (PFirst_ctr q _)) ?_; rintro _ _ ⟨rfl, rfl⟩
  refine GO_q rfl rfl (ev_move rfl) ?_
  refine GO_q rfl rfl (ev_extract rfl rfl) ?_
  refine GO_q rfl rfl (ev_extract rfl rfl) ?_
  refine GO_q rfl rfl (ev_assign rfl) ?_
  refine GO_q rfl rfl (ev_assign rfl) ?_
  refine GO_nil ?_
  by_cases hp : 0 < q.choice.length
  · obtain ⟨b9, o9, rfl, X9⟩ := R7.head hp
    (repeat first | refine G_seq ?_ | refine G_skip ?_ | refine G_endblk ?_ | refine G_block ?_ | refine G_exit rfl ?_)
    refine G_draw (.q 0 (.q 2 (.e 1 (.e 3 (.q 4 (.q 5 (.q 6 (.q 8 (.e 7 (.e 9 (.q 10 (.q 11 (.q 12 (.q 13 (.q 14 (.q 15 (.q 16 (.q 17 (.q 18 (.q 19 (.q 20 (.q 21 (.q 22 (.q 23 (.q 24 (.q 25 (.q 26 (.q 27 (.q 28 (.q 29 (.q 30 (.q 31 (.q 32 (.q 33 (.q 34 (.q 35 (.q 36 .nil))))))))))))))))))))))))))))))))))))) (by kernel_rfl) (by kernel_rfl) ?_
    refine RS_q retB_noPanic rfl rfl rfl (ev_loadN rfl (by repeat' first | exact LdN.blk rfl | assumption | apply LdN.skip | apply LdN.app)) ?_
    refine RS_q retB_noPanic rfl rfl rfl (ev_loadN rfl (by repeat' first | exact LdN.blk rfl | assumption | apply LdN.skip | apply LdN.app)) ?_
    refine RS_e (RE_eff rfl rfl rfl (eff_call rfl (PCheck_ctr q _)) ?_); rintro _ _ ⟨rfl, rfl⟩; refine ⟨_, fun _ s => s, (by (repeat first | exact fun _ s => s | apply en_keep | apply en_drop | apply en_app) <;> fail), ?_⟩
    refine RS_e (RE_eff rfl rfl rfl (eff_call rfl (rcheck_ctr q _)) ?_); rintro _ _ ⟨rfl, rfl⟩; refine ⟨_, fun _ s => s, (by (repeat first | exact fun _ s => s | apply en_keep | apply en_drop | apply en_app) <;> fail), ?_⟩
    refine RS_q retB_noPanic rfl rfl rfl (ev_neq rfl rfl) ?_
    refine RS_q retB_noPanic rfl rfl rfl (ev_move rfl) ?_
    refine RS_q_yes retB_noPanic rfl rfl rfl ⟨_, rfl, (by simp)⟩ rfl (ev_loadN rfl (by repeat' first | exact LdN.blk rfl | assumption | apply LdN.skip | apply LdN.app)) ?_
    refine RS_q_yes retB_noPanic rfl rfl rfl ⟨_, rfl, (by simp)⟩ rfl (ev_move rfl) ?_
    refine RS_e (RE_eff_yes rfl rfl rfl ⟨_, rfl, (by simp)⟩ rfl (eff_call rfl (PChoice_ctr q _)) ?_); rintro _ _ ⟨A20, c20, N20, rfl, k20, K20, rfl, R20⟩; refine ⟨_, fun _ s => s, (by (repeat first | exact fun _ s => s | apply en_keep | apply en_drop | apply en_app) <;> fail), ?_⟩
    refine RS_e (RE_eff_yes rfl rfl rfl ⟨_, rfl, (by simp)⟩ rfl (eff_call rfl (Same_ctr A20 (some ⟨b9, o9, none⟩) _ _ c20 c7 q.choice q.choice _ R20 (by repeat' first | exact Rc.blk rfl | assumption | apply Rd.skip | apply Rd.app) (by omega))) ?_); rintro _ _ ⟨rfl, rfl⟩; refine ⟨_, fun _ s => s, (by (repeat first | exact fun _ s => s | apply en_keep | apply en_drop | apply en_app) <;> fail), ?_⟩
    (first | refine RS_q_yes retB_noPanic rfl rfl rfl ⟨_, rfl, (by simp)⟩ rfl (ev_notP rfl) ?_ | refine RS_q_yes retB_noPanic rfl rfl rfl ⟨_, rfl, (by simp)⟩ rfl (ev_not rfl) ?_)
    refine RS_q retB_noPanic rfl rfl rfl (ev_pick_f rfl (by simp) rfl) ?_
    refine RS_q retB_noPanic rfl rfl rfl (ev_move rfl) ?_
    refine RS_q_yes retB_noPanic rfl rfl rfl ⟨_, rfl, (by simp)⟩ rfl (ev_move rfl) ?_
    refine RS_q_yes retB_noPanic rfl rfl rfl ⟨_, rfl, (by simp)⟩ rfl (ev_move rfl) ?_
    refine RS_q_yes retB_noPanic rfl rfl rfl ⟨_, rfl, (by simp)⟩ rfl (ev_len rfl) ?_
    refine RS_q_yes retB_noPanic rfl rfl rfl ⟨_, rfl, (by simp)⟩ rfl (ev_gtr rfl rfl) ?_
    refine RS_q_yes retB_noPanic rfl rfl rfl ⟨_, rfl, (by simp)⟩ rfl (ev_neqB rfl rfl) ?_
    refine RS_q retB_noPanic rfl rfl rfl (ev_pick_f rfl (by simp) rfl) ?_
    refine RS_q retB_noPanic rfl rfl rfl (ev_move rfl) ?_
    refine RS_q_yes retB_noPanic rfl rfl rfl ⟨_, rfl, (by simp)⟩ rfl (ev_move rfl) ?_
    refine RS_q_yes retB_noPanic rfl rfl rfl ⟨_, rfl, (by simp)⟩ rfl (ev_move rfl) ?_
    refine RS_q_yes retB_noPanic rfl rfl rfl ⟨_, rfl, (by simp [hp])⟩ rfl (ev_move rfl) ?_
    refine RS_q_yes retB_noPanic rfl rfl rfl ⟨_, rfl, (by simp [hp])⟩ rfl (ev_move rfl) ?_
    (first | refine RS_q_yes retB_noPanic rfl rfl rfl ⟨_, rfl, (by simp [hp])⟩ rfl (ev_indexAddrN rfl rfl (by first | omega | (simp; done) | (simp; omega))) ?_ | refine RS_q_yes retB_noPanic rfl rfl rfl ⟨_, rfl, (by simp [hp])⟩ rfl (ev_indexAddr rfl rfl (by first | omega | (simp; done) | (simp; omega)) (by first | omega | (simp; done) | (simp; omega))) ?_)
    refine RS_q_yes retB_noPanic rfl rfl rfl ⟨_, rfl, (by simp [hp])⟩ rfl (ev_load rfl (by repeat' first | exact Ld.blk rfl | assumption | apply Ld.skip | apply Ld.app)) ?_
    refine RS_q_yes retB_noPanic rfl rfl rfl ⟨_, rfl, (by simp [hp])⟩ rfl (ev_neq rfl rfl) ?_
    refine RS_q_yes retB_noPanic rfl rfl rfl ⟨_, rfl, (by simp)⟩ rfl (ev_pick_t rfl (by simp [hp]) rfl) ?_
    refine RS_q retB_noPanic rfl rfl rfl (ev_pick_f rfl (by simp) rfl) ?_
    refine RS_q retB_noPanic rfl rfl rfl (ev_move rfl) ?_
    refine RS_q_yes retB_noPanic rfl rfl rfl ⟨_, rfl, (by simp)⟩ rfl (ev_move rfl) ?_
    refine RS_q_yes retB_noPanic rfl rfl rfl ⟨_, rfl, (by simp)⟩ rfl (ev_not rfl) ?_
    refine RS_q_yes retB_noPanic rfl rfl rfl ⟨_, rfl, (by simp)⟩ rfl (ev_move rfl) ?_
    refine RS_q_no retB_noPanic rfl rfl rfl ⟨_, rfl, (by simp [hp])⟩ rfl ?_
    refine RS_q_no retB_noPanic rfl rfl rfl ⟨_, rfl, (by simp [hp])⟩ rfl ?_
    refine RS_q_yes retB_noPanic rfl rfl rfl ⟨_, rfl, (by simp)⟩ rfl (ev_pick_f rfl (by simp [hp]) rfl) ?_
    refine RS_q retB_noPanic rfl rfl rfl (ev_pick_f rfl (by simp) rfl) ?_
    refine RS_nil ?_
    (repeat first | refine G_seq ?_ | refine G_skip ?_ | refine G_endblk ?_ | refine G_block ?_ | refine G_exit rfl ?_)
    refine G_cond_f rfl (by simp) ?_
    (repeat first | refine G_seq ?_ | refine G_skip ?_ | refine G_endblk ?_ | refine G_block ?_ | refine G_exit rfl ?_)
    refine G_draw (.q 0 (.q 2 (.e 1 (.e 3 (.q 4 (.q 5 (.q 6 (.q 8 (.q 9 (.q 10 (.e 7 (.q 11 (.q 12 (.q 13 (.q 14 (.q 15 (.q 16 (.q 17 (.q 18 (.e 19 (.q 20 (.q 21 .nil)))))))))))))))))))))) (by kernel_rfl) (by kernel_rfl) ?_
    refine RS_q retB_noPanic rfl rfl rfl (ev_loadN rfl (by repeat' first | exact LdN.blk rfl | assumption | apply LdN.skip | apply LdN.app)) ?_
    refine RS_q retB_noPanic rfl rfl rfl (ev_loadN rfl (by repeat' first | exact LdN.blk rfl | assumption | apply LdN.skip | apply LdN.app)) ?_
    refine RS_e (RE_eff rfl rfl rfl (eff_call rfl (PCounts_ctr q _)) ?_); rintro _ _ ⟨rfl, rfl⟩; refine ⟨_, fun _ s => s, (by (repeat first | exact fun _ s => s | apply en_keep | apply en_drop | apply en_app) <;> fail), ?_⟩
    refine RS_e (RE_eff rfl rfl rfl (eff_call rfl (rcounts_ctr q _)) ?_); rintro _ _ ⟨rfl, rfl⟩; refine ⟨_, fun _ s => s, (by (repeat first | exact fun _ s => s | apply en_keep | apply en_drop | apply en_app) <;> fail), ?_⟩
    refine RS_q retB_noPanic rfl rfl rfl (ev_eqlB rfl rfl) ?_
    refine RS_q retB_noPanic rfl rfl rfl (ev_move rfl) ?_
    refine RS_q_yes retB_noPanic rfl rfl rfl ⟨_, rfl, (by simp)⟩ rfl (ev_loadN rfl (by repeat' first | exact LdN.blk rfl | assumption | apply LdN.skip | apply LdN.app)) ?_
    refine RS_q_yes retB_noPanic rfl rfl rfl ⟨_, rfl, (by simp)⟩ rfl (ev_fieldAddr rfl) ?_
    refine RS_q_yes retB_noPanic rfl rfl rfl ⟨_, rfl, (by simp)⟩ rfl (ev_load rfl (by repeat' first | exact Ld.blk rfl | assumption | apply Ld.skip | apply Ld.app)) ?_
    refine RS_q_yes retB_noPanic rfl rfl rfl ⟨_, rfl, (by simp)⟩ rfl (ev_geq rfl rfl) ?_
    refine RS_e (RE_eff_yes rfl rfl rfl ⟨_, rfl, (by simp)⟩ rfl (eff_call rfl (PPoints_ctr q _)) ?_); rintro _ _ ⟨rfl, rfl⟩; refine ⟨_, fun _ s => s, (by (repeat first | exact fun _ s => s | apply en_keep | apply en_drop | apply en_app) <;> fail), ?_⟩
    refine RS_q_yes retB_noPanic rfl rfl rfl ⟨_, rfl, (by simp)⟩ rfl (ev_move rfl) ?_
    refine RS_guard (d := 61) true rfl (fun hc595 => ?y595) (fun hc595 => ?n595)
    case' n595 =>
      have hd595 := hc595
      try simp only [decide_eq_true_eq, decide_eq_false_iff_not, Bool.not_true, Bool.not_false, Bool.not_eq_true', Bool.not_eq_false'] at hd595
      refine RS_q_no retB_noPanic rfl rfl rfl ⟨_, rfl, hc595⟩ rfl ?_
      refine RS_q_no retB_noPanic rfl rfl rfl ⟨_, rfl, hc595⟩ rfl ?_
      refine RS_q_no retB_noPanic rfl rfl rfl ⟨_, rfl, hc595⟩ rfl ?_
      refine RS_q_yes retB_noPanic rfl rfl rfl ⟨_, rfl, (by simp)⟩ rfl (ev_pick_f rfl hc595 rfl) ?_
      refine RS_q_yes retB_noPanic rfl rfl rfl ⟨_, rfl, (by simp)⟩ rfl (ev_eqlB rfl rfl) ?_
      refine RS_q retB_noPanic rfl rfl rfl (ev_pick_t rfl (by simp) rfl) ?_
      refine RS_q retB_noPanic rfl rfl rfl (ev_move rfl) ?_
      refine RS_e (RE_eff_yes rfl rfl rfl ⟨_, rfl, (by simp_all [Qy.pts])⟩ rfl (eff_call rfl (lives25_ctr _)) ?_); rintro _ _ ⟨rfl, rfl⟩; refine ⟨_, fun _ s => s, (by (repeat first | exact fun _ s => s | apply en_keep | apply en_drop | apply en_app) <;> fail), ?_⟩
      refine RS_q retB_noPanic rfl rfl rfl (ev_pick_t rfl (by simp_all [Qy.pts]) rfl) ?_
      refine RS_q retB_noPanic rfl rfl rfl (ev_assign rfl) ?_
      refine RS_nil ?_
      (repeat first | refine G_seq ?_ | refine G_skip ?_ | refine G_endblk ?_ | refine G_block ?_ | refine G_exit rfl ?_)
      exact G_ret (L' := L) rfl (.tmp rfl .nil) (en_app (en_drop (en_keep HML))) ⟨rfl, rfl⟩
    case' y595 =>
      have hd595 := hc595
      try simp only [decide_eq_true_eq, decide_eq_false_iff_not, Bool.not_true, Bool.not_false, Bool.not_eq_true', Bool.not_eq_false'] at hd595
      refine RS_q_yes retB_noPanic rfl rfl rfl ⟨_, rfl, hc595⟩ rfl (ev_fieldAddr rfl) ?_
      refine RS_q_yes retB_noPanic rfl rfl rfl ⟨_, rfl, hc595⟩ rfl (ev_load rfl (by repeat' first | exact Ld.blk rfl | assumption | apply Ld.skip | apply Ld.app)) ?_
      refine RS_q_yes retB_noPanic rfl rfl rfl ⟨_, rfl, hc595⟩ rfl (ev_leq rfl rfl) ?_
      refine RS_q_yes retB_noPanic rfl rfl rfl ⟨_, rfl, (by simp)⟩ rfl (ev_pick_t rfl hc595 rfl) ?_
      refine RS_q_yes retB_noPanic rfl rfl rfl ⟨_, rfl, (by simp)⟩ rfl (ev_eqlB rfl rfl) ?_
      refine RS_q retB_noPanic rfl rfl rfl (ev_pick_t rfl (by simp) rfl) ?_
      refine RS_q retB_noPanic rfl rfl rfl (ev_move rfl) ?_
      refine RS_e (RE_eff_yes rfl rfl rfl ⟨_, rfl, (by simp_all [Qy.pts])⟩ rfl (eff_call rfl (lives25_ctr _)) ?_); rintro _ _ ⟨rfl, rfl⟩; refine ⟨_, fun _ s => s, (by (repeat first | exact fun _ s => s | apply en_keep | apply en_drop | apply en_app) <;> fail), ?_⟩
      refine RS_q retB_noPanic rfl rfl rfl (ev_pick_t rfl (by simp_all [Qy.pts]) rfl) ?_
      refine RS_q retB_noPanic rfl rfl rfl (ev_assign rfl) ?_
      refine RS_nil ?_
      (repeat first | refine G_seq ?_ | refine G_skip ?_ | refine G_endblk ?_ | refine G_block ?_ | refine G_exit rfl ?_)
      exact G_ret (L' := L) rfl (.tmp rfl .nil) (en_app (en_drop (en_keep HML))) ⟨rfl, rfl⟩
  · have hn : q.choice = [] := List.eq_nil_of_length_eq_zero (by omega)
    (repeat first | refine G_seq ?_ | refine G_skip ?_ | refine G_endblk ?_ | refine G_block ?_ | refine G_exit rfl ?_)
    refine G_draw (.q 0 (.q 2 (.e 1 (.e 3 (.q 4 (.q 5 (.q 6 (.q 8 (.e 7 (.e 9 (.q 10 (.q 11 (.q 12 (.q 13 (.q 14 (.q 15 (.q 16 (.q 17 (.q 18 (.q 19 (.q 20 (.q 21 (.q 22 (.q 23 (.q 24 (.q 25 (.q 26 (.q 27 (.q 28 (.q 29 (.q 30 (.q 31 (.q 32 (.q 33 (.q 34 (.q 35 (.q 36 .nil))))))))))))))))))))))))))))))))))))) (by kernel_rfl) (by kernel_rfl) ?_
    refine RS_q retB_noPanic rfl rfl rfl (ev_loadN rfl (by repeat' first | exact LdN.blk rfl | assumption | apply LdN.skip | apply LdN.app)) ?_
    refine RS_q retB_noPanic rfl rfl rfl (ev_loadN rfl (by repeat' first | exact LdN.blk rfl | assumption | apply LdN.skip | apply LdN.app)) ?_
    refine RS_e (RE_eff rfl rfl rfl (eff_call rfl (PCheck_ctr q _)) ?_); rintro _ _ ⟨rfl, rfl⟩; refine ⟨_, fun _ s => s, (by (repeat first | exact fun _ s => s | apply en_keep | apply en_drop | apply en_app) <;> fail), ?_⟩
    refine RS_e (RE_eff rfl rfl rfl (eff_call rfl (rcheck_ctr q _)) ?_); rintro _ _ ⟨rfl, rfl⟩; refine ⟨_, fun _ s => s, (by (repeat first | exact fun _ s => s | apply en_keep | apply en_drop | apply en_app) <;> fail), ?_⟩
    refine RS_q retB_noPanic rfl rfl rfl (ev_neq rfl rfl) ?_
    refine RS_q retB_noPanic rfl rfl rfl (ev_move rfl) ?_
    refine RS_q_yes retB_noPanic rfl rfl rfl ⟨_, rfl, (by simp)⟩ rfl (ev_loadN rfl (by repeat' first | exact LdN.blk rfl | assumption | apply LdN.skip | apply LdN.app)) ?_
    refine RS_q_yes retB_noPanic rfl rfl rfl ⟨_, rfl, (by simp)⟩ rfl (ev_move rfl) ?_
    refine RS_e (RE_eff_yes rfl rfl rfl ⟨_, rfl, (by simp)⟩ rfl (eff_call rfl (PChoice_ctr q _)) ?_); rintro _ _ ⟨A20, c20, N20, rfl, k20, K20, rfl, R20⟩; refine ⟨_, fun _ s => s, (by (repeat first | exact fun _ s => s | apply en_keep | apply en_drop | apply en_app) <;> fail), ?_⟩
    refine RS_e (RE_eff_yes rfl rfl rfl ⟨_, rfl, (by simp)⟩ rfl (eff_call rfl (Same_ctr A20 A7 _ _ c20 c7 q.choice q.choice _ R20 (by repeat' first | exact Rc.blk rfl | assumption | apply Rd.skip | apply Rd.app) (by omega))) ?_); rintro _ _ ⟨rfl, rfl⟩; refine ⟨_, fun _ s => s, (by (repeat first | exact fun _ s => s | apply en_keep | apply en_drop | apply en_app) <;> fail), ?_⟩
    (first | refine RS_q_yes retB_noPanic rfl rfl rfl ⟨_, rfl, (by simp)⟩ rfl (ev_notP rfl) ?_ | refine RS_q_yes retB_noPanic rfl rfl rfl ⟨_, rfl, (by simp)⟩ rfl (ev_not rfl) ?_)
    refine RS_q retB_noPanic rfl rfl rfl (ev_pick_f rfl (by simp) rfl) ?_
    refine RS_q retB_noPanic rfl rfl rfl (ev_move rfl) ?_
    refine RS_q_yes retB_noPanic rfl rfl rfl ⟨_, rfl, (by simp)⟩ rfl (ev_move rfl) ?_
    refine RS_q_yes retB_noPanic rfl rfl rfl ⟨_, rfl, (by simp)⟩ rfl (ev_move rfl) ?_
    refine RS_q_yes retB_noPanic rfl rfl rfl ⟨_, rfl, (by simp)⟩ rfl (ev_len rfl) ?_
    refine RS_q_yes retB_noPanic rfl rfl rfl ⟨_, rfl, (by simp)⟩ rfl (ev_gtr rfl rfl) ?_
    refine RS_q_yes retB_noPanic rfl rfl rfl ⟨_, rfl, (by simp)⟩ rfl (ev_neqB rfl rfl) ?_
    refine RS_q retB_noPanic rfl rfl rfl (ev_pick_f rfl (by simp) rfl) ?_
    refine RS_q retB_noPanic rfl rfl rfl (ev_move rfl) ?_
    refine RS_q_yes retB_noPanic rfl rfl rfl ⟨_, rfl, (by simp)⟩ rfl (ev_move rfl) ?_
    refine RS_q_yes retB_noPanic rfl rfl rfl ⟨_, rfl, (by simp)⟩ rfl (ev_move rfl) ?_
    refine RS_q_no retB_noPanic rfl rfl rfl ⟨_, rfl, (by simp [hn])⟩ rfl ?_
    refine RS_q_no retB_noPanic rfl rfl rfl ⟨_, rfl, (by simp [hn])⟩ rfl ?_
    refine RS_q_no retB_noPanic rfl rfl rfl ⟨_, rfl, (by simp [hn])⟩ rfl ?_
    refine RS_q_no retB_noPanic rfl rfl rfl ⟨_, rfl, (by simp [hn])⟩ rfl ?_
    refine RS_q_no retB_noPanic rfl rfl rfl ⟨_, rfl, (by simp [hn])⟩ rfl ?_
    refine RS_q_yes retB_noPanic rfl rfl rfl ⟨_, rfl, (by simp)⟩ rfl (ev_pick_f rfl (by simp [hn]) rfl) ?_
    refine RS_q retB_noPanic rfl rfl rfl (ev_pick_f rfl (by simp) rfl) ?_
    refine RS_q retB_noPanic rfl rfl rfl (ev_move rfl) ?_
    refine RS_q_yes retB_noPanic rfl rfl rfl ⟨_, rfl, rfl⟩ rfl (ev_move rfl) ?_
    refine RS_q_yes retB_noPanic rfl rfl rfl ⟨_, rfl, rfl⟩ rfl (ev_not rfl) ?_
    refine RS_q_yes retB_noPanic rfl rfl rfl ⟨_, rfl, rfl⟩ rfl (ev_move rfl) ?_
    refine RS_q_yes retB_noPanic rfl rfl rfl ⟨_, rfl, (by simp [hn])⟩ rfl (ev_move rfl) ?_
    refine RS_q_yes retB_noPanic rfl rfl rfl ⟨_, rfl, (by simp [hn])⟩ rfl (ev_neq rfl rfl) ?_
    refine RS_q_yes retB_noPanic rfl rfl rfl ⟨_, rfl, rfl⟩ rfl (ev_pick_t rfl (by simp [hn]) rfl) ?_
    refine RS_q retB_noPanic rfl rfl rfl (ev_pick_f rfl rfl rfl) ?_
    refine RS_nil ?_
    (repeat first | refine G_seq ?_ | refine G_skip ?_ | refine G_endblk ?_ | refine G_block ?_ | refine G_exit rfl ?_)
    refine G_cond_f rfl (by simp [hn]) ?_
    (repeat first | refine G_seq ?_ | refine G_skip ?_ | refine G_endblk ?_ | refine G_block ?_ | refine G_exit rfl ?_)
    refine G_draw (.q 0 (.q 2 (.e 1 (.e 3 (.q 4 (.q 5 (.q 6 (.q 8 (.q 9 (.q 10 (.e 7 (.q 11 (.q 12 (.q 13 (.q 14 (.q 15 (.q 16 (.q 17 (.q 18 (.e 19 (.q 20 (.q 21 .nil)))))))))))))))))))))) (by kernel_rfl) (by kernel_rfl) ?_
    refine RS_q retB_noPanic rfl rfl rfl (ev_loadN rfl (by repeat' first | exact LdN.blk rfl | assumption | apply LdN.skip | apply LdN.app)) ?_
    refine RS_q retB_noPanic rfl rfl rfl (ev_loadN rfl (by repeat' first | exact LdN.blk rfl | assumption | apply LdN.skip | apply LdN.app)) ?_
    refine RS_e (RE_eff rfl rfl rfl (eff_call rfl (PCounts_ctr q _)) ?_); rintro _ _ ⟨rfl, rfl⟩; refine ⟨_, fun _ s => s, (by (repeat first | exact fun _ s => s | apply en_keep | apply en_drop | apply en_app) <;> fail), ?_⟩
    refine RS_e (RE_eff rfl rfl rfl (eff_call rfl (rcounts_ctr q _)) ?_); rintro _ _ ⟨rfl, rfl⟩; refine ⟨_, fun _ s => s, (by (repeat first | exact fun _ s => s | apply en_keep | apply en_drop | apply en_app) <;> fail), ?_⟩
    refine RS_q retB_noPanic rfl rfl rfl (ev_eqlB rfl rfl) ?_
    refine RS_q retB_noPanic rfl rfl rfl (ev_move rfl) ?_
    refine RS_q_yes retB_noPanic rfl rfl rfl ⟨_, rfl, (by simp)⟩ rfl (ev_loadN rfl (by repeat' first | exact LdN.blk rfl | assumption | apply LdN.skip | apply LdN.app)) ?_
    refine RS_q_yes retB_noPanic rfl rfl rfl ⟨_, rfl, (by simp)⟩ rfl (ev_fieldAddr rfl) ?_
    refine RS_q_yes retB_noPanic rfl rfl rfl ⟨_, rfl, (by simp)⟩ rfl (ev_load rfl (by repeat' first | exact Ld.blk rfl | assumption | apply Ld.skip | apply Ld.app)) ?_
    refine RS_q_yes retB_noPanic rfl rfl rfl ⟨_, rfl, (by simp)⟩ rfl (ev_geq rfl rfl) ?_
    refine RS_e (RE_eff_yes rfl rfl rfl ⟨_, rfl, (by simp)⟩ rfl (eff_call rfl (PPoints_ctr q _)) ?_); rintro _ _ ⟨rfl, rfl⟩; refine ⟨_, fun _ s => s, (by (repeat first | exact fun _ s => s | apply en_keep | apply en_drop | apply en_app) <;> fail), ?_⟩
    refine RS_q_yes retB_noPanic rfl rfl rfl ⟨_, rfl, (by simp)⟩ rfl (ev_move rfl) ?_
    refine RS_guard (d := 61) true rfl (fun hc617 => ?y617) (fun hc617 => ?n617)
    case' n617 =>
      have hd617 := hc617
      try simp only [decide_eq_true_eq, decide_eq_false_iff_not, Bool.not_true, Bool.not_false, Bool.not_eq_true', Bool.not_eq_false'] at hd617
      refine RS_q_no retB_noPanic rfl rfl rfl ⟨_, rfl, hc617⟩ rfl ?_
      refine RS_q_no retB_noPanic rfl rfl rfl ⟨_, rfl, hc617⟩ rfl ?_
      refine RS_q_no retB_noPanic rfl rfl rfl ⟨_, rfl, hc617⟩ rfl ?_
      refine RS_q_yes retB_noPanic rfl rfl rfl ⟨_, rfl, (by simp)⟩ rfl (ev_pick_f rfl hc617 rfl) ?_
      refine RS_q_yes retB_noPanic rfl rfl rfl ⟨_, rfl, (by simp)⟩ rfl (ev_eqlB rfl rfl) ?_
      refine RS_q retB_noPanic rfl rfl rfl (ev_pick_t rfl (by simp) rfl) ?_
      refine RS_q retB_noPanic rfl rfl rfl (ev_move rfl) ?_
      refine RS_e (RE_eff_yes rfl rfl rfl ⟨_, rfl, (by simp_all [Qy.pts])⟩ rfl (eff_call rfl (lives25_ctr _)) ?_); rintro _ _ ⟨rfl, rfl⟩; refine ⟨_, fun _ s => s, (by (repeat first | exact fun _ s => s | apply en_keep | apply en_drop | apply en_app) <;> fail), ?_⟩
      refine RS_q retB_noPanic rfl rfl rfl (ev_pick_t rfl (by simp_all [Qy.pts]) rfl) ?_
      refine RS_q retB_noPanic rfl rfl rfl (ev_assign rfl) ?_
      refine RS_nil ?_
      (repeat first | refine G_seq ?_ | refine G_skip ?_ | refine G_endblk ?_ | refine G_block ?_ | refine G_exit rfl ?_)
      exact G_ret (L' := L) rfl (.tmp rfl .nil) (en_app (en_drop (en_keep HML))) ⟨rfl, rfl⟩
    case' y617 =>
      have hd617 := hc617
      try simp only [decide_eq_true_eq, decide_eq_false_iff_not, Bool.not_true, Bool.not_false, Bool.not_eq_true', Bool.not_eq_false'] at hd617
      refine RS_q_yes retB_noPanic rfl rfl rfl ⟨_, rfl, hc617⟩ rfl (ev_fieldAddr rfl) ?_
      refine RS_q_yes retB_noPanic rfl rfl rfl ⟨_, rfl, hc617⟩ rfl (ev_load rfl (by repeat' first | exact Ld.blk rfl | assumption | apply Ld.skip | apply Ld.app)) ?_
      refine RS_q_yes retB_noPanic rfl rfl rfl ⟨_, rfl, hc617⟩ rfl (ev_leq rfl rfl) ?_
      refine RS_q_yes retB_noPanic rfl rfl rfl ⟨_, rfl, (by simp)⟩ rfl (ev_pick_t rfl hc617 rfl) ?_
      refine RS_q_yes retB_noPanic rfl rfl rfl ⟨_, rfl, (by simp)⟩ rfl (ev_eqlB rfl rfl) ?_
      refine RS_q retB_noPanic rfl rfl rfl (ev_pick_t rfl (by simp) rfl) ?_
      refine RS_q retB_noPanic rfl rfl rfl (ev_move rfl) ?_
      refine RS_e (RE_eff_yes rfl rfl rfl ⟨_, rfl, (by simp_all [Qy.pts])⟩ rfl (eff_call rfl (lives25_ctr _)) ?_); rintro _ _ ⟨rfl, rfl⟩; refine ⟨_, fun _ s => s, (by (repeat first | exact fun _ s => s | apply en_keep | apply en_drop | apply en_app) <;> fail), ?_⟩
      refine RS_q retB_noPanic rfl rfl rfl (ev_pick_t rfl (by simp_all [Qy.pts]) rfl) ?_
      refine RS_q retB_noPanic rfl rfl rfl (ev_assign rfl) ?_
      refine RS_nil ?_
      (repeat first | refine G_seq ?_ | refine G_skip ?_ | refine G_endblk ?_ | refine G_block ?_ | refine G_exit rfl ?_)
      exact G_ret (L' := L) rfl (.tmp rfl .nil) (en_app (en_drop (en_keep HML))) ⟨rfl, rfl⟩
theorem planChecks_walk (x0 x1 x2 x3 x4 x5 x6 x7 x8 x9 : Int) (w : World) :
    Calls Try.prog 5 #[.agg #[.int .i64 x0, .int .i64 x1, .int .i64 x2, .int .i64 x3, .int .i64 x4, .int .i64 x5, .int .i64 x6, .int .i64 x7, .int .i64 x8, .int .i64 x9]] w fun e w' => e = .returned (.bool true) ∧ Below w.heap.size w w' :=
  law_of_ctr (planChecks_ctr ⟨x0, ⟨x1, x2, x3, x4⟩, ⟨x5, x6, x7⟩, x8, x9⟩ _)
end Go.Proofs.Ytcdafmmfcjbodaa
