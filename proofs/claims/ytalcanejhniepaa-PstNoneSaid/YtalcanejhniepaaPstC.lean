/- Trees that are heaps by Y: has, Insert, Delete. -/
import Derived.Test.YtalcanejhniepaaPstB
namespace Go.Proofs.Ytalcanejhniepaa
attribute [local irreducible] sat
set_option linter.unusedVariables false
set_option linter.unusedSimpArgs false
set_option maxRecDepth 100000

theorem pt_list (p q : Pt) : [p.id, p.x, p.y] = [q.id, q.x, q.y] ↔ p = q := by
  rw [Pt.ext_iff']; simp
theorem els_und {p s : Pt} {lo hi : PT} (h : (PT.node p s lo hi).Ok) {q : Pt} (hq : q ∈ (PT.node p s lo hi).els) : q = p ∨ und q p = true := by
  rcases List.mem_cons.1 hq with h1 | h1
  · exact .inl h1
  · exact .inr (h.2.2.2.2 q h1)
theorem els_side {p s : Pt} {lo hi : PT} (h : (PT.node p s lo hi).Ok) {q : Pt} (hq : q ≠ p) : q ∈ (PT.node p s lo hi).els ↔ q ∈ (if beh q s then hi else lo).els := by
  have e : q ∈ (PT.node p s lo hi).els ↔ q ∈ lo.els ∨ q ∈ hi.els := by simp [PT.els, hq]
  rw [e]
  cases hb : beh q s with
  | true =>
    simp only [if_true]
    constructor
    · intro h1
      rcases h1 with h2 | h2
      · have := h.2.2.1 q h2; rw [hb] at this; cases this
      · exact h2
    · exact Or.inr
  | false =>
    rw [if_neg (by simp)]
    constructor
    · intro h1
      rcases h1 with h2 | h2
      · exact h2
      · have := h.2.2.2.1 q h2; rw [hb] at this; cases this
    · exact Or.inl
theorem has_ctr (b : Nat) (x : PA) (most : Int) (p : Pt) (L : List HP) (h : LdN L b 0 2 (treeC x most)) (hx : PIn L x) (hok : x.t.Ok) :
    Ctr Try.prog 49 #[.pointer (some ⟨b, 0, none⟩), p.v] L fun v L' => v = .bool (decide (p ∈ x.t.els)) ∧ L' = L := by
  have h1 : Ld L ⟨b, 0 + 0, none⟩ (.pointer x.addr) := h.at_ (i := 0) rfl
  refine Ctr_of (fn := Try.f49) (n := 46) Try.func49 rfl rfl rfl ?_
  intro g F
  (repeat first | refine G_seq ?_ | refine G_skip ?_ | refine G_endblk ?_ | refine G_block ?_ | refine G_exit rfl ?_)
  refine G_region ?_
  refine GO_eff rfl rfl (eff_box rfl) ?_; rintro _ _ ⟨b3, rfl, rfl⟩
  refine GO_q rfl rfl (ev_assign rfl) ?_
  refine GO_nil ?_
  (repeat first | refine G_seq ?_ | refine G_skip ?_ | refine G_endblk ?_ | refine G_block ?_ | refine G_exit rfl ?_)
  refine G_region ?_
  refine GO_q rfl rfl (ev_move rfl) ?_
  (first | refine GO_q rfl rfl (ev_eqlNil rfl rfl) ?_ | refine GO_q rfl rfl (ev_eqlPtr rfl rfl) ?_)
  refine GO_nil ?_
  (repeat first | refine G_seq ?_ | refine G_skip ?_ | refine G_endblk ?_ | refine G_block ?_ | refine G_exit rfl ?_)
  refine G_cond_f rfl rfl ?_
  (repeat first | refine G_seq ?_ | refine G_skip ?_ | refine G_endblk ?_ | refine G_block ?_ | refine G_exit rfl ?_)
  refine G_region ?_
  refine GO_q rfl rfl (ev_move rfl) ?_
  (first | refine GO_q rfl rfl (ev_nilCheck rfl) ?_ | refine GO_q rfl rfl (ev_nilCheckF (by simp) rfl) ?_)
  refine GO_q rfl rfl (ev_fieldAddr rfl) ?_
  refine GO_q rfl rfl (ev_load rfl (by repeat' first | exact Ld.blk rfl | assumption | apply Ld.skip | apply Ld.app)) ?_
  refine GO_q rfl rfl (ev_assign rfl) ?_
  refine GO_nil ?_
  (repeat first | refine G_seq ?_ | refine G_skip ?_ | refine G_endblk ?_)
  refine G_cut (ι := PA) (fun y => [(3, .pointer (some ⟨b3, 0, none⟩)), (5, .pointer y.addr)]) (fun y => blk b3 39 [.int .i64 p.id, .int .i64 p.x, .int .i64 p.y] :: F :: L) (fun y => PIn L y ∧ match y with | .nil => p ∉ x.t.els | .node _ q _ _ _ => (p ∈ x.t.els ↔ q = p)) ?_ ?_
  · (repeat first | refine G_seq ?_ | refine G_skip ?_ | refine G_endblk ?_ | refine G_block ?_ | refine G_exit rfl ?_)
    refine G_loop (ι := PA) (fun y => [(3, .pointer (some ⟨b3, 0, none⟩)), (5, .pointer y.addr)]) (fun y => blk b3 39 [.int .i64 p.id, .int .i64 p.x, .int .i64 p.y] :: F :: L) (fun y => PIn L y ∧ y.t.Ok ∧ (p ∈ x.t.els ↔ p ∈ y.t.els)) (fun y => y.t.size) x ⟨hx, hok, Iff.rfl⟩ ⟨rfl, rfl, trivial⟩ (by (repeat first | exact fun _ s => s | apply en_keep | apply en_drop | apply en_app) <;> fail) ?_
    rintro y ⟨f1, f2, f3⟩
    cases y with
    | nil =>
      (repeat first | refine G_seq ?_ | refine G_skip ?_ | refine G_endblk ?_ | refine G_block ?_ | refine G_exit rfl ?_)
      refine G_draw (.q 0 (.q 1 (.q 2 (.q 3 (.q 4 (.q 5 (.q 6 (.q 7 (.q 8 (.q 9 (.q 10 (.q 11 (.q 12 (.q 13 (.q 14 (.q 15 (.e 16 (.q 17 (.q 18 .nil))))))))))))))))))) (by kernel_rfl) (by kernel_rfl) ?_
      refine RS_q retB_noPanic rfl rfl rfl (ev_move rfl) ?_
      (first | refine RS_q retB_noPanic rfl rfl rfl (ev_neqNil rfl rfl) ?_ | refine RS_q retB_noPanic rfl rfl rfl (ev_neqPtr rfl rfl) ?_)
      refine RS_q retB_noPanic rfl rfl rfl (ev_move rfl) ?_
      refine RS_q_no retB_noPanic rfl rfl rfl ⟨_, rfl, rfl⟩ rfl ?_
      refine RS_q_no retB_noPanic rfl rfl rfl ⟨_, rfl, rfl⟩ rfl ?_
      refine RS_q_no retB_noPanic rfl rfl rfl ⟨_, rfl, rfl⟩ rfl ?_
      refine RS_q_no retB_noPanic rfl rfl rfl ⟨_, rfl, rfl⟩ rfl ?_
      refine RS_q_no retB_noPanic rfl rfl rfl ⟨_, rfl, rfl⟩ rfl ?_
      refine RS_q_no retB_noPanic rfl rfl rfl ⟨_, rfl, rfl⟩ rfl ?_
      refine RS_q retB_noPanic rfl rfl rfl (ev_pick_f rfl rfl rfl) ?_
      refine RS_q retB_noPanic rfl rfl rfl (ev_move rfl) ?_
      refine RS_q_no retB_noPanic rfl rfl rfl ⟨_, rfl, rfl⟩ rfl ?_
      refine RS_q_no retB_noPanic rfl rfl rfl ⟨_, rfl, rfl⟩ rfl ?_
      refine RS_q_no retB_noPanic rfl rfl rfl ⟨_, rfl, rfl⟩ rfl ?_
      refine RS_q_no retB_noPanic rfl rfl rfl ⟨_, rfl, rfl⟩ rfl ?_
      refine RS_q_no retB_noPanic rfl rfl rfl ⟨_, rfl, rfl⟩ rfl ?_
      refine RS_e (RE_no rfl rfl rfl ⟨_, rfl, rfl⟩ rfl ?_)
      refine RS_q_no retB_noPanic rfl rfl rfl ⟨_, rfl, rfl⟩ rfl ?_
      refine RS_q retB_noPanic rfl rfl rfl (ev_pick_f rfl rfl rfl) ?_
      refine RS_nil ?_
      (repeat first | refine G_seq ?_ | refine G_skip ?_ | refine G_endblk ?_ | refine G_block ?_ | refine G_exit rfl ?_)
      refine G_cond_f rfl rfl ?_
      (repeat first | refine G_seq ?_ | refine G_skip ?_ | refine G_endblk ?_ | refine G_block ?_ | refine G_exit rfl ?_)
      exact G_inv PA.nil ⟨trivial, fun hp => by have := f3.1 hp; cases this⟩ ⟨rfl, rfl, trivial⟩ (by (repeat first | exact fun _ s => s | apply en_keep | apply en_drop | apply en_app) <;> fail)
    | node c q s lo hi =>
      obtain ⟨q1, q2, q3, q4, q5, q6, q7, q8, q9⟩ := f1.f
      by_cases hqp : q = p
      · have hl : [q.id, q.x, q.y] = [p.id, p.x, p.y] := (pt_list q p).2 hqp
        (repeat first | refine G_seq ?_ | refine G_skip ?_ | refine G_endblk ?_ | refine G_block ?_ | refine G_exit rfl ?_)
        refine G_draw (.q 0 (.q 1 (.q 2 (.q 3 (.q 4 (.q 5 (.q 6 (.q 7 (.q 8 (.q 9 (.q 10 (.q 11 (.q 12 (.q 13 (.q 14 (.q 15 (.e 16 (.q 17 (.q 18 .nil))))))))))))))))))) (by kernel_rfl) (by kernel_rfl) ?_
        refine RS_q retB_noPanic rfl rfl rfl (ev_move rfl) ?_
        (first | refine RS_q retB_noPanic rfl rfl rfl (ev_neqNil rfl rfl) ?_ | refine RS_q retB_noPanic rfl rfl rfl (ev_neqPtr rfl rfl) ?_)
        refine RS_q retB_noPanic rfl rfl rfl (ev_move rfl) ?_
        refine RS_q_yes retB_noPanic rfl rfl rfl ⟨_, rfl, rfl⟩ rfl (ev_move rfl) ?_
        (first | refine RS_q_yes retB_noPanic rfl rfl rfl ⟨_, rfl, rfl⟩ rfl (ev_nilCheck rfl) ?_ | refine RS_q_yes retB_noPanic rfl rfl rfl ⟨_, rfl, rfl⟩ rfl (ev_nilCheckF (by simp) rfl) ?_)
        refine RS_q_yes retB_noPanic rfl rfl rfl ⟨_, rfl, rfl⟩ rfl (ev_fieldAddr rfl) ?_
        refine RS_q_yes retB_noPanic rfl rfl rfl ⟨_, rfl, rfl⟩ rfl (ev_loadN rfl (by repeat' first | exact LdN.blk rfl | assumption | apply LdN.skip | apply LdN.app)) ?_
        refine RS_q_yes retB_noPanic rfl rfl rfl ⟨_, rfl, rfl⟩ rfl (ev_loadN rfl (by repeat' first | exact LdN.blk rfl | assumption | apply LdN.skip | apply LdN.app)) ?_
        refine RS_q_yes retB_noPanic rfl rfl rfl ⟨_, rfl, rfl⟩ rfl (ev_neqS rfl rfl rfl rfl rfl rfl) ?_
        refine RS_q retB_noPanic rfl rfl rfl (ev_pick_t rfl rfl rfl) ?_
        refine RS_q retB_noPanic rfl rfl rfl (ev_move rfl) ?_
        refine RS_q_no retB_noPanic rfl rfl rfl ⟨_, rfl, (decide_eq_false (fun h => h hl))⟩ rfl ?_
        refine RS_q_no retB_noPanic rfl rfl rfl ⟨_, rfl, (decide_eq_false (fun h => h hl))⟩ rfl ?_
        refine RS_q_no retB_noPanic rfl rfl rfl ⟨_, rfl, (decide_eq_false (fun h => h hl))⟩ rfl ?_
        refine RS_q_no retB_noPanic rfl rfl rfl ⟨_, rfl, (decide_eq_false (fun h => h hl))⟩ rfl ?_
        refine RS_q_no retB_noPanic rfl rfl rfl ⟨_, rfl, (decide_eq_false (fun h => h hl))⟩ rfl ?_
        refine RS_e (RE_no rfl rfl rfl ⟨_, rfl, (decide_eq_false (fun h => h hl))⟩ rfl ?_)
        refine RS_q_no retB_noPanic rfl rfl rfl ⟨_, rfl, (decide_eq_false (fun h => h hl))⟩ rfl ?_
        refine RS_q retB_noPanic rfl rfl rfl (ev_pick_f rfl (decide_eq_false (fun h => h hl)) rfl) ?_
        refine RS_nil ?_
        (repeat first | refine G_seq ?_ | refine G_skip ?_ | refine G_endblk ?_ | refine G_block ?_ | refine G_exit rfl ?_)
        refine G_cond_f rfl rfl ?_
        (repeat first | refine G_seq ?_ | refine G_skip ?_ | refine G_endblk ?_ | refine G_block ?_ | refine G_exit rfl ?_)
        exact G_inv (PA.node c q s lo hi) ⟨f1, by rw [f3]; simp [hqp, PA.t, PT.els]⟩ ⟨rfl, rfl, trivial⟩ (by (repeat first | exact fun _ s => s | apply en_keep | apply en_drop | apply en_app) <;> fail)
      · have hl : ¬ [q.id, q.x, q.y] = [p.id, p.x, p.y] := fun h => hqp ((pt_list q p).1 h)
        cases hu : und q p with
        | true =>
          (repeat first | refine G_seq ?_ | refine G_skip ?_ | refine G_endblk ?_ | refine G_block ?_ | refine G_exit rfl ?_)
          refine G_draw (.q 0 (.q 1 (.q 2 (.q 3 (.q 4 (.q 5 (.q 6 (.q 7 (.q 8 (.q 9 (.q 10 (.q 11 (.q 12 (.q 13 (.q 14 (.q 15 (.e 16 (.q 17 (.q 18 .nil))))))))))))))))))) (by kernel_rfl) (by kernel_rfl) ?_
          refine RS_q retB_noPanic rfl rfl rfl (ev_move rfl) ?_
          (first | refine RS_q retB_noPanic rfl rfl rfl (ev_neqNil rfl rfl) ?_ | refine RS_q retB_noPanic rfl rfl rfl (ev_neqPtr rfl rfl) ?_)
          refine RS_q retB_noPanic rfl rfl rfl (ev_move rfl) ?_
          refine RS_q_yes retB_noPanic rfl rfl rfl ⟨_, rfl, rfl⟩ rfl (ev_move rfl) ?_
          (first | refine RS_q_yes retB_noPanic rfl rfl rfl ⟨_, rfl, rfl⟩ rfl (ev_nilCheck rfl) ?_ | refine RS_q_yes retB_noPanic rfl rfl rfl ⟨_, rfl, rfl⟩ rfl (ev_nilCheckF (by simp) rfl) ?_)
          refine RS_q_yes retB_noPanic rfl rfl rfl ⟨_, rfl, rfl⟩ rfl (ev_fieldAddr rfl) ?_
          refine RS_q_yes retB_noPanic rfl rfl rfl ⟨_, rfl, rfl⟩ rfl (ev_loadN rfl (by repeat' first | exact LdN.blk rfl | assumption | apply LdN.skip | apply LdN.app)) ?_
          refine RS_q_yes retB_noPanic rfl rfl rfl ⟨_, rfl, rfl⟩ rfl (ev_loadN rfl (by repeat' first | exact LdN.blk rfl | assumption | apply LdN.skip | apply LdN.app)) ?_
          refine RS_q_yes retB_noPanic rfl rfl rfl ⟨_, rfl, rfl⟩ rfl (ev_neqS rfl rfl rfl rfl rfl rfl) ?_
          refine RS_q retB_noPanic rfl rfl rfl (ev_pick_t rfl rfl rfl) ?_
          refine RS_q retB_noPanic rfl rfl rfl (ev_move rfl) ?_
          refine RS_q_yes retB_noPanic rfl rfl rfl ⟨_, rfl, (decide_eq_true hl)⟩ rfl (ev_move rfl) ?_
          (first | refine RS_q_yes retB_noPanic rfl rfl rfl ⟨_, rfl, (decide_eq_true hl)⟩ rfl (ev_nilCheck rfl) ?_ | refine RS_q_yes retB_noPanic rfl rfl rfl ⟨_, rfl, (decide_eq_true hl)⟩ rfl (ev_nilCheckF (by simp) rfl) ?_)
          refine RS_q_yes retB_noPanic rfl rfl rfl ⟨_, rfl, (decide_eq_true hl)⟩ rfl (ev_fieldAddr rfl) ?_
          refine RS_q_yes retB_noPanic rfl rfl rfl ⟨_, rfl, (decide_eq_true hl)⟩ rfl (ev_loadN rfl (by repeat' first | exact LdN.blk rfl | assumption | apply LdN.skip | apply LdN.app)) ?_
          refine RS_q_yes retB_noPanic rfl rfl rfl ⟨_, rfl, (decide_eq_true hl)⟩ rfl (ev_loadN rfl (by repeat' first | exact LdN.blk rfl | assumption | apply LdN.skip | apply LdN.app)) ?_
          refine RS_e (RE_eff_yes rfl rfl rfl ⟨_, rfl, (decide_eq_true hl)⟩ rfl (eff_call rfl (under_ctr q p _)) ?_); rintro _ _ ⟨rfl, rfl⟩; refine ⟨_, fun _ s => s, (by first | ((repeat first | exact fun _ s => s | apply en_keep | apply en_drop | apply en_app) <;> fail) | ((repeat first | exact en_refl | (apply en_blk; focus ((repeat' first | exact Pick.here | apply Pick.skip | apply Pick.app); done); focus rfl) | (apply en_own; focus ((repeat' first | exact Pick.here | apply Pick.skip | apply Pick.app); done); focus rfl) | (apply en_pick; focus ((repeat' first | exact Pick.here | apply Pick.skip | apply Pick.app); done)) | apply en_drop | apply en_app) <;> fail)), ?_⟩
          refine RS_q_yes retB_noPanic rfl rfl rfl ⟨_, rfl, (decide_eq_true hl)⟩ rfl (ev_not rfl) ?_
          refine RS_q retB_noPanic rfl rfl rfl (ev_pick_t rfl (decide_eq_true hl) rfl) ?_
          refine RS_nil ?_
          (repeat first | refine G_seq ?_ | refine G_skip ?_ | refine G_endblk ?_ | refine G_block ?_ | refine G_exit rfl ?_)
          refine G_cond_f rfl (by rw [hu]; rfl) ?_
          (repeat first | refine G_seq ?_ | refine G_skip ?_ | refine G_endblk ?_ | refine G_block ?_ | refine G_exit rfl ?_)
          refine G_inv (PA.node c q s lo hi) ⟨f1, ?_⟩ ⟨rfl, rfl, trivial⟩ (by (repeat first | exact fun _ s => s | apply en_keep | apply en_drop | apply en_app) <;> fail)
          rw [f3]
          refine ⟨fun hm => ?_, fun e => absurd e hqp⟩
          rcases els_und f2 hm with h9 | h9
          · exact h9.symm
          · rw [und_asymm hu] at h9; cases h9
        | false =>
          (repeat first | refine G_seq ?_ | refine G_skip ?_ | refine G_endblk ?_ | refine G_block ?_ | refine G_exit rfl ?_)
          refine G_draw (.q 0 (.q 1 (.q 2 (.q 3 (.q 4 (.q 5 (.q 6 (.q 7 (.q 8 (.q 9 (.q 10 (.q 11 (.q 12 (.q 13 (.q 14 (.q 15 (.e 16 (.q 17 (.q 18 .nil))))))))))))))))))) (by kernel_rfl) (by kernel_rfl) ?_
          refine RS_q retB_noPanic rfl rfl rfl (ev_move rfl) ?_
          (first | refine RS_q retB_noPanic rfl rfl rfl (ev_neqNil rfl rfl) ?_ | refine RS_q retB_noPanic rfl rfl rfl (ev_neqPtr rfl rfl) ?_)
          refine RS_q retB_noPanic rfl rfl rfl (ev_move rfl) ?_
          refine RS_q_yes retB_noPanic rfl rfl rfl ⟨_, rfl, rfl⟩ rfl (ev_move rfl) ?_
          (first | refine RS_q_yes retB_noPanic rfl rfl rfl ⟨_, rfl, rfl⟩ rfl (ev_nilCheck rfl) ?_ | refine RS_q_yes retB_noPanic rfl rfl rfl ⟨_, rfl, rfl⟩ rfl (ev_nilCheckF (by simp) rfl) ?_)
          refine RS_q_yes retB_noPanic rfl rfl rfl ⟨_, rfl, rfl⟩ rfl (ev_fieldAddr rfl) ?_
          refine RS_q_yes retB_noPanic rfl rfl rfl ⟨_, rfl, rfl⟩ rfl (ev_loadN rfl (by repeat' first | exact LdN.blk rfl | assumption | apply LdN.skip | apply LdN.app)) ?_
          refine RS_q_yes retB_noPanic rfl rfl rfl ⟨_, rfl, rfl⟩ rfl (ev_loadN rfl (by repeat' first | exact LdN.blk rfl | assumption | apply LdN.skip | apply LdN.app)) ?_
          refine RS_q_yes retB_noPanic rfl rfl rfl ⟨_, rfl, rfl⟩ rfl (ev_neqS rfl rfl rfl rfl rfl rfl) ?_
          refine RS_q retB_noPanic rfl rfl rfl (ev_pick_t rfl rfl rfl) ?_
          refine RS_q retB_noPanic rfl rfl rfl (ev_move rfl) ?_
          refine RS_q_yes retB_noPanic rfl rfl rfl ⟨_, rfl, (decide_eq_true hl)⟩ rfl (ev_move rfl) ?_
          (first | refine RS_q_yes retB_noPanic rfl rfl rfl ⟨_, rfl, (decide_eq_true hl)⟩ rfl (ev_nilCheck rfl) ?_ | refine RS_q_yes retB_noPanic rfl rfl rfl ⟨_, rfl, (decide_eq_true hl)⟩ rfl (ev_nilCheckF (by simp) rfl) ?_)
          refine RS_q_yes retB_noPanic rfl rfl rfl ⟨_, rfl, (decide_eq_true hl)⟩ rfl (ev_fieldAddr rfl) ?_
          refine RS_q_yes retB_noPanic rfl rfl rfl ⟨_, rfl, (decide_eq_true hl)⟩ rfl (ev_loadN rfl (by repeat' first | exact LdN.blk rfl | assumption | apply LdN.skip | apply LdN.app)) ?_
          refine RS_q_yes retB_noPanic rfl rfl rfl ⟨_, rfl, (decide_eq_true hl)⟩ rfl (ev_loadN rfl (by repeat' first | exact LdN.blk rfl | assumption | apply LdN.skip | apply LdN.app)) ?_
          refine RS_e (RE_eff_yes rfl rfl rfl ⟨_, rfl, (decide_eq_true hl)⟩ rfl (eff_call rfl (under_ctr q p _)) ?_); rintro _ _ ⟨rfl, rfl⟩; refine ⟨_, fun _ s => s, (by first | ((repeat first | exact fun _ s => s | apply en_keep | apply en_drop | apply en_app) <;> fail) | ((repeat first | exact en_refl | (apply en_blk; focus ((repeat' first | exact Pick.here | apply Pick.skip | apply Pick.app); done); focus rfl) | (apply en_own; focus ((repeat' first | exact Pick.here | apply Pick.skip | apply Pick.app); done); focus rfl) | (apply en_pick; focus ((repeat' first | exact Pick.here | apply Pick.skip | apply Pick.app); done)) | apply en_drop | apply en_app) <;> fail)), ?_⟩
          refine RS_q_yes retB_noPanic rfl rfl rfl ⟨_, rfl, (decide_eq_true hl)⟩ rfl (ev_not rfl) ?_
          refine RS_q retB_noPanic rfl rfl rfl (ev_pick_t rfl (decide_eq_true hl) rfl) ?_
          refine RS_nil ?_
          (repeat first | refine G_seq ?_ | refine G_skip ?_ | refine G_endblk ?_ | refine G_block ?_ | refine G_exit rfl ?_)
          refine G_cond_t rfl (by rw [hu]; rfl) ?_
          have hs := els_side f2 (Ne.symm hqp)
          cases hb : beh p s with
          | true =>
            rw [hb] at hs
            (repeat first | refine G_seq ?_ | refine G_skip ?_ | refine G_endblk ?_ | refine G_block ?_ | refine G_exit rfl ?_)
            refine G_region ?_
            refine GO_q rfl rfl (ev_move rfl) ?_
            refine GO_q rfl rfl (ev_loadN rfl (by repeat' first | exact LdN.blk rfl | assumption | apply LdN.skip | apply LdN.app)) ?_
            refine GO_eff rfl rfl (eff_call rfl ((by have := kid_ctr p s c (blk b3 39 [.int .i64 p.id, .int .i64 p.x, .int .i64 p.y] :: F :: L) q5.skip.skip; rw [hb] at this; exact this))) ?_; rintro _ _ ⟨rfl, rfl⟩
            (first | refine GO_q rfl rfl (ev_nilCheck rfl) ?_ | refine GO_q rfl rfl (ev_nilCheckF (by simp) rfl) ?_)
            refine GO_q rfl rfl (ev_load rfl (by repeat' first | exact Ld.blk rfl | assumption | apply Ld.skip | apply Ld.app)) ?_
            refine GO_q rfl rfl (ev_assign rfl) ?_
            refine GO_nil ?_
            (repeat first | refine G_seq ?_ | refine G_skip ?_ | refine G_endblk ?_ | refine G_block ?_ | refine G_exit rfl ?_)
            exact G_round hi ⟨f1.2.2, f2.2.1, f3.trans hs⟩ (by simp only [PA.t, PT.size]; omega) ⟨rfl, rfl, trivial⟩ (by (repeat first | exact fun _ s => s | apply en_keep | apply en_drop | apply en_app) <;> fail)
          | false =>
            rw [hb] at hs
            (repeat first | refine G_seq ?_ | refine G_skip ?_ | refine G_endblk ?_ | refine G_block ?_ | refine G_exit rfl ?_)
            refine G_region ?_
            refine GO_q rfl rfl (ev_move rfl) ?_
            refine GO_q rfl rfl (ev_loadN rfl (by repeat' first | exact LdN.blk rfl | assumption | apply LdN.skip | apply LdN.app)) ?_
            refine GO_eff rfl rfl (eff_call rfl ((by have := kid_ctr p s c (blk b3 39 [.int .i64 p.id, .int .i64 p.x, .int .i64 p.y] :: F :: L) q5.skip.skip; rw [hb] at this; exact this))) ?_; rintro _ _ ⟨rfl, rfl⟩
            (first | refine GO_q rfl rfl (ev_nilCheck rfl) ?_ | refine GO_q rfl rfl (ev_nilCheckF (by simp) rfl) ?_)
            refine GO_q rfl rfl (ev_load rfl (by repeat' first | exact Ld.blk rfl | assumption | apply Ld.skip | apply Ld.app)) ?_
            refine GO_q rfl rfl (ev_assign rfl) ?_
            refine GO_nil ?_
            (repeat first | refine G_seq ?_ | refine G_skip ?_ | refine G_endblk ?_ | refine G_block ?_ | refine G_exit rfl ?_)
            exact G_round lo ⟨f1.2.1, f2.1, f3.trans hs⟩ (by simp only [PA.t, PT.size]; omega) ⟨rfl, rfl, trivial⟩ (by (repeat first | exact fun _ s => s | apply en_keep | apply en_drop | apply en_app) <;> fail)
  · rintro y ⟨f1, f2⟩
    cases y with
    | nil =>
      (repeat first | refine G_seq ?_ | refine G_skip ?_ | refine G_endblk ?_ | refine G_block ?_ | refine G_exit rfl ?_)
      refine G_draw (.q 0 (.q 1 (.q 2 (.q 3 (.q 4 (.q 5 (.q 6 (.q 7 (.q 8 (.q 9 (.q 10 .nil))))))))))) (by kernel_rfl) (by kernel_rfl) ?_
      refine RS_q retB_noPanic rfl rfl rfl (ev_move rfl) ?_
      (first | refine RS_q retB_noPanic rfl rfl rfl (ev_neqNil rfl rfl) ?_ | refine RS_q retB_noPanic rfl rfl rfl (ev_neqPtr rfl rfl) ?_)
      refine RS_q retB_noPanic rfl rfl rfl (ev_move rfl) ?_
      refine RS_q_no retB_noPanic rfl rfl rfl ⟨_, rfl, rfl⟩ rfl ?_
      refine RS_q_no retB_noPanic rfl rfl rfl ⟨_, rfl, rfl⟩ rfl ?_
      refine RS_q_no retB_noPanic rfl rfl rfl ⟨_, rfl, rfl⟩ rfl ?_
      refine RS_q_no retB_noPanic rfl rfl rfl ⟨_, rfl, rfl⟩ rfl ?_
      refine RS_q_no retB_noPanic rfl rfl rfl ⟨_, rfl, rfl⟩ rfl ?_
      refine RS_q_no retB_noPanic rfl rfl rfl ⟨_, rfl, rfl⟩ rfl ?_
      refine RS_q retB_noPanic rfl rfl rfl (ev_pick_f rfl rfl rfl) ?_
      refine RS_q retB_noPanic rfl rfl rfl (ev_assign rfl) ?_
      refine RS_nil ?_
      (repeat first | refine G_seq ?_ | refine G_skip ?_ | refine G_endblk ?_ | refine G_block ?_ | refine G_exit rfl ?_)
      refine G_ret rfl (.tmp rfl .nil) (by (repeat first | exact fun _ s => s | apply en_keep | apply en_drop | apply en_app) <;> fail) ⟨congrArg Value.bool (decide_eq_false f2).symm, rfl⟩
    | node c q s lo hi =>
      obtain ⟨q1, q2, q3, q4, q5, q6, q7, q8, q9⟩ := f1.f
      (repeat first | refine G_seq ?_ | refine G_skip ?_ | refine G_endblk ?_ | refine G_block ?_ | refine G_exit rfl ?_)
      refine G_draw (.q 0 (.q 1 (.q 2 (.q 3 (.q 4 (.q 5 (.q 6 (.q 7 (.q 8 (.q 9 (.q 10 .nil))))))))))) (by kernel_rfl) (by kernel_rfl) ?_
      refine RS_q retB_noPanic rfl rfl rfl (ev_move rfl) ?_
      (first | refine RS_q retB_noPanic rfl rfl rfl (ev_neqNil rfl rfl) ?_ | refine RS_q retB_noPanic rfl rfl rfl (ev_neqPtr rfl rfl) ?_)
      refine RS_q retB_noPanic rfl rfl rfl (ev_move rfl) ?_
      refine RS_q_yes retB_noPanic rfl rfl rfl ⟨_, rfl, rfl⟩ rfl (ev_move rfl) ?_
      (first | refine RS_q_yes retB_noPanic rfl rfl rfl ⟨_, rfl, rfl⟩ rfl (ev_nilCheck rfl) ?_ | refine RS_q_yes retB_noPanic rfl rfl rfl ⟨_, rfl, rfl⟩ rfl (ev_nilCheckF (by simp) rfl) ?_)
      refine RS_q_yes retB_noPanic rfl rfl rfl ⟨_, rfl, rfl⟩ rfl (ev_fieldAddr rfl) ?_
      refine RS_q_yes retB_noPanic rfl rfl rfl ⟨_, rfl, rfl⟩ rfl (ev_loadN rfl (by repeat' first | exact LdN.blk rfl | assumption | apply LdN.skip | apply LdN.app)) ?_
      refine RS_q_yes retB_noPanic rfl rfl rfl ⟨_, rfl, rfl⟩ rfl (ev_loadN rfl (by repeat' first | exact LdN.blk rfl | assumption | apply LdN.skip | apply LdN.app)) ?_
      refine RS_q_yes retB_noPanic rfl rfl rfl ⟨_, rfl, rfl⟩ rfl (ev_eqlS rfl rfl rfl rfl rfl rfl) ?_
      refine RS_q retB_noPanic rfl rfl rfl (ev_pick_t rfl rfl rfl) ?_
      refine RS_q retB_noPanic rfl rfl rfl (ev_assign rfl) ?_
      refine RS_nil ?_
      (repeat first | refine G_seq ?_ | refine G_skip ?_ | refine G_endblk ?_ | refine G_block ?_ | refine G_exit rfl ?_)
      refine G_ret rfl (.tmp rfl .nil) (by (repeat first | exact fun _ s => s | apply en_keep | apply en_drop | apply en_app) <;> fail) ⟨congrArg Value.bool (decide_eq_decide.2 ((pt_list q p).trans f2.symm)), rfl⟩
theorem Has_ctr' (b : Nat) (x : PA) (most : Int) (p : Pt) (L : List HP) (h : LdN L b 0 2 (treeC x most)) (hx : PIn L x) (hok : x.t.Ok) :
    Ctr Try.prog 31 #[.pointer (some ⟨b, 0, none⟩), p.v] L fun v L' => v = .bool (decide (p ∈ x.t.els)) ∧ L' = L := by
  refine Ctr_of (fn := Try.f31) (n := 8) Try.func31 rfl rfl rfl ?_
  intro g F
  (repeat first | refine G_seq ?_ | refine G_skip ?_ | refine G_endblk ?_ | refine G_block ?_ | refine G_exit rfl ?_)
  refine G_region ?_
  refine GO_eff rfl rfl (eff_box rfl) ?_; rintro _ _ ⟨b3, rfl, rfl⟩
  refine GO_q rfl rfl (ev_assign rfl) ?_
  refine GO_nil ?_
  (repeat first | refine G_seq ?_ | refine G_skip ?_ | refine G_endblk ?_ | refine G_block ?_ | refine G_exit rfl ?_)
  refine G_region ?_
  refine GO_q rfl rfl (ev_move rfl) ?_
  refine GO_q rfl rfl (ev_loadN rfl (by repeat' first | exact LdN.blk rfl | assumption | apply LdN.skip | apply LdN.app)) ?_
  refine GO_eff rfl rfl (eff_call rfl (has_ctr b x most p _ h.skip.skip hx.skip.skip hok)) ?_; rintro _ _ ⟨rfl, rfl⟩
  refine GO_q rfl rfl (ev_assign rfl) ?_
  refine GO_nil ?_
  (repeat first | refine G_seq ?_ | refine G_skip ?_ | refine G_endblk ?_ | refine G_block ?_ | refine G_exit rfl ?_)
  refine G_ret rfl (.tmp rfl .nil) (by (repeat first | exact fun _ s => s | apply en_keep | apply en_drop | apply en_app) <;> fail) ⟨rfl, rfl⟩
end Go.Proofs.Ytalcanejhniepaa
