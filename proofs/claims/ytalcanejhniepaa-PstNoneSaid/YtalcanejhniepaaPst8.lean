/- Trees that are heaps by Y: what a window sees. -/
import Derived.Test.YtalcanejhniepaaPst7
namespace Go.Proofs.Ytalcanejhniepaa
attribute [local irreducible] sat
set_option linter.unusedVariables false
set_option linter.unusedSimpArgs false
set_option maxRecDepth 100000

def PA.isN : PA → Bool
  | .nil => true
  | .node _ _ _ _ _ => false
theorem PA.isN_addr (x : PA) : x.addr.isNone = x.isN := by cases x <;> rfl
theorem PA.isN_addr' (x : PA) : x.addr.isSome = !x.isN := by cases x <;> rfl
def PA.hit (w : Wn) : PA → Bool
  | .nil => false
  | .node _ p _ _ _ => w.sees p.x p.y
def PA.next1 (w : Wn) : PA → List PA
  | .nil => []
  | .node _ p s lo hi => if p.y < w.y then [] else if !lo.isN && decide (w.x1 ≤ s.x) then [lo] else []
def PA.next2 (w : Wn) : PA → List PA
  | .nil => []
  | .node _ p s lo hi => if p.y < w.y then [] else if !hi.isN && decide (s.x ≤ w.x2) then [hi] else []
def PA.next (w : Wn) (x : PA) : List PA := x.next1 w ++ x.next2 w
def addrs (l : List PA) : List (Option Addr) := l.map PA.addr
theorem addrs_len (l : List PA) : (addrs l).length = l.length := List.length_map ..
def LookR (hit : Bool) (l : List PA) (L : List HP) (v : Value) (L' : List HP) : Prop := ∃ A c, v = .tuple #[.bool hit, .slice A l.length c] ∧ (0 < l.length → ∃ b, A = some ⟨b, 0, none⟩) ∧ L' = own 67 1 A l.length c (flat (addrs l)) :: L
theorem wn_low (w : Wn) (p : Pt) (h : p.y < w.y) : w.sees p.x p.y = false := by
  unfold Wn.sees
  rw [decide_eq_false (by omega)]
  simp
theorem look_ctr (x : PA) (w : Wn) (L : List HP) (h : PIn L x) : Ctr Try.prog 64 #[.pointer x.addr, .agg #[.int .i64 w.x1, .int .i64 w.x2, .int .i64 w.y]] L fun v L' => LookR (x.hit w) (x.next w) L v L' := by
  cases x with
  | nil =>
    refine Ctr_of (fn := Try.f64) (n := 69) Try.func64 rfl rfl rfl ?_
    intro g F
    (repeat first | refine G_seq ?_ | refine G_skip ?_ | refine G_endblk ?_ | refine G_block ?_ | refine G_exit rfl ?_)
    refine G_region ?_
    refine GO_eff rfl rfl (eff_box rfl) ?_; rintro _ _ ⟨b3, rfl, rfl⟩
    refine GO_q rfl rfl (ev_assign rfl) ?_
    refine GO_q rfl rfl (ev_assign rfl) ?_
    refine GO_nil ?_
    (repeat first | refine G_seq ?_ | refine G_skip ?_ | refine G_endblk ?_ | refine G_block ?_ | refine G_exit rfl ?_)
    refine G_draw (.q 0 (.q 1 (.q 2 (.q 3 (.q 4 (.q 5 (.q 6 (.q 7 (.q 8 (.q 9 (.q 10 (.q 11 .nil)))))))))))) (by kernel_rfl) (by kernel_rfl) ?_
    refine RS_q retB_noPanic rfl rfl rfl (ev_move rfl) ?_
    (first | refine RS_q retB_noPanic rfl rfl rfl (ev_eqlNil rfl rfl) ?_ | refine RS_q retB_noPanic rfl rfl rfl (ev_eqlPtr rfl rfl) ?_)
    refine RS_q retB_noPanic rfl rfl rfl (ev_move rfl) ?_
    refine RS_q_no retB_noPanic rfl rfl rfl ⟨_, rfl, rfl⟩ rfl ?_
    refine RS_q_no retB_noPanic rfl rfl rfl ⟨_, rfl, rfl⟩ rfl ?_
    refine RS_q_no retB_noPanic rfl rfl rfl ⟨_, rfl, rfl⟩ rfl ?_
    refine RS_q_no retB_noPanic rfl rfl rfl ⟨_, rfl, rfl⟩ rfl ?_
    refine RS_q_no retB_noPanic rfl rfl rfl ⟨_, rfl, rfl⟩ rfl ?_
    refine RS_q_no retB_noPanic rfl rfl rfl ⟨_, rfl, rfl⟩ rfl ?_
    refine RS_q_no retB_noPanic rfl rfl rfl ⟨_, rfl, rfl⟩ rfl ?_
    refine RS_q_no retB_noPanic rfl rfl rfl ⟨_, rfl, rfl⟩ rfl ?_
    refine RS_q retB_noPanic rfl rfl rfl (ev_pick_t rfl rfl rfl) ?_
    refine RS_nil ?_
    (repeat first | refine G_seq ?_ | refine G_skip ?_ | refine G_endblk ?_ | refine G_block ?_ | refine G_exit rfl ?_)
    refine G_cond_t rfl rfl ?_
    (repeat first | refine G_seq ?_ | refine G_skip ?_ | refine G_endblk ?_ | refine G_block ?_ | refine G_exit rfl ?_)
    refine G_region ?_
    refine GO_q rfl rfl (ev_assign rfl) ?_
    refine GO_q rfl rfl (ev_assign rfl) ?_
    refine GO_nil ?_
    (repeat first | refine G_seq ?_ | refine G_skip ?_ | refine G_endblk ?_ | refine G_block ?_ | refine G_exit rfl ?_)
    exact G_ret (L' := own 67 1 none 0 0 [] :: L) rfl (.tmp rfl (.tmp rfl .nil)) (fun h s => en_pick (.skip (.skip .here)) (en_keep (en_drop en_refl)) h (own.nil_ 67 1 h s)) ⟨none, 0, rfl, fun h => absurd h (Nat.lt_irrefl 0), rfl⟩
  | node b p s lo hi =>
    obtain ⟨q1, q2, q3, q4, q5, q6, q7, q8, q9⟩ := h.f
    by_cases hy : p.y < w.y
    · have e1 : (PA.node b p s lo hi).next w = [] := by simp [PA.next, PA.next1, PA.next2, hy]
      have e2 : (PA.node b p s lo hi).hit w = false := wn_low w p hy
      rw [e1, e2]
      refine Ctr_of (fn := Try.f64) (n := 69) Try.func64 rfl rfl rfl ?_
      intro g F
      (repeat first | refine G_seq ?_ | refine G_skip ?_ | refine G_endblk ?_ | refine G_block ?_ | refine G_exit rfl ?_)
      refine G_region ?_
      refine GO_eff rfl rfl (eff_box rfl) ?_; rintro _ _ ⟨b3, rfl, rfl⟩
      refine GO_q rfl rfl (ev_assign rfl) ?_
      refine GO_q rfl rfl (ev_assign rfl) ?_
      refine GO_nil ?_
      (repeat first | refine G_seq ?_ | refine G_skip ?_ | refine G_endblk ?_ | refine G_block ?_ | refine G_exit rfl ?_)
      refine G_draw (.q 0 (.q 1 (.q 2 (.q 3 (.q 4 (.q 5 (.q 6 (.q 7 (.q 8 (.q 9 (.q 10 (.q 11 .nil)))))))))))) (by kernel_rfl) (by kernel_rfl) ?_
      refine RS_q retB_noPanic rfl rfl rfl (ev_move rfl) ?_
      (first | refine RS_q retB_noPanic rfl rfl rfl (ev_eqlNil rfl rfl) ?_ | refine RS_q retB_noPanic rfl rfl rfl (ev_eqlPtr rfl rfl) ?_)
      refine RS_q retB_noPanic rfl rfl rfl (ev_move rfl) ?_
      refine RS_q_yes retB_noPanic rfl rfl rfl ⟨_, rfl, rfl⟩ rfl (ev_move rfl) ?_
      (first | refine RS_q_yes retB_noPanic rfl rfl rfl ⟨_, rfl, rfl⟩ rfl (ev_nilCheck rfl) ?_ | refine RS_q_yes retB_noPanic rfl rfl rfl ⟨_, rfl, rfl⟩ rfl (ev_nilCheckF (by simp) rfl) ?_)
      refine RS_q_yes retB_noPanic rfl rfl rfl ⟨_, rfl, rfl⟩ rfl (ev_fieldAddr rfl) ?_
      refine RS_q_yes retB_noPanic rfl rfl rfl ⟨_, rfl, rfl⟩ rfl (ev_fieldAddr rfl) ?_
      refine RS_q_yes retB_noPanic rfl rfl rfl ⟨_, rfl, rfl⟩ rfl (ev_load rfl (by repeat' first | exact Ld.blk rfl | assumption | apply Ld.skip | apply Ld.app)) ?_
      refine RS_q_yes retB_noPanic rfl rfl rfl ⟨_, rfl, rfl⟩ rfl (ev_fieldAddr rfl) ?_
      refine RS_q_yes retB_noPanic rfl rfl rfl ⟨_, rfl, rfl⟩ rfl (ev_load rfl (by repeat' first | exact Ld.blk rfl | assumption | apply Ld.skip | apply Ld.app)) ?_
      (first | refine RS_q_yes retB_noPanic rfl rfl rfl ⟨_, rfl, rfl⟩ rfl (ev_lssN rfl rfl) ?_ | refine RS_q_yes retB_noPanic rfl rfl rfl ⟨_, rfl, rfl⟩ rfl (ev_lss rfl rfl) ?_)
      refine RS_q retB_noPanic rfl rfl rfl (ev_pick_f rfl rfl rfl) ?_
      refine RS_nil ?_
      (repeat first | refine G_seq ?_ | refine G_skip ?_ | refine G_endblk ?_ | refine G_block ?_ | refine G_exit rfl ?_)
      refine G_cond_t rfl (decide_eq_true hy) ?_
      (repeat first | refine G_seq ?_ | refine G_skip ?_ | refine G_endblk ?_ | refine G_block ?_ | refine G_exit rfl ?_)
      refine G_region ?_
      refine GO_q rfl rfl (ev_assign rfl) ?_
      refine GO_q rfl rfl (ev_assign rfl) ?_
      refine GO_nil ?_
      (repeat first | refine G_seq ?_ | refine G_skip ?_ | refine G_endblk ?_ | refine G_block ?_ | refine G_exit rfl ?_)
      exact G_ret (L' := own 67 1 none 0 0 [] :: L) rfl (.tmp rfl (.tmp rfl .nil)) (fun h s => en_pick (.skip (.skip .here)) (en_keep (en_drop en_refl)) h (own.nil_ 67 1 h s)) ⟨none, 0, rfl, fun h => absurd h (Nat.lt_irrefl 0), rfl⟩
    · have e1 : (PA.node b p s lo hi).next1 w = if !lo.isN && decide (w.x1 ≤ s.x) then [lo] else [] := by simp [PA.next1, hy]
      have e2 : (PA.node b p s lo hi).next2 w = if !hi.isN && decide (s.x ≤ w.x2) then [hi] else [] := by simp [PA.next2, hy]
      unfold PA.next
      generalize (PA.node b p s lo hi).next1 w = l1 at *
      generalize (PA.node b p s lo hi).next2 w = l2 at *
      refine Ctr_of (fn := Try.f64) (n := 69) Try.func64 rfl rfl rfl ?_
      intro g F
      (repeat first | refine G_seq ?_ | refine G_skip ?_ | refine G_endblk ?_ | refine G_block ?_ | refine G_exit rfl ?_)
      refine G_region ?_
      refine GO_eff rfl rfl (eff_box rfl) ?_; rintro _ _ ⟨b3, rfl, rfl⟩
      refine GO_q rfl rfl (ev_assign rfl) ?_
      refine GO_q rfl rfl (ev_assign rfl) ?_
      refine GO_nil ?_
      (repeat first | refine G_seq ?_ | refine G_skip ?_ | refine G_endblk ?_ | refine G_block ?_ | refine G_exit rfl ?_)
      refine G_draw (.q 0 (.q 1 (.q 2 (.q 3 (.q 4 (.q 5 (.q 6 (.q 7 (.q 8 (.q 9 (.q 10 (.q 11 .nil)))))))))))) (by kernel_rfl) (by kernel_rfl) ?_
      refine RS_q retB_noPanic rfl rfl rfl (ev_move rfl) ?_
      (first | refine RS_q retB_noPanic rfl rfl rfl (ev_eqlNil rfl rfl) ?_ | refine RS_q retB_noPanic rfl rfl rfl (ev_eqlPtr rfl rfl) ?_)
      refine RS_q retB_noPanic rfl rfl rfl (ev_move rfl) ?_
      refine RS_q_yes retB_noPanic rfl rfl rfl ⟨_, rfl, rfl⟩ rfl (ev_move rfl) ?_
      (first | refine RS_q_yes retB_noPanic rfl rfl rfl ⟨_, rfl, rfl⟩ rfl (ev_nilCheck rfl) ?_ | refine RS_q_yes retB_noPanic rfl rfl rfl ⟨_, rfl, rfl⟩ rfl (ev_nilCheckF (by simp) rfl) ?_)
      refine RS_q_yes retB_noPanic rfl rfl rfl ⟨_, rfl, rfl⟩ rfl (ev_fieldAddr rfl) ?_
      refine RS_q_yes retB_noPanic rfl rfl rfl ⟨_, rfl, rfl⟩ rfl (ev_fieldAddr rfl) ?_
      refine RS_q_yes retB_noPanic rfl rfl rfl ⟨_, rfl, rfl⟩ rfl (ev_load rfl (by repeat' first | exact Ld.blk rfl | assumption | apply Ld.skip | apply Ld.app)) ?_
      refine RS_q_yes retB_noPanic rfl rfl rfl ⟨_, rfl, rfl⟩ rfl (ev_fieldAddr rfl) ?_
      refine RS_q_yes retB_noPanic rfl rfl rfl ⟨_, rfl, rfl⟩ rfl (ev_load rfl (by repeat' first | exact Ld.blk rfl | assumption | apply Ld.skip | apply Ld.app)) ?_
      (first | refine RS_q_yes retB_noPanic rfl rfl rfl ⟨_, rfl, rfl⟩ rfl (ev_lssN rfl rfl) ?_ | refine RS_q_yes retB_noPanic rfl rfl rfl ⟨_, rfl, rfl⟩ rfl (ev_lss rfl rfl) ?_)
      refine RS_q retB_noPanic rfl rfl rfl (ev_pick_f rfl rfl rfl) ?_
      refine RS_nil ?_
      (repeat first | refine G_seq ?_ | refine G_skip ?_ | refine G_endblk ?_ | refine G_block ?_ | refine G_exit rfl ?_)
      refine G_cond_f rfl (decide_eq_false hy) ?_
      refine G_heap (own.nil_ 67 1) ?_
      repeat refine G_skip ?_
      refine G_seq ?_
      refine G_cut (ι := Option Addr × Nat) (fun x => [(0, .pointer (some ⟨b, 0, none⟩)), (3, .pointer (some ⟨b3, 0, none⟩)), (5, .slice x.1 l1.length x.2)]) (fun x => own 67 1 x.1 l1.length x.2 (flat (addrs l1)) :: blk b3 45 [.int .i64 w.x1, .int .i64 w.x2, .int .i64 w.y] :: F :: L) (fun x => 0 < l1.length → ∃ b, x.1 = some ⟨b, 0, none⟩) ?_ ?_
      · cases hn : lo.isN with
        | true =>
          have el : l1 = [] := by rw [e1]; simp [hn]
          subst el
          (repeat first | refine G_seq ?_ | refine G_skip ?_ | refine G_endblk ?_ | refine G_block ?_ | refine G_exit rfl ?_)
          refine G_draw (.q 0 (.q 1 (.q 2 (.q 3 (.q 4 (.q 5 (.q 6 (.q 7 (.q 8 (.q 9 (.q 10 (.q 11 (.q 12 (.q 13 (.q 14 .nil))))))))))))))) (by kernel_rfl) (by kernel_rfl) ?_
          refine RS_q retB_noPanic rfl rfl rfl (ev_move rfl) ?_
          (first | refine RS_q retB_noPanic rfl rfl rfl (ev_nilCheck rfl) ?_ | refine RS_q retB_noPanic rfl rfl rfl (ev_nilCheckF (by simp) rfl) ?_)
          refine RS_q retB_noPanic rfl rfl rfl (ev_fieldAddr rfl) ?_
          refine RS_q retB_noPanic rfl rfl rfl (ev_load rfl (by repeat' first | exact Ld.blk rfl | assumption | apply Ld.skip | apply Ld.app)) ?_
          (first | refine RS_q retB_noPanic rfl rfl rfl (ev_neqNil rfl rfl) ?_ | refine RS_q retB_noPanic rfl rfl rfl (ev_neqPtr rfl rfl) ?_)
          refine RS_q retB_noPanic rfl rfl rfl (ev_move rfl) ?_
          refine RS_q_no retB_noPanic rfl rfl rfl ⟨_, rfl, (by first | rfl | (rw [PA.isN_addr', hn]; done) | (rw [PA.isN_addr', hn]; rfl))⟩ rfl ?_
          refine RS_q_no retB_noPanic rfl rfl rfl ⟨_, rfl, (by first | rfl | (rw [PA.isN_addr', hn]; done) | (rw [PA.isN_addr', hn]; rfl))⟩ rfl ?_
          refine RS_q_no retB_noPanic rfl rfl rfl ⟨_, rfl, (by first | rfl | (rw [PA.isN_addr', hn]; done) | (rw [PA.isN_addr', hn]; rfl))⟩ rfl ?_
          refine RS_q_no retB_noPanic rfl rfl rfl ⟨_, rfl, (by first | rfl | (rw [PA.isN_addr', hn]; done) | (rw [PA.isN_addr', hn]; rfl))⟩ rfl ?_
          refine RS_q_no retB_noPanic rfl rfl rfl ⟨_, rfl, (by first | rfl | (rw [PA.isN_addr', hn]; done) | (rw [PA.isN_addr', hn]; rfl))⟩ rfl ?_
          refine RS_q_no retB_noPanic rfl rfl rfl ⟨_, rfl, (by first | rfl | (rw [PA.isN_addr', hn]; done) | (rw [PA.isN_addr', hn]; rfl))⟩ rfl ?_
          refine RS_q_no retB_noPanic rfl rfl rfl ⟨_, rfl, (by first | rfl | (rw [PA.isN_addr', hn]; done) | (rw [PA.isN_addr', hn]; rfl))⟩ rfl ?_
          refine RS_q_no retB_noPanic rfl rfl rfl ⟨_, rfl, (by first | rfl | (rw [PA.isN_addr', hn]; done) | (rw [PA.isN_addr', hn]; rfl))⟩ rfl ?_
          refine RS_q retB_noPanic rfl rfl rfl (ev_pick_f rfl (by first | rfl | (rw [PA.isN_addr', hn]; done) | (rw [PA.isN_addr', hn]; rfl)) rfl) ?_
          refine RS_nil ?_
          (repeat first | refine G_seq ?_ | refine G_skip ?_ | refine G_endblk ?_ | refine G_block ?_ | refine G_exit rfl ?_)
          refine G_cond_f rfl (by first | rfl | (rw [PA.isN_addr', hn]; done) | (rw [PA.isN_addr', hn]; rfl)) ?_
          (repeat first | refine G_seq ?_ | refine G_skip ?_ | refine G_endblk ?_ | refine G_block ?_ | refine G_exit rfl ?_)
          exact G_inv (none, 0) (fun h => absurd h (Nat.lt_irrefl 0)) ⟨rfl, rfl, rfl, trivial⟩ (by (repeat first | exact en_refl | (apply en_blk; focus ((repeat' first | exact Pick.here | apply Pick.skip | apply Pick.app); done); focus rfl) | (apply en_own; focus ((repeat' first | exact Pick.here | apply Pick.skip | apply Pick.app); done); focus rfl) | (apply en_pick; focus ((repeat' first | exact Pick.here | apply Pick.skip | apply Pick.app); done)) | apply en_drop | apply en_app) <;> fail)
        | false =>
          by_cases hx : w.x1 ≤ s.x
          · have el : l1 = [lo] := by rw [e1]; simp [hn, hx]
            subst el
            (repeat first | refine G_seq ?_ | refine G_skip ?_ | refine G_endblk ?_ | refine G_block ?_ | refine G_exit rfl ?_)
            refine G_draw (.q 0 (.q 1 (.q 2 (.q 3 (.q 4 (.q 5 (.q 6 (.q 7 (.q 8 (.q 9 (.q 10 (.q 11 (.q 12 (.q 13 (.q 14 .nil))))))))))))))) (by kernel_rfl) (by kernel_rfl) ?_
            refine RS_q retB_noPanic rfl rfl rfl (ev_move rfl) ?_
            (first | refine RS_q retB_noPanic rfl rfl rfl (ev_nilCheck rfl) ?_ | refine RS_q retB_noPanic rfl rfl rfl (ev_nilCheckF (by simp) rfl) ?_)
            refine RS_q retB_noPanic rfl rfl rfl (ev_fieldAddr rfl) ?_
            refine RS_q retB_noPanic rfl rfl rfl (ev_load rfl (by repeat' first | exact Ld.blk rfl | assumption | apply Ld.skip | apply Ld.app)) ?_
            (first | refine RS_q retB_noPanic rfl rfl rfl (ev_neqNil rfl rfl) ?_ | refine RS_q retB_noPanic rfl rfl rfl (ev_neqPtr rfl rfl) ?_)
            refine RS_q retB_noPanic rfl rfl rfl (ev_move rfl) ?_
            refine RS_q_yes retB_noPanic rfl rfl rfl ⟨_, rfl, (by first | rfl | (rw [PA.isN_addr', hn]; done) | (rw [PA.isN_addr', hn]; rfl))⟩ rfl (ev_fieldAddr rfl) ?_
            refine RS_q_yes retB_noPanic rfl rfl rfl ⟨_, rfl, (by first | rfl | (rw [PA.isN_addr', hn]; done) | (rw [PA.isN_addr', hn]; rfl))⟩ rfl (ev_load rfl (by repeat' first | exact Ld.blk rfl | assumption | apply Ld.skip | apply Ld.app)) ?_
            refine RS_q_yes retB_noPanic rfl rfl rfl ⟨_, rfl, (by first | rfl | (rw [PA.isN_addr', hn]; done) | (rw [PA.isN_addr', hn]; rfl))⟩ rfl (ev_move rfl) ?_
            (first | refine RS_q_yes retB_noPanic rfl rfl rfl ⟨_, rfl, (by first | rfl | (rw [PA.isN_addr', hn]; done) | (rw [PA.isN_addr', hn]; rfl))⟩ rfl (ev_nilCheck rfl) ?_ | refine RS_q_yes retB_noPanic rfl rfl rfl ⟨_, rfl, (by first | rfl | (rw [PA.isN_addr', hn]; done) | (rw [PA.isN_addr', hn]; rfl))⟩ rfl (ev_nilCheckF (by simp) rfl) ?_)
            refine RS_q_yes retB_noPanic rfl rfl rfl ⟨_, rfl, (by first | rfl | (rw [PA.isN_addr', hn]; done) | (rw [PA.isN_addr', hn]; rfl))⟩ rfl (ev_fieldAddr rfl) ?_
            refine RS_q_yes retB_noPanic rfl rfl rfl ⟨_, rfl, (by first | rfl | (rw [PA.isN_addr', hn]; done) | (rw [PA.isN_addr', hn]; rfl))⟩ rfl (ev_fieldAddr rfl) ?_
            refine RS_q_yes retB_noPanic rfl rfl rfl ⟨_, rfl, (by first | rfl | (rw [PA.isN_addr', hn]; done) | (rw [PA.isN_addr', hn]; rfl))⟩ rfl (ev_load rfl (by repeat' first | exact Ld.blk rfl | assumption | apply Ld.skip | apply Ld.app)) ?_
            refine RS_q_yes retB_noPanic rfl rfl rfl ⟨_, rfl, (by first | rfl | (rw [PA.isN_addr', hn]; done) | (rw [PA.isN_addr', hn]; rfl))⟩ rfl (ev_leq rfl rfl) ?_
            refine RS_q retB_noPanic rfl rfl rfl (ev_pick_t rfl (by first | rfl | (rw [PA.isN_addr', hn]; done) | (rw [PA.isN_addr', hn]; rfl)) rfl) ?_
            refine RS_nil ?_
            (repeat first | refine G_seq ?_ | refine G_skip ?_ | refine G_endblk ?_ | refine G_block ?_ | refine G_exit rfl ?_)
            refine G_cond_t rfl (decide_eq_true hx) ?_
            (repeat first | refine G_seq ?_ | refine G_skip ?_ | refine G_endblk ?_ | refine G_block ?_ | refine G_exit rfl ?_)
            refine G_region ?_
            refine GO_q rfl rfl (ev_move rfl) ?_
            refine GO_q rfl rfl (ev_move rfl) ?_
            (first | refine GO_q rfl rfl (ev_nilCheck rfl) ?_ | refine GO_q rfl rfl (ev_nilCheckF (by simp) rfl) ?_)
            refine GO_q rfl rfl (ev_fieldAddr rfl) ?_
            refine GO_q rfl rfl (ev_load rfl (by repeat' first | exact Ld.blk rfl | assumption | apply Ld.skip | apply Ld.app)) ?_
            refine GO_eff rfl rfl (eff_buildSlice1 (by rfl) rfl rfl) ?_; rintro _ _ ⟨b38, rfl, rfl⟩
            refine GO_eff rfl rfl (eff_append rfl rfl (by repeat' first | exact Pick.here | apply Pick.skip) (by repeat' first | exact Rc.blk rfl | assumption | apply Rc.skip) (one_all rfl) (by rfl) (by decide) (by first | omega | (simp; done) | (simp; omega)) (by first | omega | (simp; done) | (simp; omega))) ?_; rintro _ _ ⟨A39, c39, rfl, hc39, hm39, hn39, rfl⟩
            refine GO_q rfl rfl (ev_assign rfl) ?_
            refine GO_nil ?_
            (repeat first | refine G_seq ?_ | refine G_skip ?_ | refine G_endblk ?_ | refine G_block ?_ | refine G_exit rfl ?_)
            exact G_inv (A39, c39) (fun _ => hn39 (by simp)) ⟨rfl, rfl, rfl, trivial⟩ (by (repeat first | exact en_refl | (apply en_blk; focus ((repeat' first | exact Pick.here | apply Pick.skip | apply Pick.app); done); focus rfl) | (apply en_own; focus ((repeat' first | exact Pick.here | apply Pick.skip | apply Pick.app); done); focus rfl) | (apply en_pick; focus ((repeat' first | exact Pick.here | apply Pick.skip | apply Pick.app); done)) | apply en_drop | apply en_app) <;> fail)
          · have el : l1 = [] := by rw [e1]; simp [hn, hx]
            subst el
            (repeat first | refine G_seq ?_ | refine G_skip ?_ | refine G_endblk ?_ | refine G_block ?_ | refine G_exit rfl ?_)
            refine G_draw (.q 0 (.q 1 (.q 2 (.q 3 (.q 4 (.q 5 (.q 6 (.q 7 (.q 8 (.q 9 (.q 10 (.q 11 (.q 12 (.q 13 (.q 14 .nil))))))))))))))) (by kernel_rfl) (by kernel_rfl) ?_
            refine RS_q retB_noPanic rfl rfl rfl (ev_move rfl) ?_
            (first | refine RS_q retB_noPanic rfl rfl rfl (ev_nilCheck rfl) ?_ | refine RS_q retB_noPanic rfl rfl rfl (ev_nilCheckF (by simp) rfl) ?_)
            refine RS_q retB_noPanic rfl rfl rfl (ev_fieldAddr rfl) ?_
            refine RS_q retB_noPanic rfl rfl rfl (ev_load rfl (by repeat' first | exact Ld.blk rfl | assumption | apply Ld.skip | apply Ld.app)) ?_
            (first | refine RS_q retB_noPanic rfl rfl rfl (ev_neqNil rfl rfl) ?_ | refine RS_q retB_noPanic rfl rfl rfl (ev_neqPtr rfl rfl) ?_)
            refine RS_q retB_noPanic rfl rfl rfl (ev_move rfl) ?_
            refine RS_q_yes retB_noPanic rfl rfl rfl ⟨_, rfl, (by first | rfl | (rw [PA.isN_addr', hn]; done) | (rw [PA.isN_addr', hn]; rfl))⟩ rfl (ev_fieldAddr rfl) ?_
            refine RS_q_yes retB_noPanic rfl rfl rfl ⟨_, rfl, (by first | rfl | (rw [PA.isN_addr', hn]; done) | (rw [PA.isN_addr', hn]; rfl))⟩ rfl (ev_load rfl (by repeat' first | exact Ld.blk rfl | assumption | apply Ld.skip | apply Ld.app)) ?_
            refine RS_q_yes retB_noPanic rfl rfl rfl ⟨_, rfl, (by first | rfl | (rw [PA.isN_addr', hn]; done) | (rw [PA.isN_addr', hn]; rfl))⟩ rfl (ev_move rfl) ?_
            (first | refine RS_q_yes retB_noPanic rfl rfl rfl ⟨_, rfl, (by first | rfl | (rw [PA.isN_addr', hn]; done) | (rw [PA.isN_addr', hn]; rfl))⟩ rfl (ev_nilCheck rfl) ?_ | refine RS_q_yes retB_noPanic rfl rfl rfl ⟨_, rfl, (by first | rfl | (rw [PA.isN_addr', hn]; done) | (rw [PA.isN_addr', hn]; rfl))⟩ rfl (ev_nilCheckF (by simp) rfl) ?_)
            refine RS_q_yes retB_noPanic rfl rfl rfl ⟨_, rfl, (by first | rfl | (rw [PA.isN_addr', hn]; done) | (rw [PA.isN_addr', hn]; rfl))⟩ rfl (ev_fieldAddr rfl) ?_
            refine RS_q_yes retB_noPanic rfl rfl rfl ⟨_, rfl, (by first | rfl | (rw [PA.isN_addr', hn]; done) | (rw [PA.isN_addr', hn]; rfl))⟩ rfl (ev_fieldAddr rfl) ?_
            refine RS_q_yes retB_noPanic rfl rfl rfl ⟨_, rfl, (by first | rfl | (rw [PA.isN_addr', hn]; done) | (rw [PA.isN_addr', hn]; rfl))⟩ rfl (ev_load rfl (by repeat' first | exact Ld.blk rfl | assumption | apply Ld.skip | apply Ld.app)) ?_
            refine RS_q_yes retB_noPanic rfl rfl rfl ⟨_, rfl, (by first | rfl | (rw [PA.isN_addr', hn]; done) | (rw [PA.isN_addr', hn]; rfl))⟩ rfl (ev_leq rfl rfl) ?_
            refine RS_q retB_noPanic rfl rfl rfl (ev_pick_t rfl (by first | rfl | (rw [PA.isN_addr', hn]; done) | (rw [PA.isN_addr', hn]; rfl)) rfl) ?_
            refine RS_nil ?_
            (repeat first | refine G_seq ?_ | refine G_skip ?_ | refine G_endblk ?_ | refine G_block ?_ | refine G_exit rfl ?_)
            refine G_cond_f rfl (decide_eq_false hx) ?_
            (repeat first | refine G_seq ?_ | refine G_skip ?_ | refine G_endblk ?_ | refine G_block ?_ | refine G_exit rfl ?_)
            exact G_inv (none, 0) (fun h => absurd h (Nat.lt_irrefl 0)) ⟨rfl, rfl, rfl, trivial⟩ (by (repeat first | exact en_refl | (apply en_blk; focus ((repeat' first | exact Pick.here | apply Pick.skip | apply Pick.app); done); focus rfl) | (apply en_own; focus ((repeat' first | exact Pick.here | apply Pick.skip | apply Pick.app); done); focus rfl) | (apply en_pick; focus ((repeat' first | exact Pick.here | apply Pick.skip | apply Pick.app); done)) | apply en_drop | apply en_app) <;> fail)
      · rintro ⟨A1, c1⟩ hA
        simp only at hA
        dsimp only
        refine G_seq ?_
        refine G_cut (ι := Option Addr × Nat) (fun x => [(0, .pointer (some ⟨b, 0, none⟩)), (3, .pointer (some ⟨b3, 0, none⟩)), (5, .slice x.1 (l1 ++ l2).length x.2)]) (fun x => own 67 1 x.1 (l1 ++ l2).length x.2 (flat (addrs (l1 ++ l2))) :: blk b3 45 [.int .i64 w.x1, .int .i64 w.x2, .int .i64 w.y] :: F :: L) (fun x => 0 < (l1 ++ l2).length → ∃ b, x.1 = some ⟨b, 0, none⟩) ?_ ?_
        · have h1b : l1.length ≤ 1 := by rw [e1]; split <;> simp
          cases hn : hi.isN with
          | true =>
            have el : l2 = [] := by rw [e2]; simp [hn]
            subst el
            (repeat first | refine G_seq ?_ | refine G_skip ?_ | refine G_endblk ?_ | refine G_block ?_ | refine G_exit rfl ?_)
            refine G_draw (.q 0 (.q 1 (.q 2 (.q 3 (.q 4 (.q 5 (.q 6 (.q 7 (.q 8 (.q 9 (.q 10 (.q 11 (.q 12 (.q 13 (.q 14 .nil))))))))))))))) (by kernel_rfl) (by kernel_rfl) ?_
            refine RS_q retB_noPanic rfl rfl rfl (ev_move rfl) ?_
            (first | refine RS_q retB_noPanic rfl rfl rfl (ev_nilCheck rfl) ?_ | refine RS_q retB_noPanic rfl rfl rfl (ev_nilCheckF (by simp) rfl) ?_)
            refine RS_q retB_noPanic rfl rfl rfl (ev_fieldAddr rfl) ?_
            refine RS_q retB_noPanic rfl rfl rfl (ev_load rfl (by repeat' first | exact Ld.blk rfl | assumption | apply Ld.skip | apply Ld.app)) ?_
            (first | refine RS_q retB_noPanic rfl rfl rfl (ev_neqNil rfl rfl) ?_ | refine RS_q retB_noPanic rfl rfl rfl (ev_neqPtr rfl rfl) ?_)
            refine RS_q retB_noPanic rfl rfl rfl (ev_move rfl) ?_
            refine RS_q_no retB_noPanic rfl rfl rfl ⟨_, rfl, (by first | rfl | (rw [PA.isN_addr', hn]; done) | (rw [PA.isN_addr', hn]; rfl))⟩ rfl ?_
            refine RS_q_no retB_noPanic rfl rfl rfl ⟨_, rfl, (by first | rfl | (rw [PA.isN_addr', hn]; done) | (rw [PA.isN_addr', hn]; rfl))⟩ rfl ?_
            refine RS_q_no retB_noPanic rfl rfl rfl ⟨_, rfl, (by first | rfl | (rw [PA.isN_addr', hn]; done) | (rw [PA.isN_addr', hn]; rfl))⟩ rfl ?_
            refine RS_q_no retB_noPanic rfl rfl rfl ⟨_, rfl, (by first | rfl | (rw [PA.isN_addr', hn]; done) | (rw [PA.isN_addr', hn]; rfl))⟩ rfl ?_
            refine RS_q_no retB_noPanic rfl rfl rfl ⟨_, rfl, (by first | rfl | (rw [PA.isN_addr', hn]; done) | (rw [PA.isN_addr', hn]; rfl))⟩ rfl ?_
            refine RS_q_no retB_noPanic rfl rfl rfl ⟨_, rfl, (by first | rfl | (rw [PA.isN_addr', hn]; done) | (rw [PA.isN_addr', hn]; rfl))⟩ rfl ?_
            refine RS_q_no retB_noPanic rfl rfl rfl ⟨_, rfl, (by first | rfl | (rw [PA.isN_addr', hn]; done) | (rw [PA.isN_addr', hn]; rfl))⟩ rfl ?_
            refine RS_q_no retB_noPanic rfl rfl rfl ⟨_, rfl, (by first | rfl | (rw [PA.isN_addr', hn]; done) | (rw [PA.isN_addr', hn]; rfl))⟩ rfl ?_
            refine RS_q retB_noPanic rfl rfl rfl (ev_pick_f rfl (by first | rfl | (rw [PA.isN_addr', hn]; done) | (rw [PA.isN_addr', hn]; rfl)) rfl) ?_
            refine RS_nil ?_
            (repeat first | refine G_seq ?_ | refine G_skip ?_ | refine G_endblk ?_ | refine G_block ?_ | refine G_exit rfl ?_)
            refine G_cond_f rfl (by first | rfl | (rw [PA.isN_addr', hn]; done) | (rw [PA.isN_addr', hn]; rfl)) ?_
            (repeat first | refine G_seq ?_ | refine G_skip ?_ | refine G_endblk ?_ | refine G_block ?_ | refine G_exit rfl ?_)
            exact G_inv (A1, c1) (fun h => hA (by simpa using h)) ⟨rfl, rfl, by rw [List.append_nil]; rfl, trivial⟩ (by rw [List.append_nil]; exact (by (repeat first | exact en_refl | (apply en_blk; focus ((repeat' first | exact Pick.here | apply Pick.skip | apply Pick.app); done); focus rfl) | (apply en_own; focus ((repeat' first | exact Pick.here | apply Pick.skip | apply Pick.app); done); focus rfl) | (apply en_pick; focus ((repeat' first | exact Pick.here | apply Pick.skip | apply Pick.app); done)) | apply en_drop | apply en_app) <;> fail))
          | false =>
            by_cases hx : s.x ≤ w.x2
            · have el : l2 = [hi] := by rw [e2]; simp [hn, hx]
              subst el
              (repeat first | refine G_seq ?_ | refine G_skip ?_ | refine G_endblk ?_ | refine G_block ?_ | refine G_exit rfl ?_)
              refine G_draw (.q 0 (.q 1 (.q 2 (.q 3 (.q 4 (.q 5 (.q 6 (.q 7 (.q 8 (.q 9 (.q 10 (.q 11 (.q 12 (.q 13 (.q 14 .nil))))))))))))))) (by kernel_rfl) (by kernel_rfl) ?_
              refine RS_q retB_noPanic rfl rfl rfl (ev_move rfl) ?_
              (first | refine RS_q retB_noPanic rfl rfl rfl (ev_nilCheck rfl) ?_ | refine RS_q retB_noPanic rfl rfl rfl (ev_nilCheckF (by simp) rfl) ?_)
              refine RS_q retB_noPanic rfl rfl rfl (ev_fieldAddr rfl) ?_
              refine RS_q retB_noPanic rfl rfl rfl (ev_load rfl (by repeat' first | exact Ld.blk rfl | assumption | apply Ld.skip | apply Ld.app)) ?_
              (first | refine RS_q retB_noPanic rfl rfl rfl (ev_neqNil rfl rfl) ?_ | refine RS_q retB_noPanic rfl rfl rfl (ev_neqPtr rfl rfl) ?_)
              refine RS_q retB_noPanic rfl rfl rfl (ev_move rfl) ?_
              refine RS_q_yes retB_noPanic rfl rfl rfl ⟨_, rfl, (by first | rfl | (rw [PA.isN_addr', hn]; done) | (rw [PA.isN_addr', hn]; rfl))⟩ rfl (ev_fieldAddr rfl) ?_
              refine RS_q_yes retB_noPanic rfl rfl rfl ⟨_, rfl, (by first | rfl | (rw [PA.isN_addr', hn]; done) | (rw [PA.isN_addr', hn]; rfl))⟩ rfl (ev_load rfl (by repeat' first | exact Ld.blk rfl | assumption | apply Ld.skip | apply Ld.app)) ?_
              refine RS_q_yes retB_noPanic rfl rfl rfl ⟨_, rfl, (by first | rfl | (rw [PA.isN_addr', hn]; done) | (rw [PA.isN_addr', hn]; rfl))⟩ rfl (ev_move rfl) ?_
              (first | refine RS_q_yes retB_noPanic rfl rfl rfl ⟨_, rfl, (by first | rfl | (rw [PA.isN_addr', hn]; done) | (rw [PA.isN_addr', hn]; rfl))⟩ rfl (ev_nilCheck rfl) ?_ | refine RS_q_yes retB_noPanic rfl rfl rfl ⟨_, rfl, (by first | rfl | (rw [PA.isN_addr', hn]; done) | (rw [PA.isN_addr', hn]; rfl))⟩ rfl (ev_nilCheckF (by simp) rfl) ?_)
              refine RS_q_yes retB_noPanic rfl rfl rfl ⟨_, rfl, (by first | rfl | (rw [PA.isN_addr', hn]; done) | (rw [PA.isN_addr', hn]; rfl))⟩ rfl (ev_fieldAddr rfl) ?_
              refine RS_q_yes retB_noPanic rfl rfl rfl ⟨_, rfl, (by first | rfl | (rw [PA.isN_addr', hn]; done) | (rw [PA.isN_addr', hn]; rfl))⟩ rfl (ev_fieldAddr rfl) ?_
              refine RS_q_yes retB_noPanic rfl rfl rfl ⟨_, rfl, (by first | rfl | (rw [PA.isN_addr', hn]; done) | (rw [PA.isN_addr', hn]; rfl))⟩ rfl (ev_load rfl (by repeat' first | exact Ld.blk rfl | assumption | apply Ld.skip | apply Ld.app)) ?_
              refine RS_q_yes retB_noPanic rfl rfl rfl ⟨_, rfl, (by first | rfl | (rw [PA.isN_addr', hn]; done) | (rw [PA.isN_addr', hn]; rfl))⟩ rfl (ev_geq rfl rfl) ?_
              refine RS_q retB_noPanic rfl rfl rfl (ev_pick_t rfl (by first | rfl | (rw [PA.isN_addr', hn]; done) | (rw [PA.isN_addr', hn]; rfl)) rfl) ?_
              refine RS_nil ?_
              (repeat first | refine G_seq ?_ | refine G_skip ?_ | refine G_endblk ?_ | refine G_block ?_ | refine G_exit rfl ?_)
              refine G_cond_t rfl (decide_eq_true hx) ?_
              (repeat first | refine G_seq ?_ | refine G_skip ?_ | refine G_endblk ?_ | refine G_block ?_ | refine G_exit rfl ?_)
              refine G_region ?_
              refine GO_q rfl rfl (ev_move rfl) ?_
              refine GO_q rfl rfl (ev_move rfl) ?_
              (first | refine GO_q rfl rfl (ev_nilCheck rfl) ?_ | refine GO_q rfl rfl (ev_nilCheckF (by simp) rfl) ?_)
              refine GO_q rfl rfl (ev_fieldAddr rfl) ?_
              refine GO_q rfl rfl (ev_load rfl (by repeat' first | exact Ld.blk rfl | assumption | apply Ld.skip | apply Ld.app)) ?_
              refine GO_eff rfl rfl (eff_buildSlice1 (by rfl) rfl rfl) ?_; rintro _ _ ⟨b60, rfl, rfl⟩
              refine GO_eff rfl rfl (eff_append rfl rfl (by repeat' first | exact Pick.here | apply Pick.skip) (by repeat' first | exact Rc.blk rfl | assumption | apply Rc.skip) (one_all rfl) (by rfl) (by decide) (by first | omega | (simp; done) | (simp; omega)) (by first | omega | (simp; done) | (simp; omega))) ?_; rintro _ _ ⟨A61, c61, rfl, hc61, hm61, hn61, rfl⟩
              refine GO_q rfl rfl (ev_assign rfl) ?_
              refine GO_nil ?_
              (repeat first | refine G_seq ?_ | refine G_skip ?_ | refine G_endblk ?_ | refine G_block ?_ | refine G_exit rfl ?_)
              exact G_inv (A61, c61) (fun _ => hn61 (by omega)) ⟨rfl, rfl, by simp only [List.length_append, List.length_singleton]; rfl, trivial⟩ (by
                simp only [List.length_append, List.length_singleton, addrs, List.map_append, List.map_cons, List.map_nil]
                rw [flat_append]
                exact (by (repeat first | exact en_refl | (apply en_blk; focus ((repeat' first | exact Pick.here | apply Pick.skip | apply Pick.app); done); focus rfl) | (apply en_own; focus ((repeat' first | exact Pick.here | apply Pick.skip | apply Pick.app); done); focus rfl) | (apply en_pick; focus ((repeat' first | exact Pick.here | apply Pick.skip | apply Pick.app); done)) | apply en_drop | apply en_app) <;> fail))
            · have el : l2 = [] := by rw [e2]; simp [hn, hx]
              subst el
              (repeat first | refine G_seq ?_ | refine G_skip ?_ | refine G_endblk ?_ | refine G_block ?_ | refine G_exit rfl ?_)
              refine G_draw (.q 0 (.q 1 (.q 2 (.q 3 (.q 4 (.q 5 (.q 6 (.q 7 (.q 8 (.q 9 (.q 10 (.q 11 (.q 12 (.q 13 (.q 14 .nil))))))))))))))) (by kernel_rfl) (by kernel_rfl) ?_
              refine RS_q retB_noPanic rfl rfl rfl (ev_move rfl) ?_
              (first | refine RS_q retB_noPanic rfl rfl rfl (ev_nilCheck rfl) ?_ | refine RS_q retB_noPanic rfl rfl rfl (ev_nilCheckF (by simp) rfl) ?_)
              refine RS_q retB_noPanic rfl rfl rfl (ev_fieldAddr rfl) ?_
              refine RS_q retB_noPanic rfl rfl rfl (ev_load rfl (by repeat' first | exact Ld.blk rfl | assumption | apply Ld.skip | apply Ld.app)) ?_
              (first | refine RS_q retB_noPanic rfl rfl rfl (ev_neqNil rfl rfl) ?_ | refine RS_q retB_noPanic rfl rfl rfl (ev_neqPtr rfl rfl) ?_)
              refine RS_q retB_noPanic rfl rfl rfl (ev_move rfl) ?_
              refine RS_q_yes retB_noPanic rfl rfl rfl ⟨_, rfl, (by first | rfl | (rw [PA.isN_addr', hn]; done) | (rw [PA.isN_addr', hn]; rfl))⟩ rfl (ev_fieldAddr rfl) ?_
              refine RS_q_yes retB_noPanic rfl rfl rfl ⟨_, rfl, (by first | rfl | (rw [PA.isN_addr', hn]; done) | (rw [PA.isN_addr', hn]; rfl))⟩ rfl (ev_load rfl (by repeat' first | exact Ld.blk rfl | assumption | apply Ld.skip | apply Ld.app)) ?_
              refine RS_q_yes retB_noPanic rfl rfl rfl ⟨_, rfl, (by first | rfl | (rw [PA.isN_addr', hn]; done) | (rw [PA.isN_addr', hn]; rfl))⟩ rfl (ev_move rfl) ?_
              (first | refine RS_q_yes retB_noPanic rfl rfl rfl ⟨_, rfl, (by first | rfl | (rw [PA.isN_addr', hn]; done) | (rw [PA.isN_addr', hn]; rfl))⟩ rfl (ev_nilCheck rfl) ?_ | refine RS_q_yes retB_noPanic rfl rfl rfl ⟨_, rfl, (by first | rfl | (rw [PA.isN_addr', hn]; done) | (rw [PA.isN_addr', hn]; rfl))⟩ rfl (ev_nilCheckF (by simp) rfl) ?_)
              refine RS_q_yes retB_noPanic rfl rfl rfl ⟨_, rfl, (by first | rfl | (rw [PA.isN_addr', hn]; done) | (rw [PA.isN_addr', hn]; rfl))⟩ rfl (ev_fieldAddr rfl) ?_
              refine RS_q_yes retB_noPanic rfl rfl rfl ⟨_, rfl, (by first | rfl | (rw [PA.isN_addr', hn]; done) | (rw [PA.isN_addr', hn]; rfl))⟩ rfl (ev_fieldAddr rfl) ?_
              refine RS_q_yes retB_noPanic rfl rfl rfl ⟨_, rfl, (by first | rfl | (rw [PA.isN_addr', hn]; done) | (rw [PA.isN_addr', hn]; rfl))⟩ rfl (ev_load rfl (by repeat' first | exact Ld.blk rfl | assumption | apply Ld.skip | apply Ld.app)) ?_
              refine RS_q_yes retB_noPanic rfl rfl rfl ⟨_, rfl, (by first | rfl | (rw [PA.isN_addr', hn]; done) | (rw [PA.isN_addr', hn]; rfl))⟩ rfl (ev_geq rfl rfl) ?_
              refine RS_q retB_noPanic rfl rfl rfl (ev_pick_t rfl (by first | rfl | (rw [PA.isN_addr', hn]; done) | (rw [PA.isN_addr', hn]; rfl)) rfl) ?_
              refine RS_nil ?_
              (repeat first | refine G_seq ?_ | refine G_skip ?_ | refine G_endblk ?_ | refine G_block ?_ | refine G_exit rfl ?_)
              refine G_cond_f rfl (decide_eq_false hx) ?_
              (repeat first | refine G_seq ?_ | refine G_skip ?_ | refine G_endblk ?_ | refine G_block ?_ | refine G_exit rfl ?_)
              exact G_inv (A1, c1) (fun h => hA (by simpa using h)) ⟨rfl, rfl, by rw [List.append_nil]; rfl, trivial⟩ (by rw [List.append_nil]; exact (by (repeat first | exact en_refl | (apply en_blk; focus ((repeat' first | exact Pick.here | apply Pick.skip | apply Pick.app); done); focus rfl) | (apply en_own; focus ((repeat' first | exact Pick.here | apply Pick.skip | apply Pick.app); done); focus rfl) | (apply en_pick; focus ((repeat' first | exact Pick.here | apply Pick.skip | apply Pick.app); done)) | apply en_drop | apply en_app) <;> fail))
        · rintro ⟨A2, c2⟩ hA2
          simp only at hA2
          dsimp only
          (repeat first | refine G_seq ?_ | refine G_skip ?_ | refine G_endblk ?_ | refine G_block ?_ | refine G_exit rfl ?_)
          refine G_draw (.q 0 (.q 1 (.q 2 (.q 3 (.q 4 (.q 6 (.e 5 (.q 7 (.q 8 .nil))))))))) (by kernel_rfl) (by kernel_rfl) ?_
          refine RS_q retB_noPanic rfl rfl rfl (ev_loadN rfl (by repeat' first | exact LdN.blk rfl | assumption | apply LdN.skip | apply LdN.app)) ?_
          refine RS_q retB_noPanic rfl rfl rfl (ev_move rfl) ?_
          (first | refine RS_q retB_noPanic rfl rfl rfl (ev_nilCheck rfl) ?_ | refine RS_q retB_noPanic rfl rfl rfl (ev_nilCheckF (by simp) rfl) ?_)
          refine RS_q retB_noPanic rfl rfl rfl (ev_fieldAddr rfl) ?_
          refine RS_q retB_noPanic rfl rfl rfl (ev_loadN rfl (by repeat' first | exact LdN.blk rfl | assumption | apply LdN.skip | apply LdN.app)) ?_
          refine RS_q retB_noPanic rfl rfl rfl (ev_move rfl) ?_
          refine RS_e (RE_eff rfl rfl rfl (eff_call rfl (Sees_ctr w p _)) ?_); rintro _ _ ⟨rfl, rfl⟩; refine ⟨_, fun _ s => s, (by first | ((repeat first | exact fun _ s => s | apply en_keep | apply en_drop | apply en_app) <;> fail) | ((repeat first | exact en_refl | (apply en_blk; focus ((repeat' first | exact Pick.here | apply Pick.skip | apply Pick.app); done); focus rfl) | (apply en_own; focus ((repeat' first | exact Pick.here | apply Pick.skip | apply Pick.app); done); focus rfl) | (apply en_pick; focus ((repeat' first | exact Pick.here | apply Pick.skip | apply Pick.app); done)) | apply en_drop | apply en_app) <;> fail)), ?_⟩
          refine RS_q retB_noPanic rfl rfl rfl (ev_assign rfl) ?_
          refine RS_q retB_noPanic rfl rfl rfl (ev_assign rfl) ?_
          refine RS_nil ?_
          (repeat first | refine G_seq ?_ | refine G_skip ?_ | refine G_endblk ?_ | refine G_block ?_ | refine G_exit rfl ?_)
          exact G_ret (L' := own 67 1 A2 (l1 ++ l2).length c2 (flat (addrs (l1 ++ l2))) :: L) rfl (.tmp rfl (.tmp rfl .nil)) (by (repeat first | exact en_refl | (apply en_blk; focus ((repeat' first | exact Pick.here | apply Pick.skip | apply Pick.app); done); focus rfl) | (apply en_own; focus ((repeat' first | exact Pick.here | apply Pick.skip | apply Pick.app); done); focus rfl) | (apply en_pick; focus ((repeat' first | exact Pick.here | apply Pick.skip | apply Pick.app); done)) | apply en_drop | apply en_app) <;> fail) ⟨A2, c2, rfl, hA2, rfl⟩
end Go.Proofs.Ytalcanejhniepaa
