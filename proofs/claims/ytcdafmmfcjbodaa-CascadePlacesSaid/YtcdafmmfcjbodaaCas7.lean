/- Arrays that lead into one another: a small living one, which is sound. -/
import Derived.Test.YtcdafmmfcjbodaaCas6
namespace Go.Proofs.Ytcdafmmfcjbodaa
set_option linter.unusedVariables false
set_option linter.unusedSimpArgs false
set_option maxRecDepth 100000

/-- How many points of an array come ahead of one. -/
def aheadF (p : Pt) (low : Bool) (q : Pt) : Bool := decide (up q p < 0) || (decide (up q p = 0) && low)
theorem ahead_ctr (q : Option Addr) (t : Arr) (p : Pt) (low : Bool) (L : List HP) (h : ArrIn L q t) (hm : t.es.length ≤ 100000) :
    Ctr Try.prog 77 #[.pointer q, .agg #[.int .i64 p.id, .int .i64 p.x, .int .i64 p.y], .bool low] L fun v L' => v = .int .i64 (t.pts.countP (aheadF p low) : Nat) ∧ L' = L := by
  have hpl : t.pts.length = t.es.length := List.length_map ..
  refine Ctr_of (fn := Try.f77) (n := 35) Try.func77 rfl rfl rfl ?_
  intro g F
  (repeat first | refine G_seq ?_ | refine G_skip ?_ | refine G_endblk ?_ | refine G_block ?_ | refine G_exit rfl ?_)
  refine G_region ?_
  refine GO_eff rfl rfl (eff_box rfl) ?_; rintro _ _ ⟨b4, rfl, rfl⟩
  refine GO_q rfl rfl (ev_assign rfl) ?_
  refine GO_nil ?_
  (repeat first | refine G_seq ?_ | refine G_skip ?_ | refine G_endblk ?_ | refine G_block ?_ | refine G_exit rfl ?_)
  refine G_region ?_
  refine GO_q rfl rfl (ev_assign rfl) ?_
  refine GO_nil ?_
  (repeat first | refine G_seq ?_ | refine G_skip ?_ | refine G_endblk ?_ | refine G_block ?_ | refine G_exit rfl ?_)
  refine G_region ?_
  refine GO_q rfl rfl (ev_move rfl) ?_
  refine GO_eff rfl rfl (eff_call rfl (entries_ctr q t _ (by repeat' first | assumption | apply ArrIn.skip))) ?_; rintro _ _ ⟨⟨A, c, rfl, hr, hc, hc2⟩, rfl⟩
  refine GO_q rfl rfl (ev_len rfl) ?_
  refine GO_q rfl rfl (ev_move rfl) ?_
  refine GO_nil ?_
  (repeat first | refine G_seq ?_ | refine G_skip ?_ | refine G_endblk ?_ | refine G_block ?_ | refine G_exit rfl ?_)
  refine G_loop (ι := Nat) (fun k => [(2, .bool low), (4, .pointer (some ⟨b4, 0, none⟩)), (7, .int .i64 ((t.pts.take k).countP (aheadF p low) : Nat)), (12, .slice A t.es.length c), (13, .int .i64 (t.es.length : Nat)), (14, .int .i64 (k : Nat))]) (fun _ => blk b4 60 [.int .i64 p.id, .int .i64 p.x, .int .i64 p.y] :: F :: L) (fun k => k ≤ t.es.length) (fun k => t.es.length - k) 0 (Nat.zero_le _) ⟨rfl, rfl, rfl, rfl, rfl, rfl, trivial⟩ (by repeat first | exact fun _ s => s | apply en_keep | apply en_drop | apply en_app) ?_
  intro k hk
  have hcl : (t.pts.take k).countP (aheadF p low) ≤ k := Nat.le_trans List.countP_le_length (List.length_take_le _ _)
  (repeat first | refine G_seq ?_ | refine G_skip ?_ | refine G_endblk ?_ | refine G_block ?_ | refine G_exit rfl ?_)
  refine G_region ?_
  (first | refine GO_q rfl rfl (ev_lssN rfl rfl) ?_ | refine GO_q rfl rfl (ev_lss rfl rfl) ?_)
  refine GO_nil ?_
  (repeat first | refine G_seq ?_ | refine G_skip ?_ | refine G_endblk ?_ | refine G_block ?_ | refine G_exit rfl ?_)
  refine G_cond rfl (fun h1 => ?_) (fun h1 => ?_)
  · obtain ⟨bb, o, rfl, hx⟩ := hr.at_ (by omega)
    have hg : t.es[k]? = some t.es[k] := List.getElem?_eq_getElem (by omega)
    have hs := take_countP_succ (aheadF p low) t.pts k t.es[k].p (by simp [Arr.pts, hg])
    have h2 := hx _ _ hg
    generalize t.es[k] = e at *
    have h3 : LdN (blk b4 60 [.int .i64 p.id, .int .i64 p.x, .int .i64 p.y] :: F :: L) bb (o + k * 5) 5 [.int .i64 e.p.id, .int .i64 e.p.x, .int .i64 e.p.y, .int .i64 e.low, .int .i64 e.high] := h2
    (repeat first | refine G_seq ?_ | refine G_skip ?_ | refine G_endblk ?_ | refine G_block ?_ | refine G_exit rfl ?_)
    refine G_region ?_
    (first | refine GO_q rfl rfl (ev_indexAddrN rfl rfl (by omega)) ?_ | refine GO_q rfl rfl (ev_indexAddr rfl rfl (by omega) (by omega)) ?_)
    refine GO_q rfl rfl (ev_loadN rfl (by repeat' first | exact LdN.blk rfl | assumption | apply LdN.skip)) ?_
    refine GO_eff rfl rfl eff_alloc ?_; rintro _ _ ⟨b9, rfl, rfl⟩
    refine GO_eff rfl rfl (eff_storeN rfl rfl rfl rfl (by repeat' first | exact Upd.here rfl | apply Upd.skip)) ?_; rintro _ _ ⟨rfl, rfl⟩
    refine GO_nil ?_
    (repeat first | refine G_seq ?_ | refine G_skip ?_ | refine G_endblk ?_ | refine G_block ?_ | refine G_exit rfl ?_)
    refine G_region ?_
    refine GO_q rfl rfl (ev_fieldAddr rfl) ?_
    refine GO_q rfl rfl (ev_loadN rfl (by repeat' first | exact LdN.blk rfl | assumption | apply LdN.skip)) ?_
    refine GO_q rfl rfl (ev_loadN rfl (by repeat' first | exact LdN.blk rfl | assumption | apply LdN.skip)) ?_
    refine GO_eff rfl rfl (eff_call rfl (up_ctr e.p p _)) ?_; rintro _ _ ⟨rfl, rfl⟩
    refine GO_q rfl rfl (ev_assign rfl) ?_
    refine GO_nil ?_
    by_cases q1 : up e.p p < 0
    · (repeat first | refine G_seq ?_ | refine G_skip ?_ | refine G_endblk ?_ | refine G_block ?_ | refine G_exit rfl ?_)
      refine G_region ?_
      refine GO_q rfl rfl (ev_move rfl) ?_
      (first | refine GO_q rfl rfl (ev_lssN (q := 0) rfl rfl) ?_ | refine GO_q rfl rfl (ev_lss rfl rfl) ?_)
      refine GO_q rfl rfl (ev_move rfl) ?_
      refine GO_no rfl rfl rfl (decide_eq_true q1) ?_
      refine GO_no rfl rfl rfl (decide_eq_true q1) ?_
      refine GO_no rfl rfl rfl (decide_eq_true q1) ?_
      refine GO_undef rfl rfl rfl ?_
      refine GO_no rfl rfl rfl (decide_eq_true q1) ?_
      refine GO_q rfl rfl (ev_pick_t rfl (decide_eq_true q1) rfl) ?_
      refine GO_nil ?_
      (repeat first | refine G_seq ?_ | refine G_skip ?_ | refine G_endblk ?_ | refine G_block ?_ | refine G_exit rfl ?_)
      refine G_cond_t rfl rfl ?_
      (repeat first | refine G_seq ?_ | refine G_skip ?_ | refine G_endblk ?_ | refine G_block ?_ | refine G_exit rfl ?_)
      refine G_region ?_
      refine GO_q rfl rfl (ev_move rfl) ?_
      (first | refine GO_q rfl rfl (ev_addN (q := 1) rfl rfl (by omega)) ?_ | refine GO_q rfl rfl (ev_add rfl rfl (by omega)) ?_)
      refine GO_q rfl rfl (ev_assign rfl) ?_
      refine GO_nil ?_
      (repeat first | refine G_seq ?_ | refine G_skip ?_ | refine G_endblk ?_ | refine G_block ?_ | refine G_exit rfl ?_)
      refine G_region ?_
      (first | refine GO_q rfl rfl (ev_addN (q := 1) rfl rfl (by omega)) ?_ | refine GO_q rfl rfl (ev_add rfl rfl (by omega)) ?_)
      refine GO_q rfl rfl (ev_move rfl) ?_
      refine GO_nil ?_
      (repeat first | refine G_seq ?_ | refine G_skip ?_ | refine G_endblk ?_ | refine G_block ?_ | refine G_exit rfl ?_)
      exact G_round (k + 1) (by omega) (by omega) ⟨rfl, rfl, by rw [hs]; simp [aheadF, q1]; rfl, rfl, rfl, rfl, trivial⟩ (by repeat first | exact fun _ s => s | apply en_keep | apply en_drop | apply en_app)
    · by_cases q2 : up e.p p = 0
      · cases low with
        | true =>
          (repeat first | refine G_seq ?_ | refine G_skip ?_ | refine G_endblk ?_ | refine G_block ?_ | refine G_exit rfl ?_)
          refine G_region ?_
          refine GO_q rfl rfl (ev_move rfl) ?_
          (first | refine GO_q rfl rfl (ev_lssN (q := 0) rfl rfl) ?_ | refine GO_q rfl rfl (ev_lss rfl rfl) ?_)
          refine GO_q rfl rfl (ev_move rfl) ?_
          refine GO_yes rfl rfl rfl (decide_eq_false q1) ?_
          refine GO_q rfl rfl (ev_move rfl) ?_
          refine GO_yes rfl rfl rfl (decide_eq_false q1) ?_
          refine GO_q rfl rfl (ev_eql rfl rfl) ?_
          refine GO_yes rfl rfl rfl (decide_eq_false q1) ?_
          refine GO_q rfl rfl (ev_move rfl) ?_
          refine GO_yes rfl rfl rfl (decide_eq_true q2) ?_
          refine GO_q rfl rfl (ev_move rfl) ?_
          refine GO_yes rfl rfl rfl (decide_eq_false q1) ?_
          refine GO_q rfl rfl (ev_pick_t rfl (decide_eq_true q2) rfl) ?_
          refine GO_q rfl rfl (ev_pick_f rfl (decide_eq_false q1) rfl) ?_
          refine GO_nil ?_
          (repeat first | refine G_seq ?_ | refine G_skip ?_ | refine G_endblk ?_ | refine G_block ?_ | refine G_exit rfl ?_)
          refine G_cond_t rfl rfl ?_
          (repeat first | refine G_seq ?_ | refine G_skip ?_ | refine G_endblk ?_ | refine G_block ?_ | refine G_exit rfl ?_)
          refine G_region ?_
          refine GO_q rfl rfl (ev_move rfl) ?_
          (first | refine GO_q rfl rfl (ev_addN (q := 1) rfl rfl (by omega)) ?_ | refine GO_q rfl rfl (ev_add rfl rfl (by omega)) ?_)
          refine GO_q rfl rfl (ev_assign rfl) ?_
          refine GO_nil ?_
          (repeat first | refine G_seq ?_ | refine G_skip ?_ | refine G_endblk ?_ | refine G_block ?_ | refine G_exit rfl ?_)
          refine G_region ?_
          (first | refine GO_q rfl rfl (ev_addN (q := 1) rfl rfl (by omega)) ?_ | refine GO_q rfl rfl (ev_add rfl rfl (by omega)) ?_)
          refine GO_q rfl rfl (ev_move rfl) ?_
          refine GO_nil ?_
          (repeat first | refine G_seq ?_ | refine G_skip ?_ | refine G_endblk ?_ | refine G_block ?_ | refine G_exit rfl ?_)
          exact G_round (k + 1) (by omega) (by omega) ⟨rfl, rfl, by rw [hs]; simp [aheadF, q2]; rfl, rfl, rfl, rfl, trivial⟩ (by repeat first | exact fun _ s => s | apply en_keep | apply en_drop | apply en_app)
        | false =>
          (repeat first | refine G_seq ?_ | refine G_skip ?_ | refine G_endblk ?_ | refine G_block ?_ | refine G_exit rfl ?_)
          refine G_region ?_
          refine GO_q rfl rfl (ev_move rfl) ?_
          (first | refine GO_q rfl rfl (ev_lssN (q := 0) rfl rfl) ?_ | refine GO_q rfl rfl (ev_lss rfl rfl) ?_)
          refine GO_q rfl rfl (ev_move rfl) ?_
          refine GO_yes rfl rfl rfl (decide_eq_false q1) ?_
          refine GO_q rfl rfl (ev_move rfl) ?_
          refine GO_yes rfl rfl rfl (decide_eq_false q1) ?_
          refine GO_q rfl rfl (ev_eql rfl rfl) ?_
          refine GO_yes rfl rfl rfl (decide_eq_false q1) ?_
          refine GO_q rfl rfl (ev_move rfl) ?_
          refine GO_yes rfl rfl rfl (decide_eq_true q2) ?_
          refine GO_q rfl rfl (ev_move rfl) ?_
          refine GO_yes rfl rfl rfl (decide_eq_false q1) ?_
          refine GO_q rfl rfl (ev_pick_t rfl (decide_eq_true q2) rfl) ?_
          refine GO_q rfl rfl (ev_pick_f rfl (decide_eq_false q1) rfl) ?_
          refine GO_nil ?_
          (repeat first | refine G_seq ?_ | refine G_skip ?_ | refine G_endblk ?_ | refine G_block ?_ | refine G_exit rfl ?_)
          refine G_cond_f rfl rfl ?_
          (repeat first | refine G_seq ?_ | refine G_skip ?_ | refine G_endblk ?_ | refine G_block ?_ | refine G_exit rfl ?_)
          refine G_region ?_
          (first | refine GO_q rfl rfl (ev_addN (q := 1) rfl rfl (by omega)) ?_ | refine GO_q rfl rfl (ev_add rfl rfl (by omega)) ?_)
          refine GO_q rfl rfl (ev_move rfl) ?_
          refine GO_nil ?_
          (repeat first | refine G_seq ?_ | refine G_skip ?_ | refine G_endblk ?_ | refine G_block ?_ | refine G_exit rfl ?_)
          exact G_round (k + 1) (by omega) (by omega) ⟨rfl, rfl, by rw [hs]; simp [aheadF, q2]; rfl, rfl, rfl, rfl, trivial⟩ (by repeat first | exact fun _ s => s | apply en_keep | apply en_drop | apply en_app)
      · (repeat first | refine G_seq ?_ | refine G_skip ?_ | refine G_endblk ?_ | refine G_block ?_ | refine G_exit rfl ?_)
        refine G_region ?_
        refine GO_q rfl rfl (ev_move rfl) ?_
        (first | refine GO_q rfl rfl (ev_lssN (q := 0) rfl rfl) ?_ | refine GO_q rfl rfl (ev_lss rfl rfl) ?_)
        refine GO_q rfl rfl (ev_move rfl) ?_
        refine GO_yes rfl rfl rfl (decide_eq_false q1) ?_
        refine GO_q rfl rfl (ev_move rfl) ?_
        refine GO_yes rfl rfl rfl (decide_eq_false q1) ?_
        refine GO_q rfl rfl (ev_eql rfl rfl) ?_
        refine GO_yes rfl rfl rfl (decide_eq_false q1) ?_
        refine GO_q rfl rfl (ev_move rfl) ?_
        refine GO_no rfl rfl rfl (decide_eq_false q2) ?_
        refine GO_yes rfl rfl rfl (decide_eq_false q1) ?_
        refine GO_q rfl rfl (ev_pick_f rfl (decide_eq_false q2) rfl) ?_
        refine GO_q rfl rfl (ev_pick_f rfl (decide_eq_false q1) rfl) ?_
        refine GO_nil ?_
        (repeat first | refine G_seq ?_ | refine G_skip ?_ | refine G_endblk ?_ | refine G_block ?_ | refine G_exit rfl ?_)
        refine G_cond_f rfl rfl ?_
        (repeat first | refine G_seq ?_ | refine G_skip ?_ | refine G_endblk ?_ | refine G_block ?_ | refine G_exit rfl ?_)
        refine G_region ?_
        (first | refine GO_q rfl rfl (ev_addN (q := 1) rfl rfl (by omega)) ?_ | refine GO_q rfl rfl (ev_add rfl rfl (by omega)) ?_)
        refine GO_q rfl rfl (ev_move rfl) ?_
        refine GO_nil ?_
        (repeat first | refine G_seq ?_ | refine G_skip ?_ | refine G_endblk ?_ | refine G_block ?_ | refine G_exit rfl ?_)
        exact G_round (k + 1) (by omega) (by omega) ⟨rfl, rfl, by rw [hs]; simp [aheadF, q1, q2]; rfl, rfl, rfl, rfl, trivial⟩ (by repeat first | exact fun _ s => s | apply en_keep | apply en_drop | apply en_app)
  · have : k = t.es.length := by omega
    subst this
    (repeat first | refine G_seq ?_ | refine G_skip ?_ | refine G_endblk ?_ | refine G_block ?_ | refine G_exit rfl ?_)
    refine G_region ?_
    refine GO_q rfl rfl (ev_move rfl) ?_
    refine GO_q rfl rfl (ev_assign rfl) ?_
    refine GO_nil ?_
    (repeat first | refine G_seq ?_ | refine G_skip ?_ | refine G_endblk ?_ | refine G_block ?_ | refine G_exit rfl ?_)
    refine G_ret rfl (.tmp rfl .nil) (by repeat first | exact fun _ s => s | apply en_keep | apply en_drop | apply en_app) ⟨by rw [← hpl, List.take_length]; rfl, rfl⟩
theorem sound_nil (L : List HP) : Ctr Try.prog 62 #[.pointer none] L fun v L' => v = .bool true ∧ L' = L := by
  refine Ctr_of (fn := Try.f62) (n := 162) Try.func62 rfl rfl rfl ?_
  intro g F
  (repeat first | refine G_seq ?_ | refine G_skip ?_ | refine G_endblk ?_ | refine G_block ?_ | refine G_exit rfl ?_)
  refine G_region ?_
  refine GO_q rfl rfl (ev_assign rfl) ?_
  refine GO_nil ?_
  (repeat first | refine G_seq ?_ | refine G_skip ?_ | refine G_endblk ?_ | refine G_block ?_ | refine G_exit rfl ?_)
  refine G_region ?_
  refine GO_q rfl rfl (ev_move rfl) ?_
  (first | refine GO_q rfl rfl (ev_eqlNil rfl rfl) ?_ | refine GO_q rfl rfl (ev_eqlPtr rfl rfl) ?_)
  refine GO_nil ?_
  (repeat first | refine G_seq ?_ | refine G_skip ?_ | refine G_endblk ?_ | refine G_block ?_ | refine G_exit rfl ?_)
  refine G_cond_t rfl rfl ?_
  (repeat first | refine G_seq ?_ | refine G_skip ?_ | refine G_endblk ?_ | refine G_block ?_ | refine G_exit rfl ?_)
  refine G_region ?_
  refine GO_q rfl rfl (ev_assign rfl) ?_
  refine GO_nil ?_
  (repeat first | refine G_seq ?_ | refine G_skip ?_ | refine G_endblk ?_ | refine G_block ?_ | refine G_exit rfl ?_)
  refine G_ret rfl (.tmp rfl .nil) (by repeat first | exact fun _ s => s | apply en_keep | apply en_drop | apply en_app) ⟨rfl, rfl⟩
/-- An array that was joined of none. -/
theorem sound_leaf (q : Option Addr) (es : List Ent) (L : List HP) (h : ArrIn L q (.node es .nil .nil)) (hm : es.length ≤ 100000)
    (h1 : ∀ (k : Nat) (e f : Ent), es[k]? = some e → es[k + 1]? = some f → up e.p f.p ≤ 0) (h2 : ∀ (k : Nat) (e : Ent), es[k]? = some e → e.low ≤ 0 ∧ e.high ≤ 0) :
    Ctr Try.prog 62 #[.pointer q] L fun v L' => v = .bool true ∧ L' = L := by
  obtain ⟨b, A, c, _, _, rfl, x1, x2, x3, x4, rfl, rfl⟩ := h
  have y0 := x1.at_ (i := 0) rfl
  have y1 := x1.at_ (i := 1) rfl
  have y2 := x1.at_ (i := 2) rfl
  refine Ctr_of (fn := Try.f62) (n := 162) Try.func62 rfl rfl rfl ?_
  intro g F
  (repeat first | refine G_seq ?_ | refine G_skip ?_ | refine G_endblk ?_ | refine G_block ?_ | refine G_exit rfl ?_)
  refine G_region ?_
  refine GO_q rfl rfl (ev_assign rfl) ?_
  refine GO_nil ?_
  (repeat first | refine G_seq ?_ | refine G_skip ?_ | refine G_endblk ?_ | refine G_block ?_ | refine G_exit rfl ?_)
  refine G_region ?_
  refine GO_q rfl rfl (ev_move rfl) ?_
  (first | refine GO_q rfl rfl (ev_eqlNil rfl rfl) ?_ | refine GO_q rfl rfl (ev_eqlPtr rfl rfl) ?_)
  refine GO_nil ?_
  (repeat first | refine G_seq ?_ | refine G_skip ?_ | refine G_endblk ?_ | refine G_block ?_ | refine G_exit rfl ?_)
  refine G_cond_f rfl rfl ?_
  (repeat first | refine G_seq ?_ | refine G_skip ?_ | refine G_endblk ?_ | refine G_block ?_ | refine G_exit rfl ?_)
  refine G_region ?_
  refine GO_q rfl rfl (ev_move rfl) ?_
  (first | refine GO_q rfl rfl (ev_nilCheck rfl) ?_ | refine GO_q rfl rfl (ev_nilCheckF (by simp) rfl) ?_)
  refine GO_q rfl rfl (ev_fieldAddr rfl) ?_
  refine GO_q rfl rfl (ev_load rfl (by repeat' first | exact Ld.blk rfl | assumption | apply Ld.skip)) ?_
  (first | refine GO_q rfl rfl (ev_neqNil rfl rfl) ?_ | refine GO_q rfl rfl (ev_neqPtr rfl rfl) ?_)
  refine GO_q rfl rfl (ev_move rfl) ?_
  refine GO_yes rfl rfl rfl rfl ?_
  refine GO_q rfl rfl (ev_move rfl) ?_
  refine GO_yes rfl rfl rfl rfl ?_
  (first | refine GO_q rfl rfl (ev_nilCheck rfl) ?_ | refine GO_q rfl rfl (ev_nilCheckF (by simp) rfl) ?_)
  refine GO_yes rfl rfl rfl rfl ?_
  refine GO_q rfl rfl (ev_fieldAddr rfl) ?_
  refine GO_yes rfl rfl rfl rfl ?_
  refine GO_q rfl rfl (ev_load rfl (by repeat' first | exact Ld.blk rfl | assumption | apply Ld.skip)) ?_
  refine GO_yes rfl rfl rfl rfl ?_
  (first | refine GO_q rfl rfl (ev_neqNil rfl rfl) ?_ | refine GO_q rfl rfl (ev_neqPtr rfl rfl) ?_)
  refine GO_q rfl rfl (ev_pick_f rfl rfl rfl) ?_
  refine GO_q rfl rfl (ev_assign rfl) ?_
  refine GO_nil ?_
  (repeat first | refine G_seq ?_ | refine G_skip ?_ | refine G_endblk ?_ | refine G_block ?_ | refine G_exit rfl ?_)
  refine G_region ?_
  refine GO_q rfl rfl (ev_move rfl) ?_
  (first | refine GO_q rfl rfl (ev_nilCheck rfl) ?_ | refine GO_q rfl rfl (ev_nilCheckF (by simp) rfl) ?_)
  refine GO_q rfl rfl (ev_fieldAddr rfl) ?_
  refine GO_q rfl rfl (ev_load rfl (by repeat' first | exact Ld.blk rfl | assumption | apply Ld.skip)) ?_
  refine GO_q rfl rfl (ev_len rfl) ?_
  refine GO_q rfl rfl (ev_move rfl) ?_
  refine GO_nil ?_
  (repeat first | refine G_seq ?_ | refine G_skip ?_ | refine G_endblk ?_ | refine G_block ?_ | refine G_exit rfl ?_)
  refine G_loop (ι := Nat) (fun k => [(0, .pointer (some ⟨b, 0, none⟩)), (3, .bool false), (23, .slice A es.length c), (24, .int .i64 (es.length : Nat)), (25, .int .i64 (k : Nat))]) (fun _ => F :: L) (fun k => k ≤ es.length) (fun k => es.length - k) 0 (Nat.zero_le _) ⟨rfl, rfl, rfl, rfl, rfl, trivial⟩ (by repeat first | exact fun _ s => s | apply en_keep | apply en_drop | apply en_app) ?_
  intro k hk
  (repeat first | refine G_seq ?_ | refine G_skip ?_ | refine G_endblk ?_ | refine G_block ?_ | refine G_exit rfl ?_)
  refine G_region ?_
  (first | refine GO_q rfl rfl (ev_lssN rfl rfl) ?_ | refine GO_q rfl rfl (ev_lss rfl rfl) ?_)
  refine GO_nil ?_
  (repeat first | refine G_seq ?_ | refine G_skip ?_ | refine G_endblk ?_ | refine G_block ?_ | refine G_exit rfl ?_)
  refine G_cond rfl (fun c1 => ?_) (fun c1 => ?_)
  · obtain ⟨bb, o, rfl, hx⟩ := x2.at_ (by omega)
    have hg : es[k]? = some es[k] := List.getElem?_eq_getElem (by omega)
    have w2 := hx _ _ hg
    have w3 := h2 k _ hg
    have hprev : 0 < k → ∃ f : Ent, LdN L bb (o + (k - 1) * 5) 3 [.int .i64 f.p.id, .int .i64 f.p.x, .int .i64 f.p.y] ∧ up f.p es[k].p ≤ 0 := fun h0 => by
      have hg' : es[k - 1]? = some es[k - 1] := List.getElem?_eq_getElem (by omega)
      exact ⟨es[k - 1], (hx _ _ hg').part 3 rfl, h1 (k - 1) _ _ hg' (by rw [Nat.sub_add_cancel h0]; exact hg)⟩
    generalize es[k] = e at *
    have w4 : LdN L bb (o + k * 5) 5 [.int .i64 e.p.id, .int .i64 e.p.x, .int .i64 e.p.y, .int .i64 e.low, .int .i64 e.high] := w2
    have n1 : ¬ ((0 : Int) < e.low) := by omega
    have n2 : ¬ ((0 : Int) < e.high) := by omega
    (repeat first | refine G_seq ?_ | refine G_skip ?_ | refine G_endblk ?_ | refine G_block ?_ | refine G_exit rfl ?_)
    refine G_region ?_
    refine GO_q rfl rfl (ev_move rfl) ?_
    (first | refine GO_q rfl rfl (ev_indexAddrN rfl rfl (by omega)) ?_ | refine GO_q rfl rfl (ev_indexAddr rfl rfl (by omega) (by omega)) ?_)
    refine GO_q rfl rfl (ev_loadN rfl (by repeat' first | exact LdN.blk rfl | assumption | apply LdN.skip)) ?_
    refine GO_eff rfl rfl eff_alloc ?_; rintro _ _ ⟨b5, rfl, rfl⟩
    refine GO_q rfl rfl (ev_assign rfl) ?_
    refine GO_eff rfl rfl (eff_storeN rfl rfl rfl rfl (by repeat' first | exact Upd.here rfl | apply Upd.skip)) ?_; rintro _ _ ⟨rfl, rfl⟩
    refine GO_nil ?_
    by_cases h0 : 0 < k
    · obtain ⟨f, w5, w6⟩ := hprev h0
      have w7 : ¬ (0 < up f.p e.p) := by omega
      (repeat first | refine G_seq ?_ | refine G_skip ?_ | refine G_endblk ?_ | refine G_block ?_ | refine G_exit rfl ?_)
      refine G_draw (.q 0 (.q 1 (.q 2 (.q 3 (.q 4 (.q 5 (.q 6 (.q 7 (.q 8 (.q 9 (.q 10 (.q 11 (.q 12 (.q 13 (.e 14 (.q 15 (.q 16 .nil))))))))))))))))) (by kernel_rfl) (by kernel_rfl) ?_
      refine RS_q retB_noPanic rfl rfl rfl (ev_move rfl) ?_
      refine RS_q retB_noPanic rfl rfl rfl (ev_gtr rfl rfl) ?_
      refine RS_q retB_noPanic rfl rfl rfl (ev_move rfl) ?_
      refine RS_q_yes retB_noPanic rfl rfl rfl ⟨_, rfl, (decide_eq_true (by omega))⟩ rfl (ev_move rfl) ?_
      (first | refine RS_q_yes retB_noPanic rfl rfl rfl ⟨_, rfl, (decide_eq_true (by omega))⟩ rfl (ev_nilCheck rfl) ?_ | refine RS_q_yes retB_noPanic rfl rfl rfl ⟨_, rfl, (decide_eq_true (by omega))⟩ rfl (ev_nilCheckF (by simp) rfl) ?_)
      refine RS_q_yes retB_noPanic rfl rfl rfl ⟨_, rfl, (decide_eq_true (by omega))⟩ rfl (ev_fieldAddr rfl) ?_
      refine RS_q_yes retB_noPanic rfl rfl rfl ⟨_, rfl, (decide_eq_true (by omega))⟩ rfl (ev_load rfl (by repeat' first | exact Ld.blk rfl | assumption | apply Ld.skip)) ?_
      refine RS_q_yes retB_noPanic rfl rfl rfl ⟨_, rfl, (decide_eq_true (by omega))⟩ rfl (ev_move rfl) ?_
      (first | refine RS_q_yes retB_noPanic rfl rfl rfl ⟨_, rfl, (decide_eq_true (by omega))⟩ rfl (ev_subN (q := 1) rfl rfl (by omega)) ?_ | refine RS_q_yes retB_noPanic rfl rfl rfl ⟨_, rfl, (decide_eq_true (by omega))⟩ rfl (ev_sub rfl rfl (by omega)) ?_)
      (first | refine RS_q_yes retB_noPanic rfl rfl rfl ⟨_, rfl, (decide_eq_true (by omega))⟩ rfl (ev_indexAddrN rfl rfl (by omega)) ?_ | refine RS_q_yes retB_noPanic rfl rfl rfl ⟨_, rfl, (decide_eq_true (by omega))⟩ rfl (ev_indexAddr rfl rfl (by omega) (by omega)) ?_)
      refine RS_q_yes retB_noPanic rfl rfl rfl ⟨_, rfl, (decide_eq_true (by omega))⟩ rfl (ev_fieldAddr rfl) ?_
      refine RS_q_yes retB_noPanic rfl rfl rfl ⟨_, rfl, (decide_eq_true (by omega))⟩ rfl (ev_loadN rfl (by repeat' first | exact LdN.blk rfl | assumption | apply LdN.skip)) ?_
      refine RS_q_yes retB_noPanic rfl rfl rfl ⟨_, rfl, (decide_eq_true (by omega))⟩ rfl (ev_fieldAddr rfl) ?_
      refine RS_q_yes retB_noPanic rfl rfl rfl ⟨_, rfl, (decide_eq_true (by omega))⟩ rfl (ev_loadN rfl (by repeat' first | exact LdN.blk rfl | assumption | apply LdN.skip)) ?_
      refine RS_e (RE_eff_yes rfl rfl rfl ⟨_, rfl, (decide_eq_true (by omega))⟩ rfl (eff_call rfl (up_ctr f.p e.p _)) ?_); rintro _ _ ⟨rfl, rfl⟩; refine ⟨_, fun _ s => s, (by repeat first | exact fun _ s => s | apply en_keep | apply en_drop | apply en_app), ?_⟩
      refine RS_q_yes retB_noPanic rfl rfl rfl ⟨_, rfl, (decide_eq_true (by omega))⟩ rfl (ev_gtr rfl rfl) ?_
      refine RS_q retB_noPanic rfl rfl rfl (ev_pick_t rfl (decide_eq_true (by omega)) rfl) ?_
      refine RS_nil ?_
      (repeat first | refine G_seq ?_ | refine G_skip ?_ | refine G_endblk ?_ | refine G_block ?_ | refine G_exit rfl ?_)
      refine G_cond_f rfl (decide_eq_false w7) ?_
      (repeat first | refine G_seq ?_ | refine G_skip ?_ | refine G_endblk ?_ | refine G_block ?_ | refine G_exit rfl ?_)
      refine G_draw (.q 0 (.q 1 (.q 2 (.q 3 (.q 4 (.q 5 (.q 6 (.q 7 (.q 8 (.q 9 (.q 10 (.q 11 (.q 12 (.q 13 (.q 14 (.q 15 (.q 16 (.e 17 (.q 18 (.q 19 (.q 20 (.q 21 (.q 22 (.q 23 (.q 24 (.q 25 (.q 26 (.e 27 (.q 28 (.q 29 .nil)))))))))))))))))))))))))))))) (by kernel_rfl) (by kernel_rfl) ?_
      refine RS_q retB_noPanic rfl rfl rfl (ev_move rfl) ?_
      refine RS_q retB_noPanic rfl rfl rfl (ev_move rfl) ?_
      refine RS_q_no retB_noPanic rfl rfl rfl ⟨_, rfl, rfl⟩ rfl ?_
      refine RS_q_no retB_noPanic rfl rfl rfl ⟨_, rfl, rfl⟩ rfl ?_
      refine RS_q_no retB_noPanic rfl rfl rfl ⟨_, rfl, rfl⟩ rfl ?_
      refine RS_q_no retB_noPanic rfl rfl rfl ⟨_, rfl, rfl⟩ rfl ?_
      refine RS_q_no retB_noPanic rfl rfl rfl ⟨_, rfl, rfl⟩ rfl ?_
      refine RS_q_no retB_noPanic rfl rfl rfl ⟨_, rfl, rfl⟩ rfl ?_
      refine RS_q_no retB_noPanic rfl rfl rfl ⟨_, rfl, rfl⟩ rfl ?_
      refine RS_q retB_noPanic rfl rfl rfl (ev_pick_f rfl rfl rfl) ?_
      refine RS_q retB_noPanic rfl rfl rfl (ev_move rfl) ?_
      refine RS_q_yes retB_noPanic rfl rfl rfl ⟨_, rfl, rfl⟩ rfl (ev_fieldAddr rfl) ?_
      refine RS_q_yes retB_noPanic rfl rfl rfl ⟨_, rfl, rfl⟩ rfl (ev_load rfl (by repeat' first | exact Ld.blk rfl | assumption | apply Ld.skip)) ?_
      refine RS_q_yes retB_noPanic rfl rfl rfl ⟨_, rfl, rfl⟩ rfl (ev_move rfl) ?_
      (first | refine RS_q_yes retB_noPanic rfl rfl rfl ⟨_, rfl, rfl⟩ rfl (ev_nilCheck rfl) ?_ | refine RS_q_yes retB_noPanic rfl rfl rfl ⟨_, rfl, rfl⟩ rfl (ev_nilCheckF (by simp) rfl) ?_)
      refine RS_q_yes retB_noPanic rfl rfl rfl ⟨_, rfl, rfl⟩ rfl (ev_fieldAddr rfl) ?_
      refine RS_q_yes retB_noPanic rfl rfl rfl ⟨_, rfl, rfl⟩ rfl (ev_load rfl (by repeat' first | exact Ld.blk rfl | assumption | apply Ld.skip)) ?_
      refine RS_e (RE_eff_yes rfl rfl rfl ⟨_, rfl, rfl⟩ rfl (eff_call rfl (size_ctr none .nil _ rfl)) ?_); rintro _ _ ⟨rfl, rfl⟩; refine ⟨_, fun _ s => s, (by repeat first | exact fun _ s => s | apply en_keep | apply en_drop | apply en_app), ?_⟩
      refine RS_q_yes retB_noPanic rfl rfl rfl ⟨_, rfl, rfl⟩ rfl (ev_gtr rfl rfl) ?_
      refine RS_q retB_noPanic rfl rfl rfl (ev_pick_f rfl rfl rfl) ?_
      refine RS_q retB_noPanic rfl rfl rfl (ev_move rfl) ?_
      refine RS_q_yes retB_noPanic rfl rfl rfl ⟨_, rfl, (decide_eq_false n1)⟩ rfl (ev_fieldAddr rfl) ?_
      refine RS_q_yes retB_noPanic rfl rfl rfl ⟨_, rfl, (decide_eq_false n1)⟩ rfl (ev_load rfl (by repeat' first | exact Ld.blk rfl | assumption | apply Ld.skip)) ?_
      refine RS_q_yes retB_noPanic rfl rfl rfl ⟨_, rfl, (decide_eq_false n1)⟩ rfl (ev_move rfl) ?_
      (first | refine RS_q_yes retB_noPanic rfl rfl rfl ⟨_, rfl, (decide_eq_false n1)⟩ rfl (ev_nilCheck rfl) ?_ | refine RS_q_yes retB_noPanic rfl rfl rfl ⟨_, rfl, (decide_eq_false n1)⟩ rfl (ev_nilCheckF (by simp) rfl) ?_)
      refine RS_q_yes retB_noPanic rfl rfl rfl ⟨_, rfl, (decide_eq_false n1)⟩ rfl (ev_fieldAddr rfl) ?_
      refine RS_q_yes retB_noPanic rfl rfl rfl ⟨_, rfl, (decide_eq_false n1)⟩ rfl (ev_load rfl (by repeat' first | exact Ld.blk rfl | assumption | apply Ld.skip)) ?_
      refine RS_e (RE_eff_yes rfl rfl rfl ⟨_, rfl, (decide_eq_false n1)⟩ rfl (eff_call rfl (size_ctr none .nil _ rfl)) ?_); rintro _ _ ⟨rfl, rfl⟩; refine ⟨_, fun _ s => s, (by repeat first | exact fun _ s => s | apply en_keep | apply en_drop | apply en_app), ?_⟩
      refine RS_q_yes retB_noPanic rfl rfl rfl ⟨_, rfl, (decide_eq_false n1)⟩ rfl (ev_gtr rfl rfl) ?_
      refine RS_q retB_noPanic rfl rfl rfl (ev_pick_f rfl (decide_eq_false n1) rfl) ?_
      refine RS_nil ?_
      (repeat first | refine G_seq ?_ | refine G_skip ?_ | refine G_endblk ?_ | refine G_block ?_ | refine G_exit rfl ?_)
      refine G_cond_f rfl (decide_eq_false n2) ?_
      (repeat first | refine G_seq ?_ | refine G_skip ?_ | refine G_endblk ?_ | refine G_block ?_ | refine G_exit rfl ?_)
      refine G_draw (.q 0 (.q 1 (.q 2 (.q 3 (.q 4 (.q 5 (.q 6 (.q 7 (.q 8 (.q 9 (.e 10 (.q 11 (.q 12 (.q 13 (.q 14 (.q 15 (.q 16 (.q 17 (.q 18 (.q 19 (.q 20 (.e 21 (.q 22 (.q 23 (.q 24 (.q 25 (.q 26 (.q 27 (.q 28 (.q 29 (.q 30 (.q 31 (.q 32 (.e 33 (.q 34 (.q 35 (.q 36 (.q 37 (.q 38 (.q 39 (.q 40 (.q 41 (.q 42 (.q 43 (.q 44 (.e 45 (.q 46 (.q 47 (.q 48 .nil))))))))))))))))))))))))))))))))))))))))))))))))) (by kernel_rfl) (by kernel_rfl) ?_
      refine RS_q retB_noPanic rfl rfl rfl (ev_move rfl) ?_
      refine RS_q retB_noPanic rfl rfl rfl (ev_move rfl) ?_
      refine RS_q_no retB_noPanic rfl rfl rfl ⟨_, rfl, rfl⟩ rfl ?_
      refine RS_q_no retB_noPanic rfl rfl rfl ⟨_, rfl, rfl⟩ rfl ?_
      refine RS_q_no retB_noPanic rfl rfl rfl ⟨_, rfl, rfl⟩ rfl ?_
      refine RS_q_no retB_noPanic rfl rfl rfl ⟨_, rfl, rfl⟩ rfl ?_
      refine RS_q_no retB_noPanic rfl rfl rfl ⟨_, rfl, rfl⟩ rfl ?_
      refine RS_q_no retB_noPanic rfl rfl rfl ⟨_, rfl, rfl⟩ rfl ?_
      refine RS_q_no retB_noPanic rfl rfl rfl ⟨_, rfl, rfl⟩ rfl ?_
      refine RS_q_no retB_noPanic rfl rfl rfl ⟨_, rfl, rfl⟩ rfl ?_
      refine RS_e (RE_no rfl rfl rfl ⟨_, rfl, rfl⟩ rfl ?_)
      refine RS_q_no retB_noPanic rfl rfl rfl ⟨_, rfl, rfl⟩ rfl ?_
      refine RS_q_no retB_noPanic rfl rfl rfl ⟨_, rfl, rfl⟩ rfl ?_
      refine RS_q_undef retB_noPanic rfl rfl rfl rfl rfl ?_
      refine RS_q_undef retB_noPanic rfl rfl rfl rfl rfl ?_
      refine RS_q_undef retB_noPanic rfl rfl rfl rfl rfl ?_
      refine RS_q_undef retB_noPanic rfl rfl rfl rfl rfl ?_
      refine RS_q_undef retB_noPanic rfl rfl rfl rfl rfl ?_
      refine RS_q_undef retB_noPanic rfl rfl rfl rfl rfl ?_
      refine RS_q_undef retB_noPanic rfl rfl rfl rfl rfl ?_
      refine RS_q_undef retB_noPanic rfl rfl rfl rfl rfl ?_
      refine RS_e (RE_undef rfl rfl rfl rfl rfl ?_)
      refine RS_q_undef retB_noPanic rfl rfl rfl rfl rfl ?_
      refine RS_q_no retB_noPanic rfl rfl rfl ⟨_, rfl, rfl⟩ rfl ?_
      refine RS_q_no retB_noPanic rfl rfl rfl ⟨_, rfl, rfl⟩ rfl ?_
      refine RS_q_undef retB_noPanic rfl rfl rfl rfl rfl ?_
      refine RS_q_undef retB_noPanic rfl rfl rfl rfl rfl ?_
      refine RS_q_undef retB_noPanic rfl rfl rfl rfl rfl ?_
      refine RS_q_undef retB_noPanic rfl rfl rfl rfl rfl ?_
      refine RS_q_undef retB_noPanic rfl rfl rfl rfl rfl ?_
      refine RS_q_undef retB_noPanic rfl rfl rfl rfl rfl ?_
      refine RS_q_undef retB_noPanic rfl rfl rfl rfl rfl ?_
      refine RS_q_undef retB_noPanic rfl rfl rfl rfl rfl ?_
      refine RS_e (RE_undef rfl rfl rfl rfl rfl ?_)
      refine RS_q_undef retB_noPanic rfl rfl rfl rfl rfl ?_
      refine RS_q_no retB_noPanic rfl rfl rfl ⟨_, rfl, rfl⟩ rfl ?_
      refine RS_q_no retB_noPanic rfl rfl rfl ⟨_, rfl, rfl⟩ rfl ?_
      refine RS_q_undef retB_noPanic rfl rfl rfl rfl rfl ?_
      refine RS_q_undef retB_noPanic rfl rfl rfl rfl rfl ?_
      refine RS_q_undef retB_noPanic rfl rfl rfl rfl rfl ?_
      refine RS_q_undef retB_noPanic rfl rfl rfl rfl rfl ?_
      refine RS_q_undef retB_noPanic rfl rfl rfl rfl rfl ?_
      refine RS_q_undef retB_noPanic rfl rfl rfl rfl rfl ?_
      refine RS_q_undef retB_noPanic rfl rfl rfl rfl rfl ?_
      refine RS_q_undef retB_noPanic rfl rfl rfl rfl rfl ?_
      refine RS_e (RE_undef rfl rfl rfl rfl rfl ?_)
      refine RS_q_undef retB_noPanic rfl rfl rfl rfl rfl ?_
      refine RS_q_no retB_noPanic rfl rfl rfl ⟨_, rfl, rfl⟩ rfl ?_
      refine RS_q retB_noPanic rfl rfl rfl (ev_pick_f rfl rfl rfl) ?_
      refine RS_nil ?_
      (repeat first | refine G_seq ?_ | refine G_skip ?_ | refine G_endblk ?_ | refine G_block ?_ | refine G_exit rfl ?_)
      refine G_cond_f rfl rfl ?_
      (repeat first | refine G_seq ?_ | refine G_skip ?_ | refine G_endblk ?_ | refine G_block ?_ | refine G_exit rfl ?_)
      refine G_region ?_
      (first | refine GO_q rfl rfl (ev_addN (q := 1) rfl rfl (by omega)) ?_ | refine GO_q rfl rfl (ev_add rfl rfl (by omega)) ?_)
      refine GO_q rfl rfl (ev_move rfl) ?_
      refine GO_nil ?_
      (repeat first | refine G_seq ?_ | refine G_skip ?_ | refine G_endblk ?_ | refine G_block ?_ | refine G_exit rfl ?_)
      exact G_round (k + 1) (by omega) (by omega) ⟨rfl, rfl, rfl, rfl, rfl, trivial⟩ (by repeat first | exact fun _ s => s | apply en_keep | apply en_drop | apply en_app)
    · (repeat first | refine G_seq ?_ | refine G_skip ?_ | refine G_endblk ?_ | refine G_block ?_ | refine G_exit rfl ?_)
      refine G_draw (.q 0 (.q 1 (.q 2 (.q 3 (.q 4 (.q 5 (.q 6 (.q 7 (.q 8 (.q 9 (.q 10 (.q 11 (.q 12 (.q 13 (.e 14 (.q 15 (.q 16 .nil))))))))))))))))) (by kernel_rfl) (by kernel_rfl) ?_
      refine RS_q retB_noPanic rfl rfl rfl (ev_move rfl) ?_
      refine RS_q retB_noPanic rfl rfl rfl (ev_gtr rfl rfl) ?_
      refine RS_q retB_noPanic rfl rfl rfl (ev_move rfl) ?_
      refine RS_q_no retB_noPanic rfl rfl rfl ⟨_, rfl, (decide_eq_false (by omega))⟩ rfl ?_
      refine RS_q_no retB_noPanic rfl rfl rfl ⟨_, rfl, (decide_eq_false (by omega))⟩ rfl ?_
      refine RS_q_no retB_noPanic rfl rfl rfl ⟨_, rfl, (decide_eq_false (by omega))⟩ rfl ?_
      refine RS_q_no retB_noPanic rfl rfl rfl ⟨_, rfl, (decide_eq_false (by omega))⟩ rfl ?_
      refine RS_q_no retB_noPanic rfl rfl rfl ⟨_, rfl, (decide_eq_false (by omega))⟩ rfl ?_
      refine RS_q_no retB_noPanic rfl rfl rfl ⟨_, rfl, (decide_eq_false (by omega))⟩ rfl ?_
      refine RS_q_no retB_noPanic rfl rfl rfl ⟨_, rfl, (decide_eq_false (by omega))⟩ rfl ?_
      refine RS_q_no retB_noPanic rfl rfl rfl ⟨_, rfl, (decide_eq_false (by omega))⟩ rfl ?_
      refine RS_q_no retB_noPanic rfl rfl rfl ⟨_, rfl, (decide_eq_false (by omega))⟩ rfl ?_
      refine RS_q_no retB_noPanic rfl rfl rfl ⟨_, rfl, (decide_eq_false (by omega))⟩ rfl ?_
      refine RS_q_no retB_noPanic rfl rfl rfl ⟨_, rfl, (decide_eq_false (by omega))⟩ rfl ?_
      refine RS_e (RE_no rfl rfl rfl ⟨_, rfl, (decide_eq_false (by omega))⟩ rfl ?_)
      refine RS_q_no retB_noPanic rfl rfl rfl ⟨_, rfl, (decide_eq_false (by omega))⟩ rfl ?_
      refine RS_q retB_noPanic rfl rfl rfl (ev_pick_f rfl (decide_eq_false (by omega)) rfl) ?_
      refine RS_nil ?_
      (repeat first | refine G_seq ?_ | refine G_skip ?_ | refine G_endblk ?_ | refine G_block ?_ | refine G_exit rfl ?_)
      refine G_cond_f rfl rfl ?_
      (repeat first | refine G_seq ?_ | refine G_skip ?_ | refine G_endblk ?_ | refine G_block ?_ | refine G_exit rfl ?_)
      refine G_draw (.q 0 (.q 1 (.q 2 (.q 3 (.q 4 (.q 5 (.q 6 (.q 7 (.q 8 (.q 9 (.q 10 (.q 11 (.q 12 (.q 13 (.q 14 (.q 15 (.q 16 (.e 17 (.q 18 (.q 19 (.q 20 (.q 21 (.q 22 (.q 23 (.q 24 (.q 25 (.q 26 (.e 27 (.q 28 (.q 29 .nil)))))))))))))))))))))))))))))) (by kernel_rfl) (by kernel_rfl) ?_
      refine RS_q retB_noPanic rfl rfl rfl (ev_move rfl) ?_
      refine RS_q retB_noPanic rfl rfl rfl (ev_move rfl) ?_
      refine RS_q_no retB_noPanic rfl rfl rfl ⟨_, rfl, rfl⟩ rfl ?_
      refine RS_q_no retB_noPanic rfl rfl rfl ⟨_, rfl, rfl⟩ rfl ?_
      refine RS_q_no retB_noPanic rfl rfl rfl ⟨_, rfl, rfl⟩ rfl ?_
      refine RS_q_no retB_noPanic rfl rfl rfl ⟨_, rfl, rfl⟩ rfl ?_
      refine RS_q_no retB_noPanic rfl rfl rfl ⟨_, rfl, rfl⟩ rfl ?_
      refine RS_q_no retB_noPanic rfl rfl rfl ⟨_, rfl, rfl⟩ rfl ?_
      refine RS_q_no retB_noPanic rfl rfl rfl ⟨_, rfl, rfl⟩ rfl ?_
      refine RS_q retB_noPanic rfl rfl rfl (ev_pick_f rfl rfl rfl) ?_
      refine RS_q retB_noPanic rfl rfl rfl (ev_move rfl) ?_
      refine RS_q_yes retB_noPanic rfl rfl rfl ⟨_, rfl, rfl⟩ rfl (ev_fieldAddr rfl) ?_
      refine RS_q_yes retB_noPanic rfl rfl rfl ⟨_, rfl, rfl⟩ rfl (ev_load rfl (by repeat' first | exact Ld.blk rfl | assumption | apply Ld.skip)) ?_
      refine RS_q_yes retB_noPanic rfl rfl rfl ⟨_, rfl, rfl⟩ rfl (ev_move rfl) ?_
      (first | refine RS_q_yes retB_noPanic rfl rfl rfl ⟨_, rfl, rfl⟩ rfl (ev_nilCheck rfl) ?_ | refine RS_q_yes retB_noPanic rfl rfl rfl ⟨_, rfl, rfl⟩ rfl (ev_nilCheckF (by simp) rfl) ?_)
      refine RS_q_yes retB_noPanic rfl rfl rfl ⟨_, rfl, rfl⟩ rfl (ev_fieldAddr rfl) ?_
      refine RS_q_yes retB_noPanic rfl rfl rfl ⟨_, rfl, rfl⟩ rfl (ev_load rfl (by repeat' first | exact Ld.blk rfl | assumption | apply Ld.skip)) ?_
      refine RS_e (RE_eff_yes rfl rfl rfl ⟨_, rfl, rfl⟩ rfl (eff_call rfl (size_ctr none .nil _ rfl)) ?_); rintro _ _ ⟨rfl, rfl⟩; refine ⟨_, fun _ s => s, (by repeat first | exact fun _ s => s | apply en_keep | apply en_drop | apply en_app), ?_⟩
      refine RS_q_yes retB_noPanic rfl rfl rfl ⟨_, rfl, rfl⟩ rfl (ev_gtr rfl rfl) ?_
      refine RS_q retB_noPanic rfl rfl rfl (ev_pick_f rfl rfl rfl) ?_
      refine RS_q retB_noPanic rfl rfl rfl (ev_move rfl) ?_
      refine RS_q_yes retB_noPanic rfl rfl rfl ⟨_, rfl, (decide_eq_false n1)⟩ rfl (ev_fieldAddr rfl) ?_
      refine RS_q_yes retB_noPanic rfl rfl rfl ⟨_, rfl, (decide_eq_false n1)⟩ rfl (ev_load rfl (by repeat' first | exact Ld.blk rfl | assumption | apply Ld.skip)) ?_
      refine RS_q_yes retB_noPanic rfl rfl rfl ⟨_, rfl, (decide_eq_false n1)⟩ rfl (ev_move rfl) ?_
      (first | refine RS_q_yes retB_noPanic rfl rfl rfl ⟨_, rfl, (decide_eq_false n1)⟩ rfl (ev_nilCheck rfl) ?_ | refine RS_q_yes retB_noPanic rfl rfl rfl ⟨_, rfl, (decide_eq_false n1)⟩ rfl (ev_nilCheckF (by simp) rfl) ?_)
      refine RS_q_yes retB_noPanic rfl rfl rfl ⟨_, rfl, (decide_eq_false n1)⟩ rfl (ev_fieldAddr rfl) ?_
      refine RS_q_yes retB_noPanic rfl rfl rfl ⟨_, rfl, (decide_eq_false n1)⟩ rfl (ev_load rfl (by repeat' first | exact Ld.blk rfl | assumption | apply Ld.skip)) ?_
      refine RS_e (RE_eff_yes rfl rfl rfl ⟨_, rfl, (decide_eq_false n1)⟩ rfl (eff_call rfl (size_ctr none .nil _ rfl)) ?_); rintro _ _ ⟨rfl, rfl⟩; refine ⟨_, fun _ s => s, (by repeat first | exact fun _ s => s | apply en_keep | apply en_drop | apply en_app), ?_⟩
      refine RS_q_yes retB_noPanic rfl rfl rfl ⟨_, rfl, (decide_eq_false n1)⟩ rfl (ev_gtr rfl rfl) ?_
      refine RS_q retB_noPanic rfl rfl rfl (ev_pick_f rfl (decide_eq_false n1) rfl) ?_
      refine RS_nil ?_
      (repeat first | refine G_seq ?_ | refine G_skip ?_ | refine G_endblk ?_ | refine G_block ?_ | refine G_exit rfl ?_)
      refine G_cond_f rfl (decide_eq_false n2) ?_
      (repeat first | refine G_seq ?_ | refine G_skip ?_ | refine G_endblk ?_ | refine G_block ?_ | refine G_exit rfl ?_)
      refine G_draw (.q 0 (.q 1 (.q 2 (.q 3 (.q 4 (.q 5 (.q 6 (.q 7 (.q 8 (.q 9 (.e 10 (.q 11 (.q 12 (.q 13 (.q 14 (.q 15 (.q 16 (.q 17 (.q 18 (.q 19 (.q 20 (.e 21 (.q 22 (.q 23 (.q 24 (.q 25 (.q 26 (.q 27 (.q 28 (.q 29 (.q 30 (.q 31 (.q 32 (.e 33 (.q 34 (.q 35 (.q 36 (.q 37 (.q 38 (.q 39 (.q 40 (.q 41 (.q 42 (.q 43 (.q 44 (.e 45 (.q 46 (.q 47 (.q 48 .nil))))))))))))))))))))))))))))))))))))))))))))))))) (by kernel_rfl) (by kernel_rfl) ?_
      refine RS_q retB_noPanic rfl rfl rfl (ev_move rfl) ?_
      refine RS_q retB_noPanic rfl rfl rfl (ev_move rfl) ?_
      refine RS_q_no retB_noPanic rfl rfl rfl ⟨_, rfl, rfl⟩ rfl ?_
      refine RS_q_no retB_noPanic rfl rfl rfl ⟨_, rfl, rfl⟩ rfl ?_
      refine RS_q_no retB_noPanic rfl rfl rfl ⟨_, rfl, rfl⟩ rfl ?_
      refine RS_q_no retB_noPanic rfl rfl rfl ⟨_, rfl, rfl⟩ rfl ?_
      refine RS_q_no retB_noPanic rfl rfl rfl ⟨_, rfl, rfl⟩ rfl ?_
      refine RS_q_no retB_noPanic rfl rfl rfl ⟨_, rfl, rfl⟩ rfl ?_
      refine RS_q_no retB_noPanic rfl rfl rfl ⟨_, rfl, rfl⟩ rfl ?_
      refine RS_q_no retB_noPanic rfl rfl rfl ⟨_, rfl, rfl⟩ rfl ?_
      refine RS_e (RE_no rfl rfl rfl ⟨_, rfl, rfl⟩ rfl ?_)
      refine RS_q_no retB_noPanic rfl rfl rfl ⟨_, rfl, rfl⟩ rfl ?_
      refine RS_q_no retB_noPanic rfl rfl rfl ⟨_, rfl, rfl⟩ rfl ?_
      refine RS_q_undef retB_noPanic rfl rfl rfl rfl rfl ?_
      refine RS_q_undef retB_noPanic rfl rfl rfl rfl rfl ?_
      refine RS_q_undef retB_noPanic rfl rfl rfl rfl rfl ?_
      refine RS_q_undef retB_noPanic rfl rfl rfl rfl rfl ?_
      refine RS_q_undef retB_noPanic rfl rfl rfl rfl rfl ?_
      refine RS_q_undef retB_noPanic rfl rfl rfl rfl rfl ?_
      refine RS_q_undef retB_noPanic rfl rfl rfl rfl rfl ?_
      refine RS_q_undef retB_noPanic rfl rfl rfl rfl rfl ?_
      refine RS_e (RE_undef rfl rfl rfl rfl rfl ?_)
      refine RS_q_undef retB_noPanic rfl rfl rfl rfl rfl ?_
      refine RS_q_no retB_noPanic rfl rfl rfl ⟨_, rfl, rfl⟩ rfl ?_
      refine RS_q_no retB_noPanic rfl rfl rfl ⟨_, rfl, rfl⟩ rfl ?_
      refine RS_q_undef retB_noPanic rfl rfl rfl rfl rfl ?_
      refine RS_q_undef retB_noPanic rfl rfl rfl rfl rfl ?_
      refine RS_q_undef retB_noPanic rfl rfl rfl rfl rfl ?_
      refine RS_q_undef retB_noPanic rfl rfl rfl rfl rfl ?_
      refine RS_q_undef retB_noPanic rfl rfl rfl rfl rfl ?_
      refine RS_q_undef retB_noPanic rfl rfl rfl rfl rfl ?_
      refine RS_q_undef retB_noPanic rfl rfl rfl rfl rfl ?_
      refine RS_q_undef retB_noPanic rfl rfl rfl rfl rfl ?_
      refine RS_e (RE_undef rfl rfl rfl rfl rfl ?_)
      refine RS_q_undef retB_noPanic rfl rfl rfl rfl rfl ?_
      refine RS_q_no retB_noPanic rfl rfl rfl ⟨_, rfl, rfl⟩ rfl ?_
      refine RS_q_no retB_noPanic rfl rfl rfl ⟨_, rfl, rfl⟩ rfl ?_
      refine RS_q_undef retB_noPanic rfl rfl rfl rfl rfl ?_
      refine RS_q_undef retB_noPanic rfl rfl rfl rfl rfl ?_
      refine RS_q_undef retB_noPanic rfl rfl rfl rfl rfl ?_
      refine RS_q_undef retB_noPanic rfl rfl rfl rfl rfl ?_
      refine RS_q_undef retB_noPanic rfl rfl rfl rfl rfl ?_
      refine RS_q_undef retB_noPanic rfl rfl rfl rfl rfl ?_
      refine RS_q_undef retB_noPanic rfl rfl rfl rfl rfl ?_
      refine RS_q_undef retB_noPanic rfl rfl rfl rfl rfl ?_
      refine RS_e (RE_undef rfl rfl rfl rfl rfl ?_)
      refine RS_q_undef retB_noPanic rfl rfl rfl rfl rfl ?_
      refine RS_q_no retB_noPanic rfl rfl rfl ⟨_, rfl, rfl⟩ rfl ?_
      refine RS_q retB_noPanic rfl rfl rfl (ev_pick_f rfl rfl rfl) ?_
      refine RS_nil ?_
      (repeat first | refine G_seq ?_ | refine G_skip ?_ | refine G_endblk ?_ | refine G_block ?_ | refine G_exit rfl ?_)
      refine G_cond_f rfl rfl ?_
      (repeat first | refine G_seq ?_ | refine G_skip ?_ | refine G_endblk ?_ | refine G_block ?_ | refine G_exit rfl ?_)
      refine G_region ?_
      (first | refine GO_q rfl rfl (ev_addN (q := 1) rfl rfl (by omega)) ?_ | refine GO_q rfl rfl (ev_add rfl rfl (by omega)) ?_)
      refine GO_q rfl rfl (ev_move rfl) ?_
      refine GO_nil ?_
      (repeat first | refine G_seq ?_ | refine G_skip ?_ | refine G_endblk ?_ | refine G_block ?_ | refine G_exit rfl ?_)
      exact G_round (k + 1) (by omega) (by omega) ⟨rfl, rfl, rfl, rfl, rfl, trivial⟩ (by repeat first | exact fun _ s => s | apply en_keep | apply en_drop | apply en_app)
  · (repeat first | refine G_seq ?_ | refine G_skip ?_ | refine G_endblk ?_ | refine G_block ?_ | refine G_exit rfl ?_)
    refine G_draw (.q 0 (.q 1 (.q 2 (.q 3 (.e 4 (.q 5 (.q 6 (.q 7 (.q 8 (.q 9 (.e 10 (.q 11 (.q 12 (.q 13 (.q 14 (.q 15 (.q 16 (.q 17 (.q 18 (.q 19 (.q 20 (.q 21 (.q 22 (.q 23 (.q 24 (.q 26 (.q 27 (.q 28 (.q 29 (.e 25 (.e 30 (.q 31 (.q 32 (.q 33 (.q 34 (.q 35 .nil)))))))))))))))))))))))))))))))))))) (by kernel_rfl) (by kernel_rfl) ?_
    refine RS_q retB_noPanic rfl rfl rfl (ev_move rfl) ?_
    (first | refine RS_q retB_noPanic rfl rfl rfl (ev_nilCheck rfl) ?_ | refine RS_q retB_noPanic rfl rfl rfl (ev_nilCheckF (by simp) rfl) ?_)
    refine RS_q retB_noPanic rfl rfl rfl (ev_fieldAddr rfl) ?_
    refine RS_q retB_noPanic rfl rfl rfl (ev_load rfl (by repeat' first | exact Ld.blk rfl | assumption | apply Ld.skip)) ?_
    refine RS_e (RE_eff rfl rfl rfl (eff_call rfl (sound_nil _)) ?_); rintro _ _ ⟨rfl, rfl⟩; refine ⟨_, fun _ s => s, (by repeat first | exact fun _ s => s | apply en_keep | apply en_drop | apply en_app), ?_⟩
    refine RS_q retB_noPanic rfl rfl rfl (ev_move rfl) ?_
    refine RS_q_yes retB_noPanic rfl rfl rfl ⟨_, rfl, rfl⟩ rfl (ev_move rfl) ?_
    (first | refine RS_q_yes retB_noPanic rfl rfl rfl ⟨_, rfl, rfl⟩ rfl (ev_nilCheck rfl) ?_ | refine RS_q_yes retB_noPanic rfl rfl rfl ⟨_, rfl, rfl⟩ rfl (ev_nilCheckF (by simp) rfl) ?_)
    refine RS_q_yes retB_noPanic rfl rfl rfl ⟨_, rfl, rfl⟩ rfl (ev_fieldAddr rfl) ?_
    refine RS_q_yes retB_noPanic rfl rfl rfl ⟨_, rfl, rfl⟩ rfl (ev_load rfl (by repeat' first | exact Ld.blk rfl | assumption | apply Ld.skip)) ?_
    refine RS_e (RE_eff_yes rfl rfl rfl ⟨_, rfl, rfl⟩ rfl (eff_call rfl (sound_nil _)) ?_); rintro _ _ ⟨rfl, rfl⟩; refine ⟨_, fun _ s => s, (by repeat first | exact fun _ s => s | apply en_keep | apply en_drop | apply en_app), ?_⟩
    refine RS_q retB_noPanic rfl rfl rfl (ev_pick_t rfl rfl rfl) ?_
    refine RS_q retB_noPanic rfl rfl rfl (ev_move rfl) ?_
    refine RS_q_yes retB_noPanic rfl rfl rfl ⟨_, rfl, rfl⟩ rfl (ev_move rfl) ?_
    (first | refine RS_q_yes retB_noPanic rfl rfl rfl ⟨_, rfl, rfl⟩ rfl (ev_notP rfl) ?_ | refine RS_q_yes retB_noPanic rfl rfl rfl ⟨_, rfl, rfl⟩ rfl (ev_not rfl) ?_)
    refine RS_q_yes retB_noPanic rfl rfl rfl ⟨_, rfl, rfl⟩ rfl (ev_move rfl) ?_
    refine RS_q_no retB_noPanic rfl rfl rfl ⟨_, rfl, rfl⟩ rfl ?_
    refine RS_q_no retB_noPanic rfl rfl rfl ⟨_, rfl, rfl⟩ rfl ?_
    refine RS_q_no retB_noPanic rfl rfl rfl ⟨_, rfl, rfl⟩ rfl ?_
    refine RS_q_no retB_noPanic rfl rfl rfl ⟨_, rfl, rfl⟩ rfl ?_
    refine RS_q_no retB_noPanic rfl rfl rfl ⟨_, rfl, rfl⟩ rfl ?_
    refine RS_q_no retB_noPanic rfl rfl rfl ⟨_, rfl, rfl⟩ rfl ?_
    refine RS_q_no retB_noPanic rfl rfl rfl ⟨_, rfl, rfl⟩ rfl ?_
    refine RS_q_no retB_noPanic rfl rfl rfl ⟨_, rfl, rfl⟩ rfl ?_
    refine RS_q_no retB_noPanic rfl rfl rfl ⟨_, rfl, rfl⟩ rfl ?_
    refine RS_q_no retB_noPanic rfl rfl rfl ⟨_, rfl, rfl⟩ rfl ?_
    refine RS_q_no retB_noPanic rfl rfl rfl ⟨_, rfl, rfl⟩ rfl ?_
    refine RS_q_no retB_noPanic rfl rfl rfl ⟨_, rfl, rfl⟩ rfl ?_
    refine RS_q_no retB_noPanic rfl rfl rfl ⟨_, rfl, rfl⟩ rfl ?_
    refine RS_e (RE_no rfl rfl rfl ⟨_, rfl, rfl⟩ rfl ?_)
    refine RS_e (RE_no rfl rfl rfl ⟨_, rfl, rfl⟩ rfl ?_)
    refine RS_q_no retB_noPanic rfl rfl rfl ⟨_, rfl, rfl⟩ rfl ?_
    refine RS_q_no retB_noPanic rfl rfl rfl ⟨_, rfl, rfl⟩ rfl ?_
    refine RS_q_yes retB_noPanic rfl rfl rfl ⟨_, rfl, rfl⟩ rfl (ev_pick_t rfl rfl rfl) ?_
    refine RS_q retB_noPanic rfl rfl rfl (ev_pick_t rfl rfl rfl) ?_
    refine RS_q retB_noPanic rfl rfl rfl (ev_assign rfl) ?_
    refine RS_nil ?_
    (repeat first | refine G_seq ?_ | refine G_skip ?_ | refine G_endblk ?_ | refine G_block ?_ | refine G_exit rfl ?_)
    refine G_ret rfl (.tmp rfl .nil) (by repeat first | exact fun _ s => s | apply en_keep | apply en_drop | apply en_app) ⟨rfl, rfl⟩
end Go.Proofs.Ytcdafmmfcjbodaa
