/- Arrays that lead into one another: making them. -/
import Derived.Test.YtcdafmmfcjbodaaCas3
import Derived.Test.YtcdafmmfcjbodaaCas4
namespace Go.Proofs.Ytcdafmmfcjbodaa
attribute [local irreducible] sat
set_option linter.unusedVariables false
set_option linter.unusedSimpArgs false
set_option maxRecDepth 100000

theorem Leaf_ctr (p : Pt) (L : List HP) : Ctr Try.prog 37 #[.agg #[.int .i64 p.id, .int .i64 p.x, .int .i64 p.y]] L fun v L' => ∃ q N, v = .pointer q ∧ L' = N ++ L ∧ ArrIn (N ++ L) q (leaf p) := by
  refine Ctr_of (fn := Try.f37) (n := 8) Try.func37 rfl rfl rfl ?_
  intro g F
  (repeat first | refine G_seq ?_ | refine G_skip ?_ | refine G_endblk ?_ | refine G_block ?_ | refine G_exit rfl ?_)
  refine G_region ?_
  refine GO_eff rfl rfl (eff_box rfl) ?_; rintro _ _ ⟨b1, rfl, rfl⟩
  refine GO_q rfl rfl (ev_assign rfl) ?_
  refine GO_nil ?_
  (repeat first | refine G_seq ?_ | refine G_skip ?_ | refine G_endblk ?_ | refine G_block ?_ | refine G_exit rfl ?_)
  refine G_region ?_
  refine GO_q rfl rfl (ev_loadN rfl (by repeat' first | exact LdN.blk rfl | assumption | apply LdN.skip | apply LdN.app)) ?_
  refine GO_q rfl rfl (ev_build rfl rfl) ?_
  refine GO_eff rfl rfl (eff_buildSlice1 (by rfl) rfl rfl) ?_; rintro _ _ ⟨b5, rfl, rfl⟩
  refine GO_q rfl rfl (ev_build rfl rfl) ?_
  refine GO_eff rfl rfl (eff_box rfl) ?_; rintro _ _ ⟨b7, rfl, rfl⟩
  refine GO_q rfl rfl (ev_assign rfl) ?_
  refine GO_nil ?_
  (repeat first | refine G_seq ?_ | refine G_skip ?_ | refine G_endblk ?_ | refine G_block ?_ | refine G_exit rfl ?_)
  refine G_ret (L' := [blk b7 74 [.slice (some ⟨b5, 0, none⟩) 1 1, .pointer none, .pointer none], blk b5 67 (Enc.enc (⟨p, 0, 0⟩ : Ent))] ++ L) rfl (.tmp rfl .nil) ?_ ⟨_, _, rfl, rfl, ?_⟩
  · refine en_pick (.skip (.skip (.skip (.here)))) ?_
    refine en_pick (.here) ?_
    refine en_pick (.here) ?_
    exact (by (repeat first | exact fun _ s => s | apply en_keep | apply en_drop | apply en_app) <;> fail)
  · refine ⟨b7, some ⟨b5, 0, none⟩, 1, none, none, rfl, LdN.blk rfl, ?_, Nat.le_refl _, by simp [maxLen], rfl, rfl⟩
    refine Rc.skip (Rc.blk rfl)
theorem Join_ctr (pl ph : Option Addr) (lo hi : Arr) (L : List HP) (hl : ArrIn L pl lo) (hh : ArrIn L ph hi) (h1 : lo.es.length ≤ 100000) (h2 : hi.es.length ≤ 100000) : Ctr Try.prog 10 #[.pointer pl, .pointer ph] L fun v L' => ∃ q N, v = .pointer q ∧ L' = N ++ L ∧ ArrIn (N ++ L) q (join lo hi) := by
  by_cases hn : lo = .nil ∧ hi = .nil
  · obtain ⟨rfl, rfl⟩ := hn
    cases hl
    cases hh
    refine Ctr_of (fn := Try.f10) (n := 24) Try.func10 rfl rfl rfl ?_
    intro g F
    (repeat first | refine G_seq ?_ | refine G_skip ?_ | refine G_endblk ?_ | refine G_block ?_ | refine G_exit rfl ?_)
    refine G_region ?_
    refine GO_q rfl rfl (ev_assign rfl) ?_
    refine GO_nil ?_
    (repeat first | refine G_seq ?_ | refine G_skip ?_ | refine G_endblk ?_ | refine G_block ?_ | refine G_exit rfl ?_)
    refine G_region ?_
    refine GO_q rfl rfl (ev_move rfl) ?_
    (first | refine GO_q rfl rfl (ev_eqlNil rfl rfl) ?_ | refine GO_q rfl rfl (ev_eqlPtr rfl rfl) ?_)
    refine GO_q rfl rfl (ev_move rfl) ?_
    refine GO_yes rfl rfl rfl rfl ?_
    refine GO_q rfl rfl (ev_move rfl) ?_
    refine GO_yes rfl rfl rfl rfl ?_
    (first | refine GO_q rfl rfl (ev_eqlNil rfl rfl) ?_ | refine GO_q rfl rfl (ev_eqlPtr rfl rfl) ?_)
    refine GO_q rfl rfl (ev_pick_t rfl rfl rfl) ?_
    refine GO_nil ?_
    (repeat first | refine G_seq ?_ | refine G_skip ?_ | refine G_endblk ?_ | refine G_block ?_ | refine G_exit rfl ?_)
    refine G_cond_t rfl rfl ?_
    (repeat first | refine G_seq ?_ | refine G_skip ?_ | refine G_endblk ?_ | refine G_block ?_ | refine G_exit rfl ?_)
    refine G_region ?_
    refine GO_q rfl rfl (ev_assign rfl) ?_
    refine GO_nil ?_
    (repeat first | refine G_seq ?_ | refine G_skip ?_ | refine G_endblk ?_ | refine G_block ?_ | refine G_exit rfl ?_)
    refine G_ret (L' := [] ++ L) rfl (.tmp rfl .nil) (by (repeat first | exact fun _ s => s | apply en_keep | apply en_drop | apply en_app) <;> fail) ⟨_, _, rfl, rfl, rfl⟩
  · have hj : join lo hi = .node (mrg 0 0 lo.pts hi.pts) lo hi := by cases lo <;> cases hi <;> first | rfl | exact absurd ⟨rfl, rfl⟩ hn
    have hp : (pl.isNone && ph.isNone) = false := by
      cases lo with
      | node es l1 l2 => obtain ⟨b, A, c, q1, q2, rfl, _⟩ := hl; rfl
      | nil =>
        cases hi with
        | node es l1 l2 => obtain ⟨b, A, c, q1, q2, rfl, _⟩ := hh; cases pl <;> rfl
        | nil => exact absurd ⟨rfl, rfl⟩ hn
    have l1 : lo.pts.length = lo.es.length := List.length_map ..
    have l2 : hi.pts.length = hi.es.length := List.length_map ..
    refine Ctr_of (fn := Try.f10) (n := 24) Try.func10 rfl rfl rfl ?_
    intro g F
    (repeat first | refine G_seq ?_ | refine G_skip ?_ | refine G_endblk ?_ | refine G_block ?_ | refine G_exit rfl ?_)
    refine G_region ?_
    refine GO_q rfl rfl (ev_assign rfl) ?_
    refine GO_nil ?_
    (repeat first | refine G_seq ?_ | refine G_skip ?_ | refine G_endblk ?_ | refine G_block ?_ | refine G_exit rfl ?_)
    refine G_region ?_
    refine GO_q rfl rfl (ev_move rfl) ?_
    (first | refine GO_q rfl rfl (ev_eqlNil rfl rfl) ?_ | refine GO_q rfl rfl (ev_eqlPtr rfl rfl) ?_)
    refine GO_q rfl rfl (ev_move rfl) ?_
    refine GO_guard rfl rfl rfl (fun hq3 => ?y3) (fun hq3 => ?n3)
    case' n3 =>
      have hp3 := hq3
      try simp only [decide_eq_true_eq, decide_eq_false_iff_not, Bool.not_true, Bool.not_false] at hp3
      refine GO_no rfl rfl rfl hq3 ?_
      refine GO_q rfl rfl (ev_pick_f rfl hq3 rfl) ?_
      refine GO_nil ?_
    case' y3 =>
      have hp3 := hq3
      try simp only [decide_eq_true_eq, decide_eq_false_iff_not, Bool.not_true, Bool.not_false] at hp3
      refine GO_q rfl rfl (ev_move rfl) ?_
      refine GO_yes rfl rfl rfl hq3 ?_
      (first | refine GO_q rfl rfl (ev_eqlNil rfl rfl) ?_ | refine GO_q rfl rfl (ev_eqlPtr rfl rfl) ?_)
      refine GO_q rfl rfl (ev_pick_t rfl hq3 rfl) ?_
      refine GO_nil ?_
    (repeat first | refine G_seq ?_ | refine G_skip ?_ | refine G_endblk ?_ | refine G_block ?_ | refine G_exit rfl ?_)
    refine G_cond_f rfl (by simpa [hq3] using hp) ?_
    rotate_left
    (repeat first | refine G_seq ?_ | refine G_skip ?_ | refine G_endblk ?_ | refine G_block ?_ | refine G_exit rfl ?_)
    refine G_cond_f rfl rfl ?_
    all_goals
      (repeat first | refine G_seq ?_ | refine G_skip ?_ | refine G_endblk ?_ | refine G_block ?_ | refine G_exit rfl ?_)
      refine G_region ?_
      refine GO_q rfl rfl (ev_move rfl) ?_
      refine GO_q rfl rfl (ev_move rfl) ?_
      refine GO_q rfl rfl (ev_build rfl rfl) ?_
      refine GO_eff rfl rfl (eff_box rfl) ?_; rintro _ _ ⟨b15, rfl, rfl⟩
      refine GO_q rfl rfl (ev_build rfl rfl) ?_
      refine GO_eff rfl rfl (eff_box rfl) ?_; rintro _ _ ⟨b17, rfl, rfl⟩
      refine GO_q rfl rfl (ev_assign rfl) ?_
      refine GO_nil ?_
      (repeat first | refine G_seq ?_ | refine G_skip ?_ | refine G_endblk ?_ | refine G_block ?_ | refine G_exit rfl ?_)
      refine G_heap (own.nil_ 67 5) ?_
      refine G_loop (ι := Nat × Nat × Option Addr × Nat × List Ent) (fun x => [(5, .pointer (some ⟨b17, 0, none⟩))]) (fun x => blk b17 76 [.pointer (some ⟨b15, 0, none⟩), .int .i64 (x.1 : Nat), .int .i64 (x.2.1 : Nat)] :: blk b15 74 [.slice x.2.2.1 x.2.2.2.2.length x.2.2.2.1, .pointer pl, .pointer ph] :: own 67 5 x.2.2.1 x.2.2.2.2.length x.2.2.2.1 (flat x.2.2.2.2) :: F :: L)
        (fun x => x.1 ≤ lo.es.length ∧ x.2.1 ≤ hi.es.length ∧ x.1 + x.2.1 = x.2.2.2.2.length ∧ x.2.2.2.2.length ≤ x.2.2.2.1 ∧ x.2.2.2.1 ≤ maxLen ∧ (0 < x.2.2.2.2.length → ∃ b, x.2.2.1 = some ⟨b, 0, none⟩) ∧ x.2.2.2.2 ++ mrg x.1 x.2.1 (lo.pts.drop x.1) (hi.pts.drop x.2.1) = mrg 0 0 lo.pts hi.pts) (fun x => lo.es.length + hi.es.length - (x.1 + x.2.1)) (0, 0, none, 0, []) ⟨Nat.zero_le _, Nat.zero_le _, rfl, Nat.le_refl _, Nat.zero_le _, fun h => absurd h (Nat.lt_irrefl 0), rfl⟩ ⟨rfl, trivial⟩ ?_ ?_
      · refine en_pick (.skip (.here)) ?_
        refine en_pick (.skip (.here)) ?_
        refine en_pick (.here) ?_
        refine en_pick (.here) ?_
        exact (by (repeat first | exact fun _ s => s | apply en_keep | apply en_drop | apply en_app) <;> fail)
      · rintro ⟨i, k, A, c, ds⟩ ⟨f1, f2, f3, f4, f5, f6, f7⟩
        simp only at f1 f2 f3 f4 f5 f6 f7
        (repeat first | refine G_seq ?_ | refine G_skip ?_ | refine G_endblk ?_ | refine G_block ?_ | refine G_exit rfl ?_)
        refine G_region ?_
        refine GO_q rfl rfl (ev_move rfl) ?_
        refine GO_eff rfl rfl (eff_call rfl (Ctr.frame [F] (step_ctr b17 b15 i k c A pl ph ds.length lo hi ds L hl hh (by omega) f1 f2 (by omega) (by omega)) (en_pick (.skip (.skip (.skip .here))) en_refl))) ?_; rintro _ _ ⟨L1, hs, rfl⟩
        refine GO_nil ?_
        rcases hs with ⟨e1, e2, rfl, rfl⟩ | ⟨e, i', k', A', c', rfl, g1, g2, g3, g4, g5, g6, g7, rfl⟩
        · (repeat first | refine G_seq ?_ | refine G_skip ?_ | refine G_endblk ?_ | refine G_block ?_ | refine G_exit rfl ?_)
          refine G_cond_f rfl rfl ?_
          have hds : ds = mrg 0 0 lo.pts hi.pts := by
            rw [← f7, e1, e2, ← l1, ← l2, List.drop_length, List.drop_length, mrg, List.append_nil]
          (repeat first | refine G_seq ?_ | refine G_skip ?_ | refine G_endblk ?_ | refine G_block ?_ | refine G_exit rfl ?_)
          refine G_region ?_
          refine GO_q rfl rfl (ev_move rfl) ?_
          (first | refine GO_q rfl rfl (ev_nilCheck rfl) ?_ | refine GO_q rfl rfl (ev_nilCheckF (by simp) rfl) ?_)
          refine GO_q rfl rfl (ev_fieldAddr rfl) ?_
          refine GO_q rfl rfl (ev_load rfl (by repeat' first | exact Ld.blk rfl | assumption | apply Ld.skip | apply Ld.app)) ?_
          refine GO_q rfl rfl (ev_assign rfl) ?_
          refine GO_nil ?_
          (repeat first | refine G_seq ?_ | refine G_skip ?_ | refine G_endblk ?_ | refine G_block ?_ | refine G_exit rfl ?_)
          refine G_ret (L' := [blk b15 74 [.slice A ds.length c, .pointer pl, .pointer ph], own 67 5 A ds.length c (flat ds)] ++ L) rfl (.tmp rfl .nil) ?_ ⟨_, _, rfl, rfl, ?_⟩
          · refine en_pick (.here) ?_
            refine en_pick (.skip (.here)) ?_
            refine en_pick (.skip (.here)) ?_
            exact (by (repeat first | exact fun _ s => s | apply en_keep | apply en_drop | apply en_app) <;> fail)
          · rw [hj, ← hds]
            refine ⟨b15, A, c, pl, ph, rfl, LdN.blk rfl, ?_, f4, f5, hl.skip.skip, hh.skip.skip⟩
            exact Rc.skip (Rc.own (flat_length ds) f6)
        · (repeat first | refine G_seq ?_ | refine G_skip ?_ | refine G_endblk ?_ | refine G_block ?_ | refine G_exit rfl ?_)
          refine G_cond_t rfl rfl ?_
          (repeat first | refine G_seq ?_ | refine G_skip ?_ | refine G_endblk ?_ | refine G_block ?_ | refine G_exit rfl ?_)
          exact G_round (i', k', A', c', ds ++ [e]) ⟨g2, g3, by simp; omega, by simp; omega, g5, fun _ => g6 (by omega), by simp only; rw [← f7, g7, List.append_assoc]; rfl⟩ (by simp only; omega) ⟨rfl, trivial⟩ (by
            simp only [List.length_append, List.length_singleton]
            refine en_pick (.skip (.here)) ?_
            refine en_pick (.skip (.here)) ?_
            refine en_pick (.skip (.here)) ?_
            refine en_pick (.here) ?_
            exact (by (repeat first | exact fun _ s => s | apply en_keep | apply en_drop | apply en_app) <;> fail)
            )

theorem two_half (n : Nat) : n / 2 ≤ n ∧ n - n / 2 ≤ n := by omega
theorem made_nil (A : Option Addr) (c : Nat) (lv : Int) (L : List HP) : Ctr Try.prog 11 #[.slice A 0 c, .int .i64 lv] L fun v L' => ∃ q N, v = .pointer q ∧ L' = N ++ L ∧ ArrIn (N ++ L) q .nil := by
  refine Ctr_of (fn := Try.f11) (n := 36) Try.func11 rfl rfl rfl ?_
  intro g F
  (repeat first | refine G_seq ?_ | refine G_skip ?_ | refine G_endblk ?_ | refine G_block ?_ | refine G_exit rfl ?_)
  refine G_region ?_
  refine GO_q rfl rfl (ev_assign rfl) ?_
  refine GO_nil ?_
  (repeat first | refine G_seq ?_ | refine G_skip ?_ | refine G_endblk ?_ | refine G_block ?_ | refine G_exit rfl ?_)
  refine G_region ?_
  refine GO_q rfl rfl (ev_move rfl) ?_
  refine GO_q rfl rfl (ev_len rfl) ?_
  refine GO_q rfl rfl (ev_eql rfl rfl) ?_
  refine GO_q rfl rfl (ev_move rfl) ?_
  refine GO_no rfl rfl rfl rfl ?_
  refine GO_no rfl rfl rfl rfl ?_
  refine GO_q rfl rfl (ev_pick_t rfl rfl rfl) ?_
  refine GO_nil ?_
  (repeat first | refine G_seq ?_ | refine G_skip ?_ | refine G_endblk ?_ | refine G_block ?_ | refine G_exit rfl ?_)
  refine G_cond_t rfl rfl ?_
  (repeat first | refine G_seq ?_ | refine G_skip ?_ | refine G_endblk ?_ | refine G_block ?_ | refine G_exit rfl ?_)
  refine G_region ?_
  refine GO_q rfl rfl (ev_assign rfl) ?_
  refine GO_nil ?_
  (repeat first | refine G_seq ?_ | refine G_skip ?_ | refine G_endblk ?_ | refine G_block ?_ | refine G_exit rfl ?_)
  refine G_ret (L' := [] ++ L) rfl (.tmp rfl .nil) (by (repeat first | exact fun _ s => s | apply en_keep | apply en_drop | apply en_app) <;> fail) ⟨_, _, rfl, rfl, rfl⟩
theorem made_one (p : Pt) (A : Option Addr) (c : Nat) (lv : Int) (L : List HP) (h0 : 0 ≤ lv) (hr : Rd L A 1 [p]) : Ctr Try.prog 11 #[.slice A 1 c, .int .i64 lv] L fun v L' => ∃ q N, v = .pointer q ∧ L' = N ++ L ∧ ArrIn (N ++ L) q (leaf p) := by
  obtain ⟨bb, o, rfl, hx⟩ := hr.at_ (by omega)
  have h0 := hx 0 p rfl
  have h1 : LdN L bb (o + 0 * 3) 3 [.int .i64 p.id, .int .i64 p.x, .int .i64 p.y] := h0
  refine Ctr_of (fn := Try.f11) (n := 36) Try.func11 rfl rfl rfl ?_
  intro g F
  (repeat first | refine G_seq ?_ | refine G_skip ?_ | refine G_endblk ?_ | refine G_block ?_ | refine G_exit rfl ?_)
  refine G_region ?_
  refine GO_q rfl rfl (ev_assign rfl) ?_
  refine GO_nil ?_
  (repeat first | refine G_seq ?_ | refine G_skip ?_ | refine G_endblk ?_ | refine G_block ?_ | refine G_exit rfl ?_)
  refine G_region ?_
  refine GO_q rfl rfl (ev_move rfl) ?_
  refine GO_q rfl rfl (ev_len rfl) ?_
  refine GO_q rfl rfl (ev_eql rfl rfl) ?_
  refine GO_q rfl rfl (ev_move rfl) ?_
  refine GO_yes rfl rfl rfl rfl ?_
  refine GO_q rfl rfl (ev_move rfl) ?_
  refine GO_yes rfl rfl rfl rfl ?_
  (first | refine GO_q rfl rfl (ev_lssN (q := 0) rfl rfl) ?_ | refine GO_q rfl rfl (ev_lss rfl rfl) ?_)
  refine GO_q rfl rfl (ev_pick_f rfl rfl rfl) ?_
  refine GO_nil ?_
  (repeat first | refine G_seq ?_ | refine G_skip ?_ | refine G_endblk ?_ | refine G_block ?_ | refine G_exit rfl ?_)
  refine G_cond_f rfl (decide_eq_false (by omega)) ?_
  (repeat first | refine G_seq ?_ | refine G_skip ?_ | refine G_endblk ?_ | refine G_block ?_ | refine G_exit rfl ?_)
  refine G_region ?_
  refine GO_q rfl rfl (ev_move rfl) ?_
  refine GO_q rfl rfl (ev_len rfl) ?_
  refine GO_q rfl rfl (ev_eql rfl rfl) ?_
  refine GO_nil ?_
  (repeat first | refine G_seq ?_ | refine G_skip ?_ | refine G_endblk ?_ | refine G_block ?_ | refine G_exit rfl ?_)
  refine G_cond_t rfl rfl ?_
  (repeat first | refine G_seq ?_ | refine G_skip ?_ | refine G_endblk ?_ | refine G_block ?_ | refine G_exit rfl ?_)
  refine G_region ?_
  refine GO_q rfl rfl (ev_move rfl) ?_
  (first | refine GO_q rfl rfl (ev_indexAddrN rfl rfl (by first | omega | (simp; done) | (simp; omega))) ?_ | refine GO_q rfl rfl (ev_indexAddr rfl rfl (by first | omega | (simp; done) | (simp; omega)) (by first | omega | (simp; done) | (simp; omega))) ?_)
  refine GO_q rfl rfl (ev_loadN rfl (by repeat' first | exact LdN.blk rfl | assumption | apply LdN.skip | apply LdN.app)) ?_
  refine GO_eff rfl rfl (eff_call rfl (Ctr.frame [F] (Leaf_ctr p L) (fun _ s => s))) ?_; rintro _ _ ⟨L1, ⟨q, N, rfl, rfl, hq⟩, rfl⟩
  refine GO_q rfl rfl (ev_assign rfl) ?_
  refine GO_nil ?_
  (repeat first | refine G_seq ?_ | refine G_skip ?_ | refine G_endblk ?_ | refine G_block ?_ | refine G_exit rfl ?_)
  refine G_ret (L' := N ++ L) rfl (.tmp rfl .nil) (by (repeat first | exact fun _ s => s | apply en_keep | apply en_drop | apply en_app) <;> fail) ⟨_, _, rfl, rfl, hq⟩
theorem made_ctr : ∀ (f : Nat) (l : List Pt) (A : Option Addr) (n c : Nat) (L : List HP), l.length ≤ 2 ^ f → l.length ≤ 1000 → f ≤ 60 → Rd L A n l → n ≤ c → c ≤ maxLen →
    Ctr Try.prog 11 #[.slice A n c, .int .i64 (f : Nat)] L fun v L' => ∃ q N, v = .pointer q ∧ L' = N ++ L ∧ ArrIn (N ++ L) q (made f l) := by
  intro f
  induction f with
  | zero =>
    intro l A n c L hl hl2 hf hr hc hc2
    have hn : l.length = n := hr.len (by decide)
    match l, hn with
    | [], hn => simp at hn; subst hn; exact made_nil A c _ L
    | [p], hn => simp at hn; subst hn; exact made_one p A c _ L (by omega) hr
    | p :: r :: l', hn => simp at hl
  | succ f ih =>
    intro l A n c L hl hl2 hf hr hc hc2
    have hn : l.length = n := hr.len (by decide)
    match l, hn with
    | [], hn => simp at hn; subst hn; exact made_nil A c _ L
    | [p], hn => simp at hn; subst hn; exact made_one p A c _ L (by omega) hr
    | p :: r :: l', hn =>
      have em : made (f + 1) (p :: r :: l') = join (made f ((p :: r :: l').take ((p :: r :: l').length / 2))) (made f ((p :: r :: l').drop ((p :: r :: l').length / 2))) := rfl
      have h2 : (p :: r :: l').length ≤ 2 * 2 ^ f := by rw [Nat.pow_succ] at hl; omega
      have h3 : 2 ≤ (p :: r :: l').length := by simp
      generalize p :: r :: l' = l at *
      rw [em, hn]
      obtain ⟨bb, o, rfl, _⟩ := hr.2 (by omega)
      have m1 := hr.take (k := n / 2) (by omega)
      have m2 := hr.drop (k := n / 2) (c := c) (by omega) hc
      have k1 : (l.take (n / 2)).length ≤ 2 ^ f := by rw [List.length_take]; omega
      have k2 : (l.drop (n / 2)).length ≤ 2 ^ f := by rw [List.length_drop]; omega
      have k3 : (l.take (n / 2)).length ≤ 1000 := by rw [List.length_take]; omega
      have k4 : (l.drop (n / 2)).length ≤ 1000 := by rw [List.length_drop]; omega
      have q1 : (made f (l.take (n / 2))).es.length ≤ 100000 := by
        have := (made_ok f _ k1).2 (fun _ => true)
        simp [Arr.pts] at this
        rw [this]; omega
      have q2 : (made f (l.drop (n / 2))).es.length ≤ 100000 := by
        have := (made_ok f _ k2).2 (fun _ => true)
        simp [Arr.pts] at this
        rw [this]; omega
      have hc3 : c - n / 2 ≤ maxLen := by omega
      have i1 := ih _ _ (n / 2) c L k1 k3 (by omega) m1 (by omega) hc2
      have i2 := fun N => ih _ _ (n - n / 2) (c - n / 2) (N ++ L) k2 k4 (by omega) (m2.app (N := N)) (by omega) hc3
      unfold maxLen at hc2
      have hd1 : ¬ ((n : Int) = 0) := by omega
      have hd2 : ¬ ((n : Int) = 1) := by omega
      have hd3 : ¬ (f + 1 < 0) := by omega
      generalize l.take (n / 2) = la at *
      generalize l.drop (n / 2) = lb at *
      refine Ctr_of (fn := Try.f11) (n := 36) Try.func11 rfl rfl rfl ?_
      intro g F
      (repeat first | refine G_seq ?_ | refine G_skip ?_ | refine G_endblk ?_ | refine G_block ?_ | refine G_exit rfl ?_)
      refine G_region ?_
      refine GO_q rfl rfl (ev_assign rfl) ?_
      refine GO_nil ?_
      (repeat first | refine G_seq ?_ | refine G_skip ?_ | refine G_endblk ?_ | refine G_block ?_ | refine G_exit rfl ?_)
      refine G_region ?_
      refine GO_q rfl rfl (ev_move rfl) ?_
      refine GO_q rfl rfl (ev_len rfl) ?_
      refine GO_q rfl rfl (ev_eql rfl rfl) ?_
      refine GO_q rfl rfl (ev_move rfl) ?_
      refine GO_yes rfl rfl rfl (decide_eq_false hd1) ?_
      refine GO_q rfl rfl (ev_move rfl) ?_
      refine GO_yes rfl rfl rfl (decide_eq_false hd1) ?_
      (first | refine GO_q rfl rfl (ev_lssN (q := 0) rfl rfl) ?_ | refine GO_q rfl rfl (ev_lss rfl rfl) ?_)
      refine GO_q rfl rfl (ev_pick_f rfl (decide_eq_false hd1) rfl) ?_
      refine GO_nil ?_
      (repeat first | refine G_seq ?_ | refine G_skip ?_ | refine G_endblk ?_ | refine G_block ?_ | refine G_exit rfl ?_)
      refine G_cond_f rfl (decide_eq_false hd3) ?_
      (repeat first | refine G_seq ?_ | refine G_skip ?_ | refine G_endblk ?_ | refine G_block ?_ | refine G_exit rfl ?_)
      refine G_region ?_
      refine GO_q rfl rfl (ev_move rfl) ?_
      refine GO_q rfl rfl (ev_len rfl) ?_
      refine GO_q rfl rfl (ev_eql rfl rfl) ?_
      refine GO_nil ?_
      (repeat first | refine G_seq ?_ | refine G_skip ?_ | refine G_endblk ?_ | refine G_block ?_ | refine G_exit rfl ?_)
      refine G_cond_f rfl (decide_eq_false hd2) ?_
      (repeat first | refine G_seq ?_ | refine G_skip ?_ | refine G_endblk ?_ | refine G_block ?_ | refine G_exit rfl ?_)
      refine G_draw (.q 0 (.q 1 (.q 2 (.q 3 (.q 4 (.q 5 (.q 6 (.q 8 (.q 9 (.q 10 (.q 11 (.q 12 (.q 13 (.q 14 (.e 7 (.e 15 (.e 16 (.q 17 .nil)))))))))))))))))) (by kernel_rfl) (by kernel_rfl) ?_
      refine RS_q retB_noPanic rfl rfl rfl (ev_move rfl) ?_
      refine RS_q retB_noPanic rfl rfl rfl (ev_move rfl) ?_
      refine RS_q retB_noPanic rfl rfl rfl (ev_len rfl) ?_
      (first | refine RS_q retB_noPanic rfl rfl rfl (ev_quoN (q := 2) rfl rfl (by first | omega | (simp; done) | (simp; omega)) (by first | omega | (simp; done) | (simp; omega))) ?_ | refine RS_q retB_noPanic rfl rfl rfl (ev_quo rfl rfl (by first | omega | (simp; done) | (simp; omega)) (by first | omega | (simp; done) | (simp; omega)) (by first | omega | (simp; done) | (simp; omega))) ?_)
      refine RS_q retB_noPanic rfl rfl rfl (ev_sliceH rfl rfl (by first | omega | (simp; done) | (simp; omega))) ?_
      refine RS_q retB_noPanic rfl rfl rfl (ev_move rfl) ?_
      (first | refine RS_q retB_noPanic rfl rfl rfl (ev_subN (q := 1) rfl rfl (by first | omega | (simp; done) | (simp; omega))) ?_ | refine RS_q retB_noPanic rfl rfl rfl (ev_sub rfl rfl (by first | omega | (simp; done) | (simp; omega))) ?_)
      refine RS_q retB_noPanic rfl rfl rfl (ev_move rfl) ?_
      refine RS_q retB_noPanic rfl rfl rfl (ev_move rfl) ?_
      refine RS_q retB_noPanic rfl rfl rfl (ev_len rfl) ?_
      (first | refine RS_q retB_noPanic rfl rfl rfl (ev_quoN (q := 2) rfl rfl (by first | omega | (simp; done) | (simp; omega)) (by first | omega | (simp; done) | (simp; omega))) ?_ | refine RS_q retB_noPanic rfl rfl rfl (ev_quo rfl rfl (by first | omega | (simp; done) | (simp; omega)) (by first | omega | (simp; done) | (simp; omega)) (by first | omega | (simp; done) | (simp; omega))) ?_)
      refine RS_q retB_noPanic rfl rfl rfl (ev_sliceL rfl rfl (by first | omega | (simp; done) | (simp; omega)) (by first | omega | (simp; done) | (simp; omega))) ?_
      refine RS_q retB_noPanic rfl rfl rfl (ev_move rfl) ?_
      (first | refine RS_q retB_noPanic rfl rfl rfl (ev_subN (q := 1) rfl rfl (by first | omega | (simp; done) | (simp; omega))) ?_ | refine RS_q retB_noPanic rfl rfl rfl (ev_sub rfl rfl (by first | omega | (simp; done) | (simp; omega))) ?_)
      refine RS_e (RE_eff rfl rfl rfl (eff_call rfl (Ctr.frame [F] i1 (fun _ s => s))) ?_); rintro _ _ ⟨L1, ⟨qa, N1, rfl, rfl, ha⟩, rfl⟩; refine ⟨_, fun _ s => s, (by (repeat first | exact fun _ s => s | apply en_keep | apply en_drop | apply en_app) <;> fail), ?_⟩
      refine RS_e (RE_eff rfl rfl rfl (eff_call rfl (Ctr.frame [F] (i2 N1) (fun _ s => s))) ?_); rintro _ _ ⟨L2, ⟨qb, N2, rfl, rfl, hb⟩, rfl⟩; refine ⟨_, fun _ s => s, (by (repeat first | exact fun _ s => s | apply en_keep | apply en_drop | apply en_app) <;> fail), ?_⟩
      refine RS_e (RE_eff rfl rfl rfl (eff_call rfl (Ctr.frame [F] (Join_ctr qa qb (made f la) (made f lb) (N2 ++ (N1 ++ L)) ha.app hb q1 q2) (fun _ s => s))) ?_); rintro _ _ ⟨L3, ⟨qj, N3, rfl, rfl, hj⟩, rfl⟩; refine ⟨_, fun _ s => s, (by (repeat first | exact fun _ s => s | apply en_keep | apply en_drop | apply en_app) <;> fail), ?_⟩
      refine RS_q retB_noPanic rfl rfl rfl (ev_assign rfl) ?_
      refine RS_nil ?_
      (repeat first | refine G_seq ?_ | refine G_skip ?_ | refine G_endblk ?_ | refine G_block ?_ | refine G_exit rfl ?_)
      exact G_ret (L' := N3 ++ (N2 ++ (N1 ++ L))) rfl (.tmp rfl .nil) (fun _ s => s) ⟨qj, N3 ++ (N2 ++ N1), rfl, by simp [List.append_assoc], by simpa [List.append_assoc] using hj⟩
end Go.Proofs.Ytcdafmmfcjbodaa
