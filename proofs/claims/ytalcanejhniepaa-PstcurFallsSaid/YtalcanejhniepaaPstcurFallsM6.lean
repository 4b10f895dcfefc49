/- Texts of the law PstcurFalls, one behind the other. -/
import Derived.Test.YtalcanejhniepaaPstcurFallsM5
import Derived.Test.YtalcanejhniepaaPstcurFallsM4
import Derived.Test.YtalcanejhniepaaPstcurFallsM1
/- The reference's points from above. -/
namespace Go.Proofs.Ytalcanejhniepaa
attribute [local irreducible] sat
set_option linter.unusedVariables false
set_option linter.unusedSimpArgs false
set_option maxRecDepth 100000

theorem DownOf.unique {x1 x2 : Int} {l m o p : List Pt} (h : l.Perm m) (a : DownOf x1 x2 l o) (b : DownOf x1 x2 m p) : o = p :=
  Desc.unique a.desc b.desc (a.perm.symm.trans ((h.filter _).trans b.perm))
theorem Desc.ins {out : List Pt} {p : Pt} {k : Nat} (h : Desc out) (hk : k ≤ out.length) (h1 : ∀ j q, j < k → out[j]? = some q → und p q = true) (h2 : ∀ q, out[k]? = some q → und q p = true) : Desc (out.take k ++ [p] ++ out.drop k) := by
  rw [List.append_assoc]
  refine List.pairwise_append.2 ⟨List.Pairwise.sublist (List.take_sublist _ _) h, ?_, ?_⟩
  · refine List.pairwise_cons.2 ⟨fun q hq => ?_, List.Pairwise.sublist (List.drop_sublist _ _) h⟩
    obtain ⟨j, hj⟩ := List.mem_iff_getElem?.1 hq
    replace hj : (out.drop k)[j]? = some q := hj
    rw [List.getElem?_drop] at hj
    rcases Nat.eq_zero_or_pos j with e | e
    · subst e; exact h2 q hj
    · obtain ⟨j1, rfl⟩ := List.getElem?_eq_some_iff.1 hj
      have g1 : out[k]? = some out[k] := List.getElem?_eq_getElem (by omega)
      have := List.pairwise_iff_getElem.1 h k (k + j) (by omega) j1 (by omega)
      exact und_trans this (h2 _ g1)
  · intro a ha b hb
    obtain ⟨j, hj⟩ := List.mem_iff_getElem?.1 ha
    rw [List.getElem?_take] at hj
    split at hj
    · rename_i hjk
      have u1 := h1 j a hjk hj
      rcases List.mem_append.1 hb with hb | hb
      · rw [List.mem_singleton.1 hb]; exact u1
      · obtain ⟨i, hi⟩ := List.mem_iff_getElem?.1 hb
        rw [List.getElem?_drop] at hi
        obtain ⟨j1, rfl⟩ := List.getElem?_eq_some_iff.1 hj
        obtain ⟨j2, rfl⟩ := List.getElem?_eq_some_iff.1 hi
        exact List.pairwise_iff_getElem.1 h j (k + i) j1 j2 (by omega)
    · cases hj
theorem RDown_ctr (A : Option Addr) (n c : Nat) (x1 x2 : Int) (l : List Pt) (L : List HP) (hl : Rd L A n l) (hn : n ≤ 100000) (hnd : l.Nodup) :
    Ctr Try.prog 12 #[.slice A n c, .int .i64 x1, .int .i64 x2] L fun v L' => ∃ (out : List Pt) (b d : Nat), v = .slice (some ⟨b, 0, none⟩) out.length d ∧ (DownOf x1 x2 l out ∧ out.length ≤ d ∧ d ≤ maxLen) ∧ L' = own 39 3 (some ⟨b, 0, none⟩) out.length d (flat out) :: L := by
  have hll : l.length = n := hl.len (by decide)
  refine Ctr_of (fn := Try.f12) (n := 78) Try.func12 rfl rfl rfl ?_
  intro g F
  (repeat first | refine G_seq ?_ | refine G_skip ?_ | refine G_endblk ?_ | refine G_block ?_ | refine G_exit rfl ?_)
  refine G_region ?_
  refine GO_q rfl rfl (ev_assign rfl) ?_
  refine GO_nil ?_
  (repeat first | refine G_seq ?_ | refine G_skip ?_ | refine G_endblk ?_ | refine G_block ?_ | refine G_exit rfl ?_)
  refine G_region ?_
  refine GO_eff rfl rfl eff_buildSlice0 ?_; rintro _ _ ⟨b11, rfl, rfl⟩
  refine GO_q rfl rfl (ev_assign rfl) ?_
  refine GO_nil ?_
  (repeat first | refine G_seq ?_ | refine G_skip ?_ | refine G_endblk ?_ | refine G_block ?_ | refine G_exit rfl ?_)
  refine G_region ?_
  refine GO_q rfl rfl (ev_assign rfl) ?_
  refine GO_nil ?_
  (repeat first | refine G_seq ?_ | refine G_skip ?_ | refine G_endblk ?_ | refine G_block ?_ | refine G_exit rfl ?_)
  refine G_loop (ι := Nat × Nat × Nat × List Pt) (fun z => [(0, .slice A n c), (1, .int .i64 x1), (2, .int .i64 x2), (7, .slice (some ⟨z.2.1, 0, none⟩) z.2.2.2.length z.2.2.1), (8, .int .i64 (z.1 : Nat))]) (fun z => own 39 3 (some ⟨z.2.1, 0, none⟩) z.2.2.2.length z.2.2.1 (flat z.2.2.2) :: F :: L)
    (fun z => z.1 ≤ n ∧ z.2.2.2.length ≤ z.1 ∧ z.2.2.2.length ≤ z.2.2.1 ∧ z.2.2.1 ≤ maxLen ∧ Desc z.2.2.2 ∧ ((l.take z.1).filter (sel x1 x2)).Perm z.2.2.2) (fun z => n - z.1) (0, b11, 0, []) ⟨Nat.zero_le _, Nat.le_refl _, Nat.le_refl _, Nat.zero_le _, List.Pairwise.nil, by simp⟩ ⟨rfl, rfl, rfl, rfl, rfl, trivial⟩ (by (repeat first | exact en_refl | (apply en_blk; focus ((repeat' first | exact Pick.here | apply Pick.skip | apply Pick.app); done); focus rfl) | (apply en_own; focus ((repeat' first | exact Pick.here | apply Pick.skip | apply Pick.app); done); focus rfl) | (apply en_pick; focus ((repeat' first | exact Pick.here | apply Pick.skip | apply Pick.app); done)) | apply en_drop | apply en_app) <;> fail) ?_
  rintro ⟨i, b, d, out⟩ ⟨f1, f2, f3, f4, f5, f6⟩
  simp only at f1 f2 f3 f4 f5 f6
  dsimp only
  have f7 := f4
  unfold maxLen at f7
  (repeat first | refine G_seq ?_ | refine G_skip ?_ | refine G_endblk ?_ | refine G_block ?_ | refine G_exit rfl ?_)
  refine G_region ?_
  refine GO_q rfl rfl (ev_move rfl) ?_
  refine GO_q rfl rfl (ev_move rfl) ?_
  refine GO_q rfl rfl (ev_len rfl) ?_
  (first | refine GO_q rfl rfl (ev_lssN rfl rfl) ?_ | refine GO_q rfl rfl (ev_lss rfl rfl) ?_)
  refine GO_nil ?_
  (repeat first | refine G_seq ?_ | refine G_skip ?_ | refine G_endblk ?_ | refine G_block ?_ | refine G_exit rfl ?_)
  refine G_cond rfl (fun c1 => ?_) (fun c1 => ?_)
  · obtain ⟨lb, lo, rfl, hx⟩ := hl.at_ (by omega)
    have hg : l[i]? = some l[i] := List.getElem?_eq_getElem (by omega)
    have y1 := hx _ _ hg
    have s1 : l.take (i + 1) = l.take i ++ [l[i]] := List.take_succ_eq_append_getElem (by omega)
    have hni : l[i] ∉ l.take i := fun hm => by
      have h9 : (l.take (i + 1)).Nodup := hnd.sublist (List.take_sublist _ _)
      rw [s1, List.nodup_append] at h9
      exact h9.2.2 _ hm _ (List.mem_singleton.2 rfl) rfl
    generalize l[i] = p at *
    have z1 : LdN L lb (lo + i * 3) 3 [.int .i64 p.id, .int .i64 p.x, .int .i64 p.y] := y1
    have hnp : p ∉ out := fun h => hni (List.mem_filter.1 (f6.symm.subset h)).1
    (repeat first | refine G_seq ?_ | refine G_skip ?_ | refine G_endblk ?_ | refine G_block ?_ | refine G_exit rfl ?_)
    refine G_region ?_
    refine GO_q rfl rfl (ev_move rfl) ?_
    refine GO_q rfl rfl (ev_move rfl) ?_
    (first | refine GO_q rfl rfl (ev_indexAddrN rfl rfl (by first | omega | (simp; done) | (simp; omega))) ?_ | refine GO_q rfl rfl (ev_indexAddr rfl rfl (by first | omega | (simp; done) | (simp; omega)) (by first | omega | (simp; done) | (simp; omega))) ?_)
    refine GO_q rfl rfl (ev_loadN rfl (by repeat' first | exact LdN.blk rfl | assumption | apply LdN.skip | apply LdN.app)) ?_
    refine GO_eff rfl rfl eff_alloc ?_; rintro _ _ ⟨b9, rfl, rfl⟩
    refine GO_eff rfl rfl (eff_storeN rfl rfl rfl rfl (by repeat' first | exact Upd.here rfl | apply Upd.skip | apply Upd.app)) ?_; rintro _ _ ⟨rfl, rfl⟩
    refine GO_nil ?_
    by_cases hs : sel x1 x2 p = true
    · have hs2 := sel_true.1 hs
      (repeat first | refine G_seq ?_ | refine G_skip ?_ | refine G_endblk ?_ | refine G_block ?_ | refine G_exit rfl ?_)
      refine G_region ?_
      refine GO_q rfl rfl (ev_fieldAddr rfl) ?_
      refine GO_q rfl rfl (ev_load rfl (by repeat' first | exact Ld.blk rfl | assumption | apply Ld.skip | apply Ld.app)) ?_
      refine GO_q rfl rfl (ev_move rfl) ?_
      (first | refine GO_q rfl rfl (ev_lssN rfl rfl) ?_ | refine GO_q rfl rfl (ev_lss rfl rfl) ?_)
      refine GO_q rfl rfl (ev_move rfl) ?_
      refine GO_yes rfl rfl rfl (decide_eq_false (by omega)) ?_
      refine GO_q rfl rfl (ev_fieldAddr rfl) ?_
      refine GO_yes rfl rfl rfl (decide_eq_false (by omega)) ?_
      refine GO_q rfl rfl (ev_load rfl (by repeat' first | exact Ld.blk rfl | assumption | apply Ld.skip | apply Ld.app)) ?_
      refine GO_yes rfl rfl rfl (decide_eq_false (by omega)) ?_
      refine GO_q rfl rfl (ev_move rfl) ?_
      refine GO_yes rfl rfl rfl (decide_eq_false (by omega)) ?_
      refine GO_q rfl rfl (ev_gtr rfl rfl) ?_
      refine GO_q rfl rfl (ev_pick_f rfl (decide_eq_false (by omega)) rfl) ?_
      refine GO_nil ?_
      (repeat first | refine G_seq ?_ | refine G_skip ?_ | refine G_endblk ?_ | refine G_block ?_ | refine G_exit rfl ?_)
      refine G_cond_f rfl (decide_eq_false (by omega)) ?_
      (repeat first | refine G_seq ?_ | refine G_skip ?_ | refine G_endblk ?_ | refine G_block ?_ | refine G_exit rfl ?_)
      refine G_region ?_
      refine GO_q rfl rfl (ev_assign rfl) ?_
      refine GO_nil ?_
      have hout : ∀ M, Rd (own 39 3 (some ⟨b, 0, none⟩) out.length d (flat out) :: M) (some ⟨b, 0, none⟩) out.length out := fun M => Rc.own (flat_length out) (fun _ => ⟨b, rfl⟩)
      (repeat first | refine G_seq ?_ | refine G_skip ?_ | refine G_endblk ?_)
      refine G_cut (ι := Nat) (fun k => [(0, .slice (some ⟨lb, lo, none⟩) n c), (1, .int .i64 x1), (2, .int .i64 x2), (7, .slice (some ⟨b, 0, none⟩) out.length d), (8, .int .i64 (i : Nat)), (9, .pointer (some ⟨b9, 0, none⟩)), (10, .int .i64 (k : Nat))]) (fun _ => own 39 3 (some ⟨b, 0, none⟩) out.length d (flat out) :: blk b9 39 [.int .i64 p.id, .int .i64 p.x, .int .i64 p.y] :: F :: L)
        (fun k => k ≤ out.length ∧ (∀ j q, j < k → out[j]? = some q → und p q = true) ∧ (∀ q, out[k]? = some q → und q p = true)) ?_ ?_
      · (repeat first | refine G_seq ?_ | refine G_skip ?_ | refine G_endblk ?_ | refine G_block ?_ | refine G_exit rfl ?_)
        refine G_loop (ι := Nat) (fun k => [(0, .slice (some ⟨lb, lo, none⟩) n c), (1, .int .i64 x1), (2, .int .i64 x2), (7, .slice (some ⟨b, 0, none⟩) out.length d), (8, .int .i64 (i : Nat)), (9, .pointer (some ⟨b9, 0, none⟩)), (10, .int .i64 (k : Nat))]) (fun _ => own 39 3 (some ⟨b, 0, none⟩) out.length d (flat out) :: blk b9 39 [.int .i64 p.id, .int .i64 p.x, .int .i64 p.y] :: F :: L)
          (fun k => k ≤ out.length ∧ (∀ j q, j < k → out[j]? = some q → und p q = true)) (fun k => out.length - k) 0 ⟨Nat.zero_le _, fun j q h => absurd h (Nat.not_lt_zero _)⟩ ⟨rfl, rfl, rfl, rfl, rfl, rfl, rfl, trivial⟩ (by (repeat first | exact en_refl | (apply en_blk; focus ((repeat' first | exact Pick.here | apply Pick.skip | apply Pick.app); done); focus rfl) | (apply en_own; focus ((repeat' first | exact Pick.here | apply Pick.skip | apply Pick.app); done); focus rfl) | (apply en_pick; focus ((repeat' first | exact Pick.here | apply Pick.skip | apply Pick.app); done)) | apply en_drop | apply en_app) <;> fail) ?_
        rintro k ⟨k1, k2⟩
        by_cases c2 : k < out.length
        · have g1 : out[k]? = some out[k] := List.getElem?_eq_getElem c2
          have hy : ∀ M, LdN (own 39 3 (some ⟨b, 0, none⟩) out.length d (flat out) :: M) b (0 + k * 3) 3 [.int .i64 out[k].id, .int .i64 out[k].x, .int .i64 out[k].y] := fun M => by
            obtain ⟨_, _, e9, hx9⟩ := (hout M).at_ (by omega)
            cases e9
            exact hx9 _ _ g1
          have hmo : out[k] ∈ out := List.getElem_mem _
          generalize out[k] = q at *
          have q0 : ∀ M, Ld (own 39 3 (some ⟨b, 0, none⟩) out.length d (flat out) :: M) ⟨b, 0 + k * 3 + 0, none⟩ (.int .i64 q.id) := fun M => (hy M).at_ (i := 0) rfl
          have q1 : ∀ M, Ld (own 39 3 (some ⟨b, 0, none⟩) out.length d (flat out) :: M) ⟨b, 0 + k * 3 + 1, none⟩ (.int .i64 q.x) := fun M => (hy M).at_ (i := 1) rfl
          have q2 : ∀ M, Ld (own 39 3 (some ⟨b, 0, none⟩) out.length d (flat out) :: M) ⟨b, 0 + k * 3 + 2, none⟩ (.int .i64 q.y) := fun M => (hy M).at_ (i := 2) rfl
          have hne : q ≠ p := fun e => hnp (e ▸ hmo)
          have hth : decide (0 < three q.y q.x q.id p.y p.x p.id) = und p q := by rw [three_up]; have := up_pos q p; cases h : und p q with
            | true => exact decide_eq_true (this.2 h)
            | false => exact decide_eq_false (fun k => by rw [this.1 k] at h; cases h)
          (repeat first | refine G_seq ?_ | refine G_skip ?_ | refine G_endblk ?_ | refine G_block ?_ | refine G_exit rfl ?_)
          refine G_draw (.q 0 (.q 1 (.q 2 (.q 3 (.q 4 (.q 5 (.q 6 (.q 7 (.q 8 (.q 9 (.q 10 (.q 11 (.q 12 (.q 13 (.q 14 (.q 15 (.q 16 (.q 17 (.q 18 (.q 19 (.q 20 (.q 21 (.q 22 (.q 23 (.q 24 (.q 25 (.q 26 (.q 27 (.e 28 (.q 29 (.q 30 .nil))))))))))))))))))))))))))))))) (by kernel_rfl) (by kernel_rfl) ?_
          refine RS_m retB_noPanic rfl rfl rfl rfl (ev_move rfl) ?_
          refine RS_m retB_noPanic rfl rfl rfl rfl (ev_move rfl) ?_
          refine RS_q retB_noPanic rfl rfl rfl rfl (ev_len rfl) ?_
          (first | refine RS_m retB_noPanic rfl rfl rfl rfl (ev_lssN rfl rfl) ?_ | refine RS_m retB_noPanic rfl rfl rfl rfl (ev_lss rfl rfl) ?_)
          refine RS_m retB_noPanic rfl rfl rfl rfl (ev_move rfl) ?_
          refine RS_m_yes retB_noPanic rfl rfl rfl rfl ⟨_, rfl, (decide_eq_true (by omega))⟩ rfl (ev_move rfl) ?_
          refine RS_m_yes retB_noPanic rfl rfl rfl rfl ⟨_, rfl, (decide_eq_true (by omega))⟩ rfl (ev_move rfl) ?_
          (first | refine RS_m_yes retB_noPanic rfl rfl rfl rfl ⟨_, rfl, (decide_eq_true (by omega))⟩ rfl (ev_indexAddrN rfl rfl (by first | omega | (simp; done) | (simp; omega))) ?_ | refine RS_m_yes retB_noPanic rfl rfl rfl rfl ⟨_, rfl, (decide_eq_true (by omega))⟩ rfl (ev_indexAddr rfl rfl (by first | omega | (simp; done) | (simp; omega)) (by first | omega | (simp; done) | (simp; omega))) ?_)
          refine RS_m_yes retB_noPanic rfl rfl rfl rfl ⟨_, rfl, (decide_eq_true (by omega))⟩ rfl (ev_fieldAddr rfl) ?_
          refine RS_q_yes retB_noPanic rfl rfl rfl rfl ⟨_, rfl, (decide_eq_true (by omega))⟩ rfl (ev_load rfl (by repeat' first | exact q2 _ | apply Ld.skip)) ?_
          refine RS_m_yes retB_noPanic rfl rfl rfl rfl ⟨_, rfl, (decide_eq_true (by omega))⟩ rfl (ev_move rfl) ?_
          refine RS_m_yes retB_noPanic rfl rfl rfl rfl ⟨_, rfl, (decide_eq_true (by omega))⟩ rfl (ev_move rfl) ?_
          (first | refine RS_m_yes retB_noPanic rfl rfl rfl rfl ⟨_, rfl, (decide_eq_true (by omega))⟩ rfl (ev_indexAddrN rfl rfl (by first | omega | (simp; done) | (simp; omega))) ?_ | refine RS_m_yes retB_noPanic rfl rfl rfl rfl ⟨_, rfl, (decide_eq_true (by omega))⟩ rfl (ev_indexAddr rfl rfl (by first | omega | (simp; done) | (simp; omega)) (by first | omega | (simp; done) | (simp; omega))) ?_)
          refine RS_m_yes retB_noPanic rfl rfl rfl rfl ⟨_, rfl, (decide_eq_true (by omega))⟩ rfl (ev_fieldAddr rfl) ?_
          refine RS_q_yes retB_noPanic rfl rfl rfl rfl ⟨_, rfl, (decide_eq_true (by omega))⟩ rfl (ev_load rfl (by repeat' first | exact q1 _ | apply Ld.skip)) ?_
          refine RS_m_yes retB_noPanic rfl rfl rfl rfl ⟨_, rfl, (decide_eq_true (by omega))⟩ rfl (ev_move rfl) ?_
          refine RS_m_yes retB_noPanic rfl rfl rfl rfl ⟨_, rfl, (decide_eq_true (by omega))⟩ rfl (ev_move rfl) ?_
          (first | refine RS_m_yes retB_noPanic rfl rfl rfl rfl ⟨_, rfl, (decide_eq_true (by omega))⟩ rfl (ev_indexAddrN rfl rfl (by first | omega | (simp; done) | (simp; omega))) ?_ | refine RS_m_yes retB_noPanic rfl rfl rfl rfl ⟨_, rfl, (decide_eq_true (by omega))⟩ rfl (ev_indexAddr rfl rfl (by first | omega | (simp; done) | (simp; omega)) (by first | omega | (simp; done) | (simp; omega))) ?_)
          refine RS_m_yes retB_noPanic rfl rfl rfl rfl ⟨_, rfl, (decide_eq_true (by omega))⟩ rfl (ev_fieldAddr rfl) ?_
          refine RS_q_yes retB_noPanic rfl rfl rfl rfl ⟨_, rfl, (decide_eq_true (by omega))⟩ rfl (ev_load rfl (by repeat' first | exact q0 _ | apply Ld.skip)) ?_
          refine RS_m_yes retB_noPanic rfl rfl rfl rfl ⟨_, rfl, (decide_eq_true (by omega))⟩ rfl (ev_buildA rfl rfl) ?_
          refine RS_m_yes retB_noPanic rfl rfl rfl rfl ⟨_, rfl, (decide_eq_true (by omega))⟩ rfl (ev_fieldAddr rfl) ?_
          refine RS_q_yes retB_noPanic rfl rfl rfl rfl ⟨_, rfl, (decide_eq_true (by omega))⟩ rfl (ev_load rfl (by repeat' first | exact Ld.blk rfl | assumption | apply Ld.skip | apply Ld.app)) ?_
          refine RS_m_yes retB_noPanic rfl rfl rfl rfl ⟨_, rfl, (decide_eq_true (by omega))⟩ rfl (ev_fieldAddr rfl) ?_
          refine RS_q_yes retB_noPanic rfl rfl rfl rfl ⟨_, rfl, (decide_eq_true (by omega))⟩ rfl (ev_load rfl (by repeat' first | exact Ld.blk rfl | assumption | apply Ld.skip | apply Ld.app)) ?_
          refine RS_m_yes retB_noPanic rfl rfl rfl rfl ⟨_, rfl, (decide_eq_true (by omega))⟩ rfl (ev_fieldAddr rfl) ?_
          refine RS_q_yes retB_noPanic rfl rfl rfl rfl ⟨_, rfl, (decide_eq_true (by omega))⟩ rfl (ev_load rfl (by repeat' first | exact Ld.blk rfl | assumption | apply Ld.skip | apply Ld.app)) ?_
          refine RS_m_yes retB_noPanic rfl rfl rfl rfl ⟨_, rfl, (decide_eq_true (by omega))⟩ rfl (ev_buildA rfl rfl) ?_
          refine RS_e (RE_eff_yes rfl rfl rfl ⟨_, rfl, (decide_eq_true (by omega))⟩ rfl (eff_call rfl (Three_ctr q.y q.x q.id p.y p.x p.id _)) ?_); rintro _ _ ⟨rfl, rfl⟩; refine ⟨_, fun _ s => s, (by first | ((repeat first | exact fun _ s => s | apply en_keep | apply en_drop | apply en_app) <;> fail) | ((repeat first | exact en_refl | (apply en_blk; focus ((repeat' first | exact Pick.here | apply Pick.skip | apply Pick.app); done); focus rfl) | (apply en_own; focus ((repeat' first | exact Pick.here | apply Pick.skip | apply Pick.app); done); focus rfl) | (apply en_pick; focus ((repeat' first | exact Pick.here | apply Pick.skip | apply Pick.app); done)) | apply en_drop | apply en_app) <;> fail)), ?_⟩
          refine RS_m_yes retB_noPanic rfl rfl rfl rfl ⟨_, rfl, (decide_eq_true (by omega))⟩ rfl (ev_gtr rfl rfl) ?_
          refine RS_m retB_noPanic rfl rfl rfl rfl (ev_pick_t rfl (decide_eq_true (by omega)) rfl) ?_
          refine RS_nil ?_
          cases hu : und p q with
          | true =>
            (repeat first | refine G_seq ?_ | refine G_skip ?_ | refine G_endblk ?_ | refine G_block ?_ | refine G_exit rfl ?_)
            refine G_cond_t rfl (by rw [hth]; exact hu) ?_
            (repeat first | refine G_seq ?_ | refine G_skip ?_ | refine G_endblk ?_ | refine G_block ?_ | refine G_exit rfl ?_)
            refine G_region ?_
            refine GO_q rfl rfl (ev_move rfl) ?_
            (first | refine GO_q rfl rfl (ev_addN (q := 1) rfl rfl (by first | omega | (simp; done) | (simp; omega))) ?_ | refine GO_q rfl rfl (ev_add rfl rfl (by first | omega | (simp; done) | (simp; omega))) ?_)
            refine GO_q rfl rfl (ev_assign rfl) ?_
            refine GO_nil ?_
            (repeat first | refine G_seq ?_ | refine G_skip ?_ | refine G_endblk ?_ | refine G_block ?_ | refine G_exit rfl ?_)
            exact G_round (k + 1) ⟨by omega, fun j r h1 h2 => by
              rcases Nat.lt_or_ge j k with h | h
              · exact k2 j r h h2
              · have : j = k := by omega
                subst this
                rw [g1] at h2; cases h2; exact hu⟩ (by omega) ⟨rfl, rfl, rfl, rfl, rfl, rfl, rfl, trivial⟩ (by (repeat first | exact en_refl | (apply en_blk; focus ((repeat' first | exact Pick.here | apply Pick.skip | apply Pick.app); done); focus rfl) | (apply en_own; focus ((repeat' first | exact Pick.here | apply Pick.skip | apply Pick.app); done); focus rfl) | (apply en_pick; focus ((repeat' first | exact Pick.here | apply Pick.skip | apply Pick.app); done)) | apply en_drop | apply en_app) <;> fail)
          | false =>
            (repeat first | refine G_seq ?_ | refine G_skip ?_ | refine G_endblk ?_ | refine G_block ?_ | refine G_exit rfl ?_)
            refine G_cond_f rfl (by rw [hth]; exact hu) ?_
            (repeat first | refine G_seq ?_ | refine G_skip ?_ | refine G_endblk ?_ | refine G_block ?_ | refine G_exit rfl ?_)
            exact G_inv k ⟨k1, k2, fun r hr => by rw [g1] at hr; cases hr; exact und_total (Ne.symm hne) hu⟩ ⟨rfl, rfl, rfl, rfl, rfl, rfl, rfl, trivial⟩ (by (repeat first | exact en_refl | (apply en_blk; focus ((repeat' first | exact Pick.here | apply Pick.skip | apply Pick.app); done); focus rfl) | (apply en_own; focus ((repeat' first | exact Pick.here | apply Pick.skip | apply Pick.app); done); focus rfl) | (apply en_pick; focus ((repeat' first | exact Pick.here | apply Pick.skip | apply Pick.app); done)) | apply en_drop | apply en_app) <;> fail)
        · have e : k = out.length := by omega
          subst e
          (repeat first | refine G_seq ?_ | refine G_skip ?_ | refine G_endblk ?_ | refine G_block ?_ | refine G_exit rfl ?_)
          refine G_draw (.q 0 (.q 1 (.q 2 (.q 3 (.q 4 (.q 5 (.q 6 (.q 7 (.q 8 (.q 9 (.q 10 (.q 11 (.q 12 (.q 13 (.q 14 (.q 15 (.q 16 (.q 17 (.q 18 (.q 19 (.q 20 (.q 21 (.q 22 (.q 23 (.q 24 (.q 25 (.q 26 (.q 27 (.e 28 (.q 29 (.q 30 .nil))))))))))))))))))))))))))))))) (by kernel_rfl) (by kernel_rfl) ?_
          refine RS_m retB_noPanic rfl rfl rfl rfl (ev_move rfl) ?_
          refine RS_m retB_noPanic rfl rfl rfl rfl (ev_move rfl) ?_
          refine RS_q retB_noPanic rfl rfl rfl rfl (ev_len rfl) ?_
          (first | refine RS_m retB_noPanic rfl rfl rfl rfl (ev_lssN rfl rfl) ?_ | refine RS_m retB_noPanic rfl rfl rfl rfl (ev_lss rfl rfl) ?_)
          refine RS_m retB_noPanic rfl rfl rfl rfl (ev_move rfl) ?_
          refine RS_q_no retB_noPanic rfl rfl rfl ⟨_, rfl, (decide_eq_false (by omega))⟩ rfl ?_
          refine RS_q_no retB_noPanic rfl rfl rfl ⟨_, rfl, (decide_eq_false (by omega))⟩ rfl ?_
          refine RS_q_no retB_noPanic rfl rfl rfl ⟨_, rfl, (decide_eq_false (by omega))⟩ rfl ?_
          refine RS_q_no retB_noPanic rfl rfl rfl ⟨_, rfl, (decide_eq_false (by omega))⟩ rfl ?_
          refine RS_q_no retB_noPanic rfl rfl rfl ⟨_, rfl, (decide_eq_false (by omega))⟩ rfl ?_
          refine RS_q_no retB_noPanic rfl rfl rfl ⟨_, rfl, (decide_eq_false (by omega))⟩ rfl ?_
          refine RS_q_no retB_noPanic rfl rfl rfl ⟨_, rfl, (decide_eq_false (by omega))⟩ rfl ?_
          refine RS_q_no retB_noPanic rfl rfl rfl ⟨_, rfl, (decide_eq_false (by omega))⟩ rfl ?_
          refine RS_q_no retB_noPanic rfl rfl rfl ⟨_, rfl, (decide_eq_false (by omega))⟩ rfl ?_
          refine RS_q_no retB_noPanic rfl rfl rfl ⟨_, rfl, (decide_eq_false (by omega))⟩ rfl ?_
          refine RS_q_no retB_noPanic rfl rfl rfl ⟨_, rfl, (decide_eq_false (by omega))⟩ rfl ?_
          refine RS_q_no retB_noPanic rfl rfl rfl ⟨_, rfl, (decide_eq_false (by omega))⟩ rfl ?_
          refine RS_q_no retB_noPanic rfl rfl rfl ⟨_, rfl, (decide_eq_false (by omega))⟩ rfl ?_
          refine RS_q_no retB_noPanic rfl rfl rfl ⟨_, rfl, (decide_eq_false (by omega))⟩ rfl ?_
          refine RS_q_no retB_noPanic rfl rfl rfl ⟨_, rfl, (decide_eq_false (by omega))⟩ rfl ?_
          refine RS_q_no retB_noPanic rfl rfl rfl ⟨_, rfl, (decide_eq_false (by omega))⟩ rfl ?_
          refine RS_q_no retB_noPanic rfl rfl rfl ⟨_, rfl, (decide_eq_false (by omega))⟩ rfl ?_
          refine RS_q_no retB_noPanic rfl rfl rfl ⟨_, rfl, (decide_eq_false (by omega))⟩ rfl ?_
          refine RS_q_no retB_noPanic rfl rfl rfl ⟨_, rfl, (decide_eq_false (by omega))⟩ rfl ?_
          refine RS_q_no retB_noPanic rfl rfl rfl ⟨_, rfl, (decide_eq_false (by omega))⟩ rfl ?_
          refine RS_q_no retB_noPanic rfl rfl rfl ⟨_, rfl, (decide_eq_false (by omega))⟩ rfl ?_
          refine RS_q_no retB_noPanic rfl rfl rfl ⟨_, rfl, (decide_eq_false (by omega))⟩ rfl ?_
          refine RS_q_no retB_noPanic rfl rfl rfl ⟨_, rfl, (decide_eq_false (by omega))⟩ rfl ?_
          refine RS_e (RE_no rfl rfl rfl ⟨_, rfl, (decide_eq_false (by omega))⟩ rfl ?_)
          refine RS_q_no retB_noPanic rfl rfl rfl ⟨_, rfl, (decide_eq_false (by omega))⟩ rfl ?_
          refine RS_m retB_noPanic rfl rfl rfl rfl (ev_pick_f rfl (decide_eq_false (by omega)) rfl) ?_
          refine RS_nil ?_
          (repeat first | refine G_seq ?_ | refine G_skip ?_ | refine G_endblk ?_ | refine G_block ?_ | refine G_exit rfl ?_)
          refine G_cond_f rfl rfl ?_
          (repeat first | refine G_seq ?_ | refine G_skip ?_ | refine G_endblk ?_ | refine G_block ?_ | refine G_exit rfl ?_)
          exact G_inv out.length ⟨k1, k2, fun r hr => by simp at hr⟩ ⟨rfl, rfl, rfl, rfl, rfl, rfl, rfl, trivial⟩ (by (repeat first | exact en_refl | (apply en_blk; focus ((repeat' first | exact Pick.here | apply Pick.skip | apply Pick.app); done); focus rfl) | (apply en_own; focus ((repeat' first | exact Pick.here | apply Pick.skip | apply Pick.app); done); focus rfl) | (apply en_pick; focus ((repeat' first | exact Pick.here | apply Pick.skip | apply Pick.app); done)) | apply en_drop | apply en_app) <;> fail)
      · rintro k ⟨k1, k2, k3⟩
        have hD := f5.ins k1 k2 k3
        have m1 : ∀ M, Rc (own 39 3 (some ⟨b, 0, none⟩) out.length d (flat out) :: M) 3 (some ⟨b, 0, none⟩) k (flat (out.take k)) := fun M => (hout M).take k1
        have m2 : ∀ M, Rc (own 39 3 (some ⟨b, 0, none⟩) out.length d (flat out) :: M) 3 (some ⟨b, (if d = k then 0 else 0 + k * 3), none⟩) (out.length - k) (flat (out.drop k)) := fun M => (hout M).drop k1 f3
        have hol : (out.take k ++ [p] ++ out.drop k).length = out.length + 1 := by simp; omega
        have hpm : ((l.take (i + 1)).filter (sel x1 x2)).Perm (out.take k ++ [p] ++ out.drop k) := by
          rw [s1, List.filter_append]
          have e1 : [p].filter (sel x1 x2) = [p] := by simp [hs]
          rw [e1]
          refine (f6.append_right _).trans ?_
          refine (List.perm_append_singleton p out).trans ?_
          rw [List.append_assoc]
          refine .trans ?_ List.perm_middle.symm
          show (p :: out).Perm (p :: (out.take k ++ out.drop k))
          rw [List.take_append_drop]
        have nn : 0 + k + 1 + (out.length - k) = (out.take k ++ [p] ++ out.drop k).length := by rw [hol]; omega
        (repeat first | refine G_seq ?_ | refine G_skip ?_ | refine G_endblk ?_ | refine G_block ?_ | refine G_exit rfl ?_)
        refine G_draw (.q 1 (.q 2 (.q 3 (.q 5 (.q 8 (.q 9 (.q 10 (.br 0 (.br 4 (.e 6 (.e 7 (.e 11 (.q 12 .nil)))) 6 (.e 4 (.e 7 (.e 11 (.q 12 .nil))))) 6 (.e 0 (.e 4 (.e 7 (.e 11 (.q 12 .nil))))))))))))) (by kernel_rfl) (by kernel_rfl) ?_
        refine RS_m retB_noPanic rfl rfl rfl rfl (ev_move rfl) ?_
        refine RS_m retB_noPanic rfl rfl rfl rfl (ev_move rfl) ?_
        refine RS_q retB_noPanic rfl rfl rfl rfl (ev_sliceH rfl rfl (by first | omega | (simp; done) | (simp; omega))) ?_
        refine RS_q retB_noPanic rfl rfl rfl rfl (ev_loadN rfl (by repeat' first | exact LdN.blk rfl | assumption | apply LdN.skip | apply LdN.app)) ?_
        refine RS_m retB_noPanic rfl rfl rfl rfl (ev_move rfl) ?_
        refine RS_m retB_noPanic rfl rfl rfl rfl (ev_move rfl) ?_
        refine RS_q retB_noPanic rfl rfl rfl rfl (ev_sliceL rfl rfl (by first | omega | (simp; done) | (simp; omega)) (by first | omega | (simp; done) | (simp; omega))) ?_
        refine RS_br ?x1_0 ?x1_1
        case' x1_1 =>
          refine RE_eff rfl rfl rfl (eff_buildSlice1 (by rfl) rfl rfl) ?_; rintro _ _ ⟨b71, rfl, rfl⟩; refine ⟨_, (by first | ((repeat first | exact fun _ s => s | apply en_keep | apply en_drop | apply en_app) <;> fail) | ((repeat first | exact en_refl | (apply en_blk; focus ((repeat' first | exact Pick.here | apply Pick.skip | apply Pick.app); done); focus rfl) | (apply en_own; focus ((repeat' first | exact Pick.here | apply Pick.skip | apply Pick.app); done); focus rfl) | (apply en_pick; focus ((repeat' first | exact Pick.here | apply Pick.skip | apply Pick.app); done)) | apply en_drop | apply en_app) <;> fail)), fun _ s => s, ?_⟩
          refine RS_e (RE_eff rfl rfl rfl eff_buildSlice0 ?_); rintro _ _ ⟨b65, rfl, rfl⟩; refine ⟨_, (by first | ((repeat first | exact fun _ s => s | apply en_keep | apply en_drop | apply en_app) <;> fail) | ((repeat first | exact en_refl | (apply en_blk; focus ((repeat' first | exact Pick.here | apply Pick.skip | apply Pick.app); done); focus rfl) | (apply en_own; focus ((repeat' first | exact Pick.here | apply Pick.skip | apply Pick.app); done); focus rfl) | (apply en_pick; focus ((repeat' first | exact Pick.here | apply Pick.skip | apply Pick.app); done)) | apply en_drop | apply en_app) <;> fail)), fun _ s => s, ?_⟩
          refine RS_e (RE_eff rfl rfl rfl (eff_append rfl rfl (by repeat' first | exact Pick.here | apply Pick.skip) ((by repeat' first | exact m1 _ | apply Rc.skip)) ((flat_one _)) (by rfl) (by decide) (by first | omega | (simp; done) | (simp; omega)) (by first | omega | (simp; done) | (simp; omega))) ?_); rintro _ _ ⟨A69, c69, rfl, hc69, hm69, hn69, rfl⟩; refine ⟨_, (by first | ((repeat first | exact fun _ s => s | apply en_keep | apply en_drop | apply en_app) <;> fail) | ((repeat first | exact en_refl | (apply en_blk; focus ((repeat' first | exact Pick.here | apply Pick.skip | apply Pick.app); done); focus rfl) | (apply en_own; focus ((repeat' first | exact Pick.here | apply Pick.skip | apply Pick.app); done); focus rfl) | (apply en_pick; focus ((repeat' first | exact Pick.here | apply Pick.skip | apply Pick.app); done)) | apply en_drop | apply en_app) <;> fail)), fun _ s => s, ?_⟩
          refine RS_e (RE_eff rfl rfl rfl (eff_append rfl rfl (by repeat' first | exact Pick.here | apply Pick.skip) (by repeat' first | exact Rc.blk rfl | assumption | apply Rc.skip) (one_all rfl) (by rfl) (by decide) (by first | omega | (simp; done) | (simp; omega)) (by first | omega | (simp; done) | (simp; omega))) ?_); rintro _ _ ⟨A72, c72, rfl, hc72, hm72, hn72, rfl⟩; refine ⟨_, (by first | ((repeat first | exact fun _ s => s | apply en_keep | apply en_drop | apply en_app) <;> fail) | ((repeat first | exact en_refl | (apply en_blk; focus ((repeat' first | exact Pick.here | apply Pick.skip | apply Pick.app); done); focus rfl) | (apply en_own; focus ((repeat' first | exact Pick.here | apply Pick.skip | apply Pick.app); done); focus rfl) | (apply en_pick; focus ((repeat' first | exact Pick.here | apply Pick.skip | apply Pick.app); done)) | apply en_drop | apply en_app) <;> fail)), fun _ s => s, ?_⟩
          refine RS_e (RE_eff rfl rfl rfl (eff_append rfl rfl (by repeat' first | exact Pick.here | apply Pick.skip) ((by repeat' first | exact m2 _ | apply Rc.skip)) ((flat_one _)) (by rfl) (by decide) (by first | omega | (simp; done) | (simp; omega)) (by first | omega | (simp; done) | (simp; omega))) ?_); rintro _ _ ⟨A76, c76, rfl, hc76, hm76, hn76, rfl⟩; refine ⟨_, (by first | ((repeat first | exact fun _ s => s | apply en_keep | apply en_drop | apply en_app) <;> fail) | ((repeat first | exact en_refl | (apply en_blk; focus ((repeat' first | exact Pick.here | apply Pick.skip | apply Pick.app); done); focus rfl) | (apply en_own; focus ((repeat' first | exact Pick.here | apply Pick.skip | apply Pick.app); done); focus rfl) | (apply en_pick; focus ((repeat' first | exact Pick.here | apply Pick.skip | apply Pick.app); done)) | apply en_drop | apply en_app) <;> fail)), fun _ s => s, ?_⟩
          refine RS_m retB_noPanic rfl rfl rfl rfl (ev_assign rfl) ?_
          refine RS_nil ?_
        case' x1_0 =>
          refine RE_eff rfl rfl rfl eff_buildSlice0 ?_; rintro _ _ ⟨b65, rfl, rfl⟩; refine ⟨_, (by first | ((repeat first | exact fun _ s => s | apply en_keep | apply en_drop | apply en_app) <;> fail) | ((repeat first | exact en_refl | (apply en_blk; focus ((repeat' first | exact Pick.here | apply Pick.skip | apply Pick.app); done); focus rfl) | (apply en_own; focus ((repeat' first | exact Pick.here | apply Pick.skip | apply Pick.app); done); focus rfl) | (apply en_pick; focus ((repeat' first | exact Pick.here | apply Pick.skip | apply Pick.app); done)) | apply en_drop | apply en_app) <;> fail)), fun _ s => s, ?_⟩
          refine RS_br ?x2_0 ?x2_1
          case' x2_1 =>
            refine RE_eff rfl rfl rfl (eff_buildSlice1 (by rfl) rfl rfl) ?_; rintro _ _ ⟨b71, rfl, rfl⟩; refine ⟨_, (by first | ((repeat first | exact fun _ s => s | apply en_keep | apply en_drop | apply en_app) <;> fail) | ((repeat first | exact en_refl | (apply en_blk; focus ((repeat' first | exact Pick.here | apply Pick.skip | apply Pick.app); done); focus rfl) | (apply en_own; focus ((repeat' first | exact Pick.here | apply Pick.skip | apply Pick.app); done); focus rfl) | (apply en_pick; focus ((repeat' first | exact Pick.here | apply Pick.skip | apply Pick.app); done)) | apply en_drop | apply en_app) <;> fail)), fun _ s => s, ?_⟩
            refine RS_e (RE_eff rfl rfl rfl (eff_append rfl rfl (by repeat' first | exact Pick.here | apply Pick.skip) ((by repeat' first | exact m1 _ | apply Rc.skip)) ((flat_one _)) (by rfl) (by decide) (by first | omega | (simp; done) | (simp; omega)) (by first | omega | (simp; done) | (simp; omega))) ?_); rintro _ _ ⟨A69, c69, rfl, hc69, hm69, hn69, rfl⟩; refine ⟨_, (by first | ((repeat first | exact fun _ s => s | apply en_keep | apply en_drop | apply en_app) <;> fail) | ((repeat first | exact en_refl | (apply en_blk; focus ((repeat' first | exact Pick.here | apply Pick.skip | apply Pick.app); done); focus rfl) | (apply en_own; focus ((repeat' first | exact Pick.here | apply Pick.skip | apply Pick.app); done); focus rfl) | (apply en_pick; focus ((repeat' first | exact Pick.here | apply Pick.skip | apply Pick.app); done)) | apply en_drop | apply en_app) <;> fail)), fun _ s => s, ?_⟩
            refine RS_e (RE_eff rfl rfl rfl (eff_append rfl rfl (by repeat' first | exact Pick.here | apply Pick.skip) (by repeat' first | exact Rc.blk rfl | assumption | apply Rc.skip) (one_all rfl) (by rfl) (by decide) (by first | omega | (simp; done) | (simp; omega)) (by first | omega | (simp; done) | (simp; omega))) ?_); rintro _ _ ⟨A72, c72, rfl, hc72, hm72, hn72, rfl⟩; refine ⟨_, (by first | ((repeat first | exact fun _ s => s | apply en_keep | apply en_drop | apply en_app) <;> fail) | ((repeat first | exact en_refl | (apply en_blk; focus ((repeat' first | exact Pick.here | apply Pick.skip | apply Pick.app); done); focus rfl) | (apply en_own; focus ((repeat' first | exact Pick.here | apply Pick.skip | apply Pick.app); done); focus rfl) | (apply en_pick; focus ((repeat' first | exact Pick.here | apply Pick.skip | apply Pick.app); done)) | apply en_drop | apply en_app) <;> fail)), fun _ s => s, ?_⟩
            refine RS_e (RE_eff rfl rfl rfl (eff_append rfl rfl (by repeat' first | exact Pick.here | apply Pick.skip) ((by repeat' first | exact m2 _ | apply Rc.skip)) ((flat_one _)) (by rfl) (by decide) (by first | omega | (simp; done) | (simp; omega)) (by first | omega | (simp; done) | (simp; omega))) ?_); rintro _ _ ⟨A76, c76, rfl, hc76, hm76, hn76, rfl⟩; refine ⟨_, (by first | ((repeat first | exact fun _ s => s | apply en_keep | apply en_drop | apply en_app) <;> fail) | ((repeat first | exact en_refl | (apply en_blk; focus ((repeat' first | exact Pick.here | apply Pick.skip | apply Pick.app); done); focus rfl) | (apply en_own; focus ((repeat' first | exact Pick.here | apply Pick.skip | apply Pick.app); done); focus rfl) | (apply en_pick; focus ((repeat' first | exact Pick.here | apply Pick.skip | apply Pick.app); done)) | apply en_drop | apply en_app) <;> fail)), fun _ s => s, ?_⟩
            refine RS_m retB_noPanic rfl rfl rfl rfl (ev_assign rfl) ?_
            refine RS_nil ?_
          case' x2_0 =>
            refine RE_eff rfl rfl rfl (eff_append rfl rfl (by repeat' first | exact Pick.here | apply Pick.skip) ((by repeat' first | exact m1 _ | apply Rc.skip)) ((flat_one _)) (by rfl) (by decide) (by first | omega | (simp; done) | (simp; omega)) (by first | omega | (simp; done) | (simp; omega))) ?_; rintro _ _ ⟨A69, c69, rfl, hc69, hm69, hn69, rfl⟩; refine ⟨_, (by first | ((repeat first | exact fun _ s => s | apply en_keep | apply en_drop | apply en_app) <;> fail) | ((repeat first | exact en_refl | (apply en_blk; focus ((repeat' first | exact Pick.here | apply Pick.skip | apply Pick.app); done); focus rfl) | (apply en_own; focus ((repeat' first | exact Pick.here | apply Pick.skip | apply Pick.app); done); focus rfl) | (apply en_pick; focus ((repeat' first | exact Pick.here | apply Pick.skip | apply Pick.app); done)) | apply en_drop | apply en_app) <;> fail)), fun _ s => s, ?_⟩
            refine RS_e (RE_eff rfl rfl rfl (eff_buildSlice1 (by rfl) rfl rfl) ?_); rintro _ _ ⟨b71, rfl, rfl⟩; refine ⟨_, (by first | ((repeat first | exact fun _ s => s | apply en_keep | apply en_drop | apply en_app) <;> fail) | ((repeat first | exact en_refl | (apply en_blk; focus ((repeat' first | exact Pick.here | apply Pick.skip | apply Pick.app); done); focus rfl) | (apply en_own; focus ((repeat' first | exact Pick.here | apply Pick.skip | apply Pick.app); done); focus rfl) | (apply en_pick; focus ((repeat' first | exact Pick.here | apply Pick.skip | apply Pick.app); done)) | apply en_drop | apply en_app) <;> fail)), fun _ s => s, ?_⟩
            refine RS_e (RE_eff rfl rfl rfl (eff_append rfl rfl (by repeat' first | exact Pick.here | apply Pick.skip) (by repeat' first | exact Rc.blk rfl | assumption | apply Rc.skip) (one_all rfl) (by rfl) (by decide) (by first | omega | (simp; done) | (simp; omega)) (by first | omega | (simp; done) | (simp; omega))) ?_); rintro _ _ ⟨A72, c72, rfl, hc72, hm72, hn72, rfl⟩; refine ⟨_, (by first | ((repeat first | exact fun _ s => s | apply en_keep | apply en_drop | apply en_app) <;> fail) | ((repeat first | exact en_refl | (apply en_blk; focus ((repeat' first | exact Pick.here | apply Pick.skip | apply Pick.app); done); focus rfl) | (apply en_own; focus ((repeat' first | exact Pick.here | apply Pick.skip | apply Pick.app); done); focus rfl) | (apply en_pick; focus ((repeat' first | exact Pick.here | apply Pick.skip | apply Pick.app); done)) | apply en_drop | apply en_app) <;> fail)), fun _ s => s, ?_⟩
            refine RS_e (RE_eff rfl rfl rfl (eff_append rfl rfl (by repeat' first | exact Pick.here | apply Pick.skip) ((by repeat' first | exact m2 _ | apply Rc.skip)) ((flat_one _)) (by rfl) (by decide) (by first | omega | (simp; done) | (simp; omega)) (by first | omega | (simp; done) | (simp; omega))) ?_); rintro _ _ ⟨A76, c76, rfl, hc76, hm76, hn76, rfl⟩; refine ⟨_, (by first | ((repeat first | exact fun _ s => s | apply en_keep | apply en_drop | apply en_app) <;> fail) | ((repeat first | exact en_refl | (apply en_blk; focus ((repeat' first | exact Pick.here | apply Pick.skip | apply Pick.app); done); focus rfl) | (apply en_own; focus ((repeat' first | exact Pick.here | apply Pick.skip | apply Pick.app); done); focus rfl) | (apply en_pick; focus ((repeat' first | exact Pick.here | apply Pick.skip | apply Pick.app); done)) | apply en_drop | apply en_app) <;> fail)), fun _ s => s, ?_⟩
            refine RS_m retB_noPanic rfl rfl rfl rfl (ev_assign rfl) ?_
            refine RS_nil ?_
        all_goals
          rw [nn]
          rw [nn] at hc76
          have hz := hn76 (Nat.lt_of_lt_of_eq (Nat.succ_pos _) (by omega : out.length + 1 = 0 + k + 1 + (out.length - k)))
          rcases hz with ⟨b9', hb9⟩
          subst hb9
          (repeat first | refine G_seq ?_ | refine G_skip ?_ | refine G_endblk ?_ | refine G_block ?_ | refine G_exit rfl ?_)
          refine G_region ?_
          refine GO_q rfl rfl (ev_move rfl) ?_
          (first | refine GO_q rfl rfl (ev_addN (q := 1) rfl rfl (by first | omega | (simp; done) | (simp; omega))) ?_ | refine GO_q rfl rfl (ev_add rfl rfl (by first | omega | (simp; done) | (simp; omega))) ?_)
          refine GO_q rfl rfl (ev_assign rfl) ?_
          refine GO_nil ?_
          (repeat first | refine G_seq ?_ | refine G_skip ?_ | refine G_endblk ?_ | refine G_block ?_ | refine G_exit rfl ?_)
          refine G_round (i + 1, b9', c76, out.take k ++ [p] ++ out.drop k) ⟨by simp only; omega, by simp only; rw [hol]; omega, hc76, hm76, hD, hpm⟩ (by simp only; omega) ⟨rfl, rfl, rfl, rfl, rfl, trivial⟩ ?_
          refine en_own .here ?_ (by (repeat first | exact en_refl | (apply en_blk; focus ((repeat' first | exact Pick.here | apply Pick.skip | apply Pick.app); done); focus rfl) | (apply en_own; focus ((repeat' first | exact Pick.here | apply Pick.skip | apply Pick.app); done); focus rfl) | (apply en_pick; focus ((repeat' first | exact Pick.here | apply Pick.skip | apply Pick.app); done)) | apply en_drop | apply en_app) <;> fail)
          rw [flat_append, flat_append]
          rfl
    · have hs1 : sel x1 x2 p = false := by simpa using hs
      have hpm : ((l.take (i + 1)).filter (sel x1 x2)).Perm out := by
        rw [s1, List.filter_append]
        have e1 : [p].filter (sel x1 x2) = [] := by simp [hs1]
        rw [e1, List.append_nil]
        exact f6
      by_cases hx1 : p.x < x1
      case' pos =>
        (repeat first | refine G_seq ?_ | refine G_skip ?_ | refine G_endblk ?_ | refine G_block ?_ | refine G_exit rfl ?_)
        refine G_region ?_
        refine GO_q rfl rfl (ev_fieldAddr rfl) ?_
        refine GO_q rfl rfl (ev_load rfl (by repeat' first | exact Ld.blk rfl | assumption | apply Ld.skip | apply Ld.app)) ?_
        refine GO_q rfl rfl (ev_move rfl) ?_
        (first | refine GO_q rfl rfl (ev_lssN rfl rfl) ?_ | refine GO_q rfl rfl (ev_lss rfl rfl) ?_)
        refine GO_q rfl rfl (ev_move rfl) ?_
        refine GO_no rfl rfl rfl (decide_eq_true hx1) ?_
        refine GO_no rfl rfl rfl (decide_eq_true hx1) ?_
        refine GO_no rfl rfl rfl (decide_eq_true hx1) ?_
        refine GO_no rfl rfl rfl (decide_eq_true hx1) ?_
        refine GO_q rfl rfl (ev_pick_t rfl (decide_eq_true hx1) rfl) ?_
        refine GO_nil ?_
        (repeat first | refine G_seq ?_ | refine G_skip ?_ | refine G_endblk ?_ | refine G_block ?_ | refine G_exit rfl ?_)
        refine G_cond_t rfl rfl ?_
      case' neg =>
        (repeat first | refine G_seq ?_ | refine G_skip ?_ | refine G_endblk ?_ | refine G_block ?_ | refine G_exit rfl ?_)
        refine G_region ?_
        refine GO_q rfl rfl (ev_fieldAddr rfl) ?_
        refine GO_q rfl rfl (ev_load rfl (by repeat' first | exact Ld.blk rfl | assumption | apply Ld.skip | apply Ld.app)) ?_
        refine GO_q rfl rfl (ev_move rfl) ?_
        (first | refine GO_q rfl rfl (ev_lssN rfl rfl) ?_ | refine GO_q rfl rfl (ev_lss rfl rfl) ?_)
        refine GO_q rfl rfl (ev_move rfl) ?_
        refine GO_yes rfl rfl rfl (decide_eq_false hx1) ?_
        refine GO_q rfl rfl (ev_fieldAddr rfl) ?_
        refine GO_yes rfl rfl rfl (decide_eq_false hx1) ?_
        refine GO_q rfl rfl (ev_load rfl (by repeat' first | exact Ld.blk rfl | assumption | apply Ld.skip | apply Ld.app)) ?_
        refine GO_yes rfl rfl rfl (decide_eq_false hx1) ?_
        refine GO_q rfl rfl (ev_move rfl) ?_
        refine GO_yes rfl rfl rfl (decide_eq_false hx1) ?_
        refine GO_q rfl rfl (ev_gtr rfl rfl) ?_
        refine GO_q rfl rfl (ev_pick_f rfl (decide_eq_false hx1) rfl) ?_
        refine GO_nil ?_
        (repeat first | refine G_seq ?_ | refine G_skip ?_ | refine G_endblk ?_ | refine G_block ?_ | refine G_exit rfl ?_)
        refine G_cond_t rfl (decide_eq_true (by rw [sel_true] at hs; omega)) ?_
      all_goals
        (repeat first | refine G_seq ?_ | refine G_skip ?_ | refine G_endblk ?_ | refine G_block ?_ | refine G_exit rfl ?_)
        (repeat first | refine G_seq ?_ | refine G_skip ?_ | refine G_endblk ?_ | refine G_block ?_ | refine G_exit rfl ?_)
        refine G_region ?_
        refine GO_q rfl rfl (ev_move rfl) ?_
        (first | refine GO_q rfl rfl (ev_addN (q := 1) rfl rfl (by first | omega | (simp; done) | (simp; omega))) ?_ | refine GO_q rfl rfl (ev_add rfl rfl (by first | omega | (simp; done) | (simp; omega))) ?_)
        refine GO_q rfl rfl (ev_assign rfl) ?_
        refine GO_nil ?_
        (repeat first | refine G_seq ?_ | refine G_skip ?_ | refine G_endblk ?_ | refine G_block ?_ | refine G_exit rfl ?_)
        exact G_round (i + 1, b, d, out) ⟨by simp only; omega, by simp only; omega, f3, f4, f5, hpm⟩ (by simp only; omega) ⟨rfl, rfl, rfl, rfl, rfl, trivial⟩ (by (repeat first | exact en_refl | (apply en_blk; focus ((repeat' first | exact Pick.here | apply Pick.skip | apply Pick.app); done); focus rfl) | (apply en_own; focus ((repeat' first | exact Pick.here | apply Pick.skip | apply Pick.app); done); focus rfl) | (apply en_pick; focus ((repeat' first | exact Pick.here | apply Pick.skip | apply Pick.app); done)) | apply en_drop | apply en_app) <;> fail)
  · have e : i = n := by omega
    subst e
    rw [List.take_of_length_le (by omega)] at f6
    (repeat first | refine G_seq ?_ | refine G_skip ?_ | refine G_endblk ?_ | refine G_block ?_ | refine G_exit rfl ?_)
    refine G_region ?_
    refine GO_q rfl rfl (ev_move rfl) ?_
    refine GO_q rfl rfl (ev_assign rfl) ?_
    refine GO_nil ?_
    (repeat first | refine G_seq ?_ | refine G_skip ?_ | refine G_endblk ?_ | refine G_block ?_ | refine G_exit rfl ?_)
    exact G_ret (L' := own 39 3 (some ⟨b, 0, none⟩) out.length d (flat out) :: L) rfl (.tmp rfl .nil) (by (repeat first | exact en_refl | (apply en_blk; focus ((repeat' first | exact Pick.here | apply Pick.skip | apply Pick.app); done); focus rfl) | (apply en_own; focus ((repeat' first | exact Pick.here | apply Pick.skip | apply Pick.app); done); focus rfl) | (apply en_pick; focus ((repeat' first | exact Pick.here | apply Pick.skip | apply Pick.app); done)) | apply en_drop | apply en_app) <;> fail) ⟨out, b, d, rfl, ⟨⟨f5, f6⟩, f3, f4⟩, rfl⟩
end Go.Proofs.Ytalcanejhniepaa
/- From a contract to what a law's row asks. -/
namespace Go.Proofs.Ytalcanejhniepaa
open Go.RowKit
set_option linter.unusedVariables false

/-- A law that holds by its contract: it returns true, and nothing old has turned. -/
theorem law_of_ctr {P : Program} {f : FuncId} {args : Array Value} {w : World} (h : Ctr P f args [old w.hm] fun v L' => v = .bool true ∧ L' = [old w.hm]) :
    Calls P f args w fun e w' => e = .returned (.bool true) ∧ Below w.heap.size w w' := by
  refine (calls_of h (Hp.start w)).mono fun e w' ⟨v, L', e1, ⟨e2, e3⟩, hw'⟩ => ?_
  subst e2 e3
  exact ⟨e1, hw'.below⟩
/-- What a slice of numbers reads as. -/
theorem rc_of_reads {w : World} {sz : Nat} {A : Option Addr} {n : Nat} {xs : List Value} (hsz : 0 < sz) (h : Reads w sz A n xs) : Rc [old w.hm] sz A n xs := by
  refine ⟨h.1, fun h0 => ?_⟩
  obtain ⟨b, o, rfl, hb, hc⟩ := h.2 (Nat.mul_pos h0 hsz)
  refine ⟨b, o, rfl, fun j v hj => Ld.old ?_⟩
  obtain ⟨h1, rfl⟩ := List.getElem?_eq_some_iff.1 hj
  exact hc j h1
end Go.Proofs.Ytalcanejhniepaa
/- Acts that came in. -/
namespace Go.Proofs.Ytalcanejhniepaa
theorem acts_of : ∀ (n : Nat) (ns : List Int), ns.length = n * 5 → Ints ns → ∃ l : List Ac, flat l = ints ns ∧ ∀ a ∈ l, a.at_ ≤ 9223372036854775807
  | 0, ns, h, _ => ⟨[], by
    have : ns = [] := List.eq_nil_of_length_eq_zero (by simpa using h)
    subst this; rfl, by simp⟩
  | n + 1, a :: b :: c :: d :: e :: ns, h, hb => by
    obtain ⟨l, hl, hk⟩ := acts_of n ns (by simp at h; omega) (fun x hx => hb x (by simp [hx]))
    refine ⟨⟨a, b, ⟨c, d, e⟩⟩ :: l, by rw [flat_cons, hl]; rfl, fun u hu => ?_⟩
    rcases List.mem_cons.1 hu with rfl | hu
    · exact (hb b (by simp)).2
    · exact hk u hu
  | n + 1, [], h, _ => by simp at h
  | n + 1, [_], h, _ => by simp at h; omega
  | n + 1, [_, _], h, _ => by simp at h; omega
  | n + 1, [_, _, _], h, _ => by simp at h; omega
  | n + 1, [_, _, _, _], h, _ => by simp at h; omega
theorem rd_acts {w : World} {A : Option Addr} {n : Nat} {ns : List Int} (h : Reads w 5 A n (ints ns)) (hb : Ints ns) : ∃ l : List Ac, Rd [old w.hm] A n l ∧ ∀ a ∈ l, a.at_ ≤ 9223372036854775807 := by
  obtain ⟨l, hl, hk⟩ := acts_of n ns (by simpa [ints] using h.1) hb
  refine ⟨l, ?_, hk⟩
  unfold Rd
  rw [hl]
  exact rc_of_reads (by decide) h
end Go.Proofs.Ytalcanejhniepaa
/- The law PstcurFalls. -/
namespace Go.Proofs.Ytalcanejhniepaa
attribute [local irreducible] sat
open Go.RowKit
set_option linter.unusedVariables false
set_option linter.unusedSimpArgs false
set_option maxRecDepth 100000

theorem SameP_ctr (A B : Option Addr) (n m c d : Nat) (l q : List Pt) (L : List HP) (hl : Rd L A n l) (hq : Rd L B m q) (hn : n ≤ 9223372036854775807) :
    Ctr Try.prog 14 #[.slice A n c, .slice B m d] L fun v L' => v = .bool (decide (l = q)) ∧ L' = L := by
  have h1 : l.length = n := hl.len (by decide)
  have h2 : q.length = m := hq.len (by decide)
  refine Ctr_of (fn := Try.f14) (n := 26) Try.func14 rfl rfl rfl ?_
  intro g F
  (repeat first | refine G_seq ?_ | refine G_skip ?_ | refine G_endblk ?_ | refine G_block ?_ | refine G_exit rfl ?_)
  refine G_region ?_
  refine GO_q rfl rfl (ev_assign rfl) ?_
  refine GO_nil ?_
  (repeat first | refine G_seq ?_ | refine G_skip ?_ | refine G_endblk ?_ | refine G_block ?_ | refine G_exit rfl ?_)
  refine G_region ?_
  refine GO_q rfl rfl (ev_move rfl) ?_
  refine GO_q rfl rfl (ev_len rfl) ?_
  refine GO_q rfl rfl (ev_move rfl) ?_
  refine GO_q rfl rfl (ev_len rfl) ?_
  refine GO_q rfl rfl (ev_neq rfl rfl) ?_
  refine GO_nil ?_
  (repeat first | refine G_seq ?_ | refine G_skip ?_ | refine G_endblk ?_ | refine G_block ?_ | refine G_exit rfl ?_)
  refine G_cond rfl (fun h3 => ?_) (fun h3 => ?_)
  · (repeat first | refine G_seq ?_ | refine G_skip ?_ | refine G_endblk ?_ | refine G_block ?_ | refine G_exit rfl ?_)
    refine G_region ?_
    refine GO_q rfl rfl (ev_assign rfl) ?_
    refine GO_nil ?_
    (repeat first | refine G_seq ?_ | refine G_skip ?_ | refine G_endblk ?_ | refine G_block ?_ | refine G_exit rfl ?_)
    refine G_ret rfl (.tmp rfl .nil) (by (repeat first | exact fun _ s => s | apply en_keep | apply en_drop | apply en_app) <;> fail) ⟨by simp [retv]; intro h; subst h; omega, rfl⟩
  · have e : n = m := by omega
    subst e
    (repeat first | refine G_seq ?_ | refine G_skip ?_ | refine G_endblk ?_ | refine G_block ?_ | refine G_exit rfl ?_)
    refine G_region ?_
    refine GO_q rfl rfl (ev_assign rfl) ?_
    refine GO_nil ?_
    (repeat first | refine G_seq ?_ | refine G_skip ?_ | refine G_endblk ?_ | refine G_block ?_ | refine G_exit rfl ?_)
    refine G_loop (ι := Nat) (fun k => [(0, .slice A n c), (1, .slice B n d), (5, .int .i64 (k : Nat))]) (fun _ => F :: L) (fun k => k ≤ n ∧ l.take k = q.take k) (fun k => n - k) 0 ⟨Nat.zero_le _, rfl⟩ ⟨rfl, rfl, rfl, trivial⟩ (by (repeat first | exact fun _ s => s | apply en_keep | apply en_drop | apply en_app) <;> fail) ?_
    rintro k ⟨hk, ht⟩
    (repeat first | refine G_seq ?_ | refine G_skip ?_ | refine G_endblk ?_ | refine G_block ?_ | refine G_exit rfl ?_)
    refine G_region ?_
    refine GO_q rfl rfl (ev_move rfl) ?_
    refine GO_q rfl rfl (ev_move rfl) ?_
    refine GO_q rfl rfl (ev_len rfl) ?_
    (first | refine GO_q rfl rfl (ev_lssN rfl rfl) ?_ | refine GO_q rfl rfl (ev_lss rfl rfl) ?_)
    refine GO_nil ?_
    (repeat first | refine G_seq ?_ | refine G_skip ?_ | refine G_endblk ?_ | refine G_block ?_ | refine G_exit rfl ?_)
    refine G_cond rfl (fun h4 => ?_) (fun h4 => ?_)
    · obtain ⟨b1, o1, rfl, x1⟩ := hl.at_ (by omega)
      obtain ⟨b2, o2, rfl, x2⟩ := hq.at_ (by omega)
      have g1 : l[k]? = some l[k] := List.getElem?_eq_getElem (by omega)
      have g2 : q[k]? = some q[k] := List.getElem?_eq_getElem (by omega)
      have y1 := x1 _ _ g1
      have y2 := x2 _ _ g2
      have s1 : l.take (k + 1) = l.take k ++ [l[k]] := List.take_succ_eq_append_getElem (by omega)
      have s2 : q.take (k + 1) = q.take k ++ [q[k]] := List.take_succ_eq_append_getElem (by omega)
      generalize l[k] = u at *
      generalize q[k] = v at *
      have z1 : LdN L b1 (o1 + k * 3) 3 [.int .i64 u.id, .int .i64 u.x, .int .i64 u.y] := y1
      have z2 : LdN L b2 (o2 + k * 3) 3 [.int .i64 v.id, .int .i64 v.x, .int .i64 v.y] := y2
      (repeat first | refine G_seq ?_ | refine G_skip ?_ | refine G_endblk ?_ | refine G_block ?_ | refine G_exit rfl ?_)
      refine G_draw (.q 0 (.q 1 (.q 2 (.q 3 (.q 4 (.q 5 (.q 6 (.q 7 (.q 8 .nil))))))))) (by kernel_rfl) (by kernel_rfl) ?_
      refine RS_m retB_noPanic rfl rfl rfl rfl (ev_move rfl) ?_
      refine RS_m retB_noPanic rfl rfl rfl rfl (ev_move rfl) ?_
      (first | refine RS_m retB_noPanic rfl rfl rfl rfl (ev_indexAddrN rfl rfl (by first | omega | (simp; done) | (simp; omega))) ?_ | refine RS_m retB_noPanic rfl rfl rfl rfl (ev_indexAddr rfl rfl (by first | omega | (simp; done) | (simp; omega)) (by first | omega | (simp; done) | (simp; omega))) ?_)
      refine RS_q retB_noPanic rfl rfl rfl rfl (ev_loadN rfl (by repeat' first | exact LdN.blk rfl | assumption | apply LdN.skip | apply LdN.app)) ?_
      refine RS_m retB_noPanic rfl rfl rfl rfl (ev_move rfl) ?_
      refine RS_m retB_noPanic rfl rfl rfl rfl (ev_move rfl) ?_
      (first | refine RS_m retB_noPanic rfl rfl rfl rfl (ev_indexAddrN rfl rfl (by first | omega | (simp; done) | (simp; omega))) ?_ | refine RS_m retB_noPanic rfl rfl rfl rfl (ev_indexAddr rfl rfl (by first | omega | (simp; done) | (simp; omega)) (by first | omega | (simp; done) | (simp; omega))) ?_)
      refine RS_q retB_noPanic rfl rfl rfl rfl (ev_loadN rfl (by repeat' first | exact LdN.blk rfl | assumption | apply LdN.skip | apply LdN.app)) ?_
      refine RS_m retB_noPanic rfl rfl rfl rfl (ev_neqS rfl rfl rfl rfl rfl rfl) ?_
      refine RS_nil ?_
      (repeat first | refine G_seq ?_ | refine G_skip ?_ | refine G_endblk ?_ | refine G_block ?_ | refine G_exit rfl ?_)
      refine G_cond rfl (fun h5 => ?_) (fun h5 => ?_)
      · (repeat first | refine G_seq ?_ | refine G_skip ?_ | refine G_endblk ?_ | refine G_block ?_ | refine G_exit rfl ?_)
        refine G_region ?_
        refine GO_q rfl rfl (ev_assign rfl) ?_
        refine GO_nil ?_
        (repeat first | refine G_seq ?_ | refine G_skip ?_ | refine G_endblk ?_ | refine G_block ?_ | refine G_exit rfl ?_)
        refine G_ret rfl (.tmp rfl .nil) (by (repeat first | exact fun _ s => s | apply en_keep | apply en_drop | apply en_app) <;> fail) ⟨by simp [retv]; intro h; subst h; exact h5 ((pt_list u v).2 (by rw [g1] at g2; exact Option.some.inj g2)), rfl⟩
      · have e : u = v := (pt_list u v).1 (by simpa using h5)
        (repeat first | refine G_seq ?_ | refine G_skip ?_ | refine G_endblk ?_ | refine G_block ?_ | refine G_exit rfl ?_)
        refine G_region ?_
        refine GO_q rfl rfl (ev_move rfl) ?_
        (first | refine GO_q rfl rfl (ev_addN (q := 1) rfl rfl (by first | omega | (simp; done) | (simp; omega))) ?_ | refine GO_q rfl rfl (ev_add rfl rfl (by first | omega | (simp; done) | (simp; omega))) ?_)
        refine GO_q rfl rfl (ev_assign rfl) ?_
        refine GO_nil ?_
        (repeat first | refine G_seq ?_ | refine G_skip ?_ | refine G_endblk ?_ | refine G_block ?_ | refine G_exit rfl ?_)
        exact G_round (k + 1) ⟨by omega, by rw [s1, s2, ht, e]⟩ (by omega) ⟨rfl, rfl, rfl, trivial⟩ (by (repeat first | exact fun _ s => s | apply en_keep | apply en_drop | apply en_app) <;> fail)
    · have e : k = n := by omega
      subst e
      have : l = q := by rwa [List.take_of_length_le (by omega), List.take_of_length_le (by omega)] at ht
      (repeat first | refine G_seq ?_ | refine G_skip ?_ | refine G_endblk ?_ | refine G_block ?_ | refine G_exit rfl ?_)
      refine G_region ?_
      refine GO_q rfl rfl (ev_assign rfl) ?_
      refine GO_nil ?_
      (repeat first | refine G_seq ?_ | refine G_skip ?_ | refine G_endblk ?_ | refine G_block ?_ | refine G_exit rfl ?_)
      refine G_ret rfl (.tmp rfl .nil) (by (repeat first | exact fun _ s => s | apply en_keep | apply en_drop | apply en_app) <;> fail) ⟨by simp [retv, this], rfl⟩
/-- A tree at a place is opened. -/
theorem G_tree {P : Program} {B : Exit → Act → World → Prop} {g : Glob} {n : Nat} {K : List Kt} {σ : Env} {L : List HP} {b : Nat} {most : Int} {l : List Pt}
    (h : ∀ x : PA, x.t.Of l → G P B g n K σ (blk b 91 (treeC x most) :: paH x :: L)) : G P B g n K σ (treeS b most l :: L) :=
  G_open (ι := PA) (F := fun x => x.t.Of l) (N := fun x => [blk b 91 (treeC x most), paH x]) (fun _ h => h) fun x o => h x o
theorem lives15_ctr (L : List HP) : Ctr Try.prog 17 #[] L fun v L' => v = .bool true ∧ ∃ X, L' = X ++ L := by
  have e1 : insC 3 [] ⟨1, 0, 5⟩ = 0 := by decide
  have e2 : insL 3 [] ⟨1, 0, 5⟩ = [⟨1, 0, 5⟩] := by decide
  have e3 : insC 3 [⟨1, 0, 5⟩] ⟨2, 3, 9⟩ = 0 := by decide
  have e4 : insL 3 [⟨1, 0, 5⟩] ⟨2, 3, 9⟩ = [⟨2, 3, 9⟩, ⟨1, 0, 5⟩] := by decide
  refine Ctr_of (fn := Try.f17) (n := 67) Try.func17 rfl rfl rfl ?_
  intro g F
  (repeat first | refine G_seq ?_ | refine G_skip ?_ | refine G_endblk ?_ | refine G_block ?_ | refine G_exit rfl ?_)
  refine G_region ?_
  refine GO_q rfl rfl (ev_assign rfl) ?_
  refine GO_nil ?_
  (repeat first | refine G_seq ?_ | refine G_skip ?_ | refine G_endblk ?_ | refine G_block ?_ | refine G_exit rfl ?_)
  refine G_region ?_
  refine GO_eff rfl rfl (eff_call rfl (PNew_ctr 3 _ (by decide))) ?_; rintro _ _ ⟨t, rfl, rfl⟩
  refine GO_q rfl rfl (ev_move rfl) ?_
  refine GO_q rfl rfl (ev_extract rfl rfl) ?_
  refine GO_q rfl rfl (ev_extract rfl rfl) ?_
  refine GO_q rfl rfl (ev_assign rfl) ?_
  refine GO_q rfl rfl (ev_assign rfl) ?_
  refine GO_nil ?_
  (repeat first | refine G_seq ?_ | refine G_skip ?_ | refine G_endblk ?_ | refine G_block ?_ | refine G_exit rfl ?_)
  refine G_region ?_
  refine GO_q rfl rfl (ev_move rfl) ?_
  refine GO_q rfl rfl (ev_build rfl rfl) ?_
  refine GO_eff rfl rfl (eff_call rfl (Ctr.pick (by repeat' first | exact Pick.here | apply Pick.skip | apply Pick.app) (PInsert_ctr t 3 [] ⟨1, 0, 5⟩ _ (by decide)))) ?_; rintro _ _ ⟨rfl, rfl⟩
  refine GO_q rfl rfl (ev_assign rfl) ?_
  refine GO_nil ?_
  rw [e1, e2]
  (repeat first | refine G_seq ?_ | refine G_skip ?_ | refine G_endblk ?_ | refine G_block ?_ | refine G_exit rfl ?_)
  refine G_region ?_
  refine GO_q rfl rfl (ev_move rfl) ?_
  refine GO_q rfl rfl (ev_build rfl rfl) ?_
  refine GO_eff rfl rfl (eff_call rfl (Ctr.pick (by repeat' first | exact Pick.here | apply Pick.skip | apply Pick.app) (PInsert_ctr t 3 [⟨1, 0, 5⟩] ⟨2, 3, 9⟩ _ (by decide)))) ?_; rintro _ _ ⟨rfl, rfl⟩
  refine GO_q rfl rfl (ev_assign rfl) ?_
  refine GO_nil ?_
  rw [e3, e4]
  refine G_heap (L' := treeS t 3 [⟨2, 3, 9⟩, ⟨1, 0, 5⟩] :: F :: L) (by (repeat first | exact en_refl | (apply en_blk; focus ((repeat' first | exact Pick.here | apply Pick.skip | apply Pick.app); done); focus rfl) | (apply en_own; focus ((repeat' first | exact Pick.here | apply Pick.skip | apply Pick.app); done); focus rfl) | (apply en_pick; focus ((repeat' first | exact Pick.here | apply Pick.skip | apply Pick.app); done)) | apply en_drop | apply en_app) <;> fail) ?_
  refine G_tree fun x o => ?_
  have ht : ∀ L', LdN (blk t 91 (treeC x 3) :: L') t 0 2 (treeC x 3) := fun L' => LdN.blk rfl
  have hp : ∀ L', PIn (paH x :: L') x := fun L' => paH_in x L'
  have hsz : x.t.size = 2 := o.size
  have hg : ∀ p ∈ x.t.els, -9223372036854775808 ≤ p.y := fun p hp => by
    have := o.perm.subset hp
    simp at this
    rcases this with rfl | rfl <;> decide
  have hd : DownOf 0 9 x.t.els [⟨2, 3, 9⟩, ⟨1, 0, 5⟩] := ⟨by unfold Desc; simp; decide, (o.perm.filter _).trans (by simp [sel])⟩
  have hwin : (x.seen ⟨0, 9, 6⟩).length = 1 := by
    rw [(winIds_of o).length_eq]; decide
  (repeat first | refine G_seq ?_ | refine G_skip ?_ | refine G_endblk ?_ | refine G_block ?_ | refine G_exit rfl ?_)
  refine G_region ?_
  refine GO_q rfl rfl (ev_move rfl) ?_
  refine GO_eff rfl rfl (eff_call rfl (fDown_ctr t x 3 0 9 2 _ _ (by repeat' first | exact ht _ | apply LdN.skip) (by repeat' first | exact hp _ | apply PIn.skip) o.ok hg hd (by omega))) ?_; rintro _ _ ⟨c20, xs, L0, rfl, ⟨hI, hM⟩, rfl⟩
  refine GO_eff rfl rfl (eff_call rfl (fTake_ctr c20 0 0 9 2 xs [⟨2, 3, 9⟩, ⟨1, 0, 5⟩] 5 _ L0 hI hM (by decide) (by decide))) ?_; rintro _ _ ⟨ys, j, A21, d21, rfl, ⟨hI2, hA21, hc21, hm21⟩, rfl⟩
  refine GO_q rfl rfl (ev_assign rfl) ?_
  refine GO_nil ?_
  have hz := hA21 (by decide)
  rcases hz with ⟨ab, hab⟩
  subst hab
  (repeat first | refine G_seq ?_ | refine G_skip ?_ | refine G_endblk ?_ | refine G_block ?_ | refine G_exit rfl ?_)
  refine G_region ?_
  refine GO_q rfl rfl (ev_move rfl) ?_
  refine GO_q rfl rfl (ev_build rfl rfl) ?_
  refine GO_eff rfl rfl (eff_call rfl (cReport_ctr t x 3 ⟨0, 9, 6⟩ _ (by repeat' first | exact ht _ | apply LdN.skip) (by repeat' first | exact hp _ | apply PIn.skip) (by omega))) ?_; rintro _ _ ⟨cc, L1, rfl, hM1, rfl⟩
  refine GO_q rfl rfl (ev_assign rfl) ?_
  refine GO_nil ?_
  have hcr : x.cntR ⟨0, 9, 6⟩ ≤ 2 := by
    unfold PA.cntR
    split
    · omega
    · rename_i hn
      have := PA.cnt_size ⟨0, 9, 6⟩ x (by simpa using hn)
      omega
  have hS := fun L hML => cStep_ctr cc (x.cntR ⟨0, 9, 6⟩) 0 ⟨0, 9, 6⟩ true (x.seen ⟨0, 9, 6⟩) L1 L 9 hML (by decide) (by omega) (by decide)
  have hN := fun L => cN_ctr cc (0 + min (Int.toNat 9) (x.cntR ⟨0, 9, 6⟩)) ⟨0, 9, 6⟩ true (x.seen ⟨0, 9, 6⟩) L1 L
  have hmin : x.cntR ⟨0, 9, 6⟩ - min (Int.toNat 9) (x.cntR ⟨0, 9, 6⟩) = 0 := by have : Int.toNat 9 = 9 := rfl; omega
  rw [hmin] at hS
  rw [hwin] at hN
  generalize 0 + min (Int.toNat 9) (x.cntR ⟨0, 9, 6⟩) = kk at *
  generalize min (Int.toNat 9) (x.cntR ⟨0, 9, 6⟩) = mm at *
  (repeat first | refine G_seq ?_ | refine G_skip ?_ | refine G_endblk ?_ | refine G_block ?_ | refine G_exit rfl ?_)
  refine G_region ?_
  refine GO_q rfl rfl (ev_move rfl) ?_
  refine GO_eff rfl rfl (eff_call rfl (Ctr.pick (by repeat' first | exact Pick.here | apply Pick.skip | apply Pick.app) (hS _ (fun h s => hM1 h (by first | exact s | exact s.tail))))) ?_; rintro _ _ ⟨rfl, rfl⟩
  refine GO_q rfl rfl (ev_move rfl) ?_
  refine GO_q rfl rfl (ev_extract rfl rfl) ?_
  refine GO_q rfl rfl (ev_extract rfl rfl) ?_
  refine GO_q rfl rfl (ev_assign rfl) ?_
  refine GO_q rfl rfl (ev_assign rfl) ?_
  refine GO_nil ?_
  have hl9 : ([⟨2, 3, 9⟩, ⟨1, 0, 5⟩] : List Pt).take (Int.toNat 5) = [⟨2, 3, 9⟩, ⟨1, 0, 5⟩] := rfl
  have r : ∀ X, Rd (own 39 3 (some ⟨ab, 0, none⟩) ([⟨2, 3, 9⟩, ⟨1, 0, 5⟩] : List Pt).length d21 (flat ([⟨2, 3, 9⟩, ⟨1, 0, 5⟩] : List Pt)) :: X) (some ⟨ab, 0, none⟩) ([⟨2, 3, 9⟩, ⟨1, 0, 5⟩] : List Pt).length ([⟨2, 3, 9⟩, ⟨1, 0, 5⟩] : List Pt) := fun X => Rc.own (flat_length _) (fun _ => ⟨ab, rfl⟩)
  have y0 : ∀ X, Ld (own 39 3 (some ⟨ab, 0, none⟩) ([⟨2, 3, 9⟩, ⟨1, 0, 5⟩] : List Pt).length d21 (flat ([⟨2, 3, 9⟩, ⟨1, 0, 5⟩] : List Pt)) :: X) ⟨ab, 0 + 0 * 3 + 0, none⟩ (.int .i64 2) := fun X => by
    obtain ⟨_, _, e9, hx⟩ := (r X).at_ (by decide)
    cases e9
    exact (hx 0 ⟨2, 3, 9⟩ rfl).at_ (i := 0) rfl
  have y1 : ∀ X, Ld (own 39 3 (some ⟨ab, 0, none⟩) ([⟨2, 3, 9⟩, ⟨1, 0, 5⟩] : List Pt).length d21 (flat ([⟨2, 3, 9⟩, ⟨1, 0, 5⟩] : List Pt)) :: X) ⟨ab, 0 + 1 * 3 + 0, none⟩ (.int .i64 1) := fun X => by
    obtain ⟨_, _, e9, hx⟩ := (r X).at_ (by decide)
    cases e9
    exact (hx 1 ⟨1, 0, 5⟩ rfl).at_ (i := 0) rfl
  rw [hl9]
  (repeat first | refine G_seq ?_ | refine G_skip ?_ | refine G_endblk ?_ | refine G_block ?_ | refine G_exit rfl ?_)
  refine G_region ?_
  refine GO_q rfl rfl (ev_move rfl) ?_
  refine GO_q rfl rfl (ev_eql rfl rfl) ?_
  refine GO_q rfl rfl (ev_move rfl) ?_
  refine GO_yes rfl rfl rfl rfl ?_
  refine GO_q rfl rfl (ev_move rfl) ?_
  refine GO_yes rfl rfl rfl rfl ?_
  refine GO_q rfl rfl (ev_eql rfl rfl) ?_
  refine GO_q rfl rfl (ev_pick_t rfl rfl rfl) ?_
  refine GO_q rfl rfl (ev_move rfl) ?_
  refine GO_yes rfl rfl rfl rfl ?_
  refine GO_q rfl rfl (ev_move rfl) ?_
  refine GO_yes rfl rfl rfl rfl ?_
  refine GO_q rfl rfl (ev_eql rfl rfl) ?_
  refine GO_q rfl rfl (ev_pick_t rfl rfl rfl) ?_
  refine GO_q rfl rfl (ev_move rfl) ?_
  refine GO_yes rfl rfl rfl rfl ?_
  refine GO_q rfl rfl (ev_move rfl) ?_
  refine GO_yes rfl rfl rfl rfl ?_
  refine GO_q rfl rfl (ev_len rfl) ?_
  refine GO_yes rfl rfl rfl rfl ?_
  refine GO_q rfl rfl (ev_eql rfl rfl) ?_
  refine GO_q rfl rfl (ev_pick_t rfl rfl rfl) ?_
  refine GO_q rfl rfl (ev_move rfl) ?_
  refine GO_yes rfl rfl rfl rfl ?_
  refine GO_q rfl rfl (ev_move rfl) ?_
  refine GO_yes rfl rfl rfl rfl ?_
  (first | refine GO_q rfl rfl (ev_indexAddrN rfl rfl (by first | omega | (simp; done) | (simp; omega))) ?_ | refine GO_q rfl rfl (ev_indexAddr rfl rfl (by first | omega | (simp; done) | (simp; omega)) (by first | omega | (simp; done) | (simp; omega))) ?_)
  refine GO_yes rfl rfl rfl rfl ?_
  refine GO_q rfl rfl (ev_fieldAddr rfl) ?_
  refine GO_yes rfl rfl rfl rfl ?_
  refine GO_q rfl rfl (ev_load rfl (by repeat' first | exact y0 _ | apply Ld.skip)) ?_
  refine GO_yes rfl rfl rfl rfl ?_
  refine GO_q rfl rfl (ev_eql rfl rfl) ?_
  refine GO_q rfl rfl (ev_pick_t rfl rfl rfl) ?_
  refine GO_q rfl rfl (ev_move rfl) ?_
  refine GO_yes rfl rfl rfl rfl ?_
  refine GO_q rfl rfl (ev_move rfl) ?_
  refine GO_yes rfl rfl rfl rfl ?_
  (first | refine GO_q rfl rfl (ev_indexAddrN rfl rfl (by first | omega | (simp; done) | (simp; omega))) ?_ | refine GO_q rfl rfl (ev_indexAddr rfl rfl (by first | omega | (simp; done) | (simp; omega)) (by first | omega | (simp; done) | (simp; omega))) ?_)
  refine GO_yes rfl rfl rfl rfl ?_
  refine GO_q rfl rfl (ev_fieldAddr rfl) ?_
  refine GO_yes rfl rfl rfl rfl ?_
  refine GO_q rfl rfl (ev_load rfl (by repeat' first | exact y1 _ | apply Ld.skip)) ?_
  refine GO_yes rfl rfl rfl rfl ?_
  refine GO_q rfl rfl (ev_eql rfl rfl) ?_
  refine GO_q rfl rfl (ev_pick_t rfl rfl rfl) ?_
  refine GO_q rfl rfl (ev_move rfl) ?_
  refine GO_yes rfl rfl rfl rfl ?_
  refine GO_q rfl rfl (ev_move rfl) ?_
  refine GO_q rfl rfl (ev_pick_t rfl rfl rfl) ?_
  refine GO_q rfl rfl (ev_move rfl) ?_
  refine GO_yes rfl rfl rfl (by simp) ?_
  refine GO_q rfl rfl (ev_move rfl) ?_
  refine GO_yes rfl rfl rfl (by simp) ?_
  refine GO_eff rfl rfl (eff_call rfl (Ctr.pick (by repeat' first | exact Pick.here | apply Pick.skip | apply Pick.app) (hN _))) ?_; rintro _ _ ⟨rfl, rfl⟩
  refine GO_yes rfl rfl rfl (by simp) ?_
  refine GO_q rfl rfl (ev_eql rfl rfl) ?_
  refine GO_q rfl rfl (ev_pick_t rfl (by simp) rfl) ?_
  refine GO_q rfl rfl (ev_assign rfl) ?_
  refine GO_nil ?_
  (repeat first | refine G_seq ?_ | refine G_skip ?_ | refine G_endblk ?_ | refine G_block ?_ | refine G_exit rfl ?_)
  exact G_ret (L' := [curP cc ⟨0, 9, 6⟩ true (x.seen ⟨0, 9, 6⟩) L1 0 kk] ++ L) rfl (.tmp rfl .nil) (by (repeat first | exact en_refl | (apply en_blk; focus ((repeat' first | exact Pick.here | apply Pick.skip | apply Pick.app); done); focus rfl) | (apply en_own; focus ((repeat' first | exact Pick.here | apply Pick.skip | apply Pick.app); done); focus rfl) | (apply en_pick; focus ((repeat' first | exact Pick.here | apply Pick.skip | apply Pick.app); done)) | apply en_drop | apply en_app) <;> fail) ⟨rfl, _, rfl⟩
theorem en_comp {A B C : List HP} (f : ∀ h, sat A h → sat B h) (g : ∀ h, sat B h → sat C h) : ∀ h, sat A h → sat C h := fun h s => g h (f h s)
theorem down_ex (x1 x2 : Int) (l : List Pt) (hnd : l.Nodup) : ∃ o, DownOf x1 x2 l o := by
  refine ⟨((l.filter (sel x1 x2)).mergeSort fun a b => !und a b), ?_, (List.mergeSort_perm _ _).symm⟩
  have h1 : ((l.filter (sel x1 x2)).mergeSort fun a b => !und a b).Pairwise (fun a b => (!und a b) = true) := by
    refine List.pairwise_mergeSort (fun a b c h k => ?_) (fun a b => ?_) _
    · have h' : lowr b a := by unfold lowr; simpa using h
      have k' : lowr c b := by unfold lowr; simpa using k
      have := lowr_trans k' h'
      unfold lowr at this
      simp [this]
    · cases hu : und a b with
      | false => simp
      | true => simp [und_asymm hu]
  have h2 : ((l.filter (sel x1 x2)).mergeSort fun a b => !und a b).Nodup := (List.mergeSort_perm _ _).nodup_iff.2 (hnd.sublist List.filter_sublist)
  have h3 := h1.and h2
  exact h3.imp fun {a b} ⟨u, v⟩ => und_total v (by simpa using u)
theorem PstcurFalls_ctr (A : Option Addr) (n c : Nat) (acts : List Ac) (x1 x2 : Int) (T : Option Addr) (m d : Nat) (takes : List Int) (L : List HP) (hl : Rd L A n acts) (hn : n ≤ 9223372036854775807) (ha : ∀ a ∈ acts, a.at_ ≤ 9223372036854775807) (htk : Rd L T m takes) (hm : m ≤ 9223372036854775807) (hti : ∀ t ∈ takes, t ≤ 9223372036854775807) :
    Ctr Try.prog 3 #[.slice A n c, .agg #[.int .i64 x1, .int .i64 x2], .slice T m d] L fun v L' => v = .bool true ∧ L' = L := by
  have htl : takes.length = m := htk.len (by decide)
  refine Ctr_of (fn := Try.f3) (n := 117) Try.func3 rfl rfl rfl ?_
  intro g F
  (repeat first | refine G_seq ?_ | refine G_skip ?_ | refine G_endblk ?_ | refine G_block ?_ | refine G_exit rfl ?_)
  refine G_region ?_
  refine GO_eff rfl rfl (eff_box rfl) ?_; rintro _ _ ⟨b4, rfl, rfl⟩
  refine GO_q rfl rfl (ev_assign rfl) ?_
  refine GO_nil ?_
  (repeat first | refine G_seq ?_ | refine G_skip ?_ | refine G_endblk ?_ | refine G_block ?_ | refine G_exit rfl ?_)
  refine G_region ?_
  refine GO_q rfl rfl (ev_move rfl) ?_
  refine GO_eff rfl rfl (eff_call rfl (Ctr.frame (blk b4 23 [.int .i64 x1, .int .i64 x2] :: F :: []) (Made_ctr A n c acts L hl hn ha) (fun _ s => s))) ?_; rintro _ _ ⟨_, ⟨t, s, l, rfl, ⟨hl1, hl2⟩, rfl⟩, rfl⟩
  refine GO_q rfl rfl (ev_move rfl) ?_
  refine GO_q rfl rfl (ev_extract rfl rfl) ?_
  refine GO_q rfl rfl (ev_extract rfl rfl) ?_
  refine GO_q rfl rfl (ev_extract rfl rfl) ?_
  refine GO_q rfl rfl (ev_assign rfl) ?_
  refine GO_q rfl rfl (ev_assign rfl) ?_
  refine GO_q rfl rfl (ev_assign rfl) ?_
  refine GO_nil ?_
  (repeat first | refine G_seq ?_ | refine G_skip ?_ | refine G_endblk ?_ | refine G_block ?_ | refine G_exit rfl ?_)
  refine G_region ?_
  refine GO_q rfl rfl (ev_move rfl) ?_
  refine GO_q rfl rfl (ev_not rfl) ?_
  refine GO_nil ?_
  (repeat first | refine G_seq ?_ | refine G_skip ?_ | refine G_endblk ?_ | refine G_block ?_ | refine G_exit rfl ?_)
  refine G_cond_f rfl rfl ?_
  refine G_heap (L' := setS s 60 l :: treeS t 60 l :: blk b4 23 [.int .i64 x1, .int .i64 x2] :: F :: L) (by (repeat first | exact en_refl | (apply en_blk; focus ((repeat' first | exact Pick.here | apply Pick.skip | apply Pick.app); done); focus rfl) | (apply en_own; focus ((repeat' first | exact Pick.here | apply Pick.skip | apply Pick.app); done); focus rfl) | (apply en_pick; focus ((repeat' first | exact Pick.here | apply Pick.skip | apply Pick.app); done)) | apply en_drop | apply en_app) <;> fail) ?_
  refine G_open (ι := Option Addr × Nat) (F := fun x => 0 < l.length → ∃ b, x.1 = some ⟨b, 0, none⟩) (N := fun x => [blk s 34 [.slice x.1 l.length x.2, .int .i64 60], own 39 3 x.1 l.length x.2 (flat l)]) (fun _ h => h) fun x hx => ?_
  obtain ⟨B, e⟩ := x
  dsimp only at hx
  refine G_heap (L' := treeS t 60 l :: blk s 34 [.slice B l.length e, .int .i64 60] :: own 39 3 B l.length e (flat l) :: blk b4 23 [.int .i64 x1, .int .i64 x2] :: F :: L) (by show ∀ h, sat (blk s _ _ :: own _ _ _ _ _ _ :: _) h → _; exact (by (repeat first | exact en_refl | (apply en_blk; focus ((repeat' first | exact Pick.here | apply Pick.skip | apply Pick.app); done); focus rfl) | (apply en_own; focus ((repeat' first | exact Pick.here | apply Pick.skip | apply Pick.app); done); focus rfl) | (apply en_pick; focus ((repeat' first | exact Pick.here | apply Pick.skip | apply Pick.app); done)) | apply en_drop | apply en_app) <;> fail)) ?_
  refine G_tree fun x o => ?_
  have hb : ∀ L', LdN (blk s 34 [.slice B l.length e, .int .i64 60] :: L') s 0 2 [.slice B l.length e, .int .i64 60] := fun L' => LdN.blk rfl
  have hr : ∀ L', Rd (own 39 3 B l.length e (flat l) :: L') B l.length l := fun L' => Rc.own (flat_length l) hx
  have ht : ∀ L', LdN (blk t 91 (treeC x 60) :: L') t 0 2 (treeC x 60) := fun L' => LdN.blk rfl
  have hp : ∀ L', PIn (paH x :: L') x := fun L' => paH_in x L'
  have hsz := o.size
  have hnd : l.Nodup := (o.perm.nodup_iff).1 (PT.els_nodup o.ok)
  have hg : ∀ p ∈ x.t.els, -9223372036854775808 ≤ p.y := fun p hp => by
    have h1 := hl2 p (o.perm.subset hp)
    unfold goodP good at h1
    simp at h1
    omega
  obtain ⟨W, hW⟩ := down_ex x1 x2 l hnd
  have hWx : DownOf x1 x2 x.t.els W := ⟨hW.desc, (o.perm.filter _).trans hW.perm⟩
  (repeat first | refine G_seq ?_ | refine G_skip ?_ | refine G_endblk ?_ | refine G_block ?_ | refine G_exit rfl ?_)
  refine G_draw (.q 0 (.q 1 (.q 2 (.q 3 (.q 4 (.q 6 (.q 7 (.q 8 (.q 9 (.q 10 (.q 11 (.q 12 (.q 13 (.e 5 (.e 14 (.q 15 (.q 16 .nil))))))))))))))))) (by kernel_rfl) (by kernel_rfl) ?_
  refine RS_m retB_noPanic rfl rfl rfl rfl (ev_move rfl) ?_
  refine RS_m retB_noPanic rfl rfl rfl rfl (ev_indexAddrA rfl rfl (by first | omega | (simp; done) | (simp; omega)) (by first | omega | (simp; done) | (simp; omega))) ?_
  refine RS_q retB_noPanic rfl rfl rfl rfl (ev_load rfl (by repeat' first | exact Ld.blk rfl | assumption | apply Ld.skip | apply Ld.app)) ?_
  refine RS_m retB_noPanic rfl rfl rfl rfl (ev_indexAddrA rfl rfl (by first | omega | (simp; done) | (simp; omega)) (by first | omega | (simp; done) | (simp; omega))) ?_
  refine RS_q retB_noPanic rfl rfl rfl rfl (ev_load rfl (by repeat' first | exact Ld.blk rfl | assumption | apply Ld.skip | apply Ld.app)) ?_
  refine RS_m retB_noPanic rfl rfl rfl rfl (ev_move rfl) ?_
  (first | refine RS_m retB_noPanic rfl rfl rfl rfl (ev_nilCheck rfl) ?_ | refine RS_m retB_noPanic rfl rfl rfl rfl (ev_nilCheckF (by simp) rfl) ?_)
  refine RS_m retB_noPanic rfl rfl rfl rfl (ev_fieldAddr rfl) ?_
  refine RS_q retB_noPanic rfl rfl rfl rfl (ev_load rfl (by repeat' first | exact Ld.blk rfl | assumption | apply Ld.skip | apply Ld.app)) ?_
  refine RS_m retB_noPanic rfl rfl rfl rfl (ev_indexAddrA rfl rfl (by first | omega | (simp; done) | (simp; omega)) (by first | omega | (simp; done) | (simp; omega))) ?_
  refine RS_q retB_noPanic rfl rfl rfl rfl (ev_load rfl (by repeat' first | exact Ld.blk rfl | assumption | apply Ld.skip | apply Ld.app)) ?_
  refine RS_m retB_noPanic rfl rfl rfl rfl (ev_indexAddrA rfl rfl (by first | omega | (simp; done) | (simp; omega)) (by first | omega | (simp; done) | (simp; omega))) ?_
  refine RS_q retB_noPanic rfl rfl rfl rfl (ev_load rfl (by repeat' first | exact Ld.blk rfl | assumption | apply Ld.skip | apply Ld.app)) ?_
  refine RS_e (RE_eff rfl rfl rfl (eff_call rfl (fDown_ctr t x 60 x1 x2 l.length W _ (by repeat' first | exact ht _ | apply LdN.skip) (by repeat' first | exact hp _ | apply PIn.skip) o.ok hg hWx (by omega))) ?_); rintro _ _ ⟨f, xs, L0, rfl, ⟨hI, hM⟩, rfl⟩; refine ⟨_, fun _ s => s, (by first | ((repeat first | exact fun _ s => s | apply en_keep | apply en_drop | apply en_app) <;> fail) | ((repeat first | exact en_refl | (apply en_blk; focus ((repeat' first | exact Pick.here | apply Pick.skip | apply Pick.app); done); focus rfl) | (apply en_own; focus ((repeat' first | exact Pick.here | apply Pick.skip | apply Pick.app); done); focus rfl) | (apply en_pick; focus ((repeat' first | exact Pick.here | apply Pick.skip | apply Pick.app); done)) | apply en_drop | apply en_app) <;> fail)), ?_⟩
  refine RS_e (RE_eff rfl rfl rfl (eff_call rfl (RDown_ctr B l.length e x1 x2 l _ (by repeat' first | exact hr _ | apply Rd.skip) (by omega) hnd)) ?_); rintro _ _ ⟨W', wb, wd, rfl, ⟨hW', hwd, hwd2⟩, rfl⟩; refine ⟨_, fun _ s => s, (by first | ((repeat first | exact fun _ s => s | apply en_keep | apply en_drop | apply en_app) <;> fail) | ((repeat first | exact en_refl | (apply en_blk; focus ((repeat' first | exact Pick.here | apply Pick.skip | apply Pick.app); done); focus rfl) | (apply en_own; focus ((repeat' first | exact Pick.here | apply Pick.skip | apply Pick.app); done); focus rfl) | (apply en_pick; focus ((repeat' first | exact Pick.here | apply Pick.skip | apply Pick.app); done)) | apply en_drop | apply en_app) <;> fail)), ?_⟩
  refine RS_m retB_noPanic rfl rfl rfl rfl (ev_assign rfl) ?_
  refine RS_m retB_noPanic rfl rfl rfl rfl (ev_assign rfl) ?_
  refine RS_nil ?_
  have eW : W' = W := hW'.unique (.refl _) hW
  subst eW
  have hWl : W'.length ≤ 80 := by
    have h1 := hW.perm.length_eq
    have h2 := List.length_filter_le (sel x1 x2) l
    omega
  have hRW : ∀ M, Rd (own 39 3 (some ⟨wb, 0, none⟩) W'.length wd (flat W') :: M) (some ⟨wb, 0, none⟩) W'.length W' := fun M => Rc.own (flat_length _) (fun _ => ⟨wb, rfl⟩)
  (repeat first | refine G_seq ?_ | refine G_skip ?_ | refine G_endblk ?_ | refine G_block ?_ | refine G_exit rfl ?_)
  refine G_region ?_
  refine GO_q rfl rfl (ev_assign rfl) ?_
  refine GO_nil ?_
  (repeat first | refine G_seq ?_ | refine G_skip ?_ | refine G_endblk ?_)
  refine G_cut (ι := Nat × Nat × Nat × List PA × Nat) (fun z => [(8, .pointer (some ⟨s, 0, none⟩)), (10, .pointer (some ⟨f, 0, none⟩)), (11, .slice (some ⟨wb, z.1, none⟩) (W'.length - z.2.1) z.2.2.1)]) (fun z => fallS f x1 x2 z.2.2.2.2 z.2.2.2.1 :: own 39 3 (some ⟨wb, 0, none⟩) W'.length wd (flat W') :: blk t 91 (treeC x 60) :: paH x :: blk s 34 [.slice B l.length e, .int .i64 60] :: own 39 3 B l.length e (flat l) :: blk b4 23 [.int .i64 x1, .int .i64 x2] :: F :: L)
    (fun z => z.2.1 ≤ W'.length ∧ FallI x1 x2 l.length L0 z.2.2.2.1 (W'.drop z.2.1) z.2.2.2.2 ∧ ∀ M, Rd (own 39 3 (some ⟨wb, 0, none⟩) W'.length wd (flat W') :: M) (some ⟨wb, z.1, none⟩) (W'.length - z.2.1) (W'.drop z.2.1)) ?_ ?_
  · (repeat first | refine G_seq ?_ | refine G_skip ?_ | refine G_endblk ?_ | refine G_block ?_ | refine G_exit rfl ?_)
    refine G_loop (ι := Nat × Nat × Nat × Nat × List PA × Nat) (fun z => [(2, .slice T m d), (8, .pointer (some ⟨s, 0, none⟩)), (10, .pointer (some ⟨f, 0, none⟩)), (11, .slice (some ⟨wb, z.2.1, none⟩) (W'.length - z.2.2.1) z.2.2.2.1), (12, .int .i64 (z.1 : Nat))]) (fun z => fallS f x1 x2 z.2.2.2.2.2 z.2.2.2.2.1 :: own 39 3 (some ⟨wb, 0, none⟩) W'.length wd (flat W') :: blk t 91 (treeC x 60) :: paH x :: blk s 34 [.slice B l.length e, .int .i64 60] :: own 39 3 B l.length e (flat l) :: blk b4 23 [.int .i64 x1, .int .i64 x2] :: F :: L)
      (fun z => z.1 ≤ m ∧ z.2.2.1 ≤ W'.length ∧ W'.length - z.2.2.1 ≤ z.2.2.2.1 ∧ FallI x1 x2 l.length L0 z.2.2.2.2.1 (W'.drop z.2.2.1) z.2.2.2.2.2 ∧ ∀ M, Rd (own 39 3 (some ⟨wb, 0, none⟩) W'.length wd (flat W') :: M) (some ⟨wb, z.2.1, none⟩) (W'.length - z.2.2.1) (W'.drop z.2.2.1)) (fun z => m - z.1) (0, 0, 0, wd, xs, 0) ⟨Nat.zero_le _, Nat.zero_le _, hwd, hI, hRW⟩ ⟨rfl, rfl, rfl, rfl, rfl, trivial⟩ (by (repeat first | exact en_refl | (apply en_blk; focus ((repeat' first | exact Pick.here | apply Pick.skip | apply Pick.app); done); focus rfl) | (apply en_own; focus ((repeat' first | exact Pick.here | apply Pick.skip | apply Pick.app); done); focus rfl) | (apply en_pick; focus ((repeat' first | exact Pick.here | apply Pick.skip | apply Pick.app); done)) | apply en_drop | apply en_app) <;> fail) ?_
    rintro ⟨i, wo, q, wc, ys, k⟩ ⟨f1, f2, f3, f4, f5⟩
    simp only at f1 f2 f3 f4 f5
    dsimp only
    by_cases c1 : i < m ∧ i < 40
    · obtain ⟨tb, to, rfl, htx⟩ := htk.at_ (by omega)
      have g1 : takes[i]? = some takes[i] := List.getElem?_eq_getElem (by omega)
      have y1 := (htx _ _ g1).at_ (i := 0) rfl
      have y2 := hti takes[i] (List.getElem_mem _)
      generalize takes[i] = tk at *
      have y3 : Ld L ⟨tb, to + i * 1, none⟩ (.int .i64 tk) := y1
      obtain ⟨kk, hkk⟩ : ∃ kk, min tk.toNat (W'.length - q) = kk := ⟨_, rfl⟩
      have hkl : kk ≤ W'.length - q := by omega
      (repeat first | refine G_seq ?_ | refine G_skip ?_ | refine G_endblk ?_ | refine G_block ?_ | refine G_exit rfl ?_)
      refine G_region ?_
      refine GO_q rfl rfl (ev_move rfl) ?_
      refine GO_q rfl rfl (ev_move rfl) ?_
      refine GO_q rfl rfl (ev_len rfl) ?_
      (first | refine GO_q rfl rfl (ev_lssN rfl rfl) ?_ | refine GO_q rfl rfl (ev_lss rfl rfl) ?_)
      refine GO_q rfl rfl (ev_move rfl) ?_
      refine GO_yes rfl rfl rfl (decide_eq_true (by omega)) ?_
      refine GO_q rfl rfl (ev_move rfl) ?_
      refine GO_yes rfl rfl rfl (decide_eq_true (by omega)) ?_
      (first | refine GO_q rfl rfl (ev_lssN (q := 40) rfl rfl) ?_ | refine GO_q rfl rfl (ev_lss rfl rfl) ?_)
      refine GO_q rfl rfl (ev_pick_t rfl (decide_eq_true (by omega)) rfl) ?_
      refine GO_nil ?_
      (repeat first | refine G_seq ?_ | refine G_skip ?_ | refine G_endblk ?_ | refine G_block ?_ | refine G_exit rfl ?_)
      refine G_cond_t rfl (decide_eq_true (by omega)) ?_
      (repeat first | refine G_seq ?_ | refine G_skip ?_ | refine G_endblk ?_ | refine G_block ?_ | refine G_exit rfl ?_)
      refine G_region ?_
      refine GO_q rfl rfl (ev_move rfl) ?_
      refine GO_q rfl rfl (ev_move rfl) ?_
      (first | refine GO_q rfl rfl (ev_indexAddrN rfl rfl (by first | omega | (simp; done) | (simp; omega))) ?_ | refine GO_q rfl rfl (ev_indexAddr rfl rfl (by first | omega | (simp; done) | (simp; omega)) (by first | omega | (simp; done) | (simp; omega))) ?_)
      refine GO_q rfl rfl (ev_load rfl (by repeat' first | exact Ld.blk rfl | assumption | apply Ld.skip | apply Ld.app)) ?_
      refine GO_q rfl rfl (ev_assign rfl) ?_
      refine GO_nil ?_
      (repeat first | refine G_seq ?_ | refine G_skip ?_ | refine G_endblk ?_ | refine G_block ?_ | refine G_exit rfl ?_)
      refine G_region ?_
      refine GO_q rfl rfl (ev_move rfl) ?_
      refine GO_q rfl rfl (ev_move rfl) ?_
      refine GO_q rfl rfl (ev_len rfl) ?_
      refine GO_q rfl rfl (ev_gtr rfl rfl) ?_
      refine GO_nil ?_
      (repeat first | refine G_seq ?_ | refine G_skip ?_ | refine G_endblk ?_)
      refine G_cut (ι := Unit) (fun _ => [(2, .slice (some ⟨tb, to, none⟩) m d), (8, .pointer (some ⟨s, 0, none⟩)), (10, .pointer (some ⟨f, 0, none⟩)), (11, .slice (some ⟨wb, wo, none⟩) (W'.length - q) wc), (12, .int .i64 (i : Nat)), (13, .int .i64 (min tk (W'.length - q : Nat)))]) (fun _ => fallS f x1 x2 k ys :: own 39 3 (some ⟨wb, 0, none⟩) W'.length wd (flat W') :: blk t 91 (treeC x 60) :: paH x :: blk s 34 [.slice B l.length e, .int .i64 60] :: own 39 3 B l.length e (flat l) :: blk b4 23 [.int .i64 x1, .int .i64 x2] :: F :: L) (fun _ => True) ?_ ?_
      · by_cases c3 : ((W'.length - q : Nat) : Int) < tk
        · have em : min tk ((W'.length - q : Nat) : Int) = ((W'.length - q : Nat) : Int) := by omega
          (repeat first | refine G_seq ?_ | refine G_skip ?_ | refine G_endblk ?_ | refine G_block ?_ | refine G_exit rfl ?_)
          refine G_cond_t rfl (decide_eq_true c3) ?_
          (repeat first | refine G_seq ?_ | refine G_skip ?_ | refine G_endblk ?_ | refine G_block ?_ | refine G_exit rfl ?_)
          refine G_region ?_
          refine GO_q rfl rfl (ev_move rfl) ?_
          refine GO_q rfl rfl (ev_len rfl) ?_
          refine GO_q rfl rfl (ev_assign rfl) ?_
          refine GO_nil ?_
          (repeat first | refine G_seq ?_ | refine G_skip ?_ | refine G_endblk ?_ | refine G_block ?_ | refine G_exit rfl ?_)
          rw [em]
          exact G_inv () trivial ⟨rfl, rfl, rfl, rfl, rfl, rfl, trivial⟩ (by (repeat first | exact en_refl | (apply en_blk; focus ((repeat' first | exact Pick.here | apply Pick.skip | apply Pick.app); done); focus rfl) | (apply en_own; focus ((repeat' first | exact Pick.here | apply Pick.skip | apply Pick.app); done); focus rfl) | (apply en_pick; focus ((repeat' first | exact Pick.here | apply Pick.skip | apply Pick.app); done)) | apply en_drop | apply en_app) <;> fail)
        · have em : min tk ((W'.length - q : Nat) : Int) = tk := by omega
          (repeat first | refine G_seq ?_ | refine G_skip ?_ | refine G_endblk ?_ | refine G_block ?_ | refine G_exit rfl ?_)
          refine G_cond_f rfl (decide_eq_false c3) ?_
          (repeat first | refine G_seq ?_ | refine G_skip ?_ | refine G_endblk ?_ | refine G_block ?_ | refine G_exit rfl ?_)
          rw [em]
          exact G_inv () trivial ⟨rfl, rfl, rfl, rfl, rfl, rfl, trivial⟩ (by (repeat first | exact en_refl | (apply en_blk; focus ((repeat' first | exact Pick.here | apply Pick.skip | apply Pick.app); done); focus rfl) | (apply en_own; focus ((repeat' first | exact Pick.here | apply Pick.skip | apply Pick.app); done); focus rfl) | (apply en_pick; focus ((repeat' first | exact Pick.here | apply Pick.skip | apply Pick.app); done)) | apply en_drop | apply en_app) <;> fail)
      · rintro ⟨⟩ _
        (repeat first | refine G_seq ?_ | refine G_skip ?_ | refine G_endblk ?_ | refine G_block ?_ | refine G_exit rfl ?_)
        refine G_region ?_
        refine GO_q rfl rfl (ev_move rfl) ?_
        (first | refine GO_q rfl rfl (ev_lssN (q := 0) rfl rfl) ?_ | refine GO_q rfl rfl (ev_lss rfl rfl) ?_)
        refine GO_nil ?_
        (repeat first | refine G_seq ?_ | refine G_skip ?_ | refine G_endblk ?_)
        refine G_cut (ι := Unit) (fun _ => [(2, .slice (some ⟨tb, to, none⟩) m d), (8, .pointer (some ⟨s, 0, none⟩)), (10, .pointer (some ⟨f, 0, none⟩)), (11, .slice (some ⟨wb, wo, none⟩) (W'.length - q) wc), (12, .int .i64 (i : Nat)), (13, .int .i64 (kk : Nat))]) (fun _ => fallS f x1 x2 k ys :: own 39 3 (some ⟨wb, 0, none⟩) W'.length wd (flat W') :: blk t 91 (treeC x 60) :: paH x :: blk s 34 [.slice B l.length e, .int .i64 60] :: own 39 3 B l.length e (flat l) :: blk b4 23 [.int .i64 x1, .int .i64 x2] :: F :: L) (fun _ => True) ?_ ?_
        · by_cases c4 : min tk ((W'.length - q : Nat) : Int) < 0
          · have em : kk = 0 := by omega
            (repeat first | refine G_seq ?_ | refine G_skip ?_ | refine G_endblk ?_ | refine G_block ?_ | refine G_exit rfl ?_)
            refine G_cond_t rfl (decide_eq_true c4) ?_
            (repeat first | refine G_seq ?_ | refine G_skip ?_ | refine G_endblk ?_ | refine G_block ?_ | refine G_exit rfl ?_)
            refine G_region ?_
            refine GO_q rfl rfl (ev_assign rfl) ?_
            refine GO_nil ?_
            (repeat first | refine G_seq ?_ | refine G_skip ?_ | refine G_endblk ?_ | refine G_block ?_ | refine G_exit rfl ?_)
            rw [em]
            exact G_inv () trivial ⟨rfl, rfl, rfl, rfl, rfl, rfl, trivial⟩ (by (repeat first | exact en_refl | (apply en_blk; focus ((repeat' first | exact Pick.here | apply Pick.skip | apply Pick.app); done); focus rfl) | (apply en_own; focus ((repeat' first | exact Pick.here | apply Pick.skip | apply Pick.app); done); focus rfl) | (apply en_pick; focus ((repeat' first | exact Pick.here | apply Pick.skip | apply Pick.app); done)) | apply en_drop | apply en_app) <;> fail)
          · have em : min tk ((W'.length - q : Nat) : Int) = (kk : Int) := by omega
            (repeat first | refine G_seq ?_ | refine G_skip ?_ | refine G_endblk ?_ | refine G_block ?_ | refine G_exit rfl ?_)
            refine G_cond_f rfl (decide_eq_false c4) ?_
            (repeat first | refine G_seq ?_ | refine G_skip ?_ | refine G_endblk ?_ | refine G_block ?_ | refine G_exit rfl ?_)
            rw [em]
            exact G_inv () trivial ⟨rfl, rfl, rfl, rfl, rfl, rfl, trivial⟩ (by (repeat first | exact en_refl | (apply en_blk; focus ((repeat' first | exact Pick.here | apply Pick.skip | apply Pick.app); done); focus rfl) | (apply en_own; focus ((repeat' first | exact Pick.here | apply Pick.skip | apply Pick.app); done); focus rfl) | (apply en_pick; focus ((repeat' first | exact Pick.here | apply Pick.skip | apply Pick.app); done)) | apply en_drop | apply en_app) <;> fail)
        · rintro ⟨⟩ _
          have hsame : (W'.drop q).take tk.toNat = (W'.drop q).take kk := by
            rw [← hkk]
            have hlq : (W'.drop q).length = W'.length - q := List.length_drop ..
            rcases Nat.le_total tk.toNat (W'.length - q) with h | h
            · rw [Nat.min_eq_left h]
            · rw [Nat.min_eq_right h, List.take_of_length_le (by omega), List.take_of_length_le (by omega)]
          have hdrop : (W'.drop q).drop tk.toNat = W'.drop (q + kk) := by
            rw [List.drop_drop, ← hkk]
            rcases Nat.le_total tk.toNat (W'.length - q) with h | h
            · rw [Nat.min_eq_left h]
            · rw [Nat.min_eq_right h, List.drop_eq_nil_of_le (by omega), List.drop_eq_nil_of_le (by omega)]
          have T1 := fun L' hML => fTake_ctr f k x1 x2 l.length ys (W'.drop q) tk L' L0 f4 hML (by omega) y2
          rw [hsame, hdrop] at T1
          (repeat first | refine G_seq ?_ | refine G_skip ?_ | refine G_endblk ?_ | refine G_block ?_ | refine G_exit rfl ?_)
          refine G_region ?_
          refine GO_q rfl rfl (ev_move rfl) ?_
          refine GO_q rfl rfl (ev_move rfl) ?_
          refine GO_q rfl rfl (ev_move rfl) ?_
          (first | refine GO_q rfl rfl (ev_indexAddrN rfl rfl (by first | omega | (simp; done) | (simp; omega))) ?_ | refine GO_q rfl rfl (ev_indexAddr rfl rfl (by first | omega | (simp; done) | (simp; omega)) (by first | omega | (simp; done) | (simp; omega))) ?_)
          refine GO_q rfl rfl (ev_load rfl (by repeat' first | exact Ld.blk rfl | assumption | apply Ld.skip | apply Ld.app)) ?_
          refine GO_eff rfl rfl (eff_call rfl (Ctr.pick (by repeat' first | exact Pick.here | apply Pick.skip | apply Pick.app) (T1 _ (en_comp (by (repeat first | exact en_refl | (apply en_blk; focus ((repeat' first | exact Pick.here | apply Pick.skip | apply Pick.app); done); focus rfl) | (apply en_own; focus ((repeat' first | exact Pick.here | apply Pick.skip | apply Pick.app); done); focus rfl) | (apply en_pick; focus ((repeat' first | exact Pick.here | apply Pick.skip | apply Pick.app); done)) | apply en_drop | apply en_app) <;> fail) hM)))) ?_; rintro _ _ ⟨zs, j, A67, c67, rfl, ⟨hJ, hA67, hc67, hm67⟩, rfl⟩
          refine GO_q rfl rfl (ev_assign rfl) ?_
          refine GO_nil ?_
          have hj := hJ.cnt
          have m1 : ∀ M, Rd (own 39 3 (some ⟨wb, 0, none⟩) W'.length wd (flat W') :: M) (some ⟨wb, wo, none⟩) kk ((W'.drop q).take kk) := fun M => (f5 M).take hkl
          have m2 : ∀ M, Rd (own 39 3 (some ⟨wb, 0, none⟩) W'.length wd (flat W') :: M) (some ⟨wb, (if wc = kk then wo else wo + kk * 3), none⟩) (W'.length - (q + kk)) (W'.drop (q + kk)) := fun M => by
            have := (f5 M).drop hkl f3
            rw [List.drop_drop] at this
            rw [show W'.length - (q + kk) = W'.length - q - kk by omega]
            exact this
          have hn9 : W'.length - q - kk = W'.length - (q + kk) := by omega
          (repeat first | refine G_seq ?_ | refine G_skip ?_ | refine G_endblk ?_ | refine G_block ?_ | refine G_exit rfl ?_)
          refine G_draw (.q 0 (.q 1 (.q 2 (.q 3 (.e 4 (.q 5 (.q 6 (.q 7 (.q 9 (.q 10 (.q 11 (.q 12 (.q 13 (.e 8 (.q 14 (.q 15 .nil)))))))))))))))) (by kernel_rfl) (by kernel_rfl) ?_
          refine RS_m retB_noPanic rfl rfl rfl rfl (ev_move rfl) ?_
          refine RS_m retB_noPanic rfl rfl rfl rfl (ev_move rfl) ?_
          refine RS_m retB_noPanic rfl rfl rfl rfl (ev_move rfl) ?_
          refine RS_q retB_noPanic rfl rfl rfl rfl (ev_sliceH rfl rfl (by first | omega | (simp; done) | (simp; omega))) ?_
          refine RS_e (RE_eff rfl rfl rfl (eff_call rfl (SameP_ctr A67 (some ⟨wb, wo, none⟩) _ kk c67 wc _ ((W'.drop q).take kk) _ (by repeat' first | exact Rc.own (flat_length _) hA67 | apply Rd.skip) (by repeat' first | exact m1 _ | apply Rd.skip) (by unfold maxLen at hm67; omega))) ?_); rintro _ _ ⟨rfl, rfl⟩; refine ⟨_, fun _ s => s, (by first | ((repeat first | exact fun _ s => s | apply en_keep | apply en_drop | apply en_app) <;> fail) | ((repeat first | exact en_refl | (apply en_blk; focus ((repeat' first | exact Pick.here | apply Pick.skip | apply Pick.app); done); focus rfl) | (apply en_own; focus ((repeat' first | exact Pick.here | apply Pick.skip | apply Pick.app); done); focus rfl) | (apply en_pick; focus ((repeat' first | exact Pick.here | apply Pick.skip | apply Pick.app); done)) | apply en_drop | apply en_app) <;> fail)), ?_⟩
          refine RS_m retB_noPanic rfl rfl rfl rfl (ev_not rfl) ?_
          refine RS_m retB_noPanic rfl rfl rfl rfl (ev_move rfl) ?_
          refine RS_m_yes retB_noPanic rfl rfl rfl rfl ⟨_, rfl, (by simp)⟩ rfl (ev_move rfl) ?_
          refine RS_m_yes retB_noPanic rfl rfl rfl rfl ⟨_, rfl, (by simp)⟩ rfl (ev_move rfl) ?_
          (first | refine RS_m_yes retB_noPanic rfl rfl rfl rfl ⟨_, rfl, (by simp)⟩ rfl (ev_nilCheck rfl) ?_ | refine RS_m_yes retB_noPanic rfl rfl rfl rfl ⟨_, rfl, (by simp)⟩ rfl (ev_nilCheckF (by simp) rfl) ?_)
          refine RS_m_yes retB_noPanic rfl rfl rfl rfl ⟨_, rfl, (by simp)⟩ rfl (ev_fieldAddr rfl) ?_
          refine RS_q_yes retB_noPanic rfl rfl rfl rfl ⟨_, rfl, (by simp)⟩ rfl (ev_load rfl (by repeat' first | exact Ld.blk rfl | assumption | apply Ld.skip | apply Ld.app)) ?_
          refine RS_q_yes retB_noPanic rfl rfl rfl rfl ⟨_, rfl, (by simp)⟩ rfl (ev_len rfl) ?_
          refine RS_e (RE_eff_yes rfl rfl rfl ⟨_, rfl, (by simp)⟩ rfl (eff_call rfl (Ctr.pick (by repeat' first | exact Pick.here | apply Pick.skip | apply Pick.app) (fLooked_ctr f j x1 x2 zs _))) ?_); rintro _ _ ⟨rfl, rfl⟩; refine ⟨_, fun _ s => s, (by first | ((repeat first | exact fun _ s => s | apply en_keep | apply en_drop | apply en_app) <;> fail) | ((repeat first | exact en_refl | (apply en_blk; focus ((repeat' first | exact Pick.here | apply Pick.skip | apply Pick.app); done); focus rfl) | (apply en_own; focus ((repeat' first | exact Pick.here | apply Pick.skip | apply Pick.app); done); focus rfl) | (apply en_pick; focus ((repeat' first | exact Pick.here | apply Pick.skip | apply Pick.app); done)) | apply en_drop | apply en_app) <;> fail)), ?_⟩
          refine RS_m_yes retB_noPanic rfl rfl rfl rfl ⟨_, rfl, (by simp)⟩ rfl (ev_gtr rfl rfl) ?_
          refine RS_m retB_noPanic rfl rfl rfl rfl (ev_pick_f rfl (by simp) rfl) ?_
          refine RS_nil ?_
          (repeat first | refine G_seq ?_ | refine G_skip ?_ | refine G_endblk ?_ | refine G_block ?_ | refine G_exit rfl ?_)
          refine G_cond_f rfl (decide_eq_false (by omega)) ?_
          (repeat first | refine G_seq ?_ | refine G_skip ?_ | refine G_endblk ?_ | refine G_block ?_ | refine G_exit rfl ?_)
          refine G_region ?_
          refine GO_q rfl rfl (ev_move rfl) ?_
          refine GO_q rfl rfl (ev_move rfl) ?_
          refine GO_q rfl rfl (ev_sliceL rfl rfl (by first | omega | (simp; done) | (simp; omega)) (by first | omega | (simp; done) | (simp; omega))) ?_
          refine GO_q rfl rfl (ev_assign rfl) ?_
          refine GO_nil ?_
          (repeat first | refine G_seq ?_ | refine G_skip ?_ | refine G_endblk ?_ | refine G_block ?_ | refine G_exit rfl ?_)
          refine G_region ?_
          refine GO_q rfl rfl (ev_move rfl) ?_
          (first | refine GO_q rfl rfl (ev_addN (q := 1) rfl rfl (by first | omega | (simp; done) | (simp; omega))) ?_ | refine GO_q rfl rfl (ev_add rfl rfl (by first | omega | (simp; done) | (simp; omega))) ?_)
          refine GO_q rfl rfl (ev_assign rfl) ?_
          refine GO_nil ?_
          (repeat first | refine G_seq ?_ | refine G_skip ?_ | refine G_endblk ?_ | refine G_block ?_ | refine G_exit rfl ?_)
          refine G_round (i + 1, (if wc = kk then wo else wo + kk * 3), q + kk, wc - kk, zs, j) ⟨by simp only; omega, by simp only; omega, by simp only; omega, hJ, m2⟩ (by simp only; omega) ⟨rfl, rfl, rfl, by rw [← hn9]; rfl, rfl, trivial⟩ (by (repeat first | exact en_refl | (apply en_blk; focus ((repeat' first | exact Pick.here | apply Pick.skip | apply Pick.app); done); focus rfl) | (apply en_own; focus ((repeat' first | exact Pick.here | apply Pick.skip | apply Pick.app); done); focus rfl) | (apply en_pick; focus ((repeat' first | exact Pick.here | apply Pick.skip | apply Pick.app); done)) | apply en_drop | apply en_app) <;> fail)
    · by_cases c2 : i < m
      case' pos =>
        (repeat first | refine G_seq ?_ | refine G_skip ?_ | refine G_endblk ?_ | refine G_block ?_ | refine G_exit rfl ?_)
        refine G_region ?_
        refine GO_q rfl rfl (ev_move rfl) ?_
        refine GO_q rfl rfl (ev_move rfl) ?_
        refine GO_q rfl rfl (ev_len rfl) ?_
        (first | refine GO_q rfl rfl (ev_lssN rfl rfl) ?_ | refine GO_q rfl rfl (ev_lss rfl rfl) ?_)
        refine GO_q rfl rfl (ev_move rfl) ?_
        refine GO_yes rfl rfl rfl (decide_eq_true (by omega)) ?_
        refine GO_q rfl rfl (ev_move rfl) ?_
        refine GO_yes rfl rfl rfl (decide_eq_true (by omega)) ?_
        (first | refine GO_q rfl rfl (ev_lssN (q := 40) rfl rfl) ?_ | refine GO_q rfl rfl (ev_lss rfl rfl) ?_)
        refine GO_q rfl rfl (ev_pick_t rfl (decide_eq_true (by omega)) rfl) ?_
        refine GO_nil ?_
        (repeat first | refine G_seq ?_ | refine G_skip ?_ | refine G_endblk ?_ | refine G_block ?_ | refine G_exit rfl ?_)
        refine G_cond_f rfl (decide_eq_false (by omega)) ?_
      case' neg =>
        (repeat first | refine G_seq ?_ | refine G_skip ?_ | refine G_endblk ?_ | refine G_block ?_ | refine G_exit rfl ?_)
        refine G_region ?_
        refine GO_q rfl rfl (ev_move rfl) ?_
        refine GO_q rfl rfl (ev_move rfl) ?_
        refine GO_q rfl rfl (ev_len rfl) ?_
        (first | refine GO_q rfl rfl (ev_lssN rfl rfl) ?_ | refine GO_q rfl rfl (ev_lss rfl rfl) ?_)
        refine GO_q rfl rfl (ev_move rfl) ?_
        refine GO_no rfl rfl rfl (decide_eq_false (by omega)) ?_
        refine GO_no rfl rfl rfl (decide_eq_false (by omega)) ?_
        refine GO_q rfl rfl (ev_pick_f rfl (decide_eq_false (by omega)) rfl) ?_
        refine GO_nil ?_
        (repeat first | refine G_seq ?_ | refine G_skip ?_ | refine G_endblk ?_ | refine G_block ?_ | refine G_exit rfl ?_)
        refine G_cond_f rfl rfl ?_
      all_goals
        (repeat first | refine G_seq ?_ | refine G_skip ?_ | refine G_endblk ?_ | refine G_block ?_ | refine G_exit rfl ?_)
        exact G_inv (wo, q, wc, ys, k) ⟨f2, f4, f5⟩ ⟨rfl, rfl, rfl, trivial⟩ (by (repeat first | exact en_refl | (apply en_blk; focus ((repeat' first | exact Pick.here | apply Pick.skip | apply Pick.app); done); focus rfl) | (apply en_own; focus ((repeat' first | exact Pick.here | apply Pick.skip | apply Pick.app); done); focus rfl) | (apply en_pick; focus ((repeat' first | exact Pick.here | apply Pick.skip | apply Pick.app); done)) | apply en_drop | apply en_app) <;> fail)
  · rintro ⟨wo, q, wc, ys, k⟩ ⟨f2, f4, f5⟩
    simp only at f2 f4 f5
    dsimp only
    (repeat first | refine G_seq ?_ | refine G_skip ?_ | refine G_endblk ?_ | refine G_block ?_ | refine G_exit rfl ?_)
    refine G_region ?_
    refine GO_q rfl rfl (ev_move rfl) ?_
    refine GO_eff rfl rfl (eff_call rfl (Ctr.pick (by repeat' first | exact Pick.here | apply Pick.skip | apply Pick.app) (fNext_ctr f k x1 x2 l.length ys (W'.drop q) _ L0 f4 (en_comp (by (repeat first | exact en_refl | (apply en_blk; focus ((repeat' first | exact Pick.here | apply Pick.skip | apply Pick.app); done); focus rfl) | (apply en_own; focus ((repeat' first | exact Pick.here | apply Pick.skip | apply Pick.app); done); focus rfl) | (apply en_pick; focus ((repeat' first | exact Pick.here | apply Pick.skip | apply Pick.app); done)) | apply en_drop | apply en_app) <;> fail) hM) (by omega)))) ?_; rintro _ _ ⟨zs, j, rfl, hJ, rfl⟩
    refine GO_q rfl rfl (ev_move rfl) ?_
    refine GO_q rfl rfl (ev_extract rfl rfl) ?_
    refine GO_q rfl rfl (ev_extract rfl rfl) ?_
    refine GO_eff rfl rfl eff_alloc ?_; rintro _ _ ⟨b15, rfl, rfl⟩
    refine GO_eff rfl rfl (eff_storeN rfl rfl rfl rfl (by repeat' first | exact Upd.here rfl | apply Upd.skip | apply Upd.app)) ?_; rintro _ _ ⟨rfl, rfl⟩
    refine GO_q rfl rfl (ev_assign rfl) ?_
    refine GO_nil ?_
    have hq : (W'.drop q).length = W'.length - q := List.length_drop ..
    cases hrem : W'.drop q with
    | nil =>
      have e0 : W'.length - q = 0 := by rw [← hq, hrem]; rfl
      rw [e0]
      (repeat first | refine G_seq ?_ | refine G_skip ?_ | refine G_endblk ?_ | refine G_block ?_ | refine G_exit rfl ?_)
      refine G_draw (.q 0 (.q 1 (.q 2 (.q 3 (.q 4 (.q 5 (.q 6 (.q 7 (.q 8 (.q 9 (.q 10 (.q 11 (.q 12 (.q 13 (.q 14 (.q 15 (.q 16 (.q 17 (.q 18 (.q 19 (.q 20 (.q 21 (.q 22 (.q 23 .nil)))))))))))))))))))))))) (by kernel_rfl) (by kernel_rfl) ?_
      refine RS_m retB_noPanic rfl rfl rfl rfl (ev_move rfl) ?_
      refine RS_m retB_noPanic rfl rfl rfl rfl (ev_move rfl) ?_
      refine RS_q retB_noPanic rfl rfl rfl rfl (ev_len rfl) ?_
      refine RS_m retB_noPanic rfl rfl rfl rfl (ev_gtr rfl rfl) ?_
      refine RS_m retB_noPanic rfl rfl rfl rfl (ev_neqB rfl rfl) ?_
      refine RS_m retB_noPanic rfl rfl rfl rfl (ev_move rfl) ?_
      refine RS_m_yes retB_noPanic rfl rfl rfl rfl ⟨_, rfl, rfl⟩ rfl (ev_move rfl) ?_
      refine RS_m_yes retB_noPanic rfl rfl rfl rfl ⟨_, rfl, rfl⟩ rfl (ev_move rfl) ?_
      refine RS_q_no retB_noPanic rfl rfl rfl ⟨_, rfl, rfl⟩ rfl ?_
      refine RS_q_no retB_noPanic rfl rfl rfl ⟨_, rfl, rfl⟩ rfl ?_
      refine RS_q_no retB_noPanic rfl rfl rfl ⟨_, rfl, rfl⟩ rfl ?_
      refine RS_q_no retB_noPanic rfl rfl rfl ⟨_, rfl, rfl⟩ rfl ?_
      refine RS_q_no retB_noPanic rfl rfl rfl ⟨_, rfl, rfl⟩ rfl ?_
      refine RS_m_yes retB_noPanic rfl rfl rfl rfl ⟨_, rfl, rfl⟩ rfl (ev_pick_f rfl rfl rfl) ?_
      refine RS_m retB_noPanic rfl rfl rfl rfl (ev_pick_f rfl rfl rfl) ?_
      refine RS_m retB_noPanic rfl rfl rfl rfl (ev_move rfl) ?_
      refine RS_m_yes retB_noPanic rfl rfl rfl rfl ⟨_, rfl, rfl⟩ rfl (ev_move rfl) ?_
      refine RS_m_yes retB_noPanic rfl rfl rfl rfl ⟨_, rfl, rfl⟩ rfl (ev_not rfl) ?_
      refine RS_m_yes retB_noPanic rfl rfl rfl rfl ⟨_, rfl, rfl⟩ rfl (ev_move rfl) ?_
      refine RS_q_yes retB_noPanic rfl rfl rfl rfl ⟨_, rfl, rfl⟩ rfl (ev_loadN rfl (by repeat' first | exact LdN.blk rfl | assumption | apply LdN.skip | apply LdN.app)) ?_
      refine RS_m_yes retB_noPanic rfl rfl rfl rfl ⟨_, rfl, rfl⟩ rfl (ev_build rfl rfl) ?_
      refine RS_m_yes retB_noPanic rfl rfl rfl rfl ⟨_, rfl, rfl⟩ rfl (ev_neqS rfl rfl rfl rfl rfl rfl) ?_
      refine RS_m_yes retB_noPanic rfl rfl rfl rfl ⟨_, rfl, rfl⟩ rfl (ev_pick_t rfl rfl rfl) ?_
      refine RS_m retB_noPanic rfl rfl rfl rfl (ev_pick_f rfl rfl rfl) ?_
      refine RS_nil ?_
      (repeat first | refine G_seq ?_ | refine G_skip ?_ | refine G_endblk ?_ | refine G_block ?_ | refine G_exit rfl ?_)
      refine G_cond_f rfl (decide_eq_false (fun h => h rfl)) ?_
      (repeat first | refine G_seq ?_ | refine G_skip ?_ | refine G_endblk ?_ | refine G_block ?_ | refine G_exit rfl ?_)
      refine G_region ?_
      refine GO_eff rfl rfl (eff_call rfl (lives15_ctr _)) ?_; rintro _ _ ⟨rfl, X, rfl⟩
      refine GO_q rfl rfl (ev_assign rfl) ?_
      refine GO_nil ?_
      (repeat first | refine G_seq ?_ | refine G_skip ?_ | refine G_endblk ?_ | refine G_block ?_ | refine G_exit rfl ?_)
      exact G_ret (L' := L) rfl (.tmp rfl .nil) (by (repeat first | exact fun _ s => s | apply en_keep | apply en_drop | apply en_app) <;> fail) ⟨rfl, rfl⟩
    | cons r rs =>
      have e0 : 0 < W'.length - q := by rw [← hq, hrem]; simp
      have y1 : ∀ M, LdN (own 39 3 (some ⟨wb, 0, none⟩) W'.length wd (flat W') :: M) wb (wo + Int.toNat 0 * 3) 3 [.int .i64 r.id, .int .i64 r.x, .int .i64 r.y] := fun M => by
        obtain ⟨_, _, e9, hx9⟩ := (f5 M).at_ e0
        cases e9
        exact hx9 0 r (by rw [hrem]; rfl)
      have e1 : decide ((0 : Int) < ((W'.length - q : Nat) : Int)) = true := decide_eq_true (by omega)
      (repeat first | refine G_seq ?_ | refine G_skip ?_ | refine G_endblk ?_ | refine G_block ?_ | refine G_exit rfl ?_)
      refine G_draw (.q 0 (.q 1 (.q 2 (.q 3 (.q 4 (.q 5 (.q 6 (.q 7 (.q 8 (.q 9 (.q 10 (.q 11 (.q 12 (.q 13 (.q 14 (.q 15 (.q 16 (.q 17 (.q 18 (.q 19 (.q 20 (.q 21 (.q 22 (.q 23 .nil)))))))))))))))))))))))) (by kernel_rfl) (by kernel_rfl) ?_
      refine RS_m retB_noPanic rfl rfl rfl rfl (ev_move rfl) ?_
      refine RS_m retB_noPanic rfl rfl rfl rfl (ev_move rfl) ?_
      refine RS_q retB_noPanic rfl rfl rfl rfl (ev_len rfl) ?_
      refine RS_m retB_noPanic rfl rfl rfl rfl (ev_gtr rfl rfl) ?_
      refine RS_m retB_noPanic rfl rfl rfl rfl (ev_neqB rfl rfl) ?_
      refine RS_m retB_noPanic rfl rfl rfl rfl (ev_move rfl) ?_
      refine RS_m_yes retB_noPanic rfl rfl rfl rfl ⟨_, rfl, (by rw [e1]; rfl)⟩ rfl (ev_move rfl) ?_
      refine RS_m_yes retB_noPanic rfl rfl rfl rfl ⟨_, rfl, (by rw [e1]; rfl)⟩ rfl (ev_move rfl) ?_
      refine RS_q_yes retB_noPanic rfl rfl rfl rfl ⟨_, rfl, rfl⟩ rfl (ev_loadN rfl (by repeat' first | exact LdN.blk rfl | assumption | apply LdN.skip | apply LdN.app)) ?_
      refine RS_m_yes retB_noPanic rfl rfl rfl rfl ⟨_, rfl, rfl⟩ rfl (ev_move rfl) ?_
      (first | refine RS_m_yes retB_noPanic rfl rfl rfl rfl ⟨_, rfl, rfl⟩ rfl (ev_indexAddrN rfl rfl (by first | omega | (simp; done) | (simp; omega))) ?_ | refine RS_m_yes retB_noPanic rfl rfl rfl rfl ⟨_, rfl, rfl⟩ rfl (ev_indexAddr rfl rfl (by first | omega | (simp; done) | (simp; omega)) (by first | omega | (simp; done) | (simp; omega))) ?_)
      refine RS_q_yes retB_noPanic rfl rfl rfl rfl ⟨_, rfl, rfl⟩ rfl (ev_loadN rfl (by repeat' first | exact y1 _ | apply LdN.skip)) ?_
      refine RS_m_yes retB_noPanic rfl rfl rfl rfl ⟨_, rfl, rfl⟩ rfl (ev_neqS rfl rfl rfl rfl rfl rfl) ?_
      refine RS_m_yes retB_noPanic rfl rfl rfl rfl ⟨_, rfl, (by rw [e1]; rfl)⟩ rfl (ev_pick_t rfl rfl rfl) ?_
      refine RS_m retB_noPanic rfl rfl rfl rfl (ev_pick_f rfl (by rw [e1]; rfl) rfl) ?_
      refine RS_m retB_noPanic rfl rfl rfl rfl (ev_move rfl) ?_
      refine RS_m_yes retB_noPanic rfl rfl rfl rfl ⟨_, rfl, (by simp [hdP])⟩ rfl (ev_move rfl) ?_
      refine RS_m_yes retB_noPanic rfl rfl rfl rfl ⟨_, rfl, (by simp [hdP])⟩ rfl (ev_not rfl) ?_
      refine RS_m_yes retB_noPanic rfl rfl rfl rfl ⟨_, rfl, (by simp [hdP])⟩ rfl (ev_move rfl) ?_
      refine RS_q_no retB_noPanic rfl rfl rfl ⟨_, rfl, rfl⟩ rfl ?_
      refine RS_q_no retB_noPanic rfl rfl rfl ⟨_, rfl, rfl⟩ rfl ?_
      refine RS_q_no retB_noPanic rfl rfl rfl ⟨_, rfl, rfl⟩ rfl ?_
      refine RS_m_yes retB_noPanic rfl rfl rfl rfl ⟨_, rfl, (by simp [hdP])⟩ rfl (ev_pick_f rfl rfl rfl) ?_
      refine RS_m retB_noPanic rfl rfl rfl rfl (ev_pick_f rfl (by simp [hdP]) rfl) ?_
      refine RS_nil ?_
      (repeat first | refine G_seq ?_ | refine G_skip ?_ | refine G_endblk ?_ | refine G_block ?_ | refine G_exit rfl ?_)
      refine G_cond_f rfl rfl ?_
      (repeat first | refine G_seq ?_ | refine G_skip ?_ | refine G_endblk ?_ | refine G_block ?_ | refine G_exit rfl ?_)
      refine G_region ?_
      refine GO_eff rfl rfl (eff_call rfl (lives15_ctr _)) ?_; rintro _ _ ⟨rfl, X, rfl⟩
      refine GO_q rfl rfl (ev_assign rfl) ?_
      refine GO_nil ?_
      (repeat first | refine G_seq ?_ | refine G_skip ?_ | refine G_endblk ?_ | refine G_block ?_ | refine G_exit rfl ?_)
      exact G_ret (L' := L) rfl (.tmp rfl .nil) (by (repeat first | exact fun _ s => s | apply en_keep | apply en_drop | apply en_app) <;> fail) ⟨rfl, rfl⟩
theorem ints_of : ∀ (ns : List Int), (flat ns : List Value) = ints ns
  | [] => rfl
  | n :: ns => by rw [flat_cons, ints_of ns]; rfl
theorem pstcurFalls_walk (A : Option Addr) (n c : Nat) (ns : List Int) (x1 x2 : Int) (T : Option Addr) (m d : Nat) (ts : List Int) (w : World) (hc : n ≤ c) (hc2 : c ≤ maxLen) (hb : Ints ns) (h1 : Reads w 5 A n (ints ns)) (hd : m ≤ d) (hd2 : d ≤ maxLen) (ht : Ints ts) (h2 : Reads w 1 T m (ints ts)) :
    Calls Try.prog 3 #[.slice A n c, .agg #[.int .i64 x1, .int .i64 x2], .slice T m d] w fun e w' => e = .returned (.bool true) ∧ Below w.heap.size w w' := by
  obtain ⟨l, hl, hk⟩ := rd_acts h1 hb
  have h3 : Rd [old w.hm] T m ts := by
    unfold Rd
    rw [ints_of]
    exact rc_of_reads (by decide) h2
  exact law_of_ctr (PstcurFalls_ctr A n c l x1 x2 T m d ts _ hl (by unfold maxLen at hc2; omega) hk h3 (by unfold maxLen at hd2; omega) (fun t h => (ht t h).2))
end Go.Proofs.Ytalcanejhniepaa
