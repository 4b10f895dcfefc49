/- The law PstPlays. -/
import Derived.Test.YtalcanejhniepaaPost
import Derived.Test.YtalcanejhniepaaBack
import Derived.Test.YtalcanejhniepaaBrA
namespace Go.Proofs.Ytalcanejhniepaa
attribute [local irreducible] sat
open Go.RowKit
set_option linter.unusedVariables false
set_option linter.unusedSimpArgs false
set_option maxRecDepth 100000

theorem actL_most (most : Int) (l : List Pt) (a : Ac) (h : (l.length : Int) ≤ most) : ((actL most l a).length : Int) ≤ most := by
  unfold actL
  split
  · have := List.length_erase_le (a := actP l a) (l := l); omega
  · unfold insR
    split
    · rename_i h0
      have : ¬ most ≤ l.length := fun h9 => by
        unfold insC at h0
        split at h0
        · exact absurd h0 (by decide)
        · split at h0
          · exact absurd h0 (by decide)
          · exact absurd h0 (by decide)
      rw [List.length_append, List.length_singleton]; omega
    · exact h
theorem does_open (b s : Nat) (most : Int) (a : Ac) (l : List Pt) (L : List HP) (hn : l.length + 1 ≤ 100000) (ha : a.at_ ≤ 9223372036854775807) :
    Ctr Try.prog 30 #[.pointer (some ⟨b, 0, none⟩), .pointer (some ⟨s, 0, none⟩), .agg #[.int .i64 a.kind, .int .i64 a.at_, .int .i64 a.p.id, .int .i64 a.p.x, .int .i64 a.p.y]] (treeS b most l :: setS s most l :: L) fun v L' => ∃ (A : Option Addr) (c : Nat), v = .bool true ∧ (0 < (actL most l a).length → ∃ b, A = some ⟨b, 0, none⟩) ∧ (actL most l a).length ≤ c ∧ c ≤ maxLen ∧
      L' = blk s 34 [.slice A (actL most l a).length c, .int .i64 most] :: own 39 3 A (actL most l a).length c (flat (actL most l a)) :: treeS b most (actL most l a) :: L :=
  (does_ctr b s most a l L hn ha).post fun v L' hm ⟨e1, e2⟩ h => by
    subst e2
    obtain ⟨A, c, h1, h2, h3, h4⟩ := set_open h.swap
    exact ⟨_, ⟨A, c, e1, h1, h2, h3, rfl⟩, h4⟩
theorem hits_eq (w : Wn) (l : List Pt) : hits (fun p => w.sees p.x p.y) l = winIds w l := rfl
theorem PstPlays_ctr (most : Int) (A : Option Addr) (n c : Nat) (acts : List Ac) (w : Wn) (L : List HP) (hl : Rd L A n acts) (hn : n ≤ 9223372036854775807) (ha : ∀ a ∈ acts, a.at_ ≤ 9223372036854775807) :
    Ctr Try.prog 6 #[.int .i64 most, .slice A n c, .agg #[.int .i64 w.x1, .int .i64 w.x2, .int .i64 w.y]] L fun v L' => v = .bool true ∧ L' = L := by
  have h1 : acts.length = n := hl.len (by decide)
  refine Ctr_of (fn := Try.f6) (n := 121) Try.func6 rfl rfl rfl ?_
  intro g F
  (repeat first | refine G_seq ?_ | refine G_skip ?_ | refine G_endblk ?_ | refine G_block ?_ | refine G_exit rfl ?_)
  refine G_region ?_
  refine GO_eff rfl rfl (eff_box rfl) ?_; rintro _ _ ⟨b5, rfl, rfl⟩
  refine GO_q rfl rfl (ev_assign rfl) ?_
  refine GO_nil ?_
  by_cases hm : 1 ≤ most ∧ most ≤ 1048576
  · (repeat first | refine G_seq ?_ | refine G_skip ?_ | refine G_endblk ?_ | refine G_block ?_ | refine G_exit rfl ?_)
    refine G_region ?_
    refine GO_q rfl rfl (ev_move rfl) ?_
    refine GO_eff rfl rfl (eff_call rfl (PNew_ctr most _ hm)) ?_; rintro _ _ ⟨t, rfl, rfl⟩
    refine GO_q rfl rfl (ev_move rfl) ?_
    refine GO_q rfl rfl (ev_extract rfl rfl) ?_
    refine GO_q rfl rfl (ev_extract rfl rfl) ?_
    refine GO_q rfl rfl (ev_assign rfl) ?_
    refine GO_q rfl rfl (ev_assign rfl) ?_
    refine GO_nil ?_
    (repeat first | refine G_seq ?_ | refine G_skip ?_ | refine G_endblk ?_ | refine G_block ?_ | refine G_exit rfl ?_)
    refine G_region ?_
    refine GO_q rfl rfl (ev_move rfl) ?_
    (first | refine GO_q rfl rfl (ev_lssN (q := 1) rfl rfl) ?_ | refine GO_q rfl rfl (ev_lss rfl rfl) ?_)
    refine GO_q rfl rfl (ev_move rfl) ?_
    refine GO_yes rfl rfl rfl (decide_eq_false (by omega)) ?_
    refine GO_q rfl rfl (ev_move rfl) ?_
    refine GO_yes rfl rfl rfl (decide_eq_false (by omega)) ?_
    refine GO_q rfl rfl (ev_gtr rfl rfl) ?_
    refine GO_q rfl rfl (ev_pick_f rfl (decide_eq_false (by omega)) rfl) ?_
    refine GO_nil ?_
    (repeat first | refine G_seq ?_ | refine G_skip ?_ | refine G_endblk ?_ | refine G_block ?_ | refine G_exit rfl ?_)
    refine G_cond_f rfl (decide_eq_false (by omega)) ?_
    (repeat first | refine G_seq ?_ | refine G_skip ?_ | refine G_endblk ?_ | refine G_block ?_ | refine G_exit rfl ?_)
    refine G_region ?_
    refine GO_q rfl rfl (ev_move rfl) ?_
    (first | refine GO_q rfl rfl (ev_eqlNil rfl rfl) ?_ | refine GO_q rfl rfl (ev_eqlPtr rfl rfl) ?_)
    refine GO_q rfl rfl (ev_move rfl) ?_
    refine GO_yes rfl rfl rfl rfl ?_
    refine GO_q rfl rfl (ev_move rfl) ?_
    refine GO_yes rfl rfl rfl rfl ?_
    refine GO_q rfl rfl (ev_neq rfl rfl) ?_
    refine GO_q rfl rfl (ev_pick_f rfl rfl rfl) ?_
    refine GO_nil ?_
    (repeat first | refine G_seq ?_ | refine G_skip ?_ | refine G_endblk ?_ | refine G_block ?_ | refine G_exit rfl ?_)
    refine G_cond_f rfl rfl ?_
    (repeat first | refine G_seq ?_ | refine G_skip ?_ | refine G_endblk ?_ | refine G_block ?_ | refine G_exit rfl ?_)
    refine G_region ?_
    refine GO_q rfl rfl (ev_move rfl) ?_
    refine GO_q rfl rfl (ev_build rfl rfl) ?_
    refine GO_eff rfl rfl (eff_box rfl) ?_; rintro _ _ ⟨b40, rfl, rfl⟩
    refine GO_q rfl rfl (ev_assign rfl) ?_
    refine GO_nil ?_
    (repeat first | refine G_seq ?_ | refine G_skip ?_ | refine G_endblk ?_ | refine G_block ?_ | refine G_exit rfl ?_)
    refine G_region ?_
    refine GO_q rfl rfl (ev_assign rfl) ?_
    refine GO_nil ?_
    (repeat first | refine G_seq ?_ | refine G_skip ?_ | refine G_endblk ?_ | refine G_block ?_ | refine G_exit rfl ?_)
    refine G_heap (own.nil_ 39 3) ?_
    refine G_loop (ι := Nat) (fun k => [(0, .int .i64 most), (1, .slice A n c), (5, .pointer (some ⟨b5, 0, none⟩)), (7, .pointer (some ⟨t, 0, none⟩)), (9, .pointer (some ⟨b40, 0, none⟩)), (10, .int .i64 (k : Nat))]) (fun k => treeS t most (playL most (acts.take k)) :: setS b40 most (playL most (acts.take k)) :: blk b5 45 [.int .i64 w.x1, .int .i64 w.x2, .int .i64 w.y] :: F :: L)
      (fun k => k ≤ n ∧ k ≤ 60 ∧ (playL most (acts.take k)).length ≤ k ∧ ((playL most (acts.take k)).length : Int) ≤ most) (fun k => n - k) 0 ⟨Nat.zero_le _, Nat.zero_le _, Nat.le_refl _, by simp [playL]; omega⟩ ⟨rfl, rfl, rfl, rfl, rfl, rfl, trivial⟩ (by (repeat first | exact en_refl | apply en_set (A := none) (c := 0) (l := []) (fun h => absurd h (Nat.lt_irrefl 0)) | (apply en_blk; focus ((repeat' first | exact Pick.here | apply Pick.skip | apply Pick.app); done); focus rfl) | (apply en_own; focus ((repeat' first | exact Pick.here | apply Pick.skip | apply Pick.app); done); focus rfl) | (apply en_pick; focus ((repeat' first | exact Pick.here | apply Pick.skip | apply Pick.app); done)) | apply en_drop | apply en_app) <;> fail) ?_
    rintro k ⟨f1, f2, f3, f4⟩
    by_cases c1 : k < n
    · by_cases c2 : k < 60
      · obtain ⟨lb, lo, rfl, hx⟩ := hl.at_ (by omega)
        have g1 : acts[k]? = some acts[k] := List.getElem?_eq_getElem (by omega)
        have y1 := hx _ _ g1
        have s1 := playL_succ most acts k (by omega)
        have m1 := ha acts[k] (List.getElem_mem _)
        have m2 := actL_length most (playL most (acts.take k)) acts[k]
        have m3 := actL_most most (playL most (acts.take k)) acts[k] f4
        generalize acts[k] = u at *
        have z1 : LdN L lb (lo + k * 5) 5 [.int .i64 u.kind, .int .i64 u.at_, .int .i64 u.p.id, .int .i64 u.p.x, .int .i64 u.p.y] := y1
        have z2 : LdN L lb (lo + k * 5 + 2) 3 [.int .i64 u.p.id, .int .i64 u.p.x, .int .i64 u.p.y] := y1.sub 2 3 rfl
        obtain ⟨l, e1⟩ : ∃ l, actL most (playL most (acts.take k)) u = l := ⟨_, rfl⟩
        have D := does_open t b40 most u (playL most (acts.take k)) (blk b5 45 [.int .i64 w.x1, .int .i64 w.x2, .int .i64 w.y] :: F :: L) (by omega) m1
        rw [e1] at D m2 m3 s1
        have hsl : (srt (winIds w l)).length = (winIds w l).length := by rw [srt, List.length_mergeSort]
        have hwl : (winIds w l).length ≤ l.length := by rw [winIds, List.length_map]; exact List.length_filter_le ..
        have hmem : decide (u.p ∈ l) = decide (0 ≤ atI l u.p) := decide_eq_decide.2 (atI_nn l u.p).symm
        (repeat first | refine G_seq ?_ | refine G_skip ?_ | refine G_endblk ?_ | refine G_block ?_ | refine G_exit rfl ?_)
        refine G_region ?_
        refine GO_q rfl rfl (ev_move rfl) ?_
        refine GO_q rfl rfl (ev_move rfl) ?_
        refine GO_q rfl rfl (ev_len rfl) ?_
        (first | refine GO_q rfl rfl (ev_lssN rfl rfl) ?_ | refine GO_q rfl rfl (ev_lss rfl rfl) ?_)
        refine GO_q rfl rfl (ev_move rfl) ?_
        refine GO_yes rfl rfl rfl (decide_eq_true (by omega)) ?_
        refine GO_q rfl rfl (ev_move rfl) ?_
        refine GO_yes rfl rfl rfl (decide_eq_true (by omega)) ?_
        (first | refine GO_q rfl rfl (ev_lssN (q := 60) rfl rfl) ?_ | refine GO_q rfl rfl (ev_lss rfl rfl) ?_)
        refine GO_q rfl rfl (ev_pick_t rfl (decide_eq_true (by omega)) rfl) ?_
        refine GO_nil ?_
        (repeat first | refine G_seq ?_ | refine G_skip ?_ | refine G_endblk ?_ | refine G_block ?_ | refine G_exit rfl ?_)
        refine G_cond_t rfl (decide_eq_true (by omega)) ?_
        (repeat first | refine G_seq ?_ | refine G_skip ?_ | refine G_endblk ?_ | refine G_block ?_ | refine G_exit rfl ?_)
        refine G_draw (.q 0 (.q 1 (.q 2 (.q 3 (.q 4 (.q 5 (.e 6 (.q 7 (.q 8 (.q 9 (.q 11 (.q 12 (.q 13 (.q 14 (.q 15 (.e 10 (.q 16 (.q 17 (.q 18 (.q 19 (.q 20 (.q 21 (.q 22 (.q 23 (.q 24 (.q 26 (.q 27 (.q 28 (.q 29 (.q 30 (.q 31 (.e 25 (.e 32 (.q 33 (.q 34 (.q 35 .nil)))))))))))))))))))))))))))))))))))) (by kernel_rfl) (by kernel_rfl) ?_
        refine RS_q retB_noPanic rfl rfl rfl (ev_move rfl) ?_
        refine RS_q retB_noPanic rfl rfl rfl (ev_move rfl) ?_
        refine RS_q retB_noPanic rfl rfl rfl (ev_move rfl) ?_
        refine RS_q retB_noPanic rfl rfl rfl (ev_move rfl) ?_
        (first | refine RS_q retB_noPanic rfl rfl rfl (ev_indexAddrN rfl rfl (by first | omega | (simp; done) | (simp; omega))) ?_ | refine RS_q retB_noPanic rfl rfl rfl (ev_indexAddr rfl rfl (by first | omega | (simp; done) | (simp; omega)) (by first | omega | (simp; done) | (simp; omega))) ?_)
        refine RS_q retB_noPanic rfl rfl rfl (ev_loadN rfl (by repeat' first | exact LdN.blk rfl | assumption | apply LdN.skip | apply LdN.app)) ?_
        refine RS_e (RE_cmp (by kernel_rfl) rfl rfl rfl (eff_call rfl (Ctr.pre (M := treeS t most _ :: setS b40 most _ :: blk b5 45 [.int .i64 w.x1, .int .i64 w.x2, .int .i64 w.y] :: F :: L) (by (repeat first | exact en_refl | (apply en_blk; focus ((repeat' first | exact Pick.here | apply Pick.skip | apply Pick.app); done); focus rfl) | (apply en_own; focus ((repeat' first | exact Pick.here | apply Pick.skip | apply Pick.app); done); focus rfl) | (apply en_pick; focus ((repeat' first | exact Pick.here | apply Pick.skip | apply Pick.app); done)) | apply en_drop | apply en_app) <;> fail) D)) ?_); rintro _ _ ⟨B, d, rfl, hB, hd, hd2, rfl⟩
        refine RS_q retB_noPanic rfl rfl rfl (ev_not rfl) ?_
        refine RS_q retB_noPanic rfl rfl rfl (ev_move rfl) ?_
        refine RS_q_yes retB_noPanic rfl rfl rfl ⟨_, rfl, rfl⟩ rfl (ev_move rfl) ?_
        refine RS_q_yes retB_noPanic rfl rfl rfl ⟨_, rfl, rfl⟩ rfl (ev_move rfl) ?_
        (first | refine RS_q_yes retB_noPanic rfl rfl rfl ⟨_, rfl, rfl⟩ rfl (ev_nilCheck rfl) ?_ | refine RS_q_yes retB_noPanic rfl rfl rfl ⟨_, rfl, rfl⟩ rfl (ev_nilCheckF (by simp) rfl) ?_)
        refine RS_q_yes retB_noPanic rfl rfl rfl ⟨_, rfl, rfl⟩ rfl (ev_fieldAddr rfl) ?_
        refine RS_q_yes retB_noPanic rfl rfl rfl ⟨_, rfl, rfl⟩ rfl (ev_load rfl (by repeat' first | exact Ld.blk rfl | assumption | apply Ld.skip | apply Ld.app)) ?_
        refine RS_q_yes retB_noPanic rfl rfl rfl ⟨_, rfl, rfl⟩ rfl (ev_len rfl) ?_
        refine RS_e (RE_eff_yes rfl rfl rfl ⟨_, rfl, rfl⟩ rfl (eff_call rfl (Ctr.pick (by repeat' first | exact Pick.here | apply Pick.skip | apply Pick.app) (SLen_ctr t most l _))) ?_); rintro _ _ ⟨rfl, rfl⟩; refine ⟨_, fun _ s => s, (by first | ((repeat first | exact fun _ s => s | apply en_keep | apply en_drop | apply en_app) <;> fail) | ((repeat first | exact en_refl | (apply en_blk; focus ((repeat' first | exact Pick.here | apply Pick.skip | apply Pick.app); done); focus rfl) | (apply en_own; focus ((repeat' first | exact Pick.here | apply Pick.skip | apply Pick.app); done); focus rfl) | (apply en_pick; focus ((repeat' first | exact Pick.here | apply Pick.skip | apply Pick.app); done)) | apply en_drop | apply en_app) <;> fail)), ?_⟩
        refine RS_q_yes retB_noPanic rfl rfl rfl ⟨_, rfl, rfl⟩ rfl (ev_neq rfl rfl) ?_
        refine RS_q retB_noPanic rfl rfl rfl (ev_pick_f rfl rfl rfl) ?_
        refine RS_q retB_noPanic rfl rfl rfl (ev_move rfl) ?_
        refine RS_q_yes retB_noPanic rfl rfl rfl ⟨_, rfl, (by simp)⟩ rfl (ev_move rfl) ?_
        refine RS_q_yes retB_noPanic rfl rfl rfl ⟨_, rfl, (by simp)⟩ rfl (ev_move rfl) ?_
        refine RS_q_yes retB_noPanic rfl rfl rfl ⟨_, rfl, (by simp)⟩ rfl (ev_move rfl) ?_
        (first | refine RS_q_yes retB_noPanic rfl rfl rfl ⟨_, rfl, (by simp)⟩ rfl (ev_indexAddrN rfl rfl (by first | omega | (simp; done) | (simp; omega))) ?_ | refine RS_q_yes retB_noPanic rfl rfl rfl ⟨_, rfl, (by simp)⟩ rfl (ev_indexAddr rfl rfl (by first | omega | (simp; done) | (simp; omega)) (by first | omega | (simp; done) | (simp; omega))) ?_)
        refine RS_q_yes retB_noPanic rfl rfl rfl ⟨_, rfl, (by simp)⟩ rfl (ev_fieldAddr rfl) ?_
        refine RS_q_yes retB_noPanic rfl rfl rfl ⟨_, rfl, (by simp)⟩ rfl (ev_loadN rfl (by repeat' first | exact LdN.blk rfl | assumption | apply LdN.skip | apply LdN.app)) ?_
        refine RS_q_yes retB_noPanic rfl rfl rfl ⟨_, rfl, (by simp)⟩ rfl (ev_move rfl) ?_
        refine RS_q_yes retB_noPanic rfl rfl rfl ⟨_, rfl, (by simp)⟩ rfl (ev_move rfl) ?_
        refine RS_q_yes retB_noPanic rfl rfl rfl ⟨_, rfl, (by simp)⟩ rfl (ev_move rfl) ?_
        (first | refine RS_q_yes retB_noPanic rfl rfl rfl ⟨_, rfl, (by simp)⟩ rfl (ev_indexAddrN rfl rfl (by first | omega | (simp; done) | (simp; omega))) ?_ | refine RS_q_yes retB_noPanic rfl rfl rfl ⟨_, rfl, (by simp)⟩ rfl (ev_indexAddr rfl rfl (by first | omega | (simp; done) | (simp; omega)) (by first | omega | (simp; done) | (simp; omega))) ?_)
        refine RS_q_yes retB_noPanic rfl rfl rfl ⟨_, rfl, (by simp)⟩ rfl (ev_fieldAddr rfl) ?_
        refine RS_q_yes retB_noPanic rfl rfl rfl ⟨_, rfl, (by simp)⟩ rfl (ev_loadN rfl (by repeat' first | exact LdN.blk rfl | assumption | apply LdN.skip | apply LdN.app)) ?_
        refine RS_e (RE_eff_yes rfl rfl rfl ⟨_, rfl, (by simp)⟩ rfl (eff_call rfl (Ctr.pick (by repeat' first | exact Pick.here | apply Pick.skip | apply Pick.app) (SHas_ctr t most l u.p _))) ?_); rintro _ _ ⟨rfl, rfl⟩; refine ⟨_, fun _ s => s, (by first | ((repeat first | exact fun _ s => s | apply en_keep | apply en_drop | apply en_app) <;> fail) | ((repeat first | exact en_refl | (apply en_blk; focus ((repeat' first | exact Pick.here | apply Pick.skip | apply Pick.app); done); focus rfl) | (apply en_own; focus ((repeat' first | exact Pick.here | apply Pick.skip | apply Pick.app); done); focus rfl) | (apply en_pick; focus ((repeat' first | exact Pick.here | apply Pick.skip | apply Pick.app); done)) | apply en_drop | apply en_app) <;> fail)), ?_⟩
        refine RS_e (RE_eff_yes rfl rfl rfl ⟨_, rfl, (by simp)⟩ rfl (eff_call rfl (At_ctr0 b40 B d most l u.p _ (by repeat' first | exact LdN.blk rfl | assumption | apply LdN.skip | apply LdN.app) (by repeat' first | exact Rc.own (flat_length _) hB | apply Rd.skip) (by omega))) ?_); rintro _ _ ⟨rfl, rfl⟩; refine ⟨_, fun _ s => s, (by first | ((repeat first | exact fun _ s => s | apply en_keep | apply en_drop | apply en_app) <;> fail) | ((repeat first | exact en_refl | (apply en_blk; focus ((repeat' first | exact Pick.here | apply Pick.skip | apply Pick.app); done); focus rfl) | (apply en_own; focus ((repeat' first | exact Pick.here | apply Pick.skip | apply Pick.app); done); focus rfl) | (apply en_pick; focus ((repeat' first | exact Pick.here | apply Pick.skip | apply Pick.app); done)) | apply en_drop | apply en_app) <;> fail)), ?_⟩
        refine RS_q_yes retB_noPanic rfl rfl rfl ⟨_, rfl, (by simp)⟩ rfl (ev_geq rfl rfl) ?_
        refine RS_q_yes retB_noPanic rfl rfl rfl ⟨_, rfl, (by simp)⟩ rfl (ev_neqB rfl rfl) ?_
        refine RS_q retB_noPanic rfl rfl rfl (ev_pick_f rfl (by simp) rfl) ?_
        refine RS_nil ?_
        (repeat first | refine G_seq ?_ | refine G_skip ?_ | refine G_endblk ?_ | refine G_block ?_ | refine G_exit rfl ?_)
        refine G_cond_f rfl (by rw [hmem]; simp) ?_
        (repeat first | refine G_seq ?_ | refine G_skip ?_ | refine G_endblk ?_ | refine G_block ?_ | refine G_exit rfl ?_)
        refine G_region ?_
        refine GO_q rfl rfl (ev_move rfl) ?_
        refine GO_q rfl rfl (ev_loadN rfl (by repeat' first | exact LdN.blk rfl | assumption | apply LdN.skip | apply LdN.app)) ?_
        refine GO_eff rfl rfl (eff_call rfl ((RWindow_ctr0 b40 B d most w l _ (by repeat' first | exact LdN.blk rfl | assumption | apply LdN.skip | apply LdN.app) (by repeat' first | exact Rc.own (flat_length _) hB | apply Rd.skip) (by omega)).y)) ?_; rintro _ _ ⟨Y, A89, c89, rfl, i1, i2, i3, rfl⟩
        refine GO_q rfl rfl (ev_assign rfl) ?_
        refine GO_nil ?_
        have hrb : d ≤ 9223372036854775807 := by unfold maxLen at hd2; omega
        (repeat first | refine G_seq ?_ | refine G_skip ?_ | refine G_endblk ?_ | refine G_block ?_ | refine G_exit rfl ?_)
        refine G_draw (.q 0 (.q 1 (.q 3 (.e 2 (.e 4 (.q 5 (.q 6 (.q 7 (.q 8 (.q 10 (.q 11 (.e 9 (.q 12 (.q 13 (.q 14 (.q 15 (.e 16 (.q 17 (.q 18 (.q 19 (.q 20 (.q 22 (.q 23 (.q 24 (.q 25 (.q 26 (.e 21 (.e 27 (.q 28 (.q 29 .nil)))))))))))))))))))))))))))))) (by kernel_rfl) (by kernel_rfl) ?_
        refine RS_q retB_noPanic rfl rfl rfl (ev_move rfl) ?_
        refine RS_q retB_noPanic rfl rfl rfl (ev_loadN rfl (by repeat' first | exact LdN.blk rfl | assumption | apply LdN.skip | apply LdN.app)) ?_
        refine RS_q retB_noPanic rfl rfl rfl (ev_move rfl) ?_
        refine RS_e (RE_eff rfl rfl rfl (eff_call rfl (Ctr.pick (by repeat' first | exact Pick.here | apply Pick.skip | apply Pick.app) (SReport_ctr t most w l _ (by omega)))) ?_); rintro _ _ ⟨A92, c92, rfl, hA92, rfl⟩; refine ⟨_, fun _ s => s, (by first | ((repeat first | exact fun _ s => s | apply en_keep | apply en_drop | apply en_app) <;> fail) | ((repeat first | exact en_refl | (apply en_blk; focus ((repeat' first | exact Pick.here | apply Pick.skip | apply Pick.app); done); focus rfl) | (apply en_own; focus ((repeat' first | exact Pick.here | apply Pick.skip | apply Pick.app); done); focus rfl) | (apply en_pick; focus ((repeat' first | exact Pick.here | apply Pick.skip | apply Pick.app); done)) | apply en_drop | apply en_app) <;> fail)), ?_⟩
        refine RS_e (RE_eff rfl rfl rfl (eff_call rfl (Same_ctr A92 A89 _ _ c92 c89 _ _ _ (by repeat' first | exact Rc.own (flat_length _) hA92 | apply Rd.skip) (by repeat' first | exact i3 _ | apply Rd.skip) (by omega))) ?_); rintro _ _ ⟨rfl, rfl⟩; refine ⟨_, fun _ s => s, (by first | ((repeat first | exact fun _ s => s | apply en_keep | apply en_drop | apply en_app) <;> fail) | ((repeat first | exact en_refl | (apply en_blk; focus ((repeat' first | exact Pick.here | apply Pick.skip | apply Pick.app); done); focus rfl) | (apply en_own; focus ((repeat' first | exact Pick.here | apply Pick.skip | apply Pick.app); done); focus rfl) | (apply en_pick; focus ((repeat' first | exact Pick.here | apply Pick.skip | apply Pick.app); done)) | apply en_drop | apply en_app) <;> fail)), ?_⟩
        (first | refine RS_q retB_noPanic rfl rfl rfl (ev_notP rfl) ?_ | refine RS_q retB_noPanic rfl rfl rfl (ev_not rfl) ?_)
        refine RS_q retB_noPanic rfl rfl rfl (ev_move rfl) ?_
        refine RS_q_yes retB_noPanic rfl rfl rfl ⟨_, rfl, (by simp [hits_eq])⟩ rfl (ev_move rfl) ?_
        refine RS_q_yes retB_noPanic rfl rfl rfl ⟨_, rfl, (by simp [hits_eq])⟩ rfl (ev_loadN rfl (by repeat' first | exact LdN.blk rfl | assumption | apply LdN.skip | apply LdN.app)) ?_
        refine RS_q_yes retB_noPanic rfl rfl rfl ⟨_, rfl, (by simp [hits_eq])⟩ rfl (ev_move rfl) ?_
        refine RS_q_yes retB_noPanic rfl rfl rfl ⟨_, rfl, (by simp [hits_eq])⟩ rfl (ev_len rfl) ?_
        refine RS_e (RE_eff_yes rfl rfl rfl ⟨_, rfl, (by simp [hits_eq])⟩ rfl (eff_call rfl (Ctr.pick (by repeat' first | exact Pick.here | apply Pick.skip | apply Pick.app) (SCount_ctr t most w l _ (by omega)))) ?_); rintro _ _ ⟨rfl, rfl⟩; refine ⟨_, fun _ s => s, (by first | ((repeat first | exact fun _ s => s | apply en_keep | apply en_drop | apply en_app) <;> fail) | ((repeat first | exact en_refl | (apply en_blk; focus ((repeat' first | exact Pick.here | apply Pick.skip | apply Pick.app); done); focus rfl) | (apply en_own; focus ((repeat' first | exact Pick.here | apply Pick.skip | apply Pick.app); done); focus rfl) | (apply en_pick; focus ((repeat' first | exact Pick.here | apply Pick.skip | apply Pick.app); done)) | apply en_drop | apply en_app) <;> fail)), ?_⟩
        refine RS_q_yes retB_noPanic rfl rfl rfl ⟨_, rfl, (by simp [hits_eq])⟩ rfl (ev_neq rfl rfl) ?_
        refine RS_q retB_noPanic rfl rfl rfl (ev_pick_f rfl (by simp [hits_eq]) rfl) ?_
        refine RS_q retB_noPanic rfl rfl rfl (ev_move rfl) ?_
        refine RS_q_yes retB_noPanic rfl rfl rfl ⟨_, rfl, (by simp [hits_eq, hsl])⟩ rfl (ev_move rfl) ?_
        refine RS_e (RE_cmp_yes (by kernel_rfl) rfl rfl rfl ⟨_, rfl, (by simp [hits_eq, hsl])⟩ rfl (eff_call rfl (Ctr.pick (by repeat' first | exact Pick.here | apply Pick.skip | apply Pick.app) (SCheck_ctr t most l _ (by omega) m3))) ?_); rintro _ _ ⟨rfl, rfl⟩
        refine RS_q_yes retB_noPanic rfl rfl rfl ⟨_, rfl, (by simp [hits_eq, hsl])⟩ rfl (ev_not rfl) ?_
        refine RS_q retB_noPanic rfl rfl rfl (ev_pick_f rfl (by simp [hits_eq, hsl]) rfl) ?_
        refine RS_q retB_noPanic rfl rfl rfl (ev_move rfl) ?_
        refine RS_q_yes retB_noPanic rfl rfl rfl ⟨_, rfl, rfl⟩ rfl (ev_move rfl) ?_
        refine RS_q_yes retB_noPanic rfl rfl rfl ⟨_, rfl, rfl⟩ rfl (ev_move rfl) ?_
        (first | refine RS_q_yes retB_noPanic rfl rfl rfl ⟨_, rfl, rfl⟩ rfl (ev_nilCheck rfl) ?_ | refine RS_q_yes retB_noPanic rfl rfl rfl ⟨_, rfl, rfl⟩ rfl (ev_nilCheckF (by simp) rfl) ?_)
        refine RS_q_yes retB_noPanic rfl rfl rfl ⟨_, rfl, rfl⟩ rfl (ev_fieldAddr rfl) ?_
        refine RS_q_yes retB_noPanic rfl rfl rfl ⟨_, rfl, rfl⟩ rfl (ev_load rfl (by repeat' first | exact Ld.blk rfl | assumption | apply Ld.skip | apply Ld.app)) ?_
        refine RS_q_yes retB_noPanic rfl rfl rfl ⟨_, rfl, rfl⟩ rfl (ev_len rfl) ?_
        refine RS_e (RE_eff_yes rfl rfl rfl ⟨_, rfl, rfl⟩ rfl (eff_call rfl (Ctr.pick (by repeat' first | exact Pick.here | apply Pick.skip | apply Pick.app) (SDepth_ctr t most l _ (by omega)))) ?_); rintro _ _ ⟨⟨d111, rfl, hd111⟩, rfl⟩; refine ⟨_, fun _ s => s, (by first | ((repeat first | exact fun _ s => s | apply en_keep | apply en_drop | apply en_app) <;> fail) | ((repeat first | exact en_refl | (apply en_blk; focus ((repeat' first | exact Pick.here | apply Pick.skip | apply Pick.app); done); focus rfl) | (apply en_own; focus ((repeat' first | exact Pick.here | apply Pick.skip | apply Pick.app); done); focus rfl) | (apply en_pick; focus ((repeat' first | exact Pick.here | apply Pick.skip | apply Pick.app); done)) | apply en_drop | apply en_app) <;> fail)), ?_⟩
        refine RS_e (RE_eff_yes rfl rfl rfl ⟨_, rfl, rfl⟩ rfl (eff_call rfl (RBound_ctr l.length _ (by omega))) ?_); rintro _ _ ⟨rfl, rfl⟩; refine ⟨_, fun _ s => s, (by first | ((repeat first | exact fun _ s => s | apply en_keep | apply en_drop | apply en_app) <;> fail) | ((repeat first | exact en_refl | (apply en_blk; focus ((repeat' first | exact Pick.here | apply Pick.skip | apply Pick.app); done); focus rfl) | (apply en_own; focus ((repeat' first | exact Pick.here | apply Pick.skip | apply Pick.app); done); focus rfl) | (apply en_pick; focus ((repeat' first | exact Pick.here | apply Pick.skip | apply Pick.app); done)) | apply en_drop | apply en_app) <;> fail)), ?_⟩
        refine RS_q_yes retB_noPanic rfl rfl rfl ⟨_, rfl, rfl⟩ rfl (ev_gtr rfl rfl) ?_
        refine RS_q retB_noPanic rfl rfl rfl (ev_pick_f rfl rfl rfl) ?_
        refine RS_nil ?_
        (repeat first | refine G_seq ?_ | refine G_skip ?_ | refine G_endblk ?_ | refine G_block ?_ | refine G_exit rfl ?_)
        refine G_cond_f rfl (decide_eq_false (by omega)) ?_
        (repeat first | refine G_seq ?_ | refine G_skip ?_ | refine G_endblk ?_ | refine G_block ?_ | refine G_exit rfl ?_)
        refine G_region ?_
        refine GO_q rfl rfl (ev_move rfl) ?_
        (first | refine GO_q rfl rfl (ev_addN (q := 1) rfl rfl (by first | omega | (simp; done) | (simp; omega))) ?_ | refine GO_q rfl rfl (ev_add rfl rfl (by first | omega | (simp; done) | (simp; omega))) ?_)
        refine GO_q rfl rfl (ev_assign rfl) ?_
        refine GO_nil ?_
        (repeat first | refine G_seq ?_ | refine G_skip ?_ | refine G_endblk ?_ | refine G_block ?_ | refine G_exit rfl ?_)
        refine G_round (k + 1) ⟨by omega, by omega, by rw [s1]; omega, by rw [s1]; exact m3⟩ (by omega) ⟨rfl, rfl, rfl, rfl, rfl, rfl, trivial⟩ ?_
        rw [s1]
        exact (by (repeat first | exact en_refl | apply en_set hB | (apply en_blk; focus ((repeat' first | exact Pick.here | apply Pick.skip | apply Pick.app); done); focus rfl) | (apply en_own; focus ((repeat' first | exact Pick.here | apply Pick.skip | apply Pick.app); done); focus rfl) | (apply en_pick; focus ((repeat' first | exact Pick.here | apply Pick.skip | apply Pick.app); done)) | apply en_drop | apply en_app) <;> fail)
      · skip
        (repeat first | refine G_seq ?_ | refine G_skip ?_ | refine G_endblk ?_ | refine G_block ?_ | refine G_exit rfl ?_)
        refine G_region ?_
        refine GO_q rfl rfl (ev_move rfl) ?_
        refine GO_q rfl rfl (ev_move rfl) ?_
        refine GO_q rfl rfl (ev_len rfl) ?_
        (first | refine GO_q rfl rfl (ev_lssN rfl rfl) ?_ | refine GO_q rfl rfl (ev_lss rfl rfl) ?_)
        refine GO_q rfl rfl (ev_move rfl) ?_
        refine GO_yes rfl rfl rfl (decide_eq_true (by omega)) ?_
        refine GO_q rfl rfl (ev_move rfl) ?_
        refine GO_yes rfl rfl rfl (decide_eq_true (by omega)) ?_
        (first | refine GO_q rfl rfl (ev_lssN (q := 60) rfl rfl) ?_ | refine GO_q rfl rfl (ev_lss rfl rfl) ?_)
        refine GO_q rfl rfl (ev_pick_t rfl (decide_eq_true (by omega)) rfl) ?_
        refine GO_nil ?_
        (repeat first | refine G_seq ?_ | refine G_skip ?_ | refine G_endblk ?_ | refine G_block ?_ | refine G_exit rfl ?_)
        refine G_cond_f rfl (decide_eq_false (by omega)) ?_
        (repeat first | refine G_seq ?_ | refine G_skip ?_ | refine G_endblk ?_ | refine G_block ?_ | refine G_exit rfl ?_)
        refine G_region ?_
        refine GO_eff rfl rfl (eff_call rfl (lives_ctr _)) ?_; rintro _ _ ⟨rfl, X, rfl⟩
        refine GO_q rfl rfl (ev_assign rfl) ?_
        refine GO_nil ?_
        (repeat first | refine G_seq ?_ | refine G_skip ?_ | refine G_endblk ?_ | refine G_block ?_ | refine G_exit rfl ?_)
        exact G_ret (L' := L) rfl (.tmp rfl .nil) (by (repeat first | exact fun _ s => s | apply en_keep | apply en_drop | apply en_app) <;> fail) ⟨rfl, rfl⟩
    · skip
      (repeat first | refine G_seq ?_ | refine G_skip ?_ | refine G_endblk ?_ | refine G_block ?_ | refine G_exit rfl ?_)
      refine G_region ?_
      refine GO_q rfl rfl (ev_move rfl) ?_
      refine GO_q rfl rfl (ev_move rfl) ?_
      refine GO_q rfl rfl (ev_len rfl) ?_
      (first | refine GO_q rfl rfl (ev_lssN rfl rfl) ?_ | refine GO_q rfl rfl (ev_lss rfl rfl) ?_)
      refine GO_q rfl rfl (ev_move rfl) ?_
      refine GO_no rfl rfl rfl (decide_eq_false (by omega)) ?_
      refine GO_no rfl rfl rfl (decide_eq_false (by omega)) ?_
      refine GO_q rfl rfl (ev_pick_f rfl (decide_eq_false (by omega)) rfl) ?_
      refine GO_nil ?_
      (repeat first | refine G_seq ?_ | refine G_skip ?_ | refine G_endblk ?_ | refine G_block ?_ | refine G_exit rfl ?_)
      refine G_cond_f rfl rfl ?_
      (repeat first | refine G_seq ?_ | refine G_skip ?_ | refine G_endblk ?_ | refine G_block ?_ | refine G_exit rfl ?_)
      refine G_region ?_
      refine GO_eff rfl rfl (eff_call rfl (lives_ctr _)) ?_; rintro _ _ ⟨rfl, X, rfl⟩
      refine GO_q rfl rfl (ev_assign rfl) ?_
      refine GO_nil ?_
      (repeat first | refine G_seq ?_ | refine G_skip ?_ | refine G_endblk ?_ | refine G_block ?_ | refine G_exit rfl ?_)
      exact G_ret (L' := L) rfl (.tmp rfl .nil) (by (repeat first | exact fun _ s => s | apply en_keep | apply en_drop | apply en_app) <;> fail) ⟨rfl, rfl⟩
  · have hb : most < 1 ∨ 1048576 < most := by omega
    (repeat first | refine G_seq ?_ | refine G_skip ?_ | refine G_endblk ?_ | refine G_block ?_ | refine G_exit rfl ?_)
    refine G_region ?_
    refine GO_q rfl rfl (ev_move rfl) ?_
    refine GO_eff rfl rfl (eff_call rfl (PNewBad_ctr most _ hb)) ?_; rintro _ _ ⟨rfl, rfl⟩
    refine GO_q rfl rfl (ev_move rfl) ?_
    refine GO_q rfl rfl (ev_extract rfl rfl) ?_
    refine GO_q rfl rfl (ev_extract rfl rfl) ?_
    refine GO_q rfl rfl (ev_assign rfl) ?_
    refine GO_q rfl rfl (ev_assign rfl) ?_
    refine GO_nil ?_
    by_cases h2 : most < 1
    case' pos =>
      (repeat first | refine G_seq ?_ | refine G_skip ?_ | refine G_endblk ?_ | refine G_block ?_ | refine G_exit rfl ?_)
      refine G_region ?_
      refine GO_q rfl rfl (ev_move rfl) ?_
      (first | refine GO_q rfl rfl (ev_lssN (q := 1) rfl rfl) ?_ | refine GO_q rfl rfl (ev_lss rfl rfl) ?_)
      refine GO_q rfl rfl (ev_move rfl) ?_
      refine GO_no rfl rfl rfl (decide_eq_true h2) ?_
      refine GO_no rfl rfl rfl (decide_eq_true h2) ?_
      refine GO_q rfl rfl (ev_pick_t rfl (decide_eq_true h2) rfl) ?_
      refine GO_nil ?_
      (repeat first | refine G_seq ?_ | refine G_skip ?_ | refine G_endblk ?_ | refine G_block ?_ | refine G_exit rfl ?_)
      refine G_cond_t rfl rfl ?_
    case' neg =>
      (repeat first | refine G_seq ?_ | refine G_skip ?_ | refine G_endblk ?_ | refine G_block ?_ | refine G_exit rfl ?_)
      refine G_region ?_
      refine GO_q rfl rfl (ev_move rfl) ?_
      (first | refine GO_q rfl rfl (ev_lssN (q := 1) rfl rfl) ?_ | refine GO_q rfl rfl (ev_lss rfl rfl) ?_)
      refine GO_q rfl rfl (ev_move rfl) ?_
      refine GO_yes rfl rfl rfl (decide_eq_false h2) ?_
      refine GO_q rfl rfl (ev_move rfl) ?_
      refine GO_yes rfl rfl rfl (decide_eq_false h2) ?_
      refine GO_q rfl rfl (ev_gtr rfl rfl) ?_
      refine GO_q rfl rfl (ev_pick_f rfl (decide_eq_false h2) rfl) ?_
      refine GO_nil ?_
      (repeat first | refine G_seq ?_ | refine G_skip ?_ | refine G_endblk ?_ | refine G_block ?_ | refine G_exit rfl ?_)
      refine G_cond_t rfl (decide_eq_true (by omega)) ?_
    all_goals
      (repeat first | refine G_seq ?_ | refine G_skip ?_ | refine G_endblk ?_ | refine G_block ?_ | refine G_exit rfl ?_)
      refine G_region ?_
      refine GO_q rfl rfl (ev_move rfl) ?_
      (first | refine GO_q rfl rfl (ev_eqlNil rfl rfl) ?_ | refine GO_q rfl rfl (ev_eqlPtr rfl rfl) ?_)
      refine GO_q rfl rfl (ev_move rfl) ?_
      refine GO_yes rfl rfl rfl rfl ?_
      refine GO_q rfl rfl (ev_move rfl) ?_
      refine GO_yes rfl rfl rfl rfl ?_
      refine GO_q rfl rfl (ev_eql rfl rfl) ?_
      refine GO_q rfl rfl (ev_pick_t rfl rfl rfl) ?_
      refine GO_q rfl rfl (ev_move rfl) ?_
      refine GO_yes rfl rfl rfl rfl ?_
      refine GO_eff rfl rfl (eff_call rfl (lives_ctr _)) ?_; rintro _ _ ⟨rfl, X, rfl⟩
      refine GO_q rfl rfl (ev_pick_t rfl rfl rfl) ?_
      refine GO_q rfl rfl (ev_assign rfl) ?_
      refine GO_nil ?_
      (repeat first | refine G_seq ?_ | refine G_skip ?_ | refine G_endblk ?_ | refine G_block ?_ | refine G_exit rfl ?_)
      exact G_ret (L' := L) rfl (.tmp rfl .nil) (by (repeat first | exact fun _ s => s | apply en_keep | apply en_drop | apply en_app) <;> fail) ⟨rfl, rfl⟩
theorem pstPlays_walk (most : Int) (A : Option Addr) (n c : Nat) (ns : List Int) (w0 w1 w2 : Int) (w : World) (hc : n ≤ c) (hc2 : c ≤ maxLen) (hb : Ints ns) (h1 : Reads w 5 A n (ints ns)) :
    Calls Try.prog 6 #[.int .i64 most, .slice A n c, .agg #[.int .i64 w0, .int .i64 w1, .int .i64 w2]] w fun e w' => e = .returned (.bool true) ∧ Below w.heap.size w w' := by
  obtain ⟨l, hl, hk⟩ := rd_acts h1 hb
  exact law_of_ctr (PstPlays_ctr most A n c l ⟨w0, w1, w2⟩ _ hl (by unfold maxLen at hc2; omega) hk)
end Go.Proofs.Ytalcanejhniepaa
