/- The law SegsPlays. -/
import Derived.Test.YtmgkmammkmlakaaGreatSgK
import Derived.Test.YtmgkmammkmlakaaGreatSgM
namespace Go.Proofs.YtmgkmammkmlakaaGreat
attribute [local irreducible] sat
open Go.RowKit
set_option linter.unusedVariables false
set_option linter.unusedSimpArgs false
set_option maxRecDepth 100000

theorem SegsPlays_ctr (most : Int) (A : Option Addr) (n c : Nat) (acts : List Ac) (u v : Int) (L : List HP) (hl : Rd L A n acts) (hn : n ≤ 9223372036854775807) (ha : ∀ a ∈ acts, a.at_ ≤ 9223372036854775807) :
    Ctr Tryz.prog 6 #[.int .i64 most, .slice A n c, .agg #[.int .i64 u, .int .i64 v]] L fun r L' => r = .bool true ∧ L' = L := by
  have h1 : acts.length = n := hl.len (by decide)
  have o0 : QOk none 0 ([] : List Pt) none 0 ([] : List Int) := ⟨⟨fun h => absurd h (Nat.lt_irrefl 0), Nat.le_refl _⟩, ⟨fun h => absurd h (Nat.lt_irrefl 0), Nat.le_refl _⟩⟩
  by_cases hm : most < 1 ∨ 1048576 < most
  · by_cases hm1 : most < 1
    · skip
      refine Ctr_of (fn := Tryz.f6) (n := 147) Tryz.func6 rfl rfl rfl ?_
      intro g F
      (repeat first | refine G_seq ?_ | refine G_skip ?_ | refine G_endblk ?_ | refine G_block ?_ | refine G_exit rfl ?_)
      refine G_region ?_
      refine GO_eff rfl rfl (eff_box rfl) ?_; rintro _ _ ⟨b5, rfl, rfl⟩
      refine GO_q rfl rfl (ev_assign rfl) ?_
      refine GO_nil ?_
      (repeat first | refine G_seq ?_ | refine G_skip ?_ | refine G_endblk ?_ | refine G_block ?_ | refine G_exit rfl ?_)
      refine G_region ?_
      refine GO_q rfl rfl (ev_move rfl) ?_
      refine GO_eff rfl rfl (eff_call rfl (tNew_bad most _ hm)) ?_; rintro _ _ ⟨rfl, rfl⟩
      refine GO_q rfl rfl (ev_move rfl) ?_
      refine GO_q rfl rfl (ev_extract rfl rfl) ?_
      refine GO_q rfl rfl (ev_extract rfl rfl) ?_
      refine GO_q rfl rfl (ev_assign rfl) ?_
      refine GO_q rfl rfl (ev_assign rfl) ?_
      refine GO_nil ?_
      (repeat first | refine G_seq ?_ | refine G_skip ?_ | refine G_endblk ?_ | refine G_block ?_ | refine G_exit rfl ?_)
      refine G_region ?_
      refine GO_q rfl rfl (ev_move rfl) ?_
      (first | refine GO_q rfl rfl (ev_lssN (q := 1) rfl rfl) ?_ | refine GO_q rfl rfl (ev_lss rfl rfl) ?_)
      refine GO_q rfl rfl (ev_move rfl) ?_
      refine GO_no rfl rfl rfl (decide_eq_true hm1) ?_
      refine GO_no rfl rfl rfl (decide_eq_true hm1) ?_
      refine GO_q rfl rfl (ev_pick_t rfl (decide_eq_true hm1) rfl) ?_
      refine GO_nil ?_
      (repeat first | refine G_seq ?_ | refine G_skip ?_ | refine G_endblk ?_ | refine G_block ?_ | refine G_exit rfl ?_)
      refine G_cond_t rfl rfl ?_
      (repeat first | refine G_seq ?_ | refine G_skip ?_ | refine G_endblk ?_ | refine G_block ?_ | refine G_exit rfl ?_)
      refine G_region ?_
      refine GO_q rfl rfl (ev_move rfl) ?_
      (first | refine GO_q rfl rfl (ev_eqlNil rfl rfl) ?_ | refine GO_q rfl rfl (ev_eqlPtr rfl rfl) ?_)
      refine GO_q rfl rfl (ev_move rfl) ?_
      refine GO_yes rfl rfl rfl rfl ?_
      refine GO_q rfl rfl (ev_move rfl) ?_
      refine GO_yes rfl rfl rfl rfl ?_
      refine GO_q rfl rfl (ev_eql rfl rfl) ?_
      refine GO_q rfl rfl (ev_pick_t rfl rfl rfl) ?_
      refine GO_q rfl rfl (ev_move rfl) ?_
      refine GO_yes rfl rfl rfl rfl ?_
      refine GO_eff rfl rfl (eff_call rfl (lives22_ctr _)) ?_; rintro _ _ ⟨rfl, X, rfl⟩
      refine GO_q rfl rfl (ev_pick_t rfl rfl rfl) ?_
      refine GO_q rfl rfl (ev_assign rfl) ?_
      refine GO_nil ?_
      (repeat first | refine G_seq ?_ | refine G_skip ?_ | refine G_endblk ?_ | refine G_block ?_ | refine G_exit rfl ?_)
      exact G_ret (L' := L) rfl (.tmp rfl .nil) (by (repeat first | exact fun _ s => s | apply en_keep | apply en_drop | apply en_app) <;> fail) ⟨rfl, rfl⟩
    · skip
      refine Ctr_of (fn := Tryz.f6) (n := 147) Tryz.func6 rfl rfl rfl ?_
      intro g F
      (repeat first | refine G_seq ?_ | refine G_skip ?_ | refine G_endblk ?_ | refine G_block ?_ | refine G_exit rfl ?_)
      refine G_region ?_
      refine GO_eff rfl rfl (eff_box rfl) ?_; rintro _ _ ⟨b5, rfl, rfl⟩
      refine GO_q rfl rfl (ev_assign rfl) ?_
      refine GO_nil ?_
      (repeat first | refine G_seq ?_ | refine G_skip ?_ | refine G_endblk ?_ | refine G_block ?_ | refine G_exit rfl ?_)
      refine G_region ?_
      refine GO_q rfl rfl (ev_move rfl) ?_
      refine GO_eff rfl rfl (eff_call rfl (tNew_bad most _ hm)) ?_; rintro _ _ ⟨rfl, rfl⟩
      refine GO_q rfl rfl (ev_move rfl) ?_
      refine GO_q rfl rfl (ev_extract rfl rfl) ?_
      refine GO_q rfl rfl (ev_extract rfl rfl) ?_
      refine GO_q rfl rfl (ev_assign rfl) ?_
      refine GO_q rfl rfl (ev_assign rfl) ?_
      refine GO_nil ?_
      (repeat first | refine G_seq ?_ | refine G_skip ?_ | refine G_endblk ?_ | refine G_block ?_ | refine G_exit rfl ?_)
      refine G_region ?_
      refine GO_q rfl rfl (ev_move rfl) ?_
      (first | refine GO_q rfl rfl (ev_lssN (q := 1) rfl rfl) ?_ | refine GO_q rfl rfl (ev_lss rfl rfl) ?_)
      refine GO_q rfl rfl (ev_move rfl) ?_
      refine GO_yes rfl rfl rfl (decide_eq_false hm1) ?_
      refine GO_q rfl rfl (ev_move rfl) ?_
      refine GO_yes rfl rfl rfl (decide_eq_false hm1) ?_
      refine GO_q rfl rfl (ev_gtr rfl rfl) ?_
      refine GO_q rfl rfl (ev_pick_f rfl (decide_eq_false hm1) rfl) ?_
      refine GO_nil ?_
      (repeat first | refine G_seq ?_ | refine G_skip ?_ | refine G_endblk ?_ | refine G_block ?_ | refine G_exit rfl ?_)
      refine G_cond_t rfl (decide_eq_true (by omega)) ?_
      (repeat first | refine G_seq ?_ | refine G_skip ?_ | refine G_endblk ?_ | refine G_block ?_ | refine G_exit rfl ?_)
      refine G_region ?_
      refine GO_q rfl rfl (ev_move rfl) ?_
      (first | refine GO_q rfl rfl (ev_eqlNil rfl rfl) ?_ | refine GO_q rfl rfl (ev_eqlPtr rfl rfl) ?_)
      refine GO_q rfl rfl (ev_move rfl) ?_
      refine GO_yes rfl rfl rfl rfl ?_
      refine GO_q rfl rfl (ev_move rfl) ?_
      refine GO_yes rfl rfl rfl rfl ?_
      refine GO_q rfl rfl (ev_eql rfl rfl) ?_
      refine GO_q rfl rfl (ev_pick_t rfl rfl rfl) ?_
      refine GO_q rfl rfl (ev_move rfl) ?_
      refine GO_yes rfl rfl rfl rfl ?_
      refine GO_eff rfl rfl (eff_call rfl (lives22_ctr _)) ?_; rintro _ _ ⟨rfl, X, rfl⟩
      refine GO_q rfl rfl (ev_pick_t rfl rfl rfl) ?_
      refine GO_q rfl rfl (ev_assign rfl) ?_
      refine GO_nil ?_
      (repeat first | refine G_seq ?_ | refine G_skip ?_ | refine G_endblk ?_ | refine G_block ?_ | refine G_exit rfl ?_)
      exact G_ret (L' := L) rfl (.tmp rfl .nil) (by (repeat first | exact fun _ s => s | apply en_keep | apply en_drop | apply en_app) <;> fail) ⟨rfl, rfl⟩
  · skip
    refine Ctr_of (fn := Tryz.f6) (n := 147) Tryz.func6 rfl rfl rfl ?_
    intro g F
    (repeat first | refine G_seq ?_ | refine G_skip ?_ | refine G_endblk ?_ | refine G_block ?_ | refine G_exit rfl ?_)
    refine G_region ?_
    refine GO_eff rfl rfl (eff_box rfl) ?_; rintro _ _ ⟨b5, rfl, rfl⟩
    refine GO_q rfl rfl (ev_assign rfl) ?_
    refine GO_nil ?_
    (repeat first | refine G_seq ?_ | refine G_skip ?_ | refine G_endblk ?_ | refine G_block ?_ | refine G_exit rfl ?_)
    refine G_region ?_
    refine GO_q rfl rfl (ev_move rfl) ?_
    refine GO_eff rfl rfl (eff_call rfl (SNew_ctr most _ (by omega) (by omega))) ?_; rintro _ _ ⟨t, rfl, rfl⟩
    refine GO_q rfl rfl (ev_move rfl) ?_
    refine GO_q rfl rfl (ev_extract rfl rfl) ?_
    refine GO_q rfl rfl (ev_extract rfl rfl) ?_
    refine GO_q rfl rfl (ev_assign rfl) ?_
    refine GO_q rfl rfl (ev_assign rfl) ?_
    refine GO_nil ?_
    (repeat first | refine G_seq ?_ | refine G_skip ?_ | refine G_endblk ?_ | refine G_block ?_ | refine G_exit rfl ?_)
    refine G_region ?_
    refine GO_q rfl rfl (ev_move rfl) ?_
    (first | refine GO_q rfl rfl (ev_lssN (q := 1) rfl rfl) ?_ | refine GO_q rfl rfl (ev_lss rfl rfl) ?_)
    refine GO_q rfl rfl (ev_move rfl) ?_
    refine GO_yes rfl rfl rfl (decide_eq_false (by omega)) ?_
    refine GO_q rfl rfl (ev_move rfl) ?_
    refine GO_yes rfl rfl rfl (decide_eq_false (by omega)) ?_
    refine GO_q rfl rfl (ev_gtr rfl rfl) ?_
    refine GO_q rfl rfl (ev_pick_f rfl (decide_eq_false (by omega)) rfl) ?_
    refine GO_nil ?_
    (repeat first | refine G_seq ?_ | refine G_skip ?_ | refine G_endblk ?_ | refine G_block ?_ | refine G_exit rfl ?_)
    refine G_cond_f rfl (decide_eq_false (by omega)) ?_
    (repeat first | refine G_seq ?_ | refine G_skip ?_ | refine G_endblk ?_ | refine G_block ?_ | refine G_exit rfl ?_)
    (repeat first | refine G_seq ?_ | refine G_skip ?_ | refine G_endblk ?_ | refine G_block ?_ | refine G_exit rfl ?_)
    refine G_region ?_
    refine GO_q rfl rfl (ev_move rfl) ?_
    (first | refine GO_q rfl rfl (ev_eqlNil rfl rfl) ?_ | refine GO_q rfl rfl (ev_eqlPtr rfl rfl) ?_)
    refine GO_q rfl rfl (ev_move rfl) ?_
    refine GO_yes rfl rfl rfl rfl ?_
    refine GO_q rfl rfl (ev_move rfl) ?_
    refine GO_yes rfl rfl rfl rfl ?_
    refine GO_q rfl rfl (ev_neq rfl rfl) ?_
    refine GO_q rfl rfl (ev_pick_f rfl rfl rfl) ?_
    refine GO_nil ?_
    (repeat first | refine G_seq ?_ | refine G_skip ?_ | refine G_endblk ?_ | refine G_block ?_ | refine G_exit rfl ?_)
    refine G_cond_f rfl rfl ?_
    (repeat first | refine G_seq ?_ | refine G_skip ?_ | refine G_endblk ?_ | refine G_block ?_ | refine G_exit rfl ?_)
    (repeat first | refine G_seq ?_ | refine G_skip ?_ | refine G_endblk ?_ | refine G_block ?_ | refine G_exit rfl ?_)
    refine G_region ?_
    refine GO_q rfl rfl (ev_move rfl) ?_
    refine GO_q rfl rfl (ev_build rfl rfl) ?_
    refine GO_q rfl rfl (ev_build rfl rfl) ?_
    refine GO_eff rfl rfl (eff_box rfl) ?_; rintro _ _ ⟨b40, rfl, rfl⟩
    refine GO_q rfl rfl (ev_assign rfl) ?_
    refine GO_nil ?_
    (repeat first | refine G_seq ?_ | refine G_skip ?_ | refine G_endblk ?_ | refine G_block ?_ | refine G_exit rfl ?_)
    refine G_region ?_
    refine GO_q rfl rfl (ev_assign rfl) ?_
    refine GO_nil ?_
    (repeat first | refine G_seq ?_ | refine G_skip ?_ | refine G_endblk ?_ | refine G_block ?_ | refine G_exit rfl ?_)
    refine G_heap (own.nil_ 51 3) ?_
    refine G_heap (own.nil_ 3 1) ?_
    refine G_heap (L' := segH t most ⟨[], [], 0⟩ :: setQ b40 most ⟨[], [], 0⟩ :: blk b5 47 [.int .i64 u, .int .i64 v] :: F :: L) (en_pick (by repeat' first | exact Pick.here | apply Pick.skip | apply Pick.app) (en_setQ o0 (by (repeat first | exact en_refl | (apply en_blk; focus ((repeat' first | exact Pick.here | apply Pick.skip | apply Pick.app); done); focus rfl) | (apply en_own; focus ((repeat' first | exact Pick.here | apply Pick.skip | apply Pick.app); done); focus rfl) | (apply en_pick; focus ((repeat' first | exact Pick.here | apply Pick.skip | apply Pick.app); done)) | apply en_drop | apply en_app) <;> fail))) ?_
    refine G_loop (ι := Nat) (fun k => [(1, .slice A n c), (5, .pointer (some ⟨b5, 0, none⟩)), (7, .pointer (some ⟨t, 0, none⟩)), (9, .pointer (some ⟨b40, 0, none⟩)), (10, .int .i64 (k : Nat))]) (fun k => segH t most (St.play most (acts.take k)) :: setQ b40 most (St.play most (acts.take k)) :: blk b5 47 [.int .i64 u, .int .i64 v] :: F :: L) (fun k => k ≤ n ∧ k ≤ 50 ∧ (St.play most (acts.take k)).k.length ≤ k ∧ (St.play most (acts.take k)).R.length ≤ 2 * k ∧ (St.play most (acts.take k)).b ≤ k) (fun k => n - k) 0 ⟨Nat.zero_le _, Nat.zero_le _, Nat.le_refl _, Nat.le_refl _, Nat.le_refl _⟩ ⟨rfl, rfl, rfl, rfl, rfl, trivial⟩ (fun _ s => s) ?_
    rintro k ⟨f1, f2, f3, f4, f5⟩
    by_cases c1 : k < n
    · by_cases c2 : k < 50
      · obtain ⟨lb, lo, rfl, hx⟩ := hl.at_ (by omega)
        have g1 : acts[k]? = some acts[k] := List.getElem?_eq_getElem (by omega)
        have y1 := hx _ _ g1
        have s1 := St.play_succ most acts k (by omega)
        have m1 := ha acts[k] (List.getElem_mem _)
        have m2 := (St.play most (acts.take k)).act_len most acts[k]
        have dd := fun M => gdoes_open t b40 most (St.play most (acts.take k)) M acts[k] (by omega) (by omega) (by omega) m1
        rw [← s1] at m2 dd
        have z1 : LdN L lb (lo + k * 5) 5 [.int .i64 acts[k].kind, .int .i64 acts[k].at_, .int .i64 acts[k].p.id, .int .i64 acts[k].p.x, .int .i64 acts[k].p.y] := y1
        have z2 : LdN L lb (lo + k * 5 + 2) 3 [.int .i64 acts[k].p.id, .int .i64 acts[k].p.x, .int .i64 acts[k].p.y] := y1.sub' 2 3 rfl
        generalize St.play most (acts.take k) = s0 at *
        generalize hs' : St.play most (acts.take (k + 1)) = s at *
        generalize acts[k] = a at *
        have l3 := overK_length s.k u v
        have l2 := overK_length s.k u u
        have cO := fun L => SOverlap_ctr t most s L u v (by omega)
        have cS := fun L => SStab_ctr t most s L u (by omega)
        have hsu : stabK s.k u = overK s.k u u := by
          unfold stabK overK
          congr 2
          refine List.filter_congr fun p _ => ?_
          simp
        rw [hsu] at cS
        have cH := fun L => SHas_ctr t most s a.p L (by omega)
        have cC := fun L => SCheck_ctr t most s L (by omega)
        have cL := fun L => SLen_ctr t most s L
        have cE := fun L => SEnds_ctr t most s L
        have cB := fun L => SBuilt_ctr t most s L
        (repeat first | refine G_seq ?_ | refine G_skip ?_ | refine G_endblk ?_ | refine G_block ?_ | refine G_exit rfl ?_)
        refine G_region ?_
        refine GO_q rfl rfl (ev_move rfl) ?_
        refine GO_q rfl rfl (ev_move rfl) ?_
        refine GO_q rfl rfl (ev_len rfl) ?_
        (first | refine GO_q rfl rfl (ev_lssN rfl rfl) ?_ | refine GO_q rfl rfl (ev_lss rfl rfl) ?_)
        refine GO_q rfl rfl (ev_move rfl) ?_
        refine GO_yes rfl rfl rfl (decide_eq_true (by omega)) ?_
        refine GO_q rfl rfl (ev_move rfl) ?_
        refine GO_yes rfl rfl rfl (decide_eq_true (by omega)) ?_
        (first | refine GO_q rfl rfl (ev_lssN (q := 50) rfl rfl) ?_ | refine GO_q rfl rfl (ev_lss rfl rfl) ?_)
        refine GO_q rfl rfl (ev_pick_t rfl (decide_eq_true (by omega)) rfl) ?_
        refine GO_nil ?_
        (repeat first | refine G_seq ?_ | refine G_skip ?_ | refine G_endblk ?_ | refine G_block ?_ | refine G_exit rfl ?_)
        refine G_cond_t rfl (decide_eq_true (by omega)) ?_
        have hmem : decide (a.p ∈ s.k) = decide (0 ≤ atS s.k a.p) := decide_eq_decide.2 (atS_nn s.k a.p).symm
        (repeat first | refine G_seq ?_ | refine G_skip ?_ | refine G_endblk ?_ | refine G_block ?_ | refine G_exit rfl ?_)
        refine G_draw (.q 0 (.q 1 (.q 2 (.q 3 (.q 4 (.q 5 (.e 6 (.q 7 (.q 8 (.q 9 (.q 11 (.q 12 (.q 13 (.q 14 (.q 15 (.q 16 (.e 10 (.q 17 (.q 18 (.q 19 (.q 20 (.q 21 (.q 22 (.q 23 (.q 24 (.q 25 (.q 27 (.q 28 (.q 29 (.q 30 (.q 31 (.q 32 (.q 33 (.q 34 (.e 26 (.e 35 (.q 36 (.q 37 (.q 38 (.q 39 (.q 40 (.q 42 (.q 43 (.q 44 (.q 45 (.q 46 (.e 41 (.q 47 (.q 48 (.q 49 (.q 50 (.q 52 (.q 53 (.q 54 (.q 55 (.e 51 (.q 56 (.q 57 .nil)))))))))))))))))))))))))))))))))))))))))))))))))))))))))) (by kernel_rfl) (by kernel_rfl) ?_
        refine RS_m retB_noPanic rfl rfl rfl rfl (ev_move rfl) ?_
        refine RS_m retB_noPanic rfl rfl rfl rfl (ev_move rfl) ?_
        refine RS_m retB_noPanic rfl rfl rfl rfl (ev_move rfl) ?_
        refine RS_m retB_noPanic rfl rfl rfl rfl (ev_move rfl) ?_
        (first | refine RS_m retB_noPanic rfl rfl rfl rfl (ev_indexAddrN rfl rfl (by first | omega | (simp; done) | (simp; omega))) ?_ | refine RS_m retB_noPanic rfl rfl rfl rfl (ev_indexAddr rfl rfl (by first | omega | (simp; done) | (simp; omega)) (by first | omega | (simp; done) | (simp; omega))) ?_)
        refine RS_q retB_noPanic rfl rfl rfl rfl (ev_loadN rfl (by repeat' first | exact LdN.blk rfl | assumption | apply LdN.skip | apply LdN.app)) ?_
        refine RS_e (RE_cmp (by kernel_rfl) rfl rfl rfl (eff_call rfl (Ctr.pre (M := segH t most _ :: setQ b40 most _ :: blk b5 47 [.int .i64 u, .int .i64 v] :: F :: L) (by (repeat first | exact en_refl | (apply en_blk; focus ((repeat' first | exact Pick.here | apply Pick.skip | apply Pick.app); done); focus rfl) | (apply en_own; focus ((repeat' first | exact Pick.here | apply Pick.skip | apply Pick.app); done); focus rfl) | (apply en_pick; focus ((repeat' first | exact Pick.here | apply Pick.skip | apply Pick.app); done)) | apply en_drop | apply en_app) <;> fail) (dd _))) ?_); rintro _ _ ⟨B1, d1, B2, d2, rfl, hQ, rfl⟩
        refine RS_m retB_noPanic rfl rfl rfl rfl (ev_not rfl) ?_
        refine RS_m retB_noPanic rfl rfl rfl rfl (ev_move rfl) ?_
        refine RS_m_yes retB_noPanic rfl rfl rfl rfl ⟨_, rfl, rfl⟩ rfl (ev_move rfl) ?_
        refine RS_m_yes retB_noPanic rfl rfl rfl rfl ⟨_, rfl, rfl⟩ rfl (ev_move rfl) ?_
        (first | refine RS_m_yes retB_noPanic rfl rfl rfl rfl ⟨_, rfl, rfl⟩ rfl (ev_nilCheck rfl) ?_ | refine RS_m_yes retB_noPanic rfl rfl rfl rfl ⟨_, rfl, rfl⟩ rfl (ev_nilCheckF (by simp) rfl) ?_)
        refine RS_m_yes retB_noPanic rfl rfl rfl rfl ⟨_, rfl, rfl⟩ rfl (ev_fieldAddr rfl) ?_
        refine RS_m_yes retB_noPanic rfl rfl rfl rfl ⟨_, rfl, rfl⟩ rfl (ev_fieldAddr rfl) ?_
        refine RS_q_yes retB_noPanic rfl rfl rfl rfl ⟨_, rfl, rfl⟩ rfl (ev_load rfl (by repeat' first | exact Ld.blk rfl | assumption | apply Ld.skip | apply Ld.app)) ?_
        refine RS_q_yes retB_noPanic rfl rfl rfl rfl ⟨_, rfl, rfl⟩ rfl (ev_len rfl) ?_
        refine RS_e (RE_eff_yes rfl rfl rfl ⟨_, rfl, rfl⟩ rfl (eff_call rfl (Ctr.pick (by repeat' first | exact Pick.here | apply Pick.skip | apply Pick.app) (cL _))) ?_); rintro _ _ ⟨rfl, rfl⟩; refine ⟨_, fun _ s => s, (by first | ((repeat first | exact fun _ s => s | apply en_keep | apply en_drop | apply en_app) <;> fail) | ((repeat first | exact en_refl | (apply en_blk; focus ((repeat' first | exact Pick.here | apply Pick.skip | apply Pick.app); done); focus rfl) | (apply en_own; focus ((repeat' first | exact Pick.here | apply Pick.skip | apply Pick.app); done); focus rfl) | (apply en_pick; focus ((repeat' first | exact Pick.here | apply Pick.skip | apply Pick.app); done)) | apply en_drop | apply en_app) <;> fail)), ?_⟩
        refine RS_m_yes retB_noPanic rfl rfl rfl rfl ⟨_, rfl, rfl⟩ rfl (ev_neq rfl rfl) ?_
        refine RS_m retB_noPanic rfl rfl rfl rfl (ev_pick_f rfl rfl rfl) ?_
        refine RS_m retB_noPanic rfl rfl rfl rfl (ev_move rfl) ?_
        refine RS_m_yes retB_noPanic rfl rfl rfl rfl ⟨_, rfl, (by simp)⟩ rfl (ev_move rfl) ?_
        refine RS_m_yes retB_noPanic rfl rfl rfl rfl ⟨_, rfl, (by simp)⟩ rfl (ev_move rfl) ?_
        refine RS_m_yes retB_noPanic rfl rfl rfl rfl ⟨_, rfl, (by simp)⟩ rfl (ev_move rfl) ?_
        (first | refine RS_m_yes retB_noPanic rfl rfl rfl rfl ⟨_, rfl, (by simp)⟩ rfl (ev_indexAddrN rfl rfl (by first | omega | (simp; done) | (simp; omega))) ?_ | refine RS_m_yes retB_noPanic rfl rfl rfl rfl ⟨_, rfl, (by simp)⟩ rfl (ev_indexAddr rfl rfl (by first | omega | (simp; done) | (simp; omega)) (by first | omega | (simp; done) | (simp; omega))) ?_)
        refine RS_m_yes retB_noPanic rfl rfl rfl rfl ⟨_, rfl, (by simp)⟩ rfl (ev_fieldAddr rfl) ?_
        refine RS_q_yes retB_noPanic rfl rfl rfl rfl ⟨_, rfl, (by simp)⟩ rfl (ev_loadN rfl (by repeat' first | exact LdN.blk rfl | assumption | apply LdN.skip | apply LdN.app)) ?_
        refine RS_m_yes retB_noPanic rfl rfl rfl rfl ⟨_, rfl, (by simp)⟩ rfl (ev_move rfl) ?_
        (first | refine RS_m_yes retB_noPanic rfl rfl rfl rfl ⟨_, rfl, (by simp)⟩ rfl (ev_nilCheck rfl) ?_ | refine RS_m_yes retB_noPanic rfl rfl rfl rfl ⟨_, rfl, (by simp)⟩ rfl (ev_nilCheckF (by simp) rfl) ?_)
        refine RS_m_yes retB_noPanic rfl rfl rfl rfl ⟨_, rfl, (by simp)⟩ rfl (ev_fieldAddr rfl) ?_
        refine RS_m_yes retB_noPanic rfl rfl rfl rfl ⟨_, rfl, (by simp)⟩ rfl (ev_move rfl) ?_
        refine RS_m_yes retB_noPanic rfl rfl rfl rfl ⟨_, rfl, (by simp)⟩ rfl (ev_move rfl) ?_
        (first | refine RS_m_yes retB_noPanic rfl rfl rfl rfl ⟨_, rfl, (by simp)⟩ rfl (ev_indexAddrN rfl rfl (by first | omega | (simp; done) | (simp; omega))) ?_ | refine RS_m_yes retB_noPanic rfl rfl rfl rfl ⟨_, rfl, (by simp)⟩ rfl (ev_indexAddr rfl rfl (by first | omega | (simp; done) | (simp; omega)) (by first | omega | (simp; done) | (simp; omega))) ?_)
        refine RS_m_yes retB_noPanic rfl rfl rfl rfl ⟨_, rfl, (by simp)⟩ rfl (ev_fieldAddr rfl) ?_
        refine RS_q_yes retB_noPanic rfl rfl rfl rfl ⟨_, rfl, (by simp)⟩ rfl (ev_loadN rfl (by repeat' first | exact LdN.blk rfl | assumption | apply LdN.skip | apply LdN.app)) ?_
        refine RS_e (RE_eff_yes rfl rfl rfl ⟨_, rfl, (by simp)⟩ rfl (eff_call rfl (Ctr.pick (by repeat' first | exact Pick.here | apply Pick.skip | apply Pick.app) (cH _))) ?_); rintro _ _ ⟨rfl, rfl⟩; refine ⟨_, fun _ s => s, (by first | ((repeat first | exact fun _ s => s | apply en_keep | apply en_drop | apply en_app) <;> fail) | ((repeat first | exact en_refl | (apply en_blk; focus ((repeat' first | exact Pick.here | apply Pick.skip | apply Pick.app); done); focus rfl) | (apply en_own; focus ((repeat' first | exact Pick.here | apply Pick.skip | apply Pick.app); done); focus rfl) | (apply en_pick; focus ((repeat' first | exact Pick.here | apply Pick.skip | apply Pick.app); done)) | apply en_drop | apply en_app) <;> fail)), ?_⟩
        refine RS_e (RE_eff_yes rfl rfl rfl ⟨_, rfl, (by simp)⟩ rfl (eff_call rfl (sAt_ctr b40 B1 d1 most s.k a.p _ (by repeat' first | exact LdN.blk rfl | assumption | apply LdN.skip | apply LdN.app) (by repeat' first | exact Rc.own (flat_length _) hQ.a.1 | apply Rd.skip) (by omega))) ?_); rintro _ _ ⟨rfl, rfl⟩; refine ⟨_, fun _ s => s, (by first | ((repeat first | exact fun _ s => s | apply en_keep | apply en_drop | apply en_app) <;> fail) | ((repeat first | exact en_refl | (apply en_blk; focus ((repeat' first | exact Pick.here | apply Pick.skip | apply Pick.app); done); focus rfl) | (apply en_own; focus ((repeat' first | exact Pick.here | apply Pick.skip | apply Pick.app); done); focus rfl) | (apply en_pick; focus ((repeat' first | exact Pick.here | apply Pick.skip | apply Pick.app); done)) | apply en_drop | apply en_app) <;> fail)), ?_⟩
        refine RS_m_yes retB_noPanic rfl rfl rfl rfl ⟨_, rfl, (by simp)⟩ rfl (ev_geq rfl rfl) ?_
        refine RS_m_yes retB_noPanic rfl rfl rfl rfl ⟨_, rfl, (by simp)⟩ rfl (ev_neqB rfl rfl) ?_
        refine RS_m retB_noPanic rfl rfl rfl rfl (ev_pick_f rfl (by simp) rfl) ?_
        refine RS_m retB_noPanic rfl rfl rfl rfl (ev_move rfl) ?_
        refine RS_m_yes retB_noPanic rfl rfl rfl rfl ⟨_, rfl, (by simp [hmem])⟩ rfl (ev_move rfl) ?_
        refine RS_m_yes retB_noPanic rfl rfl rfl rfl ⟨_, rfl, (by simp [hmem])⟩ rfl (ev_move rfl) ?_
        (first | refine RS_m_yes retB_noPanic rfl rfl rfl rfl ⟨_, rfl, (by simp [hmem])⟩ rfl (ev_nilCheck rfl) ?_ | refine RS_m_yes retB_noPanic rfl rfl rfl rfl ⟨_, rfl, (by simp [hmem])⟩ rfl (ev_nilCheckF (by simp) rfl) ?_)
        refine RS_m_yes retB_noPanic rfl rfl rfl rfl ⟨_, rfl, (by simp [hmem])⟩ rfl (ev_fieldAddr rfl) ?_
        refine RS_q_yes retB_noPanic rfl rfl rfl rfl ⟨_, rfl, (by simp [hmem])⟩ rfl (ev_load rfl (by repeat' first | exact Ld.blk rfl | assumption | apply Ld.skip | apply Ld.app)) ?_
        refine RS_q_yes retB_noPanic rfl rfl rfl rfl ⟨_, rfl, (by simp [hmem])⟩ rfl (ev_len rfl) ?_
        refine RS_e (RE_eff_yes rfl rfl rfl ⟨_, rfl, (by simp [hmem])⟩ rfl (eff_call rfl (Ctr.pick (by repeat' first | exact Pick.here | apply Pick.skip | apply Pick.app) (cE _))) ?_); rintro _ _ ⟨rfl, rfl⟩; refine ⟨_, fun _ s => s, (by first | ((repeat first | exact fun _ s => s | apply en_keep | apply en_drop | apply en_app) <;> fail) | ((repeat first | exact en_refl | (apply en_blk; focus ((repeat' first | exact Pick.here | apply Pick.skip | apply Pick.app); done); focus rfl) | (apply en_own; focus ((repeat' first | exact Pick.here | apply Pick.skip | apply Pick.app); done); focus rfl) | (apply en_pick; focus ((repeat' first | exact Pick.here | apply Pick.skip | apply Pick.app); done)) | apply en_drop | apply en_app) <;> fail)), ?_⟩
        refine RS_m_yes retB_noPanic rfl rfl rfl rfl ⟨_, rfl, (by simp [hmem])⟩ rfl (ev_neq rfl rfl) ?_
        refine RS_m retB_noPanic rfl rfl rfl rfl (ev_pick_f rfl (by simp [hmem]) rfl) ?_
        refine RS_m retB_noPanic rfl rfl rfl rfl (ev_move rfl) ?_
        refine RS_m_yes retB_noPanic rfl rfl rfl rfl ⟨_, rfl, (by simp)⟩ rfl (ev_move rfl) ?_
        refine RS_m_yes retB_noPanic rfl rfl rfl rfl ⟨_, rfl, (by simp)⟩ rfl (ev_move rfl) ?_
        (first | refine RS_m_yes retB_noPanic rfl rfl rfl rfl ⟨_, rfl, (by simp)⟩ rfl (ev_nilCheck rfl) ?_ | refine RS_m_yes retB_noPanic rfl rfl rfl rfl ⟨_, rfl, (by simp)⟩ rfl (ev_nilCheckF (by simp) rfl) ?_)
        refine RS_m_yes retB_noPanic rfl rfl rfl rfl ⟨_, rfl, (by simp)⟩ rfl (ev_fieldAddr rfl) ?_
        refine RS_q_yes retB_noPanic rfl rfl rfl rfl ⟨_, rfl, (by simp)⟩ rfl (ev_load rfl (by repeat' first | exact Ld.blk rfl | assumption | apply Ld.skip | apply Ld.app)) ?_
        refine RS_e (RE_eff_yes rfl rfl rfl ⟨_, rfl, (by simp)⟩ rfl (eff_call rfl (Ctr.pick (by repeat' first | exact Pick.here | apply Pick.skip | apply Pick.app) (cB _))) ?_); rintro _ _ ⟨rfl, rfl⟩; refine ⟨_, fun _ s => s, (by first | ((repeat first | exact fun _ s => s | apply en_keep | apply en_drop | apply en_app) <;> fail) | ((repeat first | exact en_refl | (apply en_blk; focus ((repeat' first | exact Pick.here | apply Pick.skip | apply Pick.app); done); focus rfl) | (apply en_own; focus ((repeat' first | exact Pick.here | apply Pick.skip | apply Pick.app); done); focus rfl) | (apply en_pick; focus ((repeat' first | exact Pick.here | apply Pick.skip | apply Pick.app); done)) | apply en_drop | apply en_app) <;> fail)), ?_⟩
        refine RS_m_yes retB_noPanic rfl rfl rfl rfl ⟨_, rfl, (by simp)⟩ rfl (ev_neq rfl rfl) ?_
        refine RS_m retB_noPanic rfl rfl rfl rfl (ev_pick_f rfl (by simp) rfl) ?_
        refine RS_nil ?_
        (repeat first | refine G_seq ?_ | refine G_skip ?_ | refine G_endblk ?_ | refine G_block ?_ | refine G_exit rfl ?_)
        refine G_cond_f rfl (by simp) ?_
        (repeat first | refine G_seq ?_ | refine G_skip ?_ | refine G_endblk ?_ | refine G_block ?_ | refine G_exit rfl ?_)
        have hq : ∀ M, QIn (blk b40 33 (qsC B1 s.k.length d1 most B2 s.R.length d2 s.b) :: own 51 3 B1 s.k.length d1 (flat s.k) :: own 3 1 B2 s.R.length d2 (flat s.R) :: M) b40 B1 d1 s.k most B2 d2 s.R s.b := fun M => hQ.in_ M
        have cQ := fun L h => sOverlap_ctr b40 B1 d1 s.k most B2 d2 s.R s.b u v L h (by omega)
        have cQ2 := fun L h => sOverlap_ctr b40 B1 d1 s.k most B2 d2 s.R s.b u u L h (by omega)
        generalize overK s.k u v = q3 at *
        generalize overK s.k u u = q2 at *
        refine G_heap (L' := segH t most s :: blk b40 33 (qsC B1 s.k.length d1 most B2 s.R.length d2 s.b) :: own 51 3 B1 s.k.length d1 (flat s.k) :: own 3 1 B2 s.R.length d2 (flat s.R) :: blk b5 47 [.int .i64 u, .int .i64 v] :: F :: L) (by (repeat first | exact en_refl | (apply en_blk; focus ((repeat' first | exact Pick.here | apply Pick.skip | apply Pick.app); done); focus rfl) | (apply en_own; focus ((repeat' first | exact Pick.here | apply Pick.skip | apply Pick.app); done); focus rfl) | (apply en_pick; focus ((repeat' first | exact Pick.here | apply Pick.skip | apply Pick.app); done)) | apply en_drop | apply en_app) <;> fail) ?_
        (repeat first | refine G_seq ?_ | refine G_skip ?_ | refine G_endblk ?_ | refine G_block ?_ | refine G_exit rfl ?_)
        refine G_draw (.q 0 (.q 1 (.q 2 (.q 3 (.q 4 (.q 6 (.q 7 (.q 8 (.q 9 (.q 10 (.q 11 (.q 12 (.e 5 (.e 13 (.e 14 (.q 15 (.q 16 (.q 17 (.q 18 (.q 19 (.q 21 (.q 22 (.q 23 (.q 24 (.q 25 (.q 26 (.q 27 (.e 20 (.e 28 (.e 29 (.q 30 (.q 31 (.q 32 (.q 33 (.e 34 (.q 35 (.q 36 .nil))))))))))))))))))))))))))))))))))))) (by kernel_rfl) (by kernel_rfl) ?_
        refine RS_m retB_noPanic rfl rfl rfl rfl (ev_move rfl) ?_
        refine RS_m retB_noPanic rfl rfl rfl rfl (ev_indexAddrA rfl rfl (by first | omega | (simp; done) | (simp; omega)) (by first | omega | (simp; done) | (simp; omega))) ?_
        refine RS_q retB_noPanic rfl rfl rfl rfl (ev_load rfl (by repeat' first | exact Ld.blk rfl | assumption | apply Ld.skip | apply Ld.app)) ?_
        refine RS_m retB_noPanic rfl rfl rfl rfl (ev_indexAddrA rfl rfl (by first | omega | (simp; done) | (simp; omega)) (by first | omega | (simp; done) | (simp; omega))) ?_
        refine RS_q retB_noPanic rfl rfl rfl rfl (ev_load rfl (by repeat' first | exact Ld.blk rfl | assumption | apply Ld.skip | apply Ld.app)) ?_
        refine RS_m retB_noPanic rfl rfl rfl rfl (ev_move rfl) ?_
        (first | refine RS_m retB_noPanic rfl rfl rfl rfl (ev_nilCheck rfl) ?_ | refine RS_m retB_noPanic rfl rfl rfl rfl (ev_nilCheckF (by simp) rfl) ?_)
        refine RS_m retB_noPanic rfl rfl rfl rfl (ev_fieldAddr rfl) ?_
        refine RS_m retB_noPanic rfl rfl rfl rfl (ev_indexAddrA rfl rfl (by first | omega | (simp; done) | (simp; omega)) (by first | omega | (simp; done) | (simp; omega))) ?_
        refine RS_q retB_noPanic rfl rfl rfl rfl (ev_load rfl (by repeat' first | exact Ld.blk rfl | assumption | apply Ld.skip | apply Ld.app)) ?_
        refine RS_m retB_noPanic rfl rfl rfl rfl (ev_indexAddrA rfl rfl (by first | omega | (simp; done) | (simp; omega)) (by first | omega | (simp; done) | (simp; omega))) ?_
        refine RS_q retB_noPanic rfl rfl rfl rfl (ev_load rfl (by repeat' first | exact Ld.blk rfl | assumption | apply Ld.skip | apply Ld.app)) ?_
        refine RS_e (RE_eff rfl rfl rfl (eff_call rfl (Ctr.pick (by repeat' first | exact Pick.here | apply Pick.skip | apply Pick.app) (cO _))) ?_); rintro _ _ ⟨A30, c30, rfl, hA30, rfl⟩; refine ⟨_, (by first | ((repeat first | exact fun _ s => s | apply en_keep | apply en_drop | apply en_app) <;> fail) | ((repeat first | exact en_refl | (apply en_blk; focus ((repeat' first | exact Pick.here | apply Pick.skip | apply Pick.app); done); focus rfl) | (apply en_own; focus ((repeat' first | exact Pick.here | apply Pick.skip | apply Pick.app); done); focus rfl) | (apply en_pick; focus ((repeat' first | exact Pick.here | apply Pick.skip | apply Pick.app); done)) | apply en_drop | apply en_app) <;> fail)), fun _ s => s, ?_⟩
        refine RS_e (RE_eff rfl rfl rfl (eff_call rfl (cQ _ (by repeat' first | exact hq _ | apply QIn.skip))) ?_); rintro _ _ ⟨Y39, A39, c39, rfl, i1, i2, i3, rfl⟩; refine ⟨_, (by first | ((repeat first | exact fun _ s => s | apply en_keep | apply en_drop | apply en_app) <;> fail) | ((repeat first | exact en_refl | (apply en_blk; focus ((repeat' first | exact Pick.here | apply Pick.skip | apply Pick.app); done); focus rfl) | (apply en_own; focus ((repeat' first | exact Pick.here | apply Pick.skip | apply Pick.app); done); focus rfl) | (apply en_pick; focus ((repeat' first | exact Pick.here | apply Pick.skip | apply Pick.app); done)) | apply en_drop | apply en_app) <;> fail)), fun _ s => s, ?_⟩
        refine RS_e (RE_eff rfl rfl rfl (eff_call rfl (Same_ctr A30 A39 _ _ c30 c39 _ _ _ (Rd.skip (Rc.own (flat_length _) hA30)) (i3 _) (by omega))) ?_); rintro _ _ ⟨rfl, rfl⟩; refine ⟨_, (by first | ((repeat first | exact fun _ s => s | apply en_keep | apply en_drop | apply en_app) <;> fail) | ((repeat first | exact en_refl | (apply en_blk; focus ((repeat' first | exact Pick.here | apply Pick.skip | apply Pick.app); done); focus rfl) | (apply en_own; focus ((repeat' first | exact Pick.here | apply Pick.skip | apply Pick.app); done); focus rfl) | (apply en_pick; focus ((repeat' first | exact Pick.here | apply Pick.skip | apply Pick.app); done)) | apply en_drop | apply en_app) <;> fail)), fun _ s => s, ?_⟩
        refine RS_m retB_noPanic rfl rfl rfl rfl (ev_not rfl) ?_
        refine RS_m retB_noPanic rfl rfl rfl rfl (ev_move rfl) ?_
        refine RS_m_yes retB_noPanic rfl rfl rfl rfl ⟨_, rfl, (by simp)⟩ rfl (ev_move rfl) ?_
        refine RS_m_yes retB_noPanic rfl rfl rfl rfl ⟨_, rfl, (by simp)⟩ rfl (ev_indexAddrA rfl rfl (by first | omega | (simp; done) | (simp; omega)) (by first | omega | (simp; done) | (simp; omega))) ?_
        refine RS_q_yes retB_noPanic rfl rfl rfl rfl ⟨_, rfl, (by simp)⟩ rfl (ev_load rfl (by repeat' first | exact Ld.blk rfl | assumption | apply Ld.skip | apply Ld.app)) ?_
        refine RS_m_yes retB_noPanic rfl rfl rfl rfl ⟨_, rfl, (by simp)⟩ rfl (ev_move rfl) ?_
        (first | refine RS_m_yes retB_noPanic rfl rfl rfl rfl ⟨_, rfl, (by simp)⟩ rfl (ev_nilCheck rfl) ?_ | refine RS_m_yes retB_noPanic rfl rfl rfl rfl ⟨_, rfl, (by simp)⟩ rfl (ev_nilCheckF (by simp) rfl) ?_)
        refine RS_m_yes retB_noPanic rfl rfl rfl rfl ⟨_, rfl, (by simp)⟩ rfl (ev_fieldAddr rfl) ?_
        refine RS_m_yes retB_noPanic rfl rfl rfl rfl ⟨_, rfl, (by simp)⟩ rfl (ev_indexAddrA rfl rfl (by first | omega | (simp; done) | (simp; omega)) (by first | omega | (simp; done) | (simp; omega))) ?_
        refine RS_q_yes retB_noPanic rfl rfl rfl rfl ⟨_, rfl, (by simp)⟩ rfl (ev_load rfl (by repeat' first | exact Ld.blk rfl | assumption | apply Ld.skip | apply Ld.app)) ?_
        refine RS_m_yes retB_noPanic rfl rfl rfl rfl ⟨_, rfl, (by simp)⟩ rfl (ev_indexAddrA rfl rfl (by first | omega | (simp; done) | (simp; omega)) (by first | omega | (simp; done) | (simp; omega))) ?_
        refine RS_q_yes retB_noPanic rfl rfl rfl rfl ⟨_, rfl, (by simp)⟩ rfl (ev_load rfl (by repeat' first | exact Ld.blk rfl | assumption | apply Ld.skip | apply Ld.app)) ?_
        refine RS_e (RE_eff_yes rfl rfl rfl ⟨_, rfl, (by simp)⟩ rfl (eff_call rfl (Ctr.pick (by repeat' first | exact Pick.here | apply Pick.skip | apply Pick.app) (cS _))) ?_); rintro _ _ ⟨A31, c31, rfl, hA31, rfl⟩; refine ⟨_, (by first | ((repeat first | exact fun _ s => s | apply en_keep | apply en_drop | apply en_app) <;> fail) | ((repeat first | exact en_refl | (apply en_blk; focus ((repeat' first | exact Pick.here | apply Pick.skip | apply Pick.app); done); focus rfl) | (apply en_own; focus ((repeat' first | exact Pick.here | apply Pick.skip | apply Pick.app); done); focus rfl) | (apply en_pick; focus ((repeat' first | exact Pick.here | apply Pick.skip | apply Pick.app); done)) | apply en_drop | apply en_app) <;> fail)), fun _ s => s, ?_⟩
        refine RS_e (RE_eff_yes rfl rfl rfl ⟨_, rfl, (by simp)⟩ rfl (eff_call rfl (cQ2 _ (by repeat' first | exact hq _ | apply QIn.skip))) ?_); rintro _ _ ⟨Y40, A40, c40, rfl, j1, j2, j3, rfl⟩; refine ⟨_, (by first | ((repeat first | exact fun _ s => s | apply en_keep | apply en_drop | apply en_app) <;> fail) | ((repeat first | exact en_refl | (apply en_blk; focus ((repeat' first | exact Pick.here | apply Pick.skip | apply Pick.app); done); focus rfl) | (apply en_own; focus ((repeat' first | exact Pick.here | apply Pick.skip | apply Pick.app); done); focus rfl) | (apply en_pick; focus ((repeat' first | exact Pick.here | apply Pick.skip | apply Pick.app); done)) | apply en_drop | apply en_app) <;> fail)), fun _ s => s, ?_⟩
        refine RS_e (RE_eff_yes rfl rfl rfl ⟨_, rfl, (by simp)⟩ rfl (eff_call rfl (Same_ctr A31 A40 _ _ c31 c40 _ _ _ (Rd.skip (Rc.own (flat_length _) hA31)) (j3 _) (by omega))) ?_); rintro _ _ ⟨rfl, rfl⟩; refine ⟨_, (by first | ((repeat first | exact fun _ s => s | apply en_keep | apply en_drop | apply en_app) <;> fail) | ((repeat first | exact en_refl | (apply en_blk; focus ((repeat' first | exact Pick.here | apply Pick.skip | apply Pick.app); done); focus rfl) | (apply en_own; focus ((repeat' first | exact Pick.here | apply Pick.skip | apply Pick.app); done); focus rfl) | (apply en_pick; focus ((repeat' first | exact Pick.here | apply Pick.skip | apply Pick.app); done)) | apply en_drop | apply en_app) <;> fail)), fun _ s => s, ?_⟩
        refine RS_m_yes retB_noPanic rfl rfl rfl rfl ⟨_, rfl, (by simp)⟩ rfl (ev_not rfl) ?_
        refine RS_m retB_noPanic rfl rfl rfl rfl (ev_pick_f rfl (by simp) rfl) ?_
        refine RS_m retB_noPanic rfl rfl rfl rfl (ev_move rfl) ?_
        refine RS_m_yes retB_noPanic rfl rfl rfl rfl ⟨_, rfl, (by simp)⟩ rfl (ev_move rfl) ?_
        refine RS_e (RE_eff_yes rfl rfl rfl ⟨_, rfl, (by simp)⟩ rfl (eff_call rfl (Ctr.pick (by repeat' first | exact Pick.here | apply Pick.skip | apply Pick.app) (cC _))) ?_); rintro _ _ ⟨rfl, rfl⟩; refine ⟨_, (by first | ((repeat first | exact fun _ s => s | apply en_keep | apply en_drop | apply en_app) <;> fail) | ((repeat first | exact en_refl | (apply en_blk; focus ((repeat' first | exact Pick.here | apply Pick.skip | apply Pick.app); done); focus rfl) | (apply en_own; focus ((repeat' first | exact Pick.here | apply Pick.skip | apply Pick.app); done); focus rfl) | (apply en_pick; focus ((repeat' first | exact Pick.here | apply Pick.skip | apply Pick.app); done)) | apply en_drop | apply en_app) <;> fail)), fun _ s => s, ?_⟩
        refine RS_m_yes retB_noPanic rfl rfl rfl rfl ⟨_, rfl, (by simp)⟩ rfl (ev_not rfl) ?_
        refine RS_m retB_noPanic rfl rfl rfl rfl (ev_pick_f rfl (by simp) rfl) ?_
        refine RS_nil ?_
        all_goals
          (repeat first | refine G_seq ?_ | refine G_skip ?_ | refine G_endblk ?_ | refine G_block ?_ | refine G_exit rfl ?_)
          refine G_cond_f rfl rfl ?_
          (repeat first | refine G_seq ?_ | refine G_skip ?_ | refine G_endblk ?_ | refine G_block ?_ | refine G_exit rfl ?_)
          (repeat first | refine G_seq ?_ | refine G_skip ?_ | refine G_endblk ?_ | refine G_block ?_ | refine G_exit rfl ?_)
          refine G_region ?_
          refine GO_q rfl rfl (ev_move rfl) ?_
          (first | refine GO_q rfl rfl (ev_addN (q := 1) rfl rfl (by first | omega | (simp; done) | (simp; omega))) ?_ | refine GO_q rfl rfl (ev_add rfl rfl (by first | omega | (simp; done) | (simp; omega))) ?_)
          refine GO_q rfl rfl (ev_assign rfl) ?_
          refine GO_nil ?_
          (repeat first | refine G_seq ?_ | refine G_skip ?_ | refine G_endblk ?_ | refine G_block ?_ | refine G_exit rfl ?_)
          refine G_round (k + 1) ⟨by omega, by omega, by rw [hs']; omega, by rw [hs']; omega, by rw [hs']; omega⟩ (by omega) ⟨rfl, rfl, rfl, rfl, rfl, trivial⟩ ?_
          rw [hs']
          exact (by (repeat first | exact en_refl | apply en_setQ hQ | (apply en_blk; focus ((repeat' first | exact Pick.here | apply Pick.skip | apply Pick.app); done); focus rfl) | (apply en_own; focus ((repeat' first | exact Pick.here | apply Pick.skip | apply Pick.app); done); focus rfl) | (apply en_pick; focus ((repeat' first | exact Pick.here | apply Pick.skip | apply Pick.app); done)) | apply en_drop | apply en_app) <;> fail)
      · skip
        (repeat first | refine G_seq ?_ | refine G_skip ?_ | refine G_endblk ?_ | refine G_block ?_ | refine G_exit rfl ?_)
        refine G_region ?_
        refine GO_q rfl rfl (ev_move rfl) ?_
        refine GO_q rfl rfl (ev_move rfl) ?_
        refine GO_q rfl rfl (ev_len rfl) ?_
        (first | refine GO_q rfl rfl (ev_lssN rfl rfl) ?_ | refine GO_q rfl rfl (ev_lss rfl rfl) ?_)
        refine GO_q rfl rfl (ev_move rfl) ?_
        refine GO_yes rfl rfl rfl (decide_eq_true (by omega)) ?_
        refine GO_q rfl rfl (ev_move rfl) ?_
        refine GO_yes rfl rfl rfl (decide_eq_true (by omega)) ?_
        (first | refine GO_q rfl rfl (ev_lssN (q := 50) rfl rfl) ?_ | refine GO_q rfl rfl (ev_lss rfl rfl) ?_)
        refine GO_q rfl rfl (ev_pick_t rfl (decide_eq_true (by omega)) rfl) ?_
        refine GO_nil ?_
        (repeat first | refine G_seq ?_ | refine G_skip ?_ | refine G_endblk ?_ | refine G_block ?_ | refine G_exit rfl ?_)
        refine G_cond_f rfl (decide_eq_false (by omega)) ?_
        (repeat first | refine G_seq ?_ | refine G_skip ?_ | refine G_endblk ?_ | refine G_block ?_ | refine G_exit rfl ?_)
        refine G_region ?_
        refine GO_eff rfl rfl (eff_call rfl (lives22_ctr _)) ?_; rintro _ _ ⟨rfl, X, rfl⟩
        refine GO_q rfl rfl (ev_assign rfl) ?_
        refine GO_nil ?_
        (repeat first | refine G_seq ?_ | refine G_skip ?_ | refine G_endblk ?_ | refine G_block ?_ | refine G_exit rfl ?_)
        exact G_ret (L' := L) rfl (.tmp rfl .nil) (by (repeat first | exact fun _ s => s | apply en_keep | apply en_drop | apply en_app) <;> fail) ⟨rfl, rfl⟩
    · skip
      (repeat first | refine G_seq ?_ | refine G_skip ?_ | refine G_endblk ?_ | refine G_block ?_ | refine G_exit rfl ?_)
      refine G_region ?_
      refine GO_q rfl rfl (ev_move rfl) ?_
      refine GO_q rfl rfl (ev_move rfl) ?_
      refine GO_q rfl rfl (ev_len rfl) ?_
      (first | refine GO_q rfl rfl (ev_lssN rfl rfl) ?_ | refine GO_q rfl rfl (ev_lss rfl rfl) ?_)
      refine GO_q rfl rfl (ev_move rfl) ?_
      refine GO_no rfl rfl rfl (decide_eq_false (by omega)) ?_
      refine GO_no rfl rfl rfl (decide_eq_false (by omega)) ?_
      refine GO_q rfl rfl (ev_pick_f rfl (decide_eq_false (by omega)) rfl) ?_
      refine GO_nil ?_
      (repeat first | refine G_seq ?_ | refine G_skip ?_ | refine G_endblk ?_ | refine G_block ?_ | refine G_exit rfl ?_)
      refine G_cond_f rfl rfl ?_
      (repeat first | refine G_seq ?_ | refine G_skip ?_ | refine G_endblk ?_ | refine G_block ?_ | refine G_exit rfl ?_)
      refine G_region ?_
      refine GO_eff rfl rfl (eff_call rfl (lives22_ctr _)) ?_; rintro _ _ ⟨rfl, X, rfl⟩
      refine GO_q rfl rfl (ev_assign rfl) ?_
      refine GO_nil ?_
      (repeat first | refine G_seq ?_ | refine G_skip ?_ | refine G_endblk ?_ | refine G_block ?_ | refine G_exit rfl ?_)
      exact G_ret (L' := L) rfl (.tmp rfl .nil) (by (repeat first | exact fun _ s => s | apply en_keep | apply en_drop | apply en_app) <;> fail) ⟨rfl, rfl⟩
theorem segsPlays_walk (most : Int) (A : Option Addr) (n c : Nat) (ns : List Int) (b0 b1 : Int) (w : World) (hc : n ≤ c) (hc2 : c ≤ maxLen) (hb : Ints ns) (h1 : Reads w 5 A n (ints ns)) :
    Calls Tryz.prog 6 #[.int .i64 most, .slice A n c, .agg #[.int .i64 b0, .int .i64 b1]] w fun e w' => e = .returned (.bool true) ∧ Below w.heap.size w w' := by
  obtain ⟨l, hl, hk⟩ := rd_acts h1 hb
  exact law_of_ctr (SegsPlays_ctr most A n c l b0 b1 _ hl (by unfold maxLen at hc2; omega) hk)
end Go.Proofs.YtmgkmammkmlakaaGreat
