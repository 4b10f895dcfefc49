/- The law PstLooks. -/
import Derived.Test.YtalcanejhniepaaPstK
import Derived.Test.YtalcanejhniepaaBrA
namespace Go.Proofs.Ytalcanejhniepaa
attribute [local irreducible] sat
open Go.RowKit
set_option linter.unusedVariables false
set_option linter.unusedSimpArgs false
set_option maxRecDepth 100000

theorem Rising_own (A : Option Addr) (c : Nat) (l : List Int) (L : List HP) (hA : 0 < l.length → ∃ b, A = some ⟨b, 0, none⟩) (hn : l.length ≤ 100000) :
    Ctr Try.prog 37 #[.slice A l.length c] (own 3 1 A l.length c (flat l) :: L) fun v L' => MadeY (srt l) L v L' :=
  (Ctr.frame L (Rising_ctr A l.length c l [own 3 1 A l.length c (flat l)] (Rc.own (flat_length _) hA) hn) (fun _ s => s.perm (List.perm_append_singleton _ _).symm)).post
    fun v L' hm ⟨L1, ⟨A', c', N, e1, e2, e3, e4, e5⟩, e6⟩ s => by
      subst e4 e6
      rw [rising_srt l l (.refl _)] at e1 e2 e5
      exact ⟨_, ⟨fun h => sat (N ++ [own 3 1 A l.length c (flat l)]) h, A', c', e1, e2, e3, fun L => Rc.of (fun _ h => h) e5, rfl⟩, sat.join (s.perm List.perm_append_comm)⟩
theorem PstLooks_ctr (A : Option Addr) (n c : Nat) (acts : List Ac) (w : Wn) (L : List HP) (hl : Rd L A n acts) (hn : n ≤ 9223372036854775807) (ha : ∀ a ∈ acts, a.at_ ≤ 9223372036854775807) :
    Ctr Try.prog 7 #[.slice A n c, .agg #[.int .i64 w.x1, .int .i64 w.x2, .int .i64 w.y]] L fun v L' => v = .bool true ∧ L' = L := by
  refine Ctr_of (fn := Try.f7) (n := 72) Try.func7 rfl rfl rfl ?_
  intro g F
  (repeat first | refine G_seq ?_ | refine G_skip ?_ | refine G_endblk ?_ | refine G_block ?_ | refine G_exit rfl ?_)
  refine G_region ?_
  refine GO_eff rfl rfl (eff_box rfl) ?_; rintro _ _ ⟨b3, rfl, rfl⟩
  refine GO_q rfl rfl (ev_assign rfl) ?_
  refine GO_nil ?_
  (repeat first | refine G_seq ?_ | refine G_skip ?_ | refine G_endblk ?_ | refine G_block ?_ | refine G_exit rfl ?_)
  refine G_region ?_
  refine GO_q rfl rfl (ev_move rfl) ?_
  refine GO_eff rfl rfl (eff_call rfl (Ctr.frame (blk b3 45 [.int .i64 w.x1, .int .i64 w.x2, .int .i64 w.y] :: F :: []) (Made_ctr A n c acts L hl hn ha) (fun _ s => s))) ?_; rintro _ _ ⟨_, ⟨t, s, l, rfl, ⟨hl1, hl2⟩, rfl⟩, rfl⟩
  refine GO_q rfl rfl (ev_move rfl) ?_
  refine GO_q rfl rfl (ev_extract rfl rfl) ?_
  refine GO_q rfl rfl (ev_extract rfl rfl) ?_
  refine GO_q rfl rfl (ev_extract rfl rfl) ?_
  refine GO_q rfl rfl (ev_assign rfl) ?_
  refine GO_q rfl rfl (ev_assign rfl) ?_
  refine GO_q rfl rfl (ev_assign rfl) ?_
  refine GO_nil ?_
  (repeat first | refine G_seq ?_ | refine G_skip ?_ | refine G_endblk ?_ | refine G_block ?_ | refine G_exit rfl ?_)
  refine G_region ?_
  refine GO_q rfl rfl (ev_move rfl) ?_
  refine GO_q rfl rfl (ev_not rfl) ?_
  refine GO_nil ?_
  (repeat first | refine G_seq ?_ | refine G_skip ?_ | refine G_endblk ?_ | refine G_block ?_ | refine G_exit rfl ?_)
  refine G_cond_f rfl rfl ?_
  refine G_heap (L' := setS s 60 l :: treeS t 60 l :: blk b3 45 [.int .i64 w.x1, .int .i64 w.x2, .int .i64 w.y] :: F :: L) (by (repeat first | exact en_refl | (apply en_blk; focus ((repeat' first | exact Pick.here | apply Pick.skip | apply Pick.app); done); focus rfl) | (apply en_own; focus ((repeat' first | exact Pick.here | apply Pick.skip | apply Pick.app); done); focus rfl) | (apply en_pick; focus ((repeat' first | exact Pick.here | apply Pick.skip | apply Pick.app); done)) | apply en_drop | apply en_app) <;> fail) ?_
  refine G_open (ι := Option Addr × Nat) (F := fun x => 0 < l.length → ∃ b, x.1 = some ⟨b, 0, none⟩) (N := fun x => [blk s 34 [.slice x.1 l.length x.2, .int .i64 60], own 39 3 x.1 l.length x.2 (flat l)]) (fun _ h => h) fun x hx => ?_
  obtain ⟨B, d⟩ := x
  dsimp only at hx
  refine G_heap (L' := treeS t 60 l :: blk s 34 [.slice B l.length d, .int .i64 60] :: own 39 3 B l.length d (flat l) :: blk b3 45 [.int .i64 w.x1, .int .i64 w.x2, .int .i64 w.y] :: F :: L) (by show ∀ h, sat (blk s _ _ :: own _ _ _ _ _ _ :: _) h → _; exact (by (repeat first | exact en_refl | (apply en_blk; focus ((repeat' first | exact Pick.here | apply Pick.skip | apply Pick.app); done); focus rfl) | (apply en_own; focus ((repeat' first | exact Pick.here | apply Pick.skip | apply Pick.app); done); focus rfl) | (apply en_pick; focus ((repeat' first | exact Pick.here | apply Pick.skip | apply Pick.app); done)) | apply en_drop | apply en_app) <;> fail)) ?_
  refine G_open (ι := PA) (F := fun x => x.t.Of l) (N := fun x => [blk t 91 (treeC x 60), paH x]) (fun _ h => h) fun x o => ?_
  refine G_heap (L' := blk t 91 (treeC x 60) :: paH x :: blk s 34 [.slice B l.length d, .int .i64 60] :: own 39 3 B l.length d (flat l) :: blk b3 45 [.int .i64 w.x1, .int .i64 w.x2, .int .i64 w.y] :: F :: L) (fun _ s => s) ?_
  have hb : ∀ L', LdN (blk s 34 [.slice B l.length d, .int .i64 60] :: L') s 0 2 [.slice B l.length d, .int .i64 60] := fun L' => LdN.blk rfl
  have hr : ∀ L', Rd (own 39 3 B l.length d (flat l) :: L') B l.length l := fun L' => Rc.own (flat_length l) hx
  have ht : ∀ L', LdN (blk t 91 (treeC x 60) :: L') t 0 2 (treeC x 60) := fun L' => LdN.blk rfl
  have hp : ∀ L', PIn (paH x :: L') x := fun L' => paH_in x L'
  have hsz := o.size
  have hdl := x.t.depth_le
  have hsl := x.seen_len w
  by_cases h0 : l.length = 0
  · have e0 : x = .nil := by
      cases x with
      | nil => rfl
      | node b p s lo hi => simp only [PA.t, PT.size] at hsz; omega
    subst e0
    (repeat first | refine G_seq ?_ | refine G_skip ?_ | refine G_endblk ?_ | refine G_block ?_ | refine G_exit rfl ?_)
    refine G_region ?_
    refine GO_q rfl rfl (ev_move rfl) ?_
    (first | refine GO_q rfl rfl (ev_nilCheck rfl) ?_ | refine GO_q rfl rfl (ev_nilCheckF (by simp) rfl) ?_)
    refine GO_q rfl rfl (ev_fieldAddr rfl) ?_
    refine GO_q rfl rfl (ev_load rfl (by repeat' first | exact Ld.blk rfl | assumption | apply Ld.skip | apply Ld.app)) ?_
    refine GO_q rfl rfl (ev_len rfl) ?_
    refine GO_q rfl rfl (ev_eql rfl rfl) ?_
    refine GO_nil ?_
    (repeat first | refine G_seq ?_ | refine G_skip ?_ | refine G_endblk ?_ | refine G_block ?_ | refine G_exit rfl ?_)
    refine G_cond_t rfl (decide_eq_true (by omega)) ?_
    (repeat first | refine G_seq ?_ | refine G_skip ?_ | refine G_endblk ?_ | refine G_block ?_ | refine G_exit rfl ?_)
    refine G_region ?_
    refine GO_q rfl rfl (ev_move rfl) ?_
    refine GO_eff rfl rfl (eff_call rfl (Root_ctr t .nil 60 _ (by repeat' first | exact ht _ | apply LdN.skip))) ?_; rintro _ _ ⟨rfl, rfl⟩
    (first | refine GO_q rfl rfl (ev_eqlNil rfl rfl) ?_ | refine GO_q rfl rfl (ev_eqlPtr rfl rfl) ?_)
    refine GO_q rfl rfl (ev_move rfl) ?_
    refine GO_yes rfl rfl rfl rfl ?_
    refine GO_eff rfl rfl (eff_call rfl (lives_ctr _)) ?_; rintro _ _ ⟨rfl, X, rfl⟩
    refine GO_q rfl rfl (ev_pick_t rfl rfl rfl) ?_
    refine GO_q rfl rfl (ev_assign rfl) ?_
    refine GO_nil ?_
    (repeat first | refine G_seq ?_ | refine G_skip ?_ | refine G_endblk ?_ | refine G_block ?_ | refine G_exit rfl ?_)
    exact G_ret (L' := L) rfl (.tmp rfl .nil) (by (repeat first | exact fun _ s => s | apply en_keep | apply en_drop | apply en_app) <;> fail) ⟨rfl, rfl⟩
  · have hnn : x.isN = false := by
      cases x with
      | nil => simp only [PA.t, PT.size] at hsz; omega
      | node b p s lo hi => rfl
    have hcs := PA.cnt_size w x hnn
    have L1 := fun A c L' h => RLooks_ctr x.t.size x w 1 A c [] L' rfl hnn h o.ok (by omega) (by simp; omega) (by omega) (fun h => absurd h (Nat.lt_irrefl 0))
    rw [List.nil_append] at L1
    have e8 : srt (x.seen w) = srt (hits (fun p => w.sees p.x p.y) l) := srt_congr (winIds_of o)
    (repeat first | refine G_seq ?_ | refine G_skip ?_ | refine G_endblk ?_ | refine G_block ?_ | refine G_exit rfl ?_)
    refine G_region ?_
    refine GO_q rfl rfl (ev_move rfl) ?_
    (first | refine GO_q rfl rfl (ev_nilCheck rfl) ?_ | refine GO_q rfl rfl (ev_nilCheckF (by simp) rfl) ?_)
    refine GO_q rfl rfl (ev_fieldAddr rfl) ?_
    refine GO_q rfl rfl (ev_load rfl (by repeat' first | exact Ld.blk rfl | assumption | apply Ld.skip | apply Ld.app)) ?_
    refine GO_q rfl rfl (ev_len rfl) ?_
    refine GO_q rfl rfl (ev_eql rfl rfl) ?_
    refine GO_nil ?_
    (repeat first | refine G_seq ?_ | refine G_skip ?_ | refine G_endblk ?_ | refine G_block ?_ | refine G_exit rfl ?_)
    refine G_cond_f rfl (decide_eq_false (by omega)) ?_
    (repeat first | refine G_seq ?_ | refine G_skip ?_ | refine G_endblk ?_ | refine G_block ?_ | refine G_exit rfl ?_)
    refine G_draw (.q 0 (.q 2 (.br 1 (.e 3 (.e 4 (.q 5 (.q 6 (.q 7 (.q 8 (.q 9 (.q 10 (.q 11 .nil))))))))) 3 (.e 1 (.e 4 (.q 5 (.q 6 (.q 7 (.q 8 (.q 9 (.q 10 (.q 11 .nil)))))))))))) (by kernel_rfl) (by kernel_rfl) ?_
    refine RS_q retB_noPanic rfl rfl rfl (ev_move rfl) ?_
    refine RS_q retB_noPanic rfl rfl rfl (ev_loadN rfl (by repeat' first | exact LdN.blk rfl | assumption | apply LdN.skip | apply LdN.app)) ?_
    refine RS_br ?x1_0 ?x1_1
    case' x1_1 =>
      refine RE_eff rfl rfl rfl eff_buildSlice0 ?_; rintro _ _ ⟨b35, rfl, rfl⟩; refine ⟨_, fun _ s => s, (by first | ((repeat first | exact fun _ s => s | apply en_keep | apply en_drop | apply en_app) <;> fail) | ((repeat first | exact en_refl | (apply en_blk; focus ((repeat' first | exact Pick.here | apply Pick.skip | apply Pick.app); done); focus rfl) | (apply en_own; focus ((repeat' first | exact Pick.here | apply Pick.skip | apply Pick.app); done); focus rfl) | (apply en_pick; focus ((repeat' first | exact Pick.here | apply Pick.skip | apply Pick.app); done)) | apply en_drop | apply en_app) <;> fail)), ?_⟩
      refine RS_e (RE_eff rfl rfl rfl (eff_call rfl (Root_ctr t x 60 _ (by repeat' first | exact ht _ | apply LdN.skip))) ?_); rintro _ _ ⟨rfl, rfl⟩; refine ⟨_, fun _ s => s, (by first | ((repeat first | exact fun _ s => s | apply en_keep | apply en_drop | apply en_app) <;> fail) | ((repeat first | exact en_refl | (apply en_blk; focus ((repeat' first | exact Pick.here | apply Pick.skip | apply Pick.app); done); focus rfl) | (apply en_own; focus ((repeat' first | exact Pick.here | apply Pick.skip | apply Pick.app); done); focus rfl) | (apply en_pick; focus ((repeat' first | exact Pick.here | apply Pick.skip | apply Pick.app); done)) | apply en_drop | apply en_app) <;> fail)), ?_⟩
      refine RS_e (RE_cmp (by kernel_rfl) rfl rfl rfl (eff_call rfl (Ctr.pick (by repeat' first | exact Pick.here | apply Pick.skip | apply Pick.app) (L1 (some ⟨b35, 0, none⟩) 0 _ (by repeat' first | exact hp _ | apply PIn.skip)))) ?_); rintro _ _ ⟨A36, c36, rfl, hA36, rfl⟩
      refine RS_q retB_noPanic rfl rfl rfl (ev_move rfl) ?_
      refine RS_q retB_noPanic rfl rfl rfl (ev_extract rfl rfl) ?_
      refine RS_q retB_noPanic rfl rfl rfl (ev_extract rfl rfl) ?_
      refine RS_q retB_noPanic rfl rfl rfl (ev_extract rfl rfl) ?_
      refine RS_q retB_noPanic rfl rfl rfl (ev_assign rfl) ?_
      refine RS_q retB_noPanic rfl rfl rfl (ev_assign rfl) ?_
      refine RS_q retB_noPanic rfl rfl rfl (ev_assign rfl) ?_
      refine RS_nil ?_
    case' x1_0 =>
      refine RE_eff rfl rfl rfl (eff_call rfl (Root_ctr t x 60 _ (by repeat' first | exact ht _ | apply LdN.skip))) ?_; rintro _ _ ⟨rfl, rfl⟩; refine ⟨_, fun _ s => s, (by first | ((repeat first | exact fun _ s => s | apply en_keep | apply en_drop | apply en_app) <;> fail) | ((repeat first | exact en_refl | (apply en_blk; focus ((repeat' first | exact Pick.here | apply Pick.skip | apply Pick.app); done); focus rfl) | (apply en_own; focus ((repeat' first | exact Pick.here | apply Pick.skip | apply Pick.app); done); focus rfl) | (apply en_pick; focus ((repeat' first | exact Pick.here | apply Pick.skip | apply Pick.app); done)) | apply en_drop | apply en_app) <;> fail)), ?_⟩
      refine RS_e (RE_eff rfl rfl rfl eff_buildSlice0 ?_); rintro _ _ ⟨b35, rfl, rfl⟩; refine ⟨_, fun _ s => s, (by first | ((repeat first | exact fun _ s => s | apply en_keep | apply en_drop | apply en_app) <;> fail) | ((repeat first | exact en_refl | (apply en_blk; focus ((repeat' first | exact Pick.here | apply Pick.skip | apply Pick.app); done); focus rfl) | (apply en_own; focus ((repeat' first | exact Pick.here | apply Pick.skip | apply Pick.app); done); focus rfl) | (apply en_pick; focus ((repeat' first | exact Pick.here | apply Pick.skip | apply Pick.app); done)) | apply en_drop | apply en_app) <;> fail)), ?_⟩
      refine RS_e (RE_cmp (by kernel_rfl) rfl rfl rfl (eff_call rfl (Ctr.pick (by repeat' first | exact Pick.here | apply Pick.skip | apply Pick.app) (L1 (some ⟨b35, 0, none⟩) 0 _ (by repeat' first | exact hp _ | apply PIn.skip)))) ?_); rintro _ _ ⟨A36, c36, rfl, hA36, rfl⟩
      refine RS_q retB_noPanic rfl rfl rfl (ev_move rfl) ?_
      refine RS_q retB_noPanic rfl rfl rfl (ev_extract rfl rfl) ?_
      refine RS_q retB_noPanic rfl rfl rfl (ev_extract rfl rfl) ?_
      refine RS_q retB_noPanic rfl rfl rfl (ev_extract rfl rfl) ?_
      refine RS_q retB_noPanic rfl rfl rfl (ev_assign rfl) ?_
      refine RS_q retB_noPanic rfl rfl rfl (ev_assign rfl) ?_
      refine RS_q retB_noPanic rfl rfl rfl (ev_assign rfl) ?_
      refine RS_nil ?_
    all_goals
      (repeat first | refine G_seq ?_ | refine G_skip ?_ | refine G_endblk ?_ | refine G_block ?_ | refine G_exit rfl ?_)
      refine G_drawE 0 (.q 0 (.q 1 (.q 2 (.q 3 (.q 4 (.q 5 (.q 6 (.q 7 (.q 8 (.q 9 (.q 10 (.q 11 (.q 14 (.q 15 (.q 16 (.q 17 (.q 18 (.e 12 (.e 13 (.q 19 (.q 20 (.q 21 (.q 22 (.q 24 (.q 25 (.e 23 (.e 26 (.e 27 (.q 28 (.q 29 (.e 30 (.q 31 (.q 32 .nil))))))))))))))))))))))))))))))))) (by kernel_rfl) (by kernel_rfl) ?_
      refine RS_q retB_noPanic rfl rfl rfl (ev_move rfl) ?_
      refine RS_q retB_noPanic rfl rfl rfl (ev_move rfl) ?_
      refine RS_q_yes retB_noPanic rfl rfl rfl ⟨_, rfl, rfl⟩ rfl (ev_move rfl) ?_
      refine RS_q_yes retB_noPanic rfl rfl rfl ⟨_, rfl, rfl⟩ rfl (ev_move rfl) ?_
      (first | refine RS_q_yes retB_noPanic rfl rfl rfl ⟨_, rfl, rfl⟩ rfl (ev_nilCheck rfl) ?_ | refine RS_q_yes retB_noPanic rfl rfl rfl ⟨_, rfl, rfl⟩ rfl (ev_nilCheckF (by simp) rfl) ?_)
      refine RS_q_yes retB_noPanic rfl rfl rfl ⟨_, rfl, rfl⟩ rfl (ev_fieldAddr rfl) ?_
      refine RS_q_yes retB_noPanic rfl rfl rfl ⟨_, rfl, rfl⟩ rfl (ev_load rfl (by repeat' first | exact Ld.blk rfl | assumption | apply Ld.skip | apply Ld.app)) ?_
      refine RS_q_yes retB_noPanic rfl rfl rfl ⟨_, rfl, rfl⟩ rfl (ev_len rfl) ?_
      refine RS_q_yes retB_noPanic rfl rfl rfl ⟨_, rfl, rfl⟩ rfl (ev_leq rfl rfl) ?_
      refine RS_q retB_noPanic rfl rfl rfl (ev_pick_t rfl rfl rfl) ?_
      refine RS_q retB_noPanic rfl rfl rfl (ev_move rfl) ?_
      refine RS_q_yes retB_noPanic rfl rfl rfl ⟨_, rfl, (decide_eq_true (by omega))⟩ rfl (ev_move rfl) ?_
      refine RS_q_yes retB_noPanic rfl rfl rfl ⟨_, rfl, (decide_eq_true (by omega))⟩ rfl (ev_move rfl) ?_
      (first | refine RS_q_yes retB_noPanic rfl rfl rfl ⟨_, rfl, (decide_eq_true (by omega))⟩ rfl (ev_nilCheck rfl) ?_ | refine RS_q_yes retB_noPanic rfl rfl rfl ⟨_, rfl, (decide_eq_true (by omega))⟩ rfl (ev_nilCheckF (by simp) rfl) ?_)
      refine RS_q_yes retB_noPanic rfl rfl rfl ⟨_, rfl, (decide_eq_true (by omega))⟩ rfl (ev_fieldAddr rfl) ?_
      refine RS_q_yes retB_noPanic rfl rfl rfl ⟨_, rfl, (decide_eq_true (by omega))⟩ rfl (ev_load rfl (by repeat' first | exact Ld.blk rfl | assumption | apply Ld.skip | apply Ld.app)) ?_
      refine RS_q_yes retB_noPanic rfl rfl rfl ⟨_, rfl, (decide_eq_true (by omega))⟩ rfl (ev_len rfl) ?_
      refine RS_e (RE_eff_yes rfl rfl rfl ⟨_, rfl, (decide_eq_true (by omega))⟩ rfl (eff_call rfl (Root_ctr t x 60 _ (by repeat' first | exact ht _ | apply LdN.skip))) ?_); rintro _ _ ⟨rfl, rfl⟩; refine ⟨_, (by first | ((repeat first | exact fun _ s => s | apply en_keep | apply en_drop | apply en_app) <;> fail) | ((repeat first | exact en_refl | (apply en_blk; focus ((repeat' first | exact Pick.here | apply Pick.skip | apply Pick.app); done); focus rfl) | (apply en_own; focus ((repeat' first | exact Pick.here | apply Pick.skip | apply Pick.app); done); focus rfl) | (apply en_pick; focus ((repeat' first | exact Pick.here | apply Pick.skip | apply Pick.app); done)) | apply en_drop | apply en_app) <;> fail)), fun _ s => s, ?_⟩
      refine RS_e (RE_eff_yes rfl rfl rfl ⟨_, rfl, (decide_eq_true (by omega))⟩ rfl (eff_call rfl (Size_ctr x _ (by repeat' first | exact hp _ | apply PIn.skip))) ?_); rintro _ _ ⟨rfl, rfl⟩; refine ⟨_, (by first | ((repeat first | exact fun _ s => s | apply en_keep | apply en_drop | apply en_app) <;> fail) | ((repeat first | exact en_refl | (apply en_blk; focus ((repeat' first | exact Pick.here | apply Pick.skip | apply Pick.app); done); focus rfl) | (apply en_own; focus ((repeat' first | exact Pick.here | apply Pick.skip | apply Pick.app); done); focus rfl) | (apply en_pick; focus ((repeat' first | exact Pick.here | apply Pick.skip | apply Pick.app); done)) | apply en_drop | apply en_app) <;> fail)), fun _ s => s, ?_⟩
      refine RS_q_yes retB_noPanic rfl rfl rfl ⟨_, rfl, (decide_eq_true (by omega))⟩ rfl (ev_eql rfl rfl) ?_
      refine RS_q retB_noPanic rfl rfl rfl (ev_pick_t rfl (decide_eq_true (by omega)) rfl) ?_
      refine RS_q retB_noPanic rfl rfl rfl (ev_move rfl) ?_
      refine RS_q_yes retB_noPanic rfl rfl rfl ⟨_, rfl, (decide_eq_true (by omega))⟩ rfl (ev_move rfl) ?_
      refine RS_q_yes retB_noPanic rfl rfl rfl ⟨_, rfl, (decide_eq_true (by omega))⟩ rfl (ev_move rfl) ?_
      refine RS_q_yes retB_noPanic rfl rfl rfl ⟨_, rfl, (decide_eq_true (by omega))⟩ rfl (ev_loadN rfl (by repeat' first | exact LdN.blk rfl | assumption | apply LdN.skip | apply LdN.app)) ?_
      refine RS_e (RE_eff_yes rfl rfl rfl ⟨_, rfl, (decide_eq_true (by omega))⟩ rfl (eff_call rfl (Ctr.pick (by repeat' first | exact Pick.here | apply Pick.skip | apply Pick.app) (Rising_own A36 c36 (x.seen w) _ hA36 (by omega)))) ?_); rintro _ _ ⟨Y, A63, c63, rfl, i1, i2, i3, rfl⟩; refine ⟨_, (by first | ((repeat first | exact fun _ s => s | apply en_keep | apply en_drop | apply en_app) <;> fail) | ((repeat first | exact en_refl | (apply en_blk; focus ((repeat' first | exact Pick.here | apply Pick.skip | apply Pick.app); done); focus rfl) | (apply en_own; focus ((repeat' first | exact Pick.here | apply Pick.skip | apply Pick.app); done); focus rfl) | (apply en_pick; focus ((repeat' first | exact Pick.here | apply Pick.skip | apply Pick.app); done)) | apply en_drop | apply en_app) <;> fail)), fun _ s => s, ?_⟩
      refine RS_e (RE_eff_yes rfl rfl rfl ⟨_, rfl, (decide_eq_true (by omega))⟩ rfl (eff_call rfl ((RWindow_ctr0 s B d 60 w l _ (by repeat' first | exact hb _ | apply LdN.skip) (by repeat' first | exact hr _ | apply Rd.skip) (by omega)).y)) ?_); rintro _ _ ⟨Z, A66, c66, rfl, j1, j2, j3, rfl⟩; refine ⟨_, (by first | ((repeat first | exact fun _ s => s | apply en_keep | apply en_drop | apply en_app) <;> fail) | ((repeat first | exact en_refl | (apply en_blk; focus ((repeat' first | exact Pick.here | apply Pick.skip | apply Pick.app); done); focus rfl) | (apply en_own; focus ((repeat' first | exact Pick.here | apply Pick.skip | apply Pick.app); done); focus rfl) | (apply en_pick; focus ((repeat' first | exact Pick.here | apply Pick.skip | apply Pick.app); done)) | apply en_drop | apply en_app) <;> fail)), fun _ s => s, ?_⟩
      refine RS_e (RE_eff_yes rfl rfl rfl ⟨_, rfl, (decide_eq_true (by omega))⟩ rfl (eff_call rfl (Same_ctr A63 A66 _ _ c63 c66 _ _ _ (by repeat' first | exact i3 _ | apply Rd.skip) (by repeat' first | exact j3 _ | apply Rd.skip) (by unfold maxLen at i2; omega))) ?_); rintro _ _ ⟨rfl, rfl⟩; refine ⟨_, (by first | ((repeat first | exact fun _ s => s | apply en_keep | apply en_drop | apply en_app) <;> fail) | ((repeat first | exact en_refl | (apply en_blk; focus ((repeat' first | exact Pick.here | apply Pick.skip | apply Pick.app); done); focus rfl) | (apply en_own; focus ((repeat' first | exact Pick.here | apply Pick.skip | apply Pick.app); done); focus rfl) | (apply en_pick; focus ((repeat' first | exact Pick.here | apply Pick.skip | apply Pick.app); done)) | apply en_drop | apply en_app) <;> fail)), fun _ s => s, ?_⟩
      refine RS_q retB_noPanic rfl rfl rfl (ev_pick_t rfl (decide_eq_true (by omega)) rfl) ?_
      refine RS_q retB_noPanic rfl rfl rfl (ev_move rfl) ?_
      refine RS_e (RE_eff_yes rfl rfl rfl ⟨_, rfl, (by simp [e8])⟩ rfl (eff_call rfl (lives_ctr _)) ?_); rintro _ _ ⟨rfl, X, rfl⟩; refine ⟨_, (by first | ((repeat first | exact fun _ s => s | apply en_keep | apply en_drop | apply en_app) <;> fail) | ((repeat first | exact en_refl | (apply en_blk; focus ((repeat' first | exact Pick.here | apply Pick.skip | apply Pick.app); done); focus rfl) | (apply en_own; focus ((repeat' first | exact Pick.here | apply Pick.skip | apply Pick.app); done); focus rfl) | (apply en_pick; focus ((repeat' first | exact Pick.here | apply Pick.skip | apply Pick.app); done)) | apply en_drop | apply en_app) <;> fail)), fun _ s => s, ?_⟩
      refine RS_q retB_noPanic rfl rfl rfl (ev_pick_t rfl (by simp [e8]) rfl) ?_
      refine RS_q retB_noPanic rfl rfl rfl (ev_assign rfl) ?_
      refine RS_nil ?_
      (repeat first | refine G_seq ?_ | refine G_skip ?_ | refine G_endblk ?_ | refine G_block ?_ | refine G_exit rfl ?_)
      exact G_ret (L' := L) rfl (.tmp rfl .nil) (by (repeat first | exact fun _ s => s | apply en_keep | apply en_drop | apply en_app) <;> fail) ⟨rfl, rfl⟩
theorem pstLooks_walk (A : Option Addr) (n c : Nat) (ns : List Int) (w0 w1 w2 : Int) (w : World) (hc : n ≤ c) (hc2 : c ≤ maxLen) (hb : Ints ns) (h1 : Reads w 5 A n (ints ns)) :
    Calls Try.prog 7 #[.slice A n c, .agg #[.int .i64 w0, .int .i64 w1, .int .i64 w2]] w fun e w' => e = .returned (.bool true) ∧ Below w.heap.size w w' := by
  obtain ⟨l, hl, hk⟩ := rd_acts h1 hb
  exact law_of_ctr (PstLooks_ctr A n c l ⟨w0, w1, w2⟩ _ hl (by unfold maxLen at hc2; omega) hk)
end Go.Proofs.Ytalcanejhniepaa
