/- A kd tree of one point: reports, check; no tree at all. -/
import Derived.Test.YtjgdhkilnalejaaKd2
namespace Go.Proofs.Ytjgdhkilnalejaa
attribute [local irreducible] sat
open Go.RowKit
set_option linter.unusedVariables false
set_option linter.unusedSimpArgs false
set_option maxRecDepth 100000

@[reducible] def Bx.c (b : Bx) : List Value := [.int .i64 b.x1, .int .i64 b.x2, .int .i64 b.y1, .int .i64 b.y2]
def repΦ (n bb vv : Nat) (p : Pt) (b : Bx) (L M : List HP) : Prop := ∃ a c, M = own 3 1 (some ⟨a, 0, none⟩) 1 c (flat [p.id]) :: blk vv 47 [.slice (some ⟨a, 0, none⟩) 1 c] :: blk bb 32 b.c :: blk n 67 (knC p false none none 1 p.bx) :: L
theorem repΦ4 {n bb vv : Nat} {p : Pt} {b : Bx} {L : List HP} : ∀ M, repΦ n bb vv p b L M → Ld M ⟨n, 0 + 4 + 0 * 1, none⟩ (.pointer none) := by
  rintro M ⟨a, c, rfl⟩
  exact (Ld.blk rfl).skip.skip.skip
theorem repΦ5 {n bb vv : Nat} {p : Pt} {b : Bx} {L : List HP} : ∀ M, repΦ n bb vv p b L M → Ld M ⟨n, 0 + 4 + 1 * 1, none⟩ (.pointer none) := by
  rintro M ⟨a, c, rfl⟩
  exact (Ld.blk rfl).skip.skip.skip
def ptsΦ (n vv : Nat) (p : Pt) (L M : List HP) : Prop := ∃ a c, M = own 27 3 a 1 c (flat [p]) :: blk vv 40 [.slice a 1 c] :: blk n 67 (knC p false none none 1 p.bx) :: L
theorem ptsΦ4 {n vv : Nat} {p : Pt} {L : List HP} : ∀ M, ptsΦ n vv p L M → Ld M ⟨n, 0 + 4 + 0 * 1, none⟩ (.pointer none) := by
  rintro M ⟨a, c, rfl⟩
  exact (Ld.blk rfl).skip.skip
theorem ptsΦ5 {n vv : Nat} {p : Pt} {L : List HP} : ∀ M, ptsΦ n vv p L M → Ld M ⟨n, 0 + 4 + 1 * 1, none⟩ (.pointer none) := by
  rintro M ⟨a, c, rfl⟩
  exact (Ld.blk rfl).skip.skip
theorem krep1_ctr (n bb vv : Nat) (p : Pt) (b : Bx) (L : List HP) (h1 : b.x1 ≤ p.x) (h2 : p.x ≤ b.x2) (h3 : b.y1 ≤ p.y) (h4 : p.y ≤ b.y2) :
    Ctr Try.prog 58 #[.pointer (some ⟨n, 0, none⟩), .pointer (some ⟨bb, 0, none⟩), .pointer (some ⟨vv, 0, none⟩)] (blk vv 47 [.slice none 0 0] :: blk bb 32 b.c :: blk n 67 (knC p false none none 1 p.bx) :: L)
      fun v L' => v = .bool true ∧ repΦ n bb vv p b L L' := by
  have hh : b.has p.x p.y = true := by simp [Bx.has, wthn, h1, h2, h3, h4]
  refine Ctr_of (fn := Try.f58) (n := 38) Try.func58 rfl rfl rfl ?_
  intro g F
  (repeat first | refine G_seq ?_ | refine G_skip ?_ | refine G_endblk ?_ | refine G_block ?_ | refine G_exit rfl ?_)
  refine G_region ?_
  refine GO_q rfl rfl (ev_assign rfl) ?_
  refine GO_nil ?_
  (repeat first | refine G_seq ?_ | refine G_skip ?_ | refine G_endblk ?_ | refine G_block ?_ | refine G_exit rfl ?_)
  refine G_draw (.q 0 (.q 1 (.q 2 (.q 3 (.q 4 (.q 5 (.q 6 (.q 7 (.q 8 (.q 9 (.q 10 (.e 11 (.q 12 .nil))))))))))))) (by kernel_rfl) (by kernel_rfl) ?_
  refine RS_m retB_noPanic rfl rfl rfl rfl (ev_move rfl) ?_
  (first | refine RS_m retB_noPanic rfl rfl rfl rfl (ev_nilCheck rfl) ?_ | refine RS_m retB_noPanic rfl rfl rfl rfl (ev_nilCheckF (by simp) rfl) ?_)
  refine RS_m retB_noPanic rfl rfl rfl rfl (ev_fieldAddr rfl) ?_
  refine RS_q retB_noPanic rfl rfl rfl rfl (ev_load rfl (by repeat' first | exact Ld.blk rfl | assumption | apply Ld.skip | apply Ld.app)) ?_
  refine RS_m retB_noPanic rfl rfl rfl rfl (ev_not rfl) ?_
  refine RS_m retB_noPanic rfl rfl rfl rfl (ev_move rfl) ?_
  refine RS_q_yes retB_noPanic rfl rfl rfl rfl ⟨_, rfl, rfl⟩ rfl (ev_loadN rfl (by repeat' first | exact LdN.blk rfl | assumption | apply LdN.skip | apply LdN.app)) ?_
  refine RS_m_yes retB_noPanic rfl rfl rfl rfl ⟨_, rfl, rfl⟩ rfl (ev_move rfl) ?_
  (first | refine RS_m_yes retB_noPanic rfl rfl rfl rfl ⟨_, rfl, rfl⟩ rfl (ev_nilCheck rfl) ?_ | refine RS_m_yes retB_noPanic rfl rfl rfl rfl ⟨_, rfl, rfl⟩ rfl (ev_nilCheckF (by simp) rfl) ?_)
  refine RS_m_yes retB_noPanic rfl rfl rfl rfl ⟨_, rfl, rfl⟩ rfl (ev_fieldAddr rfl) ?_
  refine RS_q_yes retB_noPanic rfl rfl rfl rfl ⟨_, rfl, rfl⟩ rfl (ev_loadN rfl (by repeat' first | exact LdN.blk rfl | assumption | apply LdN.skip | apply LdN.app)) ?_
  refine RS_e (RE_eff_yes rfl rfl rfl ⟨_, rfl, rfl⟩ rfl (eff_call rfl (Has_ctr b p _)) ?_); rintro _ _ ⟨rfl, rfl⟩; refine ⟨_, fun _ s => s, (by first | ((repeat first | exact fun _ s => s | apply en_keep | apply en_drop | apply en_app) <;> fail) | ((repeat first | exact en_refl | (apply en_blk; focus ((repeat' first | exact Pick.here | apply Pick.skip | apply Pick.app); done); focus rfl) | (apply en_own; focus ((repeat' first | exact Pick.here | apply Pick.skip | apply Pick.app); done); focus rfl) | (apply en_pick; focus ((repeat' first | exact Pick.here | apply Pick.skip | apply Pick.app); done)) | apply en_drop | apply en_app) <;> fail)), ?_⟩
  refine RS_m retB_noPanic rfl rfl rfl rfl (ev_pick_t rfl rfl rfl) ?_
  refine RS_nil ?_
  (repeat first | refine G_seq ?_ | refine G_skip ?_ | refine G_endblk ?_ | refine G_block ?_ | refine G_exit rfl ?_)
  refine G_cond_t rfl hh ?_
  refine G_heap (own.nil_ 3 1) ?_
  (repeat first | refine G_seq ?_ | refine G_skip ?_ | refine G_endblk ?_ | refine G_block ?_ | refine G_exit rfl ?_)
  refine G_draw (.q 0 (.q 1 (.q 2 (.q 3 (.q 4 (.q 5 (.e 6 (.e 7 (.e 8 .nil))))))))) (by kernel_rfl) (by kernel_rfl) ?_
  refine RS_q retB_noPanic rfl rfl rfl rfl (ev_load rfl (by repeat' first | exact Ld.blk rfl | assumption | apply Ld.skip | apply Ld.app)) ?_
  refine RS_m retB_noPanic rfl rfl rfl rfl (ev_move rfl) ?_
  (first | refine RS_m retB_noPanic rfl rfl rfl rfl (ev_nilCheck rfl) ?_ | refine RS_m retB_noPanic rfl rfl rfl rfl (ev_nilCheckF (by simp) rfl) ?_)
  refine RS_m retB_noPanic rfl rfl rfl rfl (ev_fieldAddr rfl) ?_
  refine RS_m retB_noPanic rfl rfl rfl rfl (ev_fieldAddr rfl) ?_
  refine RS_q retB_noPanic rfl rfl rfl rfl (ev_load rfl (by repeat' first | exact Ld.blk rfl | assumption | apply Ld.skip | apply Ld.app)) ?_
  refine RS_e (RE_eff rfl rfl rfl (eff_buildSlice1 (by rfl) rfl rfl) ?_); rintro _ _ ⟨b26, rfl, rfl⟩; refine ⟨_, fun _ s => s, (by first | ((repeat first | exact fun _ s => s | apply en_keep | apply en_drop | apply en_app) <;> fail) | ((repeat first | exact en_refl | (apply en_blk; focus ((repeat' first | exact Pick.here | apply Pick.skip | apply Pick.app); done); focus rfl) | (apply en_own; focus ((repeat' first | exact Pick.here | apply Pick.skip | apply Pick.app); done); focus rfl) | (apply en_pick; focus ((repeat' first | exact Pick.here | apply Pick.skip | apply Pick.app); done)) | apply en_drop | apply en_app) <;> fail)), ?_⟩
  refine RS_e (RE_cmp (by kernel_rfl) rfl rfl rfl (eff_append rfl rfl (by repeat' first | exact Pick.here | apply Pick.skip) (by repeat' first | exact Rc.blk rfl | assumption | apply Rc.skip) (one_all rfl) (by rfl) (by decide) (by first | omega | (simp; done) | (simp; omega)) (by first | omega | (simp; done) | (simp; omega))) ?_); rintro _ _ ⟨A27, c27, rfl, hc27, hm27, hn27, rfl⟩
  refine RS_e (RE_last (by kernel_rfl) rfl rfl rfl (eff_store rfl rfl rfl (by repeat' first | exact Upd.here rfl | apply Upd.skip | apply Upd.app)) ?_); rintro _ _ ⟨rfl, rfl⟩
  obtain ⟨a, rfl⟩ := hn27 (by decide)
  (repeat first | refine G_seq ?_ | refine G_skip ?_ | refine G_endblk ?_ | refine G_block ?_ | refine G_exit rfl ?_)
  refine G_draw (.q 0 (.q 1 (.q 2 (.q 3 (.q 4 (.br 5 (.q 6 (.q 7 (.q 8 (.e 9 (.e 10 (.q 11 .nil)))))) 9 (.e 5 (.q 6 (.q 7 (.q 8 (.e 10 (.q 11 .nil)))))))))))) (by kernel_rfl) (by kernel_rfl) ?_
  refine RS_q retB_noPanic rfl rfl rfl rfl (ev_loadN rfl (by repeat' first | exact LdN.blk rfl | assumption | apply LdN.skip | apply LdN.app)) ?_
  refine RS_m retB_noPanic rfl rfl rfl rfl (ev_move rfl) ?_
  (first | refine RS_m retB_noPanic rfl rfl rfl rfl (ev_nilCheck rfl) ?_ | refine RS_m retB_noPanic rfl rfl rfl rfl (ev_nilCheckF (by simp) rfl) ?_)
  refine RS_m retB_noPanic rfl rfl rfl rfl (ev_fieldAddr rfl) ?_
  refine RS_q retB_noPanic rfl rfl rfl rfl (ev_loadN rfl (by repeat' first | exact LdN.blk rfl | assumption | apply LdN.skip | apply LdN.app)) ?_
  refine RS_br ?x1_0 ?x1_1
  case' x1_1 =>
    refine RE_eff rfl rfl rfl eff_alloc ?_; rintro _ _ ⟨b5, rfl, rfl⟩; refine ⟨_, fun _ s => s, (by first | ((repeat first | exact fun _ s => s | apply en_keep | apply en_drop | apply en_app) <;> fail) | ((repeat first | exact en_refl | (apply en_blk; focus ((repeat' first | exact Pick.here | apply Pick.skip | apply Pick.app); done); focus rfl) | (apply en_own; focus ((repeat' first | exact Pick.here | apply Pick.skip | apply Pick.app); done); focus rfl) | (apply en_pick; focus ((repeat' first | exact Pick.here | apply Pick.skip | apply Pick.app); done)) | apply en_drop | apply en_app) <;> fail)), ?_⟩
    refine RS_e (RE_eff rfl rfl rfl (eff_call rfl (Meet1_ctr p b _ h1 h2 h3 h4)) ?_); rintro _ _ ⟨rfl, rfl⟩; refine ⟨_, fun _ s => s, (by first | ((repeat first | exact fun _ s => s | apply en_keep | apply en_drop | apply en_app) <;> fail) | ((repeat first | exact en_refl | (apply en_blk; focus ((repeat' first | exact Pick.here | apply Pick.skip | apply Pick.app); done); focus rfl) | (apply en_own; focus ((repeat' first | exact Pick.here | apply Pick.skip | apply Pick.app); done); focus rfl) | (apply en_pick; focus ((repeat' first | exact Pick.here | apply Pick.skip | apply Pick.app); done)) | apply en_drop | apply en_app) <;> fail)), ?_⟩
    refine RS_m retB_noPanic rfl rfl rfl rfl (ev_move rfl) ?_
    refine RS_m retB_noPanic rfl rfl rfl rfl (ev_extract rfl rfl) ?_
    refine RS_m retB_noPanic rfl rfl rfl rfl (ev_extract rfl rfl) ?_
    refine RS_e (RE_cmp (by kernel_rfl) rfl rfl rfl (eff_storeN rfl rfl rfl rfl (by repeat' first | exact Upd.here rfl | apply Upd.skip | apply Upd.app)) ?_); rintro _ _ ⟨rfl, rfl⟩
    refine RS_m retB_noPanic rfl rfl rfl rfl (ev_assign rfl) ?_
    refine RS_nil ?_
  case' x1_0 =>
    refine RE_eff rfl rfl rfl (eff_call rfl (Meet1_ctr p b _ h1 h2 h3 h4)) ?_; rintro _ _ ⟨rfl, rfl⟩; refine ⟨_, fun _ s => s, (by first | ((repeat first | exact fun _ s => s | apply en_keep | apply en_drop | apply en_app) <;> fail) | ((repeat first | exact en_refl | (apply en_blk; focus ((repeat' first | exact Pick.here | apply Pick.skip | apply Pick.app); done); focus rfl) | (apply en_own; focus ((repeat' first | exact Pick.here | apply Pick.skip | apply Pick.app); done); focus rfl) | (apply en_pick; focus ((repeat' first | exact Pick.here | apply Pick.skip | apply Pick.app); done)) | apply en_drop | apply en_app) <;> fail)), ?_⟩
    refine RS_m retB_noPanic rfl rfl rfl rfl (ev_move rfl) ?_
    refine RS_m retB_noPanic rfl rfl rfl rfl (ev_extract rfl rfl) ?_
    refine RS_m retB_noPanic rfl rfl rfl rfl (ev_extract rfl rfl) ?_
    refine RS_e (RE_eff rfl rfl rfl eff_alloc ?_); rintro _ _ ⟨b5, rfl, rfl⟩; refine ⟨_, fun _ s => s, (by first | ((repeat first | exact fun _ s => s | apply en_keep | apply en_drop | apply en_app) <;> fail) | ((repeat first | exact en_refl | (apply en_blk; focus ((repeat' first | exact Pick.here | apply Pick.skip | apply Pick.app); done); focus rfl) | (apply en_own; focus ((repeat' first | exact Pick.here | apply Pick.skip | apply Pick.app); done); focus rfl) | (apply en_pick; focus ((repeat' first | exact Pick.here | apply Pick.skip | apply Pick.app); done)) | apply en_drop | apply en_app) <;> fail)), ?_⟩
    refine RS_e (RE_cmp (by kernel_rfl) rfl rfl rfl (eff_storeN rfl rfl rfl rfl (by repeat' first | exact Upd.here rfl | apply Upd.skip | apply Upd.app)) ?_); rintro _ _ ⟨rfl, rfl⟩
    refine RS_m retB_noPanic rfl rfl rfl rfl (ev_assign rfl) ?_
    refine RS_nil ?_
  all_goals
    (repeat first | refine G_seq ?_ | refine G_skip ?_ | refine G_endblk ?_ | refine G_block ?_ | refine G_exit rfl ?_)
    refine G_region ?_
    refine GO_q rfl rfl (ev_move rfl) ?_
    refine GO_q rfl rfl (ev_assign rfl) ?_
    refine GO_nil ?_
    (repeat first | refine G_seq ?_ | refine G_skip ?_ | refine G_endblk ?_ | refine G_block ?_ | refine G_exit rfl ?_)
    exact G_ret (L' := own 3 1 (some ⟨a, 0, none⟩) 1 c27 (flat [p.id]) :: blk vv 47 [.slice (some ⟨a, 0, none⟩) 1 c27] :: blk bb 32 b.c :: blk n 67 (knC p false none none 1 p.bx) :: L) rfl (.tmp rfl .nil) (by (repeat first | exact en_refl | (apply en_blk; focus ((repeat' first | exact Pick.here | apply Pick.skip | apply Pick.app); done); focus rfl) | (apply en_own; focus ((repeat' first | exact Pick.here | apply Pick.skip | apply Pick.app); done); focus rfl) | (apply en_pick; focus ((repeat' first | exact Pick.here | apply Pick.skip | apply Pick.app); done)) | apply en_drop | apply en_app) <;> fail) ⟨rfl, a, c27, rfl⟩
theorem ktop1_ctr (t n : Nat) (L : List HP) (h : Ld L ⟨t, 0 + 0, none⟩ (.pointer (some ⟨n, 0, none⟩))) : Ctr Try.prog 38 #[.pointer (some ⟨t, 0, none⟩)] L fun v L' => v = .pointer (some ⟨n, 0, none⟩) ∧ L' = L := by
  refine Ctr_of (fn := Try.f38) (n := 9) Try.func38 rfl rfl rfl ?_
  intro g F
  (repeat first | refine G_seq ?_ | refine G_skip ?_ | refine G_endblk ?_ | refine G_block ?_ | refine G_exit rfl ?_)
  refine G_region ?_
  refine GO_q rfl rfl (ev_assign rfl) ?_
  refine GO_nil ?_
  (repeat first | refine G_seq ?_ | refine G_skip ?_ | refine G_endblk ?_ | refine G_block ?_ | refine G_exit rfl ?_)
  refine G_region ?_
  refine GO_q rfl rfl (ev_move rfl) ?_
  (first | refine GO_q rfl rfl (ev_eqlNil rfl rfl) ?_ | refine GO_q rfl rfl (ev_eqlPtr rfl rfl) ?_)
  refine GO_nil ?_
  (repeat first | refine G_seq ?_ | refine G_skip ?_ | refine G_endblk ?_ | refine G_block ?_ | refine G_exit rfl ?_)
  refine G_cond_f rfl rfl ?_
  (repeat first | refine G_seq ?_ | refine G_skip ?_ | refine G_endblk ?_ | refine G_block ?_ | refine G_exit rfl ?_)
  refine G_region ?_
  refine GO_q rfl rfl (ev_move rfl) ?_
  (first | refine GO_q rfl rfl (ev_nilCheck rfl) ?_ | refine GO_q rfl rfl (ev_nilCheckF (by simp) rfl) ?_)
  refine GO_q rfl rfl (ev_fieldAddr rfl) ?_
  refine GO_q rfl rfl (ev_load rfl (by repeat' first | exact h | apply Ld.skip)) ?_
  refine GO_q rfl rfl (ev_assign rfl) ?_
  refine GO_nil ?_
  (repeat first | refine G_seq ?_ | refine G_skip ?_ | refine G_endblk ?_ | refine G_block ?_ | refine G_exit rfl ?_)
  refine G_ret rfl (.tmp rfl .nil) (by (repeat first | exact fun _ s => s | apply en_keep | apply en_drop | apply en_app) <;> fail) ⟨rfl, rfl⟩
theorem kreport1_ctr (t n : Nat) (p : Pt) (b : Bx) (most : Int) (L : List HP) (h1 : b.x1 ≤ p.x) (h2 : p.x ≤ b.x2) (h3 : b.y1 ≤ p.y) (h4 : p.y ≤ b.y2) :
    Ctr Try.prog 37 #[.pointer (some ⟨t, 0, none⟩), b.v] (blk n 67 (knC p false none none 1 p.bx) :: blk t 60 (ktC n most) :: L) fun v L' => ∃ a c, v = .slice (some ⟨a, 0, none⟩) 1 c ∧ L' = own 3 1 (some ⟨a, 0, none⟩) 1 c (flat [p.id]) :: blk n 67 (knC p false none none 1 p.bx) :: blk t 60 (ktC n most) :: L := by
  have hsl : srt [p.id] = [p.id] := by simp [srt]
  refine Ctr_of (fn := Try.f37) (n := 13) Try.func37 rfl rfl rfl ?_
  intro g F
  (repeat first | refine G_seq ?_ | refine G_skip ?_ | refine G_endblk ?_ | refine G_block ?_ | refine G_exit rfl ?_)
  refine G_region ?_
  refine GO_eff rfl rfl (eff_box rfl) ?_; rintro _ _ ⟨b3, rfl, rfl⟩
  refine GO_q rfl rfl (ev_assign rfl) ?_
  refine GO_nil ?_
  (repeat first | refine G_seq ?_ | refine G_skip ?_ | refine G_endblk ?_ | refine G_block ?_ | refine G_exit rfl ?_)
  refine G_region ?_
  refine GO_eff rfl rfl eff_alloc ?_; rintro _ _ ⟨b5, rfl, rfl⟩
  refine GO_nil ?_
  refine G_heap (L' := blk b5 47 [.slice none 0 0] :: blk b3 32 b.c :: blk n 67 (knC p false none none 1 p.bx) :: blk t 60 (ktC n most) :: F :: L) (by (repeat first | exact en_refl | (apply en_blk; focus ((repeat' first | exact Pick.here | apply Pick.skip | apply Pick.app); done); focus rfl) | (apply en_own; focus ((repeat' first | exact Pick.here | apply Pick.skip | apply Pick.app); done); focus rfl) | (apply en_pick; focus ((repeat' first | exact Pick.here | apply Pick.skip | apply Pick.app); done)) | apply en_drop | apply en_app) <;> fail) ?_
  (repeat first | refine G_seq ?_ | refine G_skip ?_ | refine G_endblk ?_ | refine G_block ?_ | refine G_exit rfl ?_)
  refine G_region ?_
  refine GO_q rfl rfl (ev_move rfl) ?_
  refine GO_eff rfl rfl (eff_call rfl (ktop1_ctr t n _ (by repeat' first | exact Ld.blk rfl | apply Ld.skip))) ?_; rintro _ _ ⟨rfl, rfl⟩
  refine GO_q rfl rfl (ev_makeFunc rfl rfl) ?_
  refine GO_eff rfl rfl (eff_call rfl (keach1_ctr (c1 := []) (c2 := [.pointer (some ⟨b3, 0, none⟩), .pointer (some ⟨b5, 0, none⟩)]) n true (blk b5 47 [.slice none 0 0] :: blk b3 32 b.c :: blk n 67 (knC p false none none 1 p.bx) :: blk t 60 (ktC n most) :: F :: L) (repΦ n b3 b5 p b (blk t 60 (ktC n most) :: F :: L)) (krep1_ctr n b3 b5 p b (blk t 60 (ktC n most) :: F :: L) h1 h2 h3 h4) repΦ4 repΦ5)) ?_; rintro _ _ ⟨rfl, a, c, rfl⟩
  refine GO_nil ?_
  have hs := fun M => sort_ctr (some ⟨a, 0, none⟩) 1 c [p.id] M (fun _ => ⟨a, rfl⟩) rfl (by omega)
  rw [hsl] at hs
  (repeat first | refine G_seq ?_ | refine G_skip ?_ | refine G_endblk ?_ | refine G_block ?_ | refine G_exit rfl ?_)
  refine G_region ?_
  refine GO_q rfl rfl (ev_load rfl (by repeat' first | exact Ld.blk rfl | assumption | apply Ld.skip | apply Ld.app)) ?_
  refine GO_eff rfl rfl (eff_call rfl (Ctr.pick (by repeat' first | exact Pick.here | apply Pick.skip | apply Pick.app) (hs _))) ?_; rintro _ _ ⟨rfl, rfl⟩
  refine GO_nil ?_
  (repeat first | refine G_seq ?_ | refine G_skip ?_ | refine G_endblk ?_ | refine G_block ?_ | refine G_exit rfl ?_)
  refine G_region ?_
  refine GO_q rfl rfl (ev_load rfl (by repeat' first | exact Ld.blk rfl | assumption | apply Ld.skip | apply Ld.app)) ?_
  refine GO_q rfl rfl (ev_assign rfl) ?_
  refine GO_nil ?_
  (repeat first | refine G_seq ?_ | refine G_skip ?_ | refine G_endblk ?_ | refine G_block ?_ | refine G_exit rfl ?_)
  exact G_ret (L' := own 3 1 (some ⟨a, 0, none⟩) 1 c (flat [p.id]) :: blk n 67 (knC p false none none 1 p.bx) :: blk t 60 (ktC n most) :: L) rfl (.tmp rfl .nil) (by (repeat first | exact en_refl | (apply en_blk; focus ((repeat' first | exact Pick.here | apply Pick.skip | apply Pick.app); done); focus rfl) | (apply en_own; focus ((repeat' first | exact Pick.here | apply Pick.skip | apply Pick.app); done); focus rfl) | (apply en_pick; focus ((repeat' first | exact Pick.here | apply Pick.skip | apply Pick.app); done)) | apply en_drop | apply en_app) <;> fail) ⟨a, c, rfl, rfl⟩
theorem kReport1_ctr (t n : Nat) (p : Pt) (b : Bx) (most : Int) (L : List HP) (h1 : b.x1 ≤ p.x) (h2 : p.x ≤ b.x2) (h3 : b.y1 ≤ p.y) (h4 : p.y ≤ b.y2) :
    Ctr Try.prog 19 #[.pointer (some ⟨t, 0, none⟩), b.v] (blk n 67 (knC p false none none 1 p.bx) :: blk t 60 (ktC n most) :: L) fun v L' => ∃ a c, v = .slice (some ⟨a, 0, none⟩) 1 c ∧ L' = own 3 1 (some ⟨a, 0, none⟩) 1 c (flat [p.id]) :: blk n 67 (knC p false none none 1 p.bx) :: blk t 60 (ktC n most) :: L := by
  refine Ctr_of (fn := Try.f19) (n := 8) Try.func19 rfl rfl rfl ?_
  intro g F
  (repeat first | refine G_seq ?_ | refine G_skip ?_ | refine G_endblk ?_ | refine G_block ?_ | refine G_exit rfl ?_)
  refine G_region ?_
  refine GO_eff rfl rfl (eff_box rfl) ?_; rintro _ _ ⟨b3, rfl, rfl⟩
  refine GO_q rfl rfl (ev_assign rfl) ?_
  refine GO_nil ?_
  refine G_heap (L' := blk n 67 (knC p false none none 1 p.bx) :: blk t 60 (ktC n most) :: blk b3 32 b.c :: F :: L) (by (repeat first | exact en_refl | (apply en_blk; focus ((repeat' first | exact Pick.here | apply Pick.skip | apply Pick.app); done); focus rfl) | (apply en_own; focus ((repeat' first | exact Pick.here | apply Pick.skip | apply Pick.app); done); focus rfl) | (apply en_pick; focus ((repeat' first | exact Pick.here | apply Pick.skip | apply Pick.app); done)) | apply en_drop | apply en_app) <;> fail) ?_
  (repeat first | refine G_seq ?_ | refine G_skip ?_ | refine G_endblk ?_ | refine G_block ?_ | refine G_exit rfl ?_)
  refine G_region ?_
  refine GO_q rfl rfl (ev_move rfl) ?_
  refine GO_q rfl rfl (ev_loadN rfl (by repeat' first | exact LdN.blk rfl | assumption | apply LdN.skip | apply LdN.app)) ?_
  refine GO_eff rfl rfl (eff_call rfl (kreport1_ctr t n p b most _ h1 h2 h3 h4)) ?_; rintro _ _ ⟨a, c, rfl, rfl⟩
  refine GO_q rfl rfl (ev_assign rfl) ?_
  refine GO_nil ?_
  (repeat first | refine G_seq ?_ | refine G_skip ?_ | refine G_endblk ?_ | refine G_block ?_ | refine G_exit rfl ?_)
  exact G_ret (L' := own 3 1 (some ⟨a, 0, none⟩) 1 c (flat [p.id]) :: blk n 67 (knC p false none none 1 p.bx) :: blk t 60 (ktC n most) :: L) rfl (.tmp rfl .nil) (by (repeat first | exact en_refl | (apply en_blk; focus ((repeat' first | exact Pick.here | apply Pick.skip | apply Pick.app); done); focus rfl) | (apply en_own; focus ((repeat' first | exact Pick.here | apply Pick.skip | apply Pick.app); done); focus rfl) | (apply en_pick; focus ((repeat' first | exact Pick.here | apply Pick.skip | apply Pick.app); done)) | apply en_drop | apply en_app) <;> fail) ⟨a, c, rfl, rfl⟩
theorem kpts1_ctr (n vv : Nat) (p : Pt) (L : List HP) :
    Ctr Try.prog 57 #[.pointer (some ⟨n, 0, none⟩), .pointer (some ⟨vv, 0, none⟩)] (blk vv 40 [.slice none 0 0] :: blk n 67 (knC p false none none 1 p.bx) :: L)
      fun v L' => v = .bool true ∧ ptsΦ n vv p L L' := by
  refine Ctr_of (fn := Try.f57) (n := 16) Try.func57 rfl rfl rfl ?_
  intro g F
  (repeat first | refine G_seq ?_ | refine G_skip ?_ | refine G_endblk ?_ | refine G_block ?_ | refine G_exit rfl ?_)
  refine G_region ?_
  refine GO_q rfl rfl (ev_assign rfl) ?_
  refine GO_nil ?_
  (repeat first | refine G_seq ?_ | refine G_skip ?_ | refine G_endblk ?_ | refine G_block ?_ | refine G_exit rfl ?_)
  refine G_region ?_
  refine GO_q rfl rfl (ev_move rfl) ?_
  (first | refine GO_q rfl rfl (ev_nilCheck rfl) ?_ | refine GO_q rfl rfl (ev_nilCheckF (by simp) rfl) ?_)
  refine GO_q rfl rfl (ev_fieldAddr rfl) ?_
  refine GO_q rfl rfl (ev_load rfl (by repeat' first | exact Ld.blk rfl | assumption | apply Ld.skip | apply Ld.app)) ?_
  refine GO_q rfl rfl (ev_not rfl) ?_
  refine GO_nil ?_
  (repeat first | refine G_seq ?_ | refine G_skip ?_ | refine G_endblk ?_ | refine G_block ?_ | refine G_exit rfl ?_)
  refine G_cond_t rfl rfl ?_
  refine G_heap (own.nil_ 27 3) ?_
  (repeat first | refine G_seq ?_ | refine G_skip ?_ | refine G_endblk ?_ | refine G_block ?_ | refine G_exit rfl ?_)
  refine G_draw (.q 0 (.q 1 (.q 2 (.q 3 (.q 4 (.e 5 (.e 6 (.e 7 .nil)))))))) (by kernel_rfl) (by kernel_rfl) ?_
  refine RS_q retB_noPanic rfl rfl rfl rfl (ev_load rfl (by repeat' first | exact Ld.blk rfl | assumption | apply Ld.skip | apply Ld.app)) ?_
  refine RS_m retB_noPanic rfl rfl rfl rfl (ev_move rfl) ?_
  (first | refine RS_m retB_noPanic rfl rfl rfl rfl (ev_nilCheck rfl) ?_ | refine RS_m retB_noPanic rfl rfl rfl rfl (ev_nilCheckF (by simp) rfl) ?_)
  refine RS_m retB_noPanic rfl rfl rfl rfl (ev_fieldAddr rfl) ?_
  refine RS_q retB_noPanic rfl rfl rfl rfl (ev_loadN rfl (by repeat' first | exact LdN.blk rfl | assumption | apply LdN.skip | apply LdN.app)) ?_
  refine RS_e (RE_eff rfl rfl rfl (eff_buildSlice1 (by rfl) rfl rfl) ?_); rintro _ _ ⟨b14, rfl, rfl⟩; refine ⟨_, fun _ s => s, (by first | ((repeat first | exact fun _ s => s | apply en_keep | apply en_drop | apply en_app) <;> fail) | ((repeat first | exact en_refl | (apply en_blk; focus ((repeat' first | exact Pick.here | apply Pick.skip | apply Pick.app); done); focus rfl) | (apply en_own; focus ((repeat' first | exact Pick.here | apply Pick.skip | apply Pick.app); done); focus rfl) | (apply en_pick; focus ((repeat' first | exact Pick.here | apply Pick.skip | apply Pick.app); done)) | apply en_drop | apply en_app) <;> fail)), ?_⟩
  refine RS_e (RE_cmp (by kernel_rfl) rfl rfl rfl (eff_append rfl rfl (by repeat' first | exact Pick.here | apply Pick.skip) (by repeat' first | exact Rc.blk rfl | assumption | apply Rc.skip) (one_all rfl) (by rfl) (by decide) (by first | omega | (simp; done) | (simp; omega)) (by first | omega | (simp; done) | (simp; omega))) ?_); rintro _ _ ⟨A15, c15, rfl, hc15, hm15, hn15, rfl⟩
  refine RS_e (RE_last (by kernel_rfl) rfl rfl rfl (eff_store rfl rfl rfl (by repeat' first | exact Upd.here rfl | apply Upd.skip | apply Upd.app)) ?_); rintro _ _ ⟨rfl, rfl⟩
  (repeat first | refine G_seq ?_ | refine G_skip ?_ | refine G_endblk ?_ | refine G_block ?_ | refine G_exit rfl ?_)
  refine G_region ?_
  refine GO_q rfl rfl (ev_assign rfl) ?_
  refine GO_nil ?_
  (repeat first | refine G_seq ?_ | refine G_skip ?_ | refine G_endblk ?_ | refine G_block ?_ | refine G_exit rfl ?_)
  exact G_ret (L' := own 27 3 A15 1 c15 (flat [p]) :: blk vv 40 [.slice A15 1 c15] :: blk n 67 (knC p false none none 1 p.bx) :: L) rfl (.tmp rfl .nil) (by (repeat first | exact en_refl | (apply en_blk; focus ((repeat' first | exact Pick.here | apply Pick.skip | apply Pick.app); done); focus rfl) | (apply en_own; focus ((repeat' first | exact Pick.here | apply Pick.skip | apply Pick.app); done); focus rfl) | (apply en_pick; focus ((repeat' first | exact Pick.here | apply Pick.skip | apply Pick.app); done)) | apply en_drop | apply en_app) <;> fail) ⟨rfl, A15, c15, rfl⟩
theorem kpoints1_ctr (n : Nat) (p : Pt) (L : List HP) :
    Ctr Try.prog 36 #[.pointer (some ⟨n, 0, none⟩)] (blk n 67 (knC p false none none 1 p.bx) :: L) fun v L' => ∃ a c, v = .slice a 1 c ∧ L' = blk n 67 (knC p false none none 1 p.bx) :: L := by
  refine Ctr_of (fn := Try.f36) (n := 8) Try.func36 rfl rfl rfl ?_
  intro g F
  (repeat first | refine G_seq ?_ | refine G_skip ?_ | refine G_endblk ?_ | refine G_block ?_ | refine G_exit rfl ?_)
  refine G_region ?_
  refine GO_q rfl rfl (ev_assign rfl) ?_
  refine GO_nil ?_
  (repeat first | refine G_seq ?_ | refine G_skip ?_ | refine G_endblk ?_ | refine G_block ?_ | refine G_exit rfl ?_)
  refine G_region ?_
  refine GO_eff rfl rfl eff_alloc ?_; rintro _ _ ⟨b3, rfl, rfl⟩
  refine GO_nil ?_
  refine G_heap (L' := blk b3 40 [.slice none 0 0] :: blk n 67 (knC p false none none 1 p.bx) :: F :: L) (by (repeat first | exact en_refl | (apply en_blk; focus ((repeat' first | exact Pick.here | apply Pick.skip | apply Pick.app); done); focus rfl) | (apply en_own; focus ((repeat' first | exact Pick.here | apply Pick.skip | apply Pick.app); done); focus rfl) | (apply en_pick; focus ((repeat' first | exact Pick.here | apply Pick.skip | apply Pick.app); done)) | apply en_drop | apply en_app) <;> fail) ?_
  (repeat first | refine G_seq ?_ | refine G_skip ?_ | refine G_endblk ?_ | refine G_block ?_ | refine G_exit rfl ?_)
  refine G_region ?_
  refine GO_q rfl rfl (ev_move rfl) ?_
  refine GO_q rfl rfl (ev_makeFunc rfl rfl) ?_
  refine GO_eff rfl rfl (eff_call rfl (keach1_ctr (c1 := []) (c2 := [.pointer (some ⟨b3, 0, none⟩)]) n true (blk b3 40 [.slice none 0 0] :: blk n 67 (knC p false none none 1 p.bx) :: F :: L) (ptsΦ n b3 p (F :: L)) (kpts1_ctr n b3 p (F :: L)) ptsΦ4 ptsΦ5)) ?_; rintro _ _ ⟨rfl, a, c, rfl⟩
  refine GO_nil ?_
  (repeat first | refine G_seq ?_ | refine G_skip ?_ | refine G_endblk ?_ | refine G_block ?_ | refine G_exit rfl ?_)
  refine G_region ?_
  refine GO_q rfl rfl (ev_load rfl (by repeat' first | exact Ld.blk rfl | assumption | apply Ld.skip | apply Ld.app)) ?_
  refine GO_q rfl rfl (ev_assign rfl) ?_
  refine GO_nil ?_
  (repeat first | refine G_seq ?_ | refine G_skip ?_ | refine G_endblk ?_ | refine G_block ?_ | refine G_exit rfl ?_)
  exact G_ret (L' := blk n 67 (knC p false none none 1 p.bx) :: L) rfl (.tmp rfl .nil) (by (repeat first | exact en_refl | (apply en_blk; focus ((repeat' first | exact Pick.here | apply Pick.skip | apply Pick.app); done); focus rfl) | (apply en_own; focus ((repeat' first | exact Pick.here | apply Pick.skip | apply Pick.app); done); focus rfl) | (apply en_pick; focus ((repeat' first | exact Pick.here | apply Pick.skip | apply Pick.app); done)) | apply en_drop | apply en_app) <;> fail) ⟨a, c, rfl, rfl⟩
end Go.Proofs.Ytjgdhkilnalejaa
