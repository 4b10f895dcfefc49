/- A kd tree of one point. -/
import Derived.Test.YtjgdhkilnalejaaKdN
import Derived.Test.YtjgdhkilnalejaaEqR
import Derived.Test.YtjgdhkilnalejaaOps2
namespace Go.Proofs.Ytjgdhkilnalejaa
attribute [local irreducible] sat
open Go.RowKit
set_option linter.unusedVariables false
set_option linter.unusedSimpArgs false
set_option maxRecDepth 100000

instance : ReflT Try.prog 67 [.i, .i, .i, .b, .p, .p, .i, .i, .i, .i, .i] := ⟨by kernel_rfl⟩
@[reducible] def knC (p : Pt) (gone : Bool) (lo hi : Option Addr) (n : Int) (b : Bx) : List Value := [.int .i64 p.id, .int .i64 p.x, .int .i64 p.y, .bool gone, .pointer lo, .pointer hi, .int .i64 n, .int .i64 b.x1, .int .i64 b.x2, .int .i64 b.y1, .int .i64 b.y2]
@[reducible] def Pt.bx (p : Pt) : Bx := ⟨p.x, p.x, p.y, p.y⟩
theorem Around1_ctr (p : Pt) (A : Option Addr) (c : Nat) (L : List HP) (h : Rd L A 1 [p]) (hc : 1 ≤ c) : Ctr Try.prog 65 #[.slice A 1 c] L fun v L' => v = .tuple #[p.bx.v, .bool true] ∧ L' = L := by
  obtain ⟨b1, o1, rfl, x1⟩ := h.at_ (by decide)
  have y := x1 0 p rfl
  have y1 : Ld L ⟨b1, o1 + 0 * 3 + 1, none⟩ (.int .i64 p.x) := y.at_ (i := 1) rfl
  have y2 : Ld L ⟨b1, o1 + 0 * 3 + 2, none⟩ (.int .i64 p.y) := y.at_ (i := 2) rfl
  refine Ctr_of (fn := Try.f65) (n := 40) Try.func65 rfl rfl rfl ?_
  intro g F
  (repeat first | refine G_seq ?_ | refine G_skip ?_ | refine G_endblk ?_ | refine G_block ?_ | refine G_exit rfl ?_)
  refine G_region ?_
  refine GO_eff rfl rfl eff_alloc ?_; rintro _ _ ⟨b2, rfl, rfl⟩
  refine GO_q rfl rfl (ev_assign rfl) ?_
  refine GO_nil ?_
  (repeat first | refine G_seq ?_ | refine G_skip ?_ | refine G_endblk ?_ | refine G_block ?_ | refine G_exit rfl ?_)
  refine G_region ?_
  refine GO_q rfl rfl (ev_move rfl) ?_
  refine GO_q rfl rfl (ev_len rfl) ?_
  refine GO_q rfl rfl (ev_eql rfl rfl) ?_
  refine GO_nil ?_
  (repeat first | refine G_seq ?_ | refine G_skip ?_ | refine G_endblk ?_ | refine G_block ?_ | refine G_exit rfl ?_)
  refine G_cond_f rfl rfl ?_
  (repeat first | refine G_seq ?_ | refine G_skip ?_ | refine G_endblk ?_ | refine G_block ?_ | refine G_exit rfl ?_)
  refine G_draw (.q 0 (.q 1 (.q 2 (.q 3 (.q 4 (.q 5 (.q 6 (.q 7 (.q 8 (.q 9 (.q 10 (.q 11 (.q 12 (.q 13 (.q 14 (.q 15 (.q 16 (.e 17 (.e 18 .nil))))))))))))))))))) (by kernel_rfl) (by kernel_rfl) ?_
  refine RS_m retB_noPanic rfl rfl rfl rfl (ev_move rfl) ?_
  (first | refine RS_m retB_noPanic rfl rfl rfl rfl (ev_indexAddrN rfl rfl (by first | omega | (simp; done) | (simp; omega))) ?_ | refine RS_m retB_noPanic rfl rfl rfl rfl (ev_indexAddr rfl rfl (by first | omega | (simp; done) | (simp; omega)) (by first | omega | (simp; done) | (simp; omega))) ?_)
  refine RS_m retB_noPanic rfl rfl rfl rfl (ev_fieldAddr rfl) ?_
  refine RS_q retB_noPanic rfl rfl rfl rfl (ev_load rfl (by repeat' first | exact y1 | apply Ld.skip)) ?_
  refine RS_m retB_noPanic rfl rfl rfl rfl (ev_move rfl) ?_
  (first | refine RS_m retB_noPanic rfl rfl rfl rfl (ev_indexAddrN rfl rfl (by first | omega | (simp; done) | (simp; omega))) ?_ | refine RS_m retB_noPanic rfl rfl rfl rfl (ev_indexAddr rfl rfl (by first | omega | (simp; done) | (simp; omega)) (by first | omega | (simp; done) | (simp; omega))) ?_)
  refine RS_m retB_noPanic rfl rfl rfl rfl (ev_fieldAddr rfl) ?_
  refine RS_q retB_noPanic rfl rfl rfl rfl (ev_load rfl (by repeat' first | exact y1 | apply Ld.skip)) ?_
  refine RS_m retB_noPanic rfl rfl rfl rfl (ev_move rfl) ?_
  (first | refine RS_m retB_noPanic rfl rfl rfl rfl (ev_indexAddrN rfl rfl (by first | omega | (simp; done) | (simp; omega))) ?_ | refine RS_m retB_noPanic rfl rfl rfl rfl (ev_indexAddr rfl rfl (by first | omega | (simp; done) | (simp; omega)) (by first | omega | (simp; done) | (simp; omega))) ?_)
  refine RS_m retB_noPanic rfl rfl rfl rfl (ev_fieldAddr rfl) ?_
  refine RS_q retB_noPanic rfl rfl rfl rfl (ev_load rfl (by repeat' first | exact y2 | apply Ld.skip)) ?_
  refine RS_m retB_noPanic rfl rfl rfl rfl (ev_move rfl) ?_
  (first | refine RS_m retB_noPanic rfl rfl rfl rfl (ev_indexAddrN rfl rfl (by first | omega | (simp; done) | (simp; omega))) ?_ | refine RS_m retB_noPanic rfl rfl rfl rfl (ev_indexAddr rfl rfl (by first | omega | (simp; done) | (simp; omega)) (by first | omega | (simp; done) | (simp; omega))) ?_)
  refine RS_m retB_noPanic rfl rfl rfl rfl (ev_fieldAddr rfl) ?_
  refine RS_q retB_noPanic rfl rfl rfl rfl (ev_load rfl (by repeat' first | exact y2 | apply Ld.skip)) ?_
  refine RS_m retB_noPanic rfl rfl rfl rfl (ev_build rfl rfl) ?_
  refine RS_e (RE_eff rfl rfl rfl eff_alloc ?_); rintro _ _ ⟨b4, rfl, rfl⟩; refine ⟨_, fun _ s => s, (by first | ((repeat first | exact fun _ s => s | apply en_keep | apply en_drop | apply en_app) <;> fail) | ((repeat first | exact en_refl | (apply en_blk; focus ((repeat' first | exact Pick.here | apply Pick.skip | apply Pick.app); done); focus rfl) | (apply en_own; focus ((repeat' first | exact Pick.here | apply Pick.skip | apply Pick.app); done); focus rfl) | (apply en_pick; focus ((repeat' first | exact Pick.here | apply Pick.skip | apply Pick.app); done)) | apply en_drop | apply en_app) <;> fail)), ?_⟩
  refine RS_e (RE_last (by kernel_rfl) rfl rfl rfl (eff_storeN rfl rfl rfl rfl (by repeat' first | exact Upd.here rfl | apply Upd.skip | apply Upd.app)) ?_); rintro _ _ ⟨rfl, rfl⟩
  all_goals
    (repeat first | refine G_seq ?_ | refine G_skip ?_ | refine G_endblk ?_ | refine G_block ?_ | refine G_exit rfl ?_)
    refine G_region ?_
    refine GO_q rfl rfl (ev_move rfl) ?_
    refine GO_q rfl rfl (ev_sliceL rfl rfl (by first | omega | (simp; done) | (simp; omega)) (by first | omega | (simp; done) | (simp; omega))) ?_
    refine GO_q rfl rfl (ev_len rfl) ?_
    refine GO_q rfl rfl (ev_move rfl) ?_
    refine GO_nil ?_
    (repeat first | refine G_seq ?_ | refine G_skip ?_ | refine G_endblk ?_ | refine G_block ?_ | refine G_exit rfl ?_)
    refine G_loop (ι := Unit) (fun _ => [(2, .pointer (some ⟨b2, 0, none⟩)), (4, .pointer (some ⟨b4, 0, none⟩)), (30, .int .i64 0), (31, .int .i64 0)]) (fun _ => blk b4 32 [.int .i64 p.x, .int .i64 p.x, .int .i64 p.y, .int .i64 p.y] :: blk b2 32 [.int .i64 0, .int .i64 0, .int .i64 0, .int .i64 0] :: F :: L) (fun _ => True) (fun _ => 0) () trivial ⟨rfl, rfl, rfl, rfl, trivial⟩ (by (repeat first | exact en_refl | (apply en_blk; focus ((repeat' first | exact Pick.here | apply Pick.skip | apply Pick.app); done); focus rfl) | (apply en_own; focus ((repeat' first | exact Pick.here | apply Pick.skip | apply Pick.app); done); focus rfl) | (apply en_pick; focus ((repeat' first | exact Pick.here | apply Pick.skip | apply Pick.app); done)) | apply en_drop | apply en_app) <;> fail) ?_
    rintro _ -
    (repeat first | refine G_seq ?_ | refine G_skip ?_ | refine G_endblk ?_ | refine G_block ?_ | refine G_exit rfl ?_)
    refine G_region ?_
    (first | refine GO_q rfl rfl (ev_lssN rfl rfl) ?_ | refine GO_q rfl rfl (ev_lss rfl rfl) ?_)
    refine GO_nil ?_
    (repeat first | refine G_seq ?_ | refine G_skip ?_ | refine G_endblk ?_ | refine G_block ?_ | refine G_exit rfl ?_)
    refine G_cond_f rfl rfl ?_
    (repeat first | refine G_seq ?_ | refine G_skip ?_ | refine G_endblk ?_ | refine G_block ?_ | refine G_exit rfl ?_)
    refine G_region ?_
    refine GO_q rfl rfl (ev_loadN rfl (by repeat' first | exact LdN.blk rfl | assumption | apply LdN.skip | apply LdN.app)) ?_
    refine GO_eff rfl rfl (eff_storeN rfl rfl rfl rfl (by repeat' first | exact Upd.here rfl | apply Upd.skip | apply Upd.app)) ?_; rintro _ _ ⟨rfl, rfl⟩
    refine GO_q rfl rfl (ev_assign rfl) ?_
    refine GO_nil ?_
    (repeat first | refine G_seq ?_ | refine G_skip ?_ | refine G_endblk ?_ | refine G_block ?_ | refine G_exit rfl ?_)
    refine G_ret rfl (.cell rfl (loadN_run (by repeat' first | exact LdN.blk rfl | assumption | apply LdN.skip | apply LdN.app)) (.tmp rfl .nil)) (by (repeat first | exact fun _ s => s | apply en_keep | apply en_drop | apply en_app) <;> fail) ⟨rfl, rfl⟩
theorem note1_ctr (b : Nat) (p : Pt) (gone : Bool) (n0 : Int) (bx : Bx) (L : List HP) : Ctr Try.prog 51 #[.pointer (some ⟨b, 0, none⟩)] (blk b 67 (knC p gone none none n0 bx) :: L) fun v L' => v = .pointer (some ⟨b, 0, none⟩) ∧ L' = blk b 67 (knC p gone none none 1 p.bx) :: L := by
  refine Ctr_of (fn := Try.f51) (n := 54) Try.func51 rfl rfl rfl ?_
  intro g F
  (repeat first | refine G_seq ?_ | refine G_skip ?_ | refine G_endblk ?_ | refine G_block ?_ | refine G_exit rfl ?_)
  refine G_region ?_
  refine GO_q rfl rfl (ev_assign rfl) ?_
  refine GO_nil ?_
  (repeat first | refine G_seq ?_ | refine G_skip ?_ | refine G_endblk ?_ | refine G_block ?_ | refine G_exit rfl ?_)
  refine G_region ?_
  refine GO_q rfl rfl (ev_move rfl) ?_
  (first | refine GO_q rfl rfl (ev_nilCheck rfl) ?_ | refine GO_q rfl rfl (ev_nilCheckF (by simp) rfl) ?_)
  refine GO_q rfl rfl (ev_fieldAddr rfl) ?_
  refine GO_eff rfl rfl (eff_store rfl rfl rfl (by repeat' first | exact Upd.here rfl | apply Upd.skip | apply Upd.app)) ?_; rintro _ _ ⟨rfl, rfl⟩
  refine GO_nil ?_
  (repeat first | refine G_seq ?_ | refine G_skip ?_ | refine G_endblk ?_ | refine G_block ?_ | refine G_exit rfl ?_)
  refine G_region ?_
  refine GO_q rfl rfl (ev_move rfl) ?_
  refine GO_q rfl rfl (ev_move rfl) ?_
  (first | refine GO_q rfl rfl (ev_nilCheck rfl) ?_ | refine GO_q rfl rfl (ev_nilCheckF (by simp) rfl) ?_)
  refine GO_q rfl rfl (ev_fieldAddr rfl) ?_
  refine GO_q rfl rfl (ev_loadN rfl (by repeat' first | exact LdN.blk rfl | assumption | apply LdN.skip | apply LdN.app)) ?_
  refine GO_eff rfl rfl (eff_buildSlice1 (by rfl) rfl rfl) ?_; rintro _ _ ⟨b14, rfl, rfl⟩
  refine GO_eff rfl rfl (eff_call rfl (Around1_ctr p _ 1 _ (Rc.blk rfl) (by decide))) ?_; rintro _ _ ⟨rfl, rfl⟩
  refine GO_q rfl rfl (ev_move rfl) ?_
  refine GO_q rfl rfl (ev_extract rfl rfl) ?_
  refine GO_q rfl rfl (ev_extract rfl rfl) ?_
  (first | refine GO_q rfl rfl (ev_nilCheck rfl) ?_ | refine GO_q rfl rfl (ev_nilCheckF (by simp) rfl) ?_)
  refine GO_q rfl rfl (ev_fieldAddr rfl) ?_
  refine GO_eff rfl rfl (eff_storeN rfl rfl rfl rfl (by repeat' first | exact Upd.here rfl | apply Upd.skip | apply Upd.app)) ?_; rintro _ _ ⟨rfl, rfl⟩
  refine GO_nil ?_
  (repeat first | refine G_seq ?_ | refine G_skip ?_ | refine G_endblk ?_ | refine G_block ?_ | refine G_exit rfl ?_)
  refine G_region ?_
  refine GO_q rfl rfl (ev_move rfl) ?_
  (first | refine GO_q rfl rfl (ev_nilCheck rfl) ?_ | refine GO_q rfl rfl (ev_nilCheckF (by simp) rfl) ?_)
  refine GO_q rfl rfl (ev_fieldAddr rfl) ?_
  refine GO_q rfl rfl (ev_loadN rfl (by repeat' first | exact LdN.blk rfl | assumption | apply LdN.skip | apply LdN.app)) ?_
  refine GO_q rfl rfl (ev_move rfl) ?_
  refine GO_nil ?_
  (repeat first | refine G_seq ?_ | refine G_skip ?_ | refine G_endblk ?_ | refine G_block ?_ | refine G_exit rfl ?_)
  refine G_loop (ι := Nat) (fun k => [(0, .pointer (some ⟨b, 0, none⟩)), (23, .agg #[.pointer none, .pointer none]), (24, .int .i64 (k : Nat))]) (fun _ => blk b 67 (knC p gone none none 1 p.bx) :: F :: L) (fun k => k ≤ 2) (fun k => 2 - k) 0 (by decide) ⟨rfl, rfl, rfl, trivial⟩ (by (repeat first | exact en_refl | (apply en_blk; focus ((repeat' first | exact Pick.here | apply Pick.skip | apply Pick.app); done); focus rfl) | (apply en_own; focus ((repeat' first | exact Pick.here | apply Pick.skip | apply Pick.app); done); focus rfl) | (apply en_pick; focus ((repeat' first | exact Pick.here | apply Pick.skip | apply Pick.app); done)) | apply en_drop | apply en_app) <;> fail) ?_
  rintro k hk
  have hk3 : k < 2 → ([.pointer none, .pointer none] : List Value)[k * 1]? = some (.pointer none) := fun h => by
    rcases (by omega : k = 0 ∨ k = 1) with rfl | rfl <;> rfl
  (repeat first | refine G_seq ?_ | refine G_skip ?_ | refine G_endblk ?_ | refine G_block ?_ | refine G_exit rfl ?_)
  refine G_region ?_
  (first | refine GO_q rfl rfl (ev_lssN (q := 2) rfl rfl) ?_ | refine GO_q rfl rfl (ev_lss rfl rfl) ?_)
  refine GO_nil ?_
  (repeat first | refine G_seq ?_ | refine G_skip ?_ | refine G_endblk ?_ | refine G_block ?_ | refine G_exit rfl ?_)
  refine G_cond rfl (fun h1 => ?_) (fun h1 => ?_)
  · (repeat first | refine G_seq ?_ | refine G_skip ?_ | refine G_endblk ?_ | refine G_block ?_ | refine G_exit rfl ?_)
    refine G_region ?_
    refine GO_q rfl rfl (ev_indexA (cs := [.pointer none, .pointer none]) (i := k) rfl rfl (by omega) (hk3 (by omega))) ?_
    refine GO_q rfl rfl (ev_assign rfl) ?_
    refine GO_nil ?_
    (repeat first | refine G_seq ?_ | refine G_skip ?_ | refine G_endblk ?_ | refine G_block ?_ | refine G_exit rfl ?_)
    refine G_region ?_
    refine GO_q rfl rfl (ev_move rfl) ?_
    (first | refine GO_q rfl rfl (ev_neqNil rfl rfl) ?_ | refine GO_q rfl rfl (ev_neqPtr rfl rfl) ?_)
    refine GO_nil ?_
    (repeat first | refine G_seq ?_ | refine G_skip ?_ | refine G_endblk ?_ | refine G_block ?_ | refine G_exit rfl ?_)
    refine G_cond_f rfl rfl ?_
    (repeat first | refine G_seq ?_ | refine G_skip ?_ | refine G_endblk ?_ | refine G_block ?_ | refine G_exit rfl ?_)
    refine G_region ?_
    (first | refine GO_q rfl rfl (ev_addN (q := 1) rfl rfl (by first | omega | (simp; done) | (simp; omega))) ?_ | refine GO_q rfl rfl (ev_add rfl rfl (by first | omega | (simp; done) | (simp; omega))) ?_)
    refine GO_q rfl rfl (ev_move rfl) ?_
    refine GO_nil ?_
    (repeat first | refine G_seq ?_ | refine G_skip ?_ | refine G_endblk ?_ | refine G_block ?_ | refine G_exit rfl ?_)
    exact G_round (k + 1) (by show k + 1 ≤ 2; omega) (by show 2 - (k + 1) < 2 - k; omega) ⟨rfl, rfl, rfl, trivial⟩ (by (repeat first | exact fun _ s => s | apply en_keep | apply en_drop | apply en_app) <;> fail)
  · (repeat first | refine G_seq ?_ | refine G_skip ?_ | refine G_endblk ?_ | refine G_block ?_ | refine G_exit rfl ?_)
    refine G_region ?_
    refine GO_q rfl rfl (ev_move rfl) ?_
    refine GO_q rfl rfl (ev_assign rfl) ?_
    refine GO_nil ?_
    (repeat first | refine G_seq ?_ | refine G_skip ?_ | refine G_endblk ?_ | refine G_block ?_ | refine G_exit rfl ?_)
    exact G_ret (L' := blk b 67 (knC p gone none none 1 p.bx) :: L) rfl (.tmp rfl .nil) (by (repeat first | exact en_refl | (apply en_blk; focus ((repeat' first | exact Pick.here | apply Pick.skip | apply Pick.app); done); focus rfl) | (apply en_own; focus ((repeat' first | exact Pick.here | apply Pick.skip | apply Pick.app); done); focus rfl) | (apply en_pick; focus ((repeat' first | exact Pick.here | apply Pick.skip | apply Pick.app); done)) | apply en_drop | apply en_app) <;> fail) ⟨rfl, rfl⟩
theorem kNew_ctr (most : Int) (L : List HP) (h1 : 1 ≤ most) (h2 : most ≤ 1048576) : Ctr Try.prog 7 #[.int .i64 most] L fun v L' => ∃ t, v = .tuple #[.pointer (some ⟨t, 0, none⟩), .int .i64 0] ∧ L' = blk t 60 [.pointer none, .int .i64 0, .int .i64 most, .int .i64 0] :: L := by
  refine Ctr_of (fn := Try.f7) (n := 13) Try.func7 rfl rfl rfl ?_
  intro g F
  (repeat first | refine G_seq ?_ | refine G_skip ?_ | refine G_endblk ?_ | refine G_block ?_ | refine G_exit rfl ?_)
  refine G_region ?_
  refine GO_q rfl rfl (ev_assign rfl) ?_
  refine GO_q rfl rfl (ev_assign rfl) ?_
  refine GO_nil ?_
  (repeat first | refine G_seq ?_ | refine G_skip ?_ | refine G_endblk ?_ | refine G_block ?_ | refine G_exit rfl ?_)
  refine G_region ?_
  refine GO_q rfl rfl (ev_move rfl) ?_
  (first | refine GO_q rfl rfl (ev_lssN (q := 1) rfl rfl) ?_ | refine GO_q rfl rfl (ev_lss rfl rfl) ?_)
  refine GO_q rfl rfl (ev_move rfl) ?_
  refine GO_yes rfl rfl rfl (decide_eq_false (by omega)) ?_
  refine GO_q rfl rfl (ev_move rfl) ?_
  refine GO_yes rfl rfl rfl (decide_eq_false (by omega)) ?_
  refine GO_q rfl rfl (ev_gtr rfl rfl) ?_
  refine GO_q rfl rfl (ev_pick_f rfl (decide_eq_false (by omega)) rfl) ?_
  refine GO_nil ?_
  (repeat first | refine G_seq ?_ | refine G_skip ?_ | refine G_endblk ?_ | refine G_block ?_ | refine G_exit rfl ?_)
  refine G_cond_f rfl (decide_eq_false (by omega)) ?_
  (repeat first | refine G_seq ?_ | refine G_skip ?_ | refine G_endblk ?_ | refine G_block ?_ | refine G_exit rfl ?_)
  refine G_region ?_
  refine GO_q rfl rfl (ev_move rfl) ?_
  refine GO_q rfl rfl (ev_build rfl rfl) ?_
  refine GO_eff rfl rfl (eff_box rfl) ?_; rintro _ _ ⟨b12, rfl, rfl⟩
  refine GO_q rfl rfl (ev_assign rfl) ?_
  refine GO_q rfl rfl (ev_assign rfl) ?_
  refine GO_nil ?_
  (repeat first | refine G_seq ?_ | refine G_skip ?_ | refine G_endblk ?_ | refine G_block ?_ | refine G_exit rfl ?_)
  exact G_ret (L' := blk b12 60 [.pointer none, .int .i64 0, .int .i64 most, .int .i64 0] :: L) rfl (.tmp rfl (.tmp rfl .nil)) (by (repeat first | exact en_refl | (apply en_blk; focus ((repeat' first | exact Pick.here | apply Pick.skip | apply Pick.app); done); focus rfl) | (apply en_own; focus ((repeat' first | exact Pick.here | apply Pick.skip | apply Pick.app); done); focus rfl) | (apply en_pick; focus ((repeat' first | exact Pick.here | apply Pick.skip | apply Pick.app); done)) | apply en_drop | apply en_app) <;> fail) ⟨b12, rfl, rfl⟩
theorem kfind0_ctr (t : Nat) (p : Pt) (L : List HP) (h : Ld L ⟨t, 0 + 0, none⟩ (.pointer none)) : Ctr Try.prog 42 #[.pointer (some ⟨t, 0, none⟩), p.v] L fun v L' => v = .pointer none ∧ L' = L := by
  refine Ctr_of (fn := Try.f42) (n := 33) Try.func42 rfl rfl rfl ?_
  intro g F
  (repeat first | refine G_seq ?_ | refine G_skip ?_ | refine G_endblk ?_ | refine G_block ?_ | refine G_exit rfl ?_)
  refine G_region ?_
  refine GO_eff rfl rfl (eff_box rfl) ?_; rintro _ _ ⟨b3, rfl, rfl⟩
  refine GO_q rfl rfl (ev_assign rfl) ?_
  refine GO_nil ?_
  (repeat first | refine G_seq ?_ | refine G_skip ?_ | refine G_endblk ?_ | refine G_block ?_ | refine G_exit rfl ?_)
  refine G_region ?_
  refine GO_q rfl rfl (ev_move rfl) ?_
  (first | refine GO_q rfl rfl (ev_nilCheck rfl) ?_ | refine GO_q rfl rfl (ev_nilCheckF (by simp) rfl) ?_)
  refine GO_q rfl rfl (ev_fieldAddr rfl) ?_
  refine GO_q rfl rfl (ev_load rfl (by repeat' first | exact h | apply Ld.skip)) ?_
  refine GO_q rfl rfl (ev_assign rfl) ?_
  refine GO_nil ?_
  (repeat first | refine G_seq ?_ | refine G_skip ?_ | refine G_endblk ?_ | refine G_block ?_ | refine G_exit rfl ?_)
  refine G_region ?_
  refine GO_q rfl rfl (ev_assign rfl) ?_
  refine GO_nil ?_
  (repeat first | refine G_seq ?_ | refine G_skip ?_ | refine G_endblk ?_ | refine G_block ?_ | refine G_exit rfl ?_)
  refine G_loop (ι := Unit) (fun _ => [(3, .pointer (some ⟨b3, 0, none⟩)), (5, .pointer none)]) (fun _ => blk b3 27 [.int .i64 p.id, .int .i64 p.x, .int .i64 p.y] :: F :: L) (fun _ => True) (fun _ => 0) () trivial ⟨rfl, rfl, trivial⟩ (by (repeat first | exact en_refl | (apply en_blk; focus ((repeat' first | exact Pick.here | apply Pick.skip | apply Pick.app); done); focus rfl) | (apply en_own; focus ((repeat' first | exact Pick.here | apply Pick.skip | apply Pick.app); done); focus rfl) | (apply en_pick; focus ((repeat' first | exact Pick.here | apply Pick.skip | apply Pick.app); done)) | apply en_drop | apply en_app) <;> fail) ?_
  rintro _ -
  (repeat first | refine G_seq ?_ | refine G_skip ?_ | refine G_endblk ?_ | refine G_block ?_ | refine G_exit rfl ?_)
  refine G_draw (.q 0 (.q 1 (.q 2 (.q 3 (.q 4 (.q 5 (.q 6 (.q 7 (.q 8 (.q 9 .nil)))))))))) (by kernel_rfl) (by kernel_rfl) ?_
  refine RS_m retB_noPanic rfl rfl rfl rfl (ev_move rfl) ?_
  (first | refine RS_m retB_noPanic rfl rfl rfl rfl (ev_neqNil rfl rfl) ?_ | refine RS_m retB_noPanic rfl rfl rfl rfl (ev_neqPtr rfl rfl) ?_)
  refine RS_m retB_noPanic rfl rfl rfl rfl (ev_move rfl) ?_
  refine RS_q_no retB_noPanic rfl rfl rfl ⟨_, rfl, rfl⟩ rfl ?_
  refine RS_q_no retB_noPanic rfl rfl rfl ⟨_, rfl, rfl⟩ rfl ?_
  refine RS_q_no retB_noPanic rfl rfl rfl ⟨_, rfl, rfl⟩ rfl ?_
  refine RS_q_no retB_noPanic rfl rfl rfl ⟨_, rfl, rfl⟩ rfl ?_
  refine RS_q_no retB_noPanic rfl rfl rfl ⟨_, rfl, rfl⟩ rfl ?_
  refine RS_q_no retB_noPanic rfl rfl rfl ⟨_, rfl, rfl⟩ rfl ?_
  refine RS_m retB_noPanic rfl rfl rfl rfl (ev_pick_f rfl rfl rfl) ?_
  refine RS_nil ?_
  (repeat first | refine G_seq ?_ | refine G_skip ?_ | refine G_endblk ?_ | refine G_block ?_ | refine G_exit rfl ?_)
  refine G_cond_f rfl rfl ?_
  (repeat first | refine G_seq ?_ | refine G_skip ?_ | refine G_endblk ?_ | refine G_block ?_ | refine G_exit rfl ?_)
  refine G_region ?_
  refine GO_q rfl rfl (ev_move rfl) ?_
  refine GO_q rfl rfl (ev_assign rfl) ?_
  refine GO_nil ?_
  (repeat first | refine G_seq ?_ | refine G_skip ?_ | refine G_endblk ?_ | refine G_block ?_ | refine G_exit rfl ?_)
  refine G_ret rfl (.tmp rfl .nil) (by (repeat first | exact fun _ s => s | apply en_keep | apply en_drop | apply en_app) <;> fail) ⟨rfl, rfl⟩
theorem khas0_ctr (t : Nat) (p : Pt) (L : List HP) (h : Ld L ⟨t, 0 + 0, none⟩ (.pointer none)) : Ctr Try.prog 30 #[.pointer (some ⟨t, 0, none⟩), p.v] L fun v L' => v = .bool false ∧ L' = L := by
  refine Ctr_of (fn := Try.f30) (n := 20) Try.func30 rfl rfl rfl ?_
  intro g F
  (repeat first | refine G_seq ?_ | refine G_skip ?_ | refine G_endblk ?_ | refine G_block ?_ | refine G_exit rfl ?_)
  refine G_region ?_
  refine GO_eff rfl rfl (eff_box rfl) ?_; rintro _ _ ⟨b3, rfl, rfl⟩
  refine GO_q rfl rfl (ev_assign rfl) ?_
  refine GO_nil ?_
  (repeat first | refine G_seq ?_ | refine G_skip ?_ | refine G_endblk ?_ | refine G_block ?_ | refine G_exit rfl ?_)
  refine G_region ?_
  refine GO_q rfl rfl (ev_move rfl) ?_
  (first | refine GO_q rfl rfl (ev_eqlNil rfl rfl) ?_ | refine GO_q rfl rfl (ev_eqlPtr rfl rfl) ?_)
  refine GO_nil ?_
  (repeat first | refine G_seq ?_ | refine G_skip ?_ | refine G_endblk ?_ | refine G_block ?_ | refine G_exit rfl ?_)
  refine G_cond_f rfl rfl ?_
  (repeat first | refine G_seq ?_ | refine G_skip ?_ | refine G_endblk ?_ | refine G_block ?_ | refine G_exit rfl ?_)
  refine G_region ?_
  refine GO_q rfl rfl (ev_move rfl) ?_
  refine GO_q rfl rfl (ev_loadN rfl (by repeat' first | exact LdN.blk rfl | assumption | apply LdN.skip | apply LdN.app)) ?_
  refine GO_eff rfl rfl (eff_call rfl (kfind0_ctr t p _ h.skip.skip)) ?_; rintro _ _ ⟨rfl, rfl⟩
  refine GO_q rfl rfl (ev_assign rfl) ?_
  refine GO_nil ?_
  (repeat first | refine G_seq ?_ | refine G_skip ?_ | refine G_endblk ?_ | refine G_block ?_ | refine G_exit rfl ?_)
  refine G_region ?_
  refine GO_q rfl rfl (ev_move rfl) ?_
  (first | refine GO_q rfl rfl (ev_neqNil rfl rfl) ?_ | refine GO_q rfl rfl (ev_neqPtr rfl rfl) ?_)
  refine GO_q rfl rfl (ev_move rfl) ?_
  refine GO_no rfl rfl rfl rfl ?_
  refine GO_no rfl rfl rfl rfl ?_
  refine GO_no rfl rfl rfl rfl ?_
  refine GO_no rfl rfl rfl rfl ?_
  refine GO_no rfl rfl rfl rfl ?_
  refine GO_q rfl rfl (ev_pick_f rfl rfl rfl) ?_
  refine GO_q rfl rfl (ev_assign rfl) ?_
  refine GO_nil ?_
  (repeat first | refine G_seq ?_ | refine G_skip ?_ | refine G_endblk ?_ | refine G_block ?_ | refine G_exit rfl ?_)
  refine G_ret rfl (.tmp rfl .nil) (by (repeat first | exact fun _ s => s | apply en_keep | apply en_drop | apply en_app) <;> fail) ⟨rfl, rfl⟩
theorem kput0_ctr (t : Value) (p : Pt) (level : Int) (L : List HP) : Ctr Try.prog 31 #[t, .pointer none, p.v, .int .i64 level] L fun v L' => ∃ b, v = .pointer (some ⟨b, 0, none⟩) ∧ L' = blk b 67 (knC p false none none 1 p.bx) :: L := by
  refine Ctr_of (fn := Try.f31) (n := 55) Try.func31 rfl rfl rfl ?_
  intro g F
  (repeat first | refine G_seq ?_ | refine G_skip ?_ | refine G_endblk ?_ | refine G_block ?_ | refine G_exit rfl ?_)
  refine G_region ?_
  refine GO_eff rfl rfl (eff_box rfl) ?_; rintro _ _ ⟨b6, rfl, rfl⟩
  refine GO_q rfl rfl (ev_assign rfl) ?_
  refine GO_nil ?_
  (repeat first | refine G_seq ?_ | refine G_skip ?_ | refine G_endblk ?_ | refine G_block ?_ | refine G_exit rfl ?_)
  refine G_region ?_
  refine GO_q rfl rfl (ev_move rfl) ?_
  (first | refine GO_q rfl rfl (ev_eqlNil rfl rfl) ?_ | refine GO_q rfl rfl (ev_eqlPtr rfl rfl) ?_)
  refine GO_nil ?_
  (repeat first | refine G_seq ?_ | refine G_skip ?_ | refine G_endblk ?_ | refine G_block ?_ | refine G_exit rfl ?_)
  refine G_cond_t rfl rfl ?_
  (repeat first | refine G_seq ?_ | refine G_skip ?_ | refine G_endblk ?_ | refine G_block ?_ | refine G_exit rfl ?_)
  refine G_region ?_
  refine GO_q rfl rfl (ev_loadN rfl (by repeat' first | exact LdN.blk rfl | assumption | apply LdN.skip | apply LdN.app)) ?_
  refine GO_q rfl rfl (ev_build rfl rfl) ?_
  refine GO_eff rfl rfl (eff_box rfl) ?_; rintro _ _ ⟨b14, rfl, rfl⟩
  refine GO_eff rfl rfl (eff_call rfl (note1_ctr b14 p false 0 ⟨0, 0, 0, 0⟩ _)) ?_; rintro _ _ ⟨rfl, rfl⟩
  refine GO_q rfl rfl (ev_assign rfl) ?_
  refine GO_nil ?_
  (repeat first | refine G_seq ?_ | refine G_skip ?_ | refine G_endblk ?_ | refine G_block ?_ | refine G_exit rfl ?_)
  exact G_ret (L' := blk b14 67 (knC p false none none 1 p.bx) :: L) rfl (.tmp rfl .nil) (by (repeat first | exact en_refl | (apply en_blk; focus ((repeat' first | exact Pick.here | apply Pick.skip | apply Pick.app); done); focus rfl) | (apply en_own; focus ((repeat' first | exact Pick.here | apply Pick.skip | apply Pick.app); done); focus rfl) | (apply en_pick; focus ((repeat' first | exact Pick.here | apply Pick.skip | apply Pick.app); done)) | apply en_drop | apply en_app) <;> fail) ⟨b14, rfl, rfl⟩
theorem ksize1_ctr (b : Nat) (L : List HP) (n : Int) (h : Ld L ⟨b, 0 + 6, none⟩ (.int .i64 n)) : Ctr Try.prog 33 #[.pointer (some ⟨b, 0, none⟩)] L fun v L' => v = .int .i64 n ∧ L' = L := by
  refine Ctr_of (fn := Try.f33) (n := 9) Try.func33 rfl rfl rfl ?_
  intro g F
  (repeat first | refine G_seq ?_ | refine G_skip ?_ | refine G_endblk ?_ | refine G_block ?_ | refine G_exit rfl ?_)
  refine G_region ?_
  refine GO_q rfl rfl (ev_assign rfl) ?_
  refine GO_nil ?_
  (repeat first | refine G_seq ?_ | refine G_skip ?_ | refine G_endblk ?_ | refine G_block ?_ | refine G_exit rfl ?_)
  refine G_region ?_
  refine GO_q rfl rfl (ev_move rfl) ?_
  (first | refine GO_q rfl rfl (ev_eqlNil rfl rfl) ?_ | refine GO_q rfl rfl (ev_eqlPtr rfl rfl) ?_)
  refine GO_nil ?_
  (repeat first | refine G_seq ?_ | refine G_skip ?_ | refine G_endblk ?_ | refine G_block ?_ | refine G_exit rfl ?_)
  refine G_cond_f rfl rfl ?_
  (repeat first | refine G_seq ?_ | refine G_skip ?_ | refine G_endblk ?_ | refine G_block ?_ | refine G_exit rfl ?_)
  refine G_region ?_
  refine GO_q rfl rfl (ev_move rfl) ?_
  (first | refine GO_q rfl rfl (ev_nilCheck rfl) ?_ | refine GO_q rfl rfl (ev_nilCheckF (by simp) rfl) ?_)
  refine GO_q rfl rfl (ev_fieldAddr rfl) ?_
  refine GO_q rfl rfl (ev_load rfl (by repeat' first | exact h | apply Ld.skip)) ?_
  refine GO_q rfl rfl (ev_assign rfl) ?_
  refine GO_nil ?_
  (repeat first | refine G_seq ?_ | refine G_skip ?_ | refine G_endblk ?_ | refine G_block ?_ | refine G_exit rfl ?_)
  refine G_ret rfl (.tmp rfl .nil) (by (repeat first | exact fun _ s => s | apply en_keep | apply en_drop | apply en_app) <;> fail) ⟨rfl, rfl⟩
theorem kclean1_ctr (t b : Nat) (L : List HP) (h1 : Ld L ⟨t, 0 + 0, none⟩ (.pointer (some ⟨b, 0, none⟩))) (h2 : Ld L ⟨t, 0 + 1, none⟩ (.int .i64 1)) (h3 : Ld L ⟨b, 0 + 6, none⟩ (.int .i64 1)) : Ctr Try.prog 32 #[.pointer (some ⟨t, 0, none⟩)] L fun v L' => v = .tuple #[] ∧ L' = L := by
  refine Ctr_of (fn := Try.f32) (n := 28) Try.func32 rfl rfl rfl ?_
  intro g F
  (repeat first | refine G_seq ?_ | refine G_skip ?_ | refine G_endblk ?_ | refine G_block ?_ | refine G_exit rfl ?_)
  refine G_region ?_
  refine GO_q rfl rfl (ev_move rfl) ?_
  (first | refine GO_q rfl rfl (ev_nilCheck rfl) ?_ | refine GO_q rfl rfl (ev_nilCheckF (by simp) rfl) ?_)
  refine GO_q rfl rfl (ev_fieldAddr rfl) ?_
  refine GO_q rfl rfl (ev_load rfl (by repeat' first | exact h1 | apply Ld.skip)) ?_
  refine GO_eff rfl rfl (eff_call rfl (ksize1_ctr b _ 1 h3.skip)) ?_; rintro _ _ ⟨rfl, rfl⟩
  refine GO_q rfl rfl (ev_assign rfl) ?_
  refine GO_nil ?_
  (repeat first | refine G_seq ?_ | refine G_skip ?_ | refine G_endblk ?_ | refine G_block ?_ | refine G_exit rfl ?_)
  refine G_region ?_
  refine GO_q rfl rfl (ev_move rfl) ?_
  refine GO_q rfl rfl (ev_move rfl) ?_
  (first | refine GO_q rfl rfl (ev_nilCheck rfl) ?_ | refine GO_q rfl rfl (ev_nilCheckF (by simp) rfl) ?_)
  refine GO_q rfl rfl (ev_fieldAddr rfl) ?_
  refine GO_q rfl rfl (ev_load rfl (by repeat' first | exact h2 | apply Ld.skip)) ?_
  (first | refine GO_q rfl rfl (ev_subN rfl rfl (by first | omega | (simp; done) | (simp; omega))) ?_ | refine GO_q rfl rfl (ev_sub rfl rfl (by first | omega | (simp; done) | (simp; omega))) ?_)
  refine GO_q rfl rfl (ev_move rfl) ?_
  (first | refine GO_q rfl rfl (ev_addN (q := 1) rfl rfl (by first | omega | (simp; done) | (simp; omega))) ?_ | refine GO_q rfl rfl (ev_add rfl rfl (by first | omega | (simp; done) | (simp; omega))) ?_)
  (first | refine GO_q rfl rfl (ev_quoN (q := 2) rfl rfl (by first | omega | (simp; done) | (simp; omega)) (by first | omega | (simp; done) | (simp; omega))) ?_ | refine GO_q rfl rfl (ev_quo rfl rfl (by first | omega | (simp; done) | (simp; omega)) (by first | omega | (simp; done) | (simp; omega)) (by first | omega | (simp; done) | (simp; omega))) ?_)
  refine GO_q rfl rfl (ev_gtr rfl rfl) ?_
  refine GO_nil ?_
  (repeat first | refine G_seq ?_ | refine G_skip ?_ | refine G_endblk ?_ | refine G_block ?_ | refine G_exit rfl ?_)
  refine G_cond_f rfl rfl ?_
  (repeat first | refine G_seq ?_ | refine G_skip ?_ | refine G_endblk ?_ | refine G_block ?_ | refine G_exit rfl ?_)
  exact G_end (rs := []) (vs := []) (L' := L) rfl .nil (by (repeat first | exact fun _ s => s | apply en_keep | apply en_drop | apply en_app) <;> fail) ⟨rfl, rfl⟩
end Go.Proofs.Ytjgdhkilnalejaa
