/- The reference's order of points. -/
import Derived.Test.YtalcanejhniepaaCm
import Derived.Test.YtalcanejhniepaaTy3
namespace Go.Proofs.Ytalcanejhniepaa
attribute [local irreducible] sat
set_option linter.unusedVariables false
set_option linter.unusedSimpArgs false
set_option maxRecDepth 100000

def three (a b c d e f : Int) : Int := if a < d then -1 else if d < a then 1 else if b < e then -1 else if e < b then 1 else if c < f then -1 else if f < c then 1 else 0
theorem three_up (p q : Pt) : three p.y p.x p.id q.y q.x q.id = up p q := by
  obtain ⟨pi, px, py⟩ := p
  obtain ⟨qi, qx, qy⟩ := q
  simp only [three, up, Pt.cmp, Pt.turned, Pt.less]
  by_cases h1 : py = qy
  · by_cases h2 : px = qx
    · by_cases h3 : pi = qi
      · simp [h1, h2, h3]
      · subst h1 h2
        by_cases h4 : pi < qi
        · simp [h3, h4]
        · have h5 : qi < pi := by omega
          simp [h3, h4, h5]
    · subst h1
      by_cases h4 : px < qx
      · simp [h2, h4]
      · have h5 : qx < px := by omega
        simp [h2, h4, h5]
  · by_cases h4 : py < qy
    · simp [h1, h4]
    · have h5 : qy < py := by omega
      simp [h1, h4, h5]
theorem Three_ctr (a b c d e f : Int) (L : List HP) : Ctr Try.prog 43 #[.agg #[.int .i64 a, .int .i64 b, .int .i64 c], .agg #[.int .i64 d, .int .i64 e, .int .i64 f]] L fun v L' => v = .int .i64 (three a b c d e f) ∧ L' = L := by
  refine Ctr_of (fn := Try.f43) (n := 24) Try.func43 rfl rfl rfl ?_
  intro g F
  (repeat first | refine G_seq ?_ | refine G_skip ?_ | refine G_endblk ?_ | refine G_block ?_ | refine G_exit rfl ?_)
  refine G_region ?_
  refine GO_eff rfl rfl (eff_box rfl) ?_; rintro _ _ ⟨b2, rfl, rfl⟩
  refine GO_eff rfl rfl (eff_box rfl) ?_; rintro _ _ ⟨b3, rfl, rfl⟩
  refine GO_q rfl rfl (ev_assign rfl) ?_
  refine GO_nil ?_
  (repeat first | refine G_seq ?_ | refine G_skip ?_ | refine G_endblk ?_ | refine G_block ?_ | refine G_exit rfl ?_)
  refine G_region ?_
  refine GO_q rfl rfl (ev_assign rfl) ?_
  refine GO_nil ?_
  (repeat first | refine G_seq ?_ | refine G_skip ?_ | refine G_endblk ?_ | refine G_block ?_ | refine G_exit rfl ?_)
  refine G_loop (ι := Nat) (fun k => [(2, .pointer (some ⟨b2, 0, none⟩)), (3, .pointer (some ⟨b3, 0, none⟩)), (5, .int .i64 (k : Nat))]) (fun _ => blk b3 85 [.int .i64 d, .int .i64 e, .int .i64 f] :: blk b2 85 [.int .i64 a, .int .i64 b, .int .i64 c] :: F :: L) (fun k => k ≤ 3 ∧ (0 < k → a = d) ∧ (1 < k → b = e) ∧ (2 < k → c = f)) (fun k => 3 - k) 0 ⟨by omega, by omega, by omega, by omega⟩ ⟨rfl, rfl, rfl, trivial⟩ (fun _ s => s) ?_
  rintro k ⟨f1, f2, f3, f4⟩
  match k with
  | 0 =>
    (repeat first | refine G_seq ?_ | refine G_skip ?_ | refine G_endblk ?_ | refine G_block ?_ | refine G_exit rfl ?_)
    refine G_region ?_
    refine GO_q rfl rfl (ev_move rfl) ?_
    (first | refine GO_q rfl rfl (ev_lssN (q := 3) rfl rfl) ?_ | refine GO_q rfl rfl (ev_lss rfl rfl) ?_)
    refine GO_nil ?_
    (repeat first | refine G_seq ?_ | refine G_skip ?_ | refine G_endblk ?_ | refine G_block ?_ | refine G_exit rfl ?_)
    refine G_cond_t rfl rfl ?_
    (repeat first | refine G_seq ?_ | refine G_skip ?_ | refine G_endblk ?_ | refine G_block ?_ | refine G_exit rfl ?_)
    refine G_draw (.q 0 (.q 1 (.q 2 (.q 3 (.q 4 (.q 5 (.q 6 .nil))))))) (by kernel_rfl) (by kernel_rfl) ?_
    refine RS_q retB_noPanic rfl rfl rfl (ev_move rfl) ?_
    refine RS_q retB_noPanic rfl rfl rfl (ev_indexAddrA rfl rfl (by first | omega | (simp; done) | (simp; omega)) (by first | omega | (simp; done) | (simp; omega))) ?_
    refine RS_q retB_noPanic rfl rfl rfl (ev_load rfl (by repeat' first | exact Ld.blk rfl | assumption | apply Ld.skip | apply Ld.app)) ?_
    refine RS_q retB_noPanic rfl rfl rfl (ev_move rfl) ?_
    refine RS_q retB_noPanic rfl rfl rfl (ev_indexAddrA rfl rfl (by first | omega | (simp; done) | (simp; omega)) (by first | omega | (simp; done) | (simp; omega))) ?_
    refine RS_q retB_noPanic rfl rfl rfl (ev_load rfl (by repeat' first | exact Ld.blk rfl | assumption | apply Ld.skip | apply Ld.app)) ?_
    (first | refine RS_q retB_noPanic rfl rfl rfl (ev_lssN rfl rfl) ?_ | refine RS_q retB_noPanic rfl rfl rfl (ev_lss rfl rfl) ?_)
    refine RS_nil ?_
    (repeat first | refine G_seq ?_ | refine G_skip ?_ | refine G_endblk ?_ | refine G_block ?_ | refine G_exit rfl ?_)
    refine G_cond rfl (fun h1 => ?_) (fun h1 => ?_)
    · (repeat first | refine G_seq ?_ | refine G_skip ?_ | refine G_endblk ?_ | refine G_block ?_ | refine G_exit rfl ?_)
      refine G_region ?_
      refine GO_q rfl rfl (ev_assign rfl) ?_
      refine GO_nil ?_
      (repeat first | refine G_seq ?_ | refine G_skip ?_ | refine G_endblk ?_ | refine G_block ?_ | refine G_exit rfl ?_)
      refine G_ret rfl (.tmp rfl .nil) (by (repeat first | exact fun _ s => s | apply en_keep | apply en_drop | apply en_app) <;> fail) ⟨by simp [retv, three, h1], rfl⟩
    · (repeat first | refine G_seq ?_ | refine G_skip ?_ | refine G_endblk ?_ | refine G_block ?_ | refine G_exit rfl ?_)
      refine G_draw (.q 0 (.q 1 (.q 2 (.q 3 (.q 4 (.q 5 (.q 6 .nil))))))) (by kernel_rfl) (by kernel_rfl) ?_
      refine RS_q retB_noPanic rfl rfl rfl (ev_move rfl) ?_
      refine RS_q retB_noPanic rfl rfl rfl (ev_indexAddrA rfl rfl (by first | omega | (simp; done) | (simp; omega)) (by first | omega | (simp; done) | (simp; omega))) ?_
      refine RS_q retB_noPanic rfl rfl rfl (ev_load rfl (by repeat' first | exact Ld.blk rfl | assumption | apply Ld.skip | apply Ld.app)) ?_
      refine RS_q retB_noPanic rfl rfl rfl (ev_move rfl) ?_
      refine RS_q retB_noPanic rfl rfl rfl (ev_indexAddrA rfl rfl (by first | omega | (simp; done) | (simp; omega)) (by first | omega | (simp; done) | (simp; omega))) ?_
      refine RS_q retB_noPanic rfl rfl rfl (ev_load rfl (by repeat' first | exact Ld.blk rfl | assumption | apply Ld.skip | apply Ld.app)) ?_
      refine RS_q retB_noPanic rfl rfl rfl (ev_gtr rfl rfl) ?_
      refine RS_nil ?_
      (repeat first | refine G_seq ?_ | refine G_skip ?_ | refine G_endblk ?_ | refine G_block ?_ | refine G_exit rfl ?_)
      refine G_cond rfl (fun h2 => ?_) (fun h2 => ?_)
      · (repeat first | refine G_seq ?_ | refine G_skip ?_ | refine G_endblk ?_ | refine G_block ?_ | refine G_exit rfl ?_)
        refine G_region ?_
        refine GO_q rfl rfl (ev_assign rfl) ?_
        refine GO_nil ?_
        (repeat first | refine G_seq ?_ | refine G_skip ?_ | refine G_endblk ?_ | refine G_block ?_ | refine G_exit rfl ?_)
        refine G_ret rfl (.tmp rfl .nil) (by (repeat first | exact fun _ s => s | apply en_keep | apply en_drop | apply en_app) <;> fail) ⟨by simp [retv, three, h1, h2], rfl⟩
      · (repeat first | refine G_seq ?_ | refine G_skip ?_ | refine G_endblk ?_ | refine G_block ?_ | refine G_exit rfl ?_)
        refine G_region ?_
        refine GO_q rfl rfl (ev_move rfl) ?_
        (first | refine GO_q rfl rfl (ev_addN (q := 1) rfl rfl (by first | omega | (simp; done) | (simp; omega))) ?_ | refine GO_q rfl rfl (ev_add rfl rfl (by first | omega | (simp; done) | (simp; omega))) ?_)
        refine GO_q rfl rfl (ev_assign rfl) ?_
        refine GO_nil ?_
        (repeat first | refine G_seq ?_ | refine G_skip ?_ | refine G_endblk ?_ | refine G_block ?_ | refine G_exit rfl ?_)
        exact G_round 1 ⟨by omega, by omega, by omega, by omega⟩ (by omega) ⟨rfl, rfl, rfl, trivial⟩ (fun _ s => s)
  | 1 =>
    have e1 := f2 (by omega)
    subst e1
    (repeat first | refine G_seq ?_ | refine G_skip ?_ | refine G_endblk ?_ | refine G_block ?_ | refine G_exit rfl ?_)
    refine G_region ?_
    refine GO_q rfl rfl (ev_move rfl) ?_
    (first | refine GO_q rfl rfl (ev_lssN (q := 3) rfl rfl) ?_ | refine GO_q rfl rfl (ev_lss rfl rfl) ?_)
    refine GO_nil ?_
    (repeat first | refine G_seq ?_ | refine G_skip ?_ | refine G_endblk ?_ | refine G_block ?_ | refine G_exit rfl ?_)
    refine G_cond_t rfl rfl ?_
    (repeat first | refine G_seq ?_ | refine G_skip ?_ | refine G_endblk ?_ | refine G_block ?_ | refine G_exit rfl ?_)
    refine G_draw (.q 0 (.q 1 (.q 2 (.q 3 (.q 4 (.q 5 (.q 6 .nil))))))) (by kernel_rfl) (by kernel_rfl) ?_
    refine RS_q retB_noPanic rfl rfl rfl (ev_move rfl) ?_
    refine RS_q retB_noPanic rfl rfl rfl (ev_indexAddrA rfl rfl (by first | omega | (simp; done) | (simp; omega)) (by first | omega | (simp; done) | (simp; omega))) ?_
    refine RS_q retB_noPanic rfl rfl rfl (ev_load rfl (by repeat' first | exact Ld.blk rfl | assumption | apply Ld.skip | apply Ld.app)) ?_
    refine RS_q retB_noPanic rfl rfl rfl (ev_move rfl) ?_
    refine RS_q retB_noPanic rfl rfl rfl (ev_indexAddrA rfl rfl (by first | omega | (simp; done) | (simp; omega)) (by first | omega | (simp; done) | (simp; omega))) ?_
    refine RS_q retB_noPanic rfl rfl rfl (ev_load rfl (by repeat' first | exact Ld.blk rfl | assumption | apply Ld.skip | apply Ld.app)) ?_
    (first | refine RS_q retB_noPanic rfl rfl rfl (ev_lssN rfl rfl) ?_ | refine RS_q retB_noPanic rfl rfl rfl (ev_lss rfl rfl) ?_)
    refine RS_nil ?_
    (repeat first | refine G_seq ?_ | refine G_skip ?_ | refine G_endblk ?_ | refine G_block ?_ | refine G_exit rfl ?_)
    refine G_cond rfl (fun h1 => ?_) (fun h1 => ?_)
    · (repeat first | refine G_seq ?_ | refine G_skip ?_ | refine G_endblk ?_ | refine G_block ?_ | refine G_exit rfl ?_)
      refine G_region ?_
      refine GO_q rfl rfl (ev_assign rfl) ?_
      refine GO_nil ?_
      (repeat first | refine G_seq ?_ | refine G_skip ?_ | refine G_endblk ?_ | refine G_block ?_ | refine G_exit rfl ?_)
      refine G_ret rfl (.tmp rfl .nil) (by (repeat first | exact fun _ s => s | apply en_keep | apply en_drop | apply en_app) <;> fail) ⟨by simp [retv, three, h1], rfl⟩
    · (repeat first | refine G_seq ?_ | refine G_skip ?_ | refine G_endblk ?_ | refine G_block ?_ | refine G_exit rfl ?_)
      refine G_draw (.q 0 (.q 1 (.q 2 (.q 3 (.q 4 (.q 5 (.q 6 .nil))))))) (by kernel_rfl) (by kernel_rfl) ?_
      refine RS_q retB_noPanic rfl rfl rfl (ev_move rfl) ?_
      refine RS_q retB_noPanic rfl rfl rfl (ev_indexAddrA rfl rfl (by first | omega | (simp; done) | (simp; omega)) (by first | omega | (simp; done) | (simp; omega))) ?_
      refine RS_q retB_noPanic rfl rfl rfl (ev_load rfl (by repeat' first | exact Ld.blk rfl | assumption | apply Ld.skip | apply Ld.app)) ?_
      refine RS_q retB_noPanic rfl rfl rfl (ev_move rfl) ?_
      refine RS_q retB_noPanic rfl rfl rfl (ev_indexAddrA rfl rfl (by first | omega | (simp; done) | (simp; omega)) (by first | omega | (simp; done) | (simp; omega))) ?_
      refine RS_q retB_noPanic rfl rfl rfl (ev_load rfl (by repeat' first | exact Ld.blk rfl | assumption | apply Ld.skip | apply Ld.app)) ?_
      refine RS_q retB_noPanic rfl rfl rfl (ev_gtr rfl rfl) ?_
      refine RS_nil ?_
      (repeat first | refine G_seq ?_ | refine G_skip ?_ | refine G_endblk ?_ | refine G_block ?_ | refine G_exit rfl ?_)
      refine G_cond rfl (fun h2 => ?_) (fun h2 => ?_)
      · (repeat first | refine G_seq ?_ | refine G_skip ?_ | refine G_endblk ?_ | refine G_block ?_ | refine G_exit rfl ?_)
        refine G_region ?_
        refine GO_q rfl rfl (ev_assign rfl) ?_
        refine GO_nil ?_
        (repeat first | refine G_seq ?_ | refine G_skip ?_ | refine G_endblk ?_ | refine G_block ?_ | refine G_exit rfl ?_)
        refine G_ret rfl (.tmp rfl .nil) (by (repeat first | exact fun _ s => s | apply en_keep | apply en_drop | apply en_app) <;> fail) ⟨by simp [retv, three, h1, h2], rfl⟩
      · (repeat first | refine G_seq ?_ | refine G_skip ?_ | refine G_endblk ?_ | refine G_block ?_ | refine G_exit rfl ?_)
        refine G_region ?_
        refine GO_q rfl rfl (ev_move rfl) ?_
        (first | refine GO_q rfl rfl (ev_addN (q := 1) rfl rfl (by first | omega | (simp; done) | (simp; omega))) ?_ | refine GO_q rfl rfl (ev_add rfl rfl (by first | omega | (simp; done) | (simp; omega))) ?_)
        refine GO_q rfl rfl (ev_assign rfl) ?_
        refine GO_nil ?_
        (repeat first | refine G_seq ?_ | refine G_skip ?_ | refine G_endblk ?_ | refine G_block ?_ | refine G_exit rfl ?_)
        exact G_round 2 ⟨by omega, by omega, by omega, by omega⟩ (by omega) ⟨rfl, rfl, rfl, trivial⟩ (fun _ s => s)
  | 2 =>
    have e1 := f2 (by omega)
    have e2 := f3 (by omega)
    subst e1 e2
    (repeat first | refine G_seq ?_ | refine G_skip ?_ | refine G_endblk ?_ | refine G_block ?_ | refine G_exit rfl ?_)
    refine G_region ?_
    refine GO_q rfl rfl (ev_move rfl) ?_
    (first | refine GO_q rfl rfl (ev_lssN (q := 3) rfl rfl) ?_ | refine GO_q rfl rfl (ev_lss rfl rfl) ?_)
    refine GO_nil ?_
    (repeat first | refine G_seq ?_ | refine G_skip ?_ | refine G_endblk ?_ | refine G_block ?_ | refine G_exit rfl ?_)
    refine G_cond_t rfl rfl ?_
    (repeat first | refine G_seq ?_ | refine G_skip ?_ | refine G_endblk ?_ | refine G_block ?_ | refine G_exit rfl ?_)
    refine G_draw (.q 0 (.q 1 (.q 2 (.q 3 (.q 4 (.q 5 (.q 6 .nil))))))) (by kernel_rfl) (by kernel_rfl) ?_
    refine RS_q retB_noPanic rfl rfl rfl (ev_move rfl) ?_
    refine RS_q retB_noPanic rfl rfl rfl (ev_indexAddrA rfl rfl (by first | omega | (simp; done) | (simp; omega)) (by first | omega | (simp; done) | (simp; omega))) ?_
    refine RS_q retB_noPanic rfl rfl rfl (ev_load rfl (by repeat' first | exact Ld.blk rfl | assumption | apply Ld.skip | apply Ld.app)) ?_
    refine RS_q retB_noPanic rfl rfl rfl (ev_move rfl) ?_
    refine RS_q retB_noPanic rfl rfl rfl (ev_indexAddrA rfl rfl (by first | omega | (simp; done) | (simp; omega)) (by first | omega | (simp; done) | (simp; omega))) ?_
    refine RS_q retB_noPanic rfl rfl rfl (ev_load rfl (by repeat' first | exact Ld.blk rfl | assumption | apply Ld.skip | apply Ld.app)) ?_
    (first | refine RS_q retB_noPanic rfl rfl rfl (ev_lssN rfl rfl) ?_ | refine RS_q retB_noPanic rfl rfl rfl (ev_lss rfl rfl) ?_)
    refine RS_nil ?_
    (repeat first | refine G_seq ?_ | refine G_skip ?_ | refine G_endblk ?_ | refine G_block ?_ | refine G_exit rfl ?_)
    refine G_cond rfl (fun h1 => ?_) (fun h1 => ?_)
    · (repeat first | refine G_seq ?_ | refine G_skip ?_ | refine G_endblk ?_ | refine G_block ?_ | refine G_exit rfl ?_)
      refine G_region ?_
      refine GO_q rfl rfl (ev_assign rfl) ?_
      refine GO_nil ?_
      (repeat first | refine G_seq ?_ | refine G_skip ?_ | refine G_endblk ?_ | refine G_block ?_ | refine G_exit rfl ?_)
      refine G_ret rfl (.tmp rfl .nil) (by (repeat first | exact fun _ s => s | apply en_keep | apply en_drop | apply en_app) <;> fail) ⟨by simp [retv, three, h1], rfl⟩
    · (repeat first | refine G_seq ?_ | refine G_skip ?_ | refine G_endblk ?_ | refine G_block ?_ | refine G_exit rfl ?_)
      refine G_draw (.q 0 (.q 1 (.q 2 (.q 3 (.q 4 (.q 5 (.q 6 .nil))))))) (by kernel_rfl) (by kernel_rfl) ?_
      refine RS_q retB_noPanic rfl rfl rfl (ev_move rfl) ?_
      refine RS_q retB_noPanic rfl rfl rfl (ev_indexAddrA rfl rfl (by first | omega | (simp; done) | (simp; omega)) (by first | omega | (simp; done) | (simp; omega))) ?_
      refine RS_q retB_noPanic rfl rfl rfl (ev_load rfl (by repeat' first | exact Ld.blk rfl | assumption | apply Ld.skip | apply Ld.app)) ?_
      refine RS_q retB_noPanic rfl rfl rfl (ev_move rfl) ?_
      refine RS_q retB_noPanic rfl rfl rfl (ev_indexAddrA rfl rfl (by first | omega | (simp; done) | (simp; omega)) (by first | omega | (simp; done) | (simp; omega))) ?_
      refine RS_q retB_noPanic rfl rfl rfl (ev_load rfl (by repeat' first | exact Ld.blk rfl | assumption | apply Ld.skip | apply Ld.app)) ?_
      refine RS_q retB_noPanic rfl rfl rfl (ev_gtr rfl rfl) ?_
      refine RS_nil ?_
      (repeat first | refine G_seq ?_ | refine G_skip ?_ | refine G_endblk ?_ | refine G_block ?_ | refine G_exit rfl ?_)
      refine G_cond rfl (fun h2 => ?_) (fun h2 => ?_)
      · (repeat first | refine G_seq ?_ | refine G_skip ?_ | refine G_endblk ?_ | refine G_block ?_ | refine G_exit rfl ?_)
        refine G_region ?_
        refine GO_q rfl rfl (ev_assign rfl) ?_
        refine GO_nil ?_
        (repeat first | refine G_seq ?_ | refine G_skip ?_ | refine G_endblk ?_ | refine G_block ?_ | refine G_exit rfl ?_)
        refine G_ret rfl (.tmp rfl .nil) (by (repeat first | exact fun _ s => s | apply en_keep | apply en_drop | apply en_app) <;> fail) ⟨by simp [retv, three, h1, h2], rfl⟩
      · (repeat first | refine G_seq ?_ | refine G_skip ?_ | refine G_endblk ?_ | refine G_block ?_ | refine G_exit rfl ?_)
        refine G_region ?_
        refine GO_q rfl rfl (ev_move rfl) ?_
        (first | refine GO_q rfl rfl (ev_addN (q := 1) rfl rfl (by first | omega | (simp; done) | (simp; omega))) ?_ | refine GO_q rfl rfl (ev_add rfl rfl (by first | omega | (simp; done) | (simp; omega))) ?_)
        refine GO_q rfl rfl (ev_assign rfl) ?_
        refine GO_nil ?_
        (repeat first | refine G_seq ?_ | refine G_skip ?_ | refine G_endblk ?_ | refine G_block ?_ | refine G_exit rfl ?_)
        exact G_round 3 ⟨by omega, by omega, by omega, by omega⟩ (by omega) ⟨rfl, rfl, rfl, trivial⟩ (fun _ s => s)
  | 3 =>
    have e1 := f2 (by omega)
    have e2 := f3 (by omega)
    have e3 := f4 (by omega)
    subst e1 e2 e3
    (repeat first | refine G_seq ?_ | refine G_skip ?_ | refine G_endblk ?_ | refine G_block ?_ | refine G_exit rfl ?_)
    refine G_region ?_
    refine GO_q rfl rfl (ev_move rfl) ?_
    (first | refine GO_q rfl rfl (ev_lssN (q := 3) rfl rfl) ?_ | refine GO_q rfl rfl (ev_lss rfl rfl) ?_)
    refine GO_nil ?_
    (repeat first | refine G_seq ?_ | refine G_skip ?_ | refine G_endblk ?_ | refine G_block ?_ | refine G_exit rfl ?_)
    refine G_cond_f rfl rfl ?_
    (repeat first | refine G_seq ?_ | refine G_skip ?_ | refine G_endblk ?_ | refine G_block ?_ | refine G_exit rfl ?_)
    refine G_region ?_
    refine GO_q rfl rfl (ev_assign rfl) ?_
    refine GO_nil ?_
    (repeat first | refine G_seq ?_ | refine G_skip ?_ | refine G_endblk ?_ | refine G_block ?_ | refine G_exit rfl ?_)
    refine G_ret rfl (.tmp rfl .nil) (by (repeat first | exact fun _ s => s | apply en_keep | apply en_drop | apply en_app) <;> fail) ⟨by simp [retv, three], rfl⟩
  | k + 4 => omega
end Go.Proofs.Ytalcanejhniepaa
