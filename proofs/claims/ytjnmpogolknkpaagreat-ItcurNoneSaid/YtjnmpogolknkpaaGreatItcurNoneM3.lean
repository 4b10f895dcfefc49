/- Texts of the law ItcurNone, one behind the other. -/
import Derived.Test.YtjnmpogolknkpaaGreatItcurNoneM2
import Derived.Test.YtjnmpogolknkpaaGreatItcurNoneM1
import Derived.RangeFuncRecord
import Derived.RangeFuncIn
import Derived.RangeFuncLeaves
import Derived.Test.YtjnmpogolknkpaaGreatProg
import Derived.WalkKit
import Derived.Lib.Hide
/- A tree of middles: all intervals from a node on down; look. -/
namespace Go.Proofs.YtjnmpogolknkpaaGreat
attribute [local irreducible] sat
set_option linter.unusedVariables false
set_option linter.unusedSimpArgs false
set_option maxRecDepth 100000

/-- Slices, of which each reads as a list. -/
def catL (xs : List (Option Addr × Nat × List Pt)) : List Pt := xs.flatMap fun x => x.2.2
theorem catL_len_take (xs : List (Option Addr × Nat × List Pt)) (k : Nat) : (catL (xs.take k)).length ≤ (catL xs).length := by
  conv => rhs; rw [← List.take_append_drop k xs]
  unfold catL
  rw [List.flatMap_append, List.length_append]; omega
theorem catL_succ {xs : List (Option Addr × Nat × List Pt)} {k : Nat} {x : Option Addr × Nat × List Pt} (h : xs[k]? = some x) : catL (xs.take (k + 1)) = catL (xs.take k) ++ x.2.2 := by
  unfold catL
  rw [List.take_add_one, h, List.flatMap_append]
  simp
/-- slices.Concat -/
theorem ConcatN_ctr (b1 m : Nat) (xs : List (Option Addr × Nat × List Pt)) (L : List HP) (hm : xs.length = m) (hb : m ≤ 1000) (hl : ∀ k x, xs[k]? = some x → Ld L ⟨b1, 0 + k * 1, none⟩ (.slice x.1 x.2.2.length x.2.1) ∧ Rd L x.1 x.2.2.length x.2.2) (hn : (catL xs).length ≤ 500000) :
    Ctr Tryz.prog 112 #[.slice (some ⟨b1, 0, none⟩) m m] L fun v L' => Made 24 (catL xs) L v L' := by
  refine Ctr_of (fn := Tryz.f112) (n := 36) Tryz.func112 rfl rfl rfl ?_
  intro g F
  (repeat first | refine G_seq ?_ | refine G_skip ?_ | refine G_endblk ?_ | refine G_block ?_ | refine G_exit rfl ?_)
  refine G_region ?_
  refine GO_q rfl rfl (ev_assign rfl) ?_
  refine GO_nil ?_
  (repeat first | refine G_seq ?_ | refine G_skip ?_ | refine G_endblk ?_ | refine G_block ?_ | refine G_exit rfl ?_)
  refine G_region ?_
  refine GO_q rfl rfl (ev_assign rfl) ?_
  refine GO_nil ?_
  (repeat first | refine G_seq ?_ | refine G_skip ?_ | refine G_endblk ?_ | refine G_block ?_ | refine G_exit rfl ?_)
  refine G_region ?_
  refine GO_q rfl rfl (ev_move rfl) ?_
  refine GO_q rfl rfl (ev_len rfl) ?_
  refine GO_q rfl rfl (ev_move rfl) ?_
  refine GO_nil ?_
  (repeat first | refine G_seq ?_ | refine G_skip ?_ | refine G_endblk ?_)
  refine G_cut (ι := Unit) (fun _ => [(0, .slice (some ⟨b1, 0, none⟩) m m), (3, .int .i64 ((catL xs).length : Nat))]) (fun _ => F :: L) (fun _ => True) ?_ ?_
  · (repeat first | refine G_seq ?_ | refine G_skip ?_ | refine G_endblk ?_ | refine G_block ?_ | refine G_exit rfl ?_)
    refine G_loop (ι := Nat) (fun k => [(0, .slice (some ⟨b1, 0, none⟩) m m), (3, .int .i64 ((catL (xs.take k)).length : Nat)), (9, .slice (some ⟨b1, 0, none⟩) m m), (10, .int .i64 (m : Nat)), (11, .int .i64 (k : Nat))]) (fun _ => F :: L) (fun k => k ≤ m) (fun k => m - k) 0 (Nat.zero_le _) ⟨rfl, rfl, rfl, rfl, rfl, trivial⟩ (by (repeat first | exact fun _ s => s | apply en_keep | apply en_drop | apply en_app) <;> fail) ?_
    intro k hk
    have hkl := catL_len_take xs k
    (repeat first | refine G_seq ?_ | refine G_skip ?_ | refine G_endblk ?_ | refine G_block ?_ | refine G_exit rfl ?_)
    refine G_region ?_
    (first | refine GO_q rfl rfl (ev_lssN rfl rfl) ?_ | refine GO_q rfl rfl (ev_lss rfl rfl) ?_)
    refine GO_nil ?_
    (repeat first | refine G_seq ?_ | refine G_skip ?_ | refine G_endblk ?_ | refine G_block ?_ | refine G_exit rfl ?_)
    refine G_cond rfl (fun c1 => ?_) (fun c1 => ?_)
    · have g1 : xs[k]? = some xs[k] := List.getElem?_eq_getElem (by omega)
      obtain ⟨z1, z2⟩ := hl k _ g1
      have hs := catL_succ g1
      have hkl2 := catL_len_take xs (k + 1)
      rw [hs, List.length_append] at hkl2
      generalize xs[k] = x at *
      (repeat first | refine G_seq ?_ | refine G_skip ?_ | refine G_endblk ?_ | refine G_block ?_ | refine G_exit rfl ?_)
      refine G_region ?_
      (first | refine GO_q rfl rfl (ev_indexAddrN rfl rfl (by first | omega | (simp; done) | (simp; omega))) ?_ | refine GO_q rfl rfl (ev_indexAddr rfl rfl (by first | omega | (simp; done) | (simp; omega)) (by first | omega | (simp; done) | (simp; omega))) ?_)
      refine GO_q rfl rfl (ev_load rfl (by repeat' first | exact Ld.blk rfl | assumption | apply Ld.skip | apply Ld.app)) ?_
      refine GO_q rfl rfl (ev_assign rfl) ?_
      refine GO_nil ?_
      (repeat first | refine G_seq ?_ | refine G_skip ?_ | refine G_endblk ?_ | refine G_block ?_ | refine G_exit rfl ?_)
      refine G_region ?_
      refine GO_q rfl rfl (ev_move rfl) ?_
      refine GO_q rfl rfl (ev_move rfl) ?_
      refine GO_q rfl rfl (ev_len rfl) ?_
      (first | refine GO_q rfl rfl (ev_addN rfl rfl (by first | omega | (simp; done) | (simp; omega))) ?_ | refine GO_q rfl rfl (ev_add rfl rfl (by first | omega | (simp; done) | (simp; omega))) ?_)
      refine GO_q rfl rfl (ev_assign rfl) ?_
      refine GO_nil ?_
      (repeat first | refine G_seq ?_ | refine G_skip ?_ | refine G_endblk ?_ | refine G_block ?_ | refine G_exit rfl ?_)
      refine G_region ?_
      refine GO_q rfl rfl (ev_move rfl) ?_
      (first | refine GO_q rfl rfl (ev_lssN (q := 0) rfl rfl) ?_ | refine GO_q rfl rfl (ev_lss rfl rfl) ?_)
      refine GO_nil ?_
      (repeat first | refine G_seq ?_ | refine G_skip ?_ | refine G_endblk ?_ | refine G_block ?_ | refine G_exit rfl ?_)
      refine G_cond_f rfl (decide_eq_false (by omega)) ?_
      (repeat first | refine G_seq ?_ | refine G_skip ?_ | refine G_endblk ?_ | refine G_block ?_ | refine G_exit rfl ?_)
      refine G_region ?_
      (first | refine GO_q rfl rfl (ev_addN (q := 1) rfl rfl (by first | omega | (simp; done) | (simp; omega))) ?_ | refine GO_q rfl rfl (ev_add rfl rfl (by first | omega | (simp; done) | (simp; omega))) ?_)
      refine GO_q rfl rfl (ev_move rfl) ?_
      refine GO_nil ?_
      (repeat first | refine G_seq ?_ | refine G_skip ?_ | refine G_endblk ?_ | refine G_block ?_ | refine G_exit rfl ?_)
      exact G_round (k + 1) (by omega) (by omega) ⟨rfl, by rw [hs, List.length_append]; rfl, rfl, rfl, rfl, trivial⟩ (by (repeat first | exact fun _ s => s | apply en_keep | apply en_drop | apply en_app) <;> fail)
    · have e : xs.take k = xs := List.take_of_length_le (by omega)
      rw [e]
      (repeat first | refine G_seq ?_ | refine G_skip ?_ | refine G_endblk ?_ | refine G_block ?_ | refine G_exit rfl ?_)
      exact G_inv () trivial ⟨rfl, rfl, trivial⟩ (by (repeat first | exact fun _ s => s | apply en_keep | apply en_drop | apply en_app) <;> fail)
  · rintro _ _
    (repeat first | refine G_seq ?_ | refine G_skip ?_ | refine G_endblk ?_ | refine G_block ?_ | refine G_exit rfl ?_)
    refine G_region ?_
    refine GO_q rfl rfl (ev_move rfl) ?_
    refine GO_eff rfl rfl (eff_call rfl (Grow_ctr (catL xs).length _ (by omega))) ?_; rintro _ _ ⟨A24, c24, rfl, rfl⟩
    refine GO_q rfl rfl (ev_assign rfl) ?_
    refine GO_nil ?_
    (repeat first | refine G_seq ?_ | refine G_skip ?_ | refine G_endblk ?_ | refine G_block ?_ | refine G_exit rfl ?_)
    refine G_region ?_
    refine GO_q rfl rfl (ev_move rfl) ?_
    refine GO_q rfl rfl (ev_len rfl) ?_
    refine GO_q rfl rfl (ev_move rfl) ?_
    refine GO_nil ?_
    (repeat first | refine G_seq ?_ | refine G_skip ?_ | refine G_endblk ?_ | refine G_block ?_ | refine G_exit rfl ?_)
    refine G_loop (ι := Nat × Option Addr × Nat) (fun z => [(6, .slice z.2.1 (catL (xs.take z.1)).length z.2.2), (25, .slice (some ⟨b1, 0, none⟩) m m), (26, .int .i64 (m : Nat)), (27, .int .i64 (z.1 : Nat))]) (fun z => own 24 3 z.2.1 (catL (xs.take z.1)).length z.2.2 (flat (catL (xs.take z.1))) :: F :: L) (fun z => z.1 ≤ m ∧ (0 < (catL (xs.take z.1)).length → ∃ b, z.2.1 = some ⟨b, 0, none⟩)) (fun z => m - z.1) (0, A24, c24) ⟨Nat.zero_le _, fun h => absurd h (Nat.lt_irrefl 0)⟩ ⟨rfl, rfl, rfl, rfl, trivial⟩ (by (repeat first | exact fun _ s => s | apply en_keep | apply en_drop | apply en_app) <;> fail) ?_
    rintro ⟨k, A2, c2⟩ ⟨f1, f2⟩
    simp only at f1 f2
    dsimp only
    have hkl := catL_len_take xs k
    (repeat first | refine G_seq ?_ | refine G_skip ?_ | refine G_endblk ?_ | refine G_block ?_ | refine G_exit rfl ?_)
    refine G_region ?_
    (first | refine GO_q rfl rfl (ev_lssN rfl rfl) ?_ | refine GO_q rfl rfl (ev_lss rfl rfl) ?_)
    refine GO_nil ?_
    (repeat first | refine G_seq ?_ | refine G_skip ?_ | refine G_endblk ?_ | refine G_block ?_ | refine G_exit rfl ?_)
    refine G_cond rfl (fun c1 => ?_) (fun c1 => ?_)
    · have g1 : xs[k]? = some xs[k] := List.getElem?_eq_getElem (by omega)
      obtain ⟨z1, z2⟩ := hl k _ g1
      have hs := catL_succ g1
      have hkl2 := catL_len_take xs (k + 1)
      rw [hs, List.length_append] at hkl2
      generalize xs[k] = x at *
      (repeat first | refine G_seq ?_ | refine G_skip ?_ | refine G_endblk ?_ | refine G_block ?_ | refine G_exit rfl ?_)
      refine G_region ?_
      (first | refine GO_q rfl rfl (ev_indexAddrN rfl rfl (by first | omega | (simp; done) | (simp; omega))) ?_ | refine GO_q rfl rfl (ev_indexAddr rfl rfl (by first | omega | (simp; done) | (simp; omega)) (by first | omega | (simp; done) | (simp; omega))) ?_)
      refine GO_q rfl rfl (ev_load rfl (by repeat' first | exact Ld.blk rfl | assumption | apply Ld.skip | apply Ld.app)) ?_
      refine GO_q rfl rfl (ev_assign rfl) ?_
      refine GO_nil ?_
      (repeat first | refine G_seq ?_ | refine G_skip ?_ | refine G_endblk ?_ | refine G_block ?_ | refine G_exit rfl ?_)
      refine G_region ?_
      refine GO_q rfl rfl (ev_move rfl) ?_
      refine GO_q rfl rfl (ev_move rfl) ?_
      refine GO_eff rfl rfl (eff_append rfl rfl (by repeat' first | exact Pick.here | apply Pick.skip) (Rc.skip (Rc.skip z2)) ((flat_one _)) (by rfl) (by decide) (by first | omega | (simp; done) | (simp; omega)) (by first | omega | (simp; done) | (simp; omega))) ?_; rintro _ _ ⟨A33, c33, rfl, hc33, hm33, hn33, rfl⟩
      refine GO_q rfl rfl (ev_assign rfl) ?_
      refine GO_nil ?_
      (repeat first | refine G_seq ?_ | refine G_skip ?_ | refine G_endblk ?_ | refine G_block ?_ | refine G_exit rfl ?_)
      refine G_region ?_
      (first | refine GO_q rfl rfl (ev_addN (q := 1) rfl rfl (by first | omega | (simp; done) | (simp; omega))) ?_ | refine GO_q rfl rfl (ev_add rfl rfl (by first | omega | (simp; done) | (simp; omega))) ?_)
      refine GO_q rfl rfl (ev_move rfl) ?_
      refine GO_nil ?_
      (repeat first | refine G_seq ?_ | refine G_skip ?_ | refine G_endblk ?_ | refine G_block ?_ | refine G_exit rfl ?_)
      refine G_round (k + 1, A33, c33) ⟨by simp only; omega, by simp only; rw [hs, List.length_append]; exact hn33⟩ (by simp only; omega) ⟨by simp only; rw [hs, List.length_append]; rfl, rfl, rfl, rfl, trivial⟩ ?_
      simp only
      rw [hs, List.length_append, flat_append]
      exact (by (repeat first | exact en_refl | (apply en_blk; focus ((repeat' first | exact Pick.here | apply Pick.skip | apply Pick.app); done); focus rfl) | (apply en_own; focus ((repeat' first | exact Pick.here | apply Pick.skip | apply Pick.app); done); focus rfl) | (apply en_pick; focus ((repeat' first | exact Pick.here | apply Pick.skip | apply Pick.app); done)) | apply en_drop | apply en_app) <;> fail)
    · have e : xs.take k = xs := List.take_of_length_le (by omega)
      rw [e] at f2 ⊢
      (repeat first | refine G_seq ?_ | refine G_skip ?_ | refine G_endblk ?_ | refine G_block ?_ | refine G_exit rfl ?_)
      refine G_region ?_
      refine GO_q rfl rfl (ev_move rfl) ?_
      refine GO_q rfl rfl (ev_assign rfl) ?_
      refine GO_nil ?_
      (repeat first | refine G_seq ?_ | refine G_skip ?_ | refine G_endblk ?_ | refine G_block ?_ | refine G_exit rfl ?_)
      exact G_ret (L' := own 24 3 A2 (catL xs).length c2 (flat (catL xs)) :: L) rfl (.tmp rfl .nil) (by (repeat first | exact en_refl | (apply en_blk; focus ((repeat' first | exact Pick.here | apply Pick.skip | apply Pick.app); done); focus rfl) | (apply en_own; focus ((repeat' first | exact Pick.here | apply Pick.skip | apply Pick.app); done); focus rfl) | (apply en_pick; focus ((repeat' first | exact Pick.here | apply Pick.skip | apply Pick.app); done)) | apply en_drop | apply en_app) <;> fail) ⟨A2, c2, rfl, f2, rfl⟩
theorem spans_ctr : ∀ (T : IT) (L : List HP), IIn L T → T.spans.length ≤ 100000 → Ctr Tryz.prog 83 #[.pointer T.addr] L fun v L' => Made 24 T.spans L v L'
  | .nil, L, h, hs => by
    refine Ctr_of (fn := Tryz.f83) (n := 23) Tryz.func83 rfl rfl rfl ?_
    intro g F
    (repeat first | refine G_seq ?_ | refine G_skip ?_ | refine G_endblk ?_ | refine G_block ?_ | refine G_exit rfl ?_)
    refine G_region ?_
    refine GO_q rfl rfl (ev_assign rfl) ?_
    refine GO_nil ?_
    (repeat first | refine G_seq ?_ | refine G_skip ?_ | refine G_endblk ?_ | refine G_block ?_ | refine G_exit rfl ?_)
    refine G_region ?_
    refine GO_q rfl rfl (ev_move rfl) ?_
    (first | refine GO_q rfl rfl (ev_eqlNil rfl rfl) ?_ | refine GO_q rfl rfl (ev_eqlPtr rfl rfl) ?_)
    refine GO_nil ?_
    (repeat first | refine G_seq ?_ | refine G_skip ?_ | refine G_endblk ?_ | refine G_block ?_ | refine G_exit rfl ?_)
    refine G_cond_t rfl rfl ?_
    (repeat first | refine G_seq ?_ | refine G_skip ?_ | refine G_endblk ?_ | refine G_block ?_ | refine G_exit rfl ?_)
    refine G_region ?_
    refine GO_q rfl rfl (ev_assign rfl) ?_
    refine GO_nil ?_
    (repeat first | refine G_seq ?_ | refine G_skip ?_ | refine G_endblk ?_ | refine G_block ?_ | refine G_exit rfl ?_)
    refine G_ret (L' := own 24 3 none 0 0 [] :: L) rfl (.tmp rfl .nil) ?_ ⟨none, 0, rfl, fun h => absurd h (Nat.lt_irrefl 0), rfl⟩
    exact fun h s => (own.nil_ 24 3 h s).swap
  | .node b mid A c p C d q m lo hi, L, h, hs => by
    simp only [IT.spans, List.length_append] at hs
    have ih1 := fun L h => spans_ctr lo L h (by omega)
    have ih2 := fun L h => spans_ctr hi L h (by omega)
    obtain ⟨q1, q2, q3, q4, q5, q6, q7, q8, q9, q10, q11, q12⟩ := h.f
    have e9 : ∀ A1 c1 A2 c2, catL [(A, c, p), (A1, c1, lo.spans), (A2, c2, hi.spans)] = (IT.node b mid A c p C d q m lo hi).spans := fun _ _ _ _ => by simp [catL, IT.spans]
    refine Ctr_of (fn := Tryz.f83) (n := 23) Tryz.func83 rfl rfl rfl ?_
    intro g F
    (repeat first | refine G_seq ?_ | refine G_skip ?_ | refine G_endblk ?_ | refine G_block ?_ | refine G_exit rfl ?_)
    refine G_region ?_
    refine GO_q rfl rfl (ev_assign rfl) ?_
    refine GO_nil ?_
    (repeat first | refine G_seq ?_ | refine G_skip ?_ | refine G_endblk ?_ | refine G_block ?_ | refine G_exit rfl ?_)
    refine G_region ?_
    refine GO_q rfl rfl (ev_move rfl) ?_
    (first | refine GO_q rfl rfl (ev_eqlNil rfl rfl) ?_ | refine GO_q rfl rfl (ev_eqlPtr rfl rfl) ?_)
    refine GO_nil ?_
    (repeat first | refine G_seq ?_ | refine G_skip ?_ | refine G_endblk ?_ | refine G_block ?_ | refine G_exit rfl ?_)
    refine G_cond_f rfl rfl ?_
    (repeat first | refine G_seq ?_ | refine G_skip ?_ | refine G_endblk ?_ | refine G_block ?_ | refine G_exit rfl ?_)
    refine G_draw (.q 0 (.q 1 (.q 2 (.q 3 (.q 4 (.q 5 (.q 6 (.q 7 (.q 8 (.q 10 (.q 11 (.q 12 (.q 13 (.q 14 (.e 9 (.e 15 (.e 16 (.e 17 (.q 18 .nil))))))))))))))))))) (by kernel_rfl) (by kernel_rfl) ?_
    refine RS_m retB_noPanic rfl rfl rfl rfl (ev_move rfl) ?_
    (first | refine RS_m retB_noPanic rfl rfl rfl rfl (ev_nilCheck rfl) ?_ | refine RS_m retB_noPanic rfl rfl rfl rfl (ev_nilCheckF (by simp) rfl) ?_)
    refine RS_m retB_noPanic rfl rfl rfl rfl (ev_fieldAddr rfl) ?_
    refine RS_q retB_noPanic rfl rfl rfl rfl (ev_load rfl (by repeat' first | exact Ld.blk rfl | assumption | apply Ld.skip | apply Ld.app)) ?_
    refine RS_m retB_noPanic rfl rfl rfl rfl (ev_move rfl) ?_
    (first | refine RS_m retB_noPanic rfl rfl rfl rfl (ev_nilCheck rfl) ?_ | refine RS_m retB_noPanic rfl rfl rfl rfl (ev_nilCheckF (by simp) rfl) ?_)
    refine RS_m retB_noPanic rfl rfl rfl rfl (ev_fieldAddr rfl) ?_
    refine RS_m retB_noPanic rfl rfl rfl rfl (ev_indexAddrA rfl rfl (by first | omega | (simp; done) | (simp; omega)) (by first | omega | (simp; done) | (simp; omega))) ?_
    refine RS_q retB_noPanic rfl rfl rfl rfl (ev_load rfl (by repeat' first | exact Ld.blk rfl | assumption | apply Ld.skip | apply Ld.app)) ?_
    refine RS_m retB_noPanic rfl rfl rfl rfl (ev_move rfl) ?_
    (first | refine RS_m retB_noPanic rfl rfl rfl rfl (ev_nilCheck rfl) ?_ | refine RS_m retB_noPanic rfl rfl rfl rfl (ev_nilCheckF (by simp) rfl) ?_)
    refine RS_m retB_noPanic rfl rfl rfl rfl (ev_fieldAddr rfl) ?_
    refine RS_m retB_noPanic rfl rfl rfl rfl (ev_indexAddrA rfl rfl (by first | omega | (simp; done) | (simp; omega)) (by first | omega | (simp; done) | (simp; omega))) ?_
    refine RS_q retB_noPanic rfl rfl rfl rfl (ev_load rfl (by repeat' first | exact Ld.blk rfl | assumption | apply Ld.skip | apply Ld.app)) ?_
    refine RS_e (RE_eff rfl rfl rfl (eff_call rfl (ih1 _ q11.skip)) ?_); rintro _ _ ⟨A1, c1, rfl, h1, rfl⟩; refine ⟨_, fun _ s => s, (by first | ((repeat first | exact fun _ s => s | apply en_keep | apply en_drop | apply en_app) <;> fail) | ((repeat first | exact en_refl | (apply en_blk; focus ((repeat' first | exact Pick.here | apply Pick.skip | apply Pick.app); done); focus rfl) | (apply en_own; focus ((repeat' first | exact Pick.here | apply Pick.skip | apply Pick.app); done); focus rfl) | (apply en_pick; focus ((repeat' first | exact Pick.here | apply Pick.skip | apply Pick.app); done)) | apply en_drop | apply en_app) <;> fail)), ?_⟩
    refine RS_e (RE_eff rfl rfl rfl (eff_call rfl (ih2 _ q12.skip.skip)) ?_); rintro _ _ ⟨A2, c2, rfl, h2, rfl⟩; refine ⟨_, fun _ s => s, (by first | ((repeat first | exact fun _ s => s | apply en_keep | apply en_drop | apply en_app) <;> fail) | ((repeat first | exact en_refl | (apply en_blk; focus ((repeat' first | exact Pick.here | apply Pick.skip | apply Pick.app); done); focus rfl) | (apply en_own; focus ((repeat' first | exact Pick.here | apply Pick.skip | apply Pick.app); done); focus rfl) | (apply en_pick; focus ((repeat' first | exact Pick.here | apply Pick.skip | apply Pick.app); done)) | apply en_drop | apply en_app) <;> fail)), ?_⟩
    refine RS_e (RE_eff rfl rfl rfl (eff_buildSliceN (by rfl) rfl rfl) ?_); rintro _ _ ⟨b21, rfl, rfl⟩; refine ⟨_, fun _ s => s, (by first | ((repeat first | exact fun _ s => s | apply en_keep | apply en_drop | apply en_app) <;> fail) | ((repeat first | exact en_refl | (apply en_blk; focus ((repeat' first | exact Pick.here | apply Pick.skip | apply Pick.app); done); focus rfl) | (apply en_own; focus ((repeat' first | exact Pick.here | apply Pick.skip | apply Pick.app); done); focus rfl) | (apply en_pick; focus ((repeat' first | exact Pick.here | apply Pick.skip | apply Pick.app); done)) | apply en_drop | apply en_app) <;> fail)), ?_⟩
    refine RS_e (RE_eff rfl rfl rfl (eff_call rfl (ConcatN_ctr b21 3 [(A, c, p), (A1, c1, lo.spans), (A2, c2, hi.spans)] _ rfl (by omega) (fun k x hx => by match k, hx with | 0, hx => { cases hx; exact ⟨Ld.blk rfl, (by repeat' first | exact Rc.blk rfl | assumption | apply Rd.skip | apply Rd.app)⟩ } | 1, hx => { cases hx; exact ⟨Ld.blk rfl, Rd.skip (Rd.skip (Rc.own (flat_length _) h1))⟩ } | 2, hx => { cases hx; exact ⟨Ld.blk rfl, Rd.skip (Rc.own (flat_length _) h2)⟩ } | k + 3, hx => { simp at hx }) (by rw [e9]; simp only [IT.spans, List.length_append]; omega))) ?_); rintro _ _ ⟨A3, c3, rfl, h3, rfl⟩; refine ⟨_, fun _ s => s, (by first | ((repeat first | exact fun _ s => s | apply en_keep | apply en_drop | apply en_app) <;> fail) | ((repeat first | exact en_refl | (apply en_blk; focus ((repeat' first | exact Pick.here | apply Pick.skip | apply Pick.app); done); focus rfl) | (apply en_own; focus ((repeat' first | exact Pick.here | apply Pick.skip | apply Pick.app); done); focus rfl) | (apply en_pick; focus ((repeat' first | exact Pick.here | apply Pick.skip | apply Pick.app); done)) | apply en_drop | apply en_app) <;> fail)), ?_⟩
    refine RS_m retB_noPanic rfl rfl rfl rfl (ev_assign rfl) ?_
    refine RS_nil ?_
    rw [e9] at h3 ⊢
    (repeat first | refine G_seq ?_ | refine G_skip ?_ | refine G_endblk ?_ | refine G_block ?_ | refine G_exit rfl ?_)
    exact G_ret (L' := own 24 3 A3 (IT.node b mid A c p C d q m lo hi).spans.length c3 (flat (IT.node b mid A c p C d q m lo hi).spans) :: L) rfl (.tmp rfl .nil) (by (repeat first | exact en_refl | (apply en_blk; focus ((repeat' first | exact Pick.here | apply Pick.skip | apply Pick.app); done); focus rfl) | (apply en_own; focus ((repeat' first | exact Pick.here | apply Pick.skip | apply Pick.app); done); focus rfl) | (apply en_pick; focus ((repeat' first | exact Pick.here | apply Pick.skip | apply Pick.app); done)) | apply en_drop | apply en_app) <;> fail) ⟨A3, c3, rfl, h3, rfl⟩
end Go.Proofs.YtjnmpogolknkpaaGreat
/- A tree of middles: look. -/
namespace Go.Proofs.YtjnmpogolknkpaaGreat
attribute [local irreducible] sat
set_option linter.unusedVariables false
set_option linter.unusedSimpArgs false
set_option maxRecDepth 100000

def idI (l : List Pt) : List Int := l.map (·.id)
theorem idI_length (l : List Pt) : (idI l).length = l.length := List.length_map _
theorem idI_snoc {l : List Pt} {k : Nat} {a : Pt} (h : l[k]? = some a) : idI (l.take (k + 1)) = idI (l.take k) ++ [a.id] := by
  unfold idI; rw [List.take_add_one, h, List.map_append]; rfl
def addrsI (l : List IT) : List (Option Addr) := l.map IT.addr
/-- What a look at a node finds, and where it leads to. -/
def IT.ids (u v : Int) : IT → List Int
  | .nil => []
  | .node _ mid _ _ p _ _ q _ lo hi => srt (idI (IT.own u v mid p q))
def IT.nx1 (u v : Int) : IT → List IT
  | .nil => []
  | .node _ mid _ _ p _ _ q _ lo hi => if u < mid ∧ lo.addr.isSome = true then [lo] else []
def IT.nx2 (u v : Int) : IT → List IT
  | .nil => []
  | .node _ mid _ _ p _ _ q _ lo hi => if mid < v ∧ hi.addr.isSome = true then [hi] else []
def IT.nxt (u v : Int) (T : IT) : List IT := T.nx1 u v ++ T.nx2 u v
structure LkF (A : Option Addr) (n c : Nat) : Prop where
  a : 0 < n → ∃ b, A = some ⟨b, 0, none⟩
/-- Nothing is looked at. -/
theorem look0_ctr (T : IT) (u v : Int) (L : List HP) (h : T.addr = none ∨ v < u) : Ctr Tryz.prog 57 #[.pointer T.addr, .int .i64 u, .int .i64 v] L fun r L' => r = .tuple #[.slice none 0 0, .slice none 0 0] ∧ L' = L := by
  cases hn : T.addr with
  | none =>
    refine Ctr_of (fn := Tryz.f57) (n := 80) Tryz.func57 rfl rfl rfl ?_
    intro g F
    (repeat first | refine G_seq ?_ | refine G_skip ?_ | refine G_endblk ?_ | refine G_block ?_ | refine G_exit rfl ?_)
    refine G_region ?_
    refine GO_q rfl rfl (ev_assign rfl) ?_
    refine GO_q rfl rfl (ev_assign rfl) ?_
    refine GO_nil ?_
    (repeat first | refine G_seq ?_ | refine G_skip ?_ | refine G_endblk ?_ | refine G_block ?_ | refine G_exit rfl ?_)
    refine G_region ?_
    refine GO_q rfl rfl (ev_move rfl) ?_
    (first | refine GO_q rfl rfl (ev_eqlNil rfl rfl) ?_ | refine GO_q rfl rfl (ev_eqlPtr rfl rfl) ?_)
    refine GO_q rfl rfl (ev_move rfl) ?_
    refine GO_no rfl rfl rfl rfl ?_
    refine GO_no rfl rfl rfl rfl ?_
    refine GO_no rfl rfl rfl rfl ?_
    refine GO_q rfl rfl (ev_pick_t rfl rfl rfl) ?_
    refine GO_nil ?_
    (repeat first | refine G_seq ?_ | refine G_skip ?_ | refine G_endblk ?_ | refine G_block ?_ | refine G_exit rfl ?_)
    refine G_cond_t rfl rfl ?_
    (repeat first | refine G_seq ?_ | refine G_skip ?_ | refine G_endblk ?_ | refine G_block ?_ | refine G_exit rfl ?_)
    refine G_region ?_
    refine GO_q rfl rfl (ev_assign rfl) ?_
    refine GO_q rfl rfl (ev_assign rfl) ?_
    refine GO_nil ?_
    (repeat first | refine G_seq ?_ | refine G_skip ?_ | refine G_endblk ?_ | refine G_block ?_ | refine G_exit rfl ?_)
    refine G_ret rfl (.tmp rfl (.tmp rfl .nil)) (by (repeat first | exact fun _ s => s | apply en_keep | apply en_drop | apply en_app) <;> fail) ⟨rfl, rfl⟩
  | some a =>
    have hv : v < u := by
      rcases h with h | h
      · rw [hn] at h; cases h
      · exact h
    refine Ctr_of (fn := Tryz.f57) (n := 80) Tryz.func57 rfl rfl rfl ?_
    intro g F
    (repeat first | refine G_seq ?_ | refine G_skip ?_ | refine G_endblk ?_ | refine G_block ?_ | refine G_exit rfl ?_)
    refine G_region ?_
    refine GO_q rfl rfl (ev_assign rfl) ?_
    refine GO_q rfl rfl (ev_assign rfl) ?_
    refine GO_nil ?_
    (repeat first | refine G_seq ?_ | refine G_skip ?_ | refine G_endblk ?_ | refine G_block ?_ | refine G_exit rfl ?_)
    refine G_region ?_
    refine GO_q rfl rfl (ev_move rfl) ?_
    (first | refine GO_q rfl rfl (ev_eqlNil rfl rfl) ?_ | refine GO_q rfl rfl (ev_eqlPtr rfl rfl) ?_)
    refine GO_q rfl rfl (ev_move rfl) ?_
    refine GO_yes rfl rfl rfl rfl ?_
    refine GO_q rfl rfl (ev_move rfl) ?_
    refine GO_yes rfl rfl rfl rfl ?_
    refine GO_q rfl rfl (ev_move rfl) ?_
    refine GO_yes rfl rfl rfl rfl ?_
    refine GO_q rfl rfl (ev_gtr rfl rfl) ?_
    refine GO_q rfl rfl (ev_pick_f rfl rfl rfl) ?_
    refine GO_nil ?_
    (repeat first | refine G_seq ?_ | refine G_skip ?_ | refine G_endblk ?_ | refine G_block ?_ | refine G_exit rfl ?_)
    refine G_cond_t rfl (decide_eq_true hv) ?_
    (repeat first | refine G_seq ?_ | refine G_skip ?_ | refine G_endblk ?_ | refine G_block ?_ | refine G_exit rfl ?_)
    refine G_region ?_
    refine GO_q rfl rfl (ev_assign rfl) ?_
    refine GO_q rfl rfl (ev_assign rfl) ?_
    refine GO_nil ?_
    (repeat first | refine G_seq ?_ | refine G_skip ?_ | refine G_endblk ?_ | refine G_block ?_ | refine G_exit rfl ?_)
    refine G_ret rfl (.tmp rfl (.tmp rfl .nil)) (by (repeat first | exact fun _ s => s | apply en_keep | apply en_drop | apply en_app) <;> fail) ⟨rfl, rfl⟩
theorem look_ctr (b : Nat) (mid : Int) (A : Option Addr) (c : Nat) (p : List Pt) (C : Option Addr) (d : Nat) (q : List Pt) (m : Nat) (lo hi : IT) (u v : Int) (L : List HP) (h : IIn L (.node b mid A c p C d q m lo hi)) (hp : AscO Pt.less p) (hq : q = srtO Pt.ends p) (hn : p.length ≤ 100000) (huv : u ≤ v) :
    Ctr Tryz.prog 57 #[.pointer (some ⟨b, 0, none⟩), .int .i64 u, .int .i64 v] L fun r L' => ∃ A1 c1 A2 c2, r = .tuple #[.slice A1 (IT.ids u v (.node b mid A c p C d q m lo hi)).length c1, .slice A2 (IT.nxt u v (.node b mid A c p C d q m lo hi)).length c2] ∧
      ((0 < (IT.ids u v (.node b mid A c p C d q m lo hi)).length → ∃ b, A1 = some ⟨b, 0, none⟩) ∧ (0 < (IT.nxt u v (.node b mid A c p C d q m lo hi)).length → ∃ b, A2 = some ⟨b, 0, none⟩)) ∧
      L' = own 3 1 A1 (IT.ids u v (.node b mid A c p C d q m lo hi)).length c1 (flat (IT.ids u v (.node b mid A c p C d q m lo hi))) :: own 52 1 A2 (IT.nxt u v (.node b mid A c p C d q m lo hi)).length c2 (flat (addrsI (IT.nxt u v (.node b mid A c p C d q m lo hi)))) :: L := by
  have hown := fun L h => own_ctr b mid A c p C d q m lo hi u v L h hp hq (by omega)
  obtain ⟨q1, q2, q3, q4, q5, q6, q7, q8, q9, q10, q11, q12⟩ := h.f
  have hol : (IT.own u v mid p q).length ≤ 100000 := by
    have hql : q.length = p.length := by rw [hq, srtO_length]
    unfold IT.own
    split
    · exact Nat.le_trans (List.length_filter_le _ _) hn
    · split
      · exact Nat.le_trans (List.length_filter_le _ _) (by omega)
      · exact hn
  have e1 : IT.nx1 u v (.node b mid A c p C d q m lo hi) = if u < mid ∧ lo.addr.isSome = true then [lo] else [] := rfl
  have e2 : IT.nx2 u v (.node b mid A c p C d q m lo hi) = if mid < v ∧ hi.addr.isSome = true then [hi] else [] := rfl
  unfold IT.nxt
  generalize IT.nx1 u v (.node b mid A c p C d q m lo hi) = l1 at *
  generalize IT.nx2 u v (.node b mid A c p C d q m lo hi) = l2 at *
  have e3 : IT.ids u v (.node b mid A c p C d q m lo hi) = srt (idI (IT.own u v mid p q)) := rfl
  rw [e3]
  refine Ctr_of (fn := Tryz.f57) (n := 80) Tryz.func57 rfl rfl rfl ?_
  intro g F
  (repeat first | refine G_seq ?_ | refine G_skip ?_ | refine G_endblk ?_ | refine G_block ?_ | refine G_exit rfl ?_)
  refine G_region ?_
  refine GO_q rfl rfl (ev_assign rfl) ?_
  refine GO_q rfl rfl (ev_assign rfl) ?_
  refine GO_nil ?_
  (repeat first | refine G_seq ?_ | refine G_skip ?_ | refine G_endblk ?_ | refine G_block ?_ | refine G_exit rfl ?_)
  refine G_region ?_
  refine GO_q rfl rfl (ev_move rfl) ?_
  (first | refine GO_q rfl rfl (ev_eqlNil rfl rfl) ?_ | refine GO_q rfl rfl (ev_eqlPtr rfl rfl) ?_)
  refine GO_q rfl rfl (ev_move rfl) ?_
  refine GO_yes rfl rfl rfl rfl ?_
  refine GO_q rfl rfl (ev_move rfl) ?_
  refine GO_yes rfl rfl rfl rfl ?_
  refine GO_q rfl rfl (ev_move rfl) ?_
  refine GO_yes rfl rfl rfl rfl ?_
  refine GO_q rfl rfl (ev_gtr rfl rfl) ?_
  refine GO_q rfl rfl (ev_pick_f rfl rfl rfl) ?_
  refine GO_nil ?_
  (repeat first | refine G_seq ?_ | refine G_skip ?_ | refine G_endblk ?_ | refine G_block ?_ | refine G_exit rfl ?_)
  refine G_cond_f rfl (decide_eq_false (by omega)) ?_
  (repeat first | refine G_seq ?_ | refine G_skip ?_ | refine G_endblk ?_ | refine G_block ?_ | refine G_exit rfl ?_)
  refine G_region ?_
  refine GO_q rfl rfl (ev_move rfl) ?_
  refine GO_q rfl rfl (ev_move rfl) ?_
  refine GO_q rfl rfl (ev_move rfl) ?_
  refine GO_eff rfl rfl (eff_call rfl (hown _ h.skip)) ?_; rintro _ _ ⟨⟨A', n', c', rfl, hr⟩, rfl⟩
  refine GO_q rfl rfl (ev_len rfl) ?_
  refine GO_q rfl rfl (ev_move rfl) ?_
  refine GO_nil ?_
  have hlen : (IT.own u v mid p q).length = n' := hr.len (by decide)
  generalize IT.own u v mid p q = os at *
  (repeat first | refine G_seq ?_ | refine G_skip ?_ | refine G_endblk ?_)
  refine G_cut (ι := Option Addr × Nat) (fun x => [(0, .pointer (some ⟨b, 0, none⟩)), (1, .int .i64 u), (2, .int .i64 v), (6, .slice x.1 (idI os).length x.2), (7, .slice none 0 0)]) (fun x => own 3 1 x.1 (idI os).length x.2 (flat (idI os)) :: F :: L) (fun x => 0 < (idI os).length → ∃ b, x.1 = some ⟨b, 0, none⟩) ?_ ?_
  · (repeat first | refine G_seq ?_ | refine G_skip ?_ | refine G_endblk ?_ | refine G_block ?_ | refine G_exit rfl ?_)
    refine G_heap (own.nil_ 3 1) ?_
    refine G_loop (ι := Nat × Option Addr × Nat) (fun z => [(0, .pointer (some ⟨b, 0, none⟩)), (1, .int .i64 u), (2, .int .i64 v), (6, .slice z.2.1 (idI (os.take z.1)).length z.2.2), (7, .slice none 0 0), (20, .slice A' n' c'), (21, .int .i64 (n' : Nat)), (22, .int .i64 (z.1 : Nat))]) (fun z => own 3 1 z.2.1 (idI (os.take z.1)).length z.2.2 (flat (idI (os.take z.1))) :: F :: L) (fun z => z.1 ≤ n' ∧ (0 < (idI (os.take z.1)).length → ∃ b, z.2.1 = some ⟨b, 0, none⟩)) (fun z => n' - z.1) (0, none, 0) ⟨Nat.zero_le _, fun h => absurd h (Nat.lt_irrefl 0)⟩ ⟨rfl, rfl, rfl, rfl, rfl, rfl, rfl, rfl, trivial⟩ (by (repeat first | exact fun _ s => s | apply en_keep | apply en_drop | apply en_app) <;> fail) ?_
    rintro ⟨k, B, e⟩ ⟨f1, f2⟩
    simp only at f1 f2
    dsimp only
    have hkl : (idI (os.take k)).length ≤ 100000 := by rw [idI_length, List.length_take]; omega
    (repeat first | refine G_seq ?_ | refine G_skip ?_ | refine G_endblk ?_ | refine G_block ?_ | refine G_exit rfl ?_)
    refine G_region ?_
    (first | refine GO_q rfl rfl (ev_lssN rfl rfl) ?_ | refine GO_q rfl rfl (ev_lss rfl rfl) ?_)
    refine GO_nil ?_
    (repeat first | refine G_seq ?_ | refine G_skip ?_ | refine G_endblk ?_ | refine G_block ?_ | refine G_exit rfl ?_)
    refine G_cond rfl (fun c1 => ?_) (fun c1 => ?_)
    · obtain ⟨lb, lo', rfl, x1⟩ := hr.at_ (by omega)
      have g1 : os[k]? = some os[k] := List.getElem?_eq_getElem (by omega)
      have y1 := x1 _ _ g1
      have hs := idI_snoc g1
      generalize os[k] = a at *
      have z1 : LdN (F :: L) lb (lo' + k * 3) 3 [.int .i64 a.id, .int .i64 a.x, .int .i64 a.y] := y1
      (repeat first | refine G_seq ?_ | refine G_skip ?_ | refine G_endblk ?_ | refine G_block ?_ | refine G_exit rfl ?_)
      refine G_region ?_
      (first | refine GO_q rfl rfl (ev_indexAddrN rfl rfl (by first | omega | (simp; done) | (simp; omega))) ?_ | refine GO_q rfl rfl (ev_indexAddr rfl rfl (by first | omega | (simp; done) | (simp; omega)) (by first | omega | (simp; done) | (simp; omega))) ?_)
      refine GO_q rfl rfl (ev_loadN rfl (by repeat' first | exact LdN.blk rfl | assumption | apply LdN.skip | apply LdN.app)) ?_
      refine GO_eff rfl rfl eff_alloc ?_; rintro _ _ ⟨b9, rfl, rfl⟩
      refine GO_eff rfl rfl (eff_storeN rfl rfl rfl rfl (by repeat' first | exact Upd.here rfl | apply Upd.skip | apply Upd.app)) ?_; rintro _ _ ⟨rfl, rfl⟩
      refine GO_nil ?_
      (repeat first | refine G_seq ?_ | refine G_skip ?_ | refine G_endblk ?_ | refine G_block ?_ | refine G_exit rfl ?_)
      refine G_region ?_
      refine GO_q rfl rfl (ev_move rfl) ?_
      refine GO_q rfl rfl (ev_fieldAddr rfl) ?_
      refine GO_q rfl rfl (ev_load rfl (by repeat' first | exact Ld.blk rfl | assumption | apply Ld.skip | apply Ld.app)) ?_
      refine GO_eff rfl rfl (eff_buildSlice1 (by rfl) rfl rfl) ?_; rintro _ _ ⟨b29, rfl, rfl⟩
      refine GO_eff rfl rfl (eff_append rfl rfl (by repeat' first | exact Pick.here | apply Pick.skip) (by repeat' first | exact Rc.blk rfl | assumption | apply Rc.skip) (one_all rfl) (by rfl) (by decide) (by first | omega | (simp; done) | (simp; omega)) (by first | omega | (simp; done) | (simp; omega))) ?_; rintro _ _ ⟨A30, c30, rfl, hc30, hm30, hn30, rfl⟩
      refine GO_q rfl rfl (ev_assign rfl) ?_
      refine GO_nil ?_
      (repeat first | refine G_seq ?_ | refine G_skip ?_ | refine G_endblk ?_ | refine G_block ?_ | refine G_exit rfl ?_)
      refine G_region ?_
      (first | refine GO_q rfl rfl (ev_addN (q := 1) rfl rfl (by first | omega | (simp; done) | (simp; omega))) ?_ | refine GO_q rfl rfl (ev_add rfl rfl (by first | omega | (simp; done) | (simp; omega))) ?_)
      refine GO_q rfl rfl (ev_move rfl) ?_
      refine GO_nil ?_
      (repeat first | refine G_seq ?_ | refine G_skip ?_ | refine G_endblk ?_ | refine G_block ?_ | refine G_exit rfl ?_)
      refine G_round (k + 1, A30, c30) ⟨by simp only; omega, by simp only; rw [hs, List.length_append]; exact fun _ => hn30 (by omega)⟩ (by simp only; omega) ⟨rfl, rfl, rfl, by simp only; rw [hs, List.length_append]; rfl, rfl, rfl, rfl, rfl, trivial⟩ ?_
      simp only
      rw [hs, List.length_append, ← flat_snoc]
      exact (by (repeat first | exact en_refl | (apply en_blk; focus ((repeat' first | exact Pick.here | apply Pick.skip | apply Pick.app); done); focus rfl) | (apply en_own; focus ((repeat' first | exact Pick.here | apply Pick.skip | apply Pick.app); done); focus rfl) | (apply en_pick; focus ((repeat' first | exact Pick.here | apply Pick.skip | apply Pick.app); done)) | apply en_drop | apply en_app) <;> fail)
    · have e5 : os.take k = os := List.take_of_length_le (by omega)
      rw [e5] at f2 ⊢
      (repeat first | refine G_seq ?_ | refine G_skip ?_ | refine G_endblk ?_ | refine G_block ?_ | refine G_exit rfl ?_)
      exact G_inv (B, e) f2 ⟨rfl, rfl, rfl, rfl, rfl, trivial⟩ (by (repeat first | exact fun _ s => s | apply en_keep | apply en_drop | apply en_app) <;> fail)
  · rintro ⟨B, e⟩ hB
    simp only at hB
    dsimp only
    have hsl : (srt (idI os)).length = (idI os).length := srt_length _
    have hil : (idI os).length ≤ 100000 := by rw [idI_length]; exact hol
    (repeat first | refine G_seq ?_ | refine G_skip ?_ | refine G_endblk ?_ | refine G_block ?_ | refine G_exit rfl ?_)
    refine G_region ?_
    refine GO_q rfl rfl (ev_move rfl) ?_
    refine GO_eff rfl rfl (eff_call rfl (Ctr.pick (by repeat' first | exact Pick.here | apply Pick.skip | apply Pick.app) (sort_ctr B _ e (idI os) _ hB rfl (by omega)))) ?_; rintro _ _ ⟨rfl, rfl⟩
    refine GO_nil ?_
    rw [hsl]
    generalize flat (srt (idI os)) = fs at *
    generalize (idI os).length = ni at *
    refine G_heap (own.nil_ 52 1) ?_
    (repeat first | refine G_skip ?_ | refine G_endblk ?_)
    refine G_seq ?_
    refine G_cut (ι := Option Addr × Nat) (fun x => [(0, .pointer (some ⟨b, 0, none⟩)), (1, .int .i64 u), (2, .int .i64 v), (6, .slice B ni e), (7, .slice x.1 l1.length x.2)]) (fun x => own 52 1 x.1 l1.length x.2 (flat (addrsI l1)) :: own 3 1 B ni e fs :: F :: L) (fun x => 0 < l1.length → ∃ b, x.1 = some ⟨b, 0, none⟩) ?_ ?_
    · by_cases c1 : u < mid
      · cases hn : lo.addr.isSome with
        | true =>
          have el : l1 = [lo] := by rw [e1]; simp [hn, c1]
          subst el
          (repeat first | refine G_seq ?_ | refine G_skip ?_ | refine G_endblk ?_ | refine G_block ?_ | refine G_exit rfl ?_)
          refine G_region ?_
          refine GO_q rfl rfl (ev_move rfl) ?_
          refine GO_q rfl rfl (ev_move rfl) ?_
          (first | refine GO_q rfl rfl (ev_nilCheck rfl) ?_ | refine GO_q rfl rfl (ev_nilCheckF (by simp) rfl) ?_)
          refine GO_q rfl rfl (ev_fieldAddr rfl) ?_
          refine GO_q rfl rfl (ev_load rfl (by repeat' first | exact Ld.blk rfl | assumption | apply Ld.skip | apply Ld.app)) ?_
          (first | refine GO_q rfl rfl (ev_lssN rfl rfl) ?_ | refine GO_q rfl rfl (ev_lss rfl rfl) ?_)
          refine GO_q rfl rfl (ev_move rfl) ?_
          refine GO_yes rfl rfl rfl (decide_eq_true c1) ?_
          refine GO_q rfl rfl (ev_move rfl) ?_
          refine GO_yes rfl rfl rfl (decide_eq_true c1) ?_
          (first | refine GO_q rfl rfl (ev_nilCheck rfl) ?_ | refine GO_q rfl rfl (ev_nilCheckF (by simp) rfl) ?_)
          refine GO_yes rfl rfl rfl (decide_eq_true c1) ?_
          refine GO_q rfl rfl (ev_fieldAddr rfl) ?_
          refine GO_yes rfl rfl rfl (decide_eq_true c1) ?_
          refine GO_q rfl rfl (ev_indexAddrA rfl rfl (by first | omega | (simp; done) | (simp; omega)) (by first | omega | (simp; done) | (simp; omega))) ?_
          refine GO_yes rfl rfl rfl (decide_eq_true c1) ?_
          refine GO_q rfl rfl (ev_load rfl (by repeat' first | exact Ld.blk rfl | assumption | apply Ld.skip | apply Ld.app)) ?_
          refine GO_yes rfl rfl rfl (decide_eq_true c1) ?_
          (first | refine GO_q rfl rfl (ev_neqNil rfl rfl) ?_ | refine GO_q rfl rfl (ev_neqPtr rfl rfl) ?_)
          refine GO_q rfl rfl (ev_pick_t rfl (decide_eq_true c1) rfl) ?_
          refine GO_nil ?_
          (repeat first | refine G_seq ?_ | refine G_skip ?_ | refine G_endblk ?_ | refine G_block ?_ | refine G_exit rfl ?_)
          refine G_cond_t rfl hn ?_
          (repeat first | refine G_seq ?_ | refine G_skip ?_ | refine G_endblk ?_ | refine G_block ?_ | refine G_exit rfl ?_)
          refine G_region ?_
          refine GO_q rfl rfl (ev_move rfl) ?_
          refine GO_q rfl rfl (ev_move rfl) ?_
          (first | refine GO_q rfl rfl (ev_nilCheck rfl) ?_ | refine GO_q rfl rfl (ev_nilCheckF (by simp) rfl) ?_)
          refine GO_q rfl rfl (ev_fieldAddr rfl) ?_
          refine GO_q rfl rfl (ev_indexAddrA rfl rfl (by first | omega | (simp; done) | (simp; omega)) (by first | omega | (simp; done) | (simp; omega))) ?_
          refine GO_q rfl rfl (ev_load rfl (by repeat' first | exact Ld.blk rfl | assumption | apply Ld.skip | apply Ld.app)) ?_
          refine GO_eff rfl rfl (eff_buildSlice1 (by rfl) rfl rfl) ?_; rintro _ _ ⟨b54, rfl, rfl⟩
          refine GO_eff rfl rfl (eff_append rfl rfl (by repeat' first | exact Pick.here | apply Pick.skip) (by repeat' first | exact Rc.blk rfl | assumption | apply Rc.skip) (one_all rfl) (by rfl) (by decide) (by first | omega | (simp; done) | (simp; omega)) (by first | omega | (simp; done) | (simp; omega))) ?_; rintro _ _ ⟨A55, c55, rfl, hc55, hm55, hn55, rfl⟩
          refine GO_q rfl rfl (ev_assign rfl) ?_
          refine GO_nil ?_
          (repeat first | refine G_seq ?_ | refine G_skip ?_ | refine G_endblk ?_ | refine G_block ?_ | refine G_exit rfl ?_)
          exact G_inv (A55, c55) (fun _ => hn55 (by simp)) ⟨rfl, rfl, rfl, rfl, rfl, trivial⟩ (by (repeat first | exact en_refl | (apply en_blk; focus ((repeat' first | exact Pick.here | apply Pick.skip | apply Pick.app); done); focus rfl) | (apply en_own; focus ((repeat' first | exact Pick.here | apply Pick.skip | apply Pick.app); done); focus rfl) | (apply en_pick; focus ((repeat' first | exact Pick.here | apply Pick.skip | apply Pick.app); done)) | apply en_drop | apply en_app) <;> fail)
        | false =>
          have el : l1 = [] := by rw [e1]; simp [hn]
          subst el
          (repeat first | refine G_seq ?_ | refine G_skip ?_ | refine G_endblk ?_ | refine G_block ?_ | refine G_exit rfl ?_)
          refine G_region ?_
          refine GO_q rfl rfl (ev_move rfl) ?_
          refine GO_q rfl rfl (ev_move rfl) ?_
          (first | refine GO_q rfl rfl (ev_nilCheck rfl) ?_ | refine GO_q rfl rfl (ev_nilCheckF (by simp) rfl) ?_)
          refine GO_q rfl rfl (ev_fieldAddr rfl) ?_
          refine GO_q rfl rfl (ev_load rfl (by repeat' first | exact Ld.blk rfl | assumption | apply Ld.skip | apply Ld.app)) ?_
          (first | refine GO_q rfl rfl (ev_lssN rfl rfl) ?_ | refine GO_q rfl rfl (ev_lss rfl rfl) ?_)
          refine GO_q rfl rfl (ev_move rfl) ?_
          refine GO_yes rfl rfl rfl (decide_eq_true c1) ?_
          refine GO_q rfl rfl (ev_move rfl) ?_
          refine GO_yes rfl rfl rfl (decide_eq_true c1) ?_
          (first | refine GO_q rfl rfl (ev_nilCheck rfl) ?_ | refine GO_q rfl rfl (ev_nilCheckF (by simp) rfl) ?_)
          refine GO_yes rfl rfl rfl (decide_eq_true c1) ?_
          refine GO_q rfl rfl (ev_fieldAddr rfl) ?_
          refine GO_yes rfl rfl rfl (decide_eq_true c1) ?_
          refine GO_q rfl rfl (ev_indexAddrA rfl rfl (by first | omega | (simp; done) | (simp; omega)) (by first | omega | (simp; done) | (simp; omega))) ?_
          refine GO_yes rfl rfl rfl (decide_eq_true c1) ?_
          refine GO_q rfl rfl (ev_load rfl (by repeat' first | exact Ld.blk rfl | assumption | apply Ld.skip | apply Ld.app)) ?_
          refine GO_yes rfl rfl rfl (decide_eq_true c1) ?_
          (first | refine GO_q rfl rfl (ev_neqNil rfl rfl) ?_ | refine GO_q rfl rfl (ev_neqPtr rfl rfl) ?_)
          refine GO_q rfl rfl (ev_pick_t rfl (decide_eq_true c1) rfl) ?_
          refine GO_nil ?_
          (repeat first | refine G_seq ?_ | refine G_skip ?_ | refine G_endblk ?_ | refine G_block ?_ | refine G_exit rfl ?_)
          refine G_cond_f rfl hn ?_
          (repeat first | refine G_seq ?_ | refine G_skip ?_ | refine G_endblk ?_ | refine G_block ?_ | refine G_exit rfl ?_)
          exact G_inv (none, 0) (fun h => absurd h (Nat.lt_irrefl 0)) ⟨rfl, rfl, rfl, rfl, rfl, trivial⟩ (by (repeat first | exact en_refl | (apply en_blk; focus ((repeat' first | exact Pick.here | apply Pick.skip | apply Pick.app); done); focus rfl) | (apply en_own; focus ((repeat' first | exact Pick.here | apply Pick.skip | apply Pick.app); done); focus rfl) | (apply en_pick; focus ((repeat' first | exact Pick.here | apply Pick.skip | apply Pick.app); done)) | apply en_drop | apply en_app) <;> fail)
      · have el : l1 = [] := by rw [e1]; simp [c1]
        subst el
        (repeat first | refine G_seq ?_ | refine G_skip ?_ | refine G_endblk ?_ | refine G_block ?_ | refine G_exit rfl ?_)
        refine G_region ?_
        refine GO_q rfl rfl (ev_move rfl) ?_
        refine GO_q rfl rfl (ev_move rfl) ?_
        (first | refine GO_q rfl rfl (ev_nilCheck rfl) ?_ | refine GO_q rfl rfl (ev_nilCheckF (by simp) rfl) ?_)
        refine GO_q rfl rfl (ev_fieldAddr rfl) ?_
        refine GO_q rfl rfl (ev_load rfl (by repeat' first | exact Ld.blk rfl | assumption | apply Ld.skip | apply Ld.app)) ?_
        (first | refine GO_q rfl rfl (ev_lssN rfl rfl) ?_ | refine GO_q rfl rfl (ev_lss rfl rfl) ?_)
        refine GO_q rfl rfl (ev_move rfl) ?_
        refine GO_no rfl rfl rfl (decide_eq_false c1) ?_
        refine GO_no rfl rfl rfl (decide_eq_false c1) ?_
        refine GO_no rfl rfl rfl (decide_eq_false c1) ?_
        refine GO_no rfl rfl rfl (decide_eq_false c1) ?_
        refine GO_no rfl rfl rfl (decide_eq_false c1) ?_
        refine GO_no rfl rfl rfl (decide_eq_false c1) ?_
        refine GO_q rfl rfl (ev_pick_f rfl (decide_eq_false c1) rfl) ?_
        refine GO_nil ?_
        (repeat first | refine G_seq ?_ | refine G_skip ?_ | refine G_endblk ?_ | refine G_block ?_ | refine G_exit rfl ?_)
        refine G_cond_f rfl rfl ?_
        (repeat first | refine G_seq ?_ | refine G_skip ?_ | refine G_endblk ?_ | refine G_block ?_ | refine G_exit rfl ?_)
        exact G_inv (none, 0) (fun h => absurd h (Nat.lt_irrefl 0)) ⟨rfl, rfl, rfl, rfl, rfl, trivial⟩ (by (repeat first | exact en_refl | (apply en_blk; focus ((repeat' first | exact Pick.here | apply Pick.skip | apply Pick.app); done); focus rfl) | (apply en_own; focus ((repeat' first | exact Pick.here | apply Pick.skip | apply Pick.app); done); focus rfl) | (apply en_pick; focus ((repeat' first | exact Pick.here | apply Pick.skip | apply Pick.app); done)) | apply en_drop | apply en_app) <;> fail)
    · rintro ⟨A1, c1⟩ hA1
      simp only at hA1
      dsimp only
      have h1b : l1.length ≤ 1 := by rw [e1]; split <;> simp
      (repeat first | refine G_skip ?_ | refine G_endblk ?_)
      refine G_seq ?_
      refine G_cut (ι := Option Addr × Nat) (fun x => [(6, .slice B ni e), (7, .slice x.1 (l1 ++ l2).length x.2)]) (fun x => own 52 1 x.1 (l1 ++ l2).length x.2 (flat (addrsI (l1 ++ l2))) :: own 3 1 B ni e fs :: F :: L) (fun x => 0 < (l1 ++ l2).length → ∃ b, x.1 = some ⟨b, 0, none⟩) ?_ ?_
      · by_cases c2 : mid < v
        · cases hn : hi.addr.isSome with
          | true =>
            have el : l2 = [hi] := by rw [e2]; simp [hn, c2]
            subst el
            (repeat first | refine G_seq ?_ | refine G_skip ?_ | refine G_endblk ?_ | refine G_block ?_ | refine G_exit rfl ?_)
            refine G_region ?_
            refine GO_q rfl rfl (ev_move rfl) ?_
            refine GO_q rfl rfl (ev_move rfl) ?_
            (first | refine GO_q rfl rfl (ev_nilCheck rfl) ?_ | refine GO_q rfl rfl (ev_nilCheckF (by simp) rfl) ?_)
            refine GO_q rfl rfl (ev_fieldAddr rfl) ?_
            refine GO_q rfl rfl (ev_load rfl (by repeat' first | exact Ld.blk rfl | assumption | apply Ld.skip | apply Ld.app)) ?_
            refine GO_q rfl rfl (ev_gtr rfl rfl) ?_
            refine GO_q rfl rfl (ev_move rfl) ?_
            refine GO_yes rfl rfl rfl (decide_eq_true c2) ?_
            refine GO_q rfl rfl (ev_move rfl) ?_
            refine GO_yes rfl rfl rfl (decide_eq_true c2) ?_
            (first | refine GO_q rfl rfl (ev_nilCheck rfl) ?_ | refine GO_q rfl rfl (ev_nilCheckF (by simp) rfl) ?_)
            refine GO_yes rfl rfl rfl (decide_eq_true c2) ?_
            refine GO_q rfl rfl (ev_fieldAddr rfl) ?_
            refine GO_yes rfl rfl rfl (decide_eq_true c2) ?_
            refine GO_q rfl rfl (ev_indexAddrA rfl rfl (by first | omega | (simp; done) | (simp; omega)) (by first | omega | (simp; done) | (simp; omega))) ?_
            refine GO_yes rfl rfl rfl (decide_eq_true c2) ?_
            refine GO_q rfl rfl (ev_load rfl (by repeat' first | exact Ld.blk rfl | assumption | apply Ld.skip | apply Ld.app)) ?_
            refine GO_yes rfl rfl rfl (decide_eq_true c2) ?_
            (first | refine GO_q rfl rfl (ev_neqNil rfl rfl) ?_ | refine GO_q rfl rfl (ev_neqPtr rfl rfl) ?_)
            refine GO_q rfl rfl (ev_pick_t rfl (decide_eq_true c2) rfl) ?_
            refine GO_nil ?_
            (repeat first | refine G_seq ?_ | refine G_skip ?_ | refine G_endblk ?_ | refine G_block ?_ | refine G_exit rfl ?_)
            refine G_cond_t rfl hn ?_
            (repeat first | refine G_seq ?_ | refine G_skip ?_ | refine G_endblk ?_ | refine G_block ?_ | refine G_exit rfl ?_)
            refine G_region ?_
            refine GO_q rfl rfl (ev_move rfl) ?_
            refine GO_q rfl rfl (ev_move rfl) ?_
            (first | refine GO_q rfl rfl (ev_nilCheck rfl) ?_ | refine GO_q rfl rfl (ev_nilCheckF (by simp) rfl) ?_)
            refine GO_q rfl rfl (ev_fieldAddr rfl) ?_
            refine GO_q rfl rfl (ev_indexAddrA rfl rfl (by first | omega | (simp; done) | (simp; omega)) (by first | omega | (simp; done) | (simp; omega))) ?_
            refine GO_q rfl rfl (ev_load rfl (by repeat' first | exact Ld.blk rfl | assumption | apply Ld.skip | apply Ld.app)) ?_
            refine GO_eff rfl rfl (eff_buildSlice1 (by rfl) rfl rfl) ?_; rintro _ _ ⟨b76, rfl, rfl⟩
            refine GO_eff rfl rfl (eff_append rfl rfl (by repeat' first | exact Pick.here | apply Pick.skip) (by repeat' first | exact Rc.blk rfl | assumption | apply Rc.skip) (one_all rfl) (by rfl) (by decide) (by first | omega | (simp; done) | (simp; omega)) (by first | omega | (simp; done) | (simp; omega))) ?_; rintro _ _ ⟨A77, c77, rfl, hc77, hm77, hn77, rfl⟩
            refine GO_q rfl rfl (ev_assign rfl) ?_
            refine GO_nil ?_
            (repeat first | refine G_seq ?_ | refine G_skip ?_ | refine G_endblk ?_ | refine G_block ?_ | refine G_exit rfl ?_)
            exact G_inv (A77, c77) (fun _ => hn77 (by omega)) ⟨rfl, by simp only [List.length_append, List.length_singleton]; rfl, trivial⟩ (by
              simp only [List.length_append, List.length_singleton, addrsI, List.map_append, List.map_cons, List.map_nil]
              rw [flat_append]
              exact (by (repeat first | exact en_refl | (apply en_blk; focus ((repeat' first | exact Pick.here | apply Pick.skip | apply Pick.app); done); focus rfl) | (apply en_own; focus ((repeat' first | exact Pick.here | apply Pick.skip | apply Pick.app); done); focus rfl) | (apply en_pick; focus ((repeat' first | exact Pick.here | apply Pick.skip | apply Pick.app); done)) | apply en_drop | apply en_app) <;> fail))
          | false =>
            have el : l2 = [] := by rw [e2]; simp [hn]
            subst el
            (repeat first | refine G_seq ?_ | refine G_skip ?_ | refine G_endblk ?_ | refine G_block ?_ | refine G_exit rfl ?_)
            refine G_region ?_
            refine GO_q rfl rfl (ev_move rfl) ?_
            refine GO_q rfl rfl (ev_move rfl) ?_
            (first | refine GO_q rfl rfl (ev_nilCheck rfl) ?_ | refine GO_q rfl rfl (ev_nilCheckF (by simp) rfl) ?_)
            refine GO_q rfl rfl (ev_fieldAddr rfl) ?_
            refine GO_q rfl rfl (ev_load rfl (by repeat' first | exact Ld.blk rfl | assumption | apply Ld.skip | apply Ld.app)) ?_
            refine GO_q rfl rfl (ev_gtr rfl rfl) ?_
            refine GO_q rfl rfl (ev_move rfl) ?_
            refine GO_yes rfl rfl rfl (decide_eq_true c2) ?_
            refine GO_q rfl rfl (ev_move rfl) ?_
            refine GO_yes rfl rfl rfl (decide_eq_true c2) ?_
            (first | refine GO_q rfl rfl (ev_nilCheck rfl) ?_ | refine GO_q rfl rfl (ev_nilCheckF (by simp) rfl) ?_)
            refine GO_yes rfl rfl rfl (decide_eq_true c2) ?_
            refine GO_q rfl rfl (ev_fieldAddr rfl) ?_
            refine GO_yes rfl rfl rfl (decide_eq_true c2) ?_
            refine GO_q rfl rfl (ev_indexAddrA rfl rfl (by first | omega | (simp; done) | (simp; omega)) (by first | omega | (simp; done) | (simp; omega))) ?_
            refine GO_yes rfl rfl rfl (decide_eq_true c2) ?_
            refine GO_q rfl rfl (ev_load rfl (by repeat' first | exact Ld.blk rfl | assumption | apply Ld.skip | apply Ld.app)) ?_
            refine GO_yes rfl rfl rfl (decide_eq_true c2) ?_
            (first | refine GO_q rfl rfl (ev_neqNil rfl rfl) ?_ | refine GO_q rfl rfl (ev_neqPtr rfl rfl) ?_)
            refine GO_q rfl rfl (ev_pick_t rfl (decide_eq_true c2) rfl) ?_
            refine GO_nil ?_
            (repeat first | refine G_seq ?_ | refine G_skip ?_ | refine G_endblk ?_ | refine G_block ?_ | refine G_exit rfl ?_)
            refine G_cond_f rfl hn ?_
            (repeat first | refine G_seq ?_ | refine G_skip ?_ | refine G_endblk ?_ | refine G_block ?_ | refine G_exit rfl ?_)
            exact G_inv (A1, c1) (fun h => hA1 (by simpa using h)) ⟨rfl, by rw [List.append_nil]; rfl, trivial⟩ (by rw [List.append_nil]; exact (by (repeat first | exact en_refl | (apply en_blk; focus ((repeat' first | exact Pick.here | apply Pick.skip | apply Pick.app); done); focus rfl) | (apply en_own; focus ((repeat' first | exact Pick.here | apply Pick.skip | apply Pick.app); done); focus rfl) | (apply en_pick; focus ((repeat' first | exact Pick.here | apply Pick.skip | apply Pick.app); done)) | apply en_drop | apply en_app) <;> fail))
        · have el : l2 = [] := by rw [e2]; simp [c2]
          subst el
          (repeat first | refine G_seq ?_ | refine G_skip ?_ | refine G_endblk ?_ | refine G_block ?_ | refine G_exit rfl ?_)
          refine G_region ?_
          refine GO_q rfl rfl (ev_move rfl) ?_
          refine GO_q rfl rfl (ev_move rfl) ?_
          (first | refine GO_q rfl rfl (ev_nilCheck rfl) ?_ | refine GO_q rfl rfl (ev_nilCheckF (by simp) rfl) ?_)
          refine GO_q rfl rfl (ev_fieldAddr rfl) ?_
          refine GO_q rfl rfl (ev_load rfl (by repeat' first | exact Ld.blk rfl | assumption | apply Ld.skip | apply Ld.app)) ?_
          refine GO_q rfl rfl (ev_gtr rfl rfl) ?_
          refine GO_q rfl rfl (ev_move rfl) ?_
          refine GO_no rfl rfl rfl (decide_eq_false c2) ?_
          refine GO_no rfl rfl rfl (decide_eq_false c2) ?_
          refine GO_no rfl rfl rfl (decide_eq_false c2) ?_
          refine GO_no rfl rfl rfl (decide_eq_false c2) ?_
          refine GO_no rfl rfl rfl (decide_eq_false c2) ?_
          refine GO_no rfl rfl rfl (decide_eq_false c2) ?_
          refine GO_q rfl rfl (ev_pick_f rfl (decide_eq_false c2) rfl) ?_
          refine GO_nil ?_
          (repeat first | refine G_seq ?_ | refine G_skip ?_ | refine G_endblk ?_ | refine G_block ?_ | refine G_exit rfl ?_)
          refine G_cond_f rfl rfl ?_
          (repeat first | refine G_seq ?_ | refine G_skip ?_ | refine G_endblk ?_ | refine G_block ?_ | refine G_exit rfl ?_)
          exact G_inv (A1, c1) (fun h => hA1 (by simpa using h)) ⟨rfl, by rw [List.append_nil]; rfl, trivial⟩ (by rw [List.append_nil]; exact (by (repeat first | exact en_refl | (apply en_blk; focus ((repeat' first | exact Pick.here | apply Pick.skip | apply Pick.app); done); focus rfl) | (apply en_own; focus ((repeat' first | exact Pick.here | apply Pick.skip | apply Pick.app); done); focus rfl) | (apply en_pick; focus ((repeat' first | exact Pick.here | apply Pick.skip | apply Pick.app); done)) | apply en_drop | apply en_app) <;> fail))
      · rintro ⟨A2, c2⟩ hA2
        simp only at hA2
        dsimp only
        (repeat first | refine G_seq ?_ | refine G_skip ?_ | refine G_endblk ?_ | refine G_block ?_ | refine G_exit rfl ?_)
        refine G_region ?_
        refine GO_q rfl rfl (ev_move rfl) ?_
        refine GO_q rfl rfl (ev_move rfl) ?_
        refine GO_q rfl rfl (ev_assign rfl) ?_
        refine GO_q rfl rfl (ev_assign rfl) ?_
        refine GO_nil ?_
        (repeat first | refine G_seq ?_ | refine G_skip ?_ | refine G_endblk ?_ | refine G_block ?_ | refine G_exit rfl ?_)
        exact G_ret (L' := own 3 1 B ni e fs :: own 52 1 A2 (l1 ++ l2).length c2 (flat (addrsI (l1 ++ l2))) :: L) rfl (.tmp rfl (.tmp rfl .nil)) (by (repeat first | exact en_refl | (apply en_blk; focus ((repeat' first | exact Pick.here | apply Pick.skip | apply Pick.app); done); focus rfl) | (apply en_own; focus ((repeat' first | exact Pick.here | apply Pick.skip | apply Pick.app); done); focus rfl) | (apply en_pick; focus ((repeat' first | exact Pick.here | apply Pick.skip | apply Pick.app); done)) | apply en_drop | apply en_app) <;> fail) ⟨B, e, A2, c2, rfl, ⟨hB, hA2⟩, rfl⟩
end Go.Proofs.YtjnmpogolknkpaaGreat
/- A tree of middles: what is found from nodes on down: the plain part. -/
namespace Go.Proofs.YtjnmpogolknkpaaGreat
set_option linter.unusedVariables false
set_option linter.unusedSimpArgs false

def IT.ids' (u v : Int) (T : IT) : List Int := if u ≤ v then T.ids u v else []
def IT.nxt' (u v : Int) (T : IT) : List IT := if u ≤ v then T.nxt u v else []
def IT.fnd (u v : Int) : IT → List Int
  | .nil => []
  | .node b mid A c p C d q m lo hi => IT.ids u v (.node b mid A c p C d q m lo hi) ++ ((if u < mid then lo.fnd u v else []) ++ (if mid < v then hi.fnd u v else []))
def IT.fnd' (u v : Int) (T : IT) : List Int := if u ≤ v then T.fnd u v else []
def fndL (u v : Int) (xs : List IT) : List Int := xs.flatMap (IT.fnd' u v)
def IT.cnt : IT → Nat
  | .nil => 0
  | .node _ _ _ _ _ _ _ _ _ lo hi => lo.cnt + hi.cnt + 1
def wtI (xs : List IT) : Nat := (xs.map fun x => 2 * x.cnt + 1).sum
def spL (xs : List IT) : Nat := (xs.map fun x => x.spans.length).sum
theorem IT.addr_some {T : IT} (h : ¬ T.addr.isSome = true) : T = .nil := by
  cases T with
  | nil => rfl
  | node => simp [IT.addr] at h
theorem IT.fnd_eq (u v : Int) (T : IT) : T.fnd' u v = T.ids' u v ++ fndL u v (T.nxt' u v) := by
  unfold IT.fnd' IT.ids' IT.nxt' fndL
  by_cases huv : u ≤ v
  · simp only [if_pos huv]
    cases T with
    | nil => rfl
    | node b mid A c p C d q m lo hi =>
      simp only [IT.fnd, IT.nxt, List.flatMap_append]
      congr 2
      · simp only [IT.nx1]
        by_cases c1 : u < mid
        · by_cases c2 : lo.addr.isSome = true
          · rw [if_pos c1, if_pos ⟨c1, c2⟩]; simp [IT.fnd', if_pos huv]
          · rw [if_pos c1, if_neg (fun h => c2 h.2), IT.addr_some c2]; rfl
        · rw [if_neg c1, if_neg (fun h => c1 h.1)]; rfl
      · simp only [IT.nx2]
        by_cases c1 : mid < v
        · by_cases c2 : hi.addr.isSome = true
          · rw [if_pos c1, if_pos ⟨c1, c2⟩]; simp [IT.fnd', if_pos huv]
          · rw [if_pos c1, if_neg (fun h => c2 h.2), IT.addr_some c2]; rfl
        · rw [if_neg c1, if_neg (fun h => c1 h.1)]; rfl
  · simp [if_neg huv]
theorem own_len {u v mid : Int} {p q : List Pt} (hq : q = srtO Pt.ends p) : (IT.own u v mid p q).length ≤ p.length := by
  have hql : q.length = p.length := by rw [hq, srtO_length]
  unfold IT.own
  split
  · exact List.length_filter_le _ _
  · split
    · exact Nat.le_trans (List.length_filter_le _ _) (by omega)
    · exact Nat.le_refl _
theorem IT.ok.ids_len {u v : Int} {T : IT} (h : T.ok) : (T.ids' u v).length ≤ T.spans.length := by
  unfold IT.ids'
  split
  · cases T with
    | nil => exact Nat.zero_le _
    | node b mid A c p C d q m lo hi =>
      have := own_len (u := u) (v := v) (mid := mid) h.1.2.1
      simp only [IT.ids, IT.spans, List.length_append, srt_length, idI_length]; omega
  · exact Nat.zero_le _
theorem wtI_append (l m : List IT) : wtI (l ++ m) = wtI l + wtI m := by unfold wtI; rw [List.map_append, List.sum_append]
theorem spL_append (l m : List IT) : spL (l ++ m) = spL l + spL m := by unfold spL; rw [List.map_append, List.sum_append]
theorem IT.nxt_cases {P : IT → Prop} {u v : Int} {b : Nat} {mid : Int} {A : Option Addr} {c : Nat} {p : List Pt} {C : Option Addr} {d : Nat} {q : List Pt} {m : Nat} {lo hi : IT} (h1 : P lo) (h2 : P hi) : ∀ x ∈ IT.nxt' u v (.node b mid A c p C d q m lo hi), P x := by
  intro x hx
  unfold IT.nxt' at hx
  split at hx
  · rcases List.mem_append.1 hx with h | h
    · simp only [IT.nx1] at h
      split at h
      · simp at h; subst h; exact h1
      · cases h
    · simp only [IT.nx2] at h
      split at h
      · simp at h; subst h; exact h2
      · cases h
  · cases hx
theorem IT.nxt'_wt (u v : Int) (T : IT) : wtI (T.nxt' u v) ≤ 2 * T.cnt ∧ (T.nxt' u v).length ≤ 2 ∧ spL (T.nxt' u v) ≤ T.spans.length := by
  unfold IT.nxt'
  split
  · cases T with
    | nil => exact ⟨Nat.zero_le _, Nat.zero_le _, Nat.zero_le _⟩
    | node b mid A c p C d q m lo hi =>
      have a1 : wtI (IT.nx1 u v (.node b mid A c p C d q m lo hi)) ≤ 2 * lo.cnt + 1 ∧ (IT.nx1 u v (.node b mid A c p C d q m lo hi)).length ≤ 1 ∧ spL (IT.nx1 u v (.node b mid A c p C d q m lo hi)) ≤ lo.spans.length := by
        simp only [IT.nx1]; split <;> simp [wtI, spL]
      have a2 : wtI (IT.nx2 u v (.node b mid A c p C d q m lo hi)) ≤ 2 * hi.cnt + 1 ∧ (IT.nx2 u v (.node b mid A c p C d q m lo hi)).length ≤ 1 ∧ spL (IT.nx2 u v (.node b mid A c p C d q m lo hi)) ≤ hi.spans.length := by
        simp only [IT.nx2]; split <;> simp [wtI, spL]
      simp only [IT.nxt, IT.cnt, IT.spans, wtI_append, spL_append, List.length_append]
      omega
  · exact ⟨Nat.zero_le _, Nat.zero_le _, Nat.zero_le _⟩
theorem IT.ok.nxt {u v : Int} {T : IT} (h : T.ok) : ∀ x ∈ T.nxt' u v, x.ok := by
  cases T with
  | nil => intro x hx; unfold IT.nxt' at hx; split at hx <;> cases hx
  | node b mid A c p C d q m lo hi => exact IT.nxt_cases h.2.2.2.2.1 h.2.2.2.2.2
theorem IIn.nxt {L : List HP} {u v : Int} {T : IT} (h : IIn L T) : ∀ x ∈ T.nxt' u v, IIn L x := by
  cases T with
  | nil => intro x hx; unfold IT.nxt' at hx; split at hx <;> cases hx
  | node b mid A c p C d q m lo hi => exact IT.nxt_cases h.2.2.2.2.1 h.2.2.2.2.2
/-- What is found is what there is. -/
theorem IT.ok.fnd_perm {u v : Int} (huv : u ≤ v) : ∀ {T : IT}, T.ok → (T.fnd u v).Perm (idI (T.spans.filter (ovl u v)))
  | T, h => by
    have h1 : ∀ {T : IT}, (T.fnd u v).Perm (idI (T.found u v)) := by
      intro T
      induction T with
      | nil => exact .refl _
      | node b mid A c p C d q m lo hi i1 i2 =>
        simp only [IT.fnd, IT.found, IT.ids, idI, List.map_append]
        refine (srt_perm _).append (List.Perm.append ?_ ?_)
        · split
          · exact i1
          · exact .refl _
        · split
          · exact i2
          · exact .refl _
    exact h1.trans ((h.found huv).map _)
theorem IT.ok.fnd'_perm {u v : Int} {T : IT} (h : T.ok) : (T.fnd' u v).Perm (idI (T.spans.filter (ovl u v))) := by
  unfold IT.fnd'
  by_cases huv : u ≤ v
  · rw [if_pos huv]; exact h.fnd_perm huv
  · rw [if_neg huv, List.filter_eq_nil_iff.2]
    · exact .refl _
    · intro s _; simp [ovl]; omega
end Go.Proofs.YtjnmpogolknkpaaGreat
/- A tree of middles: Look, found, overlap, has. -/
namespace Go.Proofs.YtjnmpogolknkpaaGreat
attribute [local irreducible] sat
set_option linter.unusedVariables false
set_option linter.unusedSimpArgs false
set_option maxRecDepth 100000

/-- What a look leaves. -/
def LkP (u v : Int) (T : IT) (L : List HP) (r : Value) (L' : List HP) : Prop := ∃ A1 c1 A2 c2, r = .tuple #[.slice A1 (T.ids' u v).length c1, .slice A2 (T.nxt' u v).length c2] ∧
      ((0 < (T.ids' u v).length → ∃ b, A1 = some ⟨b, 0, none⟩) ∧ (0 < (T.nxt' u v).length → ∃ b, A2 = some ⟨b, 0, none⟩)) ∧
      L' = own 3 1 A1 (T.ids' u v).length c1 (flat (T.ids' u v)) :: own 52 1 A2 (T.nxt' u v).length c2 (flat (addrsI (T.nxt' u v))) :: L
theorem lookU_ctr (T : IT) (u v : Int) (L : List HP) (h : IIn L T) (ho : T.ok) (hn : T.spans.length ≤ 100000) : Ctr Tryz.prog 57 #[.pointer T.addr, .int .i64 u, .int .i64 v] L fun r L' => LkP u v T L r L' := by
  by_cases h0 : T.addr = none ∨ v < u
  · have e1 : T.ids' u v = [] ∧ T.nxt' u v = [] := by
      unfold IT.ids' IT.nxt'
      rcases h0 with h0 | h0
      · cases T with
        | nil => exact ⟨by split <;> rfl, by split <;> rfl⟩
        | node => cases h0
      · exact ⟨if_neg (by omega), if_neg (by omega)⟩
    unfold LkP
    rw [e1.1, e1.2]
    refine (look0_ctr T u v L h0).post' ?_
    rintro r L' hm ⟨rfl, rfl⟩ s
    exact ⟨_, ⟨none, 0, none, 0, rfl, ⟨fun h => absurd h (Nat.lt_irrefl 0), fun h => absurd h (Nat.lt_irrefl 0)⟩, rfl⟩, own.nil_ 3 1 _ (own.nil_ 52 1 _ s)⟩
  · have huv : u ≤ v := by
      rcases Int.lt_or_le v u with h1 | h1
      · exact absurd (.inr h1) h0
      · exact h1
    cases T with
    | nil => exact absurd (.inl rfl) h0
    | node b mid A c p C d q m lo hi =>
      have e : ∀ {α : Type} {x y : α}, (if u ≤ v then x else y) = x := if_pos huv
      simp only [IT.spans, List.length_append] at hn
      unfold LkP IT.ids' IT.nxt'
      simp only [e]
      exact look_ctr b mid A c p C d q m lo hi u v L h ho.1.1 ho.1.2.1 (by omega) huv
theorem Look_ctr (T : IT) (u v : Int) (L : List HP) (h : IIn L T) (ho : T.ok) (hn : T.spans.length ≤ 100000) : Ctr Tryz.prog 33 #[.pointer T.addr, .int .i64 u, .int .i64 v] L fun r L' => LkP u v T L r L' := by
  refine Ctr_of (fn := Tryz.f33) (n := 14) Tryz.func33 rfl rfl rfl ?_
  intro g F
  (repeat first | refine G_seq ?_ | refine G_skip ?_ | refine G_endblk ?_ | refine G_block ?_ | refine G_exit rfl ?_)
  refine G_region ?_
  refine GO_q rfl rfl (ev_assign rfl) ?_
  refine GO_q rfl rfl (ev_assign rfl) ?_
  refine GO_nil ?_
  (repeat first | refine G_seq ?_ | refine G_skip ?_ | refine G_endblk ?_ | refine G_block ?_ | refine G_exit rfl ?_)
  refine G_region ?_
  refine GO_q rfl rfl (ev_move rfl) ?_
  refine GO_q rfl rfl (ev_move rfl) ?_
  refine GO_q rfl rfl (ev_move rfl) ?_
  refine GO_eff rfl rfl (eff_call rfl (lookU_ctr T u v _ h.skip ho hn)) ?_; rintro _ _ ⟨A1, c1, A2, c2, rfl, hA, rfl⟩
  refine GO_q rfl rfl (ev_extract rfl rfl) ?_
  refine GO_q rfl rfl (ev_extract rfl rfl) ?_
  refine GO_q rfl rfl (ev_assign rfl) ?_
  refine GO_q rfl rfl (ev_assign rfl) ?_
  refine GO_nil ?_
  (repeat first | refine G_seq ?_ | refine G_skip ?_ | refine G_endblk ?_ | refine G_block ?_ | refine G_exit rfl ?_)
  exact G_ret (L' := own 3 1 A1 (T.ids' u v).length c1 (flat (T.ids' u v)) :: own 52 1 A2 (T.nxt' u v).length c2 (flat (addrsI (T.nxt' u v))) :: L) rfl (.tmp rfl (.tmp rfl .nil)) (by (repeat first | exact en_refl | (apply en_blk; focus ((repeat' first | exact Pick.here | apply Pick.skip | apply Pick.app); done); focus rfl) | (apply en_own; focus ((repeat' first | exact Pick.here | apply Pick.skip | apply Pick.app); done); focus rfl) | (apply en_pick; focus ((repeat' first | exact Pick.here | apply Pick.skip | apply Pick.app); done)) | apply en_drop | apply en_app) <;> fail) ⟨A1, c1, A2, c2, rfl, hA, rfl⟩
end Go.Proofs.YtjnmpogolknkpaaGreat
/- A tree of middles: what a tree tells. -/
namespace Go.Proofs.YtjnmpogolknkpaaGreat
attribute [local irreducible] sat
set_option linter.unusedVariables false
set_option linter.unusedSimpArgs false
set_option maxRecDepth 100000

/-- A tree that can be read. -/
structure TI (L : List HP) (t : Nat) (T : IT) (most : Int) : Prop where
  root : Ld L ⟨t, 0 + 0, none⟩ (.pointer T.addr)
  most : Ld L ⟨t, 0 + 1, none⟩ (.int .i64 most)
  i : IIn L T
theorem TI.skip {X : HP} {L : List HP} {t : Nat} {T : IT} {most : Int} (h : TI L t T most) : TI (X :: L) t T most := ⟨h.root.skip, h.most.skip, h.i.skip⟩
theorem TI.app {N L : List HP} {t : Nat} {T : IT} {most : Int} (h : TI L t T most) : TI (N ++ L) t T most := ⟨h.root.app, h.most.app, h.i.app⟩
theorem IT.has_node (s : Pt) (b : Nat) (mid : Int) (A : Option Addr) (c : Nat) (p : List Pt) (C : Option Addr) (d : Nat) (q : List Pt) (m : Nat) (lo hi : IT) : (IT.node b mid A c p C d q m lo hi).has s = if s.y < mid then lo.has s else if mid < s.x then hi.has s else decide (s ∈ p) := rfl
section
variable {t : Nat} {T : IT} {most : Int} {L : List HP} (h : TI L t T most)
include h
theorem itop_ctr : Ctr Tryz.prog 51 #[.pointer (some ⟨t, 0, none⟩)] L fun v L' => v = .pointer T.addr ∧ L' = L := by
  have h1 := h.root
  refine Ctr_of (fn := Tryz.f51) (n := 9) Tryz.func51 rfl rfl rfl ?_
  intro g F
  (repeat first | refine G_seq ?_ | refine G_skip ?_ | refine G_endblk ?_ | refine G_block ?_ | refine G_exit rfl ?_)
  refine G_region ?_
  refine GO_q rfl rfl (ev_assign rfl) ?_
  refine GO_nil ?_
  (repeat first | refine G_seq ?_ | refine G_skip ?_ | refine G_endblk ?_ | refine G_block ?_ | refine G_exit rfl ?_)
  refine G_region ?_
  refine GO_q rfl rfl (ev_move rfl) ?_
  (first | refine GO_q rfl rfl (ev_eqlNil rfl rfl) ?_ | refine GO_q rfl rfl (ev_eqlPtr rfl rfl) ?_)
  refine GO_nil ?_
  (repeat first | refine G_seq ?_ | refine G_skip ?_ | refine G_endblk ?_ | refine G_block ?_ | refine G_exit rfl ?_)
  refine G_cond_f rfl rfl ?_
  (repeat first | refine G_seq ?_ | refine G_skip ?_ | refine G_endblk ?_ | refine G_block ?_ | refine G_exit rfl ?_)
  refine G_region ?_
  refine GO_q rfl rfl (ev_move rfl) ?_
  (first | refine GO_q rfl rfl (ev_nilCheck rfl) ?_ | refine GO_q rfl rfl (ev_nilCheckF (by simp) rfl) ?_)
  refine GO_q rfl rfl (ev_fieldAddr rfl) ?_
  refine GO_q rfl rfl (ev_load rfl (by repeat' first | exact Ld.blk rfl | assumption | apply Ld.skip | apply Ld.app)) ?_
  refine GO_q rfl rfl (ev_assign rfl) ?_
  refine GO_nil ?_
  (repeat first | refine G_seq ?_ | refine G_skip ?_ | refine G_endblk ?_ | refine G_block ?_ | refine G_exit rfl ?_)
  refine G_ret rfl (.tmp rfl .nil) (by (repeat first | exact fun _ s => s | apply en_keep | apply en_drop | apply en_app) <;> fail) ⟨rfl, rfl⟩
theorem iRoot_ctr : Ctr Tryz.prog 28 #[.pointer (some ⟨t, 0, none⟩)] L fun v L' => v = .pointer T.addr ∧ L' = L := by
  refine Ctr_of (fn := Tryz.f28) (n := 5) Tryz.func28 rfl rfl rfl ?_
  intro g F
  (repeat first | refine G_seq ?_ | refine G_skip ?_ | refine G_endblk ?_ | refine G_block ?_ | refine G_exit rfl ?_)
  refine G_region ?_
  refine GO_q rfl rfl (ev_assign rfl) ?_
  refine GO_nil ?_
  (repeat first | refine G_seq ?_ | refine G_skip ?_ | refine G_endblk ?_ | refine G_block ?_ | refine G_exit rfl ?_)
  refine G_region ?_
  refine GO_q rfl rfl (ev_move rfl) ?_
  refine GO_eff rfl rfl (eff_call rfl (itop_ctr h.skip)) ?_; rintro _ _ ⟨rfl, rfl⟩
  refine GO_q rfl rfl (ev_assign rfl) ?_
  refine GO_nil ?_
  (repeat first | refine G_seq ?_ | refine G_skip ?_ | refine G_endblk ?_ | refine G_block ?_ | refine G_exit rfl ?_)
  refine G_ret rfl (.tmp rfl .nil) (by (repeat first | exact fun _ s => s | apply en_keep | apply en_drop | apply en_app) <;> fail) ⟨rfl, rfl⟩
theorem ihas_ctr (s : Pt) (ho : T.ok) (hn : T.spans.length ≤ 100000) : Ctr Tryz.prog 46 #[.pointer (some ⟨t, 0, none⟩), s.v] L fun v L' => v = .bool (T.has s) ∧ L' = L := by
  refine Ctr_of (fn := Tryz.f46) (n := 28) Tryz.func46 rfl rfl rfl ?_
  intro g F
  (repeat first | refine G_seq ?_ | refine G_skip ?_ | refine G_endblk ?_ | refine G_block ?_ | refine G_exit rfl ?_)
  refine G_region ?_
  refine GO_eff rfl rfl (eff_box rfl) ?_; rintro _ _ ⟨b3, rfl, rfl⟩
  refine GO_q rfl rfl (ev_assign rfl) ?_
  refine GO_nil ?_
  (repeat first | refine G_seq ?_ | refine G_skip ?_ | refine G_endblk ?_ | refine G_block ?_ | refine G_exit rfl ?_)
  refine G_region ?_
  refine GO_q rfl rfl (ev_move rfl) ?_
  refine GO_eff rfl rfl (eff_call rfl (itop_ctr h.skip.skip)) ?_; rintro _ _ ⟨rfl, rfl⟩
  refine GO_q rfl rfl (ev_assign rfl) ?_
  refine GO_nil ?_
  (repeat first | refine G_seq ?_ | refine G_skip ?_ | refine G_endblk ?_ | refine G_block ?_ | refine G_exit rfl ?_)
  refine G_loop (ι := IT) (fun x => [(3, .pointer (some ⟨b3, 0, none⟩)), (5, .pointer x.addr)]) (fun x => blk b3 24 [.int .i64 s.id, .int .i64 s.x, .int .i64 s.y] :: F :: L) (fun x => IIn L x ∧ x.ok ∧ x.has s = T.has s ∧ x.spans.length ≤ 100000) (fun x => x.cnt) T ⟨h.i, ho, rfl, hn⟩ ⟨rfl, rfl, trivial⟩ (by (repeat first | exact fun _ s => s | apply en_keep | apply en_drop | apply en_app) <;> fail) ?_
  rintro x ⟨f1, f2, f3, f4⟩
  cases x with
  | nil =>
    rw [← f3]
    (repeat first | refine G_seq ?_ | refine G_skip ?_ | refine G_endblk ?_ | refine G_block ?_ | refine G_exit rfl ?_)
    refine G_region ?_
    refine GO_q rfl rfl (ev_move rfl) ?_
    (first | refine GO_q rfl rfl (ev_neqNil rfl rfl) ?_ | refine GO_q rfl rfl (ev_neqPtr rfl rfl) ?_)
    refine GO_nil ?_
    (repeat first | refine G_seq ?_ | refine G_skip ?_ | refine G_endblk ?_ | refine G_block ?_ | refine G_exit rfl ?_)
    refine G_cond_f rfl rfl ?_
    (repeat first | refine G_seq ?_ | refine G_skip ?_ | refine G_endblk ?_ | refine G_block ?_ | refine G_exit rfl ?_)
    refine G_region ?_
    refine GO_q rfl rfl (ev_assign rfl) ?_
    refine GO_nil ?_
    (repeat first | refine G_seq ?_ | refine G_skip ?_ | refine G_endblk ?_ | refine G_block ?_ | refine G_exit rfl ?_)
    refine G_ret rfl (.tmp rfl .nil) (by (repeat first | exact fun _ s => s | apply en_keep | apply en_drop | apply en_app) <;> fail) ⟨rfl, rfl⟩
  | node b mid A c p C d q m lo hi =>
    obtain ⟨q1, q2, q3, q4, q5, q6, q7, q8, q9, q10, q11, q12⟩ := f1.f
    simp only [IT.spans, List.length_append] at f4
    (repeat first | refine G_seq ?_ | refine G_skip ?_ | refine G_endblk ?_ | refine G_block ?_ | refine G_exit rfl ?_)
    refine G_region ?_
    refine GO_q rfl rfl (ev_move rfl) ?_
    (first | refine GO_q rfl rfl (ev_neqNil rfl rfl) ?_ | refine GO_q rfl rfl (ev_neqPtr rfl rfl) ?_)
    refine GO_nil ?_
    (repeat first | refine G_seq ?_ | refine G_skip ?_ | refine G_endblk ?_ | refine G_block ?_ | refine G_exit rfl ?_)
    refine G_cond_t rfl rfl ?_
    by_cases c1 : s.y < mid
    · have e : sideI mid s = 0 := by unfold sideI; rw [if_pos c1]
      have hsd := fun L h => side_ctr b mid s L h
      rw [e] at hsd
      (repeat first | refine G_seq ?_ | refine G_skip ?_ | refine G_endblk ?_ | refine G_block ?_ | refine G_exit rfl ?_)
      refine G_region ?_
      refine GO_q rfl rfl (ev_move rfl) ?_
      refine GO_q rfl rfl (ev_loadN rfl (by repeat' first | exact LdN.blk rfl | assumption | apply LdN.skip | apply LdN.app)) ?_
      refine GO_eff rfl rfl (eff_call rfl (hsd _ (by repeat' first | exact Ld.blk rfl | assumption | apply Ld.skip | apply Ld.app))) ?_; rintro _ _ ⟨rfl, rfl⟩
      refine GO_q rfl rfl (ev_assign rfl) ?_
      refine GO_nil ?_
      (repeat first | refine G_seq ?_ | refine G_skip ?_ | refine G_endblk ?_ | refine G_block ?_ | refine G_exit rfl ?_)
      refine G_region ?_
      refine GO_q rfl rfl (ev_move rfl) ?_
      (first | refine GO_q rfl rfl (ev_lssN (q := 0) rfl rfl) ?_ | refine GO_q rfl rfl (ev_lss rfl rfl) ?_)
      refine GO_nil ?_
      (repeat first | refine G_seq ?_ | refine G_skip ?_ | refine G_endblk ?_ | refine G_block ?_ | refine G_exit rfl ?_)
      refine G_cond_f rfl rfl ?_
      (repeat first | refine G_seq ?_ | refine G_skip ?_ | refine G_endblk ?_ | refine G_block ?_ | refine G_exit rfl ?_)
      refine G_region ?_
      refine GO_q rfl rfl (ev_move rfl) ?_
      refine GO_q rfl rfl (ev_move rfl) ?_
      (first | refine GO_q rfl rfl (ev_nilCheck rfl) ?_ | refine GO_q rfl rfl (ev_nilCheckF (by simp) rfl) ?_)
      refine GO_q rfl rfl (ev_fieldAddr rfl) ?_
      refine GO_q rfl rfl (ev_indexAddrA rfl rfl (by first | omega | (simp; done) | (simp; omega)) (by first | omega | (simp; done) | (simp; omega))) ?_
      refine GO_q rfl rfl (ev_load rfl (by repeat' first | exact Ld.blk rfl | assumption | apply Ld.skip | apply Ld.app)) ?_
      refine GO_q rfl rfl (ev_assign rfl) ?_
      refine GO_nil ?_
      (repeat first | refine G_seq ?_ | refine G_skip ?_ | refine G_endblk ?_ | refine G_block ?_ | refine G_exit rfl ?_)
      exact G_round lo ⟨q11, f2.2.2.2.2.1, by rw [← f3, IT.has_node, if_pos c1], by omega⟩ (by simp only [IT.cnt]; omega) ⟨rfl, rfl, trivial⟩ (by (repeat first | exact fun _ s => s | apply en_keep | apply en_drop | apply en_app) <;> fail)
    · by_cases c2 : mid < s.x
      · have e : sideI mid s = 1 := by unfold sideI; rw [if_neg c1, if_pos c2]
        have hsd := fun L h => side_ctr b mid s L h
        rw [e] at hsd
        (repeat first | refine G_seq ?_ | refine G_skip ?_ | refine G_endblk ?_ | refine G_block ?_ | refine G_exit rfl ?_)
        refine G_region ?_
        refine GO_q rfl rfl (ev_move rfl) ?_
        refine GO_q rfl rfl (ev_loadN rfl (by repeat' first | exact LdN.blk rfl | assumption | apply LdN.skip | apply LdN.app)) ?_
        refine GO_eff rfl rfl (eff_call rfl (hsd _ (by repeat' first | exact Ld.blk rfl | assumption | apply Ld.skip | apply Ld.app))) ?_; rintro _ _ ⟨rfl, rfl⟩
        refine GO_q rfl rfl (ev_assign rfl) ?_
        refine GO_nil ?_
        (repeat first | refine G_seq ?_ | refine G_skip ?_ | refine G_endblk ?_ | refine G_block ?_ | refine G_exit rfl ?_)
        refine G_region ?_
        refine GO_q rfl rfl (ev_move rfl) ?_
        (first | refine GO_q rfl rfl (ev_lssN (q := 0) rfl rfl) ?_ | refine GO_q rfl rfl (ev_lss rfl rfl) ?_)
        refine GO_nil ?_
        (repeat first | refine G_seq ?_ | refine G_skip ?_ | refine G_endblk ?_ | refine G_block ?_ | refine G_exit rfl ?_)
        refine G_cond_f rfl rfl ?_
        (repeat first | refine G_seq ?_ | refine G_skip ?_ | refine G_endblk ?_ | refine G_block ?_ | refine G_exit rfl ?_)
        refine G_region ?_
        refine GO_q rfl rfl (ev_move rfl) ?_
        refine GO_q rfl rfl (ev_move rfl) ?_
        (first | refine GO_q rfl rfl (ev_nilCheck rfl) ?_ | refine GO_q rfl rfl (ev_nilCheckF (by simp) rfl) ?_)
        refine GO_q rfl rfl (ev_fieldAddr rfl) ?_
        refine GO_q rfl rfl (ev_indexAddrA rfl rfl (by first | omega | (simp; done) | (simp; omega)) (by first | omega | (simp; done) | (simp; omega))) ?_
        refine GO_q rfl rfl (ev_load rfl (by repeat' first | exact Ld.blk rfl | assumption | apply Ld.skip | apply Ld.app)) ?_
        refine GO_q rfl rfl (ev_assign rfl) ?_
        refine GO_nil ?_
        (repeat first | refine G_seq ?_ | refine G_skip ?_ | refine G_endblk ?_ | refine G_block ?_ | refine G_exit rfl ?_)
        exact G_round hi ⟨q12, f2.2.2.2.2.2, by rw [← f3, IT.has_node, if_neg c1, if_pos c2], by omega⟩ (by simp only [IT.cnt]; omega) ⟨rfl, rfl, trivial⟩ (by (repeat first | exact fun _ s => s | apply en_keep | apply en_drop | apply en_app) <;> fail)
      · have e : sideI mid s = -1 := by unfold sideI; rw [if_neg c1, if_neg c2]
        have hsd := fun L h => side_ctr b mid s L h
        rw [e] at hsd
        have e3 : decide (s ∈ p) = T.has s := by rw [← f3, IT.has_node, if_neg c1, if_neg c2]
        rw [← e3]
        (repeat first | refine G_seq ?_ | refine G_skip ?_ | refine G_endblk ?_ | refine G_block ?_ | refine G_exit rfl ?_)
        refine G_region ?_
        refine GO_q rfl rfl (ev_move rfl) ?_
        refine GO_q rfl rfl (ev_loadN rfl (by repeat' first | exact LdN.blk rfl | assumption | apply LdN.skip | apply LdN.app)) ?_
        refine GO_eff rfl rfl (eff_call rfl (hsd _ (by repeat' first | exact Ld.blk rfl | assumption | apply Ld.skip | apply Ld.app))) ?_; rintro _ _ ⟨rfl, rfl⟩
        refine GO_q rfl rfl (ev_assign rfl) ?_
        refine GO_nil ?_
        (repeat first | refine G_seq ?_ | refine G_skip ?_ | refine G_endblk ?_ | refine G_block ?_ | refine G_exit rfl ?_)
        refine G_region ?_
        refine GO_q rfl rfl (ev_move rfl) ?_
        (first | refine GO_q rfl rfl (ev_lssN (q := 0) rfl rfl) ?_ | refine GO_q rfl rfl (ev_lss rfl rfl) ?_)
        refine GO_nil ?_
        (repeat first | refine G_seq ?_ | refine G_skip ?_ | refine G_endblk ?_ | refine G_block ?_ | refine G_exit rfl ?_)
        refine G_cond_t rfl rfl ?_
        (repeat first | refine G_seq ?_ | refine G_skip ?_ | refine G_endblk ?_ | refine G_block ?_ | refine G_exit rfl ?_)
        refine G_draw (.q 0 (.q 1 (.q 2 (.q 3 (.q 4 (.e 5 (.q 6 .nil))))))) (by kernel_rfl) (by kernel_rfl) ?_
        refine RS_m retB_noPanic rfl rfl rfl rfl (ev_move rfl) ?_
        (first | refine RS_m retB_noPanic rfl rfl rfl rfl (ev_nilCheck rfl) ?_ | refine RS_m retB_noPanic rfl rfl rfl rfl (ev_nilCheckF (by simp) rfl) ?_)
        refine RS_m retB_noPanic rfl rfl rfl rfl (ev_fieldAddr rfl) ?_
        refine RS_q retB_noPanic rfl rfl rfl rfl (ev_load rfl (by repeat' first | exact Ld.blk rfl | assumption | apply Ld.skip | apply Ld.app)) ?_
        refine RS_q retB_noPanic rfl rfl rfl rfl (ev_loadN rfl (by repeat' first | exact LdN.blk rfl | assumption | apply LdN.skip | apply LdN.app)) ?_
        refine RS_e (RE_eff rfl rfl rfl (eff_call rfl (HasO_ctr less_ls sto_less A p.length c p s _ (by repeat' first | exact Rc.blk rfl | assumption | apply Rd.skip | apply Rd.app) (by omega) f2.1.1)) ?_); rintro _ _ ⟨rfl, rfl⟩; refine ⟨_, fun _ s => s, (by first | ((repeat first | exact fun _ s => s | apply en_keep | apply en_drop | apply en_app) <;> fail) | ((repeat first | exact en_refl | (apply en_blk; focus ((repeat' first | exact Pick.here | apply Pick.skip | apply Pick.app); done); focus rfl) | (apply en_own; focus ((repeat' first | exact Pick.here | apply Pick.skip | apply Pick.app); done); focus rfl) | (apply en_pick; focus ((repeat' first | exact Pick.here | apply Pick.skip | apply Pick.app); done)) | apply en_drop | apply en_app) <;> fail)), ?_⟩
        refine RS_m retB_noPanic rfl rfl rfl rfl (ev_assign rfl) ?_
        refine RS_nil ?_
        (repeat first | refine G_seq ?_ | refine G_skip ?_ | refine G_endblk ?_ | refine G_block ?_ | refine G_exit rfl ?_)
        refine G_ret rfl (.tmp rfl .nil) (by (repeat first | exact fun _ s => s | apply en_keep | apply en_drop | apply en_app) <;> fail) ⟨rfl, rfl⟩
end
end Go.Proofs.YtjnmpogolknkpaaGreat
/- A tree of middles: Check tells true. -/
namespace Go.Proofs.YtjnmpogolknkpaaGreat
attribute [local irreducible] sat
set_option linter.unusedVariables false
set_option linter.unusedSimpArgs false
set_option maxRecDepth 100000

end Go.Proofs.YtjnmpogolknkpaaGreat
/- A stack of nodes: what lies in memory. -/
namespace Go.Proofs.YtjnmpogolknkpaaGreat
set_option linter.unusedVariables false
set_option linter.unusedSimpArgs false

instance encIT : Enc IT := ⟨1, fun x => [.pointer x.addr], fun _ => rfl, fun _ v h => by simp at h; subst h; rfl⟩
/-- A stack at a place. -/
def stkS (b : Nat) (most : Int) (l : List IT) : HP := fun h => ∃ x : Option Addr × Nat, (0 < l.length → ∃ b, x.1 = some ⟨b, 0, none⟩) ∧ sat [blk b 115 [.slice x.1 l.length x.2, .int .i64 most], own 52 1 x.1 l.length x.2 (flat l)] h
theorem stk_open {s : Nat} {most : Int} {l : List IT} {M : List HP} {hm : Hm} (h : sat (stkS s most l :: M) hm) : ∃ A c, (0 < l.length → ∃ b, A = some ⟨b, 0, none⟩) ∧ l.length ≤ c ∧ c ≤ maxLen ∧ sat (blk s 115 [.slice A l.length c, .int .i64 most] :: own 52 1 A l.length c (flat l) :: M) hm := by
  obtain ⟨h1, h2, d, s1, s2, ⟨⟨A, c⟩, hA, q⟩, t⟩ := h
  have q0 := own.facts (L := []) q.tail
  exact ⟨A, c, hA, q0.2.1, q0.2.2.1, sat.head (A := fun h => h = h1) (N := [blk s 115 [.slice A l.length c, .int .i64 most], own 52 1 A l.length c (flat l)]) (fun _ e => e ▸ q) ⟨h1, h2, d, s1, s2, rfl, t⟩⟩
theorem Ctr.stk {P : Program} {f : FuncId} {args : Array Value} {L : List HP} {b : Nat} {most : Int} {l : List IT} {post : Value → List HP → Prop}
    (C : ∀ A c, (0 < l.length → ∃ b, A = some ⟨b, 0, none⟩) → l.length ≤ c → c ≤ maxLen → Ctr P f args (blk b 115 [.slice A l.length c, .int .i64 most] :: own 52 1 A l.length c (flat l) :: L) post) : Ctr P f args (stkS b most l :: L) post := fun g F w hw => by
  obtain ⟨A, c, h1, h2, h3, h4⟩ := stk_open hw.s.swap
  exact C A c h1 h2 h3 g F w ⟨hw.g, h4.perm (List.perm_middle (l₁ := [_, _]))⟩
theorem en_stk {L M : List HP} {b c : Nat} {A : Option Addr} {most : Int} {l : List IT} (hA : 0 < l.length → ∃ b, A = some ⟨b, 0, none⟩) (f : ∀ h, sat L h → sat (blk b 115 [.slice A l.length c, .int .i64 most] :: own 52 1 A l.length c (flat l) :: M) h) : ∀ h, sat L h → sat (stkS b most l :: M) h := fun h s =>
  sat.fold (N := [_, _]) (fun h q => ⟨(A, c), hA, q⟩) (f h s)
theorem own_of1 {L : List HP} {b c : Nat} {T : TypeId} {u v : Value} {r : List Value} (k1 : (v :: u :: r).length = c * 1) (k2 : 2 ≤ c) (k3 : c ≤ maxLen) : ∀ h, sat (blk b T (u :: v :: r) :: L) h → sat (own T 1 (some ⟨b, 0, none⟩) 2 c [u, v] :: L) h := fun h s => by
  obtain ⟨h1, h2, d, s1, s2, q, z⟩ := s
  exact ⟨h1, h2, d, s1, s2, own.cls (n := 2) (c := c) (sz := 1) (cs := u :: v :: r) q k1 k2 k3, z⟩
theorem sw2 (u v : Value) (r : List Value) : setN (setN (u :: v :: r) (0 + 0 * 1) [v]) (0 + 1 * 1) [u] = v :: u :: r := by
  rw [setN_eq (u :: v :: r) _ _ (by simp), setN_eq _ _ _ (by simp)]
  simp
end Go.Proofs.YtjnmpogolknkpaaGreat
/- A stack of nodes. -/
namespace Go.Proofs.YtjnmpogolknkpaaGreat
attribute [local irreducible] sat
set_option linter.unusedVariables false
set_option linter.unusedSimpArgs false
set_option maxRecDepth 100000

theorem Catch_ctr {fid : FuncId} {c1 c2 : List Value} {L : List HP} {post : List HP → Prop} [H : CalT Tryz.prog fid] (h : Ctr Tryz.prog fid (c1 ++ [] ++ c2).toArray L fun v L' => post L') :
    Ctr Tryz.prog 91 #[.func (.func fid) c1.toArray c2.toArray] L fun v L' => v = .tuple #[.agg #[.int .i64 0, .int .i64 0], .bool false] ∧ post L' := by
  refine Ctr_of (fn := Tryz.f91) (n := 8) Tryz.func91 rfl rfl rfl ?_
  intro g F
  (repeat first | refine G_seq ?_ | refine G_skip ?_ | refine G_endblk ?_ | refine G_block ?_ | refine G_exit rfl ?_)
  refine G_region ?_
  refine GO_eff rfl rfl eff_alloc ?_; rintro _ _ ⟨b2, rfl, rfl⟩
  refine GO_q rfl rfl (ev_assign rfl) ?_
  refine GO_nil ?_
  (repeat first | refine G_seq ?_ | refine G_skip ?_ | refine G_endblk ?_ | refine G_block ?_ | refine G_exit rfl ?_)
  refine G_region ?_
  refine GO_q rfl rfl (ev_move rfl) ?_
  refine GO_eff rfl rfl (eff_call rfl (Ctr.frame [blk b2 111 [.int .i64 0, .int .i64 0], F] (catch_ctr h) (fun _ s => s))) ?_; rintro _ _ ⟨L1, ⟨rfl, hp⟩, rfl⟩
  refine GO_q rfl rfl (ev_extract rfl rfl) ?_
  refine GO_q rfl rfl (ev_extract rfl rfl) ?_
  refine GO_eff rfl rfl (eff_storeN rfl rfl rfl rfl (by repeat' first | exact Upd.here rfl | apply Upd.skip | apply Upd.app)) ?_; rintro _ _ ⟨rfl, rfl⟩
  refine GO_q rfl rfl (ev_assign rfl) ?_
  refine GO_nil ?_
  (repeat first | refine G_seq ?_ | refine G_skip ?_ | refine G_endblk ?_ | refine G_block ?_ | refine G_exit rfl ?_)
  exact G_ret (L' := L1) rfl (.cell rfl (loadN_run (by repeat' first | exact LdN.blk rfl | assumption | apply LdN.skip | apply LdN.app)) (.tmp rfl .nil)) (by (repeat first | exact fun _ s => s | apply en_keep | apply en_drop | apply en_app) <;> fail) ⟨rfl, hp⟩
theorem SNew_ctr (L : List HP) : Ctr Tryz.prog 96 #[.int .i64 65536] L fun v L' => ∃ b, v = .tuple #[.pointer (some ⟨b, 0, none⟩), .int .i64 0] ∧ L' = stkS b 65536 [] :: L := by
  refine Ctr_of (fn := Tryz.f96) (n := 13) Tryz.func96 rfl rfl rfl ?_
  intro g F
  (repeat first | refine G_seq ?_ | refine G_skip ?_ | refine G_endblk ?_ | refine G_block ?_ | refine G_exit rfl ?_)
  refine G_region ?_
  refine GO_q rfl rfl (ev_assign rfl) ?_
  refine GO_q rfl rfl (ev_assign rfl) ?_
  refine GO_nil ?_
  (repeat first | refine G_seq ?_ | refine G_skip ?_ | refine G_endblk ?_ | refine G_block ?_ | refine G_exit rfl ?_)
  refine G_region ?_
  refine GO_q rfl rfl (ev_move rfl) ?_
  (first | refine GO_q rfl rfl (ev_lssN (q := 1) rfl rfl) ?_ | refine GO_q rfl rfl (ev_lss rfl rfl) ?_)
  refine GO_q rfl rfl (ev_move rfl) ?_
  refine GO_yes rfl rfl rfl rfl ?_
  refine GO_q rfl rfl (ev_move rfl) ?_
  refine GO_yes rfl rfl rfl rfl ?_
  refine GO_q rfl rfl (ev_gtr rfl rfl) ?_
  refine GO_q rfl rfl (ev_pick_f rfl rfl rfl) ?_
  refine GO_nil ?_
  (repeat first | refine G_seq ?_ | refine G_skip ?_ | refine G_endblk ?_ | refine G_block ?_ | refine G_exit rfl ?_)
  refine G_cond_f rfl rfl ?_
  (repeat first | refine G_seq ?_ | refine G_skip ?_ | refine G_endblk ?_ | refine G_block ?_ | refine G_exit rfl ?_)
  refine G_region ?_
  refine GO_q rfl rfl (ev_move rfl) ?_
  refine GO_q rfl rfl (ev_build rfl rfl) ?_
  refine GO_eff rfl rfl (eff_box rfl) ?_; rintro _ _ ⟨b12, rfl, rfl⟩
  refine GO_q rfl rfl (ev_assign rfl) ?_
  refine GO_q rfl rfl (ev_assign rfl) ?_
  refine GO_nil ?_
  (repeat first | refine G_seq ?_ | refine G_skip ?_ | refine G_endblk ?_ | refine G_block ?_ | refine G_exit rfl ?_)
  refine G_heap (own.nil_ 52 1) ?_
  exact G_ret (L' := stkS b12 65536 [] :: L) rfl (.tmp rfl (.tmp rfl .nil)) (by (repeat first | exact en_refl | apply en_stk (A := none) (c := 0) (l := []) (fun h => absurd h (Nat.lt_irrefl 0)) | (apply en_blk; focus ((repeat' first | exact Pick.here | apply Pick.skip | apply Pick.app); done); focus rfl) | (apply en_own; focus ((repeat' first | exact Pick.here | apply Pick.skip | apply Pick.app); done); focus rfl) | (apply en_pick; focus ((repeat' first | exact Pick.here | apply Pick.skip | apply Pick.app); done)) | apply en_drop | apply en_app) <;> fail) ⟨b12, rfl, rfl⟩
theorem SLen_k_ctr (b : Nat) (l : List IT) (L : List HP) : Ctr Tryz.prog 61 #[.pointer (some ⟨b, 0, none⟩)] (stkS b 65536 l :: L) fun v L' => v = .int .i64 (l.length : Nat) ∧ L' = stkS b 65536 l :: L := by
  refine Ctr.stk fun A c h1 h2 h3 => ?_
  refine Ctr_of (fn := Tryz.f61) (n := 10) Tryz.func61 rfl rfl rfl ?_
  intro g F
  (repeat first | refine G_seq ?_ | refine G_skip ?_ | refine G_endblk ?_ | refine G_block ?_ | refine G_exit rfl ?_)
  refine G_region ?_
  refine GO_q rfl rfl (ev_assign rfl) ?_
  refine GO_nil ?_
  (repeat first | refine G_seq ?_ | refine G_skip ?_ | refine G_endblk ?_ | refine G_block ?_ | refine G_exit rfl ?_)
  refine G_region ?_
  refine GO_q rfl rfl (ev_move rfl) ?_
  (first | refine GO_q rfl rfl (ev_eqlNil rfl rfl) ?_ | refine GO_q rfl rfl (ev_eqlPtr rfl rfl) ?_)
  refine GO_nil ?_
  (repeat first | refine G_seq ?_ | refine G_skip ?_ | refine G_endblk ?_ | refine G_block ?_ | refine G_exit rfl ?_)
  refine G_cond_f rfl rfl ?_
  (repeat first | refine G_seq ?_ | refine G_skip ?_ | refine G_endblk ?_ | refine G_block ?_ | refine G_exit rfl ?_)
  refine G_region ?_
  refine GO_q rfl rfl (ev_move rfl) ?_
  (first | refine GO_q rfl rfl (ev_nilCheck rfl) ?_ | refine GO_q rfl rfl (ev_nilCheckF (by simp) rfl) ?_)
  refine GO_q rfl rfl (ev_fieldAddr rfl) ?_
  refine GO_q rfl rfl (ev_load rfl (by repeat' first | exact Ld.blk rfl | assumption | apply Ld.skip | apply Ld.app)) ?_
  refine GO_q rfl rfl (ev_len rfl) ?_
  refine GO_q rfl rfl (ev_assign rfl) ?_
  refine GO_nil ?_
  (repeat first | refine G_seq ?_ | refine G_skip ?_ | refine G_endblk ?_ | refine G_block ?_ | refine G_exit rfl ?_)
  exact G_ret (L' := stkS b 65536 l :: L) rfl (.tmp rfl .nil) (by (repeat first | exact en_refl | apply en_stk h1 | (apply en_blk; focus ((repeat' first | exact Pick.here | apply Pick.skip | apply Pick.app); done); focus rfl) | (apply en_own; focus ((repeat' first | exact Pick.here | apply Pick.skip | apply Pick.app); done); focus rfl) | (apply en_pick; focus ((repeat' first | exact Pick.here | apply Pick.skip | apply Pick.app); done)) | apply en_drop | apply en_app) <;> fail) ⟨rfl, rfl⟩
theorem stop_nil_ctr (b : Nat) (A : Option Addr) (c : Nat) (L : List HP) (h : LdN L b 0 2 [.slice A 0 c, .int .i64 65536]) : Ctr Tryz.prog 149 #[.pointer (some ⟨b, 0, none⟩)] L fun v L' => v = .tuple #[.pointer none, .bool false] ∧ L' = L := by
  have h1 : Ld L ⟨b, 0 + 0, none⟩ (.slice A 0 c) := h.at_ (i := 0) rfl
  refine Ctr_of (fn := Tryz.f149) (n := 27) Tryz.func149 rfl rfl rfl ?_
  intro g F
  (repeat first | refine G_seq ?_ | refine G_skip ?_ | refine G_endblk ?_ | refine G_block ?_ | refine G_exit rfl ?_)
  refine G_region ?_
  refine GO_q rfl rfl (ev_assign rfl) ?_
  refine GO_q rfl rfl (ev_assign rfl) ?_
  refine GO_nil ?_
  (repeat first | refine G_seq ?_ | refine G_skip ?_ | refine G_endblk ?_ | refine G_block ?_ | refine G_exit rfl ?_)
  refine G_region ?_
  refine GO_q rfl rfl (ev_move rfl) ?_
  (first | refine GO_q rfl rfl (ev_eqlNil rfl rfl) ?_ | refine GO_q rfl rfl (ev_eqlPtr rfl rfl) ?_)
  refine GO_q rfl rfl (ev_move rfl) ?_
  refine GO_yes rfl rfl rfl rfl ?_
  refine GO_q rfl rfl (ev_move rfl) ?_
  refine GO_yes rfl rfl rfl rfl ?_
  (first | refine GO_q rfl rfl (ev_nilCheck rfl) ?_ | refine GO_q rfl rfl (ev_nilCheckF (by simp) rfl) ?_)
  refine GO_yes rfl rfl rfl rfl ?_
  refine GO_q rfl rfl (ev_fieldAddr rfl) ?_
  refine GO_yes rfl rfl rfl rfl ?_
  refine GO_q rfl rfl (ev_load rfl (by repeat' first | exact Ld.blk rfl | assumption | apply Ld.skip | apply Ld.app)) ?_
  refine GO_yes rfl rfl rfl rfl ?_
  refine GO_q rfl rfl (ev_len rfl) ?_
  refine GO_yes rfl rfl rfl rfl ?_
  refine GO_q rfl rfl (ev_eql rfl rfl) ?_
  refine GO_q rfl rfl (ev_pick_f rfl rfl rfl) ?_
  refine GO_nil ?_
  (repeat first | refine G_seq ?_ | refine G_skip ?_ | refine G_endblk ?_ | refine G_block ?_ | refine G_exit rfl ?_)
  refine G_cond_t rfl rfl ?_
  (repeat first | refine G_seq ?_ | refine G_skip ?_ | refine G_endblk ?_ | refine G_block ?_ | refine G_exit rfl ?_)
  refine G_region ?_
  refine GO_q rfl rfl (ev_move rfl) ?_
  refine GO_q rfl rfl (ev_assign rfl) ?_
  refine GO_q rfl rfl (ev_assign rfl) ?_
  refine GO_nil ?_
  (repeat first | refine G_seq ?_ | refine G_skip ?_ | refine G_endblk ?_ | refine G_block ?_ | refine G_exit rfl ?_)
  refine G_ret rfl (.tmp rfl (.tmp rfl .nil)) (by (repeat first | exact fun _ s => s | apply en_keep | apply en_drop | apply en_app) <;> fail) ⟨rfl, rfl⟩
theorem stop_ctr (b : Nat) (A : Option Addr) (n c : Nat) (l : List IT) (x : IT) (L : List HP) (h : LdN L b 0 2 [.slice A n c, .int .i64 65536]) (hr : Rd L A n (l ++ [x])) (hn : n = l.length + 1) (hb : n ≤ 65536) : Ctr Tryz.prog 149 #[.pointer (some ⟨b, 0, none⟩)] L fun v L' => v = .tuple #[.pointer x.addr, .bool true] ∧ L' = L := by
  have h1 : Ld L ⟨b, 0 + 0, none⟩ (.slice A n c) := h.at_ (i := 0) rfl
  obtain ⟨lb, lo, rfl, hx⟩ := hr.at_ (by omega)
  have y1 : LdN L lb (lo + l.length * 1) 1 [.pointer x.addr] := hx l.length x (by simp)
  have y2 : Ld L ⟨lb, lo + (n - 1) * 1, none⟩ (.pointer x.addr) := by
    have := y1.at_ (i := 0) rfl
    rw [show n - 1 = l.length by omega]; exact this
  refine Ctr_of (fn := Tryz.f149) (n := 27) Tryz.func149 rfl rfl rfl ?_
  intro g F
  (repeat first | refine G_seq ?_ | refine G_skip ?_ | refine G_endblk ?_ | refine G_block ?_ | refine G_exit rfl ?_)
  refine G_region ?_
  refine GO_q rfl rfl (ev_assign rfl) ?_
  refine GO_q rfl rfl (ev_assign rfl) ?_
  refine GO_nil ?_
  (repeat first | refine G_seq ?_ | refine G_skip ?_ | refine G_endblk ?_ | refine G_block ?_ | refine G_exit rfl ?_)
  refine G_region ?_
  refine GO_q rfl rfl (ev_move rfl) ?_
  (first | refine GO_q rfl rfl (ev_eqlNil rfl rfl) ?_ | refine GO_q rfl rfl (ev_eqlPtr rfl rfl) ?_)
  refine GO_q rfl rfl (ev_move rfl) ?_
  refine GO_yes rfl rfl rfl rfl ?_
  refine GO_q rfl rfl (ev_move rfl) ?_
  refine GO_yes rfl rfl rfl rfl ?_
  (first | refine GO_q rfl rfl (ev_nilCheck rfl) ?_ | refine GO_q rfl rfl (ev_nilCheckF (by simp) rfl) ?_)
  refine GO_yes rfl rfl rfl rfl ?_
  refine GO_q rfl rfl (ev_fieldAddr rfl) ?_
  refine GO_yes rfl rfl rfl rfl ?_
  refine GO_q rfl rfl (ev_load rfl (by repeat' first | exact Ld.blk rfl | assumption | apply Ld.skip | apply Ld.app)) ?_
  refine GO_yes rfl rfl rfl rfl ?_
  refine GO_q rfl rfl (ev_len rfl) ?_
  refine GO_yes rfl rfl rfl rfl ?_
  refine GO_q rfl rfl (ev_eql rfl rfl) ?_
  refine GO_q rfl rfl (ev_pick_f rfl rfl rfl) ?_
  refine GO_nil ?_
  (repeat first | refine G_seq ?_ | refine G_skip ?_ | refine G_endblk ?_ | refine G_block ?_ | refine G_exit rfl ?_)
  refine G_cond_f rfl (decide_eq_false (by omega)) ?_
  (repeat first | refine G_seq ?_ | refine G_skip ?_ | refine G_endblk ?_ | refine G_block ?_ | refine G_exit rfl ?_)
  refine G_draw (.q 0 (.q 1 (.q 2 (.q 3 (.q 4 (.q 5 (.q 6 (.q 7 (.q 8 (.q 9 (.q 10 (.q 11 (.q 12 (.q 13 .nil)))))))))))))) (by kernel_rfl) (by kernel_rfl) ?_
  refine RS_m retB_noPanic rfl rfl rfl rfl (ev_move rfl) ?_
  (first | refine RS_m retB_noPanic rfl rfl rfl rfl (ev_nilCheck rfl) ?_ | refine RS_m retB_noPanic rfl rfl rfl rfl (ev_nilCheckF (by simp) rfl) ?_)
  refine RS_m retB_noPanic rfl rfl rfl rfl (ev_fieldAddr rfl) ?_
  refine RS_q retB_noPanic rfl rfl rfl rfl (ev_load rfl (by repeat' first | exact Ld.blk rfl | assumption | apply Ld.skip | apply Ld.app)) ?_
  refine RS_m retB_noPanic rfl rfl rfl rfl (ev_move rfl) ?_
  (first | refine RS_m retB_noPanic rfl rfl rfl rfl (ev_nilCheck rfl) ?_ | refine RS_m retB_noPanic rfl rfl rfl rfl (ev_nilCheckF (by simp) rfl) ?_)
  refine RS_m retB_noPanic rfl rfl rfl rfl (ev_fieldAddr rfl) ?_
  refine RS_q retB_noPanic rfl rfl rfl rfl (ev_load rfl (by repeat' first | exact Ld.blk rfl | assumption | apply Ld.skip | apply Ld.app)) ?_
  refine RS_q retB_noPanic rfl rfl rfl rfl (ev_len rfl) ?_
  (first | refine RS_m retB_noPanic rfl rfl rfl rfl (ev_subN (q := 1) rfl rfl (by first | omega | (simp; done) | (simp; omega))) ?_ | refine RS_m retB_noPanic rfl rfl rfl rfl (ev_sub rfl rfl (by first | omega | (simp; done) | (simp; omega))) ?_)
  (first | refine RS_m retB_noPanic rfl rfl rfl rfl (ev_indexAddrN rfl rfl (by first | omega | (simp; done) | (simp; omega))) ?_ | refine RS_m retB_noPanic rfl rfl rfl rfl (ev_indexAddr rfl rfl (by first | omega | (simp; done) | (simp; omega)) (by first | omega | (simp; done) | (simp; omega))) ?_)
  refine RS_q retB_noPanic rfl rfl rfl rfl (ev_load rfl (by repeat' first | exact Ld.blk rfl | assumption | apply Ld.skip | apply Ld.app)) ?_
  refine RS_m retB_noPanic rfl rfl rfl rfl (ev_assign rfl) ?_
  refine RS_m retB_noPanic rfl rfl rfl rfl (ev_assign rfl) ?_
  refine RS_nil ?_
  (repeat first | refine G_seq ?_ | refine G_skip ?_ | refine G_endblk ?_ | refine G_block ?_ | refine G_exit rfl ?_)
  refine G_ret rfl (.tmp rfl (.tmp rfl .nil)) (by (repeat first | exact fun _ s => s | apply en_keep | apply en_drop | apply en_app) <;> fail) ⟨rfl, rfl⟩
theorem pop_nil_ctr (b : Nat) (L : List HP) : Ctr Tryz.prog 119 #[.pointer (some ⟨b, 0, none⟩)] (stkS b 65536 [] :: L) fun v L' => v = .tuple #[.pointer none, .bool false] ∧ L' = stkS b 65536 [] :: L := by
  refine Ctr.stk fun A c h1 h2 h3 => ?_
  refine Ctr_of (fn := Tryz.f119) (n := 26) Tryz.func119 rfl rfl rfl ?_
  intro g F
  (repeat first | refine G_seq ?_ | refine G_skip ?_ | refine G_endblk ?_ | refine G_block ?_ | refine G_exit rfl ?_)
  refine G_region ?_
  refine GO_q rfl rfl (ev_assign rfl) ?_
  refine GO_q rfl rfl (ev_assign rfl) ?_
  refine GO_nil ?_
  (repeat first | refine G_seq ?_ | refine G_skip ?_ | refine G_endblk ?_ | refine G_block ?_ | refine G_exit rfl ?_)
  refine G_region ?_
  refine GO_q rfl rfl (ev_move rfl) ?_
  refine GO_eff rfl rfl (eff_call rfl (stop_nil_ctr b A c _ (LdN.skip (LdN.blk rfl)))) ?_; rintro _ _ ⟨rfl, rfl⟩
  refine GO_q rfl rfl (ev_move rfl) ?_
  refine GO_q rfl rfl (ev_extract rfl rfl) ?_
  refine GO_q rfl rfl (ev_extract rfl rfl) ?_
  refine GO_q rfl rfl (ev_assign rfl) ?_
  refine GO_q rfl rfl (ev_assign rfl) ?_
  refine GO_nil ?_
  (repeat first | refine G_seq ?_ | refine G_skip ?_ | refine G_endblk ?_ | refine G_block ?_ | refine G_exit rfl ?_)
  refine G_region ?_
  refine GO_q rfl rfl (ev_move rfl) ?_
  refine GO_nil ?_
  (repeat first | refine G_seq ?_ | refine G_skip ?_ | refine G_endblk ?_ | refine G_block ?_ | refine G_exit rfl ?_)
  refine G_cond_f rfl rfl ?_
  (repeat first | refine G_seq ?_ | refine G_skip ?_ | refine G_endblk ?_ | refine G_block ?_ | refine G_exit rfl ?_)
  refine G_region ?_
  refine GO_q rfl rfl (ev_move rfl) ?_
  refine GO_q rfl rfl (ev_move rfl) ?_
  refine GO_q rfl rfl (ev_assign rfl) ?_
  refine GO_q rfl rfl (ev_assign rfl) ?_
  refine GO_nil ?_
  (repeat first | refine G_seq ?_ | refine G_skip ?_ | refine G_endblk ?_ | refine G_block ?_ | refine G_exit rfl ?_)
  exact G_ret (L' := stkS b 65536 [] :: L) rfl (.tmp rfl (.tmp rfl .nil)) (by (repeat first | exact en_refl | apply en_stk h1 | (apply en_blk; focus ((repeat' first | exact Pick.here | apply Pick.skip | apply Pick.app); done); focus rfl) | (apply en_own; focus ((repeat' first | exact Pick.here | apply Pick.skip | apply Pick.app); done); focus rfl) | (apply en_pick; focus ((repeat' first | exact Pick.here | apply Pick.skip | apply Pick.app); done)) | apply en_drop | apply en_app) <;> fail) ⟨rfl, rfl⟩
theorem pop_ctr (b : Nat) (l : List IT) (x : IT) (L : List HP) (hb : l.length + 1 ≤ 65536) : Ctr Tryz.prog 119 #[.pointer (some ⟨b, 0, none⟩)] (stkS b 65536 (l ++ [x]) :: L) fun v L' => v = .tuple #[.pointer x.addr, .bool true] ∧ L' = stkS b 65536 l :: L := by
  refine Ctr.stk fun A c h1 h2 h3 => ?_
  have hlen : (l ++ [x]).length = l.length + 1 := by simp
  obtain ⟨ab, rfl⟩ := h1 (by omega)
  generalize hn : (l ++ [x]).length = n at *
  refine Ctr_of (fn := Tryz.f119) (n := 26) Tryz.func119 rfl rfl rfl ?_
  intro g F
  (repeat first | refine G_seq ?_ | refine G_skip ?_ | refine G_endblk ?_ | refine G_block ?_ | refine G_exit rfl ?_)
  refine G_region ?_
  refine GO_q rfl rfl (ev_assign rfl) ?_
  refine GO_q rfl rfl (ev_assign rfl) ?_
  refine GO_nil ?_
  (repeat first | refine G_seq ?_ | refine G_skip ?_ | refine G_endblk ?_ | refine G_block ?_ | refine G_exit rfl ?_)
  refine G_region ?_
  refine GO_q rfl rfl (ev_move rfl) ?_
  refine GO_eff rfl rfl (eff_call rfl (stop_ctr b (some ⟨ab, 0, none⟩) n c l x _ (LdN.skip (LdN.blk rfl)) (Rd.skip (Rd.skip (Rc.own (by rw [flat_length, hn]; rfl) (fun _ ↦ ⟨ab, rfl⟩)))) hlen (by omega))) ?_; rintro _ _ ⟨rfl, rfl⟩
  refine GO_q rfl rfl (ev_move rfl) ?_
  refine GO_q rfl rfl (ev_extract rfl rfl) ?_
  refine GO_q rfl rfl (ev_extract rfl rfl) ?_
  refine GO_q rfl rfl (ev_assign rfl) ?_
  refine GO_q rfl rfl (ev_assign rfl) ?_
  refine GO_nil ?_
  (repeat first | refine G_seq ?_ | refine G_skip ?_ | refine G_endblk ?_ | refine G_block ?_ | refine G_exit rfl ?_)
  refine G_region ?_
  refine GO_q rfl rfl (ev_move rfl) ?_
  refine GO_nil ?_
  (repeat first | refine G_seq ?_ | refine G_skip ?_ | refine G_endblk ?_ | refine G_block ?_ | refine G_exit rfl ?_)
  refine G_cond_t rfl rfl ?_
  (repeat first | refine G_seq ?_ | refine G_skip ?_ | refine G_endblk ?_ | refine G_block ?_ | refine G_exit rfl ?_)
  refine G_draw (.q 0 (.q 1 (.q 2 (.q 3 (.q 4 (.q 5 (.q 6 (.q 7 (.q 8 (.q 9 (.q 10 (.q 11 (.q 12 (.q 13 (.e 14 .nil))))))))))))))) (by kernel_rfl) (by kernel_rfl) ?_
  refine RS_m retB_noPanic rfl rfl rfl rfl (ev_move rfl) ?_
  refine RS_m retB_noPanic rfl rfl rfl rfl (ev_move rfl) ?_
  (first | refine RS_m retB_noPanic rfl rfl rfl rfl (ev_nilCheck rfl) ?_ | refine RS_m retB_noPanic rfl rfl rfl rfl (ev_nilCheckF (by simp) rfl) ?_)
  refine RS_m retB_noPanic rfl rfl rfl rfl (ev_fieldAddr rfl) ?_
  refine RS_q retB_noPanic rfl rfl rfl rfl (ev_load rfl (by repeat' first | exact Ld.blk rfl | assumption | apply Ld.skip | apply Ld.app)) ?_
  refine RS_m retB_noPanic rfl rfl rfl rfl (ev_move rfl) ?_
  (first | refine RS_m retB_noPanic rfl rfl rfl rfl (ev_nilCheck rfl) ?_ | refine RS_m retB_noPanic rfl rfl rfl rfl (ev_nilCheckF (by simp) rfl) ?_)
  refine RS_m retB_noPanic rfl rfl rfl rfl (ev_fieldAddr rfl) ?_
  refine RS_q retB_noPanic rfl rfl rfl rfl (ev_load rfl (by repeat' first | exact Ld.blk rfl | assumption | apply Ld.skip | apply Ld.app)) ?_
  refine RS_q retB_noPanic rfl rfl rfl rfl (ev_len rfl) ?_
  (first | refine RS_m retB_noPanic rfl rfl rfl rfl (ev_subN (q := 1) rfl rfl (by first | omega | (simp; done) | (simp; omega))) ?_ | refine RS_m retB_noPanic rfl rfl rfl rfl (ev_sub rfl rfl (by first | omega | (simp; done) | (simp; omega))) ?_)
  refine RS_q retB_noPanic rfl rfl rfl rfl (ev_sliceH rfl rfl (by first | omega | (simp; done) | (simp; omega))) ?_
  (first | refine RS_m retB_noPanic rfl rfl rfl rfl (ev_nilCheck rfl) ?_ | refine RS_m retB_noPanic rfl rfl rfl rfl (ev_nilCheckF (by simp) rfl) ?_)
  refine RS_m retB_noPanic rfl rfl rfl rfl (ev_fieldAddr rfl) ?_
  refine RS_e (RE_last (by kernel_rfl) rfl rfl rfl (eff_store rfl rfl rfl (by repeat' first | exact Upd.here rfl | apply Upd.skip | apply Upd.app)) ?_); rintro _ _ ⟨rfl, rfl⟩
  (repeat first | refine G_seq ?_ | refine G_skip ?_ | refine G_endblk ?_ | refine G_block ?_ | refine G_exit rfl ?_)
  refine G_region ?_
  refine GO_q rfl rfl (ev_move rfl) ?_
  refine GO_q rfl rfl (ev_move rfl) ?_
  refine GO_q rfl rfl (ev_assign rfl) ?_
  refine GO_q rfl rfl (ev_assign rfl) ?_
  refine GO_nil ?_
  (repeat first | refine G_seq ?_ | refine G_skip ?_ | refine G_endblk ?_ | refine G_block ?_ | refine G_exit rfl ?_)
  have e1 : n - 1 = l.length := by omega
  rw [e1]
  refine G_ret (L' := stkS b 65536 l :: L) rfl (.tmp rfl (.tmp rfl .nil)) ?_ ⟨rfl, rfl⟩
  apply en_pick
  focus ((repeat' first | exact Pick.here | apply Pick.skip | apply Pick.app); done)
  refine en_stk (c := c) (fun _ => ⟨ab, rfl⟩) ?_
  refine en_blk .here rfl ?_
  refine en_less .here (by omega) ?_ en_refl
  rw [flat_append]
  exact List.take_left' (flat_length _)
theorem push_ctr (b : Nat) (A : Option Addr) (m q : Nat) (l ys : List IT) (L : List HP) (hy : Rd L A m ys) (hb : l.length + m ≤ 65536) : Ctr Tryz.prog 122 #[.pointer (some ⟨b, 0, none⟩), .slice A m q] (stkS b 65536 l :: L) fun v L' => v = .tuple #[] ∧ L' = stkS b 65536 (l ++ ys) :: L := by
  have hm : ys.length = m := hy.len (by decide)
  refine Ctr.stk fun B c h1 h2 h3 => ?_
  refine Ctr_of (fn := Tryz.f122) (n := 32) Tryz.func122 rfl rfl rfl ?_
  intro g F
  (repeat first | refine G_seq ?_ | refine G_skip ?_ | refine G_endblk ?_ | refine G_block ?_ | refine G_exit rfl ?_)
  refine G_draw (.q 0 (.q 1 (.q 2 (.q 3 (.q 4 (.q 5 (.q 6 (.q 7 (.q 8 (.q 9 (.q 10 (.q 11 (.q 12 .nil))))))))))))) (by kernel_rfl) (by kernel_rfl) ?_
  refine RS_m retB_noPanic rfl rfl rfl rfl (ev_move rfl) ?_
  refine RS_q retB_noPanic rfl rfl rfl rfl (ev_len rfl) ?_
  refine RS_m retB_noPanic rfl rfl rfl rfl (ev_move rfl) ?_
  (first | refine RS_m retB_noPanic rfl rfl rfl rfl (ev_nilCheck rfl) ?_ | refine RS_m retB_noPanic rfl rfl rfl rfl (ev_nilCheckF (by simp) rfl) ?_)
  refine RS_m retB_noPanic rfl rfl rfl rfl (ev_fieldAddr rfl) ?_
  refine RS_q retB_noPanic rfl rfl rfl rfl (ev_load rfl (by repeat' first | exact Ld.blk rfl | assumption | apply Ld.skip | apply Ld.app)) ?_
  refine RS_m retB_noPanic rfl rfl rfl rfl (ev_move rfl) ?_
  (first | refine RS_m retB_noPanic rfl rfl rfl rfl (ev_nilCheck rfl) ?_ | refine RS_m retB_noPanic rfl rfl rfl rfl (ev_nilCheckF (by simp) rfl) ?_)
  refine RS_m retB_noPanic rfl rfl rfl rfl (ev_fieldAddr rfl) ?_
  refine RS_q retB_noPanic rfl rfl rfl rfl (ev_load rfl (by repeat' first | exact Ld.blk rfl | assumption | apply Ld.skip | apply Ld.app)) ?_
  refine RS_q retB_noPanic rfl rfl rfl rfl (ev_len rfl) ?_
  refine RS_m retB_noPanic rfl rfl rfl rfl (ev_sub rfl rfl (by omega)) ?_
  refine RS_m retB_noPanic rfl rfl rfl rfl (ev_gtr rfl rfl) ?_
  refine RS_nil ?_
  (repeat first | refine G_seq ?_ | refine G_skip ?_ | refine G_endblk ?_ | refine G_block ?_ | refine G_exit rfl ?_)
  refine G_cond_f rfl (decide_eq_false (by omega)) ?_
  (repeat first | refine G_seq ?_ | refine G_skip ?_ | refine G_endblk ?_ | refine G_block ?_ | refine G_exit rfl ?_)
  refine G_region ?_
  refine GO_q rfl rfl (ev_move rfl) ?_
  refine GO_q rfl rfl (ev_move rfl) ?_
  (first | refine GO_q rfl rfl (ev_nilCheck rfl) ?_ | refine GO_q rfl rfl (ev_nilCheckF (by simp) rfl) ?_)
  refine GO_q rfl rfl (ev_fieldAddr rfl) ?_
  refine GO_q rfl rfl (ev_load rfl (by repeat' first | exact Ld.blk rfl | assumption | apply Ld.skip | apply Ld.app)) ?_
  refine GO_q rfl rfl (ev_move rfl) ?_
  refine GO_eff rfl rfl (eff_append rfl rfl (by repeat' first | exact Pick.here | apply Pick.skip) ((by repeat' first | exact hy | apply Rc.skip)) ((flat_one _)) (by rfl) (by decide) (by first | omega | (simp; done) | (simp; omega)) (by first | omega | (simp; done) | (simp; omega))) ?_; rintro _ _ ⟨A29, c29, rfl, hc29, hm29, hn29, rfl⟩
  (first | refine GO_q rfl rfl (ev_nilCheck rfl) ?_ | refine GO_q rfl rfl (ev_nilCheckF (by simp) rfl) ?_)
  refine GO_q rfl rfl (ev_fieldAddr rfl) ?_
  refine GO_eff rfl rfl (eff_store rfl rfl rfl (by repeat' first | exact Upd.here rfl | apply Upd.skip | apply Upd.app)) ?_; rintro _ _ ⟨rfl, rfl⟩
  refine GO_nil ?_
  (repeat first | refine G_seq ?_ | refine G_skip ?_ | refine G_endblk ?_ | refine G_block ?_ | refine G_exit rfl ?_)
  have e1 : l.length + m = (l ++ ys).length := by rw [List.length_append, hm]
  rw [e1] at hn29 ⊢
  refine G_end (L' := stkS b 65536 (l ++ ys) :: L) rfl .nil ?_ ⟨rfl, rfl⟩
  apply en_pick
  focus ((repeat' first | exact Pick.here | apply Pick.skip | apply Pick.app); done)
  refine en_stk (c := c29) hn29 ?_
  rw [flat_append]
  exact (by (repeat first | exact en_refl | (apply en_blk; focus ((repeat' first | exact Pick.here | apply Pick.skip | apply Pick.app); done); focus rfl) | (apply en_own; focus ((repeat' first | exact Pick.here | apply Pick.skip | apply Pick.app); done); focus rfl) | (apply en_pick; focus ((repeat' first | exact Pick.here | apply Pick.skip | apply Pick.app); done)) | apply en_drop | apply en_app) <;> fail)
theorem push1_ctr (b2 b3 b : Nat) (A : Option Addr) (m q : Nat) (l ys : List IT) (L : List HP) (h2 : Ld L ⟨b2, 0, none⟩ (.pointer (some ⟨b, 0, none⟩))) (h3 : Ld L ⟨b3, 0, none⟩ (.slice A m q)) (hy : Rd L A m ys) (hb : l.length + m ≤ 65536) :
    Ctr Tryz.prog 124 #[.pointer (some ⟨b2, 0, none⟩), .pointer (some ⟨b3, 0, none⟩)] (stkS b 65536 l :: L) fun v L' => L' = stkS b 65536 (l ++ ys) :: L := by
  refine Ctr_of (fn := Tryz.f124) (n := 5) Tryz.func124 rfl rfl rfl ?_
  intro g F
  (repeat first | refine G_seq ?_ | refine G_skip ?_ | refine G_endblk ?_ | refine G_block ?_ | refine G_exit rfl ?_)
  refine G_region ?_
  refine GO_q rfl rfl (ev_load rfl (by repeat' first | exact Ld.blk rfl | assumption | apply Ld.skip | apply Ld.app)) ?_
  refine GO_q rfl rfl (ev_load rfl (by repeat' first | exact Ld.blk rfl | assumption | apply Ld.skip | apply Ld.app)) ?_
  refine GO_eff rfl rfl (eff_call rfl (Ctr.pick (by repeat' first | exact Pick.here | apply Pick.skip | apply Pick.app) (push_ctr b A m q l ys _ (by repeat' first | exact hy | apply Rd.skip) hb))) ?_; rintro _ _ ⟨rfl, rfl⟩
  refine GO_nil ?_
  (repeat first | refine G_seq ?_ | refine G_skip ?_ | refine G_endblk ?_ | refine G_block ?_ | refine G_exit rfl ?_)
  exact G_end (L' := stkS b 65536 (l ++ ys) :: L) rfl .nil (by (repeat first | exact en_refl | (apply en_blk; focus ((repeat' first | exact Pick.here | apply Pick.skip | apply Pick.app); done); focus rfl) | (apply en_own; focus ((repeat' first | exact Pick.here | apply Pick.skip | apply Pick.app); done); focus rfl) | (apply en_pick; focus ((repeat' first | exact Pick.here | apply Pick.skip | apply Pick.app); done)) | apply en_drop | apply en_app) <;> fail) rfl
theorem Push_ctr (b : Nat) (A : Option Addr) (m q : Nat) (l ys : List IT) (L : List HP) (hy : Rd L A m ys) (hb : l.length + m ≤ 65536) : Ctr Tryz.prog 97 #[.pointer (some ⟨b, 0, none⟩), .slice A m q] (stkS b 65536 l :: L) fun v L' => v = .int .i64 0 ∧ L' = stkS b 65536 (l ++ ys) :: L := by
  refine Ctr_of (fn := Tryz.f97) (n := 16) Tryz.func97 rfl rfl rfl ?_
  intro g F
  (repeat first | refine G_seq ?_ | refine G_skip ?_ | refine G_endblk ?_ | refine G_block ?_ | refine G_exit rfl ?_)
  refine G_region ?_
  refine GO_eff rfl rfl (eff_box rfl) ?_; rintro _ _ ⟨b2, rfl, rfl⟩
  refine GO_eff rfl rfl (eff_box rfl) ?_; rintro _ _ ⟨b3, rfl, rfl⟩
  refine GO_q rfl rfl (ev_assign rfl) ?_
  refine GO_nil ?_
  (repeat first | refine G_seq ?_ | refine G_skip ?_ | refine G_endblk ?_ | refine G_block ?_ | refine G_exit rfl ?_)
  refine G_region ?_
  refine GO_q rfl rfl (ev_load rfl (by repeat' first | exact Ld.blk rfl | assumption | apply Ld.skip | apply Ld.app)) ?_
  (first | refine GO_q rfl rfl (ev_eqlNil rfl rfl) ?_ | refine GO_q rfl rfl (ev_eqlPtr rfl rfl) ?_)
  refine GO_nil ?_
  (repeat first | refine G_seq ?_ | refine G_skip ?_ | refine G_endblk ?_ | refine G_block ?_ | refine G_exit rfl ?_)
  refine G_cond_f rfl rfl ?_
  (repeat first | refine G_seq ?_ | refine G_skip ?_ | refine G_endblk ?_ | refine G_block ?_ | refine G_exit rfl ?_)
  refine G_region ?_
  refine GO_q rfl rfl (ev_makeFunc rfl rfl) ?_
  refine GO_eff rfl rfl (eff_call rfl (Ctr.pick (by repeat' first | exact Pick.here | apply Pick.skip | apply Pick.app) (Catch_ctr (c1 := []) (c2 := [.pointer (some ⟨b2, 0, none⟩), .pointer (some ⟨b3, 0, none⟩)]) (post := fun L' => L' = stkS b 65536 (l ++ ys) :: blk b3 59 [.slice A m q] :: blk b2 80 [.pointer (some ⟨b, 0, none⟩)] :: F :: L) (push1_ctr b2 b3 b A m q l ys _ (Ld.skip (Ld.blk rfl)) (Ld.blk rfl) (by repeat' first | exact hy | apply Rd.skip) hb)))) ?_; rintro _ _ ⟨rfl, rfl⟩
  refine GO_q rfl rfl (ev_move rfl) ?_
  refine GO_q rfl rfl (ev_extract rfl rfl) ?_
  refine GO_q rfl rfl (ev_extract rfl rfl) ?_
  refine GO_eff rfl rfl eff_alloc ?_; rintro _ _ ⟨b5, rfl, rfl⟩
  refine GO_eff rfl rfl (eff_storeN rfl rfl rfl rfl (by repeat' first | exact Upd.here rfl | apply Upd.skip | apply Upd.app)) ?_; rintro _ _ ⟨rfl, rfl⟩
  refine GO_q rfl rfl (ev_assign rfl) ?_
  refine GO_nil ?_
  (repeat first | refine G_seq ?_ | refine G_skip ?_ | refine G_endblk ?_ | refine G_block ?_ | refine G_exit rfl ?_)
  refine G_region ?_
  refine GO_q rfl rfl (ev_fieldAddr rfl) ?_
  refine GO_q rfl rfl (ev_load rfl (by repeat' first | exact Ld.blk rfl | assumption | apply Ld.skip | apply Ld.app)) ?_
  refine GO_q rfl rfl (ev_assign rfl) ?_
  refine GO_nil ?_
  (repeat first | refine G_seq ?_ | refine G_skip ?_ | refine G_endblk ?_ | refine G_block ?_ | refine G_exit rfl ?_)
  exact G_ret (L' := stkS b 65536 (l ++ ys) :: L) rfl (.tmp rfl .nil) (by (repeat first | exact en_refl | (apply en_blk; focus ((repeat' first | exact Pick.here | apply Pick.skip | apply Pick.app); done); focus rfl) | (apply en_own; focus ((repeat' first | exact Pick.here | apply Pick.skip | apply Pick.app); done); focus rfl) | (apply en_pick; focus ((repeat' first | exact Pick.here | apply Pick.skip | apply Pick.app); done)) | apply en_drop | apply en_app) <;> fail) ⟨rfl, rfl⟩
/-! What is visited. -/
theorem KClone_ctr (A : Option Addr) (n c : Nat) (l : List IT) (L : List HP) (hl : Rd L A n l) (hn : n ≤ 1000000) :
    Ctr Tryz.prog 120 #[.slice A n c] L fun v L' => Made 52 l L v L' := by
  have h1 : l.length = n := hl.len (by decide)
  refine Ctr_of (fn := Tryz.f120) (n := 8) Tryz.func120 rfl rfl rfl ?_
  intro g F
  (repeat first | refine G_seq ?_ | refine G_skip ?_ | refine G_endblk ?_ | refine G_block ?_ | refine G_exit rfl ?_)
  refine G_region ?_
  refine GO_q rfl rfl (ev_assign rfl) ?_
  refine GO_nil ?_
  (repeat first | refine G_seq ?_ | refine G_skip ?_ | refine G_endblk ?_ | refine G_block ?_ | refine G_exit rfl ?_)
  refine G_region ?_
  refine GO_q rfl rfl (ev_move rfl) ?_
  refine GO_q rfl rfl (ev_eqlNilS rfl rfl) ?_
  refine GO_nil ?_
  (repeat first | refine G_seq ?_ | refine G_skip ?_ | refine G_endblk ?_ | refine G_block ?_ | refine G_exit rfl ?_)
  refine G_condB rfl (fun h2 => ?_) (fun h2 => ?_)
  · have e : A = none := by simpa using h2
    subst e
    have h3 : n = 0 := by
      rcases Nat.eq_zero_or_pos n with h | h
      · exact h
      · obtain ⟨b, o, e, _⟩ := hl.at_ h; cases e
    subst h3
    have : l = [] := List.eq_nil_of_length_eq_zero h1
    subst this
    (repeat first | refine G_seq ?_ | refine G_skip ?_ | refine G_endblk ?_ | refine G_block ?_ | refine G_exit rfl ?_)
    refine G_region ?_
    refine GO_q rfl rfl (ev_assign rfl) ?_
    refine GO_nil ?_
    (repeat first | refine G_seq ?_ | refine G_skip ?_ | refine G_endblk ?_ | refine G_block ?_ | refine G_exit rfl ?_)
    refine G_ret (L' := own 52 1 none 0 0 [] :: L) rfl (.tmp rfl .nil) ?_ ⟨none, 0, rfl, fun h => absurd h (Nat.lt_irrefl 0), rfl⟩
    exact fun h s => (own.nil_ 52 1 h s).swap
  · (repeat first | refine G_seq ?_ | refine G_skip ?_ | refine G_endblk ?_ | refine G_block ?_ | refine G_exit rfl ?_)
    refine G_region ?_
    refine GO_eff rfl rfl eff_buildSlice0 ?_; rintro _ _ ⟨b5, rfl, rfl⟩
    refine GO_q rfl rfl (ev_move rfl) ?_
    refine GO_eff rfl rfl (eff_append rfl rfl (by repeat' first | exact Pick.here | apply Pick.skip) (Rc.skip (Rc.skip hl)) ((flat_one _)) (by rfl) (by decide) (by first | omega | (simp; done) | (simp; omega)) (by first | omega | (simp; done) | (simp; omega))) ?_; rintro _ _ ⟨A7, c7, rfl, hc7, hm7, hn7, rfl⟩
    refine GO_q rfl rfl (ev_assign rfl) ?_
    refine GO_nil ?_
    rw [Nat.zero_add] at hc7 hn7
    (repeat first | refine G_seq ?_ | refine G_skip ?_ | refine G_endblk ?_ | refine G_block ?_ | refine G_exit rfl ?_)
    refine G_ret (L' := own 52 1 A7 l.length c7 (flat l) :: L) rfl (.tmp rfl .nil) ?_ ⟨A7, c7, by rw [h1]; simp [retv], by rw [h1]; exact hn7, rfl⟩
    rw [h1, Nat.zero_add, List.nil_append]
    refine en_pick (.skip (.here)) ?_
    refine en_pick (.here) ?_
    exact (by (repeat first | exact fun _ s => s | apply en_keep | apply en_drop | apply en_app) <;> fail)
theorem KReverse_ctr (A : Option Addr) (c : Nat) (l : List IT) (L : List HP) (hA : 0 < l.length → ∃ b, A = some ⟨b, 0, none⟩) (h2 : l.length ≤ 2) :
    Ctr Tryz.prog 121 #[.slice A l.length c] (own 52 1 A l.length c (flat l) :: L) fun v L' => v = .tuple #[] ∧ L' = own 52 1 A l.length c (flat l.reverse) :: L := by
  match l, h2, hA with
  | [], _, hA =>
    refine Ctr_of (fn := Tryz.f121) (n := 28) Tryz.func121 rfl rfl rfl ?_
    intro g F
    (repeat first | refine G_seq ?_ | refine G_skip ?_ | refine G_endblk ?_ | refine G_block ?_ | refine G_exit rfl ?_)
    refine G_region ?_
    refine GO_q rfl rfl (ev_move rfl) ?_
    refine GO_q rfl rfl (ev_len rfl) ?_
    (first | refine GO_q rfl rfl (ev_subN (q := 1) rfl rfl (by first | omega | (simp; done) | (simp; omega))) ?_ | refine GO_q rfl rfl (ev_sub rfl rfl (by first | omega | (simp; done) | (simp; omega))) ?_)
    refine GO_q rfl rfl (ev_assign rfl) ?_
    refine GO_q rfl rfl (ev_assign rfl) ?_
    refine GO_nil ?_
    (repeat first | refine G_seq ?_ | refine G_skip ?_ | refine G_endblk ?_ | refine G_block ?_ | refine G_exit rfl ?_)
    refine G_loop (ι := Unit) (fun _ => [(0, .slice A ([] : List IT).length c), (2, .int .i64 0), (3, .int .i64 (-1))]) (fun _ => F :: own 52 1 A ([] : List IT).length c (flat ([] : List IT)) :: L) (fun _ => True) (fun _ => 0) () trivial ⟨rfl, rfl, rfl, trivial⟩ en_refl ?_
    intro _ _
    (repeat first | refine G_seq ?_ | refine G_skip ?_ | refine G_endblk ?_ | refine G_block ?_ | refine G_exit rfl ?_)
    refine G_region ?_
    refine GO_q rfl rfl (ev_move rfl) ?_
    refine GO_q rfl rfl (ev_move rfl) ?_
    (first | refine GO_q rfl rfl (ev_lssN rfl rfl) ?_ | refine GO_q rfl rfl (ev_lss rfl rfl) ?_)
    refine GO_nil ?_
    (repeat first | refine G_seq ?_ | refine G_skip ?_ | refine G_endblk ?_ | refine G_block ?_ | refine G_exit rfl ?_)
    refine G_cond_f rfl rfl ?_
    (repeat first | refine G_seq ?_ | refine G_skip ?_ | refine G_endblk ?_ | refine G_block ?_ | refine G_exit rfl ?_)
    exact G_end (L' := own 52 1 A ([] : List IT).length c (flat ([] : List IT).reverse) :: L) rfl .nil en_refl ⟨rfl, rfl⟩
  | [x], _, hA =>
    refine Ctr_of (fn := Tryz.f121) (n := 28) Tryz.func121 rfl rfl rfl ?_
    intro g F
    (repeat first | refine G_seq ?_ | refine G_skip ?_ | refine G_endblk ?_ | refine G_block ?_ | refine G_exit rfl ?_)
    refine G_region ?_
    refine GO_q rfl rfl (ev_move rfl) ?_
    refine GO_q rfl rfl (ev_len rfl) ?_
    (first | refine GO_q rfl rfl (ev_subN (q := 1) rfl rfl (by first | omega | (simp; done) | (simp; omega))) ?_ | refine GO_q rfl rfl (ev_sub rfl rfl (by first | omega | (simp; done) | (simp; omega))) ?_)
    refine GO_q rfl rfl (ev_assign rfl) ?_
    refine GO_q rfl rfl (ev_assign rfl) ?_
    refine GO_nil ?_
    (repeat first | refine G_seq ?_ | refine G_skip ?_ | refine G_endblk ?_ | refine G_block ?_ | refine G_exit rfl ?_)
    refine G_loop (ι := Unit) (fun _ => [(0, .slice A [x].length c), (2, .int .i64 0), (3, .int .i64 0)]) (fun _ => F :: own 52 1 A [x].length c (flat [x]) :: L) (fun _ => True) (fun _ => 0) () trivial ⟨rfl, rfl, rfl, trivial⟩ en_refl ?_
    intro _ _
    (repeat first | refine G_seq ?_ | refine G_skip ?_ | refine G_endblk ?_ | refine G_block ?_ | refine G_exit rfl ?_)
    refine G_region ?_
    refine GO_q rfl rfl (ev_move rfl) ?_
    refine GO_q rfl rfl (ev_move rfl) ?_
    (first | refine GO_q rfl rfl (ev_lssN rfl rfl) ?_ | refine GO_q rfl rfl (ev_lss rfl rfl) ?_)
    refine GO_nil ?_
    (repeat first | refine G_seq ?_ | refine G_skip ?_ | refine G_endblk ?_ | refine G_block ?_ | refine G_exit rfl ?_)
    refine G_cond_f rfl rfl ?_
    (repeat first | refine G_seq ?_ | refine G_skip ?_ | refine G_endblk ?_ | refine G_block ?_ | refine G_exit rfl ?_)
    exact G_end (L' := own 52 1 A [x].length c (flat [x].reverse) :: L) rfl .nil en_refl ⟨rfl, rfl⟩
  | [x, y], _, hA =>
    obtain ⟨ab, rfl⟩ := hA (by simp)
    refine Ctr_of (fn := Tryz.f121) (n := 28) Tryz.func121 rfl rfl rfl ?_
    intro g F
    refine G_heap (L' := own 52 1 (some ⟨ab, 0, none⟩) 2 c [.pointer x.addr, .pointer y.addr] :: F :: L) (fun _ s => s.swap) ?_
    refine G_open (ι := List Value) (F := fun r => (Value.pointer x.addr :: .pointer y.addr :: r).length = c * 1 ∧ 2 ≤ c ∧ c ≤ maxLen) (N := fun r => [blk ab 52 (.pointer x.addr :: .pointer y.addr :: r)]) (fun h o => by
      obtain ⟨cs, hb, hl, ht⟩ := o.opn
      have e : cs = .pointer x.addr :: .pointer y.addr :: cs.drop 2 := by
        have := List.take_append_drop 2 cs
        rw [show (2 * 1) = 2 from rfl] at ht
        rw [ht] at this
        exact this.symm
      exact ⟨cs.drop 2, ⟨by rw [← e]; exact hl, o.le, o.cap⟩, sat.one (e ▸ hb)⟩) ?_
    rintro r ⟨k1, k2, k3⟩
    refine G_heap (L' := F :: blk ab 52 (.pointer x.addr :: .pointer y.addr :: r) :: L) (fun _ s => s.swap) ?_
    (repeat first | refine G_seq ?_ | refine G_skip ?_ | refine G_endblk ?_ | refine G_block ?_ | refine G_exit rfl ?_)
    refine G_region ?_
    refine GO_q rfl rfl (ev_move rfl) ?_
    refine GO_q rfl rfl (ev_len rfl) ?_
    (first | refine GO_q rfl rfl (ev_subN (q := 1) rfl rfl (by first | omega | (simp; done) | (simp; omega))) ?_ | refine GO_q rfl rfl (ev_sub rfl rfl (by first | omega | (simp; done) | (simp; omega))) ?_)
    refine GO_q rfl rfl (ev_assign rfl) ?_
    refine GO_q rfl rfl (ev_assign rfl) ?_
    refine GO_nil ?_
    (repeat first | refine G_seq ?_ | refine G_skip ?_ | refine G_endblk ?_ | refine G_block ?_ | refine G_exit rfl ?_)
    refine G_loop (ι := List Value × Nat × Nat) (fun z => [(0, .slice (some ⟨ab, 0, none⟩) 2 c), (2, .int .i64 (z.2.1 : Nat)), (3, .int .i64 (z.2.2 : Nat))]) (fun z => F :: blk ab 52 z.1 :: L) (fun z => z = (.pointer x.addr :: .pointer y.addr :: r, 0, 1) ∨ z = (.pointer y.addr :: .pointer x.addr :: r, 1, 0)) (fun z => z.2.2) (.pointer x.addr :: .pointer y.addr :: r, 0, 1) (.inl rfl) ⟨rfl, rfl, rfl, trivial⟩ en_refl ?_
    rintro z (rfl | rfl)
    · dsimp only
      (repeat first | refine G_seq ?_ | refine G_skip ?_ | refine G_endblk ?_ | refine G_block ?_ | refine G_exit rfl ?_)
      refine G_region ?_
      refine GO_q rfl rfl (ev_move rfl) ?_
      refine GO_q rfl rfl (ev_move rfl) ?_
      (first | refine GO_q rfl rfl (ev_lssN rfl rfl) ?_ | refine GO_q rfl rfl (ev_lss rfl rfl) ?_)
      refine GO_nil ?_
      (repeat first | refine G_seq ?_ | refine G_skip ?_ | refine G_endblk ?_ | refine G_block ?_ | refine G_exit rfl ?_)
      refine G_cond_t rfl rfl ?_
      (repeat first | refine G_seq ?_ | refine G_skip ?_ | refine G_endblk ?_ | refine G_block ?_ | refine G_exit rfl ?_)
      refine G_draw (.q 0 (.q 1 (.q 2 (.q 3 (.q 4 (.q 5 (.q 6 (.q 7 (.q 8 (.q 9 (.q 10 (.q 11 (.q 12 (.e 13 (.q 14 (.e 15 .nil)))))))))))))))) (by kernel_rfl) (by kernel_rfl) ?_
      refine RS_m retB_noPanic rfl rfl rfl rfl (ev_move rfl) ?_
      refine RS_m retB_noPanic rfl rfl rfl rfl (ev_move rfl) ?_
      refine RS_m retB_noPanic rfl rfl rfl rfl (ev_move rfl) ?_
      refine RS_m retB_noPanic rfl rfl rfl rfl (ev_move rfl) ?_
      refine RS_m retB_noPanic rfl rfl rfl rfl (ev_move rfl) ?_
      refine RS_m retB_noPanic rfl rfl rfl rfl (ev_move rfl) ?_
      (first | refine RS_m retB_noPanic rfl rfl rfl rfl (ev_indexAddrN rfl rfl (by first | omega | (simp; done) | (simp; omega))) ?_ | refine RS_m retB_noPanic rfl rfl rfl rfl (ev_indexAddr rfl rfl (by first | omega | (simp; done) | (simp; omega)) (by first | omega | (simp; done) | (simp; omega))) ?_)
      refine RS_q retB_noPanic rfl rfl rfl rfl (ev_load rfl (by repeat' first | exact Ld.blk rfl | assumption | apply Ld.skip | apply Ld.app)) ?_
      refine RS_m retB_noPanic rfl rfl rfl rfl (ev_move rfl) ?_
      refine RS_m retB_noPanic rfl rfl rfl rfl (ev_move rfl) ?_
      (first | refine RS_m retB_noPanic rfl rfl rfl rfl (ev_indexAddrN rfl rfl (by first | omega | (simp; done) | (simp; omega))) ?_ | refine RS_m retB_noPanic rfl rfl rfl rfl (ev_indexAddr rfl rfl (by first | omega | (simp; done) | (simp; omega)) (by first | omega | (simp; done) | (simp; omega))) ?_)
      refine RS_q retB_noPanic rfl rfl rfl rfl (ev_load rfl (by repeat' first | exact Ld.blk rfl | assumption | apply Ld.skip | apply Ld.app)) ?_
      (first | refine RS_m retB_noPanic rfl rfl rfl rfl (ev_indexAddrN rfl rfl (by first | omega | (simp; done) | (simp; omega))) ?_ | refine RS_m retB_noPanic rfl rfl rfl rfl (ev_indexAddr rfl rfl (by first | omega | (simp; done) | (simp; omega)) (by first | omega | (simp; done) | (simp; omega))) ?_)
      refine RS_e (RE_cmp (by kernel_rfl) rfl rfl rfl (eff_store rfl rfl rfl (by repeat' first | exact Upd.here rfl | apply Upd.skip | apply Upd.app)) ?_); rintro _ _ ⟨rfl, rfl⟩
      (first | refine RS_m retB_noPanic rfl rfl rfl rfl (ev_indexAddrN rfl rfl (by first | omega | (simp; done) | (simp; omega))) ?_ | refine RS_m retB_noPanic rfl rfl rfl rfl (ev_indexAddr rfl rfl (by first | omega | (simp; done) | (simp; omega)) (by first | omega | (simp; done) | (simp; omega))) ?_)
      refine RS_e (RE_last (by kernel_rfl) rfl rfl rfl (eff_store rfl rfl rfl (by repeat' first | exact Upd.here rfl | apply Upd.skip | apply Upd.app)) ?_); rintro _ _ ⟨rfl, rfl⟩
      (repeat first | refine G_seq ?_ | refine G_skip ?_ | refine G_endblk ?_ | refine G_block ?_ | refine G_exit rfl ?_)
      refine G_region ?_
      refine GO_q rfl rfl (ev_move rfl) ?_
      (first | refine GO_q rfl rfl (ev_addN (q := 1) rfl rfl (by first | omega | (simp; done) | (simp; omega))) ?_ | refine GO_q rfl rfl (ev_add rfl rfl (by first | omega | (simp; done) | (simp; omega))) ?_)
      refine GO_q rfl rfl (ev_move rfl) ?_
      (first | refine GO_q rfl rfl (ev_subN (q := 1) rfl rfl (by first | omega | (simp; done) | (simp; omega))) ?_ | refine GO_q rfl rfl (ev_sub rfl rfl (by first | omega | (simp; done) | (simp; omega))) ?_)
      refine GO_q rfl rfl (ev_assign rfl) ?_
      refine GO_q rfl rfl (ev_assign rfl) ?_
      refine GO_nil ?_
      (repeat first | refine G_seq ?_ | refine G_skip ?_ | refine G_endblk ?_ | refine G_block ?_ | refine G_exit rfl ?_)
      exact G_round (.pointer y.addr :: .pointer x.addr :: r, 1, 0) (.inr rfl) (Nat.zero_lt_one) ⟨rfl, rfl, rfl, trivial⟩ (by dsimp only; rw [sw2]; exact (by (repeat first | exact en_refl | (apply en_blk; focus ((repeat' first | exact Pick.here | apply Pick.skip | apply Pick.app); done); focus rfl) | (apply en_own; focus ((repeat' first | exact Pick.here | apply Pick.skip | apply Pick.app); done); focus rfl) | (apply en_pick; focus ((repeat' first | exact Pick.here | apply Pick.skip | apply Pick.app); done)) | apply en_drop | apply en_app) <;> fail))
    · dsimp only
      (repeat first | refine G_seq ?_ | refine G_skip ?_ | refine G_endblk ?_ | refine G_block ?_ | refine G_exit rfl ?_)
      refine G_region ?_
      refine GO_q rfl rfl (ev_move rfl) ?_
      refine GO_q rfl rfl (ev_move rfl) ?_
      (first | refine GO_q rfl rfl (ev_lssN rfl rfl) ?_ | refine GO_q rfl rfl (ev_lss rfl rfl) ?_)
      refine GO_nil ?_
      (repeat first | refine G_seq ?_ | refine G_skip ?_ | refine G_endblk ?_ | refine G_block ?_ | refine G_exit rfl ?_)
      refine G_cond_f rfl rfl ?_
      (repeat first | refine G_seq ?_ | refine G_skip ?_ | refine G_endblk ?_ | refine G_block ?_ | refine G_exit rfl ?_)
      refine G_end (L' := own 52 1 (some ⟨ab, 0, none⟩) 2 c [.pointer y.addr, .pointer x.addr] :: L) rfl .nil (en_keep ?_) ⟨rfl, rfl⟩
      exact own_of1 k1 k2 k3
def funcB (P : Program) (T : TypeId) : Bool := match P.underlying T with
  | some (.func _ _ _) => true
  | _ => false
class FuncT (P : Program) (T : TypeId) : Prop where
  h : funcB P T = true
theorem FuncT.spec {P : Program} {T : TypeId} (H : FuncT P T) : ∃ a b c, P.underlying T = some (.func a b c) := by
  have h := H.h
  unfold funcB at h
  split at h
  · exact ⟨_, _, _, by assumption⟩
  · cases h
theorem ev_eqlNilF {P : Program} {L : List HP} {σ : Env} {d : Option Nat} {ty T T' : TypeId} {pos : String} {aft : Array Edge} {gd : Option (Nat × Bool)} {x y : Operand} {f : Fn} {a b : Array Value} [H : FuncT P T] (hx : ev σ x = some (.func f a b)) (hy : ev σ y = some .nilFunc) : Ev P L σ ⟨d, .binOp .eql T x y T', ty, pos, aft, gd⟩ (.bool false) :=
  bin_run' _ _ _ _ (fun w => by unfold eqGuard; split <;> rfl) hx hy fun w => by
    obtain ⟨_, _, _, he⟩ := H.spec
    have h2 : (Op.equal T (.func f a b) .nilFunc).run P w = .ok false w := by
      unfold Op.equal
      rw [show Op.maxDepth = 9999 + 1 from rfl]
      unfold Op.equalIn
      simp only [Sem.run_bind, run_underlying he, Result.andThen_ok]
      rfl
    show ((do pure (.bool (← Op.equal T (.func f a b) .nilFunc)) : Sem Value)).run P w = _
    simp only [Sem.run_bind, h2, Result.andThen_ok, Sem.run_pure]
instance : FuncT Tryz.prog 83 := ⟨by kernel_rfl⟩
/-- What looks at nodes: what it has, which ones it tells, what it has then; and what is still to come. -/
structure Vis (S : Type) where
  V : S → HP
  ok : IT → S → Prop
  kids : IT → List IT
  upd : IT → S → S
  f : FuncId
  c1 : List Value
  c2 : List Value
  I : List IT → S → Nat → Prop
structure Vis.Good {S : Type} (X : Vis S) (L : List HP) : Prop where
  cal : CalT Tryz.prog X.f
  visit : ∀ (M : List HP) (x : IT) (st : S), (∀ h, sat M h → sat L h) → X.ok x st → Ctr Tryz.prog X.f (X.c1 ++ [Value.pointer x.addr] ++ X.c2).toArray (X.V st :: M) fun v L' => Made 52 (X.kids x) (X.V (X.upd x st) :: M) v L'
  next : ∀ (l : List IT) (x : IT) (st : S) (r : Nat), X.I (l ++ [x]) st r → ∃ r', r = r' + 1 ∧ X.I (l ++ (X.kids x).reverse) (X.upd x st) r'
  stop : ∀ (st : S) (r : Nat), X.I [] st r → r = 0
  cap : ∀ (l : List IT) (st : S) (r : Nat), X.I l st r → l.length ≤ 60000 ∧ ∀ x ∈ l, X.ok x st ∧ (X.kids x).length ≤ 2
@[reducible] def wkC {S : Type} (X : Vis S) (s n : Nat) : List Value := [.pointer (some ⟨s, 0, none⟩), .func (.func X.f) X.c1.toArray X.c2.toArray, .int .i64 (n : Nat)]
theorem wstep_nil_ctr {S : Type} (X : Vis S) (bw s n : Nat) (L : List HP) : Ctr Tryz.prog 93 #[.pointer (some ⟨bw, 0, none⟩)] (blk bw 109 (wkC X s n) :: stkS s 65536 [] :: L) fun v L' => v = .bool false ∧ L' = blk bw 109 (wkC X s n) :: stkS s 65536 [] :: L := by
  refine Ctr_of (fn := Tryz.f93) (n := 38) Tryz.func93 rfl rfl rfl ?_
  intro g F
  (repeat first | refine G_seq ?_ | refine G_skip ?_ | refine G_endblk ?_ | refine G_block ?_ | refine G_exit rfl ?_)
  refine G_region ?_
  refine GO_q rfl rfl (ev_assign rfl) ?_
  refine GO_nil ?_
  (repeat first | refine G_seq ?_ | refine G_skip ?_ | refine G_endblk ?_ | refine G_block ?_ | refine G_exit rfl ?_)
  refine G_region ?_
  refine GO_q rfl rfl (ev_move rfl) ?_
  (first | refine GO_q rfl rfl (ev_nilCheck rfl) ?_ | refine GO_q rfl rfl (ev_nilCheckF (by simp) rfl) ?_)
  refine GO_q rfl rfl (ev_fieldAddr rfl) ?_
  refine GO_q rfl rfl (ev_load rfl (by repeat' first | exact Ld.blk rfl | assumption | apply Ld.skip | apply Ld.app)) ?_
  refine GO_eff rfl rfl (eff_call rfl (Ctr.pick (by repeat' first | exact Pick.here | apply Pick.skip | apply Pick.app) (pop_nil_ctr s _))) ?_; rintro _ _ ⟨rfl, rfl⟩
  refine GO_q rfl rfl (ev_move rfl) ?_
  refine GO_q rfl rfl (ev_extract rfl rfl) ?_
  refine GO_q rfl rfl (ev_extract rfl rfl) ?_
  refine GO_q rfl rfl (ev_assign rfl) ?_
  refine GO_q rfl rfl (ev_assign rfl) ?_
  refine GO_nil ?_
  (repeat first | refine G_seq ?_ | refine G_skip ?_ | refine G_endblk ?_ | refine G_block ?_ | refine G_exit rfl ?_)
  refine G_region ?_
  refine GO_q rfl rfl (ev_move rfl) ?_
  refine GO_q rfl rfl (ev_not rfl) ?_
  refine GO_nil ?_
  (repeat first | refine G_seq ?_ | refine G_skip ?_ | refine G_endblk ?_ | refine G_block ?_ | refine G_exit rfl ?_)
  refine G_cond_t rfl rfl ?_
  (repeat first | refine G_seq ?_ | refine G_skip ?_ | refine G_endblk ?_ | refine G_block ?_ | refine G_exit rfl ?_)
  refine G_region ?_
  refine GO_q rfl rfl (ev_assign rfl) ?_
  refine GO_nil ?_
  (repeat first | refine G_seq ?_ | refine G_skip ?_ | refine G_endblk ?_ | refine G_block ?_ | refine G_exit rfl ?_)
  exact G_ret (L' := blk bw 109 (wkC X s n) :: stkS s 65536 [] :: L) rfl (.tmp rfl .nil) (by (repeat first | exact en_refl | (apply en_blk; focus ((repeat' first | exact Pick.here | apply Pick.skip | apply Pick.app); done); focus rfl) | (apply en_own; focus ((repeat' first | exact Pick.here | apply Pick.skip | apply Pick.app); done); focus rfl) | (apply en_pick; focus ((repeat' first | exact Pick.here | apply Pick.skip | apply Pick.app); done)) | apply en_drop | apply en_app) <;> fail) ⟨rfl, rfl⟩
theorem wstep_ctr {S : Type} (X : Vis S) (bw s n : Nat) (l : List IT) (x : IT) (st : S) (L L0 : List HP) (hX : X.Good L0) (hM : ∀ h, sat L h → sat L0 h) (hok : X.ok x st) (hk : (X.kids x).length ≤ 2) (hl : l.length ≤ 60000) (hn : n ≤ 1000000000000) :
    Ctr Tryz.prog 93 #[.pointer (some ⟨bw, 0, none⟩)] (blk bw 109 (wkC X s n) :: stkS s 65536 (l ++ [x]) :: X.V st :: L) fun v L' => v = .bool true ∧ L' = blk bw 109 (wkC X s (n + 1)) :: stkS s 65536 (l ++ (X.kids x).reverse) :: X.V (X.upd x st) :: L := by
  haveI := hX.cal
  refine Ctr_of (fn := Tryz.f93) (n := 38) Tryz.func93 rfl rfl rfl ?_
  intro g F
  (repeat first | refine G_seq ?_ | refine G_skip ?_ | refine G_endblk ?_ | refine G_block ?_ | refine G_exit rfl ?_)
  refine G_region ?_
  refine GO_q rfl rfl (ev_assign rfl) ?_
  refine GO_nil ?_
  (repeat first | refine G_seq ?_ | refine G_skip ?_ | refine G_endblk ?_ | refine G_block ?_ | refine G_exit rfl ?_)
  refine G_region ?_
  refine GO_q rfl rfl (ev_move rfl) ?_
  (first | refine GO_q rfl rfl (ev_nilCheck rfl) ?_ | refine GO_q rfl rfl (ev_nilCheckF (by simp) rfl) ?_)
  refine GO_q rfl rfl (ev_fieldAddr rfl) ?_
  refine GO_q rfl rfl (ev_load rfl (by repeat' first | exact Ld.blk rfl | assumption | apply Ld.skip | apply Ld.app)) ?_
  refine GO_eff rfl rfl (eff_call rfl (Ctr.pick (by repeat' first | exact Pick.here | apply Pick.skip | apply Pick.app) (pop_ctr s l x _ (by omega)))) ?_; rintro _ _ ⟨rfl, rfl⟩
  refine GO_q rfl rfl (ev_move rfl) ?_
  refine GO_q rfl rfl (ev_extract rfl rfl) ?_
  refine GO_q rfl rfl (ev_extract rfl rfl) ?_
  refine GO_q rfl rfl (ev_assign rfl) ?_
  refine GO_q rfl rfl (ev_assign rfl) ?_
  refine GO_nil ?_
  (repeat first | refine G_seq ?_ | refine G_skip ?_ | refine G_endblk ?_ | refine G_block ?_ | refine G_exit rfl ?_)
  refine G_region ?_
  refine GO_q rfl rfl (ev_move rfl) ?_
  refine GO_q rfl rfl (ev_not rfl) ?_
  refine GO_nil ?_
  (repeat first | refine G_seq ?_ | refine G_skip ?_ | refine G_endblk ?_ | refine G_block ?_ | refine G_exit rfl ?_)
  refine G_cond_f rfl rfl ?_
  (repeat first | refine G_seq ?_ | refine G_skip ?_ | refine G_endblk ?_ | refine G_block ?_ | refine G_exit rfl ?_)
  refine G_region ?_
  refine GO_q rfl rfl (ev_move rfl) ?_
  (first | refine GO_q rfl rfl (ev_nilCheck rfl) ?_ | refine GO_q rfl rfl (ev_nilCheckF (by simp) rfl) ?_)
  refine GO_q rfl rfl (ev_fieldAddr rfl) ?_
  refine GO_q rfl rfl (ev_load rfl (by repeat' first | exact Ld.blk rfl | assumption | apply Ld.skip | apply Ld.app)) ?_
  (first | refine GO_q rfl rfl (ev_addN (q := 1) rfl rfl (by first | omega | (simp; done) | (simp; omega))) ?_ | refine GO_q rfl rfl (ev_add rfl rfl (by first | omega | (simp; done) | (simp; omega))) ?_)
  (first | refine GO_q rfl rfl (ev_nilCheck rfl) ?_ | refine GO_q rfl rfl (ev_nilCheckF (by simp) rfl) ?_)
  refine GO_q rfl rfl (ev_fieldAddr rfl) ?_
  refine GO_eff rfl rfl (eff_store rfl rfl rfl (by repeat' first | exact Upd.here rfl | apply Upd.skip | apply Upd.app)) ?_; rintro _ _ ⟨rfl, rfl⟩
  refine GO_nil ?_
  (repeat first | refine G_seq ?_ | refine G_skip ?_ | refine G_endblk ?_ | refine G_block ?_ | refine G_exit rfl ?_)
  refine G_region ?_
  refine GO_q rfl rfl (ev_move rfl) ?_
  (first | refine GO_q rfl rfl (ev_nilCheck rfl) ?_ | refine GO_q rfl rfl (ev_nilCheckF (by simp) rfl) ?_)
  refine GO_q rfl rfl (ev_fieldAddr rfl) ?_
  refine GO_q rfl rfl (ev_load rfl (by repeat' first | exact Ld.blk rfl | assumption | apply Ld.skip | apply Ld.app)) ?_
  refine GO_q rfl rfl (ev_move rfl) ?_
  refine GO_eff rfl rfl (eff_callv rfl rfl (Ctr.pre (M := X.V st :: blk bw 109 (wkC X s (n + 1)) :: stkS s 65536 l :: F :: L) (by (repeat first | exact en_refl | (apply en_blk; focus ((repeat' first | exact Pick.here | apply Pick.skip | apply Pick.app); done); focus rfl) | (apply en_own; focus ((repeat' first | exact Pick.here | apply Pick.skip | apply Pick.app); done); focus rfl) | (apply en_pick; focus ((repeat' first | exact Pick.here | apply Pick.skip | apply Pick.app); done)) | apply en_drop | apply en_app) <;> fail) (hX.visit (blk bw 109 (wkC X s (n + 1)) :: stkS s 65536 l :: F :: L) x st (fun h t => hM h t.tail.tail.tail) hok))) ?_; rintro _ _ ⟨A28, c28, rfl, hA28, rfl⟩
  refine GO_eff rfl rfl (eff_call rfl (KClone_ctr A28 _ c28 (X.kids x) _ (Rc.own (flat_length _) hA28) (by omega))) ?_; rintro _ _ ⟨A29, c29, rfl, hA29, rfl⟩
  refine GO_q rfl rfl (ev_assign rfl) ?_
  refine GO_nil ?_
  (repeat first | refine G_seq ?_ | refine G_skip ?_ | refine G_endblk ?_ | refine G_block ?_ | refine G_exit rfl ?_)
  refine G_region ?_
  refine GO_q rfl rfl (ev_move rfl) ?_
  refine GO_eff rfl rfl (eff_call rfl (Ctr.pick (by repeat' first | exact Pick.here | apply Pick.skip | apply Pick.app) (KReverse_ctr A29 c29 (X.kids x) _ hA29 hk))) ?_; rintro _ _ ⟨rfl, rfl⟩
  refine GO_nil ?_
  (repeat first | refine G_seq ?_ | refine G_skip ?_ | refine G_endblk ?_ | refine G_block ?_ | refine G_exit rfl ?_)
  refine G_region ?_
  refine GO_q rfl rfl (ev_move rfl) ?_
  (first | refine GO_q rfl rfl (ev_nilCheck rfl) ?_ | refine GO_q rfl rfl (ev_nilCheckF (by simp) rfl) ?_)
  refine GO_q rfl rfl (ev_fieldAddr rfl) ?_
  refine GO_q rfl rfl (ev_load rfl (by repeat' first | exact Ld.blk rfl | assumption | apply Ld.skip | apply Ld.app)) ?_
  refine GO_q rfl rfl (ev_move rfl) ?_
  refine GO_eff rfl rfl (eff_call rfl (Ctr.pick (by repeat' first | exact Pick.here | apply Pick.skip | apply Pick.app) (push_ctr s A29 _ c29 l (X.kids x).reverse _ (by repeat' first | exact Rc.own (by rw [flat_length, List.length_reverse]; rfl) hA29 | apply Rd.skip) (by omega)))) ?_; rintro _ _ ⟨rfl, rfl⟩
  refine GO_nil ?_
  (repeat first | refine G_seq ?_ | refine G_skip ?_ | refine G_endblk ?_ | refine G_block ?_ | refine G_exit rfl ?_)
  refine G_region ?_
  refine GO_q rfl rfl (ev_assign rfl) ?_
  refine GO_nil ?_
  (repeat first | refine G_seq ?_ | refine G_skip ?_ | refine G_endblk ?_ | refine G_block ?_ | refine G_exit rfl ?_)
  exact G_ret (L' := blk bw 109 (wkC X s (n + 1)) :: stkS s 65536 (l ++ (X.kids x).reverse) :: X.V (X.upd x st) :: L) rfl (.tmp rfl .nil) (by (repeat first | exact en_refl | (apply en_blk; focus ((repeat' first | exact Pick.here | apply Pick.skip | apply Pick.app); done); focus rfl) | (apply en_own; focus ((repeat' first | exact Pick.here | apply Pick.skip | apply Pick.app); done); focus rfl) | (apply en_pick; focus ((repeat' first | exact Pick.here | apply Pick.skip | apply Pick.app); done)) | apply en_drop | apply en_app) <;> fail) ⟨rfl, rfl⟩
theorem walk1_ctr {S : Type} (X : Vis S) (b8 b4 bw s k r : Nat) (l : List IT) (st : S) (L L0 : List HP) (hX : X.Good L0) (hM : ∀ h, sat L h → sat L0 h) (hI : X.I l st r) (hk : r ≤ 100000000) :
    Ctr Tryz.prog 92 #[.pointer (some ⟨b8, 0, none⟩), .pointer (some ⟨b4, 0, none⟩)] (blk b8 107 [.pointer (some ⟨bw, 0, none⟩)] :: blk b4 3 [.int .i64 (k : Nat)] :: blk bw 109 (wkC X s 0) :: stkS s 65536 l :: X.V st :: L)
      fun v L' => ∃ l' st', X.I l' st' (r - min k r) ∧ L' = blk b8 107 [.pointer (some ⟨bw, 0, none⟩)] :: blk b4 3 [.int .i64 (k : Nat)] :: blk bw 109 (wkC X s (min k r)) :: stkS s 65536 l' :: X.V st' :: L := by
  refine Ctr_of (fn := Tryz.f92) (n := 12) Tryz.func92 rfl rfl rfl ?_
  intro g F
  (repeat first | refine G_seq ?_ | refine G_skip ?_ | refine G_endblk ?_ | refine G_block ?_ | refine G_exit rfl ?_)
  refine G_loop (ι := List IT × S × Nat) (fun _ => [(0, .pointer (some ⟨b8, 0, none⟩)), (1, .pointer (some ⟨b4, 0, none⟩))]) (fun y => blk b8 107 [.pointer (some ⟨bw, 0, none⟩)] :: blk b4 3 [.int .i64 (k : Nat)] :: blk bw 109 (wkC X s y.2.2) :: stkS s 65536 y.1 :: X.V y.2.1 :: F :: L) (fun y => y.2.2 ≤ k ∧ y.2.2 ≤ r ∧ X.I y.1 y.2.1 (r - y.2.2)) (fun y => r - y.2.2) (l, st, 0) ⟨Nat.zero_le _, Nat.zero_le _, hI⟩ ⟨rfl, rfl, trivial⟩ (by (repeat first | exact en_refl | (apply en_blk; focus ((repeat' first | exact Pick.here | apply Pick.skip | apply Pick.app); done); focus rfl) | (apply en_own; focus ((repeat' first | exact Pick.here | apply Pick.skip | apply Pick.app); done); focus rfl) | (apply en_pick; focus ((repeat' first | exact Pick.here | apply Pick.skip | apply Pick.app); done)) | apply en_drop | apply en_app) <;> fail) ?_
  rintro ⟨l1, st1, j⟩ ⟨f1, f2, f3⟩
  simp only at f1 f2 f3
  dsimp only
  by_cases hj : j < k
  · rcases List.eq_nil_or_concat l1 with h | ⟨l0, x, h⟩
    · subst h
      have h0 := hX.stop _ _ f3
      (repeat first | refine G_seq ?_ | refine G_skip ?_ | refine G_endblk ?_ | refine G_block ?_ | refine G_exit rfl ?_)
      refine G_draw (.q 0 (.q 1 (.q 2 (.q 3 (.q 4 (.q 5 (.q 6 (.q 7 (.e 8 (.q 9 .nil)))))))))) (by kernel_rfl) (by kernel_rfl) ?_
      refine RS_q retB_noPanic rfl rfl rfl rfl (ev_load rfl (by repeat' first | exact Ld.blk rfl | assumption | apply Ld.skip | apply Ld.app)) ?_
      (first | refine RS_m retB_noPanic rfl rfl rfl rfl (ev_nilCheck rfl) ?_ | refine RS_m retB_noPanic rfl rfl rfl rfl (ev_nilCheckF (by simp) rfl) ?_)
      refine RS_m retB_noPanic rfl rfl rfl rfl (ev_fieldAddr rfl) ?_
      refine RS_q retB_noPanic rfl rfl rfl rfl (ev_load rfl (by repeat' first | exact Ld.blk rfl | assumption | apply Ld.skip | apply Ld.app)) ?_
      refine RS_q retB_noPanic rfl rfl rfl rfl (ev_load rfl (by repeat' first | exact Ld.blk rfl | assumption | apply Ld.skip | apply Ld.app)) ?_
      (first | refine RS_m retB_noPanic rfl rfl rfl rfl (ev_lssN rfl rfl) ?_ | refine RS_m retB_noPanic rfl rfl rfl rfl (ev_lss rfl rfl) ?_)
      refine RS_m retB_noPanic rfl rfl rfl rfl (ev_move rfl) ?_
      refine RS_q_yes retB_noPanic rfl rfl rfl rfl ⟨_, rfl, (decide_eq_true (by omega))⟩ rfl (ev_load rfl (by repeat' first | exact Ld.blk rfl | assumption | apply Ld.skip | apply Ld.app)) ?_
      refine RS_e (RE_cmp_yes (by kernel_rfl) rfl rfl rfl ⟨_, rfl, (decide_eq_true (by omega))⟩ rfl (eff_call rfl (Ctr.pre (M := blk bw 109 (wkC X s j) :: stkS s 65536 [] :: blk b8 107 [.pointer (some ⟨bw, 0, none⟩)] :: blk b4 3 [.int .i64 (k : Nat)] :: X.V st1 :: F :: L) (by (repeat first | exact en_refl | (apply en_blk; focus ((repeat' first | exact Pick.here | apply Pick.skip | apply Pick.app); done); focus rfl) | (apply en_own; focus ((repeat' first | exact Pick.here | apply Pick.skip | apply Pick.app); done); focus rfl) | (apply en_pick; focus ((repeat' first | exact Pick.here | apply Pick.skip | apply Pick.app); done)) | apply en_drop | apply en_app) <;> fail) (wstep_nil_ctr X bw s j _))) ?_); rintro _ _ ⟨rfl, rfl⟩
      refine RS_m retB_noPanic rfl rfl rfl rfl (ev_pick_t rfl (decide_eq_true (by omega)) rfl) ?_
      refine RS_nil ?_
      (repeat first | refine G_seq ?_ | refine G_skip ?_ | refine G_endblk ?_ | refine G_block ?_ | refine G_exit rfl ?_)
      refine G_cond_f rfl rfl ?_
      (repeat first | refine G_seq ?_ | refine G_skip ?_ | refine G_endblk ?_ | refine G_block ?_ | refine G_exit rfl ?_)
      have e : min k r = j := by omega
      refine G_end (L' := blk b8 107 [.pointer (some ⟨bw, 0, none⟩)] :: blk b4 3 [.int .i64 (k : Nat)] :: blk bw 109 (wkC X s j) :: stkS s 65536 [] :: X.V st1 :: L) rfl .nil (by (repeat first | exact en_refl | (apply en_blk; focus ((repeat' first | exact Pick.here | apply Pick.skip | apply Pick.app); done); focus rfl) | (apply en_own; focus ((repeat' first | exact Pick.here | apply Pick.skip | apply Pick.app); done); focus rfl) | (apply en_pick; focus ((repeat' first | exact Pick.here | apply Pick.skip | apply Pick.app); done)) | apply en_drop | apply en_app) <;> fail) ?_
      rw [e]
      exact ⟨[], st1, f3, rfl⟩
    · rw [List.concat_eq_append] at h
      subst h
      obtain ⟨k1, k2⟩ := hX.cap _ _ _ f3
      obtain ⟨r', e1, e2⟩ := hX.next _ _ _ _ f3
      have k3 := k2 x (List.mem_append.2 (.inr (List.mem_singleton.2 rfl)))
      rw [List.length_append] at k1
      (repeat first | refine G_seq ?_ | refine G_skip ?_ | refine G_endblk ?_ | refine G_block ?_ | refine G_exit rfl ?_)
      refine G_draw (.q 0 (.q 1 (.q 2 (.q 3 (.q 4 (.q 5 (.q 6 (.q 7 (.e 8 (.q 9 .nil)))))))))) (by kernel_rfl) (by kernel_rfl) ?_
      refine RS_q retB_noPanic rfl rfl rfl rfl (ev_load rfl (by repeat' first | exact Ld.blk rfl | assumption | apply Ld.skip | apply Ld.app)) ?_
      (first | refine RS_m retB_noPanic rfl rfl rfl rfl (ev_nilCheck rfl) ?_ | refine RS_m retB_noPanic rfl rfl rfl rfl (ev_nilCheckF (by simp) rfl) ?_)
      refine RS_m retB_noPanic rfl rfl rfl rfl (ev_fieldAddr rfl) ?_
      refine RS_q retB_noPanic rfl rfl rfl rfl (ev_load rfl (by repeat' first | exact Ld.blk rfl | assumption | apply Ld.skip | apply Ld.app)) ?_
      refine RS_q retB_noPanic rfl rfl rfl rfl (ev_load rfl (by repeat' first | exact Ld.blk rfl | assumption | apply Ld.skip | apply Ld.app)) ?_
      (first | refine RS_m retB_noPanic rfl rfl rfl rfl (ev_lssN rfl rfl) ?_ | refine RS_m retB_noPanic rfl rfl rfl rfl (ev_lss rfl rfl) ?_)
      refine RS_m retB_noPanic rfl rfl rfl rfl (ev_move rfl) ?_
      refine RS_q_yes retB_noPanic rfl rfl rfl rfl ⟨_, rfl, (decide_eq_true (by omega))⟩ rfl (ev_load rfl (by repeat' first | exact Ld.blk rfl | assumption | apply Ld.skip | apply Ld.app)) ?_
      refine RS_e (RE_cmp_yes (by kernel_rfl) rfl rfl rfl ⟨_, rfl, (decide_eq_true (by omega))⟩ rfl (eff_call rfl (Ctr.frame [blk b8 107 [.pointer (some ⟨bw, 0, none⟩)], blk b4 3 [.int .i64 (k : Nat)], F] (wstep_ctr X bw s j l0 x st1 L L0 hX hM k3.1 k3.2 (by omega) (by omega)) (by (repeat first | exact en_refl | (apply en_blk; focus ((repeat' first | exact Pick.here | apply Pick.skip | apply Pick.app); done); focus rfl) | (apply en_own; focus ((repeat' first | exact Pick.here | apply Pick.skip | apply Pick.app); done); focus rfl) | (apply en_pick; focus ((repeat' first | exact Pick.here | apply Pick.skip | apply Pick.app); done)) | apply en_drop | apply en_app) <;> fail))) ?_); rintro _ _ ⟨_, ⟨rfl, rfl⟩, rfl⟩
      refine RS_m retB_noPanic rfl rfl rfl rfl (ev_pick_t rfl (decide_eq_true (by omega)) rfl) ?_
      refine RS_nil ?_
      (repeat first | refine G_seq ?_ | refine G_skip ?_ | refine G_endblk ?_ | refine G_block ?_ | refine G_exit rfl ?_)
      refine G_cond_t rfl rfl ?_
      (repeat first | refine G_seq ?_ | refine G_skip ?_ | refine G_endblk ?_ | refine G_block ?_ | refine G_exit rfl ?_)
      exact G_round (l0 ++ (X.kids x).reverse, X.upd x st1, j + 1) ⟨by simp only; omega, by simp only; omega, by simp only; rw [show r - (j + 1) = r' by omega]; exact e2⟩ (by simp only; omega) ⟨rfl, rfl, trivial⟩ (by (repeat first | exact en_refl | (apply en_blk; focus ((repeat' first | exact Pick.here | apply Pick.skip | apply Pick.app); done); focus rfl) | (apply en_own; focus ((repeat' first | exact Pick.here | apply Pick.skip | apply Pick.app); done); focus rfl) | (apply en_pick; focus ((repeat' first | exact Pick.here | apply Pick.skip | apply Pick.app); done)) | apply en_drop | apply en_app) <;> fail)
  · skip
    (repeat first | refine G_seq ?_ | refine G_skip ?_ | refine G_endblk ?_ | refine G_block ?_ | refine G_exit rfl ?_)
    refine G_draw (.q 0 (.q 1 (.q 2 (.q 3 (.q 4 (.q 5 (.q 6 (.q 7 (.e 8 (.q 9 .nil)))))))))) (by kernel_rfl) (by kernel_rfl) ?_
    refine RS_q retB_noPanic rfl rfl rfl rfl (ev_load rfl (by repeat' first | exact Ld.blk rfl | assumption | apply Ld.skip | apply Ld.app)) ?_
    (first | refine RS_m retB_noPanic rfl rfl rfl rfl (ev_nilCheck rfl) ?_ | refine RS_m retB_noPanic rfl rfl rfl rfl (ev_nilCheckF (by simp) rfl) ?_)
    refine RS_m retB_noPanic rfl rfl rfl rfl (ev_fieldAddr rfl) ?_
    refine RS_q retB_noPanic rfl rfl rfl rfl (ev_load rfl (by repeat' first | exact Ld.blk rfl | assumption | apply Ld.skip | apply Ld.app)) ?_
    refine RS_q retB_noPanic rfl rfl rfl rfl (ev_load rfl (by repeat' first | exact Ld.blk rfl | assumption | apply Ld.skip | apply Ld.app)) ?_
    (first | refine RS_m retB_noPanic rfl rfl rfl rfl (ev_lssN rfl rfl) ?_ | refine RS_m retB_noPanic rfl rfl rfl rfl (ev_lss rfl rfl) ?_)
    refine RS_m retB_noPanic rfl rfl rfl rfl (ev_move rfl) ?_
    refine RS_q_no retB_noPanic rfl rfl rfl ⟨_, rfl, (decide_eq_false (by omega))⟩ rfl ?_
    refine RS_e (RE_no rfl rfl rfl ⟨_, rfl, (decide_eq_false (by omega))⟩ rfl ?_)
    refine RS_m retB_noPanic rfl rfl rfl rfl (ev_pick_f rfl (decide_eq_false (by omega)) rfl) ?_
    refine RS_nil ?_
    (repeat first | refine G_seq ?_ | refine G_skip ?_ | refine G_endblk ?_ | refine G_block ?_ | refine G_exit rfl ?_)
    refine G_cond_f rfl rfl ?_
    (repeat first | refine G_seq ?_ | refine G_skip ?_ | refine G_endblk ?_ | refine G_block ?_ | refine G_exit rfl ?_)
    have e : min k r = j := by omega
    refine G_end (L' := blk b8 107 [.pointer (some ⟨bw, 0, none⟩)] :: blk b4 3 [.int .i64 (k : Nat)] :: blk bw 109 (wkC X s j) :: stkS s 65536 l1 :: X.V st1 :: L) rfl .nil (by (repeat first | exact en_refl | (apply en_blk; focus ((repeat' first | exact Pick.here | apply Pick.skip | apply Pick.app); done); focus rfl) | (apply en_own; focus ((repeat' first | exact Pick.here | apply Pick.skip | apply Pick.app); done); focus rfl) | (apply en_pick; focus ((repeat' first | exact Pick.here | apply Pick.skip | apply Pick.app); done)) | apply en_drop | apply en_app) <;> fail) ?_
    rw [e]
    exact ⟨l1, st1, f3, rfl⟩
theorem Walk_ctr {S : Type} (X : Vis S) (s k r : Nat) (l : List IT) (st : S) (L L0 : List HP) (hX : X.Good L0) (hM : ∀ h, sat L h → sat L0 h) (hI : X.I l st r) (hk : r ≤ 100000000) :
    Ctr Tryz.prog 58 #[.pointer (some ⟨s, 0, none⟩), .int .i64 (k : Nat), .func (.func X.f) X.c1.toArray X.c2.toArray] (stkS s 65536 l :: X.V st :: L)
      fun v L' => ∃ l' st', v = .tuple #[.int .i64 (min k r : Nat), .int .i64 0] ∧ X.I l' st' (r - min k r) ∧ L' = stkS s 65536 l' :: X.V st' :: L := by
  refine Ctr_of (fn := Tryz.f58) (n := 36) Tryz.func58 rfl rfl rfl ?_
  intro g F
  (repeat first | refine G_seq ?_ | refine G_skip ?_ | refine G_endblk ?_ | refine G_block ?_ | refine G_exit rfl ?_)
  refine G_region ?_
  refine GO_eff rfl rfl (eff_box rfl) ?_; rintro _ _ ⟨b4, rfl, rfl⟩
  refine GO_q rfl rfl (ev_assign rfl) ?_
  refine GO_q rfl rfl (ev_assign rfl) ?_
  refine GO_nil ?_
  (repeat first | refine G_seq ?_ | refine G_skip ?_ | refine G_endblk ?_ | refine G_block ?_ | refine G_exit rfl ?_)
  refine G_region ?_
  refine GO_q rfl rfl (ev_move rfl) ?_
  (first | refine GO_q rfl rfl (ev_eqlNil rfl rfl) ?_ | refine GO_q rfl rfl (ev_eqlPtr rfl rfl) ?_)
  refine GO_q rfl rfl (ev_move rfl) ?_
  refine GO_yes rfl rfl rfl rfl ?_
  refine GO_q rfl rfl (ev_move rfl) ?_
  refine GO_yes rfl rfl rfl rfl ?_
  refine GO_q rfl rfl (ev_eqlNilF rfl rfl) ?_
  refine GO_q rfl rfl (ev_pick_f rfl rfl rfl) ?_
  refine GO_q rfl rfl (ev_move rfl) ?_
  refine GO_yes rfl rfl rfl rfl ?_
  refine GO_q rfl rfl (ev_load rfl (by repeat' first | exact Ld.blk rfl | assumption | apply Ld.skip | apply Ld.app)) ?_
  refine GO_yes rfl rfl rfl rfl ?_
  (first | refine GO_q rfl rfl (ev_lssN (q := 0) rfl rfl) ?_ | refine GO_q rfl rfl (ev_lss rfl rfl) ?_)
  refine GO_q rfl rfl (ev_pick_f rfl rfl rfl) ?_
  refine GO_nil ?_
  (repeat first | refine G_seq ?_ | refine G_skip ?_ | refine G_endblk ?_ | refine G_block ?_ | refine G_exit rfl ?_)
  refine G_cond_f rfl (decide_eq_false (by omega)) ?_
  (repeat first | refine G_seq ?_ | refine G_skip ?_ | refine G_endblk ?_ | refine G_block ?_ | refine G_exit rfl ?_)
  refine G_region ?_
  refine GO_q rfl rfl (ev_move rfl) ?_
  refine GO_q rfl rfl (ev_move rfl) ?_
  refine GO_q rfl rfl (ev_build rfl rfl) ?_
  refine GO_eff rfl rfl (eff_box rfl) ?_; rintro _ _ ⟨b24, rfl, rfl⟩
  refine GO_eff rfl rfl eff_alloc ?_; rintro _ _ ⟨b8, rfl, rfl⟩
  refine GO_eff rfl rfl (eff_store rfl rfl rfl (by repeat' first | exact Upd.here rfl | apply Upd.skip | apply Upd.app)) ?_; rintro _ _ ⟨rfl, rfl⟩
  refine GO_nil ?_
  (repeat first | refine G_seq ?_ | refine G_skip ?_ | refine G_endblk ?_ | refine G_block ?_ | refine G_exit rfl ?_)
  refine G_region ?_
  refine GO_q rfl rfl (ev_makeFunc rfl rfl) ?_
  refine GO_eff rfl rfl (eff_call rfl (Ctr.frame [F] (Catch_ctr (c1 := []) (c2 := [.pointer (some ⟨b8, 0, none⟩), .pointer (some ⟨b4, 0, none⟩)]) (walk1_ctr X b8 b4 b24 s k r l st L L0 hX hM hI hk)) (by (repeat first | exact en_refl | (apply en_blk; focus ((repeat' first | exact Pick.here | apply Pick.skip | apply Pick.app); done); focus rfl) | (apply en_own; focus ((repeat' first | exact Pick.here | apply Pick.skip | apply Pick.app); done); focus rfl) | (apply en_pick; focus ((repeat' first | exact Pick.here | apply Pick.skip | apply Pick.app); done)) | apply en_drop | apply en_app) <;> fail))) ?_; rintro _ _ ⟨_, ⟨rfl, l', st', hI', rfl⟩, rfl⟩
  refine GO_q rfl rfl (ev_move rfl) ?_
  refine GO_q rfl rfl (ev_extract rfl rfl) ?_
  refine GO_q rfl rfl (ev_extract rfl rfl) ?_
  refine GO_eff rfl rfl eff_alloc ?_; rintro _ _ ⟨b9, rfl, rfl⟩
  refine GO_eff rfl rfl (eff_storeN rfl rfl rfl rfl (by repeat' first | exact Upd.here rfl | apply Upd.skip | apply Upd.app)) ?_; rintro _ _ ⟨rfl, rfl⟩
  refine GO_q rfl rfl (ev_assign rfl) ?_
  refine GO_nil ?_
  (repeat first | refine G_seq ?_ | refine G_skip ?_ | refine G_endblk ?_ | refine G_block ?_ | refine G_exit rfl ?_)
  refine G_draw (.q 0 (.q 1 (.q 2 (.q 3 (.q 4 (.q 5 (.q 6 (.q 7 .nil)))))))) (by kernel_rfl) (by kernel_rfl) ?_
  refine RS_q retB_noPanic rfl rfl rfl rfl (ev_load rfl (by repeat' first | exact Ld.blk rfl | assumption | apply Ld.skip | apply Ld.app)) ?_
  (first | refine RS_m retB_noPanic rfl rfl rfl rfl (ev_nilCheck rfl) ?_ | refine RS_m retB_noPanic rfl rfl rfl rfl (ev_nilCheckF (by simp) rfl) ?_)
  refine RS_m retB_noPanic rfl rfl rfl rfl (ev_fieldAddr rfl) ?_
  refine RS_q retB_noPanic rfl rfl rfl rfl (ev_load rfl (by repeat' first | exact Ld.blk rfl | assumption | apply Ld.skip | apply Ld.app)) ?_
  refine RS_m retB_noPanic rfl rfl rfl rfl (ev_fieldAddr rfl) ?_
  refine RS_q retB_noPanic rfl rfl rfl rfl (ev_load rfl (by repeat' first | exact Ld.blk rfl | assumption | apply Ld.skip | apply Ld.app)) ?_
  refine RS_m retB_noPanic rfl rfl rfl rfl (ev_assign rfl) ?_
  refine RS_m retB_noPanic rfl rfl rfl rfl (ev_assign rfl) ?_
  refine RS_nil ?_
  (repeat first | refine G_seq ?_ | refine G_skip ?_ | refine G_endblk ?_ | refine G_block ?_ | refine G_exit rfl ?_)
  exact G_ret (L' := stkS s 65536 l' :: X.V st' :: L) rfl (.tmp rfl (.tmp rfl .nil)) (by (repeat first | exact en_refl | (apply en_blk; focus ((repeat' first | exact Pick.here | apply Pick.skip | apply Pick.app); done); focus rfl) | (apply en_own; focus ((repeat' first | exact Pick.here | apply Pick.skip | apply Pick.app); done); focus rfl) | (apply en_pick; focus ((repeat' first | exact Pick.here | apply Pick.skip | apply Pick.app); done)) | apply en_drop | apply en_app) <;> fail) ⟨l', st', rfl, hI', rfl⟩
end Go.Proofs.YtjnmpogolknkpaaGreat
/- Trees that are heaps by Y: what lies in memory, and the small functions. -/
namespace Go.Proofs.YtjnmpogolknkpaaGreat
attribute [local irreducible] sat
set_option linter.unusedVariables false
set_option linter.unusedSimpArgs false
set_option maxRecDepth 100000

def goodId (n : Int) : Bool := decide (1 ≤ n) && decide (n ≤ 2147483647)
def goodP (p : Pt) : Bool := goodId p.id && (good p.x && good p.y)
theorem kid_id_ctr (n : Int) (L : List HP) : Ctr Tryz.prog 65 #[.int .i64 n] L fun v L' => v = .bool (goodId n) ∧ L' = L := by
  refine Ctr_of (fn := Tryz.f65) (n := 9) Tryz.func65 rfl rfl rfl ?_
  intro g F
  (repeat first | refine G_seq ?_ | refine G_skip ?_ | refine G_endblk ?_ | refine G_block ?_ | refine G_exit rfl ?_)
  refine G_region ?_
  refine GO_q rfl rfl (ev_assign rfl) ?_
  refine GO_nil ?_
  (repeat first | refine G_seq ?_ | refine G_skip ?_ | refine G_endblk ?_ | refine G_block ?_ | refine G_exit rfl ?_)
  refine G_region ?_
  refine GO_q rfl rfl (ev_move rfl) ?_
  refine GO_q rfl rfl (ev_geq rfl rfl) ?_
  refine GO_q rfl rfl (ev_move rfl) ?_
  refine GO_guard rfl rfl rfl (fun hc15 => ?y15) (fun hc15 => ?n15)
  case' n15 =>
    have hd15 := hc15
    try simp only [decide_eq_true_eq, decide_eq_false_iff_not, Bool.not_true, Bool.not_false, Bool.not_eq_true', Bool.not_eq_false'] at hd15
    refine GO_no rfl rfl rfl hc15 ?_
    refine GO_q rfl rfl (ev_pick_f rfl hc15 rfl) ?_
    refine GO_q rfl rfl (ev_assign rfl) ?_
    refine GO_nil ?_
    (repeat first | refine G_seq ?_ | refine G_skip ?_ | refine G_endblk ?_ | refine G_block ?_ | refine G_exit rfl ?_)
    refine G_ret rfl (.tmp rfl .nil) (by (repeat first | exact fun _ s => s | apply en_keep | apply en_drop | apply en_app) <;> fail) ⟨by simp_all [retv, goodId] <;> (intros; omega), rfl⟩
  case' y15 =>
    have hd15 := hc15
    try simp only [decide_eq_true_eq, decide_eq_false_iff_not, Bool.not_true, Bool.not_false, Bool.not_eq_true', Bool.not_eq_false'] at hd15
    refine GO_q rfl rfl (ev_move rfl) ?_
    refine GO_yes rfl rfl rfl hc15 ?_
    refine GO_q rfl rfl (ev_leq rfl rfl) ?_
    refine GO_q rfl rfl (ev_pick_t rfl hc15 rfl) ?_
    refine GO_q rfl rfl (ev_assign rfl) ?_
    refine GO_nil ?_
    (repeat first | refine G_seq ?_ | refine G_skip ?_ | refine G_endblk ?_ | refine G_block ?_ | refine G_exit rfl ?_)
    refine G_ret rfl (.tmp rfl .nil) (by (repeat first | exact fun _ s => s | apply en_keep | apply en_drop | apply en_app) <;> fail) ⟨by simp_all [retv, goodId] <;> (intros; omega), rfl⟩
/-- Whether a point comes ahead of another one by Y. -/
def und (p q : Pt) : Bool := decide (up p q < 0)
/-- A tree. -/
inductive PT where
  | nil
  | node (p s : Pt) (lo hi : PT)
def PT.size : PT → Nat
  | .nil => 0
  | .node _ _ lo hi => lo.size + 1 + hi.size
/-- A node's cells. -/
@[reducible] def nodeC (p s : Pt) (l h : Option Addr) (n : Nat) : List Value := [.int .i64 p.id, .int .i64 p.x, .int .i64 p.y, .int .i64 s.id, .int .i64 s.x, .int .i64 s.y, .pointer l, .pointer h, .int .i64 (n : Nat)]
end Go.Proofs.YtjnmpogolknkpaaGreat
/- The references' set of intervals (alidaderef20), and what is told of a fair interval. -/
namespace Go.Proofs.YtjnmpogolknkpaaGreat
attribute [local irreducible] sat
set_option linter.unusedVariables false
set_option linter.unusedSimpArgs false
set_option maxRecDepth 100000

def AdOk (A : Option Addr) (c : Nat) (m : List Pt) : Prop := (0 < m.length → ∃ b, A = some ⟨b, 0, none⟩) ∧ m.length ≤ c
def idsOf (l : List Pt) : List Int := l.map (·.id)
def fairP (s : Pt) : Bool := goodId s.id && good s.x && good s.y && decide (s.x ≤ s.y)
theorem KFair_ctr (s : Pt) (L : List HP) : Ctr Tryz.prog 45 #[s.v] L fun v L' => v = .bool (fairP s) ∧ L' = L := by
  refine Ctr_of (fn := Tryz.f45) (n := 23) Tryz.func45 rfl rfl rfl ?_
  intro g F
  (repeat first | refine G_seq ?_ | refine G_skip ?_ | refine G_endblk ?_ | refine G_block ?_ | refine G_exit rfl ?_)
  refine G_region ?_
  refine GO_eff rfl rfl (eff_box rfl) ?_; rintro _ _ ⟨b1, rfl, rfl⟩
  refine GO_q rfl rfl (ev_assign rfl) ?_
  refine GO_nil ?_
  (repeat first | refine G_seq ?_ | refine G_skip ?_ | refine G_endblk ?_ | refine G_block ?_ | refine G_exit rfl ?_)
  refine G_region ?_
  refine GO_q rfl rfl (ev_fieldAddr rfl) ?_
  refine GO_q rfl rfl (ev_load rfl (by repeat' first | exact Ld.blk rfl | assumption | apply Ld.skip | apply Ld.app)) ?_
  refine GO_eff rfl rfl (eff_call rfl (kid_id_ctr _ _)) ?_; rintro _ _ ⟨rfl, rfl⟩
  refine GO_q rfl rfl (ev_move rfl) ?_
  refine GO_guard rfl rfl rfl (fun hc25 => ?y25) (fun hc25 => ?n25)
  case' n25 =>
    have hd25 := hc25
    try simp only [decide_eq_true_eq, decide_eq_false_iff_not, Bool.not_true, Bool.not_false, Bool.not_eq_true', Bool.not_eq_false'] at hd25
    refine GO_no rfl rfl rfl hc25 ?_
    refine GO_no rfl rfl rfl hc25 ?_
    refine GO_q rfl rfl (ev_pick_f rfl hc25 rfl) ?_
    refine GO_q rfl rfl (ev_move rfl) ?_
    refine GO_no rfl rfl rfl rfl ?_
    refine GO_no rfl rfl rfl rfl ?_
    refine GO_no rfl rfl rfl rfl ?_
    refine GO_q rfl rfl (ev_pick_f rfl rfl rfl) ?_
    refine GO_q rfl rfl (ev_move rfl) ?_
    refine GO_no rfl rfl rfl rfl ?_
    refine GO_no rfl rfl rfl rfl ?_
    refine GO_no rfl rfl rfl rfl ?_
    refine GO_no rfl rfl rfl rfl ?_
    refine GO_no rfl rfl rfl rfl ?_
    refine GO_q rfl rfl (ev_pick_f rfl rfl rfl) ?_
    refine GO_q rfl rfl (ev_assign rfl) ?_
    refine GO_nil ?_
    (repeat first | refine G_seq ?_ | refine G_skip ?_ | refine G_endblk ?_ | refine G_block ?_ | refine G_exit rfl ?_)
    refine G_ret rfl (.tmp rfl .nil) (by (repeat first | exact fun _ s => s | apply en_keep | apply en_drop | apply en_app) <;> fail) ⟨by simp_all [retv, fairP], rfl⟩
  case' y25 =>
    have hd25 := hc25
    try simp only [decide_eq_true_eq, decide_eq_false_iff_not, Bool.not_true, Bool.not_false, Bool.not_eq_true', Bool.not_eq_false'] at hd25
    refine GO_q rfl rfl (ev_fieldAddr rfl) ?_
    refine GO_yes rfl rfl rfl hc25 ?_
    refine GO_q rfl rfl (ev_load rfl (by repeat' first | exact Ld.blk rfl | assumption | apply Ld.skip | apply Ld.app)) ?_
    refine GO_yes rfl rfl rfl hc25 ?_
    refine GO_eff rfl rfl (eff_call rfl (Good_ctr _ _)) ?_; rintro _ _ ⟨rfl, rfl⟩
    refine GO_q rfl rfl (ev_pick_t rfl hc25 rfl) ?_
    refine GO_q rfl rfl (ev_move rfl) ?_
    refine GO_guard rfl rfl rfl (fun hc29 => ?y29) (fun hc29 => ?n29)
    case' n29 =>
      have hd29 := hc29
      try simp only [decide_eq_true_eq, decide_eq_false_iff_not, Bool.not_true, Bool.not_false, Bool.not_eq_true', Bool.not_eq_false'] at hd29
      refine GO_no rfl rfl rfl hc29 ?_
      refine GO_no rfl rfl rfl hc29 ?_
      refine GO_q rfl rfl (ev_pick_f rfl hc29 rfl) ?_
      refine GO_q rfl rfl (ev_move rfl) ?_
      refine GO_no rfl rfl rfl rfl ?_
      refine GO_no rfl rfl rfl rfl ?_
      refine GO_no rfl rfl rfl rfl ?_
      refine GO_no rfl rfl rfl rfl ?_
      refine GO_no rfl rfl rfl rfl ?_
      refine GO_q rfl rfl (ev_pick_f rfl rfl rfl) ?_
      refine GO_q rfl rfl (ev_assign rfl) ?_
      refine GO_nil ?_
      (repeat first | refine G_seq ?_ | refine G_skip ?_ | refine G_endblk ?_ | refine G_block ?_ | refine G_exit rfl ?_)
      refine G_ret rfl (.tmp rfl .nil) (by (repeat first | exact fun _ s => s | apply en_keep | apply en_drop | apply en_app) <;> fail) ⟨by simp_all [retv, fairP], rfl⟩
    case' y29 =>
      have hd29 := hc29
      try simp only [decide_eq_true_eq, decide_eq_false_iff_not, Bool.not_true, Bool.not_false, Bool.not_eq_true', Bool.not_eq_false'] at hd29
      refine GO_q rfl rfl (ev_fieldAddr rfl) ?_
      refine GO_yes rfl rfl rfl hc29 ?_
      refine GO_q rfl rfl (ev_load rfl (by repeat' first | exact Ld.blk rfl | assumption | apply Ld.skip | apply Ld.app)) ?_
      refine GO_yes rfl rfl rfl hc29 ?_
      refine GO_eff rfl rfl (eff_call rfl (Good_ctr _ _)) ?_; rintro _ _ ⟨rfl, rfl⟩
      refine GO_q rfl rfl (ev_pick_t rfl hc29 rfl) ?_
      refine GO_q rfl rfl (ev_move rfl) ?_
      refine GO_guard rfl rfl rfl (fun hc33 => ?y33) (fun hc33 => ?n33)
      case' n33 =>
        have hd33 := hc33
        try simp only [decide_eq_true_eq, decide_eq_false_iff_not, Bool.not_true, Bool.not_false, Bool.not_eq_true', Bool.not_eq_false'] at hd33
        refine GO_no rfl rfl rfl hc33 ?_
        refine GO_no rfl rfl rfl hc33 ?_
        refine GO_no rfl rfl rfl hc33 ?_
        refine GO_no rfl rfl rfl hc33 ?_
        refine GO_q rfl rfl (ev_pick_f rfl hc33 rfl) ?_
        refine GO_q rfl rfl (ev_assign rfl) ?_
        refine GO_nil ?_
        (repeat first | refine G_seq ?_ | refine G_skip ?_ | refine G_endblk ?_ | refine G_block ?_ | refine G_exit rfl ?_)
        refine G_ret rfl (.tmp rfl .nil) (by (repeat first | exact fun _ s => s | apply en_keep | apply en_drop | apply en_app) <;> fail) ⟨by simp_all [retv, fairP], rfl⟩
      case' y33 =>
        have hd33 := hc33
        try simp only [decide_eq_true_eq, decide_eq_false_iff_not, Bool.not_true, Bool.not_false, Bool.not_eq_true', Bool.not_eq_false'] at hd33
        refine GO_q rfl rfl (ev_fieldAddr rfl) ?_
        refine GO_yes rfl rfl rfl hc33 ?_
        refine GO_q rfl rfl (ev_load rfl (by repeat' first | exact Ld.blk rfl | assumption | apply Ld.skip | apply Ld.app)) ?_
        refine GO_yes rfl rfl rfl hc33 ?_
        refine GO_q rfl rfl (ev_fieldAddr rfl) ?_
        refine GO_yes rfl rfl rfl hc33 ?_
        refine GO_q rfl rfl (ev_load rfl (by repeat' first | exact Ld.blk rfl | assumption | apply Ld.skip | apply Ld.app)) ?_
        refine GO_yes rfl rfl rfl hc33 ?_
        refine GO_q rfl rfl (ev_leq rfl rfl) ?_
        refine GO_q rfl rfl (ev_pick_t rfl hc33 rfl) ?_
        refine GO_q rfl rfl (ev_assign rfl) ?_
        refine GO_nil ?_
        (repeat first | refine G_seq ?_ | refine G_skip ?_ | refine G_endblk ?_ | refine G_block ?_ | refine G_exit rfl ?_)
        refine G_ret rfl (.tmp rfl .nil) (by (repeat first | exact fun _ s => s | apply en_keep | apply en_drop | apply en_app) <;> fail) ⟨by simp_all [retv, fairP], rfl⟩
/-- What Insert tells. -/
def insE (most : Int) (k : List Pt) (s : Pt) : Int := if fairP s = false then 1 else if s ∈ k then 5 else if most ≤ (k.length : Nat) then 4 else 0
def delE (k : List Pt) (s : Pt) : Int := if s ∈ k then 0 else 6
theorem srt_of_perm {l m : List Int} (h : l.Perm m) : srt l = srt m := eq_of_sorted _ _ ((srt_perm l).trans (h.trans (srt_perm m).symm)) (srt_sorted l) (srt_sorted m)
def overK (k : List Pt) (lo hi : Int) : List Int := srt (idsOf (k.filter fun s => decide (lo ≤ hi ∧ s.x ≤ hi ∧ lo ≤ s.y)))
def atS (l : List Pt) (p : Pt) : Int := if p ∈ l then (l.idxOf p : Nat) else -1
def insK (most : Int) (k : List Pt) (s : Pt) : List Pt := if insE most k s = 0 then k ++ [s] else k
/-- Something that was made, of which no more is told than how it reads. -/
def MadeQ {α : Type} [E : Enc α] (l : List α) (L : List HP) (v : Value) (L' : List HP) : Prop := ∃ (Y : HP) (A : Option Addr) (c : Nat), v = .slice A l.length c ∧ l.length ≤ c ∧ c ≤ maxLen ∧ (∀ L, Rd (Y :: L) A l.length l) ∧ L' = Y :: L
theorem Ctr.q {P : Program} {f : FuncId} {args : Array Value} {L : List HP} {α : Type} [E : Enc α] {l : List α} (h : Ctr P f args L fun v L' => ∃ A' c' N, v = .slice A' l.length c' ∧ l.length ≤ c' ∧ c' ≤ maxLen ∧ L' = N ++ L ∧ Rd (N ++ []) A' l.length l) : Ctr P f args L fun v L' => MadeQ l L v L' :=
  h.post' fun v L' hm ⟨A, c, X, e1, e2, e3, e4, e5⟩ s => ⟨_, ⟨fun h => sat X h, A, c, e1, e2, e3, fun L => Rc.ofI (fun _ h => by rw [List.append_nil]; exact h) e5, rfl⟩, sat.join (e4 ▸ s)⟩
/-- What is done: its two numbers and the interval. -/
structure Ac where
  kind : Int
  at_ : Int
  p : Pt
/-- The point of an act. -/
def actP (l : List Pt) (a : Ac) : Pt := if a.kind = 2 ∧ 0 < l.length ∧ 0 ≤ a.at_ then l.getD (a.at_ % (l.length : Nat)).toNat a.p else a.p
section
variable {P : Program} {L : List HP} {σ : Env} {d : Option Nat} {ty T T' : TypeId} {pos : String} {aft : Array Edge} {gd : Option (Nat × Bool)} {x y : Operand}
end
instance : Enc Ac := ⟨5, fun a => [.int .i64 a.kind, .int .i64 a.at_, .int .i64 a.p.id, .int .i64 a.p.x, .int .i64 a.p.y], fun _ => rfl, fun p v h => by
  simp at h
  rcases h with rfl | rfl | rfl | rfl | rfl <;> rfl⟩
end Go.Proofs.YtjnmpogolknkpaaGreat
/- A tree of middles, and the references' set, each as one part of the heap. -/
namespace Go.Proofs.YtjnmpogolknkpaaGreat
set_option linter.unusedVariables false
set_option linter.unusedSimpArgs false
set_option maxRecDepth 100000

def treeZ (t : Nat) (most : Int) (T : IT) : List HP := [blk t 75 [.pointer T.addr, .int .i64 most], itH T]
def treeO (l : List Pt) (T : IT) : Prop := T.ok ∧ T.fit ∧ T.spans.Perm l
def treeI (t : Nat) (most : Int) (l : List Pt) : HP := fun h => ∃ T : IT, treeO l T ∧ sat (treeZ t most T) h
def setZ (b : Nat) (most : Int) (l : List Pt) (z : Option Addr × Nat) : List HP := [blk b 39 [.slice z.1 l.length z.2, .int .i64 most], own 24 3 z.1 l.length z.2 (flat l)]
def setI (b : Nat) (most : Int) (l : List Pt) : HP := fun h => ∃ z : Option Addr × Nat, AdOk z.1 z.2 l ∧ sat (setZ b most l z) h
section
variable {P : Program} {f : FuncId} {args : Array Value} {L : List HP} {t b : Nat} {most : Int} {l : List Pt} {T : TypeId} {α : Type} [E : Enc α] {m : List α}
theorem Ctr.treeT {φ : Value → Prop} {l' : List Pt} (C : ∀ (T : IT), treeO l T → Ctr P f args (blk t 75 [.pointer T.addr, .int .i64 most] :: itH T :: L) fun v L' => φ v ∧ ∃ T', treeO l' T' ∧ L' = blk t 75 [.pointer T'.addr, .int .i64 most] :: itH T' :: L) : Ctr P f args (treeI t most l :: L) fun v L' => φ v ∧ L' = treeI t most l' :: L :=
  (Ctr.open (ι := IT) (N := treeZ t most) (Fa := treeO l) (fun _ h => h) fun T o => C T o).post' fun v L' hm ⟨e1, T', o', e2⟩ q => ⟨_, ⟨e1, rfl⟩, by
    subst e2
    exact sat.fold (N := treeZ t most T') (fun h q => ⟨T', o', q⟩) q⟩
end
theorem en_treeI {L M : List HP} {t : Nat} {most : Int} {T : IT} {l : List Pt} (o : treeO l T) (f : ∀ h, sat L h → sat (blk t 75 [.pointer T.addr, .int .i64 most] :: itH T :: M) h) : ∀ h, sat L h → sat (treeI t most l :: M) h := fun h q =>
  sat.fold (N := treeZ t most T) (fun h q => ⟨T, o, q⟩) (f h q)
theorem fairP_le {s : Pt} (h : fairP s = true) : s.x ≤ s.y ∧ good s.x = true ∧ good s.y = true := by
  unfold fairP at h
  simp only [Bool.and_eq_true, decide_eq_true_eq] at h
  exact ⟨h.2, h.1.1.2, h.1.2⟩
theorem IT.has_mem {s : Pt} : ∀ {T : IT}, T.has s = true → s ∈ T.spans
  | .nil, h => by simp [IT.has] at h
  | .node _ mid _ _ p _ _ _ _ lo hi, h => by
    simp only [IT.has] at h
    simp only [IT.spans, List.mem_append]
    split at h
    · exact .inr (.inl (IT.has_mem h))
    · split at h
      · exact .inr (.inr (IT.has_mem h))
      · exact .inl (of_decide_eq_true h)
theorem IT.ok.has_dec {s : Pt} {T : IT} (o : T.ok) : T.has s = decide (s ∈ T.spans) := by
  by_cases h : s ∈ T.spans
  · rw [decide_eq_true h]; exact (o.has (o.fair s h)).2 h
  · rw [decide_eq_false h]
    cases hh : T.has s with
    | false => rfl
    | true => exact absurd (IT.has_mem hh) h
def actK (most : Int) (k : List Pt) (a : Ac) : List Pt := if a.kind = 1 ∨ a.kind = 2 then k.erase (actP k a) else insK most k (actP k a)
def playK (most : Int) (l : List Ac) : List Pt := l.foldl (actK most) []
theorem over_fnd {T : IT} {l : List Pt} {u v : Int} (o : T.ok) (p : T.spans.Perm l) : srt (T.fnd' u v) = overK l u v :=
  srt_of_perm (o.fnd'_perm.trans ((p.filter _).map _))
end Go.Proofs.YtjnmpogolknkpaaGreat
/- A tree of middles: what building, putting and cutting come to. No program stands in this text. -/
namespace Go.Proofs.YtjnmpogolknkpaaGreat
set_option linter.unusedVariables false
set_option linter.unusedSimpArgs false

def lowL (mid : Int) (l : List Pt) : List Pt := l.filter fun s => decide (s.y < mid)
def highL (mid : Int) (l : List Pt) : List Pt := l.filter fun s => decide (mid < s.x)
def ownL (mid : Int) (l : List Pt) : List Pt := l.filter fun s => decide (s.x ≤ mid ∧ mid ≤ s.y)
theorem parts_perm (mid : Int) : ∀ (l : List Pt) (hf : ∀ s ∈ l, s.x ≤ s.y), (ownL mid l ++ (lowL mid l ++ highL mid l)).Perm l
  | [], _ => .nil
  | a :: l, hf => by
    have ih := parts_perm mid l fun s hs => hf s (List.mem_cons_of_mem _ hs)
    have ha := hf a (by simp)
    unfold ownL lowL highL at *
    simp only [List.filter_cons]
    by_cases c1 : a.y < mid
    · have n1 : ¬ (a.x ≤ mid ∧ mid ≤ a.y) := by omega
      have n2 : ¬ mid < a.x := by omega
      simp only [c1, n1, n2, decide_true, decide_false, if_true, Bool.false_eq_true, if_false]
      exact List.perm_middle.trans (.cons a ih)
    · by_cases c2 : mid < a.x
      · have n1 : ¬ (a.x ≤ mid ∧ mid ≤ a.y) := by omega
        simp only [c1, n1, c2, decide_true, decide_false, if_true, Bool.false_eq_true, if_false]
        rw [← List.append_assoc]
        refine List.perm_middle.trans (.cons a ?_)
        rwa [List.append_assoc]
      · have n1 : a.x ≤ mid ∧ mid ≤ a.y := by omega
        simp only [c1, n1, c2, decide_true, decide_false, if_true, Bool.false_eq_true, if_false, and_self]
        exact .cons a ih
theorem keep_kok {mid : Int} {l lo hi : List Pt} (hnd : l.Nodup) (hm : ∀ s ∈ l, s.x ≤ mid ∧ mid ≤ s.y) (h1 : ∀ s ∈ lo, s.y < mid) (h2 : ∀ s ∈ hi, mid < s.x) : IT.kok mid (srtO Pt.less l) (srtO Pt.ends l) lo hi :=
  ⟨srtO_asc sto_less hnd, srtO_eq sto_ends (srtO_sorted sto_ends l) ((srtO_perm l).trans (srtO_perm l).symm), fun s hs => hm s ((srtO_perm l).subset hs), h1, h2⟩
theorem kok_put {mid : Int} {p q lo hi : List Pt} {s : Pt} (h : IT.kok mid p q lo hi) (hs : s ∉ p) (hm : s.x ≤ mid ∧ mid ≤ s.y) : IT.kok mid (putO Pt.less s p) (putO Pt.ends s q) lo hi := by
  obtain ⟨a1, a2, a3, a4, a5⟩ := h
  have hqp : q.Perm p := a2 ▸ srtO_perm p
  have hq : AscO Pt.ends q := a2 ▸ srtO_asc sto_ends (a1.nodup sto_less)
  have hsq : s ∉ q := fun h => hs (hqp.subset h)
  refine ⟨putO_asc sto_less s p a1 hs, ?_, fun t ht => ?_, a4, a5⟩
  · exact srtO_eq sto_ends ((putO_asc sto_ends s q hq hsq).srt sto_ends) ((putO_perm s q).trans ((List.Perm.cons s hqp).trans (putO_perm s p).symm))
  · rcases List.mem_cons.1 ((putO_perm s p).subset ht) with h | h
    · subst h; exact hm
    · exact a3 t h
theorem kok_asc {mid : Int} {p q lo hi : List Pt} (h : IT.kok mid p q lo hi) : AscO Pt.ends q := h.2.1 ▸ srtO_asc sto_ends (h.1.nodup sto_less)
/-- A node that is built. -/
theorem build_ok {b : Nat} {mid : Int} {A : Option Addr} {c : Nat} {B : Option Addr} {d n : Nat} {lo hi : IT} {l : List Pt} (hf : ∀ s ∈ l, s.x ≤ s.y) (hnd : l.Nodup) (h0 : 0 < l.length) (hm : (srtO ltI (endsOf l))[l.length]? = some mid) (hlo : lo.ok) (hhi : hi.ok) (p1 : lo.spans.Perm (lowL mid l)) (p2 : hi.spans.Perm (highL mid l)) (hn : n = (srtO Pt.less (ownL mid l)).length + lo.size + hi.size) :
    (IT.node b mid A c (srtO Pt.less (ownL mid l)) B d (srtO Pt.ends (ownL mid l)) n lo hi).ok ∧ (IT.node b mid A c (srtO Pt.less (ownL mid l)) B d (srtO Pt.ends (ownL mid l)) n lo hi).spans.Perm l := by
  have hp : ((srtO Pt.less (ownL mid l)) ++ (lo.spans ++ hi.spans)).Perm l := ((srtO_perm _).append (p1.append p2)).trans (parts_perm mid l hf)
  have hl := hp.length_eq
  simp only [List.length_append] at hl
  obtain ⟨m1, m2⟩ := mid_sides hf hm
  have e1 := p1.length_eq
  have e2 := p2.length_eq
  have e3 := hlo.size
  have e4 := hhi.size
  have g1 : (lowL mid l).length = (l.filter fun s => decide (s.y < mid)).length := rfl
  have g2 : (highL mid l).length = (l.filter fun s => decide (mid < s.x)).length := rfl
  refine ⟨⟨keep_kok (hnd.filter _) (fun s hs => ?_) (fun s hs => ?_) (fun s hs => ?_), hn, by omega, by omega, hlo, hhi⟩, hp⟩
  · have := (List.mem_filter.1 hs).2; simpa using this
  · have := (List.mem_filter.1 (p1.subset hs)).2; simpa using this
  · have := (List.mem_filter.1 (p2.subset hs)).2; simpa using this
end Go.Proofs.YtjnmpogolknkpaaGreat
/- A range over a function, in a walk. No program stands in this text. -/
namespace Go.Proofs.YtjnmpogolknkpaaGreat
open Go.RowKit
set_option linter.unusedVariables false
set_option linter.unusedSimpArgs false

/-- A block that is no cells. -/
structure obj (b : Nat) (o : Obj) (h : Hm) : Prop where
  eq : h b = some o
section
variable {g : Glob} {L : List HP} {w : World}
theorem Hp.obj_heap {b : Nat} {o : Obj} (h : Hp g (obj b o :: L) w) : w.heap[b]? = some o := by
  obtain ⟨h1, h2, d, s1, s2, a, l⟩ := h.s
  exact s1 _ _ a.eq
theorem Hp.allocO (h : Hp g L w) (o : Obj) : Hp g (obj w.heap.size o :: L) (w.alloc o) := by
  refine ⟨h.g, fun k => if k = w.heap.size then some o else none, w.hm, fun k => ?_, fun k o' e => ?_, fun k o' e => ?_, ⟨by simp⟩, h.s⟩
  · by_cases hk : k = w.heap.size
    · right; subst hk; simp [World.hm]
    · left; simp [hk]
  · replace e : (if k = w.heap.size then some o else none) = some o' := e
    by_cases hk : k = w.heap.size
    · subst hk
      rw [if_pos rfl] at e
      show (w.heap.push _)[_]? = _
      simpa using e
    · rw [if_neg hk] at e; cases e
  · have hk : k < w.heap.size := by
      rcases Nat.lt_or_ge k w.heap.size with h' | h'
      · exact h'
      · simp [World.hm, Array.getElem?_eq_none h'] at e
    show (w.heap.push _)[k]? = _
    rw [Array.getElem?_push, if_neg (by omega)]
    exact e
theorem Hp.putO {b : Nat} {o : Obj} (h : Hp g (obj b o :: L) w) (o' : Obj) : Hp g (obj b o' :: L) (w.putObj b o') := by
  have hb := h.obj_heap
  have hlt : b < w.heap.size := (Array.getElem?_eq_some_iff.1 hb).1
  obtain ⟨h1, h2, d, s1, s2, a, l⟩ := h.s
  have a' : h1 b = some o := a.eq
  have hne : ∀ k, k ≠ b → (w.putObj b o').hm k = w.hm k := fun k hk => World.putObj_heap_other hk
  have heq : (w.putObj b o').hm b = some o' := World.putObj_heap_same hlt
  refine ⟨h.g, fun k => if k = b then some o' else none, h2, fun k => ?_, fun k o e => ?_, fun k o e => ?_, ⟨by simp⟩, l⟩
  · by_cases hk : k = b
    · right
      rcases d k with e | e
      · rw [hk, a'] at e; cases e
      · exact e
    · left; simp [hk]
  · replace e : (if k = b then some o' else none) = some o := e
    by_cases hk : k = b
    · subst hk
      rw [if_pos rfl] at e
      rw [heq]; exact e
    · rw [if_neg hk] at e; cases e
  · by_cases hk : k = b
    · rcases d k with e' | e'
      · rw [hk, a'] at e'; cases e'
      · rw [e'] at e; cases e
    · rw [hne k hk]; exact s2 k o e
theorem Hp.true_ (hw : Hp g L w) : Hp g ((fun _ => True) :: L) w := ⟨hw.g, fun _ => none, w.hm, fun _ => .inl rfl, fun _ _ e => (by cases e), hSub.refl _, trivial, hw.s⟩
end

/-! The end of a function that holds such a range. -/
def mk (ds : List Nat) : List Deferred := ds.map fun d => ⟨.collected d, #[]⟩
def mkH (ds : List Nat) : List HP := ds.map fun d => obj d (.deferred (some []))
theorem results_runs {P : Program} {fn : Func} {σ : Env} {L : List HP} {rs : List ResultVar} {vs : List Value} (hr : fn.results = rs.toArray) (h : Res P σ L rs vs) {a : Act} {w : World} (hs : SatE σ a) (hw : sat L w.hm) : (results fn a.tmps).run P w = .ok (retv vs) w := by
  unfold results
  rw [hr]
  simp only [List.mapM_toArray, Sem.run_bind, Sem.run_map]
  have e := h.run hs hw
  generalize hm : List.mapM (m := Sem) _ rs = m
  have e' : m.run P w = .ok vs w := by rw [← hm]; exact e
  rw [e']
  simp only [Result.andThen_ok, Sem.run_pure]
  cases vs with
  | nil => rfl
  | cons v l => cases l <;> simp [retv]
def retM (P : Program) (fn : Func) (g : Glob) (F : HP) (post : Value → List HP → Prop) : Exit → Act → World → Prop
  | .normal, a, w | .ret, a, w => ∃ (ds : List Nat) (M L2 : List HP) (σ : Env) (rs : List ResultVar) (vs : List Value), a.defers = mk ds ∧ SatE σ a ∧ fn.results = rs.toArray ∧ Res P σ M rs vs ∧ (∀ h, sat M h → sat (F :: L2) h) ∧ post (retv vs) L2 ∧ Hp g (mkH ds ++ M) w
  | _, _, _ => False
theorem leaves_mk {P : Program} {fn : Func} {g : Glob} {F : HP} {post : Value → List HP → Prop} {M L2 : List HP} {σ : Env} {rs : List ResultVar} {vs : List Value} {a : Act} (hs : SatE σ a) (hr : fn.results = rs.toArray) (h : Res P σ M rs vs) (hM : ∀ h, sat M h → sat (F :: L2) h) (hp : post (retv vs) L2) :
    ∀ (ds : List Nat) (w : World), Hp g (mkH ds ++ M) w → LeavesInM Fence.wide 0 P fn a.tmps (fun e w' => ∃ v L', e = .returned v ∧ post v L' ∧ Hp g (F :: L') w') (mk ds) .returning w
  | [], w, hw => ⟨retv vs, results_runs hr h hs hw.s, _, L2, rfl, hp, hw.mono hM⟩
  | d :: ds, w, hw => ⟨by simp, .inl ⟨d, w.putObj d (.deferred none), rfl, run_takeDeferred (Hp.obj_heap hw), leaves_mk hs hr h hM hp ds _ ((Hp.putO hw _).mono fun _ s => s.tail)⟩⟩
section
variable {P : Program} {fn : Func} {g : Glob} {n : Nat} {K : List Kt} {σ : Env} {L : List HP} {B : Exit → Act → World → Prop}
theorem Ctr_ofM {f : FuncId} {c : Code} {args : List Value} {post : Value → List HP → Prop} (hf : P.funcs[f]? = some fn) (hb : fn.body = some c) (hn : fn.ntmps = n) (hlen : Nat.ble args.length n = true)
    (h : ∀ g F, g.base = g → G P (retM P fn g F post) g n [.code c] (argsE args 0) (F :: L)) : Ctr P f args.toArray L post := fun g F w hw => by
  refine (callsIn_wide (n := 0)).1 (callsIn_of_wp_marks hf hb trivial ?_)
  have hsz : args.toArray.size ≤ fn.ntmps := by rw [hn]; exact Nat.le_of_ble_eq_true hlen
  have := h g.base F rfl { tmps := args.toArray ++ Array.replicate (fn.ntmps - args.toArray.size) undef, defers := [] } w ⟨by simp at hsz ⊢; omega, rfl, fun t v e => ?_⟩ hw.base
  · refine Code.wpIn_mono (fun e a w h => ?_) this
    cases e with
    | normal =>
      obtain ⟨ds, M, L2, τ, rs, vs, h1, h2, h3, h4, h5, h6, h7⟩ := h
      show LeavesInM _ _ _ _ _ _ a.defers _ _
      rw [h1]
      exact leaves_mk h2 h3 h4 h5 h6 ds w h7.of_base
    | ret =>
      obtain ⟨ds, M, L2, τ, rs, vs, h1, h2, h3, h4, h5, h6, h7⟩ := h
      show LeavesInM _ _ _ _ _ _ a.defers _ _
      rw [h1]
      exact leaves_mk h2 h3 h4 h5 h6 ds w h7.of_base
    | _ => exact h.elim
  · obtain ⟨j, rfl, hj⟩ := argsE_get args 0 t v e
    have hlt : j < args.length := (List.getElem?_eq_some_iff.1 hj).1
    rw [Nat.zero_add, Array.getElem?_append_left (by simpa using hlt)]
    simpa using hj
theorem G_retM {g0 : Glob} {rs : List ResultVar} {vs : List Value} {L' M : List HP} {F : HP} {post : Value → List HP → Prop} (ds : List Nat) (hg : g.base = g0.base) (hd : g.dfs = mk ds) (hr : fn.results = rs.toArray) (h : Res P σ M rs vs) (hL : ∀ h, sat L h → sat (mkH ds ++ M) h) (hM : ∀ h, sat M h → sat (F :: L') h) (hp : post (retv vs) L') :
    G P (retM P fn g0 F post) g n (.code .ret :: K) σ L := fun a w hs hw =>
  wpIn_ret (Kq_ret ⟨ds, M, L', σ, rs, vs, hs.defers.trans hd, hs.e, hr, h, hM, hp, ⟨hw.g.trans hg, hL _ hw.s⟩⟩)

/-! The statement. -/
def Glob.withD (g : Glob) (d : Nat) : Glob := { g with dfs := ⟨.collected d, #[]⟩ :: g.dfs }
theorem G_range {g0 : Operand} {ps : Array Tmp} {assign body : Code} {f : FuncId} {c1 c2 : List Value} {post : Option Code → List HP → Prop} [H : CalT P f] (hr : g.rnd = none) (hq : ev σ g0 = some (.func (.func f) c1.toArray c2.toArray))
    (hc : ∀ (l d : Nat) (fid : FuncId) (tmps : Array Value), tmps.size = n → SatE σ ⟨tmps, []⟩ → Ctr P f (c1 ++ [Value.func (.yield l) #[] #[]] ++ c2).toArray (obj l (.loop ⟨.ready, none, fid, tmps, ps, assign, body, d⟩) :: obj d (.deferred (some [])) :: L)
      fun v L' => ∃ st p L1, st ≠ .busy ∧ post p L1 ∧ L' = obj l (.loop ⟨st, p, fid, tmps, ps, assign, body, d⟩) :: obj d (.deferred (some [])) :: L1)
    (hN : ∀ d L1, post none L1 → G P B (g.withD d) n K σ (obj d (.deferred (some [])) :: L1))
    (hS : ∀ d c L1, post (some c) L1 → G P B (g.withD d) n (.code c :: K) σ (obj d (.deferred (some [])) :: L1)) :
    G P B g n (.code (.rangeFunc g0 ps assign body) :: K) σ L := fun a w hs hw => by
  show (Code.rangeFunc g0 ps assign body).wpIn (fnc g.rnd) 0 P _ a w
  refine wpIn_rangeFunc fun fid _ => ?_
  have h1 := (hw.allocO (.deferred (some []))).allocO (.loop { state := .ready, pending := none, fn := fid, tmps := a.tmps, params := ps, assign, body, defers := w.heap.size })
  have hC := calls_of (hc _ _ fid a.tmps hs.size (fun t v e => hs.e t v e)) h1
  rw [World.size_alloc] at h1 hC
  have hE := run_enterLoop_outer (P := P) (w := w) fid a.tmps ps assign body
  generalize (w.alloc (.deferred (some []))).alloc (.loop { state := .ready, pending := none, fn := fid, tmps := a.tmps, params := ps, assign, body, defers := w.heap.size }) = W at h1 hC hE
  refine ⟨w.heap.size + 1, [⟨.collected w.heap.size, #[]⟩], W, ⟨.fn (.func f) c2.toArray, c1.toArray ++ #[Value.func (.yield (w.heap.size + 1)) #[] #[]]⟩, W, f, (c1 ++ [Value.func (.yield (w.heap.size + 1)) #[] #[]] ++ c2).toArray, W, ?_, ?_, fun _ _ => trivial, ?_, (fun e => by cases e), (callsIn_wide (n := 0)).2 (hC.mono ?_)⟩
  · rw [show (fnc g.rnd).round = none from hr]
    exact hE
  · have ea : a.eval (.const (Value.func (.yield (w.heap.size + 1)) #[] #[])) = Value.func (.yield (w.heap.size + 1)) #[] #[] := rfl
    simp only [resolve, hs.e.eval hq, Deferred.ofValue, Sem.run_bind, Sem.run_pure, Result.andThen_ok, ea, List.map_toArray, List.map_cons, List.map_nil]
  · have := H.run (c1 ++ [Value.func (.yield (w.heap.size + 1)) #[] #[]] ++ c2).toArray W
    simpa [invoke] using this
  · rintro e w' ⟨v, L', rfl, ⟨st, p, L1, hb, hp, rfl⟩, hw'⟩
    refine ⟨p, _, run_endLoop hw'.obj_heap hb, ?_⟩
    have hw2 : Hp g (obj w.heap.size (.deferred (some [])) :: L1) _ := (hw'.putO (.loop ⟨.exhausted, p, fid, a.tmps, ps, assign, body, w.heap.size⟩)).mono fun _ s => s.tail
    have hs2 : Sat (g.withD w.heap.size) n σ { a with defers := [⟨.collected w.heap.size, #[]⟩] ++ a.defers } := ⟨hs.size, by rw [hs.defers]; rfl, fun t v e => hs.e t v e⟩
    cases p with
    | none => exact hN _ _ hp _ _ hs2 ⟨hw2.g, hw2.s⟩
    | some c => exact hS _ c _ hp _ _ hs2 ⟨hw2.g, hw2.s⟩

/-! What a call of yield comes to. -/
def Yld (P : Program) (l : Nat) (args : List Value) (L : List HP) (post : Bool → List HP → Prop) : Prop :=
  ∀ g F w, Hp g (F :: L) w → ∃ fn tmps assign body, (Instr.yield l args.toArray).run P w = .ok (.round l fn tmps assign body) w ∧
    RoundIn Fence.wide 0 P l fn tmps assign body w fun e w' => ∃ b L', e = .returned (.bool b) ∧ post b L' ∧ Hp g (F :: L') w'
theorem Yld.frame {l : Nat} {args : List Value} {L M : List HP} {post : Bool → List HP → Prop} (Fr : List HP) (h : Yld P l args L post) (hL : ∀ h, sat M h → sat (Fr ++ L) h) : Yld P l args M fun b L' => ∃ L1, post b L1 ∧ L' = Fr ++ L1 := by
  intro g F w hw
  have h1 : Hp g ((fun h => sat (F :: Fr) h) :: L) w := hw.mono fun k s => sat.join (N := F :: Fr) (s.cons_mono hL)
  obtain ⟨fn, tmps, assign, body, e, hR⟩ := h g _ w h1
  exact ⟨fn, tmps, assign, body, e, hR.mono fun e w' ⟨b, L1, e1, p, q⟩ => ⟨b, _, e1, ⟨L1, p, rfl⟩, q.mono fun _ s => sat.part (N := F :: Fr) s⟩⟩
theorem Yld.mono {l : Nat} {args : List Value} {L : List HP} {post post' : Bool → List HP → Prop} (h : Yld P l args L post) (f : ∀ b L', post b L' → post' b L') : Yld P l args L post' := fun g F w hw => by
  obtain ⟨fn, tmps, assign, body, e, hR⟩ := h g F w hw
  exact ⟨fn, tmps, assign, body, e, hR.mono fun e w' ⟨b, L1, e1, p, q⟩ => ⟨b, L1, e1, f _ _ p, q⟩⟩
theorem GO_yield {dst : Option Nat} {q : Operand} {xs : List Operand} {ts : Array TypeId} {ty : TypeId} {pos : String} {aft : Array Edge} {ops : Array Oper} {lst : List Oper} {l : Nat} {args : List Value} {post : Bool → List HP → Prop} (hd : dstOk n dst = true)
    (hq : ev σ q = some (.func (.yield l) #[] #[])) (ha : evs σ xs = some args) (hy : Yld P l args L post) (h : ∀ b L', post b L' → GO P B g n ops lst K (putE σ dst (.bool b)) L') :
    GO P B g n ops (⟨dst, .call ⟨.value q, xs.toArray, ts⟩, ty, pos, aft, none⟩ :: lst) K σ L := fun a w hs hw => by
  refine wpListIn_plain rfl fun Kx hK => ⟨fun _ _ => trivial, ?_⟩
  obtain ⟨fid, tmps, assign, body, e1, hR⟩ := hy g _ w hw.true_
  rw [Oper.semAt_eq _ _ _ (fun c e => by cases e)]
  have e : (execOp a.eval ⟨dst, .call ⟨.value q, xs.toArray, ts⟩, ty, pos, aft, none⟩).run P w = .ok (.round l fid tmps assign body) w := by
    simp only [execOp, resolve, hs.e.eval hq, Deferred.ofValue, Sem.run_bind, Sem.run_pure, Result.andThen_ok, invoke, List.map_toArray, evs_map hs.e ha]
    simpa using e1
  rw [e]
  refine ⟨(fun e => by cases e), RoundIn.mono hR fun e w' ⟨b, L', e1, p, q⟩ => ?_⟩
  subst e1
  exact hK _ _ (h b L' p _ _ (hs.put' _ hd) (q.mono fun _ s => s.tail))

/-! A round. -/
def rndB (g : Glob) (F : HP) (l : Nat) (R : LoopState → Option Code → Obj) (post : Bool → List HP → Prop) : Exit → Act → World → Prop
  | .normal, _, w => ∃ L', post true (obj l (R .ready none) :: L') ∧ Hp g (F :: obj l (R .busy none) :: L') w
  | .ret, _, w => ∃ L', post false (obj l (R .done (some .ret)) :: L') ∧ Hp g (F :: obj l (R .busy none) :: L') w
  | .exit id, _, w => ∃ L', post false (obj l (R .done (some (.exit id))) :: L') ∧ Hp g (F :: obj l (R .busy none) :: L') w
  | _, _, _ => False
theorem rndB_noPanic {F : HP} {l : Nat} {R : LoopState → Option Code → Obj} {post : Bool → List HP → Prop} : noPanic (rndB g F l R post) := fun _ _ _ h => h
theorem Yld_of {ι : Type} {τ : ι → Env} {M : ι → List HP} {Fy : ι → Prop} {l d : Nat} {fid : FuncId} {tmps : Array Value} {p : Tmp} {x : Value} {assign body : Code} {τ0 : Env} {post : Bool → List HP → Prop} {R : LoopState → Option Code → Obj} (hR : R = fun st q => .loop ⟨st, q, fid, tmps, #[p], assign, body, d⟩) (hsz : tmps.size = n) (hτ : SatE τ0 ⟨tmps, []⟩) (hp : Nat.blt p n = true)
    (hA : ∀ g F, g.rnd = some l → g.dfs = [] → G P (fun _ _ _ => False) g n [.code assign, .inv (fun a w => ∃ y, Fy y ∧ Sat g n (τ y) a ∧ Hp g (F :: obj l (R .ready none) :: M y) w)] ((p, x) :: τ0) (F :: obj l (R .ready none) :: L))
    (hB : ∀ g F y, Fy y → g.rnd = some l → g.dfs = [] → G P (rndB g F l R post) g n [.code body] (τ y) (F :: obj l (R .busy none) :: M y)) :
    Yld P l [x] (obj l (R .ready none) :: L) post := fun g F w hw => by
  subst hR
  have hw1 := hw.mono fun _ s => s.swap
  have hy := run_yield (P := P) (args := [x].toArray) hw1.obj_heap rfl
  refine ⟨fid, tmps.setIfInBounds p x, assign, body, by simpa using hy, roundIn_of_wpIn trivial ?_⟩
  have hs0 : Sat ⟨g.os, g.tape, g.output, [], some l⟩ n τ0 ⟨tmps, []⟩ := ⟨hsz, rfl, hτ⟩
  have h1 := hA ⟨g.os, g.tape, g.output, [], some l⟩ F rfl rfl _ w (hs0.put x hp) ⟨hw.g, hw.s⟩
  refine Code.wpIn_mono (fun e a1 w1 h => ?_) h1
  cases e with
  | normal =>
    obtain ⟨y, fy, hs1, hw2⟩ := h
    have hw3 := hw2.mono fun _ s => s.swap
    refine ⟨_, run_beginRound hw3.obj_heap rfl, ?_⟩
    have hw4 := (hw3.putO (.loop ⟨.busy, none, fid, tmps, #[p], assign, body, d⟩)).mono fun _ s => s.swap
    have h2 := hB _ F y fy rfl rfl a1 _ hs1 hw4
    refine Code.wpIn_mono (fun e a3 w3 h3 => ?_) h2
    cases e with
    | normal =>
      obtain ⟨L', hp', hw5⟩ := h3
      have hw6 := hw5.mono fun _ s => s.swap
      have hw7 := (hw6.putO (.loop ⟨.ready, none, fid, tmps, #[p], assign, body, d⟩)).mono fun _ s => s.swap
      exact ⟨_, _, run_endRound none hw6.obj_heap, true, _, rfl, hp', ⟨hw7.g, hw7.s⟩⟩
    | ret =>
      obtain ⟨L', hp', hw5⟩ := h3
      have hw6 := hw5.mono fun _ s => s.swap
      have hw7 := (hw6.putO (.loop ⟨.done, some .ret, fid, tmps, #[p], assign, body, d⟩)).mono fun _ s => s.swap
      exact ⟨_, _, run_endRound (some .ret) hw6.obj_heap, false, _, rfl, hp', ⟨hw7.g, hw7.s⟩⟩
    | exit id =>
      obtain ⟨L', hp', hw5⟩ := h3
      have hw6 := hw5.mono fun _ s => s.swap
      have hw7 := (hw6.putO (.loop ⟨.done, some (.exit id), fid, tmps, #[p], assign, body, d⟩)).mono fun _ s => s.swap
      exact ⟨_, _, run_endRound (some (.exit id)) hw6.obj_heap, false, _, rfl, hp', ⟨hw7.g, hw7.s⟩⟩
    | _ => exact h3.elim
  | _ => exact h.elim
/-- What a loop's rounds come to, its record being R. -/
def Rnd (P : Program) (n : Nat) (σ : Env) (l : Nat) (p : Tmp) (assign body : Code) (R : LoopState → Option Code → Obj) : Prop :=
  ∀ {ι : Type} {τ : ι → Env} {M : ι → List HP} {Fy : ι → Prop} {x : Value} {L : List HP} {post : Bool → List HP → Prop},
    (∀ g F, g.rnd = some l → g.dfs = [] → G P (fun _ _ _ => False) g n [.code assign, .inv (fun a w => ∃ y, Fy y ∧ Sat g n (τ y) a ∧ Hp g (F :: obj l (R .ready none) :: M y) w)] ((p, x) :: σ) (F :: obj l (R .ready none) :: L)) →
    (∀ g F y, Fy y → g.rnd = some l → g.dfs = [] → G P (rndB g F l R post) g n [.code body] (τ y) (F :: obj l (R .busy none) :: M y)) →
    Yld P l [x] (obj l (R .ready none) :: L) post
/-- A range with one variable. -/
theorem G_range1 {g0 : Operand} {p : Tmp} {assign body : Code} {f : FuncId} {c1 c2 : List Value} {post : Option Code → List HP → Prop} [H : CalT P f] (hr : g.rnd = none) (hp : Nat.blt p n = true) (hq : ev σ g0 = some (.func (.func f) c1.toArray c2.toArray))
    (hc : ∀ (l d : Nat) (R : LoopState → Option Code → Obj), Rnd P n σ l p assign body R → Ctr P f (c1 ++ [Value.func (.yield l) #[] #[]] ++ c2).toArray (obj l (R .ready none) :: obj d (.deferred (some [])) :: L)
      fun v L' => ∃ st q L1, st ≠ .busy ∧ post q L1 ∧ L' = obj l (R st q) :: obj d (.deferred (some [])) :: L1)
    (hN : ∀ d L1, post none L1 → G P B (g.withD d) n K σ (obj d (.deferred (some [])) :: L1))
    (hS : ∀ d c L1, post (some c) L1 → G P B (g.withD d) n (.code c :: K) σ (obj d (.deferred (some [])) :: L1)) :
    G P B g n (.code (.rangeFunc g0 #[p] assign body) :: K) σ L :=
  G_range hr hq (fun l d fid tmps hsz hσ => hc l d (fun st q => .loop ⟨st, q, fid, tmps, #[p], assign, body, d⟩) fun hA hB => Yld_of rfl hsz hσ hp hA hB) hN hS
/-- The variable has its value; a round's end. -/
theorem G_rndStart {ι : Type} {τ : ι → Env} {M : ι → List HP} {Fy : ι → Prop} {F : HP} {l : Nat} {r : Obj} (y : ι) (hf : Fy y) (hσ : envSub σ (τ y)) (hL : ∀ h, sat L h → sat (F :: obj l r :: M y) h) :
    G P B g n [.inv (fun a w => ∃ y, Fy y ∧ Sat g n (τ y) a ∧ Hp g (F :: obj l r :: M y) w)] σ L := fun _ _ hs hw => ⟨y, hf, hs.sub hσ, hw.mono hL⟩
theorem G_rndEnd {F : HP} {l : Nat} {R : LoopState → Option Code → Obj} {post : Bool → List HP → Prop} (L' : List HP) (hp : post true (obj l (R .ready none) :: L')) (hL : ∀ h, sat L h → sat (F :: obj l (R .busy none) :: L') h) :
    G P (rndB g F l R post) g n [] σ L := fun _ _ _ hw => ⟨L', hp, hw.mono hL⟩
end
end Go.Proofs.YtjnmpogolknkpaaGreat
/- Picking out of numbers, by cmp.Less: the walks. -/
namespace Go.Proofs.YtjnmpogolknkpaaGreat
attribute [local irreducible] sat
set_option linter.unusedVariables false
set_option linter.unusedSimpArgs false
set_option maxRecDepth 100000

theorem clessI_ctr (a b : Int) (L : List HP) : Ctr Tryz.prog 133 #[.int .i64 a, .int .i64 b] L fun v L' => v = .bool (ltI a b) ∧ L' = L := cless_ctr a b L
theorem takeI_snoc {l : List Int} {k : Nat} {x : Int} (h : l[k]? = some x) : l.take (k + 1) = l.take k ++ [x] := by
  rw [List.take_add_one, h]; rfl
theorem lowO_snoc (v x : Int) (l : List Int) : lowO ltI v (l ++ [x]) = lowO ltI v l ++ if ltI x v = true then [x] else [] := by
  unfold lowO; rw [List.filter_append]; congr 1; simp [List.filter_cons]
theorem likeO_snoc (v x : Int) (l : List Int) : likeO v (l ++ [x]) = likeO v l ++ if x = v then [x] else [] := by
  unfold likeO; rw [List.filter_append]; congr 1; simp [List.filter_cons]
theorem highO_snoc (v x : Int) (l : List Int) : highO ltI v (l ++ [x]) = highO ltI v l ++ if ltI v x = true then [x] else [] := by
  unfold highO; rw [List.filter_append]; congr 1; simp [List.filter_cons]
/-- Three slices of a call's own. -/
structure P3 where
  A1 : Option Addr
  c1 : Nat
  A2 : Option Addr
  c2 : Nat
  A3 : Option Addr
  c3 : Nat
structure P3.Ok (s : P3) (n1 n2 n3 : Nat) : Prop where
  h1 : 0 < n1 → ∃ b, s.A1 = some ⟨b, 0, none⟩
  h2 : 0 < n2 → ∃ b, s.A2 = some ⟨b, 0, none⟩
  h3 : 0 < n3 → ∃ b, s.A3 = some ⟨b, 0, none⟩
  k1 : n1 ≤ s.c1
  k2 : n2 ≤ s.c2
  k3 : n3 ≤ s.c3
theorem partsI_ctr (A : Option Addr) (n c : Nat) (l : List Int) (v : Int) (L : List HP) (hl : Rd L A n l) (hn : n ≤ 1000000) :
    Ctr Tryz.prog 163 #[.slice A n c, .int .i64 v, .func (.func 133) #[] #[]] L fun r L' => ∃ s : P3, r = .tuple #[.slice s.A1 (lowO ltI v l).length s.c1, .slice s.A2 (likeO v l).length s.c2, .slice s.A3 (highO ltI v l).length s.c3] ∧ s.Ok (lowO ltI v l).length (likeO v l).length (highO ltI v l).length ∧
      L' = own 3 1 s.A1 (lowO ltI v l).length s.c1 (flat (lowO ltI v l)) :: own 3 1 s.A2 (likeO v l).length s.c2 (flat (likeO v l)) :: own 3 1 s.A3 (highO ltI v l).length s.c3 (flat (highO ltI v l)) :: L := by
  have h1 : l.length = n := hl.len (by decide)
  refine Ctr_of (fn := Tryz.f163) (n := 43) Tryz.func163 rfl rfl rfl ?_
  intro g F
  (repeat first | refine G_seq ?_ | refine G_skip ?_ | refine G_endblk ?_ | refine G_block ?_ | refine G_exit rfl ?_)
  refine G_region ?_
  refine GO_q rfl rfl (ev_assign rfl) ?_
  refine GO_q rfl rfl (ev_assign rfl) ?_
  refine GO_q rfl rfl (ev_assign rfl) ?_
  refine GO_nil ?_
  (repeat first | refine G_seq ?_ | refine G_skip ?_ | refine G_endblk ?_ | refine G_block ?_ | refine G_exit rfl ?_)
  refine G_region ?_
  refine GO_q rfl rfl (ev_move rfl) ?_
  refine GO_q rfl rfl (ev_len rfl) ?_
  refine GO_q rfl rfl (ev_move rfl) ?_
  refine GO_nil ?_
  (repeat first | refine G_seq ?_ | refine G_skip ?_ | refine G_endblk ?_ | refine G_block ?_ | refine G_exit rfl ?_)
  refine G_heap (own.nil_ 3 1) ?_
  refine G_heap (own.nil_ 3 1) ?_
  refine G_heap (own.nil_ 3 1) ?_
  refine G_loop (ι := Nat × P3) (fun z => [(1, .int .i64 v), (2, .func (.func 133) #[] #[]), (6, .slice z.2.A1 (lowO ltI v (l.take z.1)).length z.2.c1), (7, .slice z.2.A2 (likeO v (l.take z.1)).length z.2.c2), (8, .slice z.2.A3 (highO ltI v (l.take z.1)).length z.2.c3), (11, .slice A n c), (12, .int .i64 (n : Nat)), (13, .int .i64 (z.1 : Nat))])
    (fun z => own 3 1 z.2.A1 (lowO ltI v (l.take z.1)).length z.2.c1 (flat (lowO ltI v (l.take z.1))) :: own 3 1 z.2.A2 (likeO v (l.take z.1)).length z.2.c2 (flat (likeO v (l.take z.1))) :: own 3 1 z.2.A3 (highO ltI v (l.take z.1)).length z.2.c3 (flat (highO ltI v (l.take z.1))) :: F :: L)
    (fun z => z.1 ≤ n ∧ z.2.Ok (lowO ltI v (l.take z.1)).length (likeO v (l.take z.1)).length (highO ltI v (l.take z.1)).length) (fun z => n - z.1) (0, ⟨none, 0, none, 0, none, 0⟩) ⟨Nat.zero_le _, ⟨fun h => absurd h (Nat.lt_irrefl 0), fun h => absurd h (Nat.lt_irrefl 0), fun h => absurd h (Nat.lt_irrefl 0), Nat.le_refl _, Nat.le_refl _, Nat.le_refl _⟩⟩ ⟨rfl, rfl, rfl, rfl, rfl, rfl, rfl, rfl, trivial⟩ (by (repeat first | exact fun _ s => s | apply en_keep | apply en_drop | apply en_app) <;> fail) ?_
  rintro ⟨k, s⟩ ⟨f1, f2⟩
  simp only at f1 f2
  dsimp only
  have b1 : (lowO ltI v (l.take k)).length ≤ 1000000 := Nat.le_trans (List.length_filter_le _ _) (by rw [List.length_take]; omega)
  have b2 : (likeO v (l.take k)).length ≤ 1000000 := Nat.le_trans (List.length_filter_le _ _) (by rw [List.length_take]; omega)
  have b3 : (highO ltI v (l.take k)).length ≤ 1000000 := Nat.le_trans (List.length_filter_le _ _) (by rw [List.length_take]; omega)
  (repeat first | refine G_seq ?_ | refine G_skip ?_ | refine G_endblk ?_ | refine G_block ?_ | refine G_exit rfl ?_)
  refine G_region ?_
  (first | refine GO_q rfl rfl (ev_lssN rfl rfl) ?_ | refine GO_q rfl rfl (ev_lss rfl rfl) ?_)
  refine GO_nil ?_
  (repeat first | refine G_seq ?_ | refine G_skip ?_ | refine G_endblk ?_ | refine G_block ?_ | refine G_exit rfl ?_)
  refine G_cond rfl (fun q1 => ?_) (fun q1 => ?_)
  · obtain ⟨ab, ao, rfl, ax⟩ := hl.at_ (by omega)
    have g1 : l[k]? = some l[k] := List.getElem?_eq_getElem (by omega)
    have y1 := (ax _ _ g1).at_ (i := 0) rfl
    have hs := takeI_snoc g1
    generalize l[k] = x at *
    have z1 : Ld L ⟨ab, ao + k * 1, none⟩ (.int .i64 x) := y1
    have t1 := lowO_snoc v x (l.take k)
    have t2 := likeO_snoc v x (l.take k)
    have t3 := highO_snoc v x (l.take k)
    rw [← hs] at t1 t2 t3
    (repeat first | refine G_seq ?_ | refine G_skip ?_ | refine G_endblk ?_ | refine G_block ?_ | refine G_exit rfl ?_)
    refine G_region ?_
    (first | refine GO_q rfl rfl (ev_indexAddrN rfl rfl (by first | omega | (simp; done) | (simp; omega))) ?_ | refine GO_q rfl rfl (ev_indexAddr rfl rfl (by first | omega | (simp; done) | (simp; omega)) (by first | omega | (simp; done) | (simp; omega))) ?_)
    refine GO_q rfl rfl (ev_load rfl (by repeat' first | exact Ld.blk rfl | assumption | apply Ld.skip | apply Ld.app)) ?_
    refine GO_q rfl rfl (ev_assign rfl) ?_
    refine GO_nil ?_
    (repeat first | refine G_seq ?_ | refine G_skip ?_ | refine G_endblk ?_ | refine G_block ?_ | refine G_exit rfl ?_)
    refine G_region ?_
    refine GO_q rfl rfl (ev_move rfl) ?_
    refine GO_q rfl rfl (ev_move rfl) ?_
    refine GO_q rfl rfl (ev_move rfl) ?_
    refine GO_eff rfl rfl (eff_callv rfl rfl (clessI_ctr x v _)) ?_; rintro _ _ ⟨rfl, rfl⟩
    refine GO_q rfl rfl (ev_assign rfl) ?_
    refine GO_nil ?_
    rcases Int.lt_trichotomy x v with q | q | q
    · have e1 : ltI x v = true := by simp [ltI, q]
      have e3 : ltI v x = false := by simp [ltI]; omega
      rw [e1, if_pos rfl] at t1
      rw [if_neg (by omega), List.append_nil] at t2
      rw [e3, if_neg (by simp), List.append_nil] at t3
      (repeat first | refine G_seq ?_ | refine G_skip ?_ | refine G_endblk ?_ | refine G_block ?_ | refine G_exit rfl ?_)
      refine G_cond_t rfl e1 ?_
      (repeat first | refine G_seq ?_ | refine G_skip ?_ | refine G_endblk ?_ | refine G_block ?_ | refine G_exit rfl ?_)
      refine G_region ?_
      refine GO_q rfl rfl (ev_move rfl) ?_
      refine GO_q rfl rfl (ev_move rfl) ?_
      refine GO_eff rfl rfl (eff_buildSlice1 (by rfl) rfl rfl) ?_; rintro _ _ ⟨b28, rfl, rfl⟩
      refine GO_eff rfl rfl (eff_append rfl rfl (by repeat' first | exact Pick.here | apply Pick.skip) (by repeat' first | exact Rc.blk rfl | assumption | apply Rc.skip) (one_all rfl) (by rfl) (by decide) (by first | omega | (simp; done) | (simp; omega)) (by first | omega | (simp; done) | (simp; omega))) ?_; rintro _ _ ⟨A29, c29, rfl, hc29, hm29, hn29, rfl⟩
      refine GO_q rfl rfl (ev_assign rfl) ?_
      refine GO_nil ?_
      (repeat first | refine G_seq ?_ | refine G_skip ?_ | refine G_endblk ?_ | refine G_block ?_ | refine G_exit rfl ?_)
      refine G_region ?_
      (first | refine GO_q rfl rfl (ev_addN (q := 1) rfl rfl (by first | omega | (simp; done) | (simp; omega))) ?_ | refine GO_q rfl rfl (ev_add rfl rfl (by first | omega | (simp; done) | (simp; omega))) ?_)
      refine GO_q rfl rfl (ev_move rfl) ?_
      refine GO_nil ?_
      (repeat first | refine G_seq ?_ | refine G_skip ?_ | refine G_endblk ?_ | refine G_block ?_ | refine G_exit rfl ?_)
      exact G_round (k + 1, { s with A1 := A29, c1 := c29 }) ⟨by simp only; omega, by
        simp only
        rw [t1, t2, t3, List.length_append]
        exact ⟨fun _ => hn29 (by omega), f2.h2, f2.h3, hc29, f2.k2, f2.k3⟩⟩ (by simp only; omega) ⟨rfl, rfl, by simp only; rw [t1, List.length_append]; rfl, by simp only; rw [t2]; rfl, by simp only; rw [t3]; rfl, rfl, rfl, rfl, trivial⟩ (by
        simp only
        rw [t1, t2, t3, List.length_append, ← flat_snoc]
        exact (by (repeat first | exact en_refl | (apply en_blk; focus ((repeat' first | exact Pick.here | apply Pick.skip | apply Pick.app); done); focus rfl) | (apply en_own; focus ((repeat' first | exact Pick.here | apply Pick.skip | apply Pick.app); done); focus rfl) | (apply en_pick; focus ((repeat' first | exact Pick.here | apply Pick.skip | apply Pick.app); done)) | apply en_drop | apply en_app) <;> fail))
    · subst q
      have e1 : ltI x x = false := by simp [ltI]
      rw [e1, if_neg (by simp), List.append_nil] at t1
      rw [if_pos rfl] at t2
      rw [e1, if_neg (by simp), List.append_nil] at t3
      (repeat first | refine G_seq ?_ | refine G_skip ?_ | refine G_endblk ?_ | refine G_block ?_ | refine G_exit rfl ?_)
      refine G_cond_f rfl e1 ?_
      (repeat first | refine G_seq ?_ | refine G_skip ?_ | refine G_endblk ?_ | refine G_block ?_ | refine G_exit rfl ?_)
      refine G_region ?_
      refine GO_q rfl rfl (ev_move rfl) ?_
      refine GO_q rfl rfl (ev_move rfl) ?_
      refine GO_q rfl rfl (ev_move rfl) ?_
      refine GO_eff rfl rfl (eff_callv rfl rfl (clessI_ctr x x _)) ?_; rintro _ _ ⟨rfl, rfl⟩
      refine GO_q rfl rfl (ev_assign rfl) ?_
      refine GO_nil ?_
      (repeat first | refine G_seq ?_ | refine G_skip ?_ | refine G_endblk ?_ | refine G_block ?_ | refine G_exit rfl ?_)
      refine G_cond_f rfl e1 ?_
      (repeat first | refine G_seq ?_ | refine G_skip ?_ | refine G_endblk ?_ | refine G_block ?_ | refine G_exit rfl ?_)
      refine G_region ?_
      refine GO_q rfl rfl (ev_move rfl) ?_
      refine GO_q rfl rfl (ev_move rfl) ?_
      refine GO_eff rfl rfl (eff_buildSlice1 (by rfl) rfl rfl) ?_; rintro _ _ ⟨b19, rfl, rfl⟩
      refine GO_eff rfl rfl (eff_append rfl rfl (by repeat' first | exact Pick.here | apply Pick.skip) (by repeat' first | exact Rc.blk rfl | assumption | apply Rc.skip) (one_all rfl) (by rfl) (by decide) (by first | omega | (simp; done) | (simp; omega)) (by first | omega | (simp; done) | (simp; omega))) ?_; rintro _ _ ⟨A20, c20, rfl, hc20, hm20, hn20, rfl⟩
      refine GO_q rfl rfl (ev_assign rfl) ?_
      refine GO_nil ?_
      (repeat first | refine G_seq ?_ | refine G_skip ?_ | refine G_endblk ?_ | refine G_block ?_ | refine G_exit rfl ?_)
      refine G_region ?_
      (first | refine GO_q rfl rfl (ev_addN (q := 1) rfl rfl (by first | omega | (simp; done) | (simp; omega))) ?_ | refine GO_q rfl rfl (ev_add rfl rfl (by first | omega | (simp; done) | (simp; omega))) ?_)
      refine GO_q rfl rfl (ev_move rfl) ?_
      refine GO_nil ?_
      (repeat first | refine G_seq ?_ | refine G_skip ?_ | refine G_endblk ?_ | refine G_block ?_ | refine G_exit rfl ?_)
      exact G_round (k + 1, { s with A2 := A20, c2 := c20 }) ⟨by simp only; omega, by
        simp only
        rw [t1, t2, t3, List.length_append]
        exact ⟨f2.h1, fun _ => hn20 (by omega), f2.h3, f2.k1, hc20, f2.k3⟩⟩ (by simp only; omega) ⟨rfl, rfl, by simp only; rw [t1]; rfl, by simp only; rw [t2, List.length_append]; rfl, by simp only; rw [t3]; rfl, rfl, rfl, rfl, trivial⟩ (by
        simp only
        rw [t1, t2, t3, List.length_append, ← flat_snoc]
        exact (by (repeat first | exact en_refl | (apply en_blk; focus ((repeat' first | exact Pick.here | apply Pick.skip | apply Pick.app); done); focus rfl) | (apply en_own; focus ((repeat' first | exact Pick.here | apply Pick.skip | apply Pick.app); done); focus rfl) | (apply en_pick; focus ((repeat' first | exact Pick.here | apply Pick.skip | apply Pick.app); done)) | apply en_drop | apply en_app) <;> fail))
    · have e1 : ltI x v = false := by simp [ltI]; omega
      have e3 : ltI v x = true := by simp [ltI]; omega
      rw [e1, if_neg (by simp), List.append_nil] at t1
      rw [if_neg (by omega), List.append_nil] at t2
      rw [e3, if_pos rfl] at t3
      (repeat first | refine G_seq ?_ | refine G_skip ?_ | refine G_endblk ?_ | refine G_block ?_ | refine G_exit rfl ?_)
      refine G_cond_f rfl e1 ?_
      (repeat first | refine G_seq ?_ | refine G_skip ?_ | refine G_endblk ?_ | refine G_block ?_ | refine G_exit rfl ?_)
      refine G_region ?_
      refine GO_q rfl rfl (ev_move rfl) ?_
      refine GO_q rfl rfl (ev_move rfl) ?_
      refine GO_q rfl rfl (ev_move rfl) ?_
      refine GO_eff rfl rfl (eff_callv rfl rfl (clessI_ctr v x _)) ?_; rintro _ _ ⟨rfl, rfl⟩
      refine GO_q rfl rfl (ev_assign rfl) ?_
      refine GO_nil ?_
      (repeat first | refine G_seq ?_ | refine G_skip ?_ | refine G_endblk ?_ | refine G_block ?_ | refine G_exit rfl ?_)
      refine G_cond_t rfl e3 ?_
      (repeat first | refine G_seq ?_ | refine G_skip ?_ | refine G_endblk ?_ | refine G_block ?_ | refine G_exit rfl ?_)
      refine G_region ?_
      refine GO_q rfl rfl (ev_move rfl) ?_
      refine GO_q rfl rfl (ev_move rfl) ?_
      refine GO_eff rfl rfl (eff_buildSlice1 (by rfl) rfl rfl) ?_; rintro _ _ ⟨b37, rfl, rfl⟩
      refine GO_eff rfl rfl (eff_append rfl rfl (by repeat' first | exact Pick.here | apply Pick.skip) (by repeat' first | exact Rc.blk rfl | assumption | apply Rc.skip) (one_all rfl) (by rfl) (by decide) (by first | omega | (simp; done) | (simp; omega)) (by first | omega | (simp; done) | (simp; omega))) ?_; rintro _ _ ⟨A38, c38, rfl, hc38, hm38, hn38, rfl⟩
      refine GO_q rfl rfl (ev_assign rfl) ?_
      refine GO_nil ?_
      (repeat first | refine G_seq ?_ | refine G_skip ?_ | refine G_endblk ?_ | refine G_block ?_ | refine G_exit rfl ?_)
      refine G_region ?_
      (first | refine GO_q rfl rfl (ev_addN (q := 1) rfl rfl (by first | omega | (simp; done) | (simp; omega))) ?_ | refine GO_q rfl rfl (ev_add rfl rfl (by first | omega | (simp; done) | (simp; omega))) ?_)
      refine GO_q rfl rfl (ev_move rfl) ?_
      refine GO_nil ?_
      (repeat first | refine G_seq ?_ | refine G_skip ?_ | refine G_endblk ?_ | refine G_block ?_ | refine G_exit rfl ?_)
      exact G_round (k + 1, { s with A3 := A38, c3 := c38 }) ⟨by simp only; omega, by
        simp only
        rw [t1, t2, t3, List.length_append]
        exact ⟨f2.h1, f2.h2, fun _ => hn38 (by omega), f2.k1, f2.k2, hc38⟩⟩ (by simp only; omega) ⟨rfl, rfl, by simp only; rw [t1]; rfl, by simp only; rw [t2]; rfl, by simp only; rw [t3, List.length_append]; rfl, rfl, rfl, rfl, trivial⟩ (by
        simp only
        rw [t1, t2, t3, List.length_append, ← flat_snoc]
        exact (by (repeat first | exact en_refl | (apply en_blk; focus ((repeat' first | exact Pick.here | apply Pick.skip | apply Pick.app); done); focus rfl) | (apply en_own; focus ((repeat' first | exact Pick.here | apply Pick.skip | apply Pick.app); done); focus rfl) | (apply en_pick; focus ((repeat' first | exact Pick.here | apply Pick.skip | apply Pick.app); done)) | apply en_drop | apply en_app) <;> fail))
  · have e : l.take k = l := List.take_of_length_le (by omega)
    rw [e] at f2 ⊢
    (repeat first | refine G_seq ?_ | refine G_skip ?_ | refine G_endblk ?_ | refine G_block ?_ | refine G_exit rfl ?_)
    refine G_region ?_
    refine GO_q rfl rfl (ev_move rfl) ?_
    refine GO_q rfl rfl (ev_move rfl) ?_
    refine GO_q rfl rfl (ev_move rfl) ?_
    refine GO_q rfl rfl (ev_assign rfl) ?_
    refine GO_q rfl rfl (ev_assign rfl) ?_
    refine GO_q rfl rfl (ev_assign rfl) ?_
    refine GO_nil ?_
    (repeat first | refine G_seq ?_ | refine G_skip ?_ | refine G_endblk ?_ | refine G_block ?_ | refine G_exit rfl ?_)
    exact G_ret (L' := own 3 1 s.A1 (lowO ltI v l).length s.c1 (flat (lowO ltI v l)) :: own 3 1 s.A2 (likeO v l).length s.c2 (flat (likeO v l)) :: own 3 1 s.A3 (highO ltI v l).length s.c3 (flat (highO ltI v l)) :: L) rfl (.tmp rfl (.tmp rfl (.tmp rfl .nil))) (by (repeat first | exact en_refl | (apply en_blk; focus ((repeat' first | exact Pick.here | apply Pick.skip | apply Pick.app); done); focus rfl) | (apply en_own; focus ((repeat' first | exact Pick.here | apply Pick.skip | apply Pick.app); done); focus rfl) | (apply en_pick; focus ((repeat' first | exact Pick.here | apply Pick.skip | apply Pick.app); done)) | apply en_drop | apply en_app) <;> fail) ⟨s, rfl, f2, rfl⟩
/-- slices.Chunk -/
theorem Chunk_ctr (A : Option Addr) (n c : Nat) (L : List HP) : Ctr Tryz.prog 167 #[.slice A n c, .int .i64 5] L fun v L' => ∃ b2 b3, v = .func (.func 169) #[] #[.pointer (some ⟨b2, 0, none⟩), .pointer (some ⟨b3, 0, none⟩)] ∧ L' = blk b2 33 [.slice A n c] :: blk b3 3 [.int .i64 5] :: L := by
  refine Ctr_of (fn := Tryz.f167) (n := 9) Tryz.func167 rfl rfl rfl ?_
  intro g F
  (repeat first | refine G_seq ?_ | refine G_skip ?_ | refine G_endblk ?_ | refine G_block ?_ | refine G_exit rfl ?_)
  refine G_region ?_
  refine GO_eff rfl rfl (eff_box rfl) ?_; rintro _ _ ⟨b2, rfl, rfl⟩
  refine GO_eff rfl rfl (eff_box rfl) ?_; rintro _ _ ⟨b3, rfl, rfl⟩
  refine GO_q rfl rfl (ev_assign rfl) ?_
  refine GO_nil ?_
  (repeat first | refine G_seq ?_ | refine G_skip ?_ | refine G_endblk ?_ | refine G_block ?_ | refine G_exit rfl ?_)
  refine G_region ?_
  refine GO_q rfl rfl (ev_load rfl (by repeat' first | exact Ld.blk rfl | assumption | apply Ld.skip | apply Ld.app)) ?_
  (first | refine GO_q rfl rfl (ev_lssN (q := 1) rfl rfl) ?_ | refine GO_q rfl rfl (ev_lss rfl rfl) ?_)
  refine GO_nil ?_
  (repeat first | refine G_seq ?_ | refine G_skip ?_ | refine G_endblk ?_ | refine G_block ?_ | refine G_exit rfl ?_)
  refine G_cond_f rfl rfl ?_
  (repeat first | refine G_seq ?_ | refine G_skip ?_ | refine G_endblk ?_ | refine G_block ?_ | refine G_exit rfl ?_)
  refine G_region ?_
  refine GO_q rfl rfl (ev_makeFunc rfl rfl) ?_
  refine GO_q rfl rfl (ev_assign rfl) ?_
  refine GO_nil ?_
  (repeat first | refine G_seq ?_ | refine G_skip ?_ | refine G_endblk ?_ | refine G_block ?_ | refine G_exit rfl ?_)
  exact G_ret (L' := blk b2 33 [.slice A n c] :: blk b3 3 [.int .i64 5] :: L) rfl (.tmp rfl .nil) (by (repeat first | exact en_refl | (apply en_blk; focus ((repeat' first | exact Pick.here | apply Pick.skip | apply Pick.app); done); focus rfl) | (apply en_own; focus ((repeat' first | exact Pick.here | apply Pick.skip | apply Pick.app); done); focus rfl) | (apply en_pick; focus ((repeat' first | exact Pick.here | apply Pick.skip | apply Pick.app); done)) | apply en_drop | apply en_app) <;> fail) ⟨b2, b3, rfl, rfl⟩
theorem chunks_ctr {S : Type} (y b2 b3 b o n c : Nat) (xs : List Int) (L : Nat → S → List HP) (Inv : Nat → S → Prop) (hRd : ∀ k s, Inv k s → Rd (L k s) (some ⟨b, o, none⟩) n xs) (hn : n ≤ 1000000) (hc : n ≤ c)
    (hy : ∀ k s, 5 * k < n → Inv k s → Yld Tryz.prog y [.slice (some ⟨b, o + 5 * k, none⟩) (min 5 (n - 5 * k)) (min 5 (n - 5 * k))] (L k s) fun q L' => q = true ∧ ∃ s', Inv (k + 1) s' ∧ L' = L (k + 1) s') (s0 : S) (h0 : Inv 0 s0) :
    Ctr Tryz.prog 169 #[Value.func (.yield y) #[] #[], .pointer (some ⟨b2, 0, none⟩), .pointer (some ⟨b3, 0, none⟩)] (blk b2 33 [.slice (some ⟨b, o, none⟩) n c] :: blk b3 3 [.int .i64 5] :: L 0 s0) fun v L' => v = .tuple #[] ∧ ∃ k s', n ≤ 5 * k ∧ 5 * k < n + 5 ∧ Inv k s' ∧ L' = blk b2 33 [.slice (some ⟨b, o, none⟩) n c] :: blk b3 3 [.int .i64 5] :: L k s' := by
  refine Ctr_of (fn := Tryz.f169) (n := 31) Tryz.func169 rfl rfl rfl ?_
  intro g F
  (repeat first | refine G_seq ?_ | refine G_skip ?_ | refine G_endblk ?_ | refine G_block ?_ | refine G_exit rfl ?_)
  refine G_region ?_
  refine GO_q rfl rfl (ev_assign rfl) ?_
  refine GO_nil ?_
  (repeat first | refine G_seq ?_ | refine G_skip ?_ | refine G_endblk ?_ | refine G_block ?_ | refine G_exit rfl ?_)
  refine G_loop (ι := Nat × S) (fun z => [(0, Value.func (.yield y) #[] #[]), (1, .pointer (some ⟨b2, 0, none⟩)), (2, .pointer (some ⟨b3, 0, none⟩)), (4, .int .i64 ((5 * z.1 : Nat) : Int))]) (fun z => F :: blk b2 33 [.slice (some ⟨b, o, none⟩) n c] :: blk b3 3 [.int .i64 5] :: L z.1 z.2) (fun z => 5 * z.1 < n + 5 ∧ Inv z.1 z.2) (fun z => n + 5 - 5 * z.1) (0, s0) ⟨by simp only; omega, h0⟩ ⟨rfl, rfl, rfl, rfl, trivial⟩ (by (repeat first | exact fun _ s => s | apply en_keep | apply en_drop | apply en_app) <;> fail) ?_
  rintro ⟨k, s⟩ ⟨f1, f2⟩
  simp only at f1 f2
  dsimp only
  (repeat first | refine G_seq ?_ | refine G_skip ?_ | refine G_endblk ?_ | refine G_block ?_ | refine G_exit rfl ?_)
  refine G_region ?_
  refine GO_q rfl rfl (ev_move rfl) ?_
  refine GO_q rfl rfl (ev_load rfl (by repeat' first | exact Ld.blk rfl | assumption | apply Ld.skip | apply Ld.app)) ?_
  refine GO_q rfl rfl (ev_len rfl) ?_
  (first | refine GO_q rfl rfl (ev_lssN rfl rfl) ?_ | refine GO_q rfl rfl (ev_lss rfl rfl) ?_)
  refine GO_nil ?_
  (repeat first | refine G_seq ?_ | refine G_skip ?_ | refine G_endblk ?_ | refine G_block ?_ | refine G_exit rfl ?_)
  refine G_cond rfl (fun q1 => ?_) (fun q1 => ?_)
  · have hyk := hy k s (by omega) f2
    obtain ⟨i, hi⟩ : ∃ i, i = 5 * k := ⟨_, rfl⟩
    obtain ⟨m, hm⟩ : ∃ m, m = min 5 (n - i) := ⟨_, rfl⟩
    have hme : (min (5 : Int) ((n - i : Nat) : Int)) = (m : Int) := by omega
    rw [← hi] at hyk q1 f1 ⊢
    rw [← hm] at hyk
    (repeat first | refine G_seq ?_ | refine G_skip ?_ | refine G_endblk ?_ | refine G_block ?_ | refine G_exit rfl ?_)
    refine G_draw (.q 0 (.q 1 (.q 2 (.q 3 (.q 4 (.q 5 (.q 6 .nil))))))) (by kernel_rfl) (by kernel_rfl) ?_
    refine RS_q retB_noPanic rfl rfl rfl rfl (ev_load rfl (by repeat' first | exact Ld.blk rfl | assumption | apply Ld.skip | apply Ld.app)) ?_
    refine RS_q retB_noPanic rfl rfl rfl rfl (ev_load rfl (by repeat' first | exact Ld.blk rfl | assumption | apply Ld.skip | apply Ld.app)) ?_
    refine RS_m retB_noPanic rfl rfl rfl rfl (ev_move rfl) ?_
    refine RS_q retB_noPanic rfl rfl rfl rfl (ev_sliceL rfl rfl (by omega) (by omega)) ?_
    refine RS_q retB_noPanic rfl rfl rfl rfl (ev_len rfl) ?_
    refine RS_q retB_noPanic rfl rfl rfl rfl (ev_min rfl rfl) ?_
    refine RS_m retB_noPanic rfl rfl rfl rfl (ev_assign rfl) ?_
    refine RS_nil ?_
    rw [hme]
    (repeat first | refine G_seq ?_ | refine G_skip ?_ | refine G_endblk ?_ | refine G_block ?_ | refine G_exit rfl ?_)
    refine G_region ?_
    refine GO_q rfl rfl (ev_move rfl) ?_
    refine GO_q rfl rfl (ev_load rfl (by repeat' first | exact Ld.blk rfl | assumption | apply Ld.skip | apply Ld.app)) ?_
    refine GO_q rfl rfl (ev_move rfl) ?_
    refine GO_q rfl rfl (ev_move rfl) ?_
    refine GO_q rfl rfl (ev_move rfl) ?_
    (first | refine GO_q rfl rfl (ev_addN rfl rfl (by first | omega | (simp; done) | (simp; omega))) ?_ | refine GO_q rfl rfl (ev_add rfl rfl (by first | omega | (simp; done) | (simp; omega))) ?_)
    refine GO_q rfl rfl (ev_move rfl) ?_
    refine GO_q rfl rfl (ev_move rfl) ?_
    (first | refine GO_q rfl rfl (ev_addN rfl rfl (by first | omega | (simp; done) | (simp; omega))) ?_ | refine GO_q rfl rfl (ev_add rfl rfl (by first | omega | (simp; done) | (simp; omega))) ?_)
    refine GO_q rfl rfl (ev_slice3 (l := i) (h := i + m) (m := i + m) rfl rfl rfl rfl (by omega) (by omega) (by omega)) ?_
    rw [show i + m - i = m by omega, if_neg (show ¬ i + m = i by omega), Nat.mul_one]
    refine GO_yield rfl rfl rfl (Yld.frame [F, blk b2 33 [.slice (some ⟨b, o, none⟩) n c], blk b3 3 [.int .i64 5]] hyk (fun _ s => s)) ?_
    rintro q L' ⟨L1, ⟨rfl, s', hs', rfl⟩, rfl⟩
    refine GO_q rfl rfl (ev_not rfl) ?_
    refine GO_nil ?_
    (repeat first | refine G_seq ?_ | refine G_skip ?_ | refine G_endblk ?_ | refine G_block ?_ | refine G_exit rfl ?_)
    refine G_cond_f rfl rfl ?_
    (repeat first | refine G_seq ?_ | refine G_skip ?_ | refine G_endblk ?_ | refine G_block ?_ | refine G_exit rfl ?_)
    refine G_region ?_
    refine GO_q rfl rfl (ev_move rfl) ?_
    refine GO_q rfl rfl (ev_load rfl (by repeat' first | exact Ld.blk rfl | assumption | apply Ld.skip | apply Ld.app)) ?_
    (first | refine GO_q rfl rfl (ev_addN rfl rfl (by first | omega | (simp; done) | (simp; omega))) ?_ | refine GO_q rfl rfl (ev_add rfl rfl (by first | omega | (simp; done) | (simp; omega))) ?_)
    refine GO_q rfl rfl (ev_assign rfl) ?_
    refine GO_nil ?_
    (repeat first | refine G_seq ?_ | refine G_skip ?_ | refine G_endblk ?_ | refine G_block ?_ | refine G_exit rfl ?_)
    exact G_round (k + 1, s') ⟨by simp only; omega, hs'⟩ (by simp only; omega) ⟨rfl, rfl, rfl, by rw [hi]; rfl, trivial⟩ (by (repeat first | exact fun _ s => s | apply en_keep | apply en_drop | apply en_app) <;> fail)
  · (repeat first | refine G_seq ?_ | refine G_skip ?_ | refine G_endblk ?_ | refine G_block ?_ | refine G_exit rfl ?_)
    exact G_end (rs := []) (vs := []) (L' := blk b2 33 [.slice (some ⟨b, o, none⟩) n c] :: blk b3 3 [.int .i64 5] :: L k s) rfl .nil (by (repeat first | exact fun _ s => s | apply en_keep | apply en_drop | apply en_app) <;> fail) ⟨rfl, k, s, by omega, f1, f2, rfl⟩
end Go.Proofs.YtjnmpogolknkpaaGreat
/- Picking out of numbers, by cmp.Less: middles, nth, Median. -/
namespace Go.Proofs.YtjnmpogolknkpaaGreat
attribute [local irreducible] sat
set_option linter.unusedVariables false
set_option linter.unusedSimpArgs false
set_option maxRecDepth 100000

theorem SortOI_ctr (A : Option Addr) (n c : Nat) (l : List Int) (L : List HP) (hl : Rd L A n l) (hn : n ≤ 1000000) (hc : n ≤ c) :
    Ctr Tryz.prog 166 #[.slice A n c, .func (.func 133) #[] #[]] L fun v L' => Made 3 (srtO ltI l) L v L' := by
  rw [srtO_ltI]; exact SortI_ctr A n c l L hl hn hc
theorem middlesI_ctr (A : Option Addr) (n c : Nat) (l : List Int) (L : List HP) (hl : Rd L A n l) (h0 : 0 < n) (hn : n ≤ 1000000) (hc : n ≤ c) :
    Ctr Tryz.prog 165 #[.slice A n c, .func (.func 133) #[] #[]] L fun r L' => ∃ ms : List Int, ((∀ x ∈ ms, x ∈ l) ∧ 5 * ms.length < n + 5 ∧ n ≤ 5 * ms.length) ∧ MadeC 3 ms L r L' := by
  have h1 : l.length = n := hl.len (by decide)
  obtain ⟨b, o, rfl, _⟩ := hl.at_ h0
  refine Ctr_ofM (fn := Tryz.f165) (n := 24) Tryz.func165 rfl rfl rfl ?_
  intro g F hgb
  (repeat first | refine G_seq ?_ | refine G_skip ?_ | refine G_endblk ?_ | refine G_block ?_ | refine G_exit rfl ?_)
  refine G_region ?_
  refine GO_eff rfl rfl (eff_box rfl) ?_; rintro _ _ ⟨b3, rfl, rfl⟩
  refine GO_q rfl rfl (ev_assign rfl) ?_
  refine GO_nil ?_
  (repeat first | refine G_seq ?_ | refine G_skip ?_ | refine G_endblk ?_ | refine G_block ?_ | refine G_exit rfl ?_)
  refine G_region ?_
  refine GO_eff rfl rfl eff_alloc ?_; rintro _ _ ⟨b5, rfl, rfl⟩
  refine GO_nil ?_
  (repeat first | refine G_seq ?_ | refine G_skip ?_ | refine G_endblk ?_ | refine G_block ?_ | refine G_exit rfl ?_)
  refine G_region ?_
  refine GO_q rfl rfl (ev_move rfl) ?_
  refine GO_eff rfl rfl (eff_call rfl (Chunk_ctr (some ⟨b, o, none⟩) n c _)) ?_; rintro _ _ ⟨b8, b9, rfl, rfl⟩
  refine GO_nil ?_
  (repeat first | refine G_seq ?_ | refine G_skip ?_ | refine G_endblk ?_ | refine G_block ?_ | refine G_exit rfl ?_)
  refine G_heap (own.nil_ 3 1) ?_
  refine G_range1 (f := 169) (c1 := []) (c2 := [.pointer (some ⟨b8, 0, none⟩), .pointer (some ⟨b9, 0, none⟩)]) (post := fun p L1 => p = none ∧ ∃ s : Option Addr × Nat × List Int, ((∀ x ∈ s.2.2, x ∈ l) ∧ 5 * s.2.2.length < n + 5 ∧ n ≤ 5 * s.2.2.length) ∧ ((0 < s.2.2.length → ∃ b, s.1 = some ⟨b, 0, none⟩) ∧ s.2.2.length ≤ s.2.1 ∧ s.2.1 ≤ maxLen) ∧ L1 = own 3 1 s.1 s.2.2.length s.2.1 (flat s.2.2) :: blk b5 33 [.slice s.1 s.2.2.length s.2.1] :: F :: L) (by rw [← hgb]; rfl) rfl rfl ?_ ?_ ?_
  · intro y d R hR
    have hv := chunks_ctr (S := Option Addr × Nat × List Int) y b8 b9 b o n c l
      (fun k s => obj y (R .ready none) :: obj d (.deferred (some [])) :: own 3 1 s.1 s.2.2.length s.2.1 (flat s.2.2) :: blk b5 33 [.slice s.1 s.2.2.length s.2.1] :: blk b3 69 [.func (.func 133) #[] #[]] :: F :: L)
      (fun k s => s.2.2.length = k ∧ (∀ x ∈ s.2.2, x ∈ l) ∧ (0 < s.2.2.length → ∃ b, s.1 = some ⟨b, 0, none⟩) ∧ s.2.2.length ≤ s.2.1 ∧ s.2.1 ≤ maxLen)
      (fun k s _ => hl.skip.skip.skip.skip.skip.skip) hn hc ?_ (none, 0, []) ⟨rfl, by simp, fun h => absurd h (Nat.lt_irrefl 0), Nat.le_refl _, Nat.zero_le _⟩
    · refine (Ctr.pre (by (repeat first | exact en_refl | (apply en_blk; focus ((repeat' first | exact Pick.here | apply Pick.skip | apply Pick.app); done); focus rfl) | (apply en_own; focus ((repeat' first | exact Pick.here | apply Pick.skip | apply Pick.app); done); focus rfl) | (apply en_pick; focus ((repeat' first | exact Pick.here | apply Pick.skip | apply Pick.app); done)) | apply en_drop | apply en_app) <;> fail) hv).post' ?_
      rintro v L' hm ⟨rfl, k, s, k1, k2, ⟨hs1, hs2, hs3⟩, rfl⟩ hsat
      refine ⟨_, ⟨.ready, none, _, (by decide), ⟨rfl, s, ⟨hs2, by omega, by omega⟩, hs3, rfl⟩, rfl⟩, ?_⟩
      revert hm
      exact (by (repeat first | exact en_refl | (apply en_blk; focus ((repeat' first | exact Pick.here | apply Pick.skip | apply Pick.app); done); focus rfl) | (apply en_own; focus ((repeat' first | exact Pick.here | apply Pick.skip | apply Pick.app); done); focus rfl) | (apply en_pick; focus ((repeat' first | exact Pick.here | apply Pick.skip | apply Pick.app); done)) | apply en_drop | apply en_app) <;> fail)
    · rintro k ⟨B, e, ms⟩ hk ⟨i1, i2, i3, i4, i5⟩
      simp only at i1 i2 i3 i4 i5
      dsimp only
      obtain ⟨i, hi⟩ : ∃ i, i = 5 * k := ⟨_, rfl⟩
      obtain ⟨m, hm⟩ : ∃ m, m = min 5 (n - i) := ⟨_, rfl⟩
      rw [← hi] at hk ⊢
      rw [← hm]
      have hd0 := hl.drop (k := i) (c := c) (by omega) hc
      rw [if_neg (by omega)] at hd0
      have hg : Rd L (some ⟨b, o + i, none⟩) m ((l.drop i).take m) := by
        have h9 : Rd L (some ⟨b, o + i * 1, none⟩) m ((l.drop i).take m) := hd0.take (k := m) (by omega)
        rwa [Nat.mul_one] at h9
      have hgl : ((l.drop i).take m).length = m := hg.len (by decide)
      have hgm : ∀ x ∈ (l.drop i).take m, x ∈ l := fun x hx => List.mem_of_mem_drop (List.mem_of_mem_take hx)
      generalize (l.drop i).take m = gs at *
      refine hR (ι := Unit) (τ := fun _ => [(3, .pointer (some ⟨b3, 0, none⟩)), (5, .pointer (some ⟨b5, 0, none⟩)), (6, .slice (some ⟨b, o + i, none⟩) m m)]) (M := fun _ => obj d (.deferred (some [])) :: own 3 1 B ms.length e (flat ms) :: blk b5 33 [.slice B ms.length e] :: blk b3 69 [.func (.func 133) #[] #[]] :: F :: L) (Fy := fun _ => True) ?_ ?_
      · intro g F' _ _
        (repeat first | refine G_seq ?_ | refine G_skip ?_ | refine G_endblk ?_ | refine G_block ?_ | refine G_exit rfl ?_)
        refine G_region ?_
        refine GO_q rfl rfl (ev_assign rfl) ?_
        refine GO_nil ?_
        exact G_rndStart () trivial ⟨rfl, rfl, rfl, trivial⟩ (by (repeat first | exact fun _ s => s | apply en_keep | apply en_drop | apply en_app) <;> fail)
      · intro g F' _ _ _ _
        have hsl : (srtO ltI gs).length = m := by rw [srtO_length, hgl]
        have hx : (srtO ltI gs)[m / 2]? = some (srtO ltI gs)[m / 2] := List.getElem?_eq_getElem (by omega)
        have hxm : (srtO ltI gs)[m / 2] ∈ l := hgm _ ((srtO_perm gs).subset (List.getElem_mem _))
        generalize (srtO ltI gs)[m / 2] = x at *
        (repeat first | refine G_seq ?_ | refine G_skip ?_ | refine G_endblk ?_ | refine G_block ?_ | refine G_exit rfl ?_)
        (repeat first | refine G_seq ?_ | refine G_skip ?_ | refine G_endblk ?_ | refine G_block ?_ | refine G_exit rfl ?_)
        refine G_region ?_
        refine GO_q rfl rfl (ev_move rfl) ?_
        refine GO_q rfl rfl (ev_load rfl (by repeat' first | exact Ld.blk rfl | assumption | apply Ld.skip | apply Ld.app)) ?_
        refine GO_eff rfl rfl (eff_call rfl ((SortOI_ctr (some ⟨b, o + i, none⟩) m m gs _ (by repeat' first | exact Rc.blk rfl | assumption | apply Rd.skip | apply Rd.app) (by omega) (Nat.le_refl _)))) ?_; rintro _ _ ⟨C, c2, rfl, hC, rfl⟩
        refine GO_q rfl rfl (ev_assign rfl) ?_
        refine GO_nil ?_
        rw [hsl] at hC ⊢
        obtain ⟨cb, rfl⟩ := hC (by omega)
        have hld : ∀ L', Ld (own 3 1 (some ⟨cb, 0, none⟩) m c2 (flat (srtO ltI gs)) :: L') ⟨cb, 0 + (m / 2) * 1, none⟩ (.int .i64 x) := fun L' => ld_ownI hsl hx L'
        generalize srtO ltI gs = ss at *
        (repeat first | refine G_seq ?_ | refine G_skip ?_ | refine G_endblk ?_ | refine G_block ?_ | refine G_exit rfl ?_)
        refine G_draw (.q 0 (.q 1 (.q 2 (.q 3 (.q 4 (.q 5 (.q 6 (.e 7 (.e 8 (.e 9 .nil)))))))))) (by kernel_rfl) (by kernel_rfl) ?_
        refine RS_q rndB_noPanic rfl rfl rfl rfl (ev_load rfl (by repeat' first | exact Ld.blk rfl | assumption | apply Ld.skip | apply Ld.app)) ?_
        refine RS_m rndB_noPanic rfl rfl rfl rfl (ev_move rfl) ?_
        refine RS_m rndB_noPanic rfl rfl rfl rfl (ev_move rfl) ?_
        refine RS_q rndB_noPanic rfl rfl rfl rfl (ev_len rfl) ?_
        (first | refine RS_m rndB_noPanic rfl rfl rfl rfl (ev_quoN (q := 2) rfl rfl (by first | omega | (simp; done) | (simp; omega)) (by first | omega | (simp; done) | (simp; omega))) ?_ | refine RS_m rndB_noPanic rfl rfl rfl rfl (ev_quo rfl rfl (by first | omega | (simp; done) | (simp; omega)) (by first | omega | (simp; done) | (simp; omega)) (by first | omega | (simp; done) | (simp; omega))) ?_)
        (first | refine RS_m rndB_noPanic rfl rfl rfl rfl (ev_indexAddrN rfl rfl (by first | omega | (simp; done) | (simp; omega))) ?_ | refine RS_m rndB_noPanic rfl rfl rfl rfl (ev_indexAddr rfl rfl (by first | omega | (simp; done) | (simp; omega)) (by first | omega | (simp; done) | (simp; omega))) ?_)
        refine RS_q rndB_noPanic rfl rfl rfl rfl (ev_load rfl (by repeat' first | exact hld _ | apply Ld.skip)) ?_
        refine RS_e (RE_eff rfl rfl rfl (eff_buildSlice1 (by rfl) rfl rfl) ?_); rintro _ _ ⟨b21, rfl, rfl⟩; refine ⟨_, fun _ s => s, (by first | ((repeat first | exact fun _ s => s | apply en_keep | apply en_drop | apply en_app) <;> fail) | ((repeat first | exact en_refl | (apply en_blk; focus ((repeat' first | exact Pick.here | apply Pick.skip | apply Pick.app); done); focus rfl) | (apply en_own; focus ((repeat' first | exact Pick.here | apply Pick.skip | apply Pick.app); done); focus rfl) | (apply en_pick; focus ((repeat' first | exact Pick.here | apply Pick.skip | apply Pick.app); done)) | apply en_drop | apply en_app) <;> fail)), ?_⟩
        refine RS_e (RE_cmp (by kernel_rfl) rfl rfl rfl (eff_append rfl rfl (by repeat' first | exact Pick.here | apply Pick.skip) (by repeat' first | exact Rc.blk rfl | assumption | apply Rc.skip) (one_all rfl) (by rfl) (by decide) (by first | omega | (simp; done) | (simp; omega)) (by first | omega | (simp; done) | (simp; omega))) ?_); rintro _ _ ⟨A22, c22, rfl, hc22, hm22, hn22, rfl⟩
        refine RS_e (RE_last (by kernel_rfl) rfl rfl rfl (eff_store rfl rfl rfl (by repeat' first | exact Upd.here rfl | apply Upd.skip | apply Upd.app)) ?_); rintro _ _ ⟨rfl, rfl⟩
        (repeat first | refine G_seq ?_ | refine G_skip ?_ | refine G_endblk ?_ | refine G_block ?_ | refine G_exit rfl ?_)
        exact G_rndEnd (obj d (.deferred (some [])) :: own 3 1 A22 (ms ++ [x]).length c22 (flat (ms ++ [x])) :: blk b5 33 [.slice A22 (ms ++ [x]).length c22] :: blk b3 69 [.func (.func 133) #[] #[]] :: F :: L) ⟨rfl, (A22, c22, ms ++ [x]), ⟨by simp only [List.length_append, List.length_singleton, i1], fun z hz => (List.mem_append.1 hz).elim (i2 z) (fun h => by simp at h; exact h ▸ hxm), by simp only [List.length_append, List.length_singleton]; exact fun _ => hn22 (by omega), by simp only [List.length_append, List.length_singleton]; exact hc22, hm22⟩, rfl⟩ (by
          rw [List.length_append, ← flat_snoc]
          exact (by (repeat first | exact en_refl | (apply en_blk; focus ((repeat' first | exact Pick.here | apply Pick.skip | apply Pick.app); done); focus rfl) | (apply en_own; focus ((repeat' first | exact Pick.here | apply Pick.skip | apply Pick.app); done); focus rfl) | (apply en_pick; focus ((repeat' first | exact Pick.here | apply Pick.skip | apply Pick.app); done)) | apply en_drop | apply en_app) <;> fail))
  · rintro d L1 ⟨-, ⟨B, e, ms⟩, hms, ⟨i1, i2, i3⟩, rfl⟩
    simp only at hms i1 i2 i3
    dsimp only
    (repeat first | refine G_seq ?_ | refine G_skip ?_ | refine G_endblk ?_ | refine G_block ?_ | refine G_exit rfl ?_)
    refine G_region ?_
    refine GO_q rfl rfl (ev_load rfl (by repeat' first | exact Ld.blk rfl | assumption | apply Ld.skip | apply Ld.app)) ?_
    refine GO_q rfl rfl (ev_assign rfl) ?_
    refine GO_nil ?_
    (repeat first | refine G_seq ?_ | refine G_skip ?_ | refine G_endblk ?_ | refine G_block ?_ | refine G_exit rfl ?_)
    exact G_retM [d] rfl (by rw [← hgb]; rfl) rfl (.tmp rfl .nil) (M := own 3 1 B ms.length e (flat ms) :: blk b5 33 [.slice B ms.length e] :: F :: L) (L' := own 3 1 B ms.length e (flat ms) :: L) (by (repeat first | exact en_refl | (apply en_blk; focus ((repeat' first | exact Pick.here | apply Pick.skip | apply Pick.app); done); focus rfl) | (apply en_own; focus ((repeat' first | exact Pick.here | apply Pick.skip | apply Pick.app); done); focus rfl) | (apply en_pick; focus ((repeat' first | exact Pick.here | apply Pick.skip | apply Pick.app); done)) | apply en_drop | apply en_app) <;> fail) (by (repeat first | exact en_refl | (apply en_blk; focus ((repeat' first | exact Pick.here | apply Pick.skip | apply Pick.app); done); focus rfl) | (apply en_own; focus ((repeat' first | exact Pick.here | apply Pick.skip | apply Pick.app); done); focus rfl) | (apply en_pick; focus ((repeat' first | exact Pick.here | apply Pick.skip | apply Pick.app); done)) | apply en_drop | apply en_app) <;> fail) ⟨ms, hms, B, e, rfl, i1, i2, i3, rfl⟩
  · rintro d e L1 ⟨h, _⟩
    cases h
/-- The one that stands at k. -/
theorem nthI_ctr : ∀ (N : Nat) (A : Option Addr) (n c : Nat) (l : List Int) (k : Nat) (v : Int) (L : List HP) (_ : n ≤ N) (_ : Rd L A n l) (_ : n ≤ 1000000) (_ : n ≤ c) (_ : (srtO ltI l)[k]? = some v),
    Ctr Tryz.prog 162 #[.slice A n c, .int .i64 (k : Nat), .func (.func 133) #[] #[]] L fun r L' => r = .int .i64 v ∧ L' = L := by
  intro N
  induction N using Nat.strongRecOn with
  | _ N ih =>
  intro A n c l k v L hN hl hn hc hv
  have h1 : l.length = n := hl.len (by decide)
  refine Ctr_of (fn := Tryz.f162) (n := 61) Tryz.func162 rfl rfl rfl ?_
  intro g F
  (repeat first | refine G_seq ?_ | refine G_skip ?_ | refine G_endblk ?_ | refine G_block ?_ | refine G_exit rfl ?_)
  refine G_region ?_
  refine GO_q rfl rfl (ev_assign rfl) ?_
  refine GO_nil ?_
  (repeat first | refine G_seq ?_ | refine G_skip ?_ | refine G_endblk ?_)
  refine G_cut (ι := Option Addr × Nat × List Int × Nat × List HP) (fun x => [(0, .slice x.1 x.2.2.1.length x.2.1), (1, .int .i64 (x.2.2.2.1 : Nat)), (2, .func (.func 133) #[] #[])]) (fun x => x.2.2.2.2 ++ F :: L) (fun x => Rd (x.2.2.2.2 ++ F :: L) x.1 x.2.2.1.length x.2.2.1 ∧ x.2.2.1.length ≤ x.2.1 ∧ x.2.2.1.length ≤ n ∧ (srtO ltI x.2.2.1)[x.2.2.2.1]? = some v) ?_ ?_
  · (repeat first | refine G_seq ?_ | refine G_skip ?_ | refine G_endblk ?_ | refine G_block ?_ | refine G_exit rfl ?_)
    refine G_loop (ι := Option Addr × Nat × List Int × Nat × List HP) (fun x => [(0, .slice x.1 x.2.2.1.length x.2.1), (1, .int .i64 (x.2.2.2.1 : Nat)), (2, .func (.func 133) #[] #[])]) (fun x => x.2.2.2.2 ++ F :: L) (fun x => Rd (x.2.2.2.2 ++ F :: L) x.1 x.2.2.1.length x.2.2.1 ∧ x.2.2.1.length ≤ x.2.1 ∧ x.2.2.1.length ≤ n ∧ (srtO ltI x.2.2.1)[x.2.2.2.1]? = some v) (fun x => x.2.2.1.length) (A, c, l, k, []) ⟨by simp only [List.nil_append]; rw [h1]; exact hl.skip, by simp only; omega, by simp only; omega, hv⟩ ⟨by simp only; rw [h1]; rfl, rfl, rfl, trivial⟩ (by (repeat first | exact fun _ s => s | apply en_keep | apply en_drop | apply en_app) <;> fail) ?_
    rintro ⟨A, c, l, k, X⟩ ⟨f1, f2, f3, f4⟩
    simp only at f1 f2 f3 f4
    dsimp only
    clear hl hc hv h1
    have hk : k < l.length := by
      rcases Nat.lt_or_ge k l.length with h | h
      · exact h
      · rw [List.getElem?_eq_none (by rw [srtO_length]; exact h)] at f4; cases f4
    (repeat first | refine G_seq ?_ | refine G_skip ?_ | refine G_endblk ?_ | refine G_block ?_ | refine G_exit rfl ?_)
    refine G_region ?_
    refine GO_q rfl rfl (ev_move rfl) ?_
    refine GO_q rfl rfl (ev_len rfl) ?_
    refine GO_q rfl rfl (ev_gtr rfl rfl) ?_
    refine GO_nil ?_
    (repeat first | refine G_seq ?_ | refine G_skip ?_ | refine G_endblk ?_ | refine G_block ?_ | refine G_exit rfl ?_)
    refine G_cond rfl (fun q1 => ?_) (fun q1 => ?_)
    · (repeat first | refine G_seq ?_ | refine G_skip ?_ | refine G_endblk ?_ | refine G_block ?_ | refine G_exit rfl ?_)
      refine G_region ?_
      refine GO_q rfl rfl (ev_move rfl) ?_
      refine GO_q rfl rfl (ev_move rfl) ?_
      refine GO_eff rfl rfl (eff_call rfl (middlesI_ctr A l.length c l _ (by repeat' first | exact Rc.blk rfl | assumption | apply Rd.skip | apply Rd.app) (by omega) (by omega) f2)) ?_; rintro _ _ ⟨ms, ⟨m1, m2, m3⟩, B, e, rfl, i1, i2, i3, rfl⟩
      refine GO_q rfl rfl (ev_assign rfl) ?_
      refine GO_nil ?_
      have hml : ms.length / 2 < ms.length := by omega
      have hx : (srtO ltI ms)[ms.length / 2]? = some ((srtO ltI ms)[ms.length / 2]'(by rw [srtO_length]; exact hml)) := List.getElem?_eq_getElem _
      generalize (srtO ltI ms)[ms.length / 2]'(by rw [srtO_length]; exact hml) = x at hx
      have hxl : x ∈ l := m1 x (nthO_mem hx)
      have p1 := partsO_length sto_ltI x l
      have p2 := likeO_pos hxl
      (repeat first | refine G_seq ?_ | refine G_skip ?_ | refine G_endblk ?_ | refine G_block ?_ | refine G_exit rfl ?_)
      refine G_region ?_
      refine GO_q rfl rfl (ev_move rfl) ?_
      refine GO_q rfl rfl (ev_move rfl) ?_
      refine GO_q rfl rfl (ev_move rfl) ?_
      refine GO_q rfl rfl (ev_len rfl) ?_
      (first | refine GO_q rfl rfl (ev_quoN (q := 2) rfl rfl (by first | omega | (simp; done) | (simp; omega)) (by first | omega | (simp; done) | (simp; omega))) ?_ | refine GO_q rfl rfl (ev_quo rfl rfl (by first | omega | (simp; done) | (simp; omega)) (by first | omega | (simp; done) | (simp; omega)) (by first | omega | (simp; done) | (simp; omega))) ?_)
      refine GO_q rfl rfl (ev_move rfl) ?_
      refine GO_eff rfl rfl (eff_call rfl (ih ms.length (by omega) B ms.length e ms (ms.length / 2) x _ (Nat.le_refl _) (Rc.own (flat_length _) i1) (by omega) i2 hx)) ?_; rintro _ _ ⟨rfl, rfl⟩
      refine GO_q rfl rfl (ev_move rfl) ?_
      refine GO_eff rfl rfl (eff_call rfl (partsI_ctr A l.length c l x _ (by repeat' first | exact Rc.blk rfl | assumption | apply Rd.skip | apply Rd.app) (by omega))) ?_; rintro _ _ ⟨s, rfl, ok, rfl⟩
      refine GO_q rfl rfl (ev_move rfl) ?_
      refine GO_q rfl rfl (ev_extract rfl rfl) ?_
      refine GO_q rfl rfl (ev_extract rfl rfl) ?_
      refine GO_q rfl rfl (ev_extract rfl rfl) ?_
      refine GO_q rfl rfl (ev_assign rfl) ?_
      refine GO_q rfl rfl (ev_assign rfl) ?_
      refine GO_q rfl rfl (ev_assign rfl) ?_
      refine GO_nil ?_
      have n1 : ∀ h, _ := nthO_low (k := k) sto_ltI x l
      have n2 : ∀ h h', _ := nthO_like (k := k) sto_ltI x l
      have n3 : ∀ h, _ := nthO_high (k := k) sto_ltI x l
      have hli : ∀ z ∈ likeO x l, z = x := fun z hz => likeO_eq hz
      generalize lowO ltI x l = lo at *
      generalize likeO x l = li at *
      generalize highO ltI x l = hi at *
      (repeat first | refine G_seq ?_ | refine G_skip ?_ | refine G_endblk ?_ | refine G_block ?_ | refine G_exit rfl ?_)
      refine G_region ?_
      refine GO_q rfl rfl (ev_move rfl) ?_
      refine GO_q rfl rfl (ev_move rfl) ?_
      refine GO_q rfl rfl (ev_len rfl) ?_
      (first | refine GO_q rfl rfl (ev_lssN rfl rfl) ?_ | refine GO_q rfl rfl (ev_lss rfl rfl) ?_)
      refine GO_q rfl rfl (ev_assign rfl) ?_
      refine GO_nil ?_
      (repeat first | refine G_seq ?_ | refine G_skip ?_ | refine G_endblk ?_ | refine G_block ?_ | refine G_exit rfl ?_)
      refine G_cond rfl (fun q2 => ?_) (fun q2 => ?_)
      · (repeat first | refine G_seq ?_ | refine G_skip ?_ | refine G_endblk ?_ | refine G_block ?_ | refine G_exit rfl ?_)
        refine G_region ?_
        refine GO_q rfl rfl (ev_move rfl) ?_
        refine GO_q rfl rfl (ev_assign rfl) ?_
        refine GO_nil ?_
        (repeat first | refine G_seq ?_ | refine G_skip ?_ | refine G_endblk ?_ | refine G_block ?_ | refine G_exit rfl ?_)
        exact G_round (s.A1, s.c1, lo, k, [own 3 1 s.A1 lo.length s.c1 (flat lo)]) ⟨Rc.own (flat_length _) ok.h1, ok.k1, by simp only; omega, by simp only; rw [← n1 (by omega)]; exact f4⟩ (by simp only; omega) ⟨rfl, rfl, rfl, trivial⟩ (by (repeat first | exact en_refl | (apply en_blk; focus ((repeat' first | exact Pick.here | apply Pick.skip | apply Pick.app); done); focus rfl) | (apply en_own; focus ((repeat' first | exact Pick.here | apply Pick.skip | apply Pick.app); done); focus rfl) | (apply en_pick; focus ((repeat' first | exact Pick.here | apply Pick.skip | apply Pick.app); done)) | apply en_drop | apply en_app) <;> fail)
      · (repeat first | refine G_seq ?_ | refine G_skip ?_ | refine G_endblk ?_ | refine G_block ?_ | refine G_exit rfl ?_)
        refine G_region ?_
        refine GO_q rfl rfl (ev_move rfl) ?_
        refine GO_q rfl rfl (ev_move rfl) ?_
        refine GO_q rfl rfl (ev_len rfl) ?_
        refine GO_q rfl rfl (ev_move rfl) ?_
        refine GO_q rfl rfl (ev_len rfl) ?_
        (first | refine GO_q rfl rfl (ev_addN rfl rfl (by first | omega | (simp; done) | (simp; omega))) ?_ | refine GO_q rfl rfl (ev_add rfl rfl (by first | omega | (simp; done) | (simp; omega))) ?_)
        (first | refine GO_q rfl rfl (ev_lssN rfl rfl) ?_ | refine GO_q rfl rfl (ev_lss rfl rfl) ?_)
        refine GO_q rfl rfl (ev_assign rfl) ?_
        refine GO_nil ?_
        (repeat first | refine G_seq ?_ | refine G_skip ?_ | refine G_endblk ?_ | refine G_block ?_ | refine G_exit rfl ?_)
        refine G_cond rfl (fun q3 => ?_) (fun q3 => ?_)
        · obtain ⟨lb, hb⟩ := ok.h2 p2
          have e9 := n2 (by omega) (by omega)
          rw [f4] at e9
          have g0 : li[0]? = some x := by
            rw [List.getElem?_eq_getElem p2, hli _ (List.getElem_mem p2)]
          cases e9
          obtain ⟨sA1, sc1, sA2, sc2, sA3, sc3⟩ := s
          simp only at hb
          subst hb
          dsimp only
          have hld : ∀ L', Ld (own 3 1 (some ⟨lb, 0, none⟩) li.length sc2 (flat li) :: L') ⟨lb, 0 + 0 * 1, none⟩ (.int .i64 v) := fun L' => ld_ownI rfl g0 L'
          (repeat first | refine G_seq ?_ | refine G_skip ?_ | refine G_endblk ?_ | refine G_block ?_ | refine G_exit rfl ?_)
          refine G_region ?_
          refine GO_q rfl rfl (ev_move rfl) ?_
          (first | refine GO_q rfl rfl (ev_indexAddrN rfl rfl (by first | omega | (simp; done) | (simp; omega))) ?_ | refine GO_q rfl rfl (ev_indexAddr rfl rfl (by first | omega | (simp; done) | (simp; omega)) (by first | omega | (simp; done) | (simp; omega))) ?_)
          refine GO_q rfl rfl (ev_load rfl (by repeat' first | exact hld _ | apply Ld.skip)) ?_
          refine GO_q rfl rfl (ev_assign rfl) ?_
          refine GO_nil ?_
          (repeat first | refine G_seq ?_ | refine G_skip ?_ | refine G_endblk ?_ | refine G_block ?_ | refine G_exit rfl ?_)
          refine G_ret rfl (.tmp rfl .nil) ?_ ⟨rfl, rfl⟩
          exact fun h q => en_app en_refl h q.tail.tail.tail.tail
        · (repeat first | refine G_seq ?_ | refine G_skip ?_ | refine G_endblk ?_ | refine G_block ?_ | refine G_exit rfl ?_)
          refine G_region ?_
          refine GO_q rfl rfl (ev_move rfl) ?_
          refine GO_q rfl rfl (ev_move rfl) ?_
          refine GO_q rfl rfl (ev_move rfl) ?_
          refine GO_q rfl rfl (ev_len rfl) ?_
          (first | refine GO_q rfl rfl (ev_subN rfl rfl (by first | omega | (simp; done) | (simp; omega))) ?_ | refine GO_q rfl rfl (ev_sub rfl rfl (by first | omega | (simp; done) | (simp; omega))) ?_)
          refine GO_q rfl rfl (ev_move rfl) ?_
          refine GO_q rfl rfl (ev_len rfl) ?_
          (first | refine GO_q rfl rfl (ev_subN rfl rfl (by first | omega | (simp; done) | (simp; omega))) ?_ | refine GO_q rfl rfl (ev_sub rfl rfl (by first | omega | (simp; done) | (simp; omega))) ?_)
          refine GO_q rfl rfl (ev_assign rfl) ?_
          refine GO_q rfl rfl (ev_assign rfl) ?_
          refine GO_nil ?_
          (repeat first | refine G_seq ?_ | refine G_skip ?_ | refine G_endblk ?_ | refine G_block ?_ | refine G_exit rfl ?_)
          exact G_round (s.A3, s.c3, hi, k - lo.length - li.length, [own 3 1 s.A3 hi.length s.c3 (flat hi)]) ⟨Rc.own (flat_length _) ok.h3, ok.k3, by simp only; omega, by simp only; rw [← n3 (by omega)]; exact f4⟩ (by simp only; omega) ⟨rfl, by simp only; rw [show ((k - lo.length - li.length : Nat) : Int) = (k : Int) - (lo.length : Int) - (li.length : Int) by omega]; rfl, rfl, trivial⟩ (by (repeat first | exact en_refl | (apply en_blk; focus ((repeat' first | exact Pick.here | apply Pick.skip | apply Pick.app); done); focus rfl) | (apply en_own; focus ((repeat' first | exact Pick.here | apply Pick.skip | apply Pick.app); done); focus rfl) | (apply en_pick; focus ((repeat' first | exact Pick.here | apply Pick.skip | apply Pick.app); done)) | apply en_drop | apply en_app) <;> fail)
    · (repeat first | refine G_seq ?_ | refine G_skip ?_ | refine G_endblk ?_ | refine G_block ?_ | refine G_exit rfl ?_)
      exact G_inv (A, c, l, k, X) ⟨f1, f2, f3, f4⟩ ⟨rfl, rfl, rfl, trivial⟩ (by (repeat first | exact fun _ s => s | apply en_keep | apply en_drop | apply en_app) <;> fail)
  · rintro ⟨A, c, l, k, X⟩ ⟨f1, f2, f3, f4⟩
    simp only at f1 f2 f3 f4
    dsimp only
    clear hl hc hv h1
    have hk : k < l.length := by
      rcases Nat.lt_or_ge k l.length with h | h
      · exact h
      · rw [List.getElem?_eq_none (by rw [srtO_length]; exact h)] at f4; cases f4
    have hsl : (srtO ltI l).length = l.length := srtO_length l
    (repeat first | refine G_seq ?_ | refine G_skip ?_ | refine G_endblk ?_ | refine G_block ?_ | refine G_exit rfl ?_)
    refine G_region ?_
    refine GO_q rfl rfl (ev_move rfl) ?_
    refine GO_q rfl rfl (ev_move rfl) ?_
    refine GO_eff rfl rfl (eff_call rfl (SortOI_ctr A l.length c l _ (by repeat' first | exact Rc.blk rfl | assumption | apply Rd.skip | apply Rd.app) (by omega) f2)) ?_; rintro _ _ ⟨B, e, rfl, hB, rfl⟩
    refine GO_q rfl rfl (ev_move rfl) ?_
    obtain ⟨lb, rfl⟩ := hB (by omega)
    refine GO_q rfl rfl (ev_indexAddrN rfl rfl (by omega)) ?_
    refine GO_q rfl rfl (ev_load rfl (ld_ownI rfl f4 _)) ?_
    refine GO_q rfl rfl (ev_assign rfl) ?_
    refine GO_nil ?_
    (repeat first | refine G_seq ?_ | refine G_skip ?_ | refine G_endblk ?_ | refine G_block ?_ | refine G_exit rfl ?_)
    exact G_ret rfl (.tmp rfl .nil) (fun h q => en_app en_refl h q.tail) ⟨rfl, rfl⟩
/-- The one that stands at k; there is one. -/
theorem pickI_ctr (A : Option Addr) (n c : Nat) (l : List Int) (k : Nat) (v : Int) (L : List HP) (hl : Rd L A n l) (hn : n ≤ 1000000) (hc : n ≤ c) (hv : (srtO ltI l)[k]? = some v) :
    Ctr Tryz.prog 154 #[.slice A n c, .int .i64 (k : Nat), .func (.func 133) #[] #[]] L fun r L' => r = .tuple #[.int .i64 v, .bool true] ∧ L' = L := by
  have h1 : l.length = n := hl.len (by decide)
  have hk : k < n := by
    rcases Nat.lt_or_ge k n with h | h
    · exact h
    · rw [List.getElem?_eq_none (by rw [srtO_length]; omega)] at hv; cases hv
  have p2 := likeO_pos (nthO_mem hv)
  have e1 := midO_low sto_ltI hv
  have e2 := midO_like sto_ltI hv
  have hli : ∀ z ∈ likeO v l, z = v := fun z hz => likeO_eq hz
  have g0 : (likeO v l)[k - (lowO ltI v l).length]? = some v := by
    have h9 : k - (lowO ltI v l).length < (likeO v l).length := by omega
    rw [List.getElem?_eq_getElem h9, hli _ (List.getElem_mem h9)]
  refine Ctr_of (fn := Tryz.f154) (n := 40) Tryz.func154 rfl rfl rfl ?_
  intro g F
  (repeat first | refine G_seq ?_ | refine G_skip ?_ | refine G_endblk ?_ | refine G_block ?_ | refine G_exit rfl ?_)
  refine G_region ?_
  refine GO_q rfl rfl (ev_assign rfl) ?_
  refine GO_q rfl rfl (ev_assign rfl) ?_
  refine GO_nil ?_
  (repeat first | refine G_seq ?_ | refine G_skip ?_ | refine G_endblk ?_ | refine G_block ?_ | refine G_exit rfl ?_)
  refine G_region ?_
  refine GO_q rfl rfl (ev_move rfl) ?_
  (first | refine GO_q rfl rfl (ev_lssN (q := 0) rfl rfl) ?_ | refine GO_q rfl rfl (ev_lss rfl rfl) ?_)
  refine GO_q rfl rfl (ev_move rfl) ?_
  refine GO_yes rfl rfl rfl (decide_eq_false (by omega)) ?_
  refine GO_q rfl rfl (ev_move rfl) ?_
  refine GO_yes rfl rfl rfl (decide_eq_false (by omega)) ?_
  refine GO_q rfl rfl (ev_move rfl) ?_
  refine GO_yes rfl rfl rfl (decide_eq_false (by omega)) ?_
  refine GO_q rfl rfl (ev_len rfl) ?_
  refine GO_yes rfl rfl rfl (decide_eq_false (by omega)) ?_
  refine GO_q rfl rfl (ev_geq rfl rfl) ?_
  refine GO_q rfl rfl (ev_pick_f rfl (decide_eq_false (by omega)) rfl) ?_
  refine GO_nil ?_
  (repeat first | refine G_seq ?_ | refine G_skip ?_ | refine G_endblk ?_ | refine G_block ?_ | refine G_exit rfl ?_)
  refine G_cond_f rfl (decide_eq_false (by omega)) ?_
  (repeat first | refine G_seq ?_ | refine G_skip ?_ | refine G_endblk ?_ | refine G_block ?_ | refine G_exit rfl ?_)
  refine G_region ?_
  refine GO_q rfl rfl (ev_move rfl) ?_
  refine GO_q rfl rfl (ev_move rfl) ?_
  refine GO_q rfl rfl (ev_move rfl) ?_
  refine GO_eff rfl rfl (eff_call rfl (nthI_ctr n A n c l k v _ (Nat.le_refl _) (by repeat' first | exact Rc.blk rfl | assumption | apply Rd.skip | apply Rd.app) hn hc hv)) ?_; rintro _ _ ⟨rfl, rfl⟩
  refine GO_q rfl rfl (ev_assign rfl) ?_
  refine GO_nil ?_
  (repeat first | refine G_seq ?_ | refine G_skip ?_ | refine G_endblk ?_ | refine G_block ?_ | refine G_exit rfl ?_)
  refine G_region ?_
  refine GO_q rfl rfl (ev_move rfl) ?_
  refine GO_q rfl rfl (ev_move rfl) ?_
  refine GO_q rfl rfl (ev_move rfl) ?_
  refine GO_eff rfl rfl (eff_call rfl (partsI_ctr A n c l v _ (by repeat' first | exact Rc.blk rfl | assumption | apply Rd.skip | apply Rd.app) hn)) ?_; rintro _ _ ⟨s, rfl, ok, rfl⟩
  refine GO_q rfl rfl (ev_move rfl) ?_
  refine GO_q rfl rfl (ev_extract rfl rfl) ?_
  refine GO_q rfl rfl (ev_extract rfl rfl) ?_
  refine GO_q rfl rfl (ev_extract rfl rfl) ?_
  refine GO_q rfl rfl (ev_assign rfl) ?_
  refine GO_q rfl rfl (ev_assign rfl) ?_
  refine GO_q rfl rfl (ev_assign rfl) ?_
  refine GO_nil ?_
  generalize lowO ltI v l = lo at *
  generalize likeO v l = li at *
  generalize highO ltI v l = hi at *
  obtain ⟨lb, hb⟩ := ok.h2 p2
  obtain ⟨sA1, sc1, sA2, sc2, sA3, sc3⟩ := s
  simp only at hb
  subst hb
  dsimp only
  obtain ⟨j, hj⟩ : ∃ j, k - lo.length = j := ⟨_, rfl⟩
  rw [hj] at g0
  have hjl : j < li.length := by omega
  have hld : ∀ L', Ld (own 3 1 (some ⟨lb, 0, none⟩) li.length sc2 (flat li) :: L') ⟨lb, 0 + j * 1, none⟩ (.int .i64 v) := fun L' => ld_ownI rfl g0 L'
  (repeat first | refine G_seq ?_ | refine G_skip ?_ | refine G_endblk ?_ | refine G_block ?_ | refine G_exit rfl ?_)
  refine G_region ?_
  refine GO_q rfl rfl (ev_move rfl) ?_
  refine GO_q rfl rfl (ev_move rfl) ?_
  refine GO_q rfl rfl (ev_move rfl) ?_
  refine GO_q rfl rfl (ev_len rfl) ?_
  refine GO_q rfl rfl (ev_subN rfl rfl (by omega)) ?_
  rw [hj]
  refine GO_q rfl rfl (ev_indexAddrN rfl rfl (by omega)) ?_
  refine GO_q rfl rfl (ev_load rfl (by repeat' first | exact hld _ | apply Ld.skip)) ?_
  refine GO_q rfl rfl (ev_assign rfl) ?_
  refine GO_q rfl rfl (ev_assign rfl) ?_
  refine GO_nil ?_
  (repeat first | refine G_seq ?_ | refine G_skip ?_ | refine G_endblk ?_ | refine G_block ?_ | refine G_exit rfl ?_)
  refine G_ret rfl (.tmp rfl (.tmp rfl .nil)) (by (repeat first | exact fun _ s => s | apply en_keep | apply en_drop | apply en_app) <;> fail) ⟨rfl, rfl⟩
theorem pickI0_ctr (A : Option Addr) (c : Nat) (L : List HP) : Ctr Tryz.prog 154 #[.slice A 0 c, .int .i64 0, .func (.func 133) #[] #[]] L fun r L' => r = .tuple #[.int .i64 0, .bool false] ∧ L' = L := by
  refine Ctr_of (fn := Tryz.f154) (n := 40) Tryz.func154 rfl rfl rfl ?_
  intro g F
  (repeat first | refine G_seq ?_ | refine G_skip ?_ | refine G_endblk ?_ | refine G_block ?_ | refine G_exit rfl ?_)
  refine G_region ?_
  refine GO_q rfl rfl (ev_assign rfl) ?_
  refine GO_q rfl rfl (ev_assign rfl) ?_
  refine GO_nil ?_
  (repeat first | refine G_seq ?_ | refine G_skip ?_ | refine G_endblk ?_ | refine G_block ?_ | refine G_exit rfl ?_)
  refine G_region ?_
  refine GO_q rfl rfl (ev_move rfl) ?_
  (first | refine GO_q rfl rfl (ev_lssN (q := 0) rfl rfl) ?_ | refine GO_q rfl rfl (ev_lss rfl rfl) ?_)
  refine GO_q rfl rfl (ev_move rfl) ?_
  refine GO_yes rfl rfl rfl (decide_eq_false (by omega)) ?_
  refine GO_q rfl rfl (ev_move rfl) ?_
  refine GO_yes rfl rfl rfl (decide_eq_false (by omega)) ?_
  refine GO_q rfl rfl (ev_move rfl) ?_
  refine GO_yes rfl rfl rfl (decide_eq_false (by omega)) ?_
  refine GO_q rfl rfl (ev_len rfl) ?_
  refine GO_yes rfl rfl rfl (decide_eq_false (by omega)) ?_
  refine GO_q rfl rfl (ev_geq rfl rfl) ?_
  refine GO_q rfl rfl (ev_pick_f rfl (decide_eq_false (by omega)) rfl) ?_
  refine GO_nil ?_
  (repeat first | refine G_seq ?_ | refine G_skip ?_ | refine G_endblk ?_ | refine G_block ?_ | refine G_exit rfl ?_)
  refine G_cond_t rfl rfl ?_
  (repeat first | refine G_seq ?_ | refine G_skip ?_ | refine G_endblk ?_ | refine G_block ?_ | refine G_exit rfl ?_)
  refine G_region ?_
  refine GO_q rfl rfl (ev_move rfl) ?_
  refine GO_q rfl rfl (ev_assign rfl) ?_
  refine GO_q rfl rfl (ev_assign rfl) ?_
  refine GO_nil ?_
  (repeat first | refine G_seq ?_ | refine G_skip ?_ | refine G_endblk ?_ | refine G_block ?_ | refine G_exit rfl ?_)
  refine G_ret rfl (.tmp rfl (.tmp rfl .nil)) (by (repeat first | exact fun _ s => s | apply en_keep | apply en_drop | apply en_app) <;> fail) ⟨rfl, rfl⟩
/-- pick.Median -/
theorem MedianI_ctr (A : Option Addr) (n c : Nat) (l : List Int) (v : Int) (L : List HP) (hl : Rd L A n l) (hn : n ≤ 1000000) (hc : n ≤ c) (hv : (srtO ltI l)[n / 2]? = some v) :
    Ctr Tryz.prog 132 #[.slice A n c, .func (.func 133) #[] #[]] L fun r L' => r = .tuple #[.int .i64 v, .bool true] ∧ L' = L := by
  refine Ctr_of (fn := Tryz.f132) (n := 14) Tryz.func132 rfl rfl rfl ?_
  intro g F
  (repeat first | refine G_seq ?_ | refine G_skip ?_ | refine G_endblk ?_ | refine G_block ?_ | refine G_exit rfl ?_)
  refine G_region ?_
  refine GO_q rfl rfl (ev_assign rfl) ?_
  refine GO_q rfl rfl (ev_assign rfl) ?_
  refine GO_nil ?_
  (repeat first | refine G_seq ?_ | refine G_skip ?_ | refine G_endblk ?_ | refine G_block ?_ | refine G_exit rfl ?_)
  refine G_region ?_
  refine GO_q rfl rfl (ev_move rfl) ?_
  refine GO_q rfl rfl (ev_move rfl) ?_
  refine GO_q rfl rfl (ev_len rfl) ?_
  (first | refine GO_q rfl rfl (ev_quoN (q := 2) rfl rfl (by first | omega | (simp; done) | (simp; omega)) (by first | omega | (simp; done) | (simp; omega))) ?_ | refine GO_q rfl rfl (ev_quo rfl rfl (by first | omega | (simp; done) | (simp; omega)) (by first | omega | (simp; done) | (simp; omega)) (by first | omega | (simp; done) | (simp; omega))) ?_)
  refine GO_q rfl rfl (ev_move rfl) ?_
  refine GO_eff rfl rfl (eff_call rfl (pickI_ctr A n c l (n / 2) v _ (by repeat' first | exact Rc.blk rfl | assumption | apply Rd.skip | apply Rd.app) hn hc hv)) ?_; rintro _ _ ⟨rfl, rfl⟩
  refine GO_q rfl rfl (ev_extract rfl rfl) ?_
  refine GO_q rfl rfl (ev_extract rfl rfl) ?_
  refine GO_q rfl rfl (ev_assign rfl) ?_
  refine GO_q rfl rfl (ev_assign rfl) ?_
  refine GO_nil ?_
  (repeat first | refine G_seq ?_ | refine G_skip ?_ | refine G_endblk ?_ | refine G_block ?_ | refine G_exit rfl ?_)
  refine G_ret rfl (.tmp rfl (.tmp rfl .nil)) (by (repeat first | exact fun _ s => s | apply en_keep | apply en_drop | apply en_app) <;> fail) ⟨rfl, rfl⟩
theorem MedianI0_ctr (A : Option Addr) (c : Nat) (L : List HP) : Ctr Tryz.prog 132 #[.slice A 0 c, .func (.func 133) #[] #[]] L fun r L' => r = .tuple #[.int .i64 0, .bool false] ∧ L' = L := by
  refine Ctr_of (fn := Tryz.f132) (n := 14) Tryz.func132 rfl rfl rfl ?_
  intro g F
  (repeat first | refine G_seq ?_ | refine G_skip ?_ | refine G_endblk ?_ | refine G_block ?_ | refine G_exit rfl ?_)
  refine G_region ?_
  refine GO_q rfl rfl (ev_assign rfl) ?_
  refine GO_q rfl rfl (ev_assign rfl) ?_
  refine GO_nil ?_
  (repeat first | refine G_seq ?_ | refine G_skip ?_ | refine G_endblk ?_ | refine G_block ?_ | refine G_exit rfl ?_)
  refine G_region ?_
  refine GO_q rfl rfl (ev_move rfl) ?_
  refine GO_q rfl rfl (ev_move rfl) ?_
  refine GO_q rfl rfl (ev_len rfl) ?_
  (first | refine GO_q rfl rfl (ev_quoN (q := 2) rfl rfl (by first | omega | (simp; done) | (simp; omega)) (by first | omega | (simp; done) | (simp; omega))) ?_ | refine GO_q rfl rfl (ev_quo rfl rfl (by first | omega | (simp; done) | (simp; omega)) (by first | omega | (simp; done) | (simp; omega)) (by first | omega | (simp; done) | (simp; omega))) ?_)
  refine GO_q rfl rfl (ev_move rfl) ?_
  refine GO_eff rfl rfl (eff_call rfl (pickI0_ctr A c _)) ?_; rintro _ _ ⟨rfl, rfl⟩
  refine GO_q rfl rfl (ev_extract rfl rfl) ?_
  refine GO_q rfl rfl (ev_extract rfl rfl) ?_
  refine GO_q rfl rfl (ev_assign rfl) ?_
  refine GO_q rfl rfl (ev_assign rfl) ?_
  refine GO_nil ?_
  (repeat first | refine G_seq ?_ | refine G_skip ?_ | refine G_endblk ?_ | refine G_block ?_ | refine G_exit rfl ?_)
  refine G_ret rfl (.tmp rfl (.tmp rfl .nil)) (by (repeat first | exact fun _ s => s | apply en_keep | apply en_drop | apply en_app) <;> fail) ⟨rfl, rfl⟩
end Go.Proofs.YtjnmpogolknkpaaGreat
/- num.Mid, by a walk. -/
namespace Go.Proofs.YtjnmpogolknkpaaGreat
open Go.RowKit
theorem ret_intM {k : IntKind} {a b : Int} (h : a = b) : Ending.returned (.int k a) = .returned (.int k b) := by rw [h]
theorem and_one_i64 (a : Int) : bits BinOp.and IntKind.i64 a 1 = a % 2 := by
  have e : (BitVec.ofInt 64 a &&& BitVec.ofInt 64 1).toNat = (a % 18446744073709551616).toNat % 2 := by
    rw [BitVec.toNat_and]
    rw [show (BitVec.ofInt 64 1).toNat = 1 from rfl, Nat.and_one_is_mod, BitVec.toNat_ofInt]
    rfl
  show IntKind.i64.wrap ((BitVec.ofInt 64 a &&& BitVec.ofInt 64 1).toNat : Int) = _
  rw [e, IntWalk.i64_in _ (by omega)]
  omega
theorem and_bits_i64 (a b : Int) : bits BinOp.and IntKind.i64 (a % 2) (b % 2) = (a % 2) * (b % 2) := by
  rcases Int.emod_two_eq a with ha | ha <;> rcases Int.emod_two_eq b with hb | hb <;> rw [ha, hb] <;> rfl
set_option maxHeartbeats 400000 in
theorem mid_any (a b : Int) (ha : -9223372036854775808 ≤ a ∧ a ≤ 9223372036854775807) (hb : -9223372036854775808 ≤ b ∧ b ≤ 9223372036854775807) (w : World) :
    Calls Tryz.prog 70 #[.int .i64 a, .int .i64 b] w fun e w' => e = .returned (.int .i64 ((a + b) / 2)) ∧ w = w' := by
  obtain ⟨a1, a2⟩ := ha
  obtain ⟨b1, b2⟩ := hb
  go_enter Tryz.func70, Tryz.ntmps70
  go_wp2
  go_ret
  refine ⟨ret_intM ?_, rfl⟩
  rw [and_one_i64, and_one_i64, and_bits_i64]
  rcases Int.emod_two_eq a with ha | ha <;> rcases Int.emod_two_eq b with hb | hb <;> rw [ha, hb, IntWalk.wrap64_in _ (by omega)] <;> omega
end Go.Proofs.YtjnmpogolknkpaaGreat
