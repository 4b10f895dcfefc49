/- That a tree of cells lives. -/
import Derived.Test.YtmgkmammkmlakaaGreatSgG
import Derived.Test.YtmgkmammkmlakaaGreatBr
namespace Go.Proofs.YtmgkmammkmlakaaGreat
attribute [local irreducible] sat
open Go.RowKit
set_option linter.unusedVariables false
set_option linter.unusedSimpArgs false
set_option maxRecDepth 100000

theorem lk0 : insE 3 [] ⟨1, 0, 5⟩ = 0 := by decide
theorem lk1 : insE 3 [⟨1, 0, 5⟩] ⟨2, 4, 9⟩ = 0 := by decide
theorem lR0 : insR [] ⟨1, 0, 5⟩ = [0, 5] := by
  have h : bothIn [] ⟨1, 0, 5⟩ = false := by decide
  unfold insR; rw [h]
  exact Up.unique (ofL_up _) (by unfold Up; decide) fun x => by rw [if_neg (by decide), ofL_mem]; simp
theorem lR1 : insR [0, 5] ⟨2, 4, 9⟩ = [0, 4, 5, 9] := by
  have h : bothIn [0, 5] ⟨2, 4, 9⟩ = false := by decide
  unfold insR; rw [h]
  exact Up.unique (ofL_up _) (by unfold Up; decide) fun x => by rw [if_neg (by decide), ofL_mem]; simp; omega
theorem lB0 : insB [] ⟨1, 0, 5⟩ 0 = 1 := by decide
theorem lB1 : insB [0, 5] ⟨2, 4, 9⟩ 1 = 2 := by decide
@[reducible] def lS1 : St := ⟨[⟨1, 0, 5⟩], [0, 5], 1⟩
@[reducible] def lS2 : St := ⟨[⟨1, 0, 5⟩, ⟨2, 4, 9⟩], [0, 4, 5, 9], 2⟩
theorem lI0 : St.ins ⟨[], [], 0⟩ 3 ⟨1, 0, 5⟩ = lS1 := by
  unfold St.ins; simp only; rw [lk0, lR0, lB0]; rfl
theorem lI1 : St.ins lS1 3 ⟨2, 4, 9⟩ = lS2 := by
  unfold St.ins; simp only; rw [lk1, lR1, lB1]; rfl
theorem lSt : stabK lS2.k 4 = [1, 2] := by
  have h : idsOf (lS2.k.filter fun s => decide (s.x ≤ 4 ∧ (4 : Int) ≤ s.y)) = [1, 2] := by decide
  unfold stabK; rw [h]; exact eq_of_sorted _ _ (srt_perm _) (srt_sorted _) (by decide)
theorem lives22_ctr (L : List HP) : Ctr Tryz.prog 21 #[] L fun v L' => v = .bool true ∧ ∃ X, L' = X ++ L := by
  have c1 := fun t L => SInsert_ctr t 3 ⟨[], [], 0⟩ ⟨1, 0, 5⟩ L (by decide) (by decide)
  have c2 := fun t L => SInsert_ctr t 3 lS1 ⟨2, 4, 9⟩ L (by decide) (by decide)
  have c3 := fun t L => SStab_ctr t 3 lS2 L 4 (by decide)
  have c4 := fun t L => SEnds_ctr t 3 lS2 L
  have c5 := fun t L => SCheck_ctr t 3 lS2 L (by decide)
  rw [lSt] at c3
  rw [lI0, lk0] at c1
  rw [lI1, lk1] at c2
  refine Ctr_of (fn := Tryz.f21) (n := 54) Tryz.func21 rfl rfl rfl ?_
  intro g F
  (repeat first | refine G_seq ?_ | refine G_skip ?_ | refine G_endblk ?_ | refine G_block ?_ | refine G_exit rfl ?_)
  refine G_region ?_
  refine GO_q rfl rfl (ev_assign rfl) ?_
  refine GO_nil ?_
  (repeat first | refine G_seq ?_ | refine G_skip ?_ | refine G_endblk ?_ | refine G_block ?_ | refine G_exit rfl ?_)
  refine G_region ?_
  refine GO_eff rfl rfl (eff_call rfl (SNew_ctr 3 _ (by decide) (by decide))) ?_; rintro _ _ ⟨t, rfl, rfl⟩
  refine GO_q rfl rfl (ev_move rfl) ?_
  refine GO_q rfl rfl (ev_extract rfl rfl) ?_
  refine GO_q rfl rfl (ev_extract rfl rfl) ?_
  refine GO_q rfl rfl (ev_assign rfl) ?_
  refine GO_q rfl rfl (ev_assign rfl) ?_
  refine GO_nil ?_
  (repeat first | refine G_seq ?_ | refine G_skip ?_ | refine G_endblk ?_ | refine G_block ?_ | refine G_exit rfl ?_)
  refine G_region ?_
  refine GO_q rfl rfl (ev_move rfl) ?_
  refine GO_q rfl rfl (ev_build rfl rfl) ?_
  refine GO_eff rfl rfl (eff_call rfl (Ctr.pick (by repeat' first | exact Pick.here | apply Pick.skip | apply Pick.app) (c1 t _))) ?_; rintro _ _ ⟨rfl, rfl⟩
  refine GO_q rfl rfl (ev_assign rfl) ?_
  refine GO_nil ?_
  (repeat first | refine G_seq ?_ | refine G_skip ?_ | refine G_endblk ?_ | refine G_block ?_ | refine G_exit rfl ?_)
  refine G_region ?_
  refine GO_q rfl rfl (ev_move rfl) ?_
  refine GO_q rfl rfl (ev_build rfl rfl) ?_
  refine GO_eff rfl rfl (eff_call rfl (Ctr.pick (by repeat' first | exact Pick.here | apply Pick.skip | apply Pick.app) (c2 t _))) ?_; rintro _ _ ⟨rfl, rfl⟩
  refine GO_q rfl rfl (ev_assign rfl) ?_
  refine GO_nil ?_
  (repeat first | refine G_seq ?_ | refine G_skip ?_ | refine G_endblk ?_ | refine G_block ?_ | refine G_exit rfl ?_)
  refine G_region ?_
  refine GO_q rfl rfl (ev_move rfl) ?_
  refine GO_eff rfl rfl (eff_call rfl (Ctr.pick (by repeat' first | exact Pick.here | apply Pick.skip | apply Pick.app) (c3 t _))) ?_; rintro _ _ ⟨A, c, rfl, hA, rfl⟩
  refine GO_q rfl rfl (ev_assign rfl) ?_
  refine GO_nil ?_
  obtain ⟨ab, rfl⟩ := hA (by decide)
  have r : ∀ X, Rd (own 3 1 (some ⟨ab, 0, none⟩) [(1 : Int), 2].length c (flat [(1 : Int), 2]) :: X) (some ⟨ab, 0, none⟩) [(1 : Int), 2].length [(1 : Int), 2] := fun X => Rc.own (flat_length _) (fun _ => ⟨ab, rfl⟩)
  have y1 : ∀ X, Ld (own 3 1 (some ⟨ab, 0, none⟩) [(1 : Int), 2].length c (flat [(1 : Int), 2]) :: X) ⟨ab, 0 + 0 * 1, none⟩ (.int .i64 1) := fun X => by
    obtain ⟨_, _, e9, hx⟩ := (r X).at_ (by decide)
    cases e9
    exact (hx 0 1 rfl).at_ (i := 0) rfl
  have y2 : ∀ X, Ld (own 3 1 (some ⟨ab, 0, none⟩) [(1 : Int), 2].length c (flat [(1 : Int), 2]) :: X) ⟨ab, 0 + 1 * 1, none⟩ (.int .i64 2) := fun X => by
    obtain ⟨_, _, e9, hx⟩ := (r X).at_ (by decide)
    cases e9
    exact (hx 1 2 rfl).at_ (i := 0) rfl
  (repeat first | refine G_seq ?_ | refine G_skip ?_ | refine G_endblk ?_ | refine G_block ?_ | refine G_exit rfl ?_)
  refine G_region ?_
  refine GO_q rfl rfl (ev_move rfl) ?_
  refine GO_q rfl rfl (ev_eql rfl rfl) ?_
  refine GO_q rfl rfl (ev_move rfl) ?_
  refine GO_yes rfl rfl rfl rfl ?_
  refine GO_q rfl rfl (ev_move rfl) ?_
  refine GO_yes rfl rfl rfl rfl ?_
  refine GO_q rfl rfl (ev_eql rfl rfl) ?_
  refine GO_q rfl rfl (ev_pick_t rfl rfl rfl) ?_
  refine GO_q rfl rfl (ev_move rfl) ?_
  refine GO_yes rfl rfl rfl rfl ?_
  refine GO_q rfl rfl (ev_move rfl) ?_
  refine GO_yes rfl rfl rfl rfl ?_
  refine GO_q rfl rfl (ev_eql rfl rfl) ?_
  refine GO_q rfl rfl (ev_pick_t rfl rfl rfl) ?_
  refine GO_q rfl rfl (ev_move rfl) ?_
  refine GO_yes rfl rfl rfl rfl ?_
  refine GO_q rfl rfl (ev_move rfl) ?_
  refine GO_yes rfl rfl rfl rfl ?_
  refine GO_q rfl rfl (ev_len rfl) ?_
  refine GO_yes rfl rfl rfl rfl ?_
  refine GO_q rfl rfl (ev_eql rfl rfl) ?_
  refine GO_q rfl rfl (ev_pick_t rfl rfl rfl) ?_
  refine GO_q rfl rfl (ev_move rfl) ?_
  refine GO_yes rfl rfl rfl rfl ?_
  refine GO_q rfl rfl (ev_move rfl) ?_
  refine GO_yes rfl rfl rfl rfl ?_
  (first | refine GO_q rfl rfl (ev_indexAddrN rfl rfl (by first | omega | (simp; done) | (simp; omega))) ?_ | refine GO_q rfl rfl (ev_indexAddr rfl rfl (by first | omega | (simp; done) | (simp; omega)) (by first | omega | (simp; done) | (simp; omega))) ?_)
  refine GO_yes rfl rfl rfl rfl ?_
  refine GO_q rfl rfl (ev_load rfl (by repeat' first | exact y1 _ | apply Ld.skip)) ?_
  refine GO_yes rfl rfl rfl rfl ?_
  refine GO_q rfl rfl (ev_eql rfl rfl) ?_
  refine GO_q rfl rfl (ev_pick_t rfl rfl rfl) ?_
  refine GO_q rfl rfl (ev_move rfl) ?_
  refine GO_yes rfl rfl rfl rfl ?_
  refine GO_q rfl rfl (ev_move rfl) ?_
  refine GO_yes rfl rfl rfl rfl ?_
  (first | refine GO_q rfl rfl (ev_indexAddrN rfl rfl (by first | omega | (simp; done) | (simp; omega))) ?_ | refine GO_q rfl rfl (ev_indexAddr rfl rfl (by first | omega | (simp; done) | (simp; omega)) (by first | omega | (simp; done) | (simp; omega))) ?_)
  refine GO_yes rfl rfl rfl rfl ?_
  refine GO_q rfl rfl (ev_load rfl (by repeat' first | exact y2 _ | apply Ld.skip)) ?_
  refine GO_yes rfl rfl rfl rfl ?_
  refine GO_q rfl rfl (ev_eql rfl rfl) ?_
  refine GO_q rfl rfl (ev_pick_t rfl rfl rfl) ?_
  refine GO_q rfl rfl (ev_move rfl) ?_
  refine GO_yes rfl rfl rfl rfl ?_
  refine GO_q rfl rfl (ev_move rfl) ?_
  refine GO_yes rfl rfl rfl rfl ?_
  refine GO_eff rfl rfl (eff_call rfl (Ctr.pick (by repeat' first | exact Pick.here | apply Pick.skip | apply Pick.app) (c4 t _))) ?_; rintro _ _ ⟨rfl, rfl⟩
  refine GO_yes rfl rfl rfl rfl ?_
  refine GO_q rfl rfl (ev_eql rfl rfl) ?_
  refine GO_q rfl rfl (ev_pick_t rfl rfl rfl) ?_
  refine GO_q rfl rfl (ev_move rfl) ?_
  refine GO_yes rfl rfl rfl rfl ?_
  refine GO_q rfl rfl (ev_move rfl) ?_
  refine GO_yes rfl rfl rfl rfl ?_
  refine GO_eff rfl rfl (eff_call rfl (Ctr.pick (by repeat' first | exact Pick.here | apply Pick.skip | apply Pick.app) (c5 t _))) ?_; rintro _ _ ⟨rfl, rfl⟩
  refine GO_q rfl rfl (ev_pick_t rfl rfl rfl) ?_
  refine GO_q rfl rfl (ev_assign rfl) ?_
  refine GO_nil ?_
  (repeat first | refine G_seq ?_ | refine G_skip ?_ | refine G_endblk ?_ | refine G_block ?_ | refine G_exit rfl ?_)
  exact G_ret (L' := [] ++ L) rfl (.tmp rfl .nil) (by (repeat first | exact fun _ s => s | apply en_keep | apply en_drop | apply en_app) <;> fail) ⟨rfl, [], rfl⟩
end Go.Proofs.YtmgkmammkmlakaaGreat
