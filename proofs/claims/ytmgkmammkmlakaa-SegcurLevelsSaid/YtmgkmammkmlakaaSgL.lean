/- That a tree of cells lives. -/
import Derived.Test.YtmgkmammkmlakaaSgG
import Derived.Test.YtmgkmammkmlakaaBr
namespace Go.Proofs.Ytmgkmammkmlakaa
open Go.RowKit
set_option linter.unusedVariables false
set_option linter.unusedSimpArgs false
set_option maxRecDepth 100000

theorem lk0 : insE 3 [] ⟨1, 0, 5⟩ = 0 := by decide
theorem lk1 : insE 3 [⟨1, 0, 5⟩] ⟨2, 4, 9⟩ = 0 := by decide
theorem lR0 : insR [] ⟨1, 0, 5⟩ = [0, 5] := by
  have h : bothIn [] ⟨1, 0, 5⟩ = false := by decide
  unfold insR; rw [h]
  exact Up.unique (ofL_up _) (by unfold Up; decide) fun x => by rw [if_neg (by decide), ofL_mem]; simp
theorem lR1 : insR [0, 5] ⟨2, 4, 9⟩ = [0, 4, 5, 9] := by
  have h : bothIn [0, 5] ⟨2, 4, 9⟩ = false := by decide
  unfold insR; rw [h]
  exact Up.unique (ofL_up _) (by unfold Up; decide) fun x => by rw [if_neg (by decide), ofL_mem]; simp; omega
theorem lB0 : insB [] ⟨1, 0, 5⟩ 0 = 1 := by decide
theorem lB1 : insB [0, 5] ⟨2, 4, 9⟩ 1 = 2 := by decide
@[reducible] def lS1 : St := ⟨[⟨1, 0, 5⟩], [0, 5], 1⟩
@[reducible] def lS2 : St := ⟨[⟨1, 0, 5⟩, ⟨2, 4, 9⟩], [0, 4, 5, 9], 2⟩
theorem lI0 : St.ins ⟨[], [], 0⟩ 3 ⟨1, 0, 5⟩ = lS1 := by
  unfold St.ins; simp only; rw [lk0, lR0, lB0]; rfl
theorem lI1 : St.ins lS1 3 ⟨2, 4, 9⟩ = lS2 := by
  unfold St.ins; simp only; rw [lk1, lR1, lB1]; rfl
theorem lSt : stabK lS2.k 4 = [1, 2] := by
  have h : idsOf (lS2.k.filter fun s => decide (s.x ≤ 4 ∧ (4 : Int) ≤ s.y)) = [1, 2] := by decide
  unfold stabK; rw [h]; exact eq_of_sorted _ _ (srt_perm _) (srt_sorted _) (by decide)
end Go.Proofs.Ytmgkmammkmlakaa
