/- What a box about points has. -/
import Derived.Test.YtlkhnhahepehkaaAround
import Derived.Test.YtlkhnhahepehkaaBoxMeets
import Derived.Deep.DeepCutAuto
import Derived.BigRegion
namespace Go.Proofs.Ytlkhnhahepehkaa
open Go.RowKit
set_option linter.unusedSimpArgs false
set_option linter.unusedVariables false
attribute [local go_sem ↓] run_maxI run_minI run_eql_box

/-- Whether one of the first k points has a number at a place. -/
def seen (l : List Int) (o : Nat) (f : Int) (k : Nat) : Bool := (List.range k).any fun j => l.getD (j * 3 + o) 0 == f
theorem seen_zero (l : List Int) (o : Nat) (f : Int) : seen l o f 0 = false := rfl
theorem seen_succ (l : List Int) (o : Nat) (f : Int) (k : Nat) : seen l o f (k + 1) = (seen l o f k || l.getD (k * 3 + o) 0 == f) := by
  simp [seen, List.range_succ]

/-- The box about points: it has them, and each side has one. -/
theorem aroundF_has : ∀ (l : List Int) (b g : Int × Int × Int × Int), aroundF l b = g → b.1 ≤ b.2.1 → b.2.2.1 ≤ b.2.2.2 →
    g.1 ≤ b.1 ∧ b.2.1 ≤ g.2.1 ∧ g.2.2.1 ≤ b.2.2.1 ∧ b.2.2.2 ≤ g.2.2.2 ∧
    (∀ k, k * 3 + 2 < l.length → g.1 ≤ l.getD (k * 3 + 1) 0 ∧ l.getD (k * 3 + 1) 0 ≤ g.2.1 ∧ g.2.2.1 ≤ l.getD (k * 3 + 2) 0 ∧ l.getD (k * 3 + 2) 0 ≤ g.2.2.2) ∧
    (g.1 = b.1 ∨ ∃ k, k * 3 + 2 < l.length ∧ l.getD (k * 3 + 1) 0 = g.1) ∧ (g.2.1 = b.2.1 ∨ ∃ k, k * 3 + 2 < l.length ∧ l.getD (k * 3 + 1) 0 = g.2.1) ∧
    (g.2.2.1 = b.2.2.1 ∨ ∃ k, k * 3 + 2 < l.length ∧ l.getD (k * 3 + 2) 0 = g.2.2.1) ∧ (g.2.2.2 = b.2.2.2 ∨ ∃ k, k * 3 + 2 < l.length ∧ l.getD (k * 3 + 2) 0 = g.2.2.2)
  | [], b, g, h, _, _ => by
    obtain rfl : b = g := h
    exact ⟨by omega, by omega, by omega, by omega, fun k hk => by simp at hk <;> omega, .inl rfl, .inl rfl, .inl rfl, .inl rfl⟩
  | [_], b, g, h, _, _ => by
    obtain rfl : b = g := h
    exact ⟨by omega, by omega, by omega, by omega, fun k hk => by simp at hk <;> omega, .inl rfl, .inl rfl, .inl rfl, .inl rfl⟩
  | [_, _], b, g, h, _, _ => by
    obtain rfl : b = g := h
    exact ⟨by omega, by omega, by omega, by omega, fun k hk => by simp at hk <;> omega, .inl rfl, .inl rfl, .inl rfl, .inl rfl⟩
  | i :: x :: y :: l, (x1, x2, y1, y2), (g1, g2, g3, g4), h, h1, h2 => by
    have ih := aroundF_has l (minI x1 x, maxI x2 x, minI y1 y, maxI y2 y) (g1, g2, g3, g4) h (by simp only [minI_eq, maxI_eq] at *; omega) (by simp only [minI_eq, maxI_eq] at *; omega)
    simp only [minI_eq, maxI_eq] at ih h1 h2 ⊢
    obtain ⟨a1, a2, a3, a4, a5, a6, a7, a8, a9⟩ := ih
    have q : g1 ≤ x1 ∧ g1 ≤ x ∧ x2 ≤ g2 ∧ x ≤ g2 ∧ g3 ≤ y1 ∧ g3 ≤ y ∧ y2 ≤ g4 ∧ y ≤ g4 := by
      clear a5 a6 a7 a8 a9
      omega
    have up : ∀ (o : Nat) (g : Int), (∃ k, k * 3 + 2 < l.length ∧ l.getD (k * 3 + o) 0 = g) → ∃ k, k * 3 + 2 < (i :: x :: y :: l).length ∧ (i :: x :: y :: l).getD (k * 3 + o) 0 = g := by
      rintro o g ⟨k, hk, e⟩
      refine ⟨k + 1, by simp; omega, ?_⟩
      rw [show (k + 1) * 3 + o = k * 3 + o + 1 + 1 + 1 by omega]
      simpa using e
    have here1 : ∃ k, k * 3 + 2 < (i :: x :: y :: l).length ∧ (i :: x :: y :: l).getD (k * 3 + 1) 0 = x := ⟨0, by simp, by simp⟩
    have here2 : ∃ k, k * 3 + 2 < (i :: x :: y :: l).length ∧ (i :: x :: y :: l).getD (k * 3 + 2) 0 = y := ⟨0, by simp, by simp⟩
    refine ⟨q.1, q.2.2.1, q.2.2.2.2.1, q.2.2.2.2.2.2.1, ?_, ?_, ?_, ?_, ?_⟩
    · intro k hk
      match k with
      | 0 => exact ⟨q.2.1, q.2.2.2.1, q.2.2.2.2.2.1, q.2.2.2.2.2.2.2⟩
      | k + 1 =>
        have := a5 k (by simp at hk; omega)
        rw [show (k + 1) * 3 + 1 = k * 3 + 1 + 1 + 1 + 1 by omega, show (k + 1) * 3 + 2 = k * 3 + 2 + 1 + 1 + 1 by omega]
        simpa using this
    · rcases a6 with e | e
      · rcases (by clear a5 a7 a8 a9 up here1 here2; omega : g1 = x1 ∨ g1 = x) with e2 | e2
        · exact .inl e2
        · exact .inr (by rw [e2]; exact here1)
      · exact .inr (up 1 g1 e)
    · rcases a7 with e | e
      · rcases (by clear a5 a6 a8 a9 up here1 here2; omega : g2 = x2 ∨ g2 = x) with e2 | e2
        · exact .inl e2
        · exact .inr (by rw [e2]; exact here1)
      · exact .inr (up 1 g2 e)
    · rcases a8 with e | e
      · rcases (by clear a5 a6 a7 a9 up here1 here2; omega : g3 = y1 ∨ g3 = y) with e2 | e2
        · exact .inl e2
        · exact .inr (by rw [e2]; exact here2)
      · exact .inr (up 2 g3 e)
    · rcases a9 with e | e
      · rcases (by clear a5 a6 a7 a8 up here1 here2; omega : g4 = y2 ∨ g4 = y) with e2 | e2
        · exact .inl e2
        · exact .inr (by rw [e2]; exact here2)
      · exact .inr (up 2 g4 e)

theorem seen_mk {l : List Int} {o : Nat} {f : Int} {n k : Nat} (hk : k < n) (h : l.getD (k * 3 + o) 0 = f) : seen l o f n = true := by
  unfold seen
  rw [List.any_eq_true]
  exact ⟨k, List.mem_range.2 hk, by simpa using h⟩

/-- What the box about points has, and which side each has, of all of them. -/
theorem around_all {ns rest : List Int} {p0 x0 y0 f1 f2 f3 f4 : Int} {n : Nat} (hns : ns = p0 :: x0 :: y0 :: rest) (hl : ns.length = n * 3) (hf : aroundF rest (x0, x0, y0, y0) = (f1, f2, f3, f4)) :
    (∀ k, k < n → hasB f1 f2 f3 f4 (ns.getD (k * 3 + 1) 0) (ns.getD (k * 3 + 2) 0) = true) ∧ seen ns 1 f1 n = true ∧ seen ns 1 f2 n = true ∧ seen ns 2 f3 n = true ∧ seen ns 2 f4 n = true := by
  obtain ⟨a1, a2, a3, a4, a5, a6, a7, a8, a9⟩ := aroundF_has rest (x0, x0, y0, y0) (f1, f2, f3, f4) hf (Int.le_refl _) (Int.le_refl _)
  simp only at a1 a2 a3 a4 a5 a6 a7 a8 a9
  subst hns
  have hr : rest.length = (n - 1) * 3 := by simp at hl; omega
  have hn : 0 < n := by simp at hl; omega
  have here : ∀ (o : Nat) (g : Int), (∃ k, k * 3 + 2 < rest.length ∧ rest.getD (k * 3 + o) 0 = g) → seen (p0 :: x0 :: y0 :: rest) o g n = true := by
    rintro o g ⟨k, hk, e⟩
    refine seen_mk (k := k + 1) (by omega) ?_
    rw [show (k + 1) * 3 + o = k * 3 + o + 1 + 1 + 1 by omega]
    simpa using e
  refine ⟨fun k hk => ?_, ?_, ?_, ?_, ?_⟩
  · match k with
    | 0 => simp [hasB, inB]; exact ⟨⟨a1, a2⟩, a3, a4⟩
    | k + 1 =>
      have h9 := a5 k (by omega)
      rw [show (k + 1) * 3 + 1 = k * 3 + 1 + 1 + 1 + 1 by omega, show (k + 1) * 3 + 2 = k * 3 + 2 + 1 + 1 + 1 by omega]
      simp only [List.getD_cons_succ]
      simp only [hasB, inB, Bool.and_eq_true, decide_eq_true_eq]
      exact ⟨⟨h9.1, h9.2.1⟩, h9.2.2.1, h9.2.2.2⟩
  · rcases a6 with e | e
    · exact seen_mk (k := 0) hn (by simp [e])
    · exact here 1 f1 e
  · rcases a7 with e | e
    · exact seen_mk (k := 0) hn (by simp [e])
    · exact here 1 f2 e
  · rcases a8 with e | e
    · exact seen_mk (k := 0) hn (by simp [e])
    · exact here 2 f3 e
  · rcases a9 with e | e
    · exact seen_mk (k := 0) hn (by simp [e])
    · exact here 2 f4 e

end Go.Proofs.Ytlkhnhahepehkaa
