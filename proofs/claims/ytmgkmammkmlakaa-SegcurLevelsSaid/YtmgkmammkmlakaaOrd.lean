/- Numbers in order. -/
import Derived.Test.YtmgkmammkmlakaaRef
import Derived.Test.YtmgkmammkmlakaaSort
namespace Go.Proofs.Ytmgkmammkmlakaa
theorem eq_of_sorted : ∀ (l m : List Int), l.Perm m → l.Pairwise (· ≤ ·) → m.Pairwise (· ≤ ·) → l = m
  | [], m, p, _, _ => by simpa using p.symm.eq_nil
  | a :: l, [], p, _, _ => by simpa using p.eq_nil
  | a :: l, b :: m, p, h1, h2 => by
    rw [List.pairwise_cons] at h1 h2
    have e : a = b := by
      have ha : a ∈ b :: m := p.subset (by simp)
      have hb : b ∈ a :: l := p.symm.subset (by simp)
      rcases List.mem_cons.1 ha with h | h
      · exact h
      · rcases List.mem_cons.1 hb with h' | h'
        · exact h'.symm
        · exact Int.le_antisymm (h1.1 _ h') (h2.1 _ h)
    subst e
    rw [eq_of_sorted l m p.cons_inv h1.2 h2.2]
theorem srt_perm (l : List Int) : (srt l).Perm l := List.mergeSort_perm l _
theorem srt_sorted (l : List Int) : (srt l).Pairwise (· ≤ ·) := by
  have := List.pairwise_mergeSort (le := fun x y : Int => decide (x ≤ y)) (fun a b c h1 h2 => by simp at *; omega) (fun a b => by simp; omega) l
  exact this.imp fun h => by simpa using h
theorem ins_perm (x : Int) (l : List Int) : (ins x l).Perm (x :: l) := by
  unfold ins
  refine List.perm_middle.trans ?_
  rw [List.takeWhile_append_dropWhile]
theorem ins_sorted (x : Int) (l : List Int) (h : l.Pairwise (· ≤ ·)) : (ins x l).Pairwise (· ≤ ·) := by
  induction l with
  | nil => simp [ins]
  | cons a l ih =>
    rw [List.pairwise_cons] at h
    by_cases ha : a ≤ x
    · have e : ins x (a :: l) = a :: ins x l := by simp [ins, ha]
      rw [e, List.pairwise_cons]
      refine ⟨fun b hb => ?_, ih h.2⟩
      rcases List.mem_cons.1 ((ins_perm x l).subset hb) with h' | h'
      · rw [h']; exact ha
      · exact h.1 _ h'
    · have e : ins x (a :: l) = x :: a :: l := by simp [ins, ha]
      rw [e, List.pairwise_cons]
      refine ⟨fun b hb => ?_, by rw [List.pairwise_cons]; exact h⟩
      rcases List.mem_cons.1 hb with h' | h'
      · rw [h']; omega
      · have := h.1 _ h'; omega
theorem rising_fold (l o : List Int) (ho : o.Pairwise (· ≤ ·)) : (l.foldl (fun o x => ins x o) o).Pairwise (· ≤ ·) ∧ (l.foldl (fun o x => ins x o) o).Perm (o ++ l) := by
  induction l generalizing o with
  | nil => exact ⟨ho, by simp⟩
  | cons a l ih =>
    obtain ⟨h1, h2⟩ := ih (ins a o) (ins_sorted a o ho)
    refine ⟨h1, h2.trans ?_⟩
    refine ((ins_perm a o).append_right l).trans ?_
    exact (List.perm_middle (l₁ := o) (l₂ := l) (a := a)).symm
theorem rising_perm (l : List Int) : (rising l).Perm l := by simpa [rising] using (rising_fold l [] .nil).2
theorem rising_srt (l m : List Int) (h : l.Perm m) : rising l = srt m :=
  eq_of_sorted _ _ ((rising_perm l).trans (h.trans (srt_perm m).symm)) (rising_fold l [] .nil).1 (srt_sorted m)
end Go.Proofs.Ytmgkmammkmlakaa
