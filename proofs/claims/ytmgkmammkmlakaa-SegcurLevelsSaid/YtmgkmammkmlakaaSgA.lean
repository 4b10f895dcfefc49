/- The references' sets of intervals, and of numbers. -/
import Derived.Test.YtmgkmammkmlakaaSgX
import Derived.Test.YtmgkmammkmlakaaRef
namespace Go.Proofs.Ytmgkmammkmlakaa
set_option linter.unusedVariables false
set_option linter.unusedSimpArgs false
set_option maxRecDepth 100000

theorem pt_list' (p q : Pt) : [p.id, p.x, p.y] = [q.id, q.x, q.y] ↔ p = q := by
  obtain ⟨a, b, c⟩ := p
  obtain ⟨d, e, f⟩ := q
  simp
theorem idxOf_take (p : Pt) : ∀ (l : List Pt) (k : Nat), l[k]? = some p → p ∉ l.take k → l.idxOf p = k
  | [], k, h, _ => by simp at h
  | a :: l, 0, h, _ => by simp at h; subst h; simp
  | a :: l, k + 1, h, hn => by
    simp only [List.take_succ_cons, List.mem_cons, not_or] at hn
    have : (a == p) = false := by simpa using Ne.symm hn.1
    rw [List.idxOf_cons, this]
    simp only [cond_false]
    rw [idxOf_take p l k (by simpa using h) hn.2]
theorem erase_at (p : Pt) : ∀ (l : List Pt), p ∈ l → l.take (l.idxOf p) ++ l.drop (l.idxOf p + 1) = l.erase p
  | [], h => by cases h
  | a :: l, h => by
    by_cases e : a = p
    · subst e; simp
    · have : (a == p) = false := by simpa using e
      have e2 : (a :: l).idxOf p = l.idxOf p + 1 := by rw [List.idxOf_cons, this]; rfl
      rw [e2, List.erase_cons_tail (by simpa using e)]
      have := erase_at p l ((List.mem_cons.1 h).resolve_left (fun h' => e h'.symm))
      simp only [List.take_succ_cons, List.drop_succ_cons, List.cons_append, this]
def atS (l : List Pt) (p : Pt) : Int := if p ∈ l then (l.idxOf p : Nat) else -1
theorem atS_nn (l : List Pt) (p : Pt) : 0 ≤ atS l p ↔ p ∈ l := by
  unfold atS; split <;> simp_all
def insK (most : Int) (k : List Pt) (s : Pt) : List Pt := if insE most k s = 0 then k ++ [s] else k
def AdI (A : Option Addr) (c : Nat) (m : List Int) : Prop := (0 < m.length → ∃ b, A = some ⟨b, 0, none⟩) ∧ m.length ≤ c
theorem low_put {o : List Int} {v : Int} (hu : Up o) (hv : v ∉ o) : Up (o.take (low o v) ++ [v] ++ o.drop (low o v)) := by
  have h1 : ∀ y ∈ o.take (low o v), y < v := fun y hy => by
    obtain ⟨j, hj⟩ := List.getElem?_of_mem hy
    have hlt : j < low o v := by
      have := (List.getElem?_eq_some_iff.1 hj).1
      rw [List.length_take] at this; omega
    rw [List.getElem?_take_of_lt hlt] at hj
    exact (low_at o v hu j y hj).2 hlt
  have h2 : ∀ y ∈ o.drop (low o v), v < y := fun y hy => by
    obtain ⟨j, hj⟩ := List.getElem?_of_mem hy
    rw [List.getElem?_drop] at hj
    have h3 := low_at o v hu _ y hj
    have h4 : y ≠ v := fun e => hv (e ▸ List.mem_of_getElem? hj)
    have h5 : ¬ y < v := fun h => by have := h3.1 h; omega
    omega
  have h3 : Up (o.take (low o v) ++ o.drop (low o v)) := by rw [List.take_append_drop]; exact hu
  unfold Up at h3 ⊢
  rw [List.pairwise_append] at h3
  rw [List.append_assoc, List.pairwise_append]
  refine ⟨h3.1, ?_, ?_⟩
  · rw [List.singleton_append, List.pairwise_cons]; exact ⟨h2, h3.2.1⟩
  · intro a ha b hb
    rcases List.mem_append.1 hb with hb | hb
    · simp at hb; subst hb; exact h1 a ha
    · exact h3.2.2 a ha b hb
end Go.Proofs.Ytmgkmammkmlakaa
