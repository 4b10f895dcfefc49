/- The references' lists of numbers. -/
import Derived.Test.YtmgkmammkmlakaaTy7
namespace Go.Proofs.Ytmgkmammkmlakaa
set_option linter.unusedVariables false
set_option linter.unusedSimpArgs false
set_option maxRecDepth 100000

/-- A number put in, behind those that are not greater. -/
def ins (x : Int) (l : List Int) : List Int := l.takeWhile (fun y => decide (y ≤ x)) ++ x :: l.dropWhile (fun y => decide (y ≤ x))
def rising (l : List Int) : List Int := l.foldl (fun o x => ins x o) []
theorem ins_length (x : Int) (l : List Int) : (ins x l).length = l.length + 1 := by
  unfold ins
  have := congrArg List.length (List.takeWhile_append_dropWhile (p := fun y => decide (y ≤ x)) (l := l))
  rw [List.length_append] at this
  rw [List.length_append, List.length_cons]
  omega
theorem ins_at (x : Int) (l : List Int) (k : Nat) (hk : k = (l.takeWhile (fun y => decide (y ≤ x))).length) : ins x l = l.take k ++ [x] ++ l.drop k := by
  have h := List.takeWhile_append_dropWhile (p := fun y => decide (y ≤ x)) (l := l)
  have h1 : l.take k = l.takeWhile (fun y => decide (y ≤ x)) := by
    conv => lhs; rw [← h]
    rw [hk, List.take_left]
  have h2 : l.drop k = l.dropWhile (fun y => decide (y ≤ x)) := by
    conv => lhs; rw [← h]
    rw [hk, List.drop_left]
  rw [h1, h2]
  simp [ins]
theorem tw_lt {p : Int → Bool} : ∀ {l : List Int} {k : Nat}, k < (l.takeWhile p).length → ∃ v, l[k]? = some v ∧ p v = true
  | [], k, h => by simp at h
  | a :: l, k, h => by
    rw [List.takeWhile_cons] at h
    cases ha : p a with
    | false => rw [ha] at h; simp at h
    | true =>
      rw [ha] at h
      cases k with
      | zero => exact ⟨a, rfl, ha⟩
      | succ k =>
        obtain ⟨v, h1, h2⟩ := tw_lt (l := l) (k := k) (by simpa using h)
        exact ⟨v, by simpa using h1, h2⟩
theorem tw_at {p : Int → Bool} : ∀ {l : List Int} {v : Int}, l[(l.takeWhile p).length]? = some v → p v = false
  | [], v, h => by simp at h
  | a :: l, v, h => by
    cases ha : p a with
    | false =>
      rw [List.takeWhile_cons, ha] at h
      simp at h; subst h; exact ha
    | true =>
      rw [List.takeWhile_cons, ha] at h
      exact tw_at (l := l) (by simpa using h)
end Go.Proofs.Ytmgkmammkmlakaa
