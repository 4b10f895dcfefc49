/- Trees that are heaps by Y: all that a window sees. -/
import Derived.Test.YtalcanejhniepaaPst8
import Derived.Test.YtalcanejhniepaaOrd
import Derived.Test.YtalcanejhniepaaSortC
namespace Go.Proofs.Ytalcanejhniepaa
set_option linter.unusedVariables false
set_option linter.unusedSimpArgs false
set_option maxRecDepth 100000

def PA.id : PA → Int
  | .nil => 0
  | .node _ p _ _ _ => p.id
def PA.seen (w : Wn) : PA → List Int
  | .nil => []
  | .node _ p s lo hi => (if w.sees p.x p.y then [p.id] else []) ++ (if p.y < w.y then [] else (if !lo.isN && decide (w.x1 ≤ s.x) then lo.seen w else []) ++ (if !hi.isN && decide (s.x ≤ w.x2) then hi.seen w else []))
def seenL (w : Wn) (l : List PA) : List Int := l.flatMap (PA.seen w)
theorem PA.seen_eq (w : Wn) (x : PA) : x.seen w = (if x.hit w then [x.id] else []) ++ seenL w (x.next w) := by
  cases x with
  | nil => rfl
  | node b p s lo hi =>
    simp only [PA.seen, PA.hit, PA.id, PA.next, PA.next1, PA.next2, seenL]
    congr 1
    by_cases hy : p.y < w.y
    · simp [hy]
    · simp only [hy, if_false, List.flatMap_append]
      congr 1 <;> split <;> simp
def wt (l : List PA) : Nat := (l.map fun x => 2 * x.t.size + 1).sum
theorem wt_cons (x : PA) (l : List PA) : wt (x :: l) = 2 * x.t.size + 1 + wt l := by simp [wt]
theorem wt_append (l m : List PA) : wt (l ++ m) = wt l + wt m := by simp [wt]
theorem PA.wt_next (w : Wn) (x : PA) : wt (x.next w) ≤ 2 * x.t.size := by
  cases x with
  | nil => simp [PA.next, PA.next1, PA.next2, wt]
  | node b p s lo hi =>
    unfold PA.next
    rw [wt_append]
    have h1 : wt ((PA.node b p s lo hi).next1 w) ≤ 2 * lo.t.size + 1 := by
      simp only [PA.next1]
      split
      · simp [wt]
      · split
        · simp [wt]
        · simp [wt]
    have h2 : wt ((PA.node b p s lo hi).next2 w) ≤ 2 * hi.t.size + 1 := by
      simp only [PA.next2]
      split
      · simp [wt]
      · split
        · simp [wt]
        · simp [wt]
    simp only [PA.t, PT.size]
    omega
theorem PA.seen_len (w : Wn) : ∀ x : PA, (x.seen w).length ≤ x.t.size
  | .nil => Nat.le_refl _
  | .node b p s lo hi => by
    have h1 := seen_len w lo
    have h2 := seen_len w hi
    simp only [PA.seen, PA.t, PT.size, List.length_append]
    have a1 : (if w.sees p.x p.y then [p.id] else []).length ≤ 1 := by split <;> simp
    have a2 : (if p.y < w.y then [] else (if !lo.isN && decide (w.x1 ≤ s.x) then lo.seen w else []) ++ (if !hi.isN && decide (s.x ≤ w.x2) then hi.seen w else [])).length ≤ lo.t.size + hi.t.size := by
      split
      · simp
      · rw [List.length_append]
        have b1 : (if !lo.isN && decide (w.x1 ≤ s.x) then lo.seen w else []).length ≤ lo.t.size := by split <;> (try simp) <;> (try omega)
        have b2 : (if !hi.isN && decide (s.x ≤ w.x2) then hi.seen w else []).length ≤ hi.t.size := by split <;> (try simp) <;> (try omega)
        omega
    omega
theorem seenL_len (w : Wn) (l : List PA) : (seenL w l).length ≤ wt l := by
  induction l with
  | nil => simp [seenL]
  | cons x l ih =>
    have := x.seen_len w
    rw [wt_cons]
    simp only [seenL, List.flatMap_cons, List.length_append] at *
    omega
theorem seenL_take (w : Wn) (l : List PA) (k : Nat) (x : PA) (h : l[k]? = some x) : seenL w (l.take (k + 1)) = seenL w (l.take k) ++ x.seen w := by
  obtain ⟨h1, h2⟩ := List.getElem?_eq_some_iff.1 h
  unfold seenL
  rw [List.take_succ_eq_append_getElem h1, h2, List.flatMap_append]
  simp
theorem next_in {L : List HP} {x : PA} (w : Wn) (h : PIn L x) : ∀ y ∈ x.next w, PIn L y := by
  cases x with
  | nil => intro y hy; simp [PA.next, PA.next1, PA.next2] at hy
  | node b p s lo hi =>
    intro y hy
    simp only [PA.next, PA.next1, PA.next2] at hy
    rcases List.mem_append.1 hy with hy | hy
    · split at hy
      · cases hy
      · split at hy
        · rw [List.mem_singleton] at hy; subst hy; exact h.2.1
        · cases hy
    · split at hy
      · cases hy
      · split at hy
        · rw [List.mem_singleton] at hy; subst hy; exact h.2.2
        · cases hy
end Go.Proofs.Ytalcanejhniepaa
