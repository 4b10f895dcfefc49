/- slices.Sort of numbers, as a contract over parts of the heap. -/
import Derived.Test.YtmgkmammkmlakaaApp
import Derived.Sort.Grow
namespace Go.Proofs.Ytmgkmammkmlakaa
open Go.RowKit Go.Sort
set_option linter.unusedVariables false
set_option linter.unusedSimpArgs false

def srt (l : List Int) : List Int := l.mergeSort fun x y => decide (x ≤ y)
/-- The shelf's contract of slices.Sort gives one over parts of the heap. -/
theorem sort_of_shelf {P : Program} {f : FuncId} {e : TypeId} (b n c : Nat) (zs : List Int) (L : List HP) (hn : zs.length = n) (h0 : 0 < n)
    (h : ∀ w, Holds (Value.int .i64) w b 0 zs.toArray → b < w.heap.size → Calls P f #[.slice (some ⟨b, 0, none⟩) zs.length c] w fun en w' =>
      en = .returned (.tuple #[]) ∧ ∃ k os, w' = grow (putRow (Value.int .i64) (Sort.ahead w k) b 0 (zs.mergeSort fun x y => decide (x ≤ y)).toArray) os) :
    Ctr P f #[.slice (some ⟨b, 0, none⟩) n c] (own e 1 (some ⟨b, 0, none⟩) n c (flat zs) :: L) fun v L' => v = .tuple #[] ∧ L' = own e 1 (some ⟨b, 0, none⟩) n c (flat (srt zs)) :: L := by
  intro g F w hw
  have hfl : ∀ l : List Int, flat l = l.map (Value.int .i64) := fun l => by induction l with
    | nil => rfl
    | cons a l ih => rw [flat_cons, ih]; rfl
  have hw2 : Hp g (own e 1 (some ⟨b, 0, none⟩) n c (flat zs) :: F :: L) w := hw.mono fun _ s => s.swap
  obtain ⟨k1, k2, dj, s1, s2, ⟨o1, o2, o3, o4⟩, l⟩ := hw2.s
  rcases o4 with ⟨e1, _⟩ | ⟨b', cur, e1, e2, e3, e4⟩
  · cases e1
  simp only [Option.some.injEq, Addr.mk.injEq, and_true] at e1
  subst e1
  have hb : w.heap[b]? = some (.cells cur e (0, 0)) := s1 _ _ e2
  have hlt : b < w.heap.size := (Array.getElem?_eq_some_iff.1 hb).1
  rw [Nat.mul_one] at e3 e4
  have hcur : ∀ j, j < n → cur[j]? = some (.int .i64 (zs.getD j 0)) := fun j hj => by
    have : (flat zs)[j]? = some (.int .i64 (zs.getD j 0)) := by rw [hfl]; simp [show j < zs.length by omega]
    rw [← e4, List.getElem?_take_of_lt hj] at this
    simpa using this
  have hH : Holds (Value.int .i64) w b 0 zs.toArray := fun j hj => by
    have hj' : j < n := by simpa [hn] using hj
    refine ⟨?_, by simp [World.frozen?, hb]⟩
    rw [Nat.zero_add]
    simp only [World.cell?, hb]
    rw [if_neg (by simp), hcur j hj']
    simp [show j < zs.length by omega]
  rw [← hn]
  refine (h w hH hlt).mono fun en w' ⟨q1, k, os, q2⟩ => ⟨_, _, q1, ⟨rfl, rfl⟩, ?_⟩
  refine Hp.mono (L := own e 1 (some ⟨b, 0, none⟩) zs.length c (flat (srt zs)) :: F :: L) (fun _ s => s.swap) ?_
  rw [hn]
  have hsl : (srt zs).length = n := by rw [srt, List.length_mergeSort, hn]
  have hheap : w'.heap = w.heap.modify b (onCells (putCells (Value.int .i64) 0 (srt zs).toArray)) ++ os := by rw [q2]; rfl
  have hne : ∀ j, j < w.heap.size → j ≠ b → w'.heap[j]? = w.heap[j]? := fun j hj hjb => by
    rw [hheap, Array.getElem?_append_left (by simpa using hj), Array.getElem?_modify, if_neg (Ne.symm hjb)]
  have hbb : w'.heap[b]? = some (.cells (putCells (Value.int .i64) 0 (srt zs).toArray cur) e (0, 0)) := by
    rw [hheap, Array.getElem?_append_left (by simpa using hlt), Array.getElem?_modify, if_pos rfl, hb]; rfl
  refine ⟨by rw [← hw.g, q2]; rfl, fun j => if j = b then some (.cells (putCells (Value.int .i64) 0 (srt zs).toArray cur) e (0, 0)) else none, k2, fun j => ?_, fun j o eo => ?_, fun j o eo => ?_, ⟨by rw [flat_length, hsl]; rfl, o2, o3, .inr ⟨b, putCells (Value.int .i64) 0 (srt zs).toArray cur, rfl, by simp, by simp [putCells, e3], ?_⟩⟩, l⟩
  · by_cases hj : j = b
    · right
      rcases dj j with h9 | h9
      · rw [hj, e2] at h9; cases h9
      · exact h9
    · left; simp [hj]
  · replace eo : (if j = b then some (Obj.cells (putCells (Value.int .i64) 0 (srt zs).toArray cur) e (0, 0)) else none) = some o := eo
    by_cases hj : j = b
    · subst hj; rw [if_pos rfl] at eo; rw [← eo]; exact hbb
    · rw [if_neg hj] at eo; cases eo
  · have hj : j ≠ b := fun hj => by
      rcases dj j with h9 | h9
      · rw [hj, e2] at h9; cases h9
      · rw [h9] at eo; cases eo
    have hlt2 : j < w.heap.size := by
      have := s2 _ _ eo
      rcases Nat.lt_or_ge j w.heap.size with h' | h'
      · exact h'
      · simp [World.hm, Array.getElem?_eq_none h'] at this
    show w'.heap[j]? = _
    rw [hne j hlt2 hj]; exact s2 _ _ eo
  · rw [hfl, Nat.mul_one]
    apply List.ext_getElem?
    intro j
    by_cases hj : j < n
    · rw [List.getElem?_take_of_lt hj]
      have hjc : j < cur.size := by omega
      simp [putCells, hjc, hj, hsl, show j < (srt zs).length by omega]
    · rw [List.getElem?_eq_none (by simp; omega), List.getElem?_eq_none (by simp; omega)]
end Go.Proofs.Ytmgkmammkmlakaa
