/- Points in order. -/
import Derived.Test.YtcdafmmfcjbodaaRSort
namespace Go.Proofs.Ytcdafmmfcjbodaa
set_option linter.unusedVariables false
set_option linter.unusedSimpArgs false
def leP (p q : Pt) : Prop := p.y < q.y ∨ (p.y = q.y ∧ (p.x < q.x ∨ (p.x = q.x ∧ p.id ≤ q.id)))
theorem up_leP (p q : Pt) : up p q ≤ 0 ↔ leP p q := by
  rw [← three_up]
  unfold three leP
  by_cases h1 : p.y < q.y
  · simp [h1]
  · by_cases h2 : q.y < p.y
    · simp [h1, h2] <;> omega
    · by_cases h3 : p.x < q.x
      · simp [h1, h2, h3] <;> omega
      · by_cases h4 : q.x < p.x
        · simp [h1, h2, h3, h4] <;> omega
        · by_cases h5 : p.id < q.id
          · simp [h1, h2, h3, h4, h5] <;> omega
          · by_cases h6 : q.id < p.id
            · simp [h1, h2, h3, h4, h5, h6] <;> omega
            · simp [h1, h2, h3, h4, h5, h6] <;> omega
theorem leP_trans {p q r : Pt} (h1 : leP p q) (h2 : leP q r) : leP p r := by unfold leP at *; omega
theorem leP_anti {p q : Pt} (h1 : leP p q) (h2 : leP q p) : p = q := by
  obtain ⟨a, b, c⟩ := p
  obtain ⟨d, e, f⟩ := q
  unfold leP at *
  simp only at *
  simp only [Pt.mk.injEq]
  omega
theorem leP_total (p q : Pt) : leP p q ∨ leP q p := by unfold leP; omega
theorem eq_of_sortedP : ∀ (l m : List Pt), l.Perm m → l.Pairwise leP → m.Pairwise leP → l = m
  | [], m, p, _, _ => by simpa using p.symm.eq_nil
  | a :: l, [], p, _, _ => by simpa using p.eq_nil
  | a :: l, b :: m, p, h1, h2 => by
    rw [List.pairwise_cons] at h1 h2
    have e : a = b := by
      have ha : a ∈ b :: m := p.subset (by simp)
      have hb : b ∈ a :: l := p.symm.subset (by simp)
      rcases List.mem_cons.1 ha with h | h
      · exact h
      · rcases List.mem_cons.1 hb with h' | h'
        · exact h'.symm
        · exact leP_anti (h1.1 _ h') (h2.1 _ h)
    subst e
    rw [eq_of_sortedP l m p.cons_inv h1.2 h2.2]
theorem insP_perm (x : Pt) (l : List Pt) : (insP x l).Perm (x :: l) := by
  unfold insP
  refine List.perm_middle.trans ?_
  rw [List.takeWhile_append_dropWhile]
theorem insP_sorted (x : Pt) (l : List Pt) (h : l.Pairwise leP) : (insP x l).Pairwise leP := by
  induction l with
  | nil => simp [insP]
  | cons a l ih =>
    rw [List.pairwise_cons] at h
    by_cases ha : leU x a = true
    · have ha' : leP a x := (up_leP _ _).1 (by simpa [leU] using ha)
      have e : insP x (a :: l) = a :: insP x l := by simp [insP, ha]
      rw [e, List.pairwise_cons]
      refine ⟨fun b hb => ?_, ih h.2⟩
      rcases List.mem_cons.1 ((insP_perm x l).subset hb) with h' | h'
      · rw [h']; exact ha'
      · exact h.1 _ h'
    · have ha' : leP x a := (leP_total x a).resolve_right fun h9 => ha (by simpa [leU] using (up_leP _ _).2 h9)
      have e : insP x (a :: l) = x :: a :: l := by simp [insP, ha]
      rw [e, List.pairwise_cons]
      refine ⟨fun b hb => ?_, by rw [List.pairwise_cons]; exact h⟩
      rcases List.mem_cons.1 hb with h' | h'
      · rw [h']; exact ha'
      · exact leP_trans ha' (h.1 _ h')
theorem sortP_fold (l o : List Pt) (ho : o.Pairwise leP) : (l.foldl (fun o x => insP x o) o).Pairwise leP ∧ (l.foldl (fun o x => insP x o) o).Perm (o ++ l) := by
  induction l generalizing o with
  | nil => exact ⟨ho, by simp⟩
  | cons a l ih =>
    obtain ⟨h1, h2⟩ := ih (insP a o) (insP_sorted a o ho)
    refine ⟨h1, h2.trans ?_⟩
    refine ((insP_perm a o).append_right l).trans ?_
    exact (List.perm_middle (l₁ := o) (l₂ := l) (a := a)).symm
theorem sortP_perm (l : List Pt) : (sortP l).Perm l := by simpa [sortP] using (sortP_fold l [] .nil).2
theorem sortP_sorted (l : List Pt) : (sortP l).Pairwise leP := (sortP_fold l [] .nil).1
theorem mrg_perm : ∀ (i k : Int) (l m : List Pt), ((mrg i k l m).map (·.p)).Perm (l ++ m)
  | _, _, [], [] => by simp [mrg]
  | i, k, a :: l, [] => by rw [mrg, List.map_cons]; exact (mrg_perm _ _ _ _).cons a
  | i, k, [], b :: m => by rw [mrg, List.map_cons]; exact (mrg_perm _ _ _ _).cons b
  | i, k, a :: l, b :: m => by
    rw [mrg]
    split
    · rw [List.map_cons]; exact (mrg_perm _ _ _ _).cons a
    · rw [List.map_cons]
      exact ((mrg_perm i (k + 1) (a :: l) m).cons b).trans List.perm_middle.symm
  termination_by _ _ l m => l.length + m.length
theorem mrg_sorted : ∀ (i k : Int) (l m : List Pt), l.Pairwise leP → m.Pairwise leP → ((mrg i k l m).map (·.p)).Pairwise leP
  | _, _, [], [], _, _ => by simp [mrg]
  | i, k, a :: l, [], h1, h2 => by
    rw [List.pairwise_cons] at h1
    rw [mrg, List.map_cons, List.pairwise_cons]
    refine ⟨fun b hb => ?_, mrg_sorted _ _ _ _ h1.2 h2⟩
    have := (mrg_perm _ _ _ _).subset hb
    exact h1.1 _ (by simpa using this)
  | i, k, [], b :: m, h1, h2 => by
    rw [List.pairwise_cons] at h2
    rw [mrg, List.map_cons, List.pairwise_cons]
    refine ⟨fun c hc => ?_, mrg_sorted _ _ _ _ h1 h2.2⟩
    have := (mrg_perm _ _ _ _).subset hc
    exact h2.1 _ (by simpa using this)
  | i, k, a :: l, b :: m, h1, h2 => by
    have h1' := List.pairwise_cons.1 h1
    have h2' := List.pairwise_cons.1 h2
    rw [mrg]
    split
    · rename_i hu
      have hu' := (up_leP _ _).1 hu
      rw [List.map_cons, List.pairwise_cons]
      refine ⟨fun c hc => ?_, mrg_sorted _ _ _ _ h1'.2 h2⟩
      rcases List.mem_append.1 ((mrg_perm _ _ _ _).subset hc) with h | h
      · exact h1'.1 _ h
      · rcases List.mem_cons.1 h with h | h
        · rw [h]; exact hu'
        · exact leP_trans hu' (h2'.1 _ h)
    · rename_i hu
      have hu' : leP b a := (leP_total b a).resolve_right fun h9 => hu ((up_leP _ _).2 h9)
      rw [List.map_cons, List.pairwise_cons]
      refine ⟨fun c hc => ?_, mrg_sorted _ _ _ _ h1 h2'.2⟩
      rcases List.mem_append.1 ((mrg_perm _ _ _ _).subset hc) with h | h
      · rcases List.mem_cons.1 h with h | h
        · rw [h]; exact hu'
        · exact leP_trans hu' (h1'.1 _ h)
      · exact h2'.1 _ h
  termination_by _ _ l m => l.length + m.length
theorem made_sorted : ∀ (f : Nat) (l : List Pt), l.length ≤ 2 ^ f → (made f l).pts.Pairwise leP ∧ (made f l).pts.Perm l
  | 0, [], _ => ⟨.nil, .refl _⟩
  | 0, [p], _ => ⟨by simp [made, leaf, Arr.pts, Arr.es], .refl _⟩
  | 0, p :: q :: l, h => by simp at h
  | f + 1, [], _ => ⟨.nil, .refl _⟩
  | f + 1, [p], _ => ⟨by simp [made, leaf, Arr.pts, Arr.es], .refl _⟩
  | f + 1, p :: q :: l, h => by
    have e : made (f + 1) (p :: q :: l) = join (made f ((p :: q :: l).take ((p :: q :: l).length / 2))) (made f ((p :: q :: l).drop ((p :: q :: l).length / 2))) := rfl
    have h2 : (p :: q :: l).length ≤ 2 * 2 ^ f := by rw [Nat.pow_succ] at h; omega
    have h1 : (p :: q :: l).length ≥ 2 := by simp
    generalize p :: q :: l = L at *
    obtain ⟨a1, a2⟩ := made_sorted f (L.take (L.length / 2)) (by rw [List.length_take]; omega)
    obtain ⟨b1, b2⟩ := made_sorted f (L.drop (L.length / 2)) (by rw [List.length_drop]; omega)
    rw [e]
    unfold Arr.pts
    rw [join_es]
    refine ⟨mrg_sorted _ _ _ _ a1 b1, (mrg_perm _ _ _ _).trans ?_⟩
    refine (a2.append b2).trans ?_
    rw [List.take_append_drop]
theorem made_sortP (f : Nat) (l : List Pt) (h : l.length ≤ 2 ^ f) : (made f l).pts = sortP l :=
  eq_of_sortedP _ _ ((made_sorted f l h).2.trans (sortP_perm l).symm) (made_sorted f l h).1 (sortP_sorted l)
end Go.Proofs.Ytcdafmmfcjbodaa
