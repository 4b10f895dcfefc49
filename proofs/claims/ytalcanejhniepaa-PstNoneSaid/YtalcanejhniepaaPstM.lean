/- Trees that are heaps by Y: the plain part. -/
import Derived.Test.YtalcanejhniepaaPst2
namespace Go.Proofs.Ytalcanejhniepaa
set_option linter.unusedVariables false
set_option linter.unusedSimpArgs false

theorem und_irrefl (p : Pt) : und p p = false := by simp [und, up, Pt.cmp]
theorem beh_false (q s : Pt) : beh q s = false ↔ s.less q = false := by
  unfold beh
  rw [decide_eq_false_iff_not]
  exact Pt.cmp_le q s
theorem beh_true (q s : Pt) : beh q s = true ↔ s.less q = true := by
  unfold beh
  rw [decide_eq_true_eq]
  exact Pt.cmp_gt q s
theorem less_of_beh {a b s : Pt} (h1 : beh a s = false) (h2 : beh b s = true) : a.less b = true := by
  rw [beh_false] at h1
  rw [beh_true] at h2
  by_cases e : s = a
  · subst e; exact h2
  · exact Pt.less_trans (Pt.less_total e h1) h2
theorem und_iff (p q : Pt) : und p q = true ↔ p.turned.less q.turned = true := by
  unfold und up
  rw [decide_eq_true_eq]
  unfold Pt.cmp
  by_cases h : p.turned = q.turned
  · simp [h, Pt.less_irrefl]
  · by_cases k : p.turned.less q.turned = true
    · simp [h, k]
    · have k' : p.turned.less q.turned = false := by simpa using k
      simp [h, k']
theorem turned_inj {p q : Pt} (h : p.turned = q.turned) : p = q := by
  obtain ⟨a, b, c⟩ := p
  obtain ⟨d, e, f⟩ := q
  simp [Pt.turned] at h
  simp [h]
theorem und_trans {p q r : Pt} (h : und p q = true) (k : und q r = true) : und p r = true := by
  rw [und_iff] at *; exact Pt.less_trans h k
theorem und_asymm {p q : Pt} (h : und p q = true) : und q p = false := by
  cases k : und q p with
  | false => rfl
  | true => rw [und_iff] at *; rw [Pt.less_asymm h] at k; cases k
theorem und_total {p q : Pt} (h : p ≠ q) (k : und p q = false) : und q p = true := by
  rw [und_iff]
  refine Pt.less_total (fun e => h (turned_inj e)) ?_
  cases k2 : p.turned.less q.turned with
  | false => rfl
  | true => rw [← und_iff] at k2; rw [k2] at k; cases k
theorem und_ne {p q : Pt} (h : und p q = true) : p ≠ q := fun e => by subst e; rw [und_irrefl] at h; cases h

/-- All points of a tree; and in order. -/
def PT.els : PT → List Pt
  | .nil => []
  | .node p _ lo hi => p :: (lo.els ++ hi.els)
def PT.pts : PT → List Pt
  | .nil => []
  | .node p _ lo hi => putP p (lo.pts ++ hi.pts)
/-- All points lie on their sides, and none lies above the one above it. -/
def PT.Ok : PT → Prop
  | .nil => True
  | .node p s lo hi => lo.Ok ∧ hi.Ok ∧ (∀ q ∈ lo.els, beh q s = false) ∧ (∀ q ∈ hi.els, beh q s = true) ∧ (∀ q ∈ lo.els ++ hi.els, und q p = true)
theorem PT.els_length : ∀ t : PT, t.els.length = t.size
  | .nil => rfl
  | .node p s lo hi => by simp only [PT.els, PT.size, List.length_cons, List.length_append, els_length lo, els_length hi]; omega
theorem PT.pts_perm : ∀ t : PT, t.pts.Perm t.els
  | .nil => .refl _
  | .node p s lo hi => (putP_perm p _).trans (((pts_perm lo).append (pts_perm hi)).cons p)
theorem PT.pts_length (t : PT) : t.pts.length = t.size := by rw [t.pts_perm.length_eq, t.els_length]
theorem PT.kids_asc {p s : Pt} {lo hi : PT} (h : (PT.node p s lo hi).Ok) (h1 : Asc lo.pts) (h2 : Asc hi.pts) : Asc (lo.pts ++ hi.pts) :=
  Asc.append h1 h2 fun a ha b hb => less_of_beh (h.2.2.1 a (lo.pts_perm.subset ha)) (h.2.2.2.1 b (hi.pts_perm.subset hb))
theorem PT.top_new {p s : Pt} {lo hi : PT} (h : (PT.node p s lo hi).Ok) : p ∉ lo.pts ++ hi.pts := fun hp => by
  have : p ∈ lo.els ++ hi.els := by
    rcases List.mem_append.1 hp with h' | h'
    · exact List.mem_append.2 (.inl (lo.pts_perm.subset h'))
    · exact List.mem_append.2 (.inr (hi.pts_perm.subset h'))
  exact und_ne (h.2.2.2.2 p this) rfl
theorem PT.pts_asc : ∀ {t : PT}, t.Ok → Asc t.pts
  | .nil, _ => List.Pairwise.nil
  | .node p s lo hi, h => putP_asc p _ (PT.kids_asc h (pts_asc h.1) (pts_asc h.2.1)) (PT.top_new h)
theorem PT.els_nodup {t : PT} (h : t.Ok) : t.els.Nodup := t.pts_perm.nodup_iff.1 (PT.pts_asc h).nodup
end Go.Proofs.Ytalcanejhniepaa
