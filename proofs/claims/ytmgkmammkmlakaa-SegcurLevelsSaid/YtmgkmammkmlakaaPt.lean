/- Points in order: the plain part. -/
import Derived.Test.YtmgkmammkmlakaaCm
namespace Go.Proofs.Ytmgkmammkmlakaa
set_option linter.unusedVariables false
set_option linter.unusedSimpArgs false

theorem Pt.less_iff (p q : Pt) : p.less q = true ↔ (p.x < q.x ∨ p.x = q.x ∧ (p.y < q.y ∨ p.y = q.y ∧ p.id < q.id)) := by
  unfold Pt.less
  by_cases h1 : p.x = q.x
  · by_cases h2 : p.y = q.y
    · simp [h1, h2]
    · simp [h1, h2]
  · simp [h1]
theorem Pt.ext_iff' (p q : Pt) : p = q ↔ (p.id = q.id ∧ p.x = q.x ∧ p.y = q.y) := by
  obtain ⟨a, b, c⟩ := p
  obtain ⟨d, e, f⟩ := q
  simp
theorem Pt.less_irrefl (p : Pt) : p.less p = false := by
  cases h : p.less p with
  | false => rfl
  | true => rw [Pt.less_iff] at h; omega
theorem Pt.less_trans {p q r : Pt} (h : p.less q = true) (k : q.less r = true) : p.less r = true := by
  rw [Pt.less_iff] at *; omega
theorem Pt.less_asymm {p q : Pt} (h : p.less q = true) : q.less p = false := by
  cases k : q.less p with
  | false => rfl
  | true => rw [Pt.less_iff] at *; omega
theorem Pt.less_total {p q : Pt} (h : p ≠ q) (k : p.less q = false) : q.less p = true := by
  rw [Pt.less_iff]
  have k2 : ¬ p.less q = true := by rw [k]; simp
  rw [Pt.less_iff] at k2
  rw [ne_eq, Pt.ext_iff'] at h
  omega
theorem Pt.cmp_le (p q : Pt) : ¬ 0 < p.cmp q ↔ q.less p = false := by
  unfold Pt.cmp
  by_cases h : p = q
  · subst h; simp [Pt.less_irrefl]
  · by_cases k : p.less q = true
    · simp [h, k, Pt.less_asymm k]
    · have k' : p.less q = false := by simpa using k
      simp [h, k', Pt.less_total h k']
theorem Pt.cmp_gt (p q : Pt) : 0 < p.cmp q ↔ q.less p = true := by
  have := Pt.cmp_le p q
  constructor
  · intro h
    cases k : q.less p with
    | true => rfl
    | false => exact absurd h (this.2 k)
  · intro h
    cases Nat.lt_or_ge 0 1 with
    | inl _ =>
      rcases Int.lt_or_le 0 (p.cmp q) with h1 | h1
      · exact h1
      · have := this.1 (by omega)
        rw [h] at this; cases this
    | inr h0 => omega
/-- In strict order. -/
def Asc (l : List Pt) : Prop := l.Pairwise fun a b => a.less b = true
/-- A point put in. -/
def putP (v : Pt) (l : List Pt) : List Pt := l.takeWhile (fun x => !v.less x) ++ v :: l.dropWhile (fun x => !v.less x)
def putK (v : Pt) (l : List Pt) : Nat := (l.takeWhile (fun x => !v.less x)).length
theorem putK_le (v : Pt) (l : List Pt) : putK v l ≤ l.length := (List.takeWhile_prefix _).length_le
theorem putP_eq (v : Pt) (l : List Pt) : putP v l = l.take (putK v l) ++ [v] ++ l.drop (putK v l) := by
  have h := List.takeWhile_append_dropWhile (p := fun x => !v.less x) (l := l)
  have key : ∀ (a b : List Pt), a ++ b = l → l.take a.length = a ∧ l.drop a.length = b := by
    rintro a b rfl
    exact ⟨List.take_left, List.drop_left⟩
  obtain ⟨h1, h2⟩ := key _ _ h
  unfold putK
  rw [h1, h2]
  simp [putP]
theorem putP_perm (v : Pt) (l : List Pt) : (putP v l).Perm (v :: l) := by
  unfold putP
  refine List.perm_middle.trans ?_
  rw [List.takeWhile_append_dropWhile]
theorem putP_length (v : Pt) (l : List Pt) : (putP v l).length = l.length + 1 := by rw [(putP_perm v l).length_eq]; rfl
theorem putK_spec (v : Pt) : ∀ (l : List Pt), Asc l → ∀ (j : Nat) (a : Pt), l[j]? = some a → (v.less a = true ↔ putK v l ≤ j)
  | [], _, j, a, h => by simp at h
  | b :: l, ho, j, a, h => by
    unfold Asc at ho
    rw [List.pairwise_cons] at ho
    cases hb : v.less b with
    | true =>
      have e : putK v (b :: l) = 0 := by simp [putK, hb]
      rw [e]
      refine ⟨fun _ => Nat.zero_le _, fun _ => ?_⟩
      cases j with
      | zero => simp at h; subst h; exact hb
      | succ j => exact Pt.less_trans hb (ho.1 a (List.mem_of_getElem? (by simpa using h)))
    | false =>
      have e : putK v (b :: l) = putK v l + 1 := by simp [putK, hb]
      rw [e]
      cases j with
      | zero =>
        simp at h; subst h
        rw [hb]
        simp
      | succ j =>
        rw [putK_spec v l ho.2 j a (by simpa using h)]
        omega
theorem putP_asc (v : Pt) (l : List Pt) (ho : Asc l) (hv : v ∉ l) : Asc (putP v l) := by
  induction l with
  | nil => simp [putP, Asc]
  | cons b l ih =>
    have ho' := ho
    unfold Asc at ho
    rw [List.pairwise_cons] at ho
    cases hb : v.less b with
    | true =>
      have e : putP v (b :: l) = v :: b :: l := by simp [putP, hb]
      rw [e]
      unfold Asc
      rw [List.pairwise_cons]
      refine ⟨fun a ha => ?_, ho'⟩
      rcases List.mem_cons.1 ha with rfl | ha
      · exact hb
      · exact Pt.less_trans hb (ho.1 a ha)
    | false =>
      have e : putP v (b :: l) = b :: putP v l := by simp [putP, hb]
      rw [e]
      unfold Asc
      rw [List.pairwise_cons]
      refine ⟨fun a ha => ?_, ih ho.2 (fun h => hv (List.mem_cons_of_mem _ h))⟩
      rcases List.mem_cons.1 ((putP_perm v l).subset ha) with rfl | ha
      · exact Pt.less_total (fun h => hv (by rw [h]; simp)) hb
      · exact ho.1 a ha
theorem Asc.nodup {l : List Pt} (h : Asc l) : l.Nodup := h.imp fun {a b} hab e => by subst e; rw [Pt.less_irrefl] at hab; cases hab
/-- Two lists in order of the same points are one. -/
theorem Asc.unique : ∀ {l m : List Pt}, Asc l → Asc m → l.Perm m → l = m
  | [], m, _, _, p => by simpa using p.symm.eq_nil
  | a :: l, [], _, _, p => by simpa using p.eq_nil
  | a :: l, b :: m, h1, h2, p => by
    have h1' := h1
    have h2' := h2
    unfold Asc at h1 h2
    rw [List.pairwise_cons] at h1 h2
    have e : a = b := by
      have ha : a ∈ b :: m := p.subset (by simp)
      have hb : b ∈ a :: l := p.symm.subset (by simp)
      rcases List.mem_cons.1 ha with h | h
      · exact h
      · rcases List.mem_cons.1 hb with h' | h'
        · exact h'.symm
        · have := Pt.less_asymm (h1.1 _ h')
          rw [h2.1 _ h] at this; cases this
    subst e
    rw [Asc.unique h1.2 h2.2 p.cons_inv]
theorem Asc.append {l m : List Pt} (h1 : Asc l) (h2 : Asc m) (h : ∀ a ∈ l, ∀ b ∈ m, a.less b = true) : Asc (l ++ m) := List.pairwise_append.2 ⟨h1, h2, h⟩
theorem Asc.sub {l m : List Pt} (h : Asc m) (s : l.Sublist m) : Asc l := h.sublist s
end Go.Proofs.Ytmgkmammkmlakaa
