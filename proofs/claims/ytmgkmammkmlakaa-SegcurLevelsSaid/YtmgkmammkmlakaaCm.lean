/- Arrays that lead into one another: the plain part. -/
import Derived.Test.YtmgkmammkmlakaaApp
namespace Go.Proofs.Ytmgkmammkmlakaa
set_option linter.unusedVariables false
set_option linter.unusedSimpArgs false

/-- A point. -/
structure Pt where
  id : Int
  x : Int
  y : Int
  deriving DecidableEq
instance : Enc Pt := ⟨3, fun p => [.int .i64 p.id, .int .i64 p.x, .int .i64 p.y], fun _ => rfl, fun p v h => by
  simp at h
  rcases h with rfl | rfl | rfl <;> rfl⟩
/-- A point, and to where it leads. -/
structure Ent where
  p : Pt
  low : Int
  high : Int
  deriving DecidableEq
instance : Enc Ent := ⟨5, fun e => [.int .i64 e.p.id, .int .i64 e.p.x, .int .i64 e.p.y, .int .i64 e.low, .int .i64 e.high], fun _ => rfl, fun p v h => by
  simp at h
  rcases h with rfl | rfl | rfl | rfl | rfl <;> rfl⟩
/-- By X, then Y, then ID. -/
def Pt.less (p q : Pt) : Bool := if p.x ≠ q.x then decide (p.x < q.x) else if p.y ≠ q.y then decide (p.y < q.y) else decide (p.id < q.id)
def Pt.turned (p : Pt) : Pt := ⟨p.id, p.y, p.x⟩
def Pt.cmp (p q : Pt) : Int := if p = q then 0 else if p.less q then -1 else 1
def up (p q : Pt) : Int := p.turned.cmp q.turned
theorem up_le (p q : Pt) (h : up p q ≤ 0) : p.y ≤ q.y := by
  by_cases he : p.turned = q.turned
  · simp [Pt.turned] at he; omega
  · by_cases hl : p.turned.less q.turned = true
    · unfold Pt.less Pt.turned at hl
      by_cases hy : p.y = q.y
      · omega
      · simp [hy] at hl; omega
    · simp [up, Pt.cmp, he, hl] at h
theorem up_gt (p q : Pt) (h : 0 < up p q) : q.y ≤ p.y := by
  by_cases he : p.turned = q.turned
  · simp [Pt.turned] at he; omega
  · by_cases hl : p.turned.less q.turned = true
    · simp [up, Pt.cmp, he, hl] at h
    · unfold Pt.less Pt.turned at hl
      by_cases hy : p.y = q.y
      · omega
      · simp [hy] at hl; omega

/-- Two arrays together, entry by entry. -/
def mrg : Int → Int → List Pt → List Pt → List Ent
  | _, _, [], [] => []
  | i, k, a :: l, [] => ⟨a, i, k⟩ :: mrg (i + 1) k l []
  | i, k, [], b :: m => ⟨b, i, k⟩ :: mrg i (k + 1) [] m
  | i, k, a :: l, b :: m => if up a b ≤ 0 then ⟨a, i, k⟩ :: mrg (i + 1) k l (b :: m) else ⟨b, i, k⟩ :: mrg i (k + 1) (a :: l) m
  termination_by _ _ l m => l.length + m.length
theorem mrg_left (i k : Int) (a : Pt) (l m : List Pt) (h : ∀ b m', m = b :: m' → up a b ≤ 0) : mrg i k (a :: l) m = ⟨a, i, k⟩ :: mrg (i + 1) k l m := by
  cases m with
  | nil => rw [mrg]
  | cons b m => rw [mrg, if_pos (h b m rfl)]
theorem mrg_right (i k : Int) (b : Pt) (l m : List Pt) (h : ∀ a l', l = a :: l' → ¬ up a b ≤ 0) : mrg i k l (b :: m) = ⟨b, i, k⟩ :: mrg i (k + 1) l m := by
  cases l with
  | nil => rw [mrg]
  | cons a l => rw [mrg, if_neg (h a l rfl)]
theorem mrg_length : ∀ (i k : Int) (l m : List Pt), (mrg i k l m).length = l.length + m.length
  | _, _, [], [] => by simp [mrg]
  | i, k, a :: l, [] => by rw [mrg, List.length_cons, mrg_length]; simp
  | i, k, [], b :: m => by rw [mrg, List.length_cons, mrg_length]; simp
  | i, k, a :: l, b :: m => by
    rw [mrg]
    split
    · rw [List.length_cons, mrg_length]; simp; omega
    · rw [List.length_cons, mrg_length]; simp; omega
  termination_by _ _ l m => l.length + m.length
/-- What holds of a point holds of all below it. -/
def Falls (f : Pt → Bool) : Prop := ∀ p q, p.y ≤ q.y → f q = true → f p = true
/-- In order by Y. -/
def Ord : List Pt → Prop
  | [] => True
  | a :: l => (∀ b ∈ l, a.y ≤ b.y) ∧ Ord l
theorem mrg_mem : ∀ (i k : Int) (l m : List Pt) (e : Ent), e ∈ mrg i k l m → e.p ∈ l ∨ e.p ∈ m
  | _, _, [], [], e, h => by simp [mrg] at h
  | i, k, a :: l, [], e, h => by
    rw [mrg, List.mem_cons] at h
    rcases h with rfl | h
    · simp
    · rcases mrg_mem _ _ _ _ _ h with h | h
      · exact .inl (List.mem_cons_of_mem _ h)
      · cases h
  | i, k, [], b :: m, e, h => by
    rw [mrg, List.mem_cons] at h
    rcases h with rfl | h
    · simp
    · rcases mrg_mem _ _ _ _ _ h with h | h
      · cases h
      · exact .inr (List.mem_cons_of_mem _ h)
  | i, k, a :: l, b :: m, e, h => by
    rw [mrg] at h
    split at h
    · rcases List.mem_cons.1 h with rfl | h
      · simp
      · rcases mrg_mem _ _ _ _ _ h with h | h
        · exact .inl (List.mem_cons_of_mem _ h)
        · exact .inr h
    · rcases List.mem_cons.1 h with rfl | h
      · simp
      · rcases mrg_mem _ _ _ _ _ h with h | h
        · exact .inl h
        · exact .inr (List.mem_cons_of_mem _ h)
  termination_by _ _ l m => l.length + m.length
theorem mrg_ord : ∀ (i k : Int) (l m : List Pt), Ord l → Ord m → Ord ((mrg i k l m).map (·.p))
  | _, _, [], [], _, _ => by simp [mrg, Ord]
  | i, k, a :: l, [], h1, h2 => by
    rw [mrg, List.map_cons]
    refine ⟨fun b hb => ?_, mrg_ord _ _ _ _ h1.2 h2⟩
    obtain ⟨e, he, rfl⟩ := List.mem_map.1 hb
    rcases mrg_mem _ _ _ _ _ he with h | h
    · exact h1.1 _ h
    · cases h
  | i, k, [], b :: m, h1, h2 => by
    rw [mrg, List.map_cons]
    refine ⟨fun c hc => ?_, mrg_ord _ _ _ _ h1 h2.2⟩
    obtain ⟨e, he, rfl⟩ := List.mem_map.1 hc
    rcases mrg_mem _ _ _ _ _ he with h | h
    · cases h
    · exact h2.1 _ h
  | i, k, a :: l, b :: m, h1, h2 => by
    rw [mrg]
    split
    · rename_i hu
      rw [List.map_cons]
      refine ⟨fun c hc => ?_, mrg_ord _ _ _ _ h1.2 h2⟩
      obtain ⟨e, he, rfl⟩ := List.mem_map.1 hc
      rcases mrg_mem _ _ _ _ _ he with h | h
      · exact h1.1 _ h
      · have := up_le _ _ hu
        rcases List.mem_cons.1 h with h | h
        · rw [h]; exact this
        · exact Int.le_trans this (h2.1 _ h)
    · rename_i hu
      rw [List.map_cons]
      refine ⟨fun c hc => ?_, mrg_ord _ _ _ _ h1 h2.2⟩
      obtain ⟨e, he, rfl⟩ := List.mem_map.1 hc
      have := up_gt _ _ (by omega : 0 < up a b)
      rcases mrg_mem _ _ _ _ _ he with h | h
      · rcases List.mem_cons.1 h with h | h
        · rw [h]; exact this
        · exact Int.le_trans this (h1.1 _ h)
      · exact h2.1 _ h
  termination_by _ _ l m => l.length + m.length
theorem mrg_count (f : Pt → Bool) : ∀ (i k : Int) (l m : List Pt), ((mrg i k l m).map (·.p)).countP f = l.countP f + m.countP f
  | _, _, [], [] => by simp [mrg]
  | i, k, a :: l, [] => by rw [mrg, List.map_cons, List.countP_cons, mrg_count, List.countP_cons]; simp only [List.countP_nil]; omega
  | i, k, [], b :: m => by rw [mrg, List.map_cons, List.countP_cons, mrg_count, List.countP_cons]; simp only [List.countP_nil]; omega
  | i, k, a :: l, b :: m => by
    rw [mrg]
    split
    · rw [List.map_cons, List.countP_cons, mrg_count]; simp only [List.countP_cons]; omega
    · rw [List.map_cons, List.countP_cons, mrg_count]; simp only [List.countP_cons]; omega
  termination_by _ _ l m => l.length + m.length
theorem ord_count_zero {f : Pt → Bool} (hf : Falls f) {a : Pt} {l : List Pt} (ho : ∀ b ∈ l, a.y ≤ b.y) (ha : f a = false) : l.countP f = 0 := by
  rw [List.countP_eq_zero]
  intro b hb hfb
  have := hf a b (ho b hb) hfb
  rw [ha] at this; cases this
/-- Behind those of which something is true that falls: the entry there leads to where a search would. -/
theorem mrg_leads {f : Pt → Bool} (hf : Falls f) : ∀ (i k : Int) (l m : List Pt), Ord l → Ord m → ∀ e, (mrg i k l m)[l.countP f + m.countP f]? = some e → e.low = i + l.countP f ∧ e.high = k + m.countP f
  | _, _, [], [], _, _, e, h => by simp [mrg] at h
  | i, k, a :: l, [], h1, h2, e, h => by
    rw [mrg] at h
    cases ha : f a with
    | true =>
      have := mrg_leads hf (i + 1) k l [] h1.2 h2 e (by simpa [List.countP_cons, ha] using h)
      simp [List.countP_cons, ha] at this ⊢
      omega
    | false =>
      have z := ord_count_zero hf h1.1 ha
      simp [List.countP_cons, ha, z] at h ⊢
      subst h; simp
  | i, k, [], b :: m, h1, h2, e, h => by
    rw [mrg] at h
    cases hb : f b with
    | true =>
      have := mrg_leads hf i (k + 1) [] m h1 h2.2 e (by simpa [List.countP_cons, hb] using h)
      simp [List.countP_cons, hb] at this ⊢
      omega
    | false =>
      have z := ord_count_zero hf h2.1 hb
      simp [List.countP_cons, hb, z] at h ⊢
      subst h; simp
  | i, k, a :: l, b :: m, h1, h2, e, h => by
    rw [mrg] at h
    split at h
    · rename_i hu
      cases ha : f a with
      | true =>
        have := mrg_leads hf (i + 1) k l (b :: m) h1.2 h2 e (by
          rw [← h]
          rw [show List.countP f (a :: l) + List.countP f (b :: m) = (List.countP f l + List.countP f (b :: m)) + 1 by rw [List.countP_cons, ha]; simp; omega]
          simp)
        rw [List.countP_cons, ha]
        simp at this ⊢
        omega
      | false =>
        have z := ord_count_zero hf h1.1 ha
        have hb : f b = false := by
          cases hb : f b with
          | false => rfl
          | true => have := hf a b (up_le _ _ hu) hb; rw [ha] at this; cases this
        have z2 := ord_count_zero hf h2.1 hb
        simp [List.countP_cons, ha, hb, z, z2] at h ⊢
        subst h; simp
    · rename_i hu
      have hu' := up_gt _ _ (by omega : 0 < up a b)
      cases hb : f b with
      | true =>
        have := mrg_leads hf i (k + 1) (a :: l) m h1 h2.2 e (by
          rw [← h]
          rw [show List.countP f (a :: l) + List.countP f (b :: m) = (List.countP f (a :: l) + List.countP f m) + 1 by rw [List.countP_cons (l := m), hb]; simp; omega]
          simp)
        rw [List.countP_cons (l := m), hb]
        simp at this ⊢
        omega
      | false =>
        have z := ord_count_zero hf h2.1 hb
        have ha : f a = false := by
          cases ha : f a with
          | false => rfl
          | true => have := hf b a hu' ha; rw [hb] at this; cases this
        have z2 := ord_count_zero hf h1.1 ha
        simp [List.countP_cons, ha, hb, z, z2] at h ⊢
        subst h; simp
  termination_by _ _ l m => l.length + m.length
/-- In an order, what falls is true of just the first ones. -/
theorem ord_first {f : Pt → Bool} (hf : Falls f) : ∀ (l : List Pt), Ord l → ∀ k p, l[k]? = some p → (f p = true ↔ k < l.countP f)
  | [], _, k, p, h => by simp at h
  | a :: l, h1, k, p, h => by
    cases ha : f a with
    | true =>
      cases k with
      | zero => simp at h; subst h; simp [ha, List.countP_cons]
      | succ k =>
        have := ord_first hf l h1.2 k p (by simpa using h)
        simp [List.countP_cons, ha, this]
    | false =>
      have z := ord_count_zero hf h1.1 ha
      cases k with
      | zero => simp at h; subst h; simp [ha, List.countP_cons, z]
      | succ k =>
        have := ord_first hf l h1.2 k p (by simpa using h)
        simp [List.countP_cons, ha, z, this]

/-- An array, and both that it was joined of. -/
inductive Arr where
  | nil
  | node (es : List Ent) (lo hi : Arr)
def Arr.es : Arr → List Ent
  | .nil => []
  | .node es _ _ => es
def Arr.pts (a : Arr) : List Pt := a.es.map (·.p)
def join : Arr → Arr → Arr
  | .nil, .nil => .nil
  | a, b => .node (mrg 0 0 a.pts b.pts) a b
theorem join_es (a b : Arr) : (join a b).es = mrg 0 0 a.pts b.pts := by
  cases a <;> cases b <;> simp [join, Arr.es, Arr.pts, mrg]
def leaf (p : Pt) : Arr := .node [⟨p, 0, 0⟩] .nil .nil
def made : Nat → List Pt → Arr
  | 0, l => match l with
    | [p] => leaf p
    | _ => .nil
  | f + 1, l => match l with
    | [] => .nil
    | [p] => leaf p
    | p :: q :: l' => join (made f ((p :: q :: l').take ((p :: q :: l').length / 2))) (made f ((p :: q :: l').drop ((p :: q :: l').length / 2)))
theorem made_ok : ∀ (f : Nat) (l : List Pt), l.length ≤ 2 ^ f → Ord (made f l).pts ∧ ∀ g : Pt → Bool, (made f l).pts.countP g = l.countP g
  | 0, [], _ => ⟨trivial, fun _ => rfl⟩
  | 0, [p], _ => ⟨⟨fun _ h => (by cases h), trivial⟩, fun _ => rfl⟩
  | 0, p :: q :: l, h => by simp at h
  | f + 1, [], _ => ⟨trivial, fun _ => rfl⟩
  | f + 1, [p], _ => ⟨⟨fun _ h => (by cases h), trivial⟩, fun _ => rfl⟩
  | f + 1, p :: q :: l, h => by
    have e : made (f + 1) (p :: q :: l) = join (made f ((p :: q :: l).take ((p :: q :: l).length / 2))) (made f ((p :: q :: l).drop ((p :: q :: l).length / 2))) := rfl
    have h2 : (p :: q :: l).length ≤ 2 * 2 ^ f := by rw [Nat.pow_succ] at h; omega
    have h1 : (p :: q :: l).length ≥ 2 := by simp
    generalize p :: q :: l = L at *
    obtain ⟨a1, a2⟩ := made_ok f (L.take (L.length / 2)) (by rw [List.length_take]; omega)
    obtain ⟨b1, b2⟩ := made_ok f (L.drop (L.length / 2)) (by rw [List.length_drop]; omega)
    rw [e]
    unfold Arr.pts
    rw [join_es]
    refine ⟨mrg_ord _ _ _ _ a1 b1, fun g => ?_⟩
    rw [mrg_count, a2, b2, ← List.countP_append, List.take_append_drop]
/-- Where a place leads. -/
def lead (a : Arr) (i : Int) (high : Bool) : Int :=
  match a with
  | .nil => 0
  | .node es lo hi =>
    if 0 ≤ i ∧ i < es.length then (match es[i.toNat]? with
      | some e => if high then e.high else e.low
      | none => 0)
    else if i ≠ es.length then 0
    else if high then hi.es.length else lo.es.length
theorem lead_join {f : Pt → Bool} (hf : Falls f) (a b : Arr) (ha : Ord a.pts) (hb : Ord b.pts) (high : Bool) :
    lead (join a b) ((join a b).pts.countP f : Nat) high = if high then (b.pts.countP f : Int) else (a.pts.countP f : Int) := by
  have key : ∀ es, es = mrg 0 0 a.pts b.pts → lead (.node es a b) ((es.map (·.p)).countP f : Nat) high = if high then (b.pts.countP f : Int) else (a.pts.countP f : Int) := by
    intro es he
    have hc := mrg_count f 0 0 a.pts b.pts
    rw [← he] at hc
    have hl := mrg_length 0 0 a.pts b.pts
    rw [← he] at hl
    have hle : (es.map (·.p)).countP f ≤ es.length := by have := List.countP_le_length (p := f) (l := es.map (·.p)); rwa [List.length_map] at this
    have hml := mrg_leads hf 0 0 a.pts b.pts ha hb
    rw [← he, ← hc] at hml
    have e1 : a.pts.length = a.es.length := List.length_map ..
    have e2 : b.pts.length = b.es.length := List.length_map ..
    have l1 := List.countP_le_length (p := f) (l := a.pts)
    have l2 := List.countP_le_length (p := f) (l := b.pts)
    clear he
    generalize (es.map (·.p)).countP f = c at *
    simp only [lead]
    by_cases hlt : c < es.length
    · rw [if_pos (by omega)]
      have hg : es[c]? = some es[c] := List.getElem?_eq_getElem hlt
      have := hml es[c] hg
      rw [Int.toNat_natCast, hg]
      cases high <;> simp <;> omega
    · rw [if_neg (by omega), if_neg (by omega)]
      cases high <;> simp <;> omega
  cases a with
  | nil =>
    cases b with
    | nil => cases high <;> simp [join, lead, Arr.pts, Arr.es]
    | node es lo hi => exact key _ rfl
  | node es lo hi => cases b <;> exact key _ rfl
end Go.Proofs.Ytmgkmammkmlakaa
