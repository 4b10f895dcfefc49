/- Cells, and a tree of cells at whose nodes lie intervals: the plain part. An interval is told as a point is: id, lo, hi. -/
import Derived.Test.YtmgkmammkmlakaaPt
import Derived.Test.YtmgkmammkmlakaaOrd
namespace Go.Proofs.Ytmgkmammkmlakaa
set_option linter.unusedVariables false
set_option linter.unusedSimpArgs false

theorem LdN.of' {A : HP} {N L : List HP} {b o n : Nat} {vs : List Value} (f : ∀ h, A h → sat N h) (l : LdN N b o n vs) : LdN (A :: L) b o n vs := ⟨l.1, fun j v hj => ⟨fun h s => by
  obtain ⟨h1, h2, d, s1, s2, x, t⟩ := s
  exact cellOf.sub ((l.2 j v hj).1 _ (f _ x)) s1⟩⟩
theorem Rc.of' {Y : HP} {N L : List HP} {sz n : Nat} {A : Option Addr} {xs : List Value} (f : ∀ h, Y h → sat N h) (h : Rc N sz A n xs) : Rc (Y :: L) sz A n xs :=
  ⟨h.1, fun hn => let ⟨b, o, e, k⟩ := h.2 hn; ⟨b, o, e, fun j v hj => ⟨fun h s => by
    obtain ⟨h1, h2, d, s1, s2, x, t⟩ := s
    exact cellOf.sub ((k j v hj).1 _ (f _ x)) s1⟩⟩⟩
/-- Numbers, each once, rising. -/
def Up (R : List Int) : Prop := R.Pairwise (· < ·)
theorem Up.unique : ∀ {l m : List Int}, Up l → Up m → (∀ x, x ∈ l ↔ x ∈ m) → l = m
  | [], [], _, _, _ => rfl
  | [], b :: m, _, _, p => absurd ((p b).2 (by simp)) (by simp)
  | a :: l, [], _, _, p => absurd ((p a).1 (by simp)) (by simp)
  | a :: l, b :: m, h1, h2, p => by
    have h1' := h1
    have h2' := h2
    unfold Up at h1 h2
    rw [List.pairwise_cons] at h1 h2
    have e : a = b := by
      have ha : a ∈ b :: m := (p a).1 (by simp)
      have hb : b ∈ a :: l := (p b).2 (by simp)
      rcases List.mem_cons.1 ha with h | h
      · exact h
      · rcases List.mem_cons.1 hb with h' | h'
        · exact h'.symm
        · have := h1.1 _ h'; have := h2.1 _ h; omega
    subst e
    rw [Up.unique h1.2 h2.2 fun x => ?_]
    have hx := p x
    simp only [List.mem_cons] at hx
    constructor
    · intro h
      rcases hx.1 (.inr h) with h' | h'
      · subst h'; have := h1.1 _ h; omega
      · exact h'
    · intro h
      rcases hx.2 (.inr h) with h' | h'
      · subst h'; have := h2.1 _ h; omega
      · exact h'
def hasR (R : List Int) (v : Int) : Bool := decide (v ∈ R)
/-- How many are below. -/
def low (R : List Int) (x : Int) : Nat := R.countP (fun y => decide (y < x))
def cellR (R : List Int) (x : Int) : Nat := if x ∈ R then 2 * low R x + 1 else 2 * low R x
theorem low_le (R : List Int) (x : Int) : low R x ≤ R.length := List.countP_le_length
theorem low_mono (R : List Int) {x y : Int} (h : x ≤ y) : low R x ≤ low R y := List.countP_mono_left fun z _ hz => by simp at hz ⊢; omega
theorem low_lt : ∀ (R : List Int) {x y : Int}, x ∈ R → x < y → low R x + 1 ≤ low R y
  | [], x, y, h, _ => by cases h
  | a :: R, x, y, h, hl => by
    unfold low
    rw [List.countP_cons, List.countP_cons]
    rcases List.mem_cons.1 h with h | h
    · subst h
      have := low_mono R (Int.le_of_lt hl)
      unfold low at this
      simp [hl]; omega
    · have := low_lt R h hl
      unfold low at this
      by_cases h1 : a < x
      · simp [h1, show a < y by omega]; omega
      · simp [h1]; split <;> omega
theorem low_in : ∀ (R : List Int) {x : Int}, x ∈ R → low R x + 1 ≤ R.length
  | [], x, h => by cases h
  | a :: R, x, h => by
    unfold low
    rw [List.countP_cons, List.length_cons]
    rcases List.mem_cons.1 h with h | h
    · subst h
      have := low_le R x
      unfold low at this
      simp; omega
    · have := low_in R h
      unfold low at this
      split <;> omega
theorem cellR_le (R : List Int) (x : Int) : cellR R x ≤ 2 * R.length := by
  unfold cellR
  split
  · rename_i h; have := low_in R h; omega
  · have := low_le R x; omega
theorem cellR_mono (R : List Int) {x y : Int} (h : x ≤ y) : cellR R x ≤ cellR R y := by
  rcases Int.lt_or_eq_of_le h with h | h
  · unfold cellR
    have := low_mono R (Int.le_of_lt h)
    split
    · rename_i hx; have := low_lt R hx h; split <;> omega
    · split <;> omega
  · subst h; exact Nat.le_refl _
theorem cellR_lo (R : List Int) {x y : Int} (h : x ∈ R) : cellR R x ≤ cellR R y ↔ x ≤ y := by
  refine ⟨fun hc => ?_, cellR_mono R⟩
  rcases Int.lt_or_le y x with h' | h'
  · exfalso
    unfold cellR at hc
    rw [if_pos h] at hc
    have := low_mono R (Int.le_of_lt h')
    split at hc
    · rename_i hy; have := low_lt R hy h'; omega
    · omega
  · exact h'
theorem cellR_hi (R : List Int) {x y : Int} (h : x ∈ R) : cellR R y ≤ cellR R x ↔ y ≤ x := by
  refine ⟨fun hc => ?_, cellR_mono R⟩
  rcases Int.lt_or_le x y with h' | h'
  · exfalso
    unfold cellR at hc
    rw [if_pos h] at hc
    have := low_lt R h h'
    split at hc <;> omega
  · exact h'
/-- In an order: where a number stands, or would. -/
theorem low_at : ∀ (R : List Int) (x : Int), Up R → ∀ (j : Nat) (y : Int), R[j]? = some y → (y < x ↔ j < low R x)
  | [], x, _, j, y, h => by simp at h
  | a :: R, x, hu, j, y, h => by
    unfold Up at hu
    rw [List.pairwise_cons] at hu
    unfold low
    rw [List.countP_cons]
    cases j with
    | zero =>
      simp at h; subst h
      by_cases ha : a < x
      · simp [ha]
      · have : R.countP (fun y => decide (y < x)) = 0 := by
          rw [List.countP_eq_zero]; intro b hb; have := hu.1 b hb; simp; omega
        simp [ha, this]
    | succ j =>
      have ih := low_at R x hu.2 j y (by simpa using h)
      unfold low at ih
      by_cases ha : a < x
      · simp [ha, ih]
      · have hm := hu.1 y (List.mem_of_getElem? (by simpa using h))
        have : R.countP (fun y => decide (y < x)) = 0 := by
          rw [List.countP_eq_zero]; intro b hb; have := hu.1 b hb; simp; omega
        simp [ha, this]; omega
theorem low_get (R : List Int) (x : Int) (hu : Up R) : R[low R x]? = some x ↔ x ∈ R := by
  constructor
  · exact fun h => List.mem_of_getElem? h
  · intro h
    obtain ⟨j, hj⟩ := List.getElem?_of_mem h
    have h1 := (low_at R x hu j x hj)
    have hlt := low_in R h
    have hg : R[low R x]? = some R[low R x] := List.getElem?_eq_getElem (by omega)
    have h2 := low_at R x hu _ _ hg
    have hnl : ¬ R[low R x] < x := fun h => by have := h2.1 h; omega
    have hj2 : ¬ j < low R x := fun h' => by have := h1.2 h'; omega
    rcases Nat.lt_or_eq_of_le (Nat.le_of_not_lt hj2) with h3 | h3
    · have hjl : j < R.length := (List.getElem?_eq_some_iff.1 hj).1
      have h4 := List.pairwise_iff_getElem.1 hu (low R x) j (by omega) hjl h3
      have h5 : R[j] = x := (List.getElem?_eq_some_iff.1 hj).2
      omega
    · rw [h3]; exact hj

/-- What a list that is put in order has of those of which something is true. -/
theorem filter_putP (p : Pt → Bool) (v : Pt) : ∀ (l : List Pt), Asc l → (putP v l).filter p = if p v then putP v (l.filter p) else l.filter p
  | [], _ => by cases h : p v <;> simp [putP, h]
  | b :: l, ho => by
    have ho' := ho
    unfold Asc at ho
    rw [List.pairwise_cons] at ho
    cases hb : v.less b with
    | true =>
      have e : putP v (b :: l) = v :: b :: l := by simp [putP, hb]
      rw [e]
      have hall : ∀ a ∈ (b :: l).filter p, v.less a = true := fun a ha => by
        rcases List.mem_cons.1 (List.mem_filter.1 ha).1 with rfl | h
        · exact hb
        · exact Pt.less_trans hb (ho.1 a h)
      have e2 : putP v ((b :: l).filter p) = v :: (b :: l).filter p := by
        generalize (b :: l).filter p = m at *
        cases m with
        | nil => simp [putP]
        | cons a m => simp [putP, hall a (by simp)]
      rw [e2]
      cases h : p v <;> simp [h]
    | false =>
      have e : putP v (b :: l) = b :: putP v l := by simp [putP, hb]
      rw [e]
      have ih := filter_putP p v l ho.2
      cases h : p v with
      | true =>
        rw [h] at ih
        simp only [if_true] at ih ⊢
        cases hpb : p b with
        | true => rw [List.filter_cons_of_pos (by simpa using hpb), List.filter_cons_of_pos (by simpa using hpb), ih]; simp [putP, hb]
        | false => rw [List.filter_cons_of_neg (by simp [hpb]), List.filter_cons_of_neg (by simp [hpb]), ih]
      | false =>
        rw [h] at ih
        simp only [Bool.false_eq_true, if_false] at ih ⊢
        cases hpb : p b with
        | true => rw [List.filter_cons_of_pos (by simpa using hpb), List.filter_cons_of_pos (by simpa using hpb), ih]
        | false => rw [List.filter_cons_of_neg (by simp [hpb]), List.filter_cons_of_neg (by simp [hpb]), ih]
theorem filter_erase (p : Pt → Bool) (v : Pt) : ∀ (l : List Pt), (l.erase v).filter p = if p v then (l.filter p).erase v else l.filter p
  | [] => by simp
  | b :: l => by
    have ih := filter_erase p v l
    by_cases e : b = v
    · subst e
      simp only [List.erase_cons_head]
      cases h : p b <;> simp [h]
    · rw [List.erase_cons_tail (by simpa using e)]
      cases h : p v <;> cases hb : p b <;> simp [h, hb, e] at ih ⊢ <;> assumption
theorem putP_last (v : Pt) (l : List Pt) (h : ∀ a ∈ l, a.less v = true) : putP v l = l ++ [v] := by
  induction l with
  | nil => simp [putP]
  | cons b l ih =>
    have := Pt.less_asymm (h b (by simp))
    have e : putP v (b :: l) = b :: putP v l := by simp [putP, this]
    rw [e, ih fun a ha => h a (by simp [ha])]
    rfl

/-- A tree of cells, and where it lies. -/
inductive SA where
  | nil
  | node (b : Nat) (f t : Nat) (A : Option Addr) (c : Nat) (l : List Pt) (lo hi : SA)
def inn (q : Pt → Nat × Nat) (s : Pt) (f t : Nat) : Bool := decide ((q s).1 ≤ f) && decide (t ≤ (q s).2)
/-- A tree of cells f .. t that has some intervals, but for those that lie further up. -/
def SgOk (q : Pt → Nat × Nat) (l : List Pt) : SA → Nat → Nat → (Pt → Bool) → Prop
  | .nil, _, _, _ => False
  | .node _ f' t' _ _ m lo hi, f, t, o => f' = f ∧ t' = t ∧ m = l.filter (fun s => inn q s f t && !o s) ∧
    (f < t ∧ SgOk q l lo f (f + (t - f) / 2) (fun s => inn q s f t) ∧ SgOk q l hi (f + (t - f) / 2 + 1) t (fun s => inn q s f t) ∨ f = t ∧ lo = .nil ∧ hi = .nil)
theorem SgOk.le {q : Pt → Nat × Nat} {l : List Pt} {X : SA} {f t : Nat} {o : Pt → Bool} (h : SgOk q l X f t o) : f ≤ t := by
  cases X with
  | nil => cases h
  | node b f' t' A c m lo hi => obtain ⟨_, _, _, h | h⟩ := h <;> omega
/-- The nodes at which what goes from one cell to another one lies. -/
def SA.at_ (x y : Nat) (g : Nat → Nat → List Pt → Nat) : SA → Nat
  | .nil => 0
  | .node _ f t _ _ l lo hi => if y < f ∨ t < x then 0 else if x ≤ f ∧ t ≤ y then g f t l else lo.at_ x y g + hi.at_ x y g
def SA.addr : SA → Option Addr
  | .nil => none
  | .node b _ _ _ _ _ _ _ => some ⟨b, 0, none⟩
/-- What is true at all nodes. -/
def SA.each (P : Nat → Nat → Option Addr → Nat → List Pt → Prop) : SA → Prop
  | .nil => True
  | .node _ f t A c l lo hi => P f t A c l ∧ lo.each P ∧ hi.each P
theorem SA.each.mono {P Q : Nat → Nat → Option Addr → Nat → List Pt → Prop} (h : ∀ f t A c l, P f t A c l → Q f t A c l) : ∀ {X : SA}, X.each P → X.each Q
  | .nil, _ => trivial
  | .node _ _ _ _ _ _ _ _, ⟨a, b, c⟩ => ⟨h _ _ _ _ _ a, b.mono h, c.mono h⟩
theorem SA.each.and {P Q : Nat → Nat → Option Addr → Nat → List Pt → Prop} : ∀ {X : SA}, X.each P → X.each Q → X.each fun f t A c l => P f t A c l ∧ Q f t A c l
  | .nil, _, _ => trivial
  | .node _ _ _ _ _ _ _ _, ⟨a, b, c⟩, ⟨a', b', c'⟩ => ⟨⟨a, a'⟩, b.and b', c.and c'⟩
/-- What becomes of a tree, where the lists of those nodes are changed. -/
def Laid (x y : Nat) (G : Option Addr → Nat → List Pt → Option Addr → Nat → List Pt → Prop) : SA → SA → Prop
  | .nil, Y => Y = .nil
  | .node b f t A c l lo hi, Y => if y < f ∨ t < x then Y = .node b f t A c l lo hi else if x ≤ f ∧ t ≤ y then ∃ A' c' l', G A c l A' c' l' ∧ Y = .node b f t A' c' l' lo hi
    else ∃ lo' hi', Laid x y G lo lo' ∧ Laid x y G hi hi' ∧ Y = .node b f t A c l lo' hi'
theorem Laid.addr {x y : Nat} {G : Option Addr → Nat → List Pt → Option Addr → Nat → List Pt → Prop} {X Y : SA} (h : Laid x y G X Y) : Y.addr = X.addr := by
  cases X with
  | nil => cases h; rfl
  | node b f t A c l lo hi =>
    unfold Laid at h
    split at h
    · subst h; rfl
    · split at h
      · obtain ⟨_, _, _, _, rfl⟩ := h; rfl
      · obtain ⟨_, _, _, _, rfl⟩ := h; rfl
theorem Laid.same {x y : Nat} : ∀ {X Y : SA}, Laid x y (fun A c l A' c' l' => A' = A ∧ c' = c ∧ l' = l) X Y → Y = X
  | .nil, _, h => h
  | .node b f t A c l lo hi, Y, h => by
    unfold Laid at h
    split at h
    · exact h
    · split at h
      · obtain ⟨_, _, _, ⟨rfl, rfl, rfl⟩, rfl⟩ := h; rfl
      · obtain ⟨_, _, h1, h2, rfl⟩ := h
        rw [h1.same, h2.same]
theorem Laid.each {x y : Nat} {G : Option Addr → Nat → List Pt → Option Addr → Nat → List Pt → Prop} {P : Nat → Nat → Option Addr → Nat → List Pt → Prop} (hG : ∀ f t A c l A' c' l', P f t A c l → G A c l A' c' l' → P f t A' c' l') : ∀ {X Y : SA}, Laid x y G X Y → X.each P → Y.each P
  | .nil, _, h, _ => by cases h; trivial
  | .node b f t A c l lo hi, Y, h, ⟨a1, a2, a3⟩ => by
    unfold Laid at h
    split at h
    · subst h; exact ⟨a1, a2, a3⟩
    · split at h
      · obtain ⟨_, _, _, g, rfl⟩ := h; exact ⟨hG _ _ _ _ _ _ _ _ a1 g, a2, a3⟩
      · obtain ⟨_, _, h1, h2, rfl⟩ := h; exact ⟨a1, h1.each hG a2, h2.each hG a3⟩
/-- Two lists that differ in one interval, which does not lie here. -/
theorem SgOk.away {q : Pt → Nat × Nat} {l m : List Pt} {s : Pt} (hm : ∀ p : Pt → Bool, p s = false → m.filter p = l.filter p) (hs : (q s).1 ≤ (q s).2) : ∀ {X : SA} {f t : Nat} {o : Pt → Bool}, SgOk q l X f t o →
    (((q s).2 < f ∨ t < (q s).1) ∨ o s = true ∧ inn q s f t = true) → SgOk q m X f t o
  | .nil, _, _, _, h, _ => h
  | .node b f' t' A c k lo hi, f, t, o, ⟨h1, h2, h3, h4⟩, ha => by
    have hle : f ≤ t := by rcases h4 with h | h <;> omega
    have hz : (inn q s f t && !o s) = false := by
      rcases ha with h | ⟨h, _⟩
      · have : inn q s f t = false := by
          unfold inn
          rcases h with h | h
          · by_cases h5 : t ≤ (q s).2
            · omega
            · simp [h5]
          · by_cases h5 : (q s).1 ≤ f
            · omega
            · simp [h5]
        simp [this]
      · simp [h]
    refine ⟨h1, h2, by rw [h3, hm _ hz], ?_⟩
    rcases h4 with ⟨h4, h5, h6⟩ | h4
    · refine .inl ⟨h4, h5.away hm hs ?_, h6.away hm hs ?_⟩
      · rcases ha with h | ⟨_, h⟩
        · left; omega
        · right; refine ⟨h, ?_⟩; unfold inn at h ⊢; simp at h ⊢; omega
      · rcases ha with h | ⟨_, h⟩
        · left; omega
        · right; refine ⟨h, ?_⟩; unfold inn at h ⊢; simp at h ⊢; omega
    · exact .inr h4
theorem SgOk.laid {q : Pt → Nat × Nat} {l m : List Pt} {s : Pt} {g : List Pt → List Pt} {G : Option Addr → Nat → List Pt → Option Addr → Nat → List Pt → Prop} (hG : ∀ A c l A' c' l', G A c l A' c' l' → l' = g l) (hm : ∀ p : Pt → Bool, p s = false → m.filter p = l.filter p) (hp : ∀ p : Pt → Bool, p s = true → m.filter p = g (l.filter p)) (hs : (q s).1 ≤ (q s).2) : ∀ {X Y : SA} {f t : Nat} {o : Pt → Bool}, SgOk q l X f t o →
    o s = false → Laid (q s).1 (q s).2 G X Y → SgOk q m Y f t o
  | .nil, _, _, _, _, h, _, _ => by cases h
  | .node b f' t' A c k lo hi, Y, f, t, o, ⟨h1, h2, h3, h4⟩, ho, hl => by
    subst h1 h2
    unfold Laid at hl
    split at hl
    · rename_i hd
      subst hl
      exact SgOk.away hm hs ⟨rfl, rfl, h3, h4⟩ (.inl hd)
    · rename_i hd
      split at hl
      · rename_i hi
        obtain ⟨A', c', l', hg, rfl⟩ := hl
        have hg := hG _ _ _ _ _ _ hg
        subst hg
        have hi' : inn q s f' t' = true := by unfold inn; simp [hi]
        refine ⟨rfl, rfl, by rw [hp _ (by simp [hi', ho]), h3], ?_⟩
        rcases h4 with ⟨h4, h5, h6⟩ | h4
        · refine .inl ⟨h4, h5.away hm hs (.inr ⟨hi', ?_⟩), h6.away hm hs (.inr ⟨hi', ?_⟩)⟩
          · unfold inn; simp; omega
          · unfold inn; simp; omega
        · exact .inr h4
      · rename_i hi
        have hi' : inn q s f' t' = false := by
          cases hb : inn q s f' t' with
          | false => rfl
          | true => unfold inn at hb; simp at hb; exact absurd hb hi
        obtain ⟨lo', hi2, hl1, hl2, rfl⟩ := hl
        refine ⟨rfl, rfl, by rw [hm _ (by simp [hi']), h3], ?_⟩
        rcases h4 with ⟨h4, h5, h6⟩ | ⟨h4, h5, h6⟩
        · exact .inl ⟨h4, h5.laid hG hm hp hs hi' hl1, h6.laid hG hm hp hs hi' hl2⟩
        · subst h5 h6
          exact .inr ⟨h4, hl1, hl2⟩
/-- What lies on the way to a cell. -/
def SA.way (c : Nat) : SA → List Pt
  | .nil => []
  | .node _ f t _ _ l lo hi => if f ≤ c ∧ c ≤ t then l ++ (lo.way c ++ hi.way c) else []
theorem perm_split {α : Type} (p r : α → Bool) : ∀ (l : List α), (∀ s ∈ l, p s = true → r s = true → False) → (l.filter p ++ l.filter r).Perm (l.filter fun s => p s || r s)
  | [], _ => .nil
  | a :: l, h => by
    have ih := perm_split p r l fun s hs => h s (by simp [hs])
    have ha := h a (by simp)
    cases h1 : p a <;> cases h2 : r a
    · simpa [h1, h2] using ih
    · simp only [List.filter_cons, h1, h2, Bool.false_eq_true, if_false, if_true, Bool.or_true]
      exact List.perm_middle.trans (ih.cons a)
    · simp only [List.filter_cons, h1, h2, Bool.false_eq_true, if_false, if_true, Bool.true_or, List.cons_append]
      exact ih.cons a
    · exact absurd (ha h1 h2) id
theorem way_off {q : Pt → Nat × Nat} {l : List Pt} {X : SA} {f t c : Nat} {o : Pt → Bool} (h : SgOk q l X f t o) (hc : c < f ∨ t < c) : X.way c = [] := by
  cases X with
  | nil => rfl
  | node b f' t' A d k lo hi =>
    obtain ⟨h1, h2, _⟩ := h
    subst h1 h2
    unfold SA.way
    rw [if_neg (by omega)]
theorem SgOk.way {q : Pt → Nat × Nat} {l : List Pt} {c : Nat} : ∀ {X : SA} {f t : Nat} {o : Pt → Bool}, SgOk q l X f t o → (∀ s ∈ l, o s = true → inn q s f t = true) → f ≤ c → c ≤ t →
    (X.way c).Perm (l.filter fun s => inn q s c c && !o s)
  | .nil, _, _, _, h, _, _, _ => by cases h
  | .node b f' t' A d k lo hi, f, t, o, ⟨h1, h2, h3, h4⟩, ho, hc1, hc2 => by
    subst h1 h2
    unfold SA.way
    rw [if_pos ⟨hc1, hc2⟩]
    have key : (lo.way c ++ hi.way c).Perm (l.filter fun s => inn q s c c && !inn q s f' t') := by
      rcases h4 with ⟨h4, h5, h6⟩ | ⟨h4, h5, h6⟩
      · rcases Nat.lt_or_ge (f' + (t' - f') / 2) c with hm | hm
        · rw [way_off h5 (.inr hm), List.nil_append]
          exact h6.way (fun s _ h => by unfold inn at h ⊢; simp at h ⊢; omega) (by omega) hc2
        · rw [way_off h6 (.inl (by omega)), List.append_nil]
          exact h5.way (fun s _ h => by unfold inn at h ⊢; simp at h ⊢; omega) hc1 hm
      · subst h5 h6
        have : c = f' := by omega
        subst this
        subst h4
        have : (l.filter fun s => inn q s c c && !inn q s c c) = [] := by
          rw [List.filter_eq_nil_iff]; intro a _; simp
        rw [this]; exact .nil
    rw [h3]
    refine (List.Perm.append_left _ key).trans ?_
    refine (perm_split _ _ l fun s _ h h' => by simp at h h'; rw [h.1] at h'; cases h'.2).trans ?_
    refine .of_eq (List.filter_congr fun s hs => ?_)
    have h0 := ho s hs
    have h1 : inn q s f' t' = true → inn q s c c = true := fun h => by unfold inn at h ⊢; simp at h ⊢; omega
    cases h2 : o s <;> cases h3 : inn q s f' t' <;> cases h4 : inn q s c c <;> simp [h2, h3, h4] at h0 h1 ⊢
/-- How many cells the nodes have at which an interval lies. -/
theorem SgOk.cells {q : Pt → Nat × Nat} {l : List Pt} {x y : Nat} (hxy : x ≤ y) : ∀ {X : SA} {f t : Nat} {o : Pt → Bool}, SgOk q l X f t o → X.at_ x y (fun f t _ => t - f + 1) = min y t + 1 - max x f
  | .nil, _, _, _, h => by cases h
  | .node b f' t' A d k lo hi, f, t, o, h => by
    have hle := h.le
    obtain ⟨h1, h2, h3, h4⟩ := h
    subst h1 h2
    unfold SA.at_
    split
    · omega
    · split
      · omega
      · rcases h4 with ⟨h4, h5, h6⟩ | ⟨h4, h5, h6⟩
        · rw [h5.cells hxy, h6.cells hxy]; omega
        · omega
/-- At each of those the interval is. -/
theorem SgOk.right {q : Pt → Nat × Nat} {l : List Pt} {s : Pt} (hs : s ∈ l) : ∀ {X : SA} {f t : Nat} {o : Pt → Bool}, SgOk q l X f t o → o s = false → X.at_ (q s).1 (q s).2 (fun _ _ m => if s ∈ m then 0 else 1) = 0
  | .nil, _, _, _, h, _ => by cases h
  | .node b f' t' A d k lo hi, f, t, o, ⟨h1, h2, h3, h4⟩, ho => by
    subst h1 h2
    unfold SA.at_
    split
    · rfl
    · split
      · rename_i hd hi
        rw [if_pos]
        rw [h3, List.mem_filter]
        refine ⟨hs, ?_⟩
        unfold inn; simp [hi, ho]
      · rename_i hd hi
        have hi' : inn q s f' t' = false := by
          cases hb : inn q s f' t' with
          | false => rfl
          | true => unfold inn at hb; simp at hb; exact absurd hb hi
        rcases h4 with ⟨h4, h5, h6⟩ | ⟨h4, h5, h6⟩
        · rw [h5.right hs hi', h6.right hs hi']
        · subst h5 h6; rfl
/-- What is told of the nodes, one by one. -/
def SA.run {S : Type} (x y : Nat) (step : S → Nat → Nat → List Pt → S) : SA → S → S
  | .nil, s => s
  | .node _ f t _ _ l lo hi, s => if y < f ∨ t < x then s else if x ≤ f ∧ t ≤ y then step s f t l else hi.run x y step (lo.run x y step s)
theorem run_off {S : Type} {x y b f t c : Nat} {A : Option Addr} {l : List Pt} {lo hi : SA} {step : S → Nat → Nat → List Pt → S} {s : S} (h : y < f ∨ t < x) : SA.run x y step (.node b f t A c l lo hi) s = s := if_pos h
theorem runAt {S : Type} {x y b f t c : Nat} {A : Option Addr} {l : List Pt} {lo hi : SA} {step : S → Nat → Nat → List Pt → S} {s : S} (h : ¬ (y < f ∨ t < x)) (h' : x ≤ f ∧ t ≤ y) : SA.run x y step (.node b f t A c l lo hi) s = step s f t l := (if_neg h).trans (if_pos h')
theorem run_go {S : Type} {x y b f t c : Nat} {A : Option Addr} {l : List Pt} {lo hi : SA} {step : S → Nat → Nat → List Pt → S} {s : S} (h : ¬ (y < f ∨ t < x)) (h' : ¬ (x ≤ f ∧ t ≤ y)) : SA.run x y step (.node b f t A c l lo hi) s = hi.run x y step (lo.run x y step s) := (if_neg h).trans (if_neg h')
theorem run_sum {S : Type} {x y : Nat} {step : S → Nat → Nat → List Pt → S} (v : S → Nat) (w : Nat → Nat → List Pt → Nat) (h : ∀ s f t l, v (step s f t l) = v s + w f t l) : ∀ (X : SA) (s : S), v (X.run x y step s) = v s + X.at_ x y w
  | .nil, s => rfl
  | .node _ f t _ _ l lo hi, s => by
    unfold SA.run SA.at_
    split
    · rfl
    · split
      · exact h _ _ _ _
      · rw [run_sum v w h hi, run_sum v w h lo]; omega
/-- All lists of nodes are parts of the one of all. -/
theorem SgOk.sub {q : Pt → Nat × Nat} {l : List Pt} : ∀ {X : SA} {f t : Nat} {o : Pt → Bool}, SgOk q l X f t o → X.each fun f' t' _ _ m => m.Sublist l ∧ f' ≤ t' ∧ t' ≤ t
  | .nil, _, _, _, h => by cases h
  | .node b f' t' A d k lo hi, f, t, o, h => by
    have hle := h.le
    obtain ⟨h1, h2, h3, h4⟩ := h
    subst h1 h2
    refine ⟨⟨h3 ▸ List.filter_sublist, hle, Nat.le_refl _⟩, ?_⟩
    rcases h4 with ⟨h4, h5, h6⟩ | ⟨h4, h5, h6⟩
    · exact ⟨h5.sub.mono fun _ _ _ _ _ h => ⟨h.1, h.2.1, by omega⟩, h6.sub.mono fun _ _ _ _ _ h => ⟨h.1, h.2.1, by omega⟩⟩
    · subst h5 h6; exact ⟨trivial, trivial⟩
/-- How many intervals lie at nodes. -/
def SA.all : SA → Nat
  | .nil => 0
  | .node _ _ _ _ _ l lo hi => l.length + lo.all + hi.all
def SA.vis (x y : Nat) (X : SA) : Nat := X.at_ x y (fun _ _ _ => 1)
theorem sum_add {α : Type} (a b : α → Nat) : ∀ (l : List α), (l.map fun s => a s + b s).sum = (l.map a).sum + (l.map b).sum
  | [] => rfl
  | s :: l => by simp only [List.map_cons, List.sum_cons, sum_add a b l]; omega
theorem filter_sum {α : Type} (p : α → Bool) : ∀ (l : List α), (l.filter p).length = (l.map fun s => if p s then 1 else 0).sum
  | [] => rfl
  | s :: l => by
    rw [List.filter_cons, List.map_cons, List.sum_cons, ← filter_sum p l]
    cases p s <;> simp; omega
theorem SgOk.off {q : Pt → Nat × Nat} {l : List Pt} {x y : Nat} : ∀ {X : SA} {f t : Nat} {o : Pt → Bool}, SgOk q l X f t o → y < f ∨ t < x → X.vis x y = 0 := fun {X f t o} h hd => by
  cases X with
  | nil => rfl
  | node b f' t' A d k lo hi =>
    obtain ⟨h1, h2, _⟩ := h
    subst h1 h2
    unfold SA.vis SA.at_
    rw [if_pos hd]
theorem SgOk.all {q : Pt → Nat × Nat} {l : List Pt} (hq : ∀ s ∈ l, (q s).1 ≤ (q s).2) : ∀ {X : SA} {f t : Nat} {o : Pt → Bool}, SgOk q l X f t o → (∀ s ∈ l, o s = true → inn q s f t = true) → X.all = (l.map fun s => if o s then 0 else X.vis (q s).1 (q s).2).sum
  | .nil, _, _, _, h, _ => by cases h
  | .node b f' t' A d k lo hi, f, t, o, h, ho => by
    have hle := h.le
    obtain ⟨h1, h2, h3, h4⟩ := h
    subst h1 h2
    have e1 : ∀ s ∈ l, (if inn q s f' t' && !o s then 1 else 0) + ((if inn q s f' t' then 0 else lo.vis (q s).1 (q s).2) + (if inn q s f' t' then 0 else hi.vis (q s).1 (q s).2)) = if o s then 0 else (SA.node b f' t' A d k lo hi).vis (q s).1 (q s).2 := fun s hs => by
      have h0 := ho s hs
      have hqs := hq s hs
      cases hos : o s with
      | true => simp [h0 hos]
      | false =>
        have ev : (SA.node b f' t' A d k lo hi).vis (q s).1 (q s).2 = if (q s).2 < f' ∨ t' < (q s).1 then 0 else if (q s).1 ≤ f' ∧ t' ≤ (q s).2 then 1 else lo.vis (q s).1 (q s).2 + hi.vis (q s).1 (q s).2 := rfl
        rw [ev]
        simp only [Bool.not_false, Bool.and_true, Bool.false_eq_true, if_false]
        cases hin : inn q s f' t' with
        | true =>
          unfold inn at hin; simp at hin
          rw [if_neg (show ¬ ((q s).2 < f' ∨ t' < (q s).1) by omega), if_pos hin]
          simp
        | false =>
          unfold inn at hin; simp at hin
          simp only [Bool.false_eq_true, if_false, Nat.zero_add]
          split
          · rename_i hd
            rcases h4 with ⟨h4, h5, h6⟩ | ⟨h4, h5, h6⟩
            · rw [h5.off (by omega), h6.off (by omega)]
            · subst h5 h6; rfl
          · rw [if_neg (by omega)]
    rw [← List.map_congr_left e1, sum_add, sum_add]
    have e2 : SA.all (.node b f' t' A d k lo hi) = k.length + (lo.all + hi.all) := by simp only [SA.all]; omega
    rw [e2, h3, filter_sum]
    congr 1
    rcases h4 with ⟨h4, h5, h6⟩ | ⟨h4, h5, h6⟩
    · rw [h5.all hq fun s _ h => by unfold inn at h ⊢; simp at h ⊢; omega, h6.all hq fun s _ h => by unfold inn at h ⊢; simp at h ⊢; omega]
    · subst h5 h6
      have z : ∀ (l : List Pt), (l.map fun s => if inn q s f' t' then 0 else SA.nil.vis (q s).1 (q s).2).sum = 0 := fun l => by
        induction l with
        | nil => rfl
        | cons s l ih =>
          rw [List.map_cons, List.sum_cons, ih]
          split <;> rfl
      rw [z]; rfl
end Go.Proofs.Ytmgkmammkmlakaa
