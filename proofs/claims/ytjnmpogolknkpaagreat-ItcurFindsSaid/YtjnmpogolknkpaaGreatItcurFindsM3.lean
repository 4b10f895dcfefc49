/- Texts of the law ItcurFinds, one behind the other. -/
import Derived.Test.YtjnmpogolknkpaaGreatItcurFindsM1
import Derived.Test.YtjnmpogolknkpaaGreatItcurFindsM2
/- Cells, and a tree of cells at whose nodes lie intervals: the plain part. An interval is told as a point is: id, lo, hi. -/
namespace Go.Proofs.YtjnmpogolknkpaaGreat
set_option linter.unusedVariables false
set_option linter.unusedSimpArgs false

/-- Numbers, each once, rising. -/
def Up (R : List Int) : Prop := R.Pairwise (· < ·)
def hasR (R : List Int) (v : Int) : Bool := decide (v ∈ R)
/-- How many are below. -/
def low (R : List Int) (x : Int) : Nat := R.countP (fun y => decide (y < x))
def cellR (R : List Int) (x : Int) : Nat := if x ∈ R then 2 * low R x + 1 else 2 * low R x
/-- A tree of cells, and where it lies. -/
inductive SA where
  | nil
  | node (b : Nat) (f t : Nat) (A : Option Addr) (c : Nat) (l : List Pt) (lo hi : SA)
def inn (q : Pt → Nat × Nat) (s : Pt) (f t : Nat) : Bool := decide ((q s).1 ≤ f) && decide (t ≤ (q s).2)
/-- A tree of cells f .. t that has some intervals, but for those that lie further up. -/
def SgOk (q : Pt → Nat × Nat) (l : List Pt) : SA → Nat → Nat → (Pt → Bool) → Prop
  | .nil, _, _, _ => False
  | .node _ f' t' _ _ m lo hi, f, t, o => f' = f ∧ t' = t ∧ m = l.filter (fun s => inn q s f t && !o s) ∧
    (f < t ∧ SgOk q l lo f (f + (t - f) / 2) (fun s => inn q s f t) ∧ SgOk q l hi (f + (t - f) / 2 + 1) t (fun s => inn q s f t) ∨ f = t ∧ lo = .nil ∧ hi = .nil)
theorem SgOk.le {q : Pt → Nat × Nat} {l : List Pt} {X : SA} {f t : Nat} {o : Pt → Bool} (h : SgOk q l X f t o) : f ≤ t := by
  cases X with
  | nil => cases h
  | node b f' t' A c m lo hi => obtain ⟨_, _, _, h | h⟩ := h <;> omega
/-- The nodes at which what goes from one cell to another one lies. -/
def SA.at_ (x y : Nat) (g : Nat → Nat → List Pt → Nat) : SA → Nat
  | .nil => 0
  | .node _ f t _ _ l lo hi => if y < f ∨ t < x then 0 else if x ≤ f ∧ t ≤ y then g f t l else lo.at_ x y g + hi.at_ x y g
def SA.addr : SA → Option Addr
  | .nil => none
  | .node b _ _ _ _ _ _ _ => some ⟨b, 0, none⟩
/-- What is true at all nodes. -/
def SA.each (P : Nat → Nat → Option Addr → Nat → List Pt → Prop) : SA → Prop
  | .nil => True
  | .node _ f t A c l lo hi => P f t A c l ∧ lo.each P ∧ hi.each P
theorem SA.each.mono {P Q : Nat → Nat → Option Addr → Nat → List Pt → Prop} (h : ∀ f t A c l, P f t A c l → Q f t A c l) : ∀ {X : SA}, X.each P → X.each Q
  | .nil, _ => trivial
  | .node _ _ _ _ _ _ _ _, ⟨a, b, c⟩ => ⟨h _ _ _ _ _ a, b.mono h, c.mono h⟩
theorem SA.each.and {P Q : Nat → Nat → Option Addr → Nat → List Pt → Prop} : ∀ {X : SA}, X.each P → X.each Q → X.each fun f t A c l => P f t A c l ∧ Q f t A c l
  | .nil, _, _ => trivial
  | .node _ _ _ _ _ _ _ _, ⟨a, b, c⟩, ⟨a', b', c'⟩ => ⟨⟨a, a'⟩, b.and b', c.and c'⟩
/-- What becomes of a tree, where the lists of those nodes are changed. -/
def Laid (x y : Nat) (G : Option Addr → Nat → List Pt → Option Addr → Nat → List Pt → Prop) : SA → SA → Prop
  | .nil, Y => Y = .nil
  | .node b f t A c l lo hi, Y => if y < f ∨ t < x then Y = .node b f t A c l lo hi else if x ≤ f ∧ t ≤ y then ∃ A' c' l', G A c l A' c' l' ∧ Y = .node b f t A' c' l' lo hi
    else ∃ lo' hi', Laid x y G lo lo' ∧ Laid x y G hi hi' ∧ Y = .node b f t A c l lo' hi'
theorem Laid.addr {x y : Nat} {G : Option Addr → Nat → List Pt → Option Addr → Nat → List Pt → Prop} {X Y : SA} (h : Laid x y G X Y) : Y.addr = X.addr := by
  cases X with
  | nil => cases h; rfl
  | node b f t A c l lo hi =>
    unfold Laid at h
    split at h
    · subst h; rfl
    · split at h
      · obtain ⟨_, _, _, _, rfl⟩ := h; rfl
      · obtain ⟨_, _, _, _, rfl⟩ := h; rfl
theorem Laid.each {x y : Nat} {G : Option Addr → Nat → List Pt → Option Addr → Nat → List Pt → Prop} {P : Nat → Nat → Option Addr → Nat → List Pt → Prop} (hG : ∀ f t A c l A' c' l', P f t A c l → G A c l A' c' l' → P f t A' c' l') : ∀ {X Y : SA}, Laid x y G X Y → X.each P → Y.each P
  | .nil, _, h, _ => by cases h; trivial
  | .node b f t A c l lo hi, Y, h, ⟨a1, a2, a3⟩ => by
    unfold Laid at h
    split at h
    · subst h; exact ⟨a1, a2, a3⟩
    · split at h
      · obtain ⟨_, _, _, g, rfl⟩ := h; exact ⟨hG _ _ _ _ _ _ _ _ a1 g, a2, a3⟩
      · obtain ⟨_, _, h1, h2, rfl⟩ := h; exact ⟨a1, h1.each hG a2, h2.each hG a3⟩
/-- Two lists that differ in one interval, which does not lie here. -/
theorem SgOk.away {q : Pt → Nat × Nat} {l m : List Pt} {s : Pt} (hm : ∀ p : Pt → Bool, p s = false → m.filter p = l.filter p) (hs : (q s).1 ≤ (q s).2) : ∀ {X : SA} {f t : Nat} {o : Pt → Bool}, SgOk q l X f t o →
    (((q s).2 < f ∨ t < (q s).1) ∨ o s = true ∧ inn q s f t = true) → SgOk q m X f t o
  | .nil, _, _, _, h, _ => h
  | .node b f' t' A c k lo hi, f, t, o, ⟨h1, h2, h3, h4⟩, ha => by
    have hle : f ≤ t := by rcases h4 with h | h <;> omega
    have hz : (inn q s f t && !o s) = false := by
      rcases ha with h | ⟨h, _⟩
      · have : inn q s f t = false := by
          unfold inn
          rcases h with h | h
          · by_cases h5 : t ≤ (q s).2
            · omega
            · simp [h5]
          · by_cases h5 : (q s).1 ≤ f
            · omega
            · simp [h5]
        simp [this]
      · simp [h]
    refine ⟨h1, h2, by rw [h3, hm _ hz], ?_⟩
    rcases h4 with ⟨h4, h5, h6⟩ | h4
    · refine .inl ⟨h4, h5.away hm hs ?_, h6.away hm hs ?_⟩
      · rcases ha with h | ⟨_, h⟩
        · left; omega
        · right; refine ⟨h, ?_⟩; unfold inn at h ⊢; simp at h ⊢; omega
      · rcases ha with h | ⟨_, h⟩
        · left; omega
        · right; refine ⟨h, ?_⟩; unfold inn at h ⊢; simp at h ⊢; omega
    · exact .inr h4
theorem SgOk.laid {q : Pt → Nat × Nat} {l m : List Pt} {s : Pt} {g : List Pt → List Pt} {G : Option Addr → Nat → List Pt → Option Addr → Nat → List Pt → Prop} (hG : ∀ A c l A' c' l', G A c l A' c' l' → l' = g l) (hm : ∀ p : Pt → Bool, p s = false → m.filter p = l.filter p) (hp : ∀ p : Pt → Bool, p s = true → m.filter p = g (l.filter p)) (hs : (q s).1 ≤ (q s).2) : ∀ {X Y : SA} {f t : Nat} {o : Pt → Bool}, SgOk q l X f t o →
    o s = false → Laid (q s).1 (q s).2 G X Y → SgOk q m Y f t o
  | .nil, _, _, _, _, h, _, _ => by cases h
  | .node b f' t' A c k lo hi, Y, f, t, o, ⟨h1, h2, h3, h4⟩, ho, hl => by
    subst h1 h2
    unfold Laid at hl
    split at hl
    · rename_i hd
      subst hl
      exact SgOk.away hm hs ⟨rfl, rfl, h3, h4⟩ (.inl hd)
    · rename_i hd
      split at hl
      · rename_i hi
        obtain ⟨A', c', l', hg, rfl⟩ := hl
        have hg := hG _ _ _ _ _ _ hg
        subst hg
        have hi' : inn q s f' t' = true := by unfold inn; simp [hi]
        refine ⟨rfl, rfl, by rw [hp _ (by simp [hi', ho]), h3], ?_⟩
        rcases h4 with ⟨h4, h5, h6⟩ | h4
        · refine .inl ⟨h4, h5.away hm hs (.inr ⟨hi', ?_⟩), h6.away hm hs (.inr ⟨hi', ?_⟩)⟩
          · unfold inn; simp; omega
          · unfold inn; simp; omega
        · exact .inr h4
      · rename_i hi
        have hi' : inn q s f' t' = false := by
          cases hb : inn q s f' t' with
          | false => rfl
          | true => unfold inn at hb; simp at hb; exact absurd hb hi
        obtain ⟨lo', hi2, hl1, hl2, rfl⟩ := hl
        refine ⟨rfl, rfl, by rw [hm _ (by simp [hi']), h3], ?_⟩
        rcases h4 with ⟨h4, h5, h6⟩ | ⟨h4, h5, h6⟩
        · exact .inl ⟨h4, h5.laid hG hm hp hs hi' hl1, h6.laid hG hm hp hs hi' hl2⟩
        · subst h5 h6
          exact .inr ⟨h4, hl1, hl2⟩
/-- What lies on the way to a cell. -/
def SA.way (c : Nat) : SA → List Pt
  | .nil => []
  | .node _ f t _ _ l lo hi => if f ≤ c ∧ c ≤ t then l ++ (lo.way c ++ hi.way c) else []
/-- How many cells the nodes have at which an interval lies. -/
theorem SgOk.cells {q : Pt → Nat × Nat} {l : List Pt} {x y : Nat} (hxy : x ≤ y) : ∀ {X : SA} {f t : Nat} {o : Pt → Bool}, SgOk q l X f t o → X.at_ x y (fun f t _ => t - f + 1) = min y t + 1 - max x f
  | .nil, _, _, _, h => by cases h
  | .node b f' t' A d k lo hi, f, t, o, h => by
    have hle := h.le
    obtain ⟨h1, h2, h3, h4⟩ := h
    subst h1 h2
    unfold SA.at_
    split
    · omega
    · split
      · omega
      · rcases h4 with ⟨h4, h5, h6⟩ | ⟨h4, h5, h6⟩
        · rw [h5.cells hxy, h6.cells hxy]; omega
        · omega
/-- At each of those the interval is. -/
theorem SgOk.right {q : Pt → Nat × Nat} {l : List Pt} {s : Pt} (hs : s ∈ l) : ∀ {X : SA} {f t : Nat} {o : Pt → Bool}, SgOk q l X f t o → o s = false → X.at_ (q s).1 (q s).2 (fun _ _ m => if s ∈ m then 0 else 1) = 0
  | .nil, _, _, _, h, _ => by cases h
  | .node b f' t' A d k lo hi, f, t, o, ⟨h1, h2, h3, h4⟩, ho => by
    subst h1 h2
    unfold SA.at_
    split
    · rfl
    · split
      · rename_i hd hi
        rw [if_pos]
        rw [h3, List.mem_filter]
        refine ⟨hs, ?_⟩
        unfold inn; simp [hi, ho]
      · rename_i hd hi
        have hi' : inn q s f' t' = false := by
          cases hb : inn q s f' t' with
          | false => rfl
          | true => unfold inn at hb; simp at hb; exact absurd hb hi
        rcases h4 with ⟨h4, h5, h6⟩ | ⟨h4, h5, h6⟩
        · rw [h5.right hs hi', h6.right hs hi']
        · subst h5 h6; rfl
/-- What is told of the nodes, one by one. -/
def SA.run {S : Type} (x y : Nat) (step : S → Nat → Nat → List Pt → S) : SA → S → S
  | .nil, s => s
  | .node _ f t _ _ l lo hi, s => if y < f ∨ t < x then s else if x ≤ f ∧ t ≤ y then step s f t l else hi.run x y step (lo.run x y step s)
/-- All lists of nodes are parts of the one of all. -/
theorem SgOk.sub {q : Pt → Nat × Nat} {l : List Pt} : ∀ {X : SA} {f t : Nat} {o : Pt → Bool}, SgOk q l X f t o → X.each fun f' t' _ _ m => m.Sublist l ∧ f' ≤ t' ∧ t' ≤ t
  | .nil, _, _, _, h => by cases h
  | .node b f' t' A d k lo hi, f, t, o, h => by
    have hle := h.le
    obtain ⟨h1, h2, h3, h4⟩ := h
    subst h1 h2
    refine ⟨⟨h3 ▸ List.filter_sublist, hle, Nat.le_refl _⟩, ?_⟩
    rcases h4 with ⟨h4, h5, h6⟩ | ⟨h4, h5, h6⟩
    · exact ⟨h5.sub.mono fun _ _ _ _ _ h => ⟨h.1, h.2.1, by omega⟩, h6.sub.mono fun _ _ _ _ _ h => ⟨h.1, h.2.1, by omega⟩⟩
    · subst h5 h6; exact ⟨trivial, trivial⟩
/-- How many intervals lie at nodes. -/
def SA.all : SA → Nat
  | .nil => 0
  | .node _ _ _ _ _ l lo hi => l.length + lo.all + hi.all
def SA.vis (x y : Nat) (X : SA) : Nat := X.at_ x y (fun _ _ _ => 1)
theorem sum_add {α : Type} (a b : α → Nat) : ∀ (l : List α), (l.map fun s => a s + b s).sum = (l.map a).sum + (l.map b).sum
  | [] => rfl
  | s :: l => by simp only [List.map_cons, List.sum_cons, sum_add a b l]; omega
theorem filter_sum {α : Type} (p : α → Bool) : ∀ (l : List α), (l.filter p).length = (l.map fun s => if p s then 1 else 0).sum
  | [] => rfl
  | s :: l => by
    rw [List.filter_cons, List.map_cons, List.sum_cons, ← filter_sum p l]
    cases p s <;> simp; omega
theorem SgOk.off {q : Pt → Nat × Nat} {l : List Pt} {x y : Nat} : ∀ {X : SA} {f t : Nat} {o : Pt → Bool}, SgOk q l X f t o → y < f ∨ t < x → X.vis x y = 0 := fun {X f t o} h hd => by
  cases X with
  | nil => rfl
  | node b f' t' A d k lo hi =>
    obtain ⟨h1, h2, _⟩ := h
    subst h1 h2
    unfold SA.vis SA.at_
    rw [if_pos hd]
theorem SgOk.all {q : Pt → Nat × Nat} {l : List Pt} (hq : ∀ s ∈ l, (q s).1 ≤ (q s).2) : ∀ {X : SA} {f t : Nat} {o : Pt → Bool}, SgOk q l X f t o → (∀ s ∈ l, o s = true → inn q s f t = true) → X.all = (l.map fun s => if o s then 0 else X.vis (q s).1 (q s).2).sum
  | .nil, _, _, _, h, _ => by cases h
  | .node b f' t' A d k lo hi, f, t, o, h, ho => by
    have hle := h.le
    obtain ⟨h1, h2, h3, h4⟩ := h
    subst h1 h2
    have e1 : ∀ s ∈ l, (if inn q s f' t' && !o s then 1 else 0) + ((if inn q s f' t' then 0 else lo.vis (q s).1 (q s).2) + (if inn q s f' t' then 0 else hi.vis (q s).1 (q s).2)) = if o s then 0 else (SA.node b f' t' A d k lo hi).vis (q s).1 (q s).2 := fun s hs => by
      have h0 := ho s hs
      have hqs := hq s hs
      cases hos : o s with
      | true => simp [h0 hos]
      | false =>
        have ev : (SA.node b f' t' A d k lo hi).vis (q s).1 (q s).2 = if (q s).2 < f' ∨ t' < (q s).1 then 0 else if (q s).1 ≤ f' ∧ t' ≤ (q s).2 then 1 else lo.vis (q s).1 (q s).2 + hi.vis (q s).1 (q s).2 := rfl
        rw [ev]
        simp only [Bool.not_false, Bool.and_true, Bool.false_eq_true, if_false]
        cases hin : inn q s f' t' with
        | true =>
          unfold inn at hin; simp at hin
          rw [if_neg (show ¬ ((q s).2 < f' ∨ t' < (q s).1) by omega), if_pos hin]
          simp
        | false =>
          unfold inn at hin; simp at hin
          simp only [Bool.false_eq_true, if_false, Nat.zero_add]
          split
          · rename_i hd
            rcases h4 with ⟨h4, h5, h6⟩ | ⟨h4, h5, h6⟩
            · rw [h5.off (by omega), h6.off (by omega)]
            · subst h5 h6; rfl
          · rw [if_neg (by omega)]
    rw [← List.map_congr_left e1, sum_add, sum_add]
    have e2 : SA.all (.node b f' t' A d k lo hi) = k.length + (lo.all + hi.all) := by simp only [SA.all]; omega
    rw [e2, h3, filter_sum]
    congr 1
    rcases h4 with ⟨h4, h5, h6⟩ | ⟨h4, h5, h6⟩
    · rw [h5.all hq fun s _ h => by unfold inn at h ⊢; simp at h ⊢; omega, h6.all hq fun s _ h => by unfold inn at h ⊢; simp at h ⊢; omega]
    · subst h5 h6
      have z : ∀ (l : List Pt), (l.map fun s => if inn q s f' t' then 0 else SA.nil.vis (q s).1 (q s).2).sum = 0 := fun l => by
        induction l with
        | nil => rfl
        | cons s l ih =>
          rw [List.map_cons, List.sum_cons, ih]
          split <;> rfl
      rw [z]; rfl
end Go.Proofs.YtjnmpogolknkpaaGreat
/- Lists of numbers in order: sorted at int, by cmp.Less. -/
namespace Go.Proofs.YtjnmpogolknkpaaGreat
attribute [local irreducible] sat
set_option linter.unusedVariables false
set_option linter.unusedSimpArgs false
set_option maxRecDepth 100000

theorem isNaN_ctr (a : Int) (L : List HP) : Ctr Tryz.prog 153 #[.int .i64 a] L fun v L' => v = .bool false ∧ L' = L := by
  refine Ctr_of (fn := Tryz.f153) (n := 6) Tryz.func153 rfl rfl rfl ?_
  intro g F
  (repeat first | refine G_seq ?_ | refine G_skip ?_ | refine G_endblk ?_ | refine G_block ?_ | refine G_exit rfl ?_)
  refine G_region ?_
  refine GO_q rfl rfl (ev_assign rfl) ?_
  refine GO_nil ?_
  (repeat first | refine G_seq ?_ | refine G_skip ?_ | refine G_endblk ?_ | refine G_block ?_ | refine G_exit rfl ?_)
  refine G_region ?_
  refine GO_q rfl rfl (ev_move rfl) ?_
  refine GO_q rfl rfl (ev_move rfl) ?_
  refine GO_q rfl rfl (ev_neq rfl rfl) ?_
  refine GO_q rfl rfl (ev_assign rfl) ?_
  refine GO_nil ?_
  (repeat first | refine G_seq ?_ | refine G_skip ?_ | refine G_endblk ?_ | refine G_block ?_ | refine G_exit rfl ?_)
  refine G_ret rfl (.tmp rfl .nil) (by (repeat first | exact fun _ s => s | apply en_keep | apply en_drop | apply en_app) <;> fail) ⟨by simp [retv], rfl⟩
theorem cless_ctr (a b : Int) (L : List HP) : Ctr Tryz.prog 133 #[.int .i64 a, .int .i64 b] L fun v L' => v = .bool (decide (a < b)) ∧ L' = L := by
  refine Ctr_of (fn := Tryz.f133) (n := 17) Tryz.func133 rfl rfl rfl ?_
  intro g F
  (repeat first | refine G_seq ?_ | refine G_skip ?_ | refine G_endblk ?_ | refine G_block ?_ | refine G_exit rfl ?_)
  refine G_region ?_
  refine GO_q rfl rfl (ev_assign rfl) ?_
  refine GO_nil ?_
  (repeat first | refine G_seq ?_ | refine G_skip ?_ | refine G_endblk ?_ | refine G_block ?_ | refine G_exit rfl ?_)
  refine G_region ?_
  refine GO_q rfl rfl (ev_move rfl) ?_
  refine GO_eff rfl rfl (eff_call rfl (isNaN_ctr a _)) ?_; rintro _ _ ⟨rfl, rfl⟩
  refine GO_q rfl rfl (ev_move rfl) ?_
  refine GO_no rfl rfl rfl rfl ?_
  refine GO_no rfl rfl rfl rfl ?_
  refine GO_no rfl rfl rfl rfl ?_
  refine GO_q rfl rfl (ev_pick_f rfl rfl rfl) ?_
  refine GO_q rfl rfl (ev_move rfl) ?_
  refine GO_yes rfl rfl rfl rfl ?_
  refine GO_q rfl rfl (ev_move rfl) ?_
  refine GO_yes rfl rfl rfl rfl ?_
  refine GO_q rfl rfl (ev_move rfl) ?_
  refine GO_yes rfl rfl rfl rfl ?_
  (first | refine GO_q rfl rfl (ev_lssN rfl rfl) ?_ | refine GO_q rfl rfl (ev_lss rfl rfl) ?_)
  refine GO_q rfl rfl (ev_pick_f rfl rfl rfl) ?_
  refine GO_q rfl rfl (ev_assign rfl) ?_
  refine GO_nil ?_
  (repeat first | refine G_seq ?_ | refine G_skip ?_ | refine G_endblk ?_ | refine G_block ?_ | refine G_exit rfl ?_)
  refine G_ret rfl (.tmp rfl .nil) (by (repeat first | exact fun _ s => s | apply en_keep | apply en_drop | apply en_app) <;> fail) ⟨rfl, rfl⟩
theorem CloneI_ctr (A : Option Addr) (n c : Nat) (l : List Int) (L : List HP) (hl : Rd L A n l) (hn : n ≤ 1000000) :
    Ctr Tryz.prog 172 #[.slice A n c] L fun v L' => Made 3 l L v L' := by
  have h1 : l.length = n := hl.len (by decide)
  refine Ctr_of (fn := Tryz.f172) (n := 8) Tryz.func172 rfl rfl rfl ?_
  intro g F
  (repeat first | refine G_seq ?_ | refine G_skip ?_ | refine G_endblk ?_ | refine G_block ?_ | refine G_exit rfl ?_)
  refine G_region ?_
  refine GO_q rfl rfl (ev_assign rfl) ?_
  refine GO_nil ?_
  (repeat first | refine G_seq ?_ | refine G_skip ?_ | refine G_endblk ?_ | refine G_block ?_ | refine G_exit rfl ?_)
  refine G_region ?_
  refine GO_q rfl rfl (ev_move rfl) ?_
  refine GO_q rfl rfl (ev_eqlNilS rfl rfl) ?_
  refine GO_nil ?_
  (repeat first | refine G_seq ?_ | refine G_skip ?_ | refine G_endblk ?_ | refine G_block ?_ | refine G_exit rfl ?_)
  refine G_condB rfl (fun h2 => ?_) (fun h2 => ?_)
  · have e : A = none := by simpa using h2
    subst e
    have h3 : n = 0 := by
      rcases Nat.eq_zero_or_pos n with h | h
      · exact h
      · obtain ⟨b, o, e, _⟩ := hl.at_ h; cases e
    subst h3
    have : l = [] := List.eq_nil_of_length_eq_zero h1
    subst this
    (repeat first | refine G_seq ?_ | refine G_skip ?_ | refine G_endblk ?_ | refine G_block ?_ | refine G_exit rfl ?_)
    refine G_region ?_
    refine GO_q rfl rfl (ev_assign rfl) ?_
    refine GO_nil ?_
    (repeat first | refine G_seq ?_ | refine G_skip ?_ | refine G_endblk ?_ | refine G_block ?_ | refine G_exit rfl ?_)
    refine G_ret (L' := own 3 1 none 0 0 [] :: L) rfl (.tmp rfl .nil) ?_ ⟨none, 0, rfl, fun h => absurd h (Nat.lt_irrefl 0), rfl⟩
    exact fun h s => (own.nil_ 3 1 h s).swap
  · (repeat first | refine G_seq ?_ | refine G_skip ?_ | refine G_endblk ?_ | refine G_block ?_ | refine G_exit rfl ?_)
    refine G_region ?_
    refine GO_eff rfl rfl eff_buildSlice0 ?_; rintro _ _ ⟨b5, rfl, rfl⟩
    refine GO_q rfl rfl (ev_move rfl) ?_
    refine GO_eff rfl rfl (eff_append rfl rfl (by repeat' first | exact Pick.here | apply Pick.skip) (Rc.skip (Rc.skip hl)) ((flat_one _)) (by rfl) (by decide) (by first | omega | (simp; done) | (simp; omega)) (by first | omega | (simp; done) | (simp; omega))) ?_; rintro _ _ ⟨A7, c7, rfl, hc7, hm7, hn7, rfl⟩
    refine GO_q rfl rfl (ev_assign rfl) ?_
    refine GO_nil ?_
    rw [Nat.zero_add] at hc7 hn7
    (repeat first | refine G_seq ?_ | refine G_skip ?_ | refine G_endblk ?_ | refine G_block ?_ | refine G_exit rfl ?_)
    refine G_ret (L' := own 3 1 A7 l.length c7 (flat l) :: L) rfl (.tmp rfl .nil) ?_ ⟨A7, c7, by rw [h1]; simp [retv], by rw [h1]; exact hn7, rfl⟩
    rw [h1, Nat.zero_add, List.nil_append]
    refine en_pick (.skip (.here)) ?_
    refine en_pick (.here) ?_
    exact (by (repeat first | exact fun _ s => s | apply en_keep | apply en_drop | apply en_app) <;> fail)
theorem flat_int : ∀ l : List Int, flat l = l.map (Value.int .i64)
  | [] => rfl
  | a :: l => by rw [flat_cons, flat_int l]; rfl
theorem flat_int_set (l : List Int) (i : Nat) (x : Int) : (flat l).set (0 + i * 1) (.int .i64 x) = flat (l.set i x) := by
  rw [Nat.zero_add, Nat.mul_one, flat_int, flat_int, List.map_set]
theorem ld_ownI {b n c i : Nat} {l : List Int} {x : Int} (hn : l.length = n) (h : l[i]? = some x) (L : List HP) : Ld (own 3 1 (some ⟨b, 0, none⟩) n c (flat l) :: L) ⟨b, 0 + i * 1, none⟩ (.int .i64 x) := by
  have hlt : i < l.length := (List.getElem?_eq_some_iff.1 h).1
  have r : Rd (own 3 1 (some ⟨b, 0, none⟩) n c (flat l) :: L) (some ⟨b, 0, none⟩) n l := Rc.own (by rw [flat_length, hn]; rfl) (fun _ => ⟨b, rfl⟩)
  obtain ⟨_, _, e, hx⟩ := r.at_ (by omega)
  cases e
  exact (hx i x h).at_ (i := 0) rfl
theorem by_swap {A R : List Int} {x p : Int} {k : Nat} (hk : k = A.length + 1) : ((A ++ p :: x :: R).set k p).set (k - 1) x = A ++ x :: p :: R ∧ (A ++ p :: x :: R)[k]? = some x ∧ (A ++ p :: x :: R)[k - 1]? = some p := by
  subst hk
  refine ⟨?_, ?_, ?_⟩
  · simp [List.set_append]
  · simp [List.getElem?_append]
  · simp
theorem byI_ctr (A : Option Addr) (n c : Nat) (l : List Int) (L : List HP) (hl : Rd L A n l) (hn : n ≤ 1000000) :
    Ctr Tryz.prog 170 #[.slice A n c, .func (.func 133) #[] #[]] L fun v L' => Made 3 (srt l) L v L' := by
  have h1 : l.length = n := hl.len (by decide)
  refine Ctr_of (fn := Tryz.f170) (n := 51) Tryz.func170 rfl rfl rfl ?_
  intro g F
  (repeat first | refine G_seq ?_ | refine G_skip ?_ | refine G_endblk ?_ | refine G_block ?_ | refine G_exit rfl ?_)
  refine G_region ?_
  refine GO_q rfl rfl (ev_assign rfl) ?_
  refine GO_nil ?_
  (repeat first | refine G_seq ?_ | refine G_skip ?_ | refine G_endblk ?_ | refine G_block ?_ | refine G_exit rfl ?_)
  refine G_region ?_
  refine GO_q rfl rfl (ev_move rfl) ?_
  refine GO_eff rfl rfl (eff_call rfl (CloneI_ctr A n c l _ (by repeat' first | exact Rc.blk rfl | assumption | apply Rd.skip | apply Rd.app) hn)) ?_; rintro _ _ ⟨B, e, rfl, hB, rfl⟩
  refine GO_q rfl rfl (ev_assign rfl) ?_
  refine GO_nil ?_
  (repeat first | refine G_seq ?_ | refine G_skip ?_ | refine G_endblk ?_ | refine G_block ?_ | refine G_exit rfl ?_)
  refine G_region ?_
  refine GO_q rfl rfl (ev_move rfl) ?_
  refine GO_q rfl rfl (ev_len rfl) ?_
  refine GO_q rfl rfl (ev_move rfl) ?_
  refine GO_nil ?_
  (repeat first | refine G_seq ?_ | refine G_skip ?_ | refine G_endblk ?_ | refine G_block ?_ | refine G_exit rfl ?_)
  refine G_loop (ι := Nat × List Int) (fun z => [(1, .func (.func 133) #[] #[]), (5, .slice B n e), (11, .int .i64 (n : Nat)), (12, .int .i64 (z.1 : Nat))]) (fun z => own 3 1 B n e (flat z.2) :: F :: L) (fun z => z.1 ≤ n ∧ z.2.Perm l ∧ (z.2.take z.1).Pairwise (· ≤ ·)) (fun z => n - z.1) (0, l) ⟨Nat.zero_le _, .refl _, by simp⟩ ⟨rfl, by rw [← h1]; rfl, by rw [← h1]; rfl, rfl, trivial⟩ (by rw [← h1]; exact (by (repeat first | exact en_refl | (apply en_blk; focus ((repeat' first | exact Pick.here | apply Pick.skip | apply Pick.app); done); focus rfl) | (apply en_own; focus ((repeat' first | exact Pick.here | apply Pick.skip | apply Pick.app); done); focus rfl) | (apply en_pick; focus ((repeat' first | exact Pick.here | apply Pick.skip | apply Pick.app); done)) | apply en_drop | apply en_app) <;> fail)) ?_
  rintro ⟨i, m⟩ ⟨f1, f2, f3⟩
  simp only at f1 f2 f3
  dsimp only
  have hm : m.length = n := by rw [f2.length_eq, h1]
  (repeat first | refine G_seq ?_ | refine G_skip ?_ | refine G_endblk ?_ | refine G_block ?_ | refine G_exit rfl ?_)
  refine G_region ?_
  (first | refine GO_q rfl rfl (ev_lssN rfl rfl) ?_ | refine GO_q rfl rfl (ev_lss rfl rfl) ?_)
  refine GO_nil ?_
  (repeat first | refine G_seq ?_ | refine G_skip ?_ | refine G_endblk ?_ | refine G_block ?_ | refine G_exit rfl ?_)
  refine G_cond rfl (fun c1 => ?_) (fun c1 => ?_)
  · (repeat first | refine G_seq ?_ | refine G_skip ?_ | refine G_endblk ?_ | refine G_block ?_ | refine G_exit rfl ?_)
    refine G_region ?_
    refine GO_q rfl rfl (ev_move rfl) ?_
    refine GO_q rfl rfl (ev_assign rfl) ?_
    refine GO_nil ?_
    (repeat first | refine G_seq ?_ | refine G_skip ?_ | refine G_endblk ?_ | refine G_block ?_ | refine G_exit rfl ?_)
    refine G_region ?_
    refine GO_q rfl rfl (ev_move rfl) ?_
    refine GO_q rfl rfl (ev_assign rfl) ?_
    refine GO_nil ?_
    have hxi : m[i]? = some m[i] := List.getElem?_eq_getElem (by omega)
    have hsp : m = m.take i ++ m[i] :: m.drop (i + 1) := by
      conv => lhs; rw [← List.take_append_drop i m, List.drop_eq_getElem_cons (by omega)]
    have hPl : (m.take i).length = i := by rw [List.length_take]; omega
    obtain ⟨b, rfl⟩ := hB (by omega)
    generalize m[i] = x at *
    generalize m.take i = P at *
    generalize m.drop (i + 1) = D at *
    (repeat first | refine G_seq ?_ | refine G_skip ?_ | refine G_endblk ?_ | refine G_block ?_ | refine G_exit rfl ?_)
    refine G_loop (ι := Nat) (fun k => [(1, .func (.func 133) #[] #[]), (5, .slice (some ⟨b, 0, none⟩) n e), (11, .int .i64 (n : Nat)), (12, .int .i64 (i : Nat)), (7, .int .i64 (k : Nat))]) (fun k => own 3 1 (some ⟨b, 0, none⟩) n e (flat (P.take k ++ x :: (P.drop k ++ D))) :: F :: L) (fun k => k ≤ i ∧ ∀ y ∈ P.drop k, x < y) (fun k => k) i ⟨Nat.le_refl _, by rw [List.drop_of_length_le (by omega)]; simp⟩ ⟨rfl, rfl, rfl, rfl, rfl, trivial⟩ (by rw [List.take_of_length_le (by omega), List.drop_of_length_le (by omega), List.nil_append, ← hsp]; exact fun _ s => s) ?_
    rintro k ⟨q1, q2⟩
    by_cases c2 : 0 < k
    · have hg : P[k - 1]? = some P[k - 1] := List.getElem?_eq_getElem (by omega)
      have e1 : P.take k = P.take (k - 1) ++ [P[k - 1]] := by
        have := List.take_succ_eq_append_getElem (l := P) (i := k - 1) (by omega)
        rwa [show k - 1 + 1 = k by omega] at this
      have e2 : P.drop (k - 1) = P[k - 1] :: P.drop k := by
        have := List.drop_eq_getElem_cons (l := P) (i := k - 1) (by omega)
        rwa [show k - 1 + 1 = k by omega] at this
      have hAl : (P.take (k - 1)).length = k - 1 := by rw [List.length_take]; omega
      have hlen : (P.take k ++ x :: (P.drop k ++ D)).length = n := by
        rw [← hm, hsp]; simp; omega
      generalize P[k - 1] = p at *
      obtain ⟨s1, s2, s3⟩ := by_swap (A := P.take (k - 1)) (R := P.drop k ++ D) (x := x) (p := p) (k := k) (by omega)
      have e3 : P.take k ++ x :: (P.drop k ++ D) = P.take (k - 1) ++ p :: x :: (P.drop k ++ D) := by rw [e1]; simp
      have e4 : P.take (k - 1) ++ x :: (P.drop (k - 1) ++ D) = P.take (k - 1) ++ x :: p :: (P.drop k ++ D) := by rw [e2]; simp
      rw [← e3] at s1 s2 s3
      by_cases c3 : x < p
      · (repeat first | refine G_seq ?_ | refine G_skip ?_ | refine G_endblk ?_ | refine G_block ?_ | refine G_exit rfl ?_)
        refine G_draw (.q 0 (.q 1 (.q 2 (.q 3 (.q 4 (.q 5 (.q 6 (.q 7 (.q 8 (.q 9 (.q 10 (.q 11 (.q 12 (.e 13 (.q 14 .nil))))))))))))))) (by kernel_rfl) (by kernel_rfl) ?_
        refine RS_m retB_noPanic rfl rfl rfl rfl (ev_move rfl) ?_
        refine RS_m retB_noPanic rfl rfl rfl rfl (ev_gtr rfl rfl) ?_
        refine RS_m retB_noPanic rfl rfl rfl rfl (ev_move rfl) ?_
        refine RS_m_yes retB_noPanic rfl rfl rfl rfl ⟨_, rfl, (decide_eq_true (by omega))⟩ rfl (ev_move rfl) ?_
        refine RS_m_yes retB_noPanic rfl rfl rfl rfl ⟨_, rfl, (decide_eq_true (by omega))⟩ rfl (ev_move rfl) ?_
        refine RS_m_yes retB_noPanic rfl rfl rfl rfl ⟨_, rfl, (decide_eq_true (by omega))⟩ rfl (ev_move rfl) ?_
        (first | refine RS_m_yes retB_noPanic rfl rfl rfl rfl ⟨_, rfl, (decide_eq_true (by omega))⟩ rfl (ev_indexAddrN rfl rfl (by first | omega | (simp; done) | (simp; omega))) ?_ | refine RS_m_yes retB_noPanic rfl rfl rfl rfl ⟨_, rfl, (decide_eq_true (by omega))⟩ rfl (ev_indexAddr rfl rfl (by first | omega | (simp; done) | (simp; omega)) (by first | omega | (simp; done) | (simp; omega))) ?_)
        refine RS_q_yes retB_noPanic rfl rfl rfl rfl ⟨_, rfl, (decide_eq_true (by omega))⟩ rfl (ev_load rfl (by repeat' first | exact ld_ownI hlen s2 _ | apply Ld.skip)) ?_
        refine RS_m_yes retB_noPanic rfl rfl rfl rfl ⟨_, rfl, (decide_eq_true (by omega))⟩ rfl (ev_move rfl) ?_
        refine RS_m_yes retB_noPanic rfl rfl rfl rfl ⟨_, rfl, (decide_eq_true (by omega))⟩ rfl (ev_move rfl) ?_
        (first | refine RS_m_yes retB_noPanic rfl rfl rfl rfl ⟨_, rfl, (decide_eq_true (by omega))⟩ rfl (ev_subN (q := 1) rfl rfl (by first | omega | (simp; done) | (simp; omega))) ?_ | refine RS_m_yes retB_noPanic rfl rfl rfl rfl ⟨_, rfl, (decide_eq_true (by omega))⟩ rfl (ev_sub rfl rfl (by first | omega | (simp; done) | (simp; omega))) ?_)
        (first | refine RS_m_yes retB_noPanic rfl rfl rfl rfl ⟨_, rfl, (decide_eq_true (by omega))⟩ rfl (ev_indexAddrN rfl rfl (by first | omega | (simp; done) | (simp; omega))) ?_ | refine RS_m_yes retB_noPanic rfl rfl rfl rfl ⟨_, rfl, (decide_eq_true (by omega))⟩ rfl (ev_indexAddr rfl rfl (by first | omega | (simp; done) | (simp; omega)) (by first | omega | (simp; done) | (simp; omega))) ?_)
        refine RS_q_yes retB_noPanic rfl rfl rfl rfl ⟨_, rfl, (decide_eq_true (by omega))⟩ rfl (ev_load rfl (by repeat' first | exact ld_ownI hlen s3 _ | apply Ld.skip)) ?_
        refine RS_e (RE_eff_yes rfl rfl rfl ⟨_, rfl, (decide_eq_true (by omega))⟩ rfl (eff_callv rfl rfl (cless_ctr x p _)) ?_); rintro _ _ ⟨rfl, rfl⟩; refine ⟨_, fun _ s => s, (by first | ((repeat first | exact fun _ s => s | apply en_keep | apply en_drop | apply en_app) <;> fail) | ((repeat first | exact en_refl | (apply en_blk; focus ((repeat' first | exact Pick.here | apply Pick.skip | apply Pick.app); done); focus rfl) | (apply en_own; focus ((repeat' first | exact Pick.here | apply Pick.skip | apply Pick.app); done); focus rfl) | (apply en_pick; focus ((repeat' first | exact Pick.here | apply Pick.skip | apply Pick.app); done)) | apply en_drop | apply en_app) <;> fail)), ?_⟩
        refine RS_m retB_noPanic rfl rfl rfl rfl (ev_pick_t rfl (decide_eq_true (by omega)) rfl) ?_
        refine RS_nil ?_
        (repeat first | refine G_seq ?_ | refine G_skip ?_ | refine G_endblk ?_ | refine G_block ?_ | refine G_exit rfl ?_)
        refine G_cond_t rfl (decide_eq_true c3) ?_
        (repeat first | refine G_seq ?_ | refine G_skip ?_ | refine G_endblk ?_ | refine G_block ?_ | refine G_exit rfl ?_)
        refine G_draw (.q 0 (.q 1 (.q 2 (.q 3 (.q 4 (.q 5 (.q 6 (.q 7 (.q 8 (.q 9 (.q 10 (.q 11 (.q 12 (.q 13 (.q 14 (.e 15 (.q 16 (.e 17 .nil)))))))))))))))))) (by kernel_rfl) (by kernel_rfl) ?_
        refine RS_m retB_noPanic rfl rfl rfl rfl (ev_move rfl) ?_
        refine RS_m retB_noPanic rfl rfl rfl rfl (ev_move rfl) ?_
        refine RS_m retB_noPanic rfl rfl rfl rfl (ev_move rfl) ?_
        refine RS_m retB_noPanic rfl rfl rfl rfl (ev_move rfl) ?_
        (first | refine RS_m retB_noPanic rfl rfl rfl rfl (ev_subN (q := 1) rfl rfl (by first | omega | (simp; done) | (simp; omega))) ?_ | refine RS_m retB_noPanic rfl rfl rfl rfl (ev_sub rfl rfl (by first | omega | (simp; done) | (simp; omega))) ?_)
        refine RS_m retB_noPanic rfl rfl rfl rfl (ev_move rfl) ?_
        refine RS_m retB_noPanic rfl rfl rfl rfl (ev_move rfl) ?_
        (first | refine RS_m retB_noPanic rfl rfl rfl rfl (ev_subN (q := 1) rfl rfl (by first | omega | (simp; done) | (simp; omega))) ?_ | refine RS_m retB_noPanic rfl rfl rfl rfl (ev_sub rfl rfl (by first | omega | (simp; done) | (simp; omega))) ?_)
        (first | refine RS_m retB_noPanic rfl rfl rfl rfl (ev_indexAddrN rfl rfl (by first | omega | (simp; done) | (simp; omega))) ?_ | refine RS_m retB_noPanic rfl rfl rfl rfl (ev_indexAddr rfl rfl (by first | omega | (simp; done) | (simp; omega)) (by first | omega | (simp; done) | (simp; omega))) ?_)
        refine RS_q retB_noPanic rfl rfl rfl rfl (ev_load rfl (by repeat' first | exact ld_ownI hlen s3 _ | apply Ld.skip)) ?_
        refine RS_m retB_noPanic rfl rfl rfl rfl (ev_move rfl) ?_
        refine RS_m retB_noPanic rfl rfl rfl rfl (ev_move rfl) ?_
        (first | refine RS_m retB_noPanic rfl rfl rfl rfl (ev_indexAddrN rfl rfl (by first | omega | (simp; done) | (simp; omega))) ?_ | refine RS_m retB_noPanic rfl rfl rfl rfl (ev_indexAddr rfl rfl (by first | omega | (simp; done) | (simp; omega)) (by first | omega | (simp; done) | (simp; omega))) ?_)
        refine RS_q retB_noPanic rfl rfl rfl rfl (ev_load rfl (by repeat' first | exact ld_ownI hlen s2 _ | apply Ld.skip)) ?_
        (first | refine RS_m retB_noPanic rfl rfl rfl rfl (ev_indexAddrN rfl rfl (by first | omega | (simp; done) | (simp; omega))) ?_ | refine RS_m retB_noPanic rfl rfl rfl rfl (ev_indexAddr rfl rfl (by first | omega | (simp; done) | (simp; omega)) (by first | omega | (simp; done) | (simp; omega))) ?_)
        refine RS_e (RE_cmp (by kernel_rfl) rfl rfl rfl (eff_storeO rfl rfl rfl (by repeat' first | exact Pick.here | apply Pick.skip | apply Pick.app) (by omega)) ?_); rintro _ _ ⟨rfl, rfl⟩
        (first | refine RS_m retB_noPanic rfl rfl rfl rfl (ev_indexAddrN rfl rfl (by first | omega | (simp; done) | (simp; omega))) ?_ | refine RS_m retB_noPanic rfl rfl rfl rfl (ev_indexAddr rfl rfl (by first | omega | (simp; done) | (simp; omega)) (by first | omega | (simp; done) | (simp; omega))) ?_)
        refine RS_e (RE_last (by kernel_rfl) rfl rfl rfl (eff_storeO rfl rfl rfl (by repeat' first | exact Pick.here | apply Pick.skip | apply Pick.app) (by omega)) ?_); rintro _ _ ⟨rfl, rfl⟩
        rw [flat_int_set, flat_int_set, s1, ← e4]
        (repeat first | refine G_seq ?_ | refine G_skip ?_ | refine G_endblk ?_ | refine G_block ?_ | refine G_exit rfl ?_)
        refine G_region ?_
        refine GO_q rfl rfl (ev_move rfl) ?_
        (first | refine GO_q rfl rfl (ev_subN (q := 1) rfl rfl (by first | omega | (simp; done) | (simp; omega))) ?_ | refine GO_q rfl rfl (ev_sub rfl rfl (by first | omega | (simp; done) | (simp; omega))) ?_)
        refine GO_q rfl rfl (ev_assign rfl) ?_
        refine GO_nil ?_
        (repeat first | refine G_seq ?_ | refine G_skip ?_ | refine G_endblk ?_ | refine G_block ?_ | refine G_exit rfl ?_)
        exact G_round (k - 1) ⟨by omega, by rw [e2]; exact fun y hy => (List.mem_cons.1 hy).elim (fun h => h ▸ c3) (q2 y)⟩ (by omega) ⟨rfl, rfl, rfl, rfl, rfl, trivial⟩ (fun _ s => s)
      · (repeat first | refine G_seq ?_ | refine G_skip ?_ | refine G_endblk ?_ | refine G_block ?_ | refine G_exit rfl ?_)
        refine G_draw (.q 0 (.q 1 (.q 2 (.q 3 (.q 4 (.q 5 (.q 6 (.q 7 (.q 8 (.q 9 (.q 10 (.q 11 (.q 12 (.e 13 (.q 14 .nil))))))))))))))) (by kernel_rfl) (by kernel_rfl) ?_
        refine RS_m retB_noPanic rfl rfl rfl rfl (ev_move rfl) ?_
        refine RS_m retB_noPanic rfl rfl rfl rfl (ev_gtr rfl rfl) ?_
        refine RS_m retB_noPanic rfl rfl rfl rfl (ev_move rfl) ?_
        refine RS_m_yes retB_noPanic rfl rfl rfl rfl ⟨_, rfl, (decide_eq_true (by omega))⟩ rfl (ev_move rfl) ?_
        refine RS_m_yes retB_noPanic rfl rfl rfl rfl ⟨_, rfl, (decide_eq_true (by omega))⟩ rfl (ev_move rfl) ?_
        refine RS_m_yes retB_noPanic rfl rfl rfl rfl ⟨_, rfl, (decide_eq_true (by omega))⟩ rfl (ev_move rfl) ?_
        (first | refine RS_m_yes retB_noPanic rfl rfl rfl rfl ⟨_, rfl, (decide_eq_true (by omega))⟩ rfl (ev_indexAddrN rfl rfl (by first | omega | (simp; done) | (simp; omega))) ?_ | refine RS_m_yes retB_noPanic rfl rfl rfl rfl ⟨_, rfl, (decide_eq_true (by omega))⟩ rfl (ev_indexAddr rfl rfl (by first | omega | (simp; done) | (simp; omega)) (by first | omega | (simp; done) | (simp; omega))) ?_)
        refine RS_q_yes retB_noPanic rfl rfl rfl rfl ⟨_, rfl, (decide_eq_true (by omega))⟩ rfl (ev_load rfl (by repeat' first | exact ld_ownI hlen s2 _ | apply Ld.skip)) ?_
        refine RS_m_yes retB_noPanic rfl rfl rfl rfl ⟨_, rfl, (decide_eq_true (by omega))⟩ rfl (ev_move rfl) ?_
        refine RS_m_yes retB_noPanic rfl rfl rfl rfl ⟨_, rfl, (decide_eq_true (by omega))⟩ rfl (ev_move rfl) ?_
        (first | refine RS_m_yes retB_noPanic rfl rfl rfl rfl ⟨_, rfl, (decide_eq_true (by omega))⟩ rfl (ev_subN (q := 1) rfl rfl (by first | omega | (simp; done) | (simp; omega))) ?_ | refine RS_m_yes retB_noPanic rfl rfl rfl rfl ⟨_, rfl, (decide_eq_true (by omega))⟩ rfl (ev_sub rfl rfl (by first | omega | (simp; done) | (simp; omega))) ?_)
        (first | refine RS_m_yes retB_noPanic rfl rfl rfl rfl ⟨_, rfl, (decide_eq_true (by omega))⟩ rfl (ev_indexAddrN rfl rfl (by first | omega | (simp; done) | (simp; omega))) ?_ | refine RS_m_yes retB_noPanic rfl rfl rfl rfl ⟨_, rfl, (decide_eq_true (by omega))⟩ rfl (ev_indexAddr rfl rfl (by first | omega | (simp; done) | (simp; omega)) (by first | omega | (simp; done) | (simp; omega))) ?_)
        refine RS_q_yes retB_noPanic rfl rfl rfl rfl ⟨_, rfl, (decide_eq_true (by omega))⟩ rfl (ev_load rfl (by repeat' first | exact ld_ownI hlen s3 _ | apply Ld.skip)) ?_
        refine RS_e (RE_eff_yes rfl rfl rfl ⟨_, rfl, (decide_eq_true (by omega))⟩ rfl (eff_callv rfl rfl (cless_ctr x p _)) ?_); rintro _ _ ⟨rfl, rfl⟩; refine ⟨_, fun _ s => s, (by first | ((repeat first | exact fun _ s => s | apply en_keep | apply en_drop | apply en_app) <;> fail) | ((repeat first | exact en_refl | (apply en_blk; focus ((repeat' first | exact Pick.here | apply Pick.skip | apply Pick.app); done); focus rfl) | (apply en_own; focus ((repeat' first | exact Pick.here | apply Pick.skip | apply Pick.app); done); focus rfl) | (apply en_pick; focus ((repeat' first | exact Pick.here | apply Pick.skip | apply Pick.app); done)) | apply en_drop | apply en_app) <;> fail)), ?_⟩
        refine RS_m retB_noPanic rfl rfl rfl rfl (ev_pick_t rfl (decide_eq_true (by omega)) rfl) ?_
        refine RS_nil ?_
        (repeat first | refine G_seq ?_ | refine G_skip ?_ | refine G_endblk ?_ | refine G_block ?_ | refine G_exit rfl ?_)
        refine G_cond_f rfl (decide_eq_false c3) ?_
        (repeat first | refine G_seq ?_ | refine G_skip ?_ | refine G_endblk ?_ | refine G_block ?_ | refine G_exit rfl ?_)
        refine G_region ?_
        (first | refine GO_q rfl rfl (ev_addN (q := 1) rfl rfl (by first | omega | (simp; done) | (simp; omega))) ?_ | refine GO_q rfl rfl (ev_add rfl rfl (by first | omega | (simp; done) | (simp; omega))) ?_)
        refine GO_q rfl rfl (ev_move rfl) ?_
        refine GO_nil ?_
        (repeat first | refine G_seq ?_ | refine G_skip ?_ | refine G_endblk ?_ | refine G_block ?_ | refine G_exit rfl ?_)
        refine G_round (i + 1, P.take k ++ x :: (P.drop k ++ D)) ⟨by simp only; omega, ?_, ?_⟩ (by simp only; omega) ⟨rfl, rfl, rfl, rfl, trivial⟩ (fun _ s => s)
        · refine List.Perm.trans ?_ f2
          rw [hsp]
          simp only
          refine (List.perm_middle).trans (List.Perm.trans ?_ (List.perm_middle).symm)
          rw [← List.append_assoc, List.take_append_drop]
        · simp only
          have e5 : (P.take k ++ x :: (P.drop k ++ D)).take (i + 1) = P.take k ++ x :: P.drop k := by
            have : P.take k ++ x :: (P.drop k ++ D) = (P.take k ++ x :: P.drop k) ++ D := by simp
            rw [this, List.take_append_of_le_length (by simp; omega), List.take_of_length_le (by simp; omega)]
          rw [e5]
          rw [← List.take_append_drop k P, List.pairwise_append] at f3
          rw [List.pairwise_append]
          refine ⟨f3.1, List.pairwise_cons.2 ⟨fun y hy => Int.le_of_lt (q2 y hy), f3.2.1⟩, ?_⟩
          have hpx : ∀ a ∈ P.take k, a ≤ x := by
            rw [e1]
            intro a ha
            rcases List.mem_append.1 ha with ha | ha
            · have h9 := f3.1
              rw [e1, List.pairwise_append] at h9
              have := h9.2.2 a ha p (by simp)
              omega
            · simp at ha; omega
          intro a ha y hy
          rcases List.mem_cons.1 hy with rfl | hy
          · exact hpx a ha
          · exact f3.2.2 a ha y hy
    · have e0 : k = 0 := by omega
      subst e0
      (repeat first | refine G_seq ?_ | refine G_skip ?_ | refine G_endblk ?_ | refine G_block ?_ | refine G_exit rfl ?_)
      refine G_draw (.q 0 (.q 1 (.q 2 (.q 3 (.q 4 (.q 5 (.q 6 (.q 7 (.q 8 (.q 9 (.q 10 (.q 11 (.q 12 (.e 13 (.q 14 .nil))))))))))))))) (by kernel_rfl) (by kernel_rfl) ?_
      refine RS_m retB_noPanic rfl rfl rfl rfl (ev_move rfl) ?_
      refine RS_m retB_noPanic rfl rfl rfl rfl (ev_gtr rfl rfl) ?_
      refine RS_m retB_noPanic rfl rfl rfl rfl (ev_move rfl) ?_
      refine RS_q_no retB_noPanic rfl rfl rfl ⟨_, rfl, (decide_eq_false (by omega))⟩ rfl ?_
      refine RS_q_no retB_noPanic rfl rfl rfl ⟨_, rfl, (decide_eq_false (by omega))⟩ rfl ?_
      refine RS_q_no retB_noPanic rfl rfl rfl ⟨_, rfl, (decide_eq_false (by omega))⟩ rfl ?_
      refine RS_q_no retB_noPanic rfl rfl rfl ⟨_, rfl, (decide_eq_false (by omega))⟩ rfl ?_
      refine RS_q_no retB_noPanic rfl rfl rfl ⟨_, rfl, (decide_eq_false (by omega))⟩ rfl ?_
      refine RS_q_no retB_noPanic rfl rfl rfl ⟨_, rfl, (decide_eq_false (by omega))⟩ rfl ?_
      refine RS_q_no retB_noPanic rfl rfl rfl ⟨_, rfl, (decide_eq_false (by omega))⟩ rfl ?_
      refine RS_q_no retB_noPanic rfl rfl rfl ⟨_, rfl, (decide_eq_false (by omega))⟩ rfl ?_
      refine RS_q_no retB_noPanic rfl rfl rfl ⟨_, rfl, (decide_eq_false (by omega))⟩ rfl ?_
      refine RS_q_no retB_noPanic rfl rfl rfl ⟨_, rfl, (decide_eq_false (by omega))⟩ rfl ?_
      refine RS_e (RE_no rfl rfl rfl ⟨_, rfl, (decide_eq_false (by omega))⟩ rfl ?_)
      refine RS_m retB_noPanic rfl rfl rfl rfl (ev_pick_f rfl (decide_eq_false (by omega)) rfl) ?_
      refine RS_nil ?_
      (repeat first | refine G_seq ?_ | refine G_skip ?_ | refine G_endblk ?_ | refine G_block ?_ | refine G_exit rfl ?_)
      refine G_cond_f rfl rfl ?_
      (repeat first | refine G_seq ?_ | refine G_skip ?_ | refine G_endblk ?_ | refine G_block ?_ | refine G_exit rfl ?_)
      refine G_region ?_
      (first | refine GO_q rfl rfl (ev_addN (q := 1) rfl rfl (by first | omega | (simp; done) | (simp; omega))) ?_ | refine GO_q rfl rfl (ev_add rfl rfl (by first | omega | (simp; done) | (simp; omega))) ?_)
      refine GO_q rfl rfl (ev_move rfl) ?_
      refine GO_nil ?_
      (repeat first | refine G_seq ?_ | refine G_skip ?_ | refine G_endblk ?_ | refine G_block ?_ | refine G_exit rfl ?_)
      refine G_round (i + 1, x :: (P ++ D)) ⟨by simp only; omega, ?_, ?_⟩ (by simp only; omega) ⟨rfl, rfl, rfl, rfl, trivial⟩ (fun _ s => s)
      · refine List.Perm.trans ?_ f2
        rw [hsp]
        exact (List.perm_middle).symm
      · simp only
        rw [List.take_succ_cons, List.take_append_of_le_length (by omega), List.take_of_length_le (by omega)]
        exact List.pairwise_cons.2 ⟨fun y hy => Int.le_of_lt (q2 y (by simpa using hy)), f3⟩
  · have e9 : i = n := by omega
    subst e9
    have : m = srt l := eq_of_sorted _ _ (f2.trans (srt_perm l).symm) (by rwa [List.take_of_length_le (by omega)] at f3) (srt_sorted l)
    subst this
    (repeat first | refine G_seq ?_ | refine G_skip ?_ | refine G_endblk ?_ | refine G_block ?_ | refine G_exit rfl ?_)
    refine G_region ?_
    refine GO_q rfl rfl (ev_move rfl) ?_
    refine GO_q rfl rfl (ev_assign rfl) ?_
    refine GO_nil ?_
    (repeat first | refine G_seq ?_ | refine G_skip ?_ | refine G_endblk ?_ | refine G_block ?_ | refine G_exit rfl ?_)
    refine G_ret (L' := own 3 1 B (srt l).length e (flat (srt l)) :: L) rfl (.tmp rfl .nil) ?_ ⟨B, e, by rw [hm]; rfl, by rw [hm]; exact fun h => hB (by omega), rfl⟩
    rw [hm]
    exact (by (repeat first | exact en_refl | (apply en_blk; focus ((repeat' first | exact Pick.here | apply Pick.skip | apply Pick.app); done); focus rfl) | (apply en_own; focus ((repeat' first | exact Pick.here | apply Pick.skip | apply Pick.app); done); focus rfl) | (apply en_pick; focus ((repeat' first | exact Pick.here | apply Pick.skip | apply Pick.app); done)) | apply en_drop | apply en_app) <;> fail)
theorem mergeI_ctr (A B : Option Addr) (n m c d : Nat) (l q : List Int) (L : List HP) (hl : Rd L A n l) (hq : Rd L B m q) (hn : n ≤ 1000000) (hm : m ≤ 1000000) (hc : n ≤ c) (hd : m ≤ d) (sl : l.Pairwise (· ≤ ·)) (sq : q.Pairwise (· ≤ ·)) :
    Ctr Tryz.prog 171 #[.slice A n c, .slice B m d, .func (.func 133) #[] #[]] L fun v L' => Made 3 (srt (l ++ q)) L v L' := by
  have h1 : l.length = n := hl.len (by decide)
  have h2 : q.length = m := hq.len (by decide)
  refine Ctr_of (fn := Tryz.f171) (n := 51) Tryz.func171 rfl rfl rfl ?_
  intro g F
  (repeat first | refine G_seq ?_ | refine G_skip ?_ | refine G_endblk ?_ | refine G_block ?_ | refine G_exit rfl ?_)
  refine G_region ?_
  refine GO_q rfl rfl (ev_assign rfl) ?_
  refine GO_nil ?_
  (repeat first | refine G_seq ?_ | refine G_skip ?_ | refine G_endblk ?_ | refine G_block ?_ | refine G_exit rfl ?_)
  refine G_region ?_
  refine GO_q rfl rfl (ev_move rfl) ?_
  refine GO_q rfl rfl (ev_len rfl) ?_
  refine GO_q rfl rfl (ev_move rfl) ?_
  refine GO_q rfl rfl (ev_len rfl) ?_
  (first | refine GO_q rfl rfl (ev_addN rfl rfl (by first | omega | (simp; done) | (simp; omega))) ?_ | refine GO_q rfl rfl (ev_add rfl rfl (by first | omega | (simp; done) | (simp; omega))) ?_)
  refine GO_eff rfl rfl (eff_make0 rfl rfl (by omega) (by omega)) ?_; rintro _ _ ⟨b13, rfl, rfl⟩
  refine GO_q rfl rfl (ev_assign rfl) ?_
  refine GO_nil ?_
  (repeat first | refine G_seq ?_ | refine G_skip ?_ | refine G_endblk ?_ | refine G_block ?_ | refine G_exit rfl ?_)
  refine G_loop (ι := (Option Addr × Nat × List Int) × (Option Addr × Nat × List Int) × (Option Addr × Nat × List Int)) (fun z => [(2, .func (.func 133) #[] #[]), (0, .slice z.1.1 z.1.2.2.length z.1.2.1), (1, .slice z.2.1.1 z.2.1.2.2.length z.2.1.2.1), (7, .slice z.2.2.1 z.2.2.2.2.length z.2.2.2.1)]) (fun z => own 3 1 z.2.2.1 z.2.2.2.2.length z.2.2.2.1 (flat z.2.2.2.2) :: F :: L)
    (fun z => (Rd L z.1.1 z.1.2.2.length z.1.2.2 ∧ z.1.2.2.length ≤ z.1.2.1 ∧ z.1.2.2.Pairwise (· ≤ ·)) ∧ (Rd L z.2.1.1 z.2.1.2.2.length z.2.1.2.2 ∧ z.2.1.2.2.length ≤ z.2.1.2.1 ∧ z.2.1.2.2.Pairwise (· ≤ ·)) ∧ (z.2.2.2.2 ++ (z.1.2.2 ++ z.2.1.2.2)).Perm (l ++ q) ∧ z.2.2.2.2.Pairwise (· ≤ ·) ∧ (∀ o ∈ z.2.2.2.2, ∀ x ∈ z.1.2.2 ++ z.2.1.2.2, o ≤ x) ∧ (0 < z.2.2.2.2.length → ∃ b, z.2.2.1 = some ⟨b, 0, none⟩)) (fun z => z.1.2.2.length + z.2.1.2.2.length) ((A, c, l), (B, d, q), (some ⟨b13, 0, none⟩, n + m, [])) ⟨⟨by rw [h1]; exact hl, by simp only; omega, sl⟩, ⟨by rw [h2]; exact hq, by simp only; omega, sq⟩, .refl _, .nil, by simp, fun _ => ⟨b13, rfl⟩⟩ ⟨rfl, by rw [← h1]; rfl, by rw [← h2]; rfl, rfl, trivial⟩ (by (repeat first | exact en_refl | (apply en_blk; focus ((repeat' first | exact Pick.here | apply Pick.skip | apply Pick.app); done); focus rfl) | (apply en_own; focus ((repeat' first | exact Pick.here | apply Pick.skip | apply Pick.app); done); focus rfl) | (apply en_pick; focus ((repeat' first | exact Pick.here | apply Pick.skip | apply Pick.app); done)) | apply en_drop | apply en_app) <;> fail) ?_
  rintro ⟨⟨A1, c1, l1⟩, ⟨B1, d1, q1⟩, ⟨O, e, o⟩⟩ ⟨⟨f1, f2, f3⟩, ⟨k1, k2, k3⟩, hp, so, hle, hO⟩
  simp only at f1 f2 f3 k1 k2 k3 hp so hle hO
  dsimp only
  have hlen : o.length + (l1.length + q1.length) = n + m := by
    have := hp.length_eq
    simpa [h1, h2] using this
  refine G_pure (fun h s => own.facts (s)) ?_
  rintro ⟨w1, w2, w3, w4⟩
  unfold maxLen at w3
  by_cases hz : 0 < l1.length ∧ 0 < q1.length
  · obtain ⟨ab, ao, rfl, ax⟩ := f1.at_ hz.1
    obtain ⟨bb, bo, rfl, bx⟩ := k1.at_ hz.2
    obtain ⟨x, l2, rfl⟩ : ∃ x l2, l1 = x :: l2 := by cases l1 with
      | nil => simp at hz
      | cons x l2 => exact ⟨x, l2, rfl⟩
    obtain ⟨y, q2, rfl⟩ : ∃ y q2, q1 = y :: q2 := by cases q1 with
      | nil => simp at hz
      | cons y q2 => exact ⟨y, q2, rfl⟩
    have x1 : Ld L ⟨ab, ao + 0 * 1, none⟩ (.int .i64 x) := (ax 0 x rfl).at_ (i := 0) rfl
    have y1 : Ld L ⟨bb, bo + 0 * 1, none⟩ (.int .i64 y) := (bx 0 y rfl).at_ (i := 0) rfl
    rw [List.pairwise_cons] at f3 k3
    simp only [List.length_cons] at *
    (repeat first | refine G_seq ?_ | refine G_skip ?_ | refine G_endblk ?_ | refine G_block ?_ | refine G_exit rfl ?_)
    refine G_region ?_
    refine GO_q rfl rfl (ev_move rfl) ?_
    refine GO_q rfl rfl (ev_len rfl) ?_
    refine GO_q rfl rfl (ev_gtr rfl rfl) ?_
    refine GO_q rfl rfl (ev_move rfl) ?_
    refine GO_yes rfl rfl rfl (decide_eq_true (by omega)) ?_
    refine GO_q rfl rfl (ev_move rfl) ?_
    refine GO_yes rfl rfl rfl (decide_eq_true (by omega)) ?_
    refine GO_q rfl rfl (ev_len rfl) ?_
    refine GO_yes rfl rfl rfl (decide_eq_true (by omega)) ?_
    refine GO_q rfl rfl (ev_gtr rfl rfl) ?_
    refine GO_q rfl rfl (ev_pick_t rfl (decide_eq_true (by omega)) rfl) ?_
    refine GO_nil ?_
    (repeat first | refine G_seq ?_ | refine G_skip ?_ | refine G_endblk ?_ | refine G_block ?_ | refine G_exit rfl ?_)
    refine G_cond_t rfl (decide_eq_true (by omega)) ?_
    (repeat first | refine G_seq ?_ | refine G_skip ?_ | refine G_endblk ?_ | refine G_block ?_ | refine G_exit rfl ?_)
    refine G_draw (.q 0 (.q 1 (.q 2 (.q 3 (.q 4 (.q 5 (.q 6 (.e 7 .nil)))))))) (by kernel_rfl) (by kernel_rfl) ?_
    refine RS_m retB_noPanic rfl rfl rfl rfl (ev_move rfl) ?_
    refine RS_m retB_noPanic rfl rfl rfl rfl (ev_move rfl) ?_
    (first | refine RS_m retB_noPanic rfl rfl rfl rfl (ev_indexAddrN rfl rfl (by first | omega | (simp; done) | (simp; omega))) ?_ | refine RS_m retB_noPanic rfl rfl rfl rfl (ev_indexAddr rfl rfl (by first | omega | (simp; done) | (simp; omega)) (by first | omega | (simp; done) | (simp; omega))) ?_)
    refine RS_q retB_noPanic rfl rfl rfl rfl (ev_load rfl (by repeat' first | exact Ld.blk rfl | assumption | apply Ld.skip | apply Ld.app)) ?_
    refine RS_m retB_noPanic rfl rfl rfl rfl (ev_move rfl) ?_
    (first | refine RS_m retB_noPanic rfl rfl rfl rfl (ev_indexAddrN rfl rfl (by first | omega | (simp; done) | (simp; omega))) ?_ | refine RS_m retB_noPanic rfl rfl rfl rfl (ev_indexAddr rfl rfl (by first | omega | (simp; done) | (simp; omega)) (by first | omega | (simp; done) | (simp; omega))) ?_)
    refine RS_q retB_noPanic rfl rfl rfl rfl (ev_load rfl (by repeat' first | exact Ld.blk rfl | assumption | apply Ld.skip | apply Ld.app)) ?_
    refine RS_e (RE_last (by kernel_rfl) rfl rfl rfl (eff_callv rfl rfl (cless_ctr y x _)) ?_); rintro _ _ ⟨rfl, rfl⟩
    by_cases hyx : y < x
    · (repeat first | refine G_seq ?_ | refine G_skip ?_ | refine G_endblk ?_ | refine G_block ?_ | refine G_exit rfl ?_)
      refine G_cond_t rfl (decide_eq_true hyx) ?_
      (repeat first | refine G_seq ?_ | refine G_skip ?_ | refine G_endblk ?_ | refine G_block ?_ | refine G_exit rfl ?_)
      refine G_drawE 0 (.q 0 (.q 1 (.q 2 (.q 3 (.q 6 (.q 7 (.e 4 (.e 5 (.q 8 (.q 9 .nil)))))))))) (by kernel_rfl) (by kernel_rfl) ?_
      refine RS_m retB_noPanic rfl rfl rfl rfl (ev_move rfl) ?_
      refine RS_m retB_noPanic rfl rfl rfl rfl (ev_move rfl) ?_
      (first | refine RS_m retB_noPanic rfl rfl rfl rfl (ev_indexAddrN rfl rfl (by first | omega | (simp; done) | (simp; omega))) ?_ | refine RS_m retB_noPanic rfl rfl rfl rfl (ev_indexAddr rfl rfl (by first | omega | (simp; done) | (simp; omega)) (by first | omega | (simp; done) | (simp; omega))) ?_)
      refine RS_q retB_noPanic rfl rfl rfl rfl (ev_load rfl (by repeat' first | exact Ld.blk rfl | assumption | apply Ld.skip | apply Ld.app)) ?_
      refine RS_m retB_noPanic rfl rfl rfl rfl (ev_move rfl) ?_
      refine RS_q retB_noPanic rfl rfl rfl rfl (ev_sliceL rfl rfl (by first | omega | (simp; done) | (simp; omega)) (by first | omega | (simp; done) | (simp; omega))) ?_
      refine RS_e (RE_eff rfl rfl rfl (eff_buildSlice1 (by rfl) rfl rfl) ?_); rintro _ _ ⟨b34, rfl, rfl⟩; refine ⟨_, (by first | ((repeat first | exact fun _ s => s | apply en_keep | apply en_drop | apply en_app) <;> fail) | ((repeat first | exact en_refl | (apply en_blk; focus ((repeat' first | exact Pick.here | apply Pick.skip | apply Pick.app); done); focus rfl) | (apply en_own; focus ((repeat' first | exact Pick.here | apply Pick.skip | apply Pick.app); done); focus rfl) | (apply en_pick; focus ((repeat' first | exact Pick.here | apply Pick.skip | apply Pick.app); done)) | apply en_drop | apply en_app) <;> fail)), fun _ s => s, ?_⟩
      refine RS_e (RE_eff rfl rfl rfl (eff_append rfl rfl (by repeat' first | exact Pick.here | apply Pick.skip) (by repeat' first | exact Rc.blk rfl | assumption | apply Rc.skip) (one_all rfl) (by rfl) (by decide) (by first | omega | (simp; done) | (simp; omega)) (by first | omega | (simp; done) | (simp; omega))) ?_); rintro _ _ ⟨A35, c35, rfl, hc35, hm35, hn35, rfl⟩; refine ⟨_, (by first | ((repeat first | exact fun _ s => s | apply en_keep | apply en_drop | apply en_app) <;> fail) | ((repeat first | exact en_refl | (apply en_blk; focus ((repeat' first | exact Pick.here | apply Pick.skip | apply Pick.app); done); focus rfl) | (apply en_own; focus ((repeat' first | exact Pick.here | apply Pick.skip | apply Pick.app); done); focus rfl) | (apply en_pick; focus ((repeat' first | exact Pick.here | apply Pick.skip | apply Pick.app); done)) | apply en_drop | apply en_app) <;> fail)), fun _ s => s, ?_⟩
      refine RS_m retB_noPanic rfl rfl rfl rfl (ev_assign rfl) ?_
      refine RS_m retB_noPanic rfl rfl rfl rfl (ev_assign rfl) ?_
      refine RS_nil ?_
      (repeat first | refine G_seq ?_ | refine G_skip ?_ | refine G_endblk ?_ | refine G_block ?_ | refine G_exit rfl ?_)
      exact G_round ((some ⟨ab, ao, none⟩, c1, x :: l2), (some ⟨bb, (if d1 = 1 then bo else bo + 1 * 1), none⟩, d1 - 1, q2), (A35, c35, o ++ [y])) ⟨⟨f1, f2, List.pairwise_cons.2 f3⟩, ⟨k1.drop (k := 1) (c := d1) (by omega) k2, by simp only; omega, k3.2⟩, by
          refine List.Perm.trans ?_ hp
          simp only [List.append_assoc]
          refine List.Perm.append_left o ?_
          exact (List.perm_middle (l₁ := x :: l2)).symm, by
          simp only
          rw [List.pairwise_append]
          exact ⟨so, by simp, fun a ha b hb => by simp at hb; subst hb; exact hle a ha _ (by simp)⟩, by
          simp only
          intro a ha b hb
          rcases List.mem_append.1 ha with ha | ha
          · exact hle a ha b (by simp at hb ⊢; rcases hb with h | h | h <;> simp [h])
          · simp at ha; subst ha
            rcases List.mem_append.1 hb with hb | hb
            · rcases List.mem_cons.1 hb with rfl | hb
              · omega
              · have := f3.1 b hb; omega
            · exact k3.1 b hb, fun _ => hn35 (by omega)⟩ (by simp only [List.length_cons]; omega) ⟨rfl, rfl, rfl, by rw [List.length_append]; rfl, trivial⟩ (by
          have e5 : flat (o ++ [y]) = flat o ++ [Value.int .i64 y] := (flat_snoc o y).symm
          simp only [List.length_append, List.length_singleton, e5]
          exact (by (repeat first | exact en_refl | (apply en_blk; focus ((repeat' first | exact Pick.here | apply Pick.skip | apply Pick.app); done); focus rfl) | (apply en_own; focus ((repeat' first | exact Pick.here | apply Pick.skip | apply Pick.app); done); focus rfl) | (apply en_pick; focus ((repeat' first | exact Pick.here | apply Pick.skip | apply Pick.app); done)) | apply en_drop | apply en_app) <;> fail))
    · (repeat first | refine G_seq ?_ | refine G_skip ?_ | refine G_endblk ?_ | refine G_block ?_ | refine G_exit rfl ?_)
      refine G_cond_f rfl (decide_eq_false hyx) ?_
      (repeat first | refine G_seq ?_ | refine G_skip ?_ | refine G_endblk ?_ | refine G_block ?_ | refine G_exit rfl ?_)
      refine G_drawE 0 (.q 0 (.q 1 (.q 2 (.q 3 (.q 6 (.q 7 (.e 4 (.e 5 (.q 8 (.q 9 .nil)))))))))) (by kernel_rfl) (by kernel_rfl) ?_
      refine RS_m retB_noPanic rfl rfl rfl rfl (ev_move rfl) ?_
      refine RS_m retB_noPanic rfl rfl rfl rfl (ev_move rfl) ?_
      (first | refine RS_m retB_noPanic rfl rfl rfl rfl (ev_indexAddrN rfl rfl (by first | omega | (simp; done) | (simp; omega))) ?_ | refine RS_m retB_noPanic rfl rfl rfl rfl (ev_indexAddr rfl rfl (by first | omega | (simp; done) | (simp; omega)) (by first | omega | (simp; done) | (simp; omega))) ?_)
      refine RS_q retB_noPanic rfl rfl rfl rfl (ev_load rfl (by repeat' first | exact Ld.blk rfl | assumption | apply Ld.skip | apply Ld.app)) ?_
      refine RS_m retB_noPanic rfl rfl rfl rfl (ev_move rfl) ?_
      refine RS_q retB_noPanic rfl rfl rfl rfl (ev_sliceL rfl rfl (by first | omega | (simp; done) | (simp; omega)) (by first | omega | (simp; done) | (simp; omega))) ?_
      refine RS_e (RE_eff rfl rfl rfl (eff_buildSlice1 (by rfl) rfl rfl) ?_); rintro _ _ ⟨b42, rfl, rfl⟩; refine ⟨_, (by first | ((repeat first | exact fun _ s => s | apply en_keep | apply en_drop | apply en_app) <;> fail) | ((repeat first | exact en_refl | (apply en_blk; focus ((repeat' first | exact Pick.here | apply Pick.skip | apply Pick.app); done); focus rfl) | (apply en_own; focus ((repeat' first | exact Pick.here | apply Pick.skip | apply Pick.app); done); focus rfl) | (apply en_pick; focus ((repeat' first | exact Pick.here | apply Pick.skip | apply Pick.app); done)) | apply en_drop | apply en_app) <;> fail)), fun _ s => s, ?_⟩
      refine RS_e (RE_eff rfl rfl rfl (eff_append rfl rfl (by repeat' first | exact Pick.here | apply Pick.skip) (by repeat' first | exact Rc.blk rfl | assumption | apply Rc.skip) (one_all rfl) (by rfl) (by decide) (by first | omega | (simp; done) | (simp; omega)) (by first | omega | (simp; done) | (simp; omega))) ?_); rintro _ _ ⟨A43, c43, rfl, hc43, hm43, hn43, rfl⟩; refine ⟨_, (by first | ((repeat first | exact fun _ s => s | apply en_keep | apply en_drop | apply en_app) <;> fail) | ((repeat first | exact en_refl | (apply en_blk; focus ((repeat' first | exact Pick.here | apply Pick.skip | apply Pick.app); done); focus rfl) | (apply en_own; focus ((repeat' first | exact Pick.here | apply Pick.skip | apply Pick.app); done); focus rfl) | (apply en_pick; focus ((repeat' first | exact Pick.here | apply Pick.skip | apply Pick.app); done)) | apply en_drop | apply en_app) <;> fail)), fun _ s => s, ?_⟩
      refine RS_m retB_noPanic rfl rfl rfl rfl (ev_assign rfl) ?_
      refine RS_m retB_noPanic rfl rfl rfl rfl (ev_assign rfl) ?_
      refine RS_nil ?_
      (repeat first | refine G_seq ?_ | refine G_skip ?_ | refine G_endblk ?_ | refine G_block ?_ | refine G_exit rfl ?_)
      exact G_round ((some ⟨ab, (if c1 = 1 then ao else ao + 1 * 1), none⟩, c1 - 1, l2), (some ⟨bb, bo, none⟩, d1, y :: q2), (A43, c43, o ++ [x])) ⟨⟨f1.drop (k := 1) (c := c1) (by omega) f2, by simp only; omega, f3.2⟩, ⟨k1, k2, List.pairwise_cons.2 k3⟩, by
          refine List.Perm.trans ?_ hp
          simp only [List.append_assoc]
          exact .refl _, by
          simp only
          rw [List.pairwise_append]
          exact ⟨so, by simp, fun a ha b hb => by simp at hb; subst hb; exact hle a ha _ (by simp)⟩, by
          simp only
          intro a ha b hb
          rcases List.mem_append.1 ha with ha | ha
          · exact hle a ha b (by simp at hb ⊢; rcases hb with h | h | h <;> simp [h])
          · simp at ha; subst ha
            rcases List.mem_append.1 hb with hb | hb
            · exact f3.1 b hb
            · rcases List.mem_cons.1 hb with rfl | hb
              · omega
              · have := k3.1 b hb; omega, fun _ => hn43 (by omega)⟩ (by simp only [List.length_cons]; omega) ⟨rfl, rfl, rfl, by rw [List.length_append]; rfl, trivial⟩ (by
          have e5 : flat (o ++ [x]) = flat o ++ [Value.int .i64 x] := (flat_snoc o x).symm
          simp only [List.length_append, List.length_singleton, e5]
          exact (by (repeat first | exact en_refl | (apply en_blk; focus ((repeat' first | exact Pick.here | apply Pick.skip | apply Pick.app); done); focus rfl) | (apply en_own; focus ((repeat' first | exact Pick.here | apply Pick.skip | apply Pick.app); done); focus rfl) | (apply en_pick; focus ((repeat' first | exact Pick.here | apply Pick.skip | apply Pick.app); done)) | apply en_drop | apply en_app) <;> fail))
  · have key : o ++ l1 ++ q1 = srt (l ++ q) := by
      rw [List.append_assoc]
      refine eq_of_sorted _ _ (hp.trans (srt_perm _).symm) (List.pairwise_append.2 ⟨so, ?_, hle⟩) (srt_sorted _)
      rcases Nat.eq_zero_or_pos l1.length with h0 | h0
      · rw [List.eq_nil_of_length_eq_zero h0]; exact k3
      · rw [List.eq_nil_of_length_eq_zero (by omega : q1.length = 0), List.append_nil]; exact f3
    have klen : (srt (l ++ q)).length = o.length + l1.length + q1.length := by rw [← key]; simp; omega
    have kfl : flat (srt (l ++ q)) = flat o ++ flat l1 ++ flat q1 := by rw [← key]; simp [flat_append]
    rcases Nat.eq_zero_or_pos l1.length with h0 | h0
    · (repeat first | refine G_seq ?_ | refine G_skip ?_ | refine G_endblk ?_ | refine G_block ?_ | refine G_exit rfl ?_)
      refine G_region ?_
      refine GO_q rfl rfl (ev_move rfl) ?_
      refine GO_q rfl rfl (ev_len rfl) ?_
      refine GO_q rfl rfl (ev_gtr rfl rfl) ?_
      refine GO_q rfl rfl (ev_move rfl) ?_
      refine GO_no rfl rfl rfl (decide_eq_false (by omega)) ?_
      refine GO_no rfl rfl rfl (decide_eq_false (by omega)) ?_
      refine GO_no rfl rfl rfl (decide_eq_false (by omega)) ?_
      refine GO_q rfl rfl (ev_pick_f rfl (decide_eq_false (by omega)) rfl) ?_
      refine GO_nil ?_
      (repeat first | refine G_seq ?_ | refine G_skip ?_ | refine G_endblk ?_ | refine G_block ?_ | refine G_exit rfl ?_)
      refine G_cond_f rfl rfl ?_
      (repeat first | refine G_seq ?_ | refine G_skip ?_ | refine G_endblk ?_ | refine G_block ?_ | refine G_exit rfl ?_)
      refine G_region ?_
      refine GO_q rfl rfl (ev_move rfl) ?_
      refine GO_q rfl rfl (ev_move rfl) ?_
      refine GO_eff rfl rfl (eff_append rfl rfl (by repeat' first | exact Pick.here | apply Pick.skip) ((by repeat' first | assumption | apply Rc.skip)) ((flat_one _)) (by rfl) (by decide) (by first | omega | (simp; done) | (simp; omega)) (by first | omega | (simp; done) | (simp; omega))) ?_; rintro _ _ ⟨A48, c48, rfl, hc48, hm48, hn48, rfl⟩
      refine GO_q rfl rfl (ev_move rfl) ?_
      refine GO_eff rfl rfl (eff_append rfl rfl (by repeat' first | exact Pick.here | apply Pick.skip) ((by repeat' first | assumption | apply Rc.skip)) ((flat_one _)) (by rfl) (by decide) (by first | omega | (simp; done) | (simp; omega)) (by first | omega | (simp; done) | (simp; omega))) ?_; rintro _ _ ⟨A50, c50, rfl, hc50, hm50, hn50, rfl⟩
      refine GO_q rfl rfl (ev_assign rfl) ?_
      refine GO_nil ?_
      (repeat first | refine G_seq ?_ | refine G_skip ?_ | refine G_endblk ?_ | refine G_block ?_ | refine G_exit rfl ?_)
      refine G_ret (L' := own 3 1 A50 (srt (l ++ q)).length c50 (flat (srt (l ++ q))) :: L) rfl (.tmp rfl .nil) ?_ ⟨A50, c50, by rw [klen]; rfl, by rw [klen]; exact hn50, rfl⟩
      rw [klen, kfl]
      exact (by (repeat first | exact en_refl | (apply en_blk; focus ((repeat' first | exact Pick.here | apply Pick.skip | apply Pick.app); done); focus rfl) | (apply en_own; focus ((repeat' first | exact Pick.here | apply Pick.skip | apply Pick.app); done); focus rfl) | (apply en_pick; focus ((repeat' first | exact Pick.here | apply Pick.skip | apply Pick.app); done)) | apply en_drop | apply en_app) <;> fail)
    · (repeat first | refine G_seq ?_ | refine G_skip ?_ | refine G_endblk ?_ | refine G_block ?_ | refine G_exit rfl ?_)
      refine G_region ?_
      refine GO_q rfl rfl (ev_move rfl) ?_
      refine GO_q rfl rfl (ev_len rfl) ?_
      refine GO_q rfl rfl (ev_gtr rfl rfl) ?_
      refine GO_q rfl rfl (ev_move rfl) ?_
      refine GO_yes rfl rfl rfl (decide_eq_true (by omega)) ?_
      refine GO_q rfl rfl (ev_move rfl) ?_
      refine GO_yes rfl rfl rfl (decide_eq_true (by omega)) ?_
      refine GO_q rfl rfl (ev_len rfl) ?_
      refine GO_yes rfl rfl rfl (decide_eq_true (by omega)) ?_
      refine GO_q rfl rfl (ev_gtr rfl rfl) ?_
      refine GO_q rfl rfl (ev_pick_t rfl (decide_eq_true (by omega)) rfl) ?_
      refine GO_nil ?_
      (repeat first | refine G_seq ?_ | refine G_skip ?_ | refine G_endblk ?_ | refine G_block ?_ | refine G_exit rfl ?_)
      refine G_cond_f rfl (decide_eq_false (by omega)) ?_
      (repeat first | refine G_seq ?_ | refine G_skip ?_ | refine G_endblk ?_ | refine G_block ?_ | refine G_exit rfl ?_)
      refine G_region ?_
      refine GO_q rfl rfl (ev_move rfl) ?_
      refine GO_q rfl rfl (ev_move rfl) ?_
      refine GO_eff rfl rfl (eff_append rfl rfl (by repeat' first | exact Pick.here | apply Pick.skip) ((by repeat' first | assumption | apply Rc.skip)) ((flat_one _)) (by rfl) (by decide) (by first | omega | (simp; done) | (simp; omega)) (by first | omega | (simp; done) | (simp; omega))) ?_; rintro _ _ ⟨A48, c48, rfl, hc48, hm48, hn48, rfl⟩
      refine GO_q rfl rfl (ev_move rfl) ?_
      refine GO_eff rfl rfl (eff_append rfl rfl (by repeat' first | exact Pick.here | apply Pick.skip) ((by repeat' first | assumption | apply Rc.skip)) ((flat_one _)) (by rfl) (by decide) (by first | omega | (simp; done) | (simp; omega)) (by first | omega | (simp; done) | (simp; omega))) ?_; rintro _ _ ⟨A50, c50, rfl, hc50, hm50, hn50, rfl⟩
      refine GO_q rfl rfl (ev_assign rfl) ?_
      refine GO_nil ?_
      (repeat first | refine G_seq ?_ | refine G_skip ?_ | refine G_endblk ?_ | refine G_block ?_ | refine G_exit rfl ?_)
      refine G_ret (L' := own 3 1 A50 (srt (l ++ q)).length c50 (flat (srt (l ++ q))) :: L) rfl (.tmp rfl .nil) ?_ ⟨A50, c50, by rw [klen]; rfl, by rw [klen]; exact hn50, rfl⟩
      rw [klen, kfl]
      exact (by (repeat first | exact en_refl | (apply en_blk; focus ((repeat' first | exact Pick.here | apply Pick.skip | apply Pick.app); done); focus rfl) | (apply en_own; focus ((repeat' first | exact Pick.here | apply Pick.skip | apply Pick.app); done); focus rfl) | (apply en_pick; focus ((repeat' first | exact Pick.here | apply Pick.skip | apply Pick.app); done)) | apply en_drop | apply en_app) <;> fail)
theorem srt_append (l q : List Int) : srt (srt l ++ srt q) = srt (l ++ q) :=
  eq_of_sorted _ _ ((srt_perm _).trans (((srt_perm l).append (srt_perm q)).trans (srt_perm _).symm)) (srt_sorted _) (srt_sorted _)
theorem srt_length (l : List Int) : (srt l).length = l.length := (srt_perm l).length_eq
theorem sortI_ctr : ∀ (N : Nat) (A : Option Addr) (n c : Nat) (l : List Int) (L : List HP) (_ : n ≤ N) (_ : Rd L A n l) (_ : n ≤ 1000000) (_ : n ≤ c),
    Ctr Tryz.prog 168 #[.slice A n c, .func (.func 133) #[] #[]] L fun v L' => Made 3 (srt l) L v L' := by
  intro N
  induction N with
  | zero =>
    intro A n c l L h0 hl hn hc
    refine Ctr_of (fn := Tryz.f168) (n := 27) Tryz.func168 rfl rfl rfl ?_
    intro g F
    (repeat first | refine G_seq ?_ | refine G_skip ?_ | refine G_endblk ?_ | refine G_block ?_ | refine G_exit rfl ?_)
    refine G_region ?_
    refine GO_q rfl rfl (ev_assign rfl) ?_
    refine GO_nil ?_
    (repeat first | refine G_seq ?_ | refine G_skip ?_ | refine G_endblk ?_ | refine G_block ?_ | refine G_exit rfl ?_)
    refine G_region ?_
    refine GO_q rfl rfl (ev_move rfl) ?_
    refine GO_q rfl rfl (ev_len rfl) ?_
    refine GO_q rfl rfl (ev_leq rfl rfl) ?_
    refine GO_nil ?_
    (repeat first | refine G_seq ?_ | refine G_skip ?_ | refine G_endblk ?_ | refine G_block ?_ | refine G_exit rfl ?_)
    refine G_cond_t rfl (decide_eq_true (by omega)) ?_
    (repeat first | refine G_seq ?_ | refine G_skip ?_ | refine G_endblk ?_ | refine G_block ?_ | refine G_exit rfl ?_)
    refine G_region ?_
    refine GO_q rfl rfl (ev_move rfl) ?_
    refine GO_q rfl rfl (ev_move rfl) ?_
    refine GO_eff rfl rfl (eff_call rfl (byI_ctr A n c l _ (by repeat' first | exact Rc.blk rfl | assumption | apply Rd.skip | apply Rd.app) hn)) ?_; rintro _ _ ⟨A9, c9, rfl, h9, rfl⟩
    refine GO_q rfl rfl (ev_assign rfl) ?_
    refine GO_nil ?_
    (repeat first | refine G_seq ?_ | refine G_skip ?_ | refine G_endblk ?_ | refine G_block ?_ | refine G_exit rfl ?_)
    exact G_ret (L' := own 3 1 A9 (srt l).length c9 (flat (srt l)) :: L) rfl (.tmp rfl .nil) (by (repeat first | exact en_refl | (apply en_blk; focus ((repeat' first | exact Pick.here | apply Pick.skip | apply Pick.app); done); focus rfl) | (apply en_own; focus ((repeat' first | exact Pick.here | apply Pick.skip | apply Pick.app); done); focus rfl) | (apply en_pick; focus ((repeat' first | exact Pick.here | apply Pick.skip | apply Pick.app); done)) | apply en_drop | apply en_app) <;> fail) ⟨A9, c9, rfl, h9, rfl⟩
  | succ N ih =>
    intro A n c l L h0 hl hn hc
    have h1 : l.length = n := hl.len (by decide)
    refine Ctr_of (fn := Tryz.f168) (n := 27) Tryz.func168 rfl rfl rfl ?_
    intro g F
    (repeat first | refine G_seq ?_ | refine G_skip ?_ | refine G_endblk ?_ | refine G_block ?_ | refine G_exit rfl ?_)
    refine G_region ?_
    refine GO_q rfl rfl (ev_assign rfl) ?_
    refine GO_nil ?_
    (repeat first | refine G_seq ?_ | refine G_skip ?_ | refine G_endblk ?_ | refine G_block ?_ | refine G_exit rfl ?_)
    refine G_region ?_
    refine GO_q rfl rfl (ev_move rfl) ?_
    refine GO_q rfl rfl (ev_len rfl) ?_
    refine GO_q rfl rfl (ev_leq rfl rfl) ?_
    refine GO_nil ?_
    (repeat first | refine G_seq ?_ | refine G_skip ?_ | refine G_endblk ?_ | refine G_block ?_ | refine G_exit rfl ?_)
    refine G_cond rfl (fun c1 => ?_) (fun c1 => ?_)
    · (repeat first | refine G_seq ?_ | refine G_skip ?_ | refine G_endblk ?_ | refine G_block ?_ | refine G_exit rfl ?_)
      refine G_region ?_
      refine GO_q rfl rfl (ev_move rfl) ?_
      refine GO_q rfl rfl (ev_move rfl) ?_
      refine GO_eff rfl rfl (eff_call rfl (byI_ctr A n c l _ (by repeat' first | exact Rc.blk rfl | assumption | apply Rd.skip | apply Rd.app) hn)) ?_; rintro _ _ ⟨A9, c9, rfl, h9, rfl⟩
      refine GO_q rfl rfl (ev_assign rfl) ?_
      refine GO_nil ?_
      (repeat first | refine G_seq ?_ | refine G_skip ?_ | refine G_endblk ?_ | refine G_block ?_ | refine G_exit rfl ?_)
      exact G_ret (L' := own 3 1 A9 (srt l).length c9 (flat (srt l)) :: L) rfl (.tmp rfl .nil) (by (repeat first | exact en_refl | (apply en_blk; focus ((repeat' first | exact Pick.here | apply Pick.skip | apply Pick.app); done); focus rfl) | (apply en_own; focus ((repeat' first | exact Pick.here | apply Pick.skip | apply Pick.app); done); focus rfl) | (apply en_pick; focus ((repeat' first | exact Pick.here | apply Pick.skip | apply Pick.app); done)) | apply en_drop | apply en_app) <;> fail) ⟨A9, c9, rfl, h9, rfl⟩
    · obtain ⟨b, o, rfl, _⟩ := hl.at_ (by omega)
      have e2 : srt (srt (l.take (n / 2)) ++ srt (l.drop (n / 2))) = srt l := by rw [srt_append, List.take_append_drop]
      have hT : ∀ X, Rd (X ++ L) (some ⟨b, o, none⟩) (n / 2) (l.take (n / 2)) := fun X => Rd.app (hl.take (by omega))
      have hD : ∀ X, Rd (X ++ L) (some ⟨b, (if c = n / 2 then o else o + (n / 2) * 1), none⟩) (n - n / 2) (l.drop (n / 2)) := fun X => Rd.app (hl.drop (k := n / 2) (c := c) (by omega) hc)
      (repeat first | refine G_seq ?_ | refine G_skip ?_ | refine G_endblk ?_ | refine G_block ?_ | refine G_exit rfl ?_)
      refine G_region ?_
      refine GO_q rfl rfl (ev_move rfl) ?_
      refine GO_q rfl rfl (ev_len rfl) ?_
      (first | refine GO_q rfl rfl (ev_quoN (q := 2) rfl rfl (by first | omega | (simp; done) | (simp; omega)) (by first | omega | (simp; done) | (simp; omega))) ?_ | refine GO_q rfl rfl (ev_quo rfl rfl (by first | omega | (simp; done) | (simp; omega)) (by first | omega | (simp; done) | (simp; omega)) (by first | omega | (simp; done) | (simp; omega))) ?_)
      refine GO_q rfl rfl (ev_assign rfl) ?_
      refine GO_nil ?_
      (repeat first | refine G_seq ?_ | refine G_skip ?_ | refine G_endblk ?_ | refine G_block ?_ | refine G_exit rfl ?_)
      refine G_draw (.q 0 (.q 1 (.q 2 (.q 3 (.q 5 (.q 6 (.q 7 (.q 8 (.q 10 (.e 4 (.e 9 (.e 11 (.q 12 .nil))))))))))))) (by kernel_rfl) (by kernel_rfl) ?_
      refine RS_m retB_noPanic rfl rfl rfl rfl (ev_move rfl) ?_
      refine RS_m retB_noPanic rfl rfl rfl rfl (ev_move rfl) ?_
      refine RS_q retB_noPanic rfl rfl rfl rfl (ev_sliceH rfl rfl (by first | omega | (simp; done) | (simp; omega))) ?_
      refine RS_m retB_noPanic rfl rfl rfl rfl (ev_move rfl) ?_
      refine RS_m retB_noPanic rfl rfl rfl rfl (ev_move rfl) ?_
      refine RS_m retB_noPanic rfl rfl rfl rfl (ev_move rfl) ?_
      refine RS_q retB_noPanic rfl rfl rfl rfl (ev_sliceL rfl rfl (by first | omega | (simp; done) | (simp; omega)) (by first | omega | (simp; done) | (simp; omega))) ?_
      refine RS_m retB_noPanic rfl rfl rfl rfl (ev_move rfl) ?_
      refine RS_m retB_noPanic rfl rfl rfl rfl (ev_move rfl) ?_
      refine RS_e (RE_eff rfl rfl rfl (eff_call rfl ((ih (some ⟨b, o, none⟩) (n / 2) c (l.take (n / 2)) _ (by omega) (hT [F]) (by omega) (by omega)).made)) ?_); rintro _ _ ⟨A1, c1', rfl, u1, v1, x1, rfl⟩; refine ⟨_, fun _ s => s, (by first | ((repeat first | exact fun _ s => s | apply en_keep | apply en_drop | apply en_app) <;> fail) | ((repeat first | exact en_refl | (apply en_blk; focus ((repeat' first | exact Pick.here | apply Pick.skip | apply Pick.app); done); focus rfl) | (apply en_own; focus ((repeat' first | exact Pick.here | apply Pick.skip | apply Pick.app); done); focus rfl) | (apply en_pick; focus ((repeat' first | exact Pick.here | apply Pick.skip | apply Pick.app); done)) | apply en_drop | apply en_app) <;> fail)), ?_⟩
      refine RS_e (RE_eff rfl rfl rfl (eff_call rfl ((ih (some ⟨b, (if c = n / 2 then o else o + (n / 2) * 1), none⟩) (n - n / 2) (c - n / 2) (l.drop (n / 2)) _ (by omega) (hD [own 3 1 A1 (srt (l.take (n / 2))).length c1' (flat (srt (l.take (n / 2)))), F]) (by omega) (by omega)).made)) ?_); rintro _ _ ⟨A2, c2', rfl, u2, v2, x2, rfl⟩; refine ⟨_, fun _ s => s, (by first | ((repeat first | exact fun _ s => s | apply en_keep | apply en_drop | apply en_app) <;> fail) | ((repeat first | exact en_refl | (apply en_blk; focus ((repeat' first | exact Pick.here | apply Pick.skip | apply Pick.app); done); focus rfl) | (apply en_own; focus ((repeat' first | exact Pick.here | apply Pick.skip | apply Pick.app); done); focus rfl) | (apply en_pick; focus ((repeat' first | exact Pick.here | apply Pick.skip | apply Pick.app); done)) | apply en_drop | apply en_app) <;> fail)), ?_⟩
      refine RS_e (RE_eff rfl rfl rfl (eff_call rfl (mergeI_ctr A1 A2 _ _ c1' c2' (srt (l.take (n / 2))) (srt (l.drop (n / 2))) _ (Rd.skip (Rc.own (flat_length _) u1)) (Rc.own (flat_length _) u2) (by rw [srt_length, List.length_take]; omega) (by rw [srt_length, List.length_drop]; omega) v1 v2 (srt_sorted _) (srt_sorted _))) ?_); rintro _ _ ⟨A3, c3', rfl, u3, rfl⟩; refine ⟨_, fun _ s => s, (by first | ((repeat first | exact fun _ s => s | apply en_keep | apply en_drop | apply en_app) <;> fail) | ((repeat first | exact en_refl | (apply en_blk; focus ((repeat' first | exact Pick.here | apply Pick.skip | apply Pick.app); done); focus rfl) | (apply en_own; focus ((repeat' first | exact Pick.here | apply Pick.skip | apply Pick.app); done); focus rfl) | (apply en_pick; focus ((repeat' first | exact Pick.here | apply Pick.skip | apply Pick.app); done)) | apply en_drop | apply en_app) <;> fail)), ?_⟩
      refine RS_m retB_noPanic rfl rfl rfl rfl (ev_assign rfl) ?_
      refine RS_nil ?_
      rw [e2] at u3
      rw [e2]
      (repeat first | refine G_seq ?_ | refine G_skip ?_ | refine G_endblk ?_ | refine G_block ?_ | refine G_exit rfl ?_)
      exact G_ret (L' := own 3 1 A3 (srt l).length c3' (flat (srt l)) :: L) rfl (.tmp rfl .nil) (by (repeat first | exact en_refl | (apply en_blk; focus ((repeat' first | exact Pick.here | apply Pick.skip | apply Pick.app); done); focus rfl) | (apply en_own; focus ((repeat' first | exact Pick.here | apply Pick.skip | apply Pick.app); done); focus rfl) | (apply en_pick; focus ((repeat' first | exact Pick.here | apply Pick.skip | apply Pick.app); done)) | apply en_drop | apply en_app) <;> fail) ⟨A3, c3', rfl, u3, rfl⟩
theorem SortI_ctr (A : Option Addr) (n c : Nat) (l : List Int) (L : List HP) (hl : Rd L A n l) (hn : n ≤ 1000000) (hc : n ≤ c) :
    Ctr Tryz.prog 166 #[.slice A n c, .func (.func 133) #[] #[]] L fun v L' => Made 3 (srt l) L v L' := by
  refine Ctr_of (fn := Tryz.f166) (n := 8) Tryz.func166 rfl rfl rfl ?_
  intro g F
  (repeat first | refine G_seq ?_ | refine G_skip ?_ | refine G_endblk ?_ | refine G_block ?_ | refine G_exit rfl ?_)
  refine G_region ?_
  refine GO_q rfl rfl (ev_assign rfl) ?_
  refine GO_nil ?_
  (repeat first | refine G_seq ?_ | refine G_skip ?_ | refine G_endblk ?_ | refine G_block ?_ | refine G_exit rfl ?_)
  refine G_region ?_
  refine GO_q rfl rfl (ev_move rfl) ?_
  refine GO_q rfl rfl (ev_move rfl) ?_
  refine GO_eff rfl rfl (eff_call rfl (sortI_ctr n A n c l _ (Nat.le_refl _) (by repeat' first | exact Rc.blk rfl | assumption | apply Rd.skip | apply Rd.app) hn hc)) ?_; rintro _ _ ⟨A9, c9, rfl, h9, rfl⟩
  refine GO_q rfl rfl (ev_assign rfl) ?_
  refine GO_nil ?_
  (repeat first | refine G_seq ?_ | refine G_skip ?_ | refine G_endblk ?_ | refine G_block ?_ | refine G_exit rfl ?_)
  exact G_ret (L' := own 3 1 A9 (srt l).length c9 (flat (srt l)) :: L) rfl (.tmp rfl .nil) (by (repeat first | exact en_refl | (apply en_blk; focus ((repeat' first | exact Pick.here | apply Pick.skip | apply Pick.app); done); focus rfl) | (apply en_own; focus ((repeat' first | exact Pick.here | apply Pick.skip | apply Pick.app); done); focus rfl) | (apply en_pick; focus ((repeat' first | exact Pick.here | apply Pick.skip | apply Pick.app); done)) | apply en_drop | apply en_app) <;> fail) ⟨A9, c9, rfl, h9, rfl⟩
/-- Each once. -/
def uqs (o : List Int) (v : Int) : List Int := match o.getLast? with
  | none => o ++ [v]
  | some z => if z < v then o ++ [v] else o
def uq (l : List Int) : List Int := l.foldl uqs []
/-- Numbers, each once, rising. -/
def ofL (l : List Int) : List Int := uq (srt l)
end Go.Proofs.YtjnmpogolknkpaaGreat
/- A tree of middles: the orders, a node's own intervals, look. -/
namespace Go.Proofs.YtjnmpogolknkpaaGreat
attribute [local irreducible] sat
set_option linter.unusedVariables false
set_option linter.unusedSimpArgs false
set_option maxRecDepth 100000

def cmpI (a b : Int) : Int := if a < b then -1 else if b < a then 1 else 0
theorem Compare_ctr (a b : Int) (L : List HP) : Ctr Tryz.prog 131 #[.int .i64 a, .int .i64 b] L fun v L' => v = .int .i64 (cmpI a b) ∧ L' = L := by
  unfold cmpI
  refine Ctr_of (fn := Tryz.f131) (n := 20) Tryz.func131 rfl rfl rfl ?_
  intro g F
  (repeat first | refine G_seq ?_ | refine G_skip ?_ | refine G_endblk ?_ | refine G_block ?_ | refine G_exit rfl ?_)
  refine G_region ?_
  refine GO_q rfl rfl (ev_assign rfl) ?_
  refine GO_nil ?_
  (repeat first | refine G_seq ?_ | refine G_skip ?_ | refine G_endblk ?_ | refine G_block ?_ | refine G_exit rfl ?_)
  refine G_region ?_
  refine GO_q rfl rfl (ev_move rfl) ?_
  refine GO_eff rfl rfl (eff_call rfl (isNaN_ctr a _)) ?_; rintro _ _ ⟨rfl, rfl⟩
  refine GO_q rfl rfl (ev_assign rfl) ?_
  refine GO_nil ?_
  (repeat first | refine G_seq ?_ | refine G_skip ?_ | refine G_endblk ?_ | refine G_block ?_ | refine G_exit rfl ?_)
  refine G_region ?_
  refine GO_q rfl rfl (ev_move rfl) ?_
  refine GO_eff rfl rfl (eff_call rfl (isNaN_ctr b _)) ?_; rintro _ _ ⟨rfl, rfl⟩
  refine GO_q rfl rfl (ev_assign rfl) ?_
  refine GO_nil ?_
  (repeat first | refine G_seq ?_ | refine G_skip ?_ | refine G_endblk ?_ | refine G_block ?_ | refine G_exit rfl ?_)
  refine G_region ?_
  refine GO_q rfl rfl (ev_move rfl) ?_
  refine GO_nil ?_
  (repeat first | refine G_seq ?_ | refine G_skip ?_ | refine G_endblk ?_ | refine G_block ?_ | refine G_exit rfl ?_)
  refine G_cond_f rfl rfl ?_
  (repeat first | refine G_seq ?_ | refine G_skip ?_ | refine G_endblk ?_ | refine G_block ?_ | refine G_exit rfl ?_)
  refine G_region ?_
  refine GO_q rfl rfl (ev_move rfl) ?_
  refine GO_nil ?_
  (repeat first | refine G_seq ?_ | refine G_skip ?_ | refine G_endblk ?_ | refine G_block ?_ | refine G_exit rfl ?_)
  refine G_cond_f rfl rfl ?_
  (repeat first | refine G_seq ?_ | refine G_skip ?_ | refine G_endblk ?_ | refine G_block ?_ | refine G_exit rfl ?_)
  refine G_region ?_
  refine GO_q rfl rfl (ev_move rfl) ?_
  refine GO_q rfl rfl (ev_move rfl) ?_
  (first | refine GO_q rfl rfl (ev_lssN rfl rfl) ?_ | refine GO_q rfl rfl (ev_lss rfl rfl) ?_)
  refine GO_nil ?_
  (repeat first | refine G_seq ?_ | refine G_skip ?_ | refine G_endblk ?_ | refine G_block ?_ | refine G_exit rfl ?_)
  refine G_cond rfl (fun c1 => ?_) (fun c1 => ?_)
  · rw [if_pos c1]
    (repeat first | refine G_seq ?_ | refine G_skip ?_ | refine G_endblk ?_ | refine G_block ?_ | refine G_exit rfl ?_)
    refine G_region ?_
    refine GO_q rfl rfl (ev_assign rfl) ?_
    refine GO_nil ?_
    (repeat first | refine G_seq ?_ | refine G_skip ?_ | refine G_endblk ?_ | refine G_block ?_ | refine G_exit rfl ?_)
    refine G_ret rfl (.tmp rfl .nil) (by (repeat first | exact fun _ s => s | apply en_keep | apply en_drop | apply en_app) <;> fail) ⟨rfl, rfl⟩
  · rw [if_neg c1]
    (repeat first | refine G_seq ?_ | refine G_skip ?_ | refine G_endblk ?_ | refine G_block ?_ | refine G_exit rfl ?_)
    refine G_region ?_
    refine GO_q rfl rfl (ev_move rfl) ?_
    refine GO_q rfl rfl (ev_move rfl) ?_
    refine GO_q rfl rfl (ev_gtr rfl rfl) ?_
    refine GO_nil ?_
    (repeat first | refine G_seq ?_ | refine G_skip ?_ | refine G_endblk ?_ | refine G_block ?_ | refine G_exit rfl ?_)
    refine G_cond rfl (fun c2 => ?_) (fun c2 => ?_)
    · rw [if_pos c2]
      (repeat first | refine G_seq ?_ | refine G_skip ?_ | refine G_endblk ?_ | refine G_block ?_ | refine G_exit rfl ?_)
      refine G_region ?_
      refine GO_q rfl rfl (ev_assign rfl) ?_
      refine GO_nil ?_
      (repeat first | refine G_seq ?_ | refine G_skip ?_ | refine G_endblk ?_ | refine G_block ?_ | refine G_exit rfl ?_)
      refine G_ret rfl (.tmp rfl .nil) (by (repeat first | exact fun _ s => s | apply en_keep | apply en_drop | apply en_app) <;> fail) ⟨rfl, rfl⟩
    · rw [if_neg c2]
      (repeat first | refine G_seq ?_ | refine G_skip ?_ | refine G_endblk ?_ | refine G_block ?_ | refine G_exit rfl ?_)
      refine G_region ?_
      refine GO_q rfl rfl (ev_assign rfl) ?_
      refine GO_nil ?_
      (repeat first | refine G_seq ?_ | refine G_skip ?_ | refine G_endblk ?_ | refine G_block ?_ | refine G_exit rfl ?_)
      refine G_ret rfl (.tmp rfl .nil) (by (repeat first | exact fun _ s => s | apply en_keep | apply en_drop | apply en_app) <;> fail) ⟨rfl, rfl⟩
def orI : List Int → Int
  | [] => 0
  | x :: l => if x ≠ 0 then x else orI l
theorem Or_ctr (A : Option Addr) (n c : Nat) (l : List Int) (L : List HP) (hl : Rd L A n l) (hn : n ≤ 1000000) : Ctr Tryz.prog 130 #[.slice A n c] L fun v L' => v = .int .i64 (orI l) ∧ L' = L := by
  have h1 : l.length = n := hl.len (by decide)
  refine Ctr_of (fn := Tryz.f130) (n := 18) Tryz.func130 rfl rfl rfl ?_
  intro g F
  (repeat first | refine G_seq ?_ | refine G_skip ?_ | refine G_endblk ?_ | refine G_block ?_ | refine G_exit rfl ?_)
  refine G_region ?_
  refine GO_q rfl rfl (ev_assign rfl) ?_
  refine GO_nil ?_
  (repeat first | refine G_seq ?_ | refine G_skip ?_ | refine G_endblk ?_ | refine G_block ?_ | refine G_exit rfl ?_)
  refine G_region ?_
  refine GO_q rfl rfl (ev_assign rfl) ?_
  refine GO_nil ?_
  (repeat first | refine G_seq ?_ | refine G_skip ?_ | refine G_endblk ?_ | refine G_block ?_ | refine G_exit rfl ?_)
  refine G_region ?_
  refine GO_q rfl rfl (ev_move rfl) ?_
  refine GO_q rfl rfl (ev_len rfl) ?_
  refine GO_q rfl rfl (ev_move rfl) ?_
  refine GO_nil ?_
  (repeat first | refine G_seq ?_ | refine G_skip ?_ | refine G_endblk ?_ | refine G_block ?_ | refine G_exit rfl ?_)
  refine G_loop (ι := Nat) (fun k => [(3, .int .i64 0), (6, .slice A n c), (7, .int .i64 (n : Nat)), (8, .int .i64 (k : Nat))]) (fun _ => F :: L) (fun k => k ≤ n ∧ orI l = orI (l.drop k)) (fun k => n - k) 0 ⟨Nat.zero_le _, rfl⟩ ⟨rfl, rfl, rfl, rfl, trivial⟩ (by (repeat first | exact fun _ s => s | apply en_keep | apply en_drop | apply en_app) <;> fail) ?_
  rintro k ⟨f1, f2⟩
  (repeat first | refine G_seq ?_ | refine G_skip ?_ | refine G_endblk ?_ | refine G_block ?_ | refine G_exit rfl ?_)
  refine G_region ?_
  (first | refine GO_q rfl rfl (ev_lssN rfl rfl) ?_ | refine GO_q rfl rfl (ev_lss rfl rfl) ?_)
  refine GO_nil ?_
  (repeat first | refine G_seq ?_ | refine G_skip ?_ | refine G_endblk ?_ | refine G_block ?_ | refine G_exit rfl ?_)
  refine G_cond rfl (fun c1 => ?_) (fun c1 => ?_)
  · obtain ⟨b1, o1, rfl, x1⟩ := hl.at_ (by omega)
    have g1 : l[k]? = some l[k] := List.getElem?_eq_getElem (by omega)
    have y1 := (x1 _ _ g1).at_ (i := 0) rfl
    have e1 : l.drop k = l[k] :: l.drop (k + 1) := List.drop_eq_getElem_cons (by omega)
    rw [e1] at f2
    generalize l[k] = u at *
    have z1 : Ld L ⟨b1, o1 + k * 1, none⟩ (.int .i64 u) := y1
    have e2 : ∀ r, orI (u :: r) = if u ≠ 0 then u else orI r := fun r => rfl
    rw [e2] at f2
    (repeat first | refine G_seq ?_ | refine G_skip ?_ | refine G_endblk ?_ | refine G_block ?_ | refine G_exit rfl ?_)
    refine G_region ?_
    (first | refine GO_q rfl rfl (ev_indexAddrN rfl rfl (by first | omega | (simp; done) | (simp; omega))) ?_ | refine GO_q rfl rfl (ev_indexAddr rfl rfl (by first | omega | (simp; done) | (simp; omega)) (by first | omega | (simp; done) | (simp; omega))) ?_)
    refine GO_q rfl rfl (ev_load rfl (by repeat' first | exact Ld.blk rfl | assumption | apply Ld.skip | apply Ld.app)) ?_
    refine GO_q rfl rfl (ev_assign rfl) ?_
    refine GO_nil ?_
    (repeat first | refine G_seq ?_ | refine G_skip ?_ | refine G_endblk ?_ | refine G_block ?_ | refine G_exit rfl ?_)
    refine G_region ?_
    refine GO_q rfl rfl (ev_move rfl) ?_
    refine GO_q rfl rfl (ev_move rfl) ?_
    refine GO_q rfl rfl (ev_neq rfl rfl) ?_
    refine GO_nil ?_
    (repeat first | refine G_seq ?_ | refine G_skip ?_ | refine G_endblk ?_ | refine G_block ?_ | refine G_exit rfl ?_)
    refine G_cond rfl (fun c2 => ?_) (fun c2 => ?_)
    · rw [if_pos c2] at f2
      (repeat first | refine G_seq ?_ | refine G_skip ?_ | refine G_endblk ?_ | refine G_block ?_ | refine G_exit rfl ?_)
      refine G_region ?_
      refine GO_q rfl rfl (ev_move rfl) ?_
      refine GO_q rfl rfl (ev_assign rfl) ?_
      refine GO_nil ?_
      (repeat first | refine G_seq ?_ | refine G_skip ?_ | refine G_endblk ?_ | refine G_block ?_ | refine G_exit rfl ?_)
      refine G_ret rfl (.tmp rfl .nil) (by (repeat first | exact fun _ s => s | apply en_keep | apply en_drop | apply en_app) <;> fail) ⟨by rw [f2]; rfl, rfl⟩
    · rw [if_neg c2] at f2
      (repeat first | refine G_seq ?_ | refine G_skip ?_ | refine G_endblk ?_ | refine G_block ?_ | refine G_exit rfl ?_)
      refine G_region ?_
      (first | refine GO_q rfl rfl (ev_addN (q := 1) rfl rfl (by first | omega | (simp; done) | (simp; omega))) ?_ | refine GO_q rfl rfl (ev_add rfl rfl (by first | omega | (simp; done) | (simp; omega))) ?_)
      refine GO_q rfl rfl (ev_move rfl) ?_
      refine GO_nil ?_
      (repeat first | refine G_seq ?_ | refine G_skip ?_ | refine G_endblk ?_ | refine G_block ?_ | refine G_exit rfl ?_)
      exact G_round (k + 1) ⟨by omega, f2⟩ (by omega) ⟨rfl, rfl, rfl, rfl, trivial⟩ (by (repeat first | exact fun _ s => s | apply en_keep | apply en_drop | apply en_app) <;> fail)
  · have e0 : l.drop k = [] := List.drop_of_length_le (by omega)
    rw [e0] at f2
    (repeat first | refine G_seq ?_ | refine G_skip ?_ | refine G_endblk ?_ | refine G_block ?_ | refine G_exit rfl ?_)
    refine G_region ?_
    refine GO_q rfl rfl (ev_move rfl) ?_
    refine GO_q rfl rfl (ev_assign rfl) ?_
    refine GO_nil ?_
    (repeat first | refine G_seq ?_ | refine G_skip ?_ | refine G_endblk ?_ | refine G_block ?_ | refine G_exit rfl ?_)
    refine G_ret rfl (.tmp rfl .nil) (by (repeat first | exact fun _ s => s | apply en_keep | apply en_drop | apply en_app) <;> fail) ⟨by rw [f2]; rfl, rfl⟩
theorem Ends_ctr (s t : Pt) (L : List HP) : Ctr Tryz.prog 103 #[s.v, t.v] L fun v L' => v = .int .i64 (orI [cmpI s.y t.y, cmpI s.x t.x, cmpI s.id t.id]) ∧ L' = L := by
  refine Ctr_of (fn := Tryz.f103) (n := 22) Tryz.func103 rfl rfl rfl ?_
  intro g F
  (repeat first | refine G_seq ?_ | refine G_skip ?_ | refine G_endblk ?_ | refine G_block ?_ | refine G_exit rfl ?_)
  refine G_region ?_
  refine GO_eff rfl rfl (eff_box rfl) ?_; rintro _ _ ⟨b2, rfl, rfl⟩
  refine GO_eff rfl rfl (eff_box rfl) ?_; rintro _ _ ⟨b3, rfl, rfl⟩
  refine GO_q rfl rfl (ev_assign rfl) ?_
  refine GO_nil ?_
  (repeat first | refine G_seq ?_ | refine G_skip ?_ | refine G_endblk ?_ | refine G_block ?_ | refine G_exit rfl ?_)
  refine G_draw (.q 0 (.q 1 (.q 2 (.q 3 (.q 5 (.q 6 (.q 7 (.q 8 (.q 10 (.q 11 (.q 12 (.q 13 (.e 4 (.e 9 (.e 14 (.e 15 (.e 16 (.q 17 .nil)))))))))))))))))) (by kernel_rfl) (by kernel_rfl) ?_
  refine RS_m retB_noPanic rfl rfl rfl rfl (ev_fieldAddr rfl) ?_
  refine RS_q retB_noPanic rfl rfl rfl rfl (ev_load rfl (by repeat' first | exact Ld.blk rfl | assumption | apply Ld.skip | apply Ld.app)) ?_
  refine RS_m retB_noPanic rfl rfl rfl rfl (ev_fieldAddr rfl) ?_
  refine RS_q retB_noPanic rfl rfl rfl rfl (ev_load rfl (by repeat' first | exact Ld.blk rfl | assumption | apply Ld.skip | apply Ld.app)) ?_
  refine RS_m retB_noPanic rfl rfl rfl rfl (ev_fieldAddr rfl) ?_
  refine RS_q retB_noPanic rfl rfl rfl rfl (ev_load rfl (by repeat' first | exact Ld.blk rfl | assumption | apply Ld.skip | apply Ld.app)) ?_
  refine RS_m retB_noPanic rfl rfl rfl rfl (ev_fieldAddr rfl) ?_
  refine RS_q retB_noPanic rfl rfl rfl rfl (ev_load rfl (by repeat' first | exact Ld.blk rfl | assumption | apply Ld.skip | apply Ld.app)) ?_
  refine RS_m retB_noPanic rfl rfl rfl rfl (ev_fieldAddr rfl) ?_
  refine RS_q retB_noPanic rfl rfl rfl rfl (ev_load rfl (by repeat' first | exact Ld.blk rfl | assumption | apply Ld.skip | apply Ld.app)) ?_
  refine RS_m retB_noPanic rfl rfl rfl rfl (ev_fieldAddr rfl) ?_
  refine RS_q retB_noPanic rfl rfl rfl rfl (ev_load rfl (by repeat' first | exact Ld.blk rfl | assumption | apply Ld.skip | apply Ld.app)) ?_
  refine RS_e (RE_eff rfl rfl rfl (eff_call rfl (Compare_ctr s.y t.y _)) ?_); rintro _ _ ⟨rfl, rfl⟩; refine ⟨_, fun _ s => s, (by first | ((repeat first | exact fun _ s => s | apply en_keep | apply en_drop | apply en_app) <;> fail) | ((repeat first | exact en_refl | (apply en_blk; focus ((repeat' first | exact Pick.here | apply Pick.skip | apply Pick.app); done); focus rfl) | (apply en_own; focus ((repeat' first | exact Pick.here | apply Pick.skip | apply Pick.app); done); focus rfl) | (apply en_pick; focus ((repeat' first | exact Pick.here | apply Pick.skip | apply Pick.app); done)) | apply en_drop | apply en_app) <;> fail)), ?_⟩
  refine RS_e (RE_eff rfl rfl rfl (eff_call rfl (Compare_ctr s.x t.x _)) ?_); rintro _ _ ⟨rfl, rfl⟩; refine ⟨_, fun _ s => s, (by first | ((repeat first | exact fun _ s => s | apply en_keep | apply en_drop | apply en_app) <;> fail) | ((repeat first | exact en_refl | (apply en_blk; focus ((repeat' first | exact Pick.here | apply Pick.skip | apply Pick.app); done); focus rfl) | (apply en_own; focus ((repeat' first | exact Pick.here | apply Pick.skip | apply Pick.app); done); focus rfl) | (apply en_pick; focus ((repeat' first | exact Pick.here | apply Pick.skip | apply Pick.app); done)) | apply en_drop | apply en_app) <;> fail)), ?_⟩
  refine RS_e (RE_eff rfl rfl rfl (eff_call rfl (Compare_ctr s.id t.id _)) ?_); rintro _ _ ⟨rfl, rfl⟩; refine ⟨_, fun _ s => s, (by first | ((repeat first | exact fun _ s => s | apply en_keep | apply en_drop | apply en_app) <;> fail) | ((repeat first | exact en_refl | (apply en_blk; focus ((repeat' first | exact Pick.here | apply Pick.skip | apply Pick.app); done); focus rfl) | (apply en_own; focus ((repeat' first | exact Pick.here | apply Pick.skip | apply Pick.app); done); focus rfl) | (apply en_pick; focus ((repeat' first | exact Pick.here | apply Pick.skip | apply Pick.app); done)) | apply en_drop | apply en_app) <;> fail)), ?_⟩
  refine RS_e (RE_eff rfl rfl rfl (eff_buildSliceN (by rfl) rfl rfl) ?_); rintro _ _ ⟨b20, rfl, rfl⟩; refine ⟨_, fun _ s => s, (by first | ((repeat first | exact fun _ s => s | apply en_keep | apply en_drop | apply en_app) <;> fail) | ((repeat first | exact en_refl | (apply en_blk; focus ((repeat' first | exact Pick.here | apply Pick.skip | apply Pick.app); done); focus rfl) | (apply en_own; focus ((repeat' first | exact Pick.here | apply Pick.skip | apply Pick.app); done); focus rfl) | (apply en_pick; focus ((repeat' first | exact Pick.here | apply Pick.skip | apply Pick.app); done)) | apply en_drop | apply en_app) <;> fail)), ?_⟩
  refine RS_e (RE_eff rfl rfl rfl (eff_call rfl (Or_ctr (some ⟨b20, 0, none⟩) 3 3 [cmpI s.y t.y, cmpI s.x t.x, cmpI s.id t.id] _ (by repeat' first | exact Rc.blk rfl | assumption | apply Rd.skip | apply Rd.app) (by omega))) ?_); rintro _ _ ⟨rfl, rfl⟩; refine ⟨_, fun _ s => s, (by first | ((repeat first | exact fun _ s => s | apply en_keep | apply en_drop | apply en_app) <;> fail) | ((repeat first | exact en_refl | (apply en_blk; focus ((repeat' first | exact Pick.here | apply Pick.skip | apply Pick.app); done); focus rfl) | (apply en_own; focus ((repeat' first | exact Pick.here | apply Pick.skip | apply Pick.app); done); focus rfl) | (apply en_pick; focus ((repeat' first | exact Pick.here | apply Pick.skip | apply Pick.app); done)) | apply en_drop | apply en_app) <;> fail)), ?_⟩
  refine RS_m retB_noPanic rfl rfl rfl rfl (ev_assign rfl) ?_
  refine RS_nil ?_
  (repeat first | refine G_seq ?_ | refine G_skip ?_ | refine G_endblk ?_ | refine G_block ?_ | refine G_exit rfl ?_)
  refine G_ret rfl (.tmp rfl .nil) (by (repeat first | exact fun _ s => s | apply en_keep | apply en_drop | apply en_app) <;> fail) ⟨rfl, rfl⟩
theorem ends_val (s t : Pt) : decide (orI [cmpI s.y t.y, cmpI s.x t.x, cmpI s.id t.id] < 0) = Pt.ends s t := by
  have key : (Pt.ends s t = true) ↔ (s.y < t.y ∨ s.y = t.y ∧ (s.x < t.x ∨ s.x = t.x ∧ s.id < t.id)) := by
    unfold Pt.ends; rw [Pt.less_iff]; rfl
  rw [Bool.eq_iff_iff, key, decide_eq_true_iff]
  simp only [orI, cmpI]
  rcases Int.lt_trichotomy s.y t.y with h | h | h
  · simp [h]
  · rcases Int.lt_trichotomy s.x t.x with h2 | h2 | h2
    · simp [h, h2]
    · rcases Int.lt_trichotomy s.id t.id with h3 | h3 | h3
      · simp [h, h2, h3]
      · simp [h, h2, h3]
      · have a1 : ¬ s.id < t.id := by omega
        simp [h, h2, h3, a1]
    · have a1 : ¬ s.x < t.x := by omega
      have a2 : s.x ≠ t.x := by omega
      simp [h, h2, a1, a2]
  · have a1 : ¬ s.y < t.y := by omega
    have a2 : s.y ≠ t.y := by omega
    simp [h, a1, a2]
theorem ends_ls : LsT 74 Pt.ends := ⟨fun s t L => by
  refine Ctr_of (fn := Tryz.f74) (n := 9) Tryz.func74 rfl rfl rfl ?_
  intro g F
  (repeat first | refine G_seq ?_ | refine G_skip ?_ | refine G_endblk ?_ | refine G_block ?_ | refine G_exit rfl ?_)
  refine G_region ?_
  refine GO_eff rfl rfl (eff_box rfl) ?_; rintro _ _ ⟨b2, rfl, rfl⟩
  refine GO_eff rfl rfl (eff_box rfl) ?_; rintro _ _ ⟨b3, rfl, rfl⟩
  refine GO_q rfl rfl (ev_assign rfl) ?_
  refine GO_nil ?_
  (repeat first | refine G_seq ?_ | refine G_skip ?_ | refine G_endblk ?_ | refine G_block ?_ | refine G_exit rfl ?_)
  refine G_region ?_
  refine GO_q rfl rfl (ev_loadN rfl (by repeat' first | exact LdN.blk rfl | assumption | apply LdN.skip | apply LdN.app)) ?_
  refine GO_q rfl rfl (ev_loadN rfl (by repeat' first | exact LdN.blk rfl | assumption | apply LdN.skip | apply LdN.app)) ?_
  refine GO_eff rfl rfl (eff_call rfl (Ends_ctr s t _)) ?_; rintro _ _ ⟨rfl, rfl⟩
  (first | refine GO_q rfl rfl (ev_lssN (q := 0) rfl rfl) ?_ | refine GO_q rfl rfl (ev_lss rfl rfl) ?_)
  refine GO_q rfl rfl (ev_assign rfl) ?_
  refine GO_nil ?_
  (repeat first | refine G_seq ?_ | refine G_skip ?_ | refine G_endblk ?_ | refine G_block ?_ | refine G_exit rfl ?_)
  refine G_ret rfl (.tmp rfl .nil) (by (repeat first | exact fun _ s => s | apply en_keep | apply en_drop | apply en_app) <;> fail) ⟨congrArg Value.bool (ends_val s t), rfl⟩⟩
theorem less_ls : LsT 69 Pt.less := ⟨fun s t L => less_ctr s t L⟩
theorem begins_ls : LsT 115 (fun s t => decide (s.x < t.x)) := ⟨fun s t L => by
  refine Ctr_of (fn := Tryz.f115) (n := 10) Tryz.func115 rfl rfl rfl ?_
  intro g F
  (repeat first | refine G_seq ?_ | refine G_skip ?_ | refine G_endblk ?_ | refine G_block ?_ | refine G_exit rfl ?_)
  refine G_region ?_
  refine GO_eff rfl rfl (eff_box rfl) ?_; rintro _ _ ⟨b2, rfl, rfl⟩
  refine GO_eff rfl rfl (eff_box rfl) ?_; rintro _ _ ⟨b3, rfl, rfl⟩
  refine GO_q rfl rfl (ev_assign rfl) ?_
  refine GO_nil ?_
  (repeat first | refine G_seq ?_ | refine G_skip ?_ | refine G_endblk ?_ | refine G_block ?_ | refine G_exit rfl ?_)
  refine G_region ?_
  refine GO_q rfl rfl (ev_fieldAddr rfl) ?_
  refine GO_q rfl rfl (ev_load rfl (by repeat' first | exact Ld.blk rfl | assumption | apply Ld.skip | apply Ld.app)) ?_
  refine GO_q rfl rfl (ev_fieldAddr rfl) ?_
  refine GO_q rfl rfl (ev_load rfl (by repeat' first | exact Ld.blk rfl | assumption | apply Ld.skip | apply Ld.app)) ?_
  (first | refine GO_q rfl rfl (ev_lssN rfl rfl) ?_ | refine GO_q rfl rfl (ev_lss rfl rfl) ?_)
  refine GO_q rfl rfl (ev_assign rfl) ?_
  refine GO_nil ?_
  (repeat first | refine G_seq ?_ | refine G_skip ?_ | refine G_endblk ?_ | refine G_block ?_ | refine G_exit rfl ?_)
  refine G_ret rfl (.tmp rfl .nil) (by (repeat first | exact fun _ s => s | apply en_keep | apply en_drop | apply en_app) <;> fail) ⟨rfl, rfl⟩⟩
theorem closes_ls : LsT 117 (fun s t => decide (s.y < t.y)) := ⟨fun s t L => by
  refine Ctr_of (fn := Tryz.f117) (n := 10) Tryz.func117 rfl rfl rfl ?_
  intro g F
  (repeat first | refine G_seq ?_ | refine G_skip ?_ | refine G_endblk ?_ | refine G_block ?_ | refine G_exit rfl ?_)
  refine G_region ?_
  refine GO_eff rfl rfl (eff_box rfl) ?_; rintro _ _ ⟨b2, rfl, rfl⟩
  refine GO_eff rfl rfl (eff_box rfl) ?_; rintro _ _ ⟨b3, rfl, rfl⟩
  refine GO_q rfl rfl (ev_assign rfl) ?_
  refine GO_nil ?_
  (repeat first | refine G_seq ?_ | refine G_skip ?_ | refine G_endblk ?_ | refine G_block ?_ | refine G_exit rfl ?_)
  refine G_region ?_
  refine GO_q rfl rfl (ev_fieldAddr rfl) ?_
  refine GO_q rfl rfl (ev_load rfl (by repeat' first | exact Ld.blk rfl | assumption | apply Ld.skip | apply Ld.app)) ?_
  refine GO_q rfl rfl (ev_fieldAddr rfl) ?_
  refine GO_q rfl rfl (ev_load rfl (by repeat' first | exact Ld.blk rfl | assumption | apply Ld.skip | apply Ld.app)) ?_
  (first | refine GO_q rfl rfl (ev_lssN rfl rfl) ?_ | refine GO_q rfl rfl (ev_lss rfl rfl) ?_)
  refine GO_q rfl rfl (ev_assign rfl) ?_
  refine GO_nil ?_
  (repeat first | refine G_seq ?_ | refine G_skip ?_ | refine G_endblk ?_ | refine G_block ?_ | refine G_exit rfl ?_)
  refine G_ret rfl (.tmp rfl .nil) (by (repeat first | exact fun _ s => s | apply en_keep | apply en_drop | apply en_app) <;> fail) ⟨rfl, rfl⟩⟩
theorem less_x {s t : Pt} (h : s.less t = true) : s.x ≤ t.x := by rw [Pt.less_iff] at h; omega
theorem ends_y {s t : Pt} (h : Pt.ends t s = false) : s.y ≤ t.y := by
  have : ¬ (Pt.ends t s = true) := by rw [h]; simp
  unfold Pt.ends at this; rw [Pt.less_iff] at this
  simp only [Pt.flip] at this
  omega
/-- A node's own ones that have a number in common with u .. v. -/
theorem own_ctr (b : Nat) (mid : Int) (A : Option Addr) (c : Nat) (p : List Pt) (C : Option Addr) (d : Nat) (q : List Pt) (m : Nat) (lo hi : IT) (u v : Int) (L : List HP) (h : IIn L (.node b mid A c p C d q m lo hi)) (hp : AscO Pt.less p) (hq : q = srtO Pt.ends p) (hn : p.length ≤ 1000000) :
    Ctr Tryz.prog 90 #[.pointer (some ⟨b, 0, none⟩), .int .i64 u, .int .i64 v] L fun r L' => (∃ A' n' c', r = .slice A' n' c' ∧ Rd L A' n' (IT.own u v mid p q)) ∧ L' = L := by
  obtain ⟨q1, q2, q3, q4, q5, q6, q7, q8, q9, q10, q11, q12⟩ := h.f
  have hql : q.length = p.length := by rw [hq, srtO_length]
  refine Ctr_of (fn := Tryz.f90) (n := 49) Tryz.func90 rfl rfl rfl ?_
  intro g F
  (repeat first | refine G_seq ?_ | refine G_skip ?_ | refine G_endblk ?_ | refine G_block ?_ | refine G_exit rfl ?_)
  refine G_region ?_
  refine GO_q rfl rfl (ev_assign rfl) ?_
  refine GO_nil ?_
  (repeat first | refine G_seq ?_ | refine G_skip ?_ | refine G_endblk ?_ | refine G_block ?_ | refine G_exit rfl ?_)
  refine G_region ?_
  refine GO_q rfl rfl (ev_move rfl) ?_
  refine GO_q rfl rfl (ev_move rfl) ?_
  (first | refine GO_q rfl rfl (ev_nilCheck rfl) ?_ | refine GO_q rfl rfl (ev_nilCheckF (by simp) rfl) ?_)
  refine GO_q rfl rfl (ev_fieldAddr rfl) ?_
  refine GO_q rfl rfl (ev_load rfl (by repeat' first | exact Ld.blk rfl | assumption | apply Ld.skip | apply Ld.app)) ?_
  (first | refine GO_q rfl rfl (ev_lssN rfl rfl) ?_ | refine GO_q rfl rfl (ev_lss rfl rfl) ?_)
  refine GO_q rfl rfl (ev_assign rfl) ?_
  refine GO_nil ?_
  (repeat first | refine G_seq ?_ | refine G_skip ?_ | refine G_endblk ?_ | refine G_block ?_ | refine G_exit rfl ?_)
  refine G_cond rfl (fun c1 => ?_) (fun c1 => ?_)
  · have e : IT.own u v mid p q = p.filter (fun s => decide (s.x ≤ v)) := by unfold IT.own; rw [if_pos c1]
    have hm : p.Pairwise (fun a b => decide (b.x ≤ v) = true → decide (a.x ≤ v) = true) := hp.imp fun hab => by
      have := less_x hab
      simp; omega
    have hk : p.countP (fun s => decide (s.x ≤ v)) ≤ p.length := List.countP_le_length
    have ht := fall_take _ p hm
    have ha := fall_at _ p hm
    rw [e, ← ht]
    generalize p.countP (fun s => decide (s.x ≤ v)) = k at *
    (repeat first | refine G_seq ?_ | refine G_skip ?_ | refine G_endblk ?_ | refine G_block ?_ | refine G_exit rfl ?_)
    refine G_draw (.q 0 (.q 1 (.q 2 (.q 3 (.q 4 (.q 5 (.q 6 (.q 7 (.q 8 (.q 9 (.e 10 (.q 11 (.q 12 .nil))))))))))))) (by kernel_rfl) (by kernel_rfl) ?_
    refine RS_m retB_noPanic rfl rfl rfl rfl (ev_move rfl) ?_
    (first | refine RS_m retB_noPanic rfl rfl rfl rfl (ev_nilCheck rfl) ?_ | refine RS_m retB_noPanic rfl rfl rfl rfl (ev_nilCheckF (by simp) rfl) ?_)
    refine RS_m retB_noPanic rfl rfl rfl rfl (ev_fieldAddr rfl) ?_
    refine RS_q retB_noPanic rfl rfl rfl rfl (ev_load rfl (by repeat' first | exact Ld.blk rfl | assumption | apply Ld.skip | apply Ld.app)) ?_
    refine RS_m retB_noPanic rfl rfl rfl rfl (ev_move rfl) ?_
    (first | refine RS_m retB_noPanic rfl rfl rfl rfl (ev_nilCheck rfl) ?_ | refine RS_m retB_noPanic rfl rfl rfl rfl (ev_nilCheckF (by simp) rfl) ?_)
    refine RS_m retB_noPanic rfl rfl rfl rfl (ev_fieldAddr rfl) ?_
    refine RS_q retB_noPanic rfl rfl rfl rfl (ev_load rfl (by repeat' first | exact Ld.blk rfl | assumption | apply Ld.skip | apply Ld.app)) ?_
    refine RS_m retB_noPanic rfl rfl rfl rfl (ev_move rfl) ?_
    refine RS_m retB_noPanic rfl rfl rfl rfl (ev_build rfl rfl) ?_
    refine RS_e (RE_eff rfl rfl rfl (eff_call rfl (BehindG_ctr begins_ls A p.length c k p ⟨0, v, 0⟩ _ (by repeat' first | exact Rc.blk rfl | assumption | apply Rd.skip | apply Rd.app) hn hk (fun j a hj => by have := ha j a hj; simp at this ⊢; omega))) ?_); rintro _ _ ⟨rfl, rfl⟩; refine ⟨_, fun _ s => s, (by first | ((repeat first | exact fun _ s => s | apply en_keep | apply en_drop | apply en_app) <;> fail) | ((repeat first | exact en_refl | (apply en_blk; focus ((repeat' first | exact Pick.here | apply Pick.skip | apply Pick.app); done); focus rfl) | (apply en_own; focus ((repeat' first | exact Pick.here | apply Pick.skip | apply Pick.app); done); focus rfl) | (apply en_pick; focus ((repeat' first | exact Pick.here | apply Pick.skip | apply Pick.app); done)) | apply en_drop | apply en_app) <;> fail)), ?_⟩
    refine RS_q retB_noPanic rfl rfl rfl rfl (ev_sliceH rfl rfl (by have := q9.le; omega)) ?_
    refine RS_m retB_noPanic rfl rfl rfl rfl (ev_assign rfl) ?_
    refine RS_nil ?_
    (repeat first | refine G_seq ?_ | refine G_skip ?_ | refine G_endblk ?_ | refine G_block ?_ | refine G_exit rfl ?_)
    refine G_ret rfl (.tmp rfl .nil) (by (repeat first | exact fun _ s => s | apply en_keep | apply en_drop | apply en_app) <;> fail) ⟨⟨_, _, _, rfl, q7.take hk⟩, rfl⟩
  · (repeat first | refine G_seq ?_ | refine G_skip ?_ | refine G_endblk ?_ | refine G_block ?_ | refine G_exit rfl ?_)
    refine G_region ?_
    refine GO_q rfl rfl (ev_move rfl) ?_
    refine GO_q rfl rfl (ev_move rfl) ?_
    (first | refine GO_q rfl rfl (ev_nilCheck rfl) ?_ | refine GO_q rfl rfl (ev_nilCheckF (by simp) rfl) ?_)
    refine GO_q rfl rfl (ev_fieldAddr rfl) ?_
    refine GO_q rfl rfl (ev_load rfl (by repeat' first | exact Ld.blk rfl | assumption | apply Ld.skip | apply Ld.app)) ?_
    refine GO_q rfl rfl (ev_gtr rfl rfl) ?_
    refine GO_q rfl rfl (ev_assign rfl) ?_
    refine GO_nil ?_
    (repeat first | refine G_seq ?_ | refine G_skip ?_ | refine G_endblk ?_ | refine G_block ?_ | refine G_exit rfl ?_)
    refine G_cond rfl (fun c2 => ?_) (fun c2 => ?_)
    · have e : IT.own u v mid p q = q.filter (fun s => decide (u ≤ s.y)) := by unfold IT.own; rw [if_neg c1, if_pos c2]
      have hs : SrtO Pt.ends q := by rw [hq]; exact srtO_sorted sto_ends p
      have hm : q.Pairwise (fun a b => decide (b.y < u) = true → decide (a.y < u) = true) := hs.imp fun hab => by
        have := ends_y hab
        simp; omega
      have hk : q.countP (fun s => decide (s.y < u)) ≤ q.length := List.countP_le_length
      have ht := fall_drop _ q hm
      have ha := fall_at _ q hm
      have e2 : q.filter (fun s => decide (u ≤ s.y)) = q.filter (fun s => !decide (s.y < u)) := List.filter_congr fun s _ => by
        by_cases h9 : s.y < u
        · simp [h9]
        · simp [h9]; omega
      rw [e, e2, ← ht]
      generalize q.countP (fun s => decide (s.y < u)) = k at *
      by_cases h0 : 0 < q.length
      · obtain ⟨cb, rfl⟩ := q10.a h0
        (repeat first | refine G_seq ?_ | refine G_skip ?_ | refine G_endblk ?_ | refine G_block ?_ | refine G_exit rfl ?_)
        refine G_draw (.q 0 (.q 1 (.q 2 (.q 3 (.q 4 (.q 5 (.q 6 (.q 7 (.q 8 (.q 9 (.e 10 (.q 11 (.q 12 .nil))))))))))))) (by kernel_rfl) (by kernel_rfl) ?_
        refine RS_m retB_noPanic rfl rfl rfl rfl (ev_move rfl) ?_
        (first | refine RS_m retB_noPanic rfl rfl rfl rfl (ev_nilCheck rfl) ?_ | refine RS_m retB_noPanic rfl rfl rfl rfl (ev_nilCheckF (by simp) rfl) ?_)
        refine RS_m retB_noPanic rfl rfl rfl rfl (ev_fieldAddr rfl) ?_
        refine RS_q retB_noPanic rfl rfl rfl rfl (ev_load rfl (by repeat' first | exact Ld.blk rfl | assumption | apply Ld.skip | apply Ld.app)) ?_
        refine RS_m retB_noPanic rfl rfl rfl rfl (ev_move rfl) ?_
        (first | refine RS_m retB_noPanic rfl rfl rfl rfl (ev_nilCheck rfl) ?_ | refine RS_m retB_noPanic rfl rfl rfl rfl (ev_nilCheckF (by simp) rfl) ?_)
        refine RS_m retB_noPanic rfl rfl rfl rfl (ev_fieldAddr rfl) ?_
        refine RS_q retB_noPanic rfl rfl rfl rfl (ev_load rfl (by repeat' first | exact Ld.blk rfl | assumption | apply Ld.skip | apply Ld.app)) ?_
        refine RS_m retB_noPanic rfl rfl rfl rfl (ev_move rfl) ?_
        refine RS_m retB_noPanic rfl rfl rfl rfl (ev_build rfl rfl) ?_
        refine RS_e (RE_eff rfl rfl rfl (eff_call rfl (FirstG_ctr closes_ls (some ⟨cb, 0, none⟩) q.length d k q ⟨0, 0, u⟩ _ (by repeat' first | exact Rc.blk rfl | assumption | apply Rd.skip | apply Rd.app) (by omega) hk (fun j a hj => by have := ha j a hj; simp at this ⊢; omega))) ?_); rintro _ _ ⟨rfl, rfl⟩; refine ⟨_, fun _ s => s, (by first | ((repeat first | exact fun _ s => s | apply en_keep | apply en_drop | apply en_app) <;> fail) | ((repeat first | exact en_refl | (apply en_blk; focus ((repeat' first | exact Pick.here | apply Pick.skip | apply Pick.app); done); focus rfl) | (apply en_own; focus ((repeat' first | exact Pick.here | apply Pick.skip | apply Pick.app); done); focus rfl) | (apply en_pick; focus ((repeat' first | exact Pick.here | apply Pick.skip | apply Pick.app); done)) | apply en_drop | apply en_app) <;> fail)), ?_⟩
        refine RS_q retB_noPanic rfl rfl rfl rfl (ev_sliceL rfl rfl hk q10.le) ?_
        refine RS_m retB_noPanic rfl rfl rfl rfl (ev_assign rfl) ?_
        refine RS_nil ?_
        (repeat first | refine G_seq ?_ | refine G_skip ?_ | refine G_endblk ?_ | refine G_block ?_ | refine G_exit rfl ?_)
        refine G_ret rfl (.tmp rfl .nil) (by (repeat first | exact fun _ s => s | apply en_keep | apply en_drop | apply en_app) <;> fail) ⟨⟨_, _, _, rfl, q8.drop hk q10.le⟩, rfl⟩
      · have e0 : q = [] := List.eq_nil_of_length_eq_zero (by omega)
        have k0 : k = 0 := by omega
        clear hq
        subst e0 k0
        (repeat first | refine G_seq ?_ | refine G_skip ?_ | refine G_endblk ?_ | refine G_block ?_ | refine G_exit rfl ?_)
        refine G_draw (.q 0 (.q 1 (.q 2 (.q 3 (.q 4 (.q 5 (.q 6 (.q 7 (.q 8 (.q 9 (.e 10 (.q 11 (.q 12 .nil))))))))))))) (by kernel_rfl) (by kernel_rfl) ?_
        refine RS_m retB_noPanic rfl rfl rfl rfl (ev_move rfl) ?_
        (first | refine RS_m retB_noPanic rfl rfl rfl rfl (ev_nilCheck rfl) ?_ | refine RS_m retB_noPanic rfl rfl rfl rfl (ev_nilCheckF (by simp) rfl) ?_)
        refine RS_m retB_noPanic rfl rfl rfl rfl (ev_fieldAddr rfl) ?_
        refine RS_q retB_noPanic rfl rfl rfl rfl (ev_load rfl (by repeat' first | exact Ld.blk rfl | assumption | apply Ld.skip | apply Ld.app)) ?_
        refine RS_m retB_noPanic rfl rfl rfl rfl (ev_move rfl) ?_
        (first | refine RS_m retB_noPanic rfl rfl rfl rfl (ev_nilCheck rfl) ?_ | refine RS_m retB_noPanic rfl rfl rfl rfl (ev_nilCheckF (by simp) rfl) ?_)
        refine RS_m retB_noPanic rfl rfl rfl rfl (ev_fieldAddr rfl) ?_
        refine RS_q retB_noPanic rfl rfl rfl rfl (ev_load rfl (by repeat' first | exact Ld.blk rfl | assumption | apply Ld.skip | apply Ld.app)) ?_
        refine RS_m retB_noPanic rfl rfl rfl rfl (ev_move rfl) ?_
        refine RS_m retB_noPanic rfl rfl rfl rfl (ev_build rfl rfl) ?_
        refine RS_e (RE_eff rfl rfl rfl (eff_call rfl (FirstG_ctr closes_ls C 0 d 0 [] ⟨0, 0, u⟩ _ (by repeat' first | exact Rc.blk rfl | assumption | apply Rd.skip | apply Rd.app) (by omega) (Nat.le_refl _) (fun j a hj => by simp at hj))) ?_); rintro _ _ ⟨rfl, rfl⟩; refine ⟨_, fun _ s => s, (by first | ((repeat first | exact fun _ s => s | apply en_keep | apply en_drop | apply en_app) <;> fail) | ((repeat first | exact en_refl | (apply en_blk; focus ((repeat' first | exact Pick.here | apply Pick.skip | apply Pick.app); done); focus rfl) | (apply en_own; focus ((repeat' first | exact Pick.here | apply Pick.skip | apply Pick.app); done); focus rfl) | (apply en_pick; focus ((repeat' first | exact Pick.here | apply Pick.skip | apply Pick.app); done)) | apply en_drop | apply en_app) <;> fail)), ?_⟩
        refine RS_q retB_noPanic rfl rfl rfl rfl (ev_slice (l := 0) (h := 0) rfl (.inr ⟨_, _, rfl, rfl⟩) (.inl ⟨rfl, rfl⟩) (Nat.le_refl _) (Nat.zero_le _)) ?_
        refine RS_m retB_noPanic rfl rfl rfl rfl (ev_assign rfl) ?_
        refine RS_nil ?_
        (repeat first | refine G_seq ?_ | refine G_skip ?_ | refine G_endblk ?_ | refine G_block ?_ | refine G_exit rfl ?_)
        refine G_ret rfl (.tmp rfl .nil) (by (repeat first | exact fun _ s => s | apply en_keep | apply en_drop | apply en_app) <;> fail) ⟨⟨_, _, _, rfl, Rd.nil _ _⟩, rfl⟩
    · have e : IT.own u v mid p q = p := by unfold IT.own; rw [if_neg c1, if_neg c2]
      rw [e]
      (repeat first | refine G_seq ?_ | refine G_skip ?_ | refine G_endblk ?_ | refine G_block ?_ | refine G_exit rfl ?_)
      refine G_region ?_
      refine GO_q rfl rfl (ev_move rfl) ?_
      (first | refine GO_q rfl rfl (ev_nilCheck rfl) ?_ | refine GO_q rfl rfl (ev_nilCheckF (by simp) rfl) ?_)
      refine GO_q rfl rfl (ev_fieldAddr rfl) ?_
      refine GO_q rfl rfl (ev_load rfl (by repeat' first | exact Ld.blk rfl | assumption | apply Ld.skip | apply Ld.app)) ?_
      refine GO_q rfl rfl (ev_assign rfl) ?_
      refine GO_nil ?_
      (repeat first | refine G_seq ?_ | refine G_skip ?_ | refine G_endblk ?_ | refine G_block ?_ | refine G_exit rfl ?_)
      refine G_ret rfl (.tmp rfl .nil) (by (repeat first | exact fun _ s => s | apply en_keep | apply en_drop | apply en_app) <;> fail) ⟨⟨_, _, _, rfl, q7⟩, rfl⟩
end Go.Proofs.YtjnmpogolknkpaaGreat
/- A tree of middles: all intervals from a node on down; look. -/
namespace Go.Proofs.YtjnmpogolknkpaaGreat
attribute [local irreducible] sat
set_option linter.unusedVariables false
set_option linter.unusedSimpArgs false
set_option maxRecDepth 100000

/-- Slices, of which each reads as a list. -/
def catL (xs : List (Option Addr × Nat × List Pt)) : List Pt := xs.flatMap fun x => x.2.2
theorem catL_len_take (xs : List (Option Addr × Nat × List Pt)) (k : Nat) : (catL (xs.take k)).length ≤ (catL xs).length := by
  conv => rhs; rw [← List.take_append_drop k xs]
  unfold catL
  rw [List.flatMap_append, List.length_append]; omega
theorem catL_succ {xs : List (Option Addr × Nat × List Pt)} {k : Nat} {x : Option Addr × Nat × List Pt} (h : xs[k]? = some x) : catL (xs.take (k + 1)) = catL (xs.take k) ++ x.2.2 := by
  unfold catL
  rw [List.take_add_one, h, List.flatMap_append]
  simp
/-- slices.Concat -/
theorem ConcatN_ctr (b1 m : Nat) (xs : List (Option Addr × Nat × List Pt)) (L : List HP) (hm : xs.length = m) (hb : m ≤ 1000) (hl : ∀ k x, xs[k]? = some x → Ld L ⟨b1, 0 + k * 1, none⟩ (.slice x.1 x.2.2.length x.2.1) ∧ Rd L x.1 x.2.2.length x.2.2) (hn : (catL xs).length ≤ 500000) :
    Ctr Tryz.prog 112 #[.slice (some ⟨b1, 0, none⟩) m m] L fun v L' => Made 24 (catL xs) L v L' := by
  refine Ctr_of (fn := Tryz.f112) (n := 36) Tryz.func112 rfl rfl rfl ?_
  intro g F
  (repeat first | refine G_seq ?_ | refine G_skip ?_ | refine G_endblk ?_ | refine G_block ?_ | refine G_exit rfl ?_)
  refine G_region ?_
  refine GO_q rfl rfl (ev_assign rfl) ?_
  refine GO_nil ?_
  (repeat first | refine G_seq ?_ | refine G_skip ?_ | refine G_endblk ?_ | refine G_block ?_ | refine G_exit rfl ?_)
  refine G_region ?_
  refine GO_q rfl rfl (ev_assign rfl) ?_
  refine GO_nil ?_
  (repeat first | refine G_seq ?_ | refine G_skip ?_ | refine G_endblk ?_ | refine G_block ?_ | refine G_exit rfl ?_)
  refine G_region ?_
  refine GO_q rfl rfl (ev_move rfl) ?_
  refine GO_q rfl rfl (ev_len rfl) ?_
  refine GO_q rfl rfl (ev_move rfl) ?_
  refine GO_nil ?_
  (repeat first | refine G_seq ?_ | refine G_skip ?_ | refine G_endblk ?_)
  refine G_cut (ι := Unit) (fun _ => [(0, .slice (some ⟨b1, 0, none⟩) m m), (3, .int .i64 ((catL xs).length : Nat))]) (fun _ => F :: L) (fun _ => True) ?_ ?_
  · (repeat first | refine G_seq ?_ | refine G_skip ?_ | refine G_endblk ?_ | refine G_block ?_ | refine G_exit rfl ?_)
    refine G_loop (ι := Nat) (fun k => [(0, .slice (some ⟨b1, 0, none⟩) m m), (3, .int .i64 ((catL (xs.take k)).length : Nat)), (9, .slice (some ⟨b1, 0, none⟩) m m), (10, .int .i64 (m : Nat)), (11, .int .i64 (k : Nat))]) (fun _ => F :: L) (fun k => k ≤ m) (fun k => m - k) 0 (Nat.zero_le _) ⟨rfl, rfl, rfl, rfl, rfl, trivial⟩ (by (repeat first | exact fun _ s => s | apply en_keep | apply en_drop | apply en_app) <;> fail) ?_
    intro k hk
    have hkl := catL_len_take xs k
    (repeat first | refine G_seq ?_ | refine G_skip ?_ | refine G_endblk ?_ | refine G_block ?_ | refine G_exit rfl ?_)
    refine G_region ?_
    (first | refine GO_q rfl rfl (ev_lssN rfl rfl) ?_ | refine GO_q rfl rfl (ev_lss rfl rfl) ?_)
    refine GO_nil ?_
    (repeat first | refine G_seq ?_ | refine G_skip ?_ | refine G_endblk ?_ | refine G_block ?_ | refine G_exit rfl ?_)
    refine G_cond rfl (fun c1 => ?_) (fun c1 => ?_)
    · have g1 : xs[k]? = some xs[k] := List.getElem?_eq_getElem (by omega)
      obtain ⟨z1, z2⟩ := hl k _ g1
      have hs := catL_succ g1
      have hkl2 := catL_len_take xs (k + 1)
      rw [hs, List.length_append] at hkl2
      generalize xs[k] = x at *
      (repeat first | refine G_seq ?_ | refine G_skip ?_ | refine G_endblk ?_ | refine G_block ?_ | refine G_exit rfl ?_)
      refine G_region ?_
      (first | refine GO_q rfl rfl (ev_indexAddrN rfl rfl (by first | omega | (simp; done) | (simp; omega))) ?_ | refine GO_q rfl rfl (ev_indexAddr rfl rfl (by first | omega | (simp; done) | (simp; omega)) (by first | omega | (simp; done) | (simp; omega))) ?_)
      refine GO_q rfl rfl (ev_load rfl (by repeat' first | exact Ld.blk rfl | assumption | apply Ld.skip | apply Ld.app)) ?_
      refine GO_q rfl rfl (ev_assign rfl) ?_
      refine GO_nil ?_
      (repeat first | refine G_seq ?_ | refine G_skip ?_ | refine G_endblk ?_ | refine G_block ?_ | refine G_exit rfl ?_)
      refine G_region ?_
      refine GO_q rfl rfl (ev_move rfl) ?_
      refine GO_q rfl rfl (ev_move rfl) ?_
      refine GO_q rfl rfl (ev_len rfl) ?_
      (first | refine GO_q rfl rfl (ev_addN rfl rfl (by first | omega | (simp; done) | (simp; omega))) ?_ | refine GO_q rfl rfl (ev_add rfl rfl (by first | omega | (simp; done) | (simp; omega))) ?_)
      refine GO_q rfl rfl (ev_assign rfl) ?_
      refine GO_nil ?_
      (repeat first | refine G_seq ?_ | refine G_skip ?_ | refine G_endblk ?_ | refine G_block ?_ | refine G_exit rfl ?_)
      refine G_region ?_
      refine GO_q rfl rfl (ev_move rfl) ?_
      (first | refine GO_q rfl rfl (ev_lssN (q := 0) rfl rfl) ?_ | refine GO_q rfl rfl (ev_lss rfl rfl) ?_)
      refine GO_nil ?_
      (repeat first | refine G_seq ?_ | refine G_skip ?_ | refine G_endblk ?_ | refine G_block ?_ | refine G_exit rfl ?_)
      refine G_cond_f rfl (decide_eq_false (by omega)) ?_
      (repeat first | refine G_seq ?_ | refine G_skip ?_ | refine G_endblk ?_ | refine G_block ?_ | refine G_exit rfl ?_)
      refine G_region ?_
      (first | refine GO_q rfl rfl (ev_addN (q := 1) rfl rfl (by first | omega | (simp; done) | (simp; omega))) ?_ | refine GO_q rfl rfl (ev_add rfl rfl (by first | omega | (simp; done) | (simp; omega))) ?_)
      refine GO_q rfl rfl (ev_move rfl) ?_
      refine GO_nil ?_
      (repeat first | refine G_seq ?_ | refine G_skip ?_ | refine G_endblk ?_ | refine G_block ?_ | refine G_exit rfl ?_)
      exact G_round (k + 1) (by omega) (by omega) ⟨rfl, by rw [hs, List.length_append]; rfl, rfl, rfl, rfl, trivial⟩ (by (repeat first | exact fun _ s => s | apply en_keep | apply en_drop | apply en_app) <;> fail)
    · have e : xs.take k = xs := List.take_of_length_le (by omega)
      rw [e]
      (repeat first | refine G_seq ?_ | refine G_skip ?_ | refine G_endblk ?_ | refine G_block ?_ | refine G_exit rfl ?_)
      exact G_inv () trivial ⟨rfl, rfl, trivial⟩ (by (repeat first | exact fun _ s => s | apply en_keep | apply en_drop | apply en_app) <;> fail)
  · rintro _ _
    (repeat first | refine G_seq ?_ | refine G_skip ?_ | refine G_endblk ?_ | refine G_block ?_ | refine G_exit rfl ?_)
    refine G_region ?_
    refine GO_q rfl rfl (ev_move rfl) ?_
    refine GO_eff rfl rfl (eff_call rfl (Grow_ctr (catL xs).length _ (by omega))) ?_; rintro _ _ ⟨A24, c24, rfl, rfl⟩
    refine GO_q rfl rfl (ev_assign rfl) ?_
    refine GO_nil ?_
    (repeat first | refine G_seq ?_ | refine G_skip ?_ | refine G_endblk ?_ | refine G_block ?_ | refine G_exit rfl ?_)
    refine G_region ?_
    refine GO_q rfl rfl (ev_move rfl) ?_
    refine GO_q rfl rfl (ev_len rfl) ?_
    refine GO_q rfl rfl (ev_move rfl) ?_
    refine GO_nil ?_
    (repeat first | refine G_seq ?_ | refine G_skip ?_ | refine G_endblk ?_ | refine G_block ?_ | refine G_exit rfl ?_)
    refine G_loop (ι := Nat × Option Addr × Nat) (fun z => [(6, .slice z.2.1 (catL (xs.take z.1)).length z.2.2), (25, .slice (some ⟨b1, 0, none⟩) m m), (26, .int .i64 (m : Nat)), (27, .int .i64 (z.1 : Nat))]) (fun z => own 24 3 z.2.1 (catL (xs.take z.1)).length z.2.2 (flat (catL (xs.take z.1))) :: F :: L) (fun z => z.1 ≤ m ∧ (0 < (catL (xs.take z.1)).length → ∃ b, z.2.1 = some ⟨b, 0, none⟩)) (fun z => m - z.1) (0, A24, c24) ⟨Nat.zero_le _, fun h => absurd h (Nat.lt_irrefl 0)⟩ ⟨rfl, rfl, rfl, rfl, trivial⟩ (by (repeat first | exact fun _ s => s | apply en_keep | apply en_drop | apply en_app) <;> fail) ?_
    rintro ⟨k, A2, c2⟩ ⟨f1, f2⟩
    simp only at f1 f2
    dsimp only
    have hkl := catL_len_take xs k
    (repeat first | refine G_seq ?_ | refine G_skip ?_ | refine G_endblk ?_ | refine G_block ?_ | refine G_exit rfl ?_)
    refine G_region ?_
    (first | refine GO_q rfl rfl (ev_lssN rfl rfl) ?_ | refine GO_q rfl rfl (ev_lss rfl rfl) ?_)
    refine GO_nil ?_
    (repeat first | refine G_seq ?_ | refine G_skip ?_ | refine G_endblk ?_ | refine G_block ?_ | refine G_exit rfl ?_)
    refine G_cond rfl (fun c1 => ?_) (fun c1 => ?_)
    · have g1 : xs[k]? = some xs[k] := List.getElem?_eq_getElem (by omega)
      obtain ⟨z1, z2⟩ := hl k _ g1
      have hs := catL_succ g1
      have hkl2 := catL_len_take xs (k + 1)
      rw [hs, List.length_append] at hkl2
      generalize xs[k] = x at *
      (repeat first | refine G_seq ?_ | refine G_skip ?_ | refine G_endblk ?_ | refine G_block ?_ | refine G_exit rfl ?_)
      refine G_region ?_
      (first | refine GO_q rfl rfl (ev_indexAddrN rfl rfl (by first | omega | (simp; done) | (simp; omega))) ?_ | refine GO_q rfl rfl (ev_indexAddr rfl rfl (by first | omega | (simp; done) | (simp; omega)) (by first | omega | (simp; done) | (simp; omega))) ?_)
      refine GO_q rfl rfl (ev_load rfl (by repeat' first | exact Ld.blk rfl | assumption | apply Ld.skip | apply Ld.app)) ?_
      refine GO_q rfl rfl (ev_assign rfl) ?_
      refine GO_nil ?_
      (repeat first | refine G_seq ?_ | refine G_skip ?_ | refine G_endblk ?_ | refine G_block ?_ | refine G_exit rfl ?_)
      refine G_region ?_
      refine GO_q rfl rfl (ev_move rfl) ?_
      refine GO_q rfl rfl (ev_move rfl) ?_
      refine GO_eff rfl rfl (eff_append rfl rfl (by repeat' first | exact Pick.here | apply Pick.skip) (Rc.skip (Rc.skip z2)) ((flat_one _)) (by rfl) (by decide) (by first | omega | (simp; done) | (simp; omega)) (by first | omega | (simp; done) | (simp; omega))) ?_; rintro _ _ ⟨A33, c33, rfl, hc33, hm33, hn33, rfl⟩
      refine GO_q rfl rfl (ev_assign rfl) ?_
      refine GO_nil ?_
      (repeat first | refine G_seq ?_ | refine G_skip ?_ | refine G_endblk ?_ | refine G_block ?_ | refine G_exit rfl ?_)
      refine G_region ?_
      (first | refine GO_q rfl rfl (ev_addN (q := 1) rfl rfl (by first | omega | (simp; done) | (simp; omega))) ?_ | refine GO_q rfl rfl (ev_add rfl rfl (by first | omega | (simp; done) | (simp; omega))) ?_)
      refine GO_q rfl rfl (ev_move rfl) ?_
      refine GO_nil ?_
      (repeat first | refine G_seq ?_ | refine G_skip ?_ | refine G_endblk ?_ | refine G_block ?_ | refine G_exit rfl ?_)
      refine G_round (k + 1, A33, c33) ⟨by simp only; omega, by simp only; rw [hs, List.length_append]; exact hn33⟩ (by simp only; omega) ⟨by simp only; rw [hs, List.length_append]; rfl, rfl, rfl, rfl, trivial⟩ ?_
      simp only
      rw [hs, List.length_append, flat_append]
      exact (by (repeat first | exact en_refl | (apply en_blk; focus ((repeat' first | exact Pick.here | apply Pick.skip | apply Pick.app); done); focus rfl) | (apply en_own; focus ((repeat' first | exact Pick.here | apply Pick.skip | apply Pick.app); done); focus rfl) | (apply en_pick; focus ((repeat' first | exact Pick.here | apply Pick.skip | apply Pick.app); done)) | apply en_drop | apply en_app) <;> fail)
    · have e : xs.take k = xs := List.take_of_length_le (by omega)
      rw [e] at f2 ⊢
      (repeat first | refine G_seq ?_ | refine G_skip ?_ | refine G_endblk ?_ | refine G_block ?_ | refine G_exit rfl ?_)
      refine G_region ?_
      refine GO_q rfl rfl (ev_move rfl) ?_
      refine GO_q rfl rfl (ev_assign rfl) ?_
      refine GO_nil ?_
      (repeat first | refine G_seq ?_ | refine G_skip ?_ | refine G_endblk ?_ | refine G_block ?_ | refine G_exit rfl ?_)
      exact G_ret (L' := own 24 3 A2 (catL xs).length c2 (flat (catL xs)) :: L) rfl (.tmp rfl .nil) (by (repeat first | exact en_refl | (apply en_blk; focus ((repeat' first | exact Pick.here | apply Pick.skip | apply Pick.app); done); focus rfl) | (apply en_own; focus ((repeat' first | exact Pick.here | apply Pick.skip | apply Pick.app); done); focus rfl) | (apply en_pick; focus ((repeat' first | exact Pick.here | apply Pick.skip | apply Pick.app); done)) | apply en_drop | apply en_app) <;> fail) ⟨A2, c2, rfl, f2, rfl⟩
theorem spans_ctr : ∀ (T : IT) (L : List HP), IIn L T → T.spans.length ≤ 100000 → Ctr Tryz.prog 83 #[.pointer T.addr] L fun v L' => Made 24 T.spans L v L'
  | .nil, L, h, hs => by
    refine Ctr_of (fn := Tryz.f83) (n := 23) Tryz.func83 rfl rfl rfl ?_
    intro g F
    (repeat first | refine G_seq ?_ | refine G_skip ?_ | refine G_endblk ?_ | refine G_block ?_ | refine G_exit rfl ?_)
    refine G_region ?_
    refine GO_q rfl rfl (ev_assign rfl) ?_
    refine GO_nil ?_
    (repeat first | refine G_seq ?_ | refine G_skip ?_ | refine G_endblk ?_ | refine G_block ?_ | refine G_exit rfl ?_)
    refine G_region ?_
    refine GO_q rfl rfl (ev_move rfl) ?_
    (first | refine GO_q rfl rfl (ev_eqlNil rfl rfl) ?_ | refine GO_q rfl rfl (ev_eqlPtr rfl rfl) ?_)
    refine GO_nil ?_
    (repeat first | refine G_seq ?_ | refine G_skip ?_ | refine G_endblk ?_ | refine G_block ?_ | refine G_exit rfl ?_)
    refine G_cond_t rfl rfl ?_
    (repeat first | refine G_seq ?_ | refine G_skip ?_ | refine G_endblk ?_ | refine G_block ?_ | refine G_exit rfl ?_)
    refine G_region ?_
    refine GO_q rfl rfl (ev_assign rfl) ?_
    refine GO_nil ?_
    (repeat first | refine G_seq ?_ | refine G_skip ?_ | refine G_endblk ?_ | refine G_block ?_ | refine G_exit rfl ?_)
    refine G_ret (L' := own 24 3 none 0 0 [] :: L) rfl (.tmp rfl .nil) ?_ ⟨none, 0, rfl, fun h => absurd h (Nat.lt_irrefl 0), rfl⟩
    exact fun h s => (own.nil_ 24 3 h s).swap
  | .node b mid A c p C d q m lo hi, L, h, hs => by
    simp only [IT.spans, List.length_append] at hs
    have ih1 := fun L h => spans_ctr lo L h (by omega)
    have ih2 := fun L h => spans_ctr hi L h (by omega)
    obtain ⟨q1, q2, q3, q4, q5, q6, q7, q8, q9, q10, q11, q12⟩ := h.f
    have e9 : ∀ A1 c1 A2 c2, catL [(A, c, p), (A1, c1, lo.spans), (A2, c2, hi.spans)] = (IT.node b mid A c p C d q m lo hi).spans := fun _ _ _ _ => by simp [catL, IT.spans]
    refine Ctr_of (fn := Tryz.f83) (n := 23) Tryz.func83 rfl rfl rfl ?_
    intro g F
    (repeat first | refine G_seq ?_ | refine G_skip ?_ | refine G_endblk ?_ | refine G_block ?_ | refine G_exit rfl ?_)
    refine G_region ?_
    refine GO_q rfl rfl (ev_assign rfl) ?_
    refine GO_nil ?_
    (repeat first | refine G_seq ?_ | refine G_skip ?_ | refine G_endblk ?_ | refine G_block ?_ | refine G_exit rfl ?_)
    refine G_region ?_
    refine GO_q rfl rfl (ev_move rfl) ?_
    (first | refine GO_q rfl rfl (ev_eqlNil rfl rfl) ?_ | refine GO_q rfl rfl (ev_eqlPtr rfl rfl) ?_)
    refine GO_nil ?_
    (repeat first | refine G_seq ?_ | refine G_skip ?_ | refine G_endblk ?_ | refine G_block ?_ | refine G_exit rfl ?_)
    refine G_cond_f rfl rfl ?_
    (repeat first | refine G_seq ?_ | refine G_skip ?_ | refine G_endblk ?_ | refine G_block ?_ | refine G_exit rfl ?_)
    refine G_draw (.q 0 (.q 1 (.q 2 (.q 3 (.q 4 (.q 5 (.q 6 (.q 7 (.q 8 (.q 10 (.q 11 (.q 12 (.q 13 (.q 14 (.e 9 (.e 15 (.e 16 (.e 17 (.q 18 .nil))))))))))))))))))) (by kernel_rfl) (by kernel_rfl) ?_
    refine RS_m retB_noPanic rfl rfl rfl rfl (ev_move rfl) ?_
    (first | refine RS_m retB_noPanic rfl rfl rfl rfl (ev_nilCheck rfl) ?_ | refine RS_m retB_noPanic rfl rfl rfl rfl (ev_nilCheckF (by simp) rfl) ?_)
    refine RS_m retB_noPanic rfl rfl rfl rfl (ev_fieldAddr rfl) ?_
    refine RS_q retB_noPanic rfl rfl rfl rfl (ev_load rfl (by repeat' first | exact Ld.blk rfl | assumption | apply Ld.skip | apply Ld.app)) ?_
    refine RS_m retB_noPanic rfl rfl rfl rfl (ev_move rfl) ?_
    (first | refine RS_m retB_noPanic rfl rfl rfl rfl (ev_nilCheck rfl) ?_ | refine RS_m retB_noPanic rfl rfl rfl rfl (ev_nilCheckF (by simp) rfl) ?_)
    refine RS_m retB_noPanic rfl rfl rfl rfl (ev_fieldAddr rfl) ?_
    refine RS_m retB_noPanic rfl rfl rfl rfl (ev_indexAddrA rfl rfl (by first | omega | (simp; done) | (simp; omega)) (by first | omega | (simp; done) | (simp; omega))) ?_
    refine RS_q retB_noPanic rfl rfl rfl rfl (ev_load rfl (by repeat' first | exact Ld.blk rfl | assumption | apply Ld.skip | apply Ld.app)) ?_
    refine RS_m retB_noPanic rfl rfl rfl rfl (ev_move rfl) ?_
    (first | refine RS_m retB_noPanic rfl rfl rfl rfl (ev_nilCheck rfl) ?_ | refine RS_m retB_noPanic rfl rfl rfl rfl (ev_nilCheckF (by simp) rfl) ?_)
    refine RS_m retB_noPanic rfl rfl rfl rfl (ev_fieldAddr rfl) ?_
    refine RS_m retB_noPanic rfl rfl rfl rfl (ev_indexAddrA rfl rfl (by first | omega | (simp; done) | (simp; omega)) (by first | omega | (simp; done) | (simp; omega))) ?_
    refine RS_q retB_noPanic rfl rfl rfl rfl (ev_load rfl (by repeat' first | exact Ld.blk rfl | assumption | apply Ld.skip | apply Ld.app)) ?_
    refine RS_e (RE_eff rfl rfl rfl (eff_call rfl (ih1 _ q11.skip)) ?_); rintro _ _ ⟨A1, c1, rfl, h1, rfl⟩; refine ⟨_, fun _ s => s, (by first | ((repeat first | exact fun _ s => s | apply en_keep | apply en_drop | apply en_app) <;> fail) | ((repeat first | exact en_refl | (apply en_blk; focus ((repeat' first | exact Pick.here | apply Pick.skip | apply Pick.app); done); focus rfl) | (apply en_own; focus ((repeat' first | exact Pick.here | apply Pick.skip | apply Pick.app); done); focus rfl) | (apply en_pick; focus ((repeat' first | exact Pick.here | apply Pick.skip | apply Pick.app); done)) | apply en_drop | apply en_app) <;> fail)), ?_⟩
    refine RS_e (RE_eff rfl rfl rfl (eff_call rfl (ih2 _ q12.skip.skip)) ?_); rintro _ _ ⟨A2, c2, rfl, h2, rfl⟩; refine ⟨_, fun _ s => s, (by first | ((repeat first | exact fun _ s => s | apply en_keep | apply en_drop | apply en_app) <;> fail) | ((repeat first | exact en_refl | (apply en_blk; focus ((repeat' first | exact Pick.here | apply Pick.skip | apply Pick.app); done); focus rfl) | (apply en_own; focus ((repeat' first | exact Pick.here | apply Pick.skip | apply Pick.app); done); focus rfl) | (apply en_pick; focus ((repeat' first | exact Pick.here | apply Pick.skip | apply Pick.app); done)) | apply en_drop | apply en_app) <;> fail)), ?_⟩
    refine RS_e (RE_eff rfl rfl rfl (eff_buildSliceN (by rfl) rfl rfl) ?_); rintro _ _ ⟨b21, rfl, rfl⟩; refine ⟨_, fun _ s => s, (by first | ((repeat first | exact fun _ s => s | apply en_keep | apply en_drop | apply en_app) <;> fail) | ((repeat first | exact en_refl | (apply en_blk; focus ((repeat' first | exact Pick.here | apply Pick.skip | apply Pick.app); done); focus rfl) | (apply en_own; focus ((repeat' first | exact Pick.here | apply Pick.skip | apply Pick.app); done); focus rfl) | (apply en_pick; focus ((repeat' first | exact Pick.here | apply Pick.skip | apply Pick.app); done)) | apply en_drop | apply en_app) <;> fail)), ?_⟩
    refine RS_e (RE_eff rfl rfl rfl (eff_call rfl (ConcatN_ctr b21 3 [(A, c, p), (A1, c1, lo.spans), (A2, c2, hi.spans)] _ rfl (by omega) (fun k x hx => by match k, hx with | 0, hx => { cases hx; exact ⟨Ld.blk rfl, (by repeat' first | exact Rc.blk rfl | assumption | apply Rd.skip | apply Rd.app)⟩ } | 1, hx => { cases hx; exact ⟨Ld.blk rfl, Rd.skip (Rd.skip (Rc.own (flat_length _) h1))⟩ } | 2, hx => { cases hx; exact ⟨Ld.blk rfl, Rd.skip (Rc.own (flat_length _) h2)⟩ } | k + 3, hx => { simp at hx }) (by rw [e9]; simp only [IT.spans, List.length_append]; omega))) ?_); rintro _ _ ⟨A3, c3, rfl, h3, rfl⟩; refine ⟨_, fun _ s => s, (by first | ((repeat first | exact fun _ s => s | apply en_keep | apply en_drop | apply en_app) <;> fail) | ((repeat first | exact en_refl | (apply en_blk; focus ((repeat' first | exact Pick.here | apply Pick.skip | apply Pick.app); done); focus rfl) | (apply en_own; focus ((repeat' first | exact Pick.here | apply Pick.skip | apply Pick.app); done); focus rfl) | (apply en_pick; focus ((repeat' first | exact Pick.here | apply Pick.skip | apply Pick.app); done)) | apply en_drop | apply en_app) <;> fail)), ?_⟩
    refine RS_m retB_noPanic rfl rfl rfl rfl (ev_assign rfl) ?_
    refine RS_nil ?_
    rw [e9] at h3 ⊢
    (repeat first | refine G_seq ?_ | refine G_skip ?_ | refine G_endblk ?_ | refine G_block ?_ | refine G_exit rfl ?_)
    exact G_ret (L' := own 24 3 A3 (IT.node b mid A c p C d q m lo hi).spans.length c3 (flat (IT.node b mid A c p C d q m lo hi).spans) :: L) rfl (.tmp rfl .nil) (by (repeat first | exact en_refl | (apply en_blk; focus ((repeat' first | exact Pick.here | apply Pick.skip | apply Pick.app); done); focus rfl) | (apply en_own; focus ((repeat' first | exact Pick.here | apply Pick.skip | apply Pick.app); done); focus rfl) | (apply en_pick; focus ((repeat' first | exact Pick.here | apply Pick.skip | apply Pick.app); done)) | apply en_drop | apply en_app) <;> fail) ⟨A3, c3, rfl, h3, rfl⟩
end Go.Proofs.YtjnmpogolknkpaaGreat
/- A tree of middles: look. -/
namespace Go.Proofs.YtjnmpogolknkpaaGreat
attribute [local irreducible] sat
set_option linter.unusedVariables false
set_option linter.unusedSimpArgs false
set_option maxRecDepth 100000

def idI (l : List Pt) : List Int := l.map (·.id)
theorem idI_length (l : List Pt) : (idI l).length = l.length := List.length_map _
theorem idI_snoc {l : List Pt} {k : Nat} {a : Pt} (h : l[k]? = some a) : idI (l.take (k + 1)) = idI (l.take k) ++ [a.id] := by
  unfold idI; rw [List.take_add_one, h, List.map_append]; rfl
def addrsI (l : List IT) : List (Option Addr) := l.map IT.addr
/-- What a look at a node finds, and where it leads to. -/
def IT.ids (u v : Int) : IT → List Int
  | .nil => []
  | .node _ mid _ _ p _ _ q _ lo hi => srt (idI (IT.own u v mid p q))
def IT.nx1 (u v : Int) : IT → List IT
  | .nil => []
  | .node _ mid _ _ p _ _ q _ lo hi => if u < mid ∧ lo.addr.isSome = true then [lo] else []
def IT.nx2 (u v : Int) : IT → List IT
  | .nil => []
  | .node _ mid _ _ p _ _ q _ lo hi => if mid < v ∧ hi.addr.isSome = true then [hi] else []
def IT.nxt (u v : Int) (T : IT) : List IT := T.nx1 u v ++ T.nx2 u v
structure LkF (A : Option Addr) (n c : Nat) : Prop where
  a : 0 < n → ∃ b, A = some ⟨b, 0, none⟩
/-- Nothing is looked at. -/
theorem look0_ctr (T : IT) (u v : Int) (L : List HP) (h : T.addr = none ∨ v < u) : Ctr Tryz.prog 57 #[.pointer T.addr, .int .i64 u, .int .i64 v] L fun r L' => r = .tuple #[.slice none 0 0, .slice none 0 0] ∧ L' = L := by
  cases hn : T.addr with
  | none =>
    refine Ctr_of (fn := Tryz.f57) (n := 80) Tryz.func57 rfl rfl rfl ?_
    intro g F
    (repeat first | refine G_seq ?_ | refine G_skip ?_ | refine G_endblk ?_ | refine G_block ?_ | refine G_exit rfl ?_)
    refine G_region ?_
    refine GO_q rfl rfl (ev_assign rfl) ?_
    refine GO_q rfl rfl (ev_assign rfl) ?_
    refine GO_nil ?_
    (repeat first | refine G_seq ?_ | refine G_skip ?_ | refine G_endblk ?_ | refine G_block ?_ | refine G_exit rfl ?_)
    refine G_region ?_
    refine GO_q rfl rfl (ev_move rfl) ?_
    (first | refine GO_q rfl rfl (ev_eqlNil rfl rfl) ?_ | refine GO_q rfl rfl (ev_eqlPtr rfl rfl) ?_)
    refine GO_q rfl rfl (ev_move rfl) ?_
    refine GO_no rfl rfl rfl rfl ?_
    refine GO_no rfl rfl rfl rfl ?_
    refine GO_no rfl rfl rfl rfl ?_
    refine GO_q rfl rfl (ev_pick_t rfl rfl rfl) ?_
    refine GO_nil ?_
    (repeat first | refine G_seq ?_ | refine G_skip ?_ | refine G_endblk ?_ | refine G_block ?_ | refine G_exit rfl ?_)
    refine G_cond_t rfl rfl ?_
    (repeat first | refine G_seq ?_ | refine G_skip ?_ | refine G_endblk ?_ | refine G_block ?_ | refine G_exit rfl ?_)
    refine G_region ?_
    refine GO_q rfl rfl (ev_assign rfl) ?_
    refine GO_q rfl rfl (ev_assign rfl) ?_
    refine GO_nil ?_
    (repeat first | refine G_seq ?_ | refine G_skip ?_ | refine G_endblk ?_ | refine G_block ?_ | refine G_exit rfl ?_)
    refine G_ret rfl (.tmp rfl (.tmp rfl .nil)) (by (repeat first | exact fun _ s => s | apply en_keep | apply en_drop | apply en_app) <;> fail) ⟨rfl, rfl⟩
  | some a =>
    have hv : v < u := by
      rcases h with h | h
      · rw [hn] at h; cases h
      · exact h
    refine Ctr_of (fn := Tryz.f57) (n := 80) Tryz.func57 rfl rfl rfl ?_
    intro g F
    (repeat first | refine G_seq ?_ | refine G_skip ?_ | refine G_endblk ?_ | refine G_block ?_ | refine G_exit rfl ?_)
    refine G_region ?_
    refine GO_q rfl rfl (ev_assign rfl) ?_
    refine GO_q rfl rfl (ev_assign rfl) ?_
    refine GO_nil ?_
    (repeat first | refine G_seq ?_ | refine G_skip ?_ | refine G_endblk ?_ | refine G_block ?_ | refine G_exit rfl ?_)
    refine G_region ?_
    refine GO_q rfl rfl (ev_move rfl) ?_
    (first | refine GO_q rfl rfl (ev_eqlNil rfl rfl) ?_ | refine GO_q rfl rfl (ev_eqlPtr rfl rfl) ?_)
    refine GO_q rfl rfl (ev_move rfl) ?_
    refine GO_yes rfl rfl rfl rfl ?_
    refine GO_q rfl rfl (ev_move rfl) ?_
    refine GO_yes rfl rfl rfl rfl ?_
    refine GO_q rfl rfl (ev_move rfl) ?_
    refine GO_yes rfl rfl rfl rfl ?_
    refine GO_q rfl rfl (ev_gtr rfl rfl) ?_
    refine GO_q rfl rfl (ev_pick_f rfl rfl rfl) ?_
    refine GO_nil ?_
    (repeat first | refine G_seq ?_ | refine G_skip ?_ | refine G_endblk ?_ | refine G_block ?_ | refine G_exit rfl ?_)
    refine G_cond_t rfl (decide_eq_true hv) ?_
    (repeat first | refine G_seq ?_ | refine G_skip ?_ | refine G_endblk ?_ | refine G_block ?_ | refine G_exit rfl ?_)
    refine G_region ?_
    refine GO_q rfl rfl (ev_assign rfl) ?_
    refine GO_q rfl rfl (ev_assign rfl) ?_
    refine GO_nil ?_
    (repeat first | refine G_seq ?_ | refine G_skip ?_ | refine G_endblk ?_ | refine G_block ?_ | refine G_exit rfl ?_)
    refine G_ret rfl (.tmp rfl (.tmp rfl .nil)) (by (repeat first | exact fun _ s => s | apply en_keep | apply en_drop | apply en_app) <;> fail) ⟨rfl, rfl⟩
theorem look_ctr (b : Nat) (mid : Int) (A : Option Addr) (c : Nat) (p : List Pt) (C : Option Addr) (d : Nat) (q : List Pt) (m : Nat) (lo hi : IT) (u v : Int) (L : List HP) (h : IIn L (.node b mid A c p C d q m lo hi)) (hp : AscO Pt.less p) (hq : q = srtO Pt.ends p) (hn : p.length ≤ 100000) (huv : u ≤ v) :
    Ctr Tryz.prog 57 #[.pointer (some ⟨b, 0, none⟩), .int .i64 u, .int .i64 v] L fun r L' => ∃ A1 c1 A2 c2, r = .tuple #[.slice A1 (IT.ids u v (.node b mid A c p C d q m lo hi)).length c1, .slice A2 (IT.nxt u v (.node b mid A c p C d q m lo hi)).length c2] ∧
      ((0 < (IT.ids u v (.node b mid A c p C d q m lo hi)).length → ∃ b, A1 = some ⟨b, 0, none⟩) ∧ (0 < (IT.nxt u v (.node b mid A c p C d q m lo hi)).length → ∃ b, A2 = some ⟨b, 0, none⟩)) ∧
      L' = own 3 1 A1 (IT.ids u v (.node b mid A c p C d q m lo hi)).length c1 (flat (IT.ids u v (.node b mid A c p C d q m lo hi))) :: own 52 1 A2 (IT.nxt u v (.node b mid A c p C d q m lo hi)).length c2 (flat (addrsI (IT.nxt u v (.node b mid A c p C d q m lo hi)))) :: L := by
  have hown := fun L h => own_ctr b mid A c p C d q m lo hi u v L h hp hq (by omega)
  obtain ⟨q1, q2, q3, q4, q5, q6, q7, q8, q9, q10, q11, q12⟩ := h.f
  have hol : (IT.own u v mid p q).length ≤ 100000 := by
    have hql : q.length = p.length := by rw [hq, srtO_length]
    unfold IT.own
    split
    · exact Nat.le_trans (List.length_filter_le _ _) hn
    · split
      · exact Nat.le_trans (List.length_filter_le _ _) (by omega)
      · exact hn
  have e1 : IT.nx1 u v (.node b mid A c p C d q m lo hi) = if u < mid ∧ lo.addr.isSome = true then [lo] else [] := rfl
  have e2 : IT.nx2 u v (.node b mid A c p C d q m lo hi) = if mid < v ∧ hi.addr.isSome = true then [hi] else [] := rfl
  unfold IT.nxt
  generalize IT.nx1 u v (.node b mid A c p C d q m lo hi) = l1 at *
  generalize IT.nx2 u v (.node b mid A c p C d q m lo hi) = l2 at *
  have e3 : IT.ids u v (.node b mid A c p C d q m lo hi) = srt (idI (IT.own u v mid p q)) := rfl
  rw [e3]
  refine Ctr_of (fn := Tryz.f57) (n := 80) Tryz.func57 rfl rfl rfl ?_
  intro g F
  (repeat first | refine G_seq ?_ | refine G_skip ?_ | refine G_endblk ?_ | refine G_block ?_ | refine G_exit rfl ?_)
  refine G_region ?_
  refine GO_q rfl rfl (ev_assign rfl) ?_
  refine GO_q rfl rfl (ev_assign rfl) ?_
  refine GO_nil ?_
  (repeat first | refine G_seq ?_ | refine G_skip ?_ | refine G_endblk ?_ | refine G_block ?_ | refine G_exit rfl ?_)
  refine G_region ?_
  refine GO_q rfl rfl (ev_move rfl) ?_
  (first | refine GO_q rfl rfl (ev_eqlNil rfl rfl) ?_ | refine GO_q rfl rfl (ev_eqlPtr rfl rfl) ?_)
  refine GO_q rfl rfl (ev_move rfl) ?_
  refine GO_yes rfl rfl rfl rfl ?_
  refine GO_q rfl rfl (ev_move rfl) ?_
  refine GO_yes rfl rfl rfl rfl ?_
  refine GO_q rfl rfl (ev_move rfl) ?_
  refine GO_yes rfl rfl rfl rfl ?_
  refine GO_q rfl rfl (ev_gtr rfl rfl) ?_
  refine GO_q rfl rfl (ev_pick_f rfl rfl rfl) ?_
  refine GO_nil ?_
  (repeat first | refine G_seq ?_ | refine G_skip ?_ | refine G_endblk ?_ | refine G_block ?_ | refine G_exit rfl ?_)
  refine G_cond_f rfl (decide_eq_false (by omega)) ?_
  (repeat first | refine G_seq ?_ | refine G_skip ?_ | refine G_endblk ?_ | refine G_block ?_ | refine G_exit rfl ?_)
  refine G_region ?_
  refine GO_q rfl rfl (ev_move rfl) ?_
  refine GO_q rfl rfl (ev_move rfl) ?_
  refine GO_q rfl rfl (ev_move rfl) ?_
  refine GO_eff rfl rfl (eff_call rfl (hown _ h.skip)) ?_; rintro _ _ ⟨⟨A', n', c', rfl, hr⟩, rfl⟩
  refine GO_q rfl rfl (ev_len rfl) ?_
  refine GO_q rfl rfl (ev_move rfl) ?_
  refine GO_nil ?_
  have hlen : (IT.own u v mid p q).length = n' := hr.len (by decide)
  generalize IT.own u v mid p q = os at *
  (repeat first | refine G_seq ?_ | refine G_skip ?_ | refine G_endblk ?_)
  refine G_cut (ι := Option Addr × Nat) (fun x => [(0, .pointer (some ⟨b, 0, none⟩)), (1, .int .i64 u), (2, .int .i64 v), (6, .slice x.1 (idI os).length x.2), (7, .slice none 0 0)]) (fun x => own 3 1 x.1 (idI os).length x.2 (flat (idI os)) :: F :: L) (fun x => 0 < (idI os).length → ∃ b, x.1 = some ⟨b, 0, none⟩) ?_ ?_
  · (repeat first | refine G_seq ?_ | refine G_skip ?_ | refine G_endblk ?_ | refine G_block ?_ | refine G_exit rfl ?_)
    refine G_heap (own.nil_ 3 1) ?_
    refine G_loop (ι := Nat × Option Addr × Nat) (fun z => [(0, .pointer (some ⟨b, 0, none⟩)), (1, .int .i64 u), (2, .int .i64 v), (6, .slice z.2.1 (idI (os.take z.1)).length z.2.2), (7, .slice none 0 0), (20, .slice A' n' c'), (21, .int .i64 (n' : Nat)), (22, .int .i64 (z.1 : Nat))]) (fun z => own 3 1 z.2.1 (idI (os.take z.1)).length z.2.2 (flat (idI (os.take z.1))) :: F :: L) (fun z => z.1 ≤ n' ∧ (0 < (idI (os.take z.1)).length → ∃ b, z.2.1 = some ⟨b, 0, none⟩)) (fun z => n' - z.1) (0, none, 0) ⟨Nat.zero_le _, fun h => absurd h (Nat.lt_irrefl 0)⟩ ⟨rfl, rfl, rfl, rfl, rfl, rfl, rfl, rfl, trivial⟩ (by (repeat first | exact fun _ s => s | apply en_keep | apply en_drop | apply en_app) <;> fail) ?_
    rintro ⟨k, B, e⟩ ⟨f1, f2⟩
    simp only at f1 f2
    dsimp only
    have hkl : (idI (os.take k)).length ≤ 100000 := by rw [idI_length, List.length_take]; omega
    (repeat first | refine G_seq ?_ | refine G_skip ?_ | refine G_endblk ?_ | refine G_block ?_ | refine G_exit rfl ?_)
    refine G_region ?_
    (first | refine GO_q rfl rfl (ev_lssN rfl rfl) ?_ | refine GO_q rfl rfl (ev_lss rfl rfl) ?_)
    refine GO_nil ?_
    (repeat first | refine G_seq ?_ | refine G_skip ?_ | refine G_endblk ?_ | refine G_block ?_ | refine G_exit rfl ?_)
    refine G_cond rfl (fun c1 => ?_) (fun c1 => ?_)
    · obtain ⟨lb, lo', rfl, x1⟩ := hr.at_ (by omega)
      have g1 : os[k]? = some os[k] := List.getElem?_eq_getElem (by omega)
      have y1 := x1 _ _ g1
      have hs := idI_snoc g1
      generalize os[k] = a at *
      have z1 : LdN (F :: L) lb (lo' + k * 3) 3 [.int .i64 a.id, .int .i64 a.x, .int .i64 a.y] := y1
      (repeat first | refine G_seq ?_ | refine G_skip ?_ | refine G_endblk ?_ | refine G_block ?_ | refine G_exit rfl ?_)
      refine G_region ?_
      (first | refine GO_q rfl rfl (ev_indexAddrN rfl rfl (by first | omega | (simp; done) | (simp; omega))) ?_ | refine GO_q rfl rfl (ev_indexAddr rfl rfl (by first | omega | (simp; done) | (simp; omega)) (by first | omega | (simp; done) | (simp; omega))) ?_)
      refine GO_q rfl rfl (ev_loadN rfl (by repeat' first | exact LdN.blk rfl | assumption | apply LdN.skip | apply LdN.app)) ?_
      refine GO_eff rfl rfl eff_alloc ?_; rintro _ _ ⟨b9, rfl, rfl⟩
      refine GO_eff rfl rfl (eff_storeN rfl rfl rfl rfl (by repeat' first | exact Upd.here rfl | apply Upd.skip | apply Upd.app)) ?_; rintro _ _ ⟨rfl, rfl⟩
      refine GO_nil ?_
      (repeat first | refine G_seq ?_ | refine G_skip ?_ | refine G_endblk ?_ | refine G_block ?_ | refine G_exit rfl ?_)
      refine G_region ?_
      refine GO_q rfl rfl (ev_move rfl) ?_
      refine GO_q rfl rfl (ev_fieldAddr rfl) ?_
      refine GO_q rfl rfl (ev_load rfl (by repeat' first | exact Ld.blk rfl | assumption | apply Ld.skip | apply Ld.app)) ?_
      refine GO_eff rfl rfl (eff_buildSlice1 (by rfl) rfl rfl) ?_; rintro _ _ ⟨b29, rfl, rfl⟩
      refine GO_eff rfl rfl (eff_append rfl rfl (by repeat' first | exact Pick.here | apply Pick.skip) (by repeat' first | exact Rc.blk rfl | assumption | apply Rc.skip) (one_all rfl) (by rfl) (by decide) (by first | omega | (simp; done) | (simp; omega)) (by first | omega | (simp; done) | (simp; omega))) ?_; rintro _ _ ⟨A30, c30, rfl, hc30, hm30, hn30, rfl⟩
      refine GO_q rfl rfl (ev_assign rfl) ?_
      refine GO_nil ?_
      (repeat first | refine G_seq ?_ | refine G_skip ?_ | refine G_endblk ?_ | refine G_block ?_ | refine G_exit rfl ?_)
      refine G_region ?_
      (first | refine GO_q rfl rfl (ev_addN (q := 1) rfl rfl (by first | omega | (simp; done) | (simp; omega))) ?_ | refine GO_q rfl rfl (ev_add rfl rfl (by first | omega | (simp; done) | (simp; omega))) ?_)
      refine GO_q rfl rfl (ev_move rfl) ?_
      refine GO_nil ?_
      (repeat first | refine G_seq ?_ | refine G_skip ?_ | refine G_endblk ?_ | refine G_block ?_ | refine G_exit rfl ?_)
      refine G_round (k + 1, A30, c30) ⟨by simp only; omega, by simp only; rw [hs, List.length_append]; exact fun _ => hn30 (by omega)⟩ (by simp only; omega) ⟨rfl, rfl, rfl, by simp only; rw [hs, List.length_append]; rfl, rfl, rfl, rfl, rfl, trivial⟩ ?_
      simp only
      rw [hs, List.length_append, ← flat_snoc]
      exact (by (repeat first | exact en_refl | (apply en_blk; focus ((repeat' first | exact Pick.here | apply Pick.skip | apply Pick.app); done); focus rfl) | (apply en_own; focus ((repeat' first | exact Pick.here | apply Pick.skip | apply Pick.app); done); focus rfl) | (apply en_pick; focus ((repeat' first | exact Pick.here | apply Pick.skip | apply Pick.app); done)) | apply en_drop | apply en_app) <;> fail)
    · have e5 : os.take k = os := List.take_of_length_le (by omega)
      rw [e5] at f2 ⊢
      (repeat first | refine G_seq ?_ | refine G_skip ?_ | refine G_endblk ?_ | refine G_block ?_ | refine G_exit rfl ?_)
      exact G_inv (B, e) f2 ⟨rfl, rfl, rfl, rfl, rfl, trivial⟩ (by (repeat first | exact fun _ s => s | apply en_keep | apply en_drop | apply en_app) <;> fail)
  · rintro ⟨B, e⟩ hB
    simp only at hB
    dsimp only
    have hsl : (srt (idI os)).length = (idI os).length := srt_length _
    have hil : (idI os).length ≤ 100000 := by rw [idI_length]; exact hol
    (repeat first | refine G_seq ?_ | refine G_skip ?_ | refine G_endblk ?_ | refine G_block ?_ | refine G_exit rfl ?_)
    refine G_region ?_
    refine GO_q rfl rfl (ev_move rfl) ?_
    refine GO_eff rfl rfl (eff_call rfl (Ctr.pick (by repeat' first | exact Pick.here | apply Pick.skip | apply Pick.app) (sort_ctr B _ e (idI os) _ hB rfl (by omega)))) ?_; rintro _ _ ⟨rfl, rfl⟩
    refine GO_nil ?_
    rw [hsl]
    generalize flat (srt (idI os)) = fs at *
    generalize (idI os).length = ni at *
    refine G_heap (own.nil_ 52 1) ?_
    (repeat first | refine G_skip ?_ | refine G_endblk ?_)
    refine G_seq ?_
    refine G_cut (ι := Option Addr × Nat) (fun x => [(0, .pointer (some ⟨b, 0, none⟩)), (1, .int .i64 u), (2, .int .i64 v), (6, .slice B ni e), (7, .slice x.1 l1.length x.2)]) (fun x => own 52 1 x.1 l1.length x.2 (flat (addrsI l1)) :: own 3 1 B ni e fs :: F :: L) (fun x => 0 < l1.length → ∃ b, x.1 = some ⟨b, 0, none⟩) ?_ ?_
    · by_cases c1 : u < mid
      · cases hn : lo.addr.isSome with
        | true =>
          have el : l1 = [lo] := by rw [e1]; simp [hn, c1]
          subst el
          (repeat first | refine G_seq ?_ | refine G_skip ?_ | refine G_endblk ?_ | refine G_block ?_ | refine G_exit rfl ?_)
          refine G_region ?_
          refine GO_q rfl rfl (ev_move rfl) ?_
          refine GO_q rfl rfl (ev_move rfl) ?_
          (first | refine GO_q rfl rfl (ev_nilCheck rfl) ?_ | refine GO_q rfl rfl (ev_nilCheckF (by simp) rfl) ?_)
          refine GO_q rfl rfl (ev_fieldAddr rfl) ?_
          refine GO_q rfl rfl (ev_load rfl (by repeat' first | exact Ld.blk rfl | assumption | apply Ld.skip | apply Ld.app)) ?_
          (first | refine GO_q rfl rfl (ev_lssN rfl rfl) ?_ | refine GO_q rfl rfl (ev_lss rfl rfl) ?_)
          refine GO_q rfl rfl (ev_move rfl) ?_
          refine GO_yes rfl rfl rfl (decide_eq_true c1) ?_
          refine GO_q rfl rfl (ev_move rfl) ?_
          refine GO_yes rfl rfl rfl (decide_eq_true c1) ?_
          (first | refine GO_q rfl rfl (ev_nilCheck rfl) ?_ | refine GO_q rfl rfl (ev_nilCheckF (by simp) rfl) ?_)
          refine GO_yes rfl rfl rfl (decide_eq_true c1) ?_
          refine GO_q rfl rfl (ev_fieldAddr rfl) ?_
          refine GO_yes rfl rfl rfl (decide_eq_true c1) ?_
          refine GO_q rfl rfl (ev_indexAddrA rfl rfl (by first | omega | (simp; done) | (simp; omega)) (by first | omega | (simp; done) | (simp; omega))) ?_
          refine GO_yes rfl rfl rfl (decide_eq_true c1) ?_
          refine GO_q rfl rfl (ev_load rfl (by repeat' first | exact Ld.blk rfl | assumption | apply Ld.skip | apply Ld.app)) ?_
          refine GO_yes rfl rfl rfl (decide_eq_true c1) ?_
          (first | refine GO_q rfl rfl (ev_neqNil rfl rfl) ?_ | refine GO_q rfl rfl (ev_neqPtr rfl rfl) ?_)
          refine GO_q rfl rfl (ev_pick_t rfl (decide_eq_true c1) rfl) ?_
          refine GO_nil ?_
          (repeat first | refine G_seq ?_ | refine G_skip ?_ | refine G_endblk ?_ | refine G_block ?_ | refine G_exit rfl ?_)
          refine G_cond_t rfl hn ?_
          (repeat first | refine G_seq ?_ | refine G_skip ?_ | refine G_endblk ?_ | refine G_block ?_ | refine G_exit rfl ?_)
          refine G_region ?_
          refine GO_q rfl rfl (ev_move rfl) ?_
          refine GO_q rfl rfl (ev_move rfl) ?_
          (first | refine GO_q rfl rfl (ev_nilCheck rfl) ?_ | refine GO_q rfl rfl (ev_nilCheckF (by simp) rfl) ?_)
          refine GO_q rfl rfl (ev_fieldAddr rfl) ?_
          refine GO_q rfl rfl (ev_indexAddrA rfl rfl (by first | omega | (simp; done) | (simp; omega)) (by first | omega | (simp; done) | (simp; omega))) ?_
          refine GO_q rfl rfl (ev_load rfl (by repeat' first | exact Ld.blk rfl | assumption | apply Ld.skip | apply Ld.app)) ?_
          refine GO_eff rfl rfl (eff_buildSlice1 (by rfl) rfl rfl) ?_; rintro _ _ ⟨b54, rfl, rfl⟩
          refine GO_eff rfl rfl (eff_append rfl rfl (by repeat' first | exact Pick.here | apply Pick.skip) (by repeat' first | exact Rc.blk rfl | assumption | apply Rc.skip) (one_all rfl) (by rfl) (by decide) (by first | omega | (simp; done) | (simp; omega)) (by first | omega | (simp; done) | (simp; omega))) ?_; rintro _ _ ⟨A55, c55, rfl, hc55, hm55, hn55, rfl⟩
          refine GO_q rfl rfl (ev_assign rfl) ?_
          refine GO_nil ?_
          (repeat first | refine G_seq ?_ | refine G_skip ?_ | refine G_endblk ?_ | refine G_block ?_ | refine G_exit rfl ?_)
          exact G_inv (A55, c55) (fun _ => hn55 (by simp)) ⟨rfl, rfl, rfl, rfl, rfl, trivial⟩ (by (repeat first | exact en_refl | (apply en_blk; focus ((repeat' first | exact Pick.here | apply Pick.skip | apply Pick.app); done); focus rfl) | (apply en_own; focus ((repeat' first | exact Pick.here | apply Pick.skip | apply Pick.app); done); focus rfl) | (apply en_pick; focus ((repeat' first | exact Pick.here | apply Pick.skip | apply Pick.app); done)) | apply en_drop | apply en_app) <;> fail)
        | false =>
          have el : l1 = [] := by rw [e1]; simp [hn]
          subst el
          (repeat first | refine G_seq ?_ | refine G_skip ?_ | refine G_endblk ?_ | refine G_block ?_ | refine G_exit rfl ?_)
          refine G_region ?_
          refine GO_q rfl rfl (ev_move rfl) ?_
          refine GO_q rfl rfl (ev_move rfl) ?_
          (first | refine GO_q rfl rfl (ev_nilCheck rfl) ?_ | refine GO_q rfl rfl (ev_nilCheckF (by simp) rfl) ?_)
          refine GO_q rfl rfl (ev_fieldAddr rfl) ?_
          refine GO_q rfl rfl (ev_load rfl (by repeat' first | exact Ld.blk rfl | assumption | apply Ld.skip | apply Ld.app)) ?_
          (first | refine GO_q rfl rfl (ev_lssN rfl rfl) ?_ | refine GO_q rfl rfl (ev_lss rfl rfl) ?_)
          refine GO_q rfl rfl (ev_move rfl) ?_
          refine GO_yes rfl rfl rfl (decide_eq_true c1) ?_
          refine GO_q rfl rfl (ev_move rfl) ?_
          refine GO_yes rfl rfl rfl (decide_eq_true c1) ?_
          (first | refine GO_q rfl rfl (ev_nilCheck rfl) ?_ | refine GO_q rfl rfl (ev_nilCheckF (by simp) rfl) ?_)
          refine GO_yes rfl rfl rfl (decide_eq_true c1) ?_
          refine GO_q rfl rfl (ev_fieldAddr rfl) ?_
          refine GO_yes rfl rfl rfl (decide_eq_true c1) ?_
          refine GO_q rfl rfl (ev_indexAddrA rfl rfl (by first | omega | (simp; done) | (simp; omega)) (by first | omega | (simp; done) | (simp; omega))) ?_
          refine GO_yes rfl rfl rfl (decide_eq_true c1) ?_
          refine GO_q rfl rfl (ev_load rfl (by repeat' first | exact Ld.blk rfl | assumption | apply Ld.skip | apply Ld.app)) ?_
          refine GO_yes rfl rfl rfl (decide_eq_true c1) ?_
          (first | refine GO_q rfl rfl (ev_neqNil rfl rfl) ?_ | refine GO_q rfl rfl (ev_neqPtr rfl rfl) ?_)
          refine GO_q rfl rfl (ev_pick_t rfl (decide_eq_true c1) rfl) ?_
          refine GO_nil ?_
          (repeat first | refine G_seq ?_ | refine G_skip ?_ | refine G_endblk ?_ | refine G_block ?_ | refine G_exit rfl ?_)
          refine G_cond_f rfl hn ?_
          (repeat first | refine G_seq ?_ | refine G_skip ?_ | refine G_endblk ?_ | refine G_block ?_ | refine G_exit rfl ?_)
          exact G_inv (none, 0) (fun h => absurd h (Nat.lt_irrefl 0)) ⟨rfl, rfl, rfl, rfl, rfl, trivial⟩ (by (repeat first | exact en_refl | (apply en_blk; focus ((repeat' first | exact Pick.here | apply Pick.skip | apply Pick.app); done); focus rfl) | (apply en_own; focus ((repeat' first | exact Pick.here | apply Pick.skip | apply Pick.app); done); focus rfl) | (apply en_pick; focus ((repeat' first | exact Pick.here | apply Pick.skip | apply Pick.app); done)) | apply en_drop | apply en_app) <;> fail)
      · have el : l1 = [] := by rw [e1]; simp [c1]
        subst el
        (repeat first | refine G_seq ?_ | refine G_skip ?_ | refine G_endblk ?_ | refine G_block ?_ | refine G_exit rfl ?_)
        refine G_region ?_
        refine GO_q rfl rfl (ev_move rfl) ?_
        refine GO_q rfl rfl (ev_move rfl) ?_
        (first | refine GO_q rfl rfl (ev_nilCheck rfl) ?_ | refine GO_q rfl rfl (ev_nilCheckF (by simp) rfl) ?_)
        refine GO_q rfl rfl (ev_fieldAddr rfl) ?_
        refine GO_q rfl rfl (ev_load rfl (by repeat' first | exact Ld.blk rfl | assumption | apply Ld.skip | apply Ld.app)) ?_
        (first | refine GO_q rfl rfl (ev_lssN rfl rfl) ?_ | refine GO_q rfl rfl (ev_lss rfl rfl) ?_)
        refine GO_q rfl rfl (ev_move rfl) ?_
        refine GO_no rfl rfl rfl (decide_eq_false c1) ?_
        refine GO_no rfl rfl rfl (decide_eq_false c1) ?_
        refine GO_no rfl rfl rfl (decide_eq_false c1) ?_
        refine GO_no rfl rfl rfl (decide_eq_false c1) ?_
        refine GO_no rfl rfl rfl (decide_eq_false c1) ?_
        refine GO_no rfl rfl rfl (decide_eq_false c1) ?_
        refine GO_q rfl rfl (ev_pick_f rfl (decide_eq_false c1) rfl) ?_
        refine GO_nil ?_
        (repeat first | refine G_seq ?_ | refine G_skip ?_ | refine G_endblk ?_ | refine G_block ?_ | refine G_exit rfl ?_)
        refine G_cond_f rfl rfl ?_
        (repeat first | refine G_seq ?_ | refine G_skip ?_ | refine G_endblk ?_ | refine G_block ?_ | refine G_exit rfl ?_)
        exact G_inv (none, 0) (fun h => absurd h (Nat.lt_irrefl 0)) ⟨rfl, rfl, rfl, rfl, rfl, trivial⟩ (by (repeat first | exact en_refl | (apply en_blk; focus ((repeat' first | exact Pick.here | apply Pick.skip | apply Pick.app); done); focus rfl) | (apply en_own; focus ((repeat' first | exact Pick.here | apply Pick.skip | apply Pick.app); done); focus rfl) | (apply en_pick; focus ((repeat' first | exact Pick.here | apply Pick.skip | apply Pick.app); done)) | apply en_drop | apply en_app) <;> fail)
    · rintro ⟨A1, c1⟩ hA1
      simp only at hA1
      dsimp only
      have h1b : l1.length ≤ 1 := by rw [e1]; split <;> simp
      (repeat first | refine G_skip ?_ | refine G_endblk ?_)
      refine G_seq ?_
      refine G_cut (ι := Option Addr × Nat) (fun x => [(6, .slice B ni e), (7, .slice x.1 (l1 ++ l2).length x.2)]) (fun x => own 52 1 x.1 (l1 ++ l2).length x.2 (flat (addrsI (l1 ++ l2))) :: own 3 1 B ni e fs :: F :: L) (fun x => 0 < (l1 ++ l2).length → ∃ b, x.1 = some ⟨b, 0, none⟩) ?_ ?_
      · by_cases c2 : mid < v
        · cases hn : hi.addr.isSome with
          | true =>
            have el : l2 = [hi] := by rw [e2]; simp [hn, c2]
            subst el
            (repeat first | refine G_seq ?_ | refine G_skip ?_ | refine G_endblk ?_ | refine G_block ?_ | refine G_exit rfl ?_)
            refine G_region ?_
            refine GO_q rfl rfl (ev_move rfl) ?_
            refine GO_q rfl rfl (ev_move rfl) ?_
            (first | refine GO_q rfl rfl (ev_nilCheck rfl) ?_ | refine GO_q rfl rfl (ev_nilCheckF (by simp) rfl) ?_)
            refine GO_q rfl rfl (ev_fieldAddr rfl) ?_
            refine GO_q rfl rfl (ev_load rfl (by repeat' first | exact Ld.blk rfl | assumption | apply Ld.skip | apply Ld.app)) ?_
            refine GO_q rfl rfl (ev_gtr rfl rfl) ?_
            refine GO_q rfl rfl (ev_move rfl) ?_
            refine GO_yes rfl rfl rfl (decide_eq_true c2) ?_
            refine GO_q rfl rfl (ev_move rfl) ?_
            refine GO_yes rfl rfl rfl (decide_eq_true c2) ?_
            (first | refine GO_q rfl rfl (ev_nilCheck rfl) ?_ | refine GO_q rfl rfl (ev_nilCheckF (by simp) rfl) ?_)
            refine GO_yes rfl rfl rfl (decide_eq_true c2) ?_
            refine GO_q rfl rfl (ev_fieldAddr rfl) ?_
            refine GO_yes rfl rfl rfl (decide_eq_true c2) ?_
            refine GO_q rfl rfl (ev_indexAddrA rfl rfl (by first | omega | (simp; done) | (simp; omega)) (by first | omega | (simp; done) | (simp; omega))) ?_
            refine GO_yes rfl rfl rfl (decide_eq_true c2) ?_
            refine GO_q rfl rfl (ev_load rfl (by repeat' first | exact Ld.blk rfl | assumption | apply Ld.skip | apply Ld.app)) ?_
            refine GO_yes rfl rfl rfl (decide_eq_true c2) ?_
            (first | refine GO_q rfl rfl (ev_neqNil rfl rfl) ?_ | refine GO_q rfl rfl (ev_neqPtr rfl rfl) ?_)
            refine GO_q rfl rfl (ev_pick_t rfl (decide_eq_true c2) rfl) ?_
            refine GO_nil ?_
            (repeat first | refine G_seq ?_ | refine G_skip ?_ | refine G_endblk ?_ | refine G_block ?_ | refine G_exit rfl ?_)
            refine G_cond_t rfl hn ?_
            (repeat first | refine G_seq ?_ | refine G_skip ?_ | refine G_endblk ?_ | refine G_block ?_ | refine G_exit rfl ?_)
            refine G_region ?_
            refine GO_q rfl rfl (ev_move rfl) ?_
            refine GO_q rfl rfl (ev_move rfl) ?_
            (first | refine GO_q rfl rfl (ev_nilCheck rfl) ?_ | refine GO_q rfl rfl (ev_nilCheckF (by simp) rfl) ?_)
            refine GO_q rfl rfl (ev_fieldAddr rfl) ?_
            refine GO_q rfl rfl (ev_indexAddrA rfl rfl (by first | omega | (simp; done) | (simp; omega)) (by first | omega | (simp; done) | (simp; omega))) ?_
            refine GO_q rfl rfl (ev_load rfl (by repeat' first | exact Ld.blk rfl | assumption | apply Ld.skip | apply Ld.app)) ?_
            refine GO_eff rfl rfl (eff_buildSlice1 (by rfl) rfl rfl) ?_; rintro _ _ ⟨b76, rfl, rfl⟩
            refine GO_eff rfl rfl (eff_append rfl rfl (by repeat' first | exact Pick.here | apply Pick.skip) (by repeat' first | exact Rc.blk rfl | assumption | apply Rc.skip) (one_all rfl) (by rfl) (by decide) (by first | omega | (simp; done) | (simp; omega)) (by first | omega | (simp; done) | (simp; omega))) ?_; rintro _ _ ⟨A77, c77, rfl, hc77, hm77, hn77, rfl⟩
            refine GO_q rfl rfl (ev_assign rfl) ?_
            refine GO_nil ?_
            (repeat first | refine G_seq ?_ | refine G_skip ?_ | refine G_endblk ?_ | refine G_block ?_ | refine G_exit rfl ?_)
            exact G_inv (A77, c77) (fun _ => hn77 (by omega)) ⟨rfl, by simp only [List.length_append, List.length_singleton]; rfl, trivial⟩ (by
              simp only [List.length_append, List.length_singleton, addrsI, List.map_append, List.map_cons, List.map_nil]
              rw [flat_append]
              exact (by (repeat first | exact en_refl | (apply en_blk; focus ((repeat' first | exact Pick.here | apply Pick.skip | apply Pick.app); done); focus rfl) | (apply en_own; focus ((repeat' first | exact Pick.here | apply Pick.skip | apply Pick.app); done); focus rfl) | (apply en_pick; focus ((repeat' first | exact Pick.here | apply Pick.skip | apply Pick.app); done)) | apply en_drop | apply en_app) <;> fail))
          | false =>
            have el : l2 = [] := by rw [e2]; simp [hn]
            subst el
            (repeat first | refine G_seq ?_ | refine G_skip ?_ | refine G_endblk ?_ | refine G_block ?_ | refine G_exit rfl ?_)
            refine G_region ?_
            refine GO_q rfl rfl (ev_move rfl) ?_
            refine GO_q rfl rfl (ev_move rfl) ?_
            (first | refine GO_q rfl rfl (ev_nilCheck rfl) ?_ | refine GO_q rfl rfl (ev_nilCheckF (by simp) rfl) ?_)
            refine GO_q rfl rfl (ev_fieldAddr rfl) ?_
            refine GO_q rfl rfl (ev_load rfl (by repeat' first | exact Ld.blk rfl | assumption | apply Ld.skip | apply Ld.app)) ?_
            refine GO_q rfl rfl (ev_gtr rfl rfl) ?_
            refine GO_q rfl rfl (ev_move rfl) ?_
            refine GO_yes rfl rfl rfl (decide_eq_true c2) ?_
            refine GO_q rfl rfl (ev_move rfl) ?_
            refine GO_yes rfl rfl rfl (decide_eq_true c2) ?_
            (first | refine GO_q rfl rfl (ev_nilCheck rfl) ?_ | refine GO_q rfl rfl (ev_nilCheckF (by simp) rfl) ?_)
            refine GO_yes rfl rfl rfl (decide_eq_true c2) ?_
            refine GO_q rfl rfl (ev_fieldAddr rfl) ?_
            refine GO_yes rfl rfl rfl (decide_eq_true c2) ?_
            refine GO_q rfl rfl (ev_indexAddrA rfl rfl (by first | omega | (simp; done) | (simp; omega)) (by first | omega | (simp; done) | (simp; omega))) ?_
            refine GO_yes rfl rfl rfl (decide_eq_true c2) ?_
            refine GO_q rfl rfl (ev_load rfl (by repeat' first | exact Ld.blk rfl | assumption | apply Ld.skip | apply Ld.app)) ?_
            refine GO_yes rfl rfl rfl (decide_eq_true c2) ?_
            (first | refine GO_q rfl rfl (ev_neqNil rfl rfl) ?_ | refine GO_q rfl rfl (ev_neqPtr rfl rfl) ?_)
            refine GO_q rfl rfl (ev_pick_t rfl (decide_eq_true c2) rfl) ?_
            refine GO_nil ?_
            (repeat first | refine G_seq ?_ | refine G_skip ?_ | refine G_endblk ?_ | refine G_block ?_ | refine G_exit rfl ?_)
            refine G_cond_f rfl hn ?_
            (repeat first | refine G_seq ?_ | refine G_skip ?_ | refine G_endblk ?_ | refine G_block ?_ | refine G_exit rfl ?_)
            exact G_inv (A1, c1) (fun h => hA1 (by simpa using h)) ⟨rfl, by rw [List.append_nil]; rfl, trivial⟩ (by rw [List.append_nil]; exact (by (repeat first | exact en_refl | (apply en_blk; focus ((repeat' first | exact Pick.here | apply Pick.skip | apply Pick.app); done); focus rfl) | (apply en_own; focus ((repeat' first | exact Pick.here | apply Pick.skip | apply Pick.app); done); focus rfl) | (apply en_pick; focus ((repeat' first | exact Pick.here | apply Pick.skip | apply Pick.app); done)) | apply en_drop | apply en_app) <;> fail))
        · have el : l2 = [] := by rw [e2]; simp [c2]
          subst el
          (repeat first | refine G_seq ?_ | refine G_skip ?_ | refine G_endblk ?_ | refine G_block ?_ | refine G_exit rfl ?_)
          refine G_region ?_
          refine GO_q rfl rfl (ev_move rfl) ?_
          refine GO_q rfl rfl (ev_move rfl) ?_
          (first | refine GO_q rfl rfl (ev_nilCheck rfl) ?_ | refine GO_q rfl rfl (ev_nilCheckF (by simp) rfl) ?_)
          refine GO_q rfl rfl (ev_fieldAddr rfl) ?_
          refine GO_q rfl rfl (ev_load rfl (by repeat' first | exact Ld.blk rfl | assumption | apply Ld.skip | apply Ld.app)) ?_
          refine GO_q rfl rfl (ev_gtr rfl rfl) ?_
          refine GO_q rfl rfl (ev_move rfl) ?_
          refine GO_no rfl rfl rfl (decide_eq_false c2) ?_
          refine GO_no rfl rfl rfl (decide_eq_false c2) ?_
          refine GO_no rfl rfl rfl (decide_eq_false c2) ?_
          refine GO_no rfl rfl rfl (decide_eq_false c2) ?_
          refine GO_no rfl rfl rfl (decide_eq_false c2) ?_
          refine GO_no rfl rfl rfl (decide_eq_false c2) ?_
          refine GO_q rfl rfl (ev_pick_f rfl (decide_eq_false c2) rfl) ?_
          refine GO_nil ?_
          (repeat first | refine G_seq ?_ | refine G_skip ?_ | refine G_endblk ?_ | refine G_block ?_ | refine G_exit rfl ?_)
          refine G_cond_f rfl rfl ?_
          (repeat first | refine G_seq ?_ | refine G_skip ?_ | refine G_endblk ?_ | refine G_block ?_ | refine G_exit rfl ?_)
          exact G_inv (A1, c1) (fun h => hA1 (by simpa using h)) ⟨rfl, by rw [List.append_nil]; rfl, trivial⟩ (by rw [List.append_nil]; exact (by (repeat first | exact en_refl | (apply en_blk; focus ((repeat' first | exact Pick.here | apply Pick.skip | apply Pick.app); done); focus rfl) | (apply en_own; focus ((repeat' first | exact Pick.here | apply Pick.skip | apply Pick.app); done); focus rfl) | (apply en_pick; focus ((repeat' first | exact Pick.here | apply Pick.skip | apply Pick.app); done)) | apply en_drop | apply en_app) <;> fail))
      · rintro ⟨A2, c2⟩ hA2
        simp only at hA2
        dsimp only
        (repeat first | refine G_seq ?_ | refine G_skip ?_ | refine G_endblk ?_ | refine G_block ?_ | refine G_exit rfl ?_)
        refine G_region ?_
        refine GO_q rfl rfl (ev_move rfl) ?_
        refine GO_q rfl rfl (ev_move rfl) ?_
        refine GO_q rfl rfl (ev_assign rfl) ?_
        refine GO_q rfl rfl (ev_assign rfl) ?_
        refine GO_nil ?_
        (repeat first | refine G_seq ?_ | refine G_skip ?_ | refine G_endblk ?_ | refine G_block ?_ | refine G_exit rfl ?_)
        exact G_ret (L' := own 3 1 B ni e fs :: own 52 1 A2 (l1 ++ l2).length c2 (flat (addrsI (l1 ++ l2))) :: L) rfl (.tmp rfl (.tmp rfl .nil)) (by (repeat first | exact en_refl | (apply en_blk; focus ((repeat' first | exact Pick.here | apply Pick.skip | apply Pick.app); done); focus rfl) | (apply en_own; focus ((repeat' first | exact Pick.here | apply Pick.skip | apply Pick.app); done); focus rfl) | (apply en_pick; focus ((repeat' first | exact Pick.here | apply Pick.skip | apply Pick.app); done)) | apply en_drop | apply en_app) <;> fail) ⟨B, e, A2, c2, rfl, ⟨hB, hA2⟩, rfl⟩
end Go.Proofs.YtjnmpogolknkpaaGreat
/- A tree of middles: what is found from nodes on down: the plain part. -/
namespace Go.Proofs.YtjnmpogolknkpaaGreat
set_option linter.unusedVariables false
set_option linter.unusedSimpArgs false

def IT.ids' (u v : Int) (T : IT) : List Int := if u ≤ v then T.ids u v else []
def IT.nxt' (u v : Int) (T : IT) : List IT := if u ≤ v then T.nxt u v else []
def IT.fnd (u v : Int) : IT → List Int
  | .nil => []
  | .node b mid A c p C d q m lo hi => IT.ids u v (.node b mid A c p C d q m lo hi) ++ ((if u < mid then lo.fnd u v else []) ++ (if mid < v then hi.fnd u v else []))
def IT.fnd' (u v : Int) (T : IT) : List Int := if u ≤ v then T.fnd u v else []
def fndL (u v : Int) (xs : List IT) : List Int := xs.flatMap (IT.fnd' u v)
def IT.cnt : IT → Nat
  | .nil => 0
  | .node _ _ _ _ _ _ _ _ _ lo hi => lo.cnt + hi.cnt + 1
def wtI (xs : List IT) : Nat := (xs.map fun x => 2 * x.cnt + 1).sum
def spL (xs : List IT) : Nat := (xs.map fun x => x.spans.length).sum
theorem IT.addr_some {T : IT} (h : ¬ T.addr.isSome = true) : T = .nil := by
  cases T with
  | nil => rfl
  | node => simp [IT.addr] at h
theorem IT.fnd_eq (u v : Int) (T : IT) : T.fnd' u v = T.ids' u v ++ fndL u v (T.nxt' u v) := by
  unfold IT.fnd' IT.ids' IT.nxt' fndL
  by_cases huv : u ≤ v
  · simp only [if_pos huv]
    cases T with
    | nil => rfl
    | node b mid A c p C d q m lo hi =>
      simp only [IT.fnd, IT.nxt, List.flatMap_append]
      congr 2
      · simp only [IT.nx1]
        by_cases c1 : u < mid
        · by_cases c2 : lo.addr.isSome = true
          · rw [if_pos c1, if_pos ⟨c1, c2⟩]; simp [IT.fnd', if_pos huv]
          · rw [if_pos c1, if_neg (fun h => c2 h.2), IT.addr_some c2]; rfl
        · rw [if_neg c1, if_neg (fun h => c1 h.1)]; rfl
      · simp only [IT.nx2]
        by_cases c1 : mid < v
        · by_cases c2 : hi.addr.isSome = true
          · rw [if_pos c1, if_pos ⟨c1, c2⟩]; simp [IT.fnd', if_pos huv]
          · rw [if_pos c1, if_neg (fun h => c2 h.2), IT.addr_some c2]; rfl
        · rw [if_neg c1, if_neg (fun h => c1 h.1)]; rfl
  · simp [if_neg huv]
theorem own_len {u v mid : Int} {p q : List Pt} (hq : q = srtO Pt.ends p) : (IT.own u v mid p q).length ≤ p.length := by
  have hql : q.length = p.length := by rw [hq, srtO_length]
  unfold IT.own
  split
  · exact List.length_filter_le _ _
  · split
    · exact Nat.le_trans (List.length_filter_le _ _) (by omega)
    · exact Nat.le_refl _
theorem IT.ok.ids_len {u v : Int} {T : IT} (h : T.ok) : (T.ids' u v).length ≤ T.spans.length := by
  unfold IT.ids'
  split
  · cases T with
    | nil => exact Nat.zero_le _
    | node b mid A c p C d q m lo hi =>
      have := own_len (u := u) (v := v) (mid := mid) h.1.2.1
      simp only [IT.ids, IT.spans, List.length_append, srt_length, idI_length]; omega
  · exact Nat.zero_le _
theorem wtI_append (l m : List IT) : wtI (l ++ m) = wtI l + wtI m := by unfold wtI; rw [List.map_append, List.sum_append]
theorem spL_append (l m : List IT) : spL (l ++ m) = spL l + spL m := by unfold spL; rw [List.map_append, List.sum_append]
theorem IT.nxt_cases {P : IT → Prop} {u v : Int} {b : Nat} {mid : Int} {A : Option Addr} {c : Nat} {p : List Pt} {C : Option Addr} {d : Nat} {q : List Pt} {m : Nat} {lo hi : IT} (h1 : P lo) (h2 : P hi) : ∀ x ∈ IT.nxt' u v (.node b mid A c p C d q m lo hi), P x := by
  intro x hx
  unfold IT.nxt' at hx
  split at hx
  · rcases List.mem_append.1 hx with h | h
    · simp only [IT.nx1] at h
      split at h
      · simp at h; subst h; exact h1
      · cases h
    · simp only [IT.nx2] at h
      split at h
      · simp at h; subst h; exact h2
      · cases h
  · cases hx
theorem IT.nxt'_wt (u v : Int) (T : IT) : wtI (T.nxt' u v) ≤ 2 * T.cnt ∧ (T.nxt' u v).length ≤ 2 ∧ spL (T.nxt' u v) ≤ T.spans.length := by
  unfold IT.nxt'
  split
  · cases T with
    | nil => exact ⟨Nat.zero_le _, Nat.zero_le _, Nat.zero_le _⟩
    | node b mid A c p C d q m lo hi =>
      have a1 : wtI (IT.nx1 u v (.node b mid A c p C d q m lo hi)) ≤ 2 * lo.cnt + 1 ∧ (IT.nx1 u v (.node b mid A c p C d q m lo hi)).length ≤ 1 ∧ spL (IT.nx1 u v (.node b mid A c p C d q m lo hi)) ≤ lo.spans.length := by
        simp only [IT.nx1]; split <;> simp [wtI, spL]
      have a2 : wtI (IT.nx2 u v (.node b mid A c p C d q m lo hi)) ≤ 2 * hi.cnt + 1 ∧ (IT.nx2 u v (.node b mid A c p C d q m lo hi)).length ≤ 1 ∧ spL (IT.nx2 u v (.node b mid A c p C d q m lo hi)) ≤ hi.spans.length := by
        simp only [IT.nx2]; split <;> simp [wtI, spL]
      simp only [IT.nxt, IT.cnt, IT.spans, wtI_append, spL_append, List.length_append]
      omega
  · exact ⟨Nat.zero_le _, Nat.zero_le _, Nat.zero_le _⟩
theorem IT.ok.nxt {u v : Int} {T : IT} (h : T.ok) : ∀ x ∈ T.nxt' u v, x.ok := by
  cases T with
  | nil => intro x hx; unfold IT.nxt' at hx; split at hx <;> cases hx
  | node b mid A c p C d q m lo hi => exact IT.nxt_cases h.2.2.2.2.1 h.2.2.2.2.2
theorem IIn.nxt {L : List HP} {u v : Int} {T : IT} (h : IIn L T) : ∀ x ∈ T.nxt' u v, IIn L x := by
  cases T with
  | nil => intro x hx; unfold IT.nxt' at hx; split at hx <;> cases hx
  | node b mid A c p C d q m lo hi => exact IT.nxt_cases h.2.2.2.2.1 h.2.2.2.2.2
/-- What is found is what there is. -/
theorem IT.ok.fnd_perm {u v : Int} (huv : u ≤ v) : ∀ {T : IT}, T.ok → (T.fnd u v).Perm (idI (T.spans.filter (ovl u v)))
  | T, h => by
    have h1 : ∀ {T : IT}, (T.fnd u v).Perm (idI (T.found u v)) := by
      intro T
      induction T with
      | nil => exact .refl _
      | node b mid A c p C d q m lo hi i1 i2 =>
        simp only [IT.fnd, IT.found, IT.ids, idI, List.map_append]
        refine (srt_perm _).append (List.Perm.append ?_ ?_)
        · split
          · exact i1
          · exact .refl _
        · split
          · exact i2
          · exact .refl _
    exact h1.trans ((h.found huv).map _)
theorem IT.ok.fnd'_perm {u v : Int} {T : IT} (h : T.ok) : (T.fnd' u v).Perm (idI (T.spans.filter (ovl u v))) := by
  unfold IT.fnd'
  by_cases huv : u ≤ v
  · rw [if_pos huv]; exact h.fnd_perm huv
  · rw [if_neg huv, List.filter_eq_nil_iff.2]
    · exact .refl _
    · intro s _; simp [ovl]; omega
end Go.Proofs.YtjnmpogolknkpaaGreat
/- A tree of middles: Look, found, overlap, has. -/
namespace Go.Proofs.YtjnmpogolknkpaaGreat
attribute [local irreducible] sat
set_option linter.unusedVariables false
set_option linter.unusedSimpArgs false
set_option maxRecDepth 100000

/-- What a look leaves. -/
def LkP (u v : Int) (T : IT) (L : List HP) (r : Value) (L' : List HP) : Prop := ∃ A1 c1 A2 c2, r = .tuple #[.slice A1 (T.ids' u v).length c1, .slice A2 (T.nxt' u v).length c2] ∧
      ((0 < (T.ids' u v).length → ∃ b, A1 = some ⟨b, 0, none⟩) ∧ (0 < (T.nxt' u v).length → ∃ b, A2 = some ⟨b, 0, none⟩)) ∧
      L' = own 3 1 A1 (T.ids' u v).length c1 (flat (T.ids' u v)) :: own 52 1 A2 (T.nxt' u v).length c2 (flat (addrsI (T.nxt' u v))) :: L
theorem lookU_ctr (T : IT) (u v : Int) (L : List HP) (h : IIn L T) (ho : T.ok) (hn : T.spans.length ≤ 100000) : Ctr Tryz.prog 57 #[.pointer T.addr, .int .i64 u, .int .i64 v] L fun r L' => LkP u v T L r L' := by
  by_cases h0 : T.addr = none ∨ v < u
  · have e1 : T.ids' u v = [] ∧ T.nxt' u v = [] := by
      unfold IT.ids' IT.nxt'
      rcases h0 with h0 | h0
      · cases T with
        | nil => exact ⟨by split <;> rfl, by split <;> rfl⟩
        | node => cases h0
      · exact ⟨if_neg (by omega), if_neg (by omega)⟩
    unfold LkP
    rw [e1.1, e1.2]
    refine (look0_ctr T u v L h0).post' ?_
    rintro r L' hm ⟨rfl, rfl⟩ s
    exact ⟨_, ⟨none, 0, none, 0, rfl, ⟨fun h => absurd h (Nat.lt_irrefl 0), fun h => absurd h (Nat.lt_irrefl 0)⟩, rfl⟩, own.nil_ 3 1 _ (own.nil_ 52 1 _ s)⟩
  · have huv : u ≤ v := by
      rcases Int.lt_or_le v u with h1 | h1
      · exact absurd (.inr h1) h0
      · exact h1
    cases T with
    | nil => exact absurd (.inl rfl) h0
    | node b mid A c p C d q m lo hi =>
      have e : ∀ {α : Type} {x y : α}, (if u ≤ v then x else y) = x := if_pos huv
      simp only [IT.spans, List.length_append] at hn
      unfold LkP IT.ids' IT.nxt'
      simp only [e]
      exact look_ctr b mid A c p C d q m lo hi u v L h ho.1.1 ho.1.2.1 (by omega) huv
theorem Look_ctr (T : IT) (u v : Int) (L : List HP) (h : IIn L T) (ho : T.ok) (hn : T.spans.length ≤ 100000) : Ctr Tryz.prog 33 #[.pointer T.addr, .int .i64 u, .int .i64 v] L fun r L' => LkP u v T L r L' := by
  refine Ctr_of (fn := Tryz.f33) (n := 14) Tryz.func33 rfl rfl rfl ?_
  intro g F
  (repeat first | refine G_seq ?_ | refine G_skip ?_ | refine G_endblk ?_ | refine G_block ?_ | refine G_exit rfl ?_)
  refine G_region ?_
  refine GO_q rfl rfl (ev_assign rfl) ?_
  refine GO_q rfl rfl (ev_assign rfl) ?_
  refine GO_nil ?_
  (repeat first | refine G_seq ?_ | refine G_skip ?_ | refine G_endblk ?_ | refine G_block ?_ | refine G_exit rfl ?_)
  refine G_region ?_
  refine GO_q rfl rfl (ev_move rfl) ?_
  refine GO_q rfl rfl (ev_move rfl) ?_
  refine GO_q rfl rfl (ev_move rfl) ?_
  refine GO_eff rfl rfl (eff_call rfl (lookU_ctr T u v _ h.skip ho hn)) ?_; rintro _ _ ⟨A1, c1, A2, c2, rfl, hA, rfl⟩
  refine GO_q rfl rfl (ev_extract rfl rfl) ?_
  refine GO_q rfl rfl (ev_extract rfl rfl) ?_
  refine GO_q rfl rfl (ev_assign rfl) ?_
  refine GO_q rfl rfl (ev_assign rfl) ?_
  refine GO_nil ?_
  (repeat first | refine G_seq ?_ | refine G_skip ?_ | refine G_endblk ?_ | refine G_block ?_ | refine G_exit rfl ?_)
  exact G_ret (L' := own 3 1 A1 (T.ids' u v).length c1 (flat (T.ids' u v)) :: own 52 1 A2 (T.nxt' u v).length c2 (flat (addrsI (T.nxt' u v))) :: L) rfl (.tmp rfl (.tmp rfl .nil)) (by (repeat first | exact en_refl | (apply en_blk; focus ((repeat' first | exact Pick.here | apply Pick.skip | apply Pick.app); done); focus rfl) | (apply en_own; focus ((repeat' first | exact Pick.here | apply Pick.skip | apply Pick.app); done); focus rfl) | (apply en_pick; focus ((repeat' first | exact Pick.here | apply Pick.skip | apply Pick.app); done)) | apply en_drop | apply en_app) <;> fail) ⟨A1, c1, A2, c2, rfl, hA, rfl⟩
end Go.Proofs.YtjnmpogolknkpaaGreat
/- A tree of middles: what a tree tells. -/
namespace Go.Proofs.YtjnmpogolknkpaaGreat
attribute [local irreducible] sat
set_option linter.unusedVariables false
set_option linter.unusedSimpArgs false
set_option maxRecDepth 100000

/-- A tree that can be read. -/
structure TI (L : List HP) (t : Nat) (T : IT) (most : Int) : Prop where
  root : Ld L ⟨t, 0 + 0, none⟩ (.pointer T.addr)
  most : Ld L ⟨t, 0 + 1, none⟩ (.int .i64 most)
  i : IIn L T
theorem TI.skip {X : HP} {L : List HP} {t : Nat} {T : IT} {most : Int} (h : TI L t T most) : TI (X :: L) t T most := ⟨h.root.skip, h.most.skip, h.i.skip⟩
theorem TI.app {N L : List HP} {t : Nat} {T : IT} {most : Int} (h : TI L t T most) : TI (N ++ L) t T most := ⟨h.root.app, h.most.app, h.i.app⟩
theorem IT.has_node (s : Pt) (b : Nat) (mid : Int) (A : Option Addr) (c : Nat) (p : List Pt) (C : Option Addr) (d : Nat) (q : List Pt) (m : Nat) (lo hi : IT) : (IT.node b mid A c p C d q m lo hi).has s = if s.y < mid then lo.has s else if mid < s.x then hi.has s else decide (s ∈ p) := rfl
section
variable {t : Nat} {T : IT} {most : Int} {L : List HP} (h : TI L t T most)
include h
theorem itop_ctr : Ctr Tryz.prog 51 #[.pointer (some ⟨t, 0, none⟩)] L fun v L' => v = .pointer T.addr ∧ L' = L := by
  have h1 := h.root
  refine Ctr_of (fn := Tryz.f51) (n := 9) Tryz.func51 rfl rfl rfl ?_
  intro g F
  (repeat first | refine G_seq ?_ | refine G_skip ?_ | refine G_endblk ?_ | refine G_block ?_ | refine G_exit rfl ?_)
  refine G_region ?_
  refine GO_q rfl rfl (ev_assign rfl) ?_
  refine GO_nil ?_
  (repeat first | refine G_seq ?_ | refine G_skip ?_ | refine G_endblk ?_ | refine G_block ?_ | refine G_exit rfl ?_)
  refine G_region ?_
  refine GO_q rfl rfl (ev_move rfl) ?_
  (first | refine GO_q rfl rfl (ev_eqlNil rfl rfl) ?_ | refine GO_q rfl rfl (ev_eqlPtr rfl rfl) ?_)
  refine GO_nil ?_
  (repeat first | refine G_seq ?_ | refine G_skip ?_ | refine G_endblk ?_ | refine G_block ?_ | refine G_exit rfl ?_)
  refine G_cond_f rfl rfl ?_
  (repeat first | refine G_seq ?_ | refine G_skip ?_ | refine G_endblk ?_ | refine G_block ?_ | refine G_exit rfl ?_)
  refine G_region ?_
  refine GO_q rfl rfl (ev_move rfl) ?_
  (first | refine GO_q rfl rfl (ev_nilCheck rfl) ?_ | refine GO_q rfl rfl (ev_nilCheckF (by simp) rfl) ?_)
  refine GO_q rfl rfl (ev_fieldAddr rfl) ?_
  refine GO_q rfl rfl (ev_load rfl (by repeat' first | exact Ld.blk rfl | assumption | apply Ld.skip | apply Ld.app)) ?_
  refine GO_q rfl rfl (ev_assign rfl) ?_
  refine GO_nil ?_
  (repeat first | refine G_seq ?_ | refine G_skip ?_ | refine G_endblk ?_ | refine G_block ?_ | refine G_exit rfl ?_)
  refine G_ret rfl (.tmp rfl .nil) (by (repeat first | exact fun _ s => s | apply en_keep | apply en_drop | apply en_app) <;> fail) ⟨rfl, rfl⟩
theorem iRoot_ctr : Ctr Tryz.prog 28 #[.pointer (some ⟨t, 0, none⟩)] L fun v L' => v = .pointer T.addr ∧ L' = L := by
  refine Ctr_of (fn := Tryz.f28) (n := 5) Tryz.func28 rfl rfl rfl ?_
  intro g F
  (repeat first | refine G_seq ?_ | refine G_skip ?_ | refine G_endblk ?_ | refine G_block ?_ | refine G_exit rfl ?_)
  refine G_region ?_
  refine GO_q rfl rfl (ev_assign rfl) ?_
  refine GO_nil ?_
  (repeat first | refine G_seq ?_ | refine G_skip ?_ | refine G_endblk ?_ | refine G_block ?_ | refine G_exit rfl ?_)
  refine G_region ?_
  refine GO_q rfl rfl (ev_move rfl) ?_
  refine GO_eff rfl rfl (eff_call rfl (itop_ctr h.skip)) ?_; rintro _ _ ⟨rfl, rfl⟩
  refine GO_q rfl rfl (ev_assign rfl) ?_
  refine GO_nil ?_
  (repeat first | refine G_seq ?_ | refine G_skip ?_ | refine G_endblk ?_ | refine G_block ?_ | refine G_exit rfl ?_)
  refine G_ret rfl (.tmp rfl .nil) (by (repeat first | exact fun _ s => s | apply en_keep | apply en_drop | apply en_app) <;> fail) ⟨rfl, rfl⟩
theorem ihas_ctr (s : Pt) (ho : T.ok) (hn : T.spans.length ≤ 100000) : Ctr Tryz.prog 46 #[.pointer (some ⟨t, 0, none⟩), s.v] L fun v L' => v = .bool (T.has s) ∧ L' = L := by
  refine Ctr_of (fn := Tryz.f46) (n := 28) Tryz.func46 rfl rfl rfl ?_
  intro g F
  (repeat first | refine G_seq ?_ | refine G_skip ?_ | refine G_endblk ?_ | refine G_block ?_ | refine G_exit rfl ?_)
  refine G_region ?_
  refine GO_eff rfl rfl (eff_box rfl) ?_; rintro _ _ ⟨b3, rfl, rfl⟩
  refine GO_q rfl rfl (ev_assign rfl) ?_
  refine GO_nil ?_
  (repeat first | refine G_seq ?_ | refine G_skip ?_ | refine G_endblk ?_ | refine G_block ?_ | refine G_exit rfl ?_)
  refine G_region ?_
  refine GO_q rfl rfl (ev_move rfl) ?_
  refine GO_eff rfl rfl (eff_call rfl (itop_ctr h.skip.skip)) ?_; rintro _ _ ⟨rfl, rfl⟩
  refine GO_q rfl rfl (ev_assign rfl) ?_
  refine GO_nil ?_
  (repeat first | refine G_seq ?_ | refine G_skip ?_ | refine G_endblk ?_ | refine G_block ?_ | refine G_exit rfl ?_)
  refine G_loop (ι := IT) (fun x => [(3, .pointer (some ⟨b3, 0, none⟩)), (5, .pointer x.addr)]) (fun x => blk b3 24 [.int .i64 s.id, .int .i64 s.x, .int .i64 s.y] :: F :: L) (fun x => IIn L x ∧ x.ok ∧ x.has s = T.has s ∧ x.spans.length ≤ 100000) (fun x => x.cnt) T ⟨h.i, ho, rfl, hn⟩ ⟨rfl, rfl, trivial⟩ (by (repeat first | exact fun _ s => s | apply en_keep | apply en_drop | apply en_app) <;> fail) ?_
  rintro x ⟨f1, f2, f3, f4⟩
  cases x with
  | nil =>
    rw [← f3]
    (repeat first | refine G_seq ?_ | refine G_skip ?_ | refine G_endblk ?_ | refine G_block ?_ | refine G_exit rfl ?_)
    refine G_region ?_
    refine GO_q rfl rfl (ev_move rfl) ?_
    (first | refine GO_q rfl rfl (ev_neqNil rfl rfl) ?_ | refine GO_q rfl rfl (ev_neqPtr rfl rfl) ?_)
    refine GO_nil ?_
    (repeat first | refine G_seq ?_ | refine G_skip ?_ | refine G_endblk ?_ | refine G_block ?_ | refine G_exit rfl ?_)
    refine G_cond_f rfl rfl ?_
    (repeat first | refine G_seq ?_ | refine G_skip ?_ | refine G_endblk ?_ | refine G_block ?_ | refine G_exit rfl ?_)
    refine G_region ?_
    refine GO_q rfl rfl (ev_assign rfl) ?_
    refine GO_nil ?_
    (repeat first | refine G_seq ?_ | refine G_skip ?_ | refine G_endblk ?_ | refine G_block ?_ | refine G_exit rfl ?_)
    refine G_ret rfl (.tmp rfl .nil) (by (repeat first | exact fun _ s => s | apply en_keep | apply en_drop | apply en_app) <;> fail) ⟨rfl, rfl⟩
  | node b mid A c p C d q m lo hi =>
    obtain ⟨q1, q2, q3, q4, q5, q6, q7, q8, q9, q10, q11, q12⟩ := f1.f
    simp only [IT.spans, List.length_append] at f4
    (repeat first | refine G_seq ?_ | refine G_skip ?_ | refine G_endblk ?_ | refine G_block ?_ | refine G_exit rfl ?_)
    refine G_region ?_
    refine GO_q rfl rfl (ev_move rfl) ?_
    (first | refine GO_q rfl rfl (ev_neqNil rfl rfl) ?_ | refine GO_q rfl rfl (ev_neqPtr rfl rfl) ?_)
    refine GO_nil ?_
    (repeat first | refine G_seq ?_ | refine G_skip ?_ | refine G_endblk ?_ | refine G_block ?_ | refine G_exit rfl ?_)
    refine G_cond_t rfl rfl ?_
    by_cases c1 : s.y < mid
    · have e : sideI mid s = 0 := by unfold sideI; rw [if_pos c1]
      have hsd := fun L h => side_ctr b mid s L h
      rw [e] at hsd
      (repeat first | refine G_seq ?_ | refine G_skip ?_ | refine G_endblk ?_ | refine G_block ?_ | refine G_exit rfl ?_)
      refine G_region ?_
      refine GO_q rfl rfl (ev_move rfl) ?_
      refine GO_q rfl rfl (ev_loadN rfl (by repeat' first | exact LdN.blk rfl | assumption | apply LdN.skip | apply LdN.app)) ?_
      refine GO_eff rfl rfl (eff_call rfl (hsd _ (by repeat' first | exact Ld.blk rfl | assumption | apply Ld.skip | apply Ld.app))) ?_; rintro _ _ ⟨rfl, rfl⟩
      refine GO_q rfl rfl (ev_assign rfl) ?_
      refine GO_nil ?_
      (repeat first | refine G_seq ?_ | refine G_skip ?_ | refine G_endblk ?_ | refine G_block ?_ | refine G_exit rfl ?_)
      refine G_region ?_
      refine GO_q rfl rfl (ev_move rfl) ?_
      (first | refine GO_q rfl rfl (ev_lssN (q := 0) rfl rfl) ?_ | refine GO_q rfl rfl (ev_lss rfl rfl) ?_)
      refine GO_nil ?_
      (repeat first | refine G_seq ?_ | refine G_skip ?_ | refine G_endblk ?_ | refine G_block ?_ | refine G_exit rfl ?_)
      refine G_cond_f rfl rfl ?_
      (repeat first | refine G_seq ?_ | refine G_skip ?_ | refine G_endblk ?_ | refine G_block ?_ | refine G_exit rfl ?_)
      refine G_region ?_
      refine GO_q rfl rfl (ev_move rfl) ?_
      refine GO_q rfl rfl (ev_move rfl) ?_
      (first | refine GO_q rfl rfl (ev_nilCheck rfl) ?_ | refine GO_q rfl rfl (ev_nilCheckF (by simp) rfl) ?_)
      refine GO_q rfl rfl (ev_fieldAddr rfl) ?_
      refine GO_q rfl rfl (ev_indexAddrA rfl rfl (by first | omega | (simp; done) | (simp; omega)) (by first | omega | (simp; done) | (simp; omega))) ?_
      refine GO_q rfl rfl (ev_load rfl (by repeat' first | exact Ld.blk rfl | assumption | apply Ld.skip | apply Ld.app)) ?_
      refine GO_q rfl rfl (ev_assign rfl) ?_
      refine GO_nil ?_
      (repeat first | refine G_seq ?_ | refine G_skip ?_ | refine G_endblk ?_ | refine G_block ?_ | refine G_exit rfl ?_)
      exact G_round lo ⟨q11, f2.2.2.2.2.1, by rw [← f3, IT.has_node, if_pos c1], by omega⟩ (by simp only [IT.cnt]; omega) ⟨rfl, rfl, trivial⟩ (by (repeat first | exact fun _ s => s | apply en_keep | apply en_drop | apply en_app) <;> fail)
    · by_cases c2 : mid < s.x
      · have e : sideI mid s = 1 := by unfold sideI; rw [if_neg c1, if_pos c2]
        have hsd := fun L h => side_ctr b mid s L h
        rw [e] at hsd
        (repeat first | refine G_seq ?_ | refine G_skip ?_ | refine G_endblk ?_ | refine G_block ?_ | refine G_exit rfl ?_)
        refine G_region ?_
        refine GO_q rfl rfl (ev_move rfl) ?_
        refine GO_q rfl rfl (ev_loadN rfl (by repeat' first | exact LdN.blk rfl | assumption | apply LdN.skip | apply LdN.app)) ?_
        refine GO_eff rfl rfl (eff_call rfl (hsd _ (by repeat' first | exact Ld.blk rfl | assumption | apply Ld.skip | apply Ld.app))) ?_; rintro _ _ ⟨rfl, rfl⟩
        refine GO_q rfl rfl (ev_assign rfl) ?_
        refine GO_nil ?_
        (repeat first | refine G_seq ?_ | refine G_skip ?_ | refine G_endblk ?_ | refine G_block ?_ | refine G_exit rfl ?_)
        refine G_region ?_
        refine GO_q rfl rfl (ev_move rfl) ?_
        (first | refine GO_q rfl rfl (ev_lssN (q := 0) rfl rfl) ?_ | refine GO_q rfl rfl (ev_lss rfl rfl) ?_)
        refine GO_nil ?_
        (repeat first | refine G_seq ?_ | refine G_skip ?_ | refine G_endblk ?_ | refine G_block ?_ | refine G_exit rfl ?_)
        refine G_cond_f rfl rfl ?_
        (repeat first | refine G_seq ?_ | refine G_skip ?_ | refine G_endblk ?_ | refine G_block ?_ | refine G_exit rfl ?_)
        refine G_region ?_
        refine GO_q rfl rfl (ev_move rfl) ?_
        refine GO_q rfl rfl (ev_move rfl) ?_
        (first | refine GO_q rfl rfl (ev_nilCheck rfl) ?_ | refine GO_q rfl rfl (ev_nilCheckF (by simp) rfl) ?_)
        refine GO_q rfl rfl (ev_fieldAddr rfl) ?_
        refine GO_q rfl rfl (ev_indexAddrA rfl rfl (by first | omega | (simp; done) | (simp; omega)) (by first | omega | (simp; done) | (simp; omega))) ?_
        refine GO_q rfl rfl (ev_load rfl (by repeat' first | exact Ld.blk rfl | assumption | apply Ld.skip | apply Ld.app)) ?_
        refine GO_q rfl rfl (ev_assign rfl) ?_
        refine GO_nil ?_
        (repeat first | refine G_seq ?_ | refine G_skip ?_ | refine G_endblk ?_ | refine G_block ?_ | refine G_exit rfl ?_)
        exact G_round hi ⟨q12, f2.2.2.2.2.2, by rw [← f3, IT.has_node, if_neg c1, if_pos c2], by omega⟩ (by simp only [IT.cnt]; omega) ⟨rfl, rfl, trivial⟩ (by (repeat first | exact fun _ s => s | apply en_keep | apply en_drop | apply en_app) <;> fail)
      · have e : sideI mid s = -1 := by unfold sideI; rw [if_neg c1, if_neg c2]
        have hsd := fun L h => side_ctr b mid s L h
        rw [e] at hsd
        have e3 : decide (s ∈ p) = T.has s := by rw [← f3, IT.has_node, if_neg c1, if_neg c2]
        rw [← e3]
        (repeat first | refine G_seq ?_ | refine G_skip ?_ | refine G_endblk ?_ | refine G_block ?_ | refine G_exit rfl ?_)
        refine G_region ?_
        refine GO_q rfl rfl (ev_move rfl) ?_
        refine GO_q rfl rfl (ev_loadN rfl (by repeat' first | exact LdN.blk rfl | assumption | apply LdN.skip | apply LdN.app)) ?_
        refine GO_eff rfl rfl (eff_call rfl (hsd _ (by repeat' first | exact Ld.blk rfl | assumption | apply Ld.skip | apply Ld.app))) ?_; rintro _ _ ⟨rfl, rfl⟩
        refine GO_q rfl rfl (ev_assign rfl) ?_
        refine GO_nil ?_
        (repeat first | refine G_seq ?_ | refine G_skip ?_ | refine G_endblk ?_ | refine G_block ?_ | refine G_exit rfl ?_)
        refine G_region ?_
        refine GO_q rfl rfl (ev_move rfl) ?_
        (first | refine GO_q rfl rfl (ev_lssN (q := 0) rfl rfl) ?_ | refine GO_q rfl rfl (ev_lss rfl rfl) ?_)
        refine GO_nil ?_
        (repeat first | refine G_seq ?_ | refine G_skip ?_ | refine G_endblk ?_ | refine G_block ?_ | refine G_exit rfl ?_)
        refine G_cond_t rfl rfl ?_
        (repeat first | refine G_seq ?_ | refine G_skip ?_ | refine G_endblk ?_ | refine G_block ?_ | refine G_exit rfl ?_)
        refine G_draw (.q 0 (.q 1 (.q 2 (.q 3 (.q 4 (.e 5 (.q 6 .nil))))))) (by kernel_rfl) (by kernel_rfl) ?_
        refine RS_m retB_noPanic rfl rfl rfl rfl (ev_move rfl) ?_
        (first | refine RS_m retB_noPanic rfl rfl rfl rfl (ev_nilCheck rfl) ?_ | refine RS_m retB_noPanic rfl rfl rfl rfl (ev_nilCheckF (by simp) rfl) ?_)
        refine RS_m retB_noPanic rfl rfl rfl rfl (ev_fieldAddr rfl) ?_
        refine RS_q retB_noPanic rfl rfl rfl rfl (ev_load rfl (by repeat' first | exact Ld.blk rfl | assumption | apply Ld.skip | apply Ld.app)) ?_
        refine RS_q retB_noPanic rfl rfl rfl rfl (ev_loadN rfl (by repeat' first | exact LdN.blk rfl | assumption | apply LdN.skip | apply LdN.app)) ?_
        refine RS_e (RE_eff rfl rfl rfl (eff_call rfl (HasO_ctr less_ls sto_less A p.length c p s _ (by repeat' first | exact Rc.blk rfl | assumption | apply Rd.skip | apply Rd.app) (by omega) f2.1.1)) ?_); rintro _ _ ⟨rfl, rfl⟩; refine ⟨_, fun _ s => s, (by first | ((repeat first | exact fun _ s => s | apply en_keep | apply en_drop | apply en_app) <;> fail) | ((repeat first | exact en_refl | (apply en_blk; focus ((repeat' first | exact Pick.here | apply Pick.skip | apply Pick.app); done); focus rfl) | (apply en_own; focus ((repeat' first | exact Pick.here | apply Pick.skip | apply Pick.app); done); focus rfl) | (apply en_pick; focus ((repeat' first | exact Pick.here | apply Pick.skip | apply Pick.app); done)) | apply en_drop | apply en_app) <;> fail)), ?_⟩
        refine RS_m retB_noPanic rfl rfl rfl rfl (ev_assign rfl) ?_
        refine RS_nil ?_
        (repeat first | refine G_seq ?_ | refine G_skip ?_ | refine G_endblk ?_ | refine G_block ?_ | refine G_exit rfl ?_)
        refine G_ret rfl (.tmp rfl .nil) (by (repeat first | exact fun _ s => s | apply en_keep | apply en_drop | apply en_app) <;> fail) ⟨rfl, rfl⟩
end
end Go.Proofs.YtjnmpogolknkpaaGreat
/- A tree of middles: Check tells true. -/
namespace Go.Proofs.YtjnmpogolknkpaaGreat
attribute [local irreducible] sat
set_option linter.unusedVariables false
set_option linter.unusedSimpArgs false
set_option maxRecDepth 100000

end Go.Proofs.YtjnmpogolknkpaaGreat
/- A stack of nodes: what lies in memory. -/
namespace Go.Proofs.YtjnmpogolknkpaaGreat
set_option linter.unusedVariables false
set_option linter.unusedSimpArgs false

instance encIT : Enc IT := ⟨1, fun x => [.pointer x.addr], fun _ => rfl, fun _ v h => by simp at h; subst h; rfl⟩
/-- A stack at a place. -/
def stkS (b : Nat) (most : Int) (l : List IT) : HP := fun h => ∃ x : Option Addr × Nat, (0 < l.length → ∃ b, x.1 = some ⟨b, 0, none⟩) ∧ sat [blk b 115 [.slice x.1 l.length x.2, .int .i64 most], own 52 1 x.1 l.length x.2 (flat l)] h
theorem stk_open {s : Nat} {most : Int} {l : List IT} {M : List HP} {hm : Hm} (h : sat (stkS s most l :: M) hm) : ∃ A c, (0 < l.length → ∃ b, A = some ⟨b, 0, none⟩) ∧ l.length ≤ c ∧ c ≤ maxLen ∧ sat (blk s 115 [.slice A l.length c, .int .i64 most] :: own 52 1 A l.length c (flat l) :: M) hm := by
  obtain ⟨h1, h2, d, s1, s2, ⟨⟨A, c⟩, hA, q⟩, t⟩ := h
  have q0 := own.facts (L := []) q.tail
  exact ⟨A, c, hA, q0.2.1, q0.2.2.1, sat.head (A := fun h => h = h1) (N := [blk s 115 [.slice A l.length c, .int .i64 most], own 52 1 A l.length c (flat l)]) (fun _ e => e ▸ q) ⟨h1, h2, d, s1, s2, rfl, t⟩⟩
theorem Ctr.stk {P : Program} {f : FuncId} {args : Array Value} {L : List HP} {b : Nat} {most : Int} {l : List IT} {post : Value → List HP → Prop}
    (C : ∀ A c, (0 < l.length → ∃ b, A = some ⟨b, 0, none⟩) → l.length ≤ c → c ≤ maxLen → Ctr P f args (blk b 115 [.slice A l.length c, .int .i64 most] :: own 52 1 A l.length c (flat l) :: L) post) : Ctr P f args (stkS b most l :: L) post := fun g F w hw => by
  obtain ⟨A, c, h1, h2, h3, h4⟩ := stk_open hw.s.swap
  exact C A c h1 h2 h3 g F w ⟨hw.g, h4.perm (List.perm_middle (l₁ := [_, _]))⟩
theorem en_stk {L M : List HP} {b c : Nat} {A : Option Addr} {most : Int} {l : List IT} (hA : 0 < l.length → ∃ b, A = some ⟨b, 0, none⟩) (f : ∀ h, sat L h → sat (blk b 115 [.slice A l.length c, .int .i64 most] :: own 52 1 A l.length c (flat l) :: M) h) : ∀ h, sat L h → sat (stkS b most l :: M) h := fun h s =>
  sat.fold (N := [_, _]) (fun h q => ⟨(A, c), hA, q⟩) (f h s)
theorem own_of1 {L : List HP} {b c : Nat} {T : TypeId} {u v : Value} {r : List Value} (k1 : (v :: u :: r).length = c * 1) (k2 : 2 ≤ c) (k3 : c ≤ maxLen) : ∀ h, sat (blk b T (u :: v :: r) :: L) h → sat (own T 1 (some ⟨b, 0, none⟩) 2 c [u, v] :: L) h := fun h s => by
  obtain ⟨h1, h2, d, s1, s2, q, z⟩ := s
  exact ⟨h1, h2, d, s1, s2, own.cls (n := 2) (c := c) (sz := 1) (cs := u :: v :: r) q k1 k2 k3, z⟩
theorem sw2 (u v : Value) (r : List Value) : setN (setN (u :: v :: r) (0 + 0 * 1) [v]) (0 + 1 * 1) [u] = v :: u :: r := by
  rw [setN_eq (u :: v :: r) _ _ (by simp), setN_eq _ _ _ (by simp)]
  simp
end Go.Proofs.YtjnmpogolknkpaaGreat
/- A stack of nodes. -/
namespace Go.Proofs.YtjnmpogolknkpaaGreat
attribute [local irreducible] sat
set_option linter.unusedVariables false
set_option linter.unusedSimpArgs false
set_option maxRecDepth 100000

theorem Catch_ctr {fid : FuncId} {c1 c2 : List Value} {L : List HP} {post : List HP → Prop} [H : CalT Tryz.prog fid] (h : Ctr Tryz.prog fid (c1 ++ [] ++ c2).toArray L fun v L' => post L') :
    Ctr Tryz.prog 91 #[.func (.func fid) c1.toArray c2.toArray] L fun v L' => v = .tuple #[.agg #[.int .i64 0, .int .i64 0], .bool false] ∧ post L' := by
  refine Ctr_of (fn := Tryz.f91) (n := 8) Tryz.func91 rfl rfl rfl ?_
  intro g F
  (repeat first | refine G_seq ?_ | refine G_skip ?_ | refine G_endblk ?_ | refine G_block ?_ | refine G_exit rfl ?_)
  refine G_region ?_
  refine GO_eff rfl rfl eff_alloc ?_; rintro _ _ ⟨b2, rfl, rfl⟩
  refine GO_q rfl rfl (ev_assign rfl) ?_
  refine GO_nil ?_
  (repeat first | refine G_seq ?_ | refine G_skip ?_ | refine G_endblk ?_ | refine G_block ?_ | refine G_exit rfl ?_)
  refine G_region ?_
  refine GO_q rfl rfl (ev_move rfl) ?_
  refine GO_eff rfl rfl (eff_call rfl (Ctr.frame [blk b2 111 [.int .i64 0, .int .i64 0], F] (catch_ctr h) (fun _ s => s))) ?_; rintro _ _ ⟨L1, ⟨rfl, hp⟩, rfl⟩
  refine GO_q rfl rfl (ev_extract rfl rfl) ?_
  refine GO_q rfl rfl (ev_extract rfl rfl) ?_
  refine GO_eff rfl rfl (eff_storeN rfl rfl rfl rfl (by repeat' first | exact Upd.here rfl | apply Upd.skip | apply Upd.app)) ?_; rintro _ _ ⟨rfl, rfl⟩
  refine GO_q rfl rfl (ev_assign rfl) ?_
  refine GO_nil ?_
  (repeat first | refine G_seq ?_ | refine G_skip ?_ | refine G_endblk ?_ | refine G_block ?_ | refine G_exit rfl ?_)
  exact G_ret (L' := L1) rfl (.cell rfl (loadN_run (by repeat' first | exact LdN.blk rfl | assumption | apply LdN.skip | apply LdN.app)) (.tmp rfl .nil)) (by (repeat first | exact fun _ s => s | apply en_keep | apply en_drop | apply en_app) <;> fail) ⟨rfl, hp⟩
theorem SNew_ctr (L : List HP) : Ctr Tryz.prog 96 #[.int .i64 65536] L fun v L' => ∃ b, v = .tuple #[.pointer (some ⟨b, 0, none⟩), .int .i64 0] ∧ L' = stkS b 65536 [] :: L := by
  refine Ctr_of (fn := Tryz.f96) (n := 13) Tryz.func96 rfl rfl rfl ?_
  intro g F
  (repeat first | refine G_seq ?_ | refine G_skip ?_ | refine G_endblk ?_ | refine G_block ?_ | refine G_exit rfl ?_)
  refine G_region ?_
  refine GO_q rfl rfl (ev_assign rfl) ?_
  refine GO_q rfl rfl (ev_assign rfl) ?_
  refine GO_nil ?_
  (repeat first | refine G_seq ?_ | refine G_skip ?_ | refine G_endblk ?_ | refine G_block ?_ | refine G_exit rfl ?_)
  refine G_region ?_
  refine GO_q rfl rfl (ev_move rfl) ?_
  (first | refine GO_q rfl rfl (ev_lssN (q := 1) rfl rfl) ?_ | refine GO_q rfl rfl (ev_lss rfl rfl) ?_)
  refine GO_q rfl rfl (ev_move rfl) ?_
  refine GO_yes rfl rfl rfl rfl ?_
  refine GO_q rfl rfl (ev_move rfl) ?_
  refine GO_yes rfl rfl rfl rfl ?_
  refine GO_q rfl rfl (ev_gtr rfl rfl) ?_
  refine GO_q rfl rfl (ev_pick_f rfl rfl rfl) ?_
  refine GO_nil ?_
  (repeat first | refine G_seq ?_ | refine G_skip ?_ | refine G_endblk ?_ | refine G_block ?_ | refine G_exit rfl ?_)
  refine G_cond_f rfl rfl ?_
  (repeat first | refine G_seq ?_ | refine G_skip ?_ | refine G_endblk ?_ | refine G_block ?_ | refine G_exit rfl ?_)
  refine G_region ?_
  refine GO_q rfl rfl (ev_move rfl) ?_
  refine GO_q rfl rfl (ev_build rfl rfl) ?_
  refine GO_eff rfl rfl (eff_box rfl) ?_; rintro _ _ ⟨b12, rfl, rfl⟩
  refine GO_q rfl rfl (ev_assign rfl) ?_
  refine GO_q rfl rfl (ev_assign rfl) ?_
  refine GO_nil ?_
  (repeat first | refine G_seq ?_ | refine G_skip ?_ | refine G_endblk ?_ | refine G_block ?_ | refine G_exit rfl ?_)
  refine G_heap (own.nil_ 52 1) ?_
  exact G_ret (L' := stkS b12 65536 [] :: L) rfl (.tmp rfl (.tmp rfl .nil)) (by (repeat first | exact en_refl | apply en_stk (A := none) (c := 0) (l := []) (fun h => absurd h (Nat.lt_irrefl 0)) | (apply en_blk; focus ((repeat' first | exact Pick.here | apply Pick.skip | apply Pick.app); done); focus rfl) | (apply en_own; focus ((repeat' first | exact Pick.here | apply Pick.skip | apply Pick.app); done); focus rfl) | (apply en_pick; focus ((repeat' first | exact Pick.here | apply Pick.skip | apply Pick.app); done)) | apply en_drop | apply en_app) <;> fail) ⟨b12, rfl, rfl⟩
theorem SLen_k_ctr (b : Nat) (l : List IT) (L : List HP) : Ctr Tryz.prog 61 #[.pointer (some ⟨b, 0, none⟩)] (stkS b 65536 l :: L) fun v L' => v = .int .i64 (l.length : Nat) ∧ L' = stkS b 65536 l :: L := by
  refine Ctr.stk fun A c h1 h2 h3 => ?_
  refine Ctr_of (fn := Tryz.f61) (n := 10) Tryz.func61 rfl rfl rfl ?_
  intro g F
  (repeat first | refine G_seq ?_ | refine G_skip ?_ | refine G_endblk ?_ | refine G_block ?_ | refine G_exit rfl ?_)
  refine G_region ?_
  refine GO_q rfl rfl (ev_assign rfl) ?_
  refine GO_nil ?_
  (repeat first | refine G_seq ?_ | refine G_skip ?_ | refine G_endblk ?_ | refine G_block ?_ | refine G_exit rfl ?_)
  refine G_region ?_
  refine GO_q rfl rfl (ev_move rfl) ?_
  (first | refine GO_q rfl rfl (ev_eqlNil rfl rfl) ?_ | refine GO_q rfl rfl (ev_eqlPtr rfl rfl) ?_)
  refine GO_nil ?_
  (repeat first | refine G_seq ?_ | refine G_skip ?_ | refine G_endblk ?_ | refine G_block ?_ | refine G_exit rfl ?_)
  refine G_cond_f rfl rfl ?_
  (repeat first | refine G_seq ?_ | refine G_skip ?_ | refine G_endblk ?_ | refine G_block ?_ | refine G_exit rfl ?_)
  refine G_region ?_
  refine GO_q rfl rfl (ev_move rfl) ?_
  (first | refine GO_q rfl rfl (ev_nilCheck rfl) ?_ | refine GO_q rfl rfl (ev_nilCheckF (by simp) rfl) ?_)
  refine GO_q rfl rfl (ev_fieldAddr rfl) ?_
  refine GO_q rfl rfl (ev_load rfl (by repeat' first | exact Ld.blk rfl | assumption | apply Ld.skip | apply Ld.app)) ?_
  refine GO_q rfl rfl (ev_len rfl) ?_
  refine GO_q rfl rfl (ev_assign rfl) ?_
  refine GO_nil ?_
  (repeat first | refine G_seq ?_ | refine G_skip ?_ | refine G_endblk ?_ | refine G_block ?_ | refine G_exit rfl ?_)
  exact G_ret (L' := stkS b 65536 l :: L) rfl (.tmp rfl .nil) (by (repeat first | exact en_refl | apply en_stk h1 | (apply en_blk; focus ((repeat' first | exact Pick.here | apply Pick.skip | apply Pick.app); done); focus rfl) | (apply en_own; focus ((repeat' first | exact Pick.here | apply Pick.skip | apply Pick.app); done); focus rfl) | (apply en_pick; focus ((repeat' first | exact Pick.here | apply Pick.skip | apply Pick.app); done)) | apply en_drop | apply en_app) <;> fail) ⟨rfl, rfl⟩
theorem stop_nil_ctr (b : Nat) (A : Option Addr) (c : Nat) (L : List HP) (h : LdN L b 0 2 [.slice A 0 c, .int .i64 65536]) : Ctr Tryz.prog 149 #[.pointer (some ⟨b, 0, none⟩)] L fun v L' => v = .tuple #[.pointer none, .bool false] ∧ L' = L := by
  have h1 : Ld L ⟨b, 0 + 0, none⟩ (.slice A 0 c) := h.at_ (i := 0) rfl
  refine Ctr_of (fn := Tryz.f149) (n := 27) Tryz.func149 rfl rfl rfl ?_
  intro g F
  (repeat first | refine G_seq ?_ | refine G_skip ?_ | refine G_endblk ?_ | refine G_block ?_ | refine G_exit rfl ?_)
  refine G_region ?_
  refine GO_q rfl rfl (ev_assign rfl) ?_
  refine GO_q rfl rfl (ev_assign rfl) ?_
  refine GO_nil ?_
  (repeat first | refine G_seq ?_ | refine G_skip ?_ | refine G_endblk ?_ | refine G_block ?_ | refine G_exit rfl ?_)
  refine G_region ?_
  refine GO_q rfl rfl (ev_move rfl) ?_
  (first | refine GO_q rfl rfl (ev_eqlNil rfl rfl) ?_ | refine GO_q rfl rfl (ev_eqlPtr rfl rfl) ?_)
  refine GO_q rfl rfl (ev_move rfl) ?_
  refine GO_yes rfl rfl rfl rfl ?_
  refine GO_q rfl rfl (ev_move rfl) ?_
  refine GO_yes rfl rfl rfl rfl ?_
  (first | refine GO_q rfl rfl (ev_nilCheck rfl) ?_ | refine GO_q rfl rfl (ev_nilCheckF (by simp) rfl) ?_)
  refine GO_yes rfl rfl rfl rfl ?_
  refine GO_q rfl rfl (ev_fieldAddr rfl) ?_
  refine GO_yes rfl rfl rfl rfl ?_
  refine GO_q rfl rfl (ev_load rfl (by repeat' first | exact Ld.blk rfl | assumption | apply Ld.skip | apply Ld.app)) ?_
  refine GO_yes rfl rfl rfl rfl ?_
  refine GO_q rfl rfl (ev_len rfl) ?_
  refine GO_yes rfl rfl rfl rfl ?_
  refine GO_q rfl rfl (ev_eql rfl rfl) ?_
  refine GO_q rfl rfl (ev_pick_f rfl rfl rfl) ?_
  refine GO_nil ?_
  (repeat first | refine G_seq ?_ | refine G_skip ?_ | refine G_endblk ?_ | refine G_block ?_ | refine G_exit rfl ?_)
  refine G_cond_t rfl rfl ?_
  (repeat first | refine G_seq ?_ | refine G_skip ?_ | refine G_endblk ?_ | refine G_block ?_ | refine G_exit rfl ?_)
  refine G_region ?_
  refine GO_q rfl rfl (ev_move rfl) ?_
  refine GO_q rfl rfl (ev_assign rfl) ?_
  refine GO_q rfl rfl (ev_assign rfl) ?_
  refine GO_nil ?_
  (repeat first | refine G_seq ?_ | refine G_skip ?_ | refine G_endblk ?_ | refine G_block ?_ | refine G_exit rfl ?_)
  refine G_ret rfl (.tmp rfl (.tmp rfl .nil)) (by (repeat first | exact fun _ s => s | apply en_keep | apply en_drop | apply en_app) <;> fail) ⟨rfl, rfl⟩
theorem stop_ctr (b : Nat) (A : Option Addr) (n c : Nat) (l : List IT) (x : IT) (L : List HP) (h : LdN L b 0 2 [.slice A n c, .int .i64 65536]) (hr : Rd L A n (l ++ [x])) (hn : n = l.length + 1) (hb : n ≤ 65536) : Ctr Tryz.prog 149 #[.pointer (some ⟨b, 0, none⟩)] L fun v L' => v = .tuple #[.pointer x.addr, .bool true] ∧ L' = L := by
  have h1 : Ld L ⟨b, 0 + 0, none⟩ (.slice A n c) := h.at_ (i := 0) rfl
  obtain ⟨lb, lo, rfl, hx⟩ := hr.at_ (by omega)
  have y1 : LdN L lb (lo + l.length * 1) 1 [.pointer x.addr] := hx l.length x (by simp)
  have y2 : Ld L ⟨lb, lo + (n - 1) * 1, none⟩ (.pointer x.addr) := by
    have := y1.at_ (i := 0) rfl
    rw [show n - 1 = l.length by omega]; exact this
  refine Ctr_of (fn := Tryz.f149) (n := 27) Tryz.func149 rfl rfl rfl ?_
  intro g F
  (repeat first | refine G_seq ?_ | refine G_skip ?_ | refine G_endblk ?_ | refine G_block ?_ | refine G_exit rfl ?_)
  refine G_region ?_
  refine GO_q rfl rfl (ev_assign rfl) ?_
  refine GO_q rfl rfl (ev_assign rfl) ?_
  refine GO_nil ?_
  (repeat first | refine G_seq ?_ | refine G_skip ?_ | refine G_endblk ?_ | refine G_block ?_ | refine G_exit rfl ?_)
  refine G_region ?_
  refine GO_q rfl rfl (ev_move rfl) ?_
  (first | refine GO_q rfl rfl (ev_eqlNil rfl rfl) ?_ | refine GO_q rfl rfl (ev_eqlPtr rfl rfl) ?_)
  refine GO_q rfl rfl (ev_move rfl) ?_
  refine GO_yes rfl rfl rfl rfl ?_
  refine GO_q rfl rfl (ev_move rfl) ?_
  refine GO_yes rfl rfl rfl rfl ?_
  (first | refine GO_q rfl rfl (ev_nilCheck rfl) ?_ | refine GO_q rfl rfl (ev_nilCheckF (by simp) rfl) ?_)
  refine GO_yes rfl rfl rfl rfl ?_
  refine GO_q rfl rfl (ev_fieldAddr rfl) ?_
  refine GO_yes rfl rfl rfl rfl ?_
  refine GO_q rfl rfl (ev_load rfl (by repeat' first | exact Ld.blk rfl | assumption | apply Ld.skip | apply Ld.app)) ?_
  refine GO_yes rfl rfl rfl rfl ?_
  refine GO_q rfl rfl (ev_len rfl) ?_
  refine GO_yes rfl rfl rfl rfl ?_
  refine GO_q rfl rfl (ev_eql rfl rfl) ?_
  refine GO_q rfl rfl (ev_pick_f rfl rfl rfl) ?_
  refine GO_nil ?_
  (repeat first | refine G_seq ?_ | refine G_skip ?_ | refine G_endblk ?_ | refine G_block ?_ | refine G_exit rfl ?_)
  refine G_cond_f rfl (decide_eq_false (by omega)) ?_
  (repeat first | refine G_seq ?_ | refine G_skip ?_ | refine G_endblk ?_ | refine G_block ?_ | refine G_exit rfl ?_)
  refine G_draw (.q 0 (.q 1 (.q 2 (.q 3 (.q 4 (.q 5 (.q 6 (.q 7 (.q 8 (.q 9 (.q 10 (.q 11 (.q 12 (.q 13 .nil)))))))))))))) (by kernel_rfl) (by kernel_rfl) ?_
  refine RS_m retB_noPanic rfl rfl rfl rfl (ev_move rfl) ?_
  (first | refine RS_m retB_noPanic rfl rfl rfl rfl (ev_nilCheck rfl) ?_ | refine RS_m retB_noPanic rfl rfl rfl rfl (ev_nilCheckF (by simp) rfl) ?_)
  refine RS_m retB_noPanic rfl rfl rfl rfl (ev_fieldAddr rfl) ?_
  refine RS_q retB_noPanic rfl rfl rfl rfl (ev_load rfl (by repeat' first | exact Ld.blk rfl | assumption | apply Ld.skip | apply Ld.app)) ?_
  refine RS_m retB_noPanic rfl rfl rfl rfl (ev_move rfl) ?_
  (first | refine RS_m retB_noPanic rfl rfl rfl rfl (ev_nilCheck rfl) ?_ | refine RS_m retB_noPanic rfl rfl rfl rfl (ev_nilCheckF (by simp) rfl) ?_)
  refine RS_m retB_noPanic rfl rfl rfl rfl (ev_fieldAddr rfl) ?_
  refine RS_q retB_noPanic rfl rfl rfl rfl (ev_load rfl (by repeat' first | exact Ld.blk rfl | assumption | apply Ld.skip | apply Ld.app)) ?_
  refine RS_q retB_noPanic rfl rfl rfl rfl (ev_len rfl) ?_
  (first | refine RS_m retB_noPanic rfl rfl rfl rfl (ev_subN (q := 1) rfl rfl (by first | omega | (simp; done) | (simp; omega))) ?_ | refine RS_m retB_noPanic rfl rfl rfl rfl (ev_sub rfl rfl (by first | omega | (simp; done) | (simp; omega))) ?_)
  (first | refine RS_m retB_noPanic rfl rfl rfl rfl (ev_indexAddrN rfl rfl (by first | omega | (simp; done) | (simp; omega))) ?_ | refine RS_m retB_noPanic rfl rfl rfl rfl (ev_indexAddr rfl rfl (by first | omega | (simp; done) | (simp; omega)) (by first | omega | (simp; done) | (simp; omega))) ?_)
  refine RS_q retB_noPanic rfl rfl rfl rfl (ev_load rfl (by repeat' first | exact Ld.blk rfl | assumption | apply Ld.skip | apply Ld.app)) ?_
  refine RS_m retB_noPanic rfl rfl rfl rfl (ev_assign rfl) ?_
  refine RS_m retB_noPanic rfl rfl rfl rfl (ev_assign rfl) ?_
  refine RS_nil ?_
  (repeat first | refine G_seq ?_ | refine G_skip ?_ | refine G_endblk ?_ | refine G_block ?_ | refine G_exit rfl ?_)
  refine G_ret rfl (.tmp rfl (.tmp rfl .nil)) (by (repeat first | exact fun _ s => s | apply en_keep | apply en_drop | apply en_app) <;> fail) ⟨rfl, rfl⟩
theorem pop_nil_ctr (b : Nat) (L : List HP) : Ctr Tryz.prog 119 #[.pointer (some ⟨b, 0, none⟩)] (stkS b 65536 [] :: L) fun v L' => v = .tuple #[.pointer none, .bool false] ∧ L' = stkS b 65536 [] :: L := by
  refine Ctr.stk fun A c h1 h2 h3 => ?_
  refine Ctr_of (fn := Tryz.f119) (n := 26) Tryz.func119 rfl rfl rfl ?_
  intro g F
  (repeat first | refine G_seq ?_ | refine G_skip ?_ | refine G_endblk ?_ | refine G_block ?_ | refine G_exit rfl ?_)
  refine G_region ?_
  refine GO_q rfl rfl (ev_assign rfl) ?_
  refine GO_q rfl rfl (ev_assign rfl) ?_
  refine GO_nil ?_
  (repeat first | refine G_seq ?_ | refine G_skip ?_ | refine G_endblk ?_ | refine G_block ?_ | refine G_exit rfl ?_)
  refine G_region ?_
  refine GO_q rfl rfl (ev_move rfl) ?_
  refine GO_eff rfl rfl (eff_call rfl (stop_nil_ctr b A c _ (LdN.skip (LdN.blk rfl)))) ?_; rintro _ _ ⟨rfl, rfl⟩
  refine GO_q rfl rfl (ev_move rfl) ?_
  refine GO_q rfl rfl (ev_extract rfl rfl) ?_
  refine GO_q rfl rfl (ev_extract rfl rfl) ?_
  refine GO_q rfl rfl (ev_assign rfl) ?_
  refine GO_q rfl rfl (ev_assign rfl) ?_
  refine GO_nil ?_
  (repeat first | refine G_seq ?_ | refine G_skip ?_ | refine G_endblk ?_ | refine G_block ?_ | refine G_exit rfl ?_)
  refine G_region ?_
  refine GO_q rfl rfl (ev_move rfl) ?_
  refine GO_nil ?_
  (repeat first | refine G_seq ?_ | refine G_skip ?_ | refine G_endblk ?_ | refine G_block ?_ | refine G_exit rfl ?_)
  refine G_cond_f rfl rfl ?_
  (repeat first | refine G_seq ?_ | refine G_skip ?_ | refine G_endblk ?_ | refine G_block ?_ | refine G_exit rfl ?_)
  refine G_region ?_
  refine GO_q rfl rfl (ev_move rfl) ?_
  refine GO_q rfl rfl (ev_move rfl) ?_
  refine GO_q rfl rfl (ev_assign rfl) ?_
  refine GO_q rfl rfl (ev_assign rfl) ?_
  refine GO_nil ?_
  (repeat first | refine G_seq ?_ | refine G_skip ?_ | refine G_endblk ?_ | refine G_block ?_ | refine G_exit rfl ?_)
  exact G_ret (L' := stkS b 65536 [] :: L) rfl (.tmp rfl (.tmp rfl .nil)) (by (repeat first | exact en_refl | apply en_stk h1 | (apply en_blk; focus ((repeat' first | exact Pick.here | apply Pick.skip | apply Pick.app); done); focus rfl) | (apply en_own; focus ((repeat' first | exact Pick.here | apply Pick.skip | apply Pick.app); done); focus rfl) | (apply en_pick; focus ((repeat' first | exact Pick.here | apply Pick.skip | apply Pick.app); done)) | apply en_drop | apply en_app) <;> fail) ⟨rfl, rfl⟩
theorem pop_ctr (b : Nat) (l : List IT) (x : IT) (L : List HP) (hb : l.length + 1 ≤ 65536) : Ctr Tryz.prog 119 #[.pointer (some ⟨b, 0, none⟩)] (stkS b 65536 (l ++ [x]) :: L) fun v L' => v = .tuple #[.pointer x.addr, .bool true] ∧ L' = stkS b 65536 l :: L := by
  refine Ctr.stk fun A c h1 h2 h3 => ?_
  have hlen : (l ++ [x]).length = l.length + 1 := by simp
  obtain ⟨ab, rfl⟩ := h1 (by omega)
  generalize hn : (l ++ [x]).length = n at *
  refine Ctr_of (fn := Tryz.f119) (n := 26) Tryz.func119 rfl rfl rfl ?_
  intro g F
  (repeat first | refine G_seq ?_ | refine G_skip ?_ | refine G_endblk ?_ | refine G_block ?_ | refine G_exit rfl ?_)
  refine G_region ?_
  refine GO_q rfl rfl (ev_assign rfl) ?_
  refine GO_q rfl rfl (ev_assign rfl) ?_
  refine GO_nil ?_
  (repeat first | refine G_seq ?_ | refine G_skip ?_ | refine G_endblk ?_ | refine G_block ?_ | refine G_exit rfl ?_)
  refine G_region ?_
  refine GO_q rfl rfl (ev_move rfl) ?_
  refine GO_eff rfl rfl (eff_call rfl (stop_ctr b (some ⟨ab, 0, none⟩) n c l x _ (LdN.skip (LdN.blk rfl)) (Rd.skip (Rd.skip (Rc.own (by rw [flat_length, hn]; rfl) (fun _ ↦ ⟨ab, rfl⟩)))) hlen (by omega))) ?_; rintro _ _ ⟨rfl, rfl⟩
  refine GO_q rfl rfl (ev_move rfl) ?_
  refine GO_q rfl rfl (ev_extract rfl rfl) ?_
  refine GO_q rfl rfl (ev_extract rfl rfl) ?_
  refine GO_q rfl rfl (ev_assign rfl) ?_
  refine GO_q rfl rfl (ev_assign rfl) ?_
  refine GO_nil ?_
  (repeat first | refine G_seq ?_ | refine G_skip ?_ | refine G_endblk ?_ | refine G_block ?_ | refine G_exit rfl ?_)
  refine G_region ?_
  refine GO_q rfl rfl (ev_move rfl) ?_
  refine GO_nil ?_
  (repeat first | refine G_seq ?_ | refine G_skip ?_ | refine G_endblk ?_ | refine G_block ?_ | refine G_exit rfl ?_)
  refine G_cond_t rfl rfl ?_
  (repeat first | refine G_seq ?_ | refine G_skip ?_ | refine G_endblk ?_ | refine G_block ?_ | refine G_exit rfl ?_)
  refine G_draw (.q 0 (.q 1 (.q 2 (.q 3 (.q 4 (.q 5 (.q 6 (.q 7 (.q 8 (.q 9 (.q 10 (.q 11 (.q 12 (.q 13 (.e 14 .nil))))))))))))))) (by kernel_rfl) (by kernel_rfl) ?_
  refine RS_m retB_noPanic rfl rfl rfl rfl (ev_move rfl) ?_
  refine RS_m retB_noPanic rfl rfl rfl rfl (ev_move rfl) ?_
  (first | refine RS_m retB_noPanic rfl rfl rfl rfl (ev_nilCheck rfl) ?_ | refine RS_m retB_noPanic rfl rfl rfl rfl (ev_nilCheckF (by simp) rfl) ?_)
  refine RS_m retB_noPanic rfl rfl rfl rfl (ev_fieldAddr rfl) ?_
  refine RS_q retB_noPanic rfl rfl rfl rfl (ev_load rfl (by repeat' first | exact Ld.blk rfl | assumption | apply Ld.skip | apply Ld.app)) ?_
  refine RS_m retB_noPanic rfl rfl rfl rfl (ev_move rfl) ?_
  (first | refine RS_m retB_noPanic rfl rfl rfl rfl (ev_nilCheck rfl) ?_ | refine RS_m retB_noPanic rfl rfl rfl rfl (ev_nilCheckF (by simp) rfl) ?_)
  refine RS_m retB_noPanic rfl rfl rfl rfl (ev_fieldAddr rfl) ?_
  refine RS_q retB_noPanic rfl rfl rfl rfl (ev_load rfl (by repeat' first | exact Ld.blk rfl | assumption | apply Ld.skip | apply Ld.app)) ?_
  refine RS_q retB_noPanic rfl rfl rfl rfl (ev_len rfl) ?_
  (first | refine RS_m retB_noPanic rfl rfl rfl rfl (ev_subN (q := 1) rfl rfl (by first | omega | (simp; done) | (simp; omega))) ?_ | refine RS_m retB_noPanic rfl rfl rfl rfl (ev_sub rfl rfl (by first | omega | (simp; done) | (simp; omega))) ?_)
  refine RS_q retB_noPanic rfl rfl rfl rfl (ev_sliceH rfl rfl (by first | omega | (simp; done) | (simp; omega))) ?_
  (first | refine RS_m retB_noPanic rfl rfl rfl rfl (ev_nilCheck rfl) ?_ | refine RS_m retB_noPanic rfl rfl rfl rfl (ev_nilCheckF (by simp) rfl) ?_)
  refine RS_m retB_noPanic rfl rfl rfl rfl (ev_fieldAddr rfl) ?_
  refine RS_e (RE_last (by kernel_rfl) rfl rfl rfl (eff_store rfl rfl rfl (by repeat' first | exact Upd.here rfl | apply Upd.skip | apply Upd.app)) ?_); rintro _ _ ⟨rfl, rfl⟩
  (repeat first | refine G_seq ?_ | refine G_skip ?_ | refine G_endblk ?_ | refine G_block ?_ | refine G_exit rfl ?_)
  refine G_region ?_
  refine GO_q rfl rfl (ev_move rfl) ?_
  refine GO_q rfl rfl (ev_move rfl) ?_
  refine GO_q rfl rfl (ev_assign rfl) ?_
  refine GO_q rfl rfl (ev_assign rfl) ?_
  refine GO_nil ?_
  (repeat first | refine G_seq ?_ | refine G_skip ?_ | refine G_endblk ?_ | refine G_block ?_ | refine G_exit rfl ?_)
  have e1 : n - 1 = l.length := by omega
  rw [e1]
  refine G_ret (L' := stkS b 65536 l :: L) rfl (.tmp rfl (.tmp rfl .nil)) ?_ ⟨rfl, rfl⟩
  apply en_pick
  focus ((repeat' first | exact Pick.here | apply Pick.skip | apply Pick.app); done)
  refine en_stk (c := c) (fun _ => ⟨ab, rfl⟩) ?_
  refine en_blk .here rfl ?_
  refine en_less .here (by omega) ?_ en_refl
  rw [flat_append]
  exact List.take_left' (flat_length _)
theorem push_ctr (b : Nat) (A : Option Addr) (m q : Nat) (l ys : List IT) (L : List HP) (hy : Rd L A m ys) (hb : l.length + m ≤ 65536) : Ctr Tryz.prog 122 #[.pointer (some ⟨b, 0, none⟩), .slice A m q] (stkS b 65536 l :: L) fun v L' => v = .tuple #[] ∧ L' = stkS b 65536 (l ++ ys) :: L := by
  have hm : ys.length = m := hy.len (by decide)
  refine Ctr.stk fun B c h1 h2 h3 => ?_
  refine Ctr_of (fn := Tryz.f122) (n := 32) Tryz.func122 rfl rfl rfl ?_
  intro g F
  (repeat first | refine G_seq ?_ | refine G_skip ?_ | refine G_endblk ?_ | refine G_block ?_ | refine G_exit rfl ?_)
  refine G_draw (.q 0 (.q 1 (.q 2 (.q 3 (.q 4 (.q 5 (.q 6 (.q 7 (.q 8 (.q 9 (.q 10 (.q 11 (.q 12 .nil))))))))))))) (by kernel_rfl) (by kernel_rfl) ?_
  refine RS_m retB_noPanic rfl rfl rfl rfl (ev_move rfl) ?_
  refine RS_q retB_noPanic rfl rfl rfl rfl (ev_len rfl) ?_
  refine RS_m retB_noPanic rfl rfl rfl rfl (ev_move rfl) ?_
  (first | refine RS_m retB_noPanic rfl rfl rfl rfl (ev_nilCheck rfl) ?_ | refine RS_m retB_noPanic rfl rfl rfl rfl (ev_nilCheckF (by simp) rfl) ?_)
  refine RS_m retB_noPanic rfl rfl rfl rfl (ev_fieldAddr rfl) ?_
  refine RS_q retB_noPanic rfl rfl rfl rfl (ev_load rfl (by repeat' first | exact Ld.blk rfl | assumption | apply Ld.skip | apply Ld.app)) ?_
  refine RS_m retB_noPanic rfl rfl rfl rfl (ev_move rfl) ?_
  (first | refine RS_m retB_noPanic rfl rfl rfl rfl (ev_nilCheck rfl) ?_ | refine RS_m retB_noPanic rfl rfl rfl rfl (ev_nilCheckF (by simp) rfl) ?_)
  refine RS_m retB_noPanic rfl rfl rfl rfl (ev_fieldAddr rfl) ?_
  refine RS_q retB_noPanic rfl rfl rfl rfl (ev_load rfl (by repeat' first | exact Ld.blk rfl | assumption | apply Ld.skip | apply Ld.app)) ?_
  refine RS_q retB_noPanic rfl rfl rfl rfl (ev_len rfl) ?_
  refine RS_m retB_noPanic rfl rfl rfl rfl (ev_sub rfl rfl (by omega)) ?_
  refine RS_m retB_noPanic rfl rfl rfl rfl (ev_gtr rfl rfl) ?_
  refine RS_nil ?_
  (repeat first | refine G_seq ?_ | refine G_skip ?_ | refine G_endblk ?_ | refine G_block ?_ | refine G_exit rfl ?_)
  refine G_cond_f rfl (decide_eq_false (by omega)) ?_
  (repeat first | refine G_seq ?_ | refine G_skip ?_ | refine G_endblk ?_ | refine G_block ?_ | refine G_exit rfl ?_)
  refine G_region ?_
  refine GO_q rfl rfl (ev_move rfl) ?_
  refine GO_q rfl rfl (ev_move rfl) ?_
  (first | refine GO_q rfl rfl (ev_nilCheck rfl) ?_ | refine GO_q rfl rfl (ev_nilCheckF (by simp) rfl) ?_)
  refine GO_q rfl rfl (ev_fieldAddr rfl) ?_
  refine GO_q rfl rfl (ev_load rfl (by repeat' first | exact Ld.blk rfl | assumption | apply Ld.skip | apply Ld.app)) ?_
  refine GO_q rfl rfl (ev_move rfl) ?_
  refine GO_eff rfl rfl (eff_append rfl rfl (by repeat' first | exact Pick.here | apply Pick.skip) ((by repeat' first | exact hy | apply Rc.skip)) ((flat_one _)) (by rfl) (by decide) (by first | omega | (simp; done) | (simp; omega)) (by first | omega | (simp; done) | (simp; omega))) ?_; rintro _ _ ⟨A29, c29, rfl, hc29, hm29, hn29, rfl⟩
  (first | refine GO_q rfl rfl (ev_nilCheck rfl) ?_ | refine GO_q rfl rfl (ev_nilCheckF (by simp) rfl) ?_)
  refine GO_q rfl rfl (ev_fieldAddr rfl) ?_
  refine GO_eff rfl rfl (eff_store rfl rfl rfl (by repeat' first | exact Upd.here rfl | apply Upd.skip | apply Upd.app)) ?_; rintro _ _ ⟨rfl, rfl⟩
  refine GO_nil ?_
  (repeat first | refine G_seq ?_ | refine G_skip ?_ | refine G_endblk ?_ | refine G_block ?_ | refine G_exit rfl ?_)
  have e1 : l.length + m = (l ++ ys).length := by rw [List.length_append, hm]
  rw [e1] at hn29 ⊢
  refine G_end (L' := stkS b 65536 (l ++ ys) :: L) rfl .nil ?_ ⟨rfl, rfl⟩
  apply en_pick
  focus ((repeat' first | exact Pick.here | apply Pick.skip | apply Pick.app); done)
  refine en_stk (c := c29) hn29 ?_
  rw [flat_append]
  exact (by (repeat first | exact en_refl | (apply en_blk; focus ((repeat' first | exact Pick.here | apply Pick.skip | apply Pick.app); done); focus rfl) | (apply en_own; focus ((repeat' first | exact Pick.here | apply Pick.skip | apply Pick.app); done); focus rfl) | (apply en_pick; focus ((repeat' first | exact Pick.here | apply Pick.skip | apply Pick.app); done)) | apply en_drop | apply en_app) <;> fail)
theorem push1_ctr (b2 b3 b : Nat) (A : Option Addr) (m q : Nat) (l ys : List IT) (L : List HP) (h2 : Ld L ⟨b2, 0, none⟩ (.pointer (some ⟨b, 0, none⟩))) (h3 : Ld L ⟨b3, 0, none⟩ (.slice A m q)) (hy : Rd L A m ys) (hb : l.length + m ≤ 65536) :
    Ctr Tryz.prog 124 #[.pointer (some ⟨b2, 0, none⟩), .pointer (some ⟨b3, 0, none⟩)] (stkS b 65536 l :: L) fun v L' => L' = stkS b 65536 (l ++ ys) :: L := by
  refine Ctr_of (fn := Tryz.f124) (n := 5) Tryz.func124 rfl rfl rfl ?_
  intro g F
  (repeat first | refine G_seq ?_ | refine G_skip ?_ | refine G_endblk ?_ | refine G_block ?_ | refine G_exit rfl ?_)
  refine G_region ?_
  refine GO_q rfl rfl (ev_load rfl (by repeat' first | exact Ld.blk rfl | assumption | apply Ld.skip | apply Ld.app)) ?_
  refine GO_q rfl rfl (ev_load rfl (by repeat' first | exact Ld.blk rfl | assumption | apply Ld.skip | apply Ld.app)) ?_
  refine GO_eff rfl rfl (eff_call rfl (Ctr.pick (by repeat' first | exact Pick.here | apply Pick.skip | apply Pick.app) (push_ctr b A m q l ys _ (by repeat' first | exact hy | apply Rd.skip) hb))) ?_; rintro _ _ ⟨rfl, rfl⟩
  refine GO_nil ?_
  (repeat first | refine G_seq ?_ | refine G_skip ?_ | refine G_endblk ?_ | refine G_block ?_ | refine G_exit rfl ?_)
  exact G_end (L' := stkS b 65536 (l ++ ys) :: L) rfl .nil (by (repeat first | exact en_refl | (apply en_blk; focus ((repeat' first | exact Pick.here | apply Pick.skip | apply Pick.app); done); focus rfl) | (apply en_own; focus ((repeat' first | exact Pick.here | apply Pick.skip | apply Pick.app); done); focus rfl) | (apply en_pick; focus ((repeat' first | exact Pick.here | apply Pick.skip | apply Pick.app); done)) | apply en_drop | apply en_app) <;> fail) rfl
theorem Push_ctr (b : Nat) (A : Option Addr) (m q : Nat) (l ys : List IT) (L : List HP) (hy : Rd L A m ys) (hb : l.length + m ≤ 65536) : Ctr Tryz.prog 97 #[.pointer (some ⟨b, 0, none⟩), .slice A m q] (stkS b 65536 l :: L) fun v L' => v = .int .i64 0 ∧ L' = stkS b 65536 (l ++ ys) :: L := by
  refine Ctr_of (fn := Tryz.f97) (n := 16) Tryz.func97 rfl rfl rfl ?_
  intro g F
  (repeat first | refine G_seq ?_ | refine G_skip ?_ | refine G_endblk ?_ | refine G_block ?_ | refine G_exit rfl ?_)
  refine G_region ?_
  refine GO_eff rfl rfl (eff_box rfl) ?_; rintro _ _ ⟨b2, rfl, rfl⟩
  refine GO_eff rfl rfl (eff_box rfl) ?_; rintro _ _ ⟨b3, rfl, rfl⟩
  refine GO_q rfl rfl (ev_assign rfl) ?_
  refine GO_nil ?_
  (repeat first | refine G_seq ?_ | refine G_skip ?_ | refine G_endblk ?_ | refine G_block ?_ | refine G_exit rfl ?_)
  refine G_region ?_
  refine GO_q rfl rfl (ev_load rfl (by repeat' first | exact Ld.blk rfl | assumption | apply Ld.skip | apply Ld.app)) ?_
  (first | refine GO_q rfl rfl (ev_eqlNil rfl rfl) ?_ | refine GO_q rfl rfl (ev_eqlPtr rfl rfl) ?_)
  refine GO_nil ?_
  (repeat first | refine G_seq ?_ | refine G_skip ?_ | refine G_endblk ?_ | refine G_block ?_ | refine G_exit rfl ?_)
  refine G_cond_f rfl rfl ?_
  (repeat first | refine G_seq ?_ | refine G_skip ?_ | refine G_endblk ?_ | refine G_block ?_ | refine G_exit rfl ?_)
  refine G_region ?_
  refine GO_q rfl rfl (ev_makeFunc rfl rfl) ?_
  refine GO_eff rfl rfl (eff_call rfl (Ctr.pick (by repeat' first | exact Pick.here | apply Pick.skip | apply Pick.app) (Catch_ctr (c1 := []) (c2 := [.pointer (some ⟨b2, 0, none⟩), .pointer (some ⟨b3, 0, none⟩)]) (post := fun L' => L' = stkS b 65536 (l ++ ys) :: blk b3 59 [.slice A m q] :: blk b2 80 [.pointer (some ⟨b, 0, none⟩)] :: F :: L) (push1_ctr b2 b3 b A m q l ys _ (Ld.skip (Ld.blk rfl)) (Ld.blk rfl) (by repeat' first | exact hy | apply Rd.skip) hb)))) ?_; rintro _ _ ⟨rfl, rfl⟩
  refine GO_q rfl rfl (ev_move rfl) ?_
  refine GO_q rfl rfl (ev_extract rfl rfl) ?_
  refine GO_q rfl rfl (ev_extract rfl rfl) ?_
  refine GO_eff rfl rfl eff_alloc ?_; rintro _ _ ⟨b5, rfl, rfl⟩
  refine GO_eff rfl rfl (eff_storeN rfl rfl rfl rfl (by repeat' first | exact Upd.here rfl | apply Upd.skip | apply Upd.app)) ?_; rintro _ _ ⟨rfl, rfl⟩
  refine GO_q rfl rfl (ev_assign rfl) ?_
  refine GO_nil ?_
  (repeat first | refine G_seq ?_ | refine G_skip ?_ | refine G_endblk ?_ | refine G_block ?_ | refine G_exit rfl ?_)
  refine G_region ?_
  refine GO_q rfl rfl (ev_fieldAddr rfl) ?_
  refine GO_q rfl rfl (ev_load rfl (by repeat' first | exact Ld.blk rfl | assumption | apply Ld.skip | apply Ld.app)) ?_
  refine GO_q rfl rfl (ev_assign rfl) ?_
  refine GO_nil ?_
  (repeat first | refine G_seq ?_ | refine G_skip ?_ | refine G_endblk ?_ | refine G_block ?_ | refine G_exit rfl ?_)
  exact G_ret (L' := stkS b 65536 (l ++ ys) :: L) rfl (.tmp rfl .nil) (by (repeat first | exact en_refl | (apply en_blk; focus ((repeat' first | exact Pick.here | apply Pick.skip | apply Pick.app); done); focus rfl) | (apply en_own; focus ((repeat' first | exact Pick.here | apply Pick.skip | apply Pick.app); done); focus rfl) | (apply en_pick; focus ((repeat' first | exact Pick.here | apply Pick.skip | apply Pick.app); done)) | apply en_drop | apply en_app) <;> fail) ⟨rfl, rfl⟩
/-! What is visited. -/
theorem KClone_ctr (A : Option Addr) (n c : Nat) (l : List IT) (L : List HP) (hl : Rd L A n l) (hn : n ≤ 1000000) :
    Ctr Tryz.prog 120 #[.slice A n c] L fun v L' => Made 52 l L v L' := by
  have h1 : l.length = n := hl.len (by decide)
  refine Ctr_of (fn := Tryz.f120) (n := 8) Tryz.func120 rfl rfl rfl ?_
  intro g F
  (repeat first | refine G_seq ?_ | refine G_skip ?_ | refine G_endblk ?_ | refine G_block ?_ | refine G_exit rfl ?_)
  refine G_region ?_
  refine GO_q rfl rfl (ev_assign rfl) ?_
  refine GO_nil ?_
  (repeat first | refine G_seq ?_ | refine G_skip ?_ | refine G_endblk ?_ | refine G_block ?_ | refine G_exit rfl ?_)
  refine G_region ?_
  refine GO_q rfl rfl (ev_move rfl) ?_
  refine GO_q rfl rfl (ev_eqlNilS rfl rfl) ?_
  refine GO_nil ?_
  (repeat first | refine G_seq ?_ | refine G_skip ?_ | refine G_endblk ?_ | refine G_block ?_ | refine G_exit rfl ?_)
  refine G_condB rfl (fun h2 => ?_) (fun h2 => ?_)
  · have e : A = none := by simpa using h2
    subst e
    have h3 : n = 0 := by
      rcases Nat.eq_zero_or_pos n with h | h
      · exact h
      · obtain ⟨b, o, e, _⟩ := hl.at_ h; cases e
    subst h3
    have : l = [] := List.eq_nil_of_length_eq_zero h1
    subst this
    (repeat first | refine G_seq ?_ | refine G_skip ?_ | refine G_endblk ?_ | refine G_block ?_ | refine G_exit rfl ?_)
    refine G_region ?_
    refine GO_q rfl rfl (ev_assign rfl) ?_
    refine GO_nil ?_
    (repeat first | refine G_seq ?_ | refine G_skip ?_ | refine G_endblk ?_ | refine G_block ?_ | refine G_exit rfl ?_)
    refine G_ret (L' := own 52 1 none 0 0 [] :: L) rfl (.tmp rfl .nil) ?_ ⟨none, 0, rfl, fun h => absurd h (Nat.lt_irrefl 0), rfl⟩
    exact fun h s => (own.nil_ 52 1 h s).swap
  · (repeat first | refine G_seq ?_ | refine G_skip ?_ | refine G_endblk ?_ | refine G_block ?_ | refine G_exit rfl ?_)
    refine G_region ?_
    refine GO_eff rfl rfl eff_buildSlice0 ?_; rintro _ _ ⟨b5, rfl, rfl⟩
    refine GO_q rfl rfl (ev_move rfl) ?_
    refine GO_eff rfl rfl (eff_append rfl rfl (by repeat' first | exact Pick.here | apply Pick.skip) (Rc.skip (Rc.skip hl)) ((flat_one _)) (by rfl) (by decide) (by first | omega | (simp; done) | (simp; omega)) (by first | omega | (simp; done) | (simp; omega))) ?_; rintro _ _ ⟨A7, c7, rfl, hc7, hm7, hn7, rfl⟩
    refine GO_q rfl rfl (ev_assign rfl) ?_
    refine GO_nil ?_
    rw [Nat.zero_add] at hc7 hn7
    (repeat first | refine G_seq ?_ | refine G_skip ?_ | refine G_endblk ?_ | refine G_block ?_ | refine G_exit rfl ?_)
    refine G_ret (L' := own 52 1 A7 l.length c7 (flat l) :: L) rfl (.tmp rfl .nil) ?_ ⟨A7, c7, by rw [h1]; simp [retv], by rw [h1]; exact hn7, rfl⟩
    rw [h1, Nat.zero_add, List.nil_append]
    refine en_pick (.skip (.here)) ?_
    refine en_pick (.here) ?_
    exact (by (repeat first | exact fun _ s => s | apply en_keep | apply en_drop | apply en_app) <;> fail)
theorem KReverse_ctr (A : Option Addr) (c : Nat) (l : List IT) (L : List HP) (hA : 0 < l.length → ∃ b, A = some ⟨b, 0, none⟩) (h2 : l.length ≤ 2) :
    Ctr Tryz.prog 121 #[.slice A l.length c] (own 52 1 A l.length c (flat l) :: L) fun v L' => v = .tuple #[] ∧ L' = own 52 1 A l.length c (flat l.reverse) :: L := by
  match l, h2, hA with
  | [], _, hA =>
    refine Ctr_of (fn := Tryz.f121) (n := 28) Tryz.func121 rfl rfl rfl ?_
    intro g F
    (repeat first | refine G_seq ?_ | refine G_skip ?_ | refine G_endblk ?_ | refine G_block ?_ | refine G_exit rfl ?_)
    refine G_region ?_
    refine GO_q rfl rfl (ev_move rfl) ?_
    refine GO_q rfl rfl (ev_len rfl) ?_
    (first | refine GO_q rfl rfl (ev_subN (q := 1) rfl rfl (by first | omega | (simp; done) | (simp; omega))) ?_ | refine GO_q rfl rfl (ev_sub rfl rfl (by first | omega | (simp; done) | (simp; omega))) ?_)
    refine GO_q rfl rfl (ev_assign rfl) ?_
    refine GO_q rfl rfl (ev_assign rfl) ?_
    refine GO_nil ?_
    (repeat first | refine G_seq ?_ | refine G_skip ?_ | refine G_endblk ?_ | refine G_block ?_ | refine G_exit rfl ?_)
    refine G_loop (ι := Unit) (fun _ => [(0, .slice A ([] : List IT).length c), (2, .int .i64 0), (3, .int .i64 (-1))]) (fun _ => F :: own 52 1 A ([] : List IT).length c (flat ([] : List IT)) :: L) (fun _ => True) (fun _ => 0) () trivial ⟨rfl, rfl, rfl, trivial⟩ en_refl ?_
    intro _ _
    (repeat first | refine G_seq ?_ | refine G_skip ?_ | refine G_endblk ?_ | refine G_block ?_ | refine G_exit rfl ?_)
    refine G_region ?_
    refine GO_q rfl rfl (ev_move rfl) ?_
    refine GO_q rfl rfl (ev_move rfl) ?_
    (first | refine GO_q rfl rfl (ev_lssN rfl rfl) ?_ | refine GO_q rfl rfl (ev_lss rfl rfl) ?_)
    refine GO_nil ?_
    (repeat first | refine G_seq ?_ | refine G_skip ?_ | refine G_endblk ?_ | refine G_block ?_ | refine G_exit rfl ?_)
    refine G_cond_f rfl rfl ?_
    (repeat first | refine G_seq ?_ | refine G_skip ?_ | refine G_endblk ?_ | refine G_block ?_ | refine G_exit rfl ?_)
    exact G_end (L' := own 52 1 A ([] : List IT).length c (flat ([] : List IT).reverse) :: L) rfl .nil en_refl ⟨rfl, rfl⟩
  | [x], _, hA =>
    refine Ctr_of (fn := Tryz.f121) (n := 28) Tryz.func121 rfl rfl rfl ?_
    intro g F
    (repeat first | refine G_seq ?_ | refine G_skip ?_ | refine G_endblk ?_ | refine G_block ?_ | refine G_exit rfl ?_)
    refine G_region ?_
    refine GO_q rfl rfl (ev_move rfl) ?_
    refine GO_q rfl rfl (ev_len rfl) ?_
    (first | refine GO_q rfl rfl (ev_subN (q := 1) rfl rfl (by first | omega | (simp; done) | (simp; omega))) ?_ | refine GO_q rfl rfl (ev_sub rfl rfl (by first | omega | (simp; done) | (simp; omega))) ?_)
    refine GO_q rfl rfl (ev_assign rfl) ?_
    refine GO_q rfl rfl (ev_assign rfl) ?_
    refine GO_nil ?_
    (repeat first | refine G_seq ?_ | refine G_skip ?_ | refine G_endblk ?_ | refine G_block ?_ | refine G_exit rfl ?_)
    refine G_loop (ι := Unit) (fun _ => [(0, .slice A [x].length c), (2, .int .i64 0), (3, .int .i64 0)]) (fun _ => F :: own 52 1 A [x].length c (flat [x]) :: L) (fun _ => True) (fun _ => 0) () trivial ⟨rfl, rfl, rfl, trivial⟩ en_refl ?_
    intro _ _
    (repeat first | refine G_seq ?_ | refine G_skip ?_ | refine G_endblk ?_ | refine G_block ?_ | refine G_exit rfl ?_)
    refine G_region ?_
    refine GO_q rfl rfl (ev_move rfl) ?_
    refine GO_q rfl rfl (ev_move rfl) ?_
    (first | refine GO_q rfl rfl (ev_lssN rfl rfl) ?_ | refine GO_q rfl rfl (ev_lss rfl rfl) ?_)
    refine GO_nil ?_
    (repeat first | refine G_seq ?_ | refine G_skip ?_ | refine G_endblk ?_ | refine G_block ?_ | refine G_exit rfl ?_)
    refine G_cond_f rfl rfl ?_
    (repeat first | refine G_seq ?_ | refine G_skip ?_ | refine G_endblk ?_ | refine G_block ?_ | refine G_exit rfl ?_)
    exact G_end (L' := own 52 1 A [x].length c (flat [x].reverse) :: L) rfl .nil en_refl ⟨rfl, rfl⟩
  | [x, y], _, hA =>
    obtain ⟨ab, rfl⟩ := hA (by simp)
    refine Ctr_of (fn := Tryz.f121) (n := 28) Tryz.func121 rfl rfl rfl ?_
    intro g F
    refine G_heap (L' := own 52 1 (some ⟨ab, 0, none⟩) 2 c [.pointer x.addr, .pointer y.addr] :: F :: L) (fun _ s => s.swap) ?_
    refine G_open (ι := List Value) (F := fun r => (Value.pointer x.addr :: .pointer y.addr :: r).length = c * 1 ∧ 2 ≤ c ∧ c ≤ maxLen) (N := fun r => [blk ab 52 (.pointer x.addr :: .pointer y.addr :: r)]) (fun h o => by
      obtain ⟨cs, hb, hl, ht⟩ := o.opn
      have e : cs = .pointer x.addr :: .pointer y.addr :: cs.drop 2 := by
        have := List.take_append_drop 2 cs
        rw [show (2 * 1) = 2 from rfl] at ht
        rw [ht] at this
        exact this.symm
      exact ⟨cs.drop 2, ⟨by rw [← e]; exact hl, o.le, o.cap⟩, sat.one (e ▸ hb)⟩) ?_
    rintro r ⟨k1, k2, k3⟩
    refine G_heap (L' := F :: blk ab 52 (.pointer x.addr :: .pointer y.addr :: r) :: L) (fun _ s => s.swap) ?_
    (repeat first | refine G_seq ?_ | refine G_skip ?_ | refine G_endblk ?_ | refine G_block ?_ | refine G_exit rfl ?_)
    refine G_region ?_
    refine GO_q rfl rfl (ev_move rfl) ?_
    refine GO_q rfl rfl (ev_len rfl) ?_
    (first | refine GO_q rfl rfl (ev_subN (q := 1) rfl rfl (by first | omega | (simp; done) | (simp; omega))) ?_ | refine GO_q rfl rfl (ev_sub rfl rfl (by first | omega | (simp; done) | (simp; omega))) ?_)
    refine GO_q rfl rfl (ev_assign rfl) ?_
    refine GO_q rfl rfl (ev_assign rfl) ?_
    refine GO_nil ?_
    (repeat first | refine G_seq ?_ | refine G_skip ?_ | refine G_endblk ?_ | refine G_block ?_ | refine G_exit rfl ?_)
    refine G_loop (ι := List Value × Nat × Nat) (fun z => [(0, .slice (some ⟨ab, 0, none⟩) 2 c), (2, .int .i64 (z.2.1 : Nat)), (3, .int .i64 (z.2.2 : Nat))]) (fun z => F :: blk ab 52 z.1 :: L) (fun z => z = (.pointer x.addr :: .pointer y.addr :: r, 0, 1) ∨ z = (.pointer y.addr :: .pointer x.addr :: r, 1, 0)) (fun z => z.2.2) (.pointer x.addr :: .pointer y.addr :: r, 0, 1) (.inl rfl) ⟨rfl, rfl, rfl, trivial⟩ en_refl ?_
    rintro z (rfl | rfl)
    · dsimp only
      (repeat first | refine G_seq ?_ | refine G_skip ?_ | refine G_endblk ?_ | refine G_block ?_ | refine G_exit rfl ?_)
      refine G_region ?_
      refine GO_q rfl rfl (ev_move rfl) ?_
      refine GO_q rfl rfl (ev_move rfl) ?_
      (first | refine GO_q rfl rfl (ev_lssN rfl rfl) ?_ | refine GO_q rfl rfl (ev_lss rfl rfl) ?_)
      refine GO_nil ?_
      (repeat first | refine G_seq ?_ | refine G_skip ?_ | refine G_endblk ?_ | refine G_block ?_ | refine G_exit rfl ?_)
      refine G_cond_t rfl rfl ?_
      (repeat first | refine G_seq ?_ | refine G_skip ?_ | refine G_endblk ?_ | refine G_block ?_ | refine G_exit rfl ?_)
      refine G_draw (.q 0 (.q 1 (.q 2 (.q 3 (.q 4 (.q 5 (.q 6 (.q 7 (.q 8 (.q 9 (.q 10 (.q 11 (.q 12 (.e 13 (.q 14 (.e 15 .nil)))))))))))))))) (by kernel_rfl) (by kernel_rfl) ?_
      refine RS_m retB_noPanic rfl rfl rfl rfl (ev_move rfl) ?_
      refine RS_m retB_noPanic rfl rfl rfl rfl (ev_move rfl) ?_
      refine RS_m retB_noPanic rfl rfl rfl rfl (ev_move rfl) ?_
      refine RS_m retB_noPanic rfl rfl rfl rfl (ev_move rfl) ?_
      refine RS_m retB_noPanic rfl rfl rfl rfl (ev_move rfl) ?_
      refine RS_m retB_noPanic rfl rfl rfl rfl (ev_move rfl) ?_
      (first | refine RS_m retB_noPanic rfl rfl rfl rfl (ev_indexAddrN rfl rfl (by first | omega | (simp; done) | (simp; omega))) ?_ | refine RS_m retB_noPanic rfl rfl rfl rfl (ev_indexAddr rfl rfl (by first | omega | (simp; done) | (simp; omega)) (by first | omega | (simp; done) | (simp; omega))) ?_)
      refine RS_q retB_noPanic rfl rfl rfl rfl (ev_load rfl (by repeat' first | exact Ld.blk rfl | assumption | apply Ld.skip | apply Ld.app)) ?_
      refine RS_m retB_noPanic rfl rfl rfl rfl (ev_move rfl) ?_
      refine RS_m retB_noPanic rfl rfl rfl rfl (ev_move rfl) ?_
      (first | refine RS_m retB_noPanic rfl rfl rfl rfl (ev_indexAddrN rfl rfl (by first | omega | (simp; done) | (simp; omega))) ?_ | refine RS_m retB_noPanic rfl rfl rfl rfl (ev_indexAddr rfl rfl (by first | omega | (simp; done) | (simp; omega)) (by first | omega | (simp; done) | (simp; omega))) ?_)
      refine RS_q retB_noPanic rfl rfl rfl rfl (ev_load rfl (by repeat' first | exact Ld.blk rfl | assumption | apply Ld.skip | apply Ld.app)) ?_
      (first | refine RS_m retB_noPanic rfl rfl rfl rfl (ev_indexAddrN rfl rfl (by first | omega | (simp; done) | (simp; omega))) ?_ | refine RS_m retB_noPanic rfl rfl rfl rfl (ev_indexAddr rfl rfl (by first | omega | (simp; done) | (simp; omega)) (by first | omega | (simp; done) | (simp; omega))) ?_)
      refine RS_e (RE_cmp (by kernel_rfl) rfl rfl rfl (eff_store rfl rfl rfl (by repeat' first | exact Upd.here rfl | apply Upd.skip | apply Upd.app)) ?_); rintro _ _ ⟨rfl, rfl⟩
      (first | refine RS_m retB_noPanic rfl rfl rfl rfl (ev_indexAddrN rfl rfl (by first | omega | (simp; done) | (simp; omega))) ?_ | refine RS_m retB_noPanic rfl rfl rfl rfl (ev_indexAddr rfl rfl (by first | omega | (simp; done) | (simp; omega)) (by first | omega | (simp; done) | (simp; omega))) ?_)
      refine RS_e (RE_last (by kernel_rfl) rfl rfl rfl (eff_store rfl rfl rfl (by repeat' first | exact Upd.here rfl | apply Upd.skip | apply Upd.app)) ?_); rintro _ _ ⟨rfl, rfl⟩
      (repeat first | refine G_seq ?_ | refine G_skip ?_ | refine G_endblk ?_ | refine G_block ?_ | refine G_exit rfl ?_)
      refine G_region ?_
      refine GO_q rfl rfl (ev_move rfl) ?_
      (first | refine GO_q rfl rfl (ev_addN (q := 1) rfl rfl (by first | omega | (simp; done) | (simp; omega))) ?_ | refine GO_q rfl rfl (ev_add rfl rfl (by first | omega | (simp; done) | (simp; omega))) ?_)
      refine GO_q rfl rfl (ev_move rfl) ?_
      (first | refine GO_q rfl rfl (ev_subN (q := 1) rfl rfl (by first | omega | (simp; done) | (simp; omega))) ?_ | refine GO_q rfl rfl (ev_sub rfl rfl (by first | omega | (simp; done) | (simp; omega))) ?_)
      refine GO_q rfl rfl (ev_assign rfl) ?_
      refine GO_q rfl rfl (ev_assign rfl) ?_
      refine GO_nil ?_
      (repeat first | refine G_seq ?_ | refine G_skip ?_ | refine G_endblk ?_ | refine G_block ?_ | refine G_exit rfl ?_)
      exact G_round (.pointer y.addr :: .pointer x.addr :: r, 1, 0) (.inr rfl) (Nat.zero_lt_one) ⟨rfl, rfl, rfl, trivial⟩ (by dsimp only; rw [sw2]; exact (by (repeat first | exact en_refl | (apply en_blk; focus ((repeat' first | exact Pick.here | apply Pick.skip | apply Pick.app); done); focus rfl) | (apply en_own; focus ((repeat' first | exact Pick.here | apply Pick.skip | apply Pick.app); done); focus rfl) | (apply en_pick; focus ((repeat' first | exact Pick.here | apply Pick.skip | apply Pick.app); done)) | apply en_drop | apply en_app) <;> fail))
    · dsimp only
      (repeat first | refine G_seq ?_ | refine G_skip ?_ | refine G_endblk ?_ | refine G_block ?_ | refine G_exit rfl ?_)
      refine G_region ?_
      refine GO_q rfl rfl (ev_move rfl) ?_
      refine GO_q rfl rfl (ev_move rfl) ?_
      (first | refine GO_q rfl rfl (ev_lssN rfl rfl) ?_ | refine GO_q rfl rfl (ev_lss rfl rfl) ?_)
      refine GO_nil ?_
      (repeat first | refine G_seq ?_ | refine G_skip ?_ | refine G_endblk ?_ | refine G_block ?_ | refine G_exit rfl ?_)
      refine G_cond_f rfl rfl ?_
      (repeat first | refine G_seq ?_ | refine G_skip ?_ | refine G_endblk ?_ | refine G_block ?_ | refine G_exit rfl ?_)
      refine G_end (L' := own 52 1 (some ⟨ab, 0, none⟩) 2 c [.pointer y.addr, .pointer x.addr] :: L) rfl .nil (en_keep ?_) ⟨rfl, rfl⟩
      exact own_of1 k1 k2 k3
def funcB (P : Program) (T : TypeId) : Bool := match P.underlying T with
  | some (.func _ _ _) => true
  | _ => false
class FuncT (P : Program) (T : TypeId) : Prop where
  h : funcB P T = true
theorem FuncT.spec {P : Program} {T : TypeId} (H : FuncT P T) : ∃ a b c, P.underlying T = some (.func a b c) := by
  have h := H.h
  unfold funcB at h
  split at h
  · exact ⟨_, _, _, by assumption⟩
  · cases h
theorem ev_eqlNilF {P : Program} {L : List HP} {σ : Env} {d : Option Nat} {ty T T' : TypeId} {pos : String} {aft : Array Edge} {gd : Option (Nat × Bool)} {x y : Operand} {f : Fn} {a b : Array Value} [H : FuncT P T] (hx : ev σ x = some (.func f a b)) (hy : ev σ y = some .nilFunc) : Ev P L σ ⟨d, .binOp .eql T x y T', ty, pos, aft, gd⟩ (.bool false) :=
  bin_run' _ _ _ _ (fun w => by unfold eqGuard; split <;> rfl) hx hy fun w => by
    obtain ⟨_, _, _, he⟩ := H.spec
    have h2 : (Op.equal T (.func f a b) .nilFunc).run P w = .ok false w := by
      unfold Op.equal
      rw [show Op.maxDepth = 9999 + 1 from rfl]
      unfold Op.equalIn
      simp only [Sem.run_bind, run_underlying he, Result.andThen_ok]
      rfl
    show ((do pure (.bool (← Op.equal T (.func f a b) .nilFunc)) : Sem Value)).run P w = _
    simp only [Sem.run_bind, h2, Result.andThen_ok, Sem.run_pure]
instance : FuncT Tryz.prog 83 := ⟨by kernel_rfl⟩
/-- What looks at nodes: what it has, which ones it tells, what it has then; and what is still to come. -/
structure Vis (S : Type) where
  V : S → HP
  ok : IT → S → Prop
  kids : IT → List IT
  upd : IT → S → S
  f : FuncId
  c1 : List Value
  c2 : List Value
  I : List IT → S → Nat → Prop
structure Vis.Good {S : Type} (X : Vis S) (L : List HP) : Prop where
  cal : CalT Tryz.prog X.f
  visit : ∀ (M : List HP) (x : IT) (st : S), (∀ h, sat M h → sat L h) → X.ok x st → Ctr Tryz.prog X.f (X.c1 ++ [Value.pointer x.addr] ++ X.c2).toArray (X.V st :: M) fun v L' => Made 52 (X.kids x) (X.V (X.upd x st) :: M) v L'
  next : ∀ (l : List IT) (x : IT) (st : S) (r : Nat), X.I (l ++ [x]) st r → ∃ r', r = r' + 1 ∧ X.I (l ++ (X.kids x).reverse) (X.upd x st) r'
  stop : ∀ (st : S) (r : Nat), X.I [] st r → r = 0
  cap : ∀ (l : List IT) (st : S) (r : Nat), X.I l st r → l.length ≤ 60000 ∧ ∀ x ∈ l, X.ok x st ∧ (X.kids x).length ≤ 2
@[reducible] def wkC {S : Type} (X : Vis S) (s n : Nat) : List Value := [.pointer (some ⟨s, 0, none⟩), .func (.func X.f) X.c1.toArray X.c2.toArray, .int .i64 (n : Nat)]
theorem wstep_nil_ctr {S : Type} (X : Vis S) (bw s n : Nat) (L : List HP) : Ctr Tryz.prog 93 #[.pointer (some ⟨bw, 0, none⟩)] (blk bw 109 (wkC X s n) :: stkS s 65536 [] :: L) fun v L' => v = .bool false ∧ L' = blk bw 109 (wkC X s n) :: stkS s 65536 [] :: L := by
  refine Ctr_of (fn := Tryz.f93) (n := 38) Tryz.func93 rfl rfl rfl ?_
  intro g F
  (repeat first | refine G_seq ?_ | refine G_skip ?_ | refine G_endblk ?_ | refine G_block ?_ | refine G_exit rfl ?_)
  refine G_region ?_
  refine GO_q rfl rfl (ev_assign rfl) ?_
  refine GO_nil ?_
  (repeat first | refine G_seq ?_ | refine G_skip ?_ | refine G_endblk ?_ | refine G_block ?_ | refine G_exit rfl ?_)
  refine G_region ?_
  refine GO_q rfl rfl (ev_move rfl) ?_
  (first | refine GO_q rfl rfl (ev_nilCheck rfl) ?_ | refine GO_q rfl rfl (ev_nilCheckF (by simp) rfl) ?_)
  refine GO_q rfl rfl (ev_fieldAddr rfl) ?_
  refine GO_q rfl rfl (ev_load rfl (by repeat' first | exact Ld.blk rfl | assumption | apply Ld.skip | apply Ld.app)) ?_
  refine GO_eff rfl rfl (eff_call rfl (Ctr.pick (by repeat' first | exact Pick.here | apply Pick.skip | apply Pick.app) (pop_nil_ctr s _))) ?_; rintro _ _ ⟨rfl, rfl⟩
  refine GO_q rfl rfl (ev_move rfl) ?_
  refine GO_q rfl rfl (ev_extract rfl rfl) ?_
  refine GO_q rfl rfl (ev_extract rfl rfl) ?_
  refine GO_q rfl rfl (ev_assign rfl) ?_
  refine GO_q rfl rfl (ev_assign rfl) ?_
  refine GO_nil ?_
  (repeat first | refine G_seq ?_ | refine G_skip ?_ | refine G_endblk ?_ | refine G_block ?_ | refine G_exit rfl ?_)
  refine G_region ?_
  refine GO_q rfl rfl (ev_move rfl) ?_
  refine GO_q rfl rfl (ev_not rfl) ?_
  refine GO_nil ?_
  (repeat first | refine G_seq ?_ | refine G_skip ?_ | refine G_endblk ?_ | refine G_block ?_ | refine G_exit rfl ?_)
  refine G_cond_t rfl rfl ?_
  (repeat first | refine G_seq ?_ | refine G_skip ?_ | refine G_endblk ?_ | refine G_block ?_ | refine G_exit rfl ?_)
  refine G_region ?_
  refine GO_q rfl rfl (ev_assign rfl) ?_
  refine GO_nil ?_
  (repeat first | refine G_seq ?_ | refine G_skip ?_ | refine G_endblk ?_ | refine G_block ?_ | refine G_exit rfl ?_)
  exact G_ret (L' := blk bw 109 (wkC X s n) :: stkS s 65536 [] :: L) rfl (.tmp rfl .nil) (by (repeat first | exact en_refl | (apply en_blk; focus ((repeat' first | exact Pick.here | apply Pick.skip | apply Pick.app); done); focus rfl) | (apply en_own; focus ((repeat' first | exact Pick.here | apply Pick.skip | apply Pick.app); done); focus rfl) | (apply en_pick; focus ((repeat' first | exact Pick.here | apply Pick.skip | apply Pick.app); done)) | apply en_drop | apply en_app) <;> fail) ⟨rfl, rfl⟩
theorem wstep_ctr {S : Type} (X : Vis S) (bw s n : Nat) (l : List IT) (x : IT) (st : S) (L L0 : List HP) (hX : X.Good L0) (hM : ∀ h, sat L h → sat L0 h) (hok : X.ok x st) (hk : (X.kids x).length ≤ 2) (hl : l.length ≤ 60000) (hn : n ≤ 1000000000000) :
    Ctr Tryz.prog 93 #[.pointer (some ⟨bw, 0, none⟩)] (blk bw 109 (wkC X s n) :: stkS s 65536 (l ++ [x]) :: X.V st :: L) fun v L' => v = .bool true ∧ L' = blk bw 109 (wkC X s (n + 1)) :: stkS s 65536 (l ++ (X.kids x).reverse) :: X.V (X.upd x st) :: L := by
  haveI := hX.cal
  refine Ctr_of (fn := Tryz.f93) (n := 38) Tryz.func93 rfl rfl rfl ?_
  intro g F
  (repeat first | refine G_seq ?_ | refine G_skip ?_ | refine G_endblk ?_ | refine G_block ?_ | refine G_exit rfl ?_)
  refine G_region ?_
  refine GO_q rfl rfl (ev_assign rfl) ?_
  refine GO_nil ?_
  (repeat first | refine G_seq ?_ | refine G_skip ?_ | refine G_endblk ?_ | refine G_block ?_ | refine G_exit rfl ?_)
  refine G_region ?_
  refine GO_q rfl rfl (ev_move rfl) ?_
  (first | refine GO_q rfl rfl (ev_nilCheck rfl) ?_ | refine GO_q rfl rfl (ev_nilCheckF (by simp) rfl) ?_)
  refine GO_q rfl rfl (ev_fieldAddr rfl) ?_
  refine GO_q rfl rfl (ev_load rfl (by repeat' first | exact Ld.blk rfl | assumption | apply Ld.skip | apply Ld.app)) ?_
  refine GO_eff rfl rfl (eff_call rfl (Ctr.pick (by repeat' first | exact Pick.here | apply Pick.skip | apply Pick.app) (pop_ctr s l x _ (by omega)))) ?_; rintro _ _ ⟨rfl, rfl⟩
  refine GO_q rfl rfl (ev_move rfl) ?_
  refine GO_q rfl rfl (ev_extract rfl rfl) ?_
  refine GO_q rfl rfl (ev_extract rfl rfl) ?_
  refine GO_q rfl rfl (ev_assign rfl) ?_
  refine GO_q rfl rfl (ev_assign rfl) ?_
  refine GO_nil ?_
  (repeat first | refine G_seq ?_ | refine G_skip ?_ | refine G_endblk ?_ | refine G_block ?_ | refine G_exit rfl ?_)
  refine G_region ?_
  refine GO_q rfl rfl (ev_move rfl) ?_
  refine GO_q rfl rfl (ev_not rfl) ?_
  refine GO_nil ?_
  (repeat first | refine G_seq ?_ | refine G_skip ?_ | refine G_endblk ?_ | refine G_block ?_ | refine G_exit rfl ?_)
  refine G_cond_f rfl rfl ?_
  (repeat first | refine G_seq ?_ | refine G_skip ?_ | refine G_endblk ?_ | refine G_block ?_ | refine G_exit rfl ?_)
  refine G_region ?_
  refine GO_q rfl rfl (ev_move rfl) ?_
  (first | refine GO_q rfl rfl (ev_nilCheck rfl) ?_ | refine GO_q rfl rfl (ev_nilCheckF (by simp) rfl) ?_)
  refine GO_q rfl rfl (ev_fieldAddr rfl) ?_
  refine GO_q rfl rfl (ev_load rfl (by repeat' first | exact Ld.blk rfl | assumption | apply Ld.skip | apply Ld.app)) ?_
  (first | refine GO_q rfl rfl (ev_addN (q := 1) rfl rfl (by first | omega | (simp; done) | (simp; omega))) ?_ | refine GO_q rfl rfl (ev_add rfl rfl (by first | omega | (simp; done) | (simp; omega))) ?_)
  (first | refine GO_q rfl rfl (ev_nilCheck rfl) ?_ | refine GO_q rfl rfl (ev_nilCheckF (by simp) rfl) ?_)
  refine GO_q rfl rfl (ev_fieldAddr rfl) ?_
  refine GO_eff rfl rfl (eff_store rfl rfl rfl (by repeat' first | exact Upd.here rfl | apply Upd.skip | apply Upd.app)) ?_; rintro _ _ ⟨rfl, rfl⟩
  refine GO_nil ?_
  (repeat first | refine G_seq ?_ | refine G_skip ?_ | refine G_endblk ?_ | refine G_block ?_ | refine G_exit rfl ?_)
  refine G_region ?_
  refine GO_q rfl rfl (ev_move rfl) ?_
  (first | refine GO_q rfl rfl (ev_nilCheck rfl) ?_ | refine GO_q rfl rfl (ev_nilCheckF (by simp) rfl) ?_)
  refine GO_q rfl rfl (ev_fieldAddr rfl) ?_
  refine GO_q rfl rfl (ev_load rfl (by repeat' first | exact Ld.blk rfl | assumption | apply Ld.skip | apply Ld.app)) ?_
  refine GO_q rfl rfl (ev_move rfl) ?_
  refine GO_eff rfl rfl (eff_callv rfl rfl (Ctr.pre (M := X.V st :: blk bw 109 (wkC X s (n + 1)) :: stkS s 65536 l :: F :: L) (by (repeat first | exact en_refl | (apply en_blk; focus ((repeat' first | exact Pick.here | apply Pick.skip | apply Pick.app); done); focus rfl) | (apply en_own; focus ((repeat' first | exact Pick.here | apply Pick.skip | apply Pick.app); done); focus rfl) | (apply en_pick; focus ((repeat' first | exact Pick.here | apply Pick.skip | apply Pick.app); done)) | apply en_drop | apply en_app) <;> fail) (hX.visit (blk bw 109 (wkC X s (n + 1)) :: stkS s 65536 l :: F :: L) x st (fun h t => hM h t.tail.tail.tail) hok))) ?_; rintro _ _ ⟨A28, c28, rfl, hA28, rfl⟩
  refine GO_eff rfl rfl (eff_call rfl (KClone_ctr A28 _ c28 (X.kids x) _ (Rc.own (flat_length _) hA28) (by omega))) ?_; rintro _ _ ⟨A29, c29, rfl, hA29, rfl⟩
  refine GO_q rfl rfl (ev_assign rfl) ?_
  refine GO_nil ?_
  (repeat first | refine G_seq ?_ | refine G_skip ?_ | refine G_endblk ?_ | refine G_block ?_ | refine G_exit rfl ?_)
  refine G_region ?_
  refine GO_q rfl rfl (ev_move rfl) ?_
  refine GO_eff rfl rfl (eff_call rfl (Ctr.pick (by repeat' first | exact Pick.here | apply Pick.skip | apply Pick.app) (KReverse_ctr A29 c29 (X.kids x) _ hA29 hk))) ?_; rintro _ _ ⟨rfl, rfl⟩
  refine GO_nil ?_
  (repeat first | refine G_seq ?_ | refine G_skip ?_ | refine G_endblk ?_ | refine G_block ?_ | refine G_exit rfl ?_)
  refine G_region ?_
  refine GO_q rfl rfl (ev_move rfl) ?_
  (first | refine GO_q rfl rfl (ev_nilCheck rfl) ?_ | refine GO_q rfl rfl (ev_nilCheckF (by simp) rfl) ?_)
  refine GO_q rfl rfl (ev_fieldAddr rfl) ?_
  refine GO_q rfl rfl (ev_load rfl (by repeat' first | exact Ld.blk rfl | assumption | apply Ld.skip | apply Ld.app)) ?_
  refine GO_q rfl rfl (ev_move rfl) ?_
  refine GO_eff rfl rfl (eff_call rfl (Ctr.pick (by repeat' first | exact Pick.here | apply Pick.skip | apply Pick.app) (push_ctr s A29 _ c29 l (X.kids x).reverse _ (by repeat' first | exact Rc.own (by rw [flat_length, List.length_reverse]; rfl) hA29 | apply Rd.skip) (by omega)))) ?_; rintro _ _ ⟨rfl, rfl⟩
  refine GO_nil ?_
  (repeat first | refine G_seq ?_ | refine G_skip ?_ | refine G_endblk ?_ | refine G_block ?_ | refine G_exit rfl ?_)
  refine G_region ?_
  refine GO_q rfl rfl (ev_assign rfl) ?_
  refine GO_nil ?_
  (repeat first | refine G_seq ?_ | refine G_skip ?_ | refine G_endblk ?_ | refine G_block ?_ | refine G_exit rfl ?_)
  exact G_ret (L' := blk bw 109 (wkC X s (n + 1)) :: stkS s 65536 (l ++ (X.kids x).reverse) :: X.V (X.upd x st) :: L) rfl (.tmp rfl .nil) (by (repeat first | exact en_refl | (apply en_blk; focus ((repeat' first | exact Pick.here | apply Pick.skip | apply Pick.app); done); focus rfl) | (apply en_own; focus ((repeat' first | exact Pick.here | apply Pick.skip | apply Pick.app); done); focus rfl) | (apply en_pick; focus ((repeat' first | exact Pick.here | apply Pick.skip | apply Pick.app); done)) | apply en_drop | apply en_app) <;> fail) ⟨rfl, rfl⟩
theorem walk1_ctr {S : Type} (X : Vis S) (b8 b4 bw s k r : Nat) (l : List IT) (st : S) (L L0 : List HP) (hX : X.Good L0) (hM : ∀ h, sat L h → sat L0 h) (hI : X.I l st r) (hk : r ≤ 100000000) :
    Ctr Tryz.prog 92 #[.pointer (some ⟨b8, 0, none⟩), .pointer (some ⟨b4, 0, none⟩)] (blk b8 107 [.pointer (some ⟨bw, 0, none⟩)] :: blk b4 3 [.int .i64 (k : Nat)] :: blk bw 109 (wkC X s 0) :: stkS s 65536 l :: X.V st :: L)
      fun v L' => ∃ l' st', X.I l' st' (r - min k r) ∧ L' = blk b8 107 [.pointer (some ⟨bw, 0, none⟩)] :: blk b4 3 [.int .i64 (k : Nat)] :: blk bw 109 (wkC X s (min k r)) :: stkS s 65536 l' :: X.V st' :: L := by
  refine Ctr_of (fn := Tryz.f92) (n := 12) Tryz.func92 rfl rfl rfl ?_
  intro g F
  (repeat first | refine G_seq ?_ | refine G_skip ?_ | refine G_endblk ?_ | refine G_block ?_ | refine G_exit rfl ?_)
  refine G_loop (ι := List IT × S × Nat) (fun _ => [(0, .pointer (some ⟨b8, 0, none⟩)), (1, .pointer (some ⟨b4, 0, none⟩))]) (fun y => blk b8 107 [.pointer (some ⟨bw, 0, none⟩)] :: blk b4 3 [.int .i64 (k : Nat)] :: blk bw 109 (wkC X s y.2.2) :: stkS s 65536 y.1 :: X.V y.2.1 :: F :: L) (fun y => y.2.2 ≤ k ∧ y.2.2 ≤ r ∧ X.I y.1 y.2.1 (r - y.2.2)) (fun y => r - y.2.2) (l, st, 0) ⟨Nat.zero_le _, Nat.zero_le _, hI⟩ ⟨rfl, rfl, trivial⟩ (by (repeat first | exact en_refl | (apply en_blk; focus ((repeat' first | exact Pick.here | apply Pick.skip | apply Pick.app); done); focus rfl) | (apply en_own; focus ((repeat' first | exact Pick.here | apply Pick.skip | apply Pick.app); done); focus rfl) | (apply en_pick; focus ((repeat' first | exact Pick.here | apply Pick.skip | apply Pick.app); done)) | apply en_drop | apply en_app) <;> fail) ?_
  rintro ⟨l1, st1, j⟩ ⟨f1, f2, f3⟩
  simp only at f1 f2 f3
  dsimp only
  by_cases hj : j < k
  · rcases List.eq_nil_or_concat l1 with h | ⟨l0, x, h⟩
    · subst h
      have h0 := hX.stop _ _ f3
      (repeat first | refine G_seq ?_ | refine G_skip ?_ | refine G_endblk ?_ | refine G_block ?_ | refine G_exit rfl ?_)
      refine G_draw (.q 0 (.q 1 (.q 2 (.q 3 (.q 4 (.q 5 (.q 6 (.q 7 (.e 8 (.q 9 .nil)))))))))) (by kernel_rfl) (by kernel_rfl) ?_
      refine RS_q retB_noPanic rfl rfl rfl rfl (ev_load rfl (by repeat' first | exact Ld.blk rfl | assumption | apply Ld.skip | apply Ld.app)) ?_
      (first | refine RS_m retB_noPanic rfl rfl rfl rfl (ev_nilCheck rfl) ?_ | refine RS_m retB_noPanic rfl rfl rfl rfl (ev_nilCheckF (by simp) rfl) ?_)
      refine RS_m retB_noPanic rfl rfl rfl rfl (ev_fieldAddr rfl) ?_
      refine RS_q retB_noPanic rfl rfl rfl rfl (ev_load rfl (by repeat' first | exact Ld.blk rfl | assumption | apply Ld.skip | apply Ld.app)) ?_
      refine RS_q retB_noPanic rfl rfl rfl rfl (ev_load rfl (by repeat' first | exact Ld.blk rfl | assumption | apply Ld.skip | apply Ld.app)) ?_
      (first | refine RS_m retB_noPanic rfl rfl rfl rfl (ev_lssN rfl rfl) ?_ | refine RS_m retB_noPanic rfl rfl rfl rfl (ev_lss rfl rfl) ?_)
      refine RS_m retB_noPanic rfl rfl rfl rfl (ev_move rfl) ?_
      refine RS_q_yes retB_noPanic rfl rfl rfl rfl ⟨_, rfl, (decide_eq_true (by omega))⟩ rfl (ev_load rfl (by repeat' first | exact Ld.blk rfl | assumption | apply Ld.skip | apply Ld.app)) ?_
      refine RS_e (RE_cmp_yes (by kernel_rfl) rfl rfl rfl ⟨_, rfl, (decide_eq_true (by omega))⟩ rfl (eff_call rfl (Ctr.pre (M := blk bw 109 (wkC X s j) :: stkS s 65536 [] :: blk b8 107 [.pointer (some ⟨bw, 0, none⟩)] :: blk b4 3 [.int .i64 (k : Nat)] :: X.V st1 :: F :: L) (by (repeat first | exact en_refl | (apply en_blk; focus ((repeat' first | exact Pick.here | apply Pick.skip | apply Pick.app); done); focus rfl) | (apply en_own; focus ((repeat' first | exact Pick.here | apply Pick.skip | apply Pick.app); done); focus rfl) | (apply en_pick; focus ((repeat' first | exact Pick.here | apply Pick.skip | apply Pick.app); done)) | apply en_drop | apply en_app) <;> fail) (wstep_nil_ctr X bw s j _))) ?_); rintro _ _ ⟨rfl, rfl⟩
      refine RS_m retB_noPanic rfl rfl rfl rfl (ev_pick_t rfl (decide_eq_true (by omega)) rfl) ?_
      refine RS_nil ?_
      (repeat first | refine G_seq ?_ | refine G_skip ?_ | refine G_endblk ?_ | refine G_block ?_ | refine G_exit rfl ?_)
      refine G_cond_f rfl rfl ?_
      (repeat first | refine G_seq ?_ | refine G_skip ?_ | refine G_endblk ?_ | refine G_block ?_ | refine G_exit rfl ?_)
      have e : min k r = j := by omega
      refine G_end (L' := blk b8 107 [.pointer (some ⟨bw, 0, none⟩)] :: blk b4 3 [.int .i64 (k : Nat)] :: blk bw 109 (wkC X s j) :: stkS s 65536 [] :: X.V st1 :: L) rfl .nil (by (repeat first | exact en_refl | (apply en_blk; focus ((repeat' first | exact Pick.here | apply Pick.skip | apply Pick.app); done); focus rfl) | (apply en_own; focus ((repeat' first | exact Pick.here | apply Pick.skip | apply Pick.app); done); focus rfl) | (apply en_pick; focus ((repeat' first | exact Pick.here | apply Pick.skip | apply Pick.app); done)) | apply en_drop | apply en_app) <;> fail) ?_
      rw [e]
      exact ⟨[], st1, f3, rfl⟩
    · rw [List.concat_eq_append] at h
      subst h
      obtain ⟨k1, k2⟩ := hX.cap _ _ _ f3
      obtain ⟨r', e1, e2⟩ := hX.next _ _ _ _ f3
      have k3 := k2 x (List.mem_append.2 (.inr (List.mem_singleton.2 rfl)))
      rw [List.length_append] at k1
      (repeat first | refine G_seq ?_ | refine G_skip ?_ | refine G_endblk ?_ | refine G_block ?_ | refine G_exit rfl ?_)
      refine G_draw (.q 0 (.q 1 (.q 2 (.q 3 (.q 4 (.q 5 (.q 6 (.q 7 (.e 8 (.q 9 .nil)))))))))) (by kernel_rfl) (by kernel_rfl) ?_
      refine RS_q retB_noPanic rfl rfl rfl rfl (ev_load rfl (by repeat' first | exact Ld.blk rfl | assumption | apply Ld.skip | apply Ld.app)) ?_
      (first | refine RS_m retB_noPanic rfl rfl rfl rfl (ev_nilCheck rfl) ?_ | refine RS_m retB_noPanic rfl rfl rfl rfl (ev_nilCheckF (by simp) rfl) ?_)
      refine RS_m retB_noPanic rfl rfl rfl rfl (ev_fieldAddr rfl) ?_
      refine RS_q retB_noPanic rfl rfl rfl rfl (ev_load rfl (by repeat' first | exact Ld.blk rfl | assumption | apply Ld.skip | apply Ld.app)) ?_
      refine RS_q retB_noPanic rfl rfl rfl rfl (ev_load rfl (by repeat' first | exact Ld.blk rfl | assumption | apply Ld.skip | apply Ld.app)) ?_
      (first | refine RS_m retB_noPanic rfl rfl rfl rfl (ev_lssN rfl rfl) ?_ | refine RS_m retB_noPanic rfl rfl rfl rfl (ev_lss rfl rfl) ?_)
      refine RS_m retB_noPanic rfl rfl rfl rfl (ev_move rfl) ?_
      refine RS_q_yes retB_noPanic rfl rfl rfl rfl ⟨_, rfl, (decide_eq_true (by omega))⟩ rfl (ev_load rfl (by repeat' first | exact Ld.blk rfl | assumption | apply Ld.skip | apply Ld.app)) ?_
      refine RS_e (RE_cmp_yes (by kernel_rfl) rfl rfl rfl ⟨_, rfl, (decide_eq_true (by omega))⟩ rfl (eff_call rfl (Ctr.frame [blk b8 107 [.pointer (some ⟨bw, 0, none⟩)], blk b4 3 [.int .i64 (k : Nat)], F] (wstep_ctr X bw s j l0 x st1 L L0 hX hM k3.1 k3.2 (by omega) (by omega)) (by (repeat first | exact en_refl | (apply en_blk; focus ((repeat' first | exact Pick.here | apply Pick.skip | apply Pick.app); done); focus rfl) | (apply en_own; focus ((repeat' first | exact Pick.here | apply Pick.skip | apply Pick.app); done); focus rfl) | (apply en_pick; focus ((repeat' first | exact Pick.here | apply Pick.skip | apply Pick.app); done)) | apply en_drop | apply en_app) <;> fail))) ?_); rintro _ _ ⟨_, ⟨rfl, rfl⟩, rfl⟩
      refine RS_m retB_noPanic rfl rfl rfl rfl (ev_pick_t rfl (decide_eq_true (by omega)) rfl) ?_
      refine RS_nil ?_
      (repeat first | refine G_seq ?_ | refine G_skip ?_ | refine G_endblk ?_ | refine G_block ?_ | refine G_exit rfl ?_)
      refine G_cond_t rfl rfl ?_
      (repeat first | refine G_seq ?_ | refine G_skip ?_ | refine G_endblk ?_ | refine G_block ?_ | refine G_exit rfl ?_)
      exact G_round (l0 ++ (X.kids x).reverse, X.upd x st1, j + 1) ⟨by simp only; omega, by simp only; omega, by simp only; rw [show r - (j + 1) = r' by omega]; exact e2⟩ (by simp only; omega) ⟨rfl, rfl, trivial⟩ (by (repeat first | exact en_refl | (apply en_blk; focus ((repeat' first | exact Pick.here | apply Pick.skip | apply Pick.app); done); focus rfl) | (apply en_own; focus ((repeat' first | exact Pick.here | apply Pick.skip | apply Pick.app); done); focus rfl) | (apply en_pick; focus ((repeat' first | exact Pick.here | apply Pick.skip | apply Pick.app); done)) | apply en_drop | apply en_app) <;> fail)
  · skip
    (repeat first | refine G_seq ?_ | refine G_skip ?_ | refine G_endblk ?_ | refine G_block ?_ | refine G_exit rfl ?_)
    refine G_draw (.q 0 (.q 1 (.q 2 (.q 3 (.q 4 (.q 5 (.q 6 (.q 7 (.e 8 (.q 9 .nil)))))))))) (by kernel_rfl) (by kernel_rfl) ?_
    refine RS_q retB_noPanic rfl rfl rfl rfl (ev_load rfl (by repeat' first | exact Ld.blk rfl | assumption | apply Ld.skip | apply Ld.app)) ?_
    (first | refine RS_m retB_noPanic rfl rfl rfl rfl (ev_nilCheck rfl) ?_ | refine RS_m retB_noPanic rfl rfl rfl rfl (ev_nilCheckF (by simp) rfl) ?_)
    refine RS_m retB_noPanic rfl rfl rfl rfl (ev_fieldAddr rfl) ?_
    refine RS_q retB_noPanic rfl rfl rfl rfl (ev_load rfl (by repeat' first | exact Ld.blk rfl | assumption | apply Ld.skip | apply Ld.app)) ?_
    refine RS_q retB_noPanic rfl rfl rfl rfl (ev_load rfl (by repeat' first | exact Ld.blk rfl | assumption | apply Ld.skip | apply Ld.app)) ?_
    (first | refine RS_m retB_noPanic rfl rfl rfl rfl (ev_lssN rfl rfl) ?_ | refine RS_m retB_noPanic rfl rfl rfl rfl (ev_lss rfl rfl) ?_)
    refine RS_m retB_noPanic rfl rfl rfl rfl (ev_move rfl) ?_
    refine RS_q_no retB_noPanic rfl rfl rfl ⟨_, rfl, (decide_eq_false (by omega))⟩ rfl ?_
    refine RS_e (RE_no rfl rfl rfl ⟨_, rfl, (decide_eq_false (by omega))⟩ rfl ?_)
    refine RS_m retB_noPanic rfl rfl rfl rfl (ev_pick_f rfl (decide_eq_false (by omega)) rfl) ?_
    refine RS_nil ?_
    (repeat first | refine G_seq ?_ | refine G_skip ?_ | refine G_endblk ?_ | refine G_block ?_ | refine G_exit rfl ?_)
    refine G_cond_f rfl rfl ?_
    (repeat first | refine G_seq ?_ | refine G_skip ?_ | refine G_endblk ?_ | refine G_block ?_ | refine G_exit rfl ?_)
    have e : min k r = j := by omega
    refine G_end (L' := blk b8 107 [.pointer (some ⟨bw, 0, none⟩)] :: blk b4 3 [.int .i64 (k : Nat)] :: blk bw 109 (wkC X s j) :: stkS s 65536 l1 :: X.V st1 :: L) rfl .nil (by (repeat first | exact en_refl | (apply en_blk; focus ((repeat' first | exact Pick.here | apply Pick.skip | apply Pick.app); done); focus rfl) | (apply en_own; focus ((repeat' first | exact Pick.here | apply Pick.skip | apply Pick.app); done); focus rfl) | (apply en_pick; focus ((repeat' first | exact Pick.here | apply Pick.skip | apply Pick.app); done)) | apply en_drop | apply en_app) <;> fail) ?_
    rw [e]
    exact ⟨l1, st1, f3, rfl⟩
theorem Walk_ctr {S : Type} (X : Vis S) (s k r : Nat) (l : List IT) (st : S) (L L0 : List HP) (hX : X.Good L0) (hM : ∀ h, sat L h → sat L0 h) (hI : X.I l st r) (hk : r ≤ 100000000) :
    Ctr Tryz.prog 58 #[.pointer (some ⟨s, 0, none⟩), .int .i64 (k : Nat), .func (.func X.f) X.c1.toArray X.c2.toArray] (stkS s 65536 l :: X.V st :: L)
      fun v L' => ∃ l' st', v = .tuple #[.int .i64 (min k r : Nat), .int .i64 0] ∧ X.I l' st' (r - min k r) ∧ L' = stkS s 65536 l' :: X.V st' :: L := by
  refine Ctr_of (fn := Tryz.f58) (n := 36) Tryz.func58 rfl rfl rfl ?_
  intro g F
  (repeat first | refine G_seq ?_ | refine G_skip ?_ | refine G_endblk ?_ | refine G_block ?_ | refine G_exit rfl ?_)
  refine G_region ?_
  refine GO_eff rfl rfl (eff_box rfl) ?_; rintro _ _ ⟨b4, rfl, rfl⟩
  refine GO_q rfl rfl (ev_assign rfl) ?_
  refine GO_q rfl rfl (ev_assign rfl) ?_
  refine GO_nil ?_
  (repeat first | refine G_seq ?_ | refine G_skip ?_ | refine G_endblk ?_ | refine G_block ?_ | refine G_exit rfl ?_)
  refine G_region ?_
  refine GO_q rfl rfl (ev_move rfl) ?_
  (first | refine GO_q rfl rfl (ev_eqlNil rfl rfl) ?_ | refine GO_q rfl rfl (ev_eqlPtr rfl rfl) ?_)
  refine GO_q rfl rfl (ev_move rfl) ?_
  refine GO_yes rfl rfl rfl rfl ?_
  refine GO_q rfl rfl (ev_move rfl) ?_
  refine GO_yes rfl rfl rfl rfl ?_
  refine GO_q rfl rfl (ev_eqlNilF rfl rfl) ?_
  refine GO_q rfl rfl (ev_pick_f rfl rfl rfl) ?_
  refine GO_q rfl rfl (ev_move rfl) ?_
  refine GO_yes rfl rfl rfl rfl ?_
  refine GO_q rfl rfl (ev_load rfl (by repeat' first | exact Ld.blk rfl | assumption | apply Ld.skip | apply Ld.app)) ?_
  refine GO_yes rfl rfl rfl rfl ?_
  (first | refine GO_q rfl rfl (ev_lssN (q := 0) rfl rfl) ?_ | refine GO_q rfl rfl (ev_lss rfl rfl) ?_)
  refine GO_q rfl rfl (ev_pick_f rfl rfl rfl) ?_
  refine GO_nil ?_
  (repeat first | refine G_seq ?_ | refine G_skip ?_ | refine G_endblk ?_ | refine G_block ?_ | refine G_exit rfl ?_)
  refine G_cond_f rfl (decide_eq_false (by omega)) ?_
  (repeat first | refine G_seq ?_ | refine G_skip ?_ | refine G_endblk ?_ | refine G_block ?_ | refine G_exit rfl ?_)
  refine G_region ?_
  refine GO_q rfl rfl (ev_move rfl) ?_
  refine GO_q rfl rfl (ev_move rfl) ?_
  refine GO_q rfl rfl (ev_build rfl rfl) ?_
  refine GO_eff rfl rfl (eff_box rfl) ?_; rintro _ _ ⟨b24, rfl, rfl⟩
  refine GO_eff rfl rfl eff_alloc ?_; rintro _ _ ⟨b8, rfl, rfl⟩
  refine GO_eff rfl rfl (eff_store rfl rfl rfl (by repeat' first | exact Upd.here rfl | apply Upd.skip | apply Upd.app)) ?_; rintro _ _ ⟨rfl, rfl⟩
  refine GO_nil ?_
  (repeat first | refine G_seq ?_ | refine G_skip ?_ | refine G_endblk ?_ | refine G_block ?_ | refine G_exit rfl ?_)
  refine G_region ?_
  refine GO_q rfl rfl (ev_makeFunc rfl rfl) ?_
  refine GO_eff rfl rfl (eff_call rfl (Ctr.frame [F] (Catch_ctr (c1 := []) (c2 := [.pointer (some ⟨b8, 0, none⟩), .pointer (some ⟨b4, 0, none⟩)]) (walk1_ctr X b8 b4 b24 s k r l st L L0 hX hM hI hk)) (by (repeat first | exact en_refl | (apply en_blk; focus ((repeat' first | exact Pick.here | apply Pick.skip | apply Pick.app); done); focus rfl) | (apply en_own; focus ((repeat' first | exact Pick.here | apply Pick.skip | apply Pick.app); done); focus rfl) | (apply en_pick; focus ((repeat' first | exact Pick.here | apply Pick.skip | apply Pick.app); done)) | apply en_drop | apply en_app) <;> fail))) ?_; rintro _ _ ⟨_, ⟨rfl, l', st', hI', rfl⟩, rfl⟩
  refine GO_q rfl rfl (ev_move rfl) ?_
  refine GO_q rfl rfl (ev_extract rfl rfl) ?_
  refine GO_q rfl rfl (ev_extract rfl rfl) ?_
  refine GO_eff rfl rfl eff_alloc ?_; rintro _ _ ⟨b9, rfl, rfl⟩
  refine GO_eff rfl rfl (eff_storeN rfl rfl rfl rfl (by repeat' first | exact Upd.here rfl | apply Upd.skip | apply Upd.app)) ?_; rintro _ _ ⟨rfl, rfl⟩
  refine GO_q rfl rfl (ev_assign rfl) ?_
  refine GO_nil ?_
  (repeat first | refine G_seq ?_ | refine G_skip ?_ | refine G_endblk ?_ | refine G_block ?_ | refine G_exit rfl ?_)
  refine G_draw (.q 0 (.q 1 (.q 2 (.q 3 (.q 4 (.q 5 (.q 6 (.q 7 .nil)))))))) (by kernel_rfl) (by kernel_rfl) ?_
  refine RS_q retB_noPanic rfl rfl rfl rfl (ev_load rfl (by repeat' first | exact Ld.blk rfl | assumption | apply Ld.skip | apply Ld.app)) ?_
  (first | refine RS_m retB_noPanic rfl rfl rfl rfl (ev_nilCheck rfl) ?_ | refine RS_m retB_noPanic rfl rfl rfl rfl (ev_nilCheckF (by simp) rfl) ?_)
  refine RS_m retB_noPanic rfl rfl rfl rfl (ev_fieldAddr rfl) ?_
  refine RS_q retB_noPanic rfl rfl rfl rfl (ev_load rfl (by repeat' first | exact Ld.blk rfl | assumption | apply Ld.skip | apply Ld.app)) ?_
  refine RS_m retB_noPanic rfl rfl rfl rfl (ev_fieldAddr rfl) ?_
  refine RS_q retB_noPanic rfl rfl rfl rfl (ev_load rfl (by repeat' first | exact Ld.blk rfl | assumption | apply Ld.skip | apply Ld.app)) ?_
  refine RS_m retB_noPanic rfl rfl rfl rfl (ev_assign rfl) ?_
  refine RS_m retB_noPanic rfl rfl rfl rfl (ev_assign rfl) ?_
  refine RS_nil ?_
  (repeat first | refine G_seq ?_ | refine G_skip ?_ | refine G_endblk ?_ | refine G_block ?_ | refine G_exit rfl ?_)
  exact G_ret (L' := stkS s 65536 l' :: X.V st' :: L) rfl (.tmp rfl (.tmp rfl .nil)) (by (repeat first | exact en_refl | (apply en_blk; focus ((repeat' first | exact Pick.here | apply Pick.skip | apply Pick.app); done); focus rfl) | (apply en_own; focus ((repeat' first | exact Pick.here | apply Pick.skip | apply Pick.app); done); focus rfl) | (apply en_pick; focus ((repeat' first | exact Pick.here | apply Pick.skip | apply Pick.app); done)) | apply en_drop | apply en_app) <;> fail) ⟨l', st', rfl, hI', rfl⟩
end Go.Proofs.YtjnmpogolknkpaaGreat
