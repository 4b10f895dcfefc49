/- Trees of cells: what is stabbed, what begins, what overlaps. -/
import Derived.Test.YtmgkmammkmlakaaSgU
namespace Go.Proofs.Ytmgkmammkmlakaa
set_option linter.unusedVariables false
set_option linter.unusedSimpArgs false
set_option maxRecDepth 100000

theorem nxt_node {b f t d c : Nat} {A : Option Addr} {m : List Pt} {lo hi : SA} : SA.nxt c (.node b f t A d m lo hi) = if hi.hasc c then hi else if lo.hasc c then lo else .nil := rfl
theorem srt_of_perm {l m : List Int} (h : l.Perm m) : srt l = srt m := eq_of_sorted _ _ ((srt_perm l).trans (h.trans (srt_perm m).symm)) (srt_sorted l) (srt_sorted m)
theorem SgOk.step {q : Pt → Nat × Nat} {l : List Pt} {b f' t' d c : Nat} {A : Option Addr} {m : List Pt} {lo hi : SA} {f t : Nat} {o : Pt → Bool} (h : SgOk q l (.node b f' t' A d m lo hi) f t o) (h1 : f ≤ c) (h2 : c ≤ t) :
    (SA.node b f' t' A d m lo hi).hasc c = true ∧ (SA.node b f' t' A d m lo hi).way c = m ++ (SA.nxt c (.node b f' t' A d m lo hi)).way c ∧
    (f = t ∧ SA.nxt c (.node b f' t' A d m lo hi) = .nil ∨ f < t ∧ c ≤ f + (t - f) / 2 ∧ SA.nxt c (.node b f' t' A d m lo hi) = lo ∧ SgOk q l lo f (f + (t - f) / 2) (fun s => inn q s f t) ∨ f < t ∧ f + (t - f) / 2 < c ∧ SA.nxt c (.node b f' t' A d m lo hi) = hi ∧ SgOk q l hi (f + (t - f) / 2 + 1) t (fun s => inn q s f t)) := by
  obtain ⟨e1, e2, e3, e4⟩ := h
  subst e1 e2
  have hh : ∀ {X : SA} {f t : Nat} {o : Pt → Bool}, SgOk q l X f t o → X.hasc c = decide (f ≤ c ∧ c ≤ t) := fun {X f t o} h => by
    cases X with
    | nil => cases h
    | node => obtain ⟨a, b, _⟩ := h; subst a b; rfl
  refine ⟨by simp [SA.hasc, h1, h2], ?_, ?_⟩
  · show (if f' ≤ c ∧ c ≤ t' then m ++ (lo.way c ++ hi.way c) else []) = _
    rw [if_pos ⟨h1, h2⟩]
    congr 1
    rw [nxt_node]
    rcases e4 with ⟨h4, h5, h6⟩ | ⟨h4, h5, h6⟩
    · rw [hh h5, hh h6]
      rcases Nat.lt_or_ge (f' + (t' - f') / 2) c with hm | hm
      · rw [way_off h5 (.inr hm), List.nil_append, decide_eq_true (show f' + (t' - f') / 2 + 1 ≤ c ∧ c ≤ t' by omega)]; rfl
      · rw [way_off h6 (.inl (by omega)), List.append_nil, decide_eq_false (show ¬ (f' + (t' - f') / 2 + 1 ≤ c ∧ c ≤ t') by omega), decide_eq_true (show f' ≤ c ∧ c ≤ f' + (t' - f') / 2 by omega)]; rfl
    · subst h5 h6; rfl
  · rw [nxt_node]
    rcases e4 with ⟨h4, h5, h6⟩ | ⟨h4, h5, h6⟩
    · rw [hh h5, hh h6]
      rcases Nat.lt_or_ge (f' + (t' - f') / 2) c with hm | hm
      · refine .inr (.inr ⟨h4, hm, ?_, h6⟩)
        rw [decide_eq_true (show f' + (t' - f') / 2 + 1 ≤ c ∧ c ≤ t' by omega)]; rfl
      · refine .inr (.inl ⟨h4, hm, ?_, h5⟩)
        rw [decide_eq_false (show ¬ (f' + (t' - f') / 2 + 1 ≤ c ∧ c ≤ t') by omega), decide_eq_true (show f' ≤ c ∧ c ≤ f' + (t' - f') / 2 by omega)]; rfl
    · subst h5 h6; exact .inl ⟨h4, rfl⟩
/-- Either nothing is left, or a part of the tree that has the cell. -/
def Leads (q : Pt → Nat × Nat) (l : List Pt) (c : Nat) (Y : SA) : Prop := Y = .nil ∨ ∃ f t o, SgOk q l Y f t o ∧ f ≤ c ∧ c ≤ t
def SA.ht : SA → Nat
  | .nil => 0
  | .node _ _ _ _ _ _ lo hi => 1 + lo.ht + hi.ht
theorem Leads.next {q : Pt → Nat × Nat} {l : List Pt} {b f' t' d c : Nat} {A : Option Addr} {m : List Pt} {lo hi : SA} (h : Leads q l c (.node b f' t' A d m lo hi)) :
    (SA.node b f' t' A d m lo hi).hasc c = true ∧ (SA.node b f' t' A d m lo hi).way c = m ++ (SA.nxt c (.node b f' t' A d m lo hi)).way c ∧ Leads q l c (SA.nxt c (.node b f' t' A d m lo hi)) ∧ (SA.nxt c (.node b f' t' A d m lo hi)).ht < (SA.node b f' t' A d m lo hi).ht ∧ m.Sublist l := by
  rcases h with h | ⟨f, t, o, h, h1, h2⟩
  · cases h
  · obtain ⟨a1, a2, a3⟩ := h.step h1 h2
    refine ⟨a1, a2, ?_, ?_, h.sub.1.1⟩
    · rcases a3 with ⟨_, e⟩ | ⟨k1, k2, e, k3⟩ | ⟨k1, k2, e, k3⟩
      · rw [e]; exact .inl rfl
      · rw [e]; exact .inr ⟨_, _, _, k3, h1, k2⟩
      · rw [e]; exact .inr ⟨_, _, _, k3, k2, h2⟩
    · rw [nxt_node]
      split
      · simp only [SA.ht]; omega
      · split
        · simp only [SA.ht]; omega
        · simp only [SA.ht]; omega
theorem SIn.next {L : List HP} {b f' t' d c : Nat} {A : Option Addr} {m : List Pt} {lo hi : SA} (h : SIn L (.node b f' t' A d m lo hi)) : SIn L (SA.nxt c (.node b f' t' A d m lo hi)) := by
  rw [nxt_node]
  split
  · exact h.2.2.2
  · split
    · exact h.2.2.1
    · trivial
def stabK (k : List Pt) (v : Int) : List Int := srt (idsOf (k.filter fun s => decide (s.x ≤ v ∧ v ≤ s.y)))
def bgnK (k : List Pt) (lo hi : Int) : List Int := srt (idsOf (k.filter fun s => decide (lo < s.x ∧ s.x ≤ hi)))
def overK (k : List Pt) (lo hi : Int) : List Int := srt (idsOf (k.filter fun s => decide (lo ≤ hi ∧ s.x ≤ hi ∧ lo ≤ s.y)))
theorem idsOf_perm {l m : List Pt} (h : l.Perm m) : (idsOf l).Perm (idsOf m) := h.map _
theorem idsOf_length (l : List Pt) : (idsOf l).length = l.length := List.length_map _
section
variable {x : RA} {X : SA} {A : Option Addr} {c : Nat} {l k : List Pt} {R : List Int}
theorem TOk.leads (o : TOk x X A c l k R) (v : Int) : Leads (qR R) l (cellR R v) X := .inr ⟨0, _, _, o.sg, Nat.zero_le _, cellR_le R v⟩
theorem TOk.way (o : TOk x X A c l k R) (v : Int) : (X.way (cellR R v)).Perm (k.filter fun s => decide (s.x ≤ v ∧ v ≤ s.y)) := by
  refine (o.sg.way (fun _ _ h => by cases h) (Nat.zero_le _) (cellR_le R v)).trans (List.Perm.trans (.of_eq (List.filter_congr fun s hs => ?_)) (o.perm.filter _))
  obtain ⟨h1, h2, h3⟩ := o.ends s hs
  have h4 := cellR_lo R (y := v) h1
  have h5 := cellR_hi R (y := v) h2
  unfold inn qR
  simp [h4, h5]
theorem TOk.stab (o : TOk x X A c l k R) (v : Int) : srt (idsOf (X.way (cellR R v))) = stabK k v := srt_of_perm (idsOf_perm (o.way v))
theorem TOk.bgn (o : TOk x X A c l k R) (lo hi : Int) : srt (idsOf (l.filter fun s => decide (lo < s.x ∧ s.x ≤ hi))) = bgnK k lo hi := srt_of_perm (idsOf_perm (o.perm.filter _))
theorem TOk.over (o : TOk x X A c l k R) {lo hi : Int} (h : lo ≤ hi) : srt (stabK k lo ++ bgnK k lo hi) = overK k lo hi := by
  unfold stabK bgnK overK
  rw [srt_append]
  refine srt_of_perm ?_
  unfold idsOf
  rw [← List.map_append]
  refine List.Perm.map _ ?_
  refine (perm_split _ _ k fun s _ h1 h2 => by simp at h1 h2; omega).trans (.of_eq (List.filter_congr fun s hs => ?_))
  have := (o.ends s (o.perm.mem_iff.2 hs)).2.2
  by_cases h1 : s.x ≤ lo
  · simp [h1, h, show s.x ≤ hi by omega, show ¬ lo < s.x by omega]
  · simp [h1, h, show lo < s.x by omega]; omega
end
section
variable {t : Nat} {x : RA} {X : SA} {A : Option Addr} {c : Nat} {l k : List Pt} {R : List Int} {most : Int} {built : Nat}
theorem Rd.mid {L : List HP} {A : Option Addr} {n c i j : Nat} {l : List Pt} (h : Rd L A n l) (hij : i ≤ j) (hj : j ≤ n) (hc : n ≤ c) : Rd L (if c = i then A else A.map (·.add (i * 3))) (j - i) ((l.drop i).take (j - i)) := by
  rcases Nat.eq_zero_or_pos (j - i) with h0 | h0
  · rw [h0]; exact Rd.nil _ _
  · obtain ⟨b, o, rfl, _⟩ := h.at_ (by omega)
    have h1 := (h.drop (k := i) (c := c) (by omega) hc).take (k := j - i) (by omega)
    have e : (if c = i then some ⟨b, o, none⟩ else (some (⟨b, o, none⟩ : Addr)).map (·.add (i * 3))) = some ⟨b, (if c = i then o else o + i * Enc.sz Pt), none⟩ := by
      split
      · rfl
      · simp [Addr.add_lit]; rfl
    rw [e]
    exact h1
end
theorem at_mono {x y : Nat} {v w : Nat → Nat → List Pt → Nat} : ∀ {X : SA}, (X.each fun f t _ _ m => v f t m ≤ w f t m) → X.at_ x y v ≤ X.at_ x y w
  | .nil, _ => Nat.le_refl _
  | .node _ f t _ _ l lo hi, ⟨h1, h2, h3⟩ => by
    unfold SA.at_
    split
    · exact Nat.le_refl _
    · split
      · exact h1
      · exact Nat.add_le_add (at_mono h2) (at_mono h3)
@[reducible] def laidC (b1 b2 b3 : Nat) (s : Pt) (z : Nat × Bool) : List HP := [blk b1 3 [.int .i64 (z.1 : Nat)], blk b2 4 [.bool z.2], blk b3 32 s.cs]
def laidS (s : Pt) (z : Nat × Bool) (f t : Nat) (m : List Pt) : Nat × Bool := (z.1 + (t - f + 1), z.2 && decide (s ∈ m))
theorem run_right {x y : Nat} {s : Pt} : ∀ (X : SA) (z : Nat × Bool), (X.run x y (laidS s) z).2 = (z.2 && decide (X.at_ x y (fun _ _ m => if s ∈ m then 0 else 1) = 0))
  | .nil, z => by simp [SA.run, SA.at_]
  | .node _ f t _ _ l lo hi, z => by
    unfold SA.run SA.at_
    split
    · simp
    · split
      · unfold laidS
        simp only
        congr 1
        by_cases h : s ∈ l <;> simp [h]
      · rw [run_right hi, run_right lo, Bool.and_assoc]
        congr 1
        by_cases h : lo.at_ x y (fun _ _ m => if s ∈ m then 0 else 1) = 0 <;> simp [h]
theorem vis_le {q : Pt → Nat × Nat} {l : List Pt} {X : SA} {T x y : Nat} (h : SgOk q l X 0 T noP) (hxy : x ≤ y) : X.vis x y ≤ T + 1 := by
  have h1 := h.cells hxy
  have h2 : X.vis x y ≤ X.at_ x y (fun f t _ => t - f + 1) := at_mono (h.sub.mono fun f t _ _ m _ => by omega)
  omega
theorem sum_le (f : Pt → Nat) (B : Nat) : ∀ (l : List Pt), (∀ s ∈ l, f s ≤ B) → (l.map f).sum ≤ l.length * B
  | [], _ => Nat.zero_le _
  | a :: l, h => by
    rw [List.map_cons, List.sum_cons, List.length_cons, Nat.add_mul, Nat.one_mul]
    have := h a (by simp)
    have := sum_le f B l fun s hs => h s (by simp [hs])
    omega
end Go.Proofs.Ytmgkmammkmlakaa
