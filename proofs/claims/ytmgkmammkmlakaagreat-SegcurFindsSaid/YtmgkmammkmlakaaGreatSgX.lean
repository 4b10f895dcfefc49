/- Trees of cells: what is stabbed, what begins, what overlaps. -/
import Derived.Test.YtmgkmammkmlakaaGreatSgU
namespace Go.Proofs.YtmgkmammkmlakaaGreat
attribute [local irreducible] sat
set_option linter.unusedVariables false
set_option linter.unusedSimpArgs false
set_option maxRecDepth 100000

theorem nxt_node {b f t d c : Nat} {A : Option Addr} {m : List Pt} {lo hi : SA} : SA.nxt c (.node b f t A d m lo hi) = if hi.hasc c then hi else if lo.hasc c then lo else .nil := rfl
theorem srt_of_perm {l m : List Int} (h : l.Perm m) : srt l = srt m := eq_of_sorted _ _ ((srt_perm l).trans (h.trans (srt_perm m).symm)) (srt_sorted l) (srt_sorted m)
theorem SgOk.step {q : Pt → Nat × Nat} {l : List Pt} {b f' t' d c : Nat} {A : Option Addr} {m : List Pt} {lo hi : SA} {f t : Nat} {o : Pt → Bool} (h : SgOk q l (.node b f' t' A d m lo hi) f t o) (h1 : f ≤ c) (h2 : c ≤ t) :
    (SA.node b f' t' A d m lo hi).hasc c = true ∧ (SA.node b f' t' A d m lo hi).way c = m ++ (SA.nxt c (.node b f' t' A d m lo hi)).way c ∧
    (f = t ∧ SA.nxt c (.node b f' t' A d m lo hi) = .nil ∨ f < t ∧ c ≤ f + (t - f) / 2 ∧ SA.nxt c (.node b f' t' A d m lo hi) = lo ∧ SgOk q l lo f (f + (t - f) / 2) (fun s => inn q s f t) ∨ f < t ∧ f + (t - f) / 2 < c ∧ SA.nxt c (.node b f' t' A d m lo hi) = hi ∧ SgOk q l hi (f + (t - f) / 2 + 1) t (fun s => inn q s f t)) := by
  obtain ⟨e1, e2, e3, e4⟩ := h
  subst e1 e2
  have hh : ∀ {X : SA} {f t : Nat} {o : Pt → Bool}, SgOk q l X f t o → X.hasc c = decide (f ≤ c ∧ c ≤ t) := fun {X f t o} h => by
    cases X with
    | nil => cases h
    | node => obtain ⟨a, b, _⟩ := h; subst a b; rfl
  refine ⟨by simp [SA.hasc, h1, h2], ?_, ?_⟩
  · show (if f' ≤ c ∧ c ≤ t' then m ++ (lo.way c ++ hi.way c) else []) = _
    rw [if_pos ⟨h1, h2⟩]
    congr 1
    rw [nxt_node]
    rcases e4 with ⟨h4, h5, h6⟩ | ⟨h4, h5, h6⟩
    · rw [hh h5, hh h6]
      rcases Nat.lt_or_ge (f' + (t' - f') / 2) c with hm | hm
      · rw [way_off h5 (.inr hm), List.nil_append, decide_eq_true (show f' + (t' - f') / 2 + 1 ≤ c ∧ c ≤ t' by omega)]; rfl
      · rw [way_off h6 (.inl (by omega)), List.append_nil, decide_eq_false (show ¬ (f' + (t' - f') / 2 + 1 ≤ c ∧ c ≤ t') by omega), decide_eq_true (show f' ≤ c ∧ c ≤ f' + (t' - f') / 2 by omega)]; rfl
    · subst h5 h6; rfl
  · rw [nxt_node]
    rcases e4 with ⟨h4, h5, h6⟩ | ⟨h4, h5, h6⟩
    · rw [hh h5, hh h6]
      rcases Nat.lt_or_ge (f' + (t' - f') / 2) c with hm | hm
      · refine .inr (.inr ⟨h4, hm, ?_, h6⟩)
        rw [decide_eq_true (show f' + (t' - f') / 2 + 1 ≤ c ∧ c ≤ t' by omega)]; rfl
      · refine .inr (.inl ⟨h4, hm, ?_, h5⟩)
        rw [decide_eq_false (show ¬ (f' + (t' - f') / 2 + 1 ≤ c ∧ c ≤ t') by omega), decide_eq_true (show f' ≤ c ∧ c ≤ f' + (t' - f') / 2 by omega)]; rfl
    · subst h5 h6; exact .inl ⟨h4, rfl⟩
/-- Either nothing is left, or a part of the tree that has the cell. -/
def Leads (q : Pt → Nat × Nat) (l : List Pt) (c : Nat) (Y : SA) : Prop := Y = .nil ∨ ∃ f t o, SgOk q l Y f t o ∧ f ≤ c ∧ c ≤ t
def SA.ht : SA → Nat
  | .nil => 0
  | .node _ _ _ _ _ _ lo hi => 1 + lo.ht + hi.ht
theorem Leads.next {q : Pt → Nat × Nat} {l : List Pt} {b f' t' d c : Nat} {A : Option Addr} {m : List Pt} {lo hi : SA} (h : Leads q l c (.node b f' t' A d m lo hi)) :
    (SA.node b f' t' A d m lo hi).hasc c = true ∧ (SA.node b f' t' A d m lo hi).way c = m ++ (SA.nxt c (.node b f' t' A d m lo hi)).way c ∧ Leads q l c (SA.nxt c (.node b f' t' A d m lo hi)) ∧ (SA.nxt c (.node b f' t' A d m lo hi)).ht < (SA.node b f' t' A d m lo hi).ht ∧ m.Sublist l := by
  rcases h with h | ⟨f, t, o, h, h1, h2⟩
  · cases h
  · obtain ⟨a1, a2, a3⟩ := h.step h1 h2
    refine ⟨a1, a2, ?_, ?_, h.sub.1.1⟩
    · rcases a3 with ⟨_, e⟩ | ⟨k1, k2, e, k3⟩ | ⟨k1, k2, e, k3⟩
      · rw [e]; exact .inl rfl
      · rw [e]; exact .inr ⟨_, _, _, k3, h1, k2⟩
      · rw [e]; exact .inr ⟨_, _, _, k3, k2, h2⟩
    · rw [nxt_node]
      split
      · simp only [SA.ht]; omega
      · split
        · simp only [SA.ht]; omega
        · simp only [SA.ht]; omega
theorem SIn.next {L : List HP} {b f' t' d c : Nat} {A : Option Addr} {m : List Pt} {lo hi : SA} (h : SIn L (.node b f' t' A d m lo hi)) : SIn L (SA.nxt c (.node b f' t' A d m lo hi)) := by
  rw [nxt_node]
  split
  · exact h.2.2.2
  · split
    · exact h.2.2.1
    · trivial
def stabK (k : List Pt) (v : Int) : List Int := srt (idsOf (k.filter fun s => decide (s.x ≤ v ∧ v ≤ s.y)))
def bgnK (k : List Pt) (lo hi : Int) : List Int := srt (idsOf (k.filter fun s => decide (lo < s.x ∧ s.x ≤ hi)))
def overK (k : List Pt) (lo hi : Int) : List Int := srt (idsOf (k.filter fun s => decide (lo ≤ hi ∧ s.x ≤ hi ∧ lo ≤ s.y)))
theorem idsOf_perm {l m : List Pt} (h : l.Perm m) : (idsOf l).Perm (idsOf m) := h.map _
theorem idsOf_length (l : List Pt) : (idsOf l).length = l.length := List.length_map _
section
variable {x : RA} {X : SA} {A : Option Addr} {c : Nat} {l k : List Pt} {R : List Int}
theorem TOk.leads (o : TOk x X A c l k R) (v : Int) : Leads (qR R) l (cellR R v) X := .inr ⟨0, _, _, o.sg, Nat.zero_le _, cellR_le R v⟩
theorem TOk.way (o : TOk x X A c l k R) (v : Int) : (X.way (cellR R v)).Perm (k.filter fun s => decide (s.x ≤ v ∧ v ≤ s.y)) := by
  refine (o.sg.way (fun _ _ h => by cases h) (Nat.zero_le _) (cellR_le R v)).trans (List.Perm.trans (.of_eq (List.filter_congr fun s hs => ?_)) (o.perm.filter _))
  obtain ⟨h1, h2, h3⟩ := o.ends s hs
  have h4 := cellR_lo R (y := v) h1
  have h5 := cellR_hi R (y := v) h2
  unfold inn qR
  simp [h4, h5]
theorem TOk.stab (o : TOk x X A c l k R) (v : Int) : srt (idsOf (X.way (cellR R v))) = stabK k v := srt_of_perm (idsOf_perm (o.way v))
theorem TOk.bgn (o : TOk x X A c l k R) (lo hi : Int) : srt (idsOf (l.filter fun s => decide (lo < s.x ∧ s.x ≤ hi))) = bgnK k lo hi := srt_of_perm (idsOf_perm (o.perm.filter _))
theorem TOk.over (o : TOk x X A c l k R) {lo hi : Int} (h : lo ≤ hi) : srt (stabK k lo ++ bgnK k lo hi) = overK k lo hi := by
  unfold stabK bgnK overK
  rw [srt_append]
  refine srt_of_perm ?_
  unfold idsOf
  rw [← List.map_append]
  refine List.Perm.map _ ?_
  refine (perm_split _ _ k fun s _ h1 h2 => by simp at h1 h2; omega).trans (.of_eq (List.filter_congr fun s hs => ?_))
  have := (o.ends s (o.perm.mem_iff.2 hs)).2.2
  by_cases h1 : s.x ≤ lo
  · simp [h1, h, show s.x ≤ hi by omega, show ¬ lo < s.x by omega]
  · simp [h1, h, show lo < s.x by omega]; omega
end
section
variable {t : Nat} {x : RA} {X : SA} {A : Option Addr} {c : Nat} {l k : List Pt} {R : List Int} {most : Int} {built : Nat}
theorem tstab_ctr (v : Int) (L : List HP) (h : TIn L t x X A c l most built) (o : TOk x X A c l k R) (hk : k.length ≤ 100) : Ctr Tryz.prog 53 #[.pointer (some ⟨t, 0, none⟩), .int .i64 v] L fun r L' => Made 3 (stabK k v) L r L' := by
  have hll : l.length = k.length := o.perm.length_eq
  have hRl : x.R.length ≤ 1000 := by rw [o.xR]; have := o.small; omega
  have hcl := fun L h => tcell_ctr (t := t) (X := X) (A := A) (c := c) (l := l) (most := most) (built := built) v L h o.xo hRl
  rw [o.xR] at hcl
  have hld := o.leads v
  have hst := o.stab v
  have hwl : (idsOf (X.way (cellR R v))).length ≤ 1000 := by
    rw [idsOf_length, (o.way v).length_eq]
    have := List.length_filter_le (fun s : Pt => decide (s.x ≤ v ∧ v ≤ s.y)) k
    omega
  have hX := h.X
  generalize cellR R v = cc at *
  refine Ctr_of (fn := Tryz.f53) (n := 30) Tryz.func53 rfl rfl rfl ?_
  intro g F
  refine G_heap (own.nil_ 3 1) ?_
  (repeat first | refine G_seq ?_ | refine G_skip ?_ | refine G_endblk ?_ | refine G_block ?_ | refine G_exit rfl ?_)
  refine G_region ?_
  refine GO_q rfl rfl (ev_assign rfl) ?_
  refine GO_nil ?_
  (repeat first | refine G_seq ?_ | refine G_skip ?_ | refine G_endblk ?_ | refine G_block ?_ | refine G_exit rfl ?_)
  refine G_region ?_
  refine GO_q rfl rfl (ev_assign rfl) ?_
  refine GO_nil ?_
  (repeat first | refine G_seq ?_ | refine G_skip ?_ | refine G_endblk ?_ | refine G_block ?_ | refine G_exit rfl ?_)
  refine G_region ?_
  refine GO_q rfl rfl (ev_move rfl) ?_
  refine GO_q rfl rfl (ev_move rfl) ?_
  refine GO_eff rfl rfl (eff_call rfl (hcl _ h.skip.skip)) ?_; rintro _ _ ⟨rfl, rfl⟩
  refine GO_q rfl rfl (ev_assign rfl) ?_
  refine GO_nil ?_
  (repeat first | refine G_seq ?_ | refine G_skip ?_ | refine G_endblk ?_ | refine G_block ?_ | refine G_exit rfl ?_)
  refine G_region ?_
  refine GO_q rfl rfl (ev_move rfl) ?_
  refine GO_eff rfl rfl (eff_call rfl (tTop_ctr _ h.skip.skip)) ?_; rintro _ _ ⟨rfl, rfl⟩
  refine GO_q rfl rfl (ev_assign rfl) ?_
  refine GO_nil ?_
  (repeat first | refine G_seq ?_ | refine G_skip ?_ | refine G_endblk ?_ | refine G_block ?_ | refine G_exit rfl ?_)
  refine G_loop (ι := SA × Option Addr × Nat × List Int) (fun z => [(5, .slice z.2.1 z.2.2.2.length z.2.2.1), (6, .int .i64 (cc : Nat)), (7, .pointer z.1.addr)]) (fun z => own 3 1 z.2.1 z.2.2.2.length z.2.2.1 (flat z.2.2.2) :: F :: L) (fun z => (SIn L z.1 ∧ Leads (qR R) l cc z.1) ∧ (z.2.2.2 ++ idsOf (z.1.way cc)).Perm (idsOf (X.way cc)) ∧ (0 < z.2.2.2.length → ∃ b, z.2.1 = some ⟨b, 0, none⟩)) (fun z => z.1.ht) (X, none, 0, []) ⟨⟨hX, hld⟩, .refl _, fun h => absurd h (Nat.lt_irrefl 0)⟩ ⟨rfl, rfl, rfl, trivial⟩ (fun _ s => s) ?_
  rintro ⟨Y, O, e, out⟩ ⟨⟨f1, f2⟩, f3, f4⟩
  simp only at f1 f2 f3 f4
  dsimp only
  have hlen := f3.length_eq
  rw [List.length_append] at hlen
  cases Y with
  | nil =>
    have hp : srt out = stabK k v := by rw [← hst]; exact srt_of_perm (by simpa [SA.way, idsOf] using f3)
    have hl2 : out.length = (stabK k v).length := by rw [← hp, srt_length]
    have hso := fun M => sort_ctr O out.length e out M f4 rfl (by omega)
    rw [hp, hl2] at hso
    rw [hl2] at f4
    rw [hl2]
    (repeat first | refine G_seq ?_ | refine G_skip ?_ | refine G_endblk ?_ | refine G_block ?_ | refine G_exit rfl ?_)
    refine G_region ?_
    refine GO_q rfl rfl (ev_move rfl) ?_
    (first | refine GO_q rfl rfl (ev_neqNil rfl rfl) ?_ | refine GO_q rfl rfl (ev_neqPtr rfl rfl) ?_)
    refine GO_nil ?_
    (repeat first | refine G_seq ?_ | refine G_skip ?_ | refine G_endblk ?_ | refine G_block ?_ | refine G_exit rfl ?_)
    refine G_cond_f rfl rfl ?_
    (repeat first | refine G_seq ?_ | refine G_skip ?_ | refine G_endblk ?_ | refine G_block ?_ | refine G_exit rfl ?_)
    refine G_region ?_
    refine GO_q rfl rfl (ev_move rfl) ?_
    refine GO_eff rfl rfl (eff_call rfl (Ctr.pre (M := own 3 1 O (stabK k v).length e (flat out) :: F :: L) (fun _ s => s) (hso _))) ?_; rintro _ _ ⟨rfl, rfl⟩
    refine GO_nil ?_
    (repeat first | refine G_seq ?_ | refine G_skip ?_ | refine G_endblk ?_ | refine G_block ?_ | refine G_exit rfl ?_)
    refine G_region ?_
    refine GO_q rfl rfl (ev_move rfl) ?_
    refine GO_q rfl rfl (ev_assign rfl) ?_
    refine GO_nil ?_
    (repeat first | refine G_seq ?_ | refine G_skip ?_ | refine G_endblk ?_ | refine G_block ?_ | refine G_exit rfl ?_)
    exact G_ret (L' := own 3 1 O (stabK k v).length e (flat (stabK k v)) :: L) rfl (.tmp rfl .nil) (by (repeat first | exact en_refl | (apply en_blk; focus ((repeat' first | exact Pick.here | apply Pick.skip | apply Pick.app); done); focus rfl) | (apply en_own; focus ((repeat' first | exact Pick.here | apply Pick.skip | apply Pick.app); done); focus rfl) | (apply en_pick; focus ((repeat' first | exact Pick.here | apply Pick.skip | apply Pick.app); done)) | apply en_drop | apply en_app) <;> fail) ⟨O, e, rfl, f4, rfl⟩
  | node b f' t' B d m lo hi =>
    obtain ⟨a1, a2, a3, a4, a5⟩ := f2.next
    have hlk := fun M h => look_yes b f' t' B d m lo hi cc M h a1 (by have := a5.length_le; omega)
    have hnx : SIn L (SA.nxt cc (.node b f' t' B d m lo hi)) := f1.next
    rw [a2] at f3 hlen
    have e4 : (srt (idsOf m)).length = m.length := by rw [srt_length, idsOf_length]
    rw [idsOf_length, List.length_append] at hlen
    (repeat first | refine G_seq ?_ | refine G_skip ?_ | refine G_endblk ?_ | refine G_block ?_ | refine G_exit rfl ?_)
    refine G_region ?_
    refine GO_q rfl rfl (ev_move rfl) ?_
    (first | refine GO_q rfl rfl (ev_neqNil rfl rfl) ?_ | refine GO_q rfl rfl (ev_neqPtr rfl rfl) ?_)
    refine GO_nil ?_
    (repeat first | refine G_seq ?_ | refine G_skip ?_ | refine G_endblk ?_ | refine G_block ?_ | refine G_exit rfl ?_)
    refine G_cond_t rfl rfl ?_
    (repeat first | refine G_seq ?_ | refine G_skip ?_ | refine G_endblk ?_ | refine G_block ?_ | refine G_exit rfl ?_)
    refine G_region ?_
    refine GO_q rfl rfl (ev_move rfl) ?_
    refine GO_q rfl rfl (ev_move rfl) ?_
    refine GO_eff rfl rfl (eff_call rfl (hlk _ f1.skip.skip)) ?_; rintro _ _ ⟨B1, d1, rfl, ⟨i1, i2, i3⟩, rfl⟩
    refine GO_q rfl rfl (ev_move rfl) ?_
    refine GO_q rfl rfl (ev_extract rfl rfl) ?_
    refine GO_q rfl rfl (ev_extract rfl rfl) ?_
    refine GO_q rfl rfl (ev_assign rfl) ?_
    refine GO_q rfl rfl (ev_assign rfl) ?_
    refine GO_nil ?_
    have hri : ∀ M, Rc (own 3 1 B1 (srt (idsOf m)).length d1 (flat (srt (idsOf m))) :: M) 1 B1 (srt (idsOf m)).length (flat (srt (idsOf m))) := fun M => Rc.own (flat_length _) i1
    (repeat first | refine G_seq ?_ | refine G_skip ?_ | refine G_endblk ?_ | refine G_block ?_ | refine G_exit rfl ?_)
    refine G_region ?_
    refine GO_q rfl rfl (ev_move rfl) ?_
    refine GO_q rfl rfl (ev_move rfl) ?_
    refine GO_eff rfl rfl (eff_append rfl rfl (by repeat' first | exact Pick.here | apply Pick.skip) ((by repeat' first | exact hri _ | apply Rc.skip)) ((flat_one _)) (by rfl) (by decide) (by first | omega | (simp; done) | (simp; omega)) (by first | omega | (simp; done) | (simp; omega))) ?_; rintro _ _ ⟨A25, c25, rfl, hc25, hm25, hn25, rfl⟩
    refine GO_q rfl rfl (ev_assign rfl) ?_
    refine GO_nil ?_
    (repeat first | refine G_seq ?_ | refine G_skip ?_ | refine G_endblk ?_ | refine G_block ?_ | refine G_exit rfl ?_)
    refine G_region ?_
    refine GO_q rfl rfl (ev_move rfl) ?_
    refine GO_q rfl rfl (ev_assign rfl) ?_
    refine GO_nil ?_
    (repeat first | refine G_seq ?_ | refine G_skip ?_ | refine G_endblk ?_ | refine G_block ?_ | refine G_exit rfl ?_)
    refine G_round (SA.nxt cc (.node b f' t' B d m lo hi), A25, c25, out ++ srt (idsOf m)) ⟨⟨hnx, a3⟩, ?_, fun _ => hn25 (by
      rename_i hh
      simpa using hh)⟩ a4 ⟨by rw [List.length_append]; rfl, rfl, rfl, trivial⟩ ?_
    · refine List.Perm.trans ?_ f3
      simp only [List.append_assoc]
      refine List.Perm.append_left out ?_
      unfold idsOf
      rw [List.map_append]
      exact (srt_perm _).append_right _
    · simp only [List.length_append, flat_append]
      exact (by (repeat first | exact en_refl | (apply en_blk; focus ((repeat' first | exact Pick.here | apply Pick.skip | apply Pick.app); done); focus rfl) | (apply en_own; focus ((repeat' first | exact Pick.here | apply Pick.skip | apply Pick.app); done); focus rfl) | (apply en_pick; focus ((repeat' first | exact Pick.here | apply Pick.skip | apply Pick.app); done)) | apply en_drop | apply en_app) <;> fail)
theorem tStab_ctr (v : Int) (L : List HP) (h : TIn L t x X A c l most built) (o : TOk x X A c l k R) (hk : k.length ≤ 100) : Ctr Tryz.prog 24 #[.pointer (some ⟨t, 0, none⟩), .int .i64 v] L fun r L' => Made 3 (stabK k v) L r L' := by
  refine Ctr_of (fn := Tryz.f24) (n := 8) Tryz.func24 rfl rfl rfl ?_
  intro g F
  (repeat first | refine G_seq ?_ | refine G_skip ?_ | refine G_endblk ?_ | refine G_block ?_ | refine G_exit rfl ?_)
  refine G_region ?_
  refine GO_q rfl rfl (ev_assign rfl) ?_
  refine GO_nil ?_
  (repeat first | refine G_seq ?_ | refine G_skip ?_ | refine G_endblk ?_ | refine G_block ?_ | refine G_exit rfl ?_)
  refine G_region ?_
  refine GO_q rfl rfl (ev_move rfl) ?_
  refine GO_q rfl rfl (ev_move rfl) ?_
  refine GO_eff rfl rfl (eff_call rfl (tstab_ctr v _ h.skip o hk)) ?_; rintro _ _ ⟨O, e, rfl, f4, rfl⟩
  refine GO_q rfl rfl (ev_assign rfl) ?_
  refine GO_nil ?_
  (repeat first | refine G_seq ?_ | refine G_skip ?_ | refine G_endblk ?_ | refine G_block ?_ | refine G_exit rfl ?_)
  exact G_ret (L' := own 3 1 O (stabK k v).length e (flat (stabK k v)) :: L) rfl (.tmp rfl .nil) (by (repeat first | exact en_refl | (apply en_blk; focus ((repeat' first | exact Pick.here | apply Pick.skip | apply Pick.app); done); focus rfl) | (apply en_own; focus ((repeat' first | exact Pick.here | apply Pick.skip | apply Pick.app); done); focus rfl) | (apply en_pick; focus ((repeat' first | exact Pick.here | apply Pick.skip | apply Pick.app); done)) | apply en_drop | apply en_app) <;> fail) ⟨O, e, rfl, f4, rfl⟩
theorem Rd.mid {L : List HP} {A : Option Addr} {n c i j : Nat} {l : List Pt} (h : Rd L A n l) (hij : i ≤ j) (hj : j ≤ n) (hc : n ≤ c) : Rd L (if c = i then A else A.map (·.add (i * 3))) (j - i) ((l.drop i).take (j - i)) := by
  rcases Nat.eq_zero_or_pos (j - i) with h0 | h0
  · rw [h0]; exact Rd.nil _ _
  · obtain ⟨b, o, rfl, _⟩ := h.at_ (by omega)
    have h1 := (h.drop (k := i) (c := c) (by omega) hc).take (k := j - i) (by omega)
    have e : (if c = i then some ⟨b, o, none⟩ else (some (⟨b, o, none⟩ : Addr)).map (·.add (i * 3))) = some ⟨b, (if c = i then o else o + i * Enc.sz Pt), none⟩ := by
      split
      · rfl
      · simp [Addr.add_lit]; rfl
    rw [e]
    exact h1
theorem tbegins_ctr (lo hi : Int) (L : List HP) (h : TIn L t x X A c l most built) (o : TOk x X A c l k R) (hk : k.length ≤ 100) : Ctr Tryz.prog 52 #[.pointer (some ⟨t, 0, none⟩), .int .i64 lo, .int .i64 hi] L fun r L' => Made 3 (bgnK k lo hi) L r L' := by
  have hll : l.length = k.length := o.perm.length_eq
  have h2 : Ld L ⟨t, 0 + 2, none⟩ (.slice A l.length c) := h.t.at_ (i := 2) rfl
  have hr := h.l
  by_cases c1 : hi ≤ lo
  · have e : bgnK k lo hi = [] := by
      unfold bgnK
      have : (k.filter fun s => decide (lo < s.x ∧ s.x ≤ hi)) = [] := by
        rw [List.filter_eq_nil_iff]; intro a _; simp; omega
      rw [this]; simp [idsOf, srt]
    rw [e]
    refine Ctr_of (fn := Tryz.f52) (n := 50) Tryz.func52 rfl rfl rfl ?_
    intro g F
    refine G_heap (own.nil_ 3 1) ?_
    (repeat first | refine G_seq ?_ | refine G_skip ?_ | refine G_endblk ?_ | refine G_block ?_ | refine G_exit rfl ?_)
    refine G_region ?_
    refine GO_q rfl rfl (ev_assign rfl) ?_
    refine GO_nil ?_
    (repeat first | refine G_seq ?_ | refine G_skip ?_ | refine G_endblk ?_ | refine G_block ?_ | refine G_exit rfl ?_)
    refine G_region ?_
    refine GO_q rfl rfl (ev_assign rfl) ?_
    refine GO_nil ?_
    (repeat first | refine G_seq ?_ | refine G_skip ?_ | refine G_endblk ?_ | refine G_block ?_ | refine G_exit rfl ?_)
    refine G_region ?_
    refine GO_q rfl rfl (ev_move rfl) ?_
    (first | refine GO_q rfl rfl (ev_eqlNil rfl rfl) ?_ | refine GO_q rfl rfl (ev_eqlPtr rfl rfl) ?_)
    refine GO_q rfl rfl (ev_move rfl) ?_
    refine GO_yes rfl rfl rfl rfl ?_
    refine GO_q rfl rfl (ev_move rfl) ?_
    refine GO_yes rfl rfl rfl rfl ?_
    refine GO_q rfl rfl (ev_move rfl) ?_
    refine GO_yes rfl rfl rfl rfl ?_
    refine GO_q rfl rfl (ev_geq rfl rfl) ?_
    refine GO_q rfl rfl (ev_pick_f rfl rfl rfl) ?_
    refine GO_nil ?_
    (repeat first | refine G_seq ?_ | refine G_skip ?_ | refine G_endblk ?_ | refine G_block ?_ | refine G_exit rfl ?_)
    refine G_cond_t rfl (decide_eq_true (by omega)) ?_
    (repeat first | refine G_seq ?_ | refine G_skip ?_ | refine G_endblk ?_ | refine G_block ?_ | refine G_exit rfl ?_)
    refine G_region ?_
    refine GO_q rfl rfl (ev_assign rfl) ?_
    refine GO_nil ?_
    (repeat first | refine G_seq ?_ | refine G_skip ?_ | refine G_endblk ?_ | refine G_block ?_ | refine G_exit rfl ?_)
    exact G_ret (L' := own 3 1 none ([] : List Int).length 0 (flat ([] : List Int)) :: L) rfl (.tmp rfl .nil) (by (repeat first | exact en_refl | (apply en_blk; focus ((repeat' first | exact Pick.here | apply Pick.skip | apply Pick.app); done); focus rfl) | (apply en_own; focus ((repeat' first | exact Pick.here | apply Pick.skip | apply Pick.app); done); focus rfl) | (apply en_pick; focus ((repeat' first | exact Pick.here | apply Pick.skip | apply Pick.app); done)) | apply en_drop | apply en_app) <;> fail) ⟨none, 0, rfl, fun h => absurd h (Nat.lt_irrefl 0), rfl⟩
  · have hb1 := fun L h => LBehind_ctr A l.length c l ⟨0, lo, 0⟩ L h (by omega) o.asc
    have hb2 := fun L h => LBehind_ctr A l.length c l ⟨0, hi, 0⟩ L h (by omega) o.asc
    simp only at hb1 hb2
    have m1 := loB_mono (x := lo) (y := hi) l (by omega)
    have m2 := loB_le hi l
    have hbw := loB_between o.asc (x := lo) (y := hi) (by omega)
    have hbk := o.bgn lo hi
    rw [← hbw] at hbk
    have hmid := hr.mid m1 m2 o.a.2
    generalize loB lo l = i at *
    generalize loB hi l = j at *
    have hml : ((l.drop i).take (j - i)).length = j - i := by rw [List.length_take, List.length_drop]; omega
    have hac := o.a.2
    generalize (l.drop i).take (j - i) = m at *
    generalize hA' : (if c = i then A else A.map (·.add (i * 3))) = A' at *
    refine Ctr_of (fn := Tryz.f52) (n := 50) Tryz.func52 rfl rfl rfl ?_
    intro g F
    refine G_heap (own.nil_ 3 1) ?_
    (repeat first | refine G_seq ?_ | refine G_skip ?_ | refine G_endblk ?_ | refine G_block ?_ | refine G_exit rfl ?_)
    refine G_region ?_
    refine GO_q rfl rfl (ev_assign rfl) ?_
    refine GO_nil ?_
    (repeat first | refine G_seq ?_ | refine G_skip ?_ | refine G_endblk ?_ | refine G_block ?_ | refine G_exit rfl ?_)
    refine G_region ?_
    refine GO_q rfl rfl (ev_assign rfl) ?_
    refine GO_nil ?_
    (repeat first | refine G_seq ?_ | refine G_skip ?_ | refine G_endblk ?_ | refine G_block ?_ | refine G_exit rfl ?_)
    refine G_region ?_
    refine GO_q rfl rfl (ev_move rfl) ?_
    (first | refine GO_q rfl rfl (ev_eqlNil rfl rfl) ?_ | refine GO_q rfl rfl (ev_eqlPtr rfl rfl) ?_)
    refine GO_q rfl rfl (ev_move rfl) ?_
    refine GO_yes rfl rfl rfl rfl ?_
    refine GO_q rfl rfl (ev_move rfl) ?_
    refine GO_yes rfl rfl rfl rfl ?_
    refine GO_q rfl rfl (ev_move rfl) ?_
    refine GO_yes rfl rfl rfl rfl ?_
    refine GO_q rfl rfl (ev_geq rfl rfl) ?_
    refine GO_q rfl rfl (ev_pick_f rfl rfl rfl) ?_
    refine GO_nil ?_
    (repeat first | refine G_seq ?_ | refine G_skip ?_ | refine G_endblk ?_ | refine G_block ?_ | refine G_exit rfl ?_)
    refine G_cond_f rfl (decide_eq_false (by omega)) ?_
    (repeat first | refine G_seq ?_ | refine G_skip ?_ | refine G_endblk ?_ | refine G_block ?_ | refine G_exit rfl ?_)
    (repeat first | refine G_seq ?_ | refine G_skip ?_ | refine G_endblk ?_ | refine G_block ?_ | refine G_exit rfl ?_)
    refine G_draw (.q 0 (.q 1 (.q 2 (.q 3 (.q 4 (.q 5 (.q 6 (.q 7 (.q 8 (.q 9 (.q 11 (.q 12 (.q 13 (.q 14 (.q 15 (.q 16 (.q 20 (.e 10 (.e 17 (.q 18 (.q 19 .nil))))))))))))))))))))) (by kernel_rfl) (by kernel_rfl) ?_
    refine RS_m retB_noPanic rfl rfl rfl rfl (ev_move rfl) ?_
    (first | refine RS_m retB_noPanic rfl rfl rfl rfl (ev_nilCheck rfl) ?_ | refine RS_m retB_noPanic rfl rfl rfl rfl (ev_nilCheckF (by simp) rfl) ?_)
    refine RS_m retB_noPanic rfl rfl rfl rfl (ev_fieldAddr rfl) ?_
    refine RS_q retB_noPanic rfl rfl rfl rfl (ev_load rfl (by repeat' first | exact Ld.blk rfl | assumption | apply Ld.skip | apply Ld.app)) ?_
    refine RS_m retB_noPanic rfl rfl rfl rfl (ev_move rfl) ?_
    (first | refine RS_m retB_noPanic rfl rfl rfl rfl (ev_nilCheck rfl) ?_ | refine RS_m retB_noPanic rfl rfl rfl rfl (ev_nilCheckF (by simp) rfl) ?_)
    refine RS_m retB_noPanic rfl rfl rfl rfl (ev_fieldAddr rfl) ?_
    refine RS_q retB_noPanic rfl rfl rfl rfl (ev_load rfl (by repeat' first | exact Ld.blk rfl | assumption | apply Ld.skip | apply Ld.app)) ?_
    refine RS_m retB_noPanic rfl rfl rfl rfl (ev_move rfl) ?_
    refine RS_m retB_noPanic rfl rfl rfl rfl (ev_build rfl rfl) ?_
    refine RS_m retB_noPanic rfl rfl rfl rfl (ev_move rfl) ?_
    (first | refine RS_m retB_noPanic rfl rfl rfl rfl (ev_nilCheck rfl) ?_ | refine RS_m retB_noPanic rfl rfl rfl rfl (ev_nilCheckF (by simp) rfl) ?_)
    refine RS_m retB_noPanic rfl rfl rfl rfl (ev_fieldAddr rfl) ?_
    refine RS_q retB_noPanic rfl rfl rfl rfl (ev_load rfl (by repeat' first | exact Ld.blk rfl | assumption | apply Ld.skip | apply Ld.app)) ?_
    refine RS_m retB_noPanic rfl rfl rfl rfl (ev_move rfl) ?_
    refine RS_m retB_noPanic rfl rfl rfl rfl (ev_build rfl rfl) ?_
    refine RS_m retB_noPanic rfl rfl rfl rfl (ev_move rfl) ?_
    refine RS_e (RE_eff rfl rfl rfl (eff_call rfl (hb1 _ hr.skip.skip)) ?_); rintro _ _ ⟨rfl, rfl⟩; refine ⟨_, fun _ s => s, (by first | ((repeat first | exact fun _ s => s | apply en_keep | apply en_drop | apply en_app) <;> fail) | ((repeat first | exact en_refl | (apply en_blk; focus ((repeat' first | exact Pick.here | apply Pick.skip | apply Pick.app); done); focus rfl) | (apply en_own; focus ((repeat' first | exact Pick.here | apply Pick.skip | apply Pick.app); done); focus rfl) | (apply en_pick; focus ((repeat' first | exact Pick.here | apply Pick.skip | apply Pick.app); done)) | apply en_drop | apply en_app) <;> fail)), ?_⟩
    refine RS_e (RE_eff rfl rfl rfl (eff_call rfl (hb2 _ hr.skip.skip)) ?_); rintro _ _ ⟨rfl, rfl⟩; refine ⟨_, fun _ s => s, (by first | ((repeat first | exact fun _ s => s | apply en_keep | apply en_drop | apply en_app) <;> fail) | ((repeat first | exact en_refl | (apply en_blk; focus ((repeat' first | exact Pick.here | apply Pick.skip | apply Pick.app); done); focus rfl) | (apply en_own; focus ((repeat' first | exact Pick.here | apply Pick.skip | apply Pick.app); done); focus rfl) | (apply en_pick; focus ((repeat' first | exact Pick.here | apply Pick.skip | apply Pick.app); done)) | apply en_drop | apply en_app) <;> fail)), ?_⟩
    refine RS_q retB_noPanic rfl rfl rfl rfl (ev_slice rfl (.inr ⟨_, _, rfl, rfl⟩) (.inr ⟨_, _, rfl, rfl⟩) m1 (by omega)) ?_
    refine RS_q retB_noPanic rfl rfl rfl rfl (ev_len rfl) ?_
    refine RS_nil ?_
    simp only [hA']
    rw [← hml]
    rw [← hml] at hmid
    have hs := fun A c M hA => sort_ctr A (idsOf m).length c (idsOf m) M hA rfl (by rw [idsOf_length]; omega)
    have hsl : (idsOf m).length = (bgnK k lo hi).length := by rw [← hbk, srt_length]
    rw [hbk] at hs
    have hil := idsOf_length m
    (repeat first | refine G_seq ?_ | refine G_skip ?_ | refine G_endblk ?_ | refine G_block ?_ | refine G_exit rfl ?_)
    refine G_loop (ι := Nat × Option Addr × Nat) (fun z => [(7, .slice z.2.1 z.1 z.2.2), (35, .slice A' m.length (c - i)), (36, .int .i64 (m.length : Nat)), (37, .int .i64 (z.1 : Nat))]) (fun z => own 3 1 z.2.1 z.1 z.2.2 (flat (idsOf (m.take z.1))) :: F :: L) (fun z => z.1 ≤ m.length ∧ (0 < z.1 → ∃ b, z.2.1 = some ⟨b, 0, none⟩)) (fun z => m.length - z.1) (0, none, 0) ⟨Nat.zero_le _, fun h => absurd h (Nat.lt_irrefl 0)⟩ ⟨rfl, rfl, rfl, rfl, trivial⟩ (fun _ s => s) ?_
    rintro ⟨n, O, e⟩ ⟨f1, f2⟩
    simp only at f1 f2
    dsimp only
    (repeat first | refine G_seq ?_ | refine G_skip ?_ | refine G_endblk ?_ | refine G_block ?_ | refine G_exit rfl ?_)
    refine G_region ?_
    (first | refine GO_q rfl rfl (ev_lssN rfl rfl) ?_ | refine GO_q rfl rfl (ev_lss rfl rfl) ?_)
    refine GO_nil ?_
    (repeat first | refine G_seq ?_ | refine G_skip ?_ | refine G_endblk ?_ | refine G_block ?_ | refine G_exit rfl ?_)
    refine G_cond rfl (fun c2 => ?_) (fun c2 => ?_)
    · obtain ⟨b1, o1, rfl, x1⟩ := hmid.at_ (by omega)
      have g1 : m[n]? = some m[n] := List.getElem?_eq_getElem (by omega)
      have y1 := x1 _ _ g1
      have s1 : idsOf (m.take (n + 1)) = idsOf (m.take n) ++ [m[n].id] := by unfold idsOf; rw [List.take_succ_eq_append_getElem (by omega), List.map_append]; rfl
      generalize m[n] = u at *
      have z1 : LdN L b1 (o1 + n * 3) 3 [.int .i64 u.id, .int .i64 u.x, .int .i64 u.y] := y1
      (repeat first | refine G_seq ?_ | refine G_skip ?_ | refine G_endblk ?_ | refine G_block ?_ | refine G_exit rfl ?_)
      refine G_region ?_
      (first | refine GO_q rfl rfl (ev_indexAddrN rfl rfl (by first | omega | (simp; done) | (simp; omega))) ?_ | refine GO_q rfl rfl (ev_indexAddr rfl rfl (by first | omega | (simp; done) | (simp; omega)) (by first | omega | (simp; done) | (simp; omega))) ?_)
      refine GO_q rfl rfl (ev_loadN rfl (by repeat' first | exact LdN.blk rfl | assumption | apply LdN.skip | apply LdN.app)) ?_
      refine GO_eff rfl rfl eff_alloc ?_; rintro _ _ ⟨b9, rfl, rfl⟩
      refine GO_eff rfl rfl (eff_storeN rfl rfl rfl rfl (by repeat' first | exact Upd.here rfl | apply Upd.skip | apply Upd.app)) ?_; rintro _ _ ⟨rfl, rfl⟩
      refine GO_nil ?_
      (repeat first | refine G_seq ?_ | refine G_skip ?_ | refine G_endblk ?_ | refine G_block ?_ | refine G_exit rfl ?_)
      refine G_region ?_
      refine GO_q rfl rfl (ev_move rfl) ?_
      refine GO_q rfl rfl (ev_fieldAddr rfl) ?_
      refine GO_q rfl rfl (ev_load rfl (by repeat' first | exact Ld.blk rfl | assumption | apply Ld.skip | apply Ld.app)) ?_
      refine GO_eff rfl rfl (eff_buildSlice1 (by rfl) rfl rfl) ?_; rintro _ _ ⟨b44, rfl, rfl⟩
      refine GO_eff rfl rfl (eff_append rfl rfl (by repeat' first | exact Pick.here | apply Pick.skip) (by repeat' first | exact Rc.blk rfl | assumption | apply Rc.skip) (one_all rfl) (by rfl) (by decide) (by first | omega | (simp; done) | (simp; omega)) (by first | omega | (simp; done) | (simp; omega))) ?_; rintro _ _ ⟨A45, c45, rfl, hc45, hm45, hn45, rfl⟩
      refine GO_q rfl rfl (ev_assign rfl) ?_
      refine GO_nil ?_
      (repeat first | refine G_seq ?_ | refine G_skip ?_ | refine G_endblk ?_ | refine G_block ?_ | refine G_exit rfl ?_)
      refine G_region ?_
      (first | refine GO_q rfl rfl (ev_addN (q := 1) rfl rfl (by first | omega | (simp; done) | (simp; omega))) ?_ | refine GO_q rfl rfl (ev_add rfl rfl (by first | omega | (simp; done) | (simp; omega))) ?_)
      refine GO_q rfl rfl (ev_move rfl) ?_
      refine GO_nil ?_
      (repeat first | refine G_seq ?_ | refine G_skip ?_ | refine G_endblk ?_ | refine G_block ?_ | refine G_exit rfl ?_)
      refine G_round (n + 1, A45, c45) ⟨c2, fun _ => hn45 (by omega)⟩ (by simp only; omega) ⟨rfl, rfl, rfl, rfl, trivial⟩ ?_
      have e5 : flat (idsOf (m.take (n + 1))) = flat (idsOf (m.take n)) ++ [Value.int .i64 u.id] := by rw [s1]; exact (flat_snoc _ _).symm
      simp only [e5]
      exact (by (repeat first | exact en_refl | (apply en_blk; focus ((repeat' first | exact Pick.here | apply Pick.skip | apply Pick.app); done); focus rfl) | (apply en_own; focus ((repeat' first | exact Pick.here | apply Pick.skip | apply Pick.app); done); focus rfl) | (apply en_pick; focus ((repeat' first | exact Pick.here | apply Pick.skip | apply Pick.app); done)) | apply en_drop | apply en_app) <;> fail)
    · have e0 : n = m.length := by omega
      subst e0
      rw [List.take_length, ← hil]
      rw [← hil] at f2
      (repeat first | refine G_seq ?_ | refine G_skip ?_ | refine G_endblk ?_ | refine G_block ?_ | refine G_exit rfl ?_)
      refine G_region ?_
      refine GO_q rfl rfl (ev_move rfl) ?_
      refine GO_eff rfl rfl (eff_call rfl (Ctr.pick (by repeat' first | exact Pick.here | apply Pick.skip | apply Pick.app) (hs O e _ f2))) ?_; rintro _ _ ⟨rfl, rfl⟩
      refine GO_nil ?_
      rw [hsl] at f2
      rw [hsl]
      (repeat first | refine G_seq ?_ | refine G_skip ?_ | refine G_endblk ?_ | refine G_block ?_ | refine G_exit rfl ?_)
      refine G_region ?_
      refine GO_q rfl rfl (ev_move rfl) ?_
      refine GO_q rfl rfl (ev_assign rfl) ?_
      refine GO_nil ?_
      (repeat first | refine G_seq ?_ | refine G_skip ?_ | refine G_endblk ?_ | refine G_block ?_ | refine G_exit rfl ?_)
      exact G_ret (L' := own 3 1 O (bgnK k lo hi).length e (flat (bgnK k lo hi)) :: L) rfl (.tmp rfl .nil) (by (repeat first | exact en_refl | (apply en_blk; focus ((repeat' first | exact Pick.here | apply Pick.skip | apply Pick.app); done); focus rfl) | (apply en_own; focus ((repeat' first | exact Pick.here | apply Pick.skip | apply Pick.app); done); focus rfl) | (apply en_pick; focus ((repeat' first | exact Pick.here | apply Pick.skip | apply Pick.app); done)) | apply en_drop | apply en_app) <;> fail) ⟨O, e, rfl, f2, rfl⟩
theorem tBegins_ctr (lo hi : Int) (L : List HP) (h : TIn L t x X A c l most built) (o : TOk x X A c l k R) (hk : k.length ≤ 100) : Ctr Tryz.prog 22 #[.pointer (some ⟨t, 0, none⟩), .int .i64 lo, .int .i64 hi] L fun r L' => Made 3 (bgnK k lo hi) L r L' := by
  refine Ctr_of (fn := Tryz.f22) (n := 11) Tryz.func22 rfl rfl rfl ?_
  intro g F
  (repeat first | refine G_seq ?_ | refine G_skip ?_ | refine G_endblk ?_ | refine G_block ?_ | refine G_exit rfl ?_)
  refine G_region ?_
  refine GO_q rfl rfl (ev_assign rfl) ?_
  refine GO_nil ?_
  (repeat first | refine G_seq ?_ | refine G_skip ?_ | refine G_endblk ?_ | refine G_block ?_ | refine G_exit rfl ?_)
  refine G_region ?_
  refine GO_q rfl rfl (ev_move rfl) ?_
  refine GO_q rfl rfl (ev_move rfl) ?_
  refine GO_q rfl rfl (ev_move rfl) ?_
  refine GO_eff rfl rfl (eff_call rfl (tbegins_ctr lo hi _ h.skip o hk)) ?_; rintro _ _ ⟨O, e, rfl, f4, rfl⟩
  refine GO_q rfl rfl (ev_assign rfl) ?_
  refine GO_nil ?_
  (repeat first | refine G_seq ?_ | refine G_skip ?_ | refine G_endblk ?_ | refine G_block ?_ | refine G_exit rfl ?_)
  exact G_ret (L' := own 3 1 O (bgnK k lo hi).length e (flat (bgnK k lo hi)) :: L) rfl (.tmp rfl .nil) (by (repeat first | exact en_refl | (apply en_blk; focus ((repeat' first | exact Pick.here | apply Pick.skip | apply Pick.app); done); focus rfl) | (apply en_own; focus ((repeat' first | exact Pick.here | apply Pick.skip | apply Pick.app); done); focus rfl) | (apply en_pick; focus ((repeat' first | exact Pick.here | apply Pick.skip | apply Pick.app); done)) | apply en_drop | apply en_app) <;> fail) ⟨O, e, rfl, f4, rfl⟩
theorem tOverlap_ctr (lo hi : Int) (L : List HP) (h : TIn L t x X A c l most built) (o : TOk x X A c l k R) (hk : k.length ≤ 100) : Ctr Tryz.prog 27 #[.pointer (some ⟨t, 0, none⟩), .int .i64 lo, .int .i64 hi] L fun r L' => Made 3 (overK k lo hi) L r L' := by
  have hll : l.length = k.length := o.perm.length_eq
  by_cases c1 : hi < lo
  · have e : overK k lo hi = [] := by
      unfold overK
      have : (k.filter fun s => decide (lo ≤ hi ∧ s.x ≤ hi ∧ lo ≤ s.y)) = [] := by
        rw [List.filter_eq_nil_iff]; intro a _; simp; omega
      rw [this]; simp [idsOf, srt]
    rw [e]
    refine Ctr_of (fn := Tryz.f27) (n := 22) Tryz.func27 rfl rfl rfl ?_
    intro g F
    refine G_heap (own.nil_ 3 1) ?_
    (repeat first | refine G_seq ?_ | refine G_skip ?_ | refine G_endblk ?_ | refine G_block ?_ | refine G_exit rfl ?_)
    refine G_region ?_
    refine GO_q rfl rfl (ev_assign rfl) ?_
    refine GO_nil ?_
    (repeat first | refine G_seq ?_ | refine G_skip ?_ | refine G_endblk ?_ | refine G_block ?_ | refine G_exit rfl ?_)
    refine G_region ?_
    refine GO_q rfl rfl (ev_move rfl) ?_
    refine GO_q rfl rfl (ev_move rfl) ?_
    refine GO_q rfl rfl (ev_gtr rfl rfl) ?_
    refine GO_nil ?_
    (repeat first | refine G_seq ?_ | refine G_skip ?_ | refine G_endblk ?_ | refine G_block ?_ | refine G_exit rfl ?_)
    refine G_cond_t rfl (decide_eq_true (by omega)) ?_
    (repeat first | refine G_seq ?_ | refine G_skip ?_ | refine G_endblk ?_ | refine G_block ?_ | refine G_exit rfl ?_)
    refine G_region ?_
    refine GO_q rfl rfl (ev_assign rfl) ?_
    refine GO_nil ?_
    (repeat first | refine G_seq ?_ | refine G_skip ?_ | refine G_endblk ?_ | refine G_block ?_ | refine G_exit rfl ?_)
    exact G_ret (L' := own 3 1 none ([] : List Int).length 0 (flat ([] : List Int)) :: L) rfl (.tmp rfl .nil) (by (repeat first | exact en_refl | (apply en_blk; focus ((repeat' first | exact Pick.here | apply Pick.skip | apply Pick.app); done); focus rfl) | (apply en_own; focus ((repeat' first | exact Pick.here | apply Pick.skip | apply Pick.app); done); focus rfl) | (apply en_pick; focus ((repeat' first | exact Pick.here | apply Pick.skip | apply Pick.app); done)) | apply en_drop | apply en_app) <;> fail) ⟨none, 0, rfl, fun h => absurd h (Nat.lt_irrefl 0), rfl⟩
  · have e := o.over (lo := lo) (hi := hi) (by omega)
    have l1 : (stabK k lo).length ≤ k.length := by unfold stabK; rw [srt_length, idsOf_length]; exact List.length_filter_le _ _
    have l2 : (bgnK k lo hi).length ≤ k.length := by unfold bgnK; rw [srt_length, idsOf_length]; exact List.length_filter_le _ _
    have hs := fun A c M hA => sort_ctr A (stabK k lo ++ bgnK k lo hi).length c (stabK k lo ++ bgnK k lo hi) M hA rfl (by rw [List.length_append]; omega)
    rw [e, List.length_append, flat_append] at hs
    have el : (overK k lo hi).length = (stabK k lo).length + (bgnK k lo hi).length := by rw [← e, srt_length, List.length_append]
    have hst := fun L h => tstab_ctr (t := t) (most := most) (built := built) lo L h o hk
    have hbg := fun L h => tbegins_ctr (t := t) (most := most) (built := built) lo hi L h o hk
    refine Ctr_of (fn := Tryz.f27) (n := 22) Tryz.func27 rfl rfl rfl ?_
    intro g F
    (repeat first | refine G_seq ?_ | refine G_skip ?_ | refine G_endblk ?_ | refine G_block ?_ | refine G_exit rfl ?_)
    refine G_region ?_
    refine GO_q rfl rfl (ev_assign rfl) ?_
    refine GO_nil ?_
    (repeat first | refine G_seq ?_ | refine G_skip ?_ | refine G_endblk ?_ | refine G_block ?_ | refine G_exit rfl ?_)
    refine G_region ?_
    refine GO_q rfl rfl (ev_move rfl) ?_
    refine GO_q rfl rfl (ev_move rfl) ?_
    refine GO_q rfl rfl (ev_gtr rfl rfl) ?_
    refine GO_nil ?_
    (repeat first | refine G_seq ?_ | refine G_skip ?_ | refine G_endblk ?_ | refine G_block ?_ | refine G_exit rfl ?_)
    refine G_cond_f rfl (decide_eq_false (by omega)) ?_
    (repeat first | refine G_seq ?_ | refine G_skip ?_ | refine G_endblk ?_ | refine G_block ?_ | refine G_exit rfl ?_)
    (repeat first | refine G_seq ?_ | refine G_skip ?_ | refine G_endblk ?_ | refine G_block ?_ | refine G_exit rfl ?_)
    refine G_region ?_
    refine GO_q rfl rfl (ev_move rfl) ?_
    refine GO_q rfl rfl (ev_move rfl) ?_
    refine GO_eff rfl rfl (eff_call rfl (hst _ h.skip)) ?_; rintro _ _ ⟨A1, c1', rfl, u1, rfl⟩
    refine GO_q rfl rfl (ev_move rfl) ?_
    refine GO_q rfl rfl (ev_move rfl) ?_
    refine GO_q rfl rfl (ev_move rfl) ?_
    refine GO_eff rfl rfl (eff_call rfl (hbg _ h.skip.skip)) ?_; rintro _ _ ⟨A2, c2', rfl, u2, rfl⟩
    refine GO_eff rfl rfl (eff_append rfl rfl (by repeat' first | exact Pick.here | apply Pick.skip) (Rc.own (flat_length _) u2) ((flat_one _)) (by rfl) (by decide) (by first | omega | (simp; done) | (simp; omega)) (by first | omega | (simp; done) | (simp; omega))) ?_; rintro _ _ ⟨A18, c18, rfl, hc18, hm18, hn18, rfl⟩
    refine GO_q rfl rfl (ev_assign rfl) ?_
    refine GO_nil ?_
    rw [← el] at hn18
    (repeat first | refine G_seq ?_ | refine G_skip ?_ | refine G_endblk ?_ | refine G_block ?_ | refine G_exit rfl ?_)
    refine G_region ?_
    refine GO_q rfl rfl (ev_move rfl) ?_
    refine GO_eff rfl rfl (eff_call rfl (Ctr.pick (by repeat' first | exact Pick.here | apply Pick.skip | apply Pick.app) (hs A18 c18 _ (by rw [← el]; exact hn18)))) ?_; rintro _ _ ⟨rfl, rfl⟩
    refine GO_nil ?_
    rw [← el]
    (repeat first | refine G_seq ?_ | refine G_skip ?_ | refine G_endblk ?_ | refine G_block ?_ | refine G_exit rfl ?_)
    refine G_region ?_
    refine GO_q rfl rfl (ev_move rfl) ?_
    refine GO_q rfl rfl (ev_assign rfl) ?_
    refine GO_nil ?_
    (repeat first | refine G_seq ?_ | refine G_skip ?_ | refine G_endblk ?_ | refine G_block ?_ | refine G_exit rfl ?_)
    exact G_ret (L' := own 3 1 A18 (overK k lo hi).length c18 (flat (overK k lo hi)) :: L) rfl (.tmp rfl .nil) (by (repeat first | exact en_refl | (apply en_blk; focus ((repeat' first | exact Pick.here | apply Pick.skip | apply Pick.app); done); focus rfl) | (apply en_own; focus ((repeat' first | exact Pick.here | apply Pick.skip | apply Pick.app); done); focus rfl) | (apply en_pick; focus ((repeat' first | exact Pick.here | apply Pick.skip | apply Pick.app); done)) | apply en_drop | apply en_app) <;> fail) ⟨A18, c18, rfl, hn18, rfl⟩
end
theorem at_mono {x y : Nat} {v w : Nat → Nat → List Pt → Nat} : ∀ {X : SA}, (X.each fun f t _ _ m => v f t m ≤ w f t m) → X.at_ x y v ≤ X.at_ x y w
  | .nil, _ => Nat.le_refl _
  | .node _ f t _ _ l lo hi, ⟨h1, h2, h3⟩ => by
    unfold SA.at_
    split
    · exact Nat.le_refl _
    · split
      · exact h1
      · exact Nat.add_le_add (at_mono h2) (at_mono h3)
@[reducible] def laidC (b1 b2 b3 : Nat) (s : Pt) (z : Nat × Bool) : List HP := [blk b1 3 [.int .i64 (z.1 : Nat)], blk b2 4 [.bool z.2], blk b3 51 s.cs]
def laidS (s : Pt) (z : Nat × Bool) (f t : Nat) (m : List Pt) : Nat × Bool := (z.1 + (t - f + 1), z.2 && decide (s ∈ m))
theorem laid1_ctr (s : Pt) (z : Nat × Bool) (r b1 b2 b3 b f t : Nat) (A : Option Addr) (c : Nat) (m : List Pt) (p q : Option Addr) (M : List HP) (ha : AdOk A c m) (hm : m.length ≤ 1000) (ho : Asc m) (hft : f ≤ t) (hI : z.1 + (t - f + 1 + r) ≤ 1000000) :
    Ctr Tryz.prog 108 #[.pointer (some ⟨b, 0, none⟩), .pointer (some ⟨b1, 0, none⟩), .pointer (some ⟨b2, 0, none⟩), .pointer (some ⟨b3, 0, none⟩)] (blk b1 3 [.int .i64 (z.1 : Nat)] :: blk b2 4 [.bool z.2] :: blk b3 51 s.cs :: blk b 79 (sgC f t A m.length c p q) :: own 51 3 A m.length c (flat m) :: M) fun v L' => v = .tuple #[] ∧ L' = blk b1 3 [.int .i64 ((laidS s z f t m).1 : Nat)] :: blk b2 4 [.bool (laidS s z f t m).2] :: blk b3 51 s.cs :: blk b 79 (sgC f t A m.length c p q) :: own 51 3 A m.length c (flat m) :: M := by
  have hr : ∀ M, Rd (own 51 3 A m.length c (flat m) :: M) A m.length m := fun M => Rc.own (flat_length m) ha.1
  have hh := fun L h => HasS_ctr A m.length c m s L h (by omega) ho
  unfold laidS
  generalize decide (s ∈ m) = d at *
  obtain ⟨n, e⟩ := z
  simp only at hI ⊢
  refine Ctr_of (fn := Tryz.f108) (n := 26) Tryz.func108 rfl rfl rfl ?_
  intro g F
  have ev : (n : Int) + ((t : Int) - (f : Int) + 1) = ((n + (t - f + 1) : Nat) : Int) := by omega
  (repeat first | refine G_seq ?_ | refine G_skip ?_ | refine G_endblk ?_ | refine G_block ?_ | refine G_exit rfl ?_)
  (repeat first | refine G_seq ?_ | refine G_skip ?_ | refine G_endblk ?_ | refine G_block ?_ | refine G_exit rfl ?_)
  refine G_draw (.q 0 (.q 1 (.q 2 (.q 3 (.q 4 (.q 5 (.q 6 (.q 7 (.q 8 (.q 9 (.q 10 (.q 11 (.e 12 .nil))))))))))))) (by kernel_rfl) (by kernel_rfl) ?_
  refine RS_q retB_noPanic rfl rfl rfl rfl (ev_load rfl (by repeat' first | exact Ld.blk rfl | assumption | apply Ld.skip | apply Ld.app)) ?_
  refine RS_m retB_noPanic rfl rfl rfl rfl (ev_move rfl) ?_
  (first | refine RS_m retB_noPanic rfl rfl rfl rfl (ev_nilCheck rfl) ?_ | refine RS_m retB_noPanic rfl rfl rfl rfl (ev_nilCheckF (by simp) rfl) ?_)
  refine RS_m retB_noPanic rfl rfl rfl rfl (ev_fieldAddr rfl) ?_
  refine RS_q retB_noPanic rfl rfl rfl rfl (ev_load rfl (by repeat' first | exact Ld.blk rfl | assumption | apply Ld.skip | apply Ld.app)) ?_
  refine RS_m retB_noPanic rfl rfl rfl rfl (ev_move rfl) ?_
  (first | refine RS_m retB_noPanic rfl rfl rfl rfl (ev_nilCheck rfl) ?_ | refine RS_m retB_noPanic rfl rfl rfl rfl (ev_nilCheckF (by simp) rfl) ?_)
  refine RS_m retB_noPanic rfl rfl rfl rfl (ev_fieldAddr rfl) ?_
  refine RS_q retB_noPanic rfl rfl rfl rfl (ev_load rfl (by repeat' first | exact Ld.blk rfl | assumption | apply Ld.skip | apply Ld.app)) ?_
  (first | refine RS_m retB_noPanic rfl rfl rfl rfl (ev_subN rfl rfl (by first | omega | (simp; done) | (simp; omega))) ?_ | refine RS_m retB_noPanic rfl rfl rfl rfl (ev_sub rfl rfl (by first | omega | (simp; done) | (simp; omega))) ?_)
  (first | refine RS_m retB_noPanic rfl rfl rfl rfl (ev_addN (q := 1) rfl rfl (by first | omega | (simp; done) | (simp; omega))) ?_ | refine RS_m retB_noPanic rfl rfl rfl rfl (ev_add rfl rfl (by first | omega | (simp; done) | (simp; omega))) ?_)
  (first | refine RS_m retB_noPanic rfl rfl rfl rfl (ev_addN rfl rfl (by first | omega | (simp; done) | (simp; omega))) ?_ | refine RS_m retB_noPanic rfl rfl rfl rfl (ev_add rfl rfl (by first | omega | (simp; done) | (simp; omega))) ?_)
  refine RS_e (RE_last (by kernel_rfl) rfl rfl rfl (eff_store rfl rfl rfl (by repeat' first | exact Upd.here rfl | apply Upd.skip | apply Upd.app)) ?_); rintro _ _ ⟨rfl, rfl⟩
  rw [ev]
  cases e with
  | true =>
    (repeat first | refine G_seq ?_ | refine G_skip ?_ | refine G_endblk ?_ | refine G_block ?_ | refine G_exit rfl ?_)
    refine G_draw (.q 0 (.q 1 (.q 2 (.q 3 (.q 4 (.q 5 (.q 6 (.e 7 (.q 8 (.e 9 .nil)))))))))) (by kernel_rfl) (by kernel_rfl) ?_
    refine RS_q retB_noPanic rfl rfl rfl rfl (ev_load rfl (by repeat' first | exact Ld.blk rfl | assumption | apply Ld.skip | apply Ld.app)) ?_
    refine RS_m retB_noPanic rfl rfl rfl rfl (ev_move rfl) ?_
    refine RS_m_yes retB_noPanic rfl rfl rfl rfl ⟨_, rfl, rfl⟩ rfl (ev_move rfl) ?_
    (first | refine RS_m_yes retB_noPanic rfl rfl rfl rfl ⟨_, rfl, rfl⟩ rfl (ev_nilCheck rfl) ?_ | refine RS_m_yes retB_noPanic rfl rfl rfl rfl ⟨_, rfl, rfl⟩ rfl (ev_nilCheckF (by simp) rfl) ?_)
    refine RS_m_yes retB_noPanic rfl rfl rfl rfl ⟨_, rfl, rfl⟩ rfl (ev_fieldAddr rfl) ?_
    refine RS_q_yes retB_noPanic rfl rfl rfl rfl ⟨_, rfl, rfl⟩ rfl (ev_load rfl (by repeat' first | exact Ld.blk rfl | assumption | apply Ld.skip | apply Ld.app)) ?_
    refine RS_q_yes retB_noPanic rfl rfl rfl rfl ⟨_, rfl, rfl⟩ rfl (ev_loadN rfl (by repeat' first | exact LdN.blk rfl | assumption | apply LdN.skip | apply LdN.app)) ?_
    refine RS_e (RE_eff_yes rfl rfl rfl ⟨_, rfl, rfl⟩ rfl (eff_call rfl (hh _ (by repeat' first | exact hr _ | apply Rd.skip))) ?_); rintro _ _ ⟨rfl, rfl⟩; refine ⟨_, fun _ s => s, (by first | ((repeat first | exact fun _ s => s | apply en_keep | apply en_drop | apply en_app) <;> fail) | ((repeat first | exact en_refl | (apply en_blk; focus ((repeat' first | exact Pick.here | apply Pick.skip | apply Pick.app); done); focus rfl) | (apply en_own; focus ((repeat' first | exact Pick.here | apply Pick.skip | apply Pick.app); done); focus rfl) | (apply en_pick; focus ((repeat' first | exact Pick.here | apply Pick.skip | apply Pick.app); done)) | apply en_drop | apply en_app) <;> fail)), ?_⟩
    refine RS_m retB_noPanic rfl rfl rfl rfl (ev_pick_t rfl rfl rfl) ?_
    refine RS_e (RE_last (by kernel_rfl) rfl rfl rfl (eff_store rfl rfl rfl (by repeat' first | exact Upd.here rfl | apply Upd.skip | apply Upd.app)) ?_); rintro _ _ ⟨rfl, rfl⟩
    (repeat first | refine G_seq ?_ | refine G_skip ?_ | refine G_endblk ?_ | refine G_block ?_ | refine G_exit rfl ?_)
    exact G_end (rs := []) (vs := []) (L' := blk b1 3 [.int .i64 (n + (t - f + 1) : Nat)] :: blk b2 4 [.bool d] :: blk b3 51 s.cs :: blk b 79 (sgC f t A m.length c p q) :: own 51 3 A m.length c (flat m) :: M) rfl .nil (by (repeat first | exact en_refl | (apply en_blk; focus ((repeat' first | exact Pick.here | apply Pick.skip | apply Pick.app); done); focus rfl) | (apply en_own; focus ((repeat' first | exact Pick.here | apply Pick.skip | apply Pick.app); done); focus rfl) | (apply en_pick; focus ((repeat' first | exact Pick.here | apply Pick.skip | apply Pick.app); done)) | apply en_drop | apply en_app) <;> fail) ⟨rfl, rfl⟩
  | false =>
    (repeat first | refine G_seq ?_ | refine G_skip ?_ | refine G_endblk ?_ | refine G_block ?_ | refine G_exit rfl ?_)
    refine G_draw (.q 0 (.q 1 (.q 2 (.q 3 (.q 4 (.q 5 (.q 6 (.e 7 (.q 8 (.e 9 .nil)))))))))) (by kernel_rfl) (by kernel_rfl) ?_
    refine RS_q retB_noPanic rfl rfl rfl rfl (ev_load rfl (by repeat' first | exact Ld.blk rfl | assumption | apply Ld.skip | apply Ld.app)) ?_
    refine RS_m retB_noPanic rfl rfl rfl rfl (ev_move rfl) ?_
    refine RS_q_no retB_noPanic rfl rfl rfl ⟨_, rfl, rfl⟩ rfl ?_
    refine RS_q_no retB_noPanic rfl rfl rfl ⟨_, rfl, rfl⟩ rfl ?_
    refine RS_q_no retB_noPanic rfl rfl rfl ⟨_, rfl, rfl⟩ rfl ?_
    refine RS_q_no retB_noPanic rfl rfl rfl ⟨_, rfl, rfl⟩ rfl ?_
    refine RS_q_no retB_noPanic rfl rfl rfl ⟨_, rfl, rfl⟩ rfl ?_
    refine RS_e (RE_no rfl rfl rfl ⟨_, rfl, rfl⟩ rfl ?_)
    refine RS_m retB_noPanic rfl rfl rfl rfl (ev_pick_f rfl rfl rfl) ?_
    refine RS_e (RE_last (by kernel_rfl) rfl rfl rfl (eff_store rfl rfl rfl (by repeat' first | exact Upd.here rfl | apply Upd.skip | apply Upd.app)) ?_); rintro _ _ ⟨rfl, rfl⟩
    (repeat first | refine G_seq ?_ | refine G_skip ?_ | refine G_endblk ?_ | refine G_block ?_ | refine G_exit rfl ?_)
    exact G_end (rs := []) (vs := []) (L' := blk b1 3 [.int .i64 (n + (t - f + 1) : Nat)] :: blk b2 4 [.bool false] :: blk b3 51 s.cs :: blk b 79 (sgC f t A m.length c p q) :: own 51 3 A m.length c (flat m) :: M) rfl .nil (by (repeat first | exact en_refl | (apply en_blk; focus ((repeat' first | exact Pick.here | apply Pick.skip | apply Pick.app); done); focus rfl) | (apply en_own; focus ((repeat' first | exact Pick.here | apply Pick.skip | apply Pick.app); done); focus rfl) | (apply en_pick; focus ((repeat' first | exact Pick.here | apply Pick.skip | apply Pick.app); done)) | apply en_drop | apply en_app) <;> fail) ⟨rfl, rfl⟩
theorem run_right {x y : Nat} {s : Pt} : ∀ (X : SA) (z : Nat × Bool), (X.run x y (laidS s) z).2 = (z.2 && decide (X.at_ x y (fun _ _ m => if s ∈ m then 0 else 1) = 0))
  | .nil, z => by simp [SA.run, SA.at_]
  | .node _ f t _ _ l lo hi, z => by
    unfold SA.run SA.at_
    split
    · simp
    · split
      · unfold laidS
        simp only
        congr 1
        by_cases h : s ∈ l <;> simp [h]
      · rw [run_right hi, run_right lo, Bool.and_assoc]
        congr 1
        by_cases h : lo.at_ x y (fun _ _ m => if s ∈ m then 0 else 1) = 0 <;> simp [h]
theorem nlaid_ctr (X : SA) (q : Pt → Nat × Nat) (l : List Pt) (T : Nat) (s : Pt) (M : List HP) (hok : SgOk q l X 0 T noP) (had : X.each fun _ _ A c m => AdOk A c m) (hl : l.length ≤ 1000) (ho : Asc l) (hs : s ∈ l) (hT : T ≤ 10000) (h1 : (q s).1 ≤ (q s).2) (h2 : (q s).2 ≤ T) :
    Ctr Tryz.prog 70 #[.pointer X.addr, s.v, .int .i64 ((q s).1 : Nat), .int .i64 ((q s).2 : Nat)] (saH X :: M) fun v L' => v = .tuple #[.int .i64 ((q s).2 - (q s).1 + 1 : Nat), .bool true] ∧ L' = saH X :: M := by
  have hcells := hok.cells h1
  have hright := hok.right hs rfl
  have hP : X.each fun f t A c m => AdOk A c m ∧ m.length ≤ 1000 ∧ Asc m ∧ f ≤ t ∧ t ≤ T := (had.and hok.sub).mono fun _ _ _ _ _ h => ⟨h.1, Nat.le_trans h.2.1.length_le hl, ho.sub h.2.1, h.2.2⟩
  generalize (q s).1 = x at *
  generalize (q s).2 = y at *
  have hr1 := fun z => run_sum (x := x) (y := y) (step := laidS s) (fun z => z.1) (fun f t _ => t - f + 1) (fun z f t l => rfl) X z
  have hr2 := fun z => run_right (x := x) (y := y) (s := s) X z
  have hI : 0 + (X.at_ x y (fun f t _ => t - f + 1) + 0) ≤ 1000000 := by rw [hcells]; omega
  refine Ctr_of (fn := Tryz.f70) (n := 17) Tryz.func70 rfl rfl rfl ?_
  intro g F
  (repeat first | refine G_seq ?_ | refine G_skip ?_ | refine G_endblk ?_ | refine G_block ?_ | refine G_exit rfl ?_)
  refine G_region ?_
  refine GO_eff rfl rfl (eff_box rfl) ?_; rintro _ _ ⟨b5, rfl, rfl⟩
  refine GO_eff rfl rfl eff_alloc ?_; rintro _ _ ⟨b8, rfl, rfl⟩
  refine GO_eff rfl rfl eff_alloc ?_; rintro _ _ ⟨b9, rfl, rfl⟩
  refine GO_nil ?_
  (repeat first | refine G_seq ?_ | refine G_skip ?_ | refine G_endblk ?_ | refine G_block ?_ | refine G_exit rfl ?_)
  refine G_region ?_
  refine GO_eff rfl rfl (eff_store rfl rfl rfl (by repeat' first | exact Upd.here rfl | apply Upd.skip | apply Upd.app)) ?_; rintro _ _ ⟨rfl, rfl⟩
  refine GO_nil ?_
  have hE := fun M => neach_ctr (S := Nat × Bool) (fid := 108) (c1 := []) (c2 := [.pointer (some ⟨b8, 0, none⟩), .pointer (some ⟨b9, 0, none⟩), .pointer (some ⟨b5, 0, none⟩)]) (x := x) (y := y) (C := laidC b8 b9 b5 s) (step := laidS s) (I := fun z r => z.1 + r ≤ 1000000) (wt := fun f t _ => t - f + 1) (G9 := Gsame) (P9 := fun f t A c m => AdOk A c m ∧ m.length ≤ 1000 ∧ Asc m ∧ f ≤ t ∧ t ≤ T)
    (fun z r b f t A c m p q M hp hI => (laid1_ctr s z r b8 b9 b5 b f t A c m p q M hp.1 hp.2.1 hp.2.2.1 hp.2.2.2.1 hI).mono fun v L' h => ⟨h.1, A, c, m, ⟨⟨rfl, rfl, rfl⟩, by show z.1 + (t - f + 1) + r ≤ 1000000; omega⟩, h.2⟩) X (0, true) 0 M hP hI
  (repeat first | refine G_seq ?_ | refine G_skip ?_ | refine G_endblk ?_ | refine G_block ?_ | refine G_exit rfl ?_)
  refine G_region ?_
  refine GO_q rfl rfl (ev_move rfl) ?_
  refine GO_q rfl rfl (ev_move rfl) ?_
  refine GO_q rfl rfl (ev_move rfl) ?_
  refine GO_q rfl rfl (ev_makeFunc rfl rfl) ?_
  refine GO_eff rfl rfl (eff_call rfl (Ctr.pre (M := (fun h => sat (laidC b8 b9 b5 s (0, true)) h) :: saH X :: F :: M) (fun h q => sat.join (N := laidC b8 b9 b5 s (0, true)) ((show ∀ h, sat _ h → sat (blk b8 3 [.int .i64 ((0 : Nat) : Int)] :: blk b9 4 [.bool true] :: blk b5 51 s.cs :: saH X :: F :: M) h from (by (repeat first | exact en_refl | (apply en_blk; focus ((repeat' first | exact Pick.here | apply Pick.skip | apply Pick.app); done); focus rfl) | (apply en_own; focus ((repeat' first | exact Pick.here | apply Pick.skip | apply Pick.app); done); focus rfl) | (apply en_pick; focus ((repeat' first | exact Pick.here | apply Pick.skip | apply Pick.app); done)) | apply en_drop | apply en_app) <;> fail)) h q)) (hE _))) ?_; rintro _ _ ⟨rfl, Y, ⟨hY, _⟩, rfl⟩
  refine GO_nil ?_
  have eY := hY.same
  subst eY
  refine G_heap (fun _ q => sat.part q) ?_
  rw [show (Y.run x y (laidS s) (0, true)) = (y - x + 1, true) from Prod.ext (by rw [hr1, hcells]; simp only; omega) (by rw [hr2, hright]; rfl)]
  show G _ _ _ _ _ _ (blk b8 3 [.int .i64 (y - x + 1 : Nat)] :: blk b9 4 [.bool true] :: blk b5 51 s.cs :: saH Y :: F :: M)
  (repeat first | refine G_seq ?_ | refine G_skip ?_ | refine G_endblk ?_ | refine G_block ?_ | refine G_exit rfl ?_)
  refine G_draw (.q 0 (.q 1 (.e 2 (.e 3 .nil)))) (by kernel_rfl) (by kernel_rfl) ?_
  refine RS_q retB_noPanic rfl rfl rfl rfl (ev_load rfl (by repeat' first | exact Ld.blk rfl | assumption | apply Ld.skip | apply Ld.app)) ?_
  refine RS_q retB_noPanic rfl rfl rfl rfl (ev_load rfl (by repeat' first | exact Ld.blk rfl | assumption | apply Ld.skip | apply Ld.app)) ?_
  refine RS_e (RE_eff rfl rfl rfl (eff_store rfl rfl rfl (by repeat' first | exact Upd.here rfl | apply Upd.skip | apply Upd.app)) ?_); rintro _ _ ⟨rfl, rfl⟩; refine ⟨_, fun _ s => s, (by first | ((repeat first | exact fun _ s => s | apply en_keep | apply en_drop | apply en_app) <;> fail) | ((repeat first | exact en_refl | (apply en_blk; focus ((repeat' first | exact Pick.here | apply Pick.skip | apply Pick.app); done); focus rfl) | (apply en_own; focus ((repeat' first | exact Pick.here | apply Pick.skip | apply Pick.app); done); focus rfl) | (apply en_pick; focus ((repeat' first | exact Pick.here | apply Pick.skip | apply Pick.app); done)) | apply en_drop | apply en_app) <;> fail)), ?_⟩
  refine RS_e (RE_last (by kernel_rfl) rfl rfl rfl (eff_store rfl rfl rfl (by repeat' first | exact Upd.here rfl | apply Upd.skip | apply Upd.app)) ?_); rintro _ _ ⟨rfl, rfl⟩
  (repeat first | refine G_seq ?_ | refine G_skip ?_ | refine G_endblk ?_ | refine G_block ?_ | refine G_exit rfl ?_)
  exact G_ret (L' := saH Y :: M) rfl (.cell rfl (load_run (by repeat' first | exact Ld.blk rfl | assumption | apply Ld.skip | apply Ld.app)) (.cell rfl (load_run (by repeat' first | exact Ld.blk rfl | assumption | apply Ld.skip | apply Ld.app)) .nil)) (by (repeat first | exact en_refl | (apply en_blk; focus ((repeat' first | exact Pick.here | apply Pick.skip | apply Pick.app); done); focus rfl) | (apply en_own; focus ((repeat' first | exact Pick.here | apply Pick.skip | apply Pick.app); done); focus rfl) | (apply en_pick; focus ((repeat' first | exact Pick.here | apply Pick.skip | apply Pick.app); done)) | apply en_drop | apply en_app) <;> fail) ⟨rfl, rfl⟩
theorem count1_ctr (n cb b f t : Nat) (A : Option Addr) (c : Nat) (m : List Pt) (p q : Option Addr) (M : List HP) (hn : n ≤ 1000000) :
    Ctr Tryz.prog 71 #[.pointer (some ⟨b, 0, none⟩), .pointer (some ⟨cb, 0, none⟩)] (blk cb 3 [.int .i64 (n : Nat)] :: blk b 79 (sgC f t A m.length c p q) :: own 51 3 A m.length c (flat m) :: M) fun v L' => v = .tuple #[] ∧ L' = blk cb 3 [.int .i64 (n + 1 : Nat)] :: blk b 79 (sgC f t A m.length c p q) :: own 51 3 A m.length c (flat m) :: M := by
  refine Ctr_of (fn := Tryz.f71) (n := 5) Tryz.func71 rfl rfl rfl ?_
  intro g F
  (repeat first | refine G_seq ?_ | refine G_skip ?_ | refine G_endblk ?_ | refine G_block ?_ | refine G_exit rfl ?_)
  (repeat first | refine G_seq ?_ | refine G_skip ?_ | refine G_endblk ?_ | refine G_block ?_ | refine G_exit rfl ?_)
  refine G_region ?_
  refine GO_q rfl rfl (ev_load rfl (by repeat' first | exact Ld.blk rfl | assumption | apply Ld.skip | apply Ld.app)) ?_
  (first | refine GO_q rfl rfl (ev_addN (q := 1) rfl rfl (by first | omega | (simp; done) | (simp; omega))) ?_ | refine GO_q rfl rfl (ev_add rfl rfl (by first | omega | (simp; done) | (simp; omega))) ?_)
  refine GO_eff rfl rfl (eff_store rfl rfl rfl (by repeat' first | exact Upd.here rfl | apply Upd.skip | apply Upd.app)) ?_; rintro _ _ ⟨rfl, rfl⟩
  refine GO_nil ?_
  (repeat first | refine G_seq ?_ | refine G_skip ?_ | refine G_endblk ?_ | refine G_block ?_ | refine G_exit rfl ?_)
  exact G_end (rs := []) (vs := []) (L' := blk cb 3 [.int .i64 (n + 1 : Nat)] :: blk b 79 (sgC f t A m.length c p q) :: own 51 3 A m.length c (flat m) :: M) rfl .nil (by (repeat first | exact en_refl | (apply en_blk; focus ((repeat' first | exact Pick.here | apply Pick.skip | apply Pick.app); done); focus rfl) | (apply en_own; focus ((repeat' first | exact Pick.here | apply Pick.skip | apply Pick.app); done); focus rfl) | (apply en_pick; focus ((repeat' first | exact Pick.here | apply Pick.skip | apply Pick.app); done)) | apply en_drop | apply en_app) <;> fail) ⟨rfl, rfl⟩
theorem tcount_ctr (t : Nat) (x : RA) (X : SA) (A : Option Addr) (n c : Nat) (most : Int) (built : Nat) (s : Pt) (cb N : Nat) (M : List HP) (ht : LdN M t 0 5 (tgC x X.addr A n c most built)) (hx : RIn M x) (o : x.ok) (hb : x.R.length ≤ 1000) (hs : s.x ≤ s.y) (hN : N + X.vis (qR x.R s).1 (qR x.R s).2 ≤ 1000000) :
    Ctr Tryz.prog 65 #[.pointer (some ⟨t, 0, none⟩), s.v, .func (.func 71) #[] #[.pointer (some ⟨cb, 0, none⟩)]] (blk cb 3 [.int .i64 (N : Nat)] :: saH X :: M) fun v L' => v = .tuple #[] ∧ L' = blk cb 3 [.int .i64 (N + X.vis (qR x.R s).1 (qR x.R s).2 : Nat)] :: saH X :: M := by
  have hrun := run_sum (x := (qR x.R s).1) (y := (qR x.R s).2) (step := fun (N : Nat) _ _ _ => N + 1) (fun N => N) (fun _ _ _ => 1) (fun _ _ _ _ => rfl) X N
  have hE := (teach_ctr (S := Nat) (fid := 71) (c1 := []) (c2 := [.pointer (some ⟨cb, 0, none⟩)]) (C := fun N => [blk cb 3 [.int .i64 (N : Nat)]]) (step := fun N _ _ _ => N + 1) (I := fun N r => N + r ≤ 1000000) (wt := fun _ _ _ => 1) (G9 := Gsame) (P9 := fun _ _ _ _ _ => True)
    (fun N r b f t A c m p q M _ hI => (count1_ctr N cb b f t A c m p q M (by omega)).mono fun v L' h => ⟨h.1, A, c, m, ⟨⟨rfl, rfl, rfl⟩, by show N + 1 + r ≤ 1000000; omega⟩, h.2⟩) t x X A n c most built s N 0 M ht hx o hb hs (by
      clear ht hrun hN
      induction X with
      | nil => trivial
      | node b f t A c m lo hi a b => exact ⟨trivial, a, b⟩) hN).pre (fun h q => sat.join (N := [blk cb 3 [.int .i64 (N : Nat)]]) q)
  refine hE.post' fun v L' hm ⟨e1, Y, ⟨e2, _⟩, e3⟩ q => ⟨_, ⟨e1, rfl⟩, ?_⟩
  have := e2.same
  subst this
  subst e3
  have q2 := sat.part q
  rw [hrun] at q2
  exact q2
theorem vis_le {q : Pt → Nat × Nat} {l : List Pt} {X : SA} {T x y : Nat} (h : SgOk q l X 0 T noP) (hxy : x ≤ y) : X.vis x y ≤ T + 1 := by
  have h1 := h.cells hxy
  have h2 : X.vis x y ≤ X.at_ x y (fun f t _ => t - f + 1) := at_mono (h.sub.mono fun f t _ _ m _ => by omega)
  omega
theorem sum_le (f : Pt → Nat) (B : Nat) : ∀ (l : List Pt), (∀ s ∈ l, f s ≤ B) → (l.map f).sum ≤ l.length * B
  | [], _ => Nat.zero_le _
  | a :: l, h => by
    rw [List.map_cons, List.sum_cons, List.length_cons, Nat.add_mul, Nat.one_mul]
    have := h a (by simp)
    have := sum_le f B l fun s hs => h s (by simp [hs])
    omega
theorem tCheck_ctr (t : Nat) (x : RA) (X : SA) (A : Option Addr) (c : Nat) (l k : List Pt) (R : List Int) (most : Int) (built : Nat) (M : List HP) (o : TOk x X A c l k R) (hk : k.length ≤ 100) :
    Ctr Tryz.prog 30 #[.pointer (some ⟨t, 0, none⟩)] (tgL t x X A c l most built M) fun v L' => v = .bool true ∧ L' = tgL t x X A c l most built M := by
  have hll : l.length = k.length := o.perm.length_eq
  obtain rfl : x.R = R := o.xR
  have hsm := o.small
  have hqle : ∀ s ∈ l, (qR x.R s).1 ≤ (qR x.R s).2 := fun s hs => cellR_mono x.R (o.ends s hs).2.2
  have hq2 : ∀ s, (qR x.R s).2 ≤ 2 * x.R.length := fun s => cellR_le x.R _
  have hvis := fun s hs => vis_le o.sg (hqle s hs)
  have hall : X.all = (l.map fun s => X.vis (qR x.R s).1 (qR x.R s).2).sum := o.sg.all hqle (fun _ _ h => by cases h)
  have hallb := sum_le (fun s => X.vis (qR x.R s).1 (qR x.R s).2) 1000 l (fun s hs => by have := hvis s hs; omega)
  have hra : ∀ M, Rd (own 51 3 A l.length c (flat l) :: M) A l.length l := fun M => Rc.own (flat_length l) o.a.1
  have hrx : ∀ M, RIn (raH x :: M) x := fun M => raH_in o.xo M
  have hrX : ∀ M, SIn (saH X :: M) X := fun M => saH_in o.ad M
  have hna := fun L h => nall_ctr X L h (by omega)
  have hld : ∀ s ∈ l, s.x ∈ x.R ∧ s.y ∈ x.R ∧ s.x ≤ s.y := o.ends
  obtain ⟨rb, d, m, lo, hi, B, hXe⟩ : ∃ rb d m lo hi B, X = .node rb 0 (2 * x.R.length) B d m lo hi := by
    have h := o.sg
    cases X with
    | nil => cases h
    | node rb f' t' B d m lo hi => obtain ⟨a, b, _⟩ := h; subst a b; exact ⟨rb, d, m, lo, hi, B, rfl⟩
  have hrt : ∀ M, LdN (saH X :: M) rb 0 5 (sgC 0 (2 * x.R.length) B m.length d lo.addr hi.addr) := fun M => by
    have := hrX M
    rw [hXe] at this ⊢
    exact this.1
  have haddr : X.addr = some ⟨rb, 0, none⟩ := by rw [hXe]; rfl
  have hr0 : ∀ M, Ld (saH X :: M) ⟨rb, 0 + 0, none⟩ (.int .i64 ((0 : Nat) : Int)) := fun M => (hrt M).at_ (i := 0) rfl
  have hr1 : ∀ M, Ld (saH X :: M) ⟨rb, 0 + 1, none⟩ (.int .i64 ((2 * x.R.length : Nat) : Int)) := fun M => (hrt M).at_ (i := 1) rfl
  unfold tgL
  refine Ctr_of (fn := Tryz.f30) (n := 131) Tryz.func30 rfl rfl rfl ?_
  intro g F
  (repeat first | refine G_seq ?_ | refine G_skip ?_ | refine G_endblk ?_ | refine G_block ?_ | refine G_exit rfl ?_)
  refine G_region ?_
  refine GO_q rfl rfl (ev_assign rfl) ?_
  refine GO_nil ?_
  (repeat first | refine G_seq ?_ | refine G_skip ?_ | refine G_endblk ?_ | refine G_block ?_ | refine G_exit rfl ?_)
  rw [haddr]
  (repeat first | refine G_seq ?_ | refine G_skip ?_ | refine G_endblk ?_ | refine G_block ?_ | refine G_exit rfl ?_)
  refine G_draw (.q 0 (.q 1 (.q 2 (.q 3 (.q 4 (.q 5 (.q 6 (.q 7 (.q 8 (.q 9 (.q 10 (.q 11 (.q 12 (.q 13 (.q 14 (.q 15 (.q 16 (.q 17 (.q 18 (.q 19 (.q 20 (.q 21 (.q 22 (.q 23 (.e 24 (.q 25 (.q 26 (.q 27 (.q 28 (.q 29 (.q 30 (.q 31 (.q 32 (.e 33 (.q 34 (.q 35 (.q 36 (.q 37 (.q 38 (.q 39 (.q 40 (.q 42 (.q 43 (.q 44 (.q 45 (.q 46 (.q 47 (.q 48 (.q 49 (.e 41 (.q 50 (.q 51 .nil)))))))))))))))))))))))))))))))))))))))))))))))))))) (by kernel_rfl) (by kernel_rfl) ?_
  refine RS_m retB_noPanic rfl rfl rfl rfl (ev_move rfl) ?_
  (first | refine RS_m retB_noPanic rfl rfl rfl rfl (ev_eqlNil rfl rfl) ?_ | refine RS_m retB_noPanic rfl rfl rfl rfl (ev_eqlPtr rfl rfl) ?_)
  refine RS_m retB_noPanic rfl rfl rfl rfl (ev_move rfl) ?_
  refine RS_m_yes retB_noPanic rfl rfl rfl rfl ⟨_, rfl, rfl⟩ rfl (ev_move rfl) ?_
  (first | refine RS_m_yes retB_noPanic rfl rfl rfl rfl ⟨_, rfl, rfl⟩ rfl (ev_nilCheck rfl) ?_ | refine RS_m_yes retB_noPanic rfl rfl rfl rfl ⟨_, rfl, rfl⟩ rfl (ev_nilCheckF (by simp) rfl) ?_)
  refine RS_m_yes retB_noPanic rfl rfl rfl rfl ⟨_, rfl, rfl⟩ rfl (ev_fieldAddr rfl) ?_
  refine RS_q_yes retB_noPanic rfl rfl rfl rfl ⟨_, rfl, rfl⟩ rfl (ev_load rfl (by repeat' first | exact Ld.blk rfl | assumption | apply Ld.skip | apply Ld.app)) ?_
  (first | refine RS_m_yes retB_noPanic rfl rfl rfl rfl ⟨_, rfl, rfl⟩ rfl (ev_nilCheck rfl) ?_ | refine RS_m_yes retB_noPanic rfl rfl rfl rfl ⟨_, rfl, rfl⟩ rfl (ev_nilCheckF (by simp) rfl) ?_)
  refine RS_m_yes retB_noPanic rfl rfl rfl rfl ⟨_, rfl, rfl⟩ rfl (ev_fieldAddr rfl) ?_
  refine RS_q_yes retB_noPanic rfl rfl rfl rfl ⟨_, rfl, rfl⟩ rfl (ev_load rfl (by repeat' first | exact hr0 _ | apply Ld.skip)) ?_
  refine RS_m_yes retB_noPanic rfl rfl rfl rfl ⟨_, rfl, rfl⟩ rfl (ev_neq rfl rfl) ?_
  refine RS_m retB_noPanic rfl rfl rfl rfl (ev_pick_f rfl rfl rfl) ?_
  refine RS_m retB_noPanic rfl rfl rfl rfl (ev_move rfl) ?_
  refine RS_m_yes retB_noPanic rfl rfl rfl rfl ⟨_, rfl, rfl⟩ rfl (ev_move rfl) ?_
  (first | refine RS_m_yes retB_noPanic rfl rfl rfl rfl ⟨_, rfl, rfl⟩ rfl (ev_nilCheck rfl) ?_ | refine RS_m_yes retB_noPanic rfl rfl rfl rfl ⟨_, rfl, rfl⟩ rfl (ev_nilCheckF (by simp) rfl) ?_)
  refine RS_m_yes retB_noPanic rfl rfl rfl rfl ⟨_, rfl, rfl⟩ rfl (ev_fieldAddr rfl) ?_
  refine RS_q_yes retB_noPanic rfl rfl rfl rfl ⟨_, rfl, rfl⟩ rfl (ev_load rfl (by repeat' first | exact Ld.blk rfl | assumption | apply Ld.skip | apply Ld.app)) ?_
  (first | refine RS_m_yes retB_noPanic rfl rfl rfl rfl ⟨_, rfl, rfl⟩ rfl (ev_nilCheck rfl) ?_ | refine RS_m_yes retB_noPanic rfl rfl rfl rfl ⟨_, rfl, rfl⟩ rfl (ev_nilCheckF (by simp) rfl) ?_)
  refine RS_m_yes retB_noPanic rfl rfl rfl rfl ⟨_, rfl, rfl⟩ rfl (ev_fieldAddr rfl) ?_
  refine RS_q_yes retB_noPanic rfl rfl rfl rfl ⟨_, rfl, rfl⟩ rfl (ev_load rfl (by repeat' first | exact hr1 _ | apply Ld.skip)) ?_
  refine RS_m_yes retB_noPanic rfl rfl rfl rfl ⟨_, rfl, rfl⟩ rfl (ev_move rfl) ?_
  (first | refine RS_m_yes retB_noPanic rfl rfl rfl rfl ⟨_, rfl, rfl⟩ rfl (ev_nilCheck rfl) ?_ | refine RS_m_yes retB_noPanic rfl rfl rfl rfl ⟨_, rfl, rfl⟩ rfl (ev_nilCheckF (by simp) rfl) ?_)
  refine RS_m_yes retB_noPanic rfl rfl rfl rfl ⟨_, rfl, rfl⟩ rfl (ev_fieldAddr rfl) ?_
  refine RS_q_yes retB_noPanic rfl rfl rfl rfl ⟨_, rfl, rfl⟩ rfl (ev_load rfl (by repeat' first | exact Ld.blk rfl | assumption | apply Ld.skip | apply Ld.app)) ?_
  refine RS_e (RE_eff_yes rfl rfl rfl ⟨_, rfl, rfl⟩ rfl (eff_call rfl (RLen_ctr x _ (by repeat' first | exact hrx _ | apply RIn.skip))) ?_); rintro _ _ ⟨rfl, rfl⟩; refine ⟨_, fun _ s => s, (by first | ((repeat first | exact fun _ s => s | apply en_keep | apply en_drop | apply en_app) <;> fail) | ((repeat first | exact en_refl | (apply en_blk; focus ((repeat' first | exact Pick.here | apply Pick.skip | apply Pick.app); done); focus rfl) | (apply en_own; focus ((repeat' first | exact Pick.here | apply Pick.skip | apply Pick.app); done); focus rfl) | (apply en_pick; focus ((repeat' first | exact Pick.here | apply Pick.skip | apply Pick.app); done)) | apply en_drop | apply en_app) <;> fail)), ?_⟩
  refine RS_m_yes retB_noPanic rfl rfl rfl rfl ⟨_, rfl, rfl⟩ rfl (ev_mul rfl rfl (by first | omega | (simp; done) | (simp; omega))) ?_
  refine RS_m_yes retB_noPanic rfl rfl rfl rfl ⟨_, rfl, rfl⟩ rfl (ev_neq rfl rfl) ?_
  refine RS_m retB_noPanic rfl rfl rfl rfl (ev_pick_f rfl rfl rfl) ?_
  refine RS_m retB_noPanic rfl rfl rfl rfl (ev_move rfl) ?_
  refine RS_m_yes retB_noPanic rfl rfl rfl rfl ⟨_, rfl, (decide_eq_false (by first | omega | (simp only [Int.cast_ofNat_Int] <;> omega)))⟩ rfl (ev_move rfl) ?_
  (first | refine RS_m_yes retB_noPanic rfl rfl rfl rfl ⟨_, rfl, (decide_eq_false (by first | omega | (simp only [Int.cast_ofNat_Int] <;> omega)))⟩ rfl (ev_nilCheck rfl) ?_ | refine RS_m_yes retB_noPanic rfl rfl rfl rfl ⟨_, rfl, (decide_eq_false (by first | omega | (simp only [Int.cast_ofNat_Int] <;> omega)))⟩ rfl (ev_nilCheckF (by simp) rfl) ?_)
  refine RS_m_yes retB_noPanic rfl rfl rfl rfl ⟨_, rfl, (decide_eq_false (by first | omega | (simp only [Int.cast_ofNat_Int] <;> omega)))⟩ rfl (ev_fieldAddr rfl) ?_
  refine RS_q_yes retB_noPanic rfl rfl rfl rfl ⟨_, rfl, (decide_eq_false (by first | omega | (simp only [Int.cast_ofNat_Int] <;> omega)))⟩ rfl (ev_load rfl (by repeat' first | exact Ld.blk rfl | assumption | apply Ld.skip | apply Ld.app)) ?_
  refine RS_e (RE_eff_yes rfl rfl rfl ⟨_, rfl, (decide_eq_false (by first | omega | (simp only [Int.cast_ofNat_Int] <;> omega)))⟩ rfl (eff_call rfl (IsS_ctr A l.length c l _ (by repeat' first | exact hra _ | apply Rd.skip) (by omega) o.asc)) ?_); rintro _ _ ⟨rfl, rfl⟩; refine ⟨_, fun _ s => s, (by first | ((repeat first | exact fun _ s => s | apply en_keep | apply en_drop | apply en_app) <;> fail) | ((repeat first | exact en_refl | (apply en_blk; focus ((repeat' first | exact Pick.here | apply Pick.skip | apply Pick.app); done); focus rfl) | (apply en_own; focus ((repeat' first | exact Pick.here | apply Pick.skip | apply Pick.app); done); focus rfl) | (apply en_pick; focus ((repeat' first | exact Pick.here | apply Pick.skip | apply Pick.app); done)) | apply en_drop | apply en_app) <;> fail)), ?_⟩
  (first | refine RS_m_yes retB_noPanic rfl rfl rfl rfl ⟨_, rfl, (decide_eq_false (by first | omega | (simp only [Int.cast_ofNat_Int] <;> omega)))⟩ rfl (ev_notP rfl) ?_ | refine RS_m_yes retB_noPanic rfl rfl rfl rfl ⟨_, rfl, (decide_eq_false (by first | omega | (simp only [Int.cast_ofNat_Int] <;> omega)))⟩ rfl (ev_not rfl) ?_)
  refine RS_m retB_noPanic rfl rfl rfl rfl (ev_pick_f rfl (decide_eq_false (by first | omega | (simp only [Int.cast_ofNat_Int] <;> omega))) rfl) ?_
  refine RS_m retB_noPanic rfl rfl rfl rfl (ev_move rfl) ?_
  refine RS_m_yes retB_noPanic rfl rfl rfl rfl ⟨_, rfl, rfl⟩ rfl (ev_move rfl) ?_
  (first | refine RS_m_yes retB_noPanic rfl rfl rfl rfl ⟨_, rfl, rfl⟩ rfl (ev_nilCheck rfl) ?_ | refine RS_m_yes retB_noPanic rfl rfl rfl rfl ⟨_, rfl, rfl⟩ rfl (ev_nilCheckF (by simp) rfl) ?_)
  refine RS_m_yes retB_noPanic rfl rfl rfl rfl ⟨_, rfl, rfl⟩ rfl (ev_fieldAddr rfl) ?_
  refine RS_q_yes retB_noPanic rfl rfl rfl rfl ⟨_, rfl, rfl⟩ rfl (ev_load rfl (by repeat' first | exact Ld.blk rfl | assumption | apply Ld.skip | apply Ld.app)) ?_
  refine RS_m_yes retB_noPanic rfl rfl rfl rfl ⟨_, rfl, rfl⟩ rfl (ev_move rfl) ?_
  (first | refine RS_m_yes retB_noPanic rfl rfl rfl rfl ⟨_, rfl, rfl⟩ rfl (ev_nilCheck rfl) ?_ | refine RS_m_yes retB_noPanic rfl rfl rfl rfl ⟨_, rfl, rfl⟩ rfl (ev_nilCheckF (by simp) rfl) ?_)
  refine RS_m_yes retB_noPanic rfl rfl rfl rfl ⟨_, rfl, rfl⟩ rfl (ev_fieldAddr rfl) ?_
  refine RS_q_yes retB_noPanic rfl rfl rfl rfl ⟨_, rfl, rfl⟩ rfl (ev_load rfl (by repeat' first | exact Ld.blk rfl | assumption | apply Ld.skip | apply Ld.app)) ?_
  refine RS_q_yes retB_noPanic rfl rfl rfl rfl ⟨_, rfl, rfl⟩ rfl (ev_len rfl) ?_
  refine RS_m_yes retB_noPanic rfl rfl rfl rfl ⟨_, rfl, rfl⟩ rfl (ev_mul rfl rfl (by first | omega | (simp; done) | (simp; omega))) ?_
  (first | refine RS_m_yes retB_noPanic rfl rfl rfl rfl ⟨_, rfl, rfl⟩ rfl (ev_addN (q := 4) rfl rfl (by first | omega | (simp; done) | (simp; omega))) ?_ | refine RS_m_yes retB_noPanic rfl rfl rfl rfl ⟨_, rfl, rfl⟩ rfl (ev_add rfl rfl (by first | omega | (simp; done) | (simp; omega))) ?_)
  (first | refine RS_m_yes retB_noPanic rfl rfl rfl rfl ⟨_, rfl, rfl⟩ rfl (ev_addN (q := 2) rfl rfl (by first | omega | (simp; done) | (simp; omega))) ?_ | refine RS_m_yes retB_noPanic rfl rfl rfl rfl ⟨_, rfl, rfl⟩ rfl (ev_add rfl rfl (by first | omega | (simp; done) | (simp; omega))) ?_)
  refine RS_e (RE_eff_yes rfl rfl rfl ⟨_, rfl, rfl⟩ rfl (eff_call rfl (RLen_ctr x _ (by repeat' first | exact hrx _ | apply RIn.skip))) ?_); rintro _ _ ⟨rfl, rfl⟩; refine ⟨_, fun _ s => s, (by first | ((repeat first | exact fun _ s => s | apply en_keep | apply en_drop | apply en_app) <;> fail) | ((repeat first | exact en_refl | (apply en_blk; focus ((repeat' first | exact Pick.here | apply Pick.skip | apply Pick.app); done); focus rfl) | (apply en_own; focus ((repeat' first | exact Pick.here | apply Pick.skip | apply Pick.app); done); focus rfl) | (apply en_pick; focus ((repeat' first | exact Pick.here | apply Pick.skip | apply Pick.app); done)) | apply en_drop | apply en_app) <;> fail)), ?_⟩
  refine RS_m_yes retB_noPanic rfl rfl rfl rfl ⟨_, rfl, rfl⟩ rfl (ev_gtr rfl rfl) ?_
  refine RS_m retB_noPanic rfl rfl rfl rfl (ev_pick_f rfl rfl rfl) ?_
  refine RS_nil ?_
  (repeat first | refine G_seq ?_ | refine G_skip ?_ | refine G_endblk ?_ | refine G_block ?_ | refine G_exit rfl ?_)
  refine G_cond_f rfl (decide_eq_false (by first | omega | (simp only [Int.cast_ofNat_Int]; omega))) ?_
  (repeat first | refine G_seq ?_ | refine G_skip ?_ | refine G_endblk ?_ | refine G_block ?_ | refine G_exit rfl ?_)
  rw [← haddr]
  have hce := fun s hs L h => RCells_ctr x s.x s.y L h o.xo (by omega) ((hld s hs).2.2)
  have hlaid := fun s hs M => nlaid_ctr X (qR x.R) l (2 * x.R.length) s M o.sg o.ad (by omega) o.asc hs (by omega) (hqle s hs) (hq2 s)
  unfold qR at hlaid
  simp only at hlaid
  have hkh := fun s (hs : s ∈ l) b L h h' => RkHas_ctr x (some ⟨b, 0, none⟩) 2 2 [s.x, s.y] L h o.xo (by omega) h' (by omega)
  have hbo : ∀ s ∈ l, ([s.x, s.y].all (hasR x.R)) = true := fun s hs => by
    have := hld s hs
    simp [hasR, this.1, this.2.1]
  (repeat first | refine G_seq ?_ | refine G_skip ?_ | refine G_endblk ?_ | refine G_block ?_ | refine G_exit rfl ?_)
  refine G_region ?_
  refine GO_eff rfl rfl eff_alloc ?_; rintro _ _ ⟨b3, rfl, rfl⟩
  refine GO_eff rfl rfl (eff_store rfl rfl rfl (by repeat' first | exact Upd.here rfl | apply Upd.skip | apply Upd.app)) ?_; rintro _ _ ⟨rfl, rfl⟩
  refine GO_nil ?_
  (repeat first | refine G_seq ?_ | refine G_skip ?_ | refine G_endblk ?_ | refine G_block ?_ | refine G_exit rfl ?_)
  refine G_region ?_
  refine GO_q rfl rfl (ev_move rfl) ?_
  (first | refine GO_q rfl rfl (ev_nilCheck rfl) ?_ | refine GO_q rfl rfl (ev_nilCheckF (by simp) rfl) ?_)
  refine GO_q rfl rfl (ev_fieldAddr rfl) ?_
  refine GO_q rfl rfl (ev_load rfl (by repeat' first | exact Ld.blk rfl | assumption | apply Ld.skip | apply Ld.app)) ?_
  refine GO_q rfl rfl (ev_len rfl) ?_
  refine GO_q rfl rfl (ev_move rfl) ?_
  refine GO_nil ?_
  (repeat first | refine G_seq ?_ | refine G_skip ?_ | refine G_endblk ?_ | refine G_block ?_ | refine G_exit rfl ?_)
  refine G_loop (ι := Nat) (fun i => [(0, .pointer (some ⟨t, 0, none⟩)), (3, .pointer (some ⟨b3, 0, none⟩)), (66, .slice A l.length c), (67, .int .i64 (l.length : Nat)), (68, .int .i64 (i : Nat))]) (fun i => blk b3 3 [.int .i64 (((l.take i).map fun s => X.vis (qR x.R s).1 (qR x.R s).2).sum : Nat)] :: F :: blk t 83 (tgC x X.addr A l.length c most built) :: raH x :: saH X :: own 51 3 A l.length c (flat l) :: M) (fun i => i ≤ l.length) (fun i => l.length - i) 0 (Nat.zero_le _) ⟨rfl, rfl, rfl, rfl, rfl, trivial⟩ (by (repeat first | exact en_refl | (apply en_blk; focus ((repeat' first | exact Pick.here | apply Pick.skip | apply Pick.app); done); focus rfl) | (apply en_own; focus ((repeat' first | exact Pick.here | apply Pick.skip | apply Pick.app); done); focus rfl) | (apply en_pick; focus ((repeat' first | exact Pick.here | apply Pick.skip | apply Pick.app); done)) | apply en_drop | apply en_app) <;> fail) ?_
  intro i hi
  (repeat first | refine G_seq ?_ | refine G_skip ?_ | refine G_endblk ?_ | refine G_block ?_ | refine G_exit rfl ?_)
  refine G_region ?_
  (first | refine GO_q rfl rfl (ev_lssN rfl rfl) ?_ | refine GO_q rfl rfl (ev_lss rfl rfl) ?_)
  refine GO_nil ?_
  (repeat first | refine G_seq ?_ | refine G_skip ?_ | refine G_endblk ?_ | refine G_block ?_ | refine G_exit rfl ?_)
  refine G_cond rfl (fun c1 => ?_) (fun c1 => ?_)
  · have hrd := hra M
    obtain ⟨b1, o1, rfl, x1⟩ := hrd.at_ (by omega)
    have g1 : l[i]? = some l[i] := List.getElem?_eq_getElem (by omega)
    have y1 := x1 _ _ g1
    have hm : l[i] ∈ l := List.getElem_mem _
    have s1 : ((l.take (i + 1)).map fun s => X.vis (qR x.R s).1 (qR x.R s).2).sum = ((l.take i).map fun s => X.vis (qR x.R s).1 (qR x.R s).2).sum + X.vis (qR x.R l[i]).1 (qR x.R l[i]).2 := by rw [List.take_succ_eq_append_getElem c1, List.map_append, List.sum_append]; simp
    have sb := sum_le (fun s => X.vis (qR x.R s).1 (qR x.R s).2) 1000 (l.take i) (fun s hs => by have := hvis s (List.mem_of_mem_take hs); omega)
    rw [List.length_take] at sb
    generalize l[i] = u at *
    have hvu := hvis u hm
    have c4 := fun cb N M h1 h2 h3 => tcount_ctr t x X (some ⟨b1, o1, none⟩) l.length c most built u cb N M h1 h2 o.xo (by omega) (hld u hm).2.2 h3
    have c5 := hce u hm
    have c6 := hlaid u hm
    have c7 := hkh u hm
    rw [hbo u hm] at c7
    have hcc : cellR x.R u.x ≤ cellR x.R u.y := cellR_mono x.R (hld u hm).2.2
    have hcb : cellR x.R u.y ≤ 2000 := by have := cellR_le x.R u.y; omega
    have z1 : LdN (own 51 3 (some ⟨b1, o1, none⟩) l.length c (flat l) :: M) b1 (o1 + i * 3) 3 [.int .i64 u.id, .int .i64 u.x, .int .i64 u.y] := y1
    generalize ((l.take i).map fun s => X.vis (qR x.R s).1 (qR x.R s).2).sum = N at *
    generalize X.vis (qR x.R u).1 (qR x.R u).2 = V at *
    generalize cellR x.R u.x = cx at *
    generalize cellR x.R u.y = cy at *
    (repeat first | refine G_seq ?_ | refine G_skip ?_ | refine G_endblk ?_ | refine G_block ?_ | refine G_exit rfl ?_)
    refine G_region ?_
    (first | refine GO_q rfl rfl (ev_indexAddrN rfl rfl (by first | omega | (simp; done) | (simp; omega))) ?_ | refine GO_q rfl rfl (ev_indexAddr rfl rfl (by first | omega | (simp; done) | (simp; omega)) (by first | omega | (simp; done) | (simp; omega))) ?_)
    refine GO_q rfl rfl (ev_loadN rfl (by repeat' first | exact LdN.blk rfl | assumption | apply LdN.skip | apply LdN.app)) ?_
    refine GO_eff rfl rfl eff_alloc ?_; rintro _ _ ⟨b5, rfl, rfl⟩
    refine GO_eff rfl rfl (eff_storeN rfl rfl rfl rfl (by repeat' first | exact Upd.here rfl | apply Upd.skip | apply Upd.app)) ?_; rintro _ _ ⟨rfl, rfl⟩
    refine GO_nil ?_
    (repeat first | refine G_seq ?_ | refine G_skip ?_ | refine G_endblk ?_ | refine G_block ?_ | refine G_exit rfl ?_)
    refine G_draw (.q 0 (.q 1 (.q 2 (.q 3 (.q 4 (.q 5 (.q 6 (.q 7 (.e 8 (.q 9 (.q 10 (.q 11 (.q 12 (.q 13 (.q 14 (.q 15 .nil)))))))))))))))) (by kernel_rfl) (by kernel_rfl) ?_
    refine RS_m retB_noPanic rfl rfl rfl rfl (ev_move rfl) ?_
    (first | refine RS_m retB_noPanic rfl rfl rfl rfl (ev_nilCheck rfl) ?_ | refine RS_m retB_noPanic rfl rfl rfl rfl (ev_nilCheckF (by simp) rfl) ?_)
    refine RS_m retB_noPanic rfl rfl rfl rfl (ev_fieldAddr rfl) ?_
    refine RS_q retB_noPanic rfl rfl rfl rfl (ev_load rfl (by repeat' first | exact Ld.blk rfl | assumption | apply Ld.skip | apply Ld.app)) ?_
    refine RS_m retB_noPanic rfl rfl rfl rfl (ev_fieldAddr rfl) ?_
    refine RS_q retB_noPanic rfl rfl rfl rfl (ev_load rfl (by repeat' first | exact Ld.blk rfl | assumption | apply Ld.skip | apply Ld.app)) ?_
    refine RS_m retB_noPanic rfl rfl rfl rfl (ev_fieldAddr rfl) ?_
    refine RS_q retB_noPanic rfl rfl rfl rfl (ev_load rfl (by repeat' first | exact Ld.blk rfl | assumption | apply Ld.skip | apply Ld.app)) ?_
    refine RS_e (RE_eff rfl rfl rfl (eff_call rfl (c5 _ (by repeat' first | exact hrx _ | apply RIn.skip))) ?_); rintro _ _ ⟨rfl, rfl⟩; refine ⟨_, fun _ s => s, (by first | ((repeat first | exact fun _ s => s | apply en_keep | apply en_drop | apply en_app) <;> fail) | ((repeat first | exact en_refl | (apply en_blk; focus ((repeat' first | exact Pick.here | apply Pick.skip | apply Pick.app); done); focus rfl) | (apply en_own; focus ((repeat' first | exact Pick.here | apply Pick.skip | apply Pick.app); done); focus rfl) | (apply en_pick; focus ((repeat' first | exact Pick.here | apply Pick.skip | apply Pick.app); done)) | apply en_drop | apply en_app) <;> fail)), ?_⟩
    refine RS_m retB_noPanic rfl rfl rfl rfl (ev_move rfl) ?_
    refine RS_m retB_noPanic rfl rfl rfl rfl (ev_extract rfl rfl) ?_
    refine RS_m retB_noPanic rfl rfl rfl rfl (ev_extract rfl rfl) ?_
    refine RS_m retB_noPanic rfl rfl rfl rfl (ev_extract rfl rfl) ?_
    refine RS_m retB_noPanic rfl rfl rfl rfl (ev_assign rfl) ?_
    refine RS_m retB_noPanic rfl rfl rfl rfl (ev_assign rfl) ?_
    refine RS_m retB_noPanic rfl rfl rfl rfl (ev_assign rfl) ?_
    refine RS_nil ?_
    (repeat first | refine G_seq ?_ | refine G_skip ?_ | refine G_endblk ?_ | refine G_block ?_ | refine G_exit rfl ?_)
    refine G_draw (.q 0 (.q 1 (.q 2 (.q 3 (.q 4 (.q 5 (.q 6 (.e 7 (.q 8 (.q 9 (.q 10 (.q 11 (.q 12 .nil))))))))))))) (by kernel_rfl) (by kernel_rfl) ?_
    refine RS_m retB_noPanic rfl rfl rfl rfl (ev_move rfl) ?_
    (first | refine RS_m retB_noPanic rfl rfl rfl rfl (ev_nilCheck rfl) ?_ | refine RS_m retB_noPanic rfl rfl rfl rfl (ev_nilCheckF (by simp) rfl) ?_)
    refine RS_m retB_noPanic rfl rfl rfl rfl (ev_fieldAddr rfl) ?_
    refine RS_q retB_noPanic rfl rfl rfl rfl (ev_load rfl (by repeat' first | exact Ld.blk rfl | assumption | apply Ld.skip | apply Ld.app)) ?_
    refine RS_q retB_noPanic rfl rfl rfl rfl (ev_loadN rfl (by repeat' first | exact LdN.blk rfl | assumption | apply LdN.skip | apply LdN.app)) ?_
    refine RS_m retB_noPanic rfl rfl rfl rfl (ev_move rfl) ?_
    refine RS_m retB_noPanic rfl rfl rfl rfl (ev_move rfl) ?_
    refine RS_e (RE_cmp (by kernel_rfl) rfl rfl rfl (eff_call rfl (Ctr.pick (by repeat' first | exact Pick.here | apply Pick.skip | apply Pick.app) (c6 _))) ?_); rintro _ _ ⟨rfl, rfl⟩
    refine RS_m retB_noPanic rfl rfl rfl rfl (ev_move rfl) ?_
    refine RS_m retB_noPanic rfl rfl rfl rfl (ev_extract rfl rfl) ?_
    refine RS_m retB_noPanic rfl rfl rfl rfl (ev_extract rfl rfl) ?_
    refine RS_m retB_noPanic rfl rfl rfl rfl (ev_assign rfl) ?_
    refine RS_m retB_noPanic rfl rfl rfl rfl (ev_assign rfl) ?_
    refine RS_nil ?_
    (repeat first | refine G_seq ?_ | refine G_skip ?_ | refine G_endblk ?_ | refine G_block ?_ | refine G_exit rfl ?_)
    refine G_draw (.q 0 (.q 1 (.q 2 (.q 3 (.q 4 (.q 5 (.q 6 (.q 7 (.q 8 (.q 9 (.q 10 (.q 11 (.q 12 (.q 13 (.q 14 (.q 15 (.q 16 (.q 17 (.q 18 (.e 19 (.e 20 (.q 21 (.q 22 .nil))))))))))))))))))))))) (by kernel_rfl) (by kernel_rfl) ?_
    refine RS_m retB_noPanic rfl rfl rfl rfl (ev_move rfl) ?_
    refine RS_m retB_noPanic rfl rfl rfl rfl (ev_not rfl) ?_
    refine RS_m retB_noPanic rfl rfl rfl rfl (ev_move rfl) ?_
    refine RS_m_yes retB_noPanic rfl rfl rfl rfl ⟨_, rfl, rfl⟩ rfl (ev_move rfl) ?_
    refine RS_m_yes retB_noPanic rfl rfl rfl rfl ⟨_, rfl, rfl⟩ rfl (ev_move rfl) ?_
    refine RS_m_yes retB_noPanic rfl rfl rfl rfl ⟨_, rfl, rfl⟩ rfl (ev_move rfl) ?_
    (first | refine RS_m_yes retB_noPanic rfl rfl rfl rfl ⟨_, rfl, rfl⟩ rfl (ev_subN rfl rfl (by first | omega | (simp; done) | (simp; omega))) ?_ | refine RS_m_yes retB_noPanic rfl rfl rfl rfl ⟨_, rfl, rfl⟩ rfl (ev_sub rfl rfl (by first | omega | (simp; done) | (simp; omega))) ?_)
    (first | refine RS_m_yes retB_noPanic rfl rfl rfl rfl ⟨_, rfl, rfl⟩ rfl (ev_addN (q := 1) rfl rfl (by first | omega | (simp; done) | (simp; omega))) ?_ | refine RS_m_yes retB_noPanic rfl rfl rfl rfl ⟨_, rfl, rfl⟩ rfl (ev_add rfl rfl (by first | omega | (simp; done) | (simp; omega))) ?_)
    refine RS_m_yes retB_noPanic rfl rfl rfl rfl ⟨_, rfl, rfl⟩ rfl (ev_neq rfl rfl) ?_
    refine RS_m retB_noPanic rfl rfl rfl rfl (ev_pick_f rfl rfl rfl) ?_
    refine RS_m retB_noPanic rfl rfl rfl rfl (ev_move rfl) ?_
    refine RS_m_yes retB_noPanic rfl rfl rfl rfl ⟨_, rfl, (decide_eq_false (by omega))⟩ rfl (ev_move rfl) ?_
    (first | refine RS_m_yes retB_noPanic rfl rfl rfl rfl ⟨_, rfl, (decide_eq_false (by omega))⟩ rfl (ev_nilCheck rfl) ?_ | refine RS_m_yes retB_noPanic rfl rfl rfl rfl ⟨_, rfl, (decide_eq_false (by omega))⟩ rfl (ev_nilCheckF (by simp) rfl) ?_)
    refine RS_m_yes retB_noPanic rfl rfl rfl rfl ⟨_, rfl, (decide_eq_false (by omega))⟩ rfl (ev_fieldAddr rfl) ?_
    refine RS_q_yes retB_noPanic rfl rfl rfl rfl ⟨_, rfl, (decide_eq_false (by omega))⟩ rfl (ev_load rfl (by repeat' first | exact Ld.blk rfl | assumption | apply Ld.skip | apply Ld.app)) ?_
    refine RS_m_yes retB_noPanic rfl rfl rfl rfl ⟨_, rfl, (decide_eq_false (by omega))⟩ rfl (ev_fieldAddr rfl) ?_
    refine RS_q_yes retB_noPanic rfl rfl rfl rfl ⟨_, rfl, (decide_eq_false (by omega))⟩ rfl (ev_load rfl (by repeat' first | exact Ld.blk rfl | assumption | apply Ld.skip | apply Ld.app)) ?_
    refine RS_m_yes retB_noPanic rfl rfl rfl rfl ⟨_, rfl, (decide_eq_false (by omega))⟩ rfl (ev_fieldAddr rfl) ?_
    refine RS_q_yes retB_noPanic rfl rfl rfl rfl ⟨_, rfl, (decide_eq_false (by omega))⟩ rfl (ev_load rfl (by repeat' first | exact Ld.blk rfl | assumption | apply Ld.skip | apply Ld.app)) ?_
    refine RS_e (RE_eff_yes rfl rfl rfl ⟨_, rfl, (decide_eq_false (by omega))⟩ rfl (eff_buildSliceN (by rfl) rfl rfl) ?_); rintro _ _ ⟨b115, rfl, rfl⟩; refine ⟨_, fun _ s => s, (by first | ((repeat first | exact fun _ s => s | apply en_keep | apply en_drop | apply en_app) <;> fail) | ((repeat first | exact en_refl | (apply en_blk; focus ((repeat' first | exact Pick.here | apply Pick.skip | apply Pick.app); done); focus rfl) | (apply en_own; focus ((repeat' first | exact Pick.here | apply Pick.skip | apply Pick.app); done); focus rfl) | (apply en_pick; focus ((repeat' first | exact Pick.here | apply Pick.skip | apply Pick.app); done)) | apply en_drop | apply en_app) <;> fail)), ?_⟩
    refine RS_e (RE_eff_yes rfl rfl rfl ⟨_, rfl, (decide_eq_false (by omega))⟩ rfl (eff_call rfl (c7 _ _ (by repeat' first | exact hrx _ | apply RIn.skip) (by repeat' first | exact Rc.blk rfl | apply Rd.skip))) ?_); rintro _ _ ⟨rfl, rfl⟩; refine ⟨_, fun _ s => s, (by first | ((repeat first | exact fun _ s => s | apply en_keep | apply en_drop | apply en_app) <;> fail) | ((repeat first | exact en_refl | (apply en_blk; focus ((repeat' first | exact Pick.here | apply Pick.skip | apply Pick.app); done); focus rfl) | (apply en_own; focus ((repeat' first | exact Pick.here | apply Pick.skip | apply Pick.app); done); focus rfl) | (apply en_pick; focus ((repeat' first | exact Pick.here | apply Pick.skip | apply Pick.app); done)) | apply en_drop | apply en_app) <;> fail)), ?_⟩
    refine RS_m_yes retB_noPanic rfl rfl rfl rfl ⟨_, rfl, (decide_eq_false (by omega))⟩ rfl (ev_not rfl) ?_
    refine RS_m retB_noPanic rfl rfl rfl rfl (ev_pick_f rfl (decide_eq_false (by omega)) rfl) ?_
    refine RS_nil ?_
    (repeat first | refine G_seq ?_ | refine G_skip ?_ | refine G_endblk ?_ | refine G_block ?_ | refine G_exit rfl ?_)
    refine G_cond_f rfl rfl ?_
    refine G_heap (L' := blk b3 3 [.int .i64 (N : Nat)] :: saH X :: blk b5 51 u.cs :: F :: blk t 83 (tgC x X.addr (some ⟨b1, o1, none⟩) l.length c most built) :: raH x :: own 51 3 (some ⟨b1, o1, none⟩) l.length c (flat l) :: M) (by (repeat first | exact en_refl | (apply en_blk; focus ((repeat' first | exact Pick.here | apply Pick.skip | apply Pick.app); done); focus rfl) | (apply en_own; focus ((repeat' first | exact Pick.here | apply Pick.skip | apply Pick.app); done); focus rfl) | (apply en_pick; focus ((repeat' first | exact Pick.here | apply Pick.skip | apply Pick.app); done)) | apply en_drop | apply en_app) <;> fail) ?_
    (repeat first | refine G_seq ?_ | refine G_skip ?_ | refine G_endblk ?_ | refine G_block ?_ | refine G_exit rfl ?_)
    refine G_region ?_
    refine GO_q rfl rfl (ev_move rfl) ?_
    refine GO_q rfl rfl (ev_loadN rfl (by repeat' first | exact LdN.blk rfl | assumption | apply LdN.skip | apply LdN.app)) ?_
    refine GO_q rfl rfl (ev_makeFunc rfl rfl) ?_
    refine GO_eff rfl rfl (eff_call rfl (c4 b3 N _ (by repeat' first | exact LdN.blk rfl | apply LdN.skip) (by repeat' first | exact hrx _ | apply RIn.skip) (by omega))) ?_; rintro _ _ ⟨rfl, rfl⟩
    refine GO_nil ?_
    (repeat first | refine G_seq ?_ | refine G_skip ?_ | refine G_endblk ?_ | refine G_block ?_ | refine G_exit rfl ?_)
    refine G_region ?_
    (first | refine GO_q rfl rfl (ev_addN (q := 1) rfl rfl (by first | omega | (simp; done) | (simp; omega))) ?_ | refine GO_q rfl rfl (ev_add rfl rfl (by first | omega | (simp; done) | (simp; omega))) ?_)
    refine GO_q rfl rfl (ev_move rfl) ?_
    refine GO_nil ?_
    (repeat first | refine G_seq ?_ | refine G_skip ?_ | refine G_endblk ?_ | refine G_block ?_ | refine G_exit rfl ?_)
    refine G_round (i + 1) (by omega) (by omega) ⟨rfl, rfl, rfl, rfl, rfl, trivial⟩ ?_
    rw [s1]
    exact (by (repeat first | exact en_refl | (apply en_blk; focus ((repeat' first | exact Pick.here | apply Pick.skip | apply Pick.app); done); focus rfl) | (apply en_own; focus ((repeat' first | exact Pick.here | apply Pick.skip | apply Pick.app); done); focus rfl) | (apply en_pick; focus ((repeat' first | exact Pick.here | apply Pick.skip | apply Pick.app); done)) | apply en_drop | apply en_app) <;> fail)
  · have e : i = l.length := by omega
    subst e
    rw [List.take_length, ← hall]
    (repeat first | refine G_seq ?_ | refine G_skip ?_ | refine G_endblk ?_ | refine G_block ?_ | refine G_exit rfl ?_)
    refine G_draw (.q 0 (.q 1 (.q 2 (.q 3 (.q 4 (.e 5 (.q 6 (.q 7 .nil)))))))) (by kernel_rfl) (by kernel_rfl) ?_
    refine RS_q retB_noPanic rfl rfl rfl rfl (ev_load rfl (by repeat' first | exact Ld.blk rfl | assumption | apply Ld.skip | apply Ld.app)) ?_
    refine RS_m retB_noPanic rfl rfl rfl rfl (ev_move rfl) ?_
    (first | refine RS_m retB_noPanic rfl rfl rfl rfl (ev_nilCheck rfl) ?_ | refine RS_m retB_noPanic rfl rfl rfl rfl (ev_nilCheckF (by simp) rfl) ?_)
    refine RS_m retB_noPanic rfl rfl rfl rfl (ev_fieldAddr rfl) ?_
    refine RS_q retB_noPanic rfl rfl rfl rfl (ev_load rfl (by repeat' first | exact Ld.blk rfl | assumption | apply Ld.skip | apply Ld.app)) ?_
    refine RS_e (RE_eff rfl rfl rfl (eff_call rfl (hna _ (by repeat' first | exact hrX _ | apply SIn.skip))) ?_); rintro _ _ ⟨rfl, rfl⟩; refine ⟨_, fun _ s => s, (by first | ((repeat first | exact fun _ s => s | apply en_keep | apply en_drop | apply en_app) <;> fail) | ((repeat first | exact en_refl | (apply en_blk; focus ((repeat' first | exact Pick.here | apply Pick.skip | apply Pick.app); done); focus rfl) | (apply en_own; focus ((repeat' first | exact Pick.here | apply Pick.skip | apply Pick.app); done); focus rfl) | (apply en_pick; focus ((repeat' first | exact Pick.here | apply Pick.skip | apply Pick.app); done)) | apply en_drop | apply en_app) <;> fail)), ?_⟩
    refine RS_m retB_noPanic rfl rfl rfl rfl (ev_eql rfl rfl) ?_
    refine RS_m retB_noPanic rfl rfl rfl rfl (ev_assign rfl) ?_
    refine RS_nil ?_
    (repeat first | refine G_seq ?_ | refine G_skip ?_ | refine G_endblk ?_ | refine G_block ?_ | refine G_exit rfl ?_)
    exact G_ret (L' := blk t 83 (tgC x X.addr A l.length c most built) :: raH x :: saH X :: own 51 3 A l.length c (flat l) :: M) rfl (.tmp rfl .nil) (by (repeat first | exact en_refl | (apply en_blk; focus ((repeat' first | exact Pick.here | apply Pick.skip | apply Pick.app); done); focus rfl) | (apply en_own; focus ((repeat' first | exact Pick.here | apply Pick.skip | apply Pick.app); done); focus rfl) | (apply en_pick; focus ((repeat' first | exact Pick.here | apply Pick.skip | apply Pick.app); done)) | apply en_drop | apply en_app) <;> fail) ⟨by simp [retv], rfl⟩
end Go.Proofs.YtmgkmammkmlakaaGreat
