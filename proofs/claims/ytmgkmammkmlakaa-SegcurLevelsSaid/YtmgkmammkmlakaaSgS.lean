/- Lists of intervals in order: sorted at api.Span. -/
import Derived.Test.YtmgkmammkmlakaaGStd
import Derived.Test.YtmgkmammkmlakaaSgP
import Derived.Test.YtmgkmammkmlakaaPb
namespace Go.Proofs.Ytmgkmammkmlakaa
attribute [local irreducible] sat
set_option linter.unusedVariables false
set_option linter.unusedSimpArgs false
set_option maxRecDepth 100000

/-- What is true of the first ones alone. -/
theorem fall_split (p : Pt → Bool) : ∀ (l : List Pt), l.Pairwise (fun a b => p b = true → p a = true) → l.filter p ++ l.filter (fun x => !p x) = l
  | [], _ => rfl
  | a :: l, h => by
    rw [List.pairwise_cons] at h
    have ih := fall_split p l h.2
    cases ha : p a with
    | true => rw [List.filter_cons_of_pos (by simpa using ha), List.filter_cons_of_neg (by simp [ha]), List.cons_append, ih]
    | false =>
      have h0 : l.filter p = [] := by
        rw [List.filter_eq_nil_iff]; intro b hb hpb
        have := h.1 b hb hpb
        rw [ha] at this; cases this
      rw [List.filter_cons_of_neg (by simp [ha]), List.filter_cons_of_pos (by simp [ha]), h0, List.nil_append]
      rw [h0, List.nil_append] at ih
      rw [ih]
theorem fall_take (p : Pt → Bool) (l : List Pt) (h : l.Pairwise (fun a b => p b = true → p a = true)) : l.take (l.countP p) = l.filter p := by
  have e : l.countP p = (l.filter p).length := List.countP_eq_length_filter
  rw [e]
  have h2 := congrArg (List.take (l.filter p).length) (fall_split p l h)
  rw [List.take_left] at h2
  exact h2.symm
theorem fall_drop (p : Pt → Bool) (l : List Pt) (h : l.Pairwise (fun a b => p b = true → p a = true)) : l.drop (l.countP p) = l.filter (fun x => !p x) := by
  have h1 := fall_take p l h
  have h2 := fall_split p l h
  have h3 := List.take_append_drop (l.countP p) l
  rw [h1] at h3
  exact List.append_cancel_left (h3.trans h2.symm)
theorem fall_at (p : Pt → Bool) (l : List Pt) (h : l.Pairwise (fun a b => p b = true → p a = true)) (j : Nat) (a : Pt) (hj : l[j]? = some a) : (!p a) = true ↔ l.countP p ≤ j := by
  rcases Nat.lt_or_ge j (l.countP p) with h1 | h1
  · have : a ∈ l.filter p := by
      rw [← fall_take p l h]
      exact List.mem_of_getElem? (i := j) (by rw [List.getElem?_take_of_lt h1]; exact hj)
    have := (List.mem_filter.1 this).2
    simp [this]; omega
  · have : a ∈ l.filter (fun x => !p x) := by
      rw [← fall_drop p l h]
      exact List.mem_of_getElem? (i := j - l.countP p) (by rw [List.getElem?_drop, show l.countP p + (j - l.countP p) = j by omega]; exact hj)
    have := (List.mem_filter.1 this).2
    simp only [this, true_iff]; exact h1
theorem Asc.fall_less {l : List Pt} (h : Asc l) (v : Pt) : l.Pairwise (fun a b => b.less v = true → a.less v = true) := h.imp fun hab hb => Pt.less_trans hab hb
theorem Asc.fall_lo {l : List Pt} (h : Asc l) (x : Int) : l.Pairwise (fun a b => decide (b.x ≤ x) = true → decide (a.x ≤ x) = true) := h.imp fun {a b} hab hb => by
  rw [Pt.less_iff] at hab
  simp at hb ⊢; omega
/-- Where an interval stands, or would. -/
def loS (v : Pt) (l : List Pt) : Nat := l.countP (fun x => x.less v)
theorem loS_le (v : Pt) (l : List Pt) : loS v l ≤ l.length := List.countP_le_length
theorem loS_get {l : List Pt} (h : Asc l) (v a : Pt) (hg : l[loS v l]? = some a) : (!v.less a) = decide (v ∈ l) := by
  have h1 := (fall_at _ l (h.fall_less v) _ a hg).2 (Nat.le_refl _)
  have h1' : a.less v = false := by simpa using h1
  have ha := List.mem_of_getElem? hg
  by_cases hv : v ∈ l
  · rw [decide_eq_true hv]
    obtain ⟨j, hj⟩ := List.getElem?_of_mem hv
    have h2 := (fall_at _ l (h.fall_less v) _ v hj).1 (by simp [Pt.less_irrefl])
    have h2' : loS v l ≤ j := h2
    rcases Nat.lt_or_eq_of_le h2' with h3 | h3
    · have hjl : j < l.length := (List.getElem?_eq_some_iff.1 hj).1
      have h4 := List.pairwise_iff_getElem.1 h (loS v l) j (by omega) hjl h3
      have h5 : l[j] = v := (List.getElem?_eq_some_iff.1 hj).2
      have h6 : l[loS v l] = a := (List.getElem?_eq_some_iff.1 hg).2
      rw [h5, h6, h1'] at h4; cases h4
    · rw [h3, hj] at hg; cases hg
      simp [Pt.less_irrefl]
  · rw [decide_eq_false hv]
    have hne : a ≠ v := fun e => hv (e ▸ ha)
    simp [Pt.less_total hne h1']
theorem loS_out {l : List Pt} (h : Asc l) (v : Pt) (hg : ¬ loS v l < l.length) : v ∉ l := fun hv => by
  obtain ⟨j, hj⟩ := List.getElem?_of_mem hv
  have h2 := (fall_at _ l (h.fall_less v) _ v hj).1 (by simp [Pt.less_irrefl])
  have h2' : loS v l ≤ j := h2
  have hjl : j < l.length := (List.getElem?_eq_some_iff.1 hj).1
  omega
theorem loS_erase {l : List Pt} (h : Asc l) (v : Pt) (hv : v ∈ l) : loS v l < l.length ∧ l.take (loS v l) ++ l.drop (loS v l + 1) = l.erase v := by
  have hlt : loS v l < l.length := by
    rcases Nat.lt_or_ge (loS v l) l.length with h1 | h1
    · exact h1
    · exact absurd hv (loS_out h v (by omega))
  refine ⟨hlt, ?_⟩
  have hg : l[loS v l]? = some l[loS v l] := List.getElem?_eq_getElem hlt
  have h1 := loS_get h v _ hg
  rw [decide_eq_true hv] at h1
  have h2 := (fall_at _ l (h.fall_less v) _ _ hg).2 (Nat.le_refl _)
  have e : l[loS v l] = v := by
    rcases Classical.em (l[loS v l] = v) with h3 | h3
    · exact h3
    · have := Pt.less_total h3 (by simpa using h2)
      rw [this] at h1; cases h1
  have hnot : v ∉ l.take (loS v l) := by
    rw [show l.take (loS v l) = l.filter _ from fall_take _ l (h.fall_less v)]
    intro h3
    have := (List.mem_filter.1 h3).2
    rw [Pt.less_irrefl] at this; cases this
  conv => rhs; rw [← List.take_append_drop (loS v l) l, List.drop_eq_getElem_cons hlt, List.erase_append_right _ hnot, e, List.erase_cons_head]
theorem first1S_ctr (a v : Pt) (b4 b5 : Nat) (L : List HP) (h4 : LdN L b4 0 3 [.int .i64 v.id, .int .i64 v.x, .int .i64 v.y]) (h5 : Ld L ⟨b5, 0, none⟩ (.func (.func 17) #[] #[])) :
    Ctr Try.prog 65 #[a.v, .pointer (some ⟨b5, 0, none⟩), .pointer (some ⟨b4, 0, none⟩)] L fun r L' => r = .bool (!a.less v) ∧ L' = L := by
  refine Ctr_of (fn := Try.f65) (n := 10) Try.func65 rfl rfl rfl ?_
  intro g F
  (repeat first | refine G_seq ?_ | refine G_skip ?_ | refine G_endblk ?_ | refine G_block ?_ | refine G_exit rfl ?_)
  refine G_region ?_
  refine GO_eff rfl rfl (eff_box rfl) ?_; rintro _ _ ⟨b3, rfl, rfl⟩
  refine GO_q rfl rfl (ev_assign rfl) ?_
  refine GO_nil ?_
  (repeat first | refine G_seq ?_ | refine G_skip ?_ | refine G_endblk ?_ | refine G_block ?_ | refine G_exit rfl ?_)
  refine G_region ?_
  refine GO_q rfl rfl (ev_load rfl (by repeat' first | exact Ld.blk rfl | assumption | apply Ld.skip | apply Ld.app)) ?_
  refine GO_q rfl rfl (ev_loadN rfl (by repeat' first | exact LdN.blk rfl | assumption | apply LdN.skip | apply LdN.app)) ?_
  refine GO_q rfl rfl (ev_loadN rfl (by repeat' first | exact LdN.blk rfl | assumption | apply LdN.skip | apply LdN.app)) ?_
  refine GO_eff rfl rfl (eff_callv rfl rfl (less_ctr a v _)) ?_; rintro _ _ ⟨rfl, rfl⟩
  refine GO_q rfl rfl (ev_not rfl) ?_
  refine GO_q rfl rfl (ev_assign rfl) ?_
  refine GO_nil ?_
  (repeat first | refine G_seq ?_ | refine G_skip ?_ | refine G_endblk ?_ | refine G_block ?_ | refine G_exit rfl ?_)
  refine G_ret rfl (.tmp rfl .nil) (by (repeat first | exact fun _ s => s | apply en_keep | apply en_drop | apply en_app) <;> fail) ⟨rfl, rfl⟩
theorem firstS_ctr (A : Option Addr) (n c : Nat) (l : List Pt) (v : Pt) (L : List HP) (hl : Rd L A n l) (hn : n ≤ 1000000) (ho : Asc l) :
    Ctr Try.prog 57 #[.slice A n c, v.v, .func (.func 17) #[] #[]] L fun r L' => r = .int .i64 (loS v l : Nat) ∧ L' = L := by
  have h1 : l.length = n := hl.len (by decide)
  have hk := loS_le v l
  have hsp := fall_at _ l (ho.fall_less v)
  refine Ctr_of (fn := Try.f57) (n := 10) Try.func57 rfl rfl rfl ?_
  intro g F
  (repeat first | refine G_seq ?_ | refine G_skip ?_ | refine G_endblk ?_ | refine G_block ?_ | refine G_exit rfl ?_)
  refine G_region ?_
  refine GO_eff rfl rfl (eff_box rfl) ?_; rintro _ _ ⟨b4, rfl, rfl⟩
  refine GO_eff rfl rfl (eff_box rfl) ?_; rintro _ _ ⟨b5, rfl, rfl⟩
  refine GO_q rfl rfl (ev_assign rfl) ?_
  refine GO_nil ?_
  (repeat first | refine G_seq ?_ | refine G_skip ?_ | refine G_endblk ?_ | refine G_block ?_ | refine G_exit rfl ?_)
  refine G_region ?_
  refine GO_q rfl rfl (ev_move rfl) ?_
  refine GO_q rfl rfl (ev_makeFunc rfl rfl) ?_
  refine GO_eff rfl rfl (eff_call rfl (seek_ctr 65 [] [.pointer (some ⟨b5, 0, none⟩), .pointer (some ⟨b4, 0, none⟩)] (fun a => !a.less v) A n c (loS v l) l _ (by repeat' first | exact Rc.blk rfl | assumption | apply Rd.skip | apply Rd.app) hn (by omega) hsp (fun a => first1S_ctr a v b4 b5 _ (by repeat' first | exact LdN.blk rfl | assumption | apply LdN.skip | apply LdN.app) (by repeat' first | exact Ld.blk rfl | assumption | apply Ld.skip | apply Ld.app)))) ?_; rintro _ _ ⟨rfl, rfl⟩
  refine GO_q rfl rfl (ev_assign rfl) ?_
  refine GO_nil ?_
  (repeat first | refine G_seq ?_ | refine G_skip ?_ | refine G_endblk ?_ | refine G_block ?_ | refine G_exit rfl ?_)
  refine G_ret rfl (.tmp rfl .nil) (by (repeat first | exact fun _ s => s | apply en_keep | apply en_drop | apply en_app) <;> fail) ⟨rfl, rfl⟩
theorem hasS_ctr (A : Option Addr) (n c : Nat) (l : List Pt) (v : Pt) (L : List HP) (hl : Rd L A n l) (hn : n ≤ 1000000) (ho : Asc l) :
    Ctr Try.prog 43 #[.slice A n c, v.v, .func (.func 17) #[] #[]] L fun r L' => r = .tuple #[.int .i64 (loS v l : Nat), .bool (decide (v ∈ l))] ∧ L' = L := by
  have h1 : l.length = n := hl.len (by decide)
  have hfi := fun L hl => firstS_ctr A n c l v L hl hn ho
  have hget := loS_get ho v
  have hout := loS_out ho v
  generalize hk : loS v l = k at *
  generalize hd : decide (v ∈ l) = d at *
  by_cases c1 : k < n
  · obtain ⟨b1, o1, rfl, x1⟩ := hl.at_ (by omega)
    have g1 : l[k]? = some l[k] := List.getElem?_eq_getElem (by omega)
    have y1 := x1 _ _ g1
    have hg := hget _ g1
    generalize l[k] = u at *
    have z1 : LdN L b1 (o1 + k * 3) 3 [.int .i64 u.id, .int .i64 u.x, .int .i64 u.y] := y1
    subst hg
    refine Ctr_of (fn := Try.f43) (n := 28) Try.func43 rfl rfl rfl ?_
    intro g F
    (repeat first | refine G_seq ?_ | refine G_skip ?_ | refine G_endblk ?_ | refine G_block ?_ | refine G_exit rfl ?_)
    refine G_region ?_
    refine GO_eff rfl rfl (eff_box rfl) ?_; rintro _ _ ⟨b4, rfl, rfl⟩
    refine GO_q rfl rfl (ev_assign rfl) ?_
    refine GO_q rfl rfl (ev_assign rfl) ?_
    refine GO_nil ?_
    (repeat first | refine G_seq ?_ | refine G_skip ?_ | refine G_endblk ?_ | refine G_block ?_ | refine G_exit rfl ?_)
    refine G_region ?_
    refine GO_q rfl rfl (ev_move rfl) ?_
    refine GO_q rfl rfl (ev_loadN rfl (by repeat' first | exact LdN.blk rfl | assumption | apply LdN.skip | apply LdN.app)) ?_
    refine GO_q rfl rfl (ev_move rfl) ?_
    refine GO_eff rfl rfl (eff_call rfl (hfi _ (by repeat' first | exact Rc.blk rfl | assumption | apply Rd.skip | apply Rd.app))) ?_; rintro _ _ ⟨rfl, rfl⟩
    refine GO_q rfl rfl (ev_assign rfl) ?_
    refine GO_nil ?_
    (repeat first | refine G_seq ?_ | refine G_skip ?_ | refine G_endblk ?_ | refine G_block ?_ | refine G_exit rfl ?_)
    refine G_draw (.q 0 (.q 1 (.q 2 (.q 3 (.q 4 (.q 5 (.q 6 (.q 7 (.q 8 (.q 9 (.q 10 (.q 11 (.e 12 (.q 13 (.q 14 (.q 15 (.q 16 .nil))))))))))))))))) (by kernel_rfl) (by kernel_rfl) ?_
    refine RS_m retB_noPanic rfl rfl rfl rfl (ev_move rfl) ?_
    refine RS_m retB_noPanic rfl rfl rfl rfl (ev_move rfl) ?_
    refine RS_m retB_noPanic rfl rfl rfl rfl (ev_move rfl) ?_
    refine RS_q retB_noPanic rfl rfl rfl rfl (ev_len rfl) ?_
    (first | refine RS_m retB_noPanic rfl rfl rfl rfl (ev_lssN rfl rfl) ?_ | refine RS_m retB_noPanic rfl rfl rfl rfl (ev_lss rfl rfl) ?_)
    refine RS_m retB_noPanic rfl rfl rfl rfl (ev_move rfl) ?_
    refine RS_m_yes retB_noPanic rfl rfl rfl rfl ⟨_, rfl, (decide_eq_true c1)⟩ rfl (ev_move rfl) ?_
    refine RS_q_yes retB_noPanic rfl rfl rfl rfl ⟨_, rfl, (decide_eq_true c1)⟩ rfl (ev_loadN rfl (by repeat' first | exact LdN.blk rfl | assumption | apply LdN.skip | apply LdN.app)) ?_
    refine RS_m_yes retB_noPanic rfl rfl rfl rfl ⟨_, rfl, (decide_eq_true c1)⟩ rfl (ev_move rfl) ?_
    refine RS_m_yes retB_noPanic rfl rfl rfl rfl ⟨_, rfl, (decide_eq_true c1)⟩ rfl (ev_move rfl) ?_
    (first | refine RS_m_yes retB_noPanic rfl rfl rfl rfl ⟨_, rfl, (decide_eq_true c1)⟩ rfl (ev_indexAddrN rfl rfl (by first | omega | (simp; done) | (simp; omega))) ?_ | refine RS_m_yes retB_noPanic rfl rfl rfl rfl ⟨_, rfl, (decide_eq_true c1)⟩ rfl (ev_indexAddr rfl rfl (by first | omega | (simp; done) | (simp; omega)) (by first | omega | (simp; done) | (simp; omega))) ?_)
    refine RS_q_yes retB_noPanic rfl rfl rfl rfl ⟨_, rfl, (decide_eq_true c1)⟩ rfl (ev_loadN rfl (by repeat' first | exact LdN.blk rfl | assumption | apply LdN.skip | apply LdN.app)) ?_
    refine RS_e (RE_eff_yes rfl rfl rfl ⟨_, rfl, (decide_eq_true c1)⟩ rfl (eff_callv rfl rfl (less_ctr v u _)) ?_); rintro _ _ ⟨rfl, rfl⟩; refine ⟨_, fun _ s => s, (by first | ((repeat first | exact fun _ s => s | apply en_keep | apply en_drop | apply en_app) <;> fail) | ((repeat first | exact en_refl | (apply en_blk; focus ((repeat' first | exact Pick.here | apply Pick.skip | apply Pick.app); done); focus rfl) | (apply en_own; focus ((repeat' first | exact Pick.here | apply Pick.skip | apply Pick.app); done); focus rfl) | (apply en_pick; focus ((repeat' first | exact Pick.here | apply Pick.skip | apply Pick.app); done)) | apply en_drop | apply en_app) <;> fail)), ?_⟩
    refine RS_m_yes retB_noPanic rfl rfl rfl rfl ⟨_, rfl, (decide_eq_true c1)⟩ rfl (ev_not rfl) ?_
    refine RS_m retB_noPanic rfl rfl rfl rfl (ev_pick_t rfl (decide_eq_true c1) rfl) ?_
    refine RS_m retB_noPanic rfl rfl rfl rfl (ev_assign rfl) ?_
    refine RS_m retB_noPanic rfl rfl rfl rfl (ev_assign rfl) ?_
    refine RS_nil ?_
    (repeat first | refine G_seq ?_ | refine G_skip ?_ | refine G_endblk ?_ | refine G_block ?_ | refine G_exit rfl ?_)
    refine G_ret rfl (.tmp rfl (.tmp rfl .nil)) (by (repeat first | exact fun _ s => s | apply en_keep | apply en_drop | apply en_app) <;> fail) ⟨rfl, rfl⟩
  · have : d = false := by rw [← hd]; exact decide_eq_false (hout (by omega))
    subst this
    refine Ctr_of (fn := Try.f43) (n := 28) Try.func43 rfl rfl rfl ?_
    intro g F
    (repeat first | refine G_seq ?_ | refine G_skip ?_ | refine G_endblk ?_ | refine G_block ?_ | refine G_exit rfl ?_)
    refine G_region ?_
    refine GO_eff rfl rfl (eff_box rfl) ?_; rintro _ _ ⟨b4, rfl, rfl⟩
    refine GO_q rfl rfl (ev_assign rfl) ?_
    refine GO_q rfl rfl (ev_assign rfl) ?_
    refine GO_nil ?_
    (repeat first | refine G_seq ?_ | refine G_skip ?_ | refine G_endblk ?_ | refine G_block ?_ | refine G_exit rfl ?_)
    refine G_region ?_
    refine GO_q rfl rfl (ev_move rfl) ?_
    refine GO_q rfl rfl (ev_loadN rfl (by repeat' first | exact LdN.blk rfl | assumption | apply LdN.skip | apply LdN.app)) ?_
    refine GO_q rfl rfl (ev_move rfl) ?_
    refine GO_eff rfl rfl (eff_call rfl (hfi _ (by repeat' first | exact Rc.blk rfl | assumption | apply Rd.skip | apply Rd.app))) ?_; rintro _ _ ⟨rfl, rfl⟩
    refine GO_q rfl rfl (ev_assign rfl) ?_
    refine GO_nil ?_
    (repeat first | refine G_seq ?_ | refine G_skip ?_ | refine G_endblk ?_ | refine G_block ?_ | refine G_exit rfl ?_)
    refine G_draw (.q 0 (.q 1 (.q 2 (.q 3 (.q 4 (.q 5 (.q 6 (.q 7 (.q 8 (.q 9 (.q 10 (.q 11 (.e 12 (.q 13 (.q 14 (.q 15 (.q 16 .nil))))))))))))))))) (by kernel_rfl) (by kernel_rfl) ?_
    refine RS_m retB_noPanic rfl rfl rfl rfl (ev_move rfl) ?_
    refine RS_m retB_noPanic rfl rfl rfl rfl (ev_move rfl) ?_
    refine RS_m retB_noPanic rfl rfl rfl rfl (ev_move rfl) ?_
    refine RS_q retB_noPanic rfl rfl rfl rfl (ev_len rfl) ?_
    (first | refine RS_m retB_noPanic rfl rfl rfl rfl (ev_lssN rfl rfl) ?_ | refine RS_m retB_noPanic rfl rfl rfl rfl (ev_lss rfl rfl) ?_)
    refine RS_m retB_noPanic rfl rfl rfl rfl (ev_move rfl) ?_
    refine RS_q_no retB_noPanic rfl rfl rfl ⟨_, rfl, (decide_eq_false c1)⟩ rfl ?_
    refine RS_q_no retB_noPanic rfl rfl rfl ⟨_, rfl, (decide_eq_false c1)⟩ rfl ?_
    refine RS_q_no retB_noPanic rfl rfl rfl ⟨_, rfl, (decide_eq_false c1)⟩ rfl ?_
    refine RS_q_no retB_noPanic rfl rfl rfl ⟨_, rfl, (decide_eq_false c1)⟩ rfl ?_
    refine RS_q_no retB_noPanic rfl rfl rfl ⟨_, rfl, (decide_eq_false c1)⟩ rfl ?_
    refine RS_q_no retB_noPanic rfl rfl rfl ⟨_, rfl, (decide_eq_false c1)⟩ rfl ?_
    refine RS_e (RE_no rfl rfl rfl ⟨_, rfl, (decide_eq_false c1)⟩ rfl ?_)
    refine RS_q_no retB_noPanic rfl rfl rfl ⟨_, rfl, (decide_eq_false c1)⟩ rfl ?_
    refine RS_m retB_noPanic rfl rfl rfl rfl (ev_pick_f rfl (decide_eq_false c1) rfl) ?_
    refine RS_m retB_noPanic rfl rfl rfl rfl (ev_assign rfl) ?_
    refine RS_m retB_noPanic rfl rfl rfl rfl (ev_assign rfl) ?_
    refine RS_nil ?_
    (repeat first | refine G_seq ?_ | refine G_skip ?_ | refine G_endblk ?_ | refine G_block ?_ | refine G_exit rfl ?_)
    refine G_ret rfl (.tmp rfl (.tmp rfl .nil)) (by (repeat first | exact fun _ s => s | apply en_keep | apply en_drop | apply en_app) <;> fail) ⟨rfl, rfl⟩
theorem HasS_ctr (A : Option Addr) (n c : Nat) (l : List Pt) (v : Pt) (L : List HP) (hl : Rd L A n l) (hn : n ≤ 1000000) (ho : Asc l) :
    Ctr Try.prog 27 #[.slice A n c, v.v, .func (.func 17) #[] #[]] L fun r L' => r = .bool (decide (v ∈ l)) ∧ L' = L := by
  refine Ctr_of (fn := Try.f27) (n := 17) Try.func27 rfl rfl rfl ?_
  intro g F
  (repeat first | refine G_seq ?_ | refine G_skip ?_ | refine G_endblk ?_ | refine G_block ?_ | refine G_exit rfl ?_)
  refine G_region ?_
  refine GO_eff rfl rfl (eff_box rfl) ?_; rintro _ _ ⟨b4, rfl, rfl⟩
  refine GO_q rfl rfl (ev_assign rfl) ?_
  refine GO_nil ?_
  (repeat first | refine G_seq ?_ | refine G_skip ?_ | refine G_endblk ?_ | refine G_block ?_ | refine G_exit rfl ?_)
  refine G_region ?_
  refine GO_q rfl rfl (ev_move rfl) ?_
  refine GO_q rfl rfl (ev_loadN rfl (by repeat' first | exact LdN.blk rfl | assumption | apply LdN.skip | apply LdN.app)) ?_
  refine GO_q rfl rfl (ev_move rfl) ?_
  refine GO_eff rfl rfl (eff_call rfl (hasS_ctr A n c l v _ (by repeat' first | exact Rc.blk rfl | assumption | apply Rd.skip | apply Rd.app) hn ho)) ?_; rintro _ _ ⟨rfl, rfl⟩
  refine GO_q rfl rfl (ev_move rfl) ?_
  refine GO_q rfl rfl (ev_extract rfl rfl) ?_
  refine GO_q rfl rfl (ev_extract rfl rfl) ?_
  refine GO_q rfl rfl (ev_assign rfl) ?_
  refine GO_q rfl rfl (ev_assign rfl) ?_
  refine GO_nil ?_
  (repeat first | refine G_seq ?_ | refine G_skip ?_ | refine G_endblk ?_ | refine G_block ?_ | refine G_exit rfl ?_)
  refine G_region ?_
  refine GO_q rfl rfl (ev_move rfl) ?_
  refine GO_q rfl rfl (ev_assign rfl) ?_
  refine GO_nil ?_
  (repeat first | refine G_seq ?_ | refine G_skip ?_ | refine G_endblk ?_ | refine G_block ?_ | refine G_exit rfl ?_)
  refine G_ret rfl (.tmp rfl .nil) (by (repeat first | exact fun _ s => s | apply en_keep | apply en_drop | apply en_app) <;> fail) ⟨rfl, rfl⟩
/-- How many begin no later. -/
def loB (x : Int) (l : List Pt) : Nat := l.countP (fun s => decide (s.x ≤ x))
theorem loB_le (x : Int) (l : List Pt) : loB x l ≤ l.length := List.countP_le_length
theorem loB_mono {x y : Int} (l : List Pt) (h : x ≤ y) : loB x l ≤ loB y l := List.countP_mono_left fun z _ hz => by simp at hz ⊢; omega
theorem loB_between {l : List Pt} (h : Asc l) {x y : Int} (hxy : x ≤ y) : (l.drop (loB x l)).take (loB y l - loB x l) = l.filter (fun s => decide (x < s.x ∧ s.x ≤ y)) := by
  rw [← List.drop_take]
  have e1 : l.take (loB y l) = l.filter (fun s => decide (s.x ≤ y)) := fall_take _ l (h.fall_lo y)
  have e2 : loB x l = loB x (l.filter (fun s => decide (s.x ≤ y))) := by
    unfold loB
    rw [List.countP_filter]
    refine List.countP_congr fun s _ => ?_
    simp; omega
  rw [e1, e2]
  have e3 : (l.filter (fun s => decide (s.x ≤ y))).drop (loB x (l.filter (fun s => decide (s.x ≤ y)))) = _ := fall_drop _ _ ((h.sub List.filter_sublist).fall_lo x)
  rw [e3, List.filter_filter]
  refine List.filter_congr fun s _ => ?_
  by_cases h1 : s.x ≤ x
  · simp [h1]; intro h2; omega
  · simp [h1]; omega
end Go.Proofs.Ytmgkmammkmlakaa
