/- Texts of the law ItcurFinds, one behind the other. -/
import Derived.Test.YtjnmpogolknkpaaGreatItcurFindsM1
import Derived.Sort.Grow
import Derived.Laws.MakeOwn
import Derived.Shelf.Sort.Plain
import Derived.Shelf.Slices.In.SortNone
import Derived.Test.YtjnmpogolknkpaaGreatProg
/- The references' lists of numbers. -/
namespace Go.Proofs.YtjnmpogolknkpaaGreat
attribute [local irreducible] sat
set_option linter.unusedVariables false
set_option linter.unusedSimpArgs false
set_option maxRecDepth 100000

theorem Same_ctr (A B : Option Addr) (n m c d : Nat) (l q : List Int) (L : List HP) (hl : Rd L A n l) (hq : Rd L B m q) (hn : n ≤ 9223372036854775807) :
    Ctr Tryz.prog 15 #[.slice A n c, .slice B m d] L fun v L' => v = .bool (decide (l = q)) ∧ L' = L := by
  have h1 : l.length = n := hl.len (by decide)
  have h2 : q.length = m := hq.len (by decide)
  refine Ctr_of (fn := Tryz.f15) (n := 26) Tryz.func15 rfl rfl rfl ?_
  intro g F
  (repeat first | refine G_seq ?_ | refine G_skip ?_ | refine G_endblk ?_ | refine G_block ?_ | refine G_exit rfl ?_)
  refine G_region ?_
  refine GO_q rfl rfl (ev_assign rfl) ?_
  refine GO_nil ?_
  (repeat first | refine G_seq ?_ | refine G_skip ?_ | refine G_endblk ?_ | refine G_block ?_ | refine G_exit rfl ?_)
  refine G_region ?_
  refine GO_q rfl rfl (ev_move rfl) ?_
  refine GO_q rfl rfl (ev_len rfl) ?_
  refine GO_q rfl rfl (ev_move rfl) ?_
  refine GO_q rfl rfl (ev_len rfl) ?_
  refine GO_q rfl rfl (ev_neq rfl rfl) ?_
  refine GO_nil ?_
  (repeat first | refine G_seq ?_ | refine G_skip ?_ | refine G_endblk ?_ | refine G_block ?_ | refine G_exit rfl ?_)
  refine G_cond rfl (fun h3 => ?_) (fun h3 => ?_)
  · (repeat first | refine G_seq ?_ | refine G_skip ?_ | refine G_endblk ?_ | refine G_block ?_ | refine G_exit rfl ?_)
    refine G_region ?_
    refine GO_q rfl rfl (ev_assign rfl) ?_
    refine GO_nil ?_
    (repeat first | refine G_seq ?_ | refine G_skip ?_ | refine G_endblk ?_ | refine G_block ?_ | refine G_exit rfl ?_)
    refine G_ret rfl (.tmp rfl .nil) (by (repeat first | exact fun _ s => s | apply en_keep | apply en_drop | apply en_app) <;> fail) ⟨by simp [retv]; intro h; subst h; omega, rfl⟩
  · have e : n = m := by omega
    subst e
    (repeat first | refine G_seq ?_ | refine G_skip ?_ | refine G_endblk ?_ | refine G_block ?_ | refine G_exit rfl ?_)
    refine G_region ?_
    refine GO_q rfl rfl (ev_assign rfl) ?_
    refine GO_nil ?_
    (repeat first | refine G_seq ?_ | refine G_skip ?_ | refine G_endblk ?_ | refine G_block ?_ | refine G_exit rfl ?_)
    refine G_loop (ι := Nat) (fun k => [(0, .slice A n c), (1, .slice B n d), (5, .int .i64 (k : Nat))]) (fun _ => F :: L) (fun k => k ≤ n ∧ l.take k = q.take k) (fun k => n - k) 0 ⟨Nat.zero_le _, rfl⟩ ⟨rfl, rfl, rfl, trivial⟩ (by (repeat first | exact fun _ s => s | apply en_keep | apply en_drop | apply en_app) <;> fail) ?_
    rintro k ⟨hk, ht⟩
    (repeat first | refine G_seq ?_ | refine G_skip ?_ | refine G_endblk ?_ | refine G_block ?_ | refine G_exit rfl ?_)
    refine G_region ?_
    refine GO_q rfl rfl (ev_move rfl) ?_
    refine GO_q rfl rfl (ev_move rfl) ?_
    refine GO_q rfl rfl (ev_len rfl) ?_
    (first | refine GO_q rfl rfl (ev_lssN rfl rfl) ?_ | refine GO_q rfl rfl (ev_lss rfl rfl) ?_)
    refine GO_nil ?_
    (repeat first | refine G_seq ?_ | refine G_skip ?_ | refine G_endblk ?_ | refine G_block ?_ | refine G_exit rfl ?_)
    refine G_cond rfl (fun h4 => ?_) (fun h4 => ?_)
    · obtain ⟨b1, o1, rfl, x1⟩ := hl.at_ (by omega)
      obtain ⟨b2, o2, rfl, x2⟩ := hq.at_ (by omega)
      have g1 : l[k]? = some l[k] := List.getElem?_eq_getElem (by omega)
      have g2 : q[k]? = some q[k] := List.getElem?_eq_getElem (by omega)
      have y1 := (x1 _ _ g1).at_ (i := 0) rfl
      have y2 := (x2 _ _ g2).at_ (i := 0) rfl
      have s1 : l.take (k + 1) = l.take k ++ [l[k]] := List.take_succ_eq_append_getElem (by omega)
      have s2 : q.take (k + 1) = q.take k ++ [q[k]] := List.take_succ_eq_append_getElem (by omega)
      generalize l[k] = u at *
      generalize q[k] = v at *
      have z1 : Ld L ⟨b1, o1 + k * 1, none⟩ (.int .i64 u) := y1
      have z2 : Ld L ⟨b2, o2 + k * 1, none⟩ (.int .i64 v) := y2
      (repeat first | refine G_seq ?_ | refine G_skip ?_ | refine G_endblk ?_ | refine G_block ?_ | refine G_exit rfl ?_)
      refine G_draw (.q 0 (.q 1 (.q 2 (.q 3 (.q 4 (.q 5 (.q 6 (.q 7 (.q 8 .nil))))))))) (by kernel_rfl) (by kernel_rfl) ?_
      refine RS_m retB_noPanic rfl rfl rfl rfl (ev_move rfl) ?_
      refine RS_m retB_noPanic rfl rfl rfl rfl (ev_move rfl) ?_
      (first | refine RS_m retB_noPanic rfl rfl rfl rfl (ev_indexAddrN rfl rfl (by first | omega | (simp; done) | (simp; omega))) ?_ | refine RS_m retB_noPanic rfl rfl rfl rfl (ev_indexAddr rfl rfl (by first | omega | (simp; done) | (simp; omega)) (by first | omega | (simp; done) | (simp; omega))) ?_)
      refine RS_q retB_noPanic rfl rfl rfl rfl (ev_load rfl (by repeat' first | exact Ld.blk rfl | assumption | apply Ld.skip | apply Ld.app)) ?_
      refine RS_m retB_noPanic rfl rfl rfl rfl (ev_move rfl) ?_
      refine RS_m retB_noPanic rfl rfl rfl rfl (ev_move rfl) ?_
      (first | refine RS_m retB_noPanic rfl rfl rfl rfl (ev_indexAddrN rfl rfl (by first | omega | (simp; done) | (simp; omega))) ?_ | refine RS_m retB_noPanic rfl rfl rfl rfl (ev_indexAddr rfl rfl (by first | omega | (simp; done) | (simp; omega)) (by first | omega | (simp; done) | (simp; omega))) ?_)
      refine RS_q retB_noPanic rfl rfl rfl rfl (ev_load rfl (by repeat' first | exact Ld.blk rfl | assumption | apply Ld.skip | apply Ld.app)) ?_
      refine RS_m retB_noPanic rfl rfl rfl rfl (ev_neq rfl rfl) ?_
      refine RS_nil ?_
      (repeat first | refine G_seq ?_ | refine G_skip ?_ | refine G_endblk ?_ | refine G_block ?_ | refine G_exit rfl ?_)
      refine G_cond rfl (fun h5 => ?_) (fun h5 => ?_)
      · (repeat first | refine G_seq ?_ | refine G_skip ?_ | refine G_endblk ?_ | refine G_block ?_ | refine G_exit rfl ?_)
        refine G_region ?_
        refine GO_q rfl rfl (ev_assign rfl) ?_
        refine GO_nil ?_
        (repeat first | refine G_seq ?_ | refine G_skip ?_ | refine G_endblk ?_ | refine G_block ?_ | refine G_exit rfl ?_)
        refine G_ret rfl (.tmp rfl .nil) (by (repeat first | exact fun _ s => s | apply en_keep | apply en_drop | apply en_app) <;> fail) ⟨by simp [retv]; intro h; subst h; exact h5 (by rw [g1] at g2; exact Option.some.inj g2), rfl⟩
      · have e : u = v := by omega
        (repeat first | refine G_seq ?_ | refine G_skip ?_ | refine G_endblk ?_ | refine G_block ?_ | refine G_exit rfl ?_)
        refine G_region ?_
        refine GO_q rfl rfl (ev_move rfl) ?_
        (first | refine GO_q rfl rfl (ev_addN (q := 1) rfl rfl (by first | omega | (simp; done) | (simp; omega))) ?_ | refine GO_q rfl rfl (ev_add rfl rfl (by first | omega | (simp; done) | (simp; omega))) ?_)
        refine GO_q rfl rfl (ev_assign rfl) ?_
        refine GO_nil ?_
        (repeat first | refine G_seq ?_ | refine G_skip ?_ | refine G_endblk ?_ | refine G_block ?_ | refine G_exit rfl ?_)
        exact G_round (k + 1) ⟨by omega, by rw [s1, s2, ht, e]⟩ (by omega) ⟨rfl, rfl, rfl, trivial⟩ (by (repeat first | exact fun _ s => s | apply en_keep | apply en_drop | apply en_app) <;> fail)
    · have e : k = n := by omega
      subst e
      have : l = q := by rwa [List.take_of_length_le (by omega), List.take_of_length_le (by omega)] at ht
      (repeat first | refine G_seq ?_ | refine G_skip ?_ | refine G_endblk ?_ | refine G_block ?_ | refine G_exit rfl ?_)
      refine G_region ?_
      refine GO_q rfl rfl (ev_assign rfl) ?_
      refine GO_nil ?_
      (repeat first | refine G_seq ?_ | refine G_skip ?_ | refine G_endblk ?_ | refine G_block ?_ | refine G_exit rfl ?_)
      refine G_ret rfl (.tmp rfl .nil) (by (repeat first | exact fun _ s => s | apply en_keep | apply en_drop | apply en_app) <;> fail) ⟨by simp [retv, this], rfl⟩

/-- A number put in, behind those that are not greater. -/
def ins (x : Int) (l : List Int) : List Int := l.takeWhile (fun y => decide (y ≤ x)) ++ x :: l.dropWhile (fun y => decide (y ≤ x))
def rising (l : List Int) : List Int := l.foldl (fun o x => ins x o) []
theorem ins_length (x : Int) (l : List Int) : (ins x l).length = l.length + 1 := by
  unfold ins
  have := congrArg List.length (List.takeWhile_append_dropWhile (p := fun y => decide (y ≤ x)) (l := l))
  rw [List.length_append] at this
  rw [List.length_append, List.length_cons]
  omega
theorem ins_at (x : Int) (l : List Int) (k : Nat) (hk : k = (l.takeWhile (fun y => decide (y ≤ x))).length) : ins x l = l.take k ++ [x] ++ l.drop k := by
  have h := List.takeWhile_append_dropWhile (p := fun y => decide (y ≤ x)) (l := l)
  have h1 : l.take k = l.takeWhile (fun y => decide (y ≤ x)) := by
    conv => lhs; rw [← h]
    rw [hk, List.take_left]
  have h2 : l.drop k = l.dropWhile (fun y => decide (y ≤ x)) := by
    conv => lhs; rw [← h]
    rw [hk, List.drop_left]
  rw [h1, h2]
  simp [ins]
theorem tw_lt {p : Int → Bool} : ∀ {l : List Int} {k : Nat}, k < (l.takeWhile p).length → ∃ v, l[k]? = some v ∧ p v = true
  | [], k, h => by simp at h
  | a :: l, k, h => by
    rw [List.takeWhile_cons] at h
    cases ha : p a with
    | false => rw [ha] at h; simp at h
    | true =>
      rw [ha] at h
      cases k with
      | zero => exact ⟨a, rfl, ha⟩
      | succ k =>
        obtain ⟨v, h1, h2⟩ := tw_lt (l := l) (k := k) (by simpa using h)
        exact ⟨v, by simpa using h1, h2⟩
theorem tw_at {p : Int → Bool} : ∀ {l : List Int} {v : Int}, l[(l.takeWhile p).length]? = some v → p v = false
  | [], v, h => by simp at h
  | a :: l, v, h => by
    cases ha : p a with
    | false =>
      rw [List.takeWhile_cons, ha] at h
      simp at h; subst h; exact ha
    | true =>
      rw [List.takeWhile_cons, ha] at h
      exact tw_at (l := l) (by simpa using h)
theorem Rising_ctr (A : Option Addr) (n c : Nat) (l : List Int) (L : List HP) (hl : Rd L A n l) (hn : n ≤ 100000) :
    Ctr Tryz.prog 31 #[.slice A n c] L fun v L' => ∃ A' c' N, v = .slice A' (rising l).length c' ∧ (rising l).length ≤ c' ∧ c' ≤ maxLen ∧ L' = N ++ L ∧ Rd (N ++ L) A' (rising l).length (rising l) := by
  have h1 : l.length = n := hl.len (by decide)
  refine Ctr_of (fn := Tryz.f31) (n := 46) Tryz.func31 rfl rfl rfl ?_
  intro g F
  (repeat first | refine G_seq ?_ | refine G_skip ?_ | refine G_endblk ?_ | refine G_block ?_ | refine G_exit rfl ?_)
  refine G_region ?_
  refine GO_q rfl rfl (ev_assign rfl) ?_
  refine GO_nil ?_
  (repeat first | refine G_seq ?_ | refine G_skip ?_ | refine G_endblk ?_ | refine G_block ?_ | refine G_exit rfl ?_)
  refine G_region ?_
  refine GO_eff rfl rfl eff_buildSlice0 ?_; rintro _ _ ⟨b6, rfl, rfl⟩
  refine GO_q rfl rfl (ev_assign rfl) ?_
  refine GO_nil ?_
  (repeat first | refine G_seq ?_ | refine G_skip ?_ | refine G_endblk ?_ | refine G_block ?_ | refine G_exit rfl ?_)
  refine G_region ?_
  refine GO_q rfl rfl (ev_assign rfl) ?_
  refine GO_nil ?_
  (repeat first | refine G_seq ?_ | refine G_skip ?_ | refine G_endblk ?_ | refine G_block ?_ | refine G_exit rfl ?_)
  refine G_loop (ι := Nat × Nat × Nat × List Int) (fun x => [(0, .slice A n c), (3, .slice (some ⟨x.2.1, 0, none⟩) x.2.2.2.length x.2.2.1), (4, .int .i64 (x.1 : Nat))]) (fun x => own 3 1 (some ⟨x.2.1, 0, none⟩) x.2.2.2.length x.2.2.1 (flat x.2.2.2) :: F :: L)
    (fun x => x.1 ≤ n ∧ x.2.2.2 = rising (l.take x.1) ∧ x.2.2.2.length = x.1 ∧ x.2.2.2.length ≤ x.2.2.1 ∧ x.2.2.1 ≤ maxLen) (fun x => n - x.1) (0, b6, 0, []) ⟨Nat.zero_le _, by simp [rising], rfl, Nat.le_refl _, Nat.zero_le _⟩ ⟨rfl, rfl, rfl, trivial⟩ (by (repeat first | exact fun _ s => s | apply en_keep | apply en_drop | apply en_app) <;> fail) ?_
  rintro ⟨i, b, d, out⟩ ⟨f1, f2, f3, f4, f5⟩
  simp only at f1 f2 f3 f4 f5
  dsimp only
  have f6 := f5
  unfold maxLen at f6
  (repeat first | refine G_seq ?_ | refine G_skip ?_ | refine G_endblk ?_ | refine G_block ?_ | refine G_exit rfl ?_)
  refine G_region ?_
  refine GO_q rfl rfl (ev_move rfl) ?_
  refine GO_q rfl rfl (ev_move rfl) ?_
  refine GO_q rfl rfl (ev_len rfl) ?_
  (first | refine GO_q rfl rfl (ev_lssN rfl rfl) ?_ | refine GO_q rfl rfl (ev_lss rfl rfl) ?_)
  refine GO_nil ?_
  (repeat first | refine G_seq ?_ | refine G_skip ?_ | refine G_endblk ?_ | refine G_block ?_ | refine G_exit rfl ?_)
  refine G_cond rfl (fun c1 => ?_) (fun c1 => ?_)
  · obtain ⟨lb, lo, rfl, hx⟩ := hl.at_ (by omega)
    have hg : l[i]? = some l[i] := List.getElem?_eq_getElem (by omega)
    have hs : rising (l.take (i + 1)) = ins l[i] (rising (l.take i)) := by
      unfold rising; rw [List.take_succ_eq_append_getElem (by omega), List.foldl_append]; rfl
    have y1 := (hx _ _ hg).at_ (i := 0) rfl
    generalize l[i] = x at *
    have y2 : Ld L ⟨lb, lo + i * 1, none⟩ (.int .i64 x) := y1
    obtain ⟨w, hw⟩ : ∃ w, w = (out.takeWhile (fun y => decide (y ≤ x))).length := ⟨_, rfl⟩
    have hwl : w ≤ out.length := by rw [hw]; exact (List.takeWhile_prefix _).length_le
    have hin := ins_at x out w hw
    have hout : Rd (own 3 1 (some ⟨b, 0, none⟩) out.length d (flat out) :: F :: L) (some ⟨b, 0, none⟩) out.length out := Rc.own (flat_length out) (fun _ => ⟨b, rfl⟩)
    (repeat first | refine G_seq ?_ | refine G_skip ?_ | refine G_endblk ?_ | refine G_block ?_ | refine G_exit rfl ?_)
    refine G_region ?_
    refine GO_q rfl rfl (ev_assign rfl) ?_
    refine GO_nil ?_
    (repeat first | refine G_seq ?_ | refine G_skip ?_ | refine G_endblk ?_ | refine G_block ?_ | refine G_exit rfl ?_)
    refine G_loop (ι := Nat) (fun k => [(0, .slice (some ⟨lb, lo, none⟩) n c), (3, .slice (some ⟨b, 0, none⟩) out.length d), (4, .int .i64 (i : Nat)), (5, .int .i64 (k : Nat))]) (fun _ => own 3 1 (some ⟨b, 0, none⟩) out.length d (flat out) :: F :: L) (fun k => k ≤ w) (fun k => w - k) 0 (Nat.zero_le _) ⟨rfl, rfl, rfl, rfl, trivial⟩ (fun _ s => s) ?_
    intro k hk
    by_cases hko : k < out.length
    · obtain ⟨_, _, e9, hx2⟩ := hout.at_ (by omega)
      cases e9
      have hg2 : out[k]? = some out[k] := List.getElem?_eq_getElem hko
      have y3 := (hx2 _ _ hg2).at_ (i := 0) rfl
      have q1 : k < w → out[k] ≤ x := fun h => by
        obtain ⟨v, a1, a2⟩ := tw_lt (l := out) (k := k) (by rw [← hw]; exact h)
        rw [hg2] at a1; cases a1; simpa using a2
      have q2 : k = w → ¬ out[k] ≤ x := fun h => by
        have := tw_at (p := fun y => decide (y ≤ x)) (l := out) (v := out[k]) (by rw [← hw, ← h]; exact hg2)
        simpa using this
      generalize out[k] = u at *
      have y4 : Ld (own 3 1 (some ⟨b, 0, none⟩) out.length d (flat out) :: F :: L) ⟨b, 0 + k * 1, none⟩ (.int .i64 u) := y3
      have y5 : Ld (own 3 1 (some ⟨b, 0, none⟩) out.length d (flat out) :: F :: L) ⟨lb, lo + i * 1, none⟩ (.int .i64 x) := y2.skip.skip
      (repeat first | refine G_seq ?_ | refine G_skip ?_ | refine G_endblk ?_ | refine G_block ?_ | refine G_exit rfl ?_)
      refine G_draw (.q 0 (.q 1 (.q 2 (.q 3 (.q 4 (.q 5 (.q 6 (.q 7 (.q 8 (.q 9 (.q 10 (.q 11 (.q 12 (.q 13 (.q 14 .nil))))))))))))))) (by kernel_rfl) (by kernel_rfl) ?_
      refine RS_m retB_noPanic rfl rfl rfl rfl (ev_move rfl) ?_
      refine RS_m retB_noPanic rfl rfl rfl rfl (ev_move rfl) ?_
      refine RS_q retB_noPanic rfl rfl rfl rfl (ev_len rfl) ?_
      (first | refine RS_m retB_noPanic rfl rfl rfl rfl (ev_lssN rfl rfl) ?_ | refine RS_m retB_noPanic rfl rfl rfl rfl (ev_lss rfl rfl) ?_)
      refine RS_m retB_noPanic rfl rfl rfl rfl (ev_move rfl) ?_
      refine RS_m_yes retB_noPanic rfl rfl rfl rfl ⟨_, rfl, (decide_eq_true hko)⟩ rfl (ev_move rfl) ?_
      refine RS_m_yes retB_noPanic rfl rfl rfl rfl ⟨_, rfl, (decide_eq_true hko)⟩ rfl (ev_move rfl) ?_
      (first | refine RS_m_yes retB_noPanic rfl rfl rfl rfl ⟨_, rfl, (decide_eq_true hko)⟩ rfl (ev_indexAddrN rfl rfl (by first | omega | (simp; done) | (simp; omega))) ?_ | refine RS_m_yes retB_noPanic rfl rfl rfl rfl ⟨_, rfl, (decide_eq_true hko)⟩ rfl (ev_indexAddr rfl rfl (by first | omega | (simp; done) | (simp; omega)) (by first | omega | (simp; done) | (simp; omega))) ?_)
      refine RS_q_yes retB_noPanic rfl rfl rfl rfl ⟨_, rfl, (decide_eq_true hko)⟩ rfl (ev_load rfl (by repeat' first | exact Ld.blk rfl | assumption | apply Ld.skip | apply Ld.app)) ?_
      refine RS_m_yes retB_noPanic rfl rfl rfl rfl ⟨_, rfl, (decide_eq_true hko)⟩ rfl (ev_move rfl) ?_
      refine RS_m_yes retB_noPanic rfl rfl rfl rfl ⟨_, rfl, (decide_eq_true hko)⟩ rfl (ev_move rfl) ?_
      (first | refine RS_m_yes retB_noPanic rfl rfl rfl rfl ⟨_, rfl, (decide_eq_true hko)⟩ rfl (ev_indexAddrN rfl rfl (by first | omega | (simp; done) | (simp; omega))) ?_ | refine RS_m_yes retB_noPanic rfl rfl rfl rfl ⟨_, rfl, (decide_eq_true hko)⟩ rfl (ev_indexAddr rfl rfl (by first | omega | (simp; done) | (simp; omega)) (by first | omega | (simp; done) | (simp; omega))) ?_)
      refine RS_q_yes retB_noPanic rfl rfl rfl rfl ⟨_, rfl, (decide_eq_true hko)⟩ rfl (ev_load rfl (by repeat' first | exact Ld.blk rfl | assumption | apply Ld.skip | apply Ld.app)) ?_
      refine RS_m_yes retB_noPanic rfl rfl rfl rfl ⟨_, rfl, (decide_eq_true hko)⟩ rfl (ev_leq rfl rfl) ?_
      refine RS_m retB_noPanic rfl rfl rfl rfl (ev_pick_t rfl (decide_eq_true hko) rfl) ?_
      refine RS_nil ?_
      (repeat first | refine G_seq ?_ | refine G_skip ?_ | refine G_endblk ?_ | refine G_block ?_ | refine G_exit rfl ?_)
      refine G_cond rfl (fun c2 => ?_) (fun c2 => ?_)
      · (repeat first | refine G_seq ?_ | refine G_skip ?_ | refine G_endblk ?_ | refine G_block ?_ | refine G_exit rfl ?_)
        refine G_region ?_
        refine GO_q rfl rfl (ev_move rfl) ?_
        (first | refine GO_q rfl rfl (ev_addN (q := 1) rfl rfl (by first | omega | (simp; done) | (simp; omega))) ?_ | refine GO_q rfl rfl (ev_add rfl rfl (by first | omega | (simp; done) | (simp; omega))) ?_)
        refine GO_q rfl rfl (ev_assign rfl) ?_
        refine GO_nil ?_
        (repeat first | refine G_seq ?_ | refine G_skip ?_ | refine G_endblk ?_ | refine G_block ?_ | refine G_exit rfl ?_)
        exact G_round (k + 1) (by
          rcases Nat.lt_or_ge k w with h | h
          · exact h
          · exact absurd c2 (q2 (by omega))) (by
          rcases Nat.lt_or_ge k w with h | h
          · omega
          · exact absurd c2 (q2 (by omega))) ⟨rfl, rfl, rfl, rfl, trivial⟩ (fun _ s => s)
      · have e : k = w := by
          rcases Nat.lt_or_ge k w with h | h
          · exact absurd (q1 h) c2
          · omega
        subst e
        (repeat first | refine G_seq ?_ | refine G_skip ?_ | refine G_endblk ?_ | refine G_block ?_ | refine G_exit rfl ?_)
        have m1 : Rc (own 3 1 (some ⟨b, 0, none⟩) out.length d (flat out) :: F :: L) 1 (some ⟨b, 0, none⟩) k (flat (out.take k)) := hout.take hwl
        have m2 : Rc (own 3 1 (some ⟨b, 0, none⟩) out.length d (flat out) :: F :: L) 1 (some ⟨b, (if d = k then 0 else 0 + k * 1), none⟩) (out.length - k) (flat (out.drop k)) := hout.drop hwl f4
        have y6 : Ld (own 3 1 (some ⟨b, 0, none⟩) out.length d (flat out) :: F :: L) ⟨lb, lo + i * 1, none⟩ (.int .i64 x) := y2.skip.skip
        have nn : 0 + k + 1 + (out.length - k) = (ins x out).length := by rw [ins_length]; omega
        have n2 : (ins x out).length = i + 1 := by rw [ins_length]; omega
        (repeat first | refine G_seq ?_ | refine G_skip ?_ | refine G_endblk ?_ | refine G_block ?_ | refine G_exit rfl ?_)
        refine G_draw (.q 1 (.q 2 (.q 3 (.q 5 (.q 6 (.q 7 (.q 8 (.q 11 (.q 12 (.q 13 (.br 0 (.br 4 (.e 9 (.e 10 (.e 14 (.q 15 .nil)))) 9 (.e 4 (.e 10 (.e 14 (.q 15 .nil))))) 9 (.e 0 (.e 4 (.e 10 (.e 14 (.q 15 .nil)))))))))))))))) (by kernel_rfl) (by kernel_rfl) ?_
        refine RS_m retB_noPanic rfl rfl rfl rfl (ev_move rfl) ?_
        refine RS_m retB_noPanic rfl rfl rfl rfl (ev_move rfl) ?_
        refine RS_q retB_noPanic rfl rfl rfl rfl (ev_sliceH rfl rfl (by first | omega | (simp; done) | (simp; omega))) ?_
        refine RS_m retB_noPanic rfl rfl rfl rfl (ev_move rfl) ?_
        refine RS_m retB_noPanic rfl rfl rfl rfl (ev_move rfl) ?_
        (first | refine RS_m retB_noPanic rfl rfl rfl rfl (ev_indexAddrN rfl rfl (by first | omega | (simp; done) | (simp; omega))) ?_ | refine RS_m retB_noPanic rfl rfl rfl rfl (ev_indexAddr rfl rfl (by first | omega | (simp; done) | (simp; omega)) (by first | omega | (simp; done) | (simp; omega))) ?_)
        refine RS_q retB_noPanic rfl rfl rfl rfl (ev_load rfl (by repeat' first | exact Ld.blk rfl | assumption | apply Ld.skip | apply Ld.app)) ?_
        refine RS_m retB_noPanic rfl rfl rfl rfl (ev_move rfl) ?_
        refine RS_m retB_noPanic rfl rfl rfl rfl (ev_move rfl) ?_
        refine RS_q retB_noPanic rfl rfl rfl rfl (ev_sliceL rfl rfl (by first | omega | (simp; done) | (simp; omega)) (by first | omega | (simp; done) | (simp; omega))) ?_
        refine RS_br ?x1_0 ?x1_1
        case' x1_1 =>
          refine RE_eff rfl rfl rfl (eff_buildSlice1 (by rfl) rfl rfl) ?_; rintro _ _ ⟨b39, rfl, rfl⟩; refine ⟨_, (by first | ((repeat first | exact fun _ s => s | apply en_keep | apply en_drop | apply en_app) <;> fail) | ((repeat first | exact en_refl | (apply en_blk; focus ((repeat' first | exact Pick.here | apply Pick.skip | apply Pick.app); done); focus rfl) | (apply en_own; focus ((repeat' first | exact Pick.here | apply Pick.skip | apply Pick.app); done); focus rfl) | (apply en_pick; focus ((repeat' first | exact Pick.here | apply Pick.skip | apply Pick.app); done)) | apply en_drop | apply en_app) <;> fail)), fun _ s => s, ?_⟩
          refine RS_e (RE_eff rfl rfl rfl eff_buildSlice0 ?_); rintro _ _ ⟨b30, rfl, rfl⟩; refine ⟨_, (by first | ((repeat first | exact fun _ s => s | apply en_keep | apply en_drop | apply en_app) <;> fail) | ((repeat first | exact en_refl | (apply en_blk; focus ((repeat' first | exact Pick.here | apply Pick.skip | apply Pick.app); done); focus rfl) | (apply en_own; focus ((repeat' first | exact Pick.here | apply Pick.skip | apply Pick.app); done); focus rfl) | (apply en_pick; focus ((repeat' first | exact Pick.here | apply Pick.skip | apply Pick.app); done)) | apply en_drop | apply en_app) <;> fail)), fun _ s => s, ?_⟩
          refine RS_e (RE_eff rfl rfl rfl (eff_append rfl rfl (by repeat' first | exact Pick.here | apply Pick.skip) ((by repeat' first | assumption | apply Rc.skip)) ((flat_one _)) (by rfl) (by decide) (by first | omega | (simp; done) | (simp; omega)) (by first | omega | (simp; done) | (simp; omega))) ?_); rintro _ _ ⟨A34, c34, rfl, hc34, hm34, hn34, rfl⟩; refine ⟨_, (by first | ((repeat first | exact fun _ s => s | apply en_keep | apply en_drop | apply en_app) <;> fail) | ((repeat first | exact en_refl | (apply en_blk; focus ((repeat' first | exact Pick.here | apply Pick.skip | apply Pick.app); done); focus rfl) | (apply en_own; focus ((repeat' first | exact Pick.here | apply Pick.skip | apply Pick.app); done); focus rfl) | (apply en_pick; focus ((repeat' first | exact Pick.here | apply Pick.skip | apply Pick.app); done)) | apply en_drop | apply en_app) <;> fail)), fun _ s => s, ?_⟩
          refine RS_e (RE_eff rfl rfl rfl (eff_append rfl rfl (by repeat' first | exact Pick.here | apply Pick.skip) (by repeat' first | exact Rc.blk rfl | assumption | apply Rc.skip) (one_all rfl) (by rfl) (by decide) (by first | omega | (simp; done) | (simp; omega)) (by first | omega | (simp; done) | (simp; omega))) ?_); rintro _ _ ⟨A40, c40, rfl, hc40, hm40, hn40, rfl⟩; refine ⟨_, (by first | ((repeat first | exact fun _ s => s | apply en_keep | apply en_drop | apply en_app) <;> fail) | ((repeat first | exact en_refl | (apply en_blk; focus ((repeat' first | exact Pick.here | apply Pick.skip | apply Pick.app); done); focus rfl) | (apply en_own; focus ((repeat' first | exact Pick.here | apply Pick.skip | apply Pick.app); done); focus rfl) | (apply en_pick; focus ((repeat' first | exact Pick.here | apply Pick.skip | apply Pick.app); done)) | apply en_drop | apply en_app) <;> fail)), fun _ s => s, ?_⟩
          refine RS_e (RE_eff rfl rfl rfl (eff_append rfl rfl (by repeat' first | exact Pick.here | apply Pick.skip) ((by repeat' first | assumption | apply Rc.skip)) ((flat_one _)) (by rfl) (by decide) (by first | omega | (simp; done) | (simp; omega)) (by first | omega | (simp; done) | (simp; omega))) ?_); rintro _ _ ⟨A44, c44, rfl, hc44, hm44, hn44, rfl⟩; refine ⟨_, (by first | ((repeat first | exact fun _ s => s | apply en_keep | apply en_drop | apply en_app) <;> fail) | ((repeat first | exact en_refl | (apply en_blk; focus ((repeat' first | exact Pick.here | apply Pick.skip | apply Pick.app); done); focus rfl) | (apply en_own; focus ((repeat' first | exact Pick.here | apply Pick.skip | apply Pick.app); done); focus rfl) | (apply en_pick; focus ((repeat' first | exact Pick.here | apply Pick.skip | apply Pick.app); done)) | apply en_drop | apply en_app) <;> fail)), fun _ s => s, ?_⟩
          refine RS_m retB_noPanic rfl rfl rfl rfl (ev_assign rfl) ?_
          refine RS_nil ?_
        case' x1_0 =>
          refine RE_eff rfl rfl rfl eff_buildSlice0 ?_; rintro _ _ ⟨b30, rfl, rfl⟩; refine ⟨_, (by first | ((repeat first | exact fun _ s => s | apply en_keep | apply en_drop | apply en_app) <;> fail) | ((repeat first | exact en_refl | (apply en_blk; focus ((repeat' first | exact Pick.here | apply Pick.skip | apply Pick.app); done); focus rfl) | (apply en_own; focus ((repeat' first | exact Pick.here | apply Pick.skip | apply Pick.app); done); focus rfl) | (apply en_pick; focus ((repeat' first | exact Pick.here | apply Pick.skip | apply Pick.app); done)) | apply en_drop | apply en_app) <;> fail)), fun _ s => s, ?_⟩
          refine RS_br ?x2_0 ?x2_1
          case' x2_1 =>
            refine RE_eff rfl rfl rfl (eff_buildSlice1 (by rfl) rfl rfl) ?_; rintro _ _ ⟨b39, rfl, rfl⟩; refine ⟨_, (by first | ((repeat first | exact fun _ s => s | apply en_keep | apply en_drop | apply en_app) <;> fail) | ((repeat first | exact en_refl | (apply en_blk; focus ((repeat' first | exact Pick.here | apply Pick.skip | apply Pick.app); done); focus rfl) | (apply en_own; focus ((repeat' first | exact Pick.here | apply Pick.skip | apply Pick.app); done); focus rfl) | (apply en_pick; focus ((repeat' first | exact Pick.here | apply Pick.skip | apply Pick.app); done)) | apply en_drop | apply en_app) <;> fail)), fun _ s => s, ?_⟩
            refine RS_e (RE_eff rfl rfl rfl (eff_append rfl rfl (by repeat' first | exact Pick.here | apply Pick.skip) ((by repeat' first | assumption | apply Rc.skip)) ((flat_one _)) (by rfl) (by decide) (by first | omega | (simp; done) | (simp; omega)) (by first | omega | (simp; done) | (simp; omega))) ?_); rintro _ _ ⟨A34, c34, rfl, hc34, hm34, hn34, rfl⟩; refine ⟨_, (by first | ((repeat first | exact fun _ s => s | apply en_keep | apply en_drop | apply en_app) <;> fail) | ((repeat first | exact en_refl | (apply en_blk; focus ((repeat' first | exact Pick.here | apply Pick.skip | apply Pick.app); done); focus rfl) | (apply en_own; focus ((repeat' first | exact Pick.here | apply Pick.skip | apply Pick.app); done); focus rfl) | (apply en_pick; focus ((repeat' first | exact Pick.here | apply Pick.skip | apply Pick.app); done)) | apply en_drop | apply en_app) <;> fail)), fun _ s => s, ?_⟩
            refine RS_e (RE_eff rfl rfl rfl (eff_append rfl rfl (by repeat' first | exact Pick.here | apply Pick.skip) (by repeat' first | exact Rc.blk rfl | assumption | apply Rc.skip) (one_all rfl) (by rfl) (by decide) (by first | omega | (simp; done) | (simp; omega)) (by first | omega | (simp; done) | (simp; omega))) ?_); rintro _ _ ⟨A40, c40, rfl, hc40, hm40, hn40, rfl⟩; refine ⟨_, (by first | ((repeat first | exact fun _ s => s | apply en_keep | apply en_drop | apply en_app) <;> fail) | ((repeat first | exact en_refl | (apply en_blk; focus ((repeat' first | exact Pick.here | apply Pick.skip | apply Pick.app); done); focus rfl) | (apply en_own; focus ((repeat' first | exact Pick.here | apply Pick.skip | apply Pick.app); done); focus rfl) | (apply en_pick; focus ((repeat' first | exact Pick.here | apply Pick.skip | apply Pick.app); done)) | apply en_drop | apply en_app) <;> fail)), fun _ s => s, ?_⟩
            refine RS_e (RE_eff rfl rfl rfl (eff_append rfl rfl (by repeat' first | exact Pick.here | apply Pick.skip) ((by repeat' first | assumption | apply Rc.skip)) ((flat_one _)) (by rfl) (by decide) (by first | omega | (simp; done) | (simp; omega)) (by first | omega | (simp; done) | (simp; omega))) ?_); rintro _ _ ⟨A44, c44, rfl, hc44, hm44, hn44, rfl⟩; refine ⟨_, (by first | ((repeat first | exact fun _ s => s | apply en_keep | apply en_drop | apply en_app) <;> fail) | ((repeat first | exact en_refl | (apply en_blk; focus ((repeat' first | exact Pick.here | apply Pick.skip | apply Pick.app); done); focus rfl) | (apply en_own; focus ((repeat' first | exact Pick.here | apply Pick.skip | apply Pick.app); done); focus rfl) | (apply en_pick; focus ((repeat' first | exact Pick.here | apply Pick.skip | apply Pick.app); done)) | apply en_drop | apply en_app) <;> fail)), fun _ s => s, ?_⟩
            refine RS_m retB_noPanic rfl rfl rfl rfl (ev_assign rfl) ?_
            refine RS_nil ?_
          case' x2_0 =>
            refine RE_eff rfl rfl rfl (eff_append rfl rfl (by repeat' first | exact Pick.here | apply Pick.skip) ((by repeat' first | assumption | apply Rc.skip)) ((flat_one _)) (by rfl) (by decide) (by first | omega | (simp; done) | (simp; omega)) (by first | omega | (simp; done) | (simp; omega))) ?_; rintro _ _ ⟨A34, c34, rfl, hc34, hm34, hn34, rfl⟩; refine ⟨_, (by first | ((repeat first | exact fun _ s => s | apply en_keep | apply en_drop | apply en_app) <;> fail) | ((repeat first | exact en_refl | (apply en_blk; focus ((repeat' first | exact Pick.here | apply Pick.skip | apply Pick.app); done); focus rfl) | (apply en_own; focus ((repeat' first | exact Pick.here | apply Pick.skip | apply Pick.app); done); focus rfl) | (apply en_pick; focus ((repeat' first | exact Pick.here | apply Pick.skip | apply Pick.app); done)) | apply en_drop | apply en_app) <;> fail)), fun _ s => s, ?_⟩
            refine RS_e (RE_eff rfl rfl rfl (eff_buildSlice1 (by rfl) rfl rfl) ?_); rintro _ _ ⟨b39, rfl, rfl⟩; refine ⟨_, (by first | ((repeat first | exact fun _ s => s | apply en_keep | apply en_drop | apply en_app) <;> fail) | ((repeat first | exact en_refl | (apply en_blk; focus ((repeat' first | exact Pick.here | apply Pick.skip | apply Pick.app); done); focus rfl) | (apply en_own; focus ((repeat' first | exact Pick.here | apply Pick.skip | apply Pick.app); done); focus rfl) | (apply en_pick; focus ((repeat' first | exact Pick.here | apply Pick.skip | apply Pick.app); done)) | apply en_drop | apply en_app) <;> fail)), fun _ s => s, ?_⟩
            refine RS_e (RE_eff rfl rfl rfl (eff_append rfl rfl (by repeat' first | exact Pick.here | apply Pick.skip) (by repeat' first | exact Rc.blk rfl | assumption | apply Rc.skip) (one_all rfl) (by rfl) (by decide) (by first | omega | (simp; done) | (simp; omega)) (by first | omega | (simp; done) | (simp; omega))) ?_); rintro _ _ ⟨A40, c40, rfl, hc40, hm40, hn40, rfl⟩; refine ⟨_, (by first | ((repeat first | exact fun _ s => s | apply en_keep | apply en_drop | apply en_app) <;> fail) | ((repeat first | exact en_refl | (apply en_blk; focus ((repeat' first | exact Pick.here | apply Pick.skip | apply Pick.app); done); focus rfl) | (apply en_own; focus ((repeat' first | exact Pick.here | apply Pick.skip | apply Pick.app); done); focus rfl) | (apply en_pick; focus ((repeat' first | exact Pick.here | apply Pick.skip | apply Pick.app); done)) | apply en_drop | apply en_app) <;> fail)), fun _ s => s, ?_⟩
            refine RS_e (RE_eff rfl rfl rfl (eff_append rfl rfl (by repeat' first | exact Pick.here | apply Pick.skip) ((by repeat' first | assumption | apply Rc.skip)) ((flat_one _)) (by rfl) (by decide) (by first | omega | (simp; done) | (simp; omega)) (by first | omega | (simp; done) | (simp; omega))) ?_); rintro _ _ ⟨A44, c44, rfl, hc44, hm44, hn44, rfl⟩; refine ⟨_, (by first | ((repeat first | exact fun _ s => s | apply en_keep | apply en_drop | apply en_app) <;> fail) | ((repeat first | exact en_refl | (apply en_blk; focus ((repeat' first | exact Pick.here | apply Pick.skip | apply Pick.app); done); focus rfl) | (apply en_own; focus ((repeat' first | exact Pick.here | apply Pick.skip | apply Pick.app); done); focus rfl) | (apply en_pick; focus ((repeat' first | exact Pick.here | apply Pick.skip | apply Pick.app); done)) | apply en_drop | apply en_app) <;> fail)), fun _ s => s, ?_⟩
            refine RS_m retB_noPanic rfl rfl rfl rfl (ev_assign rfl) ?_
            refine RS_nil ?_
        all_goals
          obtain ⟨b9, rfl⟩ := hn44 (by omega)
          rw [nn]
          rw [nn] at hc44
          (repeat first | refine G_seq ?_ | refine G_skip ?_ | refine G_endblk ?_ | refine G_block ?_ | refine G_exit rfl ?_)
          refine G_region ?_
          refine GO_q rfl rfl (ev_move rfl) ?_
          (first | refine GO_q rfl rfl (ev_addN (q := 1) rfl rfl (by first | omega | (simp; done) | (simp; omega))) ?_ | refine GO_q rfl rfl (ev_add rfl rfl (by first | omega | (simp; done) | (simp; omega))) ?_)
          refine GO_q rfl rfl (ev_assign rfl) ?_
          refine GO_nil ?_
          (repeat first | refine G_seq ?_ | refine G_skip ?_ | refine G_endblk ?_ | refine G_block ?_ | refine G_exit rfl ?_)
          refine G_round (i + 1, b9, c44, ins x out) ⟨by simp only; omega, by simp only; rw [hs, ← f2], n2, hc44, hm44⟩ (by simp only; omega) ⟨rfl, rfl, rfl, trivial⟩ ?_
          refine en_own .here ?_ (by (repeat first | exact fun _ s => s | apply en_keep | apply en_drop | apply en_app) <;> fail)
          rw [hin, flat_append, flat_append]
          rfl
    · have e : k = w := by omega
      subst e
      have hd9 : ¬ (k < out.length) := hko
      (repeat first | refine G_seq ?_ | refine G_skip ?_ | refine G_endblk ?_ | refine G_block ?_ | refine G_exit rfl ?_)
      refine G_draw (.q 0 (.q 1 (.q 2 (.q 3 (.q 4 (.q 5 (.q 6 (.q 7 (.q 8 (.q 9 (.q 10 (.q 11 (.q 12 (.q 13 (.q 14 .nil))))))))))))))) (by kernel_rfl) (by kernel_rfl) ?_
      refine RS_m retB_noPanic rfl rfl rfl rfl (ev_move rfl) ?_
      refine RS_m retB_noPanic rfl rfl rfl rfl (ev_move rfl) ?_
      refine RS_q retB_noPanic rfl rfl rfl rfl (ev_len rfl) ?_
      (first | refine RS_m retB_noPanic rfl rfl rfl rfl (ev_lssN rfl rfl) ?_ | refine RS_m retB_noPanic rfl rfl rfl rfl (ev_lss rfl rfl) ?_)
      refine RS_m retB_noPanic rfl rfl rfl rfl (ev_move rfl) ?_
      refine RS_q_no retB_noPanic rfl rfl rfl ⟨_, rfl, (decide_eq_false hd9)⟩ rfl ?_
      refine RS_q_no retB_noPanic rfl rfl rfl ⟨_, rfl, (decide_eq_false hd9)⟩ rfl ?_
      refine RS_q_no retB_noPanic rfl rfl rfl ⟨_, rfl, (decide_eq_false hd9)⟩ rfl ?_
      refine RS_q_no retB_noPanic rfl rfl rfl ⟨_, rfl, (decide_eq_false hd9)⟩ rfl ?_
      refine RS_q_no retB_noPanic rfl rfl rfl ⟨_, rfl, (decide_eq_false hd9)⟩ rfl ?_
      refine RS_q_no retB_noPanic rfl rfl rfl ⟨_, rfl, (decide_eq_false hd9)⟩ rfl ?_
      refine RS_q_no retB_noPanic rfl rfl rfl ⟨_, rfl, (decide_eq_false hd9)⟩ rfl ?_
      refine RS_q_no retB_noPanic rfl rfl rfl ⟨_, rfl, (decide_eq_false hd9)⟩ rfl ?_
      refine RS_q_no retB_noPanic rfl rfl rfl ⟨_, rfl, (decide_eq_false hd9)⟩ rfl ?_
      refine RS_m retB_noPanic rfl rfl rfl rfl (ev_pick_f rfl (decide_eq_false hd9) rfl) ?_
      refine RS_nil ?_
      (repeat first | refine G_seq ?_ | refine G_skip ?_ | refine G_endblk ?_ | refine G_block ?_ | refine G_exit rfl ?_)
      refine G_cond_f rfl rfl ?_
      have m1 : Rc (own 3 1 (some ⟨b, 0, none⟩) out.length d (flat out) :: F :: L) 1 (some ⟨b, 0, none⟩) k (flat (out.take k)) := hout.take hwl
      have m2 : Rc (own 3 1 (some ⟨b, 0, none⟩) out.length d (flat out) :: F :: L) 1 (some ⟨b, (if d = k then 0 else 0 + k * 1), none⟩) (out.length - k) (flat (out.drop k)) := hout.drop hwl f4
      have y6 : Ld (own 3 1 (some ⟨b, 0, none⟩) out.length d (flat out) :: F :: L) ⟨lb, lo + i * 1, none⟩ (.int .i64 x) := y2.skip.skip
      have nn : 0 + k + 1 + (out.length - k) = (ins x out).length := by rw [ins_length]; omega
      have n2 : (ins x out).length = i + 1 := by rw [ins_length]; omega
      (repeat first | refine G_seq ?_ | refine G_skip ?_ | refine G_endblk ?_ | refine G_block ?_ | refine G_exit rfl ?_)
      refine G_draw (.q 1 (.q 2 (.q 3 (.q 5 (.q 6 (.q 7 (.q 8 (.q 11 (.q 12 (.q 13 (.br 0 (.br 4 (.e 9 (.e 10 (.e 14 (.q 15 .nil)))) 9 (.e 4 (.e 10 (.e 14 (.q 15 .nil))))) 9 (.e 0 (.e 4 (.e 10 (.e 14 (.q 15 .nil)))))))))))))))) (by kernel_rfl) (by kernel_rfl) ?_
      refine RS_m retB_noPanic rfl rfl rfl rfl (ev_move rfl) ?_
      refine RS_m retB_noPanic rfl rfl rfl rfl (ev_move rfl) ?_
      refine RS_q retB_noPanic rfl rfl rfl rfl (ev_sliceH rfl rfl (by first | omega | (simp; done) | (simp; omega))) ?_
      refine RS_m retB_noPanic rfl rfl rfl rfl (ev_move rfl) ?_
      refine RS_m retB_noPanic rfl rfl rfl rfl (ev_move rfl) ?_
      (first | refine RS_m retB_noPanic rfl rfl rfl rfl (ev_indexAddrN rfl rfl (by first | omega | (simp; done) | (simp; omega))) ?_ | refine RS_m retB_noPanic rfl rfl rfl rfl (ev_indexAddr rfl rfl (by first | omega | (simp; done) | (simp; omega)) (by first | omega | (simp; done) | (simp; omega))) ?_)
      refine RS_q retB_noPanic rfl rfl rfl rfl (ev_load rfl (by repeat' first | exact Ld.blk rfl | assumption | apply Ld.skip | apply Ld.app)) ?_
      refine RS_m retB_noPanic rfl rfl rfl rfl (ev_move rfl) ?_
      refine RS_m retB_noPanic rfl rfl rfl rfl (ev_move rfl) ?_
      refine RS_q retB_noPanic rfl rfl rfl rfl (ev_sliceL rfl rfl (by first | omega | (simp; done) | (simp; omega)) (by first | omega | (simp; done) | (simp; omega))) ?_
      refine RS_br ?x3_0 ?x3_1
      case' x3_1 =>
        refine RE_eff rfl rfl rfl (eff_buildSlice1 (by rfl) rfl rfl) ?_; rintro _ _ ⟨b39, rfl, rfl⟩; refine ⟨_, (by first | ((repeat first | exact fun _ s => s | apply en_keep | apply en_drop | apply en_app) <;> fail) | ((repeat first | exact en_refl | (apply en_blk; focus ((repeat' first | exact Pick.here | apply Pick.skip | apply Pick.app); done); focus rfl) | (apply en_own; focus ((repeat' first | exact Pick.here | apply Pick.skip | apply Pick.app); done); focus rfl) | (apply en_pick; focus ((repeat' first | exact Pick.here | apply Pick.skip | apply Pick.app); done)) | apply en_drop | apply en_app) <;> fail)), fun _ s => s, ?_⟩
        refine RS_e (RE_eff rfl rfl rfl eff_buildSlice0 ?_); rintro _ _ ⟨b30, rfl, rfl⟩; refine ⟨_, (by first | ((repeat first | exact fun _ s => s | apply en_keep | apply en_drop | apply en_app) <;> fail) | ((repeat first | exact en_refl | (apply en_blk; focus ((repeat' first | exact Pick.here | apply Pick.skip | apply Pick.app); done); focus rfl) | (apply en_own; focus ((repeat' first | exact Pick.here | apply Pick.skip | apply Pick.app); done); focus rfl) | (apply en_pick; focus ((repeat' first | exact Pick.here | apply Pick.skip | apply Pick.app); done)) | apply en_drop | apply en_app) <;> fail)), fun _ s => s, ?_⟩
        refine RS_e (RE_eff rfl rfl rfl (eff_append rfl rfl (by repeat' first | exact Pick.here | apply Pick.skip) ((by repeat' first | assumption | apply Rc.skip)) ((flat_one _)) (by rfl) (by decide) (by first | omega | (simp; done) | (simp; omega)) (by first | omega | (simp; done) | (simp; omega))) ?_); rintro _ _ ⟨A34, c34, rfl, hc34, hm34, hn34, rfl⟩; refine ⟨_, (by first | ((repeat first | exact fun _ s => s | apply en_keep | apply en_drop | apply en_app) <;> fail) | ((repeat first | exact en_refl | (apply en_blk; focus ((repeat' first | exact Pick.here | apply Pick.skip | apply Pick.app); done); focus rfl) | (apply en_own; focus ((repeat' first | exact Pick.here | apply Pick.skip | apply Pick.app); done); focus rfl) | (apply en_pick; focus ((repeat' first | exact Pick.here | apply Pick.skip | apply Pick.app); done)) | apply en_drop | apply en_app) <;> fail)), fun _ s => s, ?_⟩
        refine RS_e (RE_eff rfl rfl rfl (eff_append rfl rfl (by repeat' first | exact Pick.here | apply Pick.skip) (by repeat' first | exact Rc.blk rfl | assumption | apply Rc.skip) (one_all rfl) (by rfl) (by decide) (by first | omega | (simp; done) | (simp; omega)) (by first | omega | (simp; done) | (simp; omega))) ?_); rintro _ _ ⟨A40, c40, rfl, hc40, hm40, hn40, rfl⟩; refine ⟨_, (by first | ((repeat first | exact fun _ s => s | apply en_keep | apply en_drop | apply en_app) <;> fail) | ((repeat first | exact en_refl | (apply en_blk; focus ((repeat' first | exact Pick.here | apply Pick.skip | apply Pick.app); done); focus rfl) | (apply en_own; focus ((repeat' first | exact Pick.here | apply Pick.skip | apply Pick.app); done); focus rfl) | (apply en_pick; focus ((repeat' first | exact Pick.here | apply Pick.skip | apply Pick.app); done)) | apply en_drop | apply en_app) <;> fail)), fun _ s => s, ?_⟩
        refine RS_e (RE_eff rfl rfl rfl (eff_append rfl rfl (by repeat' first | exact Pick.here | apply Pick.skip) ((by repeat' first | assumption | apply Rc.skip)) ((flat_one _)) (by rfl) (by decide) (by first | omega | (simp; done) | (simp; omega)) (by first | omega | (simp; done) | (simp; omega))) ?_); rintro _ _ ⟨A44, c44, rfl, hc44, hm44, hn44, rfl⟩; refine ⟨_, (by first | ((repeat first | exact fun _ s => s | apply en_keep | apply en_drop | apply en_app) <;> fail) | ((repeat first | exact en_refl | (apply en_blk; focus ((repeat' first | exact Pick.here | apply Pick.skip | apply Pick.app); done); focus rfl) | (apply en_own; focus ((repeat' first | exact Pick.here | apply Pick.skip | apply Pick.app); done); focus rfl) | (apply en_pick; focus ((repeat' first | exact Pick.here | apply Pick.skip | apply Pick.app); done)) | apply en_drop | apply en_app) <;> fail)), fun _ s => s, ?_⟩
        refine RS_m retB_noPanic rfl rfl rfl rfl (ev_assign rfl) ?_
        refine RS_nil ?_
      case' x3_0 =>
        refine RE_eff rfl rfl rfl eff_buildSlice0 ?_; rintro _ _ ⟨b30, rfl, rfl⟩; refine ⟨_, (by first | ((repeat first | exact fun _ s => s | apply en_keep | apply en_drop | apply en_app) <;> fail) | ((repeat first | exact en_refl | (apply en_blk; focus ((repeat' first | exact Pick.here | apply Pick.skip | apply Pick.app); done); focus rfl) | (apply en_own; focus ((repeat' first | exact Pick.here | apply Pick.skip | apply Pick.app); done); focus rfl) | (apply en_pick; focus ((repeat' first | exact Pick.here | apply Pick.skip | apply Pick.app); done)) | apply en_drop | apply en_app) <;> fail)), fun _ s => s, ?_⟩
        refine RS_br ?x4_0 ?x4_1
        case' x4_1 =>
          refine RE_eff rfl rfl rfl (eff_buildSlice1 (by rfl) rfl rfl) ?_; rintro _ _ ⟨b39, rfl, rfl⟩; refine ⟨_, (by first | ((repeat first | exact fun _ s => s | apply en_keep | apply en_drop | apply en_app) <;> fail) | ((repeat first | exact en_refl | (apply en_blk; focus ((repeat' first | exact Pick.here | apply Pick.skip | apply Pick.app); done); focus rfl) | (apply en_own; focus ((repeat' first | exact Pick.here | apply Pick.skip | apply Pick.app); done); focus rfl) | (apply en_pick; focus ((repeat' first | exact Pick.here | apply Pick.skip | apply Pick.app); done)) | apply en_drop | apply en_app) <;> fail)), fun _ s => s, ?_⟩
          refine RS_e (RE_eff rfl rfl rfl (eff_append rfl rfl (by repeat' first | exact Pick.here | apply Pick.skip) ((by repeat' first | assumption | apply Rc.skip)) ((flat_one _)) (by rfl) (by decide) (by first | omega | (simp; done) | (simp; omega)) (by first | omega | (simp; done) | (simp; omega))) ?_); rintro _ _ ⟨A34, c34, rfl, hc34, hm34, hn34, rfl⟩; refine ⟨_, (by first | ((repeat first | exact fun _ s => s | apply en_keep | apply en_drop | apply en_app) <;> fail) | ((repeat first | exact en_refl | (apply en_blk; focus ((repeat' first | exact Pick.here | apply Pick.skip | apply Pick.app); done); focus rfl) | (apply en_own; focus ((repeat' first | exact Pick.here | apply Pick.skip | apply Pick.app); done); focus rfl) | (apply en_pick; focus ((repeat' first | exact Pick.here | apply Pick.skip | apply Pick.app); done)) | apply en_drop | apply en_app) <;> fail)), fun _ s => s, ?_⟩
          refine RS_e (RE_eff rfl rfl rfl (eff_append rfl rfl (by repeat' first | exact Pick.here | apply Pick.skip) (by repeat' first | exact Rc.blk rfl | assumption | apply Rc.skip) (one_all rfl) (by rfl) (by decide) (by first | omega | (simp; done) | (simp; omega)) (by first | omega | (simp; done) | (simp; omega))) ?_); rintro _ _ ⟨A40, c40, rfl, hc40, hm40, hn40, rfl⟩; refine ⟨_, (by first | ((repeat first | exact fun _ s => s | apply en_keep | apply en_drop | apply en_app) <;> fail) | ((repeat first | exact en_refl | (apply en_blk; focus ((repeat' first | exact Pick.here | apply Pick.skip | apply Pick.app); done); focus rfl) | (apply en_own; focus ((repeat' first | exact Pick.here | apply Pick.skip | apply Pick.app); done); focus rfl) | (apply en_pick; focus ((repeat' first | exact Pick.here | apply Pick.skip | apply Pick.app); done)) | apply en_drop | apply en_app) <;> fail)), fun _ s => s, ?_⟩
          refine RS_e (RE_eff rfl rfl rfl (eff_append rfl rfl (by repeat' first | exact Pick.here | apply Pick.skip) ((by repeat' first | assumption | apply Rc.skip)) ((flat_one _)) (by rfl) (by decide) (by first | omega | (simp; done) | (simp; omega)) (by first | omega | (simp; done) | (simp; omega))) ?_); rintro _ _ ⟨A44, c44, rfl, hc44, hm44, hn44, rfl⟩; refine ⟨_, (by first | ((repeat first | exact fun _ s => s | apply en_keep | apply en_drop | apply en_app) <;> fail) | ((repeat first | exact en_refl | (apply en_blk; focus ((repeat' first | exact Pick.here | apply Pick.skip | apply Pick.app); done); focus rfl) | (apply en_own; focus ((repeat' first | exact Pick.here | apply Pick.skip | apply Pick.app); done); focus rfl) | (apply en_pick; focus ((repeat' first | exact Pick.here | apply Pick.skip | apply Pick.app); done)) | apply en_drop | apply en_app) <;> fail)), fun _ s => s, ?_⟩
          refine RS_m retB_noPanic rfl rfl rfl rfl (ev_assign rfl) ?_
          refine RS_nil ?_
        case' x4_0 =>
          refine RE_eff rfl rfl rfl (eff_append rfl rfl (by repeat' first | exact Pick.here | apply Pick.skip) ((by repeat' first | assumption | apply Rc.skip)) ((flat_one _)) (by rfl) (by decide) (by first | omega | (simp; done) | (simp; omega)) (by first | omega | (simp; done) | (simp; omega))) ?_; rintro _ _ ⟨A34, c34, rfl, hc34, hm34, hn34, rfl⟩; refine ⟨_, (by first | ((repeat first | exact fun _ s => s | apply en_keep | apply en_drop | apply en_app) <;> fail) | ((repeat first | exact en_refl | (apply en_blk; focus ((repeat' first | exact Pick.here | apply Pick.skip | apply Pick.app); done); focus rfl) | (apply en_own; focus ((repeat' first | exact Pick.here | apply Pick.skip | apply Pick.app); done); focus rfl) | (apply en_pick; focus ((repeat' first | exact Pick.here | apply Pick.skip | apply Pick.app); done)) | apply en_drop | apply en_app) <;> fail)), fun _ s => s, ?_⟩
          refine RS_e (RE_eff rfl rfl rfl (eff_buildSlice1 (by rfl) rfl rfl) ?_); rintro _ _ ⟨b39, rfl, rfl⟩; refine ⟨_, (by first | ((repeat first | exact fun _ s => s | apply en_keep | apply en_drop | apply en_app) <;> fail) | ((repeat first | exact en_refl | (apply en_blk; focus ((repeat' first | exact Pick.here | apply Pick.skip | apply Pick.app); done); focus rfl) | (apply en_own; focus ((repeat' first | exact Pick.here | apply Pick.skip | apply Pick.app); done); focus rfl) | (apply en_pick; focus ((repeat' first | exact Pick.here | apply Pick.skip | apply Pick.app); done)) | apply en_drop | apply en_app) <;> fail)), fun _ s => s, ?_⟩
          refine RS_e (RE_eff rfl rfl rfl (eff_append rfl rfl (by repeat' first | exact Pick.here | apply Pick.skip) (by repeat' first | exact Rc.blk rfl | assumption | apply Rc.skip) (one_all rfl) (by rfl) (by decide) (by first | omega | (simp; done) | (simp; omega)) (by first | omega | (simp; done) | (simp; omega))) ?_); rintro _ _ ⟨A40, c40, rfl, hc40, hm40, hn40, rfl⟩; refine ⟨_, (by first | ((repeat first | exact fun _ s => s | apply en_keep | apply en_drop | apply en_app) <;> fail) | ((repeat first | exact en_refl | (apply en_blk; focus ((repeat' first | exact Pick.here | apply Pick.skip | apply Pick.app); done); focus rfl) | (apply en_own; focus ((repeat' first | exact Pick.here | apply Pick.skip | apply Pick.app); done); focus rfl) | (apply en_pick; focus ((repeat' first | exact Pick.here | apply Pick.skip | apply Pick.app); done)) | apply en_drop | apply en_app) <;> fail)), fun _ s => s, ?_⟩
          refine RS_e (RE_eff rfl rfl rfl (eff_append rfl rfl (by repeat' first | exact Pick.here | apply Pick.skip) ((by repeat' first | assumption | apply Rc.skip)) ((flat_one _)) (by rfl) (by decide) (by first | omega | (simp; done) | (simp; omega)) (by first | omega | (simp; done) | (simp; omega))) ?_); rintro _ _ ⟨A44, c44, rfl, hc44, hm44, hn44, rfl⟩; refine ⟨_, (by first | ((repeat first | exact fun _ s => s | apply en_keep | apply en_drop | apply en_app) <;> fail) | ((repeat first | exact en_refl | (apply en_blk; focus ((repeat' first | exact Pick.here | apply Pick.skip | apply Pick.app); done); focus rfl) | (apply en_own; focus ((repeat' first | exact Pick.here | apply Pick.skip | apply Pick.app); done); focus rfl) | (apply en_pick; focus ((repeat' first | exact Pick.here | apply Pick.skip | apply Pick.app); done)) | apply en_drop | apply en_app) <;> fail)), fun _ s => s, ?_⟩
          refine RS_m retB_noPanic rfl rfl rfl rfl (ev_assign rfl) ?_
          refine RS_nil ?_
      all_goals
        obtain ⟨b9, rfl⟩ := hn44 (by omega)
        rw [nn]
        rw [nn] at hc44
        (repeat first | refine G_seq ?_ | refine G_skip ?_ | refine G_endblk ?_ | refine G_block ?_ | refine G_exit rfl ?_)
        refine G_region ?_
        refine GO_q rfl rfl (ev_move rfl) ?_
        (first | refine GO_q rfl rfl (ev_addN (q := 1) rfl rfl (by first | omega | (simp; done) | (simp; omega))) ?_ | refine GO_q rfl rfl (ev_add rfl rfl (by first | omega | (simp; done) | (simp; omega))) ?_)
        refine GO_q rfl rfl (ev_assign rfl) ?_
        refine GO_nil ?_
        (repeat first | refine G_seq ?_ | refine G_skip ?_ | refine G_endblk ?_ | refine G_block ?_ | refine G_exit rfl ?_)
        refine G_round (i + 1, b9, c44, ins x out) ⟨by simp only; omega, by simp only; rw [hs, ← f2], n2, hc44, hm44⟩ (by simp only; omega) ⟨rfl, rfl, rfl, trivial⟩ ?_
        refine en_own .here ?_ (by (repeat first | exact fun _ s => s | apply en_keep | apply en_drop | apply en_app) <;> fail)
        rw [hin, flat_append, flat_append]
        rfl
  · have e : i = n := by omega
    subst e
    have e2 : out = rising l := by rw [f2, List.take_of_length_le (by omega)]
    subst e2
    (repeat first | refine G_seq ?_ | refine G_skip ?_ | refine G_endblk ?_ | refine G_block ?_ | refine G_exit rfl ?_)
    refine G_region ?_
    refine GO_q rfl rfl (ev_move rfl) ?_
    refine GO_q rfl rfl (ev_assign rfl) ?_
    refine GO_nil ?_
    (repeat first | refine G_seq ?_ | refine G_skip ?_ | refine G_endblk ?_ | refine G_block ?_ | refine G_exit rfl ?_)
    exact G_ret (L' := [own 3 1 (some ⟨b, 0, none⟩) (rising l).length d (flat (rising l))] ++ L) rfl (.tmp rfl .nil) (fun _ s => s.swap) ⟨some ⟨b, 0, none⟩, d, [own 3 1 (some ⟨b, 0, none⟩) (rising l).length d (flat (rising l))], rfl, f4, f5, rfl, Rc.own (flat_length _) (fun _ => ⟨b, rfl⟩)⟩
end Go.Proofs.YtjnmpogolknkpaaGreat
/- slices.Sort of numbers, as a contract over parts of the heap. -/
namespace Go.Proofs.YtjnmpogolknkpaaGreat
open Go.RowKit Go.Sort
set_option linter.unusedVariables false
set_option linter.unusedSimpArgs false

def srt (l : List Int) : List Int := l.mergeSort fun x y => decide (x ≤ y)
/-- The shelf's contract of slices.Sort gives one over parts of the heap. -/
theorem sort_of_shelf {P : Program} {f : FuncId} {e : TypeId} (b n c : Nat) (zs : List Int) (L : List HP) (hn : zs.length = n) (h0 : 0 < n)
    (h : ∀ w, Holds (Value.int .i64) w b 0 zs.toArray → b < w.heap.size → Calls P f #[.slice (some ⟨b, 0, none⟩) zs.length c] w fun en w' =>
      en = .returned (.tuple #[]) ∧ ∃ k os, w' = grow (putRow (Value.int .i64) (Sort.ahead w k) b 0 (zs.mergeSort fun x y => decide (x ≤ y)).toArray) os) :
    Ctr P f #[.slice (some ⟨b, 0, none⟩) n c] (own e 1 (some ⟨b, 0, none⟩) n c (flat zs) :: L) fun v L' => v = .tuple #[] ∧ L' = own e 1 (some ⟨b, 0, none⟩) n c (flat (srt zs)) :: L := by
  intro g F w hw
  have hfl : ∀ l : List Int, flat l = l.map (Value.int .i64) := fun l => by induction l with
    | nil => rfl
    | cons a l ih => rw [flat_cons, ih]; rfl
  have hw2 : Hp g (own e 1 (some ⟨b, 0, none⟩) n c (flat zs) :: F :: L) w := hw.mono fun _ s => s.swap
  obtain ⟨k1, k2, dj, s1, s2, ⟨o1, o2, o3, o4⟩, l⟩ := hw2.s
  rcases o4 with ⟨e1, _⟩ | ⟨b', cur, e1, e2, e3, e4⟩
  · cases e1
  simp only [Option.some.injEq, Addr.mk.injEq, and_true] at e1
  subst e1
  have hb : w.heap[b]? = some (.cells cur e (0, 0)) := s1 _ _ e2
  have hlt : b < w.heap.size := (Array.getElem?_eq_some_iff.1 hb).1
  rw [Nat.mul_one] at e3 e4
  have hcur : ∀ j, j < n → cur[j]? = some (.int .i64 (zs.getD j 0)) := fun j hj => by
    have : (flat zs)[j]? = some (.int .i64 (zs.getD j 0)) := by rw [hfl]; simp [show j < zs.length by omega]
    rw [← e4, List.getElem?_take_of_lt hj] at this
    simpa using this
  have hH : Holds (Value.int .i64) w b 0 zs.toArray := fun j hj => by
    have hj' : j < n := by simpa [hn] using hj
    refine ⟨?_, by simp [World.frozen?, hb]⟩
    rw [Nat.zero_add]
    simp only [World.cell?, hb]
    rw [if_neg (by simp), hcur j hj']
    simp [show j < zs.length by omega]
  rw [← hn]
  refine (h w hH hlt).mono fun en w' ⟨q1, k, os, q2⟩ => ⟨_, _, q1, ⟨rfl, rfl⟩, ?_⟩
  refine Hp.mono (L := own e 1 (some ⟨b, 0, none⟩) zs.length c (flat (srt zs)) :: F :: L) (fun _ s => s.swap) ?_
  rw [hn]
  have hsl : (srt zs).length = n := by rw [srt, List.length_mergeSort, hn]
  have hheap : w'.heap = w.heap.modify b (onCells (putCells (Value.int .i64) 0 (srt zs).toArray)) ++ os := by rw [q2]; rfl
  have hne : ∀ j, j < w.heap.size → j ≠ b → w'.heap[j]? = w.heap[j]? := fun j hj hjb => by
    rw [hheap, Array.getElem?_append_left (by simpa using hj), Array.getElem?_modify, if_neg (Ne.symm hjb)]
  have hbb : w'.heap[b]? = some (.cells (putCells (Value.int .i64) 0 (srt zs).toArray cur) e (0, 0)) := by
    rw [hheap, Array.getElem?_append_left (by simpa using hlt), Array.getElem?_modify, if_pos rfl, hb]; rfl
  refine ⟨by rw [← hw.g, q2]; rfl, fun j => if j = b then some (.cells (putCells (Value.int .i64) 0 (srt zs).toArray cur) e (0, 0)) else none, k2, fun j => ?_, fun j o eo => ?_, fun j o eo => ?_, ⟨by rw [flat_length, hsl]; rfl, o2, o3, .inr ⟨b, putCells (Value.int .i64) 0 (srt zs).toArray cur, rfl, by simp, by simp [putCells, e3], ?_⟩⟩, l⟩
  · by_cases hj : j = b
    · right
      rcases dj j with h9 | h9
      · rw [hj, e2] at h9; cases h9
      · exact h9
    · left; simp [hj]
  · replace eo : (if j = b then some (Obj.cells (putCells (Value.int .i64) 0 (srt zs).toArray cur) e (0, 0)) else none) = some o := eo
    by_cases hj : j = b
    · subst hj; rw [if_pos rfl] at eo; rw [← eo]; exact hbb
    · rw [if_neg hj] at eo; cases eo
  · have hj : j ≠ b := fun hj => by
      rcases dj j with h9 | h9
      · rw [hj, e2] at h9; cases h9
      · rw [h9] at eo; cases eo
    have hlt2 : j < w.heap.size := by
      have := s2 _ _ eo
      rcases Nat.lt_or_ge j w.heap.size with h' | h'
      · exact h'
      · simp [World.hm, Array.getElem?_eq_none h'] at this
    show w'.heap[j]? = _
    rw [hne j hlt2 hj]; exact s2 _ _ eo
  · rw [hfl, Nat.mul_one]
    apply List.ext_getElem?
    intro j
    by_cases hj : j < n
    · rw [List.getElem?_take_of_lt hj]
      have hjc : j < cur.size := by omega
      simp [putCells, hjc, hj, hsl, show j < (srt zs).length by omega]
    · rw [List.getElem?_eq_none (by simp; omega), List.getElem?_eq_none (by simp; omega)]
end Go.Proofs.YtjnmpogolknkpaaGreat
/- Numbers in order. -/
namespace Go.Proofs.YtjnmpogolknkpaaGreat
theorem eq_of_sorted : ∀ (l m : List Int), l.Perm m → l.Pairwise (· ≤ ·) → m.Pairwise (· ≤ ·) → l = m
  | [], m, p, _, _ => by simpa using p.symm.eq_nil
  | a :: l, [], p, _, _ => by simpa using p.eq_nil
  | a :: l, b :: m, p, h1, h2 => by
    rw [List.pairwise_cons] at h1 h2
    have e : a = b := by
      have ha : a ∈ b :: m := p.subset (by simp)
      have hb : b ∈ a :: l := p.symm.subset (by simp)
      rcases List.mem_cons.1 ha with h | h
      · exact h
      · rcases List.mem_cons.1 hb with h' | h'
        · exact h'.symm
        · exact Int.le_antisymm (h1.1 _ h') (h2.1 _ h)
    subst e
    rw [eq_of_sorted l m p.cons_inv h1.2 h2.2]
theorem srt_perm (l : List Int) : (srt l).Perm l := List.mergeSort_perm l _
theorem srt_sorted (l : List Int) : (srt l).Pairwise (· ≤ ·) := by
  have := List.pairwise_mergeSort (le := fun x y : Int => decide (x ≤ y)) (fun a b c h1 h2 => by simp at *; omega) (fun a b => by simp; omega) l
  exact this.imp fun h => by simpa using h
theorem ins_perm (x : Int) (l : List Int) : (ins x l).Perm (x :: l) := by
  unfold ins
  refine List.perm_middle.trans ?_
  rw [List.takeWhile_append_dropWhile]
theorem ins_sorted (x : Int) (l : List Int) (h : l.Pairwise (· ≤ ·)) : (ins x l).Pairwise (· ≤ ·) := by
  induction l with
  | nil => simp [ins]
  | cons a l ih =>
    rw [List.pairwise_cons] at h
    by_cases ha : a ≤ x
    · have e : ins x (a :: l) = a :: ins x l := by simp [ins, ha]
      rw [e, List.pairwise_cons]
      refine ⟨fun b hb => ?_, ih h.2⟩
      rcases List.mem_cons.1 ((ins_perm x l).subset hb) with h' | h'
      · rw [h']; exact ha
      · exact h.1 _ h'
    · have e : ins x (a :: l) = x :: a :: l := by simp [ins, ha]
      rw [e, List.pairwise_cons]
      refine ⟨fun b hb => ?_, by rw [List.pairwise_cons]; exact h⟩
      rcases List.mem_cons.1 hb with h' | h'
      · rw [h']; omega
      · have := h.1 _ h'; omega
theorem rising_fold (l o : List Int) (ho : o.Pairwise (· ≤ ·)) : (l.foldl (fun o x => ins x o) o).Pairwise (· ≤ ·) ∧ (l.foldl (fun o x => ins x o) o).Perm (o ++ l) := by
  induction l generalizing o with
  | nil => exact ⟨ho, by simp⟩
  | cons a l ih =>
    obtain ⟨h1, h2⟩ := ih (ins a o) (ins_sorted a o ho)
    refine ⟨h1, h2.trans ?_⟩
    refine ((ins_perm a o).append_right l).trans ?_
    exact (List.perm_middle (l₁ := o) (l₂ := l) (a := a)).symm
theorem rising_perm (l : List Int) : (rising l).Perm l := by simpa [rising] using (rising_fold l [] .nil).2
theorem rising_srt (l m : List Int) (h : l.Perm m) : rising l = srt m :=
  eq_of_sorted _ _ ((rising_perm l).trans (h.trans (srt_perm m).symm)) (rising_fold l [] .nil).1 (srt_sorted m)
end Go.Proofs.YtjnmpogolknkpaaGreat
/- Picking out of a list, by an order: the plain part. -/
namespace Go.Proofs.YtjnmpogolknkpaaGreat
set_option linter.unusedVariables false
set_option linter.unusedSimpArgs false
set_option linter.unusedSectionVars false
section
variable {α : Type} [DecidableEq α] {ls : α → α → Bool}
def lowO (ls : α → α → Bool) (v : α) (l : List α) : List α := l.filter fun x => ls x v
def likeO (v : α) (l : List α) : List α := l.filter fun x => decide (x = v)
def highO (ls : α → α → Bool) (v : α) (l : List α) : List α := l.filter fun x => ls v x
theorem partsO_perm (o : STO ls) (v : α) : ∀ l : List α, (lowO ls v l ++ (likeO v l ++ highO ls v l)).Perm l
  | [] => .refl _
  | a :: l => by
    have ih := partsO_perm o v l
    unfold lowO likeO highO at *
    rcases Classical.em (a = v) with h | h
    · subst h
      rw [List.filter_cons_of_neg (by simp [o.irr]), List.filter_cons_of_pos (by simp), List.filter_cons_of_neg (by simp [o.irr]), List.cons_append]
      exact List.perm_middle.trans (ih.cons _)
    · cases h1 : ls a v with
      | true =>
        rw [List.filter_cons_of_pos (by simpa using h1), List.filter_cons_of_neg (by simpa using h), List.filter_cons_of_neg (by simp [o.asym h1]), List.cons_append]
        exact ih.cons a
      | false =>
        rw [List.filter_cons_of_neg (by simp [h1]), List.filter_cons_of_neg (by simpa using h), List.filter_cons_of_pos (by simp [o.tot h h1]), ← List.append_assoc]
        refine List.perm_middle.trans ?_
        rw [List.append_assoc]
        exact ih.cons a
theorem partsO_length (o : STO ls) (v : α) (l : List α) : (lowO ls v l).length + (likeO v l).length + (highO ls v l).length = l.length := by
  have := (partsO_perm o v l).length_eq
  simp only [List.length_append] at this
  omega
theorem likeO_eq {v x : α} {l : List α} (h : x ∈ likeO v l) : x = v := by
  have := (List.mem_filter.1 h).2
  simpa using this
theorem likeO_pos {v : α} {l : List α} (h : v ∈ l) : 0 < (likeO v l).length := List.length_pos_of_mem (List.mem_filter.2 ⟨h, by simp⟩)
theorem srtO_parts (o : STO ls) (v : α) (l : List α) : srtO ls l = srtO ls (lowO ls v l) ++ (likeO v l ++ srtO ls (highO ls v l)) := by
  refine (srtO_eq o ?_ (((srtO_perm _).append (List.Perm.append_left _ (srtO_perm _))).trans (partsO_perm o v l))).symm
  have hl : ∀ x ∈ srtO ls (lowO ls v l), ls x v = true := fun x hx => by
    have := (List.mem_filter.1 ((srtO_perm _).subset hx)).2
    simpa using this
  have hh : ∀ x ∈ srtO ls (highO ls v l), ls v x = true := fun x hx => by
    have := (List.mem_filter.1 ((srtO_perm _).subset hx)).2
    simpa using this
  unfold SrtO
  rw [List.pairwise_append, List.pairwise_append]
  refine ⟨srtO_sorted o _, ⟨?_, srtO_sorted o _, fun x hx y hy => ?_⟩, fun x hx y hy => ?_⟩
  · exact List.pairwise_of_forall_mem_list fun x hx y hy => by rw [likeO_eq hx, likeO_eq hy]; exact o.irr v
  · rw [likeO_eq hx]; exact o.asym (hh y hy)
  · rcases List.mem_append.1 hy with hy | hy
    · rw [likeO_eq hy]; exact o.asym (hl x hx)
    · exact o.asym (o.tr (hl x hx) (hh y hy))
theorem nthO_low (o : STO ls) (v : α) (l : List α) {k : Nat} (h : k < (lowO ls v l).length) : (srtO ls l)[k]? = (srtO ls (lowO ls v l))[k]? := by
  rw [srtO_parts o v l, List.getElem?_append_left (by rw [srtO_length]; exact h)]
theorem nthO_like (o : STO ls) (v : α) (l : List α) {k : Nat} (h1 : (lowO ls v l).length ≤ k) (h2 : k < (lowO ls v l).length + (likeO v l).length) : (srtO ls l)[k]? = some v := by
  rw [srtO_parts o v l, List.getElem?_append_right (by rw [srtO_length]; exact h1), srtO_length, List.getElem?_append_left (by omega)]
  have h3 : k - (lowO ls v l).length < (likeO v l).length := by omega
  rw [List.getElem?_eq_getElem h3, likeO_eq (List.getElem_mem h3)]
theorem nthO_high (o : STO ls) (v : α) (l : List α) {k : Nat} (h : (lowO ls v l).length + (likeO v l).length ≤ k) : (srtO ls l)[k]? = (srtO ls (highO ls v l))[k - (lowO ls v l).length - (likeO v l).length]? := by
  rw [srtO_parts o v l, List.getElem?_append_right (by rw [srtO_length]; omega), srtO_length, List.getElem?_append_right (by omega)]
/-- Of those in order, the one that stands at k: how many lie below it, and above. -/
theorem midO_low (o : STO ls) {l : List α} {k : Nat} {v : α} (h : (srtO ls l)[k]? = some v) : (lowO ls v l).length ≤ k := by
  rcases Nat.lt_or_ge k (lowO ls v l).length with h1 | h1
  · rw [nthO_low o v l h1] at h
    have h2 := (srtO_perm _).subset (List.mem_of_getElem? h)
    have := (List.mem_filter.1 h2).2
    rw [o.irr] at this; cases this
  · exact h1
theorem midO_high (o : STO ls) {l : List α} {k : Nat} {v : α} (h : (srtO ls l)[k]? = some v) : (highO ls v l).length + k < l.length := by
  have hp := partsO_length o v l
  rcases Nat.lt_or_ge k ((lowO ls v l).length + (likeO v l).length) with h1 | h1
  · omega
  · rw [nthO_high o v l h1] at h
    have h2 := (srtO_perm _).subset (List.mem_of_getElem? h)
    have := (List.mem_filter.1 h2).2
    rw [o.irr] at this; cases this
theorem midO_like (o : STO ls) {l : List α} {k : Nat} {v : α} (h : (srtO ls l)[k]? = some v) : k < (lowO ls v l).length + (likeO v l).length := by
  have := partsO_length o v l
  have := midO_high o h
  omega
theorem nthO_mem {l : List α} {k : Nat} {v : α} (h : (srtO ls l)[k]? = some v) : v ∈ l := (srtO_perm l).subset (List.mem_of_getElem? h)
end
/-- Numbers. -/
def ltI (a b : Int) : Bool := decide (a < b)
theorem sto_ltI : STO ltI := ⟨fun p => by simp [ltI], fun h k => by simp [ltI] at *; omega, fun h k => by simp [ltI] at *; omega⟩
theorem srtO_ltI (l : List Int) : srtO ltI l = srt l := (srtO_eq sto_ltI ((srt_sorted l).imp fun h => by simp [ltI]; exact h) (srt_perm l)).symm
end Go.Proofs.YtjnmpogolknkpaaGreat
/- Boxes, windows and intervals: the walks of the small functions (for the laws of plan). -/
namespace Go.Proofs.YtjnmpogolknkpaaGreat
attribute [local irreducible] sat
set_option linter.unusedVariables false
set_option linter.unusedSimpArgs false
set_option maxRecDepth 100000

def good (n : Int) : Bool := decide (-1099511627776 ≤ n) && decide (n ≤ 1099511627776)
def wthn (n lo hi : Int) : Bool := decide (lo ≤ n ∧ n ≤ hi)

theorem Good_ctr (n : Int) (L : List HP) : Ctr Tryz.prog 66 #[.int .i64 n] L fun v L' => v = .bool (good n) ∧ L' = L := by
  refine Ctr_of (fn := Tryz.f66) (n := 9) Tryz.func66 rfl rfl rfl ?_
  intro g F
  (repeat first | refine G_seq ?_ | refine G_skip ?_ | refine G_endblk ?_ | refine G_block ?_ | refine G_exit rfl ?_)
  refine G_region ?_
  refine GO_q rfl rfl (ev_assign rfl) ?_
  refine GO_nil ?_
  (repeat first | refine G_seq ?_ | refine G_skip ?_ | refine G_endblk ?_ | refine G_block ?_ | refine G_exit rfl ?_)
  refine G_region ?_
  refine GO_q rfl rfl (ev_move rfl) ?_
  refine GO_q rfl rfl (ev_geq rfl rfl) ?_
  refine GO_q rfl rfl (ev_move rfl) ?_
  refine GO_guard rfl rfl rfl (fun hq3 => ?y5) (fun hq3 => ?n5)
  case' n5 =>
    have hp3 := hq3
    try simp only [decide_eq_true_eq, decide_eq_false_iff_not, Bool.not_true, Bool.not_false] at hp3
    refine GO_no rfl rfl rfl hq3 ?_
    refine GO_q rfl rfl (ev_pick_f rfl hq3 rfl) ?_
    refine GO_q rfl rfl (ev_assign rfl) ?_
    refine GO_nil ?_
  case' y5 =>
    have hp3 := hq3
    try simp only [decide_eq_true_eq, decide_eq_false_iff_not, Bool.not_true, Bool.not_false] at hp3
    refine GO_q rfl rfl (ev_move rfl) ?_
    refine GO_yes rfl rfl rfl hq3 ?_
    refine GO_q rfl rfl (ev_leq rfl rfl) ?_
    refine GO_q rfl rfl (ev_pick_t rfl hq3 rfl) ?_
    refine GO_q rfl rfl (ev_assign rfl) ?_
    refine GO_nil ?_
  · (repeat first | refine G_seq ?_ | refine G_skip ?_ | refine G_endblk ?_ | refine G_block ?_ | refine G_exit rfl ?_)
    refine G_ret rfl (.tmp rfl .nil) (by (repeat first | exact fun _ s => s | apply en_keep | apply en_drop | apply en_app) <;> fail) ⟨by simp [retv, good]; omega, rfl⟩
  · (repeat first | refine G_seq ?_ | refine G_skip ?_ | refine G_endblk ?_ | refine G_block ?_ | refine G_exit rfl ?_)
    refine G_ret rfl (.tmp rfl .nil) (by (repeat first | exact fun _ s => s | apply en_keep | apply en_drop | apply en_app) <;> fail) ⟨by simp [retv, good]; omega, rfl⟩
theorem Coord_ctr (n : Int) (L : List HP) : Ctr Tryz.prog 109 #[.int .i64 n] L fun v L' => v = .bool (good n) ∧ L' = L := by
  refine Ctr_of (fn := Tryz.f109) (n := 9) Tryz.func109 rfl rfl rfl ?_
  intro g F
  (repeat first | refine G_seq ?_ | refine G_skip ?_ | refine G_endblk ?_ | refine G_block ?_ | refine G_exit rfl ?_)
  refine G_region ?_
  refine GO_q rfl rfl (ev_assign rfl) ?_
  refine GO_nil ?_
  (repeat first | refine G_seq ?_ | refine G_skip ?_ | refine G_endblk ?_ | refine G_block ?_ | refine G_exit rfl ?_)
  refine G_region ?_
  refine GO_q rfl rfl (ev_move rfl) ?_
  refine GO_q rfl rfl (ev_geq rfl rfl) ?_
  refine GO_q rfl rfl (ev_move rfl) ?_
  refine GO_guard rfl rfl rfl (fun hq3 => ?y6) (fun hq3 => ?n6)
  case' n6 =>
    have hp3 := hq3
    try simp only [decide_eq_true_eq, decide_eq_false_iff_not, Bool.not_true, Bool.not_false] at hp3
    refine GO_no rfl rfl rfl hq3 ?_
    refine GO_q rfl rfl (ev_pick_f rfl hq3 rfl) ?_
    refine GO_q rfl rfl (ev_assign rfl) ?_
    refine GO_nil ?_
  case' y6 =>
    have hp3 := hq3
    try simp only [decide_eq_true_eq, decide_eq_false_iff_not, Bool.not_true, Bool.not_false] at hp3
    refine GO_q rfl rfl (ev_move rfl) ?_
    refine GO_yes rfl rfl rfl hq3 ?_
    refine GO_q rfl rfl (ev_leq rfl rfl) ?_
    refine GO_q rfl rfl (ev_pick_t rfl hq3 rfl) ?_
    refine GO_q rfl rfl (ev_assign rfl) ?_
    refine GO_nil ?_
  · (repeat first | refine G_seq ?_ | refine G_skip ?_ | refine G_endblk ?_ | refine G_block ?_ | refine G_exit rfl ?_)
    refine G_ret rfl (.tmp rfl .nil) (by (repeat first | exact fun _ s => s | apply en_keep | apply en_drop | apply en_app) <;> fail) ⟨by simp [retv, good]; omega, rfl⟩
  · (repeat first | refine G_seq ?_ | refine G_skip ?_ | refine G_endblk ?_ | refine G_block ?_ | refine G_exit rfl ?_)
    refine G_ret rfl (.tmp rfl .nil) (by (repeat first | exact fun _ s => s | apply en_keep | apply en_drop | apply en_app) <;> fail) ⟨by simp [retv, good]; omega, rfl⟩
/-- A box: its four numbers. -/
structure Bx where
  x1 : Int
  x2 : Int
  y1 : Int
  y2 : Int
/-- A window: its three. -/
structure Wn where
  x1 : Int
  x2 : Int
  y : Int
/-- An interval with its number. -/
structure Sp where
  id : Int
  lo : Int
  hi : Int
def Bx.has (b : Bx) (x y : Int) : Bool := wthn x b.x1 b.x2 && wthn y b.y1 b.y2
def Wn.sees (w : Wn) (x y : Int) : Bool := wthn x w.x1 w.x2 && decide (w.y ≤ y)
def Sp.over (s t : Sp) : Bool := decide (s.lo ≤ s.hi ∧ t.lo ≤ t.hi ∧ s.lo ≤ t.hi ∧ t.lo ≤ s.hi)

/-- The judgement of a box: 0, 2 (a number that is no coordinate), 3 (out of order). -/
def Bx.chk (b : Bx) : Int :=
  if good b.x1 && good b.x2 && good b.y1 && good b.y2 then (if b.x1 > b.x2 ∨ b.y1 > b.y2 then 3 else 0) else 2
def Wn.bx (w : Wn) : Bx := ⟨w.x1, w.x2, w.y, 1099511627776⟩
end Go.Proofs.YtjnmpogolknkpaaGreat
/- A tree of middles: the plain part. -/
namespace Go.Proofs.YtjnmpogolknkpaaGreat
set_option linter.unusedVariables false
set_option linter.unusedSimpArgs false

/-- By where they end. -/
def Pt.flip (s : Pt) : Pt := ⟨s.id, s.y, s.x⟩
def Pt.ends (s t : Pt) : Bool := s.flip.less t.flip
theorem sto_ends : STO Pt.ends := ⟨fun p => Pt.less_irrefl _, fun h k => Pt.less_trans h k, fun {p q} h k => Pt.less_total (fun e => h (by
  rw [Pt.ext_iff'] at *
  simp only [Pt.flip] at e
  exact ⟨e.1, e.2.2, e.2.1⟩)) k⟩
inductive IT where
  | nil
  | node (b : Nat) (mid : Int) (A : Option Addr) (c : Nat) (p : List Pt) (B : Option Addr) (d : Nat) (q : List Pt) (n : Nat) (lo hi : IT)
def IT.addr : IT → Option Addr
  | .nil => none
  | .node b _ _ _ _ _ _ _ _ _ _ => some ⟨b, 0, none⟩
def IT.spans : IT → List Pt
  | .nil => []
  | .node _ _ _ _ p _ _ _ _ lo hi => p ++ (lo.spans ++ hi.spans)
def IT.size : IT → Nat
  | .nil => 0
  | .node _ _ _ _ _ _ _ _ n _ _ => n
def IT.depth : IT → Nat
  | .nil => 0
  | .node _ _ _ _ _ _ _ _ _ lo hi => max lo.depth hi.depth + 1
/-- All but for how heavy the root is. -/
def IT.kok (mid : Int) (p q : List Pt) (lo hi : List Pt) : Prop :=
  AscO Pt.less p ∧ q = srtO Pt.ends p ∧ (∀ s ∈ p, s.x ≤ mid ∧ mid ≤ s.y) ∧ (∀ s ∈ lo, s.y < mid) ∧ (∀ s ∈ hi, mid < s.x)
/-- As it should be. -/
def IT.ok : IT → Prop
  | .nil => True
  | .node _ mid _ _ p _ _ q n lo hi => IT.kok mid p q lo.spans hi.spans ∧ n = p.length + lo.size + hi.size ∧ max lo.size hi.size ≤ 3 * n / 4 ∧ 0 < n ∧ lo.ok ∧ hi.ok
theorem IT.ok.size : ∀ {T : IT}, T.ok → T.size = T.spans.length
  | .nil, _ => rfl
  | .node _ mid _ _ p _ _ q n lo hi, ⟨_, h, _, _, h1, h2⟩ => by
    simp only [IT.size, IT.spans, List.length_append]
    rw [← h1.size, ← h2.size]; omega
theorem IT.ok.fair : ∀ {T : IT}, T.ok → ∀ s ∈ T.spans, s.x ≤ s.y
  | .nil, _, s, hs => by simp [IT.spans] at hs
  | .node _ mid _ _ p _ _ q n lo hi, ⟨h, _, _, _, h1, h2⟩, s, hs => by
    simp only [IT.spans, List.mem_append] at hs
    rcases hs with hs | hs | hs
    · have := h.2.2.1 s hs; omega
    · exact h1.fair s hs
    · exact h2.fair s hs
theorem IT.ok.nodup : ∀ {T : IT}, T.ok → T.spans.Nodup
  | .nil, _ => .nil
  | .node _ mid _ _ p _ _ q n lo hi, ⟨h, _, _, _, h1, h2⟩ => by
    obtain ⟨a1, a2, a3, a4, a5⟩ := h
    simp only [IT.spans]
    refine List.nodup_append.2 ⟨a1.nodup sto_less, List.nodup_append.2 ⟨h1.nodup, h2.nodup, fun s hs t ht e => ?_⟩, fun s hs t ht e => ?_⟩
    · subst e
      have := a4 s hs; have := a5 s ht; have := h1.fair s hs
      omega
    · subst e
      have := a3 s hs
      rcases List.mem_append.1 ht with ht | ht
      · have := a4 s ht; omega
      · have := a5 s ht; omega
theorem IT.ok.addr {T : IT} (h : T.ok) : T.addr = none ↔ T.size = 0 := by
  cases T with
  | nil => simp [IT.addr, IT.size]
  | node b mid A c p B d q n lo hi =>
    have := h.2.2.2.1
    simp [IT.addr, IT.size]; omega
/-- Where an interval lies, or would. -/
def IT.has (s : Pt) : IT → Bool
  | .nil => false
  | .node _ mid _ _ p _ _ _ _ lo hi => if s.y < mid then lo.has s else if mid < s.x then hi.has s else decide (s ∈ p)
theorem IT.ok.has {s : Pt} (hs : s.x ≤ s.y) : ∀ {T : IT}, T.ok → (T.has s = true ↔ s ∈ T.spans)
  | .nil, _ => by simp [IT.has, IT.spans]
  | .node _ mid _ _ p _ _ q n lo hi, ⟨h, _, _, _, h1, h2⟩ => by
    obtain ⟨a1, a2, a3, a4, a5⟩ := h
    simp only [IT.has, IT.spans, List.mem_append]
    split
    · rename_i c1
      rw [h1.has hs]
      refine ⟨fun h => .inr (.inl h), fun h => ?_⟩
      rcases h with h | h | h
      · have := a3 s h; omega
      · exact h
      · have := a5 s h; omega
    · split
      · rename_i c1 c2
        rw [h2.has hs]
        refine ⟨fun h => .inr (.inr h), fun h => ?_⟩
        rcases h with h | h | h
        · have := a3 s h; omega
        · have := a4 s h; omega
        · exact h
      · rename_i c1 c2
        rw [decide_eq_true_iff]
        refine ⟨.inl, fun h => ?_⟩
        rcases h with h | h | h
        · exact h
        · have := a4 s h; omega
        · have := a5 s h; omega
/-- A node's own ones that have a number in common with u .. v. -/
def IT.own (u v mid : Int) (p q : List Pt) : List Pt := if v < mid then p.filter (fun s => decide (s.x ≤ v)) else if mid < u then q.filter (fun s => decide (u ≤ s.y)) else p
def ovl (u v : Int) (s : Pt) : Bool := decide (u ≤ v ∧ s.x ≤ v ∧ u ≤ s.y)
theorem own_perm {u v mid : Int} {p q : List Pt} (huv : u ≤ v) (hq : q = srtO Pt.ends p) (hm : ∀ s ∈ p, s.x ≤ mid ∧ mid ≤ s.y) : (IT.own u v mid p q).Perm (p.filter (ovl u v)) := by
  unfold IT.own
  split
  · rename_i c1
    rw [List.filter_congr (q := ovl u v) fun s hs => ?_]
    have := hm s hs
    unfold ovl
    by_cases h : s.x ≤ v
    · simp [h]; omega
    · simp [h]
  · split
    · rename_i c1 c2
      subst hq
      refine List.Perm.trans ((srtO_perm p).filter _) ?_
      rw [List.filter_congr (q := ovl u v) fun s hs => ?_]
      have := hm s hs
      unfold ovl
      by_cases h : u ≤ s.y
      · simp [h]; omega
      · simp [h]
    · rename_i c1 c2
      rw [List.filter_eq_self.2]
      intro s hs
      have := hm s hs
      unfold ovl
      simp; omega
/-- What is found from a node on down. -/
def IT.found (u v : Int) : IT → List Pt
  | .nil => []
  | .node _ mid _ _ p _ _ q _ lo hi => IT.own u v mid p q ++ ((if u < mid then lo.found u v else []) ++ (if mid < v then hi.found u v else []))
theorem IT.ok.found {u v : Int} (huv : u ≤ v) : ∀ {T : IT}, T.ok → (T.found u v).Perm (T.spans.filter (ovl u v))
  | .nil, _ => .refl _
  | .node _ mid _ _ p _ _ q n lo hi, ⟨h, _, _, _, h1, h2⟩ => by
    obtain ⟨a1, a2, a3, a4, a5⟩ := h
    simp only [IT.found, IT.spans, List.filter_append]
    refine (own_perm huv a2 a3).append (List.Perm.append ?_ ?_)
    · split
      · exact h1.found huv
      · rename_i c1
        rw [List.filter_eq_nil_iff.2]
        intro s hs
        have := a4 s hs
        unfold ovl; simp; omega
    · split
      · exact h2.found huv
      · rename_i c1
        rw [List.filter_eq_nil_iff.2]
        intro s hs
        have := a5 s hs
        unfold ovl; simp; omega
/-- How many nodes are looked at. -/
def IT.seen (u v : Int) : IT → Nat
  | .nil => 0
  | .node _ mid _ _ _ _ _ _ _ lo hi => 1 + ((if u < mid then lo.seen u v else 0) + (if mid < v then hi.seen u v else 0))
theorem IT.seen_one (u : Int) : ∀ T : IT, T.seen u u ≤ T.depth
  | .nil => Nat.le_refl _
  | .node _ mid _ _ _ _ _ _ _ lo hi => by
    have h1 := IT.seen_one u lo
    have h2 := IT.seen_one u hi
    simp only [IT.seen, IT.depth]
    by_cases c1 : u < mid
    · rw [if_pos c1, if_neg (by omega)]; omega
    · by_cases c2 : mid < u
      · rw [if_neg c1, if_pos c2]; omega
      · rw [if_neg c1, if_neg c2]; omega
theorem IT.ok.depth : ∀ {T : IT}, T.ok → T.depth ≤ T.size
  | .nil, _ => Nat.le_refl _
  | .node _ mid _ _ p _ _ q n lo hi, ⟨h, h3, h4, h5, h1, h2⟩ => by
    have := h1.depth
    have := h2.depth
    simp only [IT.depth, IT.size]
    omega
theorem IT.ok.seen {u v : Int} : ∀ {T : IT}, T.ok → T.seen u v ≤ 2 * T.size - 1
  | .nil, _ => Nat.zero_le _
  | .node _ mid _ _ p _ _ q n lo hi, ⟨h, h3, h4, h5, h1, h2⟩ => by
    have a1 := h1.seen (u := u) (v := v)
    have a2 := h2.seen (u := u) (v := v)
    simp only [IT.seen, IT.size]
    split <;> split <;> omega
/-- The ends of intervals, and the one in their midst. -/
def endsOf (l : List Pt) : List Int := l.flatMap fun s => [s.x, s.y]
theorem endsOf_length : ∀ l : List Pt, (endsOf l).length = 2 * l.length
  | [] => rfl
  | a :: l => by
    have := endsOf_length l
    unfold endsOf at *
    simp only [List.flatMap_cons, List.length_append, List.length_cons, List.length_nil]
    omega
theorem ends_low (v : Int) : ∀ l : List Pt, (∀ s ∈ l, s.x ≤ s.y) → 2 * (l.filter fun s => decide (s.y < v)).length ≤ (lowO ltI v (endsOf l)).length
  | [], _ => Nat.le_refl _
  | a :: l, h => by
    have ih := ends_low v l fun s hs => h s (List.mem_cons_of_mem _ hs)
    have ha := h a (by simp)
    unfold lowO ltI endsOf at *
    simp only [List.flatMap_cons, List.filter_append, List.length_append, List.filter_cons, List.filter_nil]
    by_cases c1 : a.y < v
    · have : a.x < v := by omega
      simp [c1, this]; omega
    · simp [c1]; omega
theorem ends_high (v : Int) : ∀ l : List Pt, (∀ s ∈ l, s.x ≤ s.y) → 2 * (l.filter fun s => decide (v < s.x)).length ≤ (highO ltI v (endsOf l)).length
  | [], _ => Nat.le_refl _
  | a :: l, h => by
    have ih := ends_high v l fun s hs => h s (List.mem_cons_of_mem _ hs)
    have ha := h a (by simp)
    unfold highO ltI endsOf at *
    simp only [List.flatMap_cons, List.filter_append, List.length_append, List.filter_cons, List.filter_nil]
    by_cases c1 : v < a.x
    · have : v < a.y := by omega
      simp [c1, this]; omega
    · simp [c1]; omega
/-- By the midst of all ends neither side gets more than half. -/
theorem mid_sides {l : List Pt} {v : Int} (hf : ∀ s ∈ l, s.x ≤ s.y) (h : (srtO ltI (endsOf l))[l.length]? = some v) : 2 * (l.filter fun s => decide (s.y < v)).length ≤ l.length ∧ 2 * (l.filter fun s => decide (v < s.x)).length ≤ l.length := by
  have h1 := midO_low sto_ltI h
  have h2 := midO_high sto_ltI h
  have h3 := ends_low v l hf
  have h4 := ends_high v l hf
  have h5 := endsOf_length l
  omega
end Go.Proofs.YtjnmpogolknkpaaGreat
/- A store into a slice of the call's own. No program stands in this text. -/
namespace Go.Proofs.YtjnmpogolknkpaaGreat
open Go.RowKit
section
variable {P : Program} {g : Glob} {L M : List HP} {σ : Env} {d : Option Nat} {ty T T' : TypeId} {pos : String} {aft : Array Edge} {gd : Option (Nat × Bool)} {x y : Operand} {v : Value}
theorem eff_storeO {b o n c sz : Nat} {e : TypeId} {xs : List Value} [H : OneT P T] (hx : ev σ x = some (.pointer (some ⟨b, o, none⟩))) (hy : ev σ y = some v) (hv : oneC v = true) (hp : Pick (own e sz (some ⟨b, 0, none⟩) n c xs) L M) (ho : o < n * sz) :
    Eff P g L σ ⟨d, .store T x y, ty, pos, aft, gd⟩ fun r L' => r = undef ∧ L' = own e sz (some ⟨b, 0, none⟩) n c (xs.set o v) :: M := fun a w hs hw K Q hK => by
  have hw' : Hp g (own e sz (some ⟨b, 0, none⟩) n c xs :: M) w := hw.mono fun _ => sat.perm hp.perm
  obtain ⟨k1, k2, dj, s1, s2, ow, l⟩ := hw'.s
  obtain ⟨cs, hb, hcl, htk⟩ := ow.opn
  have hnc := ow.le
  have hcc := ow.cap
  have hwb : Hp g (blk b e cs :: M) w := ⟨hw'.g, k1, k2, dj, s1, s2, hb, l⟩
  have hm : n * sz ≤ c * sz := Nat.mul_le_mul_right _ hnc
  have hlt : o < cs.length := by omega
  refine (eff_store (P := P) (T := T) (L := blk b e cs :: M) (L' := blk b e (setN cs o [v]) :: M) (g := g) (σ := σ) (d := d) (ty := ty) (pos := pos) (aft := aft) (gd := gd) hx hy hv (Upd.here (by simp; omega))) a w hs hwb K Q fun r w' L' ⟨e1, e2⟩ hw2 => ?_
  subst e2
  refine hK r w' _ ⟨e1, rfl⟩ (hw2.mono fun h s => ?_)
  have e3 : setN cs o [v] = cs.set o v := by
    rw [setN_eq cs o [v] (by simp; omega)]
    simp [List.set_eq_take_append_cons_drop, hlt]
  have e4 : (setN cs o [v]).take (n * sz) = xs.set o v := by rw [e3, List.take_set, htk]
  obtain ⟨h1, h2, dd, t1, t2, q, z⟩ := s
  refine ⟨h1, h2, dd, t1, t2, ?_, z⟩
  rw [← e4]
  exact own.cls q (by rw [setN_length]; exact hcl) hnc hcc
theorem eff_storeNO {b o n c sz m : Nat} {e : TypeId} {xs vs : List Value} [H : AggT P T m] (hx : ev σ x = some (.pointer (some ⟨b, o, none⟩))) (hy : ev σ y = some (.agg vs.toArray)) (hn : Nat.beq vs.length m = true) (hv : allOne vs = true) (hp : Pick (own e sz (some ⟨b, 0, none⟩) n c xs) L M) (ho : o + vs.length ≤ n * sz) :
    Eff P g L σ ⟨d, .store T x y, ty, pos, aft, gd⟩ fun r L' => r = undef ∧ L' = own e sz (some ⟨b, 0, none⟩) n c (setN xs o vs) :: M := fun a w hs hw K Q hK => by
  have hw' : Hp g (own e sz (some ⟨b, 0, none⟩) n c xs :: M) w := hw.mono fun _ => sat.perm hp.perm
  obtain ⟨k1, k2, dj, s1, s2, ow, l⟩ := hw'.s
  obtain ⟨cs, hb, hcl, htk⟩ := ow.opn
  have hnc := ow.le
  have hcc := ow.cap
  have hxl := ow.len
  have hwb : Hp g (blk b e cs :: M) w := ⟨hw'.g, k1, k2, dj, s1, s2, hb, l⟩
  have hm : n * sz ≤ c * sz := Nat.mul_le_mul_right _ hnc
  refine (eff_storeN (P := P) (T := T) (L := blk b e cs :: M) (L' := blk b e (setN cs o vs) :: M) (g := g) (σ := σ) (d := d) (ty := ty) (pos := pos) (aft := aft) (gd := gd) hx hy hn hv (Upd.here (Nat.ble_eq_true_of_le (by omega)))) a w hs hwb K Q fun r w' L' ⟨e1, e2⟩ hw2 => ?_
  subst e2
  refine hK r w' _ ⟨e1, rfl⟩ (hw2.mono fun h s => ?_)
  have e4 : (setN cs o vs).take (n * sz) = setN xs o vs := by
    rw [setN_eq cs o vs (by omega), setN_eq xs o vs (by omega), splice_take cs vs o (n * sz) ho (by omega), htk]
  obtain ⟨h1, h2, dd, t1, t2, q, z⟩ := s
  refine ⟨h1, h2, dd, t1, t2, ?_, z⟩
  rw [← e4]
  exact own.cls q (by rw [setN_length]; exact hcl) hnc hcc
/-- An element of a list, put. -/
theorem flat_setN {α : Type} [E : Enc α] (l : List α) (i : Nat) (a : α) (hi : i < l.length) : setN (flat l) (i * E.sz) (E.enc a) = flat (l.set i a) := by
  rw [setN_eq _ _ _ (by rw [flat_length, Enc.len, ← Nat.succ_mul]; exact Nat.mul_le_mul_right _ hi), List.set_eq_take_append_cons_drop, if_pos hi, flat_append, flat_cons, flat_take, flat_drop, Enc.len, Nat.succ_mul, List.append_assoc]
end
end Go.Proofs.YtjnmpogolknkpaaGreat
/- make([]T, 0, n). No program stands in this text. -/
namespace Go.Proofs.YtjnmpogolknkpaaGreat
open Go.RowKit
section
variable {P : Program} {g : Glob} {L M : List HP} {σ : Env} {d : Option Nat} {ty T T' : TypeId} {pos : String} {aft : Array Edge} {gd : Option (Nat × Bool)} {x y : Operand} {v : Value}
theorem eff_make0 {e sz by_ k : Nat} {kd kc : IntKind} {zs : List Value} [H : SliceT P T (e, sz, by_)] [HZ : ZeroT P e zs] (hx : ev σ x = some (.int kd 0)) (hy : ev σ y = some (.int kc (k : Int)))
    (hb : k * by_ ≤ 140737488355328) (hm : k ≤ 140737488355328) :
    Eff P g L σ ⟨d, .makeSlice T x y, ty, pos, aft, gd⟩ fun r L' => ∃ b', r = .slice (some ⟨b', 0, none⟩) 0 k ∧ L' = own e sz (some ⟨b', 0, none⟩) 0 k [] :: L := fun a w hs hw K Q hK => by
  obtain ⟨ti, zv, hu, hi, hsz, hby, hiz, hzv⟩ := H.zero HZ
  have hb' : (ti.bytes : Int) * (k : Int) ≤ 281474976710656 := by
    rw [hby]
    have h : ((by_ * k : Nat) : Int) ≤ 281474976710656 := by rw [Nat.mul_comm]; omega
    rwa [Int.natCast_mul] at h
  have hrun := run_make (P := P) w T e ti zv hu hi hiz kd kc 0 k (Int.le_refl _) (by omega) hb' (by omega)
  simp only [Int.toNat_zero, Int.toNat_natCast] at hrun
  unfold Oper.wp
  simp only [execOp, hs.eval hx, hs.eval hy]
  simp only [Sem.run_bind, Sem.run_pure, Result.andThen_ok, hrun]
  have hal := hw.alloc e (madeCells zv.cells (k * ti.size)).toList
  rw [Array.toArray_toList] at hal
  refine hK _ _ _ ⟨w.heap.size, rfl, rfl⟩ ?_
  obtain ⟨j1, j2, d2, t1, t2, hb2, l2⟩ := hal.s
  refine ⟨hal.g, j1, j2, d2, t1, t2, ?_, l2⟩
  have h9 := own.cls (sz := sz) (n := 0) (c := k) hb2 (by rw [Array.length_toList, size_madeCells, hsz]) (Nat.zero_le _) (by unfold maxLen; omega)
  simpa using h9
end
end Go.Proofs.YtjnmpogolknkpaaGreat
/- Arrays that lead into one another: the walks of the small functions. -/
namespace Go.Proofs.YtjnmpogolknkpaaGreat
set_option linter.unusedVariables false
set_option maxRecDepth 100000

/-- An array as it lies in memory. -/
def ArrIn (L : List HP) : Option Addr → Arr → Prop
  | p, .nil => p = none
  | p, .node es lo hi => ∃ b A c pl ph, p = some ⟨b, 0, none⟩ ∧ LdN L b 0 3 [.slice A es.length c, .pointer pl, .pointer ph] ∧ Rd L A es.length es ∧ es.length ≤ c ∧ c ≤ maxLen ∧ ArrIn L pl lo ∧ ArrIn L ph hi
theorem ArrIn.skip {X : HP} {L : List HP} : ∀ {t : Arr} {p : Option Addr}, ArrIn L p t → ArrIn (X :: L) p t
  | .nil, _, h => h
  | .node es lo hi, _, ⟨b, A, c, pl, ph, e, h1, h2, h3, h4, h5, h6⟩ => ⟨b, A, c, pl, ph, e, h1.skip, h2.skip, h3, h4, h5.skip, h6.skip⟩
theorem ArrIn.app {N L : List HP} {t : Arr} {p : Option Addr} (h : ArrIn L p t) : ArrIn (N ++ L) p t := by
  induction N with
  | nil => exact h
  | cons X N ih => exact ih.skip

end Go.Proofs.YtjnmpogolknkpaaGreat
/- buildSlice with any number of parts. -/
namespace Go.Proofs.YtjnmpogolknkpaaGreat
set_option linter.unusedVariables false
set_option linter.unusedSimpArgs false

section
variable {P : Program} {g : Glob} {L : List HP} {σ : Env} {d : Option Nat} {ty T : TypeId} {pos : String} {aft : Array Edge} {gd : Option (Nat × Bool)}
/-- n times the same cells. -/
def repL (n : Nat) (zs : List Value) : List Value := (List.range (n * zs.length)).map fun j => zs.getD (j % zs.length) (.bool false)
theorem eff_buildSliceN {e : TypeId} {sz by_ n : Nat} {zs cs : List Value} {ps : List (Nat × Operand)} {pv : List (Nat × Value)} [H : SliceT P T (e, sz, by_)] [HZ : ZeroT P e zs] (hz : (Nat.beq zs.length sz && Nat.ble 1 sz && Nat.ble 1 n && Nat.ble (n * sz) 1000) = true) (hp : evParts σ ps = some pv)
    (hf : fillL (fun i => some (i * sz, sz)) (repL n zs) pv = some cs) :
    Eff P g L σ ⟨d, .buildSlice T n ps.toArray, ty, pos, aft, gd⟩ fun r L' => ∃ b, r = .slice (some ⟨b, 0, none⟩) n n ∧ L' = blk b e cs :: L := fun a w hs hw K Q hK => by
  simp only [Bool.and_eq_true] at hz
  have z1 := Nat.eq_of_beq_eq_true hz.1.1.1
  have z2 := Nat.le_of_ble_eq_true hz.1.1.2
  have z3 := Nat.le_of_ble_eq_true hz.1.2
  have z4 := Nat.le_of_ble_eq_true hz.2
  have z5 : 0 < n * sz := Nat.mul_pos z3 z2
  obtain ⟨hu, ie, hie, hs2, _⟩ := H.spec
  have e4 : (sizeOf e).run P w = .ok sz w := by simp [sizeOf, typeInfo, hie, hs2]
  unfold Oper.wp
  have e1 : (ps.toArray.map fun (i, x) => (i, a.eval x)) = pv.toArray := by rw [List.map_toArray]; congr 1; exact evParts_map hs hp
  obtain ⟨v, e5, e6⟩ := HZ.run w
  have e7 : (Array.range (n * sz)).map (fun j => zs.toArray[j % zs.toArray.size]!) = (repL n zs).toArray := by
    apply Array.ext
    · simp [repL, z1]
    · intro i hi _
      simp at hi
      have : i % sz < zs.length := by rw [z1]; exact Nat.mod_lt _ z2
      simp [repL, z1, List.getElem?_eq_getElem this, List.getD_eq_getElem?_getD]
  simp only [execOp, Instr.buildSlice, Sem.run_bind, run_underlying hu, Result.andThen_ok, e4, e1]
  rw [if_neg (by omega)]
  simp only [Sem.run_bind, Sem.run_pure, Result.andThen_ok]
  rw [if_neg (by omega)]
  simp only [Sem.run_bind, e5, Result.andThen_ok, Sem.run_pure, e6, e7, fillL_eq hf, newRow_run]
  exact hK _ _ _ ⟨_, rfl, rfl⟩ (hw.alloc e _)
end

end Go.Proofs.YtjnmpogolknkpaaGreat
/- The library's functions on slices, at points. -/
namespace Go.Proofs.YtjnmpogolknkpaaGreat
set_option linter.unusedVariables false
set_option linter.unusedSimpArgs false
set_option maxRecDepth 100000

theorem Ctr.pre {P : Program} {f : FuncId} {args : Array Value} {L M : List HP} {post : Value → List HP → Prop} (hp : ∀ h, sat L h → sat M h) (h : Ctr P f args M post) : Ctr P f args L post :=
  fun g F w hw => h g F w (hw.mono fun _ s => s.cons_mono hp)
theorem Ctr.pick {P : Program} {f : FuncId} {args : Array Value} {L M : List HP} {X : HP} {post : Value → List HP → Prop} (hp : Pick X L M) (h : Ctr P f args (X :: M) post) : Ctr P f args L post :=
  h.pre fun _ s => s.perm hp.perm
/-- What a function leaves that makes a slice of its own. -/
def Made (T : TypeId) {α : Type} [E : Enc α] (l : List α) (L : List HP) (v : Value) (L' : List HP) : Prop := ∃ A c, v = .slice A l.length c ∧ (0 < l.length → ∃ b, A = some ⟨b, 0, none⟩) ∧ L' = own T E.sz A l.length c (flat l) :: L

/-- What a list reads as, one cell behind the other, that was put together of parts of others. -/
theorem put_a (F us V : List Value) (i n : Nat) (hF : F.length = n * 3) (hu : us.length = (n + 1 - i) * 3) (hV : V.length = 3) (hi : i ≤ n) :
    (((F.take (i * 3) ++ us).take (i * 3) ++ V ++ (F.take (i * 3) ++ us).drop ((i + 1) * 3)).take ((i + 1) * 3) ++ (F.drop (i * 3)).take ((n - i) * 3) ++ ((F.take (i * 3) ++ us).take (i * 3) ++ V ++ (F.take (i * 3) ++ us).drop ((i + 1) * 3)).drop ((i + 1 + (n - i)) * 3)) = F.take (i * 3) ++ V ++ F.drop (i * 3) := by
  have h1 : (F.take (i * 3)).length = i * 3 := by rw [List.length_take]; omega
  have e1 : (F.take (i * 3) ++ us).take (i * 3) = F.take (i * 3) := by rw [List.take_append_of_le_length (by omega), List.take_take, Nat.min_self]
  have h2 : (F.take (i * 3) ++ V).length = (i + 1) * 3 := by rw [List.length_append, h1, hV]; omega
  rw [e1]
  generalize hd : (F.take (i * 3) ++ us).drop ((i + 1) * 3) = D
  have h3 : D.length = (n - i) * 3 := by rw [← hd, List.length_drop, List.length_append, h1, hu]; omega
  have e2 : (F.take (i * 3) ++ V ++ D).take ((i + 1) * 3) = F.take (i * 3) ++ V := by rw [← h2]; exact List.take_left
  have e3 : (F.take (i * 3) ++ V ++ D).drop ((i + 1 + (n - i)) * 3) = [] := List.drop_of_length_le (by rw [List.length_append, h2, h3]; omega)
  have e4 : (F.drop (i * 3)).take ((n - i) * 3) = F.drop (i * 3) := List.take_of_length_le (by rw [List.length_drop]; omega)
  rw [e2, e3, e4, List.append_nil]
theorem put_b (F us V : List Value) (i n : Nat) (hF : F.length = n * 3) (hu : us.length = 3) (hV : V.length = 3) (hi : i ≤ n) :
    (((F ++ us).take ((i + 1) * 3) ++ ((F ++ us).drop (i * 3)).take ((n - i) * 3) ++ (F ++ us).drop ((i + 1 + (n - i)) * 3)).take (i * 3) ++ V ++ ((F ++ us).take ((i + 1) * 3) ++ ((F ++ us).drop (i * 3)).take ((n - i) * 3) ++ (F ++ us).drop ((i + 1 + (n - i)) * 3)).drop ((i + 1) * 3)) = F.take (i * 3) ++ V ++ F.drop (i * 3) := by
  have hl : (F ++ us).length = (n + 1) * 3 := by rw [List.length_append, hF, hu]; omega
  have e3 : (F ++ us).drop ((i + 1 + (n - i)) * 3) = [] := List.drop_of_length_le (by rw [hl]; omega)
  have e1 : ((F ++ us).take ((i + 1) * 3)).length = (i + 1) * 3 := by rw [List.length_take, hl]; omega
  have e2 : ((F ++ us).drop (i * 3)).take ((n - i) * 3) = F.drop (i * 3) := by
    rw [List.drop_append_of_le_length (by omega), List.take_append_of_le_length (by rw [List.length_drop]; omega), List.take_of_length_le (by rw [List.length_drop]; omega)]
  rw [e3, e2, List.append_nil, List.take_append_of_le_length (by rw [e1]; omega), List.take_take, Nat.min_eq_left (by omega), List.take_append_of_le_length (by omega)]
  have e4 : ((F ++ us).take ((i + 1) * 3) ++ F.drop (i * 3)).drop ((i + 1) * 3) = F.drop (i * 3) := by
    rw [List.drop_append_of_le_length (by omega), List.drop_of_length_le (by omega), List.nil_append]
  rw [e4]
end Go.Proofs.YtjnmpogolknkpaaGreat
/- The library's functions that take a function, and lists in order, at points. -/
namespace Go.Proofs.YtjnmpogolknkpaaGreat
set_option linter.unusedVariables false
set_option linter.unusedSimpArgs false
set_option maxRecDepth 100000

@[reducible] def Pt.v (p : Pt) : Value := .agg #[.int .i64 p.id, .int .i64 p.x, .int .i64 p.y]
/-- .. and how much room there is. -/
def MadeC (T : TypeId) {α : Type} [E : Enc α] (l : List α) (L : List HP) (v : Value) (L' : List HP) : Prop := ∃ A c, v = .slice A l.length c ∧ (0 < l.length → ∃ b, A = some ⟨b, 0, none⟩) ∧ l.length ≤ c ∧ c ≤ maxLen ∧ L' = own T E.sz A l.length c (flat l) :: L
theorem Ctr.made {P : Program} {f : FuncId} {args : Array Value} {L0 L : List HP} {T : TypeId} {α : Type} [E : Enc α] {l : List α} (h : Ctr P f args L0 fun v L' => Made T l L v L') : Ctr P f args L0 fun v L' => MadeC T l L v L' := fun g F w hw =>
  (h g F w hw).mono fun e w' ⟨v, L', e1, ⟨A, c, e2, e3, e4⟩, hw'⟩ => by
    subst e4
    have q := own.facts hw'.s.tail
    exact ⟨v, _, e1, ⟨A, c, e2, e3, q.2.1, q.2.2.1, rfl⟩, hw'⟩
end Go.Proofs.YtjnmpogolknkpaaGreat
/- Lists of points in order: the walks. -/
namespace Go.Proofs.YtjnmpogolknkpaaGreat
set_option linter.unusedVariables false
set_option linter.unusedSimpArgs false
set_option maxRecDepth 100000

end Go.Proofs.YtjnmpogolknkpaaGreat
/- Out of XCas by tools/gspan.py: intervals in place of points. -/
namespace Go.Proofs.YtjnmpogolknkpaaGreat
attribute [local irreducible] sat
set_option linter.unusedVariables false
set_option maxRecDepth 100000
set_option linter.unusedSimpArgs false

theorem less_ctr (p q : Pt) (L : List HP) : Ctr Tryz.prog 69 #[.agg #[.int .i64 p.id, .int .i64 p.x, .int .i64 p.y], .agg #[.int .i64 q.id, .int .i64 q.x, .int .i64 q.y]] L fun v L' => v = .bool (p.less q) ∧ L' = L := by
  refine Ctr_of (fn := Tryz.f69) (n := 30) Tryz.func69 rfl rfl rfl ?_
  intro g F
  refine G_seq ?_
  (repeat first | refine G_seq ?_ | refine G_skip ?_ | refine G_endblk ?_ | refine G_block ?_ | refine G_exit rfl ?_)
  refine G_region ?_
  refine GO_eff rfl rfl (eff_box rfl) ?_; rintro _ _ ⟨b2, rfl, rfl⟩
  refine GO_eff rfl rfl (eff_box rfl) ?_; rintro _ _ ⟨b3, rfl, rfl⟩
  refine GO_q rfl rfl (ev_assign rfl) ?_
  refine GO_nil ?_
  refine G_seq ?_
  refine G_seq ?_
  (repeat first | refine G_seq ?_ | refine G_skip ?_ | refine G_endblk ?_ | refine G_block ?_ | refine G_exit rfl ?_)
  refine G_region ?_
  refine GO_q rfl rfl (ev_fieldAddr rfl) ?_
  refine GO_q rfl rfl (ev_load rfl (by repeat' first | exact Ld.blk rfl | assumption | apply Ld.skip | apply Ld.app)) ?_
  refine GO_q rfl rfl (ev_fieldAddr rfl) ?_
  refine GO_q rfl rfl (ev_load rfl (by repeat' first | exact Ld.blk rfl | assumption | apply Ld.skip | apply Ld.app)) ?_
  refine GO_q rfl rfl (ev_neq rfl rfl) ?_
  refine GO_nil ?_
  refine G_cond rfl (fun h1 => ?_) (fun h1 => ?_)
  · refine G_seq ?_
    (repeat first | refine G_seq ?_ | refine G_skip ?_ | refine G_endblk ?_ | refine G_block ?_ | refine G_exit rfl ?_)
    refine G_region ?_
    refine GO_q rfl rfl (ev_fieldAddr rfl) ?_
    refine GO_q rfl rfl (ev_load rfl (by repeat' first | exact Ld.blk rfl | assumption | apply Ld.skip | apply Ld.app)) ?_
    refine GO_q rfl rfl (ev_fieldAddr rfl) ?_
    refine GO_q rfl rfl (ev_load rfl (by repeat' first | exact Ld.blk rfl | assumption | apply Ld.skip | apply Ld.app)) ?_
    (first | refine GO_q rfl rfl (ev_lssN rfl rfl) ?_ | refine GO_q rfl rfl (ev_lss rfl rfl) ?_)
    refine GO_q rfl rfl (ev_assign rfl) ?_
    refine GO_nil ?_
    refine G_ret rfl (.tmp rfl .nil) (by (repeat first | exact fun _ s => s | apply en_keep | apply en_drop | apply en_app) <;> fail) ⟨by simp [retv, Pt.less, h1], rfl⟩
  · refine G_skip ?_
    refine G_seq ?_
    refine G_seq ?_
    (repeat first | refine G_seq ?_ | refine G_skip ?_ | refine G_endblk ?_ | refine G_block ?_ | refine G_exit rfl ?_)
    refine G_region ?_
    refine GO_q rfl rfl (ev_fieldAddr rfl) ?_
    refine GO_q rfl rfl (ev_load rfl (by repeat' first | exact Ld.blk rfl | assumption | apply Ld.skip | apply Ld.app)) ?_
    refine GO_q rfl rfl (ev_fieldAddr rfl) ?_
    refine GO_q rfl rfl (ev_load rfl (by repeat' first | exact Ld.blk rfl | assumption | apply Ld.skip | apply Ld.app)) ?_
    refine GO_q rfl rfl (ev_neq rfl rfl) ?_
    refine GO_nil ?_
    refine G_cond rfl (fun h2 => ?_) (fun h2 => ?_)
    · refine G_seq ?_
      (repeat first | refine G_seq ?_ | refine G_skip ?_ | refine G_endblk ?_ | refine G_block ?_ | refine G_exit rfl ?_)
      refine G_region ?_
      refine GO_q rfl rfl (ev_fieldAddr rfl) ?_
      refine GO_q rfl rfl (ev_load rfl (by repeat' first | exact Ld.blk rfl | assumption | apply Ld.skip | apply Ld.app)) ?_
      refine GO_q rfl rfl (ev_fieldAddr rfl) ?_
      refine GO_q rfl rfl (ev_load rfl (by repeat' first | exact Ld.blk rfl | assumption | apply Ld.skip | apply Ld.app)) ?_
      (first | refine GO_q rfl rfl (ev_lssN rfl rfl) ?_ | refine GO_q rfl rfl (ev_lss rfl rfl) ?_)
      refine GO_q rfl rfl (ev_assign rfl) ?_
      refine GO_nil ?_
      refine G_ret rfl (.tmp rfl .nil) (by (repeat first | exact fun _ s => s | apply en_keep | apply en_drop | apply en_app) <;> fail) ⟨by simp [retv, Pt.less, h1, h2], rfl⟩
    · refine G_skip ?_
      refine G_seq ?_
      (repeat first | refine G_seq ?_ | refine G_skip ?_ | refine G_endblk ?_ | refine G_block ?_ | refine G_exit rfl ?_)
      refine G_region ?_
      refine GO_q rfl rfl (ev_fieldAddr rfl) ?_
      refine GO_q rfl rfl (ev_load rfl (by repeat' first | exact Ld.blk rfl | assumption | apply Ld.skip | apply Ld.app)) ?_
      refine GO_q rfl rfl (ev_fieldAddr rfl) ?_
      refine GO_q rfl rfl (ev_load rfl (by repeat' first | exact Ld.blk rfl | assumption | apply Ld.skip | apply Ld.app)) ?_
      (first | refine GO_q rfl rfl (ev_lssN rfl rfl) ?_ | refine GO_q rfl rfl (ev_lss rfl rfl) ?_)
      refine GO_q rfl rfl (ev_assign rfl) ?_
      refine GO_nil ?_
      refine G_ret rfl (.tmp rfl .nil) (by (repeat first | exact fun _ s => s | apply en_keep | apply en_drop | apply en_app) <;> fail) ⟨by simp [retv, Pt.less, h1, h2], rfl⟩
/-- slices.Clone -/
theorem Clone_ctr (A : Option Addr) (n c : Nat) (l : List Pt) (L : List HP) (hl : Rd L A n l) (hn : n ≤ 1000000) :
    Ctr Tryz.prog 101 #[.slice A n c] L fun v L' => Made 24 l L v L' := by
  have h1 : l.length = n := hl.len (by decide)
  refine Ctr_of (fn := Tryz.f101) (n := 8) Tryz.func101 rfl rfl rfl ?_
  intro g F
  (repeat first | refine G_seq ?_ | refine G_skip ?_ | refine G_endblk ?_ | refine G_block ?_ | refine G_exit rfl ?_)
  refine G_region ?_
  refine GO_q rfl rfl (ev_assign rfl) ?_
  refine GO_nil ?_
  (repeat first | refine G_seq ?_ | refine G_skip ?_ | refine G_endblk ?_ | refine G_block ?_ | refine G_exit rfl ?_)
  refine G_region ?_
  refine GO_q rfl rfl (ev_move rfl) ?_
  refine GO_q rfl rfl (ev_eqlNilS rfl rfl) ?_
  refine GO_nil ?_
  (repeat first | refine G_seq ?_ | refine G_skip ?_ | refine G_endblk ?_ | refine G_block ?_ | refine G_exit rfl ?_)
  refine G_condB rfl (fun h2 => ?_) (fun h2 => ?_)
  · have e : A = none := by simpa using h2
    subst e
    have h3 : n = 0 := by
      rcases Nat.eq_zero_or_pos n with h | h
      · exact h
      · obtain ⟨b, o, e, _⟩ := hl.at_ h; cases e
    subst h3
    have : l = [] := List.eq_nil_of_length_eq_zero h1
    subst this
    (repeat first | refine G_seq ?_ | refine G_skip ?_ | refine G_endblk ?_ | refine G_block ?_ | refine G_exit rfl ?_)
    refine G_region ?_
    refine GO_q rfl rfl (ev_assign rfl) ?_
    refine GO_nil ?_
    (repeat first | refine G_seq ?_ | refine G_skip ?_ | refine G_endblk ?_ | refine G_block ?_ | refine G_exit rfl ?_)
    refine G_ret (L' := own 24 3 none 0 0 [] :: L) rfl (.tmp rfl .nil) ?_ ⟨none, 0, rfl, fun h => absurd h (Nat.lt_irrefl 0), rfl⟩
    exact fun h s => (own.nil_ 24 3 h s).swap
  · (repeat first | refine G_seq ?_ | refine G_skip ?_ | refine G_endblk ?_ | refine G_block ?_ | refine G_exit rfl ?_)
    refine G_region ?_
    refine GO_eff rfl rfl eff_buildSlice0 ?_; rintro _ _ ⟨b5, rfl, rfl⟩
    refine GO_q rfl rfl (ev_move rfl) ?_
    refine GO_eff rfl rfl (eff_append rfl rfl (by repeat' first | exact Pick.here | apply Pick.skip) (Rc.skip (Rc.skip hl)) ((flat_one _)) (by rfl) (by decide) (by first | omega | (simp; done) | (simp; omega)) (by first | omega | (simp; done) | (simp; omega))) ?_; rintro _ _ ⟨A7, c7, rfl, hc7, hm7, hn7, rfl⟩
    refine GO_q rfl rfl (ev_assign rfl) ?_
    refine GO_nil ?_
    rw [Nat.zero_add] at hc7 hn7
    (repeat first | refine G_seq ?_ | refine G_skip ?_ | refine G_endblk ?_ | refine G_block ?_ | refine G_exit rfl ?_)
    refine G_ret (L' := own 24 3 A7 l.length c7 (flat l) :: L) rfl (.tmp rfl .nil) ?_ ⟨A7, c7, by rw [h1]; simp [retv], by rw [h1]; exact hn7, rfl⟩
    rw [h1, Nat.zero_add, List.nil_append]
    refine en_pick (.skip (.here)) ?_
    refine en_pick (.here) ?_
    exact (by (repeat first | exact fun _ s => s | apply en_keep | apply en_drop | apply en_app) <;> fail)
/-- slices.Insert of one element -/
theorem Insert_ctr (A : Option Addr) (n c b1 i : Nat) (l : List Pt) (p : Pt) (L : List HP) (h1 : l.length = n) (hn : n ≤ 1000000) (hi : i ≤ n) :
    Ctr Tryz.prog 100 #[.slice A n c, .int .i64 (i : Nat), .slice (some ⟨b1, 0, none⟩) 1 1] (own 24 3 A n c (flat l) :: blk b1 24 [.int .i64 p.id, .int .i64 p.x, .int .i64 p.y] :: L) fun v L' => Made 24 (l.take i ++ [p] ++ l.drop i) L v L' := by
  have hlen : (l.take i ++ [p] ++ l.drop i).length = n + 1 := by simp; omega
  refine Ctr_of (fn := Tryz.f100) (n := 95) Tryz.func100 rfl rfl rfl ?_
  intro g F
  refine G_pure (fun h s => own.facts (s.tail)) ?_
  rintro ⟨f1, f2, f3, f4⟩
  rcases f4 with ⟨rfl, f5, f6⟩ | ⟨b, rfl⟩
  · subst f5 f6
    have hl : l = [] := List.eq_nil_of_length_eq_zero h1
    have hi0 : i = 0 := by omega
    subst hl hi0
    (repeat first | refine G_seq ?_ | refine G_skip ?_ | refine G_endblk ?_ | refine G_block ?_ | refine G_exit rfl ?_)
    refine G_region ?_
    refine GO_q rfl rfl (ev_assign rfl) ?_
    refine GO_nil ?_
    (repeat first | refine G_seq ?_ | refine G_skip ?_ | refine G_endblk ?_ | refine G_block ?_ | refine G_exit rfl ?_)
    refine G_region ?_
    refine GO_q rfl rfl (ev_move rfl) ?_
    refine GO_q rfl rfl (ev_move rfl) ?_
    refine GO_q rfl rfl (ev_slice rfl (.inr ⟨_, _, rfl, rfl⟩) (.inl ⟨rfl, rfl⟩) (Nat.le_refl _) (Nat.le_refl _)) ?_
    refine GO_nil ?_
    (repeat first | refine G_seq ?_ | refine G_skip ?_ | refine G_endblk ?_ | refine G_block ?_ | refine G_exit rfl ?_)
    refine G_region ?_
    refine GO_q rfl rfl (ev_move rfl) ?_
    refine GO_q rfl rfl (ev_len rfl) ?_
    refine GO_q rfl rfl (ev_assign rfl) ?_
    refine GO_nil ?_
    (repeat first | refine G_seq ?_ | refine G_skip ?_ | refine G_endblk ?_ | refine G_block ?_ | refine G_exit rfl ?_)
    refine G_region ?_
    refine GO_q rfl rfl (ev_move rfl) ?_
    refine GO_q rfl rfl (ev_eql rfl rfl) ?_
    refine GO_nil ?_
    (repeat first | refine G_seq ?_ | refine G_skip ?_ | refine G_endblk ?_ | refine G_block ?_ | refine G_exit rfl ?_)
    refine G_cond_f rfl rfl ?_
    (repeat first | refine G_seq ?_ | refine G_skip ?_ | refine G_endblk ?_ | refine G_block ?_ | refine G_exit rfl ?_)
    refine G_region ?_
    refine GO_q rfl rfl (ev_move rfl) ?_
    refine GO_q rfl rfl (ev_len rfl) ?_
    refine GO_q rfl rfl (ev_assign rfl) ?_
    refine GO_nil ?_
    (repeat first | refine G_seq ?_ | refine G_skip ?_ | refine G_endblk ?_ | refine G_block ?_ | refine G_exit rfl ?_)
    refine G_region ?_
    refine GO_q rfl rfl (ev_move rfl) ?_
    refine GO_q rfl rfl (ev_move rfl) ?_
    refine GO_q rfl rfl (ev_eql rfl rfl) ?_
    refine GO_nil ?_
    (repeat first | refine G_seq ?_ | refine G_skip ?_ | refine G_endblk ?_ | refine G_block ?_ | refine G_exit rfl ?_)
    refine G_cond_t rfl rfl ?_
    (repeat first | refine G_seq ?_ | refine G_skip ?_ | refine G_endblk ?_ | refine G_block ?_ | refine G_exit rfl ?_)
    refine G_region ?_
    refine GO_q rfl rfl (ev_move rfl) ?_
    refine GO_q rfl rfl (ev_move rfl) ?_
    refine GO_eff rfl rfl (eff_append rfl rfl (by repeat' first | exact Pick.here | apply Pick.skip) (by repeat' first | exact Rc.blk rfl | assumption | apply Rc.skip) (one_all rfl) (by rfl) (by decide) (by first | omega | (simp; done) | (simp; omega)) (by first | omega | (simp; done) | (simp; omega))) ?_; rintro _ _ ⟨A25, c25, rfl, hc25, hm25, hn25, rfl⟩
    refine GO_q rfl rfl (ev_assign rfl) ?_
    refine GO_nil ?_
    (repeat first | refine G_seq ?_ | refine G_skip ?_ | refine G_endblk ?_ | refine G_block ?_ | refine G_exit rfl ?_)
    refine G_ret (L' := own 24 3 A25 1 c25 (flat [p]) :: L) rfl (.tmp rfl .nil) ?_ ⟨A25, c25, rfl, fun _ => hn25 (by omega), rfl⟩
    exact (by (repeat first | exact en_refl | (apply en_blk; focus ((repeat' first | exact Pick.here | apply Pick.skip | apply Pick.app); done); focus rfl) | (apply en_own; focus ((repeat' first | exact Pick.here | apply Pick.skip | apply Pick.app); done); focus rfl) | (apply en_pick; focus ((repeat' first | exact Pick.here | apply Pick.skip | apply Pick.app); done)) | apply en_drop | apply en_app) <;> fail)
  · have hfl : flat (l.take i ++ [p] ++ l.drop i) = (flat l).take (i * 3) ++ [.int .i64 p.id, .int .i64 p.x, .int .i64 p.y] ++ (flat l).drop (i * 3) := by
      have a1 := flat_take l i
      have a2 := flat_drop l i
      rw [flat_append, flat_append, a1, a2]
      rfl
    have hF : (flat l).length = n * 3 := by rw [flat_length, h1]; rfl
    have hbig : c ≤ maxLen := f3
    have hbig2 : c ≤ 9223372036854775807 := by unfold maxLen at f3; omega
    (repeat first | refine G_seq ?_ | refine G_skip ?_ | refine G_endblk ?_ | refine G_block ?_ | refine G_exit rfl ?_)
    refine G_region ?_
    refine GO_q rfl rfl (ev_assign rfl) ?_
    refine GO_nil ?_
    (repeat first | refine G_seq ?_ | refine G_skip ?_ | refine G_endblk ?_ | refine G_block ?_ | refine G_exit rfl ?_)
    refine G_region ?_
    refine GO_q rfl rfl (ev_move rfl) ?_
    refine GO_q rfl rfl (ev_move rfl) ?_
    refine GO_q rfl rfl (ev_sliceL rfl rfl (by first | omega | (simp; done) | (simp; omega)) (by first | omega | (simp; done) | (simp; omega))) ?_
    refine GO_nil ?_
    (repeat first | refine G_seq ?_ | refine G_skip ?_ | refine G_endblk ?_ | refine G_block ?_ | refine G_exit rfl ?_)
    refine G_region ?_
    refine GO_q rfl rfl (ev_move rfl) ?_
    refine GO_q rfl rfl (ev_len rfl) ?_
    refine GO_q rfl rfl (ev_assign rfl) ?_
    refine GO_nil ?_
    (repeat first | refine G_seq ?_ | refine G_skip ?_ | refine G_endblk ?_ | refine G_block ?_ | refine G_exit rfl ?_)
    refine G_region ?_
    refine GO_q rfl rfl (ev_move rfl) ?_
    refine GO_q rfl rfl (ev_eql rfl rfl) ?_
    refine GO_nil ?_
    (repeat first | refine G_seq ?_ | refine G_skip ?_ | refine G_endblk ?_ | refine G_block ?_ | refine G_exit rfl ?_)
    refine G_cond_f rfl rfl ?_
    (repeat first | refine G_seq ?_ | refine G_skip ?_ | refine G_endblk ?_ | refine G_block ?_ | refine G_exit rfl ?_)
    refine G_region ?_
    refine GO_q rfl rfl (ev_move rfl) ?_
    refine GO_q rfl rfl (ev_len rfl) ?_
    refine GO_q rfl rfl (ev_assign rfl) ?_
    refine GO_nil ?_
    (repeat first | refine G_seq ?_ | refine G_skip ?_ | refine G_endblk ?_ | refine G_block ?_ | refine G_exit rfl ?_)
    refine G_region ?_
    refine GO_q rfl rfl (ev_move rfl) ?_
    refine GO_q rfl rfl (ev_move rfl) ?_
    refine GO_q rfl rfl (ev_eql rfl rfl) ?_
    refine GO_nil ?_
    (repeat first | refine G_seq ?_ | refine G_skip ?_ | refine G_endblk ?_ | refine G_block ?_ | refine G_exit rfl ?_)
    refine G_cond rfl (fun c1 => ?_) (fun c1 => ?_)
    · have e : i = n := by omega
      subst e
      (repeat first | refine G_seq ?_ | refine G_skip ?_ | refine G_endblk ?_ | refine G_block ?_ | refine G_exit rfl ?_)
      refine G_region ?_
      refine GO_q rfl rfl (ev_move rfl) ?_
      refine GO_q rfl rfl (ev_move rfl) ?_
      refine GO_eff rfl rfl (eff_append rfl rfl (by repeat' first | exact Pick.here | apply Pick.skip) (by repeat' first | exact Rc.blk rfl | assumption | apply Rc.skip) (one_all rfl) (by rfl) (by decide) (by first | omega | (simp; done) | (simp; omega)) (by first | omega | (simp; done) | (simp; omega))) ?_; rintro _ _ ⟨A25, c25, rfl, hc25, hm25, hn25, rfl⟩
      refine GO_q rfl rfl (ev_assign rfl) ?_
      refine GO_nil ?_
      (repeat first | refine G_seq ?_ | refine G_skip ?_ | refine G_endblk ?_ | refine G_block ?_ | refine G_exit rfl ?_)
      refine G_ret (L' := own 24 3 A25 (l.take i ++ [p] ++ l.drop i).length c25 (flat (l.take i ++ [p] ++ l.drop i)) :: L) rfl (.tmp rfl .nil) ?_ ⟨A25, c25, by rw [hlen]; rfl, fun _ => hn25 (by omega), rfl⟩
      rw [hlen, hfl, List.take_of_length_le (by omega), List.drop_of_length_le (by omega), List.append_nil]
      exact (by (repeat first | exact en_refl | (apply en_blk; focus ((repeat' first | exact Pick.here | apply Pick.skip | apply Pick.app); done); focus rfl) | (apply en_own; focus ((repeat' first | exact Pick.here | apply Pick.skip | apply Pick.app); done); focus rfl) | (apply en_pick; focus ((repeat' first | exact Pick.here | apply Pick.skip | apply Pick.app); done)) | apply en_drop | apply en_app) <;> fail)
    · (repeat first | refine G_seq ?_ | refine G_skip ?_ | refine G_endblk ?_ | refine G_block ?_ | refine G_exit rfl ?_)
      refine G_region ?_
      refine GO_q rfl rfl (ev_move rfl) ?_
      refine GO_q rfl rfl (ev_move rfl) ?_
      (first | refine GO_q rfl rfl (ev_addN rfl rfl (by first | omega | (simp; done) | (simp; omega))) ?_ | refine GO_q rfl rfl (ev_add rfl rfl (by first | omega | (simp; done) | (simp; omega))) ?_)
      refine GO_q rfl rfl (ev_move rfl) ?_
      refine GO_q rfl rfl (ev_cap rfl) ?_
      refine GO_q rfl rfl (ev_gtr rfl rfl) ?_
      refine GO_nil ?_
      (repeat first | refine G_seq ?_ | refine G_skip ?_ | refine G_endblk ?_ | refine G_block ?_ | refine G_exit rfl ?_)
      refine G_cond rfl (fun c2 => ?_) (fun c2 => ?_)
      · have hii : i + (n + 1 - i) = n + 1 := by omega
        (repeat first | refine G_seq ?_ | refine G_skip ?_ | refine G_endblk ?_ | refine G_block ?_ | refine G_exit rfl ?_)
        refine G_region ?_
        refine GO_q rfl rfl (ev_move rfl) ?_
        refine GO_q rfl rfl (ev_move rfl) ?_
        refine GO_q rfl rfl (ev_sliceH rfl rfl (by first | omega | (simp; done) | (simp; omega))) ?_
        refine GO_q rfl rfl (ev_move rfl) ?_
        refine GO_q rfl rfl (ev_move rfl) ?_
        (first | refine GO_q rfl rfl (ev_addN rfl rfl (by first | omega | (simp; done) | (simp; omega))) ?_ | refine GO_q rfl rfl (ev_add rfl rfl (by first | omega | (simp; done) | (simp; omega))) ?_)
        refine GO_q rfl rfl (ev_move rfl) ?_
        (first | refine GO_q rfl rfl (ev_subN rfl rfl (by first | omega | (simp; done) | (simp; omega))) ?_ | refine GO_q rfl rfl (ev_sub rfl rfl (by first | omega | (simp; done) | (simp; omega))) ?_)
        refine GO_eff rfl rfl (eff_appendZ rfl (by omega) rfl rfl (by repeat' first | exact Pick.here | apply Pick.skip | apply Pick.app) hi (by omega) (by omega) (by omega) (by omega)) ?_; rintro _ _ ⟨b40, c40, us, rfl, hu, hc40, hm40, rfl⟩
        refine GO_q rfl rfl (ev_assign rfl) ?_
        refine GO_nil ?_
        have hm1 : min 1 (i + (n + 1 - i) - i) = 1 := by omega
        have hm2 : min (n - i) (i + (n + 1 - i) - (i + 1)) = n - i := by omega
        have hsrc : ∀ L', Rc (own 24 3 (some ⟨b, 0, none⟩) n c (flat l) :: L') 3 (some ⟨b, (if c = i then 0 else 0 + i * 3), none⟩) (n - i) (flat (l.drop i)) := fun L' => Rd.drop (α := Pt) (Rc.own hF (fun _ => ⟨b, rfl⟩)) hi f2
        (repeat first | refine G_seq ?_ | refine G_skip ?_ | refine G_endblk ?_ | refine G_block ?_ | refine G_exit rfl ?_)
        refine G_region ?_
        refine GO_q rfl rfl (ev_move rfl) ?_
        refine GO_q rfl rfl (ev_move rfl) ?_
        refine GO_q rfl rfl (ev_sliceL rfl rfl (by first | omega | (simp; done) | (simp; omega)) (by first | omega | (simp; done) | (simp; omega))) ?_
        refine GO_q rfl rfl (ev_move rfl) ?_
        refine GO_eff rfl rfl (eff_copy (k := i) rfl rfl (by repeat' first | exact Pick.here | apply Pick.skip | apply Pick.app) (by repeat' first | exact Rc.blk rfl | assumption | apply Rc.skip | apply Rc.app) (one_take (one_all rfl) _) (fun _ => by rw [if_neg (by omega)]; omega) (by omega)) ?_; rintro _ _ ⟨rfl, rfl⟩
        refine GO_nil ?_
        rw [hm1]
        (repeat first | refine G_seq ?_ | refine G_skip ?_ | refine G_endblk ?_ | refine G_block ?_ | refine G_exit rfl ?_)
        refine G_draw (.q 0 (.q 1 (.q 2 (.q 3 (.q 4 (.q 5 (.q 6 (.q 7 (.e 8 .nil))))))))) (by kernel_rfl) (by kernel_rfl) ?_
        refine RS_m retB_noPanic rfl rfl rfl rfl (ev_move rfl) ?_
        refine RS_m retB_noPanic rfl rfl rfl rfl (ev_move rfl) ?_
        refine RS_m retB_noPanic rfl rfl rfl rfl (ev_move rfl) ?_
        (first | refine RS_m retB_noPanic rfl rfl rfl rfl (ev_addN rfl rfl (by first | omega | (simp; done) | (simp; omega))) ?_ | refine RS_m retB_noPanic rfl rfl rfl rfl (ev_add rfl rfl (by first | omega | (simp; done) | (simp; omega))) ?_)
        refine RS_q retB_noPanic rfl rfl rfl rfl (ev_sliceL rfl rfl (by first | omega | (simp; done) | (simp; omega)) (by first | omega | (simp; done) | (simp; omega))) ?_
        refine RS_m retB_noPanic rfl rfl rfl rfl (ev_move rfl) ?_
        refine RS_m retB_noPanic rfl rfl rfl rfl (ev_move rfl) ?_
        refine RS_q retB_noPanic rfl rfl rfl rfl (ev_sliceL rfl rfl (by first | omega | (simp; done) | (simp; omega)) (by first | omega | (simp; done) | (simp; omega))) ?_
        refine RS_e (RE_last (by kernel_rfl) rfl rfl rfl (eff_copy (k := i + 1) rfl rfl (by repeat' first | exact Pick.here | apply Pick.skip | apply Pick.app) (by repeat' first | exact hsrc _ | apply Rc.skip) (one_take (flat_one _) _) (fun _ => by rw [if_neg (by omega)]; omega) (by omega)) ?_); rintro _ _ ⟨rfl, rfl⟩
        rw [hm2]
        (repeat first | refine G_seq ?_ | refine G_skip ?_ | refine G_endblk ?_ | refine G_block ?_ | refine G_exit rfl ?_)
        refine G_region ?_
        refine GO_q rfl rfl (ev_move rfl) ?_
        refine GO_q rfl rfl (ev_assign rfl) ?_
        refine GO_nil ?_
        (repeat first | refine G_seq ?_ | refine G_skip ?_ | refine G_endblk ?_ | refine G_block ?_ | refine G_exit rfl ?_)
        refine G_ret (L' := own 24 3 (some ⟨b40, 0, none⟩) (l.take i ++ [p] ++ l.drop i).length c40 (flat (l.take i ++ [p] ++ l.drop i)) :: L) rfl (.tmp rfl .nil) ?_ ⟨some ⟨b40, 0, none⟩, c40, by rw [hlen, hii]; rfl, fun _ => ⟨b40, rfl⟩, rfl⟩
        rw [hlen, hfl, hii, flat_drop]
        have key := put_a (flat l) us [.int .i64 p.id, .int .i64 p.x, .int .i64 p.y] i n hF hu rfl hi
        apply en_pick
        focus ((repeat' first | exact Pick.here | apply Pick.skip | apply Pick.app); done)
        refine en_own .here key ?_
        exact (by (repeat first | exact en_refl | (apply en_blk; focus ((repeat' first | exact Pick.here | apply Pick.skip | apply Pick.app); done); focus rfl) | (apply en_own; focus ((repeat' first | exact Pick.here | apply Pick.skip | apply Pick.app); done); focus rfl) | (apply en_pick; focus ((repeat' first | exact Pick.here | apply Pick.skip | apply Pick.app); done)) | apply en_drop | apply en_app) <;> fail)
      · have hm1 : min 1 (n + 1 - i) = 1 := by omega
        have hm2 : min (n + 1 - i) (n + 1 - (i + 1)) = n - i := by omega
        (repeat first | refine G_seq ?_ | refine G_skip ?_ | refine G_endblk ?_ | refine G_block ?_ | refine G_exit rfl ?_)
        refine G_region ?_
        refine GO_q rfl rfl (ev_move rfl) ?_
        refine GO_q rfl rfl (ev_move rfl) ?_
        refine GO_q rfl rfl (ev_move rfl) ?_
        (first | refine GO_q rfl rfl (ev_addN rfl rfl (by first | omega | (simp; done) | (simp; omega))) ?_ | refine GO_q rfl rfl (ev_add rfl rfl (by first | omega | (simp; done) | (simp; omega))) ?_)
        refine GO_q rfl rfl (ev_sliceH rfl rfl (by first | omega | (simp; done) | (simp; omega))) ?_
        refine GO_q rfl rfl (ev_assign rfl) ?_
        refine GO_nil ?_
        (repeat first | refine G_seq ?_ | refine G_skip ?_ | refine G_endblk ?_ | refine G_block ?_ | refine G_exit rfl ?_)
        refine G_heap (L' := own 24 3 (some ⟨b, 0, none⟩) n c (flat l) :: F :: blk b1 24 [.int .i64 p.id, .int .i64 p.x, .int .i64 p.y] :: L) (en_pick (.skip .here) en_refl) ?_
        refine G_open (ι := List Value) (F := fun us => us.length = 3) (N := fun us => [own 24 3 (some ⟨b, 0, none⟩) (n + 1) c (flat l ++ us)]) (fun h o => ?_) ?_
        · obtain ⟨zs, hz, o2⟩ := o.more (k := n + 1) (by omega) (by omega)
          exact ⟨zs, by omega, sat.one o2⟩
        intro us hu
        have hsrc : ∀ L', Rc (own 24 3 (some ⟨b, 0, none⟩) (n + 1) c (flat l ++ us) :: L') 3 (some ⟨b, (if c = i then 0 else 0 + i * 3), none⟩) (n + 1 - i) ((flat l ++ us).drop (i * 3)) := fun L' => Rc.drop (Rc.own (by rw [List.length_append, hF, hu]; omega) (fun _ => ⟨b, rfl⟩)) (by omega) (by omega)
        have hone : ∀ u ∈ ((flat l ++ us).drop (i * 3)).take (min (n + 1 - i) (n + 1 - (i + 1)) * 3), u.oneCell' = true := by
          rw [hm2, List.drop_append_of_le_length (by omega), List.take_append_of_le_length (by rw [List.length_drop]; omega)]
          exact fun u h => flat_one l u (List.mem_of_mem_drop (List.mem_of_mem_take h))
        (repeat first | refine G_seq ?_ | refine G_skip ?_ | refine G_endblk ?_ | refine G_block ?_ | refine G_exit rfl ?_)
        refine G_region ?_
        refine GO_q rfl rfl (ev_move rfl) ?_
        refine GO_q rfl rfl (ev_move rfl) ?_
        refine GO_q rfl rfl (ev_move rfl) ?_
        refine GO_q rfl rfl (ev_move rfl) ?_
        (first | refine GO_q rfl rfl (ev_addN rfl rfl (by first | omega | (simp; done) | (simp; omega))) ?_ | refine GO_q rfl rfl (ev_add rfl rfl (by first | omega | (simp; done) | (simp; omega))) ?_)
        refine GO_q rfl rfl (ev_sliceL rfl rfl (by first | omega | (simp; done) | (simp; omega)) (by first | omega | (simp; done) | (simp; omega))) ?_
        refine GO_q rfl rfl (ev_overlaps rfl rfl (by repeat' first | exact Pick.here | apply Pick.skip | apply Pick.app) (by repeat' first | exact Pick.here | apply Pick.skip | apply Pick.app) (by omega) (by omega)) ?_
        (first | refine GO_q rfl rfl (ev_notP rfl) ?_ | refine GO_q rfl rfl (ev_not rfl) ?_)
        refine GO_nil ?_
        (repeat first | refine G_seq ?_ | refine G_skip ?_ | refine G_endblk ?_ | refine G_block ?_ | refine G_exit rfl ?_)
        refine G_cond_t rfl rfl ?_
        (repeat first | refine G_seq ?_ | refine G_skip ?_ | refine G_endblk ?_ | refine G_block ?_ | refine G_exit rfl ?_)
        refine G_draw (.q 0 (.q 1 (.q 2 (.q 3 (.q 4 (.q 5 (.q 6 (.q 7 (.e 8 .nil))))))))) (by kernel_rfl) (by kernel_rfl) ?_
        refine RS_m retB_noPanic rfl rfl rfl rfl (ev_move rfl) ?_
        refine RS_m retB_noPanic rfl rfl rfl rfl (ev_move rfl) ?_
        refine RS_m retB_noPanic rfl rfl rfl rfl (ev_move rfl) ?_
        (first | refine RS_m retB_noPanic rfl rfl rfl rfl (ev_addN rfl rfl (by first | omega | (simp; done) | (simp; omega))) ?_ | refine RS_m retB_noPanic rfl rfl rfl rfl (ev_add rfl rfl (by first | omega | (simp; done) | (simp; omega))) ?_)
        refine RS_q retB_noPanic rfl rfl rfl rfl (ev_sliceL rfl rfl (by first | omega | (simp; done) | (simp; omega)) (by first | omega | (simp; done) | (simp; omega))) ?_
        refine RS_m retB_noPanic rfl rfl rfl rfl (ev_move rfl) ?_
        refine RS_m retB_noPanic rfl rfl rfl rfl (ev_move rfl) ?_
        refine RS_q retB_noPanic rfl rfl rfl rfl (ev_sliceL rfl rfl (by first | omega | (simp; done) | (simp; omega)) (by first | omega | (simp; done) | (simp; omega))) ?_
        refine RS_e (RE_last (by kernel_rfl) rfl rfl rfl (eff_copy (k := i + 1) rfl rfl (by repeat' first | exact Pick.here | apply Pick.skip | apply Pick.app) (by repeat' first | exact hsrc _ | apply Rc.skip) hone (fun _ => by rw [if_neg (by omega)]; omega) (by omega)) ?_); rintro _ _ ⟨rfl, rfl⟩
        rw [hm2]
        (repeat first | refine G_seq ?_ | refine G_skip ?_ | refine G_endblk ?_ | refine G_block ?_ | refine G_exit rfl ?_)
        refine G_region ?_
        refine GO_q rfl rfl (ev_move rfl) ?_
        refine GO_q rfl rfl (ev_move rfl) ?_
        refine GO_q rfl rfl (ev_sliceL rfl rfl (by first | omega | (simp; done) | (simp; omega)) (by first | omega | (simp; done) | (simp; omega))) ?_
        refine GO_q rfl rfl (ev_move rfl) ?_
        refine GO_eff rfl rfl (eff_copy (k := i) rfl rfl (by repeat' first | exact Pick.here | apply Pick.skip | apply Pick.app) (by repeat' first | exact Rc.blk rfl | assumption | apply Rc.skip | apply Rc.app) (one_take (one_all rfl) _) (fun _ => by rw [if_neg (by omega)]; omega) (by omega)) ?_; rintro _ _ ⟨rfl, rfl⟩
        refine GO_nil ?_
        rw [hm1]
        (repeat first | refine G_seq ?_ | refine G_skip ?_ | refine G_endblk ?_ | refine G_block ?_ | refine G_exit rfl ?_)
        refine G_region ?_
        refine GO_q rfl rfl (ev_move rfl) ?_
        refine GO_q rfl rfl (ev_assign rfl) ?_
        refine GO_nil ?_
        (repeat first | refine G_seq ?_ | refine G_skip ?_ | refine G_endblk ?_ | refine G_block ?_ | refine G_exit rfl ?_)
        refine G_ret (L' := own 24 3 (some ⟨b, 0, none⟩) (l.take i ++ [p] ++ l.drop i).length c (flat (l.take i ++ [p] ++ l.drop i)) :: L) rfl (.tmp rfl .nil) ?_ ⟨some ⟨b, 0, none⟩, c, by rw [hlen]; rfl, fun _ => ⟨b, rfl⟩, rfl⟩
        rw [hlen, hfl]
        have key := put_b (flat l) us [.int .i64 p.id, .int .i64 p.x, .int .i64 p.y] i n hF hu rfl hi
        apply en_pick
        focus ((repeat' first | exact Pick.here | apply Pick.skip | apply Pick.app); done)
        refine en_own .here key ?_
        exact (by (repeat first | exact en_refl | (apply en_blk; focus ((repeat' first | exact Pick.here | apply Pick.skip | apply Pick.app); done); focus rfl) | (apply en_own; focus ((repeat' first | exact Pick.here | apply Pick.skip | apply Pick.app); done); focus rfl) | (apply en_pick; focus ((repeat' first | exact Pick.here | apply Pick.skip | apply Pick.app); done)) | apply en_drop | apply en_app) <;> fail)
/-- slices.Delete of one element -/
theorem Delete_ctr (b n c i : Nat) (l : List Pt) (L : List HP) (h1 : l.length = n) (hn : n ≤ 1000000) (hi : i < n) :
    Ctr Tryz.prog 105 #[.slice (some ⟨b, 0, none⟩) n c, .int .i64 (i : Nat), .int .i64 (i + 1 : Nat)] (own 24 3 (some ⟨b, 0, none⟩) n c (flat l) :: L) fun v L' => Made 24 (l.take i ++ l.drop (i + 1)) L v L' := by
  have hlen : (l.take i ++ l.drop (i + 1)).length = i + (n - (i + 1)) := by simp; omega
  have hfl : flat (l.take i ++ l.drop (i + 1)) = (flat l).take (i * 3) ++ flat (l.drop (i + 1)) := by
    have a1 := flat_take l i
    rw [flat_append, a1]
    rfl
  have hF : (flat l).length = n * 3 := by rw [flat_length, h1]; rfl
  refine Ctr_of (fn := Tryz.f105) (n := 33) Tryz.func105 rfl rfl rfl ?_
  intro g F
  refine G_pure (fun h s => own.facts (s.tail)) ?_
  rintro ⟨f1, f2, f3, f4⟩
  have hbig2 : c ≤ 9223372036854775807 := by unfold maxLen at f3; omega
  have hsrc : ∀ L', Rc (own 24 3 (some ⟨b, 0, none⟩) n c (flat l) :: L') 3 (some ⟨b, (if c = i + 1 then 0 else 0 + (i + 1) * 3), none⟩) (n - (i + 1)) (flat (l.drop (i + 1))) := fun L' => Rd.drop (α := Pt) (Rc.own hF (fun _ => ⟨b, rfl⟩)) (by omega) f2
  (repeat first | refine G_seq ?_ | refine G_skip ?_ | refine G_endblk ?_ | refine G_block ?_ | refine G_exit rfl ?_)
  refine G_region ?_
  refine GO_q rfl rfl (ev_assign rfl) ?_
  refine GO_nil ?_
  (repeat first | refine G_seq ?_ | refine G_skip ?_ | refine G_endblk ?_ | refine G_block ?_ | refine G_exit rfl ?_)
  refine G_region ?_
  refine GO_q rfl rfl (ev_move rfl) ?_
  refine GO_q rfl rfl (ev_move rfl) ?_
  refine GO_q rfl rfl (ev_move rfl) ?_
  refine GO_q rfl rfl (ev_move rfl) ?_
  refine GO_q rfl rfl (ev_len rfl) ?_
  refine GO_q rfl rfl (ev_slice3 rfl rfl rfl rfl (by first | omega | (simp; done) | (simp; omega)) (by first | omega | (simp; done) | (simp; omega)) (by first | omega | (simp; done) | (simp; omega))) ?_
  refine GO_nil ?_
  (repeat first | refine G_seq ?_ | refine G_skip ?_ | refine G_endblk ?_ | refine G_block ?_ | refine G_exit rfl ?_)
  refine G_region ?_
  refine GO_q rfl rfl (ev_move rfl) ?_
  refine GO_q rfl rfl (ev_move rfl) ?_
  refine GO_q rfl rfl (ev_eql rfl rfl) ?_
  refine GO_nil ?_
  (repeat first | refine G_seq ?_ | refine G_skip ?_ | refine G_endblk ?_ | refine G_block ?_ | refine G_exit rfl ?_)
  refine G_cond_f rfl (decide_eq_false (by omega)) ?_
  (repeat first | refine G_seq ?_ | refine G_skip ?_ | refine G_endblk ?_ | refine G_block ?_ | refine G_exit rfl ?_)
  refine G_region ?_
  refine GO_q rfl rfl (ev_move rfl) ?_
  refine GO_q rfl rfl (ev_len rfl) ?_
  refine GO_q rfl rfl (ev_assign rfl) ?_
  refine GO_nil ?_
  (repeat first | refine G_seq ?_ | refine G_skip ?_ | refine G_endblk ?_ | refine G_block ?_ | refine G_exit rfl ?_)
  refine G_drawE 1 (.q 0 (.q 1 (.q 2 (.q 3 (.q 4 (.q 5 (.e 6 (.q 7 .nil)))))))) (by kernel_rfl) (by kernel_rfl) ?_
  refine RS_m retB_noPanic rfl rfl rfl rfl (ev_move rfl) ?_
  refine RS_m retB_noPanic rfl rfl rfl rfl (ev_move rfl) ?_
  refine RS_q retB_noPanic rfl rfl rfl rfl (ev_sliceH rfl rfl (by first | omega | (simp; done) | (simp; omega))) ?_
  refine RS_m retB_noPanic rfl rfl rfl rfl (ev_move rfl) ?_
  refine RS_m retB_noPanic rfl rfl rfl rfl (ev_move rfl) ?_
  refine RS_q retB_noPanic rfl rfl rfl rfl (ev_sliceL rfl rfl (by first | omega | (simp; done) | (simp; omega)) (by first | omega | (simp; done) | (simp; omega))) ?_
  refine RS_e (RE_cmp (by kernel_rfl) rfl rfl rfl (eff_appendR rfl rfl (by repeat' first | exact Pick.here | apply Pick.skip | apply Pick.app) (by repeat' first | exact hsrc _ | apply Rc.skip) (flat_one _) (by omega) (by omega)) ?_); rintro _ _ ⟨rfl, rfl⟩
  refine RS_m retB_noPanic rfl rfl rfl rfl (ev_assign rfl) ?_
  refine RS_nil ?_
  (repeat first | refine G_seq ?_ | refine G_skip ?_ | refine G_endblk ?_ | refine G_block ?_ | refine G_exit rfl ?_)
  refine G_region ?_
  refine GO_q rfl rfl (ev_move rfl) ?_
  refine GO_q rfl rfl (ev_move rfl) ?_
  refine GO_q rfl rfl (ev_len rfl) ?_
  refine GO_q rfl rfl (ev_move rfl) ?_
  refine GO_q rfl rfl (ev_sliceLH rfl rfl rfl (by first | omega | (simp; done) | (simp; omega)) (by first | omega | (simp; done) | (simp; omega))) ?_
  refine GO_eff rfl rfl (eff_clear (k := i + (n - (i + 1))) rfl rfl rfl (by repeat' first | exact Pick.here | apply Pick.skip | apply Pick.app) (fun _ => by rw [if_neg (by omega)]; omega) (by omega) (by omega)) ?_; rintro _ _ ⟨rfl, rfl⟩
  refine GO_nil ?_
  (repeat first | refine G_seq ?_ | refine G_skip ?_ | refine G_endblk ?_ | refine G_block ?_ | refine G_exit rfl ?_)
  refine G_region ?_
  refine GO_q rfl rfl (ev_move rfl) ?_
  refine GO_q rfl rfl (ev_assign rfl) ?_
  refine GO_nil ?_
  (repeat first | refine G_seq ?_ | refine G_skip ?_ | refine G_endblk ?_ | refine G_block ?_ | refine G_exit rfl ?_)
  refine G_ret (L' := own 24 3 (some ⟨b, 0, none⟩) (l.take i ++ l.drop (i + 1)).length c (flat (l.take i ++ l.drop (i + 1))) :: L) rfl (.tmp rfl .nil) ?_ ⟨some ⟨b, 0, none⟩, c, by rw [hlen]; rfl, fun _ => ⟨b, rfl⟩, rfl⟩
  rw [hlen, hfl]
  exact (by (repeat first | exact en_refl | (apply en_blk; focus ((repeat' first | exact Pick.here | apply Pick.skip | apply Pick.app); done); focus rfl) | (apply en_own; focus ((repeat' first | exact Pick.here | apply Pick.skip | apply Pick.app); done); focus rfl) | (apply en_pick; focus ((repeat' first | exact Pick.here | apply Pick.skip | apply Pick.app); done)) | apply en_drop | apply en_app) <;> fail)
/-- slices.Grow of nothing -/
theorem Grow_ctr (k : Nat) (L : List HP) (hk : k ≤ 1000000) :
    Ctr Tryz.prog 144 #[.slice none 0 0, .int .i64 (k : Nat)] L fun v L' => ∃ A c, v = .slice A 0 c ∧ L' = own 24 3 A 0 c [] :: L := by
  refine Ctr_of (fn := Tryz.f144) (n := 27) Tryz.func144 rfl rfl rfl ?_
  intro g F
  (repeat first | refine G_seq ?_ | refine G_skip ?_ | refine G_endblk ?_ | refine G_block ?_ | refine G_exit rfl ?_)
  refine G_region ?_
  refine GO_q rfl rfl (ev_assign rfl) ?_
  refine GO_nil ?_
  (repeat first | refine G_seq ?_ | refine G_skip ?_ | refine G_endblk ?_ | refine G_block ?_ | refine G_exit rfl ?_)
  refine G_region ?_
  refine GO_q rfl rfl (ev_move rfl) ?_
  (first | refine GO_q rfl rfl (ev_lssN (q := 0) rfl rfl) ?_ | refine GO_q rfl rfl (ev_lss rfl rfl) ?_)
  refine GO_nil ?_
  (repeat first | refine G_seq ?_ | refine G_skip ?_ | refine G_endblk ?_ | refine G_block ?_ | refine G_exit rfl ?_)
  refine G_cond_f rfl rfl ?_
  (repeat first | refine G_seq ?_ | refine G_skip ?_ | refine G_endblk ?_ | refine G_block ?_ | refine G_exit rfl ?_)
  refine G_region ?_
  refine GO_q rfl rfl (ev_move rfl) ?_
  refine GO_q rfl rfl (ev_move rfl) ?_
  refine GO_q rfl rfl (ev_cap rfl) ?_
  refine GO_q rfl rfl (ev_move rfl) ?_
  refine GO_q rfl rfl (ev_len rfl) ?_
  (first | refine GO_q rfl rfl (ev_subN rfl rfl (by first | omega | (simp; done) | (simp; omega))) ?_ | refine GO_q rfl rfl (ev_sub rfl rfl (by first | omega | (simp; done) | (simp; omega))) ?_)
  (first | refine GO_q rfl rfl (ev_subN rfl rfl (by first | omega | (simp; done) | (simp; omega))) ?_ | refine GO_q rfl rfl (ev_sub rfl rfl (by first | omega | (simp; done) | (simp; omega))) ?_)
  refine GO_q rfl rfl (ev_assign rfl) ?_
  refine GO_nil ?_
  (repeat first | refine G_seq ?_ | refine G_skip ?_ | refine G_endblk ?_ | refine G_block ?_ | refine G_exit rfl ?_)
  refine G_region ?_
  refine GO_q rfl rfl (ev_move rfl) ?_
  refine GO_q rfl rfl (ev_gtr rfl rfl) ?_
  refine GO_nil ?_
  by_cases h0 : k = 0
  · subst h0
    (repeat first | refine G_seq ?_ | refine G_skip ?_ | refine G_endblk ?_ | refine G_block ?_ | refine G_exit rfl ?_)
    refine G_cond_f rfl rfl ?_
    (repeat first | refine G_seq ?_ | refine G_skip ?_ | refine G_endblk ?_ | refine G_block ?_ | refine G_exit rfl ?_)
    refine G_region ?_
    refine GO_q rfl rfl (ev_move rfl) ?_
    refine GO_q rfl rfl (ev_assign rfl) ?_
    refine GO_nil ?_
    (repeat first | refine G_seq ?_ | refine G_skip ?_ | refine G_endblk ?_ | refine G_block ?_ | refine G_exit rfl ?_)
    refine G_ret (L' := own 24 3 none 0 0 [] :: L) rfl (.tmp rfl .nil) ?_ ⟨none, 0, rfl, rfl⟩
    exact fun h s => (own.nil_ 24 3 h s).swap
  · (repeat first | refine G_seq ?_ | refine G_skip ?_ | refine G_endblk ?_ | refine G_block ?_ | refine G_exit rfl ?_)
    refine G_cond_t rfl (by simp; omega) ?_
    (repeat first | refine G_seq ?_ | refine G_skip ?_ | refine G_endblk ?_ | refine G_block ?_ | refine G_exit rfl ?_)
    refine G_region ?_
    refine GO_q rfl rfl (ev_move rfl) ?_
    refine GO_q rfl rfl (ev_move rfl) ?_
    refine GO_q rfl rfl (ev_cap rfl) ?_
    refine GO_q rfl rfl (ev_sliceH rfl rfl (by first | omega | (simp; done) | (simp; omega))) ?_
    refine GO_q rfl rfl (ev_move rfl) ?_
    refine GO_eff rfl rfl (eff_appendZ0 rfl (by omega) rfl rfl (by omega) (by omega) (by omega)) ?_; rintro _ _ ⟨b22, c22, us, rfl, hu, hc22, hm22, rfl⟩
    refine GO_q rfl rfl (ev_move rfl) ?_
    refine GO_q rfl rfl (ev_len rfl) ?_
    refine GO_q rfl rfl (ev_sliceH rfl rfl (by first | omega | (simp; done) | (simp; omega))) ?_
    refine GO_q rfl rfl (ev_assign rfl) ?_
    refine GO_nil ?_
    (repeat first | refine G_seq ?_ | refine G_skip ?_ | refine G_endblk ?_ | refine G_block ?_ | refine G_exit rfl ?_)
    refine G_region ?_
    refine GO_q rfl rfl (ev_move rfl) ?_
    refine GO_q rfl rfl (ev_assign rfl) ?_
    refine GO_nil ?_
    (repeat first | refine G_seq ?_ | refine G_skip ?_ | refine G_endblk ?_ | refine G_block ?_ | refine G_exit rfl ?_)
    refine G_ret (L' := own 24 3 (some ⟨b22, 0, none⟩) 0 c22 [] :: L) rfl (.tmp rfl .nil) ?_ ⟨some ⟨b22, 0, none⟩, c22, rfl, rfl⟩
    apply en_pick
    focus ((repeat' first | exact Pick.here | apply Pick.skip | apply Pick.app); done)
    exact en_less .here (Nat.zero_le _) (by simp) en_refl
theorem seek_ctr (f : FuncId) [CalT Tryz.prog f] (c1 c2 : List Value) (p : Pt → Bool) (A : Option Addr) (n c k : Nat) (l : List Pt) (L : List HP) (hl : Rd L A n l) (hn : n ≤ 1000000) (hk : k ≤ n) (hp : ∀ (j : Nat) (a : Pt), l[j]? = some a → (p a = true ↔ k ≤ j))
    (hf : ∀ a : Pt, Ctr Tryz.prog f (c1 ++ [a.v] ++ c2).toArray L fun v L' => v = .bool (p a) ∧ L' = L) :
    Ctr Tryz.prog 128 #[.slice A n c, .func (.func f) c1.toArray c2.toArray] L fun v L' => v = .int .i64 (k : Nat) ∧ L' = L := by
  have h1 : l.length = n := hl.len (by decide)
  refine Ctr_of (fn := Tryz.f128) (n := 29) Tryz.func128 rfl rfl rfl ?_
  intro g F
  (repeat first | refine G_seq ?_ | refine G_skip ?_ | refine G_endblk ?_ | refine G_block ?_ | refine G_exit rfl ?_)
  refine G_region ?_
  refine GO_q rfl rfl (ev_assign rfl) ?_
  refine GO_nil ?_
  (repeat first | refine G_seq ?_ | refine G_skip ?_ | refine G_endblk ?_ | refine G_block ?_ | refine G_exit rfl ?_)
  refine G_region ?_
  refine GO_q rfl rfl (ev_move rfl) ?_
  refine GO_q rfl rfl (ev_len rfl) ?_
  refine GO_q rfl rfl (ev_assign rfl) ?_
  refine GO_q rfl rfl (ev_assign rfl) ?_
  refine GO_nil ?_
  (repeat first | refine G_seq ?_ | refine G_skip ?_ | refine G_endblk ?_ | refine G_block ?_ | refine G_exit rfl ?_)
  refine G_loop (ι := Nat × Nat) (fun x => [(0, .slice A n c), (1, .func (.func f) c1.toArray c2.toArray), (5, .int .i64 (x.1 : Nat)), (6, .int .i64 (x.2 : Nat))]) (fun _ => F :: L) (fun x => x.1 ≤ k ∧ k ≤ x.2 ∧ x.2 ≤ n) (fun x => x.2 - x.1) (0, n) ⟨Nat.zero_le _, hk, Nat.le_refl _⟩ ⟨rfl, rfl, rfl, rfl, trivial⟩ (by (repeat first | exact fun _ s => s | apply en_keep | apply en_drop | apply en_app) <;> fail) ?_
  rintro ⟨lo, hi⟩ ⟨f1, f2, f3⟩
  simp only at f1 f2 f3
  dsimp only
  (repeat first | refine G_seq ?_ | refine G_skip ?_ | refine G_endblk ?_ | refine G_block ?_ | refine G_exit rfl ?_)
  refine G_region ?_
  refine GO_q rfl rfl (ev_move rfl) ?_
  refine GO_q rfl rfl (ev_move rfl) ?_
  (first | refine GO_q rfl rfl (ev_lssN rfl rfl) ?_ | refine GO_q rfl rfl (ev_lss rfl rfl) ?_)
  refine GO_nil ?_
  (repeat first | refine G_seq ?_ | refine G_skip ?_ | refine G_endblk ?_ | refine G_block ?_ | refine G_exit rfl ?_)
  refine G_cond rfl (fun h4 => ?_) (fun h4 => ?_)
  · obtain ⟨b1, o1, rfl, x1⟩ := hl.at_ (by omega)
    have hmid : lo + (hi - lo) / 2 < hi := by omega
    have g1 : l[lo + (hi - lo) / 2]? = some l[lo + (hi - lo) / 2] := List.getElem?_eq_getElem (by omega)
    have y1 := x1 _ _ g1
    have hpu := hp _ _ g1
    generalize l[lo + (hi - lo) / 2] = u at *
    (repeat first | refine G_seq ?_ | refine G_skip ?_ | refine G_endblk ?_ | refine G_block ?_ | refine G_exit rfl ?_)
    refine G_region ?_
    refine GO_q rfl rfl (ev_move rfl) ?_
    refine GO_q rfl rfl (ev_move rfl) ?_
    refine GO_q rfl rfl (ev_move rfl) ?_
    (first | refine GO_q rfl rfl (ev_subN rfl rfl (by first | omega | (simp; done) | (simp; omega))) ?_ | refine GO_q rfl rfl (ev_sub rfl rfl (by first | omega | (simp; done) | (simp; omega))) ?_)
    (first | refine GO_q rfl rfl (ev_quoN (q := 2) rfl rfl (by first | omega | (simp; done) | (simp; omega)) (by first | omega | (simp; done) | (simp; omega))) ?_ | refine GO_q rfl rfl (ev_quo rfl rfl (by first | omega | (simp; done) | (simp; omega)) (by first | omega | (simp; done) | (simp; omega)) (by first | omega | (simp; done) | (simp; omega))) ?_)
    (first | refine GO_q rfl rfl (ev_addN rfl rfl (by first | omega | (simp; done) | (simp; omega))) ?_ | refine GO_q rfl rfl (ev_add rfl rfl (by first | omega | (simp; done) | (simp; omega))) ?_)
    refine GO_q rfl rfl (ev_assign rfl) ?_
    refine GO_nil ?_
    obtain ⟨m, hm⟩ : ∃ m, lo + (hi - lo) / 2 = m := ⟨_, rfl⟩
    have hlm : lo ≤ m := by omega
    rw [hm] at hmid y1 hpu
    rw [hm]
    have z1 : LdN L b1 (o1 + m * 3) 3 [.int .i64 u.id, .int .i64 u.x, .int .i64 u.y] := y1
    (repeat first | refine G_seq ?_ | refine G_skip ?_ | refine G_endblk ?_ | refine G_block ?_ | refine G_exit rfl ?_)
    refine G_region ?_
    refine GO_q rfl rfl (ev_move rfl) ?_
    refine GO_q rfl rfl (ev_move rfl) ?_
    refine GO_q rfl rfl (ev_move rfl) ?_
    (first | refine GO_q rfl rfl (ev_indexAddrN rfl rfl (by first | omega | (simp; done) | (simp; omega))) ?_ | refine GO_q rfl rfl (ev_indexAddr rfl rfl (by first | omega | (simp; done) | (simp; omega)) (by first | omega | (simp; done) | (simp; omega))) ?_)
    refine GO_q rfl rfl (ev_loadN rfl (by repeat' first | exact LdN.blk rfl | assumption | apply LdN.skip | apply LdN.app)) ?_
    refine GO_eff rfl rfl (eff_callv rfl rfl (Ctr.frame [F] (hf u) en_refl)) ?_; rintro _ _ ⟨_, ⟨rfl, rfl⟩, rfl⟩
    refine GO_nil ?_
    (repeat first | refine G_seq ?_ | refine G_skip ?_ | refine G_endblk ?_ | refine G_block ?_ | refine G_exit rfl ?_)
    refine G_condB rfl (fun h5 => ?_) (fun h5 => ?_)
    · have := hpu.1 h5
      (repeat first | refine G_seq ?_ | refine G_skip ?_ | refine G_endblk ?_ | refine G_block ?_ | refine G_exit rfl ?_)
      refine G_region ?_
      refine GO_q rfl rfl (ev_move rfl) ?_
      refine GO_q rfl rfl (ev_assign rfl) ?_
      refine GO_nil ?_
      (repeat first | refine G_seq ?_ | refine G_skip ?_ | refine G_endblk ?_ | refine G_block ?_ | refine G_exit rfl ?_)
      exact G_round (lo, m) ⟨f1, this, by simp only; omega⟩ (by simp only; omega) ⟨rfl, rfl, rfl, rfl, trivial⟩ (by (repeat first | exact fun _ s => s | apply en_keep | apply en_drop | apply en_app) <;> fail)
    · have : ¬ k ≤ m := fun h => by rw [hpu.2 h] at h5; cases h5
      (repeat first | refine G_seq ?_ | refine G_skip ?_ | refine G_endblk ?_ | refine G_block ?_ | refine G_exit rfl ?_)
      refine G_region ?_
      refine GO_q rfl rfl (ev_move rfl) ?_
      (first | refine GO_q rfl rfl (ev_addN (q := 1) rfl rfl (by first | omega | (simp; done) | (simp; omega))) ?_ | refine GO_q rfl rfl (ev_add rfl rfl (by first | omega | (simp; done) | (simp; omega))) ?_)
      refine GO_q rfl rfl (ev_assign rfl) ?_
      refine GO_nil ?_
      (repeat first | refine G_seq ?_ | refine G_skip ?_ | refine G_endblk ?_ | refine G_block ?_ | refine G_exit rfl ?_)
      exact G_round (m + 1, hi) ⟨by simp only; omega, f2, f3⟩ (by simp only; omega) ⟨rfl, rfl, rfl, rfl, trivial⟩ (by (repeat first | exact fun _ s => s | apply en_keep | apply en_drop | apply en_app) <;> fail)
  · have e : lo = k := by omega
    subst e
    (repeat first | refine G_seq ?_ | refine G_skip ?_ | refine G_endblk ?_ | refine G_block ?_ | refine G_exit rfl ?_)
    refine G_region ?_
    refine GO_q rfl rfl (ev_move rfl) ?_
    refine GO_q rfl rfl (ev_assign rfl) ?_
    refine GO_nil ?_
    (repeat first | refine G_seq ?_ | refine G_skip ?_ | refine G_endblk ?_ | refine G_block ?_ | refine G_exit rfl ?_)
    refine G_ret rfl (.tmp rfl .nil) (by (repeat first | exact fun _ s => s | apply en_keep | apply en_drop | apply en_app) <;> fail) ⟨rfl, rfl⟩
end Go.Proofs.YtjnmpogolknkpaaGreat
/- Lists in order, by any order that has no equal ones: the walks (out of master/so.master). -/
namespace Go.Proofs.YtjnmpogolknkpaaGreat
attribute [local irreducible] sat
set_option linter.unusedVariables false
set_option linter.unusedSimpArgs false
set_option maxRecDepth 100000

/-- A function that tells of an order. -/
structure LsT (f : FuncId) (ls : Pt → Pt → Bool) : Prop where
  ctr : ∀ (p q : Pt) (L : List HP), Ctr Tryz.prog f #[p.v, q.v] L fun v L' => v = .bool (ls p q) ∧ L' = L
theorem ld_ownP {b n c i : Nat} {T : TypeId} {l : List Pt} {x : Pt} (hn : l.length = n) (h : l[i]? = some x) (L : List HP) : LdN (own T 3 (some ⟨b, 0, none⟩) n c (flat l) :: L) b (0 + i * 3) 3 [.int .i64 x.id, .int .i64 x.x, .int .i64 x.y] := by
  have hlt : i < l.length := (List.getElem?_eq_some_iff.1 h).1
  have r : Rd (own T 3 (some ⟨b, 0, none⟩) n c (flat l) :: L) (some ⟨b, 0, none⟩) n l := Rc.own (by rw [flat_length, hn]; rfl) (fun _ => ⟨b, rfl⟩)
  obtain ⟨_, _, e, hx⟩ := r.at_ (by omega)
  cases e
  exact hx i x h
theorem by_swapP {A R : List Pt} {x p : Pt} {k : Nat} (hk : k = A.length + 1) : ((A ++ p :: x :: R).set k p).set (k - 1) x = A ++ x :: p :: R ∧ (A ++ p :: x :: R)[k]? = some x ∧ (A ++ p :: x :: R)[k - 1]? = some p := by
  subst hk
  refine ⟨?_, ?_, ?_⟩
  · simp [List.set_append]
  · simp [List.getElem?_append]
  · simp
theorem setN_pt (l : List Pt) (i : Nat) (a : Pt) (hi : i < l.length) : setN (flat l) (0 + i * 3) [.int .i64 a.id, .int .i64 a.x, .int .i64 a.y] = flat (l.set i a) := by
  rw [Nat.zero_add]; exact flat_setN l i a hi
section
variable {f : FuncId} [CalT Tryz.prog f] {ls : Pt → Pt → Bool} (o : STO ls) (hf : LsT f ls)
include o hf
theorem byO_ctr (A : Option Addr) (n c : Nat) (l : List Pt) (L : List HP) (hl : Rd L A n l) (hn : n ≤ 1000000) :
    Ctr Tryz.prog 145 #[.slice A n c, .func (.func f) #[] #[]] L fun v L' => Made 24 (srtO ls l) L v L' := by
  have h1 : l.length = n := hl.len (by decide)
  refine Ctr_of (fn := Tryz.f145) (n := 51) Tryz.func145 rfl rfl rfl ?_
  intro g F
  (repeat first | refine G_seq ?_ | refine G_skip ?_ | refine G_endblk ?_ | refine G_block ?_ | refine G_exit rfl ?_)
  refine G_region ?_
  refine GO_q rfl rfl (ev_assign rfl) ?_
  refine GO_nil ?_
  (repeat first | refine G_seq ?_ | refine G_skip ?_ | refine G_endblk ?_ | refine G_block ?_ | refine G_exit rfl ?_)
  refine G_region ?_
  refine GO_q rfl rfl (ev_move rfl) ?_
  refine GO_eff rfl rfl (eff_call rfl (Clone_ctr A n c l _ (by repeat' first | exact Rc.blk rfl | assumption | apply Rd.skip | apply Rd.app) hn)) ?_; rintro _ _ ⟨B, e, rfl, hB, rfl⟩
  refine GO_q rfl rfl (ev_assign rfl) ?_
  refine GO_nil ?_
  (repeat first | refine G_seq ?_ | refine G_skip ?_ | refine G_endblk ?_ | refine G_block ?_ | refine G_exit rfl ?_)
  refine G_region ?_
  refine GO_q rfl rfl (ev_move rfl) ?_
  refine GO_q rfl rfl (ev_len rfl) ?_
  refine GO_q rfl rfl (ev_move rfl) ?_
  refine GO_nil ?_
  (repeat first | refine G_seq ?_ | refine G_skip ?_ | refine G_endblk ?_ | refine G_block ?_ | refine G_exit rfl ?_)
  refine G_loop (ι := Nat × List Pt) (fun z => [(1, .func (.func f) #[] #[]), (5, .slice B n e), (11, .int .i64 (n : Nat)), (12, .int .i64 (z.1 : Nat))]) (fun z => own 24 3 B n e (flat z.2) :: F :: L) (fun z => z.1 ≤ n ∧ z.2.Perm l ∧ SrtO ls (z.2.take z.1)) (fun z => n - z.1) (0, l) ⟨Nat.zero_le _, .refl _, by simp [SrtO]⟩ ⟨rfl, by rw [← h1]; rfl, by rw [← h1]; rfl, rfl, trivial⟩ (by rw [← h1]; exact (by (repeat first | exact en_refl | (apply en_blk; focus ((repeat' first | exact Pick.here | apply Pick.skip | apply Pick.app); done); focus rfl) | (apply en_own; focus ((repeat' first | exact Pick.here | apply Pick.skip | apply Pick.app); done); focus rfl) | (apply en_pick; focus ((repeat' first | exact Pick.here | apply Pick.skip | apply Pick.app); done)) | apply en_drop | apply en_app) <;> fail)) ?_
  rintro ⟨i, m⟩ ⟨f1, f2, f3⟩
  simp only at f1 f2 f3
  dsimp only
  have hm : m.length = n := by rw [f2.length_eq, h1]
  (repeat first | refine G_seq ?_ | refine G_skip ?_ | refine G_endblk ?_ | refine G_block ?_ | refine G_exit rfl ?_)
  refine G_region ?_
  (first | refine GO_q rfl rfl (ev_lssN rfl rfl) ?_ | refine GO_q rfl rfl (ev_lss rfl rfl) ?_)
  refine GO_nil ?_
  (repeat first | refine G_seq ?_ | refine G_skip ?_ | refine G_endblk ?_ | refine G_block ?_ | refine G_exit rfl ?_)
  refine G_cond rfl (fun c1 => ?_) (fun c1 => ?_)
  · (repeat first | refine G_seq ?_ | refine G_skip ?_ | refine G_endblk ?_ | refine G_block ?_ | refine G_exit rfl ?_)
    refine G_region ?_
    refine GO_q rfl rfl (ev_move rfl) ?_
    refine GO_q rfl rfl (ev_assign rfl) ?_
    refine GO_nil ?_
    (repeat first | refine G_seq ?_ | refine G_skip ?_ | refine G_endblk ?_ | refine G_block ?_ | refine G_exit rfl ?_)
    refine G_region ?_
    refine GO_q rfl rfl (ev_move rfl) ?_
    refine GO_q rfl rfl (ev_assign rfl) ?_
    refine GO_nil ?_
    have hxi : m[i]? = some m[i] := List.getElem?_eq_getElem (by omega)
    have hsp : m = m.take i ++ m[i] :: m.drop (i + 1) := by
      conv => lhs; rw [← List.take_append_drop i m, List.drop_eq_getElem_cons (by omega)]
    have hPl : (m.take i).length = i := by rw [List.length_take]; omega
    obtain ⟨b, rfl⟩ := hB (by omega)
    generalize m[i] = x at *
    generalize m.take i = P at *
    generalize m.drop (i + 1) = D at *
    (repeat first | refine G_seq ?_ | refine G_skip ?_ | refine G_endblk ?_ | refine G_block ?_ | refine G_exit rfl ?_)
    refine G_loop (ι := Nat) (fun k => [(1, .func (.func f) #[] #[]), (5, .slice (some ⟨b, 0, none⟩) n e), (11, .int .i64 (n : Nat)), (12, .int .i64 (i : Nat)), (7, .int .i64 (k : Nat))]) (fun k => own 24 3 (some ⟨b, 0, none⟩) n e (flat (P.take k ++ x :: (P.drop k ++ D))) :: F :: L) (fun k => k ≤ i ∧ ∀ y ∈ P.drop k, ls x y = true) (fun k => k) i ⟨Nat.le_refl _, by rw [List.drop_of_length_le (by omega)]; simp⟩ ⟨rfl, rfl, rfl, rfl, rfl, trivial⟩ (by rw [List.take_of_length_le (by omega), List.drop_of_length_le (by omega), List.nil_append, ← hsp]; exact fun _ s => s) ?_
    rintro k ⟨q1, q2⟩
    by_cases c2 : 0 < k
    · have hg : P[k - 1]? = some P[k - 1] := List.getElem?_eq_getElem (by omega)
      have e1 : P.take k = P.take (k - 1) ++ [P[k - 1]] := by
        have := List.take_succ_eq_append_getElem (l := P) (i := k - 1) (by omega)
        rwa [show k - 1 + 1 = k by omega] at this
      have e2 : P.drop (k - 1) = P[k - 1] :: P.drop k := by
        have := List.drop_eq_getElem_cons (l := P) (i := k - 1) (by omega)
        rwa [show k - 1 + 1 = k by omega] at this
      have hAl : (P.take (k - 1)).length = k - 1 := by rw [List.length_take]; omega
      have hlen : (P.take k ++ x :: (P.drop k ++ D)).length = n := by
        rw [← hm, hsp]; simp; omega
      generalize P[k - 1] = p at *
      obtain ⟨s1, s2, s3⟩ := by_swapP (A := P.take (k - 1)) (R := P.drop k ++ D) (x := x) (p := p) (k := k) (by omega)
      have e3 : P.take k ++ x :: (P.drop k ++ D) = P.take (k - 1) ++ p :: x :: (P.drop k ++ D) := by rw [e1]; simp
      have e4 : P.take (k - 1) ++ x :: (P.drop (k - 1) ++ D) = P.take (k - 1) ++ x :: p :: (P.drop k ++ D) := by rw [e2]; simp
      rw [← e3] at s1 s2 s3
      cases c3 : ls x p with
      | true =>
        (repeat first | refine G_seq ?_ | refine G_skip ?_ | refine G_endblk ?_ | refine G_block ?_ | refine G_exit rfl ?_)
        refine G_draw (.q 0 (.q 1 (.q 2 (.q 3 (.q 4 (.q 5 (.q 6 (.q 7 (.q 8 (.q 9 (.q 10 (.q 11 (.q 12 (.e 13 (.q 14 .nil))))))))))))))) (by kernel_rfl) (by kernel_rfl) ?_
        refine RS_m retB_noPanic rfl rfl rfl rfl (ev_move rfl) ?_
        refine RS_m retB_noPanic rfl rfl rfl rfl (ev_gtr rfl rfl) ?_
        refine RS_m retB_noPanic rfl rfl rfl rfl (ev_move rfl) ?_
        refine RS_m_yes retB_noPanic rfl rfl rfl rfl ⟨_, rfl, (decide_eq_true (by omega))⟩ rfl (ev_move rfl) ?_
        refine RS_m_yes retB_noPanic rfl rfl rfl rfl ⟨_, rfl, (decide_eq_true (by omega))⟩ rfl (ev_move rfl) ?_
        refine RS_m_yes retB_noPanic rfl rfl rfl rfl ⟨_, rfl, (decide_eq_true (by omega))⟩ rfl (ev_move rfl) ?_
        (first | refine RS_m_yes retB_noPanic rfl rfl rfl rfl ⟨_, rfl, (decide_eq_true (by omega))⟩ rfl (ev_indexAddrN rfl rfl (by first | omega | (simp; done) | (simp; omega))) ?_ | refine RS_m_yes retB_noPanic rfl rfl rfl rfl ⟨_, rfl, (decide_eq_true (by omega))⟩ rfl (ev_indexAddr rfl rfl (by first | omega | (simp; done) | (simp; omega)) (by first | omega | (simp; done) | (simp; omega))) ?_)
        refine RS_q_yes retB_noPanic rfl rfl rfl rfl ⟨_, rfl, (decide_eq_true (by omega))⟩ rfl (ev_loadN rfl (by repeat' first | exact ld_ownP hlen s2 _ | apply LdN.skip)) ?_
        refine RS_m_yes retB_noPanic rfl rfl rfl rfl ⟨_, rfl, (decide_eq_true (by omega))⟩ rfl (ev_move rfl) ?_
        refine RS_m_yes retB_noPanic rfl rfl rfl rfl ⟨_, rfl, (decide_eq_true (by omega))⟩ rfl (ev_move rfl) ?_
        (first | refine RS_m_yes retB_noPanic rfl rfl rfl rfl ⟨_, rfl, (decide_eq_true (by omega))⟩ rfl (ev_subN (q := 1) rfl rfl (by first | omega | (simp; done) | (simp; omega))) ?_ | refine RS_m_yes retB_noPanic rfl rfl rfl rfl ⟨_, rfl, (decide_eq_true (by omega))⟩ rfl (ev_sub rfl rfl (by first | omega | (simp; done) | (simp; omega))) ?_)
        (first | refine RS_m_yes retB_noPanic rfl rfl rfl rfl ⟨_, rfl, (decide_eq_true (by omega))⟩ rfl (ev_indexAddrN rfl rfl (by first | omega | (simp; done) | (simp; omega))) ?_ | refine RS_m_yes retB_noPanic rfl rfl rfl rfl ⟨_, rfl, (decide_eq_true (by omega))⟩ rfl (ev_indexAddr rfl rfl (by first | omega | (simp; done) | (simp; omega)) (by first | omega | (simp; done) | (simp; omega))) ?_)
        refine RS_q_yes retB_noPanic rfl rfl rfl rfl ⟨_, rfl, (decide_eq_true (by omega))⟩ rfl (ev_loadN rfl (by repeat' first | exact ld_ownP hlen s3 _ | apply LdN.skip)) ?_
        refine RS_e (RE_eff_yes rfl rfl rfl ⟨_, rfl, (decide_eq_true (by omega))⟩ rfl (eff_callv rfl rfl (hf.ctr x p _)) ?_); rintro _ _ ⟨rfl, rfl⟩; refine ⟨_, fun _ s => s, (by first | ((repeat first | exact fun _ s => s | apply en_keep | apply en_drop | apply en_app) <;> fail) | ((repeat first | exact en_refl | (apply en_blk; focus ((repeat' first | exact Pick.here | apply Pick.skip | apply Pick.app); done); focus rfl) | (apply en_own; focus ((repeat' first | exact Pick.here | apply Pick.skip | apply Pick.app); done); focus rfl) | (apply en_pick; focus ((repeat' first | exact Pick.here | apply Pick.skip | apply Pick.app); done)) | apply en_drop | apply en_app) <;> fail)), ?_⟩
        refine RS_m retB_noPanic rfl rfl rfl rfl (ev_pick_t rfl (decide_eq_true (by omega)) rfl) ?_
        refine RS_nil ?_
        (repeat first | refine G_seq ?_ | refine G_skip ?_ | refine G_endblk ?_ | refine G_block ?_ | refine G_exit rfl ?_)
        refine G_cond_t rfl c3 ?_
        (repeat first | refine G_seq ?_ | refine G_skip ?_ | refine G_endblk ?_ | refine G_block ?_ | refine G_exit rfl ?_)
        refine G_draw (.q 0 (.q 1 (.q 2 (.q 3 (.q 4 (.q 5 (.q 6 (.q 7 (.q 8 (.q 9 (.q 10 (.q 11 (.q 12 (.q 13 (.q 14 (.e 15 (.q 16 (.e 17 .nil)))))))))))))))))) (by kernel_rfl) (by kernel_rfl) ?_
        refine RS_m retB_noPanic rfl rfl rfl rfl (ev_move rfl) ?_
        refine RS_m retB_noPanic rfl rfl rfl rfl (ev_move rfl) ?_
        refine RS_m retB_noPanic rfl rfl rfl rfl (ev_move rfl) ?_
        refine RS_m retB_noPanic rfl rfl rfl rfl (ev_move rfl) ?_
        (first | refine RS_m retB_noPanic rfl rfl rfl rfl (ev_subN (q := 1) rfl rfl (by first | omega | (simp; done) | (simp; omega))) ?_ | refine RS_m retB_noPanic rfl rfl rfl rfl (ev_sub rfl rfl (by first | omega | (simp; done) | (simp; omega))) ?_)
        refine RS_m retB_noPanic rfl rfl rfl rfl (ev_move rfl) ?_
        refine RS_m retB_noPanic rfl rfl rfl rfl (ev_move rfl) ?_
        (first | refine RS_m retB_noPanic rfl rfl rfl rfl (ev_subN (q := 1) rfl rfl (by first | omega | (simp; done) | (simp; omega))) ?_ | refine RS_m retB_noPanic rfl rfl rfl rfl (ev_sub rfl rfl (by first | omega | (simp; done) | (simp; omega))) ?_)
        (first | refine RS_m retB_noPanic rfl rfl rfl rfl (ev_indexAddrN rfl rfl (by first | omega | (simp; done) | (simp; omega))) ?_ | refine RS_m retB_noPanic rfl rfl rfl rfl (ev_indexAddr rfl rfl (by first | omega | (simp; done) | (simp; omega)) (by first | omega | (simp; done) | (simp; omega))) ?_)
        refine RS_q retB_noPanic rfl rfl rfl rfl (ev_loadN rfl (by repeat' first | exact ld_ownP hlen s3 _ | apply LdN.skip)) ?_
        refine RS_m retB_noPanic rfl rfl rfl rfl (ev_move rfl) ?_
        refine RS_m retB_noPanic rfl rfl rfl rfl (ev_move rfl) ?_
        (first | refine RS_m retB_noPanic rfl rfl rfl rfl (ev_indexAddrN rfl rfl (by first | omega | (simp; done) | (simp; omega))) ?_ | refine RS_m retB_noPanic rfl rfl rfl rfl (ev_indexAddr rfl rfl (by first | omega | (simp; done) | (simp; omega)) (by first | omega | (simp; done) | (simp; omega))) ?_)
        refine RS_q retB_noPanic rfl rfl rfl rfl (ev_loadN rfl (by repeat' first | exact ld_ownP hlen s2 _ | apply LdN.skip)) ?_
        (first | refine RS_m retB_noPanic rfl rfl rfl rfl (ev_indexAddrN rfl rfl (by first | omega | (simp; done) | (simp; omega))) ?_ | refine RS_m retB_noPanic rfl rfl rfl rfl (ev_indexAddr rfl rfl (by first | omega | (simp; done) | (simp; omega)) (by first | omega | (simp; done) | (simp; omega))) ?_)
        refine RS_e (RE_cmp (by kernel_rfl) rfl rfl rfl ((eff_storeNO (vs := [.int .i64 p.id, .int .i64 p.x, .int .i64 p.y]) rfl rfl rfl rfl (by repeat' first | exact Pick.here | apply Pick.skip | apply Pick.app) (by simp only [List.length_cons, List.length_nil]; omega))) ?_); rintro _ _ ⟨rfl, rfl⟩
        (first | refine RS_m retB_noPanic rfl rfl rfl rfl (ev_indexAddrN rfl rfl (by first | omega | (simp; done) | (simp; omega))) ?_ | refine RS_m retB_noPanic rfl rfl rfl rfl (ev_indexAddr rfl rfl (by first | omega | (simp; done) | (simp; omega)) (by first | omega | (simp; done) | (simp; omega))) ?_)
        refine RS_e (RE_last (by kernel_rfl) rfl rfl rfl ((eff_storeNO (vs := [.int .i64 x.id, .int .i64 x.x, .int .i64 x.y]) rfl rfl rfl rfl (by repeat' first | exact Pick.here | apply Pick.skip | apply Pick.app) (by simp only [List.length_cons, List.length_nil]; omega))) ?_); rintro _ _ ⟨rfl, rfl⟩
        rw [setN_pt _ _ _ (by omega), setN_pt _ _ _ (by rw [List.length_set]; omega), s1, ← e4]
        (repeat first | refine G_seq ?_ | refine G_skip ?_ | refine G_endblk ?_ | refine G_block ?_ | refine G_exit rfl ?_)
        refine G_region ?_
        refine GO_q rfl rfl (ev_move rfl) ?_
        (first | refine GO_q rfl rfl (ev_subN (q := 1) rfl rfl (by first | omega | (simp; done) | (simp; omega))) ?_ | refine GO_q rfl rfl (ev_sub rfl rfl (by first | omega | (simp; done) | (simp; omega))) ?_)
        refine GO_q rfl rfl (ev_assign rfl) ?_
        refine GO_nil ?_
        (repeat first | refine G_seq ?_ | refine G_skip ?_ | refine G_endblk ?_ | refine G_block ?_ | refine G_exit rfl ?_)
        exact G_round (k - 1) ⟨by omega, by rw [e2]; exact fun y hy => (List.mem_cons.1 hy).elim (fun h => h ▸ c3) (q2 y)⟩ (by omega) ⟨rfl, rfl, rfl, rfl, rfl, trivial⟩ (fun _ s => s)
      | false =>
        (repeat first | refine G_seq ?_ | refine G_skip ?_ | refine G_endblk ?_ | refine G_block ?_ | refine G_exit rfl ?_)
        refine G_draw (.q 0 (.q 1 (.q 2 (.q 3 (.q 4 (.q 5 (.q 6 (.q 7 (.q 8 (.q 9 (.q 10 (.q 11 (.q 12 (.e 13 (.q 14 .nil))))))))))))))) (by kernel_rfl) (by kernel_rfl) ?_
        refine RS_m retB_noPanic rfl rfl rfl rfl (ev_move rfl) ?_
        refine RS_m retB_noPanic rfl rfl rfl rfl (ev_gtr rfl rfl) ?_
        refine RS_m retB_noPanic rfl rfl rfl rfl (ev_move rfl) ?_
        refine RS_m_yes retB_noPanic rfl rfl rfl rfl ⟨_, rfl, (decide_eq_true (by omega))⟩ rfl (ev_move rfl) ?_
        refine RS_m_yes retB_noPanic rfl rfl rfl rfl ⟨_, rfl, (decide_eq_true (by omega))⟩ rfl (ev_move rfl) ?_
        refine RS_m_yes retB_noPanic rfl rfl rfl rfl ⟨_, rfl, (decide_eq_true (by omega))⟩ rfl (ev_move rfl) ?_
        (first | refine RS_m_yes retB_noPanic rfl rfl rfl rfl ⟨_, rfl, (decide_eq_true (by omega))⟩ rfl (ev_indexAddrN rfl rfl (by first | omega | (simp; done) | (simp; omega))) ?_ | refine RS_m_yes retB_noPanic rfl rfl rfl rfl ⟨_, rfl, (decide_eq_true (by omega))⟩ rfl (ev_indexAddr rfl rfl (by first | omega | (simp; done) | (simp; omega)) (by first | omega | (simp; done) | (simp; omega))) ?_)
        refine RS_q_yes retB_noPanic rfl rfl rfl rfl ⟨_, rfl, (decide_eq_true (by omega))⟩ rfl (ev_loadN rfl (by repeat' first | exact ld_ownP hlen s2 _ | apply LdN.skip)) ?_
        refine RS_m_yes retB_noPanic rfl rfl rfl rfl ⟨_, rfl, (decide_eq_true (by omega))⟩ rfl (ev_move rfl) ?_
        refine RS_m_yes retB_noPanic rfl rfl rfl rfl ⟨_, rfl, (decide_eq_true (by omega))⟩ rfl (ev_move rfl) ?_
        (first | refine RS_m_yes retB_noPanic rfl rfl rfl rfl ⟨_, rfl, (decide_eq_true (by omega))⟩ rfl (ev_subN (q := 1) rfl rfl (by first | omega | (simp; done) | (simp; omega))) ?_ | refine RS_m_yes retB_noPanic rfl rfl rfl rfl ⟨_, rfl, (decide_eq_true (by omega))⟩ rfl (ev_sub rfl rfl (by first | omega | (simp; done) | (simp; omega))) ?_)
        (first | refine RS_m_yes retB_noPanic rfl rfl rfl rfl ⟨_, rfl, (decide_eq_true (by omega))⟩ rfl (ev_indexAddrN rfl rfl (by first | omega | (simp; done) | (simp; omega))) ?_ | refine RS_m_yes retB_noPanic rfl rfl rfl rfl ⟨_, rfl, (decide_eq_true (by omega))⟩ rfl (ev_indexAddr rfl rfl (by first | omega | (simp; done) | (simp; omega)) (by first | omega | (simp; done) | (simp; omega))) ?_)
        refine RS_q_yes retB_noPanic rfl rfl rfl rfl ⟨_, rfl, (decide_eq_true (by omega))⟩ rfl (ev_loadN rfl (by repeat' first | exact ld_ownP hlen s3 _ | apply LdN.skip)) ?_
        refine RS_e (RE_eff_yes rfl rfl rfl ⟨_, rfl, (decide_eq_true (by omega))⟩ rfl (eff_callv rfl rfl (hf.ctr x p _)) ?_); rintro _ _ ⟨rfl, rfl⟩; refine ⟨_, fun _ s => s, (by first | ((repeat first | exact fun _ s => s | apply en_keep | apply en_drop | apply en_app) <;> fail) | ((repeat first | exact en_refl | (apply en_blk; focus ((repeat' first | exact Pick.here | apply Pick.skip | apply Pick.app); done); focus rfl) | (apply en_own; focus ((repeat' first | exact Pick.here | apply Pick.skip | apply Pick.app); done); focus rfl) | (apply en_pick; focus ((repeat' first | exact Pick.here | apply Pick.skip | apply Pick.app); done)) | apply en_drop | apply en_app) <;> fail)), ?_⟩
        refine RS_m retB_noPanic rfl rfl rfl rfl (ev_pick_t rfl (decide_eq_true (by omega)) rfl) ?_
        refine RS_nil ?_
        (repeat first | refine G_seq ?_ | refine G_skip ?_ | refine G_endblk ?_ | refine G_block ?_ | refine G_exit rfl ?_)
        refine G_cond_f rfl c3 ?_
        (repeat first | refine G_seq ?_ | refine G_skip ?_ | refine G_endblk ?_ | refine G_block ?_ | refine G_exit rfl ?_)
        refine G_region ?_
        (first | refine GO_q rfl rfl (ev_addN (q := 1) rfl rfl (by first | omega | (simp; done) | (simp; omega))) ?_ | refine GO_q rfl rfl (ev_add rfl rfl (by first | omega | (simp; done) | (simp; omega))) ?_)
        refine GO_q rfl rfl (ev_move rfl) ?_
        refine GO_nil ?_
        (repeat first | refine G_seq ?_ | refine G_skip ?_ | refine G_endblk ?_ | refine G_block ?_ | refine G_exit rfl ?_)
        refine G_round (i + 1, P.take k ++ x :: (P.drop k ++ D)) ⟨by simp only; omega, ?_, ?_⟩ (by simp only; omega) ⟨rfl, rfl, rfl, rfl, trivial⟩ (fun _ s => s)
        · refine List.Perm.trans ?_ f2
          rw [hsp]
          simp only
          refine (List.perm_middle).trans (List.Perm.trans ?_ (List.perm_middle).symm)
          rw [← List.append_assoc, List.take_append_drop]
        · simp only
          have e5 : (P.take k ++ x :: (P.drop k ++ D)).take (i + 1) = P.take k ++ x :: P.drop k := by
            have : P.take k ++ x :: (P.drop k ++ D) = (P.take k ++ x :: P.drop k) ++ D := by simp
            rw [this, List.take_append_of_le_length (by simp; omega), List.take_of_length_le (by simp; omega)]
          rw [e5]
          unfold SrtO at f3 ⊢
          rw [← List.take_append_drop k P, List.pairwise_append] at f3
          rw [List.pairwise_append]
          refine ⟨f3.1, List.pairwise_cons.2 ⟨fun y hy => o.asym (q2 y hy), f3.2.1⟩, ?_⟩
          have hpx : ∀ a ∈ P.take k, ls x a = false := by
            rw [e1]
            intro a ha
            rcases List.mem_append.1 ha with ha | ha
            · have h9 := f3.1
              rw [e1, List.pairwise_append] at h9
              exact o.le_tr (h9.2.2 a ha p (by simp)) c3
            · simp at ha; subst ha; exact c3
          intro a ha y hy
          rcases List.mem_cons.1 hy with rfl | hy
          · exact hpx a ha
          · exact f3.2.2 a ha y hy
    · have e0 : k = 0 := by omega
      subst e0
      (repeat first | refine G_seq ?_ | refine G_skip ?_ | refine G_endblk ?_ | refine G_block ?_ | refine G_exit rfl ?_)
      refine G_draw (.q 0 (.q 1 (.q 2 (.q 3 (.q 4 (.q 5 (.q 6 (.q 7 (.q 8 (.q 9 (.q 10 (.q 11 (.q 12 (.e 13 (.q 14 .nil))))))))))))))) (by kernel_rfl) (by kernel_rfl) ?_
      refine RS_m retB_noPanic rfl rfl rfl rfl (ev_move rfl) ?_
      refine RS_m retB_noPanic rfl rfl rfl rfl (ev_gtr rfl rfl) ?_
      refine RS_m retB_noPanic rfl rfl rfl rfl (ev_move rfl) ?_
      refine RS_q_no retB_noPanic rfl rfl rfl ⟨_, rfl, (decide_eq_false (by omega))⟩ rfl ?_
      refine RS_q_no retB_noPanic rfl rfl rfl ⟨_, rfl, (decide_eq_false (by omega))⟩ rfl ?_
      refine RS_q_no retB_noPanic rfl rfl rfl ⟨_, rfl, (decide_eq_false (by omega))⟩ rfl ?_
      refine RS_q_no retB_noPanic rfl rfl rfl ⟨_, rfl, (decide_eq_false (by omega))⟩ rfl ?_
      refine RS_q_no retB_noPanic rfl rfl rfl ⟨_, rfl, (decide_eq_false (by omega))⟩ rfl ?_
      refine RS_q_no retB_noPanic rfl rfl rfl ⟨_, rfl, (decide_eq_false (by omega))⟩ rfl ?_
      refine RS_q_no retB_noPanic rfl rfl rfl ⟨_, rfl, (decide_eq_false (by omega))⟩ rfl ?_
      refine RS_q_no retB_noPanic rfl rfl rfl ⟨_, rfl, (decide_eq_false (by omega))⟩ rfl ?_
      refine RS_q_no retB_noPanic rfl rfl rfl ⟨_, rfl, (decide_eq_false (by omega))⟩ rfl ?_
      refine RS_q_no retB_noPanic rfl rfl rfl ⟨_, rfl, (decide_eq_false (by omega))⟩ rfl ?_
      refine RS_e (RE_no rfl rfl rfl ⟨_, rfl, (decide_eq_false (by omega))⟩ rfl ?_)
      refine RS_m retB_noPanic rfl rfl rfl rfl (ev_pick_f rfl (decide_eq_false (by omega)) rfl) ?_
      refine RS_nil ?_
      (repeat first | refine G_seq ?_ | refine G_skip ?_ | refine G_endblk ?_ | refine G_block ?_ | refine G_exit rfl ?_)
      refine G_cond_f rfl rfl ?_
      (repeat first | refine G_seq ?_ | refine G_skip ?_ | refine G_endblk ?_ | refine G_block ?_ | refine G_exit rfl ?_)
      refine G_region ?_
      (first | refine GO_q rfl rfl (ev_addN (q := 1) rfl rfl (by first | omega | (simp; done) | (simp; omega))) ?_ | refine GO_q rfl rfl (ev_add rfl rfl (by first | omega | (simp; done) | (simp; omega))) ?_)
      refine GO_q rfl rfl (ev_move rfl) ?_
      refine GO_nil ?_
      (repeat first | refine G_seq ?_ | refine G_skip ?_ | refine G_endblk ?_ | refine G_block ?_ | refine G_exit rfl ?_)
      refine G_round (i + 1, x :: (P ++ D)) ⟨by simp only; omega, ?_, ?_⟩ (by simp only; omega) ⟨rfl, rfl, rfl, rfl, trivial⟩ (fun _ s => s)
      · refine List.Perm.trans ?_ f2
        rw [hsp]
        exact (List.perm_middle).symm
      · simp only
        unfold SrtO at f3 ⊢
        rw [List.take_succ_cons, List.take_append_of_le_length (by omega), List.take_of_length_le (by omega)]
        exact List.pairwise_cons.2 ⟨fun y hy => o.asym (q2 y (by simpa using hy)), f3⟩
  · have e9 : i = n := by omega
    subst e9
    have : m = srtO ls l := srtO_eq o (by rwa [List.take_of_length_le (by omega)] at f3) f2
    subst this
    (repeat first | refine G_seq ?_ | refine G_skip ?_ | refine G_endblk ?_ | refine G_block ?_ | refine G_exit rfl ?_)
    refine G_region ?_
    refine GO_q rfl rfl (ev_move rfl) ?_
    refine GO_q rfl rfl (ev_assign rfl) ?_
    refine GO_nil ?_
    (repeat first | refine G_seq ?_ | refine G_skip ?_ | refine G_endblk ?_ | refine G_block ?_ | refine G_exit rfl ?_)
    refine G_ret (L' := own 24 3 B (srtO ls l).length e (flat (srtO ls l)) :: L) rfl (.tmp rfl .nil) ?_ ⟨B, e, by rw [hm]; rfl, by rw [hm]; exact fun h => hB (by omega), rfl⟩
    rw [hm]
    exact (by (repeat first | exact en_refl | (apply en_blk; focus ((repeat' first | exact Pick.here | apply Pick.skip | apply Pick.app); done); focus rfl) | (apply en_own; focus ((repeat' first | exact Pick.here | apply Pick.skip | apply Pick.app); done); focus rfl) | (apply en_pick; focus ((repeat' first | exact Pick.here | apply Pick.skip | apply Pick.app); done)) | apply en_drop | apply en_app) <;> fail)
theorem mergeO_ctr (A B : Option Addr) (n m c d : Nat) (l q : List Pt) (L : List HP) (hl : Rd L A n l) (hq : Rd L B m q) (hn : n ≤ 1000000) (hm : m ≤ 1000000) (hc : n ≤ c) (hd : m ≤ d) (sl : SrtO ls l) (sq : SrtO ls q) :
    Ctr Tryz.prog 146 #[.slice A n c, .slice B m d, .func (.func f) #[] #[]] L fun v L' => Made 24 (srtO ls (l ++ q)) L v L' := by
  have h1 : l.length = n := hl.len (by decide)
  have h2 : q.length = m := hq.len (by decide)
  refine Ctr_of (fn := Tryz.f146) (n := 51) Tryz.func146 rfl rfl rfl ?_
  intro g F
  (repeat first | refine G_seq ?_ | refine G_skip ?_ | refine G_endblk ?_ | refine G_block ?_ | refine G_exit rfl ?_)
  refine G_region ?_
  refine GO_q rfl rfl (ev_assign rfl) ?_
  refine GO_nil ?_
  (repeat first | refine G_seq ?_ | refine G_skip ?_ | refine G_endblk ?_ | refine G_block ?_ | refine G_exit rfl ?_)
  refine G_region ?_
  refine GO_q rfl rfl (ev_move rfl) ?_
  refine GO_q rfl rfl (ev_len rfl) ?_
  refine GO_q rfl rfl (ev_move rfl) ?_
  refine GO_q rfl rfl (ev_len rfl) ?_
  (first | refine GO_q rfl rfl (ev_addN rfl rfl (by first | omega | (simp; done) | (simp; omega))) ?_ | refine GO_q rfl rfl (ev_add rfl rfl (by first | omega | (simp; done) | (simp; omega))) ?_)
  refine GO_eff rfl rfl (eff_make0 rfl rfl (by omega) (by omega)) ?_; rintro _ _ ⟨b13, rfl, rfl⟩
  refine GO_q rfl rfl (ev_assign rfl) ?_
  refine GO_nil ?_
  (repeat first | refine G_seq ?_ | refine G_skip ?_ | refine G_endblk ?_ | refine G_block ?_ | refine G_exit rfl ?_)
  refine G_loop (ι := (Option Addr × Nat × List Pt) × (Option Addr × Nat × List Pt) × (Option Addr × Nat × List Pt)) (fun z => [(2, .func (.func f) #[] #[]), (0, .slice z.1.1 z.1.2.2.length z.1.2.1), (1, .slice z.2.1.1 z.2.1.2.2.length z.2.1.2.1), (7, .slice z.2.2.1 z.2.2.2.2.length z.2.2.2.1)]) (fun z => own 24 3 z.2.2.1 z.2.2.2.2.length z.2.2.2.1 (flat z.2.2.2.2) :: F :: L)
    (fun z => (Rd L z.1.1 z.1.2.2.length z.1.2.2 ∧ z.1.2.2.length ≤ z.1.2.1 ∧ SrtO ls z.1.2.2) ∧ (Rd L z.2.1.1 z.2.1.2.2.length z.2.1.2.2 ∧ z.2.1.2.2.length ≤ z.2.1.2.1 ∧ SrtO ls z.2.1.2.2) ∧ (z.2.2.2.2 ++ (z.1.2.2 ++ z.2.1.2.2)).Perm (l ++ q) ∧ SrtO ls z.2.2.2.2 ∧ (∀ w ∈ z.2.2.2.2, ∀ x ∈ z.1.2.2 ++ z.2.1.2.2, ls x w = false) ∧ (0 < z.2.2.2.2.length → ∃ b, z.2.2.1 = some ⟨b, 0, none⟩)) (fun z => z.1.2.2.length + z.2.1.2.2.length) ((A, c, l), (B, d, q), (some ⟨b13, 0, none⟩, n + m, [])) ⟨⟨by rw [h1]; exact hl, by simp only; omega, sl⟩, ⟨by rw [h2]; exact hq, by simp only; omega, sq⟩, .refl _, .nil, by simp, fun _ => ⟨b13, rfl⟩⟩ ⟨rfl, by rw [← h1]; rfl, by rw [← h2]; rfl, rfl, trivial⟩ (by (repeat first | exact en_refl | (apply en_blk; focus ((repeat' first | exact Pick.here | apply Pick.skip | apply Pick.app); done); focus rfl) | (apply en_own; focus ((repeat' first | exact Pick.here | apply Pick.skip | apply Pick.app); done); focus rfl) | (apply en_pick; focus ((repeat' first | exact Pick.here | apply Pick.skip | apply Pick.app); done)) | apply en_drop | apply en_app) <;> fail) ?_
  rintro ⟨⟨A1, c1, l1⟩, ⟨B1, d1, q1⟩, ⟨O, e, w⟩⟩ ⟨⟨f1, f2, f3⟩, ⟨k1, k2, k3⟩, hp, so, hle, hO⟩
  simp only at f1 f2 f3 k1 k2 k3 hp so hle hO
  dsimp only
  have hlen : w.length + (l1.length + q1.length) = n + m := by
    have := hp.length_eq
    simpa [h1, h2] using this
  refine G_pure (fun h s => own.facts (s)) ?_
  rintro ⟨w1, w2, w3, w4⟩
  unfold maxLen at w3
  by_cases hz : 0 < l1.length ∧ 0 < q1.length
  · obtain ⟨ab, ao, rfl, ax⟩ := f1.at_ hz.1
    obtain ⟨bb, bo, rfl, bx⟩ := k1.at_ hz.2
    obtain ⟨x, l2, rfl⟩ : ∃ x l2, l1 = x :: l2 := by cases l1 with
      | nil => simp at hz
      | cons x l2 => exact ⟨x, l2, rfl⟩
    obtain ⟨y, q2, rfl⟩ : ∃ y q2, q1 = y :: q2 := by cases q1 with
      | nil => simp at hz
      | cons y q2 => exact ⟨y, q2, rfl⟩
    have x1 : LdN L ab (ao + 0 * 3) 3 [.int .i64 x.id, .int .i64 x.x, .int .i64 x.y] := ax 0 x rfl
    have y1 : LdN L bb (bo + 0 * 3) 3 [.int .i64 y.id, .int .i64 y.x, .int .i64 y.y] := bx 0 y rfl
    unfold SrtO at f3 k3 so
    rw [List.pairwise_cons] at f3 k3
    simp only [List.length_cons] at *
    (repeat first | refine G_seq ?_ | refine G_skip ?_ | refine G_endblk ?_ | refine G_block ?_ | refine G_exit rfl ?_)
    refine G_region ?_
    refine GO_q rfl rfl (ev_move rfl) ?_
    refine GO_q rfl rfl (ev_len rfl) ?_
    refine GO_q rfl rfl (ev_gtr rfl rfl) ?_
    refine GO_q rfl rfl (ev_move rfl) ?_
    refine GO_yes rfl rfl rfl (decide_eq_true (by omega)) ?_
    refine GO_q rfl rfl (ev_move rfl) ?_
    refine GO_yes rfl rfl rfl (decide_eq_true (by omega)) ?_
    refine GO_q rfl rfl (ev_len rfl) ?_
    refine GO_yes rfl rfl rfl (decide_eq_true (by omega)) ?_
    refine GO_q rfl rfl (ev_gtr rfl rfl) ?_
    refine GO_q rfl rfl (ev_pick_t rfl (decide_eq_true (by omega)) rfl) ?_
    refine GO_nil ?_
    (repeat first | refine G_seq ?_ | refine G_skip ?_ | refine G_endblk ?_ | refine G_block ?_ | refine G_exit rfl ?_)
    refine G_cond_t rfl (decide_eq_true (by omega)) ?_
    (repeat first | refine G_seq ?_ | refine G_skip ?_ | refine G_endblk ?_ | refine G_block ?_ | refine G_exit rfl ?_)
    refine G_draw (.q 0 (.q 1 (.q 2 (.q 3 (.q 4 (.q 5 (.q 6 (.e 7 .nil)))))))) (by kernel_rfl) (by kernel_rfl) ?_
    refine RS_m retB_noPanic rfl rfl rfl rfl (ev_move rfl) ?_
    refine RS_m retB_noPanic rfl rfl rfl rfl (ev_move rfl) ?_
    (first | refine RS_m retB_noPanic rfl rfl rfl rfl (ev_indexAddrN rfl rfl (by first | omega | (simp; done) | (simp; omega))) ?_ | refine RS_m retB_noPanic rfl rfl rfl rfl (ev_indexAddr rfl rfl (by first | omega | (simp; done) | (simp; omega)) (by first | omega | (simp; done) | (simp; omega))) ?_)
    refine RS_q retB_noPanic rfl rfl rfl rfl (ev_loadN rfl (by repeat' first | exact LdN.blk rfl | assumption | apply LdN.skip | apply LdN.app)) ?_
    refine RS_m retB_noPanic rfl rfl rfl rfl (ev_move rfl) ?_
    (first | refine RS_m retB_noPanic rfl rfl rfl rfl (ev_indexAddrN rfl rfl (by first | omega | (simp; done) | (simp; omega))) ?_ | refine RS_m retB_noPanic rfl rfl rfl rfl (ev_indexAddr rfl rfl (by first | omega | (simp; done) | (simp; omega)) (by first | omega | (simp; done) | (simp; omega))) ?_)
    refine RS_q retB_noPanic rfl rfl rfl rfl (ev_loadN rfl (by repeat' first | exact LdN.blk rfl | assumption | apply LdN.skip | apply LdN.app)) ?_
    refine RS_e (RE_last (by kernel_rfl) rfl rfl rfl (eff_callv rfl rfl (hf.ctr y x _)) ?_); rintro _ _ ⟨rfl, rfl⟩
    cases hyx : ls y x with
    | true =>
      (repeat first | refine G_seq ?_ | refine G_skip ?_ | refine G_endblk ?_ | refine G_block ?_ | refine G_exit rfl ?_)
      refine G_cond_t rfl rfl ?_
      (repeat first | refine G_seq ?_ | refine G_skip ?_ | refine G_endblk ?_ | refine G_block ?_ | refine G_exit rfl ?_)
      refine G_drawE 0 (.q 0 (.q 1 (.q 2 (.q 3 (.q 6 (.q 7 (.e 4 (.e 5 (.q 8 (.q 9 .nil)))))))))) (by kernel_rfl) (by kernel_rfl) ?_
      refine RS_m retB_noPanic rfl rfl rfl rfl (ev_move rfl) ?_
      refine RS_m retB_noPanic rfl rfl rfl rfl (ev_move rfl) ?_
      (first | refine RS_m retB_noPanic rfl rfl rfl rfl (ev_indexAddrN rfl rfl (by first | omega | (simp; done) | (simp; omega))) ?_ | refine RS_m retB_noPanic rfl rfl rfl rfl (ev_indexAddr rfl rfl (by first | omega | (simp; done) | (simp; omega)) (by first | omega | (simp; done) | (simp; omega))) ?_)
      refine RS_q retB_noPanic rfl rfl rfl rfl (ev_loadN rfl (by repeat' first | exact LdN.blk rfl | assumption | apply LdN.skip | apply LdN.app)) ?_
      refine RS_m retB_noPanic rfl rfl rfl rfl (ev_move rfl) ?_
      refine RS_q retB_noPanic rfl rfl rfl rfl (ev_sliceL rfl rfl (by first | omega | (simp; done) | (simp; omega)) (by first | omega | (simp; done) | (simp; omega))) ?_
      refine RS_e (RE_eff rfl rfl rfl (eff_buildSlice1 (by rfl) rfl rfl) ?_); rintro _ _ ⟨b34, rfl, rfl⟩; refine ⟨_, (by first | ((repeat first | exact fun _ s => s | apply en_keep | apply en_drop | apply en_app) <;> fail) | ((repeat first | exact en_refl | (apply en_blk; focus ((repeat' first | exact Pick.here | apply Pick.skip | apply Pick.app); done); focus rfl) | (apply en_own; focus ((repeat' first | exact Pick.here | apply Pick.skip | apply Pick.app); done); focus rfl) | (apply en_pick; focus ((repeat' first | exact Pick.here | apply Pick.skip | apply Pick.app); done)) | apply en_drop | apply en_app) <;> fail)), fun _ s => s, ?_⟩
      refine RS_e (RE_eff rfl rfl rfl (eff_append rfl rfl (by repeat' first | exact Pick.here | apply Pick.skip) (by repeat' first | exact Rc.blk rfl | assumption | apply Rc.skip) (one_all rfl) (by rfl) (by decide) (by first | omega | (simp; done) | (simp; omega)) (by first | omega | (simp; done) | (simp; omega))) ?_); rintro _ _ ⟨A35, c35, rfl, hc35, hm35, hn35, rfl⟩; refine ⟨_, (by first | ((repeat first | exact fun _ s => s | apply en_keep | apply en_drop | apply en_app) <;> fail) | ((repeat first | exact en_refl | (apply en_blk; focus ((repeat' first | exact Pick.here | apply Pick.skip | apply Pick.app); done); focus rfl) | (apply en_own; focus ((repeat' first | exact Pick.here | apply Pick.skip | apply Pick.app); done); focus rfl) | (apply en_pick; focus ((repeat' first | exact Pick.here | apply Pick.skip | apply Pick.app); done)) | apply en_drop | apply en_app) <;> fail)), fun _ s => s, ?_⟩
      refine RS_m retB_noPanic rfl rfl rfl rfl (ev_assign rfl) ?_
      refine RS_m retB_noPanic rfl rfl rfl rfl (ev_assign rfl) ?_
      refine RS_nil ?_
      (repeat first | refine G_seq ?_ | refine G_skip ?_ | refine G_endblk ?_ | refine G_block ?_ | refine G_exit rfl ?_)
      exact G_round ((some ⟨ab, ao, none⟩, c1, x :: l2), (some ⟨bb, (if d1 = 1 then bo else bo + 1 * 3), none⟩, d1 - 1, q2), (A35, c35, w ++ [y])) ⟨⟨f1, f2, List.pairwise_cons.2 f3⟩, ⟨k1.drop (k := 1) (c := d1) (by omega) k2, by simp only; omega, k3.2⟩, by
          refine List.Perm.trans ?_ hp
          simp only [List.append_assoc]
          refine List.Perm.append_left w ?_
          exact (List.perm_middle (l₁ := x :: l2)).symm, by
          simp only
          unfold SrtO
          rw [List.pairwise_append]
          exact ⟨so, by simp, fun a ha b hb => by simp at hb; subst hb; exact hle a ha _ (by simp)⟩, by
          simp only
          intro a ha b hb
          rcases List.mem_append.1 ha with ha | ha
          · exact hle a ha b (by simp at hb ⊢; rcases hb with h | h | h <;> simp [h])
          · simp at ha; subst ha
            rcases List.mem_append.1 hb with hb | hb
            · rcases List.mem_cons.1 hb with rfl | hb
              · exact o.asym hyx
              · exact o.le_tr (o.asym hyx) (f3.1 b hb)
            · exact k3.1 b hb, fun _ => hn35 (by omega)⟩ (by simp only [List.length_cons]; omega) ⟨rfl, rfl, rfl, by rw [List.length_append]; rfl, trivial⟩ (by
          have e5 : flat (w ++ [y]) = flat w ++ [.int .i64 y.id, .int .i64 y.x, .int .i64 y.y] := (flat_snoc w y).symm
          simp only [List.length_append, List.length_singleton, e5]
          exact (by (repeat first | exact en_refl | (apply en_blk; focus ((repeat' first | exact Pick.here | apply Pick.skip | apply Pick.app); done); focus rfl) | (apply en_own; focus ((repeat' first | exact Pick.here | apply Pick.skip | apply Pick.app); done); focus rfl) | (apply en_pick; focus ((repeat' first | exact Pick.here | apply Pick.skip | apply Pick.app); done)) | apply en_drop | apply en_app) <;> fail))
    | false =>
      (repeat first | refine G_seq ?_ | refine G_skip ?_ | refine G_endblk ?_ | refine G_block ?_ | refine G_exit rfl ?_)
      refine G_cond_f rfl rfl ?_
      (repeat first | refine G_seq ?_ | refine G_skip ?_ | refine G_endblk ?_ | refine G_block ?_ | refine G_exit rfl ?_)
      refine G_drawE 0 (.q 0 (.q 1 (.q 2 (.q 3 (.q 6 (.q 7 (.e 4 (.e 5 (.q 8 (.q 9 .nil)))))))))) (by kernel_rfl) (by kernel_rfl) ?_
      refine RS_m retB_noPanic rfl rfl rfl rfl (ev_move rfl) ?_
      refine RS_m retB_noPanic rfl rfl rfl rfl (ev_move rfl) ?_
      (first | refine RS_m retB_noPanic rfl rfl rfl rfl (ev_indexAddrN rfl rfl (by first | omega | (simp; done) | (simp; omega))) ?_ | refine RS_m retB_noPanic rfl rfl rfl rfl (ev_indexAddr rfl rfl (by first | omega | (simp; done) | (simp; omega)) (by first | omega | (simp; done) | (simp; omega))) ?_)
      refine RS_q retB_noPanic rfl rfl rfl rfl (ev_loadN rfl (by repeat' first | exact LdN.blk rfl | assumption | apply LdN.skip | apply LdN.app)) ?_
      refine RS_m retB_noPanic rfl rfl rfl rfl (ev_move rfl) ?_
      refine RS_q retB_noPanic rfl rfl rfl rfl (ev_sliceL rfl rfl (by first | omega | (simp; done) | (simp; omega)) (by first | omega | (simp; done) | (simp; omega))) ?_
      refine RS_e (RE_eff rfl rfl rfl (eff_buildSlice1 (by rfl) rfl rfl) ?_); rintro _ _ ⟨b42, rfl, rfl⟩; refine ⟨_, (by first | ((repeat first | exact fun _ s => s | apply en_keep | apply en_drop | apply en_app) <;> fail) | ((repeat first | exact en_refl | (apply en_blk; focus ((repeat' first | exact Pick.here | apply Pick.skip | apply Pick.app); done); focus rfl) | (apply en_own; focus ((repeat' first | exact Pick.here | apply Pick.skip | apply Pick.app); done); focus rfl) | (apply en_pick; focus ((repeat' first | exact Pick.here | apply Pick.skip | apply Pick.app); done)) | apply en_drop | apply en_app) <;> fail)), fun _ s => s, ?_⟩
      refine RS_e (RE_eff rfl rfl rfl (eff_append rfl rfl (by repeat' first | exact Pick.here | apply Pick.skip) (by repeat' first | exact Rc.blk rfl | assumption | apply Rc.skip) (one_all rfl) (by rfl) (by decide) (by first | omega | (simp; done) | (simp; omega)) (by first | omega | (simp; done) | (simp; omega))) ?_); rintro _ _ ⟨A43, c43, rfl, hc43, hm43, hn43, rfl⟩; refine ⟨_, (by first | ((repeat first | exact fun _ s => s | apply en_keep | apply en_drop | apply en_app) <;> fail) | ((repeat first | exact en_refl | (apply en_blk; focus ((repeat' first | exact Pick.here | apply Pick.skip | apply Pick.app); done); focus rfl) | (apply en_own; focus ((repeat' first | exact Pick.here | apply Pick.skip | apply Pick.app); done); focus rfl) | (apply en_pick; focus ((repeat' first | exact Pick.here | apply Pick.skip | apply Pick.app); done)) | apply en_drop | apply en_app) <;> fail)), fun _ s => s, ?_⟩
      refine RS_m retB_noPanic rfl rfl rfl rfl (ev_assign rfl) ?_
      refine RS_m retB_noPanic rfl rfl rfl rfl (ev_assign rfl) ?_
      refine RS_nil ?_
      (repeat first | refine G_seq ?_ | refine G_skip ?_ | refine G_endblk ?_ | refine G_block ?_ | refine G_exit rfl ?_)
      exact G_round ((some ⟨ab, (if c1 = 1 then ao else ao + 1 * 3), none⟩, c1 - 1, l2), (some ⟨bb, bo, none⟩, d1, y :: q2), (A43, c43, w ++ [x])) ⟨⟨f1.drop (k := 1) (c := c1) (by omega) f2, by simp only; omega, f3.2⟩, ⟨k1, k2, List.pairwise_cons.2 k3⟩, by
          refine List.Perm.trans ?_ hp
          simp only [List.append_assoc]
          exact .refl _, by
          simp only
          unfold SrtO
          rw [List.pairwise_append]
          exact ⟨so, by simp, fun a ha b hb => by simp at hb; subst hb; exact hle a ha _ (by simp)⟩, by
          simp only
          intro a ha b hb
          rcases List.mem_append.1 ha with ha | ha
          · exact hle a ha b (by simp at hb ⊢; rcases hb with h | h | h <;> simp [h])
          · simp at ha; subst ha
            rcases List.mem_append.1 hb with hb | hb
            · exact f3.1 b hb
            · rcases List.mem_cons.1 hb with rfl | hb
              · exact hyx
              · exact o.le_tr hyx (k3.1 b hb), fun _ => hn43 (by omega)⟩ (by simp only [List.length_cons]; omega) ⟨rfl, rfl, rfl, by rw [List.length_append]; rfl, trivial⟩ (by
          have e5 : flat (w ++ [x]) = flat w ++ [.int .i64 x.id, .int .i64 x.x, .int .i64 x.y] := (flat_snoc w x).symm
          simp only [List.length_append, List.length_singleton, e5]
          exact (by (repeat first | exact en_refl | (apply en_blk; focus ((repeat' first | exact Pick.here | apply Pick.skip | apply Pick.app); done); focus rfl) | (apply en_own; focus ((repeat' first | exact Pick.here | apply Pick.skip | apply Pick.app); done); focus rfl) | (apply en_pick; focus ((repeat' first | exact Pick.here | apply Pick.skip | apply Pick.app); done)) | apply en_drop | apply en_app) <;> fail))
  · have key : w ++ l1 ++ q1 = srtO ls (l ++ q) := by
      rw [List.append_assoc]
      refine srtO_eq o (List.pairwise_append.2 ⟨so, ?_, fun a ha b hb => hle a ha b hb⟩) hp
      rcases Nat.eq_zero_or_pos l1.length with h0 | h0
      · rw [List.eq_nil_of_length_eq_zero h0]; exact k3
      · rw [List.eq_nil_of_length_eq_zero (by omega : q1.length = 0), List.append_nil]; exact f3
    have klen : (srtO ls (l ++ q)).length = w.length + l1.length + q1.length := by rw [← key]; simp; omega
    have kfl : flat (srtO ls (l ++ q)) = flat w ++ flat l1 ++ flat q1 := by rw [← key]; simp [flat_append]
    rcases Nat.eq_zero_or_pos l1.length with h0 | h0
    · (repeat first | refine G_seq ?_ | refine G_skip ?_ | refine G_endblk ?_ | refine G_block ?_ | refine G_exit rfl ?_)
      refine G_region ?_
      refine GO_q rfl rfl (ev_move rfl) ?_
      refine GO_q rfl rfl (ev_len rfl) ?_
      refine GO_q rfl rfl (ev_gtr rfl rfl) ?_
      refine GO_q rfl rfl (ev_move rfl) ?_
      refine GO_no rfl rfl rfl (decide_eq_false (by omega)) ?_
      refine GO_no rfl rfl rfl (decide_eq_false (by omega)) ?_
      refine GO_no rfl rfl rfl (decide_eq_false (by omega)) ?_
      refine GO_q rfl rfl (ev_pick_f rfl (decide_eq_false (by omega)) rfl) ?_
      refine GO_nil ?_
      (repeat first | refine G_seq ?_ | refine G_skip ?_ | refine G_endblk ?_ | refine G_block ?_ | refine G_exit rfl ?_)
      refine G_cond_f rfl rfl ?_
      (repeat first | refine G_seq ?_ | refine G_skip ?_ | refine G_endblk ?_ | refine G_block ?_ | refine G_exit rfl ?_)
      refine G_region ?_
      refine GO_q rfl rfl (ev_move rfl) ?_
      refine GO_q rfl rfl (ev_move rfl) ?_
      refine GO_eff rfl rfl (eff_append rfl rfl (by repeat' first | exact Pick.here | apply Pick.skip) ((by repeat' first | assumption | apply Rc.skip)) ((flat_one _)) (by rfl) (by decide) (by first | omega | (simp; done) | (simp; omega)) (by first | omega | (simp; done) | (simp; omega))) ?_; rintro _ _ ⟨A48, c48, rfl, hc48, hm48, hn48, rfl⟩
      refine GO_q rfl rfl (ev_move rfl) ?_
      refine GO_eff rfl rfl (eff_append rfl rfl (by repeat' first | exact Pick.here | apply Pick.skip) ((by repeat' first | assumption | apply Rc.skip)) ((flat_one _)) (by rfl) (by decide) (by first | omega | (simp; done) | (simp; omega)) (by first | omega | (simp; done) | (simp; omega))) ?_; rintro _ _ ⟨A50, c50, rfl, hc50, hm50, hn50, rfl⟩
      refine GO_q rfl rfl (ev_assign rfl) ?_
      refine GO_nil ?_
      (repeat first | refine G_seq ?_ | refine G_skip ?_ | refine G_endblk ?_ | refine G_block ?_ | refine G_exit rfl ?_)
      refine G_ret (L' := own 24 3 A50 (srtO ls (l ++ q)).length c50 (flat (srtO ls (l ++ q))) :: L) rfl (.tmp rfl .nil) ?_ ⟨A50, c50, by rw [klen]; rfl, by rw [klen]; exact hn50, rfl⟩
      rw [klen, kfl]
      exact (by (repeat first | exact en_refl | (apply en_blk; focus ((repeat' first | exact Pick.here | apply Pick.skip | apply Pick.app); done); focus rfl) | (apply en_own; focus ((repeat' first | exact Pick.here | apply Pick.skip | apply Pick.app); done); focus rfl) | (apply en_pick; focus ((repeat' first | exact Pick.here | apply Pick.skip | apply Pick.app); done)) | apply en_drop | apply en_app) <;> fail)
    · (repeat first | refine G_seq ?_ | refine G_skip ?_ | refine G_endblk ?_ | refine G_block ?_ | refine G_exit rfl ?_)
      refine G_region ?_
      refine GO_q rfl rfl (ev_move rfl) ?_
      refine GO_q rfl rfl (ev_len rfl) ?_
      refine GO_q rfl rfl (ev_gtr rfl rfl) ?_
      refine GO_q rfl rfl (ev_move rfl) ?_
      refine GO_yes rfl rfl rfl (decide_eq_true (by omega)) ?_
      refine GO_q rfl rfl (ev_move rfl) ?_
      refine GO_yes rfl rfl rfl (decide_eq_true (by omega)) ?_
      refine GO_q rfl rfl (ev_len rfl) ?_
      refine GO_yes rfl rfl rfl (decide_eq_true (by omega)) ?_
      refine GO_q rfl rfl (ev_gtr rfl rfl) ?_
      refine GO_q rfl rfl (ev_pick_t rfl (decide_eq_true (by omega)) rfl) ?_
      refine GO_nil ?_
      (repeat first | refine G_seq ?_ | refine G_skip ?_ | refine G_endblk ?_ | refine G_block ?_ | refine G_exit rfl ?_)
      refine G_cond_f rfl (decide_eq_false (by omega)) ?_
      (repeat first | refine G_seq ?_ | refine G_skip ?_ | refine G_endblk ?_ | refine G_block ?_ | refine G_exit rfl ?_)
      refine G_region ?_
      refine GO_q rfl rfl (ev_move rfl) ?_
      refine GO_q rfl rfl (ev_move rfl) ?_
      refine GO_eff rfl rfl (eff_append rfl rfl (by repeat' first | exact Pick.here | apply Pick.skip) ((by repeat' first | assumption | apply Rc.skip)) ((flat_one _)) (by rfl) (by decide) (by first | omega | (simp; done) | (simp; omega)) (by first | omega | (simp; done) | (simp; omega))) ?_; rintro _ _ ⟨A48, c48, rfl, hc48, hm48, hn48, rfl⟩
      refine GO_q rfl rfl (ev_move rfl) ?_
      refine GO_eff rfl rfl (eff_append rfl rfl (by repeat' first | exact Pick.here | apply Pick.skip) ((by repeat' first | assumption | apply Rc.skip)) ((flat_one _)) (by rfl) (by decide) (by first | omega | (simp; done) | (simp; omega)) (by first | omega | (simp; done) | (simp; omega))) ?_; rintro _ _ ⟨A50, c50, rfl, hc50, hm50, hn50, rfl⟩
      refine GO_q rfl rfl (ev_assign rfl) ?_
      refine GO_nil ?_
      (repeat first | refine G_seq ?_ | refine G_skip ?_ | refine G_endblk ?_ | refine G_block ?_ | refine G_exit rfl ?_)
      refine G_ret (L' := own 24 3 A50 (srtO ls (l ++ q)).length c50 (flat (srtO ls (l ++ q))) :: L) rfl (.tmp rfl .nil) ?_ ⟨A50, c50, by rw [klen]; rfl, by rw [klen]; exact hn50, rfl⟩
      rw [klen, kfl]
      exact (by (repeat first | exact en_refl | (apply en_blk; focus ((repeat' first | exact Pick.here | apply Pick.skip | apply Pick.app); done); focus rfl) | (apply en_own; focus ((repeat' first | exact Pick.here | apply Pick.skip | apply Pick.app); done); focus rfl) | (apply en_pick; focus ((repeat' first | exact Pick.here | apply Pick.skip | apply Pick.app); done)) | apply en_drop | apply en_app) <;> fail)
theorem sortO_ctr : ∀ (N : Nat) (A : Option Addr) (n c : Nat) (l : List Pt) (L : List HP) (_ : n ≤ N) (_ : Rd L A n l) (_ : n ≤ 1000000) (_ : n ≤ c),
    Ctr Tryz.prog 113 #[.slice A n c, .func (.func f) #[] #[]] L fun v L' => Made 24 (srtO ls l) L v L' := by
  intro N
  induction N with
  | zero =>
    intro A n c l L h0 hl hn hc
    refine Ctr_of (fn := Tryz.f113) (n := 27) Tryz.func113 rfl rfl rfl ?_
    intro g F
    (repeat first | refine G_seq ?_ | refine G_skip ?_ | refine G_endblk ?_ | refine G_block ?_ | refine G_exit rfl ?_)
    refine G_region ?_
    refine GO_q rfl rfl (ev_assign rfl) ?_
    refine GO_nil ?_
    (repeat first | refine G_seq ?_ | refine G_skip ?_ | refine G_endblk ?_ | refine G_block ?_ | refine G_exit rfl ?_)
    refine G_region ?_
    refine GO_q rfl rfl (ev_move rfl) ?_
    refine GO_q rfl rfl (ev_len rfl) ?_
    refine GO_q rfl rfl (ev_leq rfl rfl) ?_
    refine GO_nil ?_
    (repeat first | refine G_seq ?_ | refine G_skip ?_ | refine G_endblk ?_ | refine G_block ?_ | refine G_exit rfl ?_)
    refine G_cond_t rfl (decide_eq_true (by omega)) ?_
    (repeat first | refine G_seq ?_ | refine G_skip ?_ | refine G_endblk ?_ | refine G_block ?_ | refine G_exit rfl ?_)
    refine G_region ?_
    refine GO_q rfl rfl (ev_move rfl) ?_
    refine GO_q rfl rfl (ev_move rfl) ?_
    refine GO_eff rfl rfl (eff_call rfl (byO_ctr o hf A n c l _ (by repeat' first | exact Rc.blk rfl | assumption | apply Rd.skip | apply Rd.app) hn)) ?_; rintro _ _ ⟨A9, c9, rfl, h9, rfl⟩
    refine GO_q rfl rfl (ev_assign rfl) ?_
    refine GO_nil ?_
    (repeat first | refine G_seq ?_ | refine G_skip ?_ | refine G_endblk ?_ | refine G_block ?_ | refine G_exit rfl ?_)
    exact G_ret (L' := own 24 3 A9 (srtO ls l).length c9 (flat (srtO ls l)) :: L) rfl (.tmp rfl .nil) (by (repeat first | exact en_refl | (apply en_blk; focus ((repeat' first | exact Pick.here | apply Pick.skip | apply Pick.app); done); focus rfl) | (apply en_own; focus ((repeat' first | exact Pick.here | apply Pick.skip | apply Pick.app); done); focus rfl) | (apply en_pick; focus ((repeat' first | exact Pick.here | apply Pick.skip | apply Pick.app); done)) | apply en_drop | apply en_app) <;> fail) ⟨A9, c9, rfl, h9, rfl⟩
  | succ N ih =>
    intro A n c l L h0 hl hn hc
    have h1 : l.length = n := hl.len (by decide)
    refine Ctr_of (fn := Tryz.f113) (n := 27) Tryz.func113 rfl rfl rfl ?_
    intro g F
    (repeat first | refine G_seq ?_ | refine G_skip ?_ | refine G_endblk ?_ | refine G_block ?_ | refine G_exit rfl ?_)
    refine G_region ?_
    refine GO_q rfl rfl (ev_assign rfl) ?_
    refine GO_nil ?_
    (repeat first | refine G_seq ?_ | refine G_skip ?_ | refine G_endblk ?_ | refine G_block ?_ | refine G_exit rfl ?_)
    refine G_region ?_
    refine GO_q rfl rfl (ev_move rfl) ?_
    refine GO_q rfl rfl (ev_len rfl) ?_
    refine GO_q rfl rfl (ev_leq rfl rfl) ?_
    refine GO_nil ?_
    (repeat first | refine G_seq ?_ | refine G_skip ?_ | refine G_endblk ?_ | refine G_block ?_ | refine G_exit rfl ?_)
    refine G_cond rfl (fun c1 => ?_) (fun c1 => ?_)
    · (repeat first | refine G_seq ?_ | refine G_skip ?_ | refine G_endblk ?_ | refine G_block ?_ | refine G_exit rfl ?_)
      refine G_region ?_
      refine GO_q rfl rfl (ev_move rfl) ?_
      refine GO_q rfl rfl (ev_move rfl) ?_
      refine GO_eff rfl rfl (eff_call rfl (byO_ctr o hf A n c l _ (by repeat' first | exact Rc.blk rfl | assumption | apply Rd.skip | apply Rd.app) hn)) ?_; rintro _ _ ⟨A9, c9, rfl, h9, rfl⟩
      refine GO_q rfl rfl (ev_assign rfl) ?_
      refine GO_nil ?_
      (repeat first | refine G_seq ?_ | refine G_skip ?_ | refine G_endblk ?_ | refine G_block ?_ | refine G_exit rfl ?_)
      exact G_ret (L' := own 24 3 A9 (srtO ls l).length c9 (flat (srtO ls l)) :: L) rfl (.tmp rfl .nil) (by (repeat first | exact en_refl | (apply en_blk; focus ((repeat' first | exact Pick.here | apply Pick.skip | apply Pick.app); done); focus rfl) | (apply en_own; focus ((repeat' first | exact Pick.here | apply Pick.skip | apply Pick.app); done); focus rfl) | (apply en_pick; focus ((repeat' first | exact Pick.here | apply Pick.skip | apply Pick.app); done)) | apply en_drop | apply en_app) <;> fail) ⟨A9, c9, rfl, h9, rfl⟩
    · obtain ⟨b, o', rfl, _⟩ := hl.at_ (by omega)
      have e2 : srtO ls (srtO ls (l.take (n / 2)) ++ srtO ls (l.drop (n / 2))) = srtO ls l := by rw [srtO_append o, List.take_append_drop]
      have hT : ∀ X, Rd (X ++ L) (some ⟨b, o', none⟩) (n / 2) (l.take (n / 2)) := fun X => Rd.app (hl.take (by omega))
      have hD : ∀ X, Rd (X ++ L) (some ⟨b, (if c = n / 2 then o' else o' + (n / 2) * 3), none⟩) (n - n / 2) (l.drop (n / 2)) := fun X => Rd.app (hl.drop (k := n / 2) (c := c) (by omega) hc)
      (repeat first | refine G_seq ?_ | refine G_skip ?_ | refine G_endblk ?_ | refine G_block ?_ | refine G_exit rfl ?_)
      refine G_region ?_
      refine GO_q rfl rfl (ev_move rfl) ?_
      refine GO_q rfl rfl (ev_len rfl) ?_
      (first | refine GO_q rfl rfl (ev_quoN (q := 2) rfl rfl (by first | omega | (simp; done) | (simp; omega)) (by first | omega | (simp; done) | (simp; omega))) ?_ | refine GO_q rfl rfl (ev_quo rfl rfl (by first | omega | (simp; done) | (simp; omega)) (by first | omega | (simp; done) | (simp; omega)) (by first | omega | (simp; done) | (simp; omega))) ?_)
      refine GO_q rfl rfl (ev_assign rfl) ?_
      refine GO_nil ?_
      (repeat first | refine G_seq ?_ | refine G_skip ?_ | refine G_endblk ?_ | refine G_block ?_ | refine G_exit rfl ?_)
      refine G_draw (.q 0 (.q 1 (.q 2 (.q 3 (.q 5 (.q 6 (.q 7 (.q 8 (.q 10 (.e 4 (.e 9 (.e 11 (.q 12 .nil))))))))))))) (by kernel_rfl) (by kernel_rfl) ?_
      refine RS_m retB_noPanic rfl rfl rfl rfl (ev_move rfl) ?_
      refine RS_m retB_noPanic rfl rfl rfl rfl (ev_move rfl) ?_
      refine RS_q retB_noPanic rfl rfl rfl rfl (ev_sliceH rfl rfl (by first | omega | (simp; done) | (simp; omega))) ?_
      refine RS_m retB_noPanic rfl rfl rfl rfl (ev_move rfl) ?_
      refine RS_m retB_noPanic rfl rfl rfl rfl (ev_move rfl) ?_
      refine RS_m retB_noPanic rfl rfl rfl rfl (ev_move rfl) ?_
      refine RS_q retB_noPanic rfl rfl rfl rfl (ev_sliceL rfl rfl (by first | omega | (simp; done) | (simp; omega)) (by first | omega | (simp; done) | (simp; omega))) ?_
      refine RS_m retB_noPanic rfl rfl rfl rfl (ev_move rfl) ?_
      refine RS_m retB_noPanic rfl rfl rfl rfl (ev_move rfl) ?_
      refine RS_e (RE_eff rfl rfl rfl (eff_call rfl ((ih (some ⟨b, o', none⟩) (n / 2) c (l.take (n / 2)) _ (by omega) (hT [F]) (by omega) (by omega)).made)) ?_); rintro _ _ ⟨A1, c1', rfl, u1, v1, x1, rfl⟩; refine ⟨_, fun _ s => s, (by first | ((repeat first | exact fun _ s => s | apply en_keep | apply en_drop | apply en_app) <;> fail) | ((repeat first | exact en_refl | (apply en_blk; focus ((repeat' first | exact Pick.here | apply Pick.skip | apply Pick.app); done); focus rfl) | (apply en_own; focus ((repeat' first | exact Pick.here | apply Pick.skip | apply Pick.app); done); focus rfl) | (apply en_pick; focus ((repeat' first | exact Pick.here | apply Pick.skip | apply Pick.app); done)) | apply en_drop | apply en_app) <;> fail)), ?_⟩
      refine RS_e (RE_eff rfl rfl rfl (eff_call rfl ((ih (some ⟨b, (if c = n / 2 then o' else o' + (n / 2) * 3), none⟩) (n - n / 2) (c - n / 2) (l.drop (n / 2)) _ (by omega) (hD [own 24 3 A1 (srtO ls (l.take (n / 2))).length c1' (flat (srtO ls (l.take (n / 2)))), F]) (by omega) (by omega)).made)) ?_); rintro _ _ ⟨A2, c2', rfl, u2, v2, x2, rfl⟩; refine ⟨_, fun _ s => s, (by first | ((repeat first | exact fun _ s => s | apply en_keep | apply en_drop | apply en_app) <;> fail) | ((repeat first | exact en_refl | (apply en_blk; focus ((repeat' first | exact Pick.here | apply Pick.skip | apply Pick.app); done); focus rfl) | (apply en_own; focus ((repeat' first | exact Pick.here | apply Pick.skip | apply Pick.app); done); focus rfl) | (apply en_pick; focus ((repeat' first | exact Pick.here | apply Pick.skip | apply Pick.app); done)) | apply en_drop | apply en_app) <;> fail)), ?_⟩
      refine RS_e (RE_eff rfl rfl rfl (eff_call rfl (mergeO_ctr o hf A1 A2 _ _ c1' c2' (srtO ls (l.take (n / 2))) (srtO ls (l.drop (n / 2))) _ (Rd.skip (Rc.own (flat_length _) u1)) (Rc.own (flat_length _) u2) (by rw [srtO_length, List.length_take]; omega) (by rw [srtO_length, List.length_drop]; omega) v1 v2 (srtO_sorted o _) (srtO_sorted o _))) ?_); rintro _ _ ⟨A3, c3', rfl, u3, rfl⟩; refine ⟨_, fun _ s => s, (by first | ((repeat first | exact fun _ s => s | apply en_keep | apply en_drop | apply en_app) <;> fail) | ((repeat first | exact en_refl | (apply en_blk; focus ((repeat' first | exact Pick.here | apply Pick.skip | apply Pick.app); done); focus rfl) | (apply en_own; focus ((repeat' first | exact Pick.here | apply Pick.skip | apply Pick.app); done); focus rfl) | (apply en_pick; focus ((repeat' first | exact Pick.here | apply Pick.skip | apply Pick.app); done)) | apply en_drop | apply en_app) <;> fail)), ?_⟩
      refine RS_m retB_noPanic rfl rfl rfl rfl (ev_assign rfl) ?_
      refine RS_nil ?_
      rw [e2] at u3
      rw [e2]
      (repeat first | refine G_seq ?_ | refine G_skip ?_ | refine G_endblk ?_ | refine G_block ?_ | refine G_exit rfl ?_)
      exact G_ret (L' := own 24 3 A3 (srtO ls l).length c3' (flat (srtO ls l)) :: L) rfl (.tmp rfl .nil) (by (repeat first | exact en_refl | (apply en_blk; focus ((repeat' first | exact Pick.here | apply Pick.skip | apply Pick.app); done); focus rfl) | (apply en_own; focus ((repeat' first | exact Pick.here | apply Pick.skip | apply Pick.app); done); focus rfl) | (apply en_pick; focus ((repeat' first | exact Pick.here | apply Pick.skip | apply Pick.app); done)) | apply en_drop | apply en_app) <;> fail) ⟨A3, c3', rfl, u3, rfl⟩
theorem SortO_ctr (A : Option Addr) (n c : Nat) (l : List Pt) (L : List HP) (hl : Rd L A n l) (hn : n ≤ 1000000) (hc : n ≤ c) :
    Ctr Tryz.prog 88 #[.slice A n c, .func (.func f) #[] #[]] L fun v L' => Made 24 (srtO ls l) L v L' := by
  refine Ctr_of (fn := Tryz.f88) (n := 8) Tryz.func88 rfl rfl rfl ?_
  intro g F
  (repeat first | refine G_seq ?_ | refine G_skip ?_ | refine G_endblk ?_ | refine G_block ?_ | refine G_exit rfl ?_)
  refine G_region ?_
  refine GO_q rfl rfl (ev_assign rfl) ?_
  refine GO_nil ?_
  (repeat first | refine G_seq ?_ | refine G_skip ?_ | refine G_endblk ?_ | refine G_block ?_ | refine G_exit rfl ?_)
  refine G_region ?_
  refine GO_q rfl rfl (ev_move rfl) ?_
  refine GO_q rfl rfl (ev_move rfl) ?_
  refine GO_eff rfl rfl (eff_call rfl (sortO_ctr o hf n A n c l _ (Nat.le_refl _) (by repeat' first | exact Rc.blk rfl | assumption | apply Rd.skip | apply Rd.app) hn hc)) ?_; rintro _ _ ⟨A9, c9, rfl, h9, rfl⟩
  refine GO_q rfl rfl (ev_assign rfl) ?_
  refine GO_nil ?_
  (repeat first | refine G_seq ?_ | refine G_skip ?_ | refine G_endblk ?_ | refine G_block ?_ | refine G_exit rfl ?_)
  exact G_ret (L' := own 24 3 A9 (srtO ls l).length c9 (flat (srtO ls l)) :: L) rfl (.tmp rfl .nil) (by (repeat first | exact en_refl | (apply en_blk; focus ((repeat' first | exact Pick.here | apply Pick.skip | apply Pick.app); done); focus rfl) | (apply en_own; focus ((repeat' first | exact Pick.here | apply Pick.skip | apply Pick.app); done); focus rfl) | (apply en_pick; focus ((repeat' first | exact Pick.here | apply Pick.skip | apply Pick.app); done)) | apply en_drop | apply en_app) <;> fail) ⟨A9, c9, rfl, h9, rfl⟩
end
end Go.Proofs.YtjnmpogolknkpaaGreat
/- Places in lists that are in order: first, behind, has, Put, Cut, Is (out of master/so2.master). -/
namespace Go.Proofs.YtjnmpogolknkpaaGreat
attribute [local irreducible] sat
set_option linter.unusedVariables false
set_option linter.unusedSimpArgs false
set_option maxRecDepth 100000

section
variable {f : FuncId} [CalT Tryz.prog f] {ls : Pt → Pt → Bool} (hf : LsT f ls)
include hf
theorem firstG1_ctr (a v : Pt) (b4 b5 : Nat) (L : List HP) (h4 : LdN L b4 0 3 [.int .i64 v.id, .int .i64 v.x, .int .i64 v.y]) (h5 : Ld L ⟨b5, 0, none⟩ (.func (.func f) #[] #[])) :
    Ctr Tryz.prog 151 #[a.v, .pointer (some ⟨b5, 0, none⟩), .pointer (some ⟨b4, 0, none⟩)] L fun r L' => r = .bool (!ls a v) ∧ L' = L := by
  refine Ctr_of (fn := Tryz.f151) (n := 10) Tryz.func151 rfl rfl rfl ?_
  intro g F
  (repeat first | refine G_seq ?_ | refine G_skip ?_ | refine G_endblk ?_ | refine G_block ?_ | refine G_exit rfl ?_)
  refine G_region ?_
  refine GO_eff rfl rfl (eff_box rfl) ?_; rintro _ _ ⟨b3, rfl, rfl⟩
  refine GO_q rfl rfl (ev_assign rfl) ?_
  refine GO_nil ?_
  (repeat first | refine G_seq ?_ | refine G_skip ?_ | refine G_endblk ?_ | refine G_block ?_ | refine G_exit rfl ?_)
  refine G_region ?_
  refine GO_q rfl rfl (ev_load rfl (by repeat' first | exact Ld.blk rfl | assumption | apply Ld.skip | apply Ld.app)) ?_
  refine GO_q rfl rfl (ev_loadN rfl (by repeat' first | exact LdN.blk rfl | assumption | apply LdN.skip | apply LdN.app)) ?_
  refine GO_q rfl rfl (ev_loadN rfl (by repeat' first | exact LdN.blk rfl | assumption | apply LdN.skip | apply LdN.app)) ?_
  refine GO_eff rfl rfl (eff_callv rfl rfl (hf.ctr a v _)) ?_; rintro _ _ ⟨rfl, rfl⟩
  refine GO_q rfl rfl (ev_not rfl) ?_
  refine GO_q rfl rfl (ev_assign rfl) ?_
  refine GO_nil ?_
  (repeat first | refine G_seq ?_ | refine G_skip ?_ | refine G_endblk ?_ | refine G_block ?_ | refine G_exit rfl ?_)
  refine G_ret rfl (.tmp rfl .nil) (by (repeat first | exact fun _ s => s | apply en_keep | apply en_drop | apply en_app) <;> fail) ⟨rfl, rfl⟩
theorem firstG_ctr (A : Option Addr) (n c k : Nat) (l : List Pt) (v : Pt) (L : List HP) (hl : Rd L A n l) (hn : n ≤ 1000000) (hk : k ≤ n) (hp : ∀ (j : Nat) (a : Pt), l[j]? = some a → ((!ls a v) = true ↔ k ≤ j)) :
    Ctr Tryz.prog 125 #[.slice A n c, v.v, .func (.func f) #[] #[]] L fun r L' => r = .int .i64 (k : Nat) ∧ L' = L := by
  refine Ctr_of (fn := Tryz.f125) (n := 10) Tryz.func125 rfl rfl rfl ?_
  intro g F
  (repeat first | refine G_seq ?_ | refine G_skip ?_ | refine G_endblk ?_ | refine G_block ?_ | refine G_exit rfl ?_)
  refine G_region ?_
  refine GO_eff rfl rfl (eff_box rfl) ?_; rintro _ _ ⟨b4, rfl, rfl⟩
  refine GO_eff rfl rfl (eff_box rfl) ?_; rintro _ _ ⟨b5, rfl, rfl⟩
  refine GO_q rfl rfl (ev_assign rfl) ?_
  refine GO_nil ?_
  (repeat first | refine G_seq ?_ | refine G_skip ?_ | refine G_endblk ?_ | refine G_block ?_ | refine G_exit rfl ?_)
  refine G_region ?_
  refine GO_q rfl rfl (ev_move rfl) ?_
  refine GO_q rfl rfl (ev_makeFunc rfl rfl) ?_
  refine GO_eff rfl rfl (eff_call rfl (seek_ctr 151 [] [.pointer (some ⟨b5, 0, none⟩), .pointer (some ⟨b4, 0, none⟩)] (fun a => !ls a v) A n c k l _ (by repeat' first | exact Rc.blk rfl | assumption | apply Rd.skip | apply Rd.app) hn hk hp (fun a => firstG1_ctr hf a v b4 b5 _ (by repeat' first | exact LdN.blk rfl | assumption | apply LdN.skip | apply LdN.app) (by repeat' first | exact Ld.blk rfl | assumption | apply Ld.skip | apply Ld.app)))) ?_; rintro _ _ ⟨rfl, rfl⟩
  refine GO_q rfl rfl (ev_assign rfl) ?_
  refine GO_nil ?_
  (repeat first | refine G_seq ?_ | refine G_skip ?_ | refine G_endblk ?_ | refine G_block ?_ | refine G_exit rfl ?_)
  refine G_ret rfl (.tmp rfl .nil) (by (repeat first | exact fun _ s => s | apply en_keep | apply en_drop | apply en_app) <;> fail) ⟨rfl, rfl⟩
theorem FirstG_ctr (A : Option Addr) (n c k : Nat) (l : List Pt) (v : Pt) (L : List HP) (hl : Rd L A n l) (hn : n ≤ 1000000) (hk : k ≤ n) (hp : ∀ (j : Nat) (a : Pt), l[j]? = some a → ((!ls a v) = true ↔ k ≤ j)) :
    Ctr Tryz.prog 116 #[.slice A n c, v.v, .func (.func f) #[] #[]] L fun r L' => r = .int .i64 (k : Nat) ∧ L' = L := by
  refine Ctr_of (fn := Tryz.f116) (n := 11) Tryz.func116 rfl rfl rfl ?_
  intro g F
  (repeat first | refine G_seq ?_ | refine G_skip ?_ | refine G_endblk ?_ | refine G_block ?_ | refine G_exit rfl ?_)
  refine G_region ?_
  refine GO_eff rfl rfl (eff_box rfl) ?_; rintro _ _ ⟨b4, rfl, rfl⟩
  refine GO_q rfl rfl (ev_assign rfl) ?_
  refine GO_nil ?_
  (repeat first | refine G_seq ?_ | refine G_skip ?_ | refine G_endblk ?_ | refine G_block ?_ | refine G_exit rfl ?_)
  refine G_region ?_
  refine GO_q rfl rfl (ev_move rfl) ?_
  refine GO_q rfl rfl (ev_loadN rfl (by repeat' first | exact LdN.blk rfl | assumption | apply LdN.skip | apply LdN.app)) ?_
  refine GO_q rfl rfl (ev_move rfl) ?_
  refine GO_eff rfl rfl (eff_call rfl (firstG_ctr hf A n c k l v _ (by repeat' first | exact Rc.blk rfl | assumption | apply Rd.skip | apply Rd.app) hn hk hp)) ?_; rintro _ _ ⟨rfl, rfl⟩
  refine GO_q rfl rfl (ev_assign rfl) ?_
  refine GO_nil ?_
  (repeat first | refine G_seq ?_ | refine G_skip ?_ | refine G_endblk ?_ | refine G_block ?_ | refine G_exit rfl ?_)
  refine G_ret rfl (.tmp rfl .nil) (by (repeat first | exact fun _ s => s | apply en_keep | apply en_drop | apply en_app) <;> fail) ⟨rfl, rfl⟩
theorem behindG1_ctr (a v : Pt) (b4 b5 : Nat) (L : List HP) (h4 : LdN L b4 0 3 [.int .i64 v.id, .int .i64 v.x, .int .i64 v.y]) (h5 : Ld L ⟨b5, 0, none⟩ (.func (.func f) #[] #[])) :
    Ctr Tryz.prog 129 #[a.v, .pointer (some ⟨b5, 0, none⟩), .pointer (some ⟨b4, 0, none⟩)] L fun r L' => r = .bool (ls v a) ∧ L' = L := by
  refine Ctr_of (fn := Tryz.f129) (n := 9) Tryz.func129 rfl rfl rfl ?_
  intro g F
  (repeat first | refine G_seq ?_ | refine G_skip ?_ | refine G_endblk ?_ | refine G_block ?_ | refine G_exit rfl ?_)
  refine G_region ?_
  refine GO_eff rfl rfl (eff_box rfl) ?_; rintro _ _ ⟨b3, rfl, rfl⟩
  refine GO_q rfl rfl (ev_assign rfl) ?_
  refine GO_nil ?_
  (repeat first | refine G_seq ?_ | refine G_skip ?_ | refine G_endblk ?_ | refine G_block ?_ | refine G_exit rfl ?_)
  refine G_region ?_
  refine GO_q rfl rfl (ev_load rfl (by repeat' first | exact Ld.blk rfl | assumption | apply Ld.skip | apply Ld.app)) ?_
  refine GO_q rfl rfl (ev_loadN rfl (by repeat' first | exact LdN.blk rfl | assumption | apply LdN.skip | apply LdN.app)) ?_
  refine GO_q rfl rfl (ev_loadN rfl (by repeat' first | exact LdN.blk rfl | assumption | apply LdN.skip | apply LdN.app)) ?_
  refine GO_eff rfl rfl (eff_callv rfl rfl (hf.ctr v a _)) ?_; rintro _ _ ⟨rfl, rfl⟩
  refine GO_q rfl rfl (ev_assign rfl) ?_
  refine GO_nil ?_
  (repeat first | refine G_seq ?_ | refine G_skip ?_ | refine G_endblk ?_ | refine G_block ?_ | refine G_exit rfl ?_)
  refine G_ret rfl (.tmp rfl .nil) (by (repeat first | exact fun _ s => s | apply en_keep | apply en_drop | apply en_app) <;> fail) ⟨rfl, rfl⟩
theorem behindG_ctr (A : Option Addr) (n c k : Nat) (l : List Pt) (v : Pt) (L : List HP) (hl : Rd L A n l) (hn : n ≤ 1000000) (hk : k ≤ n) (hp : ∀ (j : Nat) (a : Pt), l[j]? = some a → (ls v a = true ↔ k ≤ j)) :
    Ctr Tryz.prog 102 #[.slice A n c, v.v, .func (.func f) #[] #[]] L fun r L' => r = .int .i64 (k : Nat) ∧ L' = L := by
  refine Ctr_of (fn := Tryz.f102) (n := 10) Tryz.func102 rfl rfl rfl ?_
  intro g F
  (repeat first | refine G_seq ?_ | refine G_skip ?_ | refine G_endblk ?_ | refine G_block ?_ | refine G_exit rfl ?_)
  refine G_region ?_
  refine GO_eff rfl rfl (eff_box rfl) ?_; rintro _ _ ⟨b4, rfl, rfl⟩
  refine GO_eff rfl rfl (eff_box rfl) ?_; rintro _ _ ⟨b5, rfl, rfl⟩
  refine GO_q rfl rfl (ev_assign rfl) ?_
  refine GO_nil ?_
  (repeat first | refine G_seq ?_ | refine G_skip ?_ | refine G_endblk ?_ | refine G_block ?_ | refine G_exit rfl ?_)
  refine G_region ?_
  refine GO_q rfl rfl (ev_move rfl) ?_
  refine GO_q rfl rfl (ev_makeFunc rfl rfl) ?_
  refine GO_eff rfl rfl (eff_call rfl (seek_ctr 129 [] [.pointer (some ⟨b5, 0, none⟩), .pointer (some ⟨b4, 0, none⟩)] (fun a => ls v a) A n c k l _ (by repeat' first | exact Rc.blk rfl | assumption | apply Rd.skip | apply Rd.app) hn hk hp (fun a => behindG1_ctr hf a v b4 b5 _ (by repeat' first | exact LdN.blk rfl | assumption | apply LdN.skip | apply LdN.app) (by repeat' first | exact Ld.blk rfl | assumption | apply Ld.skip | apply Ld.app)))) ?_; rintro _ _ ⟨rfl, rfl⟩
  refine GO_q rfl rfl (ev_assign rfl) ?_
  refine GO_nil ?_
  (repeat first | refine G_seq ?_ | refine G_skip ?_ | refine G_endblk ?_ | refine G_block ?_ | refine G_exit rfl ?_)
  refine G_ret rfl (.tmp rfl .nil) (by (repeat first | exact fun _ s => s | apply en_keep | apply en_drop | apply en_app) <;> fail) ⟨rfl, rfl⟩
theorem BehindG_ctr (A : Option Addr) (n c k : Nat) (l : List Pt) (v : Pt) (L : List HP) (hl : Rd L A n l) (hn : n ≤ 1000000) (hk : k ≤ n) (hp : ∀ (j : Nat) (a : Pt), l[j]? = some a → (ls v a = true ↔ k ≤ j)) :
    Ctr Tryz.prog 114 #[.slice A n c, v.v, .func (.func f) #[] #[]] L fun r L' => r = .int .i64 (k : Nat) ∧ L' = L := by
  refine Ctr_of (fn := Tryz.f114) (n := 11) Tryz.func114 rfl rfl rfl ?_
  intro g F
  (repeat first | refine G_seq ?_ | refine G_skip ?_ | refine G_endblk ?_ | refine G_block ?_ | refine G_exit rfl ?_)
  refine G_region ?_
  refine GO_eff rfl rfl (eff_box rfl) ?_; rintro _ _ ⟨b4, rfl, rfl⟩
  refine GO_q rfl rfl (ev_assign rfl) ?_
  refine GO_nil ?_
  (repeat first | refine G_seq ?_ | refine G_skip ?_ | refine G_endblk ?_ | refine G_block ?_ | refine G_exit rfl ?_)
  refine G_region ?_
  refine GO_q rfl rfl (ev_move rfl) ?_
  refine GO_q rfl rfl (ev_loadN rfl (by repeat' first | exact LdN.blk rfl | assumption | apply LdN.skip | apply LdN.app)) ?_
  refine GO_q rfl rfl (ev_move rfl) ?_
  refine GO_eff rfl rfl (eff_call rfl (behindG_ctr hf A n c k l v _ (by repeat' first | exact Rc.blk rfl | assumption | apply Rd.skip | apply Rd.app) hn hk hp)) ?_; rintro _ _ ⟨rfl, rfl⟩
  refine GO_q rfl rfl (ev_assign rfl) ?_
  refine GO_nil ?_
  (repeat first | refine G_seq ?_ | refine G_skip ?_ | refine G_endblk ?_ | refine G_block ?_ | refine G_exit rfl ?_)
  refine G_ret rfl (.tmp rfl .nil) (by (repeat first | exact fun _ s => s | apply en_keep | apply en_drop | apply en_app) <;> fail) ⟨rfl, rfl⟩
theorem hasO_ctr (o : STO ls) (A : Option Addr) (n c : Nat) (l : List Pt) (v : Pt) (L : List HP) (hl : Rd L A n l) (hn : n ≤ 1000000) (ha : AscO ls l) :
    Ctr Tryz.prog 98 #[.slice A n c, v.v, .func (.func f) #[] #[]] L fun r L' => r = .tuple #[.int .i64 (loO ls v l : Nat), .bool (decide (v ∈ l))] ∧ L' = L := by
  have h1 : l.length = n := hl.len (by decide)
  have hk := loO_le (ls := ls) v l
  refine Ctr_of (fn := Tryz.f98) (n := 28) Tryz.func98 rfl rfl rfl ?_
  intro g F
  (repeat first | refine G_seq ?_ | refine G_skip ?_ | refine G_endblk ?_ | refine G_block ?_ | refine G_exit rfl ?_)
  refine G_region ?_
  refine GO_eff rfl rfl (eff_box rfl) ?_; rintro _ _ ⟨b4, rfl, rfl⟩
  refine GO_q rfl rfl (ev_assign rfl) ?_
  refine GO_q rfl rfl (ev_assign rfl) ?_
  refine GO_nil ?_
  (repeat first | refine G_seq ?_ | refine G_skip ?_ | refine G_endblk ?_ | refine G_block ?_ | refine G_exit rfl ?_)
  refine G_region ?_
  refine GO_q rfl rfl (ev_move rfl) ?_
  refine GO_q rfl rfl (ev_loadN rfl (by repeat' first | exact LdN.blk rfl | assumption | apply LdN.skip | apply LdN.app)) ?_
  refine GO_q rfl rfl (ev_move rfl) ?_
  refine GO_eff rfl rfl (eff_call rfl (firstG_ctr hf A n c (loO ls v l) l v _ (by repeat' first | exact Rc.blk rfl | assumption | apply Rd.skip | apply Rd.app) hn (by omega) (fun j a h => fall_at _ l (ha.fall_less o v) j a h))) ?_; rintro _ _ ⟨rfl, rfl⟩
  refine GO_q rfl rfl (ev_assign rfl) ?_
  refine GO_nil ?_
  by_cases hc : loO ls v l < n
  · obtain ⟨b1, o1, rfl, x1⟩ := hl.at_ (by omega)
    have g1 : l[loO ls v l]? = some l[loO ls v l] := List.getElem?_eq_getElem (by omega)
    have e1 := loO_get o ha v _ g1
    have y1 := x1 _ _ g1
    generalize l[loO ls v l] = u at *
    have z1 : LdN L b1 (o1 + loO ls v l * 3) 3 [.int .i64 u.id, .int .i64 u.x, .int .i64 u.y] := y1
    rw [← e1]
    (repeat first | refine G_seq ?_ | refine G_skip ?_ | refine G_endblk ?_ | refine G_block ?_ | refine G_exit rfl ?_)
    refine G_draw (.q 0 (.q 1 (.q 2 (.q 3 (.q 4 (.q 5 (.q 6 (.q 7 (.q 8 (.q 9 (.q 10 (.q 11 (.e 12 (.q 13 (.q 14 (.q 15 (.q 16 .nil))))))))))))))))) (by kernel_rfl) (by kernel_rfl) ?_
    refine RS_m retB_noPanic rfl rfl rfl rfl (ev_move rfl) ?_
    refine RS_m retB_noPanic rfl rfl rfl rfl (ev_move rfl) ?_
    refine RS_m retB_noPanic rfl rfl rfl rfl (ev_move rfl) ?_
    refine RS_q retB_noPanic rfl rfl rfl rfl (ev_len rfl) ?_
    (first | refine RS_m retB_noPanic rfl rfl rfl rfl (ev_lssN rfl rfl) ?_ | refine RS_m retB_noPanic rfl rfl rfl rfl (ev_lss rfl rfl) ?_)
    refine RS_m retB_noPanic rfl rfl rfl rfl (ev_move rfl) ?_
    refine RS_m_yes retB_noPanic rfl rfl rfl rfl ⟨_, rfl, (decide_eq_true (by omega))⟩ rfl (ev_move rfl) ?_
    refine RS_q_yes retB_noPanic rfl rfl rfl rfl ⟨_, rfl, (decide_eq_true (by omega))⟩ rfl (ev_loadN rfl (by repeat' first | exact LdN.blk rfl | assumption | apply LdN.skip | apply LdN.app)) ?_
    refine RS_m_yes retB_noPanic rfl rfl rfl rfl ⟨_, rfl, (decide_eq_true (by omega))⟩ rfl (ev_move rfl) ?_
    refine RS_m_yes retB_noPanic rfl rfl rfl rfl ⟨_, rfl, (decide_eq_true (by omega))⟩ rfl (ev_move rfl) ?_
    (first | refine RS_m_yes retB_noPanic rfl rfl rfl rfl ⟨_, rfl, (decide_eq_true (by omega))⟩ rfl (ev_indexAddrN rfl rfl (by first | omega | (simp; done) | (simp; omega))) ?_ | refine RS_m_yes retB_noPanic rfl rfl rfl rfl ⟨_, rfl, (decide_eq_true (by omega))⟩ rfl (ev_indexAddr rfl rfl (by first | omega | (simp; done) | (simp; omega)) (by first | omega | (simp; done) | (simp; omega))) ?_)
    refine RS_q_yes retB_noPanic rfl rfl rfl rfl ⟨_, rfl, (decide_eq_true (by omega))⟩ rfl (ev_loadN rfl (by repeat' first | exact LdN.blk rfl | assumption | apply LdN.skip | apply LdN.app)) ?_
    refine RS_e (RE_eff_yes rfl rfl rfl ⟨_, rfl, (decide_eq_true (by omega))⟩ rfl (eff_callv rfl rfl (hf.ctr v u _)) ?_); rintro _ _ ⟨rfl, rfl⟩; refine ⟨_, fun _ s => s, (by first | ((repeat first | exact fun _ s => s | apply en_keep | apply en_drop | apply en_app) <;> fail) | ((repeat first | exact en_refl | (apply en_blk; focus ((repeat' first | exact Pick.here | apply Pick.skip | apply Pick.app); done); focus rfl) | (apply en_own; focus ((repeat' first | exact Pick.here | apply Pick.skip | apply Pick.app); done); focus rfl) | (apply en_pick; focus ((repeat' first | exact Pick.here | apply Pick.skip | apply Pick.app); done)) | apply en_drop | apply en_app) <;> fail)), ?_⟩
    refine RS_m_yes retB_noPanic rfl rfl rfl rfl ⟨_, rfl, (decide_eq_true (by omega))⟩ rfl (ev_not rfl) ?_
    refine RS_m retB_noPanic rfl rfl rfl rfl (ev_pick_t rfl (decide_eq_true (by omega)) rfl) ?_
    refine RS_m retB_noPanic rfl rfl rfl rfl (ev_assign rfl) ?_
    refine RS_m retB_noPanic rfl rfl rfl rfl (ev_assign rfl) ?_
    refine RS_nil ?_
    (repeat first | refine G_seq ?_ | refine G_skip ?_ | refine G_endblk ?_ | refine G_block ?_ | refine G_exit rfl ?_)
    refine G_ret rfl (.tmp rfl (.tmp rfl .nil)) (by (repeat first | exact fun _ s => s | apply en_keep | apply en_drop | apply en_app) <;> fail) ⟨rfl, rfl⟩
  · have e1 := loO_out o ha v (by omega)
    rw [decide_eq_false e1]
    (repeat first | refine G_seq ?_ | refine G_skip ?_ | refine G_endblk ?_ | refine G_block ?_ | refine G_exit rfl ?_)
    refine G_draw (.q 0 (.q 1 (.q 2 (.q 3 (.q 4 (.q 5 (.q 6 (.q 7 (.q 8 (.q 9 (.q 10 (.q 11 (.e 12 (.q 13 (.q 14 (.q 15 (.q 16 .nil))))))))))))))))) (by kernel_rfl) (by kernel_rfl) ?_
    refine RS_m retB_noPanic rfl rfl rfl rfl (ev_move rfl) ?_
    refine RS_m retB_noPanic rfl rfl rfl rfl (ev_move rfl) ?_
    refine RS_m retB_noPanic rfl rfl rfl rfl (ev_move rfl) ?_
    refine RS_q retB_noPanic rfl rfl rfl rfl (ev_len rfl) ?_
    (first | refine RS_m retB_noPanic rfl rfl rfl rfl (ev_lssN rfl rfl) ?_ | refine RS_m retB_noPanic rfl rfl rfl rfl (ev_lss rfl rfl) ?_)
    refine RS_m retB_noPanic rfl rfl rfl rfl (ev_move rfl) ?_
    refine RS_q_no retB_noPanic rfl rfl rfl ⟨_, rfl, (decide_eq_false (by omega))⟩ rfl ?_
    refine RS_q_no retB_noPanic rfl rfl rfl ⟨_, rfl, (decide_eq_false (by omega))⟩ rfl ?_
    refine RS_q_no retB_noPanic rfl rfl rfl ⟨_, rfl, (decide_eq_false (by omega))⟩ rfl ?_
    refine RS_q_no retB_noPanic rfl rfl rfl ⟨_, rfl, (decide_eq_false (by omega))⟩ rfl ?_
    refine RS_q_no retB_noPanic rfl rfl rfl ⟨_, rfl, (decide_eq_false (by omega))⟩ rfl ?_
    refine RS_q_no retB_noPanic rfl rfl rfl ⟨_, rfl, (decide_eq_false (by omega))⟩ rfl ?_
    refine RS_e (RE_no rfl rfl rfl ⟨_, rfl, (decide_eq_false (by omega))⟩ rfl ?_)
    refine RS_q_no retB_noPanic rfl rfl rfl ⟨_, rfl, (decide_eq_false (by omega))⟩ rfl ?_
    refine RS_m retB_noPanic rfl rfl rfl rfl (ev_pick_f rfl (decide_eq_false (by omega)) rfl) ?_
    refine RS_m retB_noPanic rfl rfl rfl rfl (ev_assign rfl) ?_
    refine RS_m retB_noPanic rfl rfl rfl rfl (ev_assign rfl) ?_
    refine RS_nil ?_
    (repeat first | refine G_seq ?_ | refine G_skip ?_ | refine G_endblk ?_ | refine G_block ?_ | refine G_exit rfl ?_)
    refine G_ret rfl (.tmp rfl (.tmp rfl .nil)) (by (repeat first | exact fun _ s => s | apply en_keep | apply en_drop | apply en_app) <;> fail) ⟨by simp [retv], rfl⟩
theorem HasO_ctr (o : STO ls) (A : Option Addr) (n c : Nat) (l : List Pt) (v : Pt) (L : List HP) (hl : Rd L A n l) (hn : n ≤ 1000000) (ha : AscO ls l) :
    Ctr Tryz.prog 68 #[.slice A n c, v.v, .func (.func f) #[] #[]] L fun r L' => r = .bool (decide (v ∈ l)) ∧ L' = L := by
  refine Ctr_of (fn := Tryz.f68) (n := 17) Tryz.func68 rfl rfl rfl ?_
  intro g F
  (repeat first | refine G_seq ?_ | refine G_skip ?_ | refine G_endblk ?_ | refine G_block ?_ | refine G_exit rfl ?_)
  refine G_region ?_
  refine GO_eff rfl rfl (eff_box rfl) ?_; rintro _ _ ⟨b4, rfl, rfl⟩
  refine GO_q rfl rfl (ev_assign rfl) ?_
  refine GO_nil ?_
  (repeat first | refine G_seq ?_ | refine G_skip ?_ | refine G_endblk ?_ | refine G_block ?_ | refine G_exit rfl ?_)
  refine G_region ?_
  refine GO_q rfl rfl (ev_move rfl) ?_
  refine GO_q rfl rfl (ev_loadN rfl (by repeat' first | exact LdN.blk rfl | assumption | apply LdN.skip | apply LdN.app)) ?_
  refine GO_q rfl rfl (ev_move rfl) ?_
  refine GO_eff rfl rfl (eff_call rfl (hasO_ctr hf o A n c l v _ (by repeat' first | exact Rc.blk rfl | assumption | apply Rd.skip | apply Rd.app) hn ha)) ?_; rintro _ _ ⟨rfl, rfl⟩
  refine GO_q rfl rfl (ev_move rfl) ?_
  refine GO_q rfl rfl (ev_extract rfl rfl) ?_
  refine GO_q rfl rfl (ev_extract rfl rfl) ?_
  refine GO_q rfl rfl (ev_assign rfl) ?_
  refine GO_q rfl rfl (ev_assign rfl) ?_
  refine GO_nil ?_
  (repeat first | refine G_seq ?_ | refine G_skip ?_ | refine G_endblk ?_ | refine G_block ?_ | refine G_exit rfl ?_)
  refine G_region ?_
  refine GO_q rfl rfl (ev_move rfl) ?_
  refine GO_q rfl rfl (ev_assign rfl) ?_
  refine GO_nil ?_
  (repeat first | refine G_seq ?_ | refine G_skip ?_ | refine G_endblk ?_ | refine G_block ?_ | refine G_exit rfl ?_)
  refine G_ret rfl (.tmp rfl .nil) (by (repeat first | exact fun _ s => s | apply en_keep | apply en_drop | apply en_app) <;> fail) ⟨rfl, rfl⟩
theorem PutO_ctr (o : STO ls) (A : Option Addr) (n c : Nat) (l : List Pt) (v : Pt) (L : List HP) (hl : Rd L A n l) (hn : n ≤ 100000) (ha : AscO ls l) :
    Ctr Tryz.prog 73 #[.slice A n c, v.v, .func (.func f) #[] #[]] L fun r L' => Made 24 (putO ls v l) L r L' := by
  have h1 : l.length = n := hl.len (by decide)
  have hk := putKO_le (ls := ls) v l
  rw [putO_eq]
  refine Ctr_of (fn := Tryz.f73) (n := 16) Tryz.func73 rfl rfl rfl ?_
  intro g F
  (repeat first | refine G_seq ?_ | refine G_skip ?_ | refine G_endblk ?_ | refine G_block ?_ | refine G_exit rfl ?_)
  refine G_region ?_
  refine GO_eff rfl rfl (eff_box rfl) ?_; rintro _ _ ⟨b4, rfl, rfl⟩
  refine GO_q rfl rfl (ev_assign rfl) ?_
  refine GO_nil ?_
  (repeat first | refine G_seq ?_ | refine G_skip ?_ | refine G_endblk ?_ | refine G_block ?_ | refine G_exit rfl ?_)
  refine G_draw (.q 0 (.q 2 (.q 3 (.q 4 (.q 6 (.br 1 (.br 5 (.e 7 (.e 8 (.q 9 .nil))) 7 (.e 5 (.e 8 (.q 9 .nil)))) 7 (.e 1 (.e 5 (.e 8 (.q 9 .nil)))))))))) (by kernel_rfl) (by kernel_rfl) ?_
  refine RS_m retB_noPanic rfl rfl rfl rfl (ev_move rfl) ?_
  refine RS_m retB_noPanic rfl rfl rfl rfl (ev_move rfl) ?_
  refine RS_q retB_noPanic rfl rfl rfl rfl (ev_loadN rfl (by repeat' first | exact LdN.blk rfl | assumption | apply LdN.skip | apply LdN.app)) ?_
  refine RS_m retB_noPanic rfl rfl rfl rfl (ev_move rfl) ?_
  refine RS_q retB_noPanic rfl rfl rfl rfl (ev_loadN rfl (by repeat' first | exact LdN.blk rfl | assumption | apply LdN.skip | apply LdN.app)) ?_
  refine RS_br ?x10_0 ?x10_1
  case' x10_1 =>
    refine RE_eff rfl rfl rfl (eff_buildSlice1 (by rfl) rfl rfl) ?_; rintro _ _ ⟨b14, rfl, rfl⟩; refine ⟨_, (by first | ((repeat first | exact fun _ s => s | apply en_keep | apply en_drop | apply en_app) <;> fail) | ((repeat first | exact en_refl | (apply en_blk; focus ((repeat' first | exact Pick.here | apply Pick.skip | apply Pick.app); done); focus rfl) | (apply en_own; focus ((repeat' first | exact Pick.here | apply Pick.skip | apply Pick.app); done); focus rfl) | (apply en_pick; focus ((repeat' first | exact Pick.here | apply Pick.skip | apply Pick.app); done)) | apply en_drop | apply en_app) <;> fail)), fun _ s => s, ?_⟩
    refine RS_e (RE_eff rfl rfl rfl (eff_call rfl (Clone_ctr A n c l _ (by repeat' first | exact Rc.blk rfl | assumption | apply Rd.skip | apply Rd.app) (by omega))) ?_); rintro _ _ ⟨A8, c8, rfl, hn8, rfl⟩; refine ⟨_, (by first | ((repeat first | exact fun _ s => s | apply en_keep | apply en_drop | apply en_app) <;> fail) | ((repeat first | exact en_refl | (apply en_blk; focus ((repeat' first | exact Pick.here | apply Pick.skip | apply Pick.app); done); focus rfl) | (apply en_own; focus ((repeat' first | exact Pick.here | apply Pick.skip | apply Pick.app); done); focus rfl) | (apply en_pick; focus ((repeat' first | exact Pick.here | apply Pick.skip | apply Pick.app); done)) | apply en_drop | apply en_app) <;> fail)), fun _ s => s, ?_⟩
    refine RS_e (RE_eff rfl rfl rfl (eff_call rfl (behindG_ctr hf A n c (putKO ls v l) l v _ (by repeat' first | exact Rc.blk rfl | assumption | apply Rd.skip | apply Rd.app) (by omega) (by omega) (putKO_spec o v l ha))) ?_); rintro _ _ ⟨rfl, rfl⟩; refine ⟨_, (by first | ((repeat first | exact fun _ s => s | apply en_keep | apply en_drop | apply en_app) <;> fail) | ((repeat first | exact en_refl | (apply en_blk; focus ((repeat' first | exact Pick.here | apply Pick.skip | apply Pick.app); done); focus rfl) | (apply en_own; focus ((repeat' first | exact Pick.here | apply Pick.skip | apply Pick.app); done); focus rfl) | (apply en_pick; focus ((repeat' first | exact Pick.here | apply Pick.skip | apply Pick.app); done)) | apply en_drop | apply en_app) <;> fail)), fun _ s => s, ?_⟩
    refine RS_e (RE_eff rfl rfl rfl (eff_call rfl (Ctr.pick (by repeat' first | exact Pick.here | apply Pick.skip | apply Pick.app) (Ctr.pre (en_pick (.skip .here) en_refl) (Insert_ctr A8 _ c8 b14 (putKO ls v l) l v _ rfl (by omega) hk)))) ?_); rintro _ _ ⟨A15, c15, rfl, hn15, rfl⟩; refine ⟨_, (by first | ((repeat first | exact fun _ s => s | apply en_keep | apply en_drop | apply en_app) <;> fail) | ((repeat first | exact en_refl | (apply en_blk; focus ((repeat' first | exact Pick.here | apply Pick.skip | apply Pick.app); done); focus rfl) | (apply en_own; focus ((repeat' first | exact Pick.here | apply Pick.skip | apply Pick.app); done); focus rfl) | (apply en_pick; focus ((repeat' first | exact Pick.here | apply Pick.skip | apply Pick.app); done)) | apply en_drop | apply en_app) <;> fail)), fun _ s => s, ?_⟩
    refine RS_m retB_noPanic rfl rfl rfl rfl (ev_assign rfl) ?_
    refine RS_nil ?_
  case' x10_0 =>
    refine RE_eff rfl rfl rfl (eff_call rfl (Clone_ctr A n c l _ (by repeat' first | exact Rc.blk rfl | assumption | apply Rd.skip | apply Rd.app) (by omega))) ?_; rintro _ _ ⟨A8, c8, rfl, hn8, rfl⟩; refine ⟨_, (by first | ((repeat first | exact fun _ s => s | apply en_keep | apply en_drop | apply en_app) <;> fail) | ((repeat first | exact en_refl | (apply en_blk; focus ((repeat' first | exact Pick.here | apply Pick.skip | apply Pick.app); done); focus rfl) | (apply en_own; focus ((repeat' first | exact Pick.here | apply Pick.skip | apply Pick.app); done); focus rfl) | (apply en_pick; focus ((repeat' first | exact Pick.here | apply Pick.skip | apply Pick.app); done)) | apply en_drop | apply en_app) <;> fail)), fun _ s => s, ?_⟩
    refine RS_br ?x11_0 ?x11_1
    case' x11_1 =>
      refine RE_eff rfl rfl rfl (eff_buildSlice1 (by rfl) rfl rfl) ?_; rintro _ _ ⟨b14, rfl, rfl⟩; refine ⟨_, (by first | ((repeat first | exact fun _ s => s | apply en_keep | apply en_drop | apply en_app) <;> fail) | ((repeat first | exact en_refl | (apply en_blk; focus ((repeat' first | exact Pick.here | apply Pick.skip | apply Pick.app); done); focus rfl) | (apply en_own; focus ((repeat' first | exact Pick.here | apply Pick.skip | apply Pick.app); done); focus rfl) | (apply en_pick; focus ((repeat' first | exact Pick.here | apply Pick.skip | apply Pick.app); done)) | apply en_drop | apply en_app) <;> fail)), fun _ s => s, ?_⟩
      refine RS_e (RE_eff rfl rfl rfl (eff_call rfl (behindG_ctr hf A n c (putKO ls v l) l v _ (by repeat' first | exact Rc.blk rfl | assumption | apply Rd.skip | apply Rd.app) (by omega) (by omega) (putKO_spec o v l ha))) ?_); rintro _ _ ⟨rfl, rfl⟩; refine ⟨_, (by first | ((repeat first | exact fun _ s => s | apply en_keep | apply en_drop | apply en_app) <;> fail) | ((repeat first | exact en_refl | (apply en_blk; focus ((repeat' first | exact Pick.here | apply Pick.skip | apply Pick.app); done); focus rfl) | (apply en_own; focus ((repeat' first | exact Pick.here | apply Pick.skip | apply Pick.app); done); focus rfl) | (apply en_pick; focus ((repeat' first | exact Pick.here | apply Pick.skip | apply Pick.app); done)) | apply en_drop | apply en_app) <;> fail)), fun _ s => s, ?_⟩
      refine RS_e (RE_eff rfl rfl rfl (eff_call rfl (Ctr.pick (by repeat' first | exact Pick.here | apply Pick.skip | apply Pick.app) (Ctr.pre (en_pick (.skip .here) en_refl) (Insert_ctr A8 _ c8 b14 (putKO ls v l) l v _ rfl (by omega) hk)))) ?_); rintro _ _ ⟨A15, c15, rfl, hn15, rfl⟩; refine ⟨_, (by first | ((repeat first | exact fun _ s => s | apply en_keep | apply en_drop | apply en_app) <;> fail) | ((repeat first | exact en_refl | (apply en_blk; focus ((repeat' first | exact Pick.here | apply Pick.skip | apply Pick.app); done); focus rfl) | (apply en_own; focus ((repeat' first | exact Pick.here | apply Pick.skip | apply Pick.app); done); focus rfl) | (apply en_pick; focus ((repeat' first | exact Pick.here | apply Pick.skip | apply Pick.app); done)) | apply en_drop | apply en_app) <;> fail)), fun _ s => s, ?_⟩
      refine RS_m retB_noPanic rfl rfl rfl rfl (ev_assign rfl) ?_
      refine RS_nil ?_
    case' x11_0 =>
      refine RE_eff rfl rfl rfl (eff_call rfl (behindG_ctr hf A n c (putKO ls v l) l v _ (by repeat' first | exact Rc.blk rfl | assumption | apply Rd.skip | apply Rd.app) (by omega) (by omega) (putKO_spec o v l ha))) ?_; rintro _ _ ⟨rfl, rfl⟩; refine ⟨_, (by first | ((repeat first | exact fun _ s => s | apply en_keep | apply en_drop | apply en_app) <;> fail) | ((repeat first | exact en_refl | (apply en_blk; focus ((repeat' first | exact Pick.here | apply Pick.skip | apply Pick.app); done); focus rfl) | (apply en_own; focus ((repeat' first | exact Pick.here | apply Pick.skip | apply Pick.app); done); focus rfl) | (apply en_pick; focus ((repeat' first | exact Pick.here | apply Pick.skip | apply Pick.app); done)) | apply en_drop | apply en_app) <;> fail)), fun _ s => s, ?_⟩
      refine RS_e (RE_eff rfl rfl rfl (eff_buildSlice1 (by rfl) rfl rfl) ?_); rintro _ _ ⟨b14, rfl, rfl⟩; refine ⟨_, (by first | ((repeat first | exact fun _ s => s | apply en_keep | apply en_drop | apply en_app) <;> fail) | ((repeat first | exact en_refl | (apply en_blk; focus ((repeat' first | exact Pick.here | apply Pick.skip | apply Pick.app); done); focus rfl) | (apply en_own; focus ((repeat' first | exact Pick.here | apply Pick.skip | apply Pick.app); done); focus rfl) | (apply en_pick; focus ((repeat' first | exact Pick.here | apply Pick.skip | apply Pick.app); done)) | apply en_drop | apply en_app) <;> fail)), fun _ s => s, ?_⟩
      refine RS_e (RE_eff rfl rfl rfl (eff_call rfl (Ctr.pick (by repeat' first | exact Pick.here | apply Pick.skip | apply Pick.app) (Ctr.pre (en_pick (.skip .here) en_refl) (Insert_ctr A8 _ c8 b14 (putKO ls v l) l v _ rfl (by omega) hk)))) ?_); rintro _ _ ⟨A15, c15, rfl, hn15, rfl⟩; refine ⟨_, (by first | ((repeat first | exact fun _ s => s | apply en_keep | apply en_drop | apply en_app) <;> fail) | ((repeat first | exact en_refl | (apply en_blk; focus ((repeat' first | exact Pick.here | apply Pick.skip | apply Pick.app); done); focus rfl) | (apply en_own; focus ((repeat' first | exact Pick.here | apply Pick.skip | apply Pick.app); done); focus rfl) | (apply en_pick; focus ((repeat' first | exact Pick.here | apply Pick.skip | apply Pick.app); done)) | apply en_drop | apply en_app) <;> fail)), fun _ s => s, ?_⟩
      refine RS_m retB_noPanic rfl rfl rfl rfl (ev_assign rfl) ?_
      refine RS_nil ?_
  all_goals
    (repeat first | refine G_seq ?_ | refine G_skip ?_ | refine G_endblk ?_ | refine G_block ?_ | refine G_exit rfl ?_)
    exact G_ret (L' := own 24 3 A15 (l.take (putKO ls v l) ++ [v] ++ l.drop (putKO ls v l)).length c15 (flat (l.take (putKO ls v l) ++ [v] ++ l.drop (putKO ls v l))) :: L) rfl (.tmp rfl .nil) (by (repeat first | exact en_refl | (apply en_blk; focus ((repeat' first | exact Pick.here | apply Pick.skip | apply Pick.app); done); focus rfl) | (apply en_own; focus ((repeat' first | exact Pick.here | apply Pick.skip | apply Pick.app); done); focus rfl) | (apply en_pick; focus ((repeat' first | exact Pick.here | apply Pick.skip | apply Pick.app); done)) | apply en_drop | apply en_app) <;> fail) ⟨A15, c15, rfl, hn15, rfl⟩
theorem CutO_ctr (o : STO ls) (A : Option Addr) (n c : Nat) (l : List Pt) (v : Pt) (L : List HP) (hl : Rd L A n l) (hn : n ≤ 100000) (ha : AscO ls l) (hv : v ∈ l) :
    Ctr Tryz.prog 76 #[.slice A n c, v.v, .func (.func f) #[] #[]] L fun r L' => ∃ A' c', r = .tuple #[.slice A' (l.erase v).length c', .bool true] ∧ (0 < (l.erase v).length → ∃ b, A' = some ⟨b, 0, none⟩) ∧ L' = own 24 3 A' (l.erase v).length c' (flat (l.erase v)) :: L := by
  have h1 : l.length = n := hl.len (by decide)
  obtain ⟨hlt, he⟩ := loO_erase o ha v hv
  refine Ctr_of (fn := Tryz.f76) (n := 27) Tryz.func76 rfl rfl rfl ?_
  intro g F
  (repeat first | refine G_seq ?_ | refine G_skip ?_ | refine G_endblk ?_ | refine G_block ?_ | refine G_exit rfl ?_)
  refine G_region ?_
  refine GO_eff rfl rfl (eff_box rfl) ?_; rintro _ _ ⟨b4, rfl, rfl⟩
  refine GO_q rfl rfl (ev_assign rfl) ?_
  refine GO_q rfl rfl (ev_assign rfl) ?_
  refine GO_nil ?_
  (repeat first | refine G_seq ?_ | refine G_skip ?_ | refine G_endblk ?_ | refine G_block ?_ | refine G_exit rfl ?_)
  refine G_region ?_
  refine GO_q rfl rfl (ev_move rfl) ?_
  refine GO_q rfl rfl (ev_loadN rfl (by repeat' first | exact LdN.blk rfl | assumption | apply LdN.skip | apply LdN.app)) ?_
  refine GO_q rfl rfl (ev_move rfl) ?_
  refine GO_eff rfl rfl (eff_call rfl (hasO_ctr hf o A n c l v _ (by repeat' first | exact Rc.blk rfl | assumption | apply Rd.skip | apply Rd.app) (by omega) ha)) ?_; rintro _ _ ⟨rfl, rfl⟩
  refine GO_q rfl rfl (ev_move rfl) ?_
  refine GO_q rfl rfl (ev_extract rfl rfl) ?_
  refine GO_q rfl rfl (ev_extract rfl rfl) ?_
  refine GO_q rfl rfl (ev_assign rfl) ?_
  refine GO_q rfl rfl (ev_assign rfl) ?_
  refine GO_nil ?_
  (repeat first | refine G_seq ?_ | refine G_skip ?_ | refine G_endblk ?_ | refine G_block ?_ | refine G_exit rfl ?_)
  refine G_region ?_
  refine GO_q rfl rfl (ev_move rfl) ?_
  refine GO_q rfl rfl (ev_not rfl) ?_
  refine GO_nil ?_
  (repeat first | refine G_seq ?_ | refine G_skip ?_ | refine G_endblk ?_ | refine G_block ?_ | refine G_exit rfl ?_)
  refine G_cond_f rfl (by simp [hv]) ?_
  rw [← he]
  (repeat first | refine G_seq ?_ | refine G_skip ?_ | refine G_endblk ?_ | refine G_block ?_ | refine G_exit rfl ?_)
  refine G_region ?_
  refine GO_q rfl rfl (ev_move rfl) ?_
  refine GO_eff rfl rfl (eff_call rfl (Clone_ctr A n c l _ (by repeat' first | exact Rc.blk rfl | assumption | apply Rd.skip | apply Rd.app) (by omega))) ?_; rintro _ _ ⟨A8, c8, rfl, hn8, rfl⟩
  refine GO_q rfl rfl (ev_move rfl) ?_
  refine GO_q rfl rfl (ev_move rfl) ?_
  (first | refine GO_q rfl rfl (ev_addN (q := 1) rfl rfl (by first | omega | (simp; done) | (simp; omega))) ?_ | refine GO_q rfl rfl (ev_add rfl rfl (by first | omega | (simp; done) | (simp; omega))) ?_)
  obtain ⟨b8, rfl⟩ := hn8 (by omega)
  refine GO_eff rfl rfl (eff_call rfl (Ctr.pick (by repeat' first | exact Pick.here | apply Pick.skip | apply Pick.app) (Delete_ctr b8 _ c8 (loO ls v l) l _ rfl (by omega) hlt))) ?_
  rintro _ _ ⟨A15, c15, rfl, hn15, rfl⟩
  refine GO_q rfl rfl (ev_assign rfl) ?_
  refine GO_q rfl rfl (ev_assign rfl) ?_
  refine GO_nil ?_
  (repeat first | refine G_seq ?_ | refine G_skip ?_ | refine G_endblk ?_ | refine G_block ?_ | refine G_exit rfl ?_)
  exact G_ret (L' := own 24 3 A15 (l.take (loO ls v l) ++ l.drop (loO ls v l + 1)).length c15 (flat (l.take (loO ls v l) ++ l.drop (loO ls v l + 1))) :: L) rfl (.tmp rfl (.tmp rfl .nil)) (by (repeat first | exact en_refl | (apply en_blk; focus ((repeat' first | exact Pick.here | apply Pick.skip | apply Pick.app); done); focus rfl) | (apply en_own; focus ((repeat' first | exact Pick.here | apply Pick.skip | apply Pick.app); done); focus rfl) | (apply en_pick; focus ((repeat' first | exact Pick.here | apply Pick.skip | apply Pick.app); done)) | apply en_drop | apply en_app) <;> fail) ⟨A15, c15, rfl, hn15, rfl⟩
end
end Go.Proofs.YtjnmpogolknkpaaGreat
/-
  DERIVED: THE SHELF's CONTRACTS AT THIS DUMP, IN PLAIN WORDS (tools/lay-plain.mjs out of 'TryzShelf.lean', which tools/lay-shelf.mjs wrote): THE SAME DECLARATIONS UNDER THE SAME NAMES: 'import', 'namespace', 'open', 'def', 'theorem' AND NOTHING ELSE: no command of the shelf's: FOR A HAND-IN. Each laying: the table of numbers ('.._ren') and one theorem, a field a fact of the dump's own or the kernel's comparison; each contract: ONE APPLICATION.
-/
namespace Go.Proofs
open Go.Shelf
def Tryz.lays189_ren : Go.Shelf.Ren := ⟨fun | 189 => 78 | 125 => 107 | 257 => 106 | 128 => 142 | 129 => 143 | 294 => 134 | 295 => 135 | 296 => 136 | 297 => 137 | 298 => 138 | 299 => 139 | 216 => 133 | 300 => 140 | 301 => 141 | 328 => 155 | 329 => 156 | 330 => 157 | 331 => 158 | 332 => 159 | 215 => 153 | 343 => 164 | n => n, fun | 28 => 33 | 3 => 3 | 46 => 129 | 0 => 0 | 51 => 150 | 53 => 152 | 4 => 4 | 183 => 144 | 182 => 143 | 131 => 64 | 5 => 5 | 9 => 9 | 218 => 159 | 222 => 163 | 228 => 169 | 229 => 120 | n => n, fun | n => n⟩
theorem Tryz.lays189 : Go.Proofs.Lays.n189 Tryz.prog Tryz.lays189_ren := {
  mixed := by kernel_rfl
  f125 := Tryz.func107.trans (congrArg some (by kernel_rfl))
  f128 := Tryz.func142.trans (congrArg some (by kernel_rfl))
  f129 := Tryz.func143.trans (congrArg some (by kernel_rfl))
  f189 := Tryz.func78.trans (congrArg some (by kernel_rfl))
  f215 := Tryz.func153.trans (congrArg some (by kernel_rfl))
  f216 := Tryz.func133.trans (congrArg some (by kernel_rfl))
  f257 := Tryz.func106.trans (congrArg some (by kernel_rfl))
  f294 := Tryz.func134.trans (congrArg some (by kernel_rfl))
  f295 := Tryz.func135.trans (congrArg some (by kernel_rfl))
  f296 := Tryz.func136.trans (congrArg some (by kernel_rfl))
  f297 := Tryz.func137.trans (congrArg some (by kernel_rfl))
  f298 := Tryz.func138.trans (congrArg some (by kernel_rfl))
  f299 := Tryz.func139.trans (congrArg some (by kernel_rfl))
  f300 := Tryz.func140.trans (congrArg some (by kernel_rfl))
  f301 := Tryz.func141.trans (congrArg some (by kernel_rfl))
  f328 := Tryz.func155.trans (congrArg some (by kernel_rfl))
  f329 := Tryz.func156.trans (congrArg some (by kernel_rfl))
  f330 := Tryz.func157.trans (congrArg some (by kernel_rfl))
  f331 := Tryz.func158.trans (congrArg some (by kernel_rfl))
  f332 := Tryz.func159.trans (congrArg some (by kernel_rfl))
  f343 := Tryz.func164.trans (congrArg some (by kernel_rfl))
  t0 := Tryz.underlying0
  a0 := Tryz.isAgg0
  z0 := Tryz.sizeOf0
  v0 := Tryz.zeroValue0
  t3 := Tryz.underlying3
  a3 := Tryz.isAgg3
  z3 := Tryz.sizeOf3
  v3 := Tryz.zeroValue3
  t4 := Tryz.underlying4
  a4 := Tryz.isAgg4
  z4 := Tryz.sizeOf4
  v4 := Tryz.zeroValue4
  t5 := Tryz.underlying5
  a5 := Tryz.isAgg5
  z5 := Tryz.sizeOf5
  v5 := Tryz.zeroValue5
  t9 := Tryz.underlying9
  a9 := Tryz.isAgg9
  z9 := Tryz.sizeOf9
  v9 := Tryz.zeroValue9
  t28 := Tryz.underlying33
  a28 := Tryz.isAgg33
  z28 := Tryz.sizeOf33
  v28 := Tryz.zeroValue33
  t46 := Tryz.underlying129
  a46 := Tryz.isAgg129
  z46 := Tryz.sizeOf129
  v46 := Tryz.zeroValue129
  t51 := Tryz.underlying150
  a51 := Tryz.isAgg150
  z51 := Tryz.sizeOf150
  v51 := Tryz.zeroValue150
  t53 := Tryz.underlying152
  a53 := Tryz.isAgg152
  z53 := Tryz.sizeOf152
  v53 := Tryz.zeroValue152
  t131 := Tryz.underlying64
  a131 := Tryz.isAgg64
  z131 := Tryz.sizeOf64
  v131 := Tryz.zeroValue64
  t182 := Tryz.underlying143
  a182 := Tryz.isAgg143
  z182 := Tryz.sizeOf143
  v182 := Tryz.zeroValue143
  t183 := Tryz.underlying144
  a183 := Tryz.isAgg144
  z183 := Tryz.sizeOf144
  v183 := Tryz.zeroValue144
  t218 := Tryz.underlying159
  a218 := Tryz.isAgg159
  z218 := Tryz.sizeOf159
  v218 := Tryz.zeroValue159
  t222 := Tryz.underlying163
  a222 := Tryz.isAgg163
  z222 := Tryz.sizeOf163
  v222 := Tryz.zeroValue163
  t228 := Tryz.underlying169
  a228 := Tryz.isAgg169
  z228 := Tryz.sizeOf169
  v228 := Tryz.zeroValue169
  t229 := Tryz.underlying120
  a229 := Tryz.isAgg120
  z229 := Tryz.sizeOf120
  v229 := Tryz.zeroValue120 }
open Go.Sort Go.RowKit in
theorem Tryz.slices_Sort_int (blk off cap : Nat) (zs : List Int) (w : World) (hH : Holds (Value.int .i64) w blk off zs.toArray) (hblk : blk < w.heap.size) (hsz : zs.length < 4611686018427387904) :
    Calls Tryz.prog 78 #[.slice (some ⟨blk, off, none⟩) zs.length cap] w fun e w' =>
      e = .returned (.tuple #[]) ∧ ∃ n os, w' = grow (putRow (Value.int .i64) (Sort.ahead w n) blk off (zs.mergeSort fun x y => decide (x ≤ y)).toArray) os := Any.slices_Sort_int Tryz.lays189 blk off cap zs w hH hblk hsz
open Go.RowKit Go.Sort in
/-- .. and plain. (LAID: no walk: one application.) -/
theorem Tryz.slices_Sort_int_none (p : Option Addr) (cap : Nat) (w : World) :
    Calls Tryz.prog 78 #[.slice p 0 cap] w fun e w' => e = .returned (.tuple #[]) ∧ w' = w := Any.slices_Sort_int_none Tryz.lays189 p cap w
end Go.Proofs
/- slices.Sort of this program. -/
namespace Go.Proofs.YtjnmpogolknkpaaGreat
theorem sort_ctr (A : Option Addr) (n c : Nat) (zs : List Int) (L : List HP) (hA : 0 < n → ∃ b, A = some ⟨b, 0, none⟩) (hn : zs.length = n) (hbig : n ≤ 1000000) :
    Ctr Tryz.prog 78 #[.slice A n c] (own 3 1 A n c (flat zs) :: L) fun v L' => v = .tuple #[] ∧ L' = own 3 1 A n c (flat (srt zs)) :: L := by
  rcases Nat.eq_zero_or_pos n with h0 | h0
  · subst h0
    have hz : zs = [] := List.eq_nil_of_length_eq_zero hn
    subst hz
    intro g F w hw
    refine (Tryz.slices_Sort_int_none A c w).mono fun e w' ⟨h1, h2⟩ => ?_
    subst h2
    exact ⟨_, _, h1, ⟨rfl, rfl⟩, by rw [show srt [] = [] by simp [srt]]; exact hw⟩
  · intro g F w hw
    obtain ⟨b, rfl⟩ := hA h0
    exact sort_of_shelf b n c zs L hn h0 (fun w hH hb => Tryz.slices_Sort_int b 0 c zs w hH hb (by omega)) g F w hw
end Go.Proofs.YtjnmpogolknkpaaGreat
/- What a contract leaves, put otherwise. No program stands in this text. -/
namespace Go.Proofs.YtjnmpogolknkpaaGreat
theorem Ctr.post' {P : Program} {f : FuncId} {args : Array Value} {L : List HP} {post post' : Value → List HP → Prop} (h : Ctr P f args L post) (hp : ∀ v L' hm, post v L' → sat L' hm → ∃ M, post' v M ∧ sat M hm) : Ctr P f args L post' := fun g F w hw =>
  (h g F w hw).mono fun e w' ⟨v, L', e1, p, q⟩ => by
    obtain ⟨h1, h2, d, s1, s2, a, l⟩ := q.s
    obtain ⟨M, pm, sm⟩ := hp v L' h2 p l
    exact ⟨v, M, e1, pm, q.g, h1, h2, d, s1, s2, a, sm⟩
theorem Ctr.open {P : Program} {f : FuncId} {args : Array Value} {L : List HP} {A : HP} {ι : Type} {N : ι → List HP} {Fa : ι → Prop} {post : Value → List HP → Prop} (op : ∀ h, A h → ∃ x, Fa x ∧ sat (N x) h) (C : ∀ x, Fa x → Ctr P f args (N x ++ L) post) : Ctr P f args (A :: L) post := fun g F w hw => by
  obtain ⟨h1, h2, d, s1, s2, ha, hl⟩ := hw.s.swap
  obtain ⟨x, fx, nx⟩ := op _ ha
  have hs : sat (N x ++ (F :: L)) w.hm := sat.head (A := fun h => h = h1) (fun _ e => e ▸ nx) ⟨h1, h2, d, s1, s2, rfl, hl⟩
  exact C x fx g F w ⟨hw.g, hs.perm List.perm_middle⟩
end Go.Proofs.YtjnmpogolknkpaaGreat
/- A tree of middles, in the heap: what lies there. -/
namespace Go.Proofs.YtjnmpogolknkpaaGreat
set_option linter.unusedVariables false
set_option linter.unusedSimpArgs false
set_option maxRecDepth 100000

instance : Enc (Option Addr) := ⟨1, fun a => [.pointer a], fun _ => rfl, fun _ v h => by simp at h; subst h; rfl⟩
theorem Ld.of {A : HP} {N L : List HP} {a : Addr} {v : Value} (f : ∀ h, A h → sat N h) (l : Ld N a v) : Ld (A :: L) a v := ⟨fun h s => by
  obtain ⟨h1, h2, d, s1, s2, x, t⟩ := s
  exact cellOf.sub (l.1 _ (f _ x)) s1⟩
theorem LdN.of {A : HP} {N L : List HP} {b o n : Nat} {vs : List Value} (f : ∀ h, A h → sat N h) (l : LdN N b o n vs) : LdN (A :: L) b o n vs := ⟨l.1, fun j v hj => (l.2 j v hj).of f⟩
theorem Rc.ofI {Y : HP} {N L : List HP} {sz n : Nat} {A : Option Addr} {xs : List Value} (f : ∀ h, Y h → sat N h) (h : Rc N sz A n xs) : Rc (Y :: L) sz A n xs :=
  ⟨h.1, fun hn => let ⟨b, o, e, k⟩ := h.2 hn; ⟨b, o, e, fun j v hj => (k j v hj).of f⟩⟩
@[reducible] def inC (mid : Int) (A : Option Addr) (np c : Nat) (B : Option Addr) (nq d : Nat) (al ah : Option Addr) (n : Nat) : List Value := [.int .i64 mid, .slice A np c, .slice B nq d, .pointer al, .pointer ah, .int .i64 (n : Nat)]
/-- What is told of a slice of a call's own. -/
structure OF (A : Option Addr) (n c : Nat) : Prop where
  a : 0 < n → ∃ b, A = some ⟨b, 0, none⟩
  le : n ≤ c
  cap : c ≤ maxLen
def IT.fit : IT → Prop
  | .nil => True
  | .node b mid A c p B d q n lo hi => (OF A p.length c ∧ OF B q.length d) ∧ lo.fit ∧ hi.fit
def itH : IT → HP
  | .nil => fun _ => True
  | .node b mid A c p B d q n lo hi => fun h => sat [blk b 92 (inC mid A p.length c B q.length d lo.addr hi.addr n), own 24 3 A p.length c (flat p), own 24 3 B q.length d (flat q), itH lo, itH hi] h
def IIn (L : List HP) : IT → Prop
  | .nil => True
  | .node b mid A c p B d q n lo hi => (OF A p.length c ∧ OF B q.length d) ∧ LdN L b 0 6 (inC mid A p.length c B q.length d lo.addr hi.addr n) ∧ Rd L A p.length p ∧ Rd L B q.length q ∧ IIn L lo ∧ IIn L hi
theorem IIn.mono {L M : List HP} (f : ∀ h, sat M h → sat L h) : ∀ {x : IT}, IIn L x → IIn M x
  | .nil, _ => trivial
  | .node b mid A c p B d q n lo hi, h => ⟨h.1, h.2.1.mono f, h.2.2.1.mono f, h.2.2.2.1.mono f, h.2.2.2.2.1.mono f, h.2.2.2.2.2.mono f⟩
theorem IIn.skip {X : HP} {L : List HP} {x : IT} (h : IIn L x) : IIn (X :: L) x := h.mono fun _ s => s.tail
theorem IIn.app {N L : List HP} {x : IT} (h : IIn L x) : IIn (N ++ L) x := by
  induction N with
  | nil => exact h
  | cons X N ih => exact ih.skip
theorem IIn.of {A : HP} {N L : List HP} (f : ∀ h, A h → sat N h) : ∀ {x : IT}, IIn N x → IIn (A :: L) x
  | .nil, _ => trivial
  | .node b mid A c p B d q n lo hi, h => ⟨h.1, h.2.1.of f, Rc.ofI f h.2.2.1, Rc.ofI f h.2.2.2.1, h.2.2.2.2.1.of f, h.2.2.2.2.2.of f⟩
theorem IIn.fit {L : List HP} : ∀ {x : IT}, IIn L x → x.fit
  | .nil, _ => trivial
  | .node b mid A c p B d q n lo hi, h => ⟨h.1, h.2.2.2.2.1.fit, h.2.2.2.2.2.fit⟩
theorem itH_in : ∀ (x : IT) (L : List HP), x.fit → IIn (itH x :: L) x
  | .nil, _, _ => trivial
  | .node b mid A c p B d q n lo hi, L, f => IIn.of (N := [blk b 92 (inC mid A p.length c B q.length d lo.addr hi.addr n), own 24 3 A p.length c (flat p), own 24 3 B q.length d (flat q), itH lo, itH hi]) (fun _ h => h)
    ⟨f.1, LdN.blk rfl, Rd.skip (Rc.own (flat_length _) f.1.1.a), Rd.skip (Rd.skip (Rc.own (flat_length _) f.1.2.a)), (itH_in lo _ f.2.1).skip.skip.skip, (itH_in hi [] f.2.2).skip.skip.skip.skip⟩
section
variable {P : Program} {B : Exit → Act → World → Prop} {g : Glob} {n : Nat} {K : List Kt} {σ : Env} {L M : List HP} {b : Nat} {mid : Int} {A C : Option Addr} {c : Nat} {p : List Pt} {d : Nat} {q : List Pt} {m : Nat} {lo hi : IT}
def itL (b : Nat) (mid : Int) (A : Option Addr) (c : Nat) (p : List Pt) (C : Option Addr) (d : Nat) (q : List Pt) (m : Nat) (lo hi : IT) : List HP := [blk b 92 (inC mid A p.length c C q.length d lo.addr hi.addr m), own 24 3 A p.length c (flat p), own 24 3 C q.length d (flat q), itH lo, itH hi]
theorem en_it (f : ∀ h, sat L h → sat (itL b mid A c p C d q m lo hi ++ M) h) : ∀ h, sat L h → sat (itH (.node b mid A c p C d q m lo hi) :: M) h := fun h s =>
  sat.fold (N := itL b mid A c p C d q m lo hi) (fun _ h => h) (f h s)
theorem en_nil' (f : ∀ h, sat L h → sat M h) : ∀ h, sat L h → sat (itH .nil :: M) h := fun h s =>
  ⟨fun _ => none, h, fun _ => .inl rfl, fun _ _ e => (by cases e), hSub.refl _, trivial, f h s⟩
end
/-- Where the parts of a node lie. -/
structure IF (L : List HP) (b : Nat) (mid : Int) (A : Option Addr) (c : Nat) (p : List Pt) (C : Option Addr) (d : Nat) (q : List Pt) (m : Nat) (lo hi : IT) : Prop where
  f_mid : Ld L ⟨b, 0 + 0, none⟩ (.int .i64 mid)
  f_p : Ld L ⟨b, 0 + 1, none⟩ (.slice A p.length c)
  f_q : Ld L ⟨b, 0 + 2, none⟩ (.slice C q.length d)
  f_lo : Ld L ⟨b, 0 + 3 + 0 * 1, none⟩ (.pointer lo.addr)
  f_hi : Ld L ⟨b, 0 + 3 + 1 * 1, none⟩ (.pointer hi.addr)
  f_n : Ld L ⟨b, 0 + 5, none⟩ (.int .i64 (m : Nat))
  r_p : Rd L A p.length p
  r_q : Rd L C q.length q
  o_p : OF A p.length c
  o_q : OF C q.length d
  i_lo : IIn L lo
  i_hi : IIn L hi
theorem IIn.f {L : List HP} {b : Nat} {mid : Int} {A : Option Addr} {c : Nat} {p : List Pt} {C : Option Addr} {d : Nat} {q : List Pt} {m : Nat} {lo hi : IT} (h : IIn L (.node b mid A c p C d q m lo hi)) : IF L b mid A c p C d q m lo hi :=
  ⟨h.2.1.at_ (i := 0) rfl, h.2.1.at_ (i := 1) rfl, h.2.1.at_ (i := 2) rfl, h.2.1.at_ (i := 3) rfl, h.2.1.at_ (i := 4) rfl, h.2.1.at_ (i := 5) rfl, h.2.2.1, h.2.2.2.1, h.1.1, h.1.2, h.2.2.2.2.1, h.2.2.2.2.2⟩
end Go.Proofs.YtjnmpogolknkpaaGreat
/- A tree of middles, in the heap: what reads it. -/
namespace Go.Proofs.YtjnmpogolknkpaaGreat
attribute [local irreducible] sat
set_option linter.unusedVariables false
set_option linter.unusedSimpArgs false
set_option maxRecDepth 100000

theorem isize_ctr (T : IT) (L : List HP) (h : IIn L T) : Ctr Tryz.prog 47 #[.pointer T.addr] L fun v L' => v = .int .i64 (T.size : Nat) ∧ L' = L := by
  cases T with
  | nil =>
    refine Ctr_of (fn := Tryz.f47) (n := 9) Tryz.func47 rfl rfl rfl ?_
    intro g F
    (repeat first | refine G_seq ?_ | refine G_skip ?_ | refine G_endblk ?_ | refine G_block ?_ | refine G_exit rfl ?_)
    refine G_region ?_
    refine GO_q rfl rfl (ev_assign rfl) ?_
    refine GO_nil ?_
    (repeat first | refine G_seq ?_ | refine G_skip ?_ | refine G_endblk ?_ | refine G_block ?_ | refine G_exit rfl ?_)
    refine G_region ?_
    refine GO_q rfl rfl (ev_move rfl) ?_
    (first | refine GO_q rfl rfl (ev_eqlNil rfl rfl) ?_ | refine GO_q rfl rfl (ev_eqlPtr rfl rfl) ?_)
    refine GO_nil ?_
    (repeat first | refine G_seq ?_ | refine G_skip ?_ | refine G_endblk ?_ | refine G_block ?_ | refine G_exit rfl ?_)
    refine G_cond_t rfl rfl ?_
    (repeat first | refine G_seq ?_ | refine G_skip ?_ | refine G_endblk ?_ | refine G_block ?_ | refine G_exit rfl ?_)
    refine G_region ?_
    refine GO_q rfl rfl (ev_assign rfl) ?_
    refine GO_nil ?_
    (repeat first | refine G_seq ?_ | refine G_skip ?_ | refine G_endblk ?_ | refine G_block ?_ | refine G_exit rfl ?_)
    refine G_ret rfl (.tmp rfl .nil) (by (repeat first | exact fun _ s => s | apply en_keep | apply en_drop | apply en_app) <;> fail) ⟨rfl, rfl⟩
  | node b mid A c p C d q m lo hi =>
    obtain ⟨q1, q2, q3, q4, q5, q6, q7, q8, q9, q10, q11, q12⟩ := h.f
    refine Ctr_of (fn := Tryz.f47) (n := 9) Tryz.func47 rfl rfl rfl ?_
    intro g F
    (repeat first | refine G_seq ?_ | refine G_skip ?_ | refine G_endblk ?_ | refine G_block ?_ | refine G_exit rfl ?_)
    refine G_region ?_
    refine GO_q rfl rfl (ev_assign rfl) ?_
    refine GO_nil ?_
    (repeat first | refine G_seq ?_ | refine G_skip ?_ | refine G_endblk ?_ | refine G_block ?_ | refine G_exit rfl ?_)
    refine G_region ?_
    refine GO_q rfl rfl (ev_move rfl) ?_
    (first | refine GO_q rfl rfl (ev_eqlNil rfl rfl) ?_ | refine GO_q rfl rfl (ev_eqlPtr rfl rfl) ?_)
    refine GO_nil ?_
    (repeat first | refine G_seq ?_ | refine G_skip ?_ | refine G_endblk ?_ | refine G_block ?_ | refine G_exit rfl ?_)
    refine G_cond_f rfl rfl ?_
    (repeat first | refine G_seq ?_ | refine G_skip ?_ | refine G_endblk ?_ | refine G_block ?_ | refine G_exit rfl ?_)
    refine G_region ?_
    refine GO_q rfl rfl (ev_move rfl) ?_
    (first | refine GO_q rfl rfl (ev_nilCheck rfl) ?_ | refine GO_q rfl rfl (ev_nilCheckF (by simp) rfl) ?_)
    refine GO_q rfl rfl (ev_fieldAddr rfl) ?_
    refine GO_q rfl rfl (ev_load rfl (by repeat' first | exact Ld.blk rfl | assumption | apply Ld.skip | apply Ld.app)) ?_
    refine GO_q rfl rfl (ev_assign rfl) ?_
    refine GO_nil ?_
    (repeat first | refine G_seq ?_ | refine G_skip ?_ | refine G_endblk ?_ | refine G_block ?_ | refine G_exit rfl ?_)
    refine G_ret rfl (.tmp rfl .nil) (by (repeat first | exact fun _ s => s | apply en_keep | apply en_drop | apply en_app) <;> fail) ⟨rfl, rfl⟩
/-- On which side of a number an interval lies. -/
def sideI (mid : Int) (s : Pt) : Int := if s.y < mid then 0 else if mid < s.x then 1 else -1
theorem side_ctr (b : Nat) (mid : Int) (s : Pt) (L : List HP) (h : Ld L ⟨b, 0 + 0, none⟩ (.int .i64 mid)) : Ctr Tryz.prog 67 #[.pointer (some ⟨b, 0, none⟩), s.v] L fun v L' => v = .int .i64 (sideI mid s) ∧ L' = L := by
  unfold sideI
  refine Ctr_of (fn := Tryz.f67) (n := 21) Tryz.func67 rfl rfl rfl ?_
  intro g F
  (repeat first | refine G_seq ?_ | refine G_skip ?_ | refine G_endblk ?_ | refine G_block ?_ | refine G_exit rfl ?_)
  refine G_region ?_
  refine GO_eff rfl rfl (eff_box rfl) ?_; rintro _ _ ⟨b3, rfl, rfl⟩
  refine GO_q rfl rfl (ev_assign rfl) ?_
  refine GO_nil ?_
  (repeat first | refine G_seq ?_ | refine G_skip ?_ | refine G_endblk ?_ | refine G_block ?_ | refine G_exit rfl ?_)
  refine G_draw (.q 0 (.q 1 (.q 2 (.q 3 (.q 4 (.q 5 (.q 6 (.q 7 .nil)))))))) (by kernel_rfl) (by kernel_rfl) ?_
  refine RS_m retB_noPanic rfl rfl rfl rfl (ev_fieldAddr rfl) ?_
  refine RS_q retB_noPanic rfl rfl rfl rfl (ev_load rfl (by repeat' first | exact Ld.blk rfl | assumption | apply Ld.skip | apply Ld.app)) ?_
  refine RS_m retB_noPanic rfl rfl rfl rfl (ev_move rfl) ?_
  (first | refine RS_m retB_noPanic rfl rfl rfl rfl (ev_nilCheck rfl) ?_ | refine RS_m retB_noPanic rfl rfl rfl rfl (ev_nilCheckF (by simp) rfl) ?_)
  refine RS_m retB_noPanic rfl rfl rfl rfl (ev_fieldAddr rfl) ?_
  refine RS_q retB_noPanic rfl rfl rfl rfl (ev_load rfl (by repeat' first | exact Ld.blk rfl | assumption | apply Ld.skip | apply Ld.app)) ?_
  (first | refine RS_m retB_noPanic rfl rfl rfl rfl (ev_lssN rfl rfl) ?_ | refine RS_m retB_noPanic rfl rfl rfl rfl (ev_lss rfl rfl) ?_)
  refine RS_m retB_noPanic rfl rfl rfl rfl (ev_assign rfl) ?_
  refine RS_nil ?_
  (repeat first | refine G_seq ?_ | refine G_skip ?_ | refine G_endblk ?_ | refine G_block ?_ | refine G_exit rfl ?_)
  refine G_cond rfl (fun c1 => ?_) (fun c1 => ?_)
  · rw [if_pos c1]
    (repeat first | refine G_seq ?_ | refine G_skip ?_ | refine G_endblk ?_ | refine G_block ?_ | refine G_exit rfl ?_)
    refine G_region ?_
    refine GO_q rfl rfl (ev_assign rfl) ?_
    refine GO_nil ?_
    (repeat first | refine G_seq ?_ | refine G_skip ?_ | refine G_endblk ?_ | refine G_block ?_ | refine G_exit rfl ?_)
    refine G_ret rfl (.tmp rfl .nil) (by (repeat first | exact fun _ s => s | apply en_keep | apply en_drop | apply en_app) <;> fail) ⟨rfl, rfl⟩
  · rw [if_neg c1]
    (repeat first | refine G_seq ?_ | refine G_skip ?_ | refine G_endblk ?_ | refine G_block ?_ | refine G_exit rfl ?_)
    refine G_draw (.q 0 (.q 1 (.q 2 (.q 3 (.q 4 (.q 5 (.q 6 (.q 7 .nil)))))))) (by kernel_rfl) (by kernel_rfl) ?_
    refine RS_m retB_noPanic rfl rfl rfl rfl (ev_fieldAddr rfl) ?_
    refine RS_q retB_noPanic rfl rfl rfl rfl (ev_load rfl (by repeat' first | exact Ld.blk rfl | assumption | apply Ld.skip | apply Ld.app)) ?_
    refine RS_m retB_noPanic rfl rfl rfl rfl (ev_move rfl) ?_
    (first | refine RS_m retB_noPanic rfl rfl rfl rfl (ev_nilCheck rfl) ?_ | refine RS_m retB_noPanic rfl rfl rfl rfl (ev_nilCheckF (by simp) rfl) ?_)
    refine RS_m retB_noPanic rfl rfl rfl rfl (ev_fieldAddr rfl) ?_
    refine RS_q retB_noPanic rfl rfl rfl rfl (ev_load rfl (by repeat' first | exact Ld.blk rfl | assumption | apply Ld.skip | apply Ld.app)) ?_
    refine RS_m retB_noPanic rfl rfl rfl rfl (ev_gtr rfl rfl) ?_
    refine RS_m retB_noPanic rfl rfl rfl rfl (ev_assign rfl) ?_
    refine RS_nil ?_
    (repeat first | refine G_seq ?_ | refine G_skip ?_ | refine G_endblk ?_ | refine G_block ?_ | refine G_exit rfl ?_)
    refine G_cond rfl (fun c2 => ?_) (fun c2 => ?_)
    · rw [if_pos c2]
      (repeat first | refine G_seq ?_ | refine G_skip ?_ | refine G_endblk ?_ | refine G_block ?_ | refine G_exit rfl ?_)
      refine G_region ?_
      refine GO_q rfl rfl (ev_assign rfl) ?_
      refine GO_nil ?_
      (repeat first | refine G_seq ?_ | refine G_skip ?_ | refine G_endblk ?_ | refine G_block ?_ | refine G_exit rfl ?_)
      refine G_ret rfl (.tmp rfl .nil) (by (repeat first | exact fun _ s => s | apply en_keep | apply en_drop | apply en_app) <;> fail) ⟨rfl, rfl⟩
    · rw [if_neg c2]
      (repeat first | refine G_seq ?_ | refine G_skip ?_ | refine G_endblk ?_ | refine G_block ?_ | refine G_exit rfl ?_)
      refine G_region ?_
      refine GO_q rfl rfl (ev_assign rfl) ?_
      refine GO_nil ?_
      (repeat first | refine G_seq ?_ | refine G_skip ?_ | refine G_endblk ?_ | refine G_block ?_ | refine G_exit rfl ?_)
      refine G_ret rfl (.tmp rfl .nil) (by (repeat first | exact fun _ s => s | apply en_keep | apply en_drop | apply en_app) <;> fail) ⟨rfl, rfl⟩
/-- Whether a kid is too great. -/
theorem heavy_ctr (b : Nat) (mid : Int) (A : Option Addr) (c : Nat) (p : List Pt) (C : Option Addr) (d : Nat) (q : List Pt) (m : Nat) (lo hi : IT) (L : List HP) (h : IIn L (.node b mid A c p C d q m lo hi)) (hm : m ≤ 100000) :
    Ctr Tryz.prog 89 #[.pointer (some ⟨b, 0, none⟩)] L fun v L' => v = .bool (decide (3 * m / 4 < max lo.size hi.size)) ∧ L' = L := by
  obtain ⟨q1, q2, q3, q4, q5, q6, q7, q8, q9, q10, q11, q12⟩ := h.f
  refine Ctr_of (fn := Tryz.f89) (n := 23) Tryz.func89 rfl rfl rfl ?_
  intro g F
  (repeat first | refine G_seq ?_ | refine G_skip ?_ | refine G_endblk ?_ | refine G_block ?_ | refine G_exit rfl ?_)
  refine G_region ?_
  refine GO_q rfl rfl (ev_assign rfl) ?_
  refine GO_nil ?_
  (repeat first | refine G_seq ?_ | refine G_skip ?_ | refine G_endblk ?_ | refine G_block ?_ | refine G_exit rfl ?_)
  refine G_draw (.q 0 (.q 1 (.q 2 (.q 3 (.q 4 (.q 6 (.q 7 (.q 8 (.q 9 (.q 10 (.q 13 (.q 14 (.q 15 (.q 16 (.q 17 (.q 18 (.e 5 (.e 11 (.q 12 (.q 19 (.q 20 .nil))))))))))))))))))))) (by kernel_rfl) (by kernel_rfl) ?_
  refine RS_m retB_noPanic rfl rfl rfl rfl (ev_move rfl) ?_
  (first | refine RS_m retB_noPanic rfl rfl rfl rfl (ev_nilCheck rfl) ?_ | refine RS_m retB_noPanic rfl rfl rfl rfl (ev_nilCheckF (by simp) rfl) ?_)
  refine RS_m retB_noPanic rfl rfl rfl rfl (ev_fieldAddr rfl) ?_
  refine RS_m retB_noPanic rfl rfl rfl rfl (ev_indexAddrA rfl rfl (by first | omega | (simp; done) | (simp; omega)) (by first | omega | (simp; done) | (simp; omega))) ?_
  refine RS_q retB_noPanic rfl rfl rfl rfl (ev_load rfl (by repeat' first | exact Ld.blk rfl | assumption | apply Ld.skip | apply Ld.app)) ?_
  refine RS_m retB_noPanic rfl rfl rfl rfl (ev_move rfl) ?_
  (first | refine RS_m retB_noPanic rfl rfl rfl rfl (ev_nilCheck rfl) ?_ | refine RS_m retB_noPanic rfl rfl rfl rfl (ev_nilCheckF (by simp) rfl) ?_)
  refine RS_m retB_noPanic rfl rfl rfl rfl (ev_fieldAddr rfl) ?_
  refine RS_m retB_noPanic rfl rfl rfl rfl (ev_indexAddrA rfl rfl (by first | omega | (simp; done) | (simp; omega)) (by first | omega | (simp; done) | (simp; omega))) ?_
  refine RS_q retB_noPanic rfl rfl rfl rfl (ev_load rfl (by repeat' first | exact Ld.blk rfl | assumption | apply Ld.skip | apply Ld.app)) ?_
  refine RS_m retB_noPanic rfl rfl rfl rfl (ev_move rfl) ?_
  (first | refine RS_m retB_noPanic rfl rfl rfl rfl (ev_nilCheck rfl) ?_ | refine RS_m retB_noPanic rfl rfl rfl rfl (ev_nilCheckF (by simp) rfl) ?_)
  refine RS_m retB_noPanic rfl rfl rfl rfl (ev_fieldAddr rfl) ?_
  refine RS_q retB_noPanic rfl rfl rfl rfl (ev_load rfl (by repeat' first | exact Ld.blk rfl | assumption | apply Ld.skip | apply Ld.app)) ?_
  refine RS_m retB_noPanic rfl rfl rfl rfl (ev_mul (p := 3) (q := (m : Int)) rfl rfl (by omega)) ?_
  refine RS_m retB_noPanic rfl rfl rfl rfl (ev_quo (p := 3 * (m : Int)) (q := 4) rfl rfl (by omega) (by omega) (by omega)) ?_
  refine RS_e (RE_eff rfl rfl rfl (eff_call rfl (isize_ctr lo _ q11.skip)) ?_); rintro _ _ ⟨rfl, rfl⟩; refine ⟨_, fun _ s => s, (by first | ((repeat first | exact fun _ s => s | apply en_keep | apply en_drop | apply en_app) <;> fail) | ((repeat first | exact en_refl | (apply en_blk; focus ((repeat' first | exact Pick.here | apply Pick.skip | apply Pick.app); done); focus rfl) | (apply en_own; focus ((repeat' first | exact Pick.here | apply Pick.skip | apply Pick.app); done); focus rfl) | (apply en_pick; focus ((repeat' first | exact Pick.here | apply Pick.skip | apply Pick.app); done)) | apply en_drop | apply en_app) <;> fail)), ?_⟩
  refine RS_e (RE_eff rfl rfl rfl (eff_call rfl (isize_ctr hi _ q12.skip)) ?_); rintro _ _ ⟨rfl, rfl⟩; refine ⟨_, fun _ s => s, (by first | ((repeat first | exact fun _ s => s | apply en_keep | apply en_drop | apply en_app) <;> fail) | ((repeat first | exact en_refl | (apply en_blk; focus ((repeat' first | exact Pick.here | apply Pick.skip | apply Pick.app); done); focus rfl) | (apply en_own; focus ((repeat' first | exact Pick.here | apply Pick.skip | apply Pick.app); done); focus rfl) | (apply en_pick; focus ((repeat' first | exact Pick.here | apply Pick.skip | apply Pick.app); done)) | apply en_drop | apply en_app) <;> fail)), ?_⟩
  refine RS_q retB_noPanic rfl rfl rfl rfl (ev_max rfl rfl) ?_
  refine RS_m retB_noPanic rfl rfl rfl rfl (ev_gtr rfl rfl) ?_
  refine RS_m retB_noPanic rfl rfl rfl rfl (ev_assign rfl) ?_
  refine RS_nil ?_
  (repeat first | refine G_seq ?_ | refine G_skip ?_ | refine G_endblk ?_ | refine G_block ?_ | refine G_exit rfl ?_)
  refine G_ret rfl (.tmp rfl .nil) (by (repeat first | exact fun _ s => s | apply en_keep | apply en_drop | apply en_app) <;> fail) ⟨congrArg Value.bool (by rw [decide_eq_decide]; omega), rfl⟩
end Go.Proofs.YtjnmpogolknkpaaGreat
