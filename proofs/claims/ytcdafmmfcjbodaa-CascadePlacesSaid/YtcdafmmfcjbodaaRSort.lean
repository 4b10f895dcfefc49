/- The reference's points in order. -/
import Derived.Test.YtcdafmmfcjbodaaUp
namespace Go.Proofs.Ytcdafmmfcjbodaa
set_option linter.unusedVariables false
set_option linter.unusedSimpArgs false
set_option maxRecDepth 100000

/-- A point put in, behind those that do not come behind it. -/
def leU (x y : Pt) : Bool := decide (up y x ≤ 0)
def insP (x : Pt) (l : List Pt) : List Pt := l.takeWhile (leU x) ++ x :: l.dropWhile (leU x)
def sortP (l : List Pt) : List Pt := l.foldl (fun o x => insP x o) []
theorem insP_length (x : Pt) (l : List Pt) : (insP x l).length = l.length + 1 := by
  unfold insP
  have := congrArg List.length (List.takeWhile_append_dropWhile (p := leU x) (l := l))
  rw [List.length_append] at this
  rw [List.length_append, List.length_cons]
  omega
theorem insP_at (x : Pt) (l : List Pt) (k : Nat) (hk : k = (l.takeWhile (leU x)).length) : insP x l = l.take k ++ [x] ++ l.drop k := by
  have h := List.takeWhile_append_dropWhile (p := leU x) (l := l)
  have h1 : l.take k = l.takeWhile (leU x) := by
    conv => lhs; rw [← h]
    rw [hk, List.take_left]
  have h2 : l.drop k = l.dropWhile (leU x) := by
    conv => lhs; rw [← h]
    rw [hk, List.drop_left]
  rw [h1, h2]
  simp [insP]
theorem twP_lt {p : Pt → Bool} : ∀ {l : List Pt} {k : Nat}, k < (l.takeWhile p).length → ∃ v, l[k]? = some v ∧ p v = true
  | [], k, h => by simp at h
  | a :: l, k, h => by
    rw [List.takeWhile_cons] at h
    cases ha : p a with
    | false => rw [ha] at h; simp at h
    | true =>
      rw [ha] at h
      cases k with
      | zero => exact ⟨a, rfl, ha⟩
      | succ k =>
        obtain ⟨v, h1, h2⟩ := twP_lt (l := l) (k := k) (by simpa using h)
        exact ⟨v, by simpa using h1, h2⟩
theorem twP_at {p : Pt → Bool} : ∀ {l : List Pt} {v : Pt}, l[(l.takeWhile p).length]? = some v → p v = false
  | [], v, h => by simp at h
  | a :: l, v, h => by
    cases ha : p a with
    | false =>
      rw [List.takeWhile_cons, ha] at h
      simp at h; subst h; exact ha
    | true =>
      rw [List.takeWhile_cons, ha] at h
      exact twP_at (l := l) (by simpa using h)
theorem rSort_ctr (A : Option Addr) (n c : Nat) (l : List Pt) (L : List HP) (hl : Rd L A n l) (hn : n ≤ 100000) :
    Ctr Try.prog 33 #[.slice A n c] L fun v L' => ∃ A' c' N, v = .slice A' (sortP l).length c' ∧ (sortP l).length ≤ c' ∧ c' ≤ maxLen ∧ L' = N ++ L ∧ Rd (N ++ L) A' (sortP l).length (sortP l) := by
  have h1 : l.length = n := hl.len (by decide)
  refine Ctr_of (fn := Try.f33) (n := 47) Try.func33 rfl rfl rfl ?_
  intro g F
  (repeat first | refine G_seq ?_ | refine G_skip ?_ | refine G_endblk ?_ | refine G_block ?_ | refine G_exit rfl ?_)
  refine G_region ?_
  refine GO_q rfl rfl (ev_assign rfl) ?_
  refine GO_nil ?_
  (repeat first | refine G_seq ?_ | refine G_skip ?_ | refine G_endblk ?_ | refine G_block ?_ | refine G_exit rfl ?_)
  refine G_region ?_
  refine GO_eff rfl rfl eff_buildSlice0 ?_; rintro _ _ ⟨b6, rfl, rfl⟩
  refine GO_q rfl rfl (ev_assign rfl) ?_
  refine GO_nil ?_
  (repeat first | refine G_seq ?_ | refine G_skip ?_ | refine G_endblk ?_ | refine G_block ?_ | refine G_exit rfl ?_)
  refine G_region ?_
  refine GO_q rfl rfl (ev_assign rfl) ?_
  refine GO_nil ?_
  (repeat first | refine G_seq ?_ | refine G_skip ?_ | refine G_endblk ?_ | refine G_block ?_ | refine G_exit rfl ?_)
  refine G_loop (ι := Nat × Nat × Nat × List Pt) (fun x => [(0, .slice A n c), (3, .slice (some ⟨x.2.1, 0, none⟩) x.2.2.2.length x.2.2.1), (4, .int .i64 (x.1 : Nat))]) (fun x => own 60 3 (some ⟨x.2.1, 0, none⟩) x.2.2.2.length x.2.2.1 (flat x.2.2.2) :: F :: L)
    (fun x => x.1 ≤ n ∧ x.2.2.2 = sortP (l.take x.1) ∧ x.2.2.2.length = x.1 ∧ x.2.2.2.length ≤ x.2.2.1 ∧ x.2.2.1 ≤ maxLen) (fun x => n - x.1) (0, b6, 0, []) ⟨Nat.zero_le _, by simp [sortP], rfl, Nat.le_refl _, Nat.zero_le _⟩ ⟨rfl, rfl, rfl, trivial⟩ (by repeat first | exact fun _ s => s | apply en_keep | apply en_drop | apply en_app) ?_
  rintro ⟨i, b, d, out⟩ ⟨f1, f2, f3, f4, f5⟩
  simp only at f1 f2 f3 f4 f5
  dsimp only
  have f6 := f5
  unfold maxLen at f6
  (repeat first | refine G_seq ?_ | refine G_skip ?_ | refine G_endblk ?_ | refine G_block ?_ | refine G_exit rfl ?_)
  refine G_region ?_
  refine GO_q rfl rfl (ev_move rfl) ?_
  refine GO_q rfl rfl (ev_move rfl) ?_
  refine GO_q rfl rfl (ev_len rfl) ?_
  (first | refine GO_q rfl rfl (ev_lssN rfl rfl) ?_ | refine GO_q rfl rfl (ev_lss rfl rfl) ?_)
  refine GO_nil ?_
  (repeat first | refine G_seq ?_ | refine G_skip ?_ | refine G_endblk ?_ | refine G_block ?_ | refine G_exit rfl ?_)
  refine G_cond rfl (fun c1 => ?_) (fun c1 => ?_)
  · obtain ⟨lb, lo, rfl, hx⟩ := hl.at_ (by omega)
    have hg : l[i]? = some l[i] := List.getElem?_eq_getElem (by omega)
    have hs : sortP (l.take (i + 1)) = insP l[i] (sortP (l.take i)) := by
      unfold sortP; rw [List.take_succ_eq_append_getElem (by omega), List.foldl_append]; rfl
    have y1 := hx _ _ hg
    generalize l[i] = x at *
    have y2 : LdN L lb (lo + i * 3) 3 [.int .i64 x.id, .int .i64 x.x, .int .i64 x.y] := y1
    obtain ⟨w, hw⟩ : ∃ w, w = (out.takeWhile (leU x)).length := ⟨_, rfl⟩
    have hwl : w ≤ out.length := by rw [hw]; exact (List.takeWhile_prefix _).length_le
    have hin := insP_at x out w hw
    have hout : Rd (own 60 3 (some ⟨b, 0, none⟩) out.length d (flat out) :: F :: L) (some ⟨b, 0, none⟩) out.length out := Rc.own (flat_length out) (fun _ => ⟨b, rfl⟩)
    (repeat first | refine G_seq ?_ | refine G_skip ?_ | refine G_endblk ?_ | refine G_block ?_ | refine G_exit rfl ?_)
    refine G_region ?_
    refine GO_q rfl rfl (ev_assign rfl) ?_
    refine GO_nil ?_
    (repeat first | refine G_seq ?_ | refine G_skip ?_ | refine G_endblk ?_ | refine G_block ?_ | refine G_exit rfl ?_)
    refine G_loop (ι := Nat) (fun k => [(0, .slice (some ⟨lb, lo, none⟩) n c), (3, .slice (some ⟨b, 0, none⟩) out.length d), (4, .int .i64 (i : Nat)), (5, .int .i64 (k : Nat))]) (fun _ => own 60 3 (some ⟨b, 0, none⟩) out.length d (flat out) :: F :: L) (fun k => k ≤ w) (fun k => w - k) 0 (Nat.zero_le _) ⟨rfl, rfl, rfl, rfl, trivial⟩ (fun _ s => s) ?_
    intro k hk
    by_cases hko : k < out.length
    · obtain ⟨_, _, e9, hx2⟩ := hout.at_ (by omega)
      cases e9
      have hg2 : out[k]? = some out[k] := List.getElem?_eq_getElem hko
      have y3 := hx2 _ _ hg2
      have q1 : k < w → up out[k] x ≤ 0 := fun h => by
        obtain ⟨v, a1, a2⟩ := twP_lt (l := out) (k := k) (by rw [← hw]; exact h)
        rw [hg2] at a1; cases a1; simpa [leU] using a2
      have q2 : k = w → ¬ up out[k] x ≤ 0 := fun h => by
        have := twP_at (p := leU x) (l := out) (v := out[k]) (by rw [← hw, ← h]; exact hg2)
        simpa [leU] using this
      generalize out[k] = u at *
      have y4 : LdN (own 60 3 (some ⟨b, 0, none⟩) out.length d (flat out) :: F :: L) b (0 + k * 3) 3 [.int .i64 u.id, .int .i64 u.x, .int .i64 u.y] := y3
      have y5 : LdN (own 60 3 (some ⟨b, 0, none⟩) out.length d (flat out) :: F :: L) lb (lo + i * 3) 3 [.int .i64 x.id, .int .i64 x.x, .int .i64 x.y] := y2.skip.skip
      (repeat first | refine G_seq ?_ | refine G_skip ?_ | refine G_endblk ?_ | refine G_block ?_ | refine G_exit rfl ?_)
      refine G_draw (.q 0 (.q 1 (.q 2 (.q 3 (.q 4 (.q 5 (.q 6 (.q 7 (.q 8 (.q 9 (.q 10 (.q 11 (.q 12 (.e 13 (.q 14 (.q 15 .nil)))))))))))))))) (by kernel_rfl) (by kernel_rfl) ?_
      refine RS_q retB_noPanic rfl rfl rfl (ev_move rfl) ?_
      refine RS_q retB_noPanic rfl rfl rfl (ev_move rfl) ?_
      refine RS_q retB_noPanic rfl rfl rfl (ev_len rfl) ?_
      (first | refine RS_q retB_noPanic rfl rfl rfl (ev_lssN rfl rfl) ?_ | refine RS_q retB_noPanic rfl rfl rfl (ev_lss rfl rfl) ?_)
      refine RS_q retB_noPanic rfl rfl rfl (ev_move rfl) ?_
      refine RS_q_yes retB_noPanic rfl rfl rfl ⟨_, rfl, (decide_eq_true hko)⟩ rfl (ev_move rfl) ?_
      refine RS_q_yes retB_noPanic rfl rfl rfl ⟨_, rfl, (decide_eq_true hko)⟩ rfl (ev_move rfl) ?_
      (first | refine RS_q_yes retB_noPanic rfl rfl rfl ⟨_, rfl, (decide_eq_true hko)⟩ rfl (ev_indexAddrN rfl rfl (by omega)) ?_ | refine RS_q_yes retB_noPanic rfl rfl rfl ⟨_, rfl, (decide_eq_true hko)⟩ rfl (ev_indexAddr rfl rfl (by omega) (by omega)) ?_)
      refine RS_q_yes retB_noPanic rfl rfl rfl ⟨_, rfl, (decide_eq_true hko)⟩ rfl (ev_loadN rfl (by repeat' first | exact LdN.blk rfl | assumption | apply LdN.skip)) ?_
      refine RS_q_yes retB_noPanic rfl rfl rfl ⟨_, rfl, (decide_eq_true hko)⟩ rfl (ev_move rfl) ?_
      refine RS_q_yes retB_noPanic rfl rfl rfl ⟨_, rfl, (decide_eq_true hko)⟩ rfl (ev_move rfl) ?_
      (first | refine RS_q_yes retB_noPanic rfl rfl rfl ⟨_, rfl, (decide_eq_true hko)⟩ rfl (ev_indexAddrN rfl rfl (by omega)) ?_ | refine RS_q_yes retB_noPanic rfl rfl rfl ⟨_, rfl, (decide_eq_true hko)⟩ rfl (ev_indexAddr rfl rfl (by omega) (by omega)) ?_)
      refine RS_q_yes retB_noPanic rfl rfl rfl ⟨_, rfl, (decide_eq_true hko)⟩ rfl (ev_loadN rfl (by repeat' first | exact LdN.blk rfl | assumption | apply LdN.skip)) ?_
      refine RS_e (RE_eff_yes rfl rfl rfl ⟨_, rfl, (decide_eq_true hko)⟩ rfl (eff_call rfl (rUp_ctr u x _)) ?_); rintro _ _ ⟨rfl, rfl⟩; refine ⟨_, fun _ s => s, (by repeat first | exact fun _ s => s | apply en_keep | apply en_drop | apply en_app), ?_⟩
      refine RS_q_yes retB_noPanic rfl rfl rfl ⟨_, rfl, (decide_eq_true hko)⟩ rfl (ev_leq rfl rfl) ?_
      refine RS_q retB_noPanic rfl rfl rfl (ev_pick_t rfl (decide_eq_true hko) rfl) ?_
      refine RS_nil ?_
      (repeat first | refine G_seq ?_ | refine G_skip ?_ | refine G_endblk ?_ | refine G_block ?_ | refine G_exit rfl ?_)
      refine G_cond rfl (fun c2 => ?_) (fun c2 => ?_)
      · (repeat first | refine G_seq ?_ | refine G_skip ?_ | refine G_endblk ?_ | refine G_block ?_ | refine G_exit rfl ?_)
        refine G_region ?_
        refine GO_q rfl rfl (ev_move rfl) ?_
        (first | refine GO_q rfl rfl (ev_addN (q := 1) rfl rfl (by omega)) ?_ | refine GO_q rfl rfl (ev_add rfl rfl (by omega)) ?_)
        refine GO_q rfl rfl (ev_assign rfl) ?_
        refine GO_nil ?_
        (repeat first | refine G_seq ?_ | refine G_skip ?_ | refine G_endblk ?_ | refine G_block ?_ | refine G_exit rfl ?_)
        exact G_round (k + 1) (by
          rcases Nat.lt_or_ge k w with h | h
          · exact h
          · exact absurd c2 (q2 (by omega))) (by
          rcases Nat.lt_or_ge k w with h | h
          · omega
          · exact absurd c2 (q2 (by omega))) ⟨rfl, rfl, rfl, rfl, trivial⟩ (fun _ s => s)
      · have e : k = w := by
          rcases Nat.lt_or_ge k w with h | h
          · exact absurd (q1 h) c2
          · omega
        subst e
        (repeat first | refine G_seq ?_ | refine G_skip ?_ | refine G_endblk ?_ | refine G_block ?_ | refine G_exit rfl ?_)
        have m1 : Rc (own 60 3 (some ⟨b, 0, none⟩) out.length d (flat out) :: F :: L) 3 (some ⟨b, 0, none⟩) k (flat (out.take k)) := hout.take hwl
        have m2 : Rc (own 60 3 (some ⟨b, 0, none⟩) out.length d (flat out) :: F :: L) 3 (some ⟨b, (if d = k then 0 else 0 + k * 3), none⟩) (out.length - k) (flat (out.drop k)) := hout.drop hwl f4
        have y6 : LdN (own 60 3 (some ⟨b, 0, none⟩) out.length d (flat out) :: F :: L) lb (lo + i * 3) 3 [.int .i64 x.id, .int .i64 x.x, .int .i64 x.y] := y2.skip.skip
        have nn : 0 + k + 1 + (out.length - k) = (insP x out).length := by rw [insP_length]; omega
        have n2 : (insP x out).length = i + 1 := by rw [insP_length]; omega
        (repeat first | refine G_seq ?_ | refine G_skip ?_ | refine G_endblk ?_ | refine G_block ?_ | refine G_exit rfl ?_)
        refine G_draw (.q 1 (.q 2 (.q 3 (.q 5 (.q 6 (.q 7 (.q 8 (.q 11 (.q 12 (.q 13 (.br 0 (.br 4 (.e 9 (.e 10 (.e 14 (.q 15 .nil)))) 9 (.e 4 (.e 10 (.e 14 (.q 15 .nil))))) 9 (.e 0 (.e 4 (.e 10 (.e 14 (.q 15 .nil)))))))))))))))) (by kernel_rfl) (by kernel_rfl) ?_
        refine RS_q retB_noPanic rfl rfl rfl (ev_move rfl) ?_
        refine RS_q retB_noPanic rfl rfl rfl (ev_move rfl) ?_
        refine RS_q retB_noPanic rfl rfl rfl (ev_sliceH rfl rfl (by omega)) ?_
        refine RS_q retB_noPanic rfl rfl rfl (ev_move rfl) ?_
        refine RS_q retB_noPanic rfl rfl rfl (ev_move rfl) ?_
        (first | refine RS_q retB_noPanic rfl rfl rfl (ev_indexAddrN rfl rfl (by omega)) ?_ | refine RS_q retB_noPanic rfl rfl rfl (ev_indexAddr rfl rfl (by omega) (by omega)) ?_)
        refine RS_q retB_noPanic rfl rfl rfl (ev_loadN rfl (by repeat' first | exact LdN.blk rfl | assumption | apply LdN.skip)) ?_
        refine RS_q retB_noPanic rfl rfl rfl (ev_move rfl) ?_
        refine RS_q retB_noPanic rfl rfl rfl (ev_move rfl) ?_
        refine RS_q retB_noPanic rfl rfl rfl (ev_sliceL rfl rfl (by omega) (by omega)) ?_
        refine RS_br ?x5 ?z5
        case' z5 =>
          refine RE_eff rfl rfl rfl (eff_buildSlice1 (by rfl) rfl rfl) ?_; rintro _ _ ⟨b40, rfl, rfl⟩; refine ⟨_, (by repeat first | exact fun _ s => s | apply en_keep | apply en_drop | apply en_app), fun _ s => s, ?_⟩
          refine RS_e (RE_eff rfl rfl rfl eff_buildSlice0 ?_); rintro _ _ ⟨b31, rfl, rfl⟩; refine ⟨_, (by repeat first | exact fun _ s => s | apply en_keep | apply en_drop | apply en_app), fun _ s => s, ?_⟩
          refine RS_e (RE_eff rfl rfl rfl (eff_append rfl rfl (by repeat' first | exact Pick.here | apply Pick.skip) ((by repeat' first | assumption | apply Rc.skip)) ((flat_one _)) (by rfl) (by decide) (by omega) (by omega)) ?_); rintro _ _ ⟨A35, c35, rfl, hc35, hm35, hn35, rfl⟩; refine ⟨_, (by repeat first | exact fun _ s => s | apply en_keep | apply en_drop | apply en_app), fun _ s => s, ?_⟩
          refine RS_e (RE_eff rfl rfl rfl (eff_append rfl rfl (by repeat' first | exact Pick.here | apply Pick.skip) (by repeat' first | exact Rc.blk rfl | assumption | apply Rc.skip) (one_all rfl) (by rfl) (by decide) (by omega) (by omega)) ?_); rintro _ _ ⟨A41, c41, rfl, hc41, hm41, hn41, rfl⟩; refine ⟨_, (by repeat first | exact fun _ s => s | apply en_keep | apply en_drop | apply en_app), fun _ s => s, ?_⟩
          refine RS_e (RE_eff rfl rfl rfl (eff_append rfl rfl (by repeat' first | exact Pick.here | apply Pick.skip) ((by repeat' first | assumption | apply Rc.skip)) ((flat_one _)) (by rfl) (by decide) (by omega) (by omega)) ?_); rintro _ _ ⟨A45, c45, rfl, hc45, hm45, hn45, rfl⟩; refine ⟨_, (by repeat first | exact fun _ s => s | apply en_keep | apply en_drop | apply en_app), fun _ s => s, ?_⟩
          refine RS_q retB_noPanic rfl rfl rfl (ev_assign rfl) ?_
          refine RS_nil ?_
        case' x5 =>
          refine RE_eff rfl rfl rfl eff_buildSlice0 ?_; rintro _ _ ⟨b31, rfl, rfl⟩; refine ⟨_, (by repeat first | exact fun _ s => s | apply en_keep | apply en_drop | apply en_app), fun _ s => s, ?_⟩
          refine RS_br ?x6 ?z6
          case' z6 =>
            refine RE_eff rfl rfl rfl (eff_buildSlice1 (by rfl) rfl rfl) ?_; rintro _ _ ⟨b40, rfl, rfl⟩; refine ⟨_, (by repeat first | exact fun _ s => s | apply en_keep | apply en_drop | apply en_app), fun _ s => s, ?_⟩
            refine RS_e (RE_eff rfl rfl rfl (eff_append rfl rfl (by repeat' first | exact Pick.here | apply Pick.skip) ((by repeat' first | assumption | apply Rc.skip)) ((flat_one _)) (by rfl) (by decide) (by omega) (by omega)) ?_); rintro _ _ ⟨A35, c35, rfl, hc35, hm35, hn35, rfl⟩; refine ⟨_, (by repeat first | exact fun _ s => s | apply en_keep | apply en_drop | apply en_app), fun _ s => s, ?_⟩
            refine RS_e (RE_eff rfl rfl rfl (eff_append rfl rfl (by repeat' first | exact Pick.here | apply Pick.skip) (by repeat' first | exact Rc.blk rfl | assumption | apply Rc.skip) (one_all rfl) (by rfl) (by decide) (by omega) (by omega)) ?_); rintro _ _ ⟨A41, c41, rfl, hc41, hm41, hn41, rfl⟩; refine ⟨_, (by repeat first | exact fun _ s => s | apply en_keep | apply en_drop | apply en_app), fun _ s => s, ?_⟩
            refine RS_e (RE_eff rfl rfl rfl (eff_append rfl rfl (by repeat' first | exact Pick.here | apply Pick.skip) ((by repeat' first | assumption | apply Rc.skip)) ((flat_one _)) (by rfl) (by decide) (by omega) (by omega)) ?_); rintro _ _ ⟨A45, c45, rfl, hc45, hm45, hn45, rfl⟩; refine ⟨_, (by repeat first | exact fun _ s => s | apply en_keep | apply en_drop | apply en_app), fun _ s => s, ?_⟩
            refine RS_q retB_noPanic rfl rfl rfl (ev_assign rfl) ?_
            refine RS_nil ?_
          case' x6 =>
            refine RE_eff rfl rfl rfl (eff_append rfl rfl (by repeat' first | exact Pick.here | apply Pick.skip) ((by repeat' first | assumption | apply Rc.skip)) ((flat_one _)) (by rfl) (by decide) (by omega) (by omega)) ?_; rintro _ _ ⟨A35, c35, rfl, hc35, hm35, hn35, rfl⟩; refine ⟨_, (by repeat first | exact fun _ s => s | apply en_keep | apply en_drop | apply en_app), fun _ s => s, ?_⟩
            refine RS_e (RE_eff rfl rfl rfl (eff_buildSlice1 (by rfl) rfl rfl) ?_); rintro _ _ ⟨b40, rfl, rfl⟩; refine ⟨_, (by repeat first | exact fun _ s => s | apply en_keep | apply en_drop | apply en_app), fun _ s => s, ?_⟩
            refine RS_e (RE_eff rfl rfl rfl (eff_append rfl rfl (by repeat' first | exact Pick.here | apply Pick.skip) (by repeat' first | exact Rc.blk rfl | assumption | apply Rc.skip) (one_all rfl) (by rfl) (by decide) (by omega) (by omega)) ?_); rintro _ _ ⟨A41, c41, rfl, hc41, hm41, hn41, rfl⟩; refine ⟨_, (by repeat first | exact fun _ s => s | apply en_keep | apply en_drop | apply en_app), fun _ s => s, ?_⟩
            refine RS_e (RE_eff rfl rfl rfl (eff_append rfl rfl (by repeat' first | exact Pick.here | apply Pick.skip) ((by repeat' first | assumption | apply Rc.skip)) ((flat_one _)) (by rfl) (by decide) (by omega) (by omega)) ?_); rintro _ _ ⟨A45, c45, rfl, hc45, hm45, hn45, rfl⟩; refine ⟨_, (by repeat first | exact fun _ s => s | apply en_keep | apply en_drop | apply en_app), fun _ s => s, ?_⟩
            refine RS_q retB_noPanic rfl rfl rfl (ev_assign rfl) ?_
            refine RS_nil ?_
        all_goals
          obtain ⟨b9, rfl⟩ := hn45 (by omega)
          rw [nn]
          rw [nn] at hc45
          (repeat first | refine G_seq ?_ | refine G_skip ?_ | refine G_endblk ?_ | refine G_block ?_ | refine G_exit rfl ?_)
          refine G_region ?_
          refine GO_q rfl rfl (ev_move rfl) ?_
          (first | refine GO_q rfl rfl (ev_addN (q := 1) rfl rfl (by omega)) ?_ | refine GO_q rfl rfl (ev_add rfl rfl (by omega)) ?_)
          refine GO_q rfl rfl (ev_assign rfl) ?_
          refine GO_nil ?_
          (repeat first | refine G_seq ?_ | refine G_skip ?_ | refine G_endblk ?_ | refine G_block ?_ | refine G_exit rfl ?_)
          refine G_round (i + 1, b9, c45, insP x out) ⟨by simp only; omega, by simp only; rw [hs, ← f2], n2, hc45, hm45⟩ (by simp only; omega) ⟨rfl, rfl, rfl, trivial⟩ ?_
          refine en_own .here ?_ (by repeat first | exact fun _ s => s | apply en_keep | apply en_drop | apply en_app)
          rw [hin, flat_append, flat_append]
          rfl
    · have e : k = w := by omega
      subst e
      have hd9 : ¬ (k < out.length) := hko
      (repeat first | refine G_seq ?_ | refine G_skip ?_ | refine G_endblk ?_ | refine G_block ?_ | refine G_exit rfl ?_)
      refine G_draw (.q 0 (.q 1 (.q 2 (.q 3 (.q 4 (.q 5 (.q 6 (.q 7 (.q 8 (.q 9 (.q 10 (.q 11 (.q 12 (.e 13 (.q 14 (.q 15 .nil)))))))))))))))) (by kernel_rfl) (by kernel_rfl) ?_
      refine RS_q retB_noPanic rfl rfl rfl (ev_move rfl) ?_
      refine RS_q retB_noPanic rfl rfl rfl (ev_move rfl) ?_
      refine RS_q retB_noPanic rfl rfl rfl (ev_len rfl) ?_
      (first | refine RS_q retB_noPanic rfl rfl rfl (ev_lssN rfl rfl) ?_ | refine RS_q retB_noPanic rfl rfl rfl (ev_lss rfl rfl) ?_)
      refine RS_q retB_noPanic rfl rfl rfl (ev_move rfl) ?_
      refine RS_q_no retB_noPanic rfl rfl rfl ⟨_, rfl, (decide_eq_false hd9)⟩ rfl ?_
      refine RS_q_no retB_noPanic rfl rfl rfl ⟨_, rfl, (decide_eq_false hd9)⟩ rfl ?_
      refine RS_q_no retB_noPanic rfl rfl rfl ⟨_, rfl, (decide_eq_false hd9)⟩ rfl ?_
      refine RS_q_no retB_noPanic rfl rfl rfl ⟨_, rfl, (decide_eq_false hd9)⟩ rfl ?_
      refine RS_q_no retB_noPanic rfl rfl rfl ⟨_, rfl, (decide_eq_false hd9)⟩ rfl ?_
      refine RS_q_no retB_noPanic rfl rfl rfl ⟨_, rfl, (decide_eq_false hd9)⟩ rfl ?_
      refine RS_q_no retB_noPanic rfl rfl rfl ⟨_, rfl, (decide_eq_false hd9)⟩ rfl ?_
      refine RS_q_no retB_noPanic rfl rfl rfl ⟨_, rfl, (decide_eq_false hd9)⟩ rfl ?_
      refine RS_e (RE_no rfl rfl rfl ⟨_, rfl, (decide_eq_false hd9)⟩ rfl ?_)
      refine RS_q_no retB_noPanic rfl rfl rfl ⟨_, rfl, (decide_eq_false hd9)⟩ rfl ?_
      refine RS_q retB_noPanic rfl rfl rfl (ev_pick_f rfl (decide_eq_false hd9) rfl) ?_
      refine RS_nil ?_
      (repeat first | refine G_seq ?_ | refine G_skip ?_ | refine G_endblk ?_ | refine G_block ?_ | refine G_exit rfl ?_)
      refine G_cond_f rfl rfl ?_
      have m1 : Rc (own 60 3 (some ⟨b, 0, none⟩) out.length d (flat out) :: F :: L) 3 (some ⟨b, 0, none⟩) k (flat (out.take k)) := hout.take hwl
      have m2 : Rc (own 60 3 (some ⟨b, 0, none⟩) out.length d (flat out) :: F :: L) 3 (some ⟨b, (if d = k then 0 else 0 + k * 3), none⟩) (out.length - k) (flat (out.drop k)) := hout.drop hwl f4
      have y6 : LdN (own 60 3 (some ⟨b, 0, none⟩) out.length d (flat out) :: F :: L) lb (lo + i * 3) 3 [.int .i64 x.id, .int .i64 x.x, .int .i64 x.y] := y2.skip.skip
      have nn : 0 + k + 1 + (out.length - k) = (insP x out).length := by rw [insP_length]; omega
      have n2 : (insP x out).length = i + 1 := by rw [insP_length]; omega
      (repeat first | refine G_seq ?_ | refine G_skip ?_ | refine G_endblk ?_ | refine G_block ?_ | refine G_exit rfl ?_)
      refine G_draw (.q 1 (.q 2 (.q 3 (.q 5 (.q 6 (.q 7 (.q 8 (.q 11 (.q 12 (.q 13 (.br 0 (.br 4 (.e 9 (.e 10 (.e 14 (.q 15 .nil)))) 9 (.e 4 (.e 10 (.e 14 (.q 15 .nil))))) 9 (.e 0 (.e 4 (.e 10 (.e 14 (.q 15 .nil)))))))))))))))) (by kernel_rfl) (by kernel_rfl) ?_
      refine RS_q retB_noPanic rfl rfl rfl (ev_move rfl) ?_
      refine RS_q retB_noPanic rfl rfl rfl (ev_move rfl) ?_
      refine RS_q retB_noPanic rfl rfl rfl (ev_sliceH rfl rfl (by omega)) ?_
      refine RS_q retB_noPanic rfl rfl rfl (ev_move rfl) ?_
      refine RS_q retB_noPanic rfl rfl rfl (ev_move rfl) ?_
      (first | refine RS_q retB_noPanic rfl rfl rfl (ev_indexAddrN rfl rfl (by omega)) ?_ | refine RS_q retB_noPanic rfl rfl rfl (ev_indexAddr rfl rfl (by omega) (by omega)) ?_)
      refine RS_q retB_noPanic rfl rfl rfl (ev_loadN rfl (by repeat' first | exact LdN.blk rfl | assumption | apply LdN.skip)) ?_
      refine RS_q retB_noPanic rfl rfl rfl (ev_move rfl) ?_
      refine RS_q retB_noPanic rfl rfl rfl (ev_move rfl) ?_
      refine RS_q retB_noPanic rfl rfl rfl (ev_sliceL rfl rfl (by omega) (by omega)) ?_
      refine RS_br ?x7 ?z7
      case' z7 =>
        refine RE_eff rfl rfl rfl (eff_buildSlice1 (by rfl) rfl rfl) ?_; rintro _ _ ⟨b40, rfl, rfl⟩; refine ⟨_, (by repeat first | exact fun _ s => s | apply en_keep | apply en_drop | apply en_app), fun _ s => s, ?_⟩
        refine RS_e (RE_eff rfl rfl rfl eff_buildSlice0 ?_); rintro _ _ ⟨b31, rfl, rfl⟩; refine ⟨_, (by repeat first | exact fun _ s => s | apply en_keep | apply en_drop | apply en_app), fun _ s => s, ?_⟩
        refine RS_e (RE_eff rfl rfl rfl (eff_append rfl rfl (by repeat' first | exact Pick.here | apply Pick.skip) ((by repeat' first | assumption | apply Rc.skip)) ((flat_one _)) (by rfl) (by decide) (by omega) (by omega)) ?_); rintro _ _ ⟨A35, c35, rfl, hc35, hm35, hn35, rfl⟩; refine ⟨_, (by repeat first | exact fun _ s => s | apply en_keep | apply en_drop | apply en_app), fun _ s => s, ?_⟩
        refine RS_e (RE_eff rfl rfl rfl (eff_append rfl rfl (by repeat' first | exact Pick.here | apply Pick.skip) (by repeat' first | exact Rc.blk rfl | assumption | apply Rc.skip) (one_all rfl) (by rfl) (by decide) (by omega) (by omega)) ?_); rintro _ _ ⟨A41, c41, rfl, hc41, hm41, hn41, rfl⟩; refine ⟨_, (by repeat first | exact fun _ s => s | apply en_keep | apply en_drop | apply en_app), fun _ s => s, ?_⟩
        refine RS_e (RE_eff rfl rfl rfl (eff_append rfl rfl (by repeat' first | exact Pick.here | apply Pick.skip) ((by repeat' first | assumption | apply Rc.skip)) ((flat_one _)) (by rfl) (by decide) (by omega) (by omega)) ?_); rintro _ _ ⟨A45, c45, rfl, hc45, hm45, hn45, rfl⟩; refine ⟨_, (by repeat first | exact fun _ s => s | apply en_keep | apply en_drop | apply en_app), fun _ s => s, ?_⟩
        refine RS_q retB_noPanic rfl rfl rfl (ev_assign rfl) ?_
        refine RS_nil ?_
      case' x7 =>
        refine RE_eff rfl rfl rfl eff_buildSlice0 ?_; rintro _ _ ⟨b31, rfl, rfl⟩; refine ⟨_, (by repeat first | exact fun _ s => s | apply en_keep | apply en_drop | apply en_app), fun _ s => s, ?_⟩
        refine RS_br ?x8 ?z8
        case' z8 =>
          refine RE_eff rfl rfl rfl (eff_buildSlice1 (by rfl) rfl rfl) ?_; rintro _ _ ⟨b40, rfl, rfl⟩; refine ⟨_, (by repeat first | exact fun _ s => s | apply en_keep | apply en_drop | apply en_app), fun _ s => s, ?_⟩
          refine RS_e (RE_eff rfl rfl rfl (eff_append rfl rfl (by repeat' first | exact Pick.here | apply Pick.skip) ((by repeat' first | assumption | apply Rc.skip)) ((flat_one _)) (by rfl) (by decide) (by omega) (by omega)) ?_); rintro _ _ ⟨A35, c35, rfl, hc35, hm35, hn35, rfl⟩; refine ⟨_, (by repeat first | exact fun _ s => s | apply en_keep | apply en_drop | apply en_app), fun _ s => s, ?_⟩
          refine RS_e (RE_eff rfl rfl rfl (eff_append rfl rfl (by repeat' first | exact Pick.here | apply Pick.skip) (by repeat' first | exact Rc.blk rfl | assumption | apply Rc.skip) (one_all rfl) (by rfl) (by decide) (by omega) (by omega)) ?_); rintro _ _ ⟨A41, c41, rfl, hc41, hm41, hn41, rfl⟩; refine ⟨_, (by repeat first | exact fun _ s => s | apply en_keep | apply en_drop | apply en_app), fun _ s => s, ?_⟩
          refine RS_e (RE_eff rfl rfl rfl (eff_append rfl rfl (by repeat' first | exact Pick.here | apply Pick.skip) ((by repeat' first | assumption | apply Rc.skip)) ((flat_one _)) (by rfl) (by decide) (by omega) (by omega)) ?_); rintro _ _ ⟨A45, c45, rfl, hc45, hm45, hn45, rfl⟩; refine ⟨_, (by repeat first | exact fun _ s => s | apply en_keep | apply en_drop | apply en_app), fun _ s => s, ?_⟩
          refine RS_q retB_noPanic rfl rfl rfl (ev_assign rfl) ?_
          refine RS_nil ?_
        case' x8 =>
          refine RE_eff rfl rfl rfl (eff_append rfl rfl (by repeat' first | exact Pick.here | apply Pick.skip) ((by repeat' first | assumption | apply Rc.skip)) ((flat_one _)) (by rfl) (by decide) (by omega) (by omega)) ?_; rintro _ _ ⟨A35, c35, rfl, hc35, hm35, hn35, rfl⟩; refine ⟨_, (by repeat first | exact fun _ s => s | apply en_keep | apply en_drop | apply en_app), fun _ s => s, ?_⟩
          refine RS_e (RE_eff rfl rfl rfl (eff_buildSlice1 (by rfl) rfl rfl) ?_); rintro _ _ ⟨b40, rfl, rfl⟩; refine ⟨_, (by repeat first | exact fun _ s => s | apply en_keep | apply en_drop | apply en_app), fun _ s => s, ?_⟩
          refine RS_e (RE_eff rfl rfl rfl (eff_append rfl rfl (by repeat' first | exact Pick.here | apply Pick.skip) (by repeat' first | exact Rc.blk rfl | assumption | apply Rc.skip) (one_all rfl) (by rfl) (by decide) (by omega) (by omega)) ?_); rintro _ _ ⟨A41, c41, rfl, hc41, hm41, hn41, rfl⟩; refine ⟨_, (by repeat first | exact fun _ s => s | apply en_keep | apply en_drop | apply en_app), fun _ s => s, ?_⟩
          refine RS_e (RE_eff rfl rfl rfl (eff_append rfl rfl (by repeat' first | exact Pick.here | apply Pick.skip) ((by repeat' first | assumption | apply Rc.skip)) ((flat_one _)) (by rfl) (by decide) (by omega) (by omega)) ?_); rintro _ _ ⟨A45, c45, rfl, hc45, hm45, hn45, rfl⟩; refine ⟨_, (by repeat first | exact fun _ s => s | apply en_keep | apply en_drop | apply en_app), fun _ s => s, ?_⟩
          refine RS_q retB_noPanic rfl rfl rfl (ev_assign rfl) ?_
          refine RS_nil ?_
      all_goals
        obtain ⟨b9, rfl⟩ := hn45 (by omega)
        rw [nn]
        rw [nn] at hc45
        (repeat first | refine G_seq ?_ | refine G_skip ?_ | refine G_endblk ?_ | refine G_block ?_ | refine G_exit rfl ?_)
        refine G_region ?_
        refine GO_q rfl rfl (ev_move rfl) ?_
        (first | refine GO_q rfl rfl (ev_addN (q := 1) rfl rfl (by omega)) ?_ | refine GO_q rfl rfl (ev_add rfl rfl (by omega)) ?_)
        refine GO_q rfl rfl (ev_assign rfl) ?_
        refine GO_nil ?_
        (repeat first | refine G_seq ?_ | refine G_skip ?_ | refine G_endblk ?_ | refine G_block ?_ | refine G_exit rfl ?_)
        refine G_round (i + 1, b9, c45, insP x out) ⟨by simp only; omega, by simp only; rw [hs, ← f2], n2, hc45, hm45⟩ (by simp only; omega) ⟨rfl, rfl, rfl, trivial⟩ ?_
        refine en_own .here ?_ (by repeat first | exact fun _ s => s | apply en_keep | apply en_drop | apply en_app)
        rw [hin, flat_append, flat_append]
        rfl
  · have e : i = n := by omega
    subst e
    have e2 : out = sortP l := by rw [f2, List.take_of_length_le (by omega)]
    subst e2
    (repeat first | refine G_seq ?_ | refine G_skip ?_ | refine G_endblk ?_ | refine G_block ?_ | refine G_exit rfl ?_)
    refine G_region ?_
    refine GO_q rfl rfl (ev_move rfl) ?_
    refine GO_q rfl rfl (ev_assign rfl) ?_
    refine GO_nil ?_
    (repeat first | refine G_seq ?_ | refine G_skip ?_ | refine G_endblk ?_ | refine G_block ?_ | refine G_exit rfl ?_)
    exact G_ret (L' := [own 60 3 (some ⟨b, 0, none⟩) (sortP l).length d (flat (sortP l))] ++ L) rfl (.tmp rfl .nil) (fun _ s => s.swap) ⟨some ⟨b, 0, none⟩, d, [own 60 3 (some ⟨b, 0, none⟩) (sortP l).length d (flat (sortP l))], rfl, f4, f5, rfl, Rc.own (flat_length _) (fun _ => ⟨b, rfl⟩)⟩
end Go.Proofs.Ytcdafmmfcjbodaa
