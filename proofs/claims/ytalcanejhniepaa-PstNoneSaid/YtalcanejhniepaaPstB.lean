/- Trees that are heaps by Y: seen, report. -/
import Derived.Test.YtalcanejhniepaaPst9
namespace Go.Proofs.Ytalcanejhniepaa
attribute [local irreducible] sat
set_option linter.unusedVariables false
set_option linter.unusedSimpArgs false
set_option maxRecDepth 100000

theorem len_wt : ∀ l : List PA, l.length ≤ wt l
  | [] => Nat.le_refl _
  | y :: l => by have := len_wt l; rw [wt_cons, List.length_cons]; omega
theorem seen_ctr : ∀ (N : Nat) (w : Wn) (xs : List PA) (A : Option Addr) (n c : Nat) (L : List HP), wt xs = N → wt xs ≤ 300000 → n ≤ 300000 → (∀ x ∈ xs, PIn L x) → Rd L A n (addrs xs) →
    Ctr Try.prog 79 #[.agg #[.int .i64 w.x1, .int .i64 w.x2, .int .i64 w.y], .slice A n c] L fun v L' => Made 3 (seenL w xs) L v L' := by
  intro N
  induction N using Nat.strongRecOn with
  | _ N ih =>
    intro w xs A n c L hN hbig hn hx hr
    have h1 : xs.length = n := by rw [← addrs_len]; exact hr.len (by decide)
    refine Ctr_of (fn := Try.f79) (n := 38) Try.func79 rfl rfl rfl ?_
    intro g F
    (repeat first | refine G_seq ?_ | refine G_skip ?_ | refine G_endblk ?_ | refine G_block ?_ | refine G_exit rfl ?_)
    refine G_region ?_
    refine GO_eff rfl rfl (eff_box rfl) ?_; rintro _ _ ⟨b2, rfl, rfl⟩
    refine GO_q rfl rfl (ev_assign rfl) ?_
    refine GO_nil ?_
    (repeat first | refine G_seq ?_ | refine G_skip ?_ | refine G_endblk ?_ | refine G_block ?_ | refine G_exit rfl ?_)
    refine G_region ?_
    refine GO_q rfl rfl (ev_assign rfl) ?_
    refine GO_nil ?_
    (repeat first | refine G_seq ?_ | refine G_skip ?_ | refine G_endblk ?_ | refine G_block ?_ | refine G_exit rfl ?_)
    refine G_region ?_
    refine GO_q rfl rfl (ev_move rfl) ?_
    refine GO_q rfl rfl (ev_len rfl) ?_
    refine GO_q rfl rfl (ev_move rfl) ?_
    refine GO_nil ?_
    (repeat first | refine G_seq ?_ | refine G_skip ?_ | refine G_endblk ?_ | refine G_block ?_ | refine G_exit rfl ?_)
    refine G_heap (own.nil_ 3 1) ?_
    refine G_loop (ι := Nat × Option Addr × Nat × List Int) (fun x => [(2, .pointer (some ⟨b2, 0, none⟩)), (5, .slice x.2.1 x.2.2.2.length x.2.2.1), (10, .slice A n c), (11, .int .i64 (n : Nat)), (12, .int .i64 (x.1 : Nat))]) (fun x => own 3 1 x.2.1 x.2.2.2.length x.2.2.1 (flat x.2.2.2) :: blk b2 45 [.int .i64 w.x1, .int .i64 w.x2, .int .i64 w.y] :: F :: L)
      (fun x => x.1 ≤ n ∧ x.2.2.2 = seenL w (xs.take x.1) ∧ (0 < x.2.2.2.length → ∃ b, x.2.1 = some ⟨b, 0, none⟩)) (fun x => n - x.1) (0, none, 0, []) ⟨Nat.zero_le _, by simp [seenL], fun h => absurd h (Nat.lt_irrefl 0)⟩ ⟨rfl, rfl, rfl, rfl, rfl, trivial⟩ (by (repeat first | exact en_refl | (apply en_blk; focus ((repeat' first | exact Pick.here | apply Pick.skip | apply Pick.app); done); focus rfl) | (apply en_own; focus ((repeat' first | exact Pick.here | apply Pick.skip | apply Pick.app); done); focus rfl) | (apply en_pick; focus ((repeat' first | exact Pick.here | apply Pick.skip | apply Pick.app); done)) | apply en_drop | apply en_app) <;> fail) ?_
    rintro ⟨k, A1, c1, zs⟩ ⟨f1, f2, f3⟩
    simp only at f1 f2 f3
    dsimp only
    (repeat first | refine G_seq ?_ | refine G_skip ?_ | refine G_endblk ?_ | refine G_block ?_ | refine G_exit rfl ?_)
    refine G_region ?_
    (first | refine GO_q rfl rfl (ev_lssN rfl rfl) ?_ | refine GO_q rfl rfl (ev_lss rfl rfl) ?_)
    refine GO_nil ?_
    (repeat first | refine G_seq ?_ | refine G_skip ?_ | refine G_endblk ?_ | refine G_block ?_ | refine G_exit rfl ?_)
    refine G_cond rfl (fun h4 => ?_) (fun h4 => ?_)
    · obtain ⟨lb, lo, rfl, hx2⟩ := hr.at_ (by omega)
      have g1 : xs[k]? = some xs[k] := List.getElem?_eq_getElem (by omega)
      have g2 : (addrs xs)[k]? = some xs[k].addr := by simp [addrs, g1]
      have y1 := (hx2 _ _ g2).at_ (i := 0) rfl
      have hk := seenL_take w xs k _ g1
      have hin := hx _ (List.getElem_mem (by omega : k < xs.length))
      have hse := xs[k].seen_eq w
      have hwn := xs[k].wt_next w
      have hsl := seenL_len w (xs.take k)
      have hwt : wt (xs.take k) + (2 * xs[k].t.size + 1) ≤ wt xs := by
        have e : wt (xs.take (k + 1)) ≤ wt xs := by
          conv => rhs; rw [← List.take_append_drop (k + 1) xs]
          rw [wt_append]; omega
        rw [List.take_succ_eq_append_getElem (by omega), wt_append, wt_cons] at e
        simp [wt] at e ⊢
        omega
      generalize xs[k] = x at *
      have z1 : Ld L ⟨lb, lo + k * 1, none⟩ (.pointer x.addr) := y1
      have hzl : zs.length ≤ wt (xs.take k) := by rw [f2]; exact hsl
      have hnl := seenL_len w (x.next w)
      (repeat first | refine G_seq ?_ | refine G_skip ?_ | refine G_endblk ?_ | refine G_block ?_ | refine G_exit rfl ?_)
      refine G_region ?_
      (first | refine GO_q rfl rfl (ev_indexAddrN rfl rfl (by first | omega | (simp; done) | (simp; omega))) ?_ | refine GO_q rfl rfl (ev_indexAddr rfl rfl (by first | omega | (simp; done) | (simp; omega)) (by first | omega | (simp; done) | (simp; omega))) ?_)
      refine GO_q rfl rfl (ev_load rfl (by repeat' first | exact Ld.blk rfl | assumption | apply Ld.skip | apply Ld.app)) ?_
      refine GO_q rfl rfl (ev_assign rfl) ?_
      refine GO_nil ?_
      (repeat first | refine G_seq ?_ | refine G_skip ?_ | refine G_endblk ?_ | refine G_block ?_ | refine G_exit rfl ?_)
      refine G_region ?_
      refine GO_q rfl rfl (ev_move rfl) ?_
      refine GO_q rfl rfl (ev_loadN rfl (by repeat' first | exact LdN.blk rfl | assumption | apply LdN.skip | apply LdN.app)) ?_
      refine GO_eff rfl rfl (eff_call rfl (look_ctr x w _ hin.skip.skip.skip)) ?_; rintro _ _ ⟨A19, c19, rfl, hA19, rfl⟩
      refine GO_q rfl rfl (ev_move rfl) ?_
      refine GO_q rfl rfl (ev_extract rfl rfl) ?_
      refine GO_q rfl rfl (ev_extract rfl rfl) ?_
      refine GO_q rfl rfl (ev_assign rfl) ?_
      refine GO_q rfl rfl (ev_assign rfl) ?_
      refine GO_nil ?_
      (repeat first | refine G_seq ?_ | refine G_skip ?_ | refine G_endblk ?_ | refine G_block ?_ | refine G_exit rfl ?_)
      refine G_region ?_
      refine GO_q rfl rfl (ev_move rfl) ?_
      refine GO_nil ?_
      have hnx : ∀ L', Rc (own 67 1 A19 (x.next w).length c19 (flat (addrs (x.next w))) :: L') 1 A19 (x.next w).length (flat (addrs (x.next w))) := fun L' => Rc.own (by rw [flat_length, addrs_len]; rfl) hA19
      have hnw := len_wt (x.next w)
      cases hh : x.hit w with
      | true =>
        cases x with
        | nil => cases hh
        | node b p s lo_ hi_ =>
          obtain ⟨q1, q2, q3, q4, q5, q6, q7, q8, q9⟩ := hin.f
          rw [hh] at hse
          (repeat first | refine G_seq ?_ | refine G_skip ?_ | refine G_endblk ?_ | refine G_block ?_ | refine G_exit rfl ?_)
          refine G_cond_t rfl rfl ?_
          (repeat first | refine G_seq ?_ | refine G_skip ?_ | refine G_endblk ?_ | refine G_block ?_ | refine G_exit rfl ?_)
          refine G_region ?_
          refine GO_q rfl rfl (ev_move rfl) ?_
          refine GO_q rfl rfl (ev_move rfl) ?_
          (first | refine GO_q rfl rfl (ev_nilCheck rfl) ?_ | refine GO_q rfl rfl (ev_nilCheckF (by simp) rfl) ?_)
          refine GO_q rfl rfl (ev_fieldAddr rfl) ?_
          refine GO_q rfl rfl (ev_fieldAddr rfl) ?_
          refine GO_q rfl rfl (ev_load rfl (by repeat' first | exact Ld.blk rfl | assumption | apply Ld.skip | apply Ld.app)) ?_
          refine GO_eff rfl rfl (eff_buildSlice1 (by rfl) rfl rfl) ?_; rintro _ _ ⟨b29, rfl, rfl⟩
          refine GO_eff rfl rfl (eff_append rfl rfl (by repeat' first | exact Pick.here | apply Pick.skip) (by repeat' first | exact Rc.blk rfl | assumption | apply Rc.skip) (one_all rfl) (by rfl) (by decide) (by first | omega | (simp; done) | (simp; omega)) (by first | omega | (simp; done) | (simp; omega))) ?_; rintro _ _ ⟨A30, c30, rfl, hc30, hm30, hn30, rfl⟩
          refine GO_q rfl rfl (ev_assign rfl) ?_
          refine GO_nil ?_
          (repeat first | refine G_seq ?_ | refine G_skip ?_ | refine G_endblk ?_ | refine G_block ?_ | refine G_exit rfl ?_)
          refine G_region ?_
          refine GO_q rfl rfl (ev_move rfl) ?_
          refine GO_q rfl rfl (ev_loadN rfl (by repeat' first | exact LdN.blk rfl | assumption | apply LdN.skip | apply LdN.app)) ?_
          refine GO_q rfl rfl (ev_move rfl) ?_
          refine GO_eff rfl rfl (eff_call rfl (ih (wt ((PA.node b p s lo_ hi_).next w)) (by omega) w _ A19 _ c19 _ rfl (by omega) (by omega) (fun y hy => by have h9 := next_in w hin y hy; repeat' first | exact h9 | apply PIn.skip) (by repeat' first | exact hnx _ | apply Rd.skip))) ?_; rintro _ _ ⟨A34, c34, rfl, hA34, rfl⟩
          refine GO_eff rfl rfl (eff_append rfl rfl (by repeat' first | exact Pick.here | apply Pick.skip) ((by repeat' first | exact Rc.own (flat_length _) hA34 | apply Rc.skip)) ((flat_one _)) (by rfl) (by decide) (by first | omega | (simp; done) | (simp; omega)) (by first | omega | (simp; done) | (simp; omega))) ?_; rintro _ _ ⟨A35, c35, rfl, hc35, hm35, hn35, rfl⟩
          refine GO_q rfl rfl (ev_assign rfl) ?_
          refine GO_nil ?_
          (repeat first | refine G_seq ?_ | refine G_skip ?_ | refine G_endblk ?_ | refine G_block ?_ | refine G_exit rfl ?_)
          refine G_region ?_
          (first | refine GO_q rfl rfl (ev_addN (q := 1) rfl rfl (by first | omega | (simp; done) | (simp; omega))) ?_ | refine GO_q rfl rfl (ev_add rfl rfl (by first | omega | (simp; done) | (simp; omega))) ?_)
          refine GO_q rfl rfl (ev_move rfl) ?_
          refine GO_nil ?_
          (repeat first | refine G_seq ?_ | refine G_skip ?_ | refine G_endblk ?_ | refine G_block ?_ | refine G_exit rfl ?_)
          have e9 : seenL w (xs.take (k + 1)) = (zs ++ [p.id]) ++ seenL w ((PA.node b p s lo_ hi_).next w) := by rw [hk, hse, f2, if_pos rfl, List.append_assoc]; rfl
          have l9 : ((zs ++ [p.id]) ++ seenL w ((PA.node b p s lo_ hi_).next w)).length = zs.length + 1 + (seenL w ((PA.node b p s lo_ hi_).next w)).length := by rw [List.length_append, List.length_append]; rfl
          exact G_round (k + 1, A35, c35, (zs ++ [p.id]) ++ seenL w ((PA.node b p s lo_ hi_).next w)) ⟨by simp only; omega, e9.symm, fun _ => hn35 (by omega)⟩ (by simp only; omega) ⟨rfl, by rw [l9]; rfl, rfl, rfl, rfl, trivial⟩ (by
            rw [l9, flat_append, flat_append]
            exact (by (repeat first | exact en_refl | (apply en_blk; focus ((repeat' first | exact Pick.here | apply Pick.skip | apply Pick.app); done); focus rfl) | (apply en_own; focus ((repeat' first | exact Pick.here | apply Pick.skip | apply Pick.app); done); focus rfl) | (apply en_pick; focus ((repeat' first | exact Pick.here | apply Pick.skip | apply Pick.app); done)) | apply en_drop | apply en_app) <;> fail))
      | false =>
        rw [hh] at hse
        (repeat first | refine G_seq ?_ | refine G_skip ?_ | refine G_endblk ?_ | refine G_block ?_ | refine G_exit rfl ?_)
        refine G_cond_f rfl rfl ?_
        (repeat first | refine G_seq ?_ | refine G_skip ?_ | refine G_endblk ?_ | refine G_block ?_ | refine G_exit rfl ?_)
        refine G_region ?_
        refine GO_q rfl rfl (ev_move rfl) ?_
        refine GO_q rfl rfl (ev_loadN rfl (by repeat' first | exact LdN.blk rfl | assumption | apply LdN.skip | apply LdN.app)) ?_
        refine GO_q rfl rfl (ev_move rfl) ?_
        refine GO_eff rfl rfl (eff_call rfl (ih (wt (x.next w)) (by omega) w _ A19 _ c19 _ rfl (by omega) (by omega) (fun y hy => by have h9 := next_in w hin y hy; repeat' first | exact h9 | apply PIn.skip) (by repeat' first | exact hnx _ | apply Rd.skip))) ?_; rintro _ _ ⟨A34, c34, rfl, hA34, rfl⟩
        refine GO_eff rfl rfl (eff_append rfl rfl (by repeat' first | exact Pick.here | apply Pick.skip) ((by repeat' first | exact Rc.own (flat_length _) hA34 | apply Rc.skip)) ((flat_one _)) (by rfl) (by decide) (by first | omega | (simp; done) | (simp; omega)) (by first | omega | (simp; done) | (simp; omega))) ?_; rintro _ _ ⟨A35, c35, rfl, hc35, hm35, hn35, rfl⟩
        refine GO_q rfl rfl (ev_assign rfl) ?_
        refine GO_nil ?_
        (repeat first | refine G_seq ?_ | refine G_skip ?_ | refine G_endblk ?_ | refine G_block ?_ | refine G_exit rfl ?_)
        refine G_region ?_
        (first | refine GO_q rfl rfl (ev_addN (q := 1) rfl rfl (by first | omega | (simp; done) | (simp; omega))) ?_ | refine GO_q rfl rfl (ev_add rfl rfl (by first | omega | (simp; done) | (simp; omega))) ?_)
        refine GO_q rfl rfl (ev_move rfl) ?_
        refine GO_nil ?_
        (repeat first | refine G_seq ?_ | refine G_skip ?_ | refine G_endblk ?_ | refine G_block ?_ | refine G_exit rfl ?_)
        have e9 : seenL w (xs.take (k + 1)) = zs ++ seenL w (x.next w) := by rw [hk, hse, f2, if_neg (by simp)]; rfl
        have l9 : (zs ++ seenL w (x.next w)).length = zs.length + (seenL w (x.next w)).length := List.length_append
        exact G_round (k + 1, A35, c35, zs ++ seenL w (x.next w)) ⟨by simp only; omega, e9.symm, fun h => hn35 (by rw [← l9]; exact h)⟩ (by simp only; omega) ⟨rfl, by rw [l9]; rfl, rfl, rfl, rfl, trivial⟩ (by
          rw [l9, flat_append]
          exact (by (repeat first | exact en_refl | (apply en_blk; focus ((repeat' first | exact Pick.here | apply Pick.skip | apply Pick.app); done); focus rfl) | (apply en_own; focus ((repeat' first | exact Pick.here | apply Pick.skip | apply Pick.app); done); focus rfl) | (apply en_pick; focus ((repeat' first | exact Pick.here | apply Pick.skip | apply Pick.app); done)) | apply en_drop | apply en_app) <;> fail))
    · have e : k = n := by omega
      subst e
      rw [← h1, List.take_length] at f2
      (repeat first | refine G_seq ?_ | refine G_skip ?_ | refine G_endblk ?_ | refine G_block ?_ | refine G_exit rfl ?_)
      refine G_region ?_
      refine GO_q rfl rfl (ev_move rfl) ?_
      refine GO_q rfl rfl (ev_assign rfl) ?_
      refine GO_nil ?_
      (repeat first | refine G_seq ?_ | refine G_skip ?_ | refine G_endblk ?_ | refine G_block ?_ | refine G_exit rfl ?_)
      rw [← f2]
      exact G_ret (L' := own 3 1 A1 zs.length c1 (flat zs) :: L) rfl (.tmp rfl .nil) (by (repeat first | exact en_refl | (apply en_blk; focus ((repeat' first | exact Pick.here | apply Pick.skip | apply Pick.app); done); focus rfl) | (apply en_own; focus ((repeat' first | exact Pick.here | apply Pick.skip | apply Pick.app); done); focus rfl) | (apply en_pick; focus ((repeat' first | exact Pick.here | apply Pick.skip | apply Pick.app); done)) | apply en_drop | apply en_app) <;> fail) ⟨A1, c1, rfl, f3, rfl⟩
/-- A tree as a whole: its root, and how many there may be. -/
@[reducible] def treeC (x : PA) (most : Int) : List Value := [.pointer x.addr, .int .i64 most]
theorem top_ctr (b : Nat) (x : PA) (most : Int) (L : List HP) (h : LdN L b 0 2 (treeC x most)) : Ctr Try.prog 55 #[.pointer (some ⟨b, 0, none⟩)] L fun v L' => v = .pointer x.addr ∧ L' = L := by
  have h1 : Ld L ⟨b, 0 + 0, none⟩ (.pointer x.addr) := h.at_ (i := 0) rfl
  refine Ctr_of (fn := Try.f55) (n := 9) Try.func55 rfl rfl rfl ?_
  intro g F
  (repeat first | refine G_seq ?_ | refine G_skip ?_ | refine G_endblk ?_ | refine G_block ?_ | refine G_exit rfl ?_)
  refine G_region ?_
  refine GO_q rfl rfl (ev_assign rfl) ?_
  refine GO_nil ?_
  (repeat first | refine G_seq ?_ | refine G_skip ?_ | refine G_endblk ?_ | refine G_block ?_ | refine G_exit rfl ?_)
  refine G_region ?_
  refine GO_q rfl rfl (ev_move rfl) ?_
  (first | refine GO_q rfl rfl (ev_eqlNil rfl rfl) ?_ | refine GO_q rfl rfl (ev_eqlPtr rfl rfl) ?_)
  refine GO_nil ?_
  (repeat first | refine G_seq ?_ | refine G_skip ?_ | refine G_endblk ?_ | refine G_block ?_ | refine G_exit rfl ?_)
  refine G_cond_f rfl rfl ?_
  (repeat first | refine G_seq ?_ | refine G_skip ?_ | refine G_endblk ?_ | refine G_block ?_ | refine G_exit rfl ?_)
  refine G_region ?_
  refine GO_q rfl rfl (ev_move rfl) ?_
  (first | refine GO_q rfl rfl (ev_nilCheck rfl) ?_ | refine GO_q rfl rfl (ev_nilCheckF (by simp) rfl) ?_)
  refine GO_q rfl rfl (ev_fieldAddr rfl) ?_
  refine GO_q rfl rfl (ev_load rfl (by repeat' first | exact Ld.blk rfl | assumption | apply Ld.skip | apply Ld.app)) ?_
  refine GO_q rfl rfl (ev_assign rfl) ?_
  refine GO_nil ?_
  (repeat first | refine G_seq ?_ | refine G_skip ?_ | refine G_endblk ?_ | refine G_block ?_ | refine G_exit rfl ?_)
  refine G_ret rfl (.tmp rfl .nil) (by (repeat first | exact fun _ s => s | apply en_keep | apply en_drop | apply en_app) <;> fail) ⟨rfl, rfl⟩
theorem Root_ctr (b : Nat) (x : PA) (most : Int) (L : List HP) (h : LdN L b 0 2 (treeC x most)) : Ctr Try.prog 34 #[.pointer (some ⟨b, 0, none⟩)] L fun v L' => v = .pointer x.addr ∧ L' = L := by
  refine Ctr_of (fn := Try.f34) (n := 5) Try.func34 rfl rfl rfl ?_
  intro g F
  (repeat first | refine G_seq ?_ | refine G_skip ?_ | refine G_endblk ?_ | refine G_block ?_ | refine G_exit rfl ?_)
  refine G_region ?_
  refine GO_q rfl rfl (ev_assign rfl) ?_
  refine GO_nil ?_
  (repeat first | refine G_seq ?_ | refine G_skip ?_ | refine G_endblk ?_ | refine G_block ?_ | refine G_exit rfl ?_)
  refine G_region ?_
  refine GO_q rfl rfl (ev_move rfl) ?_
  refine GO_eff rfl rfl (eff_call rfl (top_ctr b x most _ h.skip)) ?_; rintro _ _ ⟨rfl, rfl⟩
  refine GO_q rfl rfl (ev_assign rfl) ?_
  refine GO_nil ?_
  (repeat first | refine G_seq ?_ | refine G_skip ?_ | refine G_endblk ?_ | refine G_block ?_ | refine G_exit rfl ?_)
  refine G_ret rfl (.tmp rfl .nil) (by (repeat first | exact fun _ s => s | apply en_keep | apply en_drop | apply en_app) <;> fail) ⟨rfl, rfl⟩
theorem PLen_ctr (b : Nat) (x : PA) (most : Int) (L : List HP) (h : LdN L b 0 2 (treeC x most)) (hx : PIn L x) : Ctr Try.prog 23 #[.pointer (some ⟨b, 0, none⟩)] L fun v L' => v = .int .i64 (x.t.size : Nat) ∧ L' = L := by
  refine Ctr_of (fn := Try.f23) (n := 6) Try.func23 rfl rfl rfl ?_
  intro g F
  (repeat first | refine G_seq ?_ | refine G_skip ?_ | refine G_endblk ?_ | refine G_block ?_ | refine G_exit rfl ?_)
  refine G_region ?_
  refine GO_q rfl rfl (ev_assign rfl) ?_
  refine GO_nil ?_
  (repeat first | refine G_seq ?_ | refine G_skip ?_ | refine G_endblk ?_ | refine G_block ?_ | refine G_exit rfl ?_)
  refine G_region ?_
  refine GO_q rfl rfl (ev_move rfl) ?_
  refine GO_eff rfl rfl (eff_call rfl (top_ctr b x most _ h.skip)) ?_; rintro _ _ ⟨rfl, rfl⟩
  refine GO_eff rfl rfl (eff_call rfl (rsize_ctr x _ hx.skip)) ?_; rintro _ _ ⟨rfl, rfl⟩
  refine GO_q rfl rfl (ev_assign rfl) ?_
  refine GO_nil ?_
  (repeat first | refine G_seq ?_ | refine G_skip ?_ | refine G_endblk ?_ | refine G_block ?_ | refine G_exit rfl ?_)
  refine G_ret rfl (.tmp rfl .nil) (by (repeat first | exact fun _ s => s | apply en_keep | apply en_drop | apply en_app) <;> fail) ⟨rfl, rfl⟩
theorem PDepth_ctr (b : Nat) (x : PA) (most : Int) (L : List HP) (h : LdN L b 0 2 (treeC x most)) (hx : PIn L x) (hs : x.t.size ≤ 100000) : Ctr Try.prog 28 #[.pointer (some ⟨b, 0, none⟩)] L fun v L' => v = .int .i64 (x.t.depth : Nat) ∧ L' = L := by
  refine Ctr_of (fn := Try.f28) (n := 6) Try.func28 rfl rfl rfl ?_
  intro g F
  (repeat first | refine G_seq ?_ | refine G_skip ?_ | refine G_endblk ?_ | refine G_block ?_ | refine G_exit rfl ?_)
  refine G_region ?_
  refine GO_q rfl rfl (ev_assign rfl) ?_
  refine GO_nil ?_
  (repeat first | refine G_seq ?_ | refine G_skip ?_ | refine G_endblk ?_ | refine G_block ?_ | refine G_exit rfl ?_)
  refine G_region ?_
  refine GO_q rfl rfl (ev_move rfl) ?_
  refine GO_eff rfl rfl (eff_call rfl (top_ctr b x most _ h.skip)) ?_; rintro _ _ ⟨rfl, rfl⟩
  refine GO_eff rfl rfl (eff_call rfl (depth_ctr x _ hx.skip hs)) ?_; rintro _ _ ⟨rfl, rfl⟩
  refine GO_q rfl rfl (ev_assign rfl) ?_
  refine GO_nil ?_
  (repeat first | refine G_seq ?_ | refine G_skip ?_ | refine G_endblk ?_ | refine G_block ?_ | refine G_exit rfl ?_)
  refine G_ret rfl (.tmp rfl .nil) (by (repeat first | exact fun _ s => s | apply en_keep | apply en_drop | apply en_app) <;> fail) ⟨rfl, rfl⟩
/-- What a window sees, rising. -/
theorem report_ctr (b : Nat) (x : PA) (most : Int) (w : Wn) (L : List HP) (h : LdN L b 0 2 (treeC x most)) (hx : PIn L x) (hs : x.t.size ≤ 100000) :
    Ctr Try.prog 53 #[.pointer (some ⟨b, 0, none⟩), .agg #[.int .i64 w.x1, .int .i64 w.x2, .int .i64 w.y]] L fun v L' => Made 3 (srt (x.seen w)) L v L' := by
  have hsl : (srt (x.seen w)).length = (x.seen w).length := by rw [srt, List.length_mergeSort]
  have hl := x.seen_len w
  have hS : seenL w [x] = x.seen w := by simp [seenL]
  have hw : wt [x] = 2 * x.t.size + 1 := by simp [wt]
  have Z := fun A c L' h1 h2 => seen_ctr (wt [x]) w [x] A 1 c L' rfl (by omega) (by omega) h1 h2
  rw [hS] at Z
  refine Ctr_of (fn := Try.f53) (n := 14) Try.func53 rfl rfl rfl ?_
  intro g F
  have hxs : ∀ B1 B2, ∀ y ∈ [x], PIn (B1 :: B2 :: F :: L) y := fun B1 B2 y hy => by
    rw [List.mem_singleton] at hy; subst hy; exact hx.skip.skip.skip
  (repeat first | refine G_seq ?_ | refine G_skip ?_ | refine G_endblk ?_ | refine G_block ?_ | refine G_exit rfl ?_)
  refine G_region ?_
  refine GO_eff rfl rfl (eff_box rfl) ?_; rintro _ _ ⟨b3, rfl, rfl⟩
  refine GO_q rfl rfl (ev_assign rfl) ?_
  refine GO_nil ?_
  (repeat first | refine G_seq ?_ | refine G_skip ?_ | refine G_endblk ?_ | refine G_block ?_ | refine G_exit rfl ?_)
  refine G_draw (.q 0 (.q 1 (.e 2 (.e 3 (.e 4 (.q 5 .nil)))))) (by kernel_rfl) (by kernel_rfl) ?_
  refine RS_q retB_noPanic rfl rfl rfl (ev_loadN rfl (by repeat' first | exact LdN.blk rfl | assumption | apply LdN.skip | apply LdN.app)) ?_
  refine RS_q retB_noPanic rfl rfl rfl (ev_move rfl) ?_
  refine RS_e (RE_eff rfl rfl rfl (eff_call rfl (top_ctr b x most _ h.skip.skip)) ?_); rintro _ _ ⟨rfl, rfl⟩; refine ⟨_, fun _ s => s, (by first | ((repeat first | exact fun _ s => s | apply en_keep | apply en_drop | apply en_app) <;> fail) | ((repeat first | exact en_refl | (apply en_blk; focus ((repeat' first | exact Pick.here | apply Pick.skip | apply Pick.app); done); focus rfl) | (apply en_own; focus ((repeat' first | exact Pick.here | apply Pick.skip | apply Pick.app); done); focus rfl) | (apply en_pick; focus ((repeat' first | exact Pick.here | apply Pick.skip | apply Pick.app); done)) | apply en_drop | apply en_app) <;> fail)), ?_⟩
  refine RS_e (RE_eff rfl rfl rfl (eff_buildSlice1 (by rfl) rfl rfl) ?_); rintro _ _ ⟨b9, rfl, rfl⟩; refine ⟨_, fun _ s => s, (by first | ((repeat first | exact fun _ s => s | apply en_keep | apply en_drop | apply en_app) <;> fail) | ((repeat first | exact en_refl | (apply en_blk; focus ((repeat' first | exact Pick.here | apply Pick.skip | apply Pick.app); done); focus rfl) | (apply en_own; focus ((repeat' first | exact Pick.here | apply Pick.skip | apply Pick.app); done); focus rfl) | (apply en_pick; focus ((repeat' first | exact Pick.here | apply Pick.skip | apply Pick.app); done)) | apply en_drop | apply en_app) <;> fail)), ?_⟩
  refine RS_e (RE_eff rfl rfl rfl (eff_call rfl (Z (some ⟨b9, 0, none⟩) 1 _ (hxs _ _) (Rc.blk rfl))) ?_); rintro _ _ ⟨A10, c10, rfl, hA10, rfl⟩; refine ⟨_, fun _ s => s, (by first | ((repeat first | exact fun _ s => s | apply en_keep | apply en_drop | apply en_app) <;> fail) | ((repeat first | exact en_refl | (apply en_blk; focus ((repeat' first | exact Pick.here | apply Pick.skip | apply Pick.app); done); focus rfl) | (apply en_own; focus ((repeat' first | exact Pick.here | apply Pick.skip | apply Pick.app); done); focus rfl) | (apply en_pick; focus ((repeat' first | exact Pick.here | apply Pick.skip | apply Pick.app); done)) | apply en_drop | apply en_app) <;> fail)), ?_⟩
  refine RS_q retB_noPanic rfl rfl rfl (ev_assign rfl) ?_
  refine RS_nil ?_
  (repeat first | refine G_seq ?_ | refine G_skip ?_ | refine G_endblk ?_ | refine G_block ?_ | refine G_exit rfl ?_)
  refine G_region ?_
  refine GO_q rfl rfl (ev_move rfl) ?_
  refine GO_eff rfl rfl (eff_call rfl (Ctr.pick (by repeat' first | exact Pick.here | apply Pick.skip | apply Pick.app) (sort_ctr A10 _ c10 (x.seen w) _ hA10 rfl (by omega)))) ?_; rintro _ _ ⟨rfl, rfl⟩
  refine GO_nil ?_
  (repeat first | refine G_seq ?_ | refine G_skip ?_ | refine G_endblk ?_ | refine G_block ?_ | refine G_exit rfl ?_)
  refine G_region ?_
  refine GO_q rfl rfl (ev_move rfl) ?_
  refine GO_q rfl rfl (ev_assign rfl) ?_
  refine GO_nil ?_
  (repeat first | refine G_seq ?_ | refine G_skip ?_ | refine G_endblk ?_ | refine G_block ?_ | refine G_exit rfl ?_)
  exact G_ret (L' := own 3 1 A10 (srt (x.seen w)).length c10 (flat (srt (x.seen w))) :: L) rfl (.tmp rfl .nil) (by rw [hsl]; exact (by (repeat first | exact en_refl | (apply en_blk; focus ((repeat' first | exact Pick.here | apply Pick.skip | apply Pick.app); done); focus rfl) | (apply en_own; focus ((repeat' first | exact Pick.here | apply Pick.skip | apply Pick.app); done); focus rfl) | (apply en_pick; focus ((repeat' first | exact Pick.here | apply Pick.skip | apply Pick.app); done)) | apply en_drop | apply en_app) <;> fail)) ⟨A10, c10, by rw [hsl]; rfl, by rw [hsl]; exact hA10, rfl⟩
theorem Report_ctr (b : Nat) (x : PA) (most : Int) (w : Wn) (L : List HP) (h : LdN L b 0 2 (treeC x most)) (hx : PIn L x) (hs : x.t.size ≤ 100000) :
    Ctr Try.prog 21 #[.pointer (some ⟨b, 0, none⟩), .agg #[.int .i64 w.x1, .int .i64 w.x2, .int .i64 w.y]] L fun v L' => Made 3 (srt (x.seen w)) L v L' := by
  refine Ctr_of (fn := Try.f21) (n := 8) Try.func21 rfl rfl rfl ?_
  intro g F
  (repeat first | refine G_seq ?_ | refine G_skip ?_ | refine G_endblk ?_ | refine G_block ?_ | refine G_exit rfl ?_)
  refine G_region ?_
  refine GO_eff rfl rfl (eff_box rfl) ?_; rintro _ _ ⟨b3, rfl, rfl⟩
  refine GO_q rfl rfl (ev_assign rfl) ?_
  refine GO_nil ?_
  (repeat first | refine G_seq ?_ | refine G_skip ?_ | refine G_endblk ?_ | refine G_block ?_ | refine G_exit rfl ?_)
  refine G_region ?_
  refine GO_q rfl rfl (ev_move rfl) ?_
  refine GO_q rfl rfl (ev_loadN rfl (by repeat' first | exact LdN.blk rfl | assumption | apply LdN.skip | apply LdN.app)) ?_
  refine GO_eff rfl rfl (eff_call rfl (report_ctr b x most w _ h.skip.skip hx.skip.skip hs)) ?_; rintro _ _ ⟨A7, c7, rfl, hA7, rfl⟩
  refine GO_q rfl rfl (ev_assign rfl) ?_
  refine GO_nil ?_
  (repeat first | refine G_seq ?_ | refine G_skip ?_ | refine G_endblk ?_ | refine G_block ?_ | refine G_exit rfl ?_)
  exact G_ret (L' := own 3 1 A7 (srt (x.seen w)).length c7 (flat (srt (x.seen w))) :: L) rfl (.tmp rfl .nil) (by (repeat first | exact en_refl | (apply en_blk; focus ((repeat' first | exact Pick.here | apply Pick.skip | apply Pick.app); done); focus rfl) | (apply en_own; focus ((repeat' first | exact Pick.here | apply Pick.skip | apply Pick.app); done); focus rfl) | (apply en_pick; focus ((repeat' first | exact Pick.here | apply Pick.skip | apply Pick.app); done)) | apply en_drop | apply en_app) <;> fail) ⟨A7, c7, rfl, hA7, rfl⟩
theorem Count_ctr (b : Nat) (x : PA) (most : Int) (w : Wn) (L : List HP) (h : LdN L b 0 2 (treeC x most)) (hx : PIn L x) (hs : x.t.size ≤ 100000) :
    Ctr Try.prog 27 #[.pointer (some ⟨b, 0, none⟩), .agg #[.int .i64 w.x1, .int .i64 w.x2, .int .i64 w.y]] L fun v L' => v = .int .i64 ((x.seen w).length : Nat) ∧ L' = L := by
  have hsl : (srt (x.seen w)).length = (x.seen w).length := by rw [srt, List.length_mergeSort]
  refine Ctr_of (fn := Try.f27) (n := 9) Try.func27 rfl rfl rfl ?_
  intro g F
  (repeat first | refine G_seq ?_ | refine G_skip ?_ | refine G_endblk ?_ | refine G_block ?_ | refine G_exit rfl ?_)
  refine G_region ?_
  refine GO_eff rfl rfl (eff_box rfl) ?_; rintro _ _ ⟨b3, rfl, rfl⟩
  refine GO_q rfl rfl (ev_assign rfl) ?_
  refine GO_nil ?_
  (repeat first | refine G_seq ?_ | refine G_skip ?_ | refine G_endblk ?_ | refine G_block ?_ | refine G_exit rfl ?_)
  refine G_region ?_
  refine GO_q rfl rfl (ev_move rfl) ?_
  refine GO_q rfl rfl (ev_loadN rfl (by repeat' first | exact LdN.blk rfl | assumption | apply LdN.skip | apply LdN.app)) ?_
  refine GO_eff rfl rfl (eff_call rfl (report_ctr b x most w _ h.skip.skip hx.skip.skip hs)) ?_; rintro _ _ ⟨A7, c7, rfl, hA7, rfl⟩
  refine GO_q rfl rfl (ev_len rfl) ?_
  refine GO_q rfl rfl (ev_assign rfl) ?_
  refine GO_nil ?_
  (repeat first | refine G_seq ?_ | refine G_skip ?_ | refine G_endblk ?_ | refine G_block ?_ | refine G_exit rfl ?_)
  exact G_ret (L' := L) rfl (.tmp rfl .nil) (by (repeat first | exact en_refl | (apply en_blk; focus ((repeat' first | exact Pick.here | apply Pick.skip | apply Pick.app); done); focus rfl) | (apply en_own; focus ((repeat' first | exact Pick.here | apply Pick.skip | apply Pick.app); done); focus rfl) | (apply en_pick; focus ((repeat' first | exact Pick.here | apply Pick.skip | apply Pick.app); done)) | apply en_drop | apply en_app) <;> fail) ⟨by rw [← hsl]; rfl, rfl⟩
end Go.Proofs.Ytalcanejhniepaa
