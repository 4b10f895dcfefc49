/- Slices over iterators: Values, AppendSeq, Collect, Sorted of numbers. -/
import Derived.Test.YtmgkmammkmlakaaGreatRng
import Derived.Test.YtmgkmammkmlakaaGreatPostC
import Derived.Test.YtmgkmammkmlakaaGreatEnd
import Derived.Test.YtmgkmammkmlakaaGreatSortC
import Derived.Test.YtmgkmammkmlakaaGreatStd
import Derived.Test.YtmgkmammkmlakaaGreatTy7z
namespace Go.Proofs.YtmgkmammkmlakaaGreat
attribute [local irreducible] sat
open Go.RowKit
set_option linter.unusedVariables false
set_option linter.unusedSimpArgs false
set_option maxRecDepth 100000

theorem Values_ctr (A : Option Addr) (n c : Nat) (L : List HP) : Ctr Tryz.prog 81 #[.slice A n c] L fun v L' => ∃ b, v = .func (.func 113) #[] #[.pointer (some ⟨b, 0, none⟩)] ∧ L' = blk b 31 [.slice A n c] :: L := by
  refine Ctr_of (fn := Tryz.f81) (n := 4) Tryz.func81 rfl rfl rfl ?_
  intro g F
  (repeat first | refine G_seq ?_ | refine G_skip ?_ | refine G_endblk ?_ | refine G_block ?_ | refine G_exit rfl ?_)
  refine G_region ?_
  refine GO_eff rfl rfl (eff_box rfl) ?_; rintro _ _ ⟨b1, rfl, rfl⟩
  refine GO_q rfl rfl (ev_assign rfl) ?_
  refine GO_nil ?_
  (repeat first | refine G_seq ?_ | refine G_skip ?_ | refine G_endblk ?_ | refine G_block ?_ | refine G_exit rfl ?_)
  refine G_region ?_
  refine GO_q rfl rfl (ev_makeFunc rfl rfl) ?_
  refine GO_q rfl rfl (ev_assign rfl) ?_
  refine GO_nil ?_
  (repeat first | refine G_seq ?_ | refine G_skip ?_ | refine G_endblk ?_ | refine G_block ?_ | refine G_exit rfl ?_)
  exact G_ret (L' := blk b1 31 [.slice A n c] :: L) rfl (.tmp rfl .nil) (by (repeat first | exact en_refl | (apply en_blk; focus ((repeat' first | exact Pick.here | apply Pick.skip | apply Pick.app); done); focus rfl) | (apply en_own; focus ((repeat' first | exact Pick.here | apply Pick.skip | apply Pick.app); done); focus rfl) | (apply en_pick; focus ((repeat' first | exact Pick.here | apply Pick.skip | apply Pick.app); done)) | apply en_drop | apply en_app) <;> fail) ⟨b1, rfl, rfl⟩
theorem vals_ctr {S : Type} (l b : Nat) (A : Option Addr) (n c : Nat) (xs : List Int) (L : Nat → S → List HP) (Inv : Nat → S → Prop) (hRd : ∀ k s, Inv k s → Rd (L k s) A n xs) (hn : n ≤ 1000000)
    (hy : ∀ k s x, xs[k]? = some x → Inv k s → Yld Tryz.prog l [.int .i64 x] (L k s) fun q L' => q = true ∧ ∃ s', Inv (k + 1) s' ∧ L' = L (k + 1) s') (s0 : S) (h0 : Inv 0 s0) :
    Ctr Tryz.prog 113 #[Value.func (.yield l) #[] #[], .pointer (some ⟨b, 0, none⟩)] (blk b 31 [.slice A n c] :: L 0 s0) fun v L' => v = .tuple #[] ∧ ∃ s', Inv n s' ∧ L' = blk b 31 [.slice A n c] :: L n s' := by
  have hlen : xs.length = n := (hRd 0 s0 h0).len (by decide)
  refine Ctr_of (fn := Tryz.f113) (n := 16) Tryz.func113 rfl rfl rfl ?_
  intro g F
  (repeat first | refine G_seq ?_ | refine G_skip ?_ | refine G_endblk ?_ | refine G_block ?_ | refine G_exit rfl ?_)
  refine G_region ?_
  refine GO_q rfl rfl (ev_load rfl (by repeat' first | exact Ld.blk rfl | assumption | apply Ld.skip | apply Ld.app)) ?_
  refine GO_q rfl rfl (ev_len rfl) ?_
  refine GO_q rfl rfl (ev_move rfl) ?_
  refine GO_nil ?_
  (repeat first | refine G_seq ?_ | refine G_skip ?_ | refine G_endblk ?_ | refine G_block ?_ | refine G_exit rfl ?_)
  refine G_loop (ι := Nat × S) (fun z => [(0, Value.func (.yield l) #[] #[]), (5, .slice A n c), (6, .int .i64 (n : Nat)), (7, .int .i64 (z.1 : Nat))]) (fun z => F :: blk b 31 [.slice A n c] :: L z.1 z.2) (fun z => z.1 ≤ n ∧ Inv z.1 z.2) (fun z => n - z.1) (0, s0) ⟨Nat.zero_le _, h0⟩ ⟨rfl, rfl, rfl, rfl, trivial⟩ (by (repeat first | exact fun _ s => s | apply en_keep | apply en_drop | apply en_app) <;> fail) ?_
  rintro ⟨k, s⟩ ⟨f1, f2⟩
  simp only at f1 f2
  dsimp only
  (repeat first | refine G_seq ?_ | refine G_skip ?_ | refine G_endblk ?_ | refine G_block ?_ | refine G_exit rfl ?_)
  refine G_region ?_
  (first | refine GO_q rfl rfl (ev_lssN rfl rfl) ?_ | refine GO_q rfl rfl (ev_lss rfl rfl) ?_)
  refine GO_nil ?_
  (repeat first | refine G_seq ?_ | refine G_skip ?_ | refine G_endblk ?_ | refine G_block ?_ | refine G_exit rfl ?_)
  refine G_cond rfl (fun c1 => ?_) (fun c1 => ?_)
  · obtain ⟨b1, o1, rfl, x1⟩ := (hRd k s f2).at_ (by omega)
    have g1 : xs[k]? = some xs[k] := List.getElem?_eq_getElem (by omega)
    have y1 := (x1 _ _ g1).at_ (i := 0) rfl
    have hyk := hy k s _ g1 f2
    generalize xs[k] = u at *
    (repeat first | refine G_seq ?_ | refine G_skip ?_ | refine G_endblk ?_ | refine G_block ?_ | refine G_exit rfl ?_)
    refine G_region ?_
    (first | refine GO_q rfl rfl (ev_indexAddrN rfl rfl (by first | omega | (simp; done) | (simp; omega))) ?_ | refine GO_q rfl rfl (ev_indexAddr rfl rfl (by first | omega | (simp; done) | (simp; omega)) (by first | omega | (simp; done) | (simp; omega))) ?_)
    refine GO_q rfl rfl (ev_load rfl (Ld.skip (Ld.skip y1))) ?_
    refine GO_q rfl rfl (ev_assign rfl) ?_
    refine GO_nil ?_
    (repeat first | refine G_seq ?_ | refine G_skip ?_ | refine G_endblk ?_ | refine G_block ?_ | refine G_exit rfl ?_)
    refine G_region ?_
    refine GO_q rfl rfl (ev_move rfl) ?_
    refine GO_q rfl rfl (ev_move rfl) ?_
    refine GO_yield rfl rfl rfl (Yld.frame [F, blk b 31 [.slice (some ⟨b1, o1, none⟩) n c]] hyk (fun _ s => s)) ?_
    rintro q L' ⟨L1, ⟨rfl, s', hs', rfl⟩, rfl⟩
    refine GO_q rfl rfl (ev_not rfl) ?_
    refine GO_nil ?_
    (repeat first | refine G_seq ?_ | refine G_skip ?_ | refine G_endblk ?_ | refine G_block ?_ | refine G_exit rfl ?_)
    refine G_cond_f rfl rfl ?_
    (repeat first | refine G_seq ?_ | refine G_skip ?_ | refine G_endblk ?_ | refine G_block ?_ | refine G_exit rfl ?_)
    refine G_region ?_
    (first | refine GO_q rfl rfl (ev_addN (q := 1) rfl rfl (by first | omega | (simp; done) | (simp; omega))) ?_ | refine GO_q rfl rfl (ev_add rfl rfl (by first | omega | (simp; done) | (simp; omega))) ?_)
    refine GO_q rfl rfl (ev_move rfl) ?_
    refine GO_nil ?_
    (repeat first | refine G_seq ?_ | refine G_skip ?_ | refine G_endblk ?_ | refine G_block ?_ | refine G_exit rfl ?_)
    exact G_round (k + 1, s') ⟨by simp only; omega, hs'⟩ (by simp only; omega) ⟨rfl, rfl, rfl, rfl, trivial⟩ (by (repeat first | exact fun _ s => s | apply en_keep | apply en_drop | apply en_app) <;> fail)
  · have e : k = n := by omega
    subst e
    (repeat first | refine G_seq ?_ | refine G_skip ?_ | refine G_endblk ?_ | refine G_block ?_ | refine G_exit rfl ?_)
    exact G_end (rs := []) (vs := []) (L' := blk b 31 [.slice A k c] :: L k s) rfl .nil (by (repeat first | exact fun _ s => s | apply en_keep | apply en_drop | apply en_app) <;> fail) ⟨rfl, s, f2, rfl⟩
theorem AppendSeq_ctr (b : Nat) (A : Option Addr) (n c : Nat) (xs : List Int) (L : List HP) (hRd : Rd L A n xs) (hn : n ≤ 1000000) :
    Ctr Tryz.prog 134 #[.slice none 0 0, .func (.func 113) #[] #[.pointer (some ⟨b, 0, none⟩)]] (blk b 31 [.slice A n c] :: L) fun v L' => ∃ B e, v = .slice B xs.length e ∧ ((0 < xs.length → ∃ b, B = some ⟨b, 0, none⟩) ∧ xs.length ≤ e ∧ e ≤ maxLen) ∧ L' = own 3 1 B xs.length e (flat xs) :: blk b 31 [.slice A n c] :: L := by
  have hlen : xs.length = n := hRd.len (by decide)
  refine Ctr_ofM (fn := Tryz.f134) (n := 13) Tryz.func134 rfl rfl rfl ?_
  intro g F hgb
  (repeat first | refine G_seq ?_ | refine G_skip ?_ | refine G_endblk ?_ | refine G_block ?_ | refine G_exit rfl ?_)
  refine G_region ?_
  refine GO_eff rfl rfl (eff_box rfl) ?_; rintro _ _ ⟨b2, rfl, rfl⟩
  refine GO_q rfl rfl (ev_assign rfl) ?_
  refine GO_nil ?_
  (repeat first | refine G_seq ?_ | refine G_skip ?_ | refine G_endblk ?_ | refine G_block ?_ | refine G_exit rfl ?_)
  refine G_region ?_
  refine GO_q rfl rfl (ev_move rfl) ?_
  refine GO_nil ?_
  (repeat first | refine G_seq ?_ | refine G_skip ?_ | refine G_endblk ?_ | refine G_block ?_ | refine G_exit rfl ?_)
  refine G_heap (own.nil_ 3 1) ?_
  refine G_range1 (f := 113) (c1 := []) (c2 := [.pointer (some ⟨b, 0, none⟩)]) (post := fun p L1 => p = none ∧ ∃ s : Option Addr × Nat, ((0 < n → ∃ b, s.1 = some ⟨b, 0, none⟩) ∧ n ≤ s.2 ∧ s.2 ≤ maxLen) ∧ L1 = own 3 1 s.1 n s.2 (flat (xs.take n)) :: blk b2 31 [.slice s.1 n s.2] :: F :: blk b 31 [.slice A n c] :: L) (by rw [← hgb]; rfl) rfl rfl ?_ ?_ ?_
  · intro l d R hR
    have hv := vals_ctr (S := Option Addr × Nat) l b A n c xs
      (fun k s => obj l (R .ready none) :: obj d (.deferred (some [])) :: own 3 1 s.1 k s.2 (flat (xs.take k)) :: blk b2 31 [.slice s.1 k s.2] :: F :: L)
      (fun k s => (0 < k → ∃ b, s.1 = some ⟨b, 0, none⟩) ∧ k ≤ s.2 ∧ s.2 ≤ maxLen)
      (fun k s _ => hRd.skip.skip.skip.skip.skip) hn ?_ (none, 0) ⟨fun h => absurd h (Nat.lt_irrefl 0), Nat.le_refl _, Nat.zero_le _⟩
    · refine (Ctr.pre (by (repeat first | exact en_refl | (apply en_blk; focus ((repeat' first | exact Pick.here | apply Pick.skip | apply Pick.app); done); focus rfl) | (apply en_own; focus ((repeat' first | exact Pick.here | apply Pick.skip | apply Pick.app); done); focus rfl) | (apply en_pick; focus ((repeat' first | exact Pick.here | apply Pick.skip | apply Pick.app); done)) | apply en_drop | apply en_app) <;> fail) hv).post' ?_
      rintro v L' hm ⟨rfl, s, hs, rfl⟩ hsat
      refine ⟨_, ⟨.ready, none, _, (by decide), ⟨rfl, s, hs, rfl⟩, rfl⟩, ?_⟩
      revert hm
      exact (by (repeat first | exact en_refl | (apply en_blk; focus ((repeat' first | exact Pick.here | apply Pick.skip | apply Pick.app); done); focus rfl) | (apply en_own; focus ((repeat' first | exact Pick.here | apply Pick.skip | apply Pick.app); done); focus rfl) | (apply en_pick; focus ((repeat' first | exact Pick.here | apply Pick.skip | apply Pick.app); done)) | apply en_drop | apply en_app) <;> fail)
    · intro k s x hx ⟨i1, i2, i3⟩
      have hk : k < n := by rw [← hlen]; exact (List.getElem?_eq_some_iff.1 hx).1
      have e2 : xs.take (k + 1) = xs.take k ++ [x] := by
        rw [List.take_add_one, hx]; rfl
      have htl : (xs.take k).length = k := by rw [List.length_take]; omega
      refine hR (ι := Unit) (τ := fun _ => [(2, .pointer (some ⟨b2, 0, none⟩)), (5, .int .i64 x)]) (M := fun _ => obj d (.deferred (some [])) :: own 3 1 s.1 k s.2 (flat (xs.take k)) :: blk b2 31 [.slice s.1 k s.2] :: F :: L) (Fy := fun _ => True) ?_ ?_
      · intro g F' _ _
        (repeat first | refine G_seq ?_ | refine G_skip ?_ | refine G_endblk ?_ | refine G_block ?_ | refine G_exit rfl ?_)
        refine G_region ?_
        refine GO_q rfl rfl (ev_assign rfl) ?_
        refine GO_nil ?_
        exact G_rndStart () trivial ⟨rfl, rfl, trivial⟩ (by (repeat first | exact fun _ s => s | apply en_keep | apply en_drop | apply en_app) <;> fail)
      · intro g F' _ _ _ _
        (repeat first | refine G_seq ?_ | refine G_skip ?_ | refine G_endblk ?_ | refine G_block ?_ | refine G_exit rfl ?_)
        (repeat first | refine G_seq ?_ | refine G_skip ?_ | refine G_endblk ?_ | refine G_block ?_ | refine G_exit rfl ?_)
        refine G_region ?_
        refine GO_q rfl rfl (ev_load rfl (by repeat' first | exact Ld.blk rfl | assumption | apply Ld.skip | apply Ld.app)) ?_
        refine GO_q rfl rfl (ev_move rfl) ?_
        refine GO_eff rfl rfl (eff_buildSlice1 (by rfl) rfl rfl) ?_; rintro _ _ ⟨b10, rfl, rfl⟩
        refine GO_eff rfl rfl (eff_append rfl rfl (by repeat' first | exact Pick.here | apply Pick.skip) (by repeat' first | exact Rc.blk rfl | assumption | apply Rc.skip) (one_all rfl) (by rfl) (by decide) (by first | omega | (simp; done) | (simp; omega)) (by first | omega | (simp; done) | (simp; omega))) ?_; rintro _ _ ⟨A11, c11, rfl, hc11, hm11, hn11, rfl⟩
        refine GO_eff rfl rfl (eff_store rfl rfl rfl (by repeat' first | exact Upd.here rfl | apply Upd.skip | apply Upd.app)) ?_; rintro _ _ ⟨rfl, rfl⟩
        refine GO_nil ?_
        (repeat first | refine G_seq ?_ | refine G_skip ?_ | refine G_endblk ?_ | refine G_block ?_ | refine G_exit rfl ?_)
        have e3 : flat (xs.take (k + 1)) = flat (xs.take k) ++ [.int .i64 x] := by rw [e2, ← flat_snoc]; rfl
        exact G_rndEnd (obj d (.deferred (some [])) :: own 3 1 A11 (k + 1) c11 (flat (xs.take k) ++ [.int .i64 x]) :: blk b2 31 [.slice A11 (k + 1) c11] :: F :: L) ⟨rfl, (A11, c11), ⟨hn11, hc11, hm11⟩, by rw [e3]⟩ (by (repeat first | exact en_refl | (apply en_blk; focus ((repeat' first | exact Pick.here | apply Pick.skip | apply Pick.app); done); focus rfl) | (apply en_own; focus ((repeat' first | exact Pick.here | apply Pick.skip | apply Pick.app); done); focus rfl) | (apply en_pick; focus ((repeat' first | exact Pick.here | apply Pick.skip | apply Pick.app); done)) | apply en_drop | apply en_app) <;> fail)
  · rintro d L1 ⟨-, ⟨B, e⟩, ⟨i1, i2, i3⟩, rfl⟩
    have e2 : xs.take n = xs := List.take_of_length_le (by omega)
    simp only at i1 i2 i3
    dsimp only
    rw [e2]
    (repeat first | refine G_seq ?_ | refine G_skip ?_ | refine G_endblk ?_ | refine G_block ?_ | refine G_exit rfl ?_)
    refine G_region ?_
    refine GO_q rfl rfl (ev_load rfl (by repeat' first | exact Ld.blk rfl | assumption | apply Ld.skip | apply Ld.app)) ?_
    refine GO_q rfl rfl (ev_assign rfl) ?_
    refine GO_nil ?_
    (repeat first | refine G_seq ?_ | refine G_skip ?_ | refine G_endblk ?_ | refine G_block ?_ | refine G_exit rfl ?_)
    exact G_retM [d] rfl (by rw [← hgb]; rfl) rfl (.tmp rfl .nil) (M := own 3 1 B n e (flat xs) :: blk b2 31 [.slice B n e] :: F :: blk b 31 [.slice A n c] :: L) (L' := own 3 1 B n e (flat xs) :: blk b 31 [.slice A n c] :: L) (by (repeat first | exact en_refl | (apply en_blk; focus ((repeat' first | exact Pick.here | apply Pick.skip | apply Pick.app); done); focus rfl) | (apply en_own; focus ((repeat' first | exact Pick.here | apply Pick.skip | apply Pick.app); done); focus rfl) | (apply en_pick; focus ((repeat' first | exact Pick.here | apply Pick.skip | apply Pick.app); done)) | apply en_drop | apply en_app) <;> fail) (by (repeat first | exact en_refl | (apply en_blk; focus ((repeat' first | exact Pick.here | apply Pick.skip | apply Pick.app); done); focus rfl) | (apply en_own; focus ((repeat' first | exact Pick.here | apply Pick.skip | apply Pick.app); done); focus rfl) | (apply en_pick; focus ((repeat' first | exact Pick.here | apply Pick.skip | apply Pick.app); done)) | apply en_drop | apply en_app) <;> fail) ⟨B, e, by rw [hlen]; rfl, by rw [hlen]; exact ⟨i1, i2, i3⟩, by rw [hlen]⟩
  · rintro d e L1 ⟨h, _⟩
    cases h
theorem Collect_ctr (b : Nat) (A : Option Addr) (n c : Nat) (xs : List Int) (L : List HP) (hRd : Rd L A n xs) (hn : n ≤ 1000000) :
    Ctr Tryz.prog 112 #[.func (.func 113) #[] #[.pointer (some ⟨b, 0, none⟩)]] (blk b 31 [.slice A n c] :: L) fun v L' => ∃ B e, v = .slice B xs.length e ∧ ((0 < xs.length → ∃ b, B = some ⟨b, 0, none⟩) ∧ xs.length ≤ e ∧ e ≤ maxLen) ∧ L' = own 3 1 B xs.length e (flat xs) :: blk b 31 [.slice A n c] :: L := by
  refine Ctr_of (fn := Tryz.f112) (n := 5) Tryz.func112 rfl rfl rfl ?_
  intro g F
  (repeat first | refine G_seq ?_ | refine G_skip ?_ | refine G_endblk ?_ | refine G_block ?_ | refine G_exit rfl ?_)
  refine G_region ?_
  refine GO_q rfl rfl (ev_assign rfl) ?_
  refine GO_nil ?_
  (repeat first | refine G_seq ?_ | refine G_skip ?_ | refine G_endblk ?_ | refine G_block ?_ | refine G_exit rfl ?_)
  refine G_region ?_
  refine GO_q rfl rfl (ev_move rfl) ?_
  refine GO_eff rfl rfl (eff_call rfl (Ctr.pick (by repeat' first | exact Pick.here | apply Pick.skip | apply Pick.app) (AppendSeq_ctr b A n c xs _ hRd.skip hn))) ?_; rintro _ _ ⟨B, e, rfl, ⟨i1, i2, i3⟩, rfl⟩
  refine GO_q rfl rfl (ev_assign rfl) ?_
  refine GO_nil ?_
  (repeat first | refine G_seq ?_ | refine G_skip ?_ | refine G_endblk ?_ | refine G_block ?_ | refine G_exit rfl ?_)
  exact G_ret (L' := own 3 1 B xs.length e (flat xs) :: blk b 31 [.slice A n c] :: L) rfl (.tmp rfl .nil) (by (repeat first | exact en_refl | (apply en_blk; focus ((repeat' first | exact Pick.here | apply Pick.skip | apply Pick.app); done); focus rfl) | (apply en_own; focus ((repeat' first | exact Pick.here | apply Pick.skip | apply Pick.app); done); focus rfl) | (apply en_pick; focus ((repeat' first | exact Pick.here | apply Pick.skip | apply Pick.app); done)) | apply en_drop | apply en_app) <;> fail) ⟨B, e, rfl, ⟨i1, i2, i3⟩, rfl⟩
theorem Sorted_ctr (b : Nat) (A : Option Addr) (n c : Nat) (xs : List Int) (L : List HP) (hRd : Rd L A n xs) (hn : n ≤ 1000000) :
    Ctr Tryz.prog 80 #[.func (.func 113) #[] #[.pointer (some ⟨b, 0, none⟩)]] (blk b 31 [.slice A n c] :: L) fun v L' => ∃ B e, v = .slice B xs.length e ∧ ((0 < xs.length → ∃ b, B = some ⟨b, 0, none⟩) ∧ xs.length ≤ e ∧ e ≤ maxLen) ∧ L' = own 3 1 B xs.length e (flat (srt xs)) :: blk b 31 [.slice A n c] :: L := by
  have hlen : xs.length = n := hRd.len (by decide)
  refine Ctr_of (fn := Tryz.f80) (n := 9) Tryz.func80 rfl rfl rfl ?_
  intro g F
  (repeat first | refine G_seq ?_ | refine G_skip ?_ | refine G_endblk ?_ | refine G_block ?_ | refine G_exit rfl ?_)
  refine G_region ?_
  refine GO_q rfl rfl (ev_assign rfl) ?_
  refine GO_nil ?_
  (repeat first | refine G_seq ?_ | refine G_skip ?_ | refine G_endblk ?_ | refine G_block ?_ | refine G_exit rfl ?_)
  refine G_region ?_
  refine GO_q rfl rfl (ev_move rfl) ?_
  refine GO_eff rfl rfl (eff_call rfl (Ctr.pick (by repeat' first | exact Pick.here | apply Pick.skip | apply Pick.app) (Collect_ctr b A n c xs _ hRd.skip hn))) ?_; rintro _ _ ⟨B, e, rfl, ⟨i1, i2, i3⟩, rfl⟩
  refine GO_q rfl rfl (ev_assign rfl) ?_
  refine GO_nil ?_
  (repeat first | refine G_seq ?_ | refine G_skip ?_ | refine G_endblk ?_ | refine G_block ?_ | refine G_exit rfl ?_)
  refine G_region ?_
  refine GO_q rfl rfl (ev_move rfl) ?_
  refine GO_eff rfl rfl (eff_call rfl (Ctr.pick (by repeat' first | exact Pick.here | apply Pick.skip | apply Pick.app) (sort_ctr B _ e xs _ i1 rfl (by omega)))) ?_; rintro _ _ ⟨rfl, rfl⟩
  refine GO_nil ?_
  (repeat first | refine G_seq ?_ | refine G_skip ?_ | refine G_endblk ?_ | refine G_block ?_ | refine G_exit rfl ?_)
  refine G_region ?_
  refine GO_q rfl rfl (ev_move rfl) ?_
  refine GO_q rfl rfl (ev_assign rfl) ?_
  refine GO_nil ?_
  (repeat first | refine G_seq ?_ | refine G_skip ?_ | refine G_endblk ?_ | refine G_block ?_ | refine G_exit rfl ?_)
  exact G_ret (L' := own 3 1 B xs.length e (flat (srt xs)) :: blk b 31 [.slice A n c] :: L) rfl (.tmp rfl .nil) (by (repeat first | exact en_refl | (apply en_blk; focus ((repeat' first | exact Pick.here | apply Pick.skip | apply Pick.app); done); focus rfl) | (apply en_own; focus ((repeat' first | exact Pick.here | apply Pick.skip | apply Pick.app); done); focus rfl) | (apply en_pick; focus ((repeat' first | exact Pick.here | apply Pick.skip | apply Pick.app); done)) | apply en_drop | apply en_app) <;> fail) ⟨B, e, rfl, ⟨i1, i2, i3⟩, rfl⟩
end Go.Proofs.YtmgkmammkmlakaaGreat
