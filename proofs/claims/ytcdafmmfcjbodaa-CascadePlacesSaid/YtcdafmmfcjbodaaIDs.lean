/- Arrays that lead into one another: ids. -/
import Derived.Test.YtcdafmmfcjbodaaCas6
import Derived.Test.YtcdafmmfcjbodaaSortC
namespace Go.Proofs.Ytcdafmmfcjbodaa
set_option linter.unusedVariables false
set_option linter.unusedSimpArgs false
set_option maxRecDepth 100000

def clampN (i : Int) (n : Nat) : Nat := (min (max i 0) n).toNat
theorem clampN_eq (i : Int) (n : Nat) : min (max i 0) (n : Int) = (clampN i n : Nat) := by unfold clampN; omega
theorem clampN_le (i : Int) (n : Nat) : clampN i n ≤ n := by unfold clampN; omega
def idsOf (l : List Pt) (f t : Nat) : List Int := ((l.drop f).take (t - f)).map (·.id)
theorem idsOf_succ (l : List Pt) (f t : Nat) (p : Pt) (h : f ≤ t) (hp : l[t]? = some p) : idsOf l f (t + 1) = idsOf l f t ++ [p.id] := by
  unfold idsOf
  have : (l.drop f)[t - f]? = some p := by rw [List.getElem?_drop, Nat.add_sub_cancel' h]; exact hp
  obtain ⟨h1, h2⟩ := List.getElem?_eq_some_iff.1 this
  rw [show t + 1 - f = (t - f) + 1 by omega, List.take_succ_eq_append_getElem h1, h2, List.map_append]; rfl
theorem IDs_ctr (p : Option Addr) (t : Arr) (i j : Int) (L : List HP) (h : ArrIn L p t) (hm : t.es.length ≤ 100000) :
    Ctr Try.prog 35 #[.pointer p, .int .i64 i, .int .i64 j] L fun v L' => ∃ A c N, v = .slice A (idsOf t.pts (clampN i t.es.length) (clampN j t.es.length)).length c ∧ (idsOf t.pts (clampN i t.es.length) (clampN j t.es.length)).length ≤ c ∧ c ≤ maxLen ∧ L' = N ++ L ∧
      Rd (N ++ L) A (idsOf t.pts (clampN i t.es.length) (clampN j t.es.length)).length (srt (idsOf t.pts (clampN i t.es.length) (clampN j t.es.length))) := by
  have c1 := clampN_eq i t.es.length
  have c2 := clampN_eq j t.es.length
  have c3 := clampN_le i t.es.length
  have c4 := clampN_le j t.es.length
  generalize clampN i t.es.length = f at *
  generalize clampN j t.es.length = u at *
  refine Ctr_of (fn := Try.f35) (n := 40) Try.func35 rfl rfl rfl ?_
  intro g F
  (repeat first | refine G_seq ?_ | refine G_skip ?_ | refine G_endblk ?_ | refine G_block ?_ | refine G_exit rfl ?_)
  refine G_region ?_
  refine GO_q rfl rfl (ev_assign rfl) ?_
  refine GO_nil ?_
  (repeat first | refine G_seq ?_ | refine G_skip ?_ | refine G_endblk ?_ | refine G_block ?_ | refine G_exit rfl ?_)
  refine G_region ?_
  refine GO_q rfl rfl (ev_move rfl) ?_
  refine GO_q rfl rfl (ev_max rfl rfl) ?_
  refine GO_q rfl rfl (ev_move rfl) ?_
  refine GO_eff rfl rfl (eff_call rfl (size_ctr p t _ (by repeat' first | assumption | apply ArrIn.skip))) ?_; rintro _ _ ⟨rfl, rfl⟩
  refine GO_q rfl rfl (ev_min rfl rfl) ?_
  refine GO_q rfl rfl (ev_move rfl) ?_
  refine GO_q rfl rfl (ev_max rfl rfl) ?_
  refine GO_q rfl rfl (ev_move rfl) ?_
  refine GO_eff rfl rfl (eff_call rfl (size_ctr p t _ (by repeat' first | assumption | apply ArrIn.skip))) ?_; rintro _ _ ⟨rfl, rfl⟩
  refine GO_q rfl rfl (ev_min rfl rfl) ?_
  refine GO_q rfl rfl (ev_assign rfl) ?_
  refine GO_q rfl rfl (ev_assign rfl) ?_
  refine GO_nil ?_
  rw [c1, c2]
  (repeat first | refine G_seq ?_ | refine G_skip ?_ | refine G_endblk ?_ | refine G_block ?_ | refine G_exit rfl ?_)
  refine G_region ?_
  refine GO_q rfl rfl (ev_assign rfl) ?_
  refine GO_nil ?_
  (repeat first | refine G_seq ?_ | refine G_skip ?_ | refine G_endblk ?_ | refine G_block ?_ | refine G_exit rfl ?_)
  refine G_region ?_
  refine GO_q rfl rfl (ev_move rfl) ?_
  refine GO_q rfl rfl (ev_assign rfl) ?_
  refine GO_nil ?_
  (repeat first | refine G_seq ?_ | refine G_skip ?_ | refine G_endblk ?_ | refine G_block ?_ | refine G_exit rfl ?_)
  refine G_heap (own.nil_ 3 1) ?_
  refine G_loop (ι := Nat × Option Addr × Nat × List Int) (fun x => [(0, .pointer p), (2, .int .i64 (u : Nat)), (7, .slice x.2.1 x.2.2.2.length x.2.2.1), (8, .int .i64 (x.1 : Nat))]) (fun x => own 3 1 x.2.1 x.2.2.2.length x.2.2.1 (flat x.2.2.2) :: F :: L)
    (fun x => f ≤ x.1 ∧ (x.1 ≤ u ∨ x.1 = f) ∧ x.2.2.2 = idsOf t.pts f x.1 ∧ x.2.2.2.length ≤ x.2.2.1 ∧ x.2.2.1 ≤ maxLen ∧ (0 < x.2.2.2.length → ∃ b, x.2.1 = some ⟨b, 0, none⟩) ∧ x.2.2.2.length ≤ x.1) (fun x => u - x.1) (f, none, 0, []) ⟨Nat.le_refl _, .inr rfl, by simp [idsOf], Nat.le_refl _, Nat.zero_le _, fun h => absurd h (Nat.lt_irrefl 0), Nat.zero_le _⟩ ⟨rfl, rfl, rfl, rfl, trivial⟩ (fun _ s => s) ?_
  rintro ⟨k, A, c, zs⟩ ⟨f1, f2, f3, f4, f5, f6, f7⟩
  simp only at f1 f2 f3 f4 f5 f6 f7
  dsimp only
  (repeat first | refine G_seq ?_ | refine G_skip ?_ | refine G_endblk ?_ | refine G_block ?_ | refine G_exit rfl ?_)
  refine G_region ?_
  refine GO_q rfl rfl (ev_move rfl) ?_
  refine GO_q rfl rfl (ev_move rfl) ?_
  (first | refine GO_q rfl rfl (ev_lssN rfl rfl) ?_ | refine GO_q rfl rfl (ev_lss rfl rfl) ?_)
  refine GO_nil ?_
  (repeat first | refine G_seq ?_ | refine G_skip ?_ | refine G_endblk ?_ | refine G_block ?_ | refine G_exit rfl ?_)
  refine G_cond rfl (fun h1 => ?_) (fun h1 => ?_)
  · cases t with
    | nil => simp [Arr.es] at c4; omega
    | node es lo hi =>
      have h0 := h
      obtain ⟨b, B, d, pl, ph, rfl, x1, x2, x3, x4, _⟩ := h
      have hk : k < es.length := by simp only [Arr.es] at c4; omega
      have y0 := x1.at_ (i := 0) rfl
      obtain ⟨bb, o, rfl, hx⟩ := x2.at_ (by omega)
      have hg : es[k]? = some es[k] := List.getElem?_eq_getElem hk
      have y1 := (hx _ _ hg).at_ (i := 0) rfl
      have hs := idsOf_succ (Arr.node es lo hi).pts f k es[k].p f1 (by simp [Arr.pts, Arr.es, hg])
      have hm' : es.length ≤ 100000 := hm
      generalize es[k] = e at *
      (repeat first | refine G_seq ?_ | refine G_skip ?_ | refine G_endblk ?_ | refine G_block ?_ | refine G_exit rfl ?_)
      refine G_region ?_
      refine GO_q rfl rfl (ev_move rfl) ?_
      refine GO_q rfl rfl (ev_move rfl) ?_
      (first | refine GO_q rfl rfl (ev_nilCheck rfl) ?_ | refine GO_q rfl rfl (ev_nilCheckF (by simp) rfl) ?_)
      refine GO_q rfl rfl (ev_fieldAddr rfl) ?_
      refine GO_q rfl rfl (ev_load rfl (by repeat' first | exact Ld.blk rfl | assumption | apply Ld.skip)) ?_
      refine GO_q rfl rfl (ev_move rfl) ?_
      (first | refine GO_q rfl rfl (ev_indexAddrN rfl rfl (by omega)) ?_ | refine GO_q rfl rfl (ev_indexAddr rfl rfl (by omega) (by omega)) ?_)
      refine GO_q rfl rfl (ev_fieldAddr rfl) ?_
      refine GO_q rfl rfl (ev_fieldAddr rfl) ?_
      refine GO_q rfl rfl (ev_load rfl (by repeat' first | exact Ld.blk rfl | assumption | apply Ld.skip)) ?_
      refine GO_eff rfl rfl (eff_buildSlice1 (by rfl) rfl rfl) ?_; rintro _ _ ⟨b35, rfl, rfl⟩
      refine GO_eff rfl rfl (eff_append rfl rfl (by repeat' first | exact Pick.here | apply Pick.skip) (by repeat' first | exact Rc.blk rfl | assumption | apply Rc.skip) (one_all rfl) (by rfl) (by decide) (by omega) (by omega)) ?_; rintro _ _ ⟨A36, c36, rfl, hc36, hm36, hn36, rfl⟩
      refine GO_q rfl rfl (ev_assign rfl) ?_
      refine GO_nil ?_
      (repeat first | refine G_seq ?_ | refine G_skip ?_ | refine G_endblk ?_ | refine G_block ?_ | refine G_exit rfl ?_)
      refine G_region ?_
      refine GO_q rfl rfl (ev_move rfl) ?_
      (first | refine GO_q rfl rfl (ev_addN (q := 1) rfl rfl (by omega)) ?_ | refine GO_q rfl rfl (ev_add rfl rfl (by omega)) ?_)
      refine GO_q rfl rfl (ev_assign rfl) ?_
      refine GO_nil ?_
      (repeat first | refine G_seq ?_ | refine G_skip ?_ | refine G_endblk ?_ | refine G_block ?_ | refine G_exit rfl ?_)
      exact G_round (k + 1, A36, c36, zs ++ [e.p.id]) ⟨by simp only; omega, .inl (by simp only; omega), by rw [hs, f3], by simp; omega, hm36, fun _ => hn36 (by omega), by simp; omega⟩ (by simp only; omega) ⟨rfl, rfl, by simp only [List.length_append, List.length_singleton]; rfl, rfl, trivial⟩ (by
        simp only [List.length_append, List.length_singleton]
        rw [← flat_snoc]
        exact (by repeat first | exact fun _ s => s | apply en_keep | apply en_drop | apply en_app))
  · have hz : zs = idsOf t.pts f u := by
      rcases f2 with f2 | f2
      · have : k = u := by omega
        rw [f3, this]
      · rw [f3, f2]
        unfold idsOf
        rw [show f - f = 0 by omega, show u - f = 0 by omega]
    rw [← hz]
    (repeat first | refine G_seq ?_ | refine G_skip ?_ | refine G_endblk ?_ | refine G_block ?_ | refine G_exit rfl ?_)
    refine G_region ?_
    refine GO_q rfl rfl (ev_move rfl) ?_
    refine GO_eff rfl rfl (eff_call rfl (Ctr.frame [F] (sort_ctr A zs.length c zs L f6 rfl (by omega)) (fun _ s => s.swap))) ?_; rintro _ _ ⟨_, ⟨rfl, rfl⟩, rfl⟩
    refine GO_nil ?_
    (repeat first | refine G_seq ?_ | refine G_skip ?_ | refine G_endblk ?_ | refine G_block ?_ | refine G_exit rfl ?_)
    refine G_region ?_
    refine GO_q rfl rfl (ev_move rfl) ?_
    refine GO_q rfl rfl (ev_assign rfl) ?_
    refine GO_nil ?_
    (repeat first | refine G_seq ?_ | refine G_skip ?_ | refine G_endblk ?_ | refine G_block ?_ | refine G_exit rfl ?_)
    refine G_ret (L' := [own 3 1 A zs.length c (flat (srt zs))] ++ L) rfl (.tmp rfl .nil) (by repeat first | exact fun _ s => s | apply en_keep | apply en_drop | apply en_app) ⟨A, c, [own 3 1 A zs.length c (flat (srt zs))], rfl, f4, f5, rfl, ?_⟩
    have hsl : (srt zs).length = zs.length := by rw [srt, List.length_mergeSort]
    exact Rc.own (by rw [flat_length, hsl]; rfl) f6
end Go.Proofs.Ytcdafmmfcjbodaa
