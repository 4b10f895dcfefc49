/- The law CascadePlaces. -/
import Derived.Test.YtcdafmmfcjbodaaCas9
import Derived.Test.YtcdafmmfcjbodaaIDs
import Derived.Test.YtcdafmmfcjbodaaOrd
import Derived.Test.YtcdafmmfcjbodaaOrdP
import Derived.Test.YtcdafmmfcjbodaaBrP
namespace Go.Proofs.Ytcdafmmfcjbodaa
open Go.RowKit
set_option linter.unusedVariables false
set_option linter.unusedSimpArgs false
set_option maxRecDepth 100000

theorem ids_clamp (s : List Pt) (u v : Int) (f : Nat) (T : Int) (hF : (f : Int) = max u 0) (hT : T = min v s.length) (E : Nat) (hE : (f : Int) < T ∧ (E : Int) = T ∨ T ≤ f ∧ E = f) : idsOf s f E = idsOf s (clampN u s.length) (clampN v s.length) := by
  unfold clampN
  rcases hE with ⟨h1, h2⟩ | ⟨h1, h2⟩
  · have e1 : (min (max u 0) (s.length : Int)).toNat = f := by omega
    have e2 : (min (max v 0) (s.length : Int)).toNat = E := by omega
    rw [e1, e2]
  · unfold idsOf
    have e1 : E - f = 0 := by omega
    have e2 : (min (max v 0) (s.length : Int)).toNat - (min (max u 0) (s.length : Int)).toNat = 0 := by omega
    rw [e1, e2]; simp
theorem cascadePlaces_ctr (A : Option Addr) (n c : Nat) (l : List Pt) (y u v : Int) (L : List HP) (hl : Rd L A n l) (hc : n ≤ c) (hc2 : c ≤ maxLen) (hu : -9223372036854775808 ≤ u ∧ u ≤ 9223372036854775807) (hv : -9223372036854775808 ≤ v ∧ v ≤ 9223372036854775807) :
    Ctr Try.prog 7 #[.slice A n c, .int .i64 y, .agg #[.int .i64 u, .int .i64 v]] L fun r L' => r = .bool true ∧ L' = L := by
  have hl40 : (l.take 40).length ≤ 40 := List.length_take_le _ _
  have t1 : (l.take 40).take 40 = l.take 40 := by rw [List.take_take]; rfl
  obtain ⟨l1, g1⟩ : ∃ l1, l.take 40 = l1 := ⟨_, rfl⟩
  rw [g1] at hl40 t1
  obtain ⟨o1, k1⟩ := made_ok 8 l1 (by omega)
  have hp : (made 8 l1).pts = sortP l1 := made_sortP 8 l1 (by omega)
  have hpl : (made 8 l1).pts.length = (made 8 l1).es.length := List.length_map ..
  have hsl : (sortP l1).length = l1.length := (sortP_perm l1).length_eq
  have s1 : (made 8 l1).es.length = l1.length := by rw [← hpl, hp, hsl]
  have s2 : (made 8 l1).es.length ≤ 100000 := by omega
  have e1 : (((made 8 l1).es.length : Nat) : Int) = (l1.length : Nat) := by rw [s1]
  have e2 : (((made 8 l1).pts.countP (belowF y) : Nat) : Int) = (l1.countP (belowF y) : Nat) := by rw [k1]
  have e3 : (((made 8 l1).pts.countP (upToF y) : Nat) : Int) = (l1.countP (upToF y) : Nat) := by rw [k1]
  have hids : ∀ f t : Nat, idsOf (made 8 l1).pts f t = idsOf (sortP l1) f t := fun f t => by rw [hp]
  refine Ctr_of (fn := Try.f7) (n := 84) Try.func7 rfl rfl rfl ?_
  intro g F
  (repeat first | refine G_seq ?_ | refine G_skip ?_ | refine G_endblk ?_ | refine G_block ?_ | refine G_exit rfl ?_)
  refine G_region ?_
  refine GO_eff rfl rfl (eff_box rfl) ?_; rintro _ _ ⟨b5, rfl, rfl⟩
  refine GO_q rfl rfl (ev_assign rfl) ?_
  refine GO_nil ?_
  (repeat first | refine G_seq ?_ | refine G_skip ?_ | refine G_endblk ?_ | refine G_block ?_ | refine G_exit rfl ?_)
  refine G_region ?_
  refine GO_q rfl rfl (ev_move rfl) ?_
  refine GO_eff rfl rfl (eff_call rfl (Ctr.frame [blk b5 57 (cellsL (.agg #[.int .i64 u, .int .i64 v])), F] (Few_ctr A n c l 40 L hl hc hc2 (by omega)) (fun _ s => s))) ?_; rintro _ _ ⟨M1, ⟨A1, c1', N1, rfl, u1, u2, rfl, u3⟩, rfl⟩
  refine GO_q rfl rfl (ev_assign rfl) ?_
  refine GO_nil ?_
  rw [g1] at u1 u3
  rw [g1]
  have hML : ∀ h, sat (N1 ++ L) h → sat L h := en_app en_refl
  generalize N1 ++ L = M at *
  (repeat first | refine G_seq ?_ | refine G_skip ?_ | refine G_endblk ?_ | refine G_block ?_ | refine G_exit rfl ?_)
  refine G_region ?_
  refine GO_q rfl rfl (ev_move rfl) ?_
  refine GO_eff rfl rfl (eff_call rfl (Ctr.frame [blk b5 57 [.int .i64 u, .int .i64 v], F] (Few_ctr A1 _ c1' l1 40 M u3 u1 u2 (by omega)) (fun _ s => s))) ?_; rintro _ _ ⟨M3, ⟨A2, c2', N3, rfl, x1, x2, rfl, x3⟩, rfl⟩
  refine GO_eff rfl rfl (eff_call rfl (Ctr.frame [blk b5 57 [.int .i64 u, .int .i64 v], F] (made_ctr 8 (l1.take 40) A2 _ c2' (N3 ++ M) (by rw [t1]; omega) (by rw [t1]; omega) (by omega) x3 x1 x2) (fun _ s => s))) ?_; rintro _ _ ⟨M4, ⟨qa, N4, rfl, rfl, ha⟩, rfl⟩
  refine GO_q rfl rfl (ev_assign rfl) ?_
  refine GO_nil ?_
  rw [t1] at ha
  have z1 : Rd (N4 ++ (N3 ++ M)) A1 l1.length l1 := u3.app.app
  have hML2 : ∀ h, sat (N4 ++ (N3 ++ M)) h → sat L h := en_app (en_app hML)
  clear u3 x3 hML
  generalize N4 ++ (N3 ++ M) = M2 at *
  (repeat first | refine G_seq ?_ | refine G_skip ?_ | refine G_endblk ?_ | refine G_block ?_ | refine G_exit rfl ?_)
  refine G_region ?_
  refine GO_q rfl rfl (ev_move rfl) ?_
  refine GO_eff rfl rfl (eff_call rfl (Ctr.frame [blk b5 57 [.int .i64 u, .int .i64 v], F] (rSort_ctr A1 l1.length c1' l1 M2 z1 (by omega)) (fun _ s => s))) ?_; rintro _ _ ⟨M5, ⟨B1, d1, N5, rfl, w1, w2, rfl, w3⟩, rfl⟩
  refine GO_q rfl rfl (ev_assign rfl) ?_
  refine GO_nil ?_
  have z2 : Rd (N5 ++ M2) A1 l1.length l1 := z1.app
  have hb : ArrIn (N5 ++ M2) qa (made 8 l1) := ha.app
  have hML3 : ∀ h, sat (N5 ++ M2) h → sat L h := en_app hML2
  clear z1 ha hML2
  generalize N5 ++ M2 = M3 at *
  (repeat first | refine G_seq ?_ | refine G_skip ?_ | refine G_endblk ?_ | refine G_block ?_ | refine G_exit rfl ?_)
  refine G_draw (.q 0 (.q 1 (.q 2 (.q 3 (.q 4 (.q 5 .nil)))))) (by kernel_rfl) (by kernel_rfl) ?_
  refine RS_q retB_noPanic rfl rfl rfl (ev_indexAddrA rfl rfl (by omega) (by omega)) ?_
  refine RS_q retB_noPanic rfl rfl rfl (ev_load rfl (by repeat' first | exact Ld.blk rfl | assumption | apply Ld.skip)) ?_
  refine RS_q retB_noPanic rfl rfl rfl (ev_indexAddrA rfl rfl (by omega) (by omega)) ?_
  refine RS_q retB_noPanic rfl rfl rfl (ev_load rfl (by repeat' first | exact Ld.blk rfl | assumption | apply Ld.skip)) ?_
  refine RS_q retB_noPanic rfl rfl rfl (ev_assign rfl) ?_
  refine RS_q retB_noPanic rfl rfl rfl (ev_assign rfl) ?_
  refine RS_nil ?_
  (repeat first | refine G_seq ?_ | refine G_skip ?_ | refine G_endblk ?_ | refine G_block ?_ | refine G_exit rfl ?_)
  refine G_region ?_
  refine GO_q rfl rfl (ev_move rfl) ?_
  (first | refine GO_q rfl rfl (ev_lssN (q := 0) rfl rfl) ?_ | refine GO_q rfl rfl (ev_lss rfl rfl) ?_)
  refine GO_nil ?_
  (repeat first | refine G_seq ?_ | refine G_skip ?_ | refine G_endblk ?_ | refine G_block ?_ | refine G_exit rfl ?_)
  refine G_cond rfl (fun c1 => ?_) (fun c1 => ?_)
  · (repeat first | refine G_seq ?_ | refine G_skip ?_ | refine G_endblk ?_ | refine G_block ?_ | refine G_exit rfl ?_)
    refine G_region ?_
    refine GO_q rfl rfl (ev_assign rfl) ?_
    refine GO_nil ?_
    (repeat first | refine G_seq ?_ | refine G_skip ?_ | refine G_endblk ?_ | refine G_block ?_ | refine G_exit rfl ?_)
    refine G_region ?_
    refine GO_q rfl rfl (ev_move rfl) ?_
    refine GO_q rfl rfl (ev_move rfl) ?_
    refine GO_q rfl rfl (ev_len rfl) ?_
    refine GO_q rfl rfl (ev_gtr rfl rfl) ?_
    refine GO_nil ?_
    (repeat first | refine G_seq ?_ | refine G_skip ?_ | refine G_endblk ?_ | refine G_block ?_ | refine G_exit rfl ?_)
    refine G_cond rfl (fun c2 => ?_) (fun c2 => ?_)
    · (repeat first | refine G_seq ?_ | refine G_skip ?_ | refine G_endblk ?_ | refine G_block ?_ | refine G_exit rfl ?_)
      refine G_region ?_
      refine GO_q rfl rfl (ev_move rfl) ?_
      refine GO_q rfl rfl (ev_len rfl) ?_
      refine GO_q rfl rfl (ev_assign rfl) ?_
      refine GO_nil ?_
      (repeat first | refine G_seq ?_ | refine G_skip ?_ | refine G_endblk ?_ | refine G_block ?_ | refine G_exit rfl ?_)
      refine G_region ?_
      refine GO_eff rfl rfl eff_buildSlice0 ?_; rintro _ _ ⟨b32, rfl, rfl⟩
      refine GO_q rfl rfl (ev_assign rfl) ?_
      refine GO_nil ?_
      (repeat first | refine G_seq ?_ | refine G_skip ?_ | refine G_endblk ?_ | refine G_block ?_ | refine G_exit rfl ?_)
      refine G_region ?_
      refine GO_q rfl rfl (ev_move rfl) ?_
      refine GO_q rfl rfl (ev_assign rfl) ?_
      refine GO_nil ?_
      (repeat first | refine G_seq ?_ | refine G_skip ?_ | refine G_endblk ?_ | refine G_block ?_ | refine G_exit rfl ?_)
      refine G_loop (ι := Nat × Nat × Nat × List Int) (fun x => [(0, .slice A1 l1.length c1'), (1, .int .i64 y), (5, .pointer (some ⟨b5, 0, none⟩)), (7, .pointer qa), (8, .slice B1 (sortP l1).length d1), (10, .int .i64 (((sortP l1).length : Nat))), (11, .slice (some ⟨x.2.1, 0, none⟩) x.2.2.2.length x.2.2.1), (12, .int .i64 (x.1 : Nat))]) (fun x => own 3 1 (some ⟨x.2.1, 0, none⟩) x.2.2.2.length x.2.2.1 (flat x.2.2.2) :: blk b5 57 [.int .i64 u, .int .i64 v] :: F :: M3)
        (fun x => 0 ≤ x.1 ∧ ((x.1 : Int) ≤ ((sortP l1).length : Nat) ∨ x.1 = 0) ∧ x.2.2.2 = idsOf (sortP l1) 0 x.1 ∧ x.2.2.2.length ≤ x.2.2.1 ∧ x.2.2.1 ≤ maxLen ∧ x.2.2.2.length + 0 ≤ x.1) (fun x => ((((sortP l1).length : Nat)) - (x.1 : Int)).toNat) (0, b32, 0, []) ⟨Nat.le_refl _, .inr rfl, by simp [idsOf], Nat.le_refl _, Nat.zero_le _, by simp⟩ ⟨rfl, rfl, rfl, rfl, rfl, rfl, rfl, rfl, trivial⟩ (fun _ s => s) ?_
      rintro ⟨k, b, d, zs⟩ ⟨f1, f2, f3, f4, f5, f7⟩
      simp only at f1 f2 f3 f4 f5 f7
      dsimp only
      (repeat first | refine G_seq ?_ | refine G_skip ?_ | refine G_endblk ?_ | refine G_block ?_ | refine G_exit rfl ?_)
      refine G_region ?_
      refine GO_q rfl rfl (ev_move rfl) ?_
      refine GO_q rfl rfl (ev_move rfl) ?_
      (first | refine GO_q rfl rfl (ev_lssN rfl rfl) ?_ | refine GO_q rfl rfl (ev_lss rfl rfl) ?_)
      refine GO_nil ?_
      (repeat first | refine G_seq ?_ | refine G_skip ?_ | refine G_endblk ?_ | refine G_block ?_ | refine G_exit rfl ?_)
      refine G_cond rfl (fun c9 => ?_) (fun c9 => ?_)
      · obtain ⟨bb, o, rfl, hx⟩ := w3.at_ (by omega)
        have hg : (sortP l1)[k]? = some (sortP l1)[k] := List.getElem?_eq_getElem (by omega)
        have y1 := (hx _ _ hg).at_ (i := 0) rfl
        have hs := idsOf_succ (sortP l1) (0) k _ f1 hg
        generalize (sortP l1)[k] = e at *
        (repeat first | refine G_seq ?_ | refine G_skip ?_ | refine G_endblk ?_ | refine G_block ?_ | refine G_exit rfl ?_)
        refine G_region ?_
        refine GO_q rfl rfl (ev_move rfl) ?_
        refine GO_q rfl rfl (ev_move rfl) ?_
        refine GO_q rfl rfl (ev_move rfl) ?_
        (first | refine GO_q rfl rfl (ev_indexAddrN rfl rfl (by omega)) ?_ | refine GO_q rfl rfl (ev_indexAddr rfl rfl (by omega) (by omega)) ?_)
        refine GO_q rfl rfl (ev_fieldAddr rfl) ?_
        refine GO_q rfl rfl (ev_load rfl (by repeat' first | exact Ld.blk rfl | assumption | apply Ld.skip)) ?_
        refine GO_eff rfl rfl (eff_buildSlice1 (by rfl) rfl rfl) ?_; rintro _ _ ⟨b45, rfl, rfl⟩
        refine GO_eff rfl rfl (eff_append rfl rfl (by repeat' first | exact Pick.here | apply Pick.skip) (by repeat' first | exact Rc.blk rfl | assumption | apply Rc.skip) (one_all rfl) (by rfl) (by decide) (by omega) (by omega)) ?_; rintro _ _ ⟨A46, c46, rfl, hc46, hm46, hn46, rfl⟩
        refine GO_q rfl rfl (ev_assign rfl) ?_
        refine GO_nil ?_
        obtain ⟨b9, rfl⟩ := hn46 (by omega)
        (repeat first | refine G_seq ?_ | refine G_skip ?_ | refine G_endblk ?_ | refine G_block ?_ | refine G_exit rfl ?_)
        refine G_region ?_
        refine GO_q rfl rfl (ev_move rfl) ?_
        (first | refine GO_q rfl rfl (ev_addN (q := 1) rfl rfl (by omega)) ?_ | refine GO_q rfl rfl (ev_add rfl rfl (by omega)) ?_)
        refine GO_q rfl rfl (ev_assign rfl) ?_
        refine GO_nil ?_
        (repeat first | refine G_seq ?_ | refine G_skip ?_ | refine G_endblk ?_ | refine G_block ?_ | refine G_exit rfl ?_)
        exact G_round (k + 1, b9, c46, zs ++ [e.id]) ⟨by simp only; omega, .inl (by simp only; omega), by rw [hs, f3], by simp; omega, hm46, by simp; omega⟩ (by simp only; omega) ⟨rfl, rfl, rfl, rfl, rfl, rfl, by simp only [List.length_append, List.length_singleton]; rfl, rfl, trivial⟩ (by
          simp only [List.length_append, List.length_singleton]
          rw [← flat_snoc]
          exact (by repeat first | exact fun _ s => s | apply en_keep | apply en_drop | apply en_app))
      · have hz : zs = idsOf (sortP l1) (clampN u (sortP l1).length) (clampN v (sortP l1).length) := by
          rw [f3]
          exact ids_clamp _ u v (0) (((sortP l1).length : Nat)) (by omega) (by omega) k (by omega)
        have hzl : zs.length ≤ 100000 := by
          rw [hz]
          unfold idsOf
          rw [List.length_map, List.length_take, List.length_drop]; omega
        have hown : Rd (own 3 1 (some ⟨b, 0, none⟩) zs.length d (flat zs) :: blk b5 57 [.int .i64 u, .int .i64 v] :: F :: M3) (some ⟨b, 0, none⟩) zs.length zs := Rc.own (flat_length zs) (fun _ => ⟨b, rfl⟩)
        have hid : idsOf (made 8 l1).pts (clampN u (made 8 l1).es.length) (clampN v (made 8 l1).es.length) = zs := by rw [hids, hz, s1, hsl]
        have e4 : srt zs = rising zs := (rising_srt zs zs (.refl _)).symm
        have hIDs := fun L' h => IDs_ctr qa (made 8 l1) u v L' h s2
        rw [hid] at hIDs
        (repeat first | refine G_seq ?_ | refine G_skip ?_ | refine G_endblk ?_ | refine G_block ?_ | refine G_exit rfl ?_)
        refine G_region ?_
        refine GO_q rfl rfl (ev_move rfl) ?_
        refine GO_eff rfl rfl (eff_call rfl (Len_ctr qa (made 8 l1) _ (by repeat' first | assumption | apply ArrIn.skip))) ?_; rintro _ _ ⟨rfl, rfl⟩
        refine GO_q rfl rfl (ev_move rfl) ?_
        refine GO_q rfl rfl (ev_len rfl) ?_
        refine GO_q rfl rfl (ev_eql rfl rfl) ?_
        refine GO_q rfl rfl (ev_move rfl) ?_
        refine GO_yes rfl rfl rfl (decide_eq_true e1) ?_
        refine GO_q rfl rfl (ev_move rfl) ?_
        refine GO_yes rfl rfl rfl (decide_eq_true e1) ?_
        refine GO_q rfl rfl (ev_move rfl) ?_
        refine GO_yes rfl rfl rfl (decide_eq_true e1) ?_
        refine GO_eff rfl rfl (eff_call rfl (Place_ctr qa (made 8 l1) y _ (by repeat' first | assumption | apply ArrIn.skip) o1)) ?_; rintro _ _ ⟨rfl, rfl⟩
        refine GO_yes rfl rfl rfl (decide_eq_true e1) ?_
        refine GO_q rfl rfl (ev_move rfl) ?_
        refine GO_yes rfl rfl rfl (decide_eq_true e1) ?_
        refine GO_q rfl rfl (ev_move rfl) ?_
        refine GO_yes rfl rfl rfl (decide_eq_true e1) ?_
        refine GO_eff rfl rfl (eff_call rfl (Below_ctr A1 l1.length c1' l1 y _ z2.skip.skip.skip (by omega))) ?_; rintro _ _ ⟨rfl, rfl⟩
        refine GO_yes rfl rfl rfl (decide_eq_true e1) ?_
        refine GO_q rfl rfl (ev_eql rfl rfl) ?_
        refine GO_q rfl rfl (ev_pick_t rfl (decide_eq_true e1) rfl) ?_
        refine GO_q rfl rfl (ev_move rfl) ?_
        refine GO_yes rfl rfl rfl (decide_eq_true e2) ?_
        refine GO_q rfl rfl (ev_move rfl) ?_
        refine GO_yes rfl rfl rfl (decide_eq_true e2) ?_
        refine GO_q rfl rfl (ev_move rfl) ?_
        refine GO_yes rfl rfl rfl (decide_eq_true e2) ?_
        refine GO_eff rfl rfl (eff_call rfl (Past_ctr qa (made 8 l1) y _ (by repeat' first | assumption | apply ArrIn.skip) o1)) ?_; rintro _ _ ⟨rfl, rfl⟩
        refine GO_yes rfl rfl rfl (decide_eq_true e2) ?_
        refine GO_q rfl rfl (ev_move rfl) ?_
        refine GO_yes rfl rfl rfl (decide_eq_true e2) ?_
        refine GO_q rfl rfl (ev_move rfl) ?_
        refine GO_yes rfl rfl rfl (decide_eq_true e2) ?_
        refine GO_eff rfl rfl (eff_call rfl (UpTo_ctr A1 l1.length c1' l1 y _ z2.skip.skip.skip (by omega))) ?_; rintro _ _ ⟨rfl, rfl⟩
        refine GO_yes rfl rfl rfl (decide_eq_true e2) ?_
        refine GO_q rfl rfl (ev_eql rfl rfl) ?_
        refine GO_q rfl rfl (ev_pick_t rfl (decide_eq_true e2) rfl) ?_
        refine GO_q rfl rfl (ev_move rfl) ?_
        refine GO_yes rfl rfl rfl (decide_eq_true e3) ?_
        refine GO_q rfl rfl (ev_move rfl) ?_
        refine GO_yes rfl rfl rfl (decide_eq_true e3) ?_
        refine GO_q rfl rfl (ev_indexAddrA rfl rfl (by omega) (by omega)) ?_
        refine GO_yes rfl rfl rfl (decide_eq_true e3) ?_
        refine GO_q rfl rfl (ev_load rfl (by repeat' first | exact Ld.blk rfl | assumption | apply Ld.skip)) ?_
        refine GO_yes rfl rfl rfl (decide_eq_true e3) ?_
        refine GO_q rfl rfl (ev_indexAddrA rfl rfl (by omega) (by omega)) ?_
        refine GO_yes rfl rfl rfl (decide_eq_true e3) ?_
        refine GO_q rfl rfl (ev_load rfl (by repeat' first | exact Ld.blk rfl | assumption | apply Ld.skip)) ?_
        refine GO_yes rfl rfl rfl (decide_eq_true e3) ?_
        refine GO_eff rfl rfl (eff_call rfl (hIDs _ (by repeat' first | assumption | apply ArrIn.skip))) ?_; rintro _ _ ⟨A7, c7, N7, rfl, i1, i2, rfl, i3⟩
        refine GO_yes rfl rfl rfl (decide_eq_true e3) ?_
        refine GO_q rfl rfl (ev_move rfl) ?_
        refine GO_yes rfl rfl rfl (decide_eq_true e3) ?_
        refine GO_eff rfl rfl (eff_call rfl (Rising_ctr (some ⟨b, 0, none⟩) zs.length d zs _ hown.app (by omega))) ?_; rintro _ _ ⟨A8, c8, N8, rfl, j1, j2, rfl, j3⟩
        refine GO_yes rfl rfl rfl (decide_eq_true e3) ?_
        refine GO_eff rfl rfl (eff_call rfl (Same_ctr A7 A8 _ _ c7 c8 (srt zs) (rising zs) _ i3.app j3 (by omega))) ?_; rintro _ _ ⟨rfl, rfl⟩
        refine GO_q rfl rfl (ev_pick_t rfl (decide_eq_true e3) rfl) ?_
        refine GO_q rfl rfl (ev_move rfl) ?_
        refine GO_yes rfl rfl rfl (decide_eq_true e4) ?_
        refine GO_eff rfl rfl (eff_call rfl (lives_ctr _)) ?_; rintro _ _ ⟨rfl, rfl⟩
        refine GO_q rfl rfl (ev_pick_t rfl (decide_eq_true e4) rfl) ?_
        refine GO_q rfl rfl (ev_assign rfl) ?_
        refine GO_nil ?_
        (repeat first | refine G_seq ?_ | refine G_skip ?_ | refine G_endblk ?_ | refine G_block ?_ | refine G_exit rfl ?_)
        exact G_ret (L' := L) rfl (.tmp rfl .nil) (en_app (en_app (by repeat first | exact en_keep hML3 | apply en_drop))) ⟨rfl, rfl⟩
    · (repeat first | refine G_seq ?_ | refine G_skip ?_ | refine G_endblk ?_ | refine G_block ?_ | refine G_exit rfl ?_)
      (repeat first | refine G_seq ?_ | refine G_skip ?_ | refine G_endblk ?_ | refine G_block ?_ | refine G_exit rfl ?_)
      refine G_region ?_
      refine GO_eff rfl rfl eff_buildSlice0 ?_; rintro _ _ ⟨b32, rfl, rfl⟩
      refine GO_q rfl rfl (ev_assign rfl) ?_
      refine GO_nil ?_
      (repeat first | refine G_seq ?_ | refine G_skip ?_ | refine G_endblk ?_ | refine G_block ?_ | refine G_exit rfl ?_)
      refine G_region ?_
      refine GO_q rfl rfl (ev_move rfl) ?_
      refine GO_q rfl rfl (ev_assign rfl) ?_
      refine GO_nil ?_
      (repeat first | refine G_seq ?_ | refine G_skip ?_ | refine G_endblk ?_ | refine G_block ?_ | refine G_exit rfl ?_)
      refine G_loop (ι := Nat × Nat × Nat × List Int) (fun x => [(0, .slice A1 l1.length c1'), (1, .int .i64 y), (5, .pointer (some ⟨b5, 0, none⟩)), (7, .pointer qa), (8, .slice B1 (sortP l1).length d1), (10, .int .i64 (v)), (11, .slice (some ⟨x.2.1, 0, none⟩) x.2.2.2.length x.2.2.1), (12, .int .i64 (x.1 : Nat))]) (fun x => own 3 1 (some ⟨x.2.1, 0, none⟩) x.2.2.2.length x.2.2.1 (flat x.2.2.2) :: blk b5 57 [.int .i64 u, .int .i64 v] :: F :: M3)
        (fun x => 0 ≤ x.1 ∧ ((x.1 : Int) ≤ v ∨ x.1 = 0) ∧ x.2.2.2 = idsOf (sortP l1) 0 x.1 ∧ x.2.2.2.length ≤ x.2.2.1 ∧ x.2.2.1 ≤ maxLen ∧ x.2.2.2.length + 0 ≤ x.1) (fun x => ((v) - (x.1 : Int)).toNat) (0, b32, 0, []) ⟨Nat.le_refl _, .inr rfl, by simp [idsOf], Nat.le_refl _, Nat.zero_le _, by simp⟩ ⟨rfl, rfl, rfl, rfl, rfl, rfl, rfl, rfl, trivial⟩ (fun _ s => s) ?_
      rintro ⟨k, b, d, zs⟩ ⟨f1, f2, f3, f4, f5, f7⟩
      simp only at f1 f2 f3 f4 f5 f7
      dsimp only
      (repeat first | refine G_seq ?_ | refine G_skip ?_ | refine G_endblk ?_ | refine G_block ?_ | refine G_exit rfl ?_)
      refine G_region ?_
      refine GO_q rfl rfl (ev_move rfl) ?_
      refine GO_q rfl rfl (ev_move rfl) ?_
      (first | refine GO_q rfl rfl (ev_lssN rfl rfl) ?_ | refine GO_q rfl rfl (ev_lss rfl rfl) ?_)
      refine GO_nil ?_
      (repeat first | refine G_seq ?_ | refine G_skip ?_ | refine G_endblk ?_ | refine G_block ?_ | refine G_exit rfl ?_)
      refine G_cond rfl (fun c9 => ?_) (fun c9 => ?_)
      · obtain ⟨bb, o, rfl, hx⟩ := w3.at_ (by omega)
        have hg : (sortP l1)[k]? = some (sortP l1)[k] := List.getElem?_eq_getElem (by omega)
        have y1 := (hx _ _ hg).at_ (i := 0) rfl
        have hs := idsOf_succ (sortP l1) (0) k _ f1 hg
        generalize (sortP l1)[k] = e at *
        (repeat first | refine G_seq ?_ | refine G_skip ?_ | refine G_endblk ?_ | refine G_block ?_ | refine G_exit rfl ?_)
        refine G_region ?_
        refine GO_q rfl rfl (ev_move rfl) ?_
        refine GO_q rfl rfl (ev_move rfl) ?_
        refine GO_q rfl rfl (ev_move rfl) ?_
        (first | refine GO_q rfl rfl (ev_indexAddrN rfl rfl (by omega)) ?_ | refine GO_q rfl rfl (ev_indexAddr rfl rfl (by omega) (by omega)) ?_)
        refine GO_q rfl rfl (ev_fieldAddr rfl) ?_
        refine GO_q rfl rfl (ev_load rfl (by repeat' first | exact Ld.blk rfl | assumption | apply Ld.skip)) ?_
        refine GO_eff rfl rfl (eff_buildSlice1 (by rfl) rfl rfl) ?_; rintro _ _ ⟨b45, rfl, rfl⟩
        refine GO_eff rfl rfl (eff_append rfl rfl (by repeat' first | exact Pick.here | apply Pick.skip) (by repeat' first | exact Rc.blk rfl | assumption | apply Rc.skip) (one_all rfl) (by rfl) (by decide) (by omega) (by omega)) ?_; rintro _ _ ⟨A46, c46, rfl, hc46, hm46, hn46, rfl⟩
        refine GO_q rfl rfl (ev_assign rfl) ?_
        refine GO_nil ?_
        obtain ⟨b9, rfl⟩ := hn46 (by omega)
        (repeat first | refine G_seq ?_ | refine G_skip ?_ | refine G_endblk ?_ | refine G_block ?_ | refine G_exit rfl ?_)
        refine G_region ?_
        refine GO_q rfl rfl (ev_move rfl) ?_
        (first | refine GO_q rfl rfl (ev_addN (q := 1) rfl rfl (by omega)) ?_ | refine GO_q rfl rfl (ev_add rfl rfl (by omega)) ?_)
        refine GO_q rfl rfl (ev_assign rfl) ?_
        refine GO_nil ?_
        (repeat first | refine G_seq ?_ | refine G_skip ?_ | refine G_endblk ?_ | refine G_block ?_ | refine G_exit rfl ?_)
        exact G_round (k + 1, b9, c46, zs ++ [e.id]) ⟨by simp only; omega, .inl (by simp only; omega), by rw [hs, f3], by simp; omega, hm46, by simp; omega⟩ (by simp only; omega) ⟨rfl, rfl, rfl, rfl, rfl, rfl, by simp only [List.length_append, List.length_singleton]; rfl, rfl, trivial⟩ (by
          simp only [List.length_append, List.length_singleton]
          rw [← flat_snoc]
          exact (by repeat first | exact fun _ s => s | apply en_keep | apply en_drop | apply en_app))
      · have hz : zs = idsOf (sortP l1) (clampN u (sortP l1).length) (clampN v (sortP l1).length) := by
          rw [f3]
          exact ids_clamp _ u v (0) (v) (by omega) (by omega) k (by omega)
        have hzl : zs.length ≤ 100000 := by
          rw [hz]
          unfold idsOf
          rw [List.length_map, List.length_take, List.length_drop]; omega
        have hown : Rd (own 3 1 (some ⟨b, 0, none⟩) zs.length d (flat zs) :: blk b5 57 [.int .i64 u, .int .i64 v] :: F :: M3) (some ⟨b, 0, none⟩) zs.length zs := Rc.own (flat_length zs) (fun _ => ⟨b, rfl⟩)
        have hid : idsOf (made 8 l1).pts (clampN u (made 8 l1).es.length) (clampN v (made 8 l1).es.length) = zs := by rw [hids, hz, s1, hsl]
        have e4 : srt zs = rising zs := (rising_srt zs zs (.refl _)).symm
        have hIDs := fun L' h => IDs_ctr qa (made 8 l1) u v L' h s2
        rw [hid] at hIDs
        (repeat first | refine G_seq ?_ | refine G_skip ?_ | refine G_endblk ?_ | refine G_block ?_ | refine G_exit rfl ?_)
        refine G_region ?_
        refine GO_q rfl rfl (ev_move rfl) ?_
        refine GO_eff rfl rfl (eff_call rfl (Len_ctr qa (made 8 l1) _ (by repeat' first | assumption | apply ArrIn.skip))) ?_; rintro _ _ ⟨rfl, rfl⟩
        refine GO_q rfl rfl (ev_move rfl) ?_
        refine GO_q rfl rfl (ev_len rfl) ?_
        refine GO_q rfl rfl (ev_eql rfl rfl) ?_
        refine GO_q rfl rfl (ev_move rfl) ?_
        refine GO_yes rfl rfl rfl (decide_eq_true e1) ?_
        refine GO_q rfl rfl (ev_move rfl) ?_
        refine GO_yes rfl rfl rfl (decide_eq_true e1) ?_
        refine GO_q rfl rfl (ev_move rfl) ?_
        refine GO_yes rfl rfl rfl (decide_eq_true e1) ?_
        refine GO_eff rfl rfl (eff_call rfl (Place_ctr qa (made 8 l1) y _ (by repeat' first | assumption | apply ArrIn.skip) o1)) ?_; rintro _ _ ⟨rfl, rfl⟩
        refine GO_yes rfl rfl rfl (decide_eq_true e1) ?_
        refine GO_q rfl rfl (ev_move rfl) ?_
        refine GO_yes rfl rfl rfl (decide_eq_true e1) ?_
        refine GO_q rfl rfl (ev_move rfl) ?_
        refine GO_yes rfl rfl rfl (decide_eq_true e1) ?_
        refine GO_eff rfl rfl (eff_call rfl (Below_ctr A1 l1.length c1' l1 y _ z2.skip.skip.skip (by omega))) ?_; rintro _ _ ⟨rfl, rfl⟩
        refine GO_yes rfl rfl rfl (decide_eq_true e1) ?_
        refine GO_q rfl rfl (ev_eql rfl rfl) ?_
        refine GO_q rfl rfl (ev_pick_t rfl (decide_eq_true e1) rfl) ?_
        refine GO_q rfl rfl (ev_move rfl) ?_
        refine GO_yes rfl rfl rfl (decide_eq_true e2) ?_
        refine GO_q rfl rfl (ev_move rfl) ?_
        refine GO_yes rfl rfl rfl (decide_eq_true e2) ?_
        refine GO_q rfl rfl (ev_move rfl) ?_
        refine GO_yes rfl rfl rfl (decide_eq_true e2) ?_
        refine GO_eff rfl rfl (eff_call rfl (Past_ctr qa (made 8 l1) y _ (by repeat' first | assumption | apply ArrIn.skip) o1)) ?_; rintro _ _ ⟨rfl, rfl⟩
        refine GO_yes rfl rfl rfl (decide_eq_true e2) ?_
        refine GO_q rfl rfl (ev_move rfl) ?_
        refine GO_yes rfl rfl rfl (decide_eq_true e2) ?_
        refine GO_q rfl rfl (ev_move rfl) ?_
        refine GO_yes rfl rfl rfl (decide_eq_true e2) ?_
        refine GO_eff rfl rfl (eff_call rfl (UpTo_ctr A1 l1.length c1' l1 y _ z2.skip.skip.skip (by omega))) ?_; rintro _ _ ⟨rfl, rfl⟩
        refine GO_yes rfl rfl rfl (decide_eq_true e2) ?_
        refine GO_q rfl rfl (ev_eql rfl rfl) ?_
        refine GO_q rfl rfl (ev_pick_t rfl (decide_eq_true e2) rfl) ?_
        refine GO_q rfl rfl (ev_move rfl) ?_
        refine GO_yes rfl rfl rfl (decide_eq_true e3) ?_
        refine GO_q rfl rfl (ev_move rfl) ?_
        refine GO_yes rfl rfl rfl (decide_eq_true e3) ?_
        refine GO_q rfl rfl (ev_indexAddrA rfl rfl (by omega) (by omega)) ?_
        refine GO_yes rfl rfl rfl (decide_eq_true e3) ?_
        refine GO_q rfl rfl (ev_load rfl (by repeat' first | exact Ld.blk rfl | assumption | apply Ld.skip)) ?_
        refine GO_yes rfl rfl rfl (decide_eq_true e3) ?_
        refine GO_q rfl rfl (ev_indexAddrA rfl rfl (by omega) (by omega)) ?_
        refine GO_yes rfl rfl rfl (decide_eq_true e3) ?_
        refine GO_q rfl rfl (ev_load rfl (by repeat' first | exact Ld.blk rfl | assumption | apply Ld.skip)) ?_
        refine GO_yes rfl rfl rfl (decide_eq_true e3) ?_
        refine GO_eff rfl rfl (eff_call rfl (hIDs _ (by repeat' first | assumption | apply ArrIn.skip))) ?_; rintro _ _ ⟨A7, c7, N7, rfl, i1, i2, rfl, i3⟩
        refine GO_yes rfl rfl rfl (decide_eq_true e3) ?_
        refine GO_q rfl rfl (ev_move rfl) ?_
        refine GO_yes rfl rfl rfl (decide_eq_true e3) ?_
        refine GO_eff rfl rfl (eff_call rfl (Rising_ctr (some ⟨b, 0, none⟩) zs.length d zs _ hown.app (by omega))) ?_; rintro _ _ ⟨A8, c8, N8, rfl, j1, j2, rfl, j3⟩
        refine GO_yes rfl rfl rfl (decide_eq_true e3) ?_
        refine GO_eff rfl rfl (eff_call rfl (Same_ctr A7 A8 _ _ c7 c8 (srt zs) (rising zs) _ i3.app j3 (by omega))) ?_; rintro _ _ ⟨rfl, rfl⟩
        refine GO_q rfl rfl (ev_pick_t rfl (decide_eq_true e3) rfl) ?_
        refine GO_q rfl rfl (ev_move rfl) ?_
        refine GO_yes rfl rfl rfl (decide_eq_true e4) ?_
        refine GO_eff rfl rfl (eff_call rfl (lives_ctr _)) ?_; rintro _ _ ⟨rfl, rfl⟩
        refine GO_q rfl rfl (ev_pick_t rfl (decide_eq_true e4) rfl) ?_
        refine GO_q rfl rfl (ev_assign rfl) ?_
        refine GO_nil ?_
        (repeat first | refine G_seq ?_ | refine G_skip ?_ | refine G_endblk ?_ | refine G_block ?_ | refine G_exit rfl ?_)
        exact G_ret (L' := L) rfl (.tmp rfl .nil) (en_app (en_app (by repeat first | exact en_keep hML3 | apply en_drop))) ⟨rfl, rfl⟩
  · obtain ⟨f, rfl⟩ := Int.eq_ofNat_of_zero_le (show 0 ≤ u by omega)
    (repeat first | refine G_seq ?_ | refine G_skip ?_ | refine G_endblk ?_ | refine G_block ?_ | refine G_exit rfl ?_)
    refine G_region ?_
    refine GO_q rfl rfl (ev_move rfl) ?_
    refine GO_q rfl rfl (ev_move rfl) ?_
    refine GO_q rfl rfl (ev_len rfl) ?_
    refine GO_q rfl rfl (ev_gtr rfl rfl) ?_
    refine GO_nil ?_
    (repeat first | refine G_seq ?_ | refine G_skip ?_ | refine G_endblk ?_ | refine G_block ?_ | refine G_exit rfl ?_)
    refine G_cond rfl (fun c2 => ?_) (fun c2 => ?_)
    · (repeat first | refine G_seq ?_ | refine G_skip ?_ | refine G_endblk ?_ | refine G_block ?_ | refine G_exit rfl ?_)
      refine G_region ?_
      refine GO_q rfl rfl (ev_move rfl) ?_
      refine GO_q rfl rfl (ev_len rfl) ?_
      refine GO_q rfl rfl (ev_assign rfl) ?_
      refine GO_nil ?_
      (repeat first | refine G_seq ?_ | refine G_skip ?_ | refine G_endblk ?_ | refine G_block ?_ | refine G_exit rfl ?_)
      refine G_region ?_
      refine GO_eff rfl rfl eff_buildSlice0 ?_; rintro _ _ ⟨b32, rfl, rfl⟩
      refine GO_q rfl rfl (ev_assign rfl) ?_
      refine GO_nil ?_
      (repeat first | refine G_seq ?_ | refine G_skip ?_ | refine G_endblk ?_ | refine G_block ?_ | refine G_exit rfl ?_)
      refine G_region ?_
      refine GO_q rfl rfl (ev_move rfl) ?_
      refine GO_q rfl rfl (ev_assign rfl) ?_
      refine GO_nil ?_
      (repeat first | refine G_seq ?_ | refine G_skip ?_ | refine G_endblk ?_ | refine G_block ?_ | refine G_exit rfl ?_)
      refine G_loop (ι := Nat × Nat × Nat × List Int) (fun x => [(0, .slice A1 l1.length c1'), (1, .int .i64 y), (5, .pointer (some ⟨b5, 0, none⟩)), (7, .pointer qa), (8, .slice B1 (sortP l1).length d1), (10, .int .i64 (((sortP l1).length : Nat))), (11, .slice (some ⟨x.2.1, 0, none⟩) x.2.2.2.length x.2.2.1), (12, .int .i64 (x.1 : Nat))]) (fun x => own 3 1 (some ⟨x.2.1, 0, none⟩) x.2.2.2.length x.2.2.1 (flat x.2.2.2) :: blk b5 57 [.int .i64 (f : Int), .int .i64 v] :: F :: M3)
        (fun x => f ≤ x.1 ∧ ((x.1 : Int) ≤ ((sortP l1).length : Nat) ∨ x.1 = f) ∧ x.2.2.2 = idsOf (sortP l1) f x.1 ∧ x.2.2.2.length ≤ x.2.2.1 ∧ x.2.2.1 ≤ maxLen ∧ x.2.2.2.length + f ≤ x.1) (fun x => ((((sortP l1).length : Nat)) - (x.1 : Int)).toNat) (f, b32, 0, []) ⟨Nat.le_refl _, .inr rfl, by simp [idsOf], Nat.le_refl _, Nat.zero_le _, by simp⟩ ⟨rfl, rfl, rfl, rfl, rfl, rfl, rfl, rfl, trivial⟩ (fun _ s => s) ?_
      rintro ⟨k, b, d, zs⟩ ⟨f1, f2, f3, f4, f5, f7⟩
      simp only at f1 f2 f3 f4 f5 f7
      dsimp only
      (repeat first | refine G_seq ?_ | refine G_skip ?_ | refine G_endblk ?_ | refine G_block ?_ | refine G_exit rfl ?_)
      refine G_region ?_
      refine GO_q rfl rfl (ev_move rfl) ?_
      refine GO_q rfl rfl (ev_move rfl) ?_
      (first | refine GO_q rfl rfl (ev_lssN rfl rfl) ?_ | refine GO_q rfl rfl (ev_lss rfl rfl) ?_)
      refine GO_nil ?_
      (repeat first | refine G_seq ?_ | refine G_skip ?_ | refine G_endblk ?_ | refine G_block ?_ | refine G_exit rfl ?_)
      refine G_cond rfl (fun c9 => ?_) (fun c9 => ?_)
      · obtain ⟨bb, o, rfl, hx⟩ := w3.at_ (by omega)
        have hg : (sortP l1)[k]? = some (sortP l1)[k] := List.getElem?_eq_getElem (by omega)
        have y1 := (hx _ _ hg).at_ (i := 0) rfl
        have hs := idsOf_succ (sortP l1) (f) k _ f1 hg
        generalize (sortP l1)[k] = e at *
        (repeat first | refine G_seq ?_ | refine G_skip ?_ | refine G_endblk ?_ | refine G_block ?_ | refine G_exit rfl ?_)
        refine G_region ?_
        refine GO_q rfl rfl (ev_move rfl) ?_
        refine GO_q rfl rfl (ev_move rfl) ?_
        refine GO_q rfl rfl (ev_move rfl) ?_
        (first | refine GO_q rfl rfl (ev_indexAddrN rfl rfl (by omega)) ?_ | refine GO_q rfl rfl (ev_indexAddr rfl rfl (by omega) (by omega)) ?_)
        refine GO_q rfl rfl (ev_fieldAddr rfl) ?_
        refine GO_q rfl rfl (ev_load rfl (by repeat' first | exact Ld.blk rfl | assumption | apply Ld.skip)) ?_
        refine GO_eff rfl rfl (eff_buildSlice1 (by rfl) rfl rfl) ?_; rintro _ _ ⟨b45, rfl, rfl⟩
        refine GO_eff rfl rfl (eff_append rfl rfl (by repeat' first | exact Pick.here | apply Pick.skip) (by repeat' first | exact Rc.blk rfl | assumption | apply Rc.skip) (one_all rfl) (by rfl) (by decide) (by omega) (by omega)) ?_; rintro _ _ ⟨A46, c46, rfl, hc46, hm46, hn46, rfl⟩
        refine GO_q rfl rfl (ev_assign rfl) ?_
        refine GO_nil ?_
        obtain ⟨b9, rfl⟩ := hn46 (by omega)
        (repeat first | refine G_seq ?_ | refine G_skip ?_ | refine G_endblk ?_ | refine G_block ?_ | refine G_exit rfl ?_)
        refine G_region ?_
        refine GO_q rfl rfl (ev_move rfl) ?_
        (first | refine GO_q rfl rfl (ev_addN (q := 1) rfl rfl (by omega)) ?_ | refine GO_q rfl rfl (ev_add rfl rfl (by omega)) ?_)
        refine GO_q rfl rfl (ev_assign rfl) ?_
        refine GO_nil ?_
        (repeat first | refine G_seq ?_ | refine G_skip ?_ | refine G_endblk ?_ | refine G_block ?_ | refine G_exit rfl ?_)
        exact G_round (k + 1, b9, c46, zs ++ [e.id]) ⟨by simp only; omega, .inl (by simp only; omega), by rw [hs, f3], by simp; omega, hm46, by simp; omega⟩ (by simp only; omega) ⟨rfl, rfl, rfl, rfl, rfl, rfl, by simp only [List.length_append, List.length_singleton]; rfl, rfl, trivial⟩ (by
          simp only [List.length_append, List.length_singleton]
          rw [← flat_snoc]
          exact (by repeat first | exact fun _ s => s | apply en_keep | apply en_drop | apply en_app))
      · have hz : zs = idsOf (sortP l1) (clampN (f : Int) (sortP l1).length) (clampN v (sortP l1).length) := by
          rw [f3]
          exact ids_clamp _ (f : Int) v (f) (((sortP l1).length : Nat)) (by omega) (by omega) k (by omega)
        have hzl : zs.length ≤ 100000 := by
          rw [hz]
          unfold idsOf
          rw [List.length_map, List.length_take, List.length_drop]; omega
        have hown : Rd (own 3 1 (some ⟨b, 0, none⟩) zs.length d (flat zs) :: blk b5 57 [.int .i64 (f : Int), .int .i64 v] :: F :: M3) (some ⟨b, 0, none⟩) zs.length zs := Rc.own (flat_length zs) (fun _ => ⟨b, rfl⟩)
        have hid : idsOf (made 8 l1).pts (clampN (f : Int) (made 8 l1).es.length) (clampN v (made 8 l1).es.length) = zs := by rw [hids, hz, s1, hsl]
        have e4 : srt zs = rising zs := (rising_srt zs zs (.refl _)).symm
        have hIDs := fun L' h => IDs_ctr qa (made 8 l1) (f : Int) v L' h s2
        rw [hid] at hIDs
        (repeat first | refine G_seq ?_ | refine G_skip ?_ | refine G_endblk ?_ | refine G_block ?_ | refine G_exit rfl ?_)
        refine G_region ?_
        refine GO_q rfl rfl (ev_move rfl) ?_
        refine GO_eff rfl rfl (eff_call rfl (Len_ctr qa (made 8 l1) _ (by repeat' first | assumption | apply ArrIn.skip))) ?_; rintro _ _ ⟨rfl, rfl⟩
        refine GO_q rfl rfl (ev_move rfl) ?_
        refine GO_q rfl rfl (ev_len rfl) ?_
        refine GO_q rfl rfl (ev_eql rfl rfl) ?_
        refine GO_q rfl rfl (ev_move rfl) ?_
        refine GO_yes rfl rfl rfl (decide_eq_true e1) ?_
        refine GO_q rfl rfl (ev_move rfl) ?_
        refine GO_yes rfl rfl rfl (decide_eq_true e1) ?_
        refine GO_q rfl rfl (ev_move rfl) ?_
        refine GO_yes rfl rfl rfl (decide_eq_true e1) ?_
        refine GO_eff rfl rfl (eff_call rfl (Place_ctr qa (made 8 l1) y _ (by repeat' first | assumption | apply ArrIn.skip) o1)) ?_; rintro _ _ ⟨rfl, rfl⟩
        refine GO_yes rfl rfl rfl (decide_eq_true e1) ?_
        refine GO_q rfl rfl (ev_move rfl) ?_
        refine GO_yes rfl rfl rfl (decide_eq_true e1) ?_
        refine GO_q rfl rfl (ev_move rfl) ?_
        refine GO_yes rfl rfl rfl (decide_eq_true e1) ?_
        refine GO_eff rfl rfl (eff_call rfl (Below_ctr A1 l1.length c1' l1 y _ z2.skip.skip.skip (by omega))) ?_; rintro _ _ ⟨rfl, rfl⟩
        refine GO_yes rfl rfl rfl (decide_eq_true e1) ?_
        refine GO_q rfl rfl (ev_eql rfl rfl) ?_
        refine GO_q rfl rfl (ev_pick_t rfl (decide_eq_true e1) rfl) ?_
        refine GO_q rfl rfl (ev_move rfl) ?_
        refine GO_yes rfl rfl rfl (decide_eq_true e2) ?_
        refine GO_q rfl rfl (ev_move rfl) ?_
        refine GO_yes rfl rfl rfl (decide_eq_true e2) ?_
        refine GO_q rfl rfl (ev_move rfl) ?_
        refine GO_yes rfl rfl rfl (decide_eq_true e2) ?_
        refine GO_eff rfl rfl (eff_call rfl (Past_ctr qa (made 8 l1) y _ (by repeat' first | assumption | apply ArrIn.skip) o1)) ?_; rintro _ _ ⟨rfl, rfl⟩
        refine GO_yes rfl rfl rfl (decide_eq_true e2) ?_
        refine GO_q rfl rfl (ev_move rfl) ?_
        refine GO_yes rfl rfl rfl (decide_eq_true e2) ?_
        refine GO_q rfl rfl (ev_move rfl) ?_
        refine GO_yes rfl rfl rfl (decide_eq_true e2) ?_
        refine GO_eff rfl rfl (eff_call rfl (UpTo_ctr A1 l1.length c1' l1 y _ z2.skip.skip.skip (by omega))) ?_; rintro _ _ ⟨rfl, rfl⟩
        refine GO_yes rfl rfl rfl (decide_eq_true e2) ?_
        refine GO_q rfl rfl (ev_eql rfl rfl) ?_
        refine GO_q rfl rfl (ev_pick_t rfl (decide_eq_true e2) rfl) ?_
        refine GO_q rfl rfl (ev_move rfl) ?_
        refine GO_yes rfl rfl rfl (decide_eq_true e3) ?_
        refine GO_q rfl rfl (ev_move rfl) ?_
        refine GO_yes rfl rfl rfl (decide_eq_true e3) ?_
        refine GO_q rfl rfl (ev_indexAddrA rfl rfl (by omega) (by omega)) ?_
        refine GO_yes rfl rfl rfl (decide_eq_true e3) ?_
        refine GO_q rfl rfl (ev_load rfl (by repeat' first | exact Ld.blk rfl | assumption | apply Ld.skip)) ?_
        refine GO_yes rfl rfl rfl (decide_eq_true e3) ?_
        refine GO_q rfl rfl (ev_indexAddrA rfl rfl (by omega) (by omega)) ?_
        refine GO_yes rfl rfl rfl (decide_eq_true e3) ?_
        refine GO_q rfl rfl (ev_load rfl (by repeat' first | exact Ld.blk rfl | assumption | apply Ld.skip)) ?_
        refine GO_yes rfl rfl rfl (decide_eq_true e3) ?_
        refine GO_eff rfl rfl (eff_call rfl (hIDs _ (by repeat' first | assumption | apply ArrIn.skip))) ?_; rintro _ _ ⟨A7, c7, N7, rfl, i1, i2, rfl, i3⟩
        refine GO_yes rfl rfl rfl (decide_eq_true e3) ?_
        refine GO_q rfl rfl (ev_move rfl) ?_
        refine GO_yes rfl rfl rfl (decide_eq_true e3) ?_
        refine GO_eff rfl rfl (eff_call rfl (Rising_ctr (some ⟨b, 0, none⟩) zs.length d zs _ hown.app (by omega))) ?_; rintro _ _ ⟨A8, c8, N8, rfl, j1, j2, rfl, j3⟩
        refine GO_yes rfl rfl rfl (decide_eq_true e3) ?_
        refine GO_eff rfl rfl (eff_call rfl (Same_ctr A7 A8 _ _ c7 c8 (srt zs) (rising zs) _ i3.app j3 (by omega))) ?_; rintro _ _ ⟨rfl, rfl⟩
        refine GO_q rfl rfl (ev_pick_t rfl (decide_eq_true e3) rfl) ?_
        refine GO_q rfl rfl (ev_move rfl) ?_
        refine GO_yes rfl rfl rfl (decide_eq_true e4) ?_
        refine GO_eff rfl rfl (eff_call rfl (lives_ctr _)) ?_; rintro _ _ ⟨rfl, rfl⟩
        refine GO_q rfl rfl (ev_pick_t rfl (decide_eq_true e4) rfl) ?_
        refine GO_q rfl rfl (ev_assign rfl) ?_
        refine GO_nil ?_
        (repeat first | refine G_seq ?_ | refine G_skip ?_ | refine G_endblk ?_ | refine G_block ?_ | refine G_exit rfl ?_)
        exact G_ret (L' := L) rfl (.tmp rfl .nil) (en_app (en_app (by repeat first | exact en_keep hML3 | apply en_drop))) ⟨rfl, rfl⟩
    · (repeat first | refine G_seq ?_ | refine G_skip ?_ | refine G_endblk ?_ | refine G_block ?_ | refine G_exit rfl ?_)
      (repeat first | refine G_seq ?_ | refine G_skip ?_ | refine G_endblk ?_ | refine G_block ?_ | refine G_exit rfl ?_)
      refine G_region ?_
      refine GO_eff rfl rfl eff_buildSlice0 ?_; rintro _ _ ⟨b32, rfl, rfl⟩
      refine GO_q rfl rfl (ev_assign rfl) ?_
      refine GO_nil ?_
      (repeat first | refine G_seq ?_ | refine G_skip ?_ | refine G_endblk ?_ | refine G_block ?_ | refine G_exit rfl ?_)
      refine G_region ?_
      refine GO_q rfl rfl (ev_move rfl) ?_
      refine GO_q rfl rfl (ev_assign rfl) ?_
      refine GO_nil ?_
      (repeat first | refine G_seq ?_ | refine G_skip ?_ | refine G_endblk ?_ | refine G_block ?_ | refine G_exit rfl ?_)
      refine G_loop (ι := Nat × Nat × Nat × List Int) (fun x => [(0, .slice A1 l1.length c1'), (1, .int .i64 y), (5, .pointer (some ⟨b5, 0, none⟩)), (7, .pointer qa), (8, .slice B1 (sortP l1).length d1), (10, .int .i64 (v)), (11, .slice (some ⟨x.2.1, 0, none⟩) x.2.2.2.length x.2.2.1), (12, .int .i64 (x.1 : Nat))]) (fun x => own 3 1 (some ⟨x.2.1, 0, none⟩) x.2.2.2.length x.2.2.1 (flat x.2.2.2) :: blk b5 57 [.int .i64 (f : Int), .int .i64 v] :: F :: M3)
        (fun x => f ≤ x.1 ∧ ((x.1 : Int) ≤ v ∨ x.1 = f) ∧ x.2.2.2 = idsOf (sortP l1) f x.1 ∧ x.2.2.2.length ≤ x.2.2.1 ∧ x.2.2.1 ≤ maxLen ∧ x.2.2.2.length + f ≤ x.1) (fun x => ((v) - (x.1 : Int)).toNat) (f, b32, 0, []) ⟨Nat.le_refl _, .inr rfl, by simp [idsOf], Nat.le_refl _, Nat.zero_le _, by simp⟩ ⟨rfl, rfl, rfl, rfl, rfl, rfl, rfl, rfl, trivial⟩ (fun _ s => s) ?_
      rintro ⟨k, b, d, zs⟩ ⟨f1, f2, f3, f4, f5, f7⟩
      simp only at f1 f2 f3 f4 f5 f7
      dsimp only
      (repeat first | refine G_seq ?_ | refine G_skip ?_ | refine G_endblk ?_ | refine G_block ?_ | refine G_exit rfl ?_)
      refine G_region ?_
      refine GO_q rfl rfl (ev_move rfl) ?_
      refine GO_q rfl rfl (ev_move rfl) ?_
      (first | refine GO_q rfl rfl (ev_lssN rfl rfl) ?_ | refine GO_q rfl rfl (ev_lss rfl rfl) ?_)
      refine GO_nil ?_
      (repeat first | refine G_seq ?_ | refine G_skip ?_ | refine G_endblk ?_ | refine G_block ?_ | refine G_exit rfl ?_)
      refine G_cond rfl (fun c9 => ?_) (fun c9 => ?_)
      · obtain ⟨bb, o, rfl, hx⟩ := w3.at_ (by omega)
        have hg : (sortP l1)[k]? = some (sortP l1)[k] := List.getElem?_eq_getElem (by omega)
        have y1 := (hx _ _ hg).at_ (i := 0) rfl
        have hs := idsOf_succ (sortP l1) (f) k _ f1 hg
        generalize (sortP l1)[k] = e at *
        (repeat first | refine G_seq ?_ | refine G_skip ?_ | refine G_endblk ?_ | refine G_block ?_ | refine G_exit rfl ?_)
        refine G_region ?_
        refine GO_q rfl rfl (ev_move rfl) ?_
        refine GO_q rfl rfl (ev_move rfl) ?_
        refine GO_q rfl rfl (ev_move rfl) ?_
        (first | refine GO_q rfl rfl (ev_indexAddrN rfl rfl (by omega)) ?_ | refine GO_q rfl rfl (ev_indexAddr rfl rfl (by omega) (by omega)) ?_)
        refine GO_q rfl rfl (ev_fieldAddr rfl) ?_
        refine GO_q rfl rfl (ev_load rfl (by repeat' first | exact Ld.blk rfl | assumption | apply Ld.skip)) ?_
        refine GO_eff rfl rfl (eff_buildSlice1 (by rfl) rfl rfl) ?_; rintro _ _ ⟨b45, rfl, rfl⟩
        refine GO_eff rfl rfl (eff_append rfl rfl (by repeat' first | exact Pick.here | apply Pick.skip) (by repeat' first | exact Rc.blk rfl | assumption | apply Rc.skip) (one_all rfl) (by rfl) (by decide) (by omega) (by omega)) ?_; rintro _ _ ⟨A46, c46, rfl, hc46, hm46, hn46, rfl⟩
        refine GO_q rfl rfl (ev_assign rfl) ?_
        refine GO_nil ?_
        obtain ⟨b9, rfl⟩ := hn46 (by omega)
        (repeat first | refine G_seq ?_ | refine G_skip ?_ | refine G_endblk ?_ | refine G_block ?_ | refine G_exit rfl ?_)
        refine G_region ?_
        refine GO_q rfl rfl (ev_move rfl) ?_
        (first | refine GO_q rfl rfl (ev_addN (q := 1) rfl rfl (by omega)) ?_ | refine GO_q rfl rfl (ev_add rfl rfl (by omega)) ?_)
        refine GO_q rfl rfl (ev_assign rfl) ?_
        refine GO_nil ?_
        (repeat first | refine G_seq ?_ | refine G_skip ?_ | refine G_endblk ?_ | refine G_block ?_ | refine G_exit rfl ?_)
        exact G_round (k + 1, b9, c46, zs ++ [e.id]) ⟨by simp only; omega, .inl (by simp only; omega), by rw [hs, f3], by simp; omega, hm46, by simp; omega⟩ (by simp only; omega) ⟨rfl, rfl, rfl, rfl, rfl, rfl, by simp only [List.length_append, List.length_singleton]; rfl, rfl, trivial⟩ (by
          simp only [List.length_append, List.length_singleton]
          rw [← flat_snoc]
          exact (by repeat first | exact fun _ s => s | apply en_keep | apply en_drop | apply en_app))
      · have hz : zs = idsOf (sortP l1) (clampN (f : Int) (sortP l1).length) (clampN v (sortP l1).length) := by
          rw [f3]
          exact ids_clamp _ (f : Int) v (f) (v) (by omega) (by omega) k (by omega)
        have hzl : zs.length ≤ 100000 := by
          rw [hz]
          unfold idsOf
          rw [List.length_map, List.length_take, List.length_drop]; omega
        have hown : Rd (own 3 1 (some ⟨b, 0, none⟩) zs.length d (flat zs) :: blk b5 57 [.int .i64 (f : Int), .int .i64 v] :: F :: M3) (some ⟨b, 0, none⟩) zs.length zs := Rc.own (flat_length zs) (fun _ => ⟨b, rfl⟩)
        have hid : idsOf (made 8 l1).pts (clampN (f : Int) (made 8 l1).es.length) (clampN v (made 8 l1).es.length) = zs := by rw [hids, hz, s1, hsl]
        have e4 : srt zs = rising zs := (rising_srt zs zs (.refl _)).symm
        have hIDs := fun L' h => IDs_ctr qa (made 8 l1) (f : Int) v L' h s2
        rw [hid] at hIDs
        (repeat first | refine G_seq ?_ | refine G_skip ?_ | refine G_endblk ?_ | refine G_block ?_ | refine G_exit rfl ?_)
        refine G_region ?_
        refine GO_q rfl rfl (ev_move rfl) ?_
        refine GO_eff rfl rfl (eff_call rfl (Len_ctr qa (made 8 l1) _ (by repeat' first | assumption | apply ArrIn.skip))) ?_; rintro _ _ ⟨rfl, rfl⟩
        refine GO_q rfl rfl (ev_move rfl) ?_
        refine GO_q rfl rfl (ev_len rfl) ?_
        refine GO_q rfl rfl (ev_eql rfl rfl) ?_
        refine GO_q rfl rfl (ev_move rfl) ?_
        refine GO_yes rfl rfl rfl (decide_eq_true e1) ?_
        refine GO_q rfl rfl (ev_move rfl) ?_
        refine GO_yes rfl rfl rfl (decide_eq_true e1) ?_
        refine GO_q rfl rfl (ev_move rfl) ?_
        refine GO_yes rfl rfl rfl (decide_eq_true e1) ?_
        refine GO_eff rfl rfl (eff_call rfl (Place_ctr qa (made 8 l1) y _ (by repeat' first | assumption | apply ArrIn.skip) o1)) ?_; rintro _ _ ⟨rfl, rfl⟩
        refine GO_yes rfl rfl rfl (decide_eq_true e1) ?_
        refine GO_q rfl rfl (ev_move rfl) ?_
        refine GO_yes rfl rfl rfl (decide_eq_true e1) ?_
        refine GO_q rfl rfl (ev_move rfl) ?_
        refine GO_yes rfl rfl rfl (decide_eq_true e1) ?_
        refine GO_eff rfl rfl (eff_call rfl (Below_ctr A1 l1.length c1' l1 y _ z2.skip.skip.skip (by omega))) ?_; rintro _ _ ⟨rfl, rfl⟩
        refine GO_yes rfl rfl rfl (decide_eq_true e1) ?_
        refine GO_q rfl rfl (ev_eql rfl rfl) ?_
        refine GO_q rfl rfl (ev_pick_t rfl (decide_eq_true e1) rfl) ?_
        refine GO_q rfl rfl (ev_move rfl) ?_
        refine GO_yes rfl rfl rfl (decide_eq_true e2) ?_
        refine GO_q rfl rfl (ev_move rfl) ?_
        refine GO_yes rfl rfl rfl (decide_eq_true e2) ?_
        refine GO_q rfl rfl (ev_move rfl) ?_
        refine GO_yes rfl rfl rfl (decide_eq_true e2) ?_
        refine GO_eff rfl rfl (eff_call rfl (Past_ctr qa (made 8 l1) y _ (by repeat' first | assumption | apply ArrIn.skip) o1)) ?_; rintro _ _ ⟨rfl, rfl⟩
        refine GO_yes rfl rfl rfl (decide_eq_true e2) ?_
        refine GO_q rfl rfl (ev_move rfl) ?_
        refine GO_yes rfl rfl rfl (decide_eq_true e2) ?_
        refine GO_q rfl rfl (ev_move rfl) ?_
        refine GO_yes rfl rfl rfl (decide_eq_true e2) ?_
        refine GO_eff rfl rfl (eff_call rfl (UpTo_ctr A1 l1.length c1' l1 y _ z2.skip.skip.skip (by omega))) ?_; rintro _ _ ⟨rfl, rfl⟩
        refine GO_yes rfl rfl rfl (decide_eq_true e2) ?_
        refine GO_q rfl rfl (ev_eql rfl rfl) ?_
        refine GO_q rfl rfl (ev_pick_t rfl (decide_eq_true e2) rfl) ?_
        refine GO_q rfl rfl (ev_move rfl) ?_
        refine GO_yes rfl rfl rfl (decide_eq_true e3) ?_
        refine GO_q rfl rfl (ev_move rfl) ?_
        refine GO_yes rfl rfl rfl (decide_eq_true e3) ?_
        refine GO_q rfl rfl (ev_indexAddrA rfl rfl (by omega) (by omega)) ?_
        refine GO_yes rfl rfl rfl (decide_eq_true e3) ?_
        refine GO_q rfl rfl (ev_load rfl (by repeat' first | exact Ld.blk rfl | assumption | apply Ld.skip)) ?_
        refine GO_yes rfl rfl rfl (decide_eq_true e3) ?_
        refine GO_q rfl rfl (ev_indexAddrA rfl rfl (by omega) (by omega)) ?_
        refine GO_yes rfl rfl rfl (decide_eq_true e3) ?_
        refine GO_q rfl rfl (ev_load rfl (by repeat' first | exact Ld.blk rfl | assumption | apply Ld.skip)) ?_
        refine GO_yes rfl rfl rfl (decide_eq_true e3) ?_
        refine GO_eff rfl rfl (eff_call rfl (hIDs _ (by repeat' first | assumption | apply ArrIn.skip))) ?_; rintro _ _ ⟨A7, c7, N7, rfl, i1, i2, rfl, i3⟩
        refine GO_yes rfl rfl rfl (decide_eq_true e3) ?_
        refine GO_q rfl rfl (ev_move rfl) ?_
        refine GO_yes rfl rfl rfl (decide_eq_true e3) ?_
        refine GO_eff rfl rfl (eff_call rfl (Rising_ctr (some ⟨b, 0, none⟩) zs.length d zs _ hown.app (by omega))) ?_; rintro _ _ ⟨A8, c8, N8, rfl, j1, j2, rfl, j3⟩
        refine GO_yes rfl rfl rfl (decide_eq_true e3) ?_
        refine GO_eff rfl rfl (eff_call rfl (Same_ctr A7 A8 _ _ c7 c8 (srt zs) (rising zs) _ i3.app j3 (by omega))) ?_; rintro _ _ ⟨rfl, rfl⟩
        refine GO_q rfl rfl (ev_pick_t rfl (decide_eq_true e3) rfl) ?_
        refine GO_q rfl rfl (ev_move rfl) ?_
        refine GO_yes rfl rfl rfl (decide_eq_true e4) ?_
        refine GO_eff rfl rfl (eff_call rfl (lives_ctr _)) ?_; rintro _ _ ⟨rfl, rfl⟩
        refine GO_q rfl rfl (ev_pick_t rfl (decide_eq_true e4) rfl) ?_
        refine GO_q rfl rfl (ev_assign rfl) ?_
        refine GO_nil ?_
        (repeat first | refine G_seq ?_ | refine G_skip ?_ | refine G_endblk ?_ | refine G_block ?_ | refine G_exit rfl ?_)
        exact G_ret (L' := L) rfl (.tmp rfl .nil) (en_app (en_app (by repeat first | exact en_keep hML3 | apply en_drop))) ⟨rfl, rfl⟩
theorem cascadePlaces_walk (A : Option Addr) (n c : Nat) (ns : List Int) (y u v : Int) (w : World) (hc : n ≤ c) (hc2 : c ≤ maxLen) (hu : -9223372036854775808 ≤ u ∧ u ≤ 9223372036854775807) (hv : -9223372036854775808 ≤ v ∧ v ≤ 9223372036854775807) (h1 : Reads w 3 A n (ints ns)) :
    Calls Try.prog 7 #[.slice A n c, .int .i64 y, .agg #[.int .i64 u, .int .i64 v]] w fun e w' => e = .returned (.bool true) ∧ Below w.heap.size w w' := by
  obtain ⟨l, hl⟩ := rd_pts h1
  exact law_of_ctr (cascadePlaces_ctr A n c l y u v _ hl hc hc2 hu hv)
end Go.Proofs.Ytcdafmmfcjbodaa
