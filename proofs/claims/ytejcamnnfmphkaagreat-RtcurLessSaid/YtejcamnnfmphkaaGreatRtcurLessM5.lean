/- Texts of the law RtcurLess, one behind the other. -/
import Derived.Test.YtejcamnnfmphkaaGreatRtcurLessM4
import Derived.Test.YtejcamnnfmphkaaGreatRtcurLessM1
import Derived.Test.YtejcamnnfmphkaaGreatRtcurLessM2
import Derived.ChangeKeysEq
/- A cursor over trees of lists: where it begins. -/
namespace Go.Proofs.YtejcamnnfmphkaaGreat
attribute [local irreducible] sat
set_option linter.unusedVariables false
set_option linter.unusedSimpArgs false
set_option maxRecDepth 100000

/-- A tree, as it lies in a list. -/
structure RTr where
  t : Nat
  T : RT
  A : Option Addr
  c : Nat
  l : List Pt
instance encRTr : Enc RTr := ⟨1, fun x => [.pointer (some ⟨x.t, 0, none⟩)], fun _ => rfl, fun _ v h => by simp at h; subst h; rfl⟩
def RTr.at_ (L : List HP) (x : RTr) : Prop := TR L x.t x.T x.A x.c x.l
theorem TR.mono {L M : List HP} (f : ∀ h, sat M h → sat L h) {t : Nat} {T : RT} {A : Option Addr} {c : Nat} {l : List Pt} (h : TR L t T A c l) : TR M t T A c l := ⟨h.z.mono f, h.i.mono f, h.o, h.a, h.r.mono f, h.c1, h.c2⟩
def begs (b : Bx) (ts : List RTr) : List RT := ts.map fun x => begR b x.T
theorem Backward_ctr (A : Option Addr) (n c : Nat) (L : List HP) : Ctr Tryz.prog 52 #[.slice A n c] L fun v L' => ∃ b, v = .func (.func 70) #[] #[.pointer (some ⟨b, 0, none⟩)] ∧ L' = blk b 66 [.slice A n c] :: L := by
  refine Ctr_of (fn := Tryz.f52) (n := 4) Tryz.func52 rfl rfl rfl ?_
  intro g F
  (repeat first | refine G_seq ?_ | refine G_skip ?_ | refine G_endblk ?_ | refine G_block ?_ | refine G_exit rfl ?_)
  refine G_region ?_
  refine GO_eff rfl rfl (eff_box rfl) ?_; rintro _ _ ⟨b1, rfl, rfl⟩
  refine GO_q rfl rfl (ev_assign rfl) ?_
  refine GO_nil ?_
  (repeat first | refine G_seq ?_ | refine G_skip ?_ | refine G_endblk ?_ | refine G_block ?_ | refine G_exit rfl ?_)
  refine G_region ?_
  refine GO_q rfl rfl (ev_makeFunc rfl rfl) ?_
  refine GO_q rfl rfl (ev_assign rfl) ?_
  refine GO_nil ?_
  (repeat first | refine G_seq ?_ | refine G_skip ?_ | refine G_endblk ?_ | refine G_block ?_ | refine G_exit rfl ?_)
  exact G_ret (L' := blk b1 66 [.slice A n c] :: L) rfl (.tmp rfl .nil) (by (repeat first | exact en_refl | (apply en_blk; focus ((repeat' first | exact Pick.here | apply Pick.skip | apply Pick.app); done); focus rfl) | (apply en_own; focus ((repeat' first | exact Pick.here | apply Pick.skip | apply Pick.app); done); focus rfl) | (apply en_pick; focus ((repeat' first | exact Pick.here | apply Pick.skip | apply Pick.app); done)) | apply en_drop | apply en_app) <;> fail) ⟨b1, rfl, rfl⟩
theorem bw_ctr (y b : Nat) (A : Option Addr) (n c : Nat) (ts : List RTr) (L : Nat → List HP) (hRd : ∀ k, k ≤ n → Rd (L k) A n ts) (hn : n ≤ 1000000)
    (hy : ∀ k x, ts.reverse[k]? = some x → Yld Tryz.prog y [.int .i64 ((n - 1 - k : Nat) : Int), .pointer (some ⟨x.t, 0, none⟩)] (L k) fun q L' => q = true ∧ L' = L (k + 1)) :
    Ctr Tryz.prog 70 #[Value.func (.yield y) #[] #[], .pointer (some ⟨b, 0, none⟩)] (blk b 66 [.slice A n c] :: L 0) fun v L' => v = .tuple #[] ∧ L' = blk b 66 [.slice A n c] :: L n := by
  have hlen : ts.length = n := (hRd 0 (Nat.zero_le _)).len (by decide)
  refine Ctr_of (fn := Tryz.f70) (n := 19) Tryz.func70 rfl rfl rfl ?_
  intro g F
  (repeat first | refine G_seq ?_ | refine G_skip ?_ | refine G_endblk ?_ | refine G_block ?_ | refine G_exit rfl ?_)
  refine G_region ?_
  refine GO_q rfl rfl (ev_load rfl (by repeat' first | exact Ld.blk rfl | assumption | apply Ld.skip | apply Ld.app)) ?_
  refine GO_q rfl rfl (ev_len rfl) ?_
  (first | refine GO_q rfl rfl (ev_subN (q := 1) rfl rfl (by first | omega | (simp; done) | (simp; omega))) ?_ | refine GO_q rfl rfl (ev_sub rfl rfl (by first | omega | (simp; done) | (simp; omega))) ?_)
  refine GO_q rfl rfl (ev_assign rfl) ?_
  refine GO_nil ?_
  (repeat first | refine G_seq ?_ | refine G_skip ?_ | refine G_endblk ?_ | refine G_block ?_ | refine G_exit rfl ?_)
  refine G_loop (ι := Nat) (fun k => [(0, Value.func (.yield y) #[] #[]), (1, .pointer (some ⟨b, 0, none⟩)), (3, .int .i64 ((n : Int) - 1 - (k : Nat)))]) (fun k => F :: blk b 66 [.slice A n c] :: L k) (fun k => k ≤ n) (fun k => n - k) 0 (Nat.zero_le _) ⟨rfl, rfl, by rw [show (n : Int) - 1 - ((0 : Nat) : Int) = (n : Int) - 1 by omega]; rfl, trivial⟩ (by (repeat first | exact fun _ s => s | apply en_keep | apply en_drop | apply en_app) <;> fail) ?_
  intro k f1
  (repeat first | refine G_seq ?_ | refine G_skip ?_ | refine G_endblk ?_ | refine G_block ?_ | refine G_exit rfl ?_)
  refine G_region ?_
  refine GO_q rfl rfl (ev_move rfl) ?_
  refine GO_q rfl rfl (ev_geq rfl rfl) ?_
  refine GO_nil ?_
  by_cases c1 : k < n
  · obtain ⟨b1, o1, rfl, x1⟩ := (hRd k f1).at_ (by omega)
    have g1 : ts.reverse[k]? = some (ts.reverse[k]'(by rw [List.length_reverse]; omega)) := List.getElem?_eq_getElem _
    generalize ts.reverse[k]'(by rw [List.length_reverse]; omega) = u at g1
    have g2 : ts[n - 1 - k]? = some u := by
      rw [List.getElem?_reverse (by omega)] at g1
      rw [← g1, hlen]
    have y1 := (x1 _ _ g2).at_ (i := 0) rfl
    have hyk := hy k u g1
    obtain ⟨i, hi⟩ : ∃ i, n - 1 - k = i := ⟨_, rfl⟩
    have hie : (n : Int) - 1 - (k : Nat) = (i : Nat) := by omega
    rw [hi] at y1 hyk
    rw [hie]
    have z1 : Ld (L k) ⟨b1, o1 + i * 1, none⟩ (.pointer (some ⟨u.t, 0, none⟩)) := y1
    (repeat first | refine G_seq ?_ | refine G_skip ?_ | refine G_endblk ?_ | refine G_block ?_ | refine G_exit rfl ?_)
    refine G_cond_t rfl (decide_eq_true (by omega)) ?_
    (repeat first | refine G_seq ?_ | refine G_skip ?_ | refine G_endblk ?_ | refine G_block ?_ | refine G_exit rfl ?_)
    refine G_region ?_
    refine GO_q rfl rfl (ev_move rfl) ?_
    refine GO_q rfl rfl (ev_move rfl) ?_
    refine GO_q rfl rfl (ev_load rfl (by repeat' first | exact Ld.blk rfl | assumption | apply Ld.skip | apply Ld.app)) ?_
    refine GO_q rfl rfl (ev_move rfl) ?_
    (first | refine GO_q rfl rfl (ev_indexAddrN rfl rfl (by first | omega | (simp; done) | (simp; omega))) ?_ | refine GO_q rfl rfl (ev_indexAddr rfl rfl (by first | omega | (simp; done) | (simp; omega)) (by first | omega | (simp; done) | (simp; omega))) ?_)
    refine GO_q rfl rfl (ev_load rfl (by repeat' first | exact Ld.blk rfl | assumption | apply Ld.skip | apply Ld.app)) ?_
    refine GO_yield rfl rfl rfl (Yld.frame [F, blk b 66 [.slice (some ⟨b1, o1, none⟩) n c]] hyk (fun _ s => s)) ?_
    rintro q L' ⟨L1, ⟨rfl, rfl⟩, rfl⟩
    refine GO_q rfl rfl (ev_not rfl) ?_
    refine GO_nil ?_
    (repeat first | refine G_seq ?_ | refine G_skip ?_ | refine G_endblk ?_ | refine G_block ?_ | refine G_exit rfl ?_)
    refine G_cond_f rfl rfl ?_
    (repeat first | refine G_seq ?_ | refine G_skip ?_ | refine G_endblk ?_ | refine G_block ?_ | refine G_exit rfl ?_)
    refine G_region ?_
    refine GO_q rfl rfl (ev_move rfl) ?_
    (first | refine GO_q rfl rfl (ev_subN (q := 1) rfl rfl (by first | omega | (simp; done) | (simp; omega))) ?_ | refine GO_q rfl rfl (ev_sub rfl rfl (by first | omega | (simp; done) | (simp; omega))) ?_)
    refine GO_q rfl rfl (ev_assign rfl) ?_
    refine GO_nil ?_
    (repeat first | refine G_seq ?_ | refine G_skip ?_ | refine G_endblk ?_ | refine G_block ?_ | refine G_exit rfl ?_)
    exact G_round (k + 1) (by omega) (by omega) ⟨rfl, rfl, by rw [show (n : Int) - 1 - ((k + 1 : Nat) : Int) = (i : Int) - 1 by omega]; rfl, trivial⟩ (by (repeat first | exact fun _ s => s | apply en_keep | apply en_drop | apply en_app) <;> fail)
  · have e : k = n := by omega
    subst e
    (repeat first | refine G_seq ?_ | refine G_skip ?_ | refine G_endblk ?_ | refine G_block ?_ | refine G_exit rfl ?_)
    refine G_cond_f rfl (decide_eq_false (by omega)) ?_
    (repeat first | refine G_seq ?_ | refine G_skip ?_ | refine G_endblk ?_ | refine G_block ?_ | refine G_exit rfl ?_)
    exact G_end (rs := []) (vs := []) (L' := blk b 66 [.slice A k c] :: L k) rfl .nil (by (repeat first | exact fun _ s => s | apply en_keep | apply en_drop | apply en_app) <;> fail) ⟨rfl, rfl⟩
theorem begs_take {b : Bx} {ts : List RTr} {k : Nat} {x : RTr} (h : ts.reverse[k]? = some x) : begs b (ts.reverse.take (k + 1)) = begs b (ts.reverse.take k) ++ [begR b x.T] := by
  unfold begs
  rw [List.take_add_one, h]
  simp
theorem rcbegin_ctr (b : Bx) (A : Option Addr) (n c : Nat) (ts : List RTr) (wh : Bool) (L : List HP) (Lb : List HP) (hLb : ∀ h, sat L h → sat Lb h) (hr : Rd L A n ts) (hn : n ≤ 1000) (ht : ∀ x ∈ ts, x.at_ Lb) (h1 : ∀ x ∈ ts, x.l.length ≤ 1000) (hs : lkR b (begs b ts) ≤ 60000) :
    Ctr Tryz.prog 33 #[.agg #[.int .i64 b.x1, .int .i64 b.x2, .int .i64 b.y1, .int .i64 b.y2], .slice A n c, .bool wh] L fun v L' => ∃ a, v = .pointer (some ⟨a, 0, none⟩) ∧ L' = rcP a b wh (fndR b (begs b ts)) Lb (lkR b (begs b ts)) 0 :: L := by
  have hlen : ts.length = n := hr.len (by decide)
  refine Ctr_ofM (fn := Tryz.f33) (n := 32) Tryz.func33 rfl rfl rfl ?_
  intro g F hgb
  (repeat first | refine G_seq ?_ | refine G_skip ?_ | refine G_endblk ?_ | refine G_block ?_ | refine G_exit rfl ?_)
  refine G_region ?_
  refine GO_eff rfl rfl (eff_box rfl) ?_; rintro _ _ ⟨b3, rfl, rfl⟩
  refine GO_q rfl rfl (ev_assign rfl) ?_
  refine GO_nil ?_
  (repeat first | refine G_seq ?_ | refine G_skip ?_ | refine G_endblk ?_ | refine G_block ?_ | refine G_exit rfl ?_)
  refine G_region ?_
  refine GO_eff rfl rfl (eff_call rfl (SNew_ctr _)) ?_; rintro _ _ ⟨s, rfl, rfl⟩
  refine GO_q rfl rfl (ev_move rfl) ?_
  refine GO_q rfl rfl (ev_extract rfl rfl) ?_
  refine GO_q rfl rfl (ev_extract rfl rfl) ?_
  refine GO_eff rfl rfl eff_alloc ?_; rintro _ _ ⟨b7, rfl, rfl⟩
  refine GO_eff rfl rfl (eff_store rfl rfl rfl (by repeat' first | exact Upd.here rfl | apply Upd.skip | apply Upd.app)) ?_; rintro _ _ ⟨rfl, rfl⟩
  refine GO_q rfl rfl (ev_assign rfl) ?_
  refine GO_nil ?_
  (repeat first | refine G_seq ?_ | refine G_skip ?_ | refine G_endblk ?_ | refine G_block ?_ | refine G_exit rfl ?_)
  refine G_region ?_
  refine GO_q rfl rfl (ev_load rfl (by repeat' first | exact Ld.blk rfl | assumption | apply Ld.skip | apply Ld.app)) ?_
  refine GO_q rfl rfl (ev_loadN rfl (by repeat' first | exact LdN.blk rfl | assumption | apply LdN.skip | apply LdN.app)) ?_
  refine GO_q rfl rfl (ev_move rfl) ?_
  refine GO_q rfl rfl (ev_build rfl rfl) ?_
  refine GO_eff rfl rfl (eff_box rfl) ?_; rintro _ _ ⟨b20, rfl, rfl⟩
  refine GO_q rfl rfl (ev_assign rfl) ?_
  refine GO_nil ?_
  (repeat first | refine G_seq ?_ | refine G_skip ?_ | refine G_endblk ?_ | refine G_block ?_ | refine G_exit rfl ?_)
  refine G_region ?_
  refine GO_q rfl rfl (ev_move rfl) ?_
  refine GO_eff rfl rfl (eff_call rfl (Backward_ctr A n c _)) ?_; rintro _ _ ⟨bb, rfl, rfl⟩
  refine GO_nil ?_
  (repeat first | refine G_seq ?_ | refine G_skip ?_ | refine G_endblk ?_ | refine G_block ?_ | refine G_exit rfl ?_)
  refine G_range2 (f := 70) (c1 := []) (c2 := [.pointer (some ⟨bb, 0, none⟩)]) (post := fun p L1 => p = none ∧ L1 = stkS s 65536 (partsR b (begs b ts.reverse)) :: blk b20 71 (rcC s b wh none 0 0 0 0) :: F :: L) (by rw [← hgb]; rfl) rfl rfl rfl ?_ ?_ ?_
  · intro y d R hR
    have hv := bw_ctr y bb A n c ts (fun k => obj y (R .ready none) :: obj d (.deferred (some [])) :: stkS s 65536 (partsR b (begs b (ts.reverse.take k))) :: blk b7 69 [.pointer (some ⟨s, 0, none⟩)] :: blk b3 25 [.int .i64 b.x1, .int .i64 b.x2, .int .i64 b.y1, .int .i64 b.y2] :: blk b20 71 (rcC s b wh none 0 0 0 0) :: F :: L)
      (fun k _ => hr.skip.skip.skip.skip.skip.skip.skip) (by omega) ?_
    · refine (Ctr.pre (by (repeat first | exact en_refl | (apply en_blk; focus ((repeat' first | exact Pick.here | apply Pick.skip | apply Pick.app); done); focus rfl) | (apply en_own; focus ((repeat' first | exact Pick.here | apply Pick.skip | apply Pick.app); done); focus rfl) | (apply en_pick; focus ((repeat' first | exact Pick.here | apply Pick.skip | apply Pick.app); done)) | apply en_drop | apply en_app) <;> fail) hv).post' ?_
      rintro v L' hm ⟨rfl, rfl⟩ hsat
      refine ⟨_, ⟨.ready, none, _, (by decide), ⟨rfl, rfl⟩, rfl⟩, ?_⟩
      rw [List.take_of_length_le (by rw [List.length_reverse]; omega)] at hsat
      revert hm
      exact (by (repeat first | exact en_refl | (apply en_blk; focus ((repeat' first | exact Pick.here | apply Pick.skip | apply Pick.app); done); focus rfl) | (apply en_own; focus ((repeat' first | exact Pick.here | apply Pick.skip | apply Pick.app); done); focus rfl) | (apply en_pick; focus ((repeat' first | exact Pick.here | apply Pick.skip | apply Pick.app); done)) | apply en_drop | apply en_app) <;> fail)
    · intro k x hx
      have hxm : x ∈ ts := List.mem_reverse.1 (List.mem_of_getElem? hx)
      have hk : k < n := by
        have := (List.getElem?_eq_some_iff.1 hx).1
        rw [List.length_reverse] at this; omega
      have e9 := begs_take (b := b) hx
      have hxt : TR L x.t x.T x.A x.c x.l := TR.mono hLb (ht x hxm)
      refine hR (ι := Unit) (τ := fun _ => [(3, .pointer (some ⟨b3, 0, none⟩)), (7, .pointer (some ⟨b7, 0, none⟩)), (9, .pointer (some ⟨b20, 0, none⟩)), (11, .pointer (some ⟨x.t, 0, none⟩))]) (M := fun _ => obj d (.deferred (some [])) :: stkS s 65536 (partsR b (begs b (ts.reverse.take k))) :: blk b7 69 [.pointer (some ⟨s, 0, none⟩)] :: blk b3 25 [.int .i64 b.x1, .int .i64 b.x2, .int .i64 b.y1, .int .i64 b.y2] :: blk b20 71 (rcC s b wh none 0 0 0 0) :: F :: L) (Fy := fun _ => True) ?_ ?_
      · intro g F' _ _
        (repeat first | refine G_seq ?_ | refine G_skip ?_ | refine G_endblk ?_ | refine G_block ?_ | refine G_exit rfl ?_)
        refine G_region ?_
        refine GO_q rfl rfl (ev_assign rfl) ?_
        refine GO_nil ?_
        exact G_rndStart () trivial ⟨rfl, rfl, rfl, rfl, trivial⟩ (by (repeat first | exact fun _ s => s | apply en_keep | apply en_drop | apply en_app) <;> fail)
      · intro g F' _ _ _ _
        have hsl : (partsR b (begs b (ts.reverse.take k))).length = k := by
          rw [partsR_len]; unfold begs
          rw [List.length_map, List.length_take, List.length_reverse]; omega
        have hbg := fun M h => tBegin_ctr (L := M) (t := x.t) (T := x.T) (A := x.A) (c := x.c) (l := x.l) h b
        have hrd : ∀ (X : Nat) (M : List HP), Rd (blk X 75 [.pointer (begR b x.T).addr, .int .i64 ((begR b x.T).arr.pts.countP (belowF b.y1) : Nat), .int .i64 ((begR b x.T).arr.pts.countP (upToF b.y2) : Nat)] :: M) (some ⟨X, 0, none⟩) 1 (partsR b [begR b x.T]) := fun X M => Rc.blk rfl
        rw [e9, show partsR b (begs b (ts.reverse.take k) ++ [begR b x.T]) = partsR b (begs b (ts.reverse.take k)) ++ partsR b [begR b x.T] from List.map_append]
        generalize begR b x.T = z at *
        generalize partsR b (begs b (ts.reverse.take k)) = st at *
        (repeat first | refine G_seq ?_ | refine G_skip ?_ | refine G_endblk ?_ | refine G_block ?_ | refine G_exit rfl ?_)
        (repeat first | refine G_seq ?_ | refine G_skip ?_ | refine G_endblk ?_ | refine G_block ?_ | refine G_exit rfl ?_)
        refine G_draw (.q 0 (.q 1 (.q 2 (.e 3 (.e 4 (.e 5 .nil)))))) (by kernel_rfl) (by kernel_rfl) ?_
        refine RS_q rndB_noPanic rfl rfl rfl rfl (ev_load rfl (by repeat' first | exact Ld.blk rfl | assumption | apply Ld.skip | apply Ld.app)) ?_
        refine RS_m rndB_noPanic rfl rfl rfl rfl (ev_move rfl) ?_
        refine RS_q rndB_noPanic rfl rfl rfl rfl (ev_loadN rfl (by repeat' first | exact LdN.blk rfl | assumption | apply LdN.skip | apply LdN.app)) ?_
        refine RS_e (RE_eff rfl rfl rfl (eff_call rfl (hbg _ (by repeat' first | exact hxt | apply TR.skip))) ?_); rintro _ _ ⟨rfl, rfl⟩; refine ⟨_, fun _ s => s, (by first | ((repeat first | exact fun _ s => s | apply en_keep | apply en_drop | apply en_app) <;> fail) | ((repeat first | exact en_refl | (apply en_blk; focus ((repeat' first | exact Pick.here | apply Pick.skip | apply Pick.app); done); focus rfl) | (apply en_own; focus ((repeat' first | exact Pick.here | apply Pick.skip | apply Pick.app); done); focus rfl) | (apply en_pick; focus ((repeat' first | exact Pick.here | apply Pick.skip | apply Pick.app); done)) | apply en_drop | apply en_app) <;> fail)), ?_⟩
        refine RS_e (RE_eff rfl rfl rfl (eff_buildSlice1 (by rfl) rfl rfl) ?_); rintro _ _ ⟨b29, rfl, rfl⟩; refine ⟨_, fun _ s => s, (by first | ((repeat first | exact fun _ s => s | apply en_keep | apply en_drop | apply en_app) <;> fail) | ((repeat first | exact en_refl | (apply en_blk; focus ((repeat' first | exact Pick.here | apply Pick.skip | apply Pick.app); done); focus rfl) | (apply en_own; focus ((repeat' first | exact Pick.here | apply Pick.skip | apply Pick.app); done); focus rfl) | (apply en_pick; focus ((repeat' first | exact Pick.here | apply Pick.skip | apply Pick.app); done)) | apply en_drop | apply en_app) <;> fail)), ?_⟩
        refine RS_e (RE_last (by kernel_rfl) rfl rfl rfl (eff_call rfl (Ctr.pick (by repeat' first | exact Pick.here | apply Pick.skip | apply Pick.app) (Push_ctr s (some ⟨b29, 0, none⟩) 1 1 st (partsR b [z]) _ (by repeat' first | exact hrd _ _ | apply Rd.skip) (by omega)))) ?_); rintro _ _ ⟨rfl, rfl⟩
        (repeat first | refine G_seq ?_ | refine G_skip ?_ | refine G_endblk ?_ | refine G_block ?_ | refine G_exit rfl ?_)
        exact G_rndEnd (obj d (.deferred (some [])) :: stkS s 65536 (st ++ partsR b [z]) :: blk b7 69 [.pointer (some ⟨s, 0, none⟩)] :: blk b3 25 [.int .i64 b.x1, .int .i64 b.x2, .int .i64 b.y1, .int .i64 b.y2] :: blk b20 71 (rcC s b wh none 0 0 0 0) :: F :: L) ⟨rfl, rfl⟩ (by (repeat first | exact en_refl | (apply en_blk; focus ((repeat' first | exact Pick.here | apply Pick.skip | apply Pick.app); done); focus rfl) | (apply en_own; focus ((repeat' first | exact Pick.here | apply Pick.skip | apply Pick.app); done); focus rfl) | (apply en_pick; focus ((repeat' first | exact Pick.here | apply Pick.skip | apply Pick.app); done)) | apply en_drop | apply en_app) <;> fail)
  · rintro d L1 ⟨-, rfl⟩
    (repeat first | refine G_seq ?_ | refine G_skip ?_ | refine G_endblk ?_ | refine G_block ?_ | refine G_exit rfl ?_)
    refine G_region ?_
    refine GO_q rfl rfl (ev_move rfl) ?_
    refine GO_q rfl rfl (ev_assign rfl) ?_
    refine GO_nil ?_
    (repeat first | refine G_seq ?_ | refine G_skip ?_ | refine G_endblk ?_ | refine G_block ?_ | refine G_exit rfl ?_)
    have e1 : (begs b ts.reverse).reverse = begs b ts := by unfold begs; rw [← List.map_reverse, List.reverse_reverse]
    have hI : RcI b (fndR b (begs b ts)) Lb (partsR b (begs b ts.reverse)) [] (lkR b (begs b ts)) := ⟨⟨begs b ts.reverse, rfl, by rw [← e1, lkR_rev], fun z hz => by
      obtain ⟨x, hx, rfl⟩ := List.mem_map.1 hz
      have hx := List.mem_reverse.1 hx
      obtain ⟨⟨q, o, _⟩, b2, b3⟩ := begR_good (b := b) (ht x hx).good
      refine ⟨begR_in (ht x hx).i, q, o, ?_⟩
      have e2 : (begR b x.T).sz = q.length := o.len
      have e3 : x.T.sz = x.l.length := (ht x hx).o.len
      have := h1 x hx
      omega, by rw [e1]; rfl⟩, hs⟩
    refine G_heap (own.nil_ 3 1) ?_
    refine G_retM [d] rfl (by rw [← hgb]; rfl) rfl (.tmp rfl .nil) (M := rcP b20 b wh (fndR b (begs b ts)) Lb (lkR b (begs b ts)) 0 :: F :: L) (L' := rcP b20 b wh (fndR b (begs b ts)) Lb (lkR b (begs b ts)) 0 :: L) ?_ (by (repeat first | exact en_refl | (apply en_blk; focus ((repeat' first | exact Pick.here | apply Pick.skip | apply Pick.app); done); focus rfl) | (apply en_own; focus ((repeat' first | exact Pick.here | apply Pick.skip | apply Pick.app); done); focus rfl) | (apply en_pick; focus ((repeat' first | exact Pick.here | apply Pick.skip | apply Pick.app); done)) | apply en_drop | apply en_app) <;> fail) ⟨b20, rfl, rfl⟩
    apply en_pick
    focus ((repeat' first | exact Pick.here | apply Pick.skip | apply Pick.app); done)
    refine en_rcP (s := s) hI ?_
    have ek : kp wh [] = [] := by cases wh <;> rfl
    refine en_rc (c := 0) (A := none) (fun h => absurd h (by rw [ek]; exact Nat.lt_irrefl 0)) ?_
    rw [ek]
    exact (by (repeat first | exact en_refl | (apply en_blk; focus ((repeat' first | exact Pick.here | apply Pick.skip | apply Pick.app); done); focus rfl) | (apply en_own; focus ((repeat' first | exact Pick.here | apply Pick.skip | apply Pick.app); done); focus rfl) | (apply en_pick; focus ((repeat' first | exact Pick.here | apply Pick.skip | apply Pick.app); done)) | apply en_drop | apply en_app) <;> fail)
  · rintro d e L1 ⟨h, _⟩
    cases h
end Go.Proofs.YtejcamnnfmphkaaGreat
/- Cutting numbers out of lists in order. -/
namespace Go.Proofs.YtejcamnnfmphkaaGreat
attribute [local irreducible] sat
set_option linter.unusedVariables false
set_option linter.unusedSimpArgs false
set_option maxRecDepth 100000

def loI (v : Int) (l : List Int) : Nat := l.countP fun x => decide (x < v)
theorem loI_at {l : List Int} (h : l.Pairwise (· ≤ ·)) (v : Int) {j : Nat} {a : Int} (hj : l[j]? = some a) : (!decide (a < v)) = true ↔ loI v l ≤ j :=
  fall_at (fun x => decide (x < v)) l (h.imp fun hab hb => by simp at *; omega) j a hj
theorem loI_le (v : Int) (l : List Int) : loI v l ≤ l.length := List.countP_le_length
theorem loI_mem {l : List Int} (h : l.Pairwise (· ≤ ·)) {v : Int} (hv : v ∈ l) : loI v l < l.length ∧ l[loI v l]? = some v := by
  obtain ⟨i, hi, e⟩ := List.mem_iff_getElem.1 hv
  have h1 : l[i]? = some v := by rw [List.getElem?_eq_getElem hi, e]
  have h2 := (loI_at h v h1).1 (by simp)
  have hlt : loI v l < l.length := by omega
  refine ⟨hlt, ?_⟩
  have h3 : l[loI v l]? = some l[loI v l] := List.getElem?_eq_getElem hlt
  have h4 := (loI_at h v h3).2 (Nat.le_refl _)
  rw [h3]
  congr 1
  have h5 : l[loI v l] ≤ v := by
    rcases Nat.lt_or_ge (loI v l) i with h9 | h9
    · have := List.pairwise_iff_getElem.1 h (loI v l) i hlt hi h9
      rwa [e] at this
    · have : loI v l = i := by omega
      rw [show l[loI v l] = l[i] from by congr 1, e]; exact Int.le_refl _
  simp at h4; omega
theorem loI_erase {l : List Int} (h : l.Pairwise (· ≤ ·)) {v : Int} (hv : v ∈ l) : l.take (loI v l) ++ l.drop (loI v l + 1) = l.erase v := by
  obtain ⟨h1, h2⟩ := loI_mem h hv
  have e : l = l.take (loI v l) ++ v :: l.drop (loI v l + 1) := by
    conv => lhs; rw [← List.take_append_drop (loI v l) l, List.drop_eq_getElem_cons h1]
    rw [List.getElem?_eq_getElem h1] at h2
    rw [Option.some.inj h2]
  have hn : v ∉ l.take (loI v l) := fun hm => by
    obtain ⟨i, hi, e1⟩ := List.mem_iff_getElem.1 hm
    rw [List.length_take] at hi
    rw [List.getElem_take] at e1
    have h3 : l[i]? = some v := by rw [List.getElem?_eq_getElem (by omega), e1]
    have := (loI_at h v h3).1 (by simp)
    omega
  conv => rhs; rw [e]
  rw [List.erase_append_right _ hn]
  simp
theorem hasI_ctr (A : Option Addr) (n c : Nat) (l : List Int) (v : Int) (L : List HP) (hl : Rd L A n l) (hn : n ≤ 1000000) (ho : l.Pairwise (· ≤ ·)) :
    Ctr Tryz.prog 61 #[.slice A n c, .int .i64 v, .func (.func 42) #[] #[]] L fun r L' => r = .tuple #[.int .i64 (loI v l : Nat), .bool (decide (v ∈ l))] ∧ L' = L := by
  have h1 : l.length = n := hl.len (by decide)
  have hk := loI_le v l
  have hfi : ∀ M, Rd M A n l → Ctr Tryz.prog 80 #[.slice A n c, .int .i64 v, .func (.func 42) #[] #[]] M fun r L' => r = .int .i64 (loI v l : Nat) ∧ L' = M := fun M hr => by
    refine Ctr_of (fn := Tryz.f80) (n := 10) Tryz.func80 rfl rfl rfl ?_
    intro g F
    (repeat first | refine G_seq ?_ | refine G_skip ?_ | refine G_endblk ?_ | refine G_block ?_ | refine G_exit rfl ?_)
    refine G_region ?_
    refine GO_eff rfl rfl (eff_box rfl) ?_; rintro _ _ ⟨b4, rfl, rfl⟩
    refine GO_eff rfl rfl (eff_box rfl) ?_; rintro _ _ ⟨b5, rfl, rfl⟩
    refine GO_q rfl rfl (ev_assign rfl) ?_
    refine GO_nil ?_
    (repeat first | refine G_seq ?_ | refine G_skip ?_ | refine G_endblk ?_ | refine G_block ?_ | refine G_exit rfl ?_)
    refine G_region ?_
    refine GO_q rfl rfl (ev_move rfl) ?_
    refine GO_q rfl rfl (ev_makeFunc rfl rfl) ?_
    refine GO_eff rfl rfl (eff_call rfl (seekI_ctr 96 [] [.pointer (some ⟨b5, 0, none⟩), .pointer (some ⟨b4, 0, none⟩)] (fun a => !decide (a < v)) A n c (loI v l) l _ (by repeat' first | exact Rc.blk rfl | assumption | apply Rd.skip | apply Rd.app) hn (by omega) (fun j a h => loI_at ho v h) (fun a => first1I_ctr a v b4 b5 _ (by repeat' first | exact Ld.blk rfl | assumption | apply Ld.skip | apply Ld.app) (by repeat' first | exact Ld.blk rfl | assumption | apply Ld.skip | apply Ld.app)))) ?_; rintro _ _ ⟨rfl, rfl⟩
    refine GO_q rfl rfl (ev_assign rfl) ?_
    refine GO_nil ?_
    (repeat first | refine G_seq ?_ | refine G_skip ?_ | refine G_endblk ?_ | refine G_block ?_ | refine G_exit rfl ?_)
    refine G_ret rfl (.tmp rfl .nil) (by (repeat first | exact fun _ s => s | apply en_keep | apply en_drop | apply en_app) <;> fail) ⟨rfl, rfl⟩
  have hat := fun (j : Nat) (a : Int) (h : l[j]? = some a) => loI_at ho v h
  have hmem := fun h => loI_mem (v := v) ho h
  by_cases c1 : loI v l < n
  · obtain ⟨b1, o1, rfl, x1⟩ := hl.at_ (by omega)
    have g1 : l[loI v l]? = some l[loI v l] := List.getElem?_eq_getElem (by omega)
    have y1 := (x1 _ _ g1).at_ (i := 0) rfl
    have h9 := (hat _ _ g1).2 (Nat.le_refl _)
    have hme : (!decide (v < l[loI v l])) = decide (v ∈ l) := by
      by_cases hv : v ∈ l
      · have := (hmem hv).2
        rw [g1] at this
        have e2 := Option.some.inj this
        rw [e2]; simp [hv]
      · have hne : v ≠ l[loI v l] := fun e => hv (e ▸ List.getElem_mem _)
        simp at h9
        simp [hv]; omega
    generalize l[loI v l] = u at *
    generalize loI v l = k at *
    have z1 : Ld L ⟨b1, o1 + k * 1, none⟩ (.int .i64 u) := y1
    refine Ctr_of (fn := Tryz.f61) (n := 28) Tryz.func61 rfl rfl rfl ?_
    intro g F
    (repeat first | refine G_seq ?_ | refine G_skip ?_ | refine G_endblk ?_ | refine G_block ?_ | refine G_exit rfl ?_)
    refine G_region ?_
    refine GO_q rfl rfl (ev_assign rfl) ?_
    refine GO_q rfl rfl (ev_assign rfl) ?_
    refine GO_nil ?_
    (repeat first | refine G_seq ?_ | refine G_skip ?_ | refine G_endblk ?_ | refine G_block ?_ | refine G_exit rfl ?_)
    refine G_region ?_
    refine GO_q rfl rfl (ev_move rfl) ?_
    refine GO_q rfl rfl (ev_move rfl) ?_
    refine GO_q rfl rfl (ev_move rfl) ?_
    refine GO_eff rfl rfl (eff_call rfl (hfi _ hl.skip)) ?_; rintro _ _ ⟨rfl, rfl⟩
    refine GO_q rfl rfl (ev_assign rfl) ?_
    refine GO_nil ?_
    (repeat first | refine G_seq ?_ | refine G_skip ?_ | refine G_endblk ?_ | refine G_block ?_ | refine G_exit rfl ?_)
    refine G_region ?_
    refine GO_q rfl rfl (ev_move rfl) ?_
    refine GO_q rfl rfl (ev_move rfl) ?_
    refine GO_q rfl rfl (ev_move rfl) ?_
    refine GO_q rfl rfl (ev_len rfl) ?_
    (first | refine GO_q rfl rfl (ev_lssN rfl rfl) ?_ | refine GO_q rfl rfl (ev_lss rfl rfl) ?_)
    refine GO_q rfl rfl (ev_move rfl) ?_
    refine GO_yes rfl rfl rfl (decide_eq_true c1) ?_
    refine GO_q rfl rfl (ev_move rfl) ?_
    refine GO_yes rfl rfl rfl (decide_eq_true c1) ?_
    refine GO_q rfl rfl (ev_move rfl) ?_
    refine GO_yes rfl rfl rfl (decide_eq_true c1) ?_
    refine GO_q rfl rfl (ev_move rfl) ?_
    refine GO_yes rfl rfl rfl (decide_eq_true c1) ?_
    refine GO_q rfl rfl (ev_move rfl) ?_
    refine GO_yes rfl rfl rfl (decide_eq_true c1) ?_
    (first | refine GO_q rfl rfl (ev_indexAddrN rfl rfl (by first | omega | (simp; done) | (simp; omega))) ?_ | refine GO_q rfl rfl (ev_indexAddr rfl rfl (by first | omega | (simp; done) | (simp; omega)) (by first | omega | (simp; done) | (simp; omega))) ?_)
    refine GO_yes rfl rfl rfl (decide_eq_true c1) ?_
    refine GO_q rfl rfl (ev_load rfl (by repeat' first | exact Ld.blk rfl | assumption | apply Ld.skip | apply Ld.app)) ?_
    refine GO_yes rfl rfl rfl (decide_eq_true c1) ?_
    refine GO_eff rfl rfl (eff_callv rfl rfl (cless_ctr v u _)) ?_; rintro _ _ ⟨rfl, rfl⟩
    refine GO_yes rfl rfl rfl (decide_eq_true c1) ?_
    refine GO_q rfl rfl (ev_not rfl) ?_
    refine GO_q rfl rfl (ev_pick_t rfl (decide_eq_true c1) rfl) ?_
    refine GO_q rfl rfl (ev_assign rfl) ?_
    refine GO_q rfl rfl (ev_assign rfl) ?_
    refine GO_nil ?_
    (repeat first | refine G_seq ?_ | refine G_skip ?_ | refine G_endblk ?_ | refine G_block ?_ | refine G_exit rfl ?_)
    refine G_ret rfl (.tmp rfl (.tmp rfl .nil)) (by (repeat first | exact fun _ s => s | apply en_keep | apply en_drop | apply en_app) <;> fail) ⟨by rw [← hme]; rfl, rfl⟩
  · have hv : v ∉ l := fun hv => c1 (by have := (hmem hv).1; omega)
    rw [decide_eq_false hv]
    generalize loI v l = k at *
    refine Ctr_of (fn := Tryz.f61) (n := 28) Tryz.func61 rfl rfl rfl ?_
    intro g F
    (repeat first | refine G_seq ?_ | refine G_skip ?_ | refine G_endblk ?_ | refine G_block ?_ | refine G_exit rfl ?_)
    refine G_region ?_
    refine GO_q rfl rfl (ev_assign rfl) ?_
    refine GO_q rfl rfl (ev_assign rfl) ?_
    refine GO_nil ?_
    (repeat first | refine G_seq ?_ | refine G_skip ?_ | refine G_endblk ?_ | refine G_block ?_ | refine G_exit rfl ?_)
    refine G_region ?_
    refine GO_q rfl rfl (ev_move rfl) ?_
    refine GO_q rfl rfl (ev_move rfl) ?_
    refine GO_q rfl rfl (ev_move rfl) ?_
    refine GO_eff rfl rfl (eff_call rfl (hfi _ hl.skip)) ?_; rintro _ _ ⟨rfl, rfl⟩
    refine GO_q rfl rfl (ev_assign rfl) ?_
    refine GO_nil ?_
    (repeat first | refine G_seq ?_ | refine G_skip ?_ | refine G_endblk ?_ | refine G_block ?_ | refine G_exit rfl ?_)
    refine G_region ?_
    refine GO_q rfl rfl (ev_move rfl) ?_
    refine GO_q rfl rfl (ev_move rfl) ?_
    refine GO_q rfl rfl (ev_move rfl) ?_
    refine GO_q rfl rfl (ev_len rfl) ?_
    (first | refine GO_q rfl rfl (ev_lssN rfl rfl) ?_ | refine GO_q rfl rfl (ev_lss rfl rfl) ?_)
    refine GO_q rfl rfl (ev_move rfl) ?_
    refine GO_no rfl rfl rfl (decide_eq_false c1) ?_
    refine GO_no rfl rfl rfl (decide_eq_false c1) ?_
    refine GO_no rfl rfl rfl (decide_eq_false c1) ?_
    refine GO_no rfl rfl rfl (decide_eq_false c1) ?_
    refine GO_no rfl rfl rfl (decide_eq_false c1) ?_
    refine GO_no rfl rfl rfl (decide_eq_false c1) ?_
    refine GO_no rfl rfl rfl (decide_eq_false c1) ?_
    refine GO_no rfl rfl rfl (decide_eq_false c1) ?_
    refine GO_q rfl rfl (ev_pick_f rfl (decide_eq_false c1) rfl) ?_
    refine GO_q rfl rfl (ev_assign rfl) ?_
    refine GO_q rfl rfl (ev_assign rfl) ?_
    refine GO_nil ?_
    (repeat first | refine G_seq ?_ | refine G_skip ?_ | refine G_endblk ?_ | refine G_block ?_ | refine G_exit rfl ?_)
    refine G_ret rfl (.tmp rfl (.tmp rfl .nil)) (by (repeat first | exact fun _ s => s | apply en_keep | apply en_drop | apply en_app) <;> fail) ⟨rfl, rfl⟩
/-- slices.Delete of one element -/
theorem DeleteI_ctr (b n c i : Nat) (l : List Int) (L : List HP) (h1 : l.length = n) (hn : n ≤ 1000000) (hi : i < n) :
    Ctr Tryz.prog 63 #[.slice (some ⟨b, 0, none⟩) n c, .int .i64 (i : Nat), .int .i64 (i + 1 : Nat)] (own 3 1 (some ⟨b, 0, none⟩) n c (flat l) :: L) fun v L' => Made 3 (l.take i ++ l.drop (i + 1)) L v L' := by
  have hlen : (l.take i ++ l.drop (i + 1)).length = i + (n - (i + 1)) := by simp; omega
  have hfl : flat (l.take i ++ l.drop (i + 1)) = (flat l).take (i * 1) ++ flat (l.drop (i + 1)) := by
    have a1 := flat_take l i
    rw [flat_append, a1]
    rfl
  have hF : (flat l).length = n * 1 := by rw [flat_length, h1]; rfl
  refine Ctr_of (fn := Tryz.f63) (n := 33) Tryz.func63 rfl rfl rfl ?_
  intro g F
  refine G_pure (fun h s => own.facts (s.tail)) ?_
  rintro ⟨f1, f2, f3, f4⟩
  have hbig2 : c ≤ 9223372036854775807 := by unfold maxLen at f3; omega
  have hsrc : ∀ L', Rc (own 3 1 (some ⟨b, 0, none⟩) n c (flat l) :: L') 1 (some ⟨b, (if c = i + 1 then 0 else 0 + (i + 1) * 1), none⟩) (n - (i + 1)) (flat (l.drop (i + 1))) := fun L' => Rd.drop (α := Int) (Rc.own hF (fun _ => ⟨b, rfl⟩)) (by omega) f2
  (repeat first | refine G_seq ?_ | refine G_skip ?_ | refine G_endblk ?_ | refine G_block ?_ | refine G_exit rfl ?_)
  refine G_region ?_
  refine GO_q rfl rfl (ev_assign rfl) ?_
  refine GO_nil ?_
  (repeat first | refine G_seq ?_ | refine G_skip ?_ | refine G_endblk ?_ | refine G_block ?_ | refine G_exit rfl ?_)
  refine G_region ?_
  refine GO_q rfl rfl (ev_move rfl) ?_
  refine GO_q rfl rfl (ev_move rfl) ?_
  refine GO_q rfl rfl (ev_move rfl) ?_
  refine GO_q rfl rfl (ev_move rfl) ?_
  refine GO_q rfl rfl (ev_len rfl) ?_
  refine GO_q rfl rfl (ev_slice3 rfl rfl rfl rfl (by first | omega | (simp; done) | (simp; omega)) (by first | omega | (simp; done) | (simp; omega)) (by first | omega | (simp; done) | (simp; omega))) ?_
  refine GO_nil ?_
  (repeat first | refine G_seq ?_ | refine G_skip ?_ | refine G_endblk ?_ | refine G_block ?_ | refine G_exit rfl ?_)
  refine G_region ?_
  refine GO_q rfl rfl (ev_move rfl) ?_
  refine GO_q rfl rfl (ev_move rfl) ?_
  refine GO_q rfl rfl (ev_eql rfl rfl) ?_
  refine GO_nil ?_
  (repeat first | refine G_seq ?_ | refine G_skip ?_ | refine G_endblk ?_ | refine G_block ?_ | refine G_exit rfl ?_)
  refine G_cond_f rfl (decide_eq_false (by omega)) ?_
  (repeat first | refine G_seq ?_ | refine G_skip ?_ | refine G_endblk ?_ | refine G_block ?_ | refine G_exit rfl ?_)
  refine G_region ?_
  refine GO_q rfl rfl (ev_move rfl) ?_
  refine GO_q rfl rfl (ev_len rfl) ?_
  refine GO_q rfl rfl (ev_assign rfl) ?_
  refine GO_nil ?_
  (repeat first | refine G_seq ?_ | refine G_skip ?_ | refine G_endblk ?_ | refine G_block ?_ | refine G_exit rfl ?_)
  refine G_drawE 1 (.q 0 (.q 1 (.q 2 (.q 3 (.q 4 (.q 5 (.e 6 (.q 7 .nil)))))))) (by kernel_rfl) (by kernel_rfl) ?_
  refine RS_m retB_noPanic rfl rfl rfl rfl (ev_move rfl) ?_
  refine RS_m retB_noPanic rfl rfl rfl rfl (ev_move rfl) ?_
  refine RS_q retB_noPanic rfl rfl rfl rfl (ev_sliceH rfl rfl (by first | omega | (simp; done) | (simp; omega))) ?_
  refine RS_m retB_noPanic rfl rfl rfl rfl (ev_move rfl) ?_
  refine RS_m retB_noPanic rfl rfl rfl rfl (ev_move rfl) ?_
  refine RS_q retB_noPanic rfl rfl rfl rfl (ev_sliceL rfl rfl (by first | omega | (simp; done) | (simp; omega)) (by first | omega | (simp; done) | (simp; omega))) ?_
  refine RS_e (RE_cmp (by kernel_rfl) rfl rfl rfl (eff_appendR rfl rfl (by repeat' first | exact Pick.here | apply Pick.skip | apply Pick.app) (by repeat' first | exact hsrc _ | apply Rc.skip) (flat_one _) (by omega) (by omega)) ?_); rintro _ _ ⟨rfl, rfl⟩
  refine RS_m retB_noPanic rfl rfl rfl rfl (ev_assign rfl) ?_
  refine RS_nil ?_
  (repeat first | refine G_seq ?_ | refine G_skip ?_ | refine G_endblk ?_ | refine G_block ?_ | refine G_exit rfl ?_)
  refine G_region ?_
  refine GO_q rfl rfl (ev_move rfl) ?_
  refine GO_q rfl rfl (ev_move rfl) ?_
  refine GO_q rfl rfl (ev_len rfl) ?_
  refine GO_q rfl rfl (ev_move rfl) ?_
  refine GO_q rfl rfl (ev_sliceLH rfl rfl rfl (by first | omega | (simp; done) | (simp; omega)) (by first | omega | (simp; done) | (simp; omega))) ?_
  refine GO_eff rfl rfl (eff_clear (k := i + (n - (i + 1))) rfl rfl rfl (by repeat' first | exact Pick.here | apply Pick.skip | apply Pick.app) (fun _ => by rw [if_neg (by omega)]; omega) (by omega) (by omega)) ?_; rintro _ _ ⟨rfl, rfl⟩
  refine GO_nil ?_
  (repeat first | refine G_seq ?_ | refine G_skip ?_ | refine G_endblk ?_ | refine G_block ?_ | refine G_exit rfl ?_)
  refine G_region ?_
  refine GO_q rfl rfl (ev_move rfl) ?_
  refine GO_q rfl rfl (ev_assign rfl) ?_
  refine GO_nil ?_
  (repeat first | refine G_seq ?_ | refine G_skip ?_ | refine G_endblk ?_ | refine G_block ?_ | refine G_exit rfl ?_)
  refine G_ret (L' := own 3 1 (some ⟨b, 0, none⟩) (l.take i ++ l.drop (i + 1)).length c (flat (l.take i ++ l.drop (i + 1))) :: L) rfl (.tmp rfl .nil) ?_ ⟨some ⟨b, 0, none⟩, c, by rw [hlen]; rfl, fun _ => ⟨b, rfl⟩, rfl⟩
  rw [hlen, hfl]
  exact (by (repeat first | exact en_refl | (apply en_blk; focus ((repeat' first | exact Pick.here | apply Pick.skip | apply Pick.app); done); focus rfl) | (apply en_own; focus ((repeat' first | exact Pick.here | apply Pick.skip | apply Pick.app); done); focus rfl) | (apply en_pick; focus ((repeat' first | exact Pick.here | apply Pick.skip | apply Pick.app); done)) | apply en_drop | apply en_app) <;> fail)
theorem CutI_ctr (A : Option Addr) (n c : Nat) (l : List Int) (v : Int) (L : List HP) (hl : Rd L A n l) (hn : n ≤ 100000) (ho : l.Pairwise (· ≤ ·)) :
    Ctr Tryz.prog 41 #[.slice A n c, .int .i64 v, .func (.func 42) #[] #[]] L fun r L' => ∃ A' c', r = .tuple #[.slice A' (l.erase v).length c', .bool (decide (v ∈ l))] ∧ (0 < (l.erase v).length → ∃ b, A' = some ⟨b, 0, none⟩) ∧ L' = own 3 1 A' (l.erase v).length c' (flat (l.erase v)) :: L := by
  have h1 : l.length = n := hl.len (by decide)
  have hh := fun M h => hasI_ctr A n c l v M h (by omega) ho
  by_cases hv : v ∈ l
  · obtain ⟨hlt, _⟩ := loI_mem ho hv
    have he := loI_erase ho hv
    rw [decide_eq_true hv] at hh ⊢
    rw [← he]
    generalize loI v l = k at *
    refine Ctr_of (fn := Tryz.f41) (n := 27) Tryz.func41 rfl rfl rfl ?_
    intro g F
    (repeat first | refine G_seq ?_ | refine G_skip ?_ | refine G_endblk ?_ | refine G_block ?_ | refine G_exit rfl ?_)
    refine G_region ?_
    refine GO_q rfl rfl (ev_assign rfl) ?_
    refine GO_q rfl rfl (ev_assign rfl) ?_
    refine GO_nil ?_
    (repeat first | refine G_seq ?_ | refine G_skip ?_ | refine G_endblk ?_ | refine G_block ?_ | refine G_exit rfl ?_)
    refine G_region ?_
    refine GO_q rfl rfl (ev_move rfl) ?_
    refine GO_q rfl rfl (ev_move rfl) ?_
    refine GO_q rfl rfl (ev_move rfl) ?_
    refine GO_eff rfl rfl (eff_call rfl (hh _ hl.skip)) ?_; rintro _ _ ⟨rfl, rfl⟩
    refine GO_q rfl rfl (ev_move rfl) ?_
    refine GO_q rfl rfl (ev_extract rfl rfl) ?_
    refine GO_q rfl rfl (ev_extract rfl rfl) ?_
    refine GO_q rfl rfl (ev_assign rfl) ?_
    refine GO_q rfl rfl (ev_assign rfl) ?_
    refine GO_nil ?_
    (repeat first | refine G_seq ?_ | refine G_skip ?_ | refine G_endblk ?_ | refine G_block ?_ | refine G_exit rfl ?_)
    refine G_region ?_
    refine GO_q rfl rfl (ev_move rfl) ?_
    refine GO_q rfl rfl (ev_not rfl) ?_
    refine GO_nil ?_
    (repeat first | refine G_seq ?_ | refine G_skip ?_ | refine G_endblk ?_ | refine G_block ?_ | refine G_exit rfl ?_)
    refine G_cond_f rfl rfl ?_
    (repeat first | refine G_seq ?_ | refine G_skip ?_ | refine G_endblk ?_ | refine G_block ?_ | refine G_exit rfl ?_)
    refine G_region ?_
    refine GO_q rfl rfl (ev_move rfl) ?_
    refine GO_eff rfl rfl (eff_call rfl (CloneI_ctr A n c l _ (by repeat' first | exact Rc.blk rfl | assumption | apply Rd.skip | apply Rd.app) (by omega))) ?_; rintro _ _ ⟨A8, c8, rfl, hn8, rfl⟩
    refine GO_q rfl rfl (ev_move rfl) ?_
    refine GO_q rfl rfl (ev_move rfl) ?_
    (first | refine GO_q rfl rfl (ev_addN (q := 1) rfl rfl (by first | omega | (simp; done) | (simp; omega))) ?_ | refine GO_q rfl rfl (ev_add rfl rfl (by first | omega | (simp; done) | (simp; omega))) ?_)
    obtain ⟨b8, rfl⟩ := hn8 (by omega)
    refine GO_eff rfl rfl (eff_call rfl (Ctr.pick (by repeat' first | exact Pick.here | apply Pick.skip | apply Pick.app) (DeleteI_ctr b8 _ c8 k l _ rfl (by omega) (by omega)))) ?_
    rintro _ _ ⟨A15, c15, rfl, hn15, rfl⟩
    refine GO_q rfl rfl (ev_assign rfl) ?_
    refine GO_q rfl rfl (ev_assign rfl) ?_
    refine GO_nil ?_
    (repeat first | refine G_seq ?_ | refine G_skip ?_ | refine G_endblk ?_ | refine G_block ?_ | refine G_exit rfl ?_)
    exact G_ret (L' := own 3 1 A15 (l.take k ++ l.drop (k + 1)).length c15 (flat (l.take k ++ l.drop (k + 1))) :: L) rfl (.tmp rfl (.tmp rfl .nil)) (by (repeat first | exact en_refl | (apply en_blk; focus ((repeat' first | exact Pick.here | apply Pick.skip | apply Pick.app); done); focus rfl) | (apply en_own; focus ((repeat' first | exact Pick.here | apply Pick.skip | apply Pick.app); done); focus rfl) | (apply en_pick; focus ((repeat' first | exact Pick.here | apply Pick.skip | apply Pick.app); done)) | apply en_drop | apply en_app) <;> fail) ⟨A15, c15, rfl, hn15, rfl⟩
  · rw [decide_eq_false hv] at hh ⊢
    rw [List.erase_of_not_mem hv]
    generalize loI v l = k at *
    refine Ctr_of (fn := Tryz.f41) (n := 27) Tryz.func41 rfl rfl rfl ?_
    intro g F
    (repeat first | refine G_seq ?_ | refine G_skip ?_ | refine G_endblk ?_ | refine G_block ?_ | refine G_exit rfl ?_)
    refine G_region ?_
    refine GO_q rfl rfl (ev_assign rfl) ?_
    refine GO_q rfl rfl (ev_assign rfl) ?_
    refine GO_nil ?_
    (repeat first | refine G_seq ?_ | refine G_skip ?_ | refine G_endblk ?_ | refine G_block ?_ | refine G_exit rfl ?_)
    refine G_region ?_
    refine GO_q rfl rfl (ev_move rfl) ?_
    refine GO_q rfl rfl (ev_move rfl) ?_
    refine GO_q rfl rfl (ev_move rfl) ?_
    refine GO_eff rfl rfl (eff_call rfl (hh _ hl.skip)) ?_; rintro _ _ ⟨rfl, rfl⟩
    refine GO_q rfl rfl (ev_move rfl) ?_
    refine GO_q rfl rfl (ev_extract rfl rfl) ?_
    refine GO_q rfl rfl (ev_extract rfl rfl) ?_
    refine GO_q rfl rfl (ev_assign rfl) ?_
    refine GO_q rfl rfl (ev_assign rfl) ?_
    refine GO_nil ?_
    (repeat first | refine G_seq ?_ | refine G_skip ?_ | refine G_endblk ?_ | refine G_block ?_ | refine G_exit rfl ?_)
    refine G_region ?_
    refine GO_q rfl rfl (ev_move rfl) ?_
    refine GO_q rfl rfl (ev_not rfl) ?_
    refine GO_nil ?_
    (repeat first | refine G_seq ?_ | refine G_skip ?_ | refine G_endblk ?_ | refine G_block ?_ | refine G_exit rfl ?_)
    refine G_cond_t rfl rfl ?_
    (repeat first | refine G_seq ?_ | refine G_skip ?_ | refine G_endblk ?_ | refine G_block ?_ | refine G_exit rfl ?_)
    refine G_region ?_
    refine GO_q rfl rfl (ev_move rfl) ?_
    refine GO_eff rfl rfl (eff_call rfl (CloneI_ctr A n c l _ (by repeat' first | exact Rc.blk rfl | assumption | apply Rd.skip | apply Rd.app) (by omega))) ?_; rintro _ _ ⟨A8, c8, rfl, hn8, rfl⟩
    refine GO_q rfl rfl (ev_assign rfl) ?_
    refine GO_q rfl rfl (ev_assign rfl) ?_
    refine GO_nil ?_
    (repeat first | refine G_seq ?_ | refine G_skip ?_ | refine G_endblk ?_ | refine G_block ?_ | refine G_exit rfl ?_)
    exact G_ret (L' := own 3 1 A8 l.length c8 (flat l) :: L) rfl (.tmp rfl (.tmp rfl .nil)) (by (repeat first | exact en_refl | (apply en_blk; focus ((repeat' first | exact Pick.here | apply Pick.skip | apply Pick.app); done); focus rfl) | (apply en_own; focus ((repeat' first | exact Pick.here | apply Pick.skip | apply Pick.app); done); focus rfl) | (apply en_pick; focus ((repeat' first | exact Pick.here | apply Pick.skip | apply Pick.app); done)) | apply en_drop | apply en_app) <;> fail) ⟨A8, c8, rfl, hn8, rfl⟩
end Go.Proofs.YtejcamnnfmphkaaGreat
/- A cursor over trees of lists: its calls. -/
namespace Go.Proofs.YtejcamnnfmphkaaGreat
attribute [local irreducible] sat
set_option linter.unusedVariables false
set_option linter.unusedSimpArgs false
set_option maxRecDepth 100000

theorem rcReport_ctr (b : Bx) (A : Option Addr) (n c : Nat) (ts : List RTr) (L : List HP) (Lb : List HP) (hLb : ∀ h, sat L h → sat Lb h) (hr : Rd L A n ts) (hn : n ≤ 1000) (ht : ∀ x ∈ ts, x.at_ Lb) (h1 : ∀ x ∈ ts, x.l.length ≤ 1000) (hs : lkR b (begs b ts) ≤ 60000) :
    Ctr Tryz.prog 10 #[.agg #[.int .i64 b.x1, .int .i64 b.x2, .int .i64 b.y1, .int .i64 b.y2], .slice A n c] L fun v L' => ∃ a, v = .pointer (some ⟨a, 0, none⟩) ∧ L' = rcP a b true (fndR b (begs b ts)) Lb (lkR b (begs b ts)) 0 :: L := by
  refine Ctr_of (fn := Tryz.f10) (n := 8) Tryz.func10 rfl rfl rfl ?_
  intro g F
  (repeat first | refine G_seq ?_ | refine G_skip ?_ | refine G_endblk ?_ | refine G_block ?_ | refine G_exit rfl ?_)
  refine G_region ?_
  refine GO_eff rfl rfl (eff_box rfl) ?_; rintro _ _ ⟨b2, rfl, rfl⟩
  refine GO_q rfl rfl (ev_assign rfl) ?_
  refine GO_nil ?_
  (repeat first | refine G_seq ?_ | refine G_skip ?_ | refine G_endblk ?_ | refine G_block ?_ | refine G_exit rfl ?_)
  refine G_region ?_
  refine GO_q rfl rfl (ev_loadN rfl (by repeat' first | exact LdN.blk rfl | assumption | apply LdN.skip | apply LdN.app)) ?_
  refine GO_q rfl rfl (ev_move rfl) ?_
  refine GO_eff rfl rfl (eff_call rfl (Ctr.frame [_, F] (rcbegin_ctr b A n c ts true L Lb hLb hr hn ht h1 hs) (fun _ s => s))) ?_; rintro _ _ ⟨_, ⟨a, rfl, rfl⟩, rfl⟩
  refine GO_q rfl rfl (ev_assign rfl) ?_
  refine GO_nil ?_
  (repeat first | refine G_seq ?_ | refine G_skip ?_ | refine G_endblk ?_ | refine G_block ?_ | refine G_exit rfl ?_)
  exact G_ret (L' := rcP a b true (fndR b (begs b ts)) Lb (lkR b (begs b ts)) 0 :: L) rfl (.tmp rfl .nil) (by (repeat first | exact en_refl | (apply en_blk; focus ((repeat' first | exact Pick.here | apply Pick.skip | apply Pick.app); done); focus rfl) | (apply en_own; focus ((repeat' first | exact Pick.here | apply Pick.skip | apply Pick.app); done); focus rfl) | (apply en_pick; focus ((repeat' first | exact Pick.here | apply Pick.skip | apply Pick.app); done)) | apply en_drop | apply en_app) <;> fail) ⟨a, rfl, rfl⟩
theorem rcStep_ctr (a r k : Nat) (b : Bx) (wh : Bool) (tot : List Int) (L0 L : List HP) (n : Int) (hM : ∀ h, sat L h → sat L0 h) (hbig : tot.length ≤ 1000000) (hk : k ≤ 1000000000) :
    Ctr Tryz.prog 19 #[.pointer (some ⟨a, 0, none⟩), .int .i64 n] (rcP a b wh tot L0 r k :: L) fun w L' => w = .tuple #[.int .i64 (min n.toNat r : Nat), .bool (decide (r - min n.toNat r = 0))] ∧ L' = rcP a b wh tot L0 (r - min n.toNat r) (k + min n.toNat r) :: L := by
  refine Ctr.rcP fun s l st hI => ?_
  have hrs := hI.small
  refine Ctr_of (fn := Tryz.f19) (n := 37) Tryz.func19 rfl rfl rfl ?_
  intro g F
  (repeat first | refine G_seq ?_ | refine G_skip ?_ | refine G_endblk ?_ | refine G_block ?_ | refine G_exit rfl ?_)
  refine G_region ?_
  refine GO_q rfl rfl (ev_assign rfl) ?_
  refine GO_q rfl rfl (ev_assign rfl) ?_
  refine GO_nil ?_
  (repeat first | refine G_seq ?_ | refine G_skip ?_ | refine G_endblk ?_ | refine G_block ?_ | refine G_exit rfl ?_)
  refine G_region ?_
  refine GO_q rfl rfl (ev_move rfl) ?_
  (first | refine GO_q rfl rfl (ev_eqlNil rfl rfl) ?_ | refine GO_q rfl rfl (ev_eqlPtr rfl rfl) ?_)
  refine GO_nil ?_
  (repeat first | refine G_seq ?_ | refine G_skip ?_ | refine G_endblk ?_ | refine G_block ?_ | refine G_exit rfl ?_)
  refine G_cond_f rfl rfl ?_
  refine G_heap (L' := rcS a s b wh st k :: stkS s 65536 l :: F :: L) (by (repeat first | exact en_refl | (apply en_blk; focus ((repeat' first | exact Pick.here | apply Pick.skip | apply Pick.app); done); focus rfl) | (apply en_own; focus ((repeat' first | exact Pick.here | apply Pick.skip | apply Pick.app); done); focus rfl) | (apply en_pick; focus ((repeat' first | exact Pick.here | apply Pick.skip | apply Pick.app); done)) | apply en_drop | apply en_app) <;> fail) ?_
  refine G_rc fun A c hA hc hc2 => ?_
  (repeat first | refine G_seq ?_ | refine G_skip ?_ | refine G_endblk ?_ | refine G_block ?_ | refine G_exit rfl ?_)
  refine G_region ?_
  refine GO_q rfl rfl (ev_move rfl) ?_
  (first | refine GO_q rfl rfl (ev_nilCheck rfl) ?_ | refine GO_q rfl rfl (ev_nilCheckF (by simp) rfl) ?_)
  refine GO_q rfl rfl (ev_fieldAddr rfl) ?_
  refine GO_q rfl rfl (ev_load rfl (by repeat' first | exact Ld.blk rfl | assumption | apply Ld.skip | apply Ld.app)) ?_
  refine GO_q rfl rfl (ev_move rfl) ?_
  refine GO_q rfl rfl (ev_max0 rfl) ?_
  refine GO_q rfl rfl (ev_move rfl) ?_
  refine GO_q rfl rfl (ev_makeFunc rfl rfl) ?_
  refine GO_eff rfl rfl (eff_call rfl (Ctr.pre (M := stkS s 65536 l :: rcS a s b wh st k :: F :: L) (by (repeat first | exact en_refl | apply en_rc (c := c) hA | (apply en_blk; focus ((repeat' first | exact Pick.here | apply Pick.skip | apply Pick.app); done); focus rfl) | (apply en_own; focus ((repeat' first | exact Pick.here | apply Pick.skip | apply Pick.app); done); focus rfl) | (apply en_pick; focus ((repeat' first | exact Pick.here | apply Pick.skip | apply Pick.app); done)) | apply en_drop | apply en_app) <;> fail) (Walk_ctr (rcvis a s b wh k tot L0) s n.toNat r l st (F :: L) L0 (rcvis_good a s b wh k tot L0 hbig) (fun h t => hM h t.tail) hI (by omega)))) ?_; rintro _ _ ⟨l', st', rfl, hI', rfl⟩
  refine GO_q rfl rfl (ev_move rfl) ?_
  refine GO_q rfl rfl (ev_extract rfl rfl) ?_
  refine GO_q rfl rfl (ev_extract rfl rfl) ?_
  refine GO_q rfl rfl (ev_assign rfl) ?_
  refine GO_q rfl rfl (ev_assign rfl) ?_
  refine GO_nil ?_
  refine G_heap (L' := rcS a s b wh st' k :: stkS s 65536 l' :: F :: L) (fun _ t => t.swap) ?_
  refine G_rc fun A' c' hA' hc' hc2' => ?_
  (repeat first | refine G_seq ?_ | refine G_skip ?_ | refine G_endblk ?_ | refine G_block ?_ | refine G_exit rfl ?_)
  refine G_region ?_
  refine GO_q rfl rfl (ev_move rfl) ?_
  (first | refine GO_q rfl rfl (ev_nilCheck rfl) ?_ | refine GO_q rfl rfl (ev_nilCheckF (by simp) rfl) ?_)
  refine GO_q rfl rfl (ev_fieldAddr rfl) ?_
  refine GO_q rfl rfl (ev_load rfl (by repeat' first | exact Ld.blk rfl | assumption | apply Ld.skip | apply Ld.app)) ?_
  refine GO_q rfl rfl (ev_move rfl) ?_
  (first | refine GO_q rfl rfl (ev_addN rfl rfl (by first | omega | (simp; done) | (simp; omega))) ?_ | refine GO_q rfl rfl (ev_add rfl rfl (by first | omega | (simp; done) | (simp; omega))) ?_)
  (first | refine GO_q rfl rfl (ev_nilCheck rfl) ?_ | refine GO_q rfl rfl (ev_nilCheckF (by simp) rfl) ?_)
  refine GO_q rfl rfl (ev_fieldAddr rfl) ?_
  refine GO_eff rfl rfl (eff_store rfl rfl rfl (by repeat' first | exact Upd.here rfl | apply Upd.skip | apply Upd.app)) ?_; rintro _ _ ⟨rfl, rfl⟩
  refine GO_nil ?_
  refine G_heap (L' := rcS a s b wh st' (k + min n.toNat r) :: stkS s 65536 l' :: F :: L) (by (repeat first | exact en_refl | apply en_rc (c := c') hA' | (apply en_blk; focus ((repeat' first | exact Pick.here | apply Pick.skip | apply Pick.app); done); focus rfl) | (apply en_own; focus ((repeat' first | exact Pick.here | apply Pick.skip | apply Pick.app); done); focus rfl) | (apply en_pick; focus ((repeat' first | exact Pick.here | apply Pick.skip | apply Pick.app); done)) | apply en_drop | apply en_app) <;> fail) ?_
  have hI2 : RcI b tot L0 l' st' (r - min n.toNat r) := hI'
  refine G_rc fun A2 c2 hA2 hcc hcc2 => ?_
  (repeat first | refine G_seq ?_ | refine G_skip ?_ | refine G_endblk ?_ | refine G_block ?_ | refine G_exit rfl ?_)
  refine G_region ?_
  refine GO_q rfl rfl (ev_move rfl) ?_
  refine GO_q rfl rfl (ev_move rfl) ?_
  (first | refine GO_q rfl rfl (ev_nilCheck rfl) ?_ | refine GO_q rfl rfl (ev_nilCheckF (by simp) rfl) ?_)
  refine GO_q rfl rfl (ev_fieldAddr rfl) ?_
  refine GO_q rfl rfl (ev_load rfl (by repeat' first | exact Ld.blk rfl | assumption | apply Ld.skip | apply Ld.app)) ?_
  refine GO_eff rfl rfl (eff_call rfl (Ctr.pick (by repeat' first | exact Pick.here | apply Pick.skip | apply Pick.app) (SLen_k_ctr s l' _))) ?_; rintro _ _ ⟨rfl, rfl⟩
  refine GO_q rfl rfl (ev_eql rfl rfl) ?_
  refine GO_q rfl rfl (ev_assign rfl) ?_
  refine GO_q rfl rfl (ev_assign rfl) ?_
  refine GO_nil ?_
  (repeat first | refine G_seq ?_ | refine G_skip ?_ | refine G_endblk ?_ | refine G_block ?_ | refine G_exit rfl ?_)
  rw [decide_eq_decide.2 hI2.done]
  refine G_ret (L' := rcP a b wh tot L0 (r - min n.toNat r) (k + min n.toNat r) :: L) rfl (.tmp rfl (.tmp rfl .nil)) ?_ ⟨rfl, rfl⟩
  apply en_pick
  focus ((repeat' first | exact Pick.here | apply Pick.skip | apply Pick.app); done)
  refine en_rcP (s := s) hI2 ?_
  exact (by (repeat first | exact en_refl | apply en_rc (c := c2) hA2 | (apply en_blk; focus ((repeat' first | exact Pick.here | apply Pick.skip | apply Pick.app); done); focus rfl) | (apply en_own; focus ((repeat' first | exact Pick.here | apply Pick.skip | apply Pick.app); done); focus rfl) | (apply en_pick; focus ((repeat' first | exact Pick.here | apply Pick.skip | apply Pick.app); done)) | apply en_drop | apply en_app) <;> fail)
theorem rcDone_ctr (a r k : Nat) (b : Bx) (wh : Bool) (tot : List Int) (L0 L : List HP) : Ctr Tryz.prog 30 #[.pointer (some ⟨a, 0, none⟩)] (rcP a b wh tot L0 r k :: L) fun w L' => w = .bool (decide (r = 0)) ∧ L' = rcP a b wh tot L0 r k :: L := by
  refine Ctr.rcP fun s l st hI => ?_
  refine Ctr.rc fun A c hA hc hc2 => ?_
  refine Ctr_of (fn := Tryz.f30) (n := 13) Tryz.func30 rfl rfl rfl ?_
  intro g F
  (repeat first | refine G_seq ?_ | refine G_skip ?_ | refine G_endblk ?_ | refine G_block ?_ | refine G_exit rfl ?_)
  refine G_region ?_
  refine GO_q rfl rfl (ev_assign rfl) ?_
  refine GO_nil ?_
  (repeat first | refine G_seq ?_ | refine G_skip ?_ | refine G_endblk ?_ | refine G_block ?_ | refine G_exit rfl ?_)
  refine G_region ?_
  refine GO_q rfl rfl (ev_move rfl) ?_
  (first | refine GO_q rfl rfl (ev_eqlNil rfl rfl) ?_ | refine GO_q rfl rfl (ev_eqlPtr rfl rfl) ?_)
  refine GO_q rfl rfl (ev_move rfl) ?_
  refine GO_yes rfl rfl rfl rfl ?_
  refine GO_q rfl rfl (ev_move rfl) ?_
  refine GO_yes rfl rfl rfl rfl ?_
  (first | refine GO_q rfl rfl (ev_nilCheck rfl) ?_ | refine GO_q rfl rfl (ev_nilCheckF (by simp) rfl) ?_)
  refine GO_yes rfl rfl rfl rfl ?_
  refine GO_q rfl rfl (ev_fieldAddr rfl) ?_
  refine GO_yes rfl rfl rfl rfl ?_
  refine GO_q rfl rfl (ev_load rfl (by repeat' first | exact Ld.blk rfl | assumption | apply Ld.skip | apply Ld.app)) ?_
  refine GO_yes rfl rfl rfl rfl ?_
  refine GO_eff rfl rfl (eff_call rfl (Ctr.pick (by repeat' first | exact Pick.here | apply Pick.skip | apply Pick.app) (SLen_k_ctr s l _))) ?_; rintro _ _ ⟨rfl, rfl⟩
  refine GO_yes rfl rfl rfl rfl ?_
  refine GO_q rfl rfl (ev_eql rfl rfl) ?_
  refine GO_q rfl rfl (ev_pick_f rfl rfl rfl) ?_
  refine GO_q rfl rfl (ev_assign rfl) ?_
  refine GO_nil ?_
  (repeat first | refine G_seq ?_ | refine G_skip ?_ | refine G_endblk ?_ | refine G_block ?_ | refine G_exit rfl ?_)
  rw [decide_eq_decide.2 hI.done]
  refine G_ret (L' := rcP a b wh tot L0 r k :: L) rfl (.tmp rfl .nil) ?_ ⟨rfl, rfl⟩
  apply en_pick
  focus ((repeat' first | exact Pick.here | apply Pick.skip | apply Pick.app); done)
  refine en_rcP (s := s) hI ?_
  exact (by (repeat first | exact en_refl | apply en_rc (c := c) hA | (apply en_blk; focus ((repeat' first | exact Pick.here | apply Pick.skip | apply Pick.app); done); focus rfl) | (apply en_own; focus ((repeat' first | exact Pick.here | apply Pick.skip | apply Pick.app); done); focus rfl) | (apply en_pick; focus ((repeat' first | exact Pick.here | apply Pick.skip | apply Pick.app); done)) | apply en_drop | apply en_app) <;> fail)
theorem rcfound_ctr (a k : Nat) (b : Bx) (wh : Bool) (tot : List Int) (L0 L : List HP) (hbig : tot.length ≤ 100000) : Ctr Tryz.prog 37 #[.pointer (some ⟨a, 0, none⟩)] (rcP a b wh tot L0 0 k :: L) fun w L' =>
    ∃ B e, w = .slice B (srt (kp wh tot)).length e ∧ (0 < (srt (kp wh tot)).length → ∃ b, B = some ⟨b, 0, none⟩) ∧ L' = own 3 1 B (srt (kp wh tot)).length e (flat (srt (kp wh tot))) :: rcP a b wh tot L0 0 k :: L := by
  refine Ctr.rcP fun s l st hI => ?_
  obtain ⟨e1, e2⟩ := hI.end_
  refine Ctr.rc fun A c hA hc hc2 => ?_
  subst e2
  have hkl := kp_len wh st
  have hrd : ∀ M : List HP, Rd (own 3 1 A (kp wh st).length c (flat (kp wh st)) :: M) A (kp wh st).length (kp wh st) := fun M => Rc.own (flat_length _) hA
  refine Ctr_of (fn := Tryz.f37) (n := 10) Tryz.func37 rfl rfl rfl ?_
  intro g F
  (repeat first | refine G_seq ?_ | refine G_skip ?_ | refine G_endblk ?_ | refine G_block ?_ | refine G_exit rfl ?_)
  refine G_region ?_
  refine GO_q rfl rfl (ev_assign rfl) ?_
  refine GO_nil ?_
  (repeat first | refine G_seq ?_ | refine G_skip ?_ | refine G_endblk ?_ | refine G_block ?_ | refine G_exit rfl ?_)
  refine G_region ?_
  refine GO_q rfl rfl (ev_move rfl) ?_
  (first | refine GO_q rfl rfl (ev_eqlNil rfl rfl) ?_ | refine GO_q rfl rfl (ev_eqlPtr rfl rfl) ?_)
  refine GO_nil ?_
  (repeat first | refine G_seq ?_ | refine G_skip ?_ | refine G_endblk ?_ | refine G_block ?_ | refine G_exit rfl ?_)
  refine G_cond_f rfl rfl ?_
  (repeat first | refine G_seq ?_ | refine G_skip ?_ | refine G_endblk ?_ | refine G_block ?_ | refine G_exit rfl ?_)
  refine G_region ?_
  refine GO_q rfl rfl (ev_move rfl) ?_
  (first | refine GO_q rfl rfl (ev_nilCheck rfl) ?_ | refine GO_q rfl rfl (ev_nilCheckF (by simp) rfl) ?_)
  refine GO_q rfl rfl (ev_fieldAddr rfl) ?_
  refine GO_q rfl rfl (ev_load rfl (by repeat' first | exact Ld.blk rfl | assumption | apply Ld.skip | apply Ld.app)) ?_
  refine GO_eff rfl rfl (eff_call rfl (SortI_ctr A _ c (kp wh st) _ (by repeat' first | exact hrd _ | apply Rd.skip) (by omega) hc)) ?_; rintro _ _ ⟨B, e, rfl, hB, rfl⟩
  refine GO_q rfl rfl (ev_assign rfl) ?_
  refine GO_nil ?_
  (repeat first | refine G_seq ?_ | refine G_skip ?_ | refine G_endblk ?_ | refine G_block ?_ | refine G_exit rfl ?_)
  refine G_ret (L' := own 3 1 B (srt (kp wh st)).length e (flat (srt (kp wh st))) :: rcP a b wh st L0 0 k :: L) rfl (.tmp rfl .nil) ?_ ⟨B, e, rfl, hB, rfl⟩
  apply en_pick
  focus ((repeat' first | exact Pick.here | apply Pick.skip | apply Pick.app); done)
  apply en_pick
  focus ((repeat' first | exact Pick.here | apply Pick.skip | apply Pick.app); done)
  refine en_rcP (s := s) hI ?_
  exact (by (repeat first | exact en_refl | apply en_rc (c := c) hA | (apply en_blk; focus ((repeat' first | exact Pick.here | apply Pick.skip | apply Pick.app); done); focus rfl) | (apply en_own; focus ((repeat' first | exact Pick.here | apply Pick.skip | apply Pick.app); done); focus rfl) | (apply en_pick; focus ((repeat' first | exact Pick.here | apply Pick.skip | apply Pick.app); done)) | apply en_drop | apply en_app) <;> fail)
theorem rcIDs_ctr (a k : Nat) (b : Bx) (wh : Bool) (tot : List Int) (L0 L : List HP) (hbig : tot.length ≤ 100000) : Ctr Tryz.prog 16 #[.pointer (some ⟨a, 0, none⟩)] (rcP a b wh tot L0 0 k :: L) fun w L' =>
    ∃ B e, w = .slice B (srt (kp wh tot)).length e ∧ (0 < (srt (kp wh tot)).length → ∃ b, B = some ⟨b, 0, none⟩) ∧ L' = own 3 1 B (srt (kp wh tot)).length e (flat (srt (kp wh tot))) :: rcP a b wh tot L0 0 k :: L := by
  refine Ctr_of (fn := Tryz.f16) (n := 5) Tryz.func16 rfl rfl rfl ?_
  intro g F
  (repeat first | refine G_seq ?_ | refine G_skip ?_ | refine G_endblk ?_ | refine G_block ?_ | refine G_exit rfl ?_)
  refine G_region ?_
  refine GO_q rfl rfl (ev_assign rfl) ?_
  refine GO_nil ?_
  (repeat first | refine G_seq ?_ | refine G_skip ?_ | refine G_endblk ?_ | refine G_block ?_ | refine G_exit rfl ?_)
  refine G_region ?_
  refine GO_q rfl rfl (ev_move rfl) ?_
  refine GO_eff rfl rfl (eff_call rfl (Ctr.pick (by repeat' first | exact Pick.here | apply Pick.skip | apply Pick.app) (rcfound_ctr a k b wh tot L0 _ hbig))) ?_; rintro _ _ ⟨B, e, rfl, hB, rfl⟩
  refine GO_q rfl rfl (ev_assign rfl) ?_
  refine GO_nil ?_
  (repeat first | refine G_seq ?_ | refine G_skip ?_ | refine G_endblk ?_ | refine G_block ?_ | refine G_exit rfl ?_)
  exact G_ret (L' := own 3 1 B (srt (kp wh tot)).length e (flat (srt (kp wh tot))) :: rcP a b wh tot L0 0 k :: L) rfl (.tmp rfl .nil) (by (repeat first | exact en_refl | (apply en_blk; focus ((repeat' first | exact Pick.here | apply Pick.skip | apply Pick.app); done); focus rfl) | (apply en_own; focus ((repeat' first | exact Pick.here | apply Pick.skip | apply Pick.app); done); focus rfl) | (apply en_pick; focus ((repeat' first | exact Pick.here | apply Pick.skip | apply Pick.app); done)) | apply en_drop | apply en_app) <;> fail) ⟨B, e, rfl, hB, rfl⟩
/-- What is left without some numbers. -/
def lessI (l m : List Int) : List Int := m.foldl (fun o x => o.erase x) l
theorem lessI_len (m : List Int) : ∀ l : List Int, (lessI l m).length ≤ l.length := by
  induction m with
  | nil => exact fun l => Nat.le_refl _
  | cons x m ih => exact fun l => Nat.le_trans (ih (l.erase x)) List.length_erase_le
theorem lessI_take {l m : List Int} {k : Nat} {x : Int} (h : m[k]? = some x) : lessI l (m.take (k + 1)) = (lessI l (m.take k)).erase x := by
  unfold lessI
  rw [List.take_add_one, h, List.foldl_append]
  rfl
theorem lessI_sorted (m : List Int) : ∀ {l : List Int}, l.Pairwise (· ≤ ·) → (lessI l m).Pairwise (· ≤ ·) := by
  induction m with
  | nil => exact fun h => h
  | cons x m ih => exact fun h => ih (h.sublist List.erase_sublist)
theorem rcLess_ctr (a k : Nat) (b : Bx) (wh : Bool) (tot : List Int) (L0 L : List HP) (hbig : tot.length ≤ 100000) (D : Option Addr) (m d : Nat) (ds : List Int) (hd : Rd L D m ds) (hm : m ≤ 100000) : Ctr Tryz.prog 20 #[.pointer (some ⟨a, 0, none⟩), .slice D m d] (rcP a b wh tot L0 0 k :: L) fun w L' =>
    ∃ B e, w = .slice B (lessI (srt (kp wh tot)) ds).length e ∧ (0 < (lessI (srt (kp wh tot)) ds).length → ∃ b, B = some ⟨b, 0, none⟩) ∧ L' = own 3 1 B (lessI (srt (kp wh tot)) ds).length e (flat (lessI (srt (kp wh tot)) ds)) :: rcP a b wh tot L0 0 k :: L := by
  have h1 : ds.length = m := hd.len (by decide)
  have hso := srt_sorted (kp wh tot)
  have hsl : (srt (kp wh tot)).length ≤ 100000 := by
    rw [(srt_perm (kp wh tot)).length_eq]
    have := kp_len wh tot; omega
  have hfo := fun M => rcfound_ctr a k b wh tot L0 M hbig
  generalize srt (kp wh tot) = l at *
  refine Ctr_of (fn := Tryz.f20) (n := 24) Tryz.func20 rfl rfl rfl ?_
  intro g F
  (repeat first | refine G_seq ?_ | refine G_skip ?_ | refine G_endblk ?_ | refine G_block ?_ | refine G_exit rfl ?_)
  refine G_region ?_
  refine GO_q rfl rfl (ev_assign rfl) ?_
  refine GO_nil ?_
  (repeat first | refine G_seq ?_ | refine G_skip ?_ | refine G_endblk ?_ | refine G_block ?_ | refine G_exit rfl ?_)
  refine G_region ?_
  refine GO_q rfl rfl (ev_move rfl) ?_
  refine GO_eff rfl rfl (eff_call rfl (Ctr.pick (by repeat' first | exact Pick.here | apply Pick.skip | apply Pick.app) (hfo _))) ?_; rintro _ _ ⟨B, e, rfl, hB, rfl⟩
  refine GO_q rfl rfl (ev_assign rfl) ?_
  refine GO_nil ?_
  (repeat first | refine G_seq ?_ | refine G_skip ?_ | refine G_endblk ?_ | refine G_block ?_ | refine G_exit rfl ?_)
  refine G_region ?_
  refine GO_q rfl rfl (ev_move rfl) ?_
  refine GO_q rfl rfl (ev_len rfl) ?_
  refine GO_q rfl rfl (ev_move rfl) ?_
  refine GO_nil ?_
  (repeat first | refine G_seq ?_ | refine G_skip ?_ | refine G_endblk ?_ | refine G_block ?_ | refine G_exit rfl ?_)
  refine G_loop (ι := Nat × Option Addr × Nat) (fun z => [(5, .slice z.2.1 (lessI l (ds.take z.1)).length z.2.2), (10, .slice D m d), (11, .int .i64 (m : Nat)), (12, .int .i64 (z.1 : Nat))]) (fun z => own 3 1 z.2.1 (lessI l (ds.take z.1)).length z.2.2 (flat (lessI l (ds.take z.1))) :: rcP a b wh tot L0 0 k :: F :: L) (fun z => z.1 ≤ m ∧ (0 < (lessI l (ds.take z.1)).length → ∃ b, z.2.1 = some ⟨b, 0, none⟩)) (fun z => m - z.1) (0, B, e) ⟨Nat.zero_le _, hB⟩ ⟨rfl, rfl, rfl, rfl, trivial⟩ (by (repeat first | exact en_refl | (apply en_blk; focus ((repeat' first | exact Pick.here | apply Pick.skip | apply Pick.app); done); focus rfl) | (apply en_own; focus ((repeat' first | exact Pick.here | apply Pick.skip | apply Pick.app); done); focus rfl) | (apply en_pick; focus ((repeat' first | exact Pick.here | apply Pick.skip | apply Pick.app); done)) | apply en_drop | apply en_app) <;> fail) ?_
  rintro ⟨j, C, f⟩ ⟨f1, f2⟩
  simp only at f1 f2
  dsimp only
  (repeat first | refine G_seq ?_ | refine G_skip ?_ | refine G_endblk ?_ | refine G_block ?_ | refine G_exit rfl ?_)
  refine G_region ?_
  (first | refine GO_q rfl rfl (ev_lssN rfl rfl) ?_ | refine GO_q rfl rfl (ev_lss rfl rfl) ?_)
  refine GO_nil ?_
  (repeat first | refine G_seq ?_ | refine G_skip ?_ | refine G_endblk ?_ | refine G_block ?_ | refine G_exit rfl ?_)
  refine G_cond rfl (fun h4 => ?_) (fun h4 => ?_)
  · obtain ⟨lb, lo, rfl, hx2⟩ := hd.at_ (by omega)
    have g1 : ds[j]? = some ds[j] := List.getElem?_eq_getElem (by omega)
    have y1 := (hx2 _ _ g1).at_ (i := 0) rfl
    have e9 := lessI_take (l := l) g1
    generalize ds[j] = u at *
    have z1 : Ld L ⟨lb, lo + j * 1, none⟩ (.int .i64 u) := y1
    have hs9 := lessI_sorted (ds.take j) hso
    have hl9 := lessI_len (ds.take j) l
    generalize lessI l (ds.take j) = q at *
    have hrq : ∀ M, Rd (own 3 1 C q.length f (flat q) :: M) C q.length q := fun M => Rc.own (flat_length _) f2
    (repeat first | refine G_seq ?_ | refine G_skip ?_ | refine G_endblk ?_ | refine G_block ?_ | refine G_exit rfl ?_)
    refine G_region ?_
    (first | refine GO_q rfl rfl (ev_indexAddrN rfl rfl (by first | omega | (simp; done) | (simp; omega))) ?_ | refine GO_q rfl rfl (ev_indexAddr rfl rfl (by first | omega | (simp; done) | (simp; omega)) (by first | omega | (simp; done) | (simp; omega))) ?_)
    refine GO_q rfl rfl (ev_load rfl (by repeat' first | exact Ld.blk rfl | assumption | apply Ld.skip | apply Ld.app)) ?_
    refine GO_q rfl rfl (ev_assign rfl) ?_
    refine GO_nil ?_
    (repeat first | refine G_seq ?_ | refine G_skip ?_ | refine G_endblk ?_ | refine G_block ?_ | refine G_exit rfl ?_)
    refine G_region ?_
    refine GO_q rfl rfl (ev_move rfl) ?_
    refine GO_q rfl rfl (ev_move rfl) ?_
    refine GO_eff rfl rfl (eff_call rfl (CutI_ctr C q.length f q u _ (by repeat' first | exact hrq _ | apply Rd.skip) (by omega) hs9)) ?_; rintro _ _ ⟨A2, c2, rfl, hA2, rfl⟩
    refine GO_q rfl rfl (ev_move rfl) ?_
    refine GO_q rfl rfl (ev_extract rfl rfl) ?_
    refine GO_q rfl rfl (ev_extract rfl rfl) ?_
    refine GO_q rfl rfl (ev_assign rfl) ?_
    refine GO_nil ?_
    (repeat first | refine G_seq ?_ | refine G_skip ?_ | refine G_endblk ?_ | refine G_block ?_ | refine G_exit rfl ?_)
    refine G_region ?_
    (first | refine GO_q rfl rfl (ev_addN (q := 1) rfl rfl (by first | omega | (simp; done) | (simp; omega))) ?_ | refine GO_q rfl rfl (ev_add rfl rfl (by first | omega | (simp; done) | (simp; omega))) ?_)
    refine GO_q rfl rfl (ev_move rfl) ?_
    refine GO_nil ?_
    (repeat first | refine G_seq ?_ | refine G_skip ?_ | refine G_endblk ?_ | refine G_block ?_ | refine G_exit rfl ?_)
    exact G_round (j + 1, A2, c2) ⟨by simp only; omega, by simp only; rw [e9]; exact hA2⟩ (by simp only; omega) ⟨by simp only; rw [e9]; rfl, rfl, rfl, rfl, trivial⟩ (by dsimp only; rw [e9]; exact (by (repeat first | exact en_refl | (apply en_blk; focus ((repeat' first | exact Pick.here | apply Pick.skip | apply Pick.app); done); focus rfl) | (apply en_own; focus ((repeat' first | exact Pick.here | apply Pick.skip | apply Pick.app); done); focus rfl) | (apply en_pick; focus ((repeat' first | exact Pick.here | apply Pick.skip | apply Pick.app); done)) | apply en_drop | apply en_app) <;> fail))
  · have e0 : ds.take j = ds := List.take_of_length_le (by omega)
    rw [e0] at f2 ⊢
    (repeat first | refine G_seq ?_ | refine G_skip ?_ | refine G_endblk ?_ | refine G_block ?_ | refine G_exit rfl ?_)
    refine G_region ?_
    refine GO_q rfl rfl (ev_move rfl) ?_
    refine GO_q rfl rfl (ev_assign rfl) ?_
    refine GO_nil ?_
    (repeat first | refine G_seq ?_ | refine G_skip ?_ | refine G_endblk ?_ | refine G_block ?_ | refine G_exit rfl ?_)
    exact G_ret (L' := own 3 1 C (lessI l ds).length f (flat (lessI l ds)) :: rcP a b wh tot L0 0 k :: L) rfl (.tmp rfl .nil) (by (repeat first | exact en_refl | (apply en_blk; focus ((repeat' first | exact Pick.here | apply Pick.skip | apply Pick.app); done); focus rfl) | (apply en_own; focus ((repeat' first | exact Pick.here | apply Pick.skip | apply Pick.app); done); focus rfl) | (apply en_pick; focus ((repeat' first | exact Pick.here | apply Pick.skip | apply Pick.app); done)) | apply en_drop | apply en_app) <;> fail) ⟨C, f, rfl, f2, rfl⟩
theorem rcBound_ctr (A : Option Addr) (n c : Nat) (ts : List RTr) (L : List HP) (hr : Rd L A n ts) (hn : n ≤ 1000) (ht : ∀ x ∈ ts, x.at_ L) (h1 : ∀ x ∈ ts, x.T.lv ≤ 1000) :
    Ctr Tryz.prog 14 #[.slice A n c] L fun v L' => v = .int .i64 (((ts.map fun x => 4 * x.T.lv + 1).sum : Nat) : Int) ∧ L' = L := by
  have hlen : ts.length = n := hr.len (by decide)
  have hle : ∀ q : List RTr, (∀ x ∈ q, x.T.lv ≤ 1000) → (q.map fun x => 4 * x.T.lv + 1).sum ≤ 4001 * q.length := by
    intro q
    induction q with
    | nil => exact fun _ => Nat.zero_le _
    | cons x q ih =>
      intro h
      have a1 := h x (by simp)
      have a2 := ih fun y hy => h y (List.mem_cons_of_mem _ hy)
      simp only [List.map_cons, List.sum_cons, List.length_cons]; omega
  refine Ctr_of (fn := Tryz.f14) (n := 20) Tryz.func14 rfl rfl rfl ?_
  intro g F
  (repeat first | refine G_seq ?_ | refine G_skip ?_ | refine G_endblk ?_ | refine G_block ?_ | refine G_exit rfl ?_)
  refine G_region ?_
  refine GO_q rfl rfl (ev_assign rfl) ?_
  refine GO_nil ?_
  (repeat first | refine G_seq ?_ | refine G_skip ?_ | refine G_endblk ?_ | refine G_block ?_ | refine G_exit rfl ?_)
  refine G_region ?_
  refine GO_q rfl rfl (ev_assign rfl) ?_
  refine GO_nil ?_
  (repeat first | refine G_seq ?_ | refine G_skip ?_ | refine G_endblk ?_ | refine G_block ?_ | refine G_exit rfl ?_)
  refine G_region ?_
  refine GO_q rfl rfl (ev_move rfl) ?_
  refine GO_q rfl rfl (ev_len rfl) ?_
  refine GO_q rfl rfl (ev_move rfl) ?_
  refine GO_nil ?_
  (repeat first | refine G_seq ?_ | refine G_skip ?_ | refine G_endblk ?_ | refine G_block ?_ | refine G_exit rfl ?_)
  refine G_loop (ι := Nat) (fun k => [(3, .int .i64 ((((ts.take k).map fun x => 4 * x.T.lv + 1).sum : Nat) : Int)), (6, .slice A n c), (7, .int .i64 (n : Nat)), (8, .int .i64 (k : Nat))]) (fun _ => F :: L) (fun k => k ≤ n) (fun k => n - k) 0 (Nat.zero_le _) ⟨rfl, rfl, rfl, rfl, trivial⟩ (by (repeat first | exact fun _ s => s | apply en_keep | apply en_drop | apply en_app) <;> fail) ?_
  intro k f1
  have hq := hle (ts.take k) fun x hx => h1 x (List.mem_of_mem_take hx)
  rw [List.length_take] at hq
  (repeat first | refine G_seq ?_ | refine G_skip ?_ | refine G_endblk ?_ | refine G_block ?_ | refine G_exit rfl ?_)
  refine G_region ?_
  (first | refine GO_q rfl rfl (ev_lssN rfl rfl) ?_ | refine GO_q rfl rfl (ev_lss rfl rfl) ?_)
  refine GO_nil ?_
  (repeat first | refine G_seq ?_ | refine G_skip ?_ | refine G_endblk ?_ | refine G_block ?_ | refine G_exit rfl ?_)
  refine G_cond rfl (fun h4 => ?_) (fun h4 => ?_)
  · obtain ⟨lb, lo, rfl, hx2⟩ := hr.at_ (by omega)
    have g1 : ts[k]? = some ts[k] := List.getElem?_eq_getElem (by omega)
    have y1 := (hx2 _ _ g1).at_ (i := 0) rfl
    have e9 : ((ts.take (k + 1)).map fun x => 4 * x.T.lv + 1).sum = ((ts.take k).map fun x => 4 * x.T.lv + 1).sum + (4 * ts[k].T.lv + 1) := by
      rw [List.take_add_one, g1, List.map_append, List.sum_append_nat]; simp
    have hm : ts[k] ∈ ts := List.getElem_mem _
    generalize ts[k] = u at *
    have hu : TR L u.t u.T u.A u.c u.l := ht u hm
    have h2 := h1 u hm
    have z1 : Ld L ⟨lb, lo + k * 1, none⟩ (.pointer (some ⟨u.t, 0, none⟩)) := y1
    generalize ((ts.take k).map fun x => 4 * x.T.lv + 1).sum = q at *
    (repeat first | refine G_seq ?_ | refine G_skip ?_ | refine G_endblk ?_ | refine G_block ?_ | refine G_exit rfl ?_)
    refine G_region ?_
    (first | refine GO_q rfl rfl (ev_indexAddrN rfl rfl (by first | omega | (simp; done) | (simp; omega))) ?_ | refine GO_q rfl rfl (ev_indexAddr rfl rfl (by first | omega | (simp; done) | (simp; omega)) (by first | omega | (simp; done) | (simp; omega))) ?_)
    refine GO_q rfl rfl (ev_load rfl (by repeat' first | exact Ld.blk rfl | assumption | apply Ld.skip | apply Ld.app)) ?_
    refine GO_q rfl rfl (ev_assign rfl) ?_
    refine GO_nil ?_
    (repeat first | refine G_seq ?_ | refine G_skip ?_ | refine G_endblk ?_ | refine G_block ?_ | refine G_exit rfl ?_)
    refine G_region ?_
    refine GO_q rfl rfl (ev_move rfl) ?_
    refine GO_q rfl rfl (ev_move rfl) ?_
    refine GO_eff rfl rfl (eff_call rfl (tLevels_ctr hu.skip (by omega))) ?_; rintro _ _ ⟨rfl, rfl⟩
    refine GO_q rfl rfl (ev_mul rfl rfl (by omega)) ?_
    (first | refine GO_q rfl rfl (ev_addN (q := 1) rfl rfl (by first | omega | (simp; done) | (simp; omega))) ?_ | refine GO_q rfl rfl (ev_add rfl rfl (by first | omega | (simp; done) | (simp; omega))) ?_)
    (first | refine GO_q rfl rfl (ev_addN rfl rfl (by first | omega | (simp; done) | (simp; omega))) ?_ | refine GO_q rfl rfl (ev_add rfl rfl (by first | omega | (simp; done) | (simp; omega))) ?_)
    refine GO_q rfl rfl (ev_assign rfl) ?_
    refine GO_nil ?_
    (repeat first | refine G_seq ?_ | refine G_skip ?_ | refine G_endblk ?_ | refine G_block ?_ | refine G_exit rfl ?_)
    refine G_region ?_
    (first | refine GO_q rfl rfl (ev_addN (q := 1) rfl rfl (by first | omega | (simp; done) | (simp; omega))) ?_ | refine GO_q rfl rfl (ev_add rfl rfl (by first | omega | (simp; done) | (simp; omega))) ?_)
    refine GO_q rfl rfl (ev_move rfl) ?_
    refine GO_nil ?_
    (repeat first | refine G_seq ?_ | refine G_skip ?_ | refine G_endblk ?_ | refine G_block ?_ | refine G_exit rfl ?_)
    exact G_round (k + 1) (by omega) (by omega) ⟨by rw [e9, show ((q + (4 * u.T.lv + 1) : Nat) : Int) = (q : Int) + (4 * (u.T.lv : Int) + 1) by omega]; rfl, rfl, rfl, rfl, trivial⟩ (by (repeat first | exact fun _ s => s | apply en_keep | apply en_drop | apply en_app) <;> fail)
  · have e0 : ts.take k = ts := List.take_of_length_le (by omega)
    rw [e0]
    (repeat first | refine G_seq ?_ | refine G_skip ?_ | refine G_endblk ?_ | refine G_block ?_ | refine G_exit rfl ?_)
    refine G_region ?_
    refine GO_q rfl rfl (ev_move rfl) ?_
    refine GO_q rfl rfl (ev_assign rfl) ?_
    refine GO_nil ?_
    (repeat first | refine G_seq ?_ | refine G_skip ?_ | refine G_endblk ?_ | refine G_block ?_ | refine G_exit rfl ?_)
    refine G_ret rfl (.tmp rfl .nil) (by (repeat first | exact fun _ s => s | apply en_keep | apply en_drop | apply en_app) <;> fail) ⟨rfl, rfl⟩
end Go.Proofs.YtejcamnnfmphkaaGreat
/- The reference's order of points. -/
namespace Go.Proofs.YtejcamnnfmphkaaGreat
set_option linter.unusedVariables false
set_option linter.unusedSimpArgs false
set_option maxRecDepth 100000

def three (a b c d e f : Int) : Int := if a < d then -1 else if d < a then 1 else if b < e then -1 else if e < b then 1 else if c < f then -1 else if f < c then 1 else 0
theorem three_up (p q : Pt) : three p.y p.x p.id q.y q.x q.id = up p q := by
  obtain ⟨pi, px, py⟩ := p
  obtain ⟨qi, qx, qy⟩ := q
  simp only [three, up, Pt.cmp, Pt.turned, Pt.less]
  by_cases h1 : py = qy
  · by_cases h2 : px = qx
    · by_cases h3 : pi = qi
      · simp [h1, h2, h3]
      · subst h1 h2
        by_cases h4 : pi < qi
        · simp [h3, h4]
        · have h5 : qi < pi := by omega
          simp [h3, h4, h5]
    · subst h1
      by_cases h4 : px < qx
      · simp [h2, h4]
      · have h5 : qx < px := by omega
        simp [h2, h4, h5]
  · by_cases h4 : py < qy
    · simp [h1, h4]
    · have h5 : qy < py := by omega
      simp [h1, h4, h5]
end Go.Proofs.YtejcamnnfmphkaaGreat
/- The reference's points in order. -/
namespace Go.Proofs.YtejcamnnfmphkaaGreat
set_option linter.unusedVariables false
set_option linter.unusedSimpArgs false
set_option maxRecDepth 100000

/-- A point put in, behind those that do not come behind it. -/
def leU (x y : Pt) : Bool := decide (up y x ≤ 0)
def insP (x : Pt) (l : List Pt) : List Pt := l.takeWhile (leU x) ++ x :: l.dropWhile (leU x)
def sortP (l : List Pt) : List Pt := l.foldl (fun o x => insP x o) []
end Go.Proofs.YtejcamnnfmphkaaGreat
/- Points in order. -/
namespace Go.Proofs.YtejcamnnfmphkaaGreat
set_option linter.unusedVariables false
set_option linter.unusedSimpArgs false
def leP (p q : Pt) : Prop := p.y < q.y ∨ (p.y = q.y ∧ (p.x < q.x ∨ (p.x = q.x ∧ p.id ≤ q.id)))
theorem up_leP (p q : Pt) : up p q ≤ 0 ↔ leP p q := by
  rw [← three_up]
  unfold three leP
  by_cases h1 : p.y < q.y
  · simp [h1]
  · by_cases h2 : q.y < p.y
    · simp [h1, h2] <;> omega
    · by_cases h3 : p.x < q.x
      · simp [h1, h2, h3] <;> omega
      · by_cases h4 : q.x < p.x
        · simp [h1, h2, h3, h4] <;> omega
        · by_cases h5 : p.id < q.id
          · simp [h1, h2, h3, h4, h5] <;> omega
          · by_cases h6 : q.id < p.id
            · simp [h1, h2, h3, h4, h5, h6] <;> omega
            · simp [h1, h2, h3, h4, h5, h6] <;> omega
theorem leP_trans {p q r : Pt} (h1 : leP p q) (h2 : leP q r) : leP p r := by unfold leP at *; omega
theorem leP_total (p q : Pt) : leP p q ∨ leP q p := by unfold leP; omega
theorem mrg_perm : ∀ (i k : Int) (l m : List Pt), ((mrg i k l m).map (·.p)).Perm (l ++ m)
  | _, _, [], [] => by simp [mrg]
  | i, k, a :: l, [] => by rw [mrg, List.map_cons]; exact (mrg_perm _ _ _ _).cons a
  | i, k, [], b :: m => by rw [mrg, List.map_cons]; exact (mrg_perm _ _ _ _).cons b
  | i, k, a :: l, b :: m => by
    rw [mrg]
    split
    · rw [List.map_cons]; exact (mrg_perm _ _ _ _).cons a
    · rw [List.map_cons]
      exact ((mrg_perm i (k + 1) (a :: l) m).cons b).trans List.perm_middle.symm
  termination_by _ _ l m => l.length + m.length
theorem mrg_sorted : ∀ (i k : Int) (l m : List Pt), l.Pairwise leP → m.Pairwise leP → ((mrg i k l m).map (·.p)).Pairwise leP
  | _, _, [], [], _, _ => by simp [mrg]
  | i, k, a :: l, [], h1, h2 => by
    rw [List.pairwise_cons] at h1
    rw [mrg, List.map_cons, List.pairwise_cons]
    refine ⟨fun b hb => ?_, mrg_sorted _ _ _ _ h1.2 h2⟩
    have := (mrg_perm _ _ _ _).subset hb
    exact h1.1 _ (by simpa using this)
  | i, k, [], b :: m, h1, h2 => by
    rw [List.pairwise_cons] at h2
    rw [mrg, List.map_cons, List.pairwise_cons]
    refine ⟨fun c hc => ?_, mrg_sorted _ _ _ _ h1 h2.2⟩
    have := (mrg_perm _ _ _ _).subset hc
    exact h2.1 _ (by simpa using this)
  | i, k, a :: l, b :: m, h1, h2 => by
    have h1' := List.pairwise_cons.1 h1
    have h2' := List.pairwise_cons.1 h2
    rw [mrg]
    split
    · rename_i hu
      have hu' := (up_leP _ _).1 hu
      rw [List.map_cons, List.pairwise_cons]
      refine ⟨fun c hc => ?_, mrg_sorted _ _ _ _ h1'.2 h2⟩
      rcases List.mem_append.1 ((mrg_perm _ _ _ _).subset hc) with h | h
      · exact h1'.1 _ h
      · rcases List.mem_cons.1 h with h | h
        · rw [h]; exact hu'
        · exact leP_trans hu' (h2'.1 _ h)
    · rename_i hu
      have hu' : leP b a := (leP_total b a).resolve_right fun h9 => hu ((up_leP _ _).2 h9)
      rw [List.map_cons, List.pairwise_cons]
      refine ⟨fun c hc => ?_, mrg_sorted _ _ _ _ h1 h2'.2⟩
      rcases List.mem_append.1 ((mrg_perm _ _ _ _).subset hc) with h | h
      · rcases List.mem_cons.1 h with h | h
        · rw [h]; exact hu'
        · exact leP_trans hu' (h1'.1 _ h)
      · exact h2'.1 _ h
  termination_by _ _ l m => l.length + m.length
end Go.Proofs.YtejcamnnfmphkaaGreat
/- Two arrays together: what stands at each place (the plain part). -/
namespace Go.Proofs.YtejcamnnfmphkaaGreat
set_option linter.unusedVariables false
set_option linter.unusedSimpArgs false

/-- What an entry says. -/
def MA (i k : Int) (l m : List Pt) (j : Nat) (e : Ent) : Prop := ∃ u l' v m', l = u ++ l' ∧ m = v ++ m' ∧ u.length + v.length = j ∧ e.low = i + u.length ∧ e.high = k + v.length ∧ (∀ x ∈ u, leP x e.p) ∧ (∀ x ∈ v, leP x e.p) ∧ (∀ x ∈ l', leP e.p x) ∧ ∀ x ∈ m', leP e.p x
theorem RT.of.srt : ∀ {T : RT} {l : List Pt}, T.of l → T.arr.pts.Pairwise leP
  | .nil, l, _ => .nil
  | .node b q a u v lo hi, l, ⟨_, _, h⟩ => by
    rcases h with ⟨p, rfl, _, _, rfl⟩ | ⟨h1, h2, h3, rfl⟩
    · exact List.pairwise_singleton _ _
    · show (join lo.arr hi.arr).pts.Pairwise leP
      unfold Arr.pts
      rw [join_es]
      exact mrg_sorted _ _ _ _ h2.srt h3.srt
end Go.Proofs.YtejcamnnfmphkaaGreat
/- A struct is equal to itself, whatever numbers, Bools and pointers it holds. No program stands in this text. -/
namespace Go.Proofs.YtejcamnnfmphkaaGreat
open Go.RowKit
set_option linter.unusedSimpArgs false
set_option linter.unusedVariables false
inductive Ck where
  | i
  | b
  | p
def ckB : Value → Ck → Bool
  | .int .i64 _, .i => true
  | .bool _, .b => true
  | .pointer _, .p => true
  | _, _ => false
def tyB : List Value → List Ck → Bool
  | [], [] => true
  | v :: vs, c :: cs => ckB v c && tyB vs cs
  | _, _ => false
def oneCk : List Ck → Ck → Bool
  | [.i], .i => true
  | [.b], .b => true
  | [.p], .p => true
  | _, _ => false
/-- What a type's cells hold. -/
def reflT (P : Program) : Nat → TypeId → List Ck → Bool
  | 0, _, _ => false
  | k + 1, T, ks => match P.underlying T with
    | some (.int _) => oneB P T && oneCk ks .i
    | some .bool => oneB P T && oneCk ks .b
    | some (.pointer e) => oneB P T && oneCk ks .p && (P.info? e).isSome && !Nat.beq (P.cellsOf e) 0
    | some (.struct fs) => aggB P T ks.length && !P.stoodInHeld T && fs.toList.all fun f => Nat.ble (f.offset + P.cellsOf f.type) ks.length && reflT P k f.type ((ks.drop f.offset).take (P.cellsOf f.type))
    | some (.array n e) => aggB P T ks.length && (P.info? e).isSome && (List.range n).all fun j => Nat.ble (j * P.cellsOf e + P.cellsOf e) ks.length && reflT P k e ((ks.drop (j * P.cellsOf e)).take (P.cellsOf e))
    | _ => false
def aggT (P : Program) (T : TypeId) : Bool := match P.underlying T with
  | some (.struct _) => true
  | some (.array _ _) => true
  | _ => false
def valR (P : Program) (T : TypeId) (vs : List Value) : Value := if aggT P T then .agg vs.toArray else vs.headD undef
section
variable {P : Program}
def reflB (P : Program) (T : TypeId) (ks : List Ck) : Bool := aggT P T && reflT P 8 T ks && !P.eqGuardType P.depth T
class ReflT (P : Program) (T : TypeId) (ks : outParam (List Ck)) : Prop where
  h : reflB P T ks = true
variable {L : List HP} {σ : Env} {d : Option Nat} {ty T T' : TypeId} {pos : String} {aft : Array Edge} {gd : Option (Nat × Bool)} {x y : Operand}
end
end Go.Proofs.YtejcamnnfmphkaaGreat
/- A tree of lists that lead into one another: Check tells true. -/
namespace Go.Proofs.YtejcamnnfmphkaaGreat
set_option linter.unusedVariables false
set_option linter.unusedSimpArgs false
set_option maxRecDepth 100000

instance : ReflT Tryz.prog 83 [.p, .p] := ⟨by kernel_rfl⟩
end Go.Proofs.YtejcamnnfmphkaaGreat
/- Another reference's points in order. -/
namespace Go.Proofs.YtejcamnnfmphkaaGreat
set_option linter.unusedVariables false
set_option linter.unusedSimpArgs false
set_option maxRecDepth 100000

def leX (x y : Pt) : Bool := !x.less y
def sortX (l : List Pt) : List Pt := l.foldl (fun o x => putO Pt.less x o) []
end Go.Proofs.YtejcamnnfmphkaaGreat
/- The references of a tree of lists: which points may be, how many levels, and that a tree lives. -/
namespace Go.Proofs.YtejcamnnfmphkaaGreat
attribute [local irreducible] sat
set_option linter.unusedVariables false
set_option linter.unusedSimpArgs false
set_option maxRecDepth 100000

theorem nodup_snoc {l : List Pt} {k : Nat} {x : Pt} (h : l[k]? = some x) (hd : (l.take k).Nodup) (hx : x ∉ l.take k) : (l.take (k + 1)).Nodup := by
  rw [List.take_add_one, h]
  simp only [Option.toList_some]
  exact List.nodup_append.2 ⟨hd, by simp, fun a ha b hb e => by simp at hb; subst hb; exact hx (e ▸ ha)⟩
theorem RGood17_ctr (A : Option Addr) (n c : Nat) (l : List Pt) (L : List HP) (hl : Rd L A n l) (hn : n ≤ 1000000) : Ctr Tryz.prog 7 #[.slice A n c] L fun v L' => v = .int .i64 (newC l) ∧ L' = L := by
  have h1 : l.length = n := hl.len (by decide)
  refine Ctr_of (fn := Tryz.f7) (n := 38) Tryz.func7 rfl rfl rfl ?_
  intro g F
  (repeat first | refine G_seq ?_ | refine G_skip ?_ | refine G_endblk ?_ | refine G_block ?_ | refine G_exit rfl ?_)
  refine G_region ?_
  refine GO_q rfl rfl (ev_assign rfl) ?_
  refine GO_nil ?_
  (repeat first | refine G_seq ?_ | refine G_skip ?_ | refine G_endblk ?_ | refine G_block ?_ | refine G_exit rfl ?_)
  refine G_region ?_
  refine GO_q rfl rfl (ev_assign rfl) ?_
  refine GO_nil ?_
  (repeat first | refine G_seq ?_ | refine G_skip ?_ | refine G_endblk ?_)
  refine G_cut (ι := Nat) (fun _ => [(0, .slice A n c)]) (fun _ => F :: L) (fun _ => ∀ p ∈ l, goodP p = true) ?_ ?_
  · (repeat first | refine G_seq ?_ | refine G_skip ?_ | refine G_endblk ?_ | refine G_block ?_ | refine G_exit rfl ?_)
    refine G_loop (ι := Nat) (fun k => [(0, .slice A n c), (3, .int .i64 (k : Nat))]) (fun _ => F :: L) (fun k => k ≤ n ∧ ∀ p ∈ l.take k, goodP p = true) (fun k => n - k) 0 ⟨Nat.zero_le _, by simp⟩ ⟨rfl, rfl, trivial⟩ (by (repeat first | exact fun _ s => s | apply en_keep | apply en_drop | apply en_app) <;> fail) ?_
    rintro k ⟨f1, f2⟩
    (repeat first | refine G_seq ?_ | refine G_skip ?_ | refine G_endblk ?_ | refine G_block ?_ | refine G_exit rfl ?_)
    refine G_region ?_
    refine GO_q rfl rfl (ev_move rfl) ?_
    refine GO_q rfl rfl (ev_move rfl) ?_
    refine GO_q rfl rfl (ev_len rfl) ?_
    (first | refine GO_q rfl rfl (ev_lssN rfl rfl) ?_ | refine GO_q rfl rfl (ev_lss rfl rfl) ?_)
    refine GO_nil ?_
    (repeat first | refine G_seq ?_ | refine G_skip ?_ | refine G_endblk ?_ | refine G_block ?_ | refine G_exit rfl ?_)
    refine G_cond rfl (fun h4 => ?_) (fun h4 => ?_)
    · obtain ⟨lb, lo, rfl, hx⟩ := hl.at_ (by omega)
      have g1 : l[k]? = some l[k] := List.getElem?_eq_getElem (by omega)
      have s1 : l.take (k + 1) = l.take k ++ [l[k]] := List.take_succ_eq_append_getElem (by omega)
      have m1 : l[k] ∈ l := List.getElem_mem _
      have y1 := hx _ _ g1
      generalize l[k] = u at *
      have z1 : LdN L lb (lo + k * 3) 3 [.int .i64 u.id, .int .i64 u.x, .int .i64 u.y] := y1
      by_cases hg : goodP u = true
      · have hG := fun M => RGood_ctr u M
        rw [hg] at hG
        (repeat first | refine G_seq ?_ | refine G_skip ?_ | refine G_endblk ?_ | refine G_block ?_ | refine G_exit rfl ?_)
        refine G_region ?_
        refine GO_q rfl rfl (ev_move rfl) ?_
        refine GO_q rfl rfl (ev_move rfl) ?_
        (first | refine GO_q rfl rfl (ev_indexAddrN rfl rfl (by first | omega | (simp; done) | (simp; omega))) ?_ | refine GO_q rfl rfl (ev_indexAddr rfl rfl (by first | omega | (simp; done) | (simp; omega)) (by first | omega | (simp; done) | (simp; omega))) ?_)
        refine GO_q rfl rfl (ev_loadN rfl (by repeat' first | exact LdN.blk rfl | assumption | apply LdN.skip | apply LdN.app)) ?_
        refine GO_eff rfl rfl (eff_call rfl (hG _)) ?_; rintro _ _ ⟨rfl, rfl⟩
        refine GO_q rfl rfl (ev_not rfl) ?_
        refine GO_nil ?_
        (repeat first | refine G_seq ?_ | refine G_skip ?_ | refine G_endblk ?_ | refine G_block ?_ | refine G_exit rfl ?_)
        refine G_cond_f rfl rfl ?_
        (repeat first | refine G_seq ?_ | refine G_skip ?_ | refine G_endblk ?_ | refine G_block ?_ | refine G_exit rfl ?_)
        refine G_region ?_
        refine GO_q rfl rfl (ev_move rfl) ?_
        (first | refine GO_q rfl rfl (ev_addN (q := 1) rfl rfl (by first | omega | (simp; done) | (simp; omega))) ?_ | refine GO_q rfl rfl (ev_add rfl rfl (by first | omega | (simp; done) | (simp; omega))) ?_)
        refine GO_q rfl rfl (ev_assign rfl) ?_
        refine GO_nil ?_
        (repeat first | refine G_seq ?_ | refine G_skip ?_ | refine G_endblk ?_ | refine G_block ?_ | refine G_exit rfl ?_)
        exact G_round (k + 1) ⟨by omega, fun p hp => by rw [s1] at hp; rcases List.mem_append.1 hp with h | h; exact f2 p h; simp at h; subst h; exact hg⟩ (by omega) ⟨rfl, rfl, trivial⟩ (by (repeat first | exact fun _ s => s | apply en_keep | apply en_drop | apply en_app) <;> fail)
      · have hG := fun M => RGood_ctr u M
        rw [show goodP u = false by simpa using hg] at hG
        have e : newC l = 1 := if_neg fun h => hg (h u m1)
        rw [e]
        (repeat first | refine G_seq ?_ | refine G_skip ?_ | refine G_endblk ?_ | refine G_block ?_ | refine G_exit rfl ?_)
        refine G_region ?_
        refine GO_q rfl rfl (ev_move rfl) ?_
        refine GO_q rfl rfl (ev_move rfl) ?_
        (first | refine GO_q rfl rfl (ev_indexAddrN rfl rfl (by first | omega | (simp; done) | (simp; omega))) ?_ | refine GO_q rfl rfl (ev_indexAddr rfl rfl (by first | omega | (simp; done) | (simp; omega)) (by first | omega | (simp; done) | (simp; omega))) ?_)
        refine GO_q rfl rfl (ev_loadN rfl (by repeat' first | exact LdN.blk rfl | assumption | apply LdN.skip | apply LdN.app)) ?_
        refine GO_eff rfl rfl (eff_call rfl (hG _)) ?_; rintro _ _ ⟨rfl, rfl⟩
        refine GO_q rfl rfl (ev_not rfl) ?_
        refine GO_nil ?_
        (repeat first | refine G_seq ?_ | refine G_skip ?_ | refine G_endblk ?_ | refine G_block ?_ | refine G_exit rfl ?_)
        refine G_cond_t rfl rfl ?_
        (repeat first | refine G_seq ?_ | refine G_skip ?_ | refine G_endblk ?_ | refine G_block ?_ | refine G_exit rfl ?_)
        refine G_region ?_
        refine GO_q rfl rfl (ev_assign rfl) ?_
        refine GO_nil ?_
        (repeat first | refine G_seq ?_ | refine G_skip ?_ | refine G_endblk ?_ | refine G_block ?_ | refine G_exit rfl ?_)
        refine G_ret rfl (.tmp rfl .nil) (by (repeat first | exact fun _ s => s | apply en_keep | apply en_drop | apply en_app) <;> fail) ⟨rfl, rfl⟩
    · have e : k = n := by omega
      subst e
      rw [List.take_of_length_le (by omega)] at f2
      (repeat first | refine G_seq ?_ | refine G_skip ?_ | refine G_endblk ?_ | refine G_block ?_ | refine G_exit rfl ?_)
      exact G_inv 0 f2 ⟨rfl, trivial⟩ (by (repeat first | exact fun _ s => s | apply en_keep | apply en_drop | apply en_app) <;> fail)
  · rintro _ hg
    (repeat first | refine G_seq ?_ | refine G_skip ?_ | refine G_endblk ?_ | refine G_block ?_ | refine G_exit rfl ?_)
    refine G_region ?_
    refine GO_q rfl rfl (ev_assign rfl) ?_
    refine GO_nil ?_
    (repeat first | refine G_seq ?_ | refine G_skip ?_ | refine G_endblk ?_ | refine G_block ?_ | refine G_exit rfl ?_)
    refine G_loop (ι := Nat) (fun k => [(0, .slice A n c), (4, .int .i64 (k : Nat))]) (fun _ => F :: L) (fun k => k ≤ n ∧ (l.take k).Nodup) (fun k => n - k) 0 ⟨Nat.zero_le _, by simp⟩ ⟨rfl, rfl, trivial⟩ (by (repeat first | exact fun _ s => s | apply en_keep | apply en_drop | apply en_app) <;> fail) ?_
    rintro k ⟨f1, f2⟩
    (repeat first | refine G_seq ?_ | refine G_skip ?_ | refine G_endblk ?_ | refine G_block ?_ | refine G_exit rfl ?_)
    refine G_region ?_
    refine GO_q rfl rfl (ev_move rfl) ?_
    refine GO_q rfl rfl (ev_move rfl) ?_
    refine GO_q rfl rfl (ev_len rfl) ?_
    (first | refine GO_q rfl rfl (ev_lssN rfl rfl) ?_ | refine GO_q rfl rfl (ev_lss rfl rfl) ?_)
    refine GO_nil ?_
    (repeat first | refine G_seq ?_ | refine G_skip ?_ | refine G_endblk ?_ | refine G_block ?_ | refine G_exit rfl ?_)
    refine G_cond rfl (fun h4 => ?_) (fun h4 => ?_)
    · obtain ⟨lb, lo, rfl, hx⟩ := hl.at_ (by omega)
      have g1 : l[k]? = some l[k] := List.getElem?_eq_getElem (by omega)
      have y1 := hx _ _ g1
      generalize l[k] = u at *
      have z1 : LdN L lb (lo + k * 3) 3 [.int .i64 u.id, .int .i64 u.x, .int .i64 u.y] := y1
      (repeat first | refine G_seq ?_ | refine G_skip ?_ | refine G_endblk ?_ | refine G_block ?_ | refine G_exit rfl ?_)
      refine G_region ?_
      refine GO_q rfl rfl (ev_assign rfl) ?_
      refine GO_nil ?_
      (repeat first | refine G_seq ?_ | refine G_skip ?_ | refine G_endblk ?_ | refine G_block ?_ | refine G_exit rfl ?_)
      refine G_loop (ι := Nat) (fun j => [(0, .slice (some ⟨lb, lo, none⟩) n c), (4, .int .i64 (k : Nat)), (5, .int .i64 (j : Nat))]) (fun _ => F :: L) (fun j => j ≤ k ∧ u ∉ l.take j) (fun j => k - j) 0 ⟨Nat.zero_le _, by simp⟩ ⟨rfl, rfl, rfl, trivial⟩ (by (repeat first | exact fun _ s => s | apply en_keep | apply en_drop | apply en_app) <;> fail) ?_
      rintro j ⟨q1, q2⟩
      (repeat first | refine G_seq ?_ | refine G_skip ?_ | refine G_endblk ?_ | refine G_block ?_ | refine G_exit rfl ?_)
      refine G_region ?_
      refine GO_q rfl rfl (ev_move rfl) ?_
      refine GO_q rfl rfl (ev_move rfl) ?_
      (first | refine GO_q rfl rfl (ev_lssN rfl rfl) ?_ | refine GO_q rfl rfl (ev_lss rfl rfl) ?_)
      refine GO_nil ?_
      (repeat first | refine G_seq ?_ | refine G_skip ?_ | refine G_endblk ?_ | refine G_block ?_ | refine G_exit rfl ?_)
      refine G_cond rfl (fun h5 => ?_) (fun h5 => ?_)
      · have g2 : l[j]? = some l[j] := List.getElem?_eq_getElem (by omega)
        have s1 : l.take (j + 1) = l.take j ++ [l[j]] := List.take_succ_eq_append_getElem (by omega)
        have y2 := hx _ _ g2
        have hne : u = l[j] → ¬ l.Nodup := fun e hd => by
          obtain ⟨a1, rfl⟩ := List.getElem?_eq_some_iff.1 g1
          have := (List.getElem_inj hd).1 e
          omega
        generalize l[j] = w at *
        have z2 : LdN L lb (lo + j * 3) 3 [.int .i64 w.id, .int .i64 w.x, .int .i64 w.y] := y2
        (repeat first | refine G_seq ?_ | refine G_skip ?_ | refine G_endblk ?_ | refine G_block ?_ | refine G_exit rfl ?_)
        refine G_draw (.q 0 (.q 1 (.q 2 (.q 3 (.q 4 (.q 5 (.q 6 (.q 7 (.q 8 .nil))))))))) (by kernel_rfl) (by kernel_rfl) ?_
        refine RS_m retB_noPanic rfl rfl rfl rfl (ev_move rfl) ?_
        refine RS_m retB_noPanic rfl rfl rfl rfl (ev_move rfl) ?_
        (first | refine RS_m retB_noPanic rfl rfl rfl rfl (ev_indexAddrN rfl rfl (by first | omega | (simp; done) | (simp; omega))) ?_ | refine RS_m retB_noPanic rfl rfl rfl rfl (ev_indexAddr rfl rfl (by first | omega | (simp; done) | (simp; omega)) (by first | omega | (simp; done) | (simp; omega))) ?_)
        refine RS_q retB_noPanic rfl rfl rfl rfl (ev_loadN rfl (by repeat' first | exact LdN.blk rfl | assumption | apply LdN.skip | apply LdN.app)) ?_
        refine RS_m retB_noPanic rfl rfl rfl rfl (ev_move rfl) ?_
        refine RS_m retB_noPanic rfl rfl rfl rfl (ev_move rfl) ?_
        (first | refine RS_m retB_noPanic rfl rfl rfl rfl (ev_indexAddrN rfl rfl (by first | omega | (simp; done) | (simp; omega))) ?_ | refine RS_m retB_noPanic rfl rfl rfl rfl (ev_indexAddr rfl rfl (by first | omega | (simp; done) | (simp; omega)) (by first | omega | (simp; done) | (simp; omega))) ?_)
        refine RS_q retB_noPanic rfl rfl rfl rfl (ev_loadN rfl (by repeat' first | exact LdN.blk rfl | assumption | apply LdN.skip | apply LdN.app)) ?_
        refine RS_m retB_noPanic rfl rfl rfl rfl (ev_eqlS rfl rfl rfl rfl rfl rfl) ?_
        refine RS_nil ?_
        (repeat first | refine G_seq ?_ | refine G_skip ?_ | refine G_endblk ?_ | refine G_block ?_ | refine G_exit rfl ?_)
        refine G_cond rfl (fun h6 => ?_) (fun h6 => ?_)
        · have e := (pt_list u w).1 h6
          have e5 : newC l = 5 := by unfold newC; rw [if_pos hg, if_neg (hne e)]
          rw [e5]
          (repeat first | refine G_seq ?_ | refine G_skip ?_ | refine G_endblk ?_ | refine G_block ?_ | refine G_exit rfl ?_)
          refine G_region ?_
          refine GO_q rfl rfl (ev_assign rfl) ?_
          refine GO_nil ?_
          (repeat first | refine G_seq ?_ | refine G_skip ?_ | refine G_endblk ?_ | refine G_block ?_ | refine G_exit rfl ?_)
          refine G_ret rfl (.tmp rfl .nil) (by (repeat first | exact fun _ s => s | apply en_keep | apply en_drop | apply en_app) <;> fail) ⟨rfl, rfl⟩
        · have e : u ≠ w := fun e => h6 ((pt_list u w).2 e)
          (repeat first | refine G_seq ?_ | refine G_skip ?_ | refine G_endblk ?_ | refine G_block ?_ | refine G_exit rfl ?_)
          refine G_region ?_
          refine GO_q rfl rfl (ev_move rfl) ?_
          (first | refine GO_q rfl rfl (ev_addN (q := 1) rfl rfl (by first | omega | (simp; done) | (simp; omega))) ?_ | refine GO_q rfl rfl (ev_add rfl rfl (by first | omega | (simp; done) | (simp; omega))) ?_)
          refine GO_q rfl rfl (ev_assign rfl) ?_
          refine GO_nil ?_
          (repeat first | refine G_seq ?_ | refine G_skip ?_ | refine G_endblk ?_ | refine G_block ?_ | refine G_exit rfl ?_)
          exact G_round (j + 1) ⟨by omega, by rw [s1]; simp only [List.mem_append, List.mem_singleton, not_or]; exact ⟨q2, e⟩⟩ (by omega) ⟨rfl, rfl, rfl, trivial⟩ (by (repeat first | exact fun _ s => s | apply en_keep | apply en_drop | apply en_app) <;> fail)
      · have e : j = k := by omega
        subst e
        (repeat first | refine G_seq ?_ | refine G_skip ?_ | refine G_endblk ?_ | refine G_block ?_ | refine G_exit rfl ?_)
        refine G_region ?_
        refine GO_q rfl rfl (ev_move rfl) ?_
        (first | refine GO_q rfl rfl (ev_addN (q := 1) rfl rfl (by first | omega | (simp; done) | (simp; omega))) ?_ | refine GO_q rfl rfl (ev_add rfl rfl (by first | omega | (simp; done) | (simp; omega))) ?_)
        refine GO_q rfl rfl (ev_assign rfl) ?_
        refine GO_nil ?_
        (repeat first | refine G_seq ?_ | refine G_skip ?_ | refine G_endblk ?_ | refine G_block ?_ | refine G_exit rfl ?_)
        exact G_round (j + 1) ⟨by omega, nodup_snoc g1 f2 q2⟩ (by omega) ⟨rfl, rfl, trivial⟩ (by (repeat first | exact fun _ s => s | apply en_keep | apply en_drop | apply en_app) <;> fail)
    · have e : k = n := by omega
      subst e
      rw [List.take_of_length_le (by omega)] at f2
      have e0 : newC l = 0 := by unfold newC; rw [if_pos hg, if_pos f2]
      rw [e0]
      (repeat first | refine G_seq ?_ | refine G_skip ?_ | refine G_endblk ?_ | refine G_block ?_ | refine G_exit rfl ?_)
      refine G_region ?_
      refine GO_q rfl rfl (ev_assign rfl) ?_
      refine GO_nil ?_
      (repeat first | refine G_seq ?_ | refine G_skip ?_ | refine G_endblk ?_ | refine G_block ?_ | refine G_exit rfl ?_)
      refine G_ret rfl (.tmp rfl .nil) (by (repeat first | exact fun _ s => s | apply en_keep | apply en_drop | apply en_app) <;> fail) ⟨rfl, rfl⟩
end Go.Proofs.YtejcamnnfmphkaaGreat
/- A cursor over trees of lists: what the laws use. -/
namespace Go.Proofs.YtejcamnnfmphkaaGreat
attribute [local irreducible] sat
set_option linter.unusedVariables false
set_option linter.unusedSimpArgs false
set_option maxRecDepth 100000

/-- Bytes. -/
structure U8 where
  n : Nat
instance : Enc U8 := ⟨1, fun a => [.int .u8 (a.n : Int)], fun _ => rfl, fun _ v h => by simp at h; subst h; rfl⟩
instance : IntK Tryz.prog 5 .u8 := ⟨by kernel_rfl⟩
instance : IntK Tryz.prog 3 .i64 := ⟨by kernel_rfl⟩
theorem FewI_ctr (A : Option Addr) (n c : Nat) (l : List Int) (most : Nat) (L : List HP) (hr : Rd L A n l) (hc : n ≤ c) (hc2 : c ≤ maxLen) (hm : most ≤ 100000) :
    Ctr Tryz.prog 18 #[.slice A n c, .int .i64 (most : Nat)] L fun v L' => MadeC 3 (l.take most) L v L' := by
  have hlen : l.length = n := hr.len (by decide)
  refine Ctr_of (fn := Tryz.f18) (n := 15) Tryz.func18 rfl rfl rfl ?_
  intro g F
  (repeat first | refine G_seq ?_ | refine G_skip ?_ | refine G_endblk ?_ | refine G_block ?_ | refine G_exit rfl ?_)
  refine G_region ?_
  refine GO_q rfl rfl (ev_assign rfl) ?_
  refine GO_nil ?_
  (repeat first | refine G_seq ?_ | refine G_skip ?_ | refine G_endblk ?_ | refine G_block ?_ | refine G_exit rfl ?_)
  refine G_region ?_
  refine GO_q rfl rfl (ev_move rfl) ?_
  refine GO_q rfl rfl (ev_len rfl) ?_
  refine GO_q rfl rfl (ev_move rfl) ?_
  refine GO_q rfl rfl (ev_gtr rfl rfl) ?_
  refine GO_nil ?_
  (repeat first | refine G_seq ?_ | refine G_skip ?_ | refine G_endblk ?_ | refine G_block ?_ | refine G_exit rfl ?_)
  refine G_cond rfl (fun h1 => ?_) (fun h1 => ?_)
  · (repeat first | refine G_seq ?_ | refine G_skip ?_ | refine G_endblk ?_ | refine G_block ?_ | refine G_exit rfl ?_)
    refine G_region ?_
    refine GO_q rfl rfl (ev_move rfl) ?_
    refine GO_q rfl rfl (ev_move rfl) ?_
    refine GO_q rfl rfl (ev_sliceH rfl rfl (by omega)) ?_
    refine GO_q rfl rfl (ev_assign rfl) ?_
    refine GO_nil ?_
    have hr2 := hr.take (k := most) (by omega)
    have hlen2 : (l.take most).length = most := by rw [List.length_take]; omega
    (repeat first | refine G_seq ?_ | refine G_skip ?_ | refine G_endblk ?_ | refine G_block ?_ | refine G_exit rfl ?_)
    refine G_region ?_
    refine GO_eff rfl rfl eff_buildSlice0 ?_; rintro _ _ ⟨b12, rfl, rfl⟩
    refine GO_q rfl rfl (ev_move rfl) ?_
    refine GO_eff rfl rfl (eff_append rfl rfl (by repeat' first | exact Pick.here | apply Pick.skip) (Rc.skip (Rc.skip hr2)) ((flat_one _)) (by rfl) (by decide) (by first | omega | (simp; done) | (simp; omega)) (by first | omega | (simp; done) | (simp; omega))) ?_; rintro _ _ ⟨A14, c14, rfl, hc14, hm14, hn14, rfl⟩
    refine GO_q rfl rfl (ev_assign rfl) ?_
    refine GO_nil ?_
    rw [Nat.zero_add] at hc14 hn14
    rw [Nat.zero_add most, List.nil_append]
    (repeat first | refine G_seq ?_ | refine G_skip ?_ | refine G_endblk ?_ | refine G_block ?_ | refine G_exit rfl ?_)
    refine G_ret (L' := own 3 1 A14 most c14 (flat (l.take most)) :: L) rfl (.tmp rfl .nil) ?_ ⟨A14, c14, by rw [hlen2]; rfl, by rw [hlen2]; exact hn14, by omega, hm14, by rw [hlen2]; rfl⟩
    refine en_pick (.skip (.here)) ?_
    refine en_pick (.here) ?_
    exact (by (repeat first | exact fun _ s => s | apply en_keep | apply en_drop | apply en_app) <;> fail)
  · have hlen2 : l.take most = l := List.take_of_length_le (by omega)
    rw [hlen2]
    by_cases hbig : n ≤ 100000
    · (repeat first | refine G_seq ?_ | refine G_skip ?_ | refine G_endblk ?_ | refine G_block ?_ | refine G_exit rfl ?_)
      refine G_region ?_
      refine GO_eff rfl rfl eff_buildSlice0 ?_; rintro _ _ ⟨b12, rfl, rfl⟩
      refine GO_q rfl rfl (ev_move rfl) ?_
      refine GO_eff rfl rfl (eff_append rfl rfl (by repeat' first | exact Pick.here | apply Pick.skip) (Rc.skip (Rc.skip hr)) ((flat_one _)) (by rfl) (by decide) (by first | omega | (simp; done) | (simp; omega)) (by first | omega | (simp; done) | (simp; omega))) ?_; rintro _ _ ⟨A14, c14, rfl, hc14, hm14, hn14, rfl⟩
      refine GO_q rfl rfl (ev_assign rfl) ?_
      refine GO_nil ?_
      rw [Nat.zero_add] at hc14 hn14
      rw [Nat.zero_add n, List.nil_append]
      (repeat first | refine G_seq ?_ | refine G_skip ?_ | refine G_endblk ?_ | refine G_block ?_ | refine G_exit rfl ?_)
      refine G_ret (L' := [own 3 1 A14 n c14 (flat l)] ++ L) rfl (.tmp rfl .nil) ?_ ⟨A14, c14, by rw [hlen]; rfl, by rw [hlen]; exact hn14, by omega, hm14, by rw [hlen]; rfl⟩
      refine en_pick (.skip (.here)) ?_
      refine en_pick (.here) ?_
      exact (by (repeat first | exact fun _ s => s | apply en_keep | apply en_drop | apply en_app) <;> fail)
    · exfalso; omega
/-- How many levels a reference allows. -/
def LevOk (n k : Nat) : Prop := (n = 0 → k = 0) ∧ (0 < n → ∃ j, k = j + 1 ∧ n ≤ 2 ^ j) ∧ k ≤ 60
theorem RLess18_ctr (A D : Option Addr) (n c m d : Nat) (l ds : List Int) (L : List HP) (hl : Rd L A n l) (hn : n ≤ 100000) (hd : Rd L D m ds) (hm : m ≤ 100000) :
    Ctr Tryz.prog 21 #[.slice A n c, .slice D m d] L fun v L' => MadeC 3 (lessI l ds) L v L' := by
  have h1 : l.length = n := hl.len (by decide)
  have h2 : ds.length = m := hd.len (by decide)
  refine Ctr_of (fn := Tryz.f21) (n := 45) Tryz.func21 rfl rfl rfl ?_
  intro g F
  (repeat first | refine G_seq ?_ | refine G_skip ?_ | refine G_endblk ?_ | refine G_block ?_ | refine G_exit rfl ?_)
  refine G_region ?_
  refine GO_q rfl rfl (ev_assign rfl) ?_
  refine GO_nil ?_
  (repeat first | refine G_seq ?_ | refine G_skip ?_ | refine G_endblk ?_ | refine G_block ?_ | refine G_exit rfl ?_)
  refine G_region ?_
  refine GO_eff rfl rfl eff_buildSlice0 ?_; rintro _ _ ⟨b8, rfl, rfl⟩
  refine GO_q rfl rfl (ev_move rfl) ?_
  refine GO_eff rfl rfl (eff_append rfl rfl (by repeat' first | exact Pick.here | apply Pick.skip) ((by repeat' first | exact hl | apply Rc.skip)) ((flat_one _)) (by rfl) (by decide) (by first | omega | (simp; done) | (simp; omega)) (by first | omega | (simp; done) | (simp; omega))) ?_; rintro _ _ ⟨A10, c10, rfl, hc10, hm10, hn10, rfl⟩
  refine GO_q rfl rfl (ev_assign rfl) ?_
  refine GO_nil ?_
  rw [Nat.zero_add, List.nil_append] at *
  (repeat first | refine G_seq ?_ | refine G_skip ?_ | refine G_endblk ?_ | refine G_block ?_ | refine G_exit rfl ?_)
  refine G_region ?_
  refine GO_q rfl rfl (ev_assign rfl) ?_
  refine GO_nil ?_
  (repeat first | refine G_seq ?_ | refine G_skip ?_ | refine G_endblk ?_ | refine G_block ?_ | refine G_exit rfl ?_)
  refine G_loop (ι := Nat × Option Addr × Nat) (fun z => [(0, .slice A n c), (1, .slice D m d), (5, .slice z.2.1 (lessI l (ds.take z.1)).length z.2.2), (6, .int .i64 (z.1 : Nat))]) (fun z => own 3 1 z.2.1 (lessI l (ds.take z.1)).length z.2.2 (flat (lessI l (ds.take z.1))) :: F :: L) (fun z => z.1 ≤ m ∧ (0 < (lessI l (ds.take z.1)).length → ∃ b, z.2.1 = some ⟨b, 0, none⟩) ∧ (lessI l (ds.take z.1)).length ≤ z.2.2 ∧ z.2.2 ≤ maxLen) (fun z => m - z.1) (0, A10, c10) ⟨Nat.zero_le _, by show 0 < l.length → _; rw [h1]; exact hn10, by show l.length ≤ _; rw [h1]; exact hc10, hm10⟩ ⟨rfl, rfl, by show some (Value.slice A10 n c10) = some (Value.slice A10 l.length c10); rw [h1], rfl, trivial⟩ (by show ∀ h, _ → sat (own 3 1 A10 l.length c10 (flat l) :: F :: L) h; rw [h1]; exact (by (repeat first | exact en_refl | (apply en_blk; focus ((repeat' first | exact Pick.here | apply Pick.skip | apply Pick.app); done); focus rfl) | (apply en_own; focus ((repeat' first | exact Pick.here | apply Pick.skip | apply Pick.app); done); focus rfl) | (apply en_pick; focus ((repeat' first | exact Pick.here | apply Pick.skip | apply Pick.app); done)) | apply en_drop | apply en_app) <;> fail)) ?_
  rintro ⟨j, C, f⟩ ⟨f1, f2, f3, f4⟩
  simp only at f1 f2 f3 f4
  dsimp only
  (repeat first | refine G_seq ?_ | refine G_skip ?_ | refine G_endblk ?_ | refine G_block ?_ | refine G_exit rfl ?_)
  refine G_region ?_
  refine GO_q rfl rfl (ev_move rfl) ?_
  refine GO_q rfl rfl (ev_move rfl) ?_
  refine GO_q rfl rfl (ev_len rfl) ?_
  (first | refine GO_q rfl rfl (ev_lssN rfl rfl) ?_ | refine GO_q rfl rfl (ev_lss rfl rfl) ?_)
  refine GO_nil ?_
  (repeat first | refine G_seq ?_ | refine G_skip ?_ | refine G_endblk ?_ | refine G_block ?_ | refine G_exit rfl ?_)
  refine G_cond rfl (fun h4 => ?_) (fun h4 => ?_)
  · obtain ⟨lb, lo, rfl, hx2⟩ := hd.at_ (by omega)
    have g1 : ds[j]? = some ds[j] := List.getElem?_eq_getElem (by omega)
    have y1 := (hx2 _ _ g1).at_ (i := 0) rfl
    have e9 := lessI_take (l := l) g1
    generalize ds[j] = u at *
    have z1 : Ld L ⟨lb, lo + j * 1, none⟩ (.int .i64 u) := y1
    have hl9 := lessI_len (ds.take j) l
    generalize lessI l (ds.take j) = q at *
    have hrq : ∀ M, Rd (own 3 1 C q.length f (flat q) :: M) C q.length q := fun M => Rc.own (flat_length _) f2
    (repeat first | refine G_seq ?_ | refine G_skip ?_ | refine G_endblk ?_ | refine G_block ?_ | refine G_exit rfl ?_)
    refine G_region ?_
    refine GO_q rfl rfl (ev_assign rfl) ?_
    refine GO_nil ?_
    (repeat first | refine G_seq ?_ | refine G_skip ?_ | refine G_endblk ?_)
    refine G_cut (ι := Option Addr × Nat) (fun z => [(0, .slice A n c), (1, .slice (some ⟨lb, lo, none⟩) m d), (5, .slice z.1 (q.erase u).length z.2), (6, .int .i64 (j : Nat))]) (fun z => own 3 1 z.1 (q.erase u).length z.2 (flat (q.erase u)) :: F :: L) (fun z => (0 < (q.erase u).length → ∃ b, z.1 = some ⟨b, 0, none⟩) ∧ (q.erase u).length ≤ z.2 ∧ z.2 ≤ maxLen) ?_ ?_
    · (repeat first | refine G_seq ?_ | refine G_skip ?_ | refine G_endblk ?_ | refine G_block ?_ | refine G_exit rfl ?_)
      refine G_loop (ι := Nat × Option Addr × Nat × List Int) (fun z => [(0, .slice A n c), (1, .slice (some ⟨lb, lo, none⟩) m d), (5, .slice z.2.1 z.2.2.2.length z.2.2.1), (6, .int .i64 (j : Nat)), (7, .int .i64 (z.1 : Nat))]) (fun z => own 3 1 z.2.1 z.2.2.2.length z.2.2.1 (flat z.2.2.2) :: F :: L) (fun z => ((z.2.2.2 = q ∧ z.1 ≤ q.length ∧ u ∉ q.take z.1) ∨ (u ∈ q ∧ z.2.2.2 = q.erase u ∧ z.1 = z.2.2.2.length + 1)) ∧ (0 < z.2.2.2.length → ∃ b, z.2.1 = some ⟨b, 0, none⟩) ∧ z.2.2.2.length ≤ z.2.2.1 ∧ z.2.2.1 ≤ maxLen) (fun z => q.length + 2 - z.1) (0, C, f, q) ⟨.inl ⟨rfl, Nat.zero_le _, by simp⟩, f2, f3, f4⟩ ⟨rfl, rfl, rfl, rfl, rfl, trivial⟩ (by (repeat first | exact fun _ s => s | apply en_keep | apply en_drop | apply en_app) <;> fail) ?_
      rintro ⟨k, C3, f6, r⟩ ⟨p1, p2, p3, p4⟩
      simp only at p1 p2 p3 p4
      dsimp only
      (repeat first | refine G_seq ?_ | refine G_skip ?_ | refine G_endblk ?_ | refine G_block ?_ | refine G_exit rfl ?_)
      refine G_region ?_
      refine GO_q rfl rfl (ev_move rfl) ?_
      refine GO_q rfl rfl (ev_move rfl) ?_
      refine GO_q rfl rfl (ev_len rfl) ?_
      (first | refine GO_q rfl rfl (ev_lssN rfl rfl) ?_ | refine GO_q rfl rfl (ev_lss rfl rfl) ?_)
      refine GO_nil ?_
      rcases p1 with ⟨p0, p5, p6⟩ | ⟨p5, p6, p7⟩
      · subst p0
        by_cases hk : k < r.length
        · (repeat first | refine G_seq ?_ | refine G_skip ?_ | refine G_endblk ?_ | refine G_block ?_ | refine G_exit rfl ?_)
          refine G_cond_t rfl (decide_eq_true (by omega)) ?_
          have hrr : ∀ M, Rd (own 3 1 C3 r.length f6 (flat r) :: M) C3 r.length r := fun M => Rc.own (flat_length _) p2
          obtain ⟨rb, rfl⟩ := p2 (by omega)
          have g2 : r[k]? = some r[k] := List.getElem?_eq_getElem hk
          have s1 : r.take (k + 1) = r.take k ++ [r[k]] := List.take_succ_eq_append_getElem hk
          have hsp : r = r.take k ++ r[k] :: r.drop (k + 1) := by
            conv => lhs; rw [← List.take_append_drop k r, List.drop_eq_getElem_cons hk]
          have y2 : ∀ M, Ld (own 3 1 (some ⟨rb, 0, none⟩) r.length f6 (flat r) :: M) ⟨rb, 0 + k * 1, none⟩ (.int .i64 r[k]) := fun M => ld_ownI rfl g2 M
          generalize r[k] = w at *
          (repeat first | refine G_seq ?_ | refine G_skip ?_ | refine G_endblk ?_ | refine G_block ?_ | refine G_exit rfl ?_)
          refine G_draw (.q 0 (.q 1 (.q 2 (.q 3 (.q 4 (.q 5 (.q 6 (.q 7 (.q 8 .nil))))))))) (by kernel_rfl) (by kernel_rfl) ?_
          refine RS_m retB_noPanic rfl rfl rfl rfl (ev_move rfl) ?_
          refine RS_m retB_noPanic rfl rfl rfl rfl (ev_move rfl) ?_
          (first | refine RS_m retB_noPanic rfl rfl rfl rfl (ev_indexAddrN rfl rfl (by first | omega | (simp; done) | (simp; omega))) ?_ | refine RS_m retB_noPanic rfl rfl rfl rfl (ev_indexAddr rfl rfl (by first | omega | (simp; done) | (simp; omega)) (by first | omega | (simp; done) | (simp; omega))) ?_)
          refine RS_q retB_noPanic rfl rfl rfl rfl (ev_load rfl (by repeat' first | exact y2 _ | apply Ld.skip)) ?_
          refine RS_m retB_noPanic rfl rfl rfl rfl (ev_move rfl) ?_
          refine RS_m retB_noPanic rfl rfl rfl rfl (ev_move rfl) ?_
          (first | refine RS_m retB_noPanic rfl rfl rfl rfl (ev_indexAddrN rfl rfl (by first | omega | (simp; done) | (simp; omega))) ?_ | refine RS_m retB_noPanic rfl rfl rfl rfl (ev_indexAddr rfl rfl (by first | omega | (simp; done) | (simp; omega)) (by first | omega | (simp; done) | (simp; omega))) ?_)
          refine RS_q retB_noPanic rfl rfl rfl rfl (ev_load rfl (by repeat' first | exact Ld.blk rfl | assumption | apply Ld.skip | apply Ld.app)) ?_
          refine RS_m retB_noPanic rfl rfl rfl rfl (ev_eql rfl rfl) ?_
          refine RS_nil ?_
          by_cases hw : w = u
          · subst hw
            have her : r.erase w = r.take k ++ r.drop (k + 1) := by
              conv => lhs; rw [hsp]
              rw [List.erase_append_right _ p6]; simp
            have hwm : w ∈ r := List.mem_of_getElem? g2
            have m1 : ∀ M, Rc (own 3 1 (some ⟨rb, 0, none⟩) r.length f6 (flat r) :: M) 1 (some ⟨rb, 0, none⟩) k (flat (r.take k)) := fun M => (hrr M).take (by omega)
            have m2 : ∀ M, Rc (own 3 1 (some ⟨rb, 0, none⟩) r.length f6 (flat r) :: M) 1 (some ⟨rb, (if f6 = k + 1 then 0 else 0 + (k + 1) * 1), none⟩) (r.length - (k + 1)) (flat (r.drop (k + 1))) := fun M => (hrr M).drop (by omega) p3
            have nn : 0 + k + (r.length - (k + 1)) = (r.take k ++ r.drop (k + 1)).length := by rw [List.length_append, List.length_take, List.length_drop]; omega
            have nl : (r.take k ++ r.drop (k + 1)).length + 1 = r.length := by omega
            (repeat first | refine G_seq ?_ | refine G_skip ?_ | refine G_endblk ?_ | refine G_block ?_ | refine G_exit rfl ?_)
            refine G_cond_t rfl (decide_eq_true rfl) ?_
            (repeat first | refine G_seq ?_ | refine G_skip ?_ | refine G_endblk ?_ | refine G_block ?_ | refine G_exit rfl ?_)
            refine G_draw (.q 1 (.q 2 (.q 3 (.q 5 (.q 6 (.q 7 (.q 8 (.e 0 (.e 4 (.e 9 (.q 10 .nil))))))))))) (by kernel_rfl) (by kernel_rfl) ?_
            refine RS_m retB_noPanic rfl rfl rfl rfl (ev_move rfl) ?_
            refine RS_m retB_noPanic rfl rfl rfl rfl (ev_move rfl) ?_
            refine RS_q retB_noPanic rfl rfl rfl rfl (ev_sliceH rfl rfl (by first | omega | (simp; done) | (simp; omega))) ?_
            refine RS_m retB_noPanic rfl rfl rfl rfl (ev_move rfl) ?_
            refine RS_m retB_noPanic rfl rfl rfl rfl (ev_move rfl) ?_
            (first | refine RS_m retB_noPanic rfl rfl rfl rfl (ev_addN (q := 1) rfl rfl (by first | omega | (simp; done) | (simp; omega))) ?_ | refine RS_m retB_noPanic rfl rfl rfl rfl (ev_add rfl rfl (by first | omega | (simp; done) | (simp; omega))) ?_)
            refine RS_q retB_noPanic rfl rfl rfl rfl (ev_sliceL rfl rfl (by first | omega | (simp; done) | (simp; omega)) (by first | omega | (simp; done) | (simp; omega))) ?_
            refine RS_e (RE_eff rfl rfl rfl eff_buildSlice0 ?_); rintro _ _ ⟨b32, rfl, rfl⟩; refine ⟨_, (by first | ((repeat first | exact fun _ s => s | apply en_keep | apply en_drop | apply en_app) <;> fail) | ((repeat first | exact en_refl | (apply en_blk; focus ((repeat' first | exact Pick.here | apply Pick.skip | apply Pick.app); done); focus rfl) | (apply en_own; focus ((repeat' first | exact Pick.here | apply Pick.skip | apply Pick.app); done); focus rfl) | (apply en_pick; focus ((repeat' first | exact Pick.here | apply Pick.skip | apply Pick.app); done)) | apply en_drop | apply en_app) <;> fail)), fun _ s => s, ?_⟩
            refine RS_e (RE_eff rfl rfl rfl (eff_append rfl rfl (by repeat' first | exact Pick.here | apply Pick.skip) ((by repeat' first | exact m1 _ | apply Rc.skip)) ((flat_one _)) (by rfl) (by decide) (by first | omega | (simp; done) | (simp; omega)) (by first | omega | (simp; done) | (simp; omega))) ?_); rintro _ _ ⟨A36, c36, rfl, hc36, hm36, hn36, rfl⟩; refine ⟨_, (by first | ((repeat first | exact fun _ s => s | apply en_keep | apply en_drop | apply en_app) <;> fail) | ((repeat first | exact en_refl | (apply en_blk; focus ((repeat' first | exact Pick.here | apply Pick.skip | apply Pick.app); done); focus rfl) | (apply en_own; focus ((repeat' first | exact Pick.here | apply Pick.skip | apply Pick.app); done); focus rfl) | (apply en_pick; focus ((repeat' first | exact Pick.here | apply Pick.skip | apply Pick.app); done)) | apply en_drop | apply en_app) <;> fail)), fun _ s => s, ?_⟩
            refine RS_e (RE_eff rfl rfl rfl (eff_append rfl rfl (by repeat' first | exact Pick.here | apply Pick.skip) ((by repeat' first | exact m2 _ | apply Rc.skip)) ((flat_one _)) (by rfl) (by decide) (by first | omega | (simp; done) | (simp; omega)) (by first | omega | (simp; done) | (simp; omega))) ?_); rintro _ _ ⟨A41, c41, rfl, hc41, hm41, hn41, rfl⟩; refine ⟨_, (by first | ((repeat first | exact fun _ s => s | apply en_keep | apply en_drop | apply en_app) <;> fail) | ((repeat first | exact en_refl | (apply en_blk; focus ((repeat' first | exact Pick.here | apply Pick.skip | apply Pick.app); done); focus rfl) | (apply en_own; focus ((repeat' first | exact Pick.here | apply Pick.skip | apply Pick.app); done); focus rfl) | (apply en_pick; focus ((repeat' first | exact Pick.here | apply Pick.skip | apply Pick.app); done)) | apply en_drop | apply en_app) <;> fail)), fun _ s => s, ?_⟩
            refine RS_m retB_noPanic rfl rfl rfl rfl (ev_assign rfl) ?_
            refine RS_nil ?_
            all_goals
              rw [nn] at hc41 hn41 ⊢
              (repeat first | refine G_seq ?_ | refine G_skip ?_ | refine G_endblk ?_ | refine G_block ?_ | refine G_exit rfl ?_)
              refine G_region ?_
              refine GO_q rfl rfl (ev_move rfl) ?_
              refine GO_q rfl rfl (ev_len rfl) ?_
              refine GO_q rfl rfl (ev_assign rfl) ?_
              refine GO_nil ?_
              (repeat first | refine G_seq ?_ | refine G_skip ?_ | refine G_endblk ?_ | refine G_block ?_ | refine G_exit rfl ?_)
              refine G_region ?_
              refine GO_q rfl rfl (ev_move rfl) ?_
              (first | refine GO_q rfl rfl (ev_addN (q := 1) rfl rfl (by first | omega | (simp; done) | (simp; omega))) ?_ | refine GO_q rfl rfl (ev_add rfl rfl (by first | omega | (simp; done) | (simp; omega))) ?_)
              refine GO_q rfl rfl (ev_assign rfl) ?_
              refine GO_nil ?_
              (repeat first | refine G_seq ?_ | refine G_skip ?_ | refine G_endblk ?_ | refine G_block ?_ | refine G_exit rfl ?_)
              refine G_round ((r.take k ++ r.drop (k + 1)).length + 1, A41, c41, r.take k ++ r.drop (k + 1)) ⟨.inr ⟨hwm, her.symm, rfl⟩, hn41, hc41, hm41⟩ (by simp only; omega) ⟨rfl, rfl, rfl, rfl, rfl, trivial⟩ ?_
              dsimp only
              rw [flat_append]
              exact (by (repeat first | exact en_refl | (apply en_blk; focus ((repeat' first | exact Pick.here | apply Pick.skip | apply Pick.app); done); focus rfl) | (apply en_own; focus ((repeat' first | exact Pick.here | apply Pick.skip | apply Pick.app); done); focus rfl) | (apply en_pick; focus ((repeat' first | exact Pick.here | apply Pick.skip | apply Pick.app); done)) | apply en_drop | apply en_app) <;> fail)
          · (repeat first | refine G_seq ?_ | refine G_skip ?_ | refine G_endblk ?_ | refine G_block ?_ | refine G_exit rfl ?_)
            refine G_cond_f rfl (decide_eq_false hw) ?_
            (repeat first | refine G_seq ?_ | refine G_skip ?_ | refine G_endblk ?_ | refine G_block ?_ | refine G_exit rfl ?_)
            refine G_region ?_
            refine GO_q rfl rfl (ev_move rfl) ?_
            (first | refine GO_q rfl rfl (ev_addN (q := 1) rfl rfl (by first | omega | (simp; done) | (simp; omega))) ?_ | refine GO_q rfl rfl (ev_add rfl rfl (by first | omega | (simp; done) | (simp; omega))) ?_)
            refine GO_q rfl rfl (ev_assign rfl) ?_
            refine GO_nil ?_
            (repeat first | refine G_seq ?_ | refine G_skip ?_ | refine G_endblk ?_ | refine G_block ?_ | refine G_exit rfl ?_)
            exact G_round (k + 1, some ⟨rb, 0, none⟩, f6, r) ⟨.inl ⟨rfl, by omega, by rw [s1]; simp only [List.mem_append, List.mem_singleton, not_or]; exact ⟨p6, fun e => hw e.symm⟩⟩, fun _ => ⟨rb, rfl⟩, p3, p4⟩ (by simp only; omega) ⟨rfl, rfl, rfl, rfl, rfl, trivial⟩ (by (repeat first | exact fun _ s => s | apply en_keep | apply en_drop | apply en_app) <;> fail)
        · (repeat first | refine G_seq ?_ | refine G_skip ?_ | refine G_endblk ?_ | refine G_block ?_ | refine G_exit rfl ?_)
          refine G_cond_f rfl (decide_eq_false (by omega)) ?_
          (repeat first | refine G_seq ?_ | refine G_skip ?_ | refine G_endblk ?_ | refine G_block ?_ | refine G_exit rfl ?_)
          have e1 : r.take k = r := List.take_of_length_le (by omega)
          rw [e1] at p6
          have e2 : r.erase u = r := List.erase_of_not_mem p6
          refine G_inv (C3, f6) ?_ ?_ ?_
          · rw [e2]; exact ⟨p2, p3, p4⟩
          · rw [e2]; exact ⟨rfl, rfl, rfl, rfl, trivial⟩
          · dsimp only
            rw [e2]; exact (by (repeat first | exact fun _ s => s | apply en_keep | apply en_drop | apply en_app) <;> fail)
      · (repeat first | refine G_seq ?_ | refine G_skip ?_ | refine G_endblk ?_ | refine G_block ?_ | refine G_exit rfl ?_)
        refine G_cond_f rfl (decide_eq_false (by omega)) ?_
        (repeat first | refine G_seq ?_ | refine G_skip ?_ | refine G_endblk ?_ | refine G_block ?_ | refine G_exit rfl ?_)
        rw [p6] at p2 p3 ⊢
        exact G_inv (C3, f6) ⟨p2, p3, p4⟩ ⟨rfl, rfl, rfl, rfl, trivial⟩ (by (repeat first | exact fun _ s => s | apply en_keep | apply en_drop | apply en_app) <;> fail)
    · rintro ⟨C2, f5⟩ ⟨q1, q2, q3⟩
      simp only at q1 q2 q3
      dsimp only
      (repeat first | refine G_seq ?_ | refine G_skip ?_ | refine G_endblk ?_ | refine G_block ?_ | refine G_exit rfl ?_)
      refine G_region ?_
      refine GO_q rfl rfl (ev_move rfl) ?_
      (first | refine GO_q rfl rfl (ev_addN (q := 1) rfl rfl (by first | omega | (simp; done) | (simp; omega))) ?_ | refine GO_q rfl rfl (ev_add rfl rfl (by first | omega | (simp; done) | (simp; omega))) ?_)
      refine GO_q rfl rfl (ev_assign rfl) ?_
      refine GO_nil ?_
      (repeat first | refine G_seq ?_ | refine G_skip ?_ | refine G_endblk ?_ | refine G_block ?_ | refine G_exit rfl ?_)
      exact G_round (j + 1, C2, f5) ⟨by simp only; omega, by simp only; rw [e9]; exact q1, by simp only; rw [e9]; exact q2, q3⟩ (by simp only; omega) ⟨rfl, rfl, by simp only; rw [e9]; rfl, rfl, trivial⟩ (by dsimp only; rw [e9]; exact (by (repeat first | exact en_refl | (apply en_blk; focus ((repeat' first | exact Pick.here | apply Pick.skip | apply Pick.app); done); focus rfl) | (apply en_own; focus ((repeat' first | exact Pick.here | apply Pick.skip | apply Pick.app); done); focus rfl) | (apply en_pick; focus ((repeat' first | exact Pick.here | apply Pick.skip | apply Pick.app); done)) | apply en_drop | apply en_app) <;> fail))
  · have e0 : ds.take j = ds := List.take_of_length_le (by omega)
    rw [e0] at f2 f3 ⊢
    (repeat first | refine G_seq ?_ | refine G_skip ?_ | refine G_endblk ?_ | refine G_block ?_ | refine G_exit rfl ?_)
    refine G_region ?_
    refine GO_q rfl rfl (ev_move rfl) ?_
    refine GO_q rfl rfl (ev_assign rfl) ?_
    refine GO_nil ?_
    (repeat first | refine G_seq ?_ | refine G_skip ?_ | refine G_endblk ?_ | refine G_block ?_ | refine G_exit rfl ?_)
    exact G_ret (L' := own 3 1 C (lessI l ds).length f (flat (lessI l ds)) :: L) rfl (.tmp rfl .nil) (by (repeat first | exact en_refl | (apply en_blk; focus ((repeat' first | exact Pick.here | apply Pick.skip | apply Pick.app); done); focus rfl) | (apply en_own; focus ((repeat' first | exact Pick.here | apply Pick.skip | apply Pick.app); done); focus rfl) | (apply en_pick; focus ((repeat' first | exact Pick.here | apply Pick.skip | apply Pick.app); done)) | apply en_drop | apply en_app) <;> fail) ⟨C, f, rfl, f2, f3, f4, rfl⟩
end Go.Proofs.YtejcamnnfmphkaaGreat
/- From a contract to what a law's row asks. -/
namespace Go.Proofs.YtejcamnnfmphkaaGreat
open Go.RowKit
set_option linter.unusedVariables false

/-- A law that holds by its contract: it returns true, and nothing old has turned. -/
theorem law_of_ctr {P : Program} {f : FuncId} {args : Array Value} {w : World} (h : Ctr P f args [old w.hm] fun v L' => v = .bool true ∧ L' = [old w.hm]) :
    Calls P f args w fun e w' => e = .returned (.bool true) ∧ Below w.heap.size w w' := by
  refine (calls_of h (Hp.start w)).mono fun e w' ⟨v, L', e1, ⟨e2, e3⟩, hw'⟩ => ?_
  subst e2 e3
  exact ⟨e1, hw'.below⟩
/-- What a slice of numbers reads as. -/
theorem rc_of_reads {w : World} {sz : Nat} {A : Option Addr} {n : Nat} {xs : List Value} (hsz : 0 < sz) (h : Reads w sz A n xs) : Rc [old w.hm] sz A n xs := by
  refine ⟨h.1, fun h0 => ?_⟩
  obtain ⟨b, o, rfl, hb, hc⟩ := h.2 (Nat.mul_pos h0 hsz)
  refine ⟨b, o, rfl, fun j v hj => Ld.old ?_⟩
  obtain ⟨h1, rfl⟩ := List.getElem?_eq_some_iff.1 hj
  exact hc j h1
end Go.Proofs.YtejcamnnfmphkaaGreat
/- Points that came in. -/
namespace Go.Proofs.YtejcamnnfmphkaaGreat
theorem pts_of : ∀ (n : Nat) (ns : List Int), ns.length = n * 3 → ∃ l : List Pt, flat l = ints ns
  | 0, ns, h => ⟨[], by
    have : ns = [] := List.eq_nil_of_length_eq_zero (by simpa using h)
    subst this; rfl⟩
  | n + 1, a :: b :: c :: ns, h => by
    obtain ⟨l, hl⟩ := pts_of n ns (by simp at h; omega)
    exact ⟨⟨a, b, c⟩ :: l, by rw [flat_cons, hl]; rfl⟩
  | n + 1, [], h => by simp at h
  | n + 1, [_], h => by simp at h; omega
  | n + 1, [_, _], h => by simp at h; omega
theorem rd_pts {w : World} {A : Option Addr} {n : Nat} {ns : List Int} (h : Reads w 3 A n (ints ns)) : ∃ l : List Pt, Rd [old w.hm] A n l := by
  obtain ⟨l, hl⟩ := pts_of n ns (by simpa [ints] using h.1)
  refine ⟨l, ?_⟩
  unfold Rd
  rw [hl]
  exact rc_of_reads (by decide) h
end Go.Proofs.YtejcamnnfmphkaaGreat
/- The laws RtcurFinds and RtcurLess. -/
namespace Go.Proofs.YtejcamnnfmphkaaGreat
attribute [local irreducible] sat
open Go.RowKit
set_option linter.unusedVariables false
set_option linter.unusedSimpArgs false
set_option maxRecDepth 100000

theorem idsB_perm' {b : Bx} {l m : List Pt} (h : l.Perm m) : idsB b l = idsB b m := srt_congr ((h.filter _).map _)
theorem idsB_hits' (b : Bx) (l : List Pt) : idsB b l = srt (hits (fun p => b.has p.x p.y) l) := rfl
theorem RNewX_ctr (A : Option Addr) (n c : Nat) (l : List Pt) (L : List HP) (hl : Rd L A n l) (hn : n ≤ 100000) (hc : n ≤ c) :
    Ctr Tryz.prog 6 #[.slice A n c] L fun v L' => ∃ p N, v = .tuple #[.pointer p, .int .i64 (newC l)] ∧ L' = N ++ L ∧ (newC l = 0 → ∃ t T A' c', p = some ⟨t, 0, none⟩ ∧ TR (N ++ L) t T A' c' (srtO Pt.less l)) := by
  by_cases h0 : newC l = 0
  · refine (RNew_ctr A n c l L hl hn hc h0).mono ?_
    rintro v L' ⟨t, T, A', c', N, rfl, rfl, h⟩
    exact ⟨_, N, by rw [h0], rfl, fun _ => ⟨t, T, A', c', rfl, h⟩⟩
  · refine (RNewBad_ctr A n c l L hl hn hc h0).mono ?_
    rintro v L' ⟨rfl, rfl⟩
    exact ⟨none, [], rfl, rfl, fun h => absurd h h0⟩
theorem chnOne {T : RT} {l : List Pt} (o : T.of l) (a : AscO Pt.less l) : ∃ m, Chn m [T] := by
  cases l with
  | nil => exact ⟨0, [], 0, o, a, Int.le_refl _, by simp, trivial⟩
  | cons p q =>
    obtain ⟨z, hz⟩ : ∃ z, (p :: q)[(p :: q).length - 1]? = some z := ⟨_, List.getElem?_eq_getElem (by simp)⟩
    refine ⟨p.x, p :: q, z.x, o, a, asc_x a (Nat.zero_le _) rfl hz, fun r hr => ?_, trivial⟩
    obtain ⟨i, hi, rfl⟩ := List.mem_iff_getElem.1 hr
    exact ⟨asc_x a (Nat.zero_le i) rfl (List.getElem?_eq_getElem hi), asc_x a (by omega) (List.getElem?_eq_getElem hi) hz⟩
theorem begR_lk {b : Bx} {T : RT} {l : List Pt} (o : T.of l) (a : AscO Pt.less l) : (begR b T).lk b ≤ 4 * T.lv + 1 := by
  unfold begR
  split
  · obtain ⟨m, h⟩ := chnOne o a
    have := h.lk b T.lv (by simp)
    simp [lkR] at this; omega
  · simp only [RT.lk]; omega
theorem lv_le6 {T : RT} {l : List Pt} (o : T.of l) (h : l.length ≤ 64) : T.lv ≤ 7 := o.lv 6 h
theorem of_one {T : RT} {p : Pt} (h : T.of [p]) : T.lv = 1 ∧ ∀ b, T.lk b = 1 := by
  cases T with
  | nil => cases (h : [p] = [])
  | node c q a u v lo hi =>
    have hh := h
    obtain ⟨⟨f, hf, e1⟩, ⟨g, hg, e2⟩, h3⟩ := h
    rcases h3 with ⟨p, _, rfl, rfl, _⟩ | ⟨h3, _⟩
    · refine ⟨rfl, fun b => ?_⟩
      rw [RT.lk_eq]
      have hn := RT.nxt_lv b (RT.node c q a u v .nil .nil) 0 (by simp [RT.lv])
      have : (RT.node c q a u v .nil .nil).nxt b = [] := by
        by_cases c1 : (RT.node c q a u v .nil .nil).out b = true
        · simp [RT.nxt, c1]
        by_cases c2 : (RT.node c q a u v .nil .nil).ins b = true
        · simp [RT.nxt, c2]
        exfalso
        simp only [RT.out, RT.ins, decide_eq_true_eq] at c1 c2
        simp at hf hg
        subst hf hg
        omega
      rw [this]; rfl
    · simp at h3
theorem l18_new : newC [⟨7, 2, 3⟩] = 0 := by decide
theorem l18_ids {T : RT} (o : T.of [⟨7, 2, 3⟩]) (a : AscO Pt.less [⟨7, 2, 3⟩]) : srt (kp true (fndR ⟨0, 9, 0, 9⟩ (begs ⟨0, 9, 0, 9⟩ [⟨0, T, none, 0, []⟩]))) = [7] := by
  have e : fndR ⟨0, 9, 0, 9⟩ (begs ⟨0, 9, 0, 9⟩ [⟨0, T, none, 0, []⟩]) = (begR ⟨0, 9, 0, 9⟩ T).fnd ⟨0, 9, 0, 9⟩ := by simp [fndR, begs]
  rw [e]
  show srt ((begR ⟨0, 9, 0, 9⟩ T).fnd ⟨0, 9, 0, 9⟩) = _
  rw [begR_fnd o a]
  have : ([⟨7, 2, 3⟩] : List Pt).filter (inB ⟨0, 9, 0, 9⟩) = [⟨7, 2, 3⟩] := by decide
  unfold idsB; rw [this]; exact List.mergeSort_singleton ..
theorem lives18_ctr (L : List HP) : Ctr Tryz.prog 8 #[] L fun v L' => v = .bool true ∧ L' = L := by
  have hso : srtO Pt.less [⟨7, 2, 3⟩] = [⟨7, 2, 3⟩] := List.mergeSort_singleton ..
  refine Ctr_of (fn := Tryz.f8) (n := 54) Tryz.func8 rfl rfl rfl ?_
  intro g F
  (repeat first | refine G_seq ?_ | refine G_skip ?_ | refine G_endblk ?_ | refine G_block ?_ | refine G_exit rfl ?_)
  refine G_region ?_
  refine GO_q rfl rfl (ev_assign rfl) ?_
  refine GO_nil ?_
  (repeat first | refine G_seq ?_ | refine G_skip ?_ | refine G_endblk ?_ | refine G_block ?_ | refine G_exit rfl ?_)
  refine G_region ?_
  refine GO_q rfl rfl (ev_build rfl rfl) ?_
  refine GO_eff rfl rfl (eff_buildSlice1 (by rfl) rfl rfl) ?_; rintro _ _ ⟨b9, rfl, rfl⟩
  refine GO_eff rfl rfl (eff_call rfl (RNew_ctr (some ⟨b9, 0, none⟩) 1 1 [⟨7, 2, 3⟩] _ (Rc.blk rfl) (by omega) (Nat.le_refl _) l18_new)) ?_; rintro _ _ ⟨t, T, A, c, N, rfl, rfl, hT⟩
  refine GO_q rfl rfl (ev_move rfl) ?_
  refine GO_q rfl rfl (ev_extract rfl rfl) ?_
  refine GO_q rfl rfl (ev_extract rfl rfl) ?_
  refine GO_q rfl rfl (ev_assign rfl) ?_
  refine GO_q rfl rfl (ev_assign rfl) ?_
  refine GO_nil ?_
  rw [hso] at hT
  obtain ⟨L1, hL1⟩ : ∃ L1, L1 = N ++ (blk b9 56 [.int .i64 7, .int .i64 2, .int .i64 3] :: F :: L) := ⟨_, rfl⟩
  have hF1 : ∀ h, sat L1 h → sat (F :: L) h := by rw [hL1]; exact en_app (en_drop en_refl)
  replace hT : TR L1 t T A c [⟨7, 2, 3⟩] := by rw [hL1]; exact hT
  refine G_heap (L' := L1) (by rw [hL1]; exact en_refl) ?_
  obtain ⟨q1, q2⟩ := of_one hT.o
  have hid := l18_ids hT.o hT.a
  have hbe : begR ⟨0, 9, 0, 9⟩ T = T := if_pos (by decide)
  have hlk : lkR ⟨0, 9, 0, 9⟩ (begs ⟨0, 9, 0, 9⟩ [⟨t, T, A, c, [⟨7, 2, 3⟩]⟩]) = 1 := by simp [lkR, begs, hbe, q2]
  have hrl : ∀ X M, Rd (blk X 28 [.pointer (some ⟨t, 0, none⟩)] :: M) (some ⟨X, 0, none⟩) 1 [(⟨t, T, A, c, [⟨7, 2, 3⟩]⟩ : RTr)] := fun X M => Rc.blk rfl
  have hid2 : srt (kp true (fndR ⟨0, 9, 0, 9⟩ (begs ⟨0, 9, 0, 9⟩ [⟨t, T, A, c, [⟨7, 2, 3⟩]⟩]))) = [7] := hid
  have htl : (fndR ⟨0, 9, 0, 9⟩ (begs ⟨0, 9, 0, 9⟩ [(⟨t, T, A, c, [⟨7, 2, 3⟩]⟩ : RTr)])).length = 1 := by
    have := congrArg List.length hid2
    rw [(srt_perm _).length_eq] at this
    exact this
  have cRp := fun (A' : Option Addr) (M Lb : List HP) (hLb : ∀ h, sat M h → sat Lb h) (hr : Rd M A' 1 [(⟨t, T, A, c, [⟨7, 2, 3⟩]⟩ : RTr)]) (ht : TR Lb t T A c [⟨7, 2, 3⟩]) => rcReport_ctr ⟨0, 9, 0, 9⟩ A' 1 1 [⟨t, T, A, c, [⟨7, 2, 3⟩]⟩] M Lb hLb hr (by omega) (fun x hx => by simp at hx; subst hx; exact ht) (by simp) (by rw [hlk]; omega)
  rw [hlk] at cRp
  have cBd := fun (A' : Option Addr) (M : List HP) (hr : Rd M A' 1 [(⟨t, T, A, c, [⟨7, 2, 3⟩]⟩ : RTr)]) (ht : TR M t T A c [⟨7, 2, 3⟩]) => rcBound_ctr A' 1 1 [⟨t, T, A, c, [⟨7, 2, 3⟩]⟩] M hr (by omega) (fun x hx => by simp at hx; subst hx; exact ht) (by simp [q1])
  rw [show (([(⟨t, T, A, c, [⟨7, 2, 3⟩]⟩ : RTr)].map fun x => 4 * x.T.lv + 1).sum) = 5 by simp [q1]] at cBd
  generalize fndR ⟨0, 9, 0, 9⟩ (begs ⟨0, 9, 0, 9⟩ [(⟨t, T, A, c, [⟨7, 2, 3⟩]⟩ : RTr)]) = tot at *
  (repeat first | refine G_seq ?_ | refine G_skip ?_ | refine G_endblk ?_ | refine G_block ?_ | refine G_exit rfl ?_)
  refine G_region ?_
  refine GO_q rfl rfl (ev_build rfl rfl) ?_
  refine GO_q rfl rfl (ev_move rfl) ?_
  refine GO_eff rfl rfl (eff_buildSlice1 (by rfl) rfl rfl) ?_; rintro _ _ ⟨b15, rfl, rfl⟩
  refine GO_eff rfl rfl (eff_call rfl (cRp _ _ _ (en_drop en_refl) (hrl _ _) hT)) ?_; rintro _ _ ⟨a, rfl, rfl⟩
  refine GO_q rfl rfl (ev_assign rfl) ?_
  refine GO_nil ?_
  have cS := fun M h => rcStep_ctr a 1 0 ⟨0, 9, 0, 9⟩ true tot L1 M 5 h (by omega) (by omega)
  rw [show min (Int.toNat 5) 1 = 1 from rfl, Nat.sub_self, Nat.zero_add] at cS
  have cI := fun M => rcIDs_ctr a 1 ⟨0, 9, 0, 9⟩ true tot L1 M (by omega)
  rw [hid2] at cI
  (repeat first | refine G_seq ?_ | refine G_skip ?_ | refine G_endblk ?_ | refine G_block ?_ | refine G_exit rfl ?_)
  refine G_region ?_
  refine GO_q rfl rfl (ev_move rfl) ?_
  refine GO_eff rfl rfl (eff_call rfl (Ctr.pick (by repeat' first | exact Pick.here | apply Pick.skip | apply Pick.app) (cS _ (by (repeat first | exact en_refl | apply en_drop | apply en_app) <;> fail)))) ?_; rintro _ _ ⟨rfl, rfl⟩
  refine GO_q rfl rfl (ev_move rfl) ?_
  refine GO_q rfl rfl (ev_extract rfl rfl) ?_
  refine GO_q rfl rfl (ev_extract rfl rfl) ?_
  refine GO_q rfl rfl (ev_assign rfl) ?_
  refine GO_q rfl rfl (ev_assign rfl) ?_
  refine GO_nil ?_
  (repeat first | refine G_seq ?_ | refine G_skip ?_ | refine G_endblk ?_ | refine G_block ?_ | refine G_exit rfl ?_)
  refine G_region ?_
  refine GO_q rfl rfl (ev_move rfl) ?_
  refine GO_eff rfl rfl (eff_call rfl (Ctr.pick (by repeat' first | exact Pick.here | apply Pick.skip | apply Pick.app) (cI _))) ?_; rintro _ _ ⟨B, e, rfl, hB, rfl⟩
  refine GO_q rfl rfl (ev_assign rfl) ?_
  refine GO_nil ?_
  obtain ⟨ab, rfl⟩ := hB (by simp)
  have hld : ∀ L', Ld (own 3 1 (some ⟨ab, 0, none⟩) 1 e (flat [(7 : Int)]) :: L') ⟨ab, 0 + 0 * 1, none⟩ (.int .i64 7) := fun L' => Ld.own rfl
  (repeat first | refine G_seq ?_ | refine G_skip ?_ | refine G_endblk ?_ | refine G_block ?_ | refine G_exit rfl ?_)
  refine G_region ?_
  refine GO_q rfl rfl (ev_move rfl) ?_
  refine GO_q rfl rfl (ev_eql rfl rfl) ?_
  refine GO_q rfl rfl (ev_move rfl) ?_
  refine GO_yes rfl rfl rfl rfl ?_
  refine GO_q rfl rfl (ev_move rfl) ?_
  refine GO_yes rfl rfl rfl rfl ?_
  refine GO_q rfl rfl (ev_eql rfl rfl) ?_
  refine GO_q rfl rfl (ev_pick_t rfl rfl rfl) ?_
  refine GO_q rfl rfl (ev_move rfl) ?_
  refine GO_yes rfl rfl rfl rfl ?_
  refine GO_q rfl rfl (ev_move rfl) ?_
  refine GO_q rfl rfl (ev_pick_t rfl rfl rfl) ?_
  refine GO_q rfl rfl (ev_move rfl) ?_
  refine GO_yes rfl rfl rfl rfl ?_
  refine GO_q rfl rfl (ev_move rfl) ?_
  refine GO_yes rfl rfl rfl rfl ?_
  refine GO_eff rfl rfl (eff_call rfl (Ctr.pick (by repeat' first | exact Pick.here | apply Pick.skip | apply Pick.app) (rcDone_ctr a 0 1 ⟨0, 9, 0, 9⟩ true tot L1 _))) ?_; rintro _ _ ⟨rfl, rfl⟩
  refine GO_q rfl rfl (ev_pick_t rfl rfl rfl) ?_
  refine GO_q rfl rfl (ev_move rfl) ?_
  refine GO_yes rfl rfl rfl rfl ?_
  refine GO_q rfl rfl (ev_move rfl) ?_
  refine GO_yes rfl rfl rfl rfl ?_
  refine GO_q rfl rfl (ev_len rfl) ?_
  refine GO_yes rfl rfl rfl rfl ?_
  refine GO_q rfl rfl (ev_eql rfl rfl) ?_
  refine GO_q rfl rfl (ev_pick_t rfl rfl rfl) ?_
  refine GO_q rfl rfl (ev_move rfl) ?_
  refine GO_yes rfl rfl rfl rfl ?_
  refine GO_q rfl rfl (ev_move rfl) ?_
  refine GO_yes rfl rfl rfl rfl ?_
  (first | refine GO_q rfl rfl (ev_indexAddrN rfl rfl (by first | omega | (simp; done) | (simp; omega))) ?_ | refine GO_q rfl rfl (ev_indexAddr rfl rfl (by first | omega | (simp; done) | (simp; omega)) (by first | omega | (simp; done) | (simp; omega))) ?_)
  refine GO_yes rfl rfl rfl rfl ?_
  refine GO_q rfl rfl (ev_load rfl (by repeat' first | exact hld _ | apply Ld.skip)) ?_
  refine GO_yes rfl rfl rfl rfl ?_
  refine GO_q rfl rfl (ev_eql rfl rfl) ?_
  refine GO_q rfl rfl (ev_pick_t rfl rfl rfl) ?_
  refine GO_q rfl rfl (ev_move rfl) ?_
  refine GO_yes rfl rfl rfl rfl ?_
  refine GO_q rfl rfl (ev_move rfl) ?_
  refine GO_yes rfl rfl rfl rfl ?_
  refine GO_eff rfl rfl (eff_buildSlice1 (by rfl) rfl rfl) ?_; rintro _ _ ⟨b50, rfl, rfl⟩
  refine GO_yes rfl rfl rfl rfl ?_
  refine GO_eff rfl rfl (eff_call rfl (cBd _ _ (hrl _ _) (by repeat' first | exact hT | apply TR.skip | apply TR.app))) ?_; rintro _ _ ⟨rfl, rfl⟩
  refine GO_yes rfl rfl rfl rfl ?_
  refine GO_q rfl rfl (ev_eql rfl rfl) ?_
  refine GO_q rfl rfl (ev_pick_t rfl rfl rfl) ?_
  refine GO_q rfl rfl (ev_assign rfl) ?_
  refine GO_nil ?_
  (repeat first | refine G_seq ?_ | refine G_skip ?_ | refine G_endblk ?_ | refine G_block ?_ | refine G_exit rfl ?_)
  exact G_ret (L' := L) rfl (.tmp rfl .nil) (by (repeat first | exact hF1 | apply en_drop | apply en_app) <;> fail) ⟨rfl, rfl⟩
theorem RtcurLess_ctr (A : Option Addr) (n c : Nat) (l : List Pt) (b : Bx) (D : Option Addr) (m d : Nat) (ds : List Int) (L : List HP) (hl : Rd L A n l) (hc : n ≤ c) (hc2 : c ≤ maxLen) (hd : Rd L D m ds) (hdc : m ≤ d) (hd2 : d ≤ maxLen) :
    Ctr Tryz.prog 4 #[.slice A n c, .agg #[.int .i64 b.x1, .int .i64 b.x2, .int .i64 b.y1, .int .i64 b.y2], .slice D m d] L fun v L' => v = .bool true ∧ L' = L := by
  have hl40 : (l.take 40).length ≤ 40 := List.length_take_le _ _
  have t1 : (l.take 40).take 40 = l.take 40 := by rw [List.take_take]; rfl
  obtain ⟨l1, g1⟩ : ∃ l1, l.take 40 = l1 := ⟨_, rfl⟩
  rw [g1] at hl40 t1
  have hd20 : (ds.take 20).length ≤ 20 := List.length_take_le _ _
  have t2 : (ds.take 20).take 20 = ds.take 20 := by rw [List.take_take]; rfl
  have cD := fun M (h : Rd M D m ds) => FewI_ctr D m d ds 20 M h hdc hd2 (by omega)
  obtain ⟨d1, g2⟩ : ∃ d1, ds.take 20 = d1 := ⟨_, rfl⟩
  rw [g2] at hd20 t2 cD
  unfold MadeC at cD
  have cFw := Few_ctr A n c l 40 L hl hc hc2 (by omega)
  rw [g1] at cFw
  refine Ctr_of (fn := Tryz.f4) (n := 59) Tryz.func4 rfl rfl rfl ?_
  intro g F
  (repeat first | refine G_seq ?_ | refine G_skip ?_ | refine G_endblk ?_ | refine G_block ?_ | refine G_exit rfl ?_)
  refine G_region ?_
  refine GO_eff rfl rfl (eff_box rfl) ?_; rintro _ _ ⟨b4, rfl, rfl⟩
  refine GO_q rfl rfl (ev_assign rfl) ?_
  refine GO_nil ?_
  (repeat first | refine G_seq ?_ | refine G_skip ?_ | refine G_endblk ?_ | refine G_block ?_ | refine G_exit rfl ?_)
  refine G_region ?_
  refine GO_q rfl rfl (ev_move rfl) ?_
  refine GO_eff rfl rfl (eff_call rfl (Ctr.frame [_, F] cFw (fun _ s => s))) ?_; rintro _ _ ⟨M1, ⟨A1, c1', N1, rfl, u1, u2, rfl, u3⟩, rfl⟩
  refine GO_q rfl rfl (ev_move rfl) ?_
  refine GO_eff rfl rfl (eff_call rfl (cD _ (by repeat' first | exact hd | apply Rd.skip | apply Rd.app))) ?_; rintro _ _ ⟨D1, de, rfl, hD1, ke1, ke2, rfl⟩
  refine GO_q rfl rfl (ev_assign rfl) ?_
  refine GO_q rfl rfl (ev_assign rfl) ?_
  refine GO_nil ?_
  have hML : ∀ h, sat (N1 ++ L) h → sat L h := en_app en_refl
  generalize N1 ++ L = M at *
  have cF := Few_ctr A1 _ c1' l1 40 M u3 u1 u2 (by omega)
  rw [t1] at cF
  have hrD : ∀ M, Rd (own 3 1 D1 d1.length de (flat d1) :: M) D1 d1.length d1 := fun M => Rc.own (flat_length _) hD1
  (repeat first | refine G_seq ?_ | refine G_skip ?_ | refine G_endblk ?_ | refine G_block ?_ | refine G_exit rfl ?_)
  refine G_region ?_
  refine GO_q rfl rfl (ev_move rfl) ?_
  refine GO_eff rfl rfl (eff_call rfl (Ctr.frame [_, _, _] cF (fun _ s => s))) ?_; rintro _ _ ⟨M3, ⟨A2, c2', N3, rfl, x1, x2, rfl, x3⟩, rfl⟩
  refine GO_eff rfl rfl (eff_call rfl (Ctr.frame [_, _, _] (RNewX_ctr A2 _ c2' l1 (N3 ++ M) x3 (by omega) x1) (fun _ s => s))) ?_; rintro _ _ ⟨M4, ⟨p, N4, rfl, rfl, hT0⟩, rfl⟩
  refine GO_q rfl rfl (ev_move rfl) ?_
  refine GO_q rfl rfl (ev_extract rfl rfl) ?_
  refine GO_q rfl rfl (ev_extract rfl rfl) ?_
  refine GO_q rfl rfl (ev_assign rfl) ?_
  refine GO_q rfl rfl (ev_assign rfl) ?_
  refine GO_nil ?_
  have u4 : Rd (N4 ++ (N3 ++ M)) A1 l1.length l1 := u3.app.app
  have hML2 : ∀ h, sat (N4 ++ (N3 ++ M)) h → sat L h := en_app (en_app hML)
  clear hML u3 cF cFw x3
  generalize N4 ++ (N3 ++ M) = M2 at *
  have cG := fun M h => RGood17_ctr A1 l1.length c1' l1 M h (by omega)
  by_cases h0 : newC l1 = 0
  · obtain ⟨t, T, At, ct, rfl, hT⟩ := hT0 h0
    rw [h0] at cG
    have hsl : (srtO Pt.less l1).length = l1.length := srtO_length l1
    have hid : srt ((begR b T).fnd b) = idsB b l1 := by rw [begR_fnd hT.o hT.a]; exact idsB_perm' (srtO_perm _)
    have hlv := lv_le6 hT.o (by omega)
    have hlk := begR_lk (b := b) hT.o hT.a
    have hfl := begR_fnd_len (b := b) hT.good
    have hsz : T.sz = l1.length := by have : T.sz = _ := hT.o.len; omega
    have e1 : fndR b (begs b [(⟨t, T, At, ct, srtO Pt.less l1⟩ : RTr)]) = (begR b T).fnd b := by simp [fndR, begs]
    have e2 : lkR b (begs b [(⟨t, T, At, ct, srtO Pt.less l1⟩ : RTr)]) = (begR b T).lk b := by simp [lkR, begs]
    have hrl : ∀ X M, Rd (blk X 28 [.pointer (some ⟨t, 0, none⟩)] :: M) (some ⟨X, 0, none⟩) 1 [(⟨t, T, At, ct, srtO Pt.less l1⟩ : RTr)] := fun X M => Rc.blk rfl
    have cRp := fun (A' : Option Addr) (M Lb : List HP) (hLb : ∀ h, sat M h → sat Lb h) (hr : Rd M A' 1 [(⟨t, T, At, ct, srtO Pt.less l1⟩ : RTr)]) (ht : TR Lb t T At ct (srtO Pt.less l1)) => rcReport_ctr b A' 1 1 [⟨t, T, At, ct, srtO Pt.less l1⟩] M Lb hLb hr (by omega) (fun x hx => by simp at hx; subst hx; exact ht) (fun x hx => by simp at hx; subst hx; simp only; omega) (by rw [e2]; omega)
    rw [e1, e2] at cRp
    have cQ := fun (sb : Nat) (M : List HP) h h' => (RReport_ctr0 sb A1 c1' 0 b l1 M h h' (by omega)).y
    rw [← idsB_hits'] at cQ
    have hil : (idsB b l1).length ≤ 60 := by
      unfold idsB; rw [srtI_len, List.length_map]
      have := List.length_filter_le (inB b) l1
      omega
    generalize (begR b T).fnd b = tot at *
    generalize (begR b T).lk b = r at *
    (repeat first | refine G_seq ?_ | refine G_skip ?_ | refine G_endblk ?_ | refine G_block ?_ | refine G_exit rfl ?_)
    refine G_region ?_
    refine GO_q rfl rfl (ev_move rfl) ?_
    refine GO_eff rfl rfl (eff_call rfl (cG _ (by repeat' first | exact u4 | apply Rd.skip))) ?_; rintro _ _ ⟨rfl, rfl⟩
    refine GO_q rfl rfl (ev_neq rfl rfl) ?_
    refine GO_nil ?_
    (repeat first | refine G_seq ?_ | refine G_skip ?_ | refine G_endblk ?_ | refine G_block ?_ | refine G_exit rfl ?_)
    refine G_cond_f rfl rfl ?_
    (repeat first | refine G_seq ?_ | refine G_skip ?_ | refine G_endblk ?_ | refine G_block ?_ | refine G_exit rfl ?_)
    refine G_region ?_
    refine GO_q rfl rfl (ev_loadN rfl (by repeat' first | exact LdN.blk rfl | assumption | apply LdN.skip | apply LdN.app)) ?_
    refine GO_q rfl rfl (ev_move rfl) ?_
    refine GO_eff rfl rfl (eff_buildSlice1 (by rfl) rfl rfl) ?_; rintro _ _ ⟨b31, rfl, rfl⟩
    refine GO_eff rfl rfl (eff_call rfl (cRp _ _ M2 (by (repeat first | exact en_refl | apply en_drop | apply en_app) <;> fail) (hrl _ _) hT)) ?_; rintro _ _ ⟨a, rfl, rfl⟩
    refine GO_q rfl rfl (ev_assign rfl) ?_
    refine GO_nil ?_
    have cS := fun M h => rcStep_ctr a r 0 b true tot M2 M 1000 h (by omega) (by omega)
    rw [show min (Int.toNat 1000) r = r from by have : Int.toNat 1000 = 1000 := rfl; omega, Nat.sub_self, Nat.zero_add] at cS
    have cI := fun M => rcIDs_ctr a r b true tot M2 M (by omega)
    have cLs := fun (D : Option Addr) (m d : Nat) M (h : Rd M D m d1) (hm : m ≤ 100000) => rcLess_ctr a r b true tot M2 M (by omega) D m d d1 h hm
    rw [show srt (kp true tot) = idsB b l1 from hid] at cI cLs
    have hll := lessI_len d1 (idsB b l1)
    have cFd := fun M (h : Rd M D1 d1.length d1) => FewI_ctr D1 d1.length de d1 20 M h ke1 ke2 (by omega)
    rw [t2] at cFd
    unfold MadeC at cFd
    (repeat first | refine G_seq ?_ | refine G_skip ?_ | refine G_endblk ?_ | refine G_block ?_ | refine G_exit rfl ?_)
    refine G_region ?_
    refine GO_q rfl rfl (ev_move rfl) ?_
    refine GO_eff rfl rfl (eff_call rfl (Ctr.pick (by repeat' first | exact Pick.here | apply Pick.skip | apply Pick.app) (cS _ (by (repeat first | exact en_refl | apply en_drop | apply en_app) <;> fail)))) ?_; rintro _ _ ⟨rfl, rfl⟩
    refine GO_nil ?_
    (repeat first | refine G_seq ?_ | refine G_skip ?_ | refine G_endblk ?_ | refine G_block ?_ | refine G_exit rfl ?_)
    refine G_region ?_
    refine GO_q rfl rfl (ev_move rfl) ?_
    refine GO_q rfl rfl (ev_build rfl rfl) ?_
    refine GO_eff rfl rfl (eff_box rfl) ?_; rintro _ _ ⟨b37, rfl, rfl⟩
    refine GO_q rfl rfl (ev_assign rfl) ?_
    refine GO_nil ?_
    (repeat first | refine G_seq ?_ | refine G_skip ?_ | refine G_endblk ?_ | refine G_block ?_ | refine G_exit rfl ?_)
    refine G_draw (.q 0 (.q 1 (.q 4 (.q 5 (.q 7 (.e 2 (.e 3 (.e 6 (.e 8 (.e 9 (.q 10 (.q 11 (.q 13 (.q 14 (.e 12 (.e 15 (.e 16 (.q 17 (.q 18 (.e 19 (.q 20 (.q 21 .nil)))))))))))))))))))))) (by kernel_rfl) (by kernel_rfl) ?_
    refine RS_m retB_noPanic rfl rfl rfl rfl (ev_move rfl) ?_
    refine RS_m retB_noPanic rfl rfl rfl rfl (ev_move rfl) ?_
    refine RS_m retB_noPanic rfl rfl rfl rfl (ev_move rfl) ?_
    refine RS_q retB_noPanic rfl rfl rfl rfl (ev_loadN rfl (by repeat' first | exact LdN.blk rfl | assumption | apply LdN.skip | apply LdN.app)) ?_
    refine RS_m retB_noPanic rfl rfl rfl rfl (ev_move rfl) ?_
    refine RS_e (RE_eff rfl rfl rfl (eff_call rfl (cFd _ (by repeat' first | exact hrD _ | apply Rd.skip))) ?_); rintro _ _ ⟨D2, e3, rfl, hD2, ke3, ke4, rfl⟩; refine ⟨_, fun _ s => s, (by first | ((repeat first | exact fun _ s => s | apply en_keep | apply en_drop | apply en_app) <;> fail) | ((repeat first | exact en_refl | (apply en_blk; focus ((repeat' first | exact Pick.here | apply Pick.skip | apply Pick.app); done); focus rfl) | (apply en_own; focus ((repeat' first | exact Pick.here | apply Pick.skip | apply Pick.app); done); focus rfl) | (apply en_pick; focus ((repeat' first | exact Pick.here | apply Pick.skip | apply Pick.app); done)) | apply en_drop | apply en_app) <;> fail)), ?_⟩
    refine RS_e (RE_eff rfl rfl rfl (eff_call rfl (Ctr.pick (by repeat' first | exact Pick.here | apply Pick.skip | apply Pick.app) (cLs D2 d1.length e3 _ (by repeat' first | exact Rc.own (flat_length _) hD2 | apply Rd.skip) (by omega)))) ?_); rintro _ _ ⟨B1, f1, rfl, hB1, rfl⟩; refine ⟨_, fun _ s => s, (by first | ((repeat first | exact fun _ s => s | apply en_keep | apply en_drop | apply en_app) <;> fail) | ((repeat first | exact en_refl | (apply en_blk; focus ((repeat' first | exact Pick.here | apply Pick.skip | apply Pick.app); done); focus rfl) | (apply en_own; focus ((repeat' first | exact Pick.here | apply Pick.skip | apply Pick.app); done); focus rfl) | (apply en_pick; focus ((repeat' first | exact Pick.here | apply Pick.skip | apply Pick.app); done)) | apply en_drop | apply en_app) <;> fail)), ?_⟩
    refine RS_e (RE_eff rfl rfl rfl (eff_call rfl (cQ b37 _ (by repeat' first | exact LdN.blk rfl | assumption | apply LdN.skip | apply LdN.app) (by repeat' first | exact u4 | apply Rd.skip))) ?_); rintro _ _ ⟨Y, A7, c7, rfl, j1, j2, j3, rfl⟩; refine ⟨_, fun _ s => s, (by first | ((repeat first | exact fun _ s => s | apply en_keep | apply en_drop | apply en_app) <;> fail) | ((repeat first | exact en_refl | (apply en_blk; focus ((repeat' first | exact Pick.here | apply Pick.skip | apply Pick.app); done); focus rfl) | (apply en_own; focus ((repeat' first | exact Pick.here | apply Pick.skip | apply Pick.app); done); focus rfl) | (apply en_pick; focus ((repeat' first | exact Pick.here | apply Pick.skip | apply Pick.app); done)) | apply en_drop | apply en_app) <;> fail)), ?_⟩
    refine RS_e (RE_eff rfl rfl rfl (eff_call rfl (RLess18_ctr A7 D1 _ c7 _ de (idsB b l1) d1 _ (j3 _) (by omega) (by repeat' first | exact hrD _ | apply Rd.skip) (by omega))) ?_); rintro _ _ ⟨B2, f2, rfl, hB2, kf1, kf2, rfl⟩; refine ⟨_, fun _ s => s, (by first | ((repeat first | exact fun _ s => s | apply en_keep | apply en_drop | apply en_app) <;> fail) | ((repeat first | exact en_refl | (apply en_blk; focus ((repeat' first | exact Pick.here | apply Pick.skip | apply Pick.app); done); focus rfl) | (apply en_own; focus ((repeat' first | exact Pick.here | apply Pick.skip | apply Pick.app); done); focus rfl) | (apply en_pick; focus ((repeat' first | exact Pick.here | apply Pick.skip | apply Pick.app); done)) | apply en_drop | apply en_app) <;> fail)), ?_⟩
    refine RS_e (RE_eff rfl rfl rfl (eff_call rfl (Same_ctr B1 B2 _ _ f1 f2 _ _ _ (by repeat' first | exact Rc.own (flat_length _) hB1 | apply Rd.skip) (Rc.own (flat_length _) hB2) (by omega))) ?_); rintro _ _ ⟨rfl, rfl⟩; refine ⟨_, fun _ s => s, (by first | ((repeat first | exact fun _ s => s | apply en_keep | apply en_drop | apply en_app) <;> fail) | ((repeat first | exact en_refl | (apply en_blk; focus ((repeat' first | exact Pick.here | apply Pick.skip | apply Pick.app); done); focus rfl) | (apply en_own; focus ((repeat' first | exact Pick.here | apply Pick.skip | apply Pick.app); done); focus rfl) | (apply en_pick; focus ((repeat' first | exact Pick.here | apply Pick.skip | apply Pick.app); done)) | apply en_drop | apply en_app) <;> fail)), ?_⟩
    refine RS_m retB_noPanic rfl rfl rfl rfl (ev_move rfl) ?_
    refine RS_m_yes retB_noPanic rfl rfl rfl rfl ⟨_, rfl, (decide_eq_true rfl)⟩ rfl (ev_move rfl) ?_
    refine RS_m_yes retB_noPanic rfl rfl rfl rfl ⟨_, rfl, (decide_eq_true rfl)⟩ rfl (ev_move rfl) ?_
    refine RS_q_yes retB_noPanic rfl rfl rfl rfl ⟨_, rfl, (decide_eq_true rfl)⟩ rfl (ev_loadN rfl (by repeat' first | exact LdN.blk rfl | assumption | apply LdN.skip | apply LdN.app)) ?_
    refine RS_e (RE_eff_yes rfl rfl rfl ⟨_, rfl, (decide_eq_true rfl)⟩ rfl (eff_call rfl (Ctr.pick (by repeat' first | exact Pick.here | apply Pick.skip | apply Pick.app) (cI _))) ?_); rintro _ _ ⟨B3, f3, rfl, hB3, rfl⟩; refine ⟨_, fun _ s => s, (by first | ((repeat first | exact fun _ s => s | apply en_keep | apply en_drop | apply en_app) <;> fail) | ((repeat first | exact en_refl | (apply en_blk; focus ((repeat' first | exact Pick.here | apply Pick.skip | apply Pick.app); done); focus rfl) | (apply en_own; focus ((repeat' first | exact Pick.here | apply Pick.skip | apply Pick.app); done); focus rfl) | (apply en_pick; focus ((repeat' first | exact Pick.here | apply Pick.skip | apply Pick.app); done)) | apply en_drop | apply en_app) <;> fail)), ?_⟩
    refine RS_e (RE_eff_yes rfl rfl rfl ⟨_, rfl, (decide_eq_true rfl)⟩ rfl (eff_call rfl (cQ b37 _ (by repeat' first | exact LdN.blk rfl | assumption | apply LdN.skip | apply LdN.app) (by repeat' first | exact u4 | apply Rd.skip))) ?_); rintro _ _ ⟨Y2, A8, c8, rfl, i1, i2, i3, rfl⟩; refine ⟨_, fun _ s => s, (by first | ((repeat first | exact fun _ s => s | apply en_keep | apply en_drop | apply en_app) <;> fail) | ((repeat first | exact en_refl | (apply en_blk; focus ((repeat' first | exact Pick.here | apply Pick.skip | apply Pick.app); done); focus rfl) | (apply en_own; focus ((repeat' first | exact Pick.here | apply Pick.skip | apply Pick.app); done); focus rfl) | (apply en_pick; focus ((repeat' first | exact Pick.here | apply Pick.skip | apply Pick.app); done)) | apply en_drop | apply en_app) <;> fail)), ?_⟩
    refine RS_e (RE_eff_yes rfl rfl rfl ⟨_, rfl, (decide_eq_true rfl)⟩ rfl (eff_call rfl (Same_ctr B3 A8 _ _ f3 c8 _ _ _ (by repeat' first | exact Rc.own (flat_length _) hB3 | apply Rd.skip) (i3 _) (by omega))) ?_); rintro _ _ ⟨rfl, rfl⟩; refine ⟨_, fun _ s => s, (by first | ((repeat first | exact fun _ s => s | apply en_keep | apply en_drop | apply en_app) <;> fail) | ((repeat first | exact en_refl | (apply en_blk; focus ((repeat' first | exact Pick.here | apply Pick.skip | apply Pick.app); done); focus rfl) | (apply en_own; focus ((repeat' first | exact Pick.here | apply Pick.skip | apply Pick.app); done); focus rfl) | (apply en_pick; focus ((repeat' first | exact Pick.here | apply Pick.skip | apply Pick.app); done)) | apply en_drop | apply en_app) <;> fail)), ?_⟩
    refine RS_m retB_noPanic rfl rfl rfl rfl (ev_pick_t rfl (decide_eq_true rfl) rfl) ?_
    refine RS_m retB_noPanic rfl rfl rfl rfl (ev_move rfl) ?_
    refine RS_e (RE_eff_yes rfl rfl rfl ⟨_, rfl, (decide_eq_true rfl)⟩ rfl (eff_call rfl (lives18_ctr _)) ?_); rintro _ _ ⟨rfl, rfl⟩; refine ⟨_, fun _ s => s, (by first | ((repeat first | exact fun _ s => s | apply en_keep | apply en_drop | apply en_app) <;> fail) | ((repeat first | exact en_refl | (apply en_blk; focus ((repeat' first | exact Pick.here | apply Pick.skip | apply Pick.app); done); focus rfl) | (apply en_own; focus ((repeat' first | exact Pick.here | apply Pick.skip | apply Pick.app); done); focus rfl) | (apply en_pick; focus ((repeat' first | exact Pick.here | apply Pick.skip | apply Pick.app); done)) | apply en_drop | apply en_app) <;> fail)), ?_⟩
    refine RS_m retB_noPanic rfl rfl rfl rfl (ev_pick_t rfl (decide_eq_true rfl) rfl) ?_
    refine RS_m retB_noPanic rfl rfl rfl rfl (ev_assign rfl) ?_
    refine RS_nil ?_
    all_goals
      (repeat first | refine G_seq ?_ | refine G_skip ?_ | refine G_endblk ?_ | refine G_block ?_ | refine G_exit rfl ?_)
      exact G_ret (L' := L) rfl (.tmp rfl .nil) (by (repeat first | exact en_keep hML2 | apply en_drop | apply en_app) <;> fail) ⟨rfl, rfl⟩
  · (repeat first | refine G_seq ?_ | refine G_skip ?_ | refine G_endblk ?_ | refine G_block ?_ | refine G_exit rfl ?_)
    refine G_region ?_
    refine GO_q rfl rfl (ev_move rfl) ?_
    refine GO_eff rfl rfl (eff_call rfl (cG _ (by repeat' first | exact u4 | apply Rd.skip))) ?_; rintro _ _ ⟨rfl, rfl⟩
    refine GO_q rfl rfl (ev_neq rfl rfl) ?_
    refine GO_nil ?_
    (repeat first | refine G_seq ?_ | refine G_skip ?_ | refine G_endblk ?_ | refine G_block ?_ | refine G_exit rfl ?_)
    refine G_cond_t rfl (by simpa using h0) ?_
    (repeat first | refine G_seq ?_ | refine G_skip ?_ | refine G_endblk ?_ | refine G_block ?_ | refine G_exit rfl ?_)
    refine G_region ?_
    refine GO_q rfl rfl (ev_move rfl) ?_
    refine GO_q rfl rfl (ev_neq rfl rfl) ?_
    refine GO_q rfl rfl (ev_move rfl) ?_
    refine GO_yes rfl rfl rfl (by simpa using h0) ?_
    refine GO_eff rfl rfl (eff_call rfl (lives18_ctr _)) ?_; rintro _ _ ⟨rfl, rfl⟩
    refine GO_q rfl rfl (ev_pick_t rfl (by simpa using h0) rfl) ?_
    refine GO_q rfl rfl (ev_assign rfl) ?_
    refine GO_nil ?_
    (repeat first | refine G_seq ?_ | refine G_skip ?_ | refine G_endblk ?_ | refine G_block ?_ | refine G_exit rfl ?_)
    exact G_ret (L' := L) rfl (.tmp rfl .nil) (by (repeat first | exact en_keep hML2 | apply en_drop | apply en_app) <;> fail) ⟨rfl, rfl⟩
end Go.Proofs.YtejcamnnfmphkaaGreat
/- The law RtcurFinds. -/
namespace Go.Proofs.YtejcamnnfmphkaaGreat
attribute [local irreducible] sat
open Go.RowKit
set_option linter.unusedVariables false
set_option linter.unusedSimpArgs false
set_option maxRecDepth 100000

end Go.Proofs.YtejcamnnfmphkaaGreat
/- The frame of a law, for an argument that is a slice of octets. -/
namespace Go.Proofs.YtejcamnnfmphkaaGreat
open Go.ChangeShapes Go.WideShapes Go.ChangeAt Go.RowKit Go.Deep
set_option linter.unusedVariables false

section
variable {H : Type} {enc : TypeId × Value → H} {P : Program}
/-- Bytes, as they lie in cells. -/
def octets (ns : List Nat) : List Value := ns.map fun n : Nat => Value.int .u8 (n : Int)
end
end Go.Proofs.YtejcamnnfmphkaaGreat
/- The laws RtcurFinds and RtcurLess, out of their walks. -/
namespace Go.Proofs.YtejcamnnfmphkaaGreat
open Go.RowKit
set_option linter.unusedVariables false
set_option linter.unusedSimpArgs false
set_option maxRecDepth 100000

theorem rtcurLess_walk (A : Option Addr) (n c : Nat) (ns : List Int) (b0 b1 b2 b3 : Int) (T : Option Addr) (m d : Nat) (ts : List Int) (w : World) (hc : n ≤ c) (hc2 : c ≤ maxLen) (h1 : Reads w 3 A n (ints ns)) (hd : m ≤ d) (hd2 : d ≤ maxLen) (h2 : Reads w 1 T m (ints ts)) :
    Calls Tryz.prog 4 #[.slice A n c, .agg #[.int .i64 b0, .int .i64 b1, .int .i64 b2, .int .i64 b3], .slice T m d] w fun e w' => e = .returned (.bool true) ∧ Below w.heap.size w w' := by
  obtain ⟨l, hl⟩ := rd_pts h1
  refine law_of_ctr (RtcurLess_ctr A n c l ⟨b0, b1, b2, b3⟩ T m d ts _ hl hc hc2 ?_ hd hd2)
  unfold Rd
  have e : flat ts = ints ts := by rw [flat_int]; rfl
  rw [e]
  exact rc_of_reads (by decide) h2
end Go.Proofs.YtejcamnnfmphkaaGreat
