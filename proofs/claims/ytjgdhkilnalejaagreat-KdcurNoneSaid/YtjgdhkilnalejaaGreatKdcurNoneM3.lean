/- Texts of the law KdcurNone, one behind the other. -/
import Derived.Test.YtjgdhkilnalejaaGreatKdcurNoneM2
import Derived.Shelf.Sort.Plain
import Derived.Shelf.Slices.In.SortNone
import Derived.Test.YtjgdhkilnalejaaGreatProg
import Derived.Test.YtjgdhkilnalejaaGreatKdcurNoneM1
import Derived.RangeFuncRecord
import Derived.RangeFuncIn
import Derived.RangeFuncLeaves
/- A tree of points by two orders in turn: find, has. -/
namespace Go.Proofs.YtjgdhkilnalejaaGreat
attribute [local irreducible] sat
open Go.RowKit
set_option linter.unusedVariables false
set_option linter.unusedSimpArgs false
set_option maxRecDepth 100000

theorem KIn.fnd {L : List HP} {q : Pt} : ∀ {T : KT} {lv : Nat}, KIn L T → KIn L (T.fnd q lv)
  | .nil, _, _ => trivial
  | .node b p gn m x lo hi, lv, h => by
    unfold KT.fnd
    split
    · exact h
    · split
      · exact KIn.fnd h.2.1
      · exact KIn.fnd h.2.2
theorem KT.fnd_lo {b : Nat} {p q : Pt} {gn : Bool} {m : Nat} {x : Bx} {lo hi : KT} {lv : Nat} (h1 : p ≠ q) (h2 : ahd lv q p = true) : KT.fnd q lv (.node b p gn m x lo hi) = lo.fnd q (lv + 1) := by
  conv => lhs; unfold KT.fnd
  rw [if_neg h1, if_pos h2]
theorem KT.fnd_hi {b : Nat} {p q : Pt} {gn : Bool} {m : Nat} {x : Bx} {lo hi : KT} {lv : Nat} (h1 : p ≠ q) (h2 : ahd lv q p = false) : KT.fnd q lv (.node b p gn m x lo hi) = hi.fnd q (lv + 1) := by
  conv => lhs; unfold KT.fnd
  rw [if_neg h1, if_neg (by rw [h2]; simp)]
theorem kfind_ctr (t : Nat) (T0 : KT) (q : Pt) (L : List HP) (h : Ld L ⟨t, 0 + 0, none⟩ (.pointer T0.addr)) (hin : KIn L T0) (hd : T0.depth ≤ 500000) :
    Ctr Tryz.prog 44 #[.pointer (some ⟨t, 0, none⟩), q.v] L fun v L' => v = .pointer (T0.fnd q 0).addr ∧ L' = L := by
  refine Ctr_of (fn := Tryz.f44) (n := 33) Tryz.func44 rfl rfl rfl ?_
  intro g F
  (repeat first | refine G_seq ?_ | refine G_skip ?_ | refine G_endblk ?_ | refine G_block ?_ | refine G_exit rfl ?_)
  refine G_region ?_
  refine GO_eff rfl rfl (eff_box rfl) ?_; rintro _ _ ⟨b3, rfl, rfl⟩
  refine GO_q rfl rfl (ev_assign rfl) ?_
  refine GO_nil ?_
  (repeat first | refine G_seq ?_ | refine G_skip ?_ | refine G_endblk ?_ | refine G_block ?_ | refine G_exit rfl ?_)
  refine G_region ?_
  refine GO_q rfl rfl (ev_move rfl) ?_
  (first | refine GO_q rfl rfl (ev_nilCheck rfl) ?_ | refine GO_q rfl rfl (ev_nilCheckF (by simp) rfl) ?_)
  refine GO_q rfl rfl (ev_fieldAddr rfl) ?_
  refine GO_q rfl rfl (ev_load rfl (by repeat' first | exact Ld.blk rfl | assumption | apply Ld.skip | apply Ld.app)) ?_
  refine GO_q rfl rfl (ev_assign rfl) ?_
  refine GO_nil ?_
  (repeat first | refine G_seq ?_ | refine G_skip ?_ | refine G_endblk ?_ | refine G_block ?_ | refine G_exit rfl ?_)
  refine G_region ?_
  refine GO_q rfl rfl (ev_assign rfl) ?_
  refine GO_nil ?_
  (repeat first | refine G_seq ?_ | refine G_skip ?_ | refine G_endblk ?_ | refine G_block ?_ | refine G_exit rfl ?_)
  refine G_loop (ι := KT × Nat) (fun i => [(3, .pointer (some ⟨b3, 0, none⟩)), (5, .pointer i.1.addr), (6, .int .i64 (i.2 : Nat))]) (fun _ => blk b3 58 [.int .i64 q.id, .int .i64 q.x, .int .i64 q.y] :: F :: L) (fun i => i.1.fnd q i.2 = T0.fnd q 0 ∧ KIn L i.1 ∧ i.2 + i.1.depth ≤ 500000) (fun i => i.1.depth) (T0, 0) ⟨rfl, hin, by simpa using hd⟩ ⟨rfl, rfl, rfl, trivial⟩ (by (repeat first | exact en_refl | (apply en_blk; focus ((repeat' first | exact Pick.here | apply Pick.skip | apply Pick.app); done); focus rfl) | (apply en_own; focus ((repeat' first | exact Pick.here | apply Pick.skip | apply Pick.app); done); focus rfl) | (apply en_pick; focus ((repeat' first | exact Pick.here | apply Pick.skip | apply Pick.app); done)) | apply en_drop | apply en_app) <;> fail) ?_
  rintro ⟨T, lv⟩ ⟨e1, e2, e3⟩
  cases T with
  | nil =>
    rw [← e1]
    (repeat first | refine G_seq ?_ | refine G_skip ?_ | refine G_endblk ?_ | refine G_block ?_ | refine G_exit rfl ?_)
    refine G_draw (.q 0 (.q 1 (.q 2 (.q 3 (.q 4 (.q 5 (.q 6 (.q 7 (.q 8 (.q 9 .nil)))))))))) (by kernel_rfl) (by kernel_rfl) ?_
    refine RS_m retB_noPanic rfl rfl rfl rfl (ev_move rfl) ?_
    (first | refine RS_m retB_noPanic rfl rfl rfl rfl (ev_neqNil rfl rfl) ?_ | refine RS_m retB_noPanic rfl rfl rfl rfl (ev_neqPtr rfl rfl) ?_)
    refine RS_m retB_noPanic rfl rfl rfl rfl (ev_move rfl) ?_
    refine RS_q_no retB_noPanic rfl rfl rfl ⟨_, rfl, rfl⟩ rfl ?_
    refine RS_q_no retB_noPanic rfl rfl rfl ⟨_, rfl, rfl⟩ rfl ?_
    refine RS_q_no retB_noPanic rfl rfl rfl ⟨_, rfl, rfl⟩ rfl ?_
    refine RS_q_no retB_noPanic rfl rfl rfl ⟨_, rfl, rfl⟩ rfl ?_
    refine RS_q_no retB_noPanic rfl rfl rfl ⟨_, rfl, rfl⟩ rfl ?_
    refine RS_q_no retB_noPanic rfl rfl rfl ⟨_, rfl, rfl⟩ rfl ?_
    refine RS_m retB_noPanic rfl rfl rfl rfl (ev_pick_f rfl rfl rfl) ?_
    refine RS_nil ?_
    (repeat first | refine G_seq ?_ | refine G_skip ?_ | refine G_endblk ?_ | refine G_block ?_ | refine G_exit rfl ?_)
    refine G_cond_f rfl rfl ?_
    (repeat first | refine G_seq ?_ | refine G_skip ?_ | refine G_endblk ?_ | refine G_block ?_ | refine G_exit rfl ?_)
    refine G_region ?_
    refine GO_q rfl rfl (ev_move rfl) ?_
    refine GO_q rfl rfl (ev_assign rfl) ?_
    refine GO_nil ?_
    (repeat first | refine G_seq ?_ | refine G_skip ?_ | refine G_endblk ?_ | refine G_block ?_ | refine G_exit rfl ?_)
    refine G_ret rfl (.tmp rfl .nil) (by (repeat first | exact fun _ s => s | apply en_keep | apply en_drop | apply en_app) <;> fail) ⟨rfl, rfl⟩
  | node b p gn m x lo hi =>
    obtain ⟨q1, q2, q3, q4, q5, q6, q7, q8, q9, q10⟩ := e2.f
    simp only [KT.depth] at e3
    (repeat first | refine G_seq ?_ | refine G_skip ?_ | refine G_endblk ?_ | refine G_block ?_ | refine G_exit rfl ?_)
    refine G_draw (.q 0 (.q 1 (.q 2 (.q 3 (.q 4 (.q 5 (.q 6 (.q 7 (.q 8 (.q 9 .nil)))))))))) (by kernel_rfl) (by kernel_rfl) ?_
    refine RS_m retB_noPanic rfl rfl rfl rfl (ev_move rfl) ?_
    (first | refine RS_m retB_noPanic rfl rfl rfl rfl (ev_neqNil rfl rfl) ?_ | refine RS_m retB_noPanic rfl rfl rfl rfl (ev_neqPtr rfl rfl) ?_)
    refine RS_m retB_noPanic rfl rfl rfl rfl (ev_move rfl) ?_
    refine RS_m_yes retB_noPanic rfl rfl rfl rfl ⟨_, rfl, rfl⟩ rfl (ev_move rfl) ?_
    (first | refine RS_m_yes retB_noPanic rfl rfl rfl rfl ⟨_, rfl, rfl⟩ rfl (ev_nilCheck rfl) ?_ | refine RS_m_yes retB_noPanic rfl rfl rfl rfl ⟨_, rfl, rfl⟩ rfl (ev_nilCheckF (by simp) rfl) ?_)
    refine RS_m_yes retB_noPanic rfl rfl rfl rfl ⟨_, rfl, rfl⟩ rfl (ev_fieldAddr rfl) ?_
    refine RS_q_yes retB_noPanic rfl rfl rfl rfl ⟨_, rfl, rfl⟩ rfl (ev_loadN rfl (by repeat' first | exact LdN.blk rfl | assumption | apply LdN.skip | apply LdN.app)) ?_
    refine RS_q_yes retB_noPanic rfl rfl rfl rfl ⟨_, rfl, rfl⟩ rfl (ev_loadN rfl (by repeat' first | exact LdN.blk rfl | assumption | apply LdN.skip | apply LdN.app)) ?_
    refine RS_m_yes retB_noPanic rfl rfl rfl rfl ⟨_, rfl, rfl⟩ rfl (ev_neqS rfl rfl rfl rfl rfl rfl) ?_
    refine RS_m retB_noPanic rfl rfl rfl rfl (ev_pick_t rfl rfl rfl) ?_
    refine RS_nil ?_
    all_goals
      (repeat first | refine G_seq ?_ | refine G_skip ?_ | refine G_endblk ?_ | refine G_block ?_ | refine G_exit rfl ?_)
      refine G_cond rfl (fun h1 => ?_) (fun h1 => ?_)
      · have hne : p ≠ q := fun e => h1 (by rw [e])
        have hs := side_ctr b p q lv
        cases hq : ahd lv q p with
        | true =>
          rw [hq] at hs
          (repeat first | refine G_seq ?_ | refine G_skip ?_ | refine G_endblk ?_ | refine G_block ?_ | refine G_exit rfl ?_)
          refine G_draw (.q 0 (.q 1 (.q 2 (.q 3 (.q 5 (.q 6 (.e 4 (.q 7 (.q 8 (.q 9 .nil)))))))))) (by kernel_rfl) (by kernel_rfl) ?_
          refine RS_m retB_noPanic rfl rfl rfl rfl (ev_move rfl) ?_
          refine RS_m retB_noPanic rfl rfl rfl rfl (ev_move rfl) ?_
          refine RS_q retB_noPanic rfl rfl rfl rfl (ev_loadN rfl (by repeat' first | exact LdN.blk rfl | assumption | apply LdN.skip | apply LdN.app)) ?_
          refine RS_m retB_noPanic rfl rfl rfl rfl (ev_move rfl) ?_
          (first | refine RS_m retB_noPanic rfl rfl rfl rfl (ev_nilCheck rfl) ?_ | refine RS_m retB_noPanic rfl rfl rfl rfl (ev_nilCheckF (by simp) rfl) ?_)
          refine RS_m retB_noPanic rfl rfl rfl rfl (ev_fieldAddr rfl) ?_
          refine RS_e (RE_eff rfl rfl rfl (eff_call rfl (hs _ q1.skip.skip (by omega))) ?_); rintro _ _ ⟨rfl, rfl⟩; refine ⟨_, fun _ s => s, (by first | ((repeat first | exact fun _ s => s | apply en_keep | apply en_drop | apply en_app) <;> fail) | ((repeat first | exact en_refl | (apply en_blk; focus ((repeat' first | exact Pick.here | apply Pick.skip | apply Pick.app); done); focus rfl) | (apply en_own; focus ((repeat' first | exact Pick.here | apply Pick.skip | apply Pick.app); done); focus rfl) | (apply en_pick; focus ((repeat' first | exact Pick.here | apply Pick.skip | apply Pick.app); done)) | apply en_drop | apply en_app) <;> fail)), ?_⟩
          refine RS_m retB_noPanic rfl rfl rfl rfl (ev_indexAddrA rfl rfl (by first | omega | (simp; done) | (simp; omega)) (by first | omega | (simp; done) | (simp; omega))) ?_
          refine RS_q retB_noPanic rfl rfl rfl rfl (ev_load rfl (by repeat' first | exact Ld.blk rfl | assumption | apply Ld.skip | apply Ld.app)) ?_
          refine RS_m retB_noPanic rfl rfl rfl rfl (ev_assign rfl) ?_
          refine RS_nil ?_
          all_goals
            (repeat first | refine G_seq ?_ | refine G_skip ?_ | refine G_endblk ?_ | refine G_block ?_ | refine G_exit rfl ?_)
            refine G_region ?_
            refine GO_q rfl rfl (ev_move rfl) ?_
            (first | refine GO_q rfl rfl (ev_addN (q := 1) rfl rfl (by first | omega | (simp; done) | (simp; omega))) ?_ | refine GO_q rfl rfl (ev_add rfl rfl (by first | omega | (simp; done) | (simp; omega))) ?_)
            refine GO_q rfl rfl (ev_assign rfl) ?_
            refine GO_nil ?_
            (repeat first | refine G_seq ?_ | refine G_skip ?_ | refine G_endblk ?_ | refine G_block ?_ | refine G_exit rfl ?_)
            refine G_round (lo, lv + 1) ⟨?_, q9, ?_⟩ ?_ ⟨rfl, rfl, rfl, trivial⟩ (by (repeat first | exact en_refl | (apply en_blk; focus ((repeat' first | exact Pick.here | apply Pick.skip | apply Pick.app); done); focus rfl) | (apply en_own; focus ((repeat' first | exact Pick.here | apply Pick.skip | apply Pick.app); done); focus rfl) | (apply en_pick; focus ((repeat' first | exact Pick.here | apply Pick.skip | apply Pick.app); done)) | apply en_drop | apply en_app) <;> fail)
            · rw [← e1]; exact (KT.fnd_lo hne hq).symm
            · show lv + 1 + lo.depth ≤ 500000; omega
            · show lo.depth < max lo.depth hi.depth + 1; omega
        | false =>
          rw [hq] at hs
          (repeat first | refine G_seq ?_ | refine G_skip ?_ | refine G_endblk ?_ | refine G_block ?_ | refine G_exit rfl ?_)
          refine G_draw (.q 0 (.q 1 (.q 2 (.q 3 (.q 5 (.q 6 (.e 4 (.q 7 (.q 8 (.q 9 .nil)))))))))) (by kernel_rfl) (by kernel_rfl) ?_
          refine RS_m retB_noPanic rfl rfl rfl rfl (ev_move rfl) ?_
          refine RS_m retB_noPanic rfl rfl rfl rfl (ev_move rfl) ?_
          refine RS_q retB_noPanic rfl rfl rfl rfl (ev_loadN rfl (by repeat' first | exact LdN.blk rfl | assumption | apply LdN.skip | apply LdN.app)) ?_
          refine RS_m retB_noPanic rfl rfl rfl rfl (ev_move rfl) ?_
          (first | refine RS_m retB_noPanic rfl rfl rfl rfl (ev_nilCheck rfl) ?_ | refine RS_m retB_noPanic rfl rfl rfl rfl (ev_nilCheckF (by simp) rfl) ?_)
          refine RS_m retB_noPanic rfl rfl rfl rfl (ev_fieldAddr rfl) ?_
          refine RS_e (RE_eff rfl rfl rfl (eff_call rfl (hs _ q1.skip.skip (by omega))) ?_); rintro _ _ ⟨rfl, rfl⟩; refine ⟨_, fun _ s => s, (by first | ((repeat first | exact fun _ s => s | apply en_keep | apply en_drop | apply en_app) <;> fail) | ((repeat first | exact en_refl | (apply en_blk; focus ((repeat' first | exact Pick.here | apply Pick.skip | apply Pick.app); done); focus rfl) | (apply en_own; focus ((repeat' first | exact Pick.here | apply Pick.skip | apply Pick.app); done); focus rfl) | (apply en_pick; focus ((repeat' first | exact Pick.here | apply Pick.skip | apply Pick.app); done)) | apply en_drop | apply en_app) <;> fail)), ?_⟩
          refine RS_m retB_noPanic rfl rfl rfl rfl (ev_indexAddrA rfl rfl (by first | omega | (simp; done) | (simp; omega)) (by first | omega | (simp; done) | (simp; omega))) ?_
          refine RS_q retB_noPanic rfl rfl rfl rfl (ev_load rfl (by repeat' first | exact Ld.blk rfl | assumption | apply Ld.skip | apply Ld.app)) ?_
          refine RS_m retB_noPanic rfl rfl rfl rfl (ev_assign rfl) ?_
          refine RS_nil ?_
          all_goals
            (repeat first | refine G_seq ?_ | refine G_skip ?_ | refine G_endblk ?_ | refine G_block ?_ | refine G_exit rfl ?_)
            refine G_region ?_
            refine GO_q rfl rfl (ev_move rfl) ?_
            (first | refine GO_q rfl rfl (ev_addN (q := 1) rfl rfl (by first | omega | (simp; done) | (simp; omega))) ?_ | refine GO_q rfl rfl (ev_add rfl rfl (by first | omega | (simp; done) | (simp; omega))) ?_)
            refine GO_q rfl rfl (ev_assign rfl) ?_
            refine GO_nil ?_
            (repeat first | refine G_seq ?_ | refine G_skip ?_ | refine G_endblk ?_ | refine G_block ?_ | refine G_exit rfl ?_)
            refine G_round (hi, lv + 1) ⟨?_, q10, ?_⟩ ?_ ⟨rfl, rfl, rfl, trivial⟩ (by (repeat first | exact en_refl | (apply en_blk; focus ((repeat' first | exact Pick.here | apply Pick.skip | apply Pick.app); done); focus rfl) | (apply en_own; focus ((repeat' first | exact Pick.here | apply Pick.skip | apply Pick.app); done); focus rfl) | (apply en_pick; focus ((repeat' first | exact Pick.here | apply Pick.skip | apply Pick.app); done)) | apply en_drop | apply en_app) <;> fail)
            · rw [← e1]; exact (KT.fnd_hi hne hq).symm
            · show lv + 1 + hi.depth ≤ 500000; omega
            · show hi.depth < max lo.depth hi.depth + 1; omega
      · have e : p = q := by
          have h2 := Decidable.of_not_not h1
          cases p; cases q
          simp only [List.cons.injEq, and_true] at h2
          simp [h2]
        subst e
        have e4 : T0.fnd p 0 = .node b p gn m x lo hi := by
          rw [← e1]; show KT.fnd p lv (.node b p gn m x lo hi) = _
          unfold KT.fnd; rw [if_pos rfl]
        rw [e4]
        (repeat first | refine G_seq ?_ | refine G_skip ?_ | refine G_endblk ?_ | refine G_block ?_ | refine G_exit rfl ?_)
        refine G_region ?_
        refine GO_q rfl rfl (ev_move rfl) ?_
        refine GO_q rfl rfl (ev_assign rfl) ?_
        refine GO_nil ?_
        (repeat first | refine G_seq ?_ | refine G_skip ?_ | refine G_endblk ?_ | refine G_block ?_ | refine G_exit rfl ?_)
        refine G_ret rfl (.tmp rfl .nil) (by (repeat first | exact fun _ s => s | apply en_keep | apply en_drop | apply en_app) <;> fail) ⟨rfl, rfl⟩
theorem khas_ctr (t : Nat) (T : KT) (q : Pt) (L : List HP) (h : Ld L ⟨t, 0 + 0, none⟩ (.pointer T.addr)) (hin : KIn L T) (hd : T.depth ≤ 500000) (ho : T.ok 0) :
    Ctr Tryz.prog 43 #[.pointer (some ⟨t, 0, none⟩), q.v] L fun v L' => v = .bool (decide (q ∈ T.pts)) ∧ L' = L := by
  have e : decide (q ∈ T.pts) = (T.fnd q 0).live := by
    have := ho.has q
    cases h : (T.fnd q 0).live
    · rw [h] at this; simpa using this
    · rw [h] at this; simpa using this
  have hf := fun M h1 h2 => kfind_ctr t T q M h1 h2 hd
  have hfi : KIn L (T.fnd q 0) := hin.fnd
  rw [e]
  generalize T.fnd q 0 = D at *
  refine Ctr_of (fn := Tryz.f43) (n := 20) Tryz.func43 rfl rfl rfl ?_
  intro g F
  (repeat first | refine G_seq ?_ | refine G_skip ?_ | refine G_endblk ?_ | refine G_block ?_ | refine G_exit rfl ?_)
  refine G_region ?_
  refine GO_eff rfl rfl (eff_box rfl) ?_; rintro _ _ ⟨b3, rfl, rfl⟩
  refine GO_q rfl rfl (ev_assign rfl) ?_
  refine GO_nil ?_
  (repeat first | refine G_seq ?_ | refine G_skip ?_ | refine G_endblk ?_ | refine G_block ?_ | refine G_exit rfl ?_)
  refine G_region ?_
  refine GO_q rfl rfl (ev_move rfl) ?_
  (first | refine GO_q rfl rfl (ev_eqlNil rfl rfl) ?_ | refine GO_q rfl rfl (ev_eqlPtr rfl rfl) ?_)
  refine GO_nil ?_
  (repeat first | refine G_seq ?_ | refine G_skip ?_ | refine G_endblk ?_ | refine G_block ?_ | refine G_exit rfl ?_)
  refine G_cond_f rfl rfl ?_
  (repeat first | refine G_seq ?_ | refine G_skip ?_ | refine G_endblk ?_ | refine G_block ?_ | refine G_exit rfl ?_)
  refine G_region ?_
  refine GO_q rfl rfl (ev_move rfl) ?_
  refine GO_q rfl rfl (ev_loadN rfl (by repeat' first | exact LdN.blk rfl | assumption | apply LdN.skip | apply LdN.app)) ?_
  refine GO_eff rfl rfl (eff_call rfl (hf _ h.skip.skip hin.skip.skip)) ?_; rintro _ _ ⟨rfl, rfl⟩
  refine GO_q rfl rfl (ev_assign rfl) ?_
  refine GO_nil ?_
  cases D with
  | nil =>
    (repeat first | refine G_seq ?_ | refine G_skip ?_ | refine G_endblk ?_ | refine G_block ?_ | refine G_exit rfl ?_)
    refine G_region ?_
    refine GO_q rfl rfl (ev_move rfl) ?_
    (first | refine GO_q rfl rfl (ev_neqNil rfl rfl) ?_ | refine GO_q rfl rfl (ev_neqPtr rfl rfl) ?_)
    refine GO_q rfl rfl (ev_move rfl) ?_
    refine GO_no rfl rfl rfl rfl ?_
    refine GO_no rfl rfl rfl rfl ?_
    refine GO_no rfl rfl rfl rfl ?_
    refine GO_no rfl rfl rfl rfl ?_
    refine GO_no rfl rfl rfl rfl ?_
    refine GO_q rfl rfl (ev_pick_f rfl rfl rfl) ?_
    refine GO_q rfl rfl (ev_assign rfl) ?_
    refine GO_nil ?_
    (repeat first | refine G_seq ?_ | refine G_skip ?_ | refine G_endblk ?_ | refine G_block ?_ | refine G_exit rfl ?_)
    refine G_ret rfl (.tmp rfl .nil) (by (repeat first | exact fun _ s => s | apply en_keep | apply en_drop | apply en_app) <;> fail) ⟨rfl, rfl⟩
  | node b p gn m x lo hi =>
    obtain ⟨q1, q2, q3, q4, q5, q6, q7, q8, q9, q10⟩ := hfi.f
    (repeat first | refine G_seq ?_ | refine G_skip ?_ | refine G_endblk ?_ | refine G_block ?_ | refine G_exit rfl ?_)
    refine G_region ?_
    refine GO_q rfl rfl (ev_move rfl) ?_
    (first | refine GO_q rfl rfl (ev_neqNil rfl rfl) ?_ | refine GO_q rfl rfl (ev_neqPtr rfl rfl) ?_)
    refine GO_q rfl rfl (ev_move rfl) ?_
    refine GO_yes rfl rfl rfl rfl ?_
    refine GO_q rfl rfl (ev_move rfl) ?_
    refine GO_yes rfl rfl rfl rfl ?_
    (first | refine GO_q rfl rfl (ev_nilCheck rfl) ?_ | refine GO_q rfl rfl (ev_nilCheckF (by simp) rfl) ?_)
    refine GO_yes rfl rfl rfl rfl ?_
    refine GO_q rfl rfl (ev_fieldAddr rfl) ?_
    refine GO_yes rfl rfl rfl rfl ?_
    refine GO_q rfl rfl (ev_load rfl (by repeat' first | exact Ld.blk rfl | assumption | apply Ld.skip | apply Ld.app)) ?_
    refine GO_yes rfl rfl rfl rfl ?_
    refine GO_q rfl rfl (ev_not rfl) ?_
    refine GO_q rfl rfl (ev_pick_t rfl rfl rfl) ?_
    refine GO_q rfl rfl (ev_assign rfl) ?_
    refine GO_nil ?_
    (repeat first | refine G_seq ?_ | refine G_skip ?_ | refine G_endblk ?_ | refine G_block ?_ | refine G_exit rfl ?_)
    refine G_ret rfl (.tmp rfl .nil) (by (repeat first | exact fun _ s => s | apply en_keep | apply en_drop | apply en_app) <;> fail) ⟨rfl, rfl⟩
end Go.Proofs.YtjgdhkilnalejaaGreat
/-
  DERIVED: THE SHELF's CONTRACTS AT THIS DUMP, IN PLAIN WORDS (tools/lay-plain.mjs out of 'TryzShelf.lean', which tools/lay-shelf.mjs wrote): THE SAME DECLARATIONS UNDER THE SAME NAMES: 'import', 'namespace', 'open', 'def', 'theorem' AND NOTHING ELSE: no command of the shelf's: FOR A HAND-IN. Each laying: the table of numbers ('.._ren') and one theorem, a field a fact of the dump's own or the kernel's comparison; each contract: ONE APPLICATION.
-/
namespace Go.Proofs
open Go.Shelf
def Tryz.lays189_ren : Go.Shelf.Ren := ⟨fun | 189 => 53 | 125 => 77 | 257 => 76 | 128 => 105 | 129 => 106 | 294 => 96 | 295 => 97 | 296 => 98 | 297 => 99 | 298 => 100 | 299 => 101 | 216 => 102 | 300 => 103 | 301 => 104 | 328 => 117 | 329 => 118 | 330 => 119 | 331 => 120 | 332 => 121 | 215 => 122 | 343 => 127 | n => n, fun | 28 => 37 | 3 => 3 | 46 => 116 | 0 => 0 | 51 => 142 | 53 => 144 | 4 => 4 | 183 => 135 | 182 => 134 | 131 => 44 | 5 => 5 | 9 => 9 | 218 => 149 | 222 => 153 | 228 => 159 | 229 => 160 | n => n, fun | n => n⟩
theorem Tryz.lays189 : Go.Proofs.Lays.n189 Tryz.prog Tryz.lays189_ren := {
  mixed := by kernel_rfl
  f125 := Tryz.func77.trans (congrArg some (by kernel_rfl))
  f128 := Tryz.func105.trans (congrArg some (by kernel_rfl))
  f129 := Tryz.func106.trans (congrArg some (by kernel_rfl))
  f189 := Tryz.func53.trans (congrArg some (by kernel_rfl))
  f215 := Tryz.func122.trans (congrArg some (by kernel_rfl))
  f216 := Tryz.func102.trans (congrArg some (by kernel_rfl))
  f257 := Tryz.func76.trans (congrArg some (by kernel_rfl))
  f294 := Tryz.func96.trans (congrArg some (by kernel_rfl))
  f295 := Tryz.func97.trans (congrArg some (by kernel_rfl))
  f296 := Tryz.func98.trans (congrArg some (by kernel_rfl))
  f297 := Tryz.func99.trans (congrArg some (by kernel_rfl))
  f298 := Tryz.func100.trans (congrArg some (by kernel_rfl))
  f299 := Tryz.func101.trans (congrArg some (by kernel_rfl))
  f300 := Tryz.func103.trans (congrArg some (by kernel_rfl))
  f301 := Tryz.func104.trans (congrArg some (by kernel_rfl))
  f328 := Tryz.func117.trans (congrArg some (by kernel_rfl))
  f329 := Tryz.func118.trans (congrArg some (by kernel_rfl))
  f330 := Tryz.func119.trans (congrArg some (by kernel_rfl))
  f331 := Tryz.func120.trans (congrArg some (by kernel_rfl))
  f332 := Tryz.func121.trans (congrArg some (by kernel_rfl))
  f343 := Tryz.func127.trans (congrArg some (by kernel_rfl))
  t0 := Tryz.underlying0
  a0 := Tryz.isAgg0
  z0 := Tryz.sizeOf0
  v0 := Tryz.zeroValue0
  t3 := Tryz.underlying3
  a3 := Tryz.isAgg3
  z3 := Tryz.sizeOf3
  v3 := Tryz.zeroValue3
  t4 := Tryz.underlying4
  a4 := Tryz.isAgg4
  z4 := Tryz.sizeOf4
  v4 := Tryz.zeroValue4
  t5 := Tryz.underlying5
  a5 := Tryz.isAgg5
  z5 := Tryz.sizeOf5
  v5 := Tryz.zeroValue5
  t9 := Tryz.underlying9
  a9 := Tryz.isAgg9
  z9 := Tryz.sizeOf9
  v9 := Tryz.zeroValue9
  t28 := Tryz.underlying37
  a28 := Tryz.isAgg37
  z28 := Tryz.sizeOf37
  v28 := Tryz.zeroValue37
  t46 := Tryz.underlying116
  a46 := Tryz.isAgg116
  z46 := Tryz.sizeOf116
  v46 := Tryz.zeroValue116
  t51 := Tryz.underlying142
  a51 := Tryz.isAgg142
  z51 := Tryz.sizeOf142
  v51 := Tryz.zeroValue142
  t53 := Tryz.underlying144
  a53 := Tryz.isAgg144
  z53 := Tryz.sizeOf144
  v53 := Tryz.zeroValue144
  t131 := Tryz.underlying44
  a131 := Tryz.isAgg44
  z131 := Tryz.sizeOf44
  v131 := Tryz.zeroValue44
  t182 := Tryz.underlying134
  a182 := Tryz.isAgg134
  z182 := Tryz.sizeOf134
  v182 := Tryz.zeroValue134
  t183 := Tryz.underlying135
  a183 := Tryz.isAgg135
  z183 := Tryz.sizeOf135
  v183 := Tryz.zeroValue135
  t218 := Tryz.underlying149
  a218 := Tryz.isAgg149
  z218 := Tryz.sizeOf149
  v218 := Tryz.zeroValue149
  t222 := Tryz.underlying153
  a222 := Tryz.isAgg153
  z222 := Tryz.sizeOf153
  v222 := Tryz.zeroValue153
  t228 := Tryz.underlying159
  a228 := Tryz.isAgg159
  z228 := Tryz.sizeOf159
  v228 := Tryz.zeroValue159
  t229 := Tryz.underlying160
  a229 := Tryz.isAgg160
  z229 := Tryz.sizeOf160
  v229 := Tryz.zeroValue160 }
open Go.Sort Go.RowKit in
theorem Tryz.slices_Sort_int (blk off cap : Nat) (zs : List Int) (w : World) (hH : Holds (Value.int .i64) w blk off zs.toArray) (hblk : blk < w.heap.size) (hsz : zs.length < 4611686018427387904) :
    Calls Tryz.prog 53 #[.slice (some ⟨blk, off, none⟩) zs.length cap] w fun e w' =>
      e = .returned (.tuple #[]) ∧ ∃ n os, w' = grow (putRow (Value.int .i64) (Sort.ahead w n) blk off (zs.mergeSort fun x y => decide (x ≤ y)).toArray) os := Any.slices_Sort_int Tryz.lays189 blk off cap zs w hH hblk hsz
open Go.RowKit Go.Sort in
/-- .. and plain. (LAID: no walk: one application.) -/
theorem Tryz.slices_Sort_int_none (p : Option Addr) (cap : Nat) (w : World) :
    Calls Tryz.prog 53 #[.slice p 0 cap] w fun e w' => e = .returned (.tuple #[]) ∧ w' = w := Any.slices_Sort_int_none Tryz.lays189 p cap w
end Go.Proofs
/- slices.Sort of this program. -/
namespace Go.Proofs.YtjgdhkilnalejaaGreat
theorem sort_ctr (A : Option Addr) (n c : Nat) (zs : List Int) (L : List HP) (hA : 0 < n → ∃ b, A = some ⟨b, 0, none⟩) (hn : zs.length = n) (hbig : n ≤ 1000000) :
    Ctr Tryz.prog 53 #[.slice A n c] (own 3 1 A n c (flat zs) :: L) fun v L' => v = .tuple #[] ∧ L' = own 3 1 A n c (flat (srt zs)) :: L := by
  rcases Nat.eq_zero_or_pos n with h0 | h0
  · subst h0
    have hz : zs = [] := List.eq_nil_of_length_eq_zero hn
    subst hz
    intro g F w hw
    refine (Tryz.slices_Sort_int_none A c w).mono fun e w' ⟨h1, h2⟩ => ?_
    subst h2
    exact ⟨_, _, h1, ⟨rfl, rfl⟩, by rw [show srt [] = [] by simp [srt]]; exact hw⟩
  · intro g F w hw
    obtain ⟨b, rfl⟩ := hA h0
    exact sort_of_shelf b n c zs L hn h0 (fun w hH hb => Tryz.slices_Sort_int b 0 c zs w hH hb (by omega)) g F w hw
end Go.Proofs.YtjgdhkilnalejaaGreat
/- A tree of points by two orders in turn: report, and what is told of the whole tree. -/
namespace Go.Proofs.YtjgdhkilnalejaaGreat
attribute [local irreducible] sat
open Go.RowKit
set_option linter.unusedVariables false
set_option linter.unusedSimpArgs false
set_option maxRecDepth 100000

/-- Ids that are gathered. -/
def idV (vv : Nat) (l : List Int) : HP := fun h => ∃ a c, ((0 < l.length → ∃ b, a = some ⟨b, 0, none⟩) ∧ l.length ≤ c ∧ c ≤ maxLen) ∧ sat [own 3 1 a l.length c (flat l), blk vv 37 [.slice a l.length c]] h
/-- What is told by a report. -/
def ids (w : Bx) (T : KT) : List Int := srt ((T.pts.filter (inB w)).map (·.id))
theorem ktop_ctr (t : Nat) (T : KT) (L : List HP) (h : Ld L ⟨t, 0 + 0, none⟩ (.pointer T.addr)) : Ctr Tryz.prog 30 #[.pointer (some ⟨t, 0, none⟩)] L fun v L' => v = .pointer T.addr ∧ L' = L := by
  refine Ctr_of (fn := Tryz.f30) (n := 9) Tryz.func30 rfl rfl rfl ?_
  intro g F
  (repeat first | refine G_seq ?_ | refine G_skip ?_ | refine G_endblk ?_ | refine G_block ?_ | refine G_exit rfl ?_)
  refine G_region ?_
  refine GO_q rfl rfl (ev_assign rfl) ?_
  refine GO_nil ?_
  (repeat first | refine G_seq ?_ | refine G_skip ?_ | refine G_endblk ?_ | refine G_block ?_ | refine G_exit rfl ?_)
  refine G_region ?_
  refine GO_q rfl rfl (ev_move rfl) ?_
  (first | refine GO_q rfl rfl (ev_eqlNil rfl rfl) ?_ | refine GO_q rfl rfl (ev_eqlPtr rfl rfl) ?_)
  refine GO_nil ?_
  (repeat first | refine G_seq ?_ | refine G_skip ?_ | refine G_endblk ?_ | refine G_block ?_ | refine G_exit rfl ?_)
  refine G_cond_f rfl rfl ?_
  (repeat first | refine G_seq ?_ | refine G_skip ?_ | refine G_endblk ?_ | refine G_block ?_ | refine G_exit rfl ?_)
  refine G_region ?_
  refine GO_q rfl rfl (ev_move rfl) ?_
  (first | refine GO_q rfl rfl (ev_nilCheck rfl) ?_ | refine GO_q rfl rfl (ev_nilCheckF (by simp) rfl) ?_)
  refine GO_q rfl rfl (ev_fieldAddr rfl) ?_
  refine GO_q rfl rfl (ev_load rfl (by repeat' first | exact h | apply Ld.skip)) ?_
  refine GO_q rfl rfl (ev_assign rfl) ?_
  refine GO_nil ?_
  (repeat first | refine G_seq ?_ | refine G_skip ?_ | refine G_endblk ?_ | refine G_block ?_ | refine G_exit rfl ?_)
  refine G_ret rfl (.tmp rfl .nil) (by (repeat first | exact fun _ s => s | apply en_keep | apply en_drop | apply en_app) <;> fail) ⟨rfl, rfl⟩
theorem kRoot_ctr (t : Nat) (T : KT) (L : List HP) (h : Ld L ⟨t, 0 + 0, none⟩ (.pointer T.addr)) : Ctr Tryz.prog 9 #[.pointer (some ⟨t, 0, none⟩)] L fun v L' => v = .pointer T.addr ∧ L' = L := by
  refine Ctr_of (fn := Tryz.f9) (n := 5) Tryz.func9 rfl rfl rfl ?_
  intro g F
  (repeat first | refine G_seq ?_ | refine G_skip ?_ | refine G_endblk ?_ | refine G_block ?_ | refine G_exit rfl ?_)
  refine G_region ?_
  refine GO_q rfl rfl (ev_assign rfl) ?_
  refine GO_nil ?_
  (repeat first | refine G_seq ?_ | refine G_skip ?_ | refine G_endblk ?_ | refine G_block ?_ | refine G_exit rfl ?_)
  refine G_region ?_
  refine GO_q rfl rfl (ev_move rfl) ?_
  refine GO_eff rfl rfl (eff_call rfl (ktop_ctr t T _ (by repeat' first | exact h | apply Ld.skip))) ?_; rintro _ _ ⟨rfl, rfl⟩
  refine GO_q rfl rfl (ev_assign rfl) ?_
  refine GO_nil ?_
  (repeat first | refine G_seq ?_ | refine G_skip ?_ | refine G_endblk ?_ | refine G_block ?_ | refine G_exit rfl ?_)
  refine G_ret rfl (.tmp rfl .nil) (by (repeat first | exact fun _ s => s | apply en_keep | apply en_drop | apply en_app) <;> fail) ⟨rfl, rfl⟩
end Go.Proofs.YtjgdhkilnalejaaGreat
/- A tree of points by two orders in turn: sound. -/
namespace Go.Proofs.YtjgdhkilnalejaaGreat
open Go.RowKit
set_option linter.unusedVariables false
set_option linter.unusedSimpArgs false
set_option maxRecDepth 100000

/-- On its side: of the kid k. -/
def onS (lv k : Nat) (p r : Pt) : Prop := (if ahd lv r p = true then (0 : Int) else 1) = (k : Nat) ∧ r ≠ p
section
variable {P : Program} {L : List HP} {σ : Env} {d : Option Nat} {T T' ty : TypeId} {pos : String} {aft : Array Edge} {gd : Option (Nat × Bool)} {x y : Operand}
end
end Go.Proofs.YtjgdhkilnalejaaGreat
/- A tree of points by two orders in turn: how deep it may be, Check. -/
namespace Go.Proofs.YtjgdhkilnalejaaGreat
open Go.RowKit
set_option linter.unusedVariables false
set_option linter.unusedSimpArgs false
set_option maxRecDepth 100000

/-- Three of four again and again. -/
def bnd : Nat → Nat → Nat
  | 0, _ => 0
  | f + 1, n => if n < 1 then 0 else bnd f (3 * n / 4) + 1
def bnd1 (n : Nat) : Nat := bnd n n
/-- How deep a tree of so many may be. -/
def bound (n : Nat) : Nat := if n < 1 then 0 else bnd1 n + 1
end Go.Proofs.YtjgdhkilnalejaaGreat
/- A tree of points by two orders in turn: as a set of points, in the heap. -/
namespace Go.Proofs.YtjgdhkilnalejaaGreat
set_option linter.unusedVariables false
set_option linter.unusedSimpArgs false
set_option maxRecDepth 100000

@[reducible] def kdC (r : Option Addr) (live most : Int) (built : Nat) : List Value := [.pointer r, .int .i64 live, .int .i64 most, .int .i64 (built : Nat)]
/-- A tree that is as it should be: of these points, after so many changes. -/
structure KG (T : KT) (v : Nat) (l : List Pt) (k : Nat) : Prop where
  ok : T.ok 0
  pts : T.pts.Perm l
  cnt : T.cnt ≤ k
  few : T.cnt - l.length ≤ (T.cnt + 1) / 2
  bt : v ≤ 3000000 * k
def treeK (t : Nat) (most : Int) (l : List Pt) (k : Nat) : HP := fun h => ∃ x : KT × Nat, KG x.1 x.2 l k ∧ sat [ktH x.1, blk t 79 (kdC x.1.addr (l.length : Nat) most x.2)] h
theorem Ctr.tk {P : Program} {f : FuncId} {args : Array Value} {L : List HP} {t : Nat} {most : Int} {l : List Pt} {k : Nat} {post : Value → List HP → Prop} (C : ∀ T v, KG T v l k → Ctr P f args (ktH T :: blk t 79 (kdC T.addr (l.length : Nat) most v) :: L) post) : Ctr P f args (treeK t most l k :: L) post :=
  Ctr.open (ι := KT × Nat) (Fa := fun x => KG x.1 x.2 l k) (N := fun x => [ktH x.1, blk t 79 (kdC x.1.addr (l.length : Nat) most x.2)]) (fun _ h => h) fun x hx => C x.1 x.2 hx
theorem G_tk {P : Program} {B : Exit → Act → World → Prop} {gl : Glob} {n : Nat} {K : List Kt} {σ : Env} {L : List HP} {t : Nat} {most : Int} {l : List Pt} {k : Nat} (h : ∀ T v, KG T v l k → G P B gl n K σ (ktH T :: blk t 79 (kdC T.addr (l.length : Nat) most v) :: L)) : G P B gl n K σ (treeK t most l k :: L) :=
  G_open (ι := KT × Nat) (F := fun x => KG x.1 x.2 l k) (N := fun x => [ktH x.1, blk t 79 (kdC x.1.addr (l.length : Nat) most x.2)]) (fun _ h => h) fun x hx => h x.1 x.2 hx
theorem en_tk {L M : List HP} {t : Nat} {most : Int} {l : List Pt} {k : Nat} {T : KT} {v : Nat} (g : KG T v l k) (f : ∀ h, sat L h → sat (ktH T :: blk t 79 (kdC T.addr (l.length : Nat) most v) :: M) h) : ∀ h, sat L h → sat (treeK t most l k :: M) h := fun h s =>
  sat.fold (N := [_, _]) (fun h q => ⟨(T, v), g, q⟩) (f h s)
theorem en_tkn {L M : List HP} {t : Nat} {most : Int} {l : List Pt} {k n : Nat} {T : KT} {v : Nat} (hn : l.length = n) (g : KG T v l k) (f : ∀ h, sat L h → sat (ktH T :: blk t 79 (kdC T.addr (n : Nat) most v) :: M) h) : ∀ h, sat L h → sat (treeK t most l k :: M) h := by
  subst hn; exact en_tk g f
theorem KG.to {T : KT} {v k k' : Nat} {l m : List Pt} (g : KG T v l k) (p : l.Perm m) (h : k ≤ k') : KG T v m k' :=
  ⟨g.ok, g.pts.trans p, Nat.le_trans g.cnt h, by rw [← p.length_eq]; exact g.few, by have := g.bt; omega⟩
end Go.Proofs.YtjgdhkilnalejaaGreat
/- A range over a function, in a walk. No program stands in this text. -/
namespace Go.Proofs.YtjgdhkilnalejaaGreat
open Go.RowKit
set_option linter.unusedVariables false
set_option linter.unusedSimpArgs false

/-- A block that is no cells. -/
structure obj (b : Nat) (o : Obj) (h : Hm) : Prop where
  eq : h b = some o
section
variable {g : Glob} {L : List HP} {w : World}
theorem Hp.obj_heap {b : Nat} {o : Obj} (h : Hp g (obj b o :: L) w) : w.heap[b]? = some o := by
  obtain ⟨h1, h2, d, s1, s2, a, l⟩ := h.s
  exact s1 _ _ a.eq
theorem Hp.allocO (h : Hp g L w) (o : Obj) : Hp g (obj w.heap.size o :: L) (w.alloc o) := by
  refine ⟨h.g, fun k => if k = w.heap.size then some o else none, w.hm, fun k => ?_, fun k o' e => ?_, fun k o' e => ?_, ⟨by simp⟩, h.s⟩
  · by_cases hk : k = w.heap.size
    · right; subst hk; simp [World.hm]
    · left; simp [hk]
  · replace e : (if k = w.heap.size then some o else none) = some o' := e
    by_cases hk : k = w.heap.size
    · subst hk
      rw [if_pos rfl] at e
      show (w.heap.push _)[_]? = _
      simpa using e
    · rw [if_neg hk] at e; cases e
  · have hk : k < w.heap.size := by
      rcases Nat.lt_or_ge k w.heap.size with h' | h'
      · exact h'
      · simp [World.hm, Array.getElem?_eq_none h'] at e
    show (w.heap.push _)[k]? = _
    rw [Array.getElem?_push, if_neg (by omega)]
    exact e
theorem Hp.putO {b : Nat} {o : Obj} (h : Hp g (obj b o :: L) w) (o' : Obj) : Hp g (obj b o' :: L) (w.putObj b o') := by
  have hb := h.obj_heap
  have hlt : b < w.heap.size := (Array.getElem?_eq_some_iff.1 hb).1
  obtain ⟨h1, h2, d, s1, s2, a, l⟩ := h.s
  have a' : h1 b = some o := a.eq
  have hne : ∀ k, k ≠ b → (w.putObj b o').hm k = w.hm k := fun k hk => World.putObj_heap_other hk
  have heq : (w.putObj b o').hm b = some o' := World.putObj_heap_same hlt
  refine ⟨h.g, fun k => if k = b then some o' else none, h2, fun k => ?_, fun k o e => ?_, fun k o e => ?_, ⟨by simp⟩, l⟩
  · by_cases hk : k = b
    · right
      rcases d k with e | e
      · rw [hk, a'] at e; cases e
      · exact e
    · left; simp [hk]
  · replace e : (if k = b then some o' else none) = some o := e
    by_cases hk : k = b
    · subst hk
      rw [if_pos rfl] at e
      rw [heq]; exact e
    · rw [if_neg hk] at e; cases e
  · by_cases hk : k = b
    · rcases d k with e' | e'
      · rw [hk, a'] at e'; cases e'
      · rw [e'] at e; cases e
    · rw [hne k hk]; exact s2 k o e
theorem Hp.true_ (hw : Hp g L w) : Hp g ((fun _ => True) :: L) w := ⟨hw.g, fun _ => none, w.hm, fun _ => .inl rfl, fun _ _ e => (by cases e), hSub.refl _, trivial, hw.s⟩
end

/-! The end of a function that holds such a range. -/
def mk (ds : List Nat) : List Deferred := ds.map fun d => ⟨.collected d, #[]⟩
def mkH (ds : List Nat) : List HP := ds.map fun d => obj d (.deferred (some []))
theorem results_runs {P : Program} {fn : Func} {σ : Env} {L : List HP} {rs : List ResultVar} {vs : List Value} (hr : fn.results = rs.toArray) (h : Res P σ L rs vs) {a : Act} {w : World} (hs : SatE σ a) (hw : sat L w.hm) : (results fn a.tmps).run P w = .ok (retv vs) w := by
  unfold results
  rw [hr]
  simp only [List.mapM_toArray, Sem.run_bind, Sem.run_map]
  have e := h.run hs hw
  generalize hm : List.mapM (m := Sem) _ rs = m
  have e' : m.run P w = .ok vs w := by rw [← hm]; exact e
  rw [e']
  simp only [Result.andThen_ok, Sem.run_pure]
  cases vs with
  | nil => rfl
  | cons v l => cases l <;> simp [retv]
def retM (P : Program) (fn : Func) (g : Glob) (F : HP) (post : Value → List HP → Prop) : Exit → Act → World → Prop
  | .normal, a, w | .ret, a, w => ∃ (ds : List Nat) (M L2 : List HP) (σ : Env) (rs : List ResultVar) (vs : List Value), a.defers = mk ds ∧ SatE σ a ∧ fn.results = rs.toArray ∧ Res P σ M rs vs ∧ (∀ h, sat M h → sat (F :: L2) h) ∧ post (retv vs) L2 ∧ Hp g (mkH ds ++ M) w
  | _, _, _ => False
theorem leaves_mk {P : Program} {fn : Func} {g : Glob} {F : HP} {post : Value → List HP → Prop} {M L2 : List HP} {σ : Env} {rs : List ResultVar} {vs : List Value} {a : Act} (hs : SatE σ a) (hr : fn.results = rs.toArray) (h : Res P σ M rs vs) (hM : ∀ h, sat M h → sat (F :: L2) h) (hp : post (retv vs) L2) :
    ∀ (ds : List Nat) (w : World), Hp g (mkH ds ++ M) w → LeavesInM Fence.wide 0 P fn a.tmps (fun e w' => ∃ v L', e = .returned v ∧ post v L' ∧ Hp g (F :: L') w') (mk ds) .returning w
  | [], w, hw => ⟨retv vs, results_runs hr h hs hw.s, _, L2, rfl, hp, hw.mono hM⟩
  | d :: ds, w, hw => ⟨by simp, .inl ⟨d, w.putObj d (.deferred none), rfl, run_takeDeferred (Hp.obj_heap hw), leaves_mk hs hr h hM hp ds _ ((Hp.putO hw _).mono fun _ s => s.tail)⟩⟩
section
variable {P : Program} {fn : Func} {g : Glob} {n : Nat} {K : List Kt} {σ : Env} {L : List HP} {B : Exit → Act → World → Prop}
theorem Ctr_ofM {f : FuncId} {c : Code} {args : List Value} {post : Value → List HP → Prop} (hf : P.funcs[f]? = some fn) (hb : fn.body = some c) (hn : fn.ntmps = n) (hlen : Nat.ble args.length n = true)
    (h : ∀ g F, g.base = g → G P (retM P fn g F post) g n [.code c] (argsE args 0) (F :: L)) : Ctr P f args.toArray L post := fun g F w hw => by
  refine (callsIn_wide (n := 0)).1 (callsIn_of_wp_marks hf hb trivial ?_)
  have hsz : args.toArray.size ≤ fn.ntmps := by rw [hn]; exact Nat.le_of_ble_eq_true hlen
  have := h g.base F rfl { tmps := args.toArray ++ Array.replicate (fn.ntmps - args.toArray.size) undef, defers := [] } w ⟨by simp at hsz ⊢; omega, rfl, fun t v e => ?_⟩ hw.base
  · refine Code.wpIn_mono (fun e a w h => ?_) this
    cases e with
    | normal =>
      obtain ⟨ds, M, L2, τ, rs, vs, h1, h2, h3, h4, h5, h6, h7⟩ := h
      show LeavesInM _ _ _ _ _ _ a.defers _ _
      rw [h1]
      exact leaves_mk h2 h3 h4 h5 h6 ds w h7.of_base
    | ret =>
      obtain ⟨ds, M, L2, τ, rs, vs, h1, h2, h3, h4, h5, h6, h7⟩ := h
      show LeavesInM _ _ _ _ _ _ a.defers _ _
      rw [h1]
      exact leaves_mk h2 h3 h4 h5 h6 ds w h7.of_base
    | _ => exact h.elim
  · obtain ⟨j, rfl, hj⟩ := argsE_get args 0 t v e
    have hlt : j < args.length := (List.getElem?_eq_some_iff.1 hj).1
    rw [Nat.zero_add, Array.getElem?_append_left (by simpa using hlt)]
    simpa using hj
theorem G_retM {g0 : Glob} {rs : List ResultVar} {vs : List Value} {L' M : List HP} {F : HP} {post : Value → List HP → Prop} (ds : List Nat) (hg : g.base = g0.base) (hd : g.dfs = mk ds) (hr : fn.results = rs.toArray) (h : Res P σ M rs vs) (hL : ∀ h, sat L h → sat (mkH ds ++ M) h) (hM : ∀ h, sat M h → sat (F :: L') h) (hp : post (retv vs) L') :
    G P (retM P fn g0 F post) g n (.code .ret :: K) σ L := fun a w hs hw =>
  wpIn_ret (Kq_ret ⟨ds, M, L', σ, rs, vs, hs.defers.trans hd, hs.e, hr, h, hM, hp, ⟨hw.g.trans hg, hL _ hw.s⟩⟩)

/-! The statement. -/
def Glob.withD (g : Glob) (d : Nat) : Glob := { g with dfs := ⟨.collected d, #[]⟩ :: g.dfs }
theorem G_range {g0 : Operand} {ps : Array Tmp} {assign body : Code} {f : FuncId} {c1 c2 : List Value} {post : Option Code → List HP → Prop} [H : CalT P f] (hr : g.rnd = none) (hq : ev σ g0 = some (.func (.func f) c1.toArray c2.toArray))
    (hc : ∀ (l d : Nat) (fid : FuncId) (tmps : Array Value), tmps.size = n → SatE σ ⟨tmps, []⟩ → Ctr P f (c1 ++ [Value.func (.yield l) #[] #[]] ++ c2).toArray (obj l (.loop ⟨.ready, none, fid, tmps, ps, assign, body, d⟩) :: obj d (.deferred (some [])) :: L)
      fun v L' => ∃ st p L1, st ≠ .busy ∧ post p L1 ∧ L' = obj l (.loop ⟨st, p, fid, tmps, ps, assign, body, d⟩) :: obj d (.deferred (some [])) :: L1)
    (hN : ∀ d L1, post none L1 → G P B (g.withD d) n K σ (obj d (.deferred (some [])) :: L1))
    (hS : ∀ d c L1, post (some c) L1 → G P B (g.withD d) n (.code c :: K) σ (obj d (.deferred (some [])) :: L1)) :
    G P B g n (.code (.rangeFunc g0 ps assign body) :: K) σ L := fun a w hs hw => by
  show (Code.rangeFunc g0 ps assign body).wpIn (fnc g.rnd) 0 P _ a w
  refine wpIn_rangeFunc fun fid _ => ?_
  have h1 := (hw.allocO (.deferred (some []))).allocO (.loop { state := .ready, pending := none, fn := fid, tmps := a.tmps, params := ps, assign, body, defers := w.heap.size })
  have hC := calls_of (hc _ _ fid a.tmps hs.size (fun t v e => hs.e t v e)) h1
  rw [World.size_alloc] at h1 hC
  have hE := run_enterLoop_outer (P := P) (w := w) fid a.tmps ps assign body
  generalize (w.alloc (.deferred (some []))).alloc (.loop { state := .ready, pending := none, fn := fid, tmps := a.tmps, params := ps, assign, body, defers := w.heap.size }) = W at h1 hC hE
  refine ⟨w.heap.size + 1, [⟨.collected w.heap.size, #[]⟩], W, ⟨.fn (.func f) c2.toArray, c1.toArray ++ #[Value.func (.yield (w.heap.size + 1)) #[] #[]]⟩, W, f, (c1 ++ [Value.func (.yield (w.heap.size + 1)) #[] #[]] ++ c2).toArray, W, ?_, ?_, fun _ _ => trivial, ?_, (fun e => by cases e), (callsIn_wide (n := 0)).2 (hC.mono ?_)⟩
  · rw [show (fnc g.rnd).round = none from hr]
    exact hE
  · have ea : a.eval (.const (Value.func (.yield (w.heap.size + 1)) #[] #[])) = Value.func (.yield (w.heap.size + 1)) #[] #[] := rfl
    simp only [resolve, hs.e.eval hq, Deferred.ofValue, Sem.run_bind, Sem.run_pure, Result.andThen_ok, ea, List.map_toArray, List.map_cons, List.map_nil]
  · have := H.run (c1 ++ [Value.func (.yield (w.heap.size + 1)) #[] #[]] ++ c2).toArray W
    simpa [invoke] using this
  · rintro e w' ⟨v, L', rfl, ⟨st, p, L1, hb, hp, rfl⟩, hw'⟩
    refine ⟨p, _, run_endLoop hw'.obj_heap hb, ?_⟩
    have hw2 : Hp g (obj w.heap.size (.deferred (some [])) :: L1) _ := (hw'.putO (.loop ⟨.exhausted, p, fid, a.tmps, ps, assign, body, w.heap.size⟩)).mono fun _ s => s.tail
    have hs2 : Sat (g.withD w.heap.size) n σ { a with defers := [⟨.collected w.heap.size, #[]⟩] ++ a.defers } := ⟨hs.size, by rw [hs.defers]; rfl, fun t v e => hs.e t v e⟩
    cases p with
    | none => exact hN _ _ hp _ _ hs2 ⟨hw2.g, hw2.s⟩
    | some c => exact hS _ c _ hp _ _ hs2 ⟨hw2.g, hw2.s⟩

/-! What a call of yield comes to. -/
def Yld (P : Program) (l : Nat) (args : List Value) (L : List HP) (post : Bool → List HP → Prop) : Prop :=
  ∀ g F w, Hp g (F :: L) w → ∃ fn tmps assign body, (Instr.yield l args.toArray).run P w = .ok (.round l fn tmps assign body) w ∧
    RoundIn Fence.wide 0 P l fn tmps assign body w fun e w' => ∃ b L', e = .returned (.bool b) ∧ post b L' ∧ Hp g (F :: L') w'
theorem Yld.frame {l : Nat} {args : List Value} {L M : List HP} {post : Bool → List HP → Prop} (Fr : List HP) (h : Yld P l args L post) (hL : ∀ h, sat M h → sat (Fr ++ L) h) : Yld P l args M fun b L' => ∃ L1, post b L1 ∧ L' = Fr ++ L1 := by
  intro g F w hw
  have h1 : Hp g ((fun h => sat (F :: Fr) h) :: L) w := hw.mono fun k s => sat.join (N := F :: Fr) (s.cons_mono hL)
  obtain ⟨fn, tmps, assign, body, e, hR⟩ := h g _ w h1
  exact ⟨fn, tmps, assign, body, e, hR.mono fun e w' ⟨b, L1, e1, p, q⟩ => ⟨b, _, e1, ⟨L1, p, rfl⟩, q.mono fun _ s => sat.part (N := F :: Fr) s⟩⟩
theorem Yld.mono {l : Nat} {args : List Value} {L : List HP} {post post' : Bool → List HP → Prop} (h : Yld P l args L post) (f : ∀ b L', post b L' → post' b L') : Yld P l args L post' := fun g F w hw => by
  obtain ⟨fn, tmps, assign, body, e, hR⟩ := h g F w hw
  exact ⟨fn, tmps, assign, body, e, hR.mono fun e w' ⟨b, L1, e1, p, q⟩ => ⟨b, L1, e1, f _ _ p, q⟩⟩
theorem GO_yield {dst : Option Nat} {q : Operand} {xs : List Operand} {ts : Array TypeId} {ty : TypeId} {pos : String} {aft : Array Edge} {ops : Array Oper} {lst : List Oper} {l : Nat} {args : List Value} {post : Bool → List HP → Prop} (hd : dstOk n dst = true)
    (hq : ev σ q = some (.func (.yield l) #[] #[])) (ha : evs σ xs = some args) (hy : Yld P l args L post) (h : ∀ b L', post b L' → GO P B g n ops lst K (putE σ dst (.bool b)) L') :
    GO P B g n ops (⟨dst, .call ⟨.value q, xs.toArray, ts⟩, ty, pos, aft, none⟩ :: lst) K σ L := fun a w hs hw => by
  refine wpListIn_plain rfl fun Kx hK => ⟨fun _ _ => trivial, ?_⟩
  obtain ⟨fid, tmps, assign, body, e1, hR⟩ := hy g _ w hw.true_
  rw [Oper.semAt_eq _ _ _ (fun c e => by cases e)]
  have e : (execOp a.eval ⟨dst, .call ⟨.value q, xs.toArray, ts⟩, ty, pos, aft, none⟩).run P w = .ok (.round l fid tmps assign body) w := by
    simp only [execOp, resolve, hs.e.eval hq, Deferred.ofValue, Sem.run_bind, Sem.run_pure, Result.andThen_ok, invoke, List.map_toArray, evs_map hs.e ha]
    simpa using e1
  rw [e]
  refine ⟨(fun e => by cases e), RoundIn.mono hR fun e w' ⟨b, L', e1, p, q⟩ => ?_⟩
  subst e1
  exact hK _ _ (h b L' p _ _ (hs.put' _ hd) (q.mono fun _ s => s.tail))

/-! A round. -/
def rndB (g : Glob) (F : HP) (l : Nat) (R : LoopState → Option Code → Obj) (post : Bool → List HP → Prop) : Exit → Act → World → Prop
  | .normal, _, w => ∃ L', post true (obj l (R .ready none) :: L') ∧ Hp g (F :: obj l (R .busy none) :: L') w
  | .ret, _, w => ∃ L', post false (obj l (R .done (some .ret)) :: L') ∧ Hp g (F :: obj l (R .busy none) :: L') w
  | .exit id, _, w => ∃ L', post false (obj l (R .done (some (.exit id))) :: L') ∧ Hp g (F :: obj l (R .busy none) :: L') w
  | _, _, _ => False
theorem rndB_noPanic {F : HP} {l : Nat} {R : LoopState → Option Code → Obj} {post : Bool → List HP → Prop} : noPanic (rndB g F l R post) := fun _ _ _ h => h
theorem Yld_of {ι : Type} {τ : ι → Env} {M : ι → List HP} {Fy : ι → Prop} {l d : Nat} {fid : FuncId} {tmps : Array Value} {p : Tmp} {x : Value} {assign body : Code} {τ0 : Env} {post : Bool → List HP → Prop} {R : LoopState → Option Code → Obj} (hR : R = fun st q => .loop ⟨st, q, fid, tmps, #[p], assign, body, d⟩) (hsz : tmps.size = n) (hτ : SatE τ0 ⟨tmps, []⟩) (hp : Nat.blt p n = true)
    (hA : ∀ g F, g.rnd = some l → g.dfs = [] → G P (fun _ _ _ => False) g n [.code assign, .inv (fun a w => ∃ y, Fy y ∧ Sat g n (τ y) a ∧ Hp g (F :: obj l (R .ready none) :: M y) w)] ((p, x) :: τ0) (F :: obj l (R .ready none) :: L))
    (hB : ∀ g F y, Fy y → g.rnd = some l → g.dfs = [] → G P (rndB g F l R post) g n [.code body] (τ y) (F :: obj l (R .busy none) :: M y)) :
    Yld P l [x] (obj l (R .ready none) :: L) post := fun g F w hw => by
  subst hR
  have hw1 := hw.mono fun _ s => s.swap
  have hy := run_yield (P := P) (args := [x].toArray) hw1.obj_heap rfl
  refine ⟨fid, tmps.setIfInBounds p x, assign, body, by simpa using hy, roundIn_of_wpIn trivial ?_⟩
  have hs0 : Sat ⟨g.os, g.tape, g.output, [], some l⟩ n τ0 ⟨tmps, []⟩ := ⟨hsz, rfl, hτ⟩
  have h1 := hA ⟨g.os, g.tape, g.output, [], some l⟩ F rfl rfl _ w (hs0.put x hp) ⟨hw.g, hw.s⟩
  refine Code.wpIn_mono (fun e a1 w1 h => ?_) h1
  cases e with
  | normal =>
    obtain ⟨y, fy, hs1, hw2⟩ := h
    have hw3 := hw2.mono fun _ s => s.swap
    refine ⟨_, run_beginRound hw3.obj_heap rfl, ?_⟩
    have hw4 := (hw3.putO (.loop ⟨.busy, none, fid, tmps, #[p], assign, body, d⟩)).mono fun _ s => s.swap
    have h2 := hB _ F y fy rfl rfl a1 _ hs1 hw4
    refine Code.wpIn_mono (fun e a3 w3 h3 => ?_) h2
    cases e with
    | normal =>
      obtain ⟨L', hp', hw5⟩ := h3
      have hw6 := hw5.mono fun _ s => s.swap
      have hw7 := (hw6.putO (.loop ⟨.ready, none, fid, tmps, #[p], assign, body, d⟩)).mono fun _ s => s.swap
      exact ⟨_, _, run_endRound none hw6.obj_heap, true, _, rfl, hp', ⟨hw7.g, hw7.s⟩⟩
    | ret =>
      obtain ⟨L', hp', hw5⟩ := h3
      have hw6 := hw5.mono fun _ s => s.swap
      have hw7 := (hw6.putO (.loop ⟨.done, some .ret, fid, tmps, #[p], assign, body, d⟩)).mono fun _ s => s.swap
      exact ⟨_, _, run_endRound (some .ret) hw6.obj_heap, false, _, rfl, hp', ⟨hw7.g, hw7.s⟩⟩
    | exit id =>
      obtain ⟨L', hp', hw5⟩ := h3
      have hw6 := hw5.mono fun _ s => s.swap
      have hw7 := (hw6.putO (.loop ⟨.done, some (.exit id), fid, tmps, #[p], assign, body, d⟩)).mono fun _ s => s.swap
      exact ⟨_, _, run_endRound (some (.exit id)) hw6.obj_heap, false, _, rfl, hp', ⟨hw7.g, hw7.s⟩⟩
    | _ => exact h3.elim
  | _ => exact h.elim
/-- What a loop's rounds come to, its record being R. -/
def Rnd (P : Program) (n : Nat) (σ : Env) (l : Nat) (p : Tmp) (assign body : Code) (R : LoopState → Option Code → Obj) : Prop :=
  ∀ {ι : Type} {τ : ι → Env} {M : ι → List HP} {Fy : ι → Prop} {x : Value} {L : List HP} {post : Bool → List HP → Prop},
    (∀ g F, g.rnd = some l → g.dfs = [] → G P (fun _ _ _ => False) g n [.code assign, .inv (fun a w => ∃ y, Fy y ∧ Sat g n (τ y) a ∧ Hp g (F :: obj l (R .ready none) :: M y) w)] ((p, x) :: σ) (F :: obj l (R .ready none) :: L)) →
    (∀ g F y, Fy y → g.rnd = some l → g.dfs = [] → G P (rndB g F l R post) g n [.code body] (τ y) (F :: obj l (R .busy none) :: M y)) →
    Yld P l [x] (obj l (R .ready none) :: L) post
/-- A range with one variable. -/
theorem G_range1 {g0 : Operand} {p : Tmp} {assign body : Code} {f : FuncId} {c1 c2 : List Value} {post : Option Code → List HP → Prop} [H : CalT P f] (hr : g.rnd = none) (hp : Nat.blt p n = true) (hq : ev σ g0 = some (.func (.func f) c1.toArray c2.toArray))
    (hc : ∀ (l d : Nat) (R : LoopState → Option Code → Obj), Rnd P n σ l p assign body R → Ctr P f (c1 ++ [Value.func (.yield l) #[] #[]] ++ c2).toArray (obj l (R .ready none) :: obj d (.deferred (some [])) :: L)
      fun v L' => ∃ st q L1, st ≠ .busy ∧ post q L1 ∧ L' = obj l (R st q) :: obj d (.deferred (some [])) :: L1)
    (hN : ∀ d L1, post none L1 → G P B (g.withD d) n K σ (obj d (.deferred (some [])) :: L1))
    (hS : ∀ d c L1, post (some c) L1 → G P B (g.withD d) n (.code c :: K) σ (obj d (.deferred (some [])) :: L1)) :
    G P B g n (.code (.rangeFunc g0 #[p] assign body) :: K) σ L :=
  G_range hr hq (fun l d fid tmps hsz hσ => hc l d (fun st q => .loop ⟨st, q, fid, tmps, #[p], assign, body, d⟩) fun hA hB => Yld_of rfl hsz hσ hp hA hB) hN hS
/-- The variable has its value; a round's end. -/
theorem G_rndStart {ι : Type} {τ : ι → Env} {M : ι → List HP} {Fy : ι → Prop} {F : HP} {l : Nat} {r : Obj} (y : ι) (hf : Fy y) (hσ : envSub σ (τ y)) (hL : ∀ h, sat L h → sat (F :: obj l r :: M y) h) :
    G P B g n [.inv (fun a w => ∃ y, Fy y ∧ Sat g n (τ y) a ∧ Hp g (F :: obj l r :: M y) w)] σ L := fun _ _ hs hw => ⟨y, hf, hs.sub hσ, hw.mono hL⟩
theorem G_rndEnd {F : HP} {l : Nat} {R : LoopState → Option Code → Obj} {post : Bool → List HP → Prop} (L' : List HP) (hp : post true (obj l (R .ready none) :: L')) (hL : ∀ h, sat L h → sat (F :: obj l (R .busy none) :: L') h) :
    G P (rndB g F l R post) g n [] σ L := fun _ _ _ hw => ⟨L', hp, hw.mono hL⟩
end
end Go.Proofs.YtjgdhkilnalejaaGreat
/- Picking out of points, by any order that has no equal ones: the walks (out of XPkI). -/
namespace Go.Proofs.YtjgdhkilnalejaaGreat
attribute [local irreducible] sat
set_option linter.unusedVariables false
set_option linter.unusedSimpArgs false
set_option maxRecDepth 100000

theorem takeM_snoc {l : List Pt} {k : Nat} {x : Pt} (h : l[k]? = some x) : l.take (k + 1) = l.take k ++ [x] := by
  rw [List.take_add_one, h]; rfl
section
variable {ls : Pt → Pt → Bool}
theorem lowO_snoc (v x : Pt) (l : List Pt) : lowO ls v (l ++ [x]) = lowO ls v l ++ if ls x v = true then [x] else [] := by
  unfold lowO; rw [List.filter_append]; congr 1; simp [List.filter_cons]
theorem likeO_snoc (v x : Pt) (l : List Pt) : likeO v (l ++ [x]) = likeO v l ++ if x = v then [x] else [] := by
  unfold likeO; rw [List.filter_append]; congr 1; simp [List.filter_cons]
theorem highO_snoc (v x : Pt) (l : List Pt) : highO ls v (l ++ [x]) = highO ls v l ++ if ls v x = true then [x] else [] := by
  unfold highO; rw [List.filter_append]; congr 1; simp [List.filter_cons]
end
/-- Three slices of a call's own. -/
structure P3 where
  A1 : Option Addr
  c1 : Nat
  A2 : Option Addr
  c2 : Nat
  A3 : Option Addr
  c3 : Nat
structure P3.Ok (s : P3) (n1 n2 n3 : Nat) : Prop where
  h1 : 0 < n1 → ∃ b, s.A1 = some ⟨b, 0, none⟩
  h2 : 0 < n2 → ∃ b, s.A2 = some ⟨b, 0, none⟩
  h3 : 0 < n3 → ∃ b, s.A3 = some ⟨b, 0, none⟩
  k1 : n1 ≤ s.c1
  k2 : n2 ≤ s.c2
  k3 : n3 ≤ s.c3
section
variable {f : FuncId} [CalT Tryz.prog f] {ls : Pt → Pt → Bool} (so : STO ls) (hf : LsT f ls)
include so
theorem tri (x v : Pt) : ls x v = true ∨ x = v ∨ ls v x = true := by
  by_cases h : ls x v = true
  · exact .inl h
  · by_cases e : x = v
    · exact .inr (.inl e)
    · exact .inr (.inr (so.tot e (by simpa using h)))
include hf
theorem partsM_ctr (A : Option Addr) (n c : Nat) (l : List Pt) (v : Pt) (L : List HP) (hl : Rd L A n l) (hn : n ≤ 1000000) :
    Ctr Tryz.prog 126 #[.slice A n c, v.v, .func (.func f) #[] #[]] L fun r L' => ∃ s : P3, r = .tuple #[.slice s.A1 (lowO ls v l).length s.c1, .slice s.A2 (likeO v l).length s.c2, .slice s.A3 (highO ls v l).length s.c3] ∧ s.Ok (lowO ls v l).length (likeO v l).length (highO ls v l).length ∧
      L' = own 58 3 s.A1 (lowO ls v l).length s.c1 (flat (lowO ls v l)) :: own 58 3 s.A2 (likeO v l).length s.c2 (flat (likeO v l)) :: own 58 3 s.A3 (highO ls v l).length s.c3 (flat (highO ls v l)) :: L := by
  have h1 : l.length = n := hl.len (by decide)
  refine Ctr_of (fn := Tryz.f126) (n := 43) Tryz.func126 rfl rfl rfl ?_
  intro g F
  (repeat first | refine G_seq ?_ | refine G_skip ?_ | refine G_endblk ?_ | refine G_block ?_ | refine G_exit rfl ?_)
  refine G_region ?_
  refine GO_eff rfl rfl (eff_box rfl) ?_; rintro _ _ ⟨b4, rfl, rfl⟩
  refine GO_q rfl rfl (ev_assign rfl) ?_
  refine GO_q rfl rfl (ev_assign rfl) ?_
  refine GO_q rfl rfl (ev_assign rfl) ?_
  refine GO_nil ?_
  (repeat first | refine G_seq ?_ | refine G_skip ?_ | refine G_endblk ?_ | refine G_block ?_ | refine G_exit rfl ?_)
  refine G_region ?_
  refine GO_q rfl rfl (ev_move rfl) ?_
  refine GO_q rfl rfl (ev_len rfl) ?_
  refine GO_q rfl rfl (ev_move rfl) ?_
  refine GO_nil ?_
  (repeat first | refine G_seq ?_ | refine G_skip ?_ | refine G_endblk ?_ | refine G_block ?_ | refine G_exit rfl ?_)
  refine G_heap (own.nil_ 58 3) ?_
  refine G_heap (own.nil_ 58 3) ?_
  refine G_heap (own.nil_ 58 3) ?_
  refine G_loop (ι := Nat × P3) (fun z => [(4, .pointer (some ⟨b4, 0, none⟩)), (2, .func (.func f) #[] #[]), (6, .slice z.2.A1 (lowO ls v (l.take z.1)).length z.2.c1), (7, .slice z.2.A2 (likeO v (l.take z.1)).length z.2.c2), (8, .slice z.2.A3 (highO ls v (l.take z.1)).length z.2.c3), (11, .slice A n c), (12, .int .i64 (n : Nat)), (13, .int .i64 (z.1 : Nat))])
    (fun z => own 58 3 z.2.A1 (lowO ls v (l.take z.1)).length z.2.c1 (flat (lowO ls v (l.take z.1))) :: own 58 3 z.2.A2 (likeO v (l.take z.1)).length z.2.c2 (flat (likeO v (l.take z.1))) :: own 58 3 z.2.A3 (highO ls v (l.take z.1)).length z.2.c3 (flat (highO ls v (l.take z.1))) :: blk b4 58 [.int .i64 v.id, .int .i64 v.x, .int .i64 v.y] :: F :: L)
    (fun z => z.1 ≤ n ∧ z.2.Ok (lowO ls v (l.take z.1)).length (likeO v (l.take z.1)).length (highO ls v (l.take z.1)).length) (fun z => n - z.1) (0, ⟨none, 0, none, 0, none, 0⟩) ⟨Nat.zero_le _, ⟨fun h => absurd h (Nat.lt_irrefl 0), fun h => absurd h (Nat.lt_irrefl 0), fun h => absurd h (Nat.lt_irrefl 0), Nat.le_refl _, Nat.le_refl _, Nat.le_refl _⟩⟩ ⟨rfl, rfl, rfl, rfl, rfl, rfl, rfl, rfl, trivial⟩ (by show ∀ h, _ → sat (own 58 3 none 0 0 [] :: own 58 3 none 0 0 [] :: own 58 3 none 0 0 [] :: blk b4 58 [.int .i64 v.id, .int .i64 v.x, .int .i64 v.y] :: F :: L) h; exact (by (repeat first | exact fun _ s => s | apply en_keep | apply en_drop | apply en_app) <;> fail)) ?_
  rintro ⟨k, s⟩ ⟨f1, f2⟩
  simp only at f1 f2
  dsimp only
  have b1 : (lowO ls v (l.take k)).length ≤ 1000000 := Nat.le_trans (List.length_filter_le _ _) (by rw [List.length_take]; omega)
  have b2 : (likeO v (l.take k)).length ≤ 1000000 := Nat.le_trans (List.length_filter_le _ _) (by rw [List.length_take]; omega)
  have b3 : (highO ls v (l.take k)).length ≤ 1000000 := Nat.le_trans (List.length_filter_le _ _) (by rw [List.length_take]; omega)
  (repeat first | refine G_seq ?_ | refine G_skip ?_ | refine G_endblk ?_ | refine G_block ?_ | refine G_exit rfl ?_)
  refine G_region ?_
  (first | refine GO_q rfl rfl (ev_lssN rfl rfl) ?_ | refine GO_q rfl rfl (ev_lss rfl rfl) ?_)
  refine GO_nil ?_
  (repeat first | refine G_seq ?_ | refine G_skip ?_ | refine G_endblk ?_ | refine G_block ?_ | refine G_exit rfl ?_)
  refine G_cond rfl (fun q1 => ?_) (fun q1 => ?_)
  · obtain ⟨ab, ao, rfl, ax⟩ := hl.at_ (by omega)
    have g1 : l[k]? = some l[k] := List.getElem?_eq_getElem (by omega)
    have y1 := ax _ _ g1
    have hs := takeM_snoc g1
    generalize l[k] = x at *
    have z1 : LdN L ab (ao + k * 3) 3 [.int .i64 x.id, .int .i64 x.x, .int .i64 x.y] := y1
    have t1 := lowO_snoc (ls := ls) v x (l.take k)
    have t2 := likeO_snoc v x (l.take k)
    have t3 := highO_snoc (ls := ls) v x (l.take k)
    rw [← hs] at t1 t2 t3
    (repeat first | refine G_seq ?_ | refine G_skip ?_ | refine G_endblk ?_ | refine G_block ?_ | refine G_exit rfl ?_)
    refine G_region ?_
    (first | refine GO_q rfl rfl (ev_indexAddrN rfl rfl (by first | omega | (simp; done) | (simp; omega))) ?_ | refine GO_q rfl rfl (ev_indexAddr rfl rfl (by first | omega | (simp; done) | (simp; omega)) (by first | omega | (simp; done) | (simp; omega))) ?_)
    refine GO_q rfl rfl (ev_loadN rfl (by repeat' first | exact LdN.blk rfl | assumption | apply LdN.skip | apply LdN.app)) ?_
    refine GO_eff rfl rfl eff_alloc ?_; rintro _ _ ⟨b10, rfl, rfl⟩
    refine GO_eff rfl rfl (eff_storeN rfl rfl rfl rfl (by repeat' first | exact Upd.here rfl | apply Upd.skip | apply Upd.app)) ?_; rintro _ _ ⟨rfl, rfl⟩
    refine GO_nil ?_
    (repeat first | refine G_seq ?_ | refine G_skip ?_ | refine G_endblk ?_ | refine G_block ?_ | refine G_exit rfl ?_)
    refine G_region ?_
    refine GO_q rfl rfl (ev_move rfl) ?_
    refine GO_q rfl rfl (ev_loadN rfl (by repeat' first | exact LdN.blk rfl | assumption | apply LdN.skip | apply LdN.app)) ?_
    refine GO_q rfl rfl (ev_loadN rfl (by repeat' first | exact LdN.blk rfl | assumption | apply LdN.skip | apply LdN.app)) ?_
    refine GO_eff rfl rfl (eff_callv rfl rfl (hf.ctr x v _)) ?_; rintro _ _ ⟨rfl, rfl⟩
    refine GO_q rfl rfl (ev_assign rfl) ?_
    refine GO_nil ?_
    rcases tri so x v with q | q | q
    · have e1 : ls x v = true := q
      have e3 : ls v x = false := so.asym q
      have ne : x ≠ v := fun e => by rw [e, so.irr] at q; cases q
      rw [e1, if_pos rfl] at t1
      rw [if_neg ne, List.append_nil] at t2
      rw [e3, if_neg (by simp), List.append_nil] at t3
      (repeat first | refine G_seq ?_ | refine G_skip ?_ | refine G_endblk ?_ | refine G_block ?_ | refine G_exit rfl ?_)
      refine G_cond_t rfl e1 ?_
      (repeat first | refine G_seq ?_ | refine G_skip ?_ | refine G_endblk ?_ | refine G_block ?_ | refine G_exit rfl ?_)
      refine G_region ?_
      refine GO_q rfl rfl (ev_move rfl) ?_
      refine GO_q rfl rfl (ev_loadN rfl (by repeat' first | exact LdN.blk rfl | assumption | apply LdN.skip | apply LdN.app)) ?_
      refine GO_eff rfl rfl (eff_buildSlice1 (by rfl) rfl rfl) ?_; rintro _ _ ⟨b28, rfl, rfl⟩
      refine GO_eff rfl rfl (eff_append rfl rfl (by repeat' first | exact Pick.here | apply Pick.skip) (by repeat' first | exact Rc.blk rfl | assumption | apply Rc.skip) (one_all rfl) (by rfl) (by decide) (by first | omega | (simp; done) | (simp; omega)) (by first | omega | (simp; done) | (simp; omega))) ?_; rintro _ _ ⟨A29, c29, rfl, hc29, hm29, hn29, rfl⟩
      refine GO_q rfl rfl (ev_assign rfl) ?_
      refine GO_nil ?_
      (repeat first | refine G_seq ?_ | refine G_skip ?_ | refine G_endblk ?_ | refine G_block ?_ | refine G_exit rfl ?_)
      refine G_region ?_
      (first | refine GO_q rfl rfl (ev_addN (q := 1) rfl rfl (by first | omega | (simp; done) | (simp; omega))) ?_ | refine GO_q rfl rfl (ev_add rfl rfl (by first | omega | (simp; done) | (simp; omega))) ?_)
      refine GO_q rfl rfl (ev_move rfl) ?_
      refine GO_nil ?_
      (repeat first | refine G_seq ?_ | refine G_skip ?_ | refine G_endblk ?_ | refine G_block ?_ | refine G_exit rfl ?_)
      exact G_round (k + 1, { s with A1 := A29, c1 := c29 }) ⟨by simp only; omega, by
        simp only
        rw [t1, t2, t3, List.length_append]
        exact ⟨fun _ => hn29 (by omega), f2.h2, f2.h3, hc29, f2.k2, f2.k3⟩⟩ (by simp only; omega) ⟨rfl, rfl, by simp only; rw [t1, List.length_append]; rfl, by simp only; rw [t2]; rfl, by simp only; rw [t3]; rfl, rfl, rfl, rfl, trivial⟩ (by
        simp only
        rw [t1, t2, t3, List.length_append, ← flat_snoc]
        exact (by (repeat first | exact en_refl | (apply en_blk; focus ((repeat' first | exact Pick.here | apply Pick.skip | apply Pick.app); done); focus rfl) | (apply en_own; focus ((repeat' first | exact Pick.here | apply Pick.skip | apply Pick.app); done); focus rfl) | (apply en_pick; focus ((repeat' first | exact Pick.here | apply Pick.skip | apply Pick.app); done)) | apply en_drop | apply en_app) <;> fail))
    · subst q
      have e1 : ls x x = false := so.irr x
      rw [e1, if_neg (by simp), List.append_nil] at t1
      rw [if_pos rfl] at t2
      rw [e1, if_neg (by simp), List.append_nil] at t3
      (repeat first | refine G_seq ?_ | refine G_skip ?_ | refine G_endblk ?_ | refine G_block ?_ | refine G_exit rfl ?_)
      refine G_cond_f rfl e1 ?_
      (repeat first | refine G_seq ?_ | refine G_skip ?_ | refine G_endblk ?_ | refine G_block ?_ | refine G_exit rfl ?_)
      refine G_region ?_
      refine GO_q rfl rfl (ev_move rfl) ?_
      refine GO_q rfl rfl (ev_loadN rfl (by repeat' first | exact LdN.blk rfl | assumption | apply LdN.skip | apply LdN.app)) ?_
      refine GO_q rfl rfl (ev_loadN rfl (by repeat' first | exact LdN.blk rfl | assumption | apply LdN.skip | apply LdN.app)) ?_
      refine GO_eff rfl rfl (eff_callv rfl rfl (hf.ctr x x _)) ?_; rintro _ _ ⟨rfl, rfl⟩
      refine GO_q rfl rfl (ev_assign rfl) ?_
      refine GO_nil ?_
      (repeat first | refine G_seq ?_ | refine G_skip ?_ | refine G_endblk ?_ | refine G_block ?_ | refine G_exit rfl ?_)
      refine G_cond_f rfl e1 ?_
      (repeat first | refine G_seq ?_ | refine G_skip ?_ | refine G_endblk ?_ | refine G_block ?_ | refine G_exit rfl ?_)
      refine G_region ?_
      refine GO_q rfl rfl (ev_move rfl) ?_
      refine GO_q rfl rfl (ev_loadN rfl (by repeat' first | exact LdN.blk rfl | assumption | apply LdN.skip | apply LdN.app)) ?_
      refine GO_eff rfl rfl (eff_buildSlice1 (by rfl) rfl rfl) ?_; rintro _ _ ⟨b19, rfl, rfl⟩
      refine GO_eff rfl rfl (eff_append rfl rfl (by repeat' first | exact Pick.here | apply Pick.skip) (by repeat' first | exact Rc.blk rfl | assumption | apply Rc.skip) (one_all rfl) (by rfl) (by decide) (by first | omega | (simp; done) | (simp; omega)) (by first | omega | (simp; done) | (simp; omega))) ?_; rintro _ _ ⟨A20, c20, rfl, hc20, hm20, hn20, rfl⟩
      refine GO_q rfl rfl (ev_assign rfl) ?_
      refine GO_nil ?_
      (repeat first | refine G_seq ?_ | refine G_skip ?_ | refine G_endblk ?_ | refine G_block ?_ | refine G_exit rfl ?_)
      refine G_region ?_
      (first | refine GO_q rfl rfl (ev_addN (q := 1) rfl rfl (by first | omega | (simp; done) | (simp; omega))) ?_ | refine GO_q rfl rfl (ev_add rfl rfl (by first | omega | (simp; done) | (simp; omega))) ?_)
      refine GO_q rfl rfl (ev_move rfl) ?_
      refine GO_nil ?_
      (repeat first | refine G_seq ?_ | refine G_skip ?_ | refine G_endblk ?_ | refine G_block ?_ | refine G_exit rfl ?_)
      exact G_round (k + 1, { s with A2 := A20, c2 := c20 }) ⟨by simp only; omega, by
        simp only
        rw [t1, t2, t3, List.length_append]
        exact ⟨f2.h1, fun _ => hn20 (by omega), f2.h3, f2.k1, hc20, f2.k3⟩⟩ (by simp only; omega) ⟨rfl, rfl, by simp only; rw [t1]; rfl, by simp only; rw [t2, List.length_append]; rfl, by simp only; rw [t3]; rfl, rfl, rfl, rfl, trivial⟩ (by
        simp only
        rw [t1, t2, t3, List.length_append, ← flat_snoc]
        exact (by (repeat first | exact en_refl | (apply en_blk; focus ((repeat' first | exact Pick.here | apply Pick.skip | apply Pick.app); done); focus rfl) | (apply en_own; focus ((repeat' first | exact Pick.here | apply Pick.skip | apply Pick.app); done); focus rfl) | (apply en_pick; focus ((repeat' first | exact Pick.here | apply Pick.skip | apply Pick.app); done)) | apply en_drop | apply en_app) <;> fail))
    · have e1 : ls x v = false := so.asym q
      have e3 : ls v x = true := q
      have ne : x ≠ v := fun e => by rw [e, so.irr] at q; cases q
      rw [e1, if_neg (by simp), List.append_nil] at t1
      rw [if_neg ne, List.append_nil] at t2
      rw [e3, if_pos rfl] at t3
      (repeat first | refine G_seq ?_ | refine G_skip ?_ | refine G_endblk ?_ | refine G_block ?_ | refine G_exit rfl ?_)
      refine G_cond_f rfl e1 ?_
      (repeat first | refine G_seq ?_ | refine G_skip ?_ | refine G_endblk ?_ | refine G_block ?_ | refine G_exit rfl ?_)
      refine G_region ?_
      refine GO_q rfl rfl (ev_move rfl) ?_
      refine GO_q rfl rfl (ev_loadN rfl (by repeat' first | exact LdN.blk rfl | assumption | apply LdN.skip | apply LdN.app)) ?_
      refine GO_q rfl rfl (ev_loadN rfl (by repeat' first | exact LdN.blk rfl | assumption | apply LdN.skip | apply LdN.app)) ?_
      refine GO_eff rfl rfl (eff_callv rfl rfl (hf.ctr v x _)) ?_; rintro _ _ ⟨rfl, rfl⟩
      refine GO_q rfl rfl (ev_assign rfl) ?_
      refine GO_nil ?_
      (repeat first | refine G_seq ?_ | refine G_skip ?_ | refine G_endblk ?_ | refine G_block ?_ | refine G_exit rfl ?_)
      refine G_cond_t rfl e3 ?_
      (repeat first | refine G_seq ?_ | refine G_skip ?_ | refine G_endblk ?_ | refine G_block ?_ | refine G_exit rfl ?_)
      refine G_region ?_
      refine GO_q rfl rfl (ev_move rfl) ?_
      refine GO_q rfl rfl (ev_loadN rfl (by repeat' first | exact LdN.blk rfl | assumption | apply LdN.skip | apply LdN.app)) ?_
      refine GO_eff rfl rfl (eff_buildSlice1 (by rfl) rfl rfl) ?_; rintro _ _ ⟨b37, rfl, rfl⟩
      refine GO_eff rfl rfl (eff_append rfl rfl (by repeat' first | exact Pick.here | apply Pick.skip) (by repeat' first | exact Rc.blk rfl | assumption | apply Rc.skip) (one_all rfl) (by rfl) (by decide) (by first | omega | (simp; done) | (simp; omega)) (by first | omega | (simp; done) | (simp; omega))) ?_; rintro _ _ ⟨A38, c38, rfl, hc38, hm38, hn38, rfl⟩
      refine GO_q rfl rfl (ev_assign rfl) ?_
      refine GO_nil ?_
      (repeat first | refine G_seq ?_ | refine G_skip ?_ | refine G_endblk ?_ | refine G_block ?_ | refine G_exit rfl ?_)
      refine G_region ?_
      (first | refine GO_q rfl rfl (ev_addN (q := 1) rfl rfl (by first | omega | (simp; done) | (simp; omega))) ?_ | refine GO_q rfl rfl (ev_add rfl rfl (by first | omega | (simp; done) | (simp; omega))) ?_)
      refine GO_q rfl rfl (ev_move rfl) ?_
      refine GO_nil ?_
      (repeat first | refine G_seq ?_ | refine G_skip ?_ | refine G_endblk ?_ | refine G_block ?_ | refine G_exit rfl ?_)
      exact G_round (k + 1, { s with A3 := A38, c3 := c38 }) ⟨by simp only; omega, by
        simp only
        rw [t1, t2, t3, List.length_append]
        exact ⟨f2.h1, f2.h2, fun _ => hn38 (by omega), f2.k1, f2.k2, hc38⟩⟩ (by simp only; omega) ⟨rfl, rfl, by simp only; rw [t1]; rfl, by simp only; rw [t2]; rfl, by simp only; rw [t3, List.length_append]; rfl, rfl, rfl, rfl, trivial⟩ (by
        simp only
        rw [t1, t2, t3, List.length_append, ← flat_snoc]
        exact (by (repeat first | exact en_refl | (apply en_blk; focus ((repeat' first | exact Pick.here | apply Pick.skip | apply Pick.app); done); focus rfl) | (apply en_own; focus ((repeat' first | exact Pick.here | apply Pick.skip | apply Pick.app); done); focus rfl) | (apply en_pick; focus ((repeat' first | exact Pick.here | apply Pick.skip | apply Pick.app); done)) | apply en_drop | apply en_app) <;> fail))
  · have e : l.take k = l := List.take_of_length_le (by omega)
    rw [e] at f2 ⊢
    (repeat first | refine G_seq ?_ | refine G_skip ?_ | refine G_endblk ?_ | refine G_block ?_ | refine G_exit rfl ?_)
    refine G_region ?_
    refine GO_q rfl rfl (ev_move rfl) ?_
    refine GO_q rfl rfl (ev_move rfl) ?_
    refine GO_q rfl rfl (ev_move rfl) ?_
    refine GO_q rfl rfl (ev_assign rfl) ?_
    refine GO_q rfl rfl (ev_assign rfl) ?_
    refine GO_q rfl rfl (ev_assign rfl) ?_
    refine GO_nil ?_
    (repeat first | refine G_seq ?_ | refine G_skip ?_ | refine G_endblk ?_ | refine G_block ?_ | refine G_exit rfl ?_)
    exact G_ret (L' := own 58 3 s.A1 (lowO ls v l).length s.c1 (flat (lowO ls v l)) :: own 58 3 s.A2 (likeO v l).length s.c2 (flat (likeO v l)) :: own 58 3 s.A3 (highO ls v l).length s.c3 (flat (highO ls v l)) :: L) rfl (.tmp rfl (.tmp rfl (.tmp rfl .nil))) (by (repeat first | exact en_refl | (apply en_blk; focus ((repeat' first | exact Pick.here | apply Pick.skip | apply Pick.app); done); focus rfl) | (apply en_own; focus ((repeat' first | exact Pick.here | apply Pick.skip | apply Pick.app); done); focus rfl) | (apply en_pick; focus ((repeat' first | exact Pick.here | apply Pick.skip | apply Pick.app); done)) | apply en_drop | apply en_app) <;> fail) ⟨s, rfl, f2, rfl⟩
end
/-- slices.Chunk -/
theorem Chunk_ctr (A : Option Addr) (n c : Nat) (L : List HP) : Ctr Tryz.prog 132 #[.slice A n c, .int .i64 5] L fun v L' => ∃ b2 b3, v = .func (.func 134) #[] #[.pointer (some ⟨b2, 0, none⟩), .pointer (some ⟨b3, 0, none⟩)] ∧ L' = blk b2 54 [.slice A n c] :: blk b3 3 [.int .i64 5] :: L := by
  refine Ctr_of (fn := Tryz.f132) (n := 9) Tryz.func132 rfl rfl rfl ?_
  intro g F
  (repeat first | refine G_seq ?_ | refine G_skip ?_ | refine G_endblk ?_ | refine G_block ?_ | refine G_exit rfl ?_)
  refine G_region ?_
  refine GO_eff rfl rfl (eff_box rfl) ?_; rintro _ _ ⟨b2, rfl, rfl⟩
  refine GO_eff rfl rfl (eff_box rfl) ?_; rintro _ _ ⟨b3, rfl, rfl⟩
  refine GO_q rfl rfl (ev_assign rfl) ?_
  refine GO_nil ?_
  (repeat first | refine G_seq ?_ | refine G_skip ?_ | refine G_endblk ?_ | refine G_block ?_ | refine G_exit rfl ?_)
  refine G_region ?_
  refine GO_q rfl rfl (ev_load rfl (by repeat' first | exact Ld.blk rfl | assumption | apply Ld.skip | apply Ld.app)) ?_
  (first | refine GO_q rfl rfl (ev_lssN (q := 1) rfl rfl) ?_ | refine GO_q rfl rfl (ev_lss rfl rfl) ?_)
  refine GO_nil ?_
  (repeat first | refine G_seq ?_ | refine G_skip ?_ | refine G_endblk ?_ | refine G_block ?_ | refine G_exit rfl ?_)
  refine G_cond_f rfl rfl ?_
  (repeat first | refine G_seq ?_ | refine G_skip ?_ | refine G_endblk ?_ | refine G_block ?_ | refine G_exit rfl ?_)
  refine G_region ?_
  refine GO_q rfl rfl (ev_makeFunc rfl rfl) ?_
  refine GO_q rfl rfl (ev_assign rfl) ?_
  refine GO_nil ?_
  (repeat first | refine G_seq ?_ | refine G_skip ?_ | refine G_endblk ?_ | refine G_block ?_ | refine G_exit rfl ?_)
  exact G_ret (L' := blk b2 54 [.slice A n c] :: blk b3 3 [.int .i64 5] :: L) rfl (.tmp rfl .nil) (by (repeat first | exact en_refl | (apply en_blk; focus ((repeat' first | exact Pick.here | apply Pick.skip | apply Pick.app); done); focus rfl) | (apply en_own; focus ((repeat' first | exact Pick.here | apply Pick.skip | apply Pick.app); done); focus rfl) | (apply en_pick; focus ((repeat' first | exact Pick.here | apply Pick.skip | apply Pick.app); done)) | apply en_drop | apply en_app) <;> fail) ⟨b2, b3, rfl, rfl⟩
theorem chunks_ctr {S : Type} (y b2 b3 b o n c : Nat) (xs : List Pt) (L : Nat → S → List HP) (Inv : Nat → S → Prop) (hRd : ∀ k s, Inv k s → Rd (L k s) (some ⟨b, o, none⟩) n xs) (hn : n ≤ 1000000) (hc : n ≤ c)
    (hy : ∀ k s, 5 * k < n → Inv k s → Yld Tryz.prog y [.slice (some ⟨b, o + 5 * k * 3, none⟩) (min 5 (n - 5 * k)) (min 5 (n - 5 * k))] (L k s) fun q L' => q = true ∧ ∃ s', Inv (k + 1) s' ∧ L' = L (k + 1) s') (s0 : S) (h0 : Inv 0 s0) :
    Ctr Tryz.prog 134 #[Value.func (.yield y) #[] #[], .pointer (some ⟨b2, 0, none⟩), .pointer (some ⟨b3, 0, none⟩)] (blk b2 54 [.slice (some ⟨b, o, none⟩) n c] :: blk b3 3 [.int .i64 5] :: L 0 s0) fun v L' => v = .tuple #[] ∧ ∃ k s', n ≤ 5 * k ∧ 5 * k < n + 5 ∧ Inv k s' ∧ L' = blk b2 54 [.slice (some ⟨b, o, none⟩) n c] :: blk b3 3 [.int .i64 5] :: L k s' := by
  refine Ctr_of (fn := Tryz.f134) (n := 31) Tryz.func134 rfl rfl rfl ?_
  intro g F
  (repeat first | refine G_seq ?_ | refine G_skip ?_ | refine G_endblk ?_ | refine G_block ?_ | refine G_exit rfl ?_)
  refine G_region ?_
  refine GO_q rfl rfl (ev_assign rfl) ?_
  refine GO_nil ?_
  (repeat first | refine G_seq ?_ | refine G_skip ?_ | refine G_endblk ?_ | refine G_block ?_ | refine G_exit rfl ?_)
  refine G_loop (ι := Nat × S) (fun z => [(0, Value.func (.yield y) #[] #[]), (1, .pointer (some ⟨b2, 0, none⟩)), (2, .pointer (some ⟨b3, 0, none⟩)), (4, .int .i64 ((5 * z.1 : Nat) : Int))]) (fun z => F :: blk b2 54 [.slice (some ⟨b, o, none⟩) n c] :: blk b3 3 [.int .i64 5] :: L z.1 z.2) (fun z => 5 * z.1 < n + 5 ∧ Inv z.1 z.2) (fun z => n + 5 - 5 * z.1) (0, s0) ⟨by simp only; omega, h0⟩ ⟨rfl, rfl, rfl, rfl, trivial⟩ (by (repeat first | exact fun _ s => s | apply en_keep | apply en_drop | apply en_app) <;> fail) ?_
  rintro ⟨k, s⟩ ⟨f1, f2⟩
  simp only at f1 f2
  dsimp only
  (repeat first | refine G_seq ?_ | refine G_skip ?_ | refine G_endblk ?_ | refine G_block ?_ | refine G_exit rfl ?_)
  refine G_region ?_
  refine GO_q rfl rfl (ev_move rfl) ?_
  refine GO_q rfl rfl (ev_load rfl (by repeat' first | exact Ld.blk rfl | assumption | apply Ld.skip | apply Ld.app)) ?_
  refine GO_q rfl rfl (ev_len rfl) ?_
  (first | refine GO_q rfl rfl (ev_lssN rfl rfl) ?_ | refine GO_q rfl rfl (ev_lss rfl rfl) ?_)
  refine GO_nil ?_
  (repeat first | refine G_seq ?_ | refine G_skip ?_ | refine G_endblk ?_ | refine G_block ?_ | refine G_exit rfl ?_)
  refine G_cond rfl (fun q1 => ?_) (fun q1 => ?_)
  · have hyk := hy k s (by omega) f2
    obtain ⟨i, hi⟩ : ∃ i, i = 5 * k := ⟨_, rfl⟩
    obtain ⟨m, hm⟩ : ∃ m, m = min 5 (n - i) := ⟨_, rfl⟩
    have hme : (min (5 : Int) ((n - i : Nat) : Int)) = (m : Int) := by omega
    rw [← hi] at hyk q1 f1 ⊢
    rw [← hm] at hyk
    (repeat first | refine G_seq ?_ | refine G_skip ?_ | refine G_endblk ?_ | refine G_block ?_ | refine G_exit rfl ?_)
    refine G_draw (.q 0 (.q 1 (.q 2 (.q 3 (.q 4 (.q 5 (.q 6 .nil))))))) (by kernel_rfl) (by kernel_rfl) ?_
    refine RS_q retB_noPanic rfl rfl rfl rfl (ev_load rfl (by repeat' first | exact Ld.blk rfl | assumption | apply Ld.skip | apply Ld.app)) ?_
    refine RS_q retB_noPanic rfl rfl rfl rfl (ev_load rfl (by repeat' first | exact Ld.blk rfl | assumption | apply Ld.skip | apply Ld.app)) ?_
    refine RS_m retB_noPanic rfl rfl rfl rfl (ev_move rfl) ?_
    refine RS_q retB_noPanic rfl rfl rfl rfl (ev_sliceL rfl rfl (by omega) (by omega)) ?_
    refine RS_q retB_noPanic rfl rfl rfl rfl (ev_len rfl) ?_
    refine RS_q retB_noPanic rfl rfl rfl rfl (ev_min rfl rfl) ?_
    refine RS_m retB_noPanic rfl rfl rfl rfl (ev_assign rfl) ?_
    refine RS_nil ?_
    rw [hme]
    (repeat first | refine G_seq ?_ | refine G_skip ?_ | refine G_endblk ?_ | refine G_block ?_ | refine G_exit rfl ?_)
    refine G_region ?_
    refine GO_q rfl rfl (ev_move rfl) ?_
    refine GO_q rfl rfl (ev_load rfl (by repeat' first | exact Ld.blk rfl | assumption | apply Ld.skip | apply Ld.app)) ?_
    refine GO_q rfl rfl (ev_move rfl) ?_
    refine GO_q rfl rfl (ev_move rfl) ?_
    refine GO_q rfl rfl (ev_move rfl) ?_
    (first | refine GO_q rfl rfl (ev_addN rfl rfl (by first | omega | (simp; done) | (simp; omega))) ?_ | refine GO_q rfl rfl (ev_add rfl rfl (by first | omega | (simp; done) | (simp; omega))) ?_)
    refine GO_q rfl rfl (ev_move rfl) ?_
    refine GO_q rfl rfl (ev_move rfl) ?_
    (first | refine GO_q rfl rfl (ev_addN rfl rfl (by first | omega | (simp; done) | (simp; omega))) ?_ | refine GO_q rfl rfl (ev_add rfl rfl (by first | omega | (simp; done) | (simp; omega))) ?_)
    refine GO_q rfl rfl (ev_slice3 (l := i) (h := i + m) (m := i + m) rfl rfl rfl rfl (by omega) (by omega) (by omega)) ?_
    rw [show i + m - i = m by omega, if_neg (show ¬ i + m = i by omega)]
    refine GO_yield rfl rfl rfl (Yld.frame [F, blk b2 54 [.slice (some ⟨b, o, none⟩) n c], blk b3 3 [.int .i64 5]] hyk (fun _ s => s)) ?_
    rintro q L' ⟨L1, ⟨rfl, s', hs', rfl⟩, rfl⟩
    refine GO_q rfl rfl (ev_not rfl) ?_
    refine GO_nil ?_
    (repeat first | refine G_seq ?_ | refine G_skip ?_ | refine G_endblk ?_ | refine G_block ?_ | refine G_exit rfl ?_)
    refine G_cond_f rfl rfl ?_
    (repeat first | refine G_seq ?_ | refine G_skip ?_ | refine G_endblk ?_ | refine G_block ?_ | refine G_exit rfl ?_)
    refine G_region ?_
    refine GO_q rfl rfl (ev_move rfl) ?_
    refine GO_q rfl rfl (ev_load rfl (by repeat' first | exact Ld.blk rfl | assumption | apply Ld.skip | apply Ld.app)) ?_
    (first | refine GO_q rfl rfl (ev_addN rfl rfl (by first | omega | (simp; done) | (simp; omega))) ?_ | refine GO_q rfl rfl (ev_add rfl rfl (by first | omega | (simp; done) | (simp; omega))) ?_)
    refine GO_q rfl rfl (ev_assign rfl) ?_
    refine GO_nil ?_
    (repeat first | refine G_seq ?_ | refine G_skip ?_ | refine G_endblk ?_ | refine G_block ?_ | refine G_exit rfl ?_)
    exact G_round (k + 1, s') ⟨by simp only; omega, hs'⟩ (by simp only; omega) ⟨rfl, rfl, rfl, by rw [hi]; rfl, trivial⟩ (by (repeat first | exact fun _ s => s | apply en_keep | apply en_drop | apply en_app) <;> fail)
  · (repeat first | refine G_seq ?_ | refine G_skip ?_ | refine G_endblk ?_ | refine G_block ?_ | refine G_exit rfl ?_)
    exact G_end (rs := []) (vs := []) (L' := blk b2 54 [.slice (some ⟨b, o, none⟩) n c] :: blk b3 3 [.int .i64 5] :: L k s) rfl .nil (by (repeat first | exact fun _ s => s | apply en_keep | apply en_drop | apply en_app) <;> fail) ⟨rfl, k, s, by omega, f1, f2, rfl⟩
end Go.Proofs.YtjgdhkilnalejaaGreat
/- Picking out of points: middles, nth, split (out of XPkJ). -/
namespace Go.Proofs.YtjgdhkilnalejaaGreat
attribute [local irreducible] sat
set_option linter.unusedVariables false
set_option linter.unusedSimpArgs false
set_option maxRecDepth 100000

section
variable {f : FuncId} [CalT Tryz.prog f] {ls : Pt → Pt → Bool} (so : STO ls) (hf : LsT f ls)
include so hf
theorem middlesM_ctr (A : Option Addr) (n c : Nat) (l : List Pt) (L : List HP) (hl : Rd L A n l) (h0 : 0 < n) (hn : n ≤ 1000000) (hc : n ≤ c) :
    Ctr Tryz.prog 130 #[.slice A n c, .func (.func f) #[] #[]] L fun r L' => ∃ ms : List Pt, ((∀ x ∈ ms, x ∈ l) ∧ 5 * ms.length < n + 5 ∧ n ≤ 5 * ms.length) ∧ MadeC 58 ms L r L' := by
  have h1 : l.length = n := hl.len (by decide)
  obtain ⟨b, o, rfl, _⟩ := hl.at_ h0
  refine Ctr_ofM (fn := Tryz.f130) (n := 24) Tryz.func130 rfl rfl rfl ?_
  intro g F hgb
  (repeat first | refine G_seq ?_ | refine G_skip ?_ | refine G_endblk ?_ | refine G_block ?_ | refine G_exit rfl ?_)
  refine G_region ?_
  refine GO_eff rfl rfl (eff_box rfl) ?_; rintro _ _ ⟨b3, rfl, rfl⟩
  refine GO_q rfl rfl (ev_assign rfl) ?_
  refine GO_nil ?_
  (repeat first | refine G_seq ?_ | refine G_skip ?_ | refine G_endblk ?_ | refine G_block ?_ | refine G_exit rfl ?_)
  refine G_region ?_
  refine GO_eff rfl rfl eff_alloc ?_; rintro _ _ ⟨b5, rfl, rfl⟩
  refine GO_nil ?_
  (repeat first | refine G_seq ?_ | refine G_skip ?_ | refine G_endblk ?_ | refine G_block ?_ | refine G_exit rfl ?_)
  refine G_region ?_
  refine GO_q rfl rfl (ev_move rfl) ?_
  refine GO_eff rfl rfl (eff_call rfl (Chunk_ctr (some ⟨b, o, none⟩) n c _)) ?_; rintro _ _ ⟨b8, b9, rfl, rfl⟩
  refine GO_nil ?_
  (repeat first | refine G_seq ?_ | refine G_skip ?_ | refine G_endblk ?_ | refine G_block ?_ | refine G_exit rfl ?_)
  refine G_heap (own.nil_ 58 3) ?_
  refine G_range1 (f := 134) (c1 := []) (c2 := [.pointer (some ⟨b8, 0, none⟩), .pointer (some ⟨b9, 0, none⟩)]) (post := fun p L1 => p = none ∧ ∃ s : Option Addr × Nat × List Pt, ((∀ x ∈ s.2.2, x ∈ l) ∧ 5 * s.2.2.length < n + 5 ∧ n ≤ 5 * s.2.2.length) ∧ ((0 < s.2.2.length → ∃ b, s.1 = some ⟨b, 0, none⟩) ∧ s.2.2.length ≤ s.2.1 ∧ s.2.1 ≤ maxLen) ∧ L1 = own 58 3 s.1 s.2.2.length s.2.1 (flat s.2.2) :: blk b5 54 [.slice s.1 s.2.2.length s.2.1] :: F :: L) (by rw [← hgb]; rfl) rfl rfl ?_ ?_ ?_
  · intro y d R hR
    have hv := chunks_ctr (S := Option Addr × Nat × List Pt) y b8 b9 b o n c l
      (fun k s => obj y (R .ready none) :: obj d (.deferred (some [])) :: own 58 3 s.1 s.2.2.length s.2.1 (flat s.2.2) :: blk b5 54 [.slice s.1 s.2.2.length s.2.1] :: blk b3 124 [.func (.func f) #[] #[]] :: F :: L)
      (fun k s => s.2.2.length = k ∧ (∀ x ∈ s.2.2, x ∈ l) ∧ (0 < s.2.2.length → ∃ b, s.1 = some ⟨b, 0, none⟩) ∧ s.2.2.length ≤ s.2.1 ∧ s.2.1 ≤ maxLen)
      (fun k s _ => hl.skip.skip.skip.skip.skip.skip) hn hc ?_ (none, 0, []) ⟨rfl, by simp, fun h => absurd h (Nat.lt_irrefl 0), Nat.le_refl _, Nat.zero_le _⟩
    · refine (Ctr.pre (by (repeat first | exact en_refl | (apply en_blk; focus ((repeat' first | exact Pick.here | apply Pick.skip | apply Pick.app); done); focus rfl) | (apply en_own; focus ((repeat' first | exact Pick.here | apply Pick.skip | apply Pick.app); done); focus rfl) | (apply en_pick; focus ((repeat' first | exact Pick.here | apply Pick.skip | apply Pick.app); done)) | apply en_drop | apply en_app) <;> fail) hv).post' ?_
      rintro v L' hm ⟨rfl, k, s, k1, k2, ⟨hs1, hs2, hs3⟩, rfl⟩ hsat
      refine ⟨_, ⟨.ready, none, _, (by decide), ⟨rfl, s, ⟨hs2, by omega, by omega⟩, hs3, rfl⟩, rfl⟩, ?_⟩
      revert hm
      exact (by (repeat first | exact en_refl | (apply en_blk; focus ((repeat' first | exact Pick.here | apply Pick.skip | apply Pick.app); done); focus rfl) | (apply en_own; focus ((repeat' first | exact Pick.here | apply Pick.skip | apply Pick.app); done); focus rfl) | (apply en_pick; focus ((repeat' first | exact Pick.here | apply Pick.skip | apply Pick.app); done)) | apply en_drop | apply en_app) <;> fail)
    · rintro k ⟨B, e, ms⟩ hk ⟨i1, i2, i3, i4, i5⟩
      simp only at i1 i2 i3 i4 i5
      dsimp only
      obtain ⟨i, hi⟩ : ∃ i, i = 5 * k := ⟨_, rfl⟩
      obtain ⟨m, hm⟩ : ∃ m, m = min 5 (n - i) := ⟨_, rfl⟩
      rw [← hi] at hk ⊢
      rw [← hm]
      have hd0 := hl.drop (k := i) (c := c) (by omega) hc
      rw [if_neg (by omega)] at hd0
      have hg : Rd L (some ⟨b, o + i * 3, none⟩) m ((l.drop i).take m) := by
        have h9 : Rd L (some ⟨b, o + i * 3, none⟩) m ((l.drop i).take m) := hd0.take (k := m) (by omega)
        exact h9
      have hgl : ((l.drop i).take m).length = m := hg.len (by decide)
      have hgm : ∀ x ∈ (l.drop i).take m, x ∈ l := fun x hx => List.mem_of_mem_drop (List.mem_of_mem_take hx)
      generalize (l.drop i).take m = gs at *
      refine hR (ι := Unit) (τ := fun _ => [(3, .pointer (some ⟨b3, 0, none⟩)), (5, .pointer (some ⟨b5, 0, none⟩)), (6, .slice (some ⟨b, o + i * 3, none⟩) m m)]) (M := fun _ => obj d (.deferred (some [])) :: own 58 3 B ms.length e (flat ms) :: blk b5 54 [.slice B ms.length e] :: blk b3 124 [.func (.func f) #[] #[]] :: F :: L) (Fy := fun _ => True) ?_ ?_
      · intro g F' _ _
        (repeat first | refine G_seq ?_ | refine G_skip ?_ | refine G_endblk ?_ | refine G_block ?_ | refine G_exit rfl ?_)
        refine G_region ?_
        refine GO_q rfl rfl (ev_assign rfl) ?_
        refine GO_nil ?_
        exact G_rndStart () trivial ⟨rfl, rfl, rfl, trivial⟩ (by (repeat first | exact fun _ s => s | apply en_keep | apply en_drop | apply en_app) <;> fail)
      · intro g F' _ _ _ _
        have hsl : (srtO ls gs).length = m := by rw [srtO_length, hgl]
        have hx : (srtO ls gs)[m / 2]? = some (srtO ls gs)[m / 2] := List.getElem?_eq_getElem (by omega)
        have hxm : (srtO ls gs)[m / 2] ∈ l := hgm _ ((srtO_perm gs).subset (List.getElem_mem _))
        generalize (srtO ls gs)[m / 2] = x at *
        (repeat first | refine G_seq ?_ | refine G_skip ?_ | refine G_endblk ?_ | refine G_block ?_ | refine G_exit rfl ?_)
        (repeat first | refine G_seq ?_ | refine G_skip ?_ | refine G_endblk ?_ | refine G_block ?_ | refine G_exit rfl ?_)
        refine G_region ?_
        refine GO_q rfl rfl (ev_move rfl) ?_
        refine GO_q rfl rfl (ev_load rfl (by repeat' first | exact Ld.blk rfl | assumption | apply Ld.skip | apply Ld.app)) ?_
        refine GO_eff rfl rfl (eff_call rfl ((SortO_ctr so hf (some ⟨b, o + i * 3, none⟩) m m gs _ (by repeat' first | exact Rc.blk rfl | assumption | apply Rd.skip | apply Rd.app) (by omega) (Nat.le_refl _)))) ?_; rintro _ _ ⟨C, c2, rfl, hC, rfl⟩
        refine GO_q rfl rfl (ev_assign rfl) ?_
        refine GO_nil ?_
        rw [hsl] at hC ⊢
        obtain ⟨cb, rfl⟩ := hC (by omega)
        have hld : ∀ L', LdN (own 58 3 (some ⟨cb, 0, none⟩) m c2 (flat (srtO ls gs)) :: L') cb (0 + (m / 2) * 3) 3 [.int .i64 x.id, .int .i64 x.x, .int .i64 x.y] := fun L' => ld_ownP hsl hx L'
        generalize srtO ls gs = ss at *
        (repeat first | refine G_seq ?_ | refine G_skip ?_ | refine G_endblk ?_ | refine G_block ?_ | refine G_exit rfl ?_)
        refine G_draw (.q 0 (.q 1 (.q 2 (.q 3 (.q 4 (.q 5 (.q 6 (.e 7 (.e 8 (.e 9 .nil)))))))))) (by kernel_rfl) (by kernel_rfl) ?_
        refine RS_q rndB_noPanic rfl rfl rfl rfl (ev_load rfl (by repeat' first | exact Ld.blk rfl | assumption | apply Ld.skip | apply Ld.app)) ?_
        refine RS_m rndB_noPanic rfl rfl rfl rfl (ev_move rfl) ?_
        refine RS_m rndB_noPanic rfl rfl rfl rfl (ev_move rfl) ?_
        refine RS_q rndB_noPanic rfl rfl rfl rfl (ev_len rfl) ?_
        (first | refine RS_m rndB_noPanic rfl rfl rfl rfl (ev_quoN (q := 2) rfl rfl (by first | omega | (simp; done) | (simp; omega)) (by first | omega | (simp; done) | (simp; omega))) ?_ | refine RS_m rndB_noPanic rfl rfl rfl rfl (ev_quo rfl rfl (by first | omega | (simp; done) | (simp; omega)) (by first | omega | (simp; done) | (simp; omega)) (by first | omega | (simp; done) | (simp; omega))) ?_)
        (first | refine RS_m rndB_noPanic rfl rfl rfl rfl (ev_indexAddrN rfl rfl (by first | omega | (simp; done) | (simp; omega))) ?_ | refine RS_m rndB_noPanic rfl rfl rfl rfl (ev_indexAddr rfl rfl (by first | omega | (simp; done) | (simp; omega)) (by first | omega | (simp; done) | (simp; omega))) ?_)
        refine RS_q rndB_noPanic rfl rfl rfl rfl (ev_loadN rfl (by repeat' first | exact hld _ | apply LdN.skip)) ?_
        refine RS_e (RE_eff rfl rfl rfl (eff_buildSlice1 (by rfl) rfl rfl) ?_); rintro _ _ ⟨b21, rfl, rfl⟩; refine ⟨_, fun _ s => s, (by first | ((repeat first | exact fun _ s => s | apply en_keep | apply en_drop | apply en_app) <;> fail) | ((repeat first | exact en_refl | (apply en_blk; focus ((repeat' first | exact Pick.here | apply Pick.skip | apply Pick.app); done); focus rfl) | (apply en_own; focus ((repeat' first | exact Pick.here | apply Pick.skip | apply Pick.app); done); focus rfl) | (apply en_pick; focus ((repeat' first | exact Pick.here | apply Pick.skip | apply Pick.app); done)) | apply en_drop | apply en_app) <;> fail)), ?_⟩
        refine RS_e (RE_cmp (by kernel_rfl) rfl rfl rfl (eff_append rfl rfl (by repeat' first | exact Pick.here | apply Pick.skip) (by repeat' first | exact Rc.blk rfl | assumption | apply Rc.skip) (one_all rfl) (by rfl) (by decide) (by first | omega | (simp; done) | (simp; omega)) (by first | omega | (simp; done) | (simp; omega))) ?_); rintro _ _ ⟨A22, c22, rfl, hc22, hm22, hn22, rfl⟩
        refine RS_e (RE_last (by kernel_rfl) rfl rfl rfl (eff_store rfl rfl rfl (by repeat' first | exact Upd.here rfl | apply Upd.skip | apply Upd.app)) ?_); rintro _ _ ⟨rfl, rfl⟩
        (repeat first | refine G_seq ?_ | refine G_skip ?_ | refine G_endblk ?_ | refine G_block ?_ | refine G_exit rfl ?_)
        exact G_rndEnd (obj d (.deferred (some [])) :: own 58 3 A22 (ms ++ [x]).length c22 (flat (ms ++ [x])) :: blk b5 54 [.slice A22 (ms ++ [x]).length c22] :: blk b3 124 [.func (.func f) #[] #[]] :: F :: L) ⟨rfl, (A22, c22, ms ++ [x]), ⟨by simp only [List.length_append, List.length_singleton, i1], fun z hz => (List.mem_append.1 hz).elim (i2 z) (fun h => by simp at h; exact h ▸ hxm), by simp only [List.length_append, List.length_singleton]; exact fun _ => hn22 (by omega), by simp only [List.length_append, List.length_singleton]; exact hc22, hm22⟩, rfl⟩ (by
          rw [List.length_append, ← flat_snoc]
          exact (by (repeat first | exact en_refl | (apply en_blk; focus ((repeat' first | exact Pick.here | apply Pick.skip | apply Pick.app); done); focus rfl) | (apply en_own; focus ((repeat' first | exact Pick.here | apply Pick.skip | apply Pick.app); done); focus rfl) | (apply en_pick; focus ((repeat' first | exact Pick.here | apply Pick.skip | apply Pick.app); done)) | apply en_drop | apply en_app) <;> fail))
  · rintro d L1 ⟨-, ⟨B, e, ms⟩, hms, ⟨i1, i2, i3⟩, rfl⟩
    simp only at hms i1 i2 i3
    dsimp only
    (repeat first | refine G_seq ?_ | refine G_skip ?_ | refine G_endblk ?_ | refine G_block ?_ | refine G_exit rfl ?_)
    refine G_region ?_
    refine GO_q rfl rfl (ev_load rfl (by repeat' first | exact Ld.blk rfl | assumption | apply Ld.skip | apply Ld.app)) ?_
    refine GO_q rfl rfl (ev_assign rfl) ?_
    refine GO_nil ?_
    (repeat first | refine G_seq ?_ | refine G_skip ?_ | refine G_endblk ?_ | refine G_block ?_ | refine G_exit rfl ?_)
    exact G_retM [d] rfl (by rw [← hgb]; rfl) rfl (.tmp rfl .nil) (M := own 58 3 B ms.length e (flat ms) :: blk b5 54 [.slice B ms.length e] :: F :: L) (L' := own 58 3 B ms.length e (flat ms) :: L) (by (repeat first | exact en_refl | (apply en_blk; focus ((repeat' first | exact Pick.here | apply Pick.skip | apply Pick.app); done); focus rfl) | (apply en_own; focus ((repeat' first | exact Pick.here | apply Pick.skip | apply Pick.app); done); focus rfl) | (apply en_pick; focus ((repeat' first | exact Pick.here | apply Pick.skip | apply Pick.app); done)) | apply en_drop | apply en_app) <;> fail) (by (repeat first | exact en_refl | (apply en_blk; focus ((repeat' first | exact Pick.here | apply Pick.skip | apply Pick.app); done); focus rfl) | (apply en_own; focus ((repeat' first | exact Pick.here | apply Pick.skip | apply Pick.app); done); focus rfl) | (apply en_pick; focus ((repeat' first | exact Pick.here | apply Pick.skip | apply Pick.app); done)) | apply en_drop | apply en_app) <;> fail) ⟨ms, hms, B, e, rfl, i1, i2, i3, rfl⟩
  · rintro d e L1 ⟨h, _⟩
    cases h
/-- The one that stands at k. -/
theorem nthM_ctr : ∀ (N : Nat) (A : Option Addr) (n c : Nat) (l : List Pt) (k : Nat) (v : Pt) (L : List HP) (_ : n ≤ N) (_ : Rd L A n l) (_ : n ≤ 1000000) (_ : n ≤ c) (_ : (srtO ls l)[k]? = some v),
    Ctr Tryz.prog 129 #[.slice A n c, .int .i64 (k : Nat), .func (.func f) #[] #[]] L fun r L' => r = v.v ∧ L' = L := by
  intro N
  induction N using Nat.strongRecOn with
  | _ N ih =>
  intro A n c l k v L hN hl hn hc hv
  have h1 : l.length = n := hl.len (by decide)
  refine Ctr_of (fn := Tryz.f129) (n := 61) Tryz.func129 rfl rfl rfl ?_
  intro g F
  (repeat first | refine G_seq ?_ | refine G_skip ?_ | refine G_endblk ?_ | refine G_block ?_ | refine G_exit rfl ?_)
  refine G_region ?_
  refine GO_eff rfl rfl eff_alloc ?_; rintro _ _ ⟨b6, rfl, rfl⟩
  refine GO_nil ?_
  (repeat first | refine G_seq ?_ | refine G_skip ?_ | refine G_endblk ?_)
  refine G_cut (ι := Option Addr × Nat × List Pt × Nat × List HP) (fun x => [(0, .slice x.1 x.2.2.1.length x.2.1), (1, .int .i64 (x.2.2.2.1 : Nat)), (2, .func (.func f) #[] #[]), (6, .pointer (some ⟨b6, 0, none⟩))]) (fun x => blk b6 58 [.int .i64 0, .int .i64 0, .int .i64 0] :: (x.2.2.2.2 ++ F :: L)) (fun x => Rd (x.2.2.2.2 ++ F :: L) x.1 x.2.2.1.length x.2.2.1 ∧ x.2.2.1.length ≤ x.2.1 ∧ x.2.2.1.length ≤ n ∧ (srtO ls x.2.2.1)[x.2.2.2.1]? = some v) ?_ ?_
  · (repeat first | refine G_seq ?_ | refine G_skip ?_ | refine G_endblk ?_ | refine G_block ?_ | refine G_exit rfl ?_)
    refine G_loop (ι := Option Addr × Nat × List Pt × Nat × List HP) (fun x => [(0, .slice x.1 x.2.2.1.length x.2.1), (1, .int .i64 (x.2.2.2.1 : Nat)), (2, .func (.func f) #[] #[]), (6, .pointer (some ⟨b6, 0, none⟩))]) (fun x => blk b6 58 [.int .i64 0, .int .i64 0, .int .i64 0] :: (x.2.2.2.2 ++ F :: L)) (fun x => Rd (x.2.2.2.2 ++ F :: L) x.1 x.2.2.1.length x.2.2.1 ∧ x.2.2.1.length ≤ x.2.1 ∧ x.2.2.1.length ≤ n ∧ (srtO ls x.2.2.1)[x.2.2.2.1]? = some v) (fun x => x.2.2.1.length) (A, c, l, k, []) ⟨by simp only [List.nil_append]; rw [h1]; exact hl.skip, by simp only; omega, by simp only; omega, hv⟩ ⟨by simp only; rw [h1]; rfl, rfl, rfl, rfl, trivial⟩ (by (repeat first | exact fun _ s => s | apply en_keep | apply en_drop | apply en_app) <;> fail) ?_
    rintro ⟨A, c, l, k, X⟩ ⟨f1, f2, f3, f4⟩
    simp only at f1 f2 f3 f4
    dsimp only
    clear hl hc hv h1
    have hk : k < l.length := by
      rcases Nat.lt_or_ge k l.length with h | h
      · exact h
      · rw [List.getElem?_eq_none (by rw [srtO_length]; exact h)] at f4; cases f4
    (repeat first | refine G_seq ?_ | refine G_skip ?_ | refine G_endblk ?_ | refine G_block ?_ | refine G_exit rfl ?_)
    refine G_region ?_
    refine GO_q rfl rfl (ev_move rfl) ?_
    refine GO_q rfl rfl (ev_len rfl) ?_
    refine GO_q rfl rfl (ev_gtr rfl rfl) ?_
    refine GO_nil ?_
    (repeat first | refine G_seq ?_ | refine G_skip ?_ | refine G_endblk ?_ | refine G_block ?_ | refine G_exit rfl ?_)
    refine G_cond rfl (fun q1 => ?_) (fun q1 => ?_)
    · (repeat first | refine G_seq ?_ | refine G_skip ?_ | refine G_endblk ?_ | refine G_block ?_ | refine G_exit rfl ?_)
      refine G_region ?_
      refine GO_q rfl rfl (ev_move rfl) ?_
      refine GO_q rfl rfl (ev_move rfl) ?_
      refine GO_eff rfl rfl (eff_call rfl (middlesM_ctr so hf A l.length c l _ (by repeat' first | exact Rc.blk rfl | assumption | apply Rd.skip | apply Rd.app) (by omega) (by omega) f2)) ?_; rintro _ _ ⟨ms, ⟨m1, m2, m3⟩, B, e, rfl, i1, i2, i3, rfl⟩
      refine GO_q rfl rfl (ev_assign rfl) ?_
      refine GO_nil ?_
      have hml : ms.length / 2 < ms.length := by omega
      have hx : (srtO ls ms)[ms.length / 2]? = some ((srtO ls ms)[ms.length / 2]'(by rw [srtO_length]; exact hml)) := List.getElem?_eq_getElem _
      generalize (srtO ls ms)[ms.length / 2]'(by rw [srtO_length]; exact hml) = x at hx
      have hxl : x ∈ l := m1 x (nthO_mem hx)
      have p1 := partsO_length so x l
      have p2 := likeO_pos hxl
      (repeat first | refine G_seq ?_ | refine G_skip ?_ | refine G_endblk ?_ | refine G_block ?_ | refine G_exit rfl ?_)
      refine G_region ?_
      refine GO_q rfl rfl (ev_move rfl) ?_
      refine GO_q rfl rfl (ev_move rfl) ?_
      refine GO_q rfl rfl (ev_move rfl) ?_
      refine GO_q rfl rfl (ev_len rfl) ?_
      (first | refine GO_q rfl rfl (ev_quoN (q := 2) rfl rfl (by first | omega | (simp; done) | (simp; omega)) (by first | omega | (simp; done) | (simp; omega))) ?_ | refine GO_q rfl rfl (ev_quo rfl rfl (by first | omega | (simp; done) | (simp; omega)) (by first | omega | (simp; done) | (simp; omega)) (by first | omega | (simp; done) | (simp; omega))) ?_)
      refine GO_q rfl rfl (ev_move rfl) ?_
      refine GO_eff rfl rfl (eff_call rfl (ih ms.length (by omega) B ms.length e ms (ms.length / 2) x _ (Nat.le_refl _) (Rc.own (flat_length _) i1) (by omega) i2 hx)) ?_; rintro _ _ ⟨rfl, rfl⟩
      refine GO_q rfl rfl (ev_move rfl) ?_
      refine GO_eff rfl rfl (eff_call rfl (partsM_ctr so hf A l.length c l x _ (by repeat' first | exact Rc.blk rfl | assumption | apply Rd.skip | apply Rd.app) (by omega))) ?_; rintro _ _ ⟨s, rfl, ok, rfl⟩
      refine GO_q rfl rfl (ev_move rfl) ?_
      refine GO_q rfl rfl (ev_extract rfl rfl) ?_
      refine GO_q rfl rfl (ev_extract rfl rfl) ?_
      refine GO_q rfl rfl (ev_extract rfl rfl) ?_
      refine GO_q rfl rfl (ev_assign rfl) ?_
      refine GO_q rfl rfl (ev_assign rfl) ?_
      refine GO_q rfl rfl (ev_assign rfl) ?_
      refine GO_nil ?_
      have n1 : ∀ h, _ := nthO_low (k := k) so x l
      have n2 : ∀ h h', _ := nthO_like (k := k) so x l
      have n3 : ∀ h, _ := nthO_high (k := k) so x l
      have hli : ∀ z ∈ likeO x l, z = x := fun z hz => likeO_eq hz
      generalize lowO ls x l = lo at *
      generalize likeO x l = li at *
      generalize highO ls x l = hi at *
      (repeat first | refine G_seq ?_ | refine G_skip ?_ | refine G_endblk ?_ | refine G_block ?_ | refine G_exit rfl ?_)
      refine G_region ?_
      refine GO_q rfl rfl (ev_move rfl) ?_
      refine GO_q rfl rfl (ev_move rfl) ?_
      refine GO_q rfl rfl (ev_len rfl) ?_
      (first | refine GO_q rfl rfl (ev_lssN rfl rfl) ?_ | refine GO_q rfl rfl (ev_lss rfl rfl) ?_)
      refine GO_q rfl rfl (ev_assign rfl) ?_
      refine GO_nil ?_
      (repeat first | refine G_seq ?_ | refine G_skip ?_ | refine G_endblk ?_ | refine G_block ?_ | refine G_exit rfl ?_)
      refine G_cond rfl (fun q2 => ?_) (fun q2 => ?_)
      · (repeat first | refine G_seq ?_ | refine G_skip ?_ | refine G_endblk ?_ | refine G_block ?_ | refine G_exit rfl ?_)
        refine G_region ?_
        refine GO_q rfl rfl (ev_move rfl) ?_
        refine GO_q rfl rfl (ev_assign rfl) ?_
        refine GO_nil ?_
        (repeat first | refine G_seq ?_ | refine G_skip ?_ | refine G_endblk ?_ | refine G_block ?_ | refine G_exit rfl ?_)
        exact G_round (s.A1, s.c1, lo, k, [own 58 3 s.A1 lo.length s.c1 (flat lo)]) ⟨Rc.own (flat_length _) ok.h1, ok.k1, by simp only; omega, by simp only; rw [← n1 (by omega)]; exact f4⟩ (by simp only; omega) ⟨rfl, rfl, rfl, rfl, trivial⟩ (by (repeat first | exact en_refl | (apply en_blk; focus ((repeat' first | exact Pick.here | apply Pick.skip | apply Pick.app); done); focus rfl) | (apply en_own; focus ((repeat' first | exact Pick.here | apply Pick.skip | apply Pick.app); done); focus rfl) | (apply en_pick; focus ((repeat' first | exact Pick.here | apply Pick.skip | apply Pick.app); done)) | apply en_drop | apply en_app) <;> fail)
      · (repeat first | refine G_seq ?_ | refine G_skip ?_ | refine G_endblk ?_ | refine G_block ?_ | refine G_exit rfl ?_)
        refine G_region ?_
        refine GO_q rfl rfl (ev_move rfl) ?_
        refine GO_q rfl rfl (ev_move rfl) ?_
        refine GO_q rfl rfl (ev_len rfl) ?_
        refine GO_q rfl rfl (ev_move rfl) ?_
        refine GO_q rfl rfl (ev_len rfl) ?_
        (first | refine GO_q rfl rfl (ev_addN rfl rfl (by first | omega | (simp; done) | (simp; omega))) ?_ | refine GO_q rfl rfl (ev_add rfl rfl (by first | omega | (simp; done) | (simp; omega))) ?_)
        (first | refine GO_q rfl rfl (ev_lssN rfl rfl) ?_ | refine GO_q rfl rfl (ev_lss rfl rfl) ?_)
        refine GO_q rfl rfl (ev_assign rfl) ?_
        refine GO_nil ?_
        (repeat first | refine G_seq ?_ | refine G_skip ?_ | refine G_endblk ?_ | refine G_block ?_ | refine G_exit rfl ?_)
        refine G_cond rfl (fun q3 => ?_) (fun q3 => ?_)
        · obtain ⟨lb, hb⟩ := ok.h2 p2
          have e9 := n2 (by omega) (by omega)
          rw [f4] at e9
          have g0 : li[0]? = some x := by
            rw [List.getElem?_eq_getElem p2, hli _ (List.getElem_mem p2)]
          cases e9
          obtain ⟨sA1, sc1, sA2, sc2, sA3, sc3⟩ := s
          simp only at hb
          subst hb
          dsimp only
          have hld : ∀ L', LdN (own 58 3 (some ⟨lb, 0, none⟩) li.length sc2 (flat li) :: L') lb (0 + 0 * 3) 3 [.int .i64 v.id, .int .i64 v.x, .int .i64 v.y] := fun L' => ld_ownP rfl g0 L'
          (repeat first | refine G_seq ?_ | refine G_skip ?_ | refine G_endblk ?_ | refine G_block ?_ | refine G_exit rfl ?_)
          refine G_region ?_
          refine GO_q rfl rfl (ev_move rfl) ?_
          (first | refine GO_q rfl rfl (ev_indexAddrN rfl rfl (by first | omega | (simp; done) | (simp; omega))) ?_ | refine GO_q rfl rfl (ev_indexAddr rfl rfl (by first | omega | (simp; done) | (simp; omega)) (by first | omega | (simp; done) | (simp; omega))) ?_)
          refine GO_q rfl rfl (ev_loadN rfl (by repeat' first | exact hld _ | apply LdN.skip)) ?_
          refine GO_eff rfl rfl (eff_storeN rfl rfl rfl rfl (by repeat' first | exact Upd.here rfl | apply Upd.skip | apply Upd.app)) ?_; rintro _ _ ⟨rfl, rfl⟩
          refine GO_nil ?_
          (repeat first | refine G_seq ?_ | refine G_skip ?_ | refine G_endblk ?_ | refine G_block ?_ | refine G_exit rfl ?_)
          refine G_ret rfl (.cell rfl (loadN_run (by repeat' first | exact LdN.blk rfl | assumption | apply LdN.skip | apply LdN.app)) .nil) ?_ ⟨rfl, rfl⟩
          exact (by (repeat first | exact en_refl | apply en_drop | apply en_app) <;> fail)
        · (repeat first | refine G_seq ?_ | refine G_skip ?_ | refine G_endblk ?_ | refine G_block ?_ | refine G_exit rfl ?_)
          refine G_region ?_
          refine GO_q rfl rfl (ev_move rfl) ?_
          refine GO_q rfl rfl (ev_move rfl) ?_
          refine GO_q rfl rfl (ev_move rfl) ?_
          refine GO_q rfl rfl (ev_len rfl) ?_
          (first | refine GO_q rfl rfl (ev_subN rfl rfl (by first | omega | (simp; done) | (simp; omega))) ?_ | refine GO_q rfl rfl (ev_sub rfl rfl (by first | omega | (simp; done) | (simp; omega))) ?_)
          refine GO_q rfl rfl (ev_move rfl) ?_
          refine GO_q rfl rfl (ev_len rfl) ?_
          (first | refine GO_q rfl rfl (ev_subN rfl rfl (by first | omega | (simp; done) | (simp; omega))) ?_ | refine GO_q rfl rfl (ev_sub rfl rfl (by first | omega | (simp; done) | (simp; omega))) ?_)
          refine GO_q rfl rfl (ev_assign rfl) ?_
          refine GO_q rfl rfl (ev_assign rfl) ?_
          refine GO_nil ?_
          (repeat first | refine G_seq ?_ | refine G_skip ?_ | refine G_endblk ?_ | refine G_block ?_ | refine G_exit rfl ?_)
          exact G_round (s.A3, s.c3, hi, k - lo.length - li.length, [own 58 3 s.A3 hi.length s.c3 (flat hi)]) ⟨Rc.own (flat_length _) ok.h3, ok.k3, by simp only; omega, by simp only; rw [← n3 (by omega)]; exact f4⟩ (by simp only; omega) ⟨rfl, by simp only; rw [show ((k - lo.length - li.length : Nat) : Int) = (k : Int) - (lo.length : Int) - (li.length : Int) by omega]; rfl, rfl, rfl, trivial⟩ (by (repeat first | exact en_refl | (apply en_blk; focus ((repeat' first | exact Pick.here | apply Pick.skip | apply Pick.app); done); focus rfl) | (apply en_own; focus ((repeat' first | exact Pick.here | apply Pick.skip | apply Pick.app); done); focus rfl) | (apply en_pick; focus ((repeat' first | exact Pick.here | apply Pick.skip | apply Pick.app); done)) | apply en_drop | apply en_app) <;> fail)
    · (repeat first | refine G_seq ?_ | refine G_skip ?_ | refine G_endblk ?_ | refine G_block ?_ | refine G_exit rfl ?_)
      exact G_inv (A, c, l, k, X) ⟨f1, f2, f3, f4⟩ ⟨rfl, rfl, rfl, rfl, trivial⟩ (by (repeat first | exact fun _ s => s | apply en_keep | apply en_drop | apply en_app) <;> fail)
  · rintro ⟨A, c, l, k, X⟩ ⟨f1, f2, f3, f4⟩
    simp only at f1 f2 f3 f4
    dsimp only
    clear hl hc hv h1
    have hk : k < l.length := by
      rcases Nat.lt_or_ge k l.length with h | h
      · exact h
      · rw [List.getElem?_eq_none (by rw [srtO_length]; exact h)] at f4; cases f4
    have hsl : (srtO ls l).length = l.length := srtO_length l
    (repeat first | refine G_seq ?_ | refine G_skip ?_ | refine G_endblk ?_ | refine G_block ?_ | refine G_exit rfl ?_)
    refine G_region ?_
    refine GO_q rfl rfl (ev_move rfl) ?_
    refine GO_q rfl rfl (ev_move rfl) ?_
    refine GO_eff rfl rfl (eff_call rfl (SortO_ctr so hf A l.length c l _ (by repeat' first | exact Rc.blk rfl | assumption | apply Rd.skip | apply Rd.app) (by omega) f2)) ?_; rintro _ _ ⟨B, e, rfl, hB, rfl⟩
    refine GO_q rfl rfl (ev_move rfl) ?_
    obtain ⟨lb, rfl⟩ := hB (by omega)
    refine GO_q rfl rfl (ev_indexAddrN rfl rfl (by omega)) ?_
    refine GO_q rfl rfl (ev_loadN rfl (ld_ownP rfl f4 _)) ?_
    refine GO_eff rfl rfl (eff_storeN rfl rfl rfl rfl (by repeat' first | exact Upd.here rfl | apply Upd.skip | apply Upd.app)) ?_; rintro _ _ ⟨rfl, rfl⟩
    refine GO_nil ?_
    (repeat first | refine G_seq ?_ | refine G_skip ?_ | refine G_endblk ?_ | refine G_block ?_ | refine G_exit rfl ?_)
    exact G_ret rfl (.cell rfl (loadN_run (by repeat' first | exact LdN.blk rfl | assumption | apply LdN.skip | apply LdN.app)) .nil) (by (repeat first | exact en_refl | apply en_drop | apply en_app) <;> fail) ⟨rfl, rfl⟩
/-- The one that stands at k; there is one. -/
theorem pickM_ctr (A : Option Addr) (n c : Nat) (l : List Pt) (k : Nat) (v : Pt) (L : List HP) (hl : Rd L A n l) (hn : n ≤ 1000000) (hc : n ≤ c) (hv : (srtO ls l)[k]? = some v) :
    Ctr Tryz.prog 125 #[.slice A n c, .int .i64 (k : Nat), .func (.func f) #[] #[]] L fun r L' => r = .tuple #[v.v, .bool true] ∧ L' = L := by
  have h1 : l.length = n := hl.len (by decide)
  have hk : k < n := by
    rcases Nat.lt_or_ge k n with h | h
    · exact h
    · rw [List.getElem?_eq_none (by rw [srtO_length]; omega)] at hv; cases hv
  have p2 := likeO_pos (nthO_mem hv)
  have e1 := midO_low so hv
  have e2 := midO_like so hv
  have hli : ∀ z ∈ likeO v l, z = v := fun z hz => likeO_eq hz
  have g0 : (likeO v l)[k - (lowO ls v l).length]? = some v := by
    have h9 : k - (lowO ls v l).length < (likeO v l).length := by omega
    rw [List.getElem?_eq_getElem h9, hli _ (List.getElem_mem h9)]
  refine Ctr_of (fn := Tryz.f125) (n := 40) Tryz.func125 rfl rfl rfl ?_
  intro g F
  (repeat first | refine G_seq ?_ | refine G_skip ?_ | refine G_endblk ?_ | refine G_block ?_ | refine G_exit rfl ?_)
  refine G_region ?_
  refine GO_eff rfl rfl eff_alloc ?_; rintro _ _ ⟨b6, rfl, rfl⟩
  refine GO_q rfl rfl (ev_assign rfl) ?_
  refine GO_nil ?_
  (repeat first | refine G_seq ?_ | refine G_skip ?_ | refine G_endblk ?_ | refine G_block ?_ | refine G_exit rfl ?_)
  refine G_region ?_
  refine GO_q rfl rfl (ev_move rfl) ?_
  (first | refine GO_q rfl rfl (ev_lssN (q := 0) rfl rfl) ?_ | refine GO_q rfl rfl (ev_lss rfl rfl) ?_)
  refine GO_q rfl rfl (ev_move rfl) ?_
  refine GO_yes rfl rfl rfl (decide_eq_false (by omega)) ?_
  refine GO_q rfl rfl (ev_move rfl) ?_
  refine GO_yes rfl rfl rfl (decide_eq_false (by omega)) ?_
  refine GO_q rfl rfl (ev_move rfl) ?_
  refine GO_yes rfl rfl rfl (decide_eq_false (by omega)) ?_
  refine GO_q rfl rfl (ev_len rfl) ?_
  refine GO_yes rfl rfl rfl (decide_eq_false (by omega)) ?_
  refine GO_q rfl rfl (ev_geq rfl rfl) ?_
  refine GO_q rfl rfl (ev_pick_f rfl (decide_eq_false (by omega)) rfl) ?_
  refine GO_nil ?_
  (repeat first | refine G_seq ?_ | refine G_skip ?_ | refine G_endblk ?_ | refine G_block ?_ | refine G_exit rfl ?_)
  refine G_cond_f rfl (decide_eq_false (by omega)) ?_
  (repeat first | refine G_seq ?_ | refine G_skip ?_ | refine G_endblk ?_ | refine G_block ?_ | refine G_exit rfl ?_)
  refine G_region ?_
  refine GO_q rfl rfl (ev_move rfl) ?_
  refine GO_q rfl rfl (ev_move rfl) ?_
  refine GO_q rfl rfl (ev_move rfl) ?_
  refine GO_eff rfl rfl (eff_call rfl (nthM_ctr so hf n A n c l k v _ (Nat.le_refl _) (by repeat' first | exact Rc.blk rfl | assumption | apply Rd.skip | apply Rd.app) hn hc hv)) ?_; rintro _ _ ⟨rfl, rfl⟩
  refine GO_eff rfl rfl eff_alloc ?_; rintro _ _ ⟨b8, rfl, rfl⟩
  refine GO_eff rfl rfl (eff_storeN rfl rfl rfl rfl (by repeat' first | exact Upd.here rfl | apply Upd.skip | apply Upd.app)) ?_; rintro _ _ ⟨rfl, rfl⟩
  refine GO_nil ?_
  (repeat first | refine G_seq ?_ | refine G_skip ?_ | refine G_endblk ?_ | refine G_block ?_ | refine G_exit rfl ?_)
  refine G_region ?_
  refine GO_q rfl rfl (ev_move rfl) ?_
  refine GO_q rfl rfl (ev_loadN rfl (by repeat' first | exact LdN.blk rfl | assumption | apply LdN.skip | apply LdN.app)) ?_
  refine GO_q rfl rfl (ev_move rfl) ?_
  refine GO_eff rfl rfl (eff_call rfl (partsM_ctr so hf A n c l v _ (by repeat' first | exact Rc.blk rfl | assumption | apply Rd.skip | apply Rd.app) hn)) ?_; rintro _ _ ⟨s, rfl, ok, rfl⟩
  refine GO_q rfl rfl (ev_move rfl) ?_
  refine GO_q rfl rfl (ev_extract rfl rfl) ?_
  refine GO_q rfl rfl (ev_extract rfl rfl) ?_
  refine GO_q rfl rfl (ev_extract rfl rfl) ?_
  refine GO_q rfl rfl (ev_assign rfl) ?_
  refine GO_q rfl rfl (ev_assign rfl) ?_
  refine GO_q rfl rfl (ev_assign rfl) ?_
  refine GO_nil ?_
  generalize lowO ls v l = lo at *
  generalize likeO v l = li at *
  generalize highO ls v l = hi at *
  obtain ⟨lb, hb⟩ := ok.h2 p2
  obtain ⟨sA1, sc1, sA2, sc2, sA3, sc3⟩ := s
  simp only at hb
  subst hb
  dsimp only
  obtain ⟨j, hj⟩ : ∃ j, k - lo.length = j := ⟨_, rfl⟩
  rw [hj] at g0
  have hjl : j < li.length := by omega
  have hld : ∀ L', LdN (own 58 3 (some ⟨lb, 0, none⟩) li.length sc2 (flat li) :: L') lb (0 + j * 3) 3 [.int .i64 v.id, .int .i64 v.x, .int .i64 v.y] := fun L' => ld_ownP rfl g0 L'
  (repeat first | refine G_seq ?_ | refine G_skip ?_ | refine G_endblk ?_ | refine G_block ?_ | refine G_exit rfl ?_)
  refine G_region ?_
  refine GO_q rfl rfl (ev_move rfl) ?_
  refine GO_q rfl rfl (ev_move rfl) ?_
  refine GO_q rfl rfl (ev_move rfl) ?_
  refine GO_q rfl rfl (ev_len rfl) ?_
  refine GO_q rfl rfl (ev_subN rfl rfl (by omega)) ?_
  rw [hj]
  refine GO_q rfl rfl (ev_indexAddrN rfl rfl (by omega)) ?_
  refine GO_q rfl rfl (ev_loadN rfl (by repeat' first | exact hld _ | apply LdN.skip)) ?_
  refine GO_eff rfl rfl (eff_storeN rfl rfl rfl rfl (by repeat' first | exact Upd.here rfl | apply Upd.skip | apply Upd.app)) ?_; rintro _ _ ⟨rfl, rfl⟩
  refine GO_q rfl rfl (ev_assign rfl) ?_
  refine GO_nil ?_
  (repeat first | refine G_seq ?_ | refine G_skip ?_ | refine G_endblk ?_ | refine G_block ?_ | refine G_exit rfl ?_)
  refine G_ret rfl (.cell rfl (loadN_run (by repeat' first | exact LdN.blk rfl | assumption | apply LdN.skip | apply LdN.app)) (.tmp rfl .nil)) (by (repeat first | exact fun _ s => s | apply en_keep | apply en_drop | apply en_app) <;> fail) ⟨rfl, rfl⟩
end
end Go.Proofs.YtjgdhkilnalejaaGreat
/- Picking out of points: Split. -/
namespace Go.Proofs.YtjgdhkilnalejaaGreat
attribute [local irreducible] sat
set_option linter.unusedVariables false
set_option linter.unusedSimpArgs false
set_option maxRecDepth 100000

theorem likeO_one {l : List Pt} (hd : l.Nodup) {v : Pt} (hv : v ∈ l) : likeO v l = [v] := by
  induction l with
  | nil => cases hv
  | cons a l ih =>
    have h := List.nodup_cons.1 hd
    unfold likeO at *
    rw [List.filter_cons]
    by_cases e : a = v
    · subst e
      rw [if_pos (by simp)]
      congr 1
      exact List.filter_eq_nil_iff.2 fun x hx => by simp; exact fun e => h.1 (e ▸ hx)
    · rw [if_neg (by simpa using e)]
      exact ih h.2 ((List.mem_cons.1 hv).resolve_left fun h' => e h'.symm)
/-- What a split leaves. -/
def SpP (v : Pt) (lo hi : List Pt) (L : List HP) (r : Value) (L' : List HP) : Prop := ∃ A1 c1 A2 c2, r = .tuple #[.slice A1 lo.length c1, v.v, .slice A2 hi.length c2, .bool true] ∧ ((0 < lo.length → ∃ b, A1 = some ⟨b, 0, none⟩) ∧ lo.length ≤ c1 ∧ c1 ≤ maxLen) ∧ ((0 < hi.length → ∃ b, A2 = some ⟨b, 0, none⟩) ∧ hi.length ≤ c2 ∧ c2 ≤ maxLen) ∧
  L' = own 58 3 A1 lo.length c1 (flat lo) :: own 58 3 A2 hi.length c2 (flat hi) :: L
section
variable {f : FuncId} [CalT Tryz.prog f] {ls : Pt → Pt → Bool} (so : STO ls) (hf : LsT f ls)
include so hf
theorem split_ctr (A : Option Addr) (n c : Nat) (l : List Pt) (k : Nat) (v : Pt) (L : List HP) (hl : Rd L A n l) (hn : n ≤ 100000) (hc : n ≤ c) (hd : l.Nodup) (hv : (srtO ls l)[k]? = some v) :
    Ctr Tryz.prog 114 #[.slice A n c, .int .i64 (k : Nat), .func (.func f) #[] #[]] L fun r L' => SpP v (lowO ls v l) (highO ls v l) L r L' := by
  have h1 : l.length = n := hl.len (by decide)
  have hm := nthO_mem hv
  have e1 := midO_low so hv
  have e2 := midO_like so hv
  have hlk := likeO_one hd hm
  rw [hlk] at e2
  have ek : k = (lowO ls v l).length := by simp at e2; omega
  have cP := fun M h => pickM_ctr so hf A n c l k v M h (by omega) hc hv
  have cR := fun M h => partsM_ctr so hf A n c l v M h (by omega)
  rw [hlk] at cR
  have hb1 : (lowO ls v l).length ≤ 100000 := Nat.le_trans (List.length_filter_le _ _) (by omega)
  have hb2 : (highO ls v l).length ≤ 100000 := Nat.le_trans (List.length_filter_le _ _) (by omega)
  generalize lowO ls v l = lo at *
  generalize highO ls v l = hi at *
  subst ek
  refine Ctr_of (fn := Tryz.f114) (n := 50) Tryz.func114 rfl rfl rfl ?_
  intro g F
  (repeat first | refine G_seq ?_ | refine G_skip ?_ | refine G_endblk ?_ | refine G_block ?_ | refine G_exit rfl ?_)
  refine G_region ?_
  refine GO_q rfl rfl (ev_assign rfl) ?_
  refine GO_eff rfl rfl eff_alloc ?_; rintro _ _ ⟨b7, rfl, rfl⟩
  refine GO_q rfl rfl (ev_assign rfl) ?_
  refine GO_q rfl rfl (ev_assign rfl) ?_
  refine GO_nil ?_
  (repeat first | refine G_seq ?_ | refine G_skip ?_ | refine G_endblk ?_ | refine G_block ?_ | refine G_exit rfl ?_)
  refine G_region ?_
  refine GO_q rfl rfl (ev_move rfl) ?_
  refine GO_q rfl rfl (ev_move rfl) ?_
  refine GO_q rfl rfl (ev_move rfl) ?_
  refine GO_eff rfl rfl (eff_call rfl (cP _ (by repeat' first | exact hl | apply Rd.skip))) ?_; rintro _ _ ⟨rfl, rfl⟩
  refine GO_q rfl rfl (ev_move rfl) ?_
  refine GO_q rfl rfl (ev_extract rfl rfl) ?_
  refine GO_q rfl rfl (ev_extract rfl rfl) ?_
  refine GO_eff rfl rfl eff_alloc ?_; rintro _ _ ⟨b10, rfl, rfl⟩
  refine GO_eff rfl rfl (eff_storeN rfl rfl rfl rfl (by repeat' first | exact Upd.here rfl | apply Upd.skip | apply Upd.app)) ?_; rintro _ _ ⟨rfl, rfl⟩
  refine GO_q rfl rfl (ev_assign rfl) ?_
  refine GO_nil ?_
  (repeat first | refine G_seq ?_ | refine G_skip ?_ | refine G_endblk ?_ | refine G_block ?_ | refine G_exit rfl ?_)
  refine G_region ?_
  refine GO_q rfl rfl (ev_move rfl) ?_
  refine GO_q rfl rfl (ev_not rfl) ?_
  refine GO_nil ?_
  (repeat first | refine G_seq ?_ | refine G_skip ?_ | refine G_endblk ?_ | refine G_block ?_ | refine G_exit rfl ?_)
  refine G_cond_f rfl rfl ?_
  (repeat first | refine G_seq ?_ | refine G_skip ?_ | refine G_endblk ?_ | refine G_block ?_ | refine G_exit rfl ?_)
  refine G_region ?_
  refine GO_q rfl rfl (ev_move rfl) ?_
  refine GO_q rfl rfl (ev_loadN rfl (by repeat' first | exact LdN.blk rfl | assumption | apply LdN.skip | apply LdN.app)) ?_
  refine GO_q rfl rfl (ev_move rfl) ?_
  refine GO_eff rfl rfl (eff_call rfl (cR _ (by repeat' first | exact hl | apply Rd.skip))) ?_; rintro _ _ ⟨s, rfl, ok, rfl⟩
  refine GO_q rfl rfl (ev_move rfl) ?_
  refine GO_q rfl rfl (ev_extract rfl rfl) ?_
  refine GO_q rfl rfl (ev_extract rfl rfl) ?_
  refine GO_q rfl rfl (ev_extract rfl rfl) ?_
  refine GO_q rfl rfl (ev_assign rfl) ?_
  refine GO_q rfl rfl (ev_assign rfl) ?_
  refine GO_q rfl rfl (ev_assign rfl) ?_
  refine GO_nil ?_
  obtain ⟨sA1, sc1, sA2, sc2, sA3, sc3⟩ := s
  obtain ⟨lb, hb⟩ := ok.h2 (by simp)
  have hs2 := ok.k2
  simp only [List.length_singleton] at hb hs2
  subst hb
  dsimp only
  have hld : ∀ L', LdN (own 58 3 (some ⟨lb, 0, none⟩) 1 sc2 (flat [v]) :: L') lb (0 + 0 * 3) 3 [.int .i64 v.id, .int .i64 v.x, .int .i64 v.y] := fun L' => ld_ownP (l := [v]) (i := 0) (x := v) rfl rfl L'
  (repeat first | refine G_seq ?_ | refine G_skip ?_ | refine G_endblk ?_ | refine G_block ?_ | refine G_exit rfl ?_)
  refine G_region ?_
  refine GO_q rfl rfl (ev_move rfl) ?_
  refine GO_q rfl rfl (ev_move rfl) ?_
  refine GO_q rfl rfl (ev_len rfl) ?_
  refine GO_q rfl rfl (ev_subN rfl rfl (by omega)) ?_
  rw [Nat.sub_self]
  refine GO_q rfl rfl (ev_assign rfl) ?_
  refine GO_nil ?_
  (repeat first | refine G_seq ?_ | refine G_skip ?_ | refine G_endblk ?_ | refine G_block ?_ | refine G_exit rfl ?_)
  refine G_drawS (own 58 3 (some ⟨lb, 0, none⟩) 1 sc2 (flat [v]) :: blk b10 58 [.int .i64 v.id, .int .i64 v.x, .int .i64 v.y] :: F :: L) (.q 0 (.q 1 (.q 2 (.q 3 (.q 5 (.q 6 (.q 7 (.q 8 (.q 9 (.q 10 (.q 11 (.q 12 (.q 13 (.e 4 (.e 14 (.q 15 (.e 16 (.q 17 (.q 18 .nil))))))))))))))))))) (by (repeat first | exact fun _ s => s | apply en_keep | apply en_drop | apply en_app) <;> fail) (by kernel_rfl) (by kernel_rfl) ?_
  refine RS_m retB_noPanic rfl rfl rfl rfl (ev_move rfl) ?_
  refine RS_m retB_noPanic rfl rfl rfl rfl (ev_move rfl) ?_
  refine RS_m retB_noPanic rfl rfl rfl rfl (ev_move rfl) ?_
  refine RS_q retB_noPanic rfl rfl rfl rfl (ev_sliceH rfl rfl (by omega)) ?_
  refine RS_m retB_noPanic rfl rfl rfl rfl (ev_move rfl) ?_
  refine RS_m retB_noPanic rfl rfl rfl rfl (ev_move rfl) ?_
  (first | refine RS_m retB_noPanic rfl rfl rfl rfl (ev_indexAddrN rfl rfl (by first | omega | (simp; done) | (simp; omega))) ?_ | refine RS_m retB_noPanic rfl rfl rfl rfl (ev_indexAddr rfl rfl (by first | omega | (simp; done) | (simp; omega)) (by first | omega | (simp; done) | (simp; omega))) ?_)
  refine RS_q retB_noPanic rfl rfl rfl rfl (ev_loadN rfl (by repeat' first | exact hld _ | apply LdN.skip)) ?_
  refine RS_m retB_noPanic rfl rfl rfl rfl (ev_move rfl) ?_
  refine RS_m retB_noPanic rfl rfl rfl rfl (ev_move rfl) ?_
  refine RS_m retB_noPanic rfl rfl rfl rfl (ev_move rfl) ?_
  (first | refine RS_m retB_noPanic rfl rfl rfl rfl (ev_addN (q := 1) rfl rfl (by first | omega | (simp; done) | (simp; omega))) ?_ | refine RS_m retB_noPanic rfl rfl rfl rfl (ev_add rfl rfl (by first | omega | (simp; done) | (simp; omega))) ?_)
  refine RS_q retB_noPanic rfl rfl rfl rfl (ev_sliceL rfl rfl (by simp) (by omega)) ?_
  refine RS_e (RE_eff rfl rfl rfl (eff_append rfl rfl (by repeat' first | exact Pick.here | apply Pick.skip) ((Rd.nil (α := Pt) _ _)) ((flat_one ([] : List Pt))) (by rfl) (by decide) (by first | omega | (simp; done) | (simp; omega)) (by first | omega | (simp; done) | (simp; omega))) ?_); rintro _ _ ⟨A39, c39, rfl, hc39, hm39, hn39, rfl⟩; refine ⟨_, (by first | ((repeat first | exact fun _ s => s | apply en_keep | apply en_drop | apply en_app) <;> fail) | ((repeat first | exact en_refl | (apply en_blk; focus ((repeat' first | exact Pick.here | apply Pick.skip | apply Pick.app); done); focus rfl) | (apply en_own; focus ((repeat' first | exact Pick.here | apply Pick.skip | apply Pick.app); done); focus rfl) | (apply en_pick; focus ((repeat' first | exact Pick.here | apply Pick.skip | apply Pick.app); done)) | apply en_drop | apply en_app) <;> fail)), fun _ s => s, ?_⟩
  refine RS_e (RE_eff rfl rfl rfl (eff_append rfl rfl (by repeat' first | exact Pick.here | apply Pick.skip) ((Rd.nil (α := Pt) _ _)) ((flat_one ([] : List Pt))) (by rfl) (by decide) (by first | omega | (simp; done) | (simp; omega)) (by first | omega | (simp; done) | (simp; omega))) ?_); rintro _ _ ⟨A49, c49, rfl, hc49, hm49, hn49, rfl⟩; refine ⟨_, (by first | ((repeat first | exact fun _ s => s | apply en_keep | apply en_drop | apply en_app) <;> fail) | ((repeat first | exact en_refl | (apply en_blk; focus ((repeat' first | exact Pick.here | apply Pick.skip | apply Pick.app); done); focus rfl) | (apply en_own; focus ((repeat' first | exact Pick.here | apply Pick.skip | apply Pick.app); done); focus rfl) | (apply en_pick; focus ((repeat' first | exact Pick.here | apply Pick.skip | apply Pick.app); done)) | apply en_drop | apply en_app) <;> fail)), fun _ s => s, ?_⟩
  refine RS_m retB_noPanic rfl rfl rfl rfl (ev_assign rfl) ?_
  refine RS_e (RE_cmp (by kernel_rfl) rfl rfl rfl (eff_storeN rfl rfl rfl rfl (by repeat' first | exact Upd.here rfl | apply Upd.skip | apply Upd.app)) ?_); rintro _ _ ⟨rfl, rfl⟩
  refine RS_m retB_noPanic rfl rfl rfl rfl (ev_assign rfl) ?_
  refine RS_m retB_noPanic rfl rfl rfl rfl (ev_assign rfl) ?_
  refine RS_nil ?_
  all_goals
    (repeat first | refine G_seq ?_ | refine G_skip ?_ | refine G_endblk ?_ | refine G_block ?_ | refine G_exit rfl ?_)
    have q1 : ∀ q : List Pt, flat q ++ flat ([] : List Pt) = flat q := fun q => by rw [flat_nil, List.append_nil]
    rw [q1, q1]
    refine G_ret (L' := own 58 3 A39 lo.length c39 (flat lo) :: own 58 3 A49 hi.length c49 (flat hi) :: L) rfl (.tmp rfl (.cell rfl (loadN_run (by repeat' first | exact LdN.blk rfl | assumption | apply LdN.skip | apply LdN.app)) (.tmp rfl (.tmp rfl .nil)))) (by (repeat first | exact en_refl | (apply en_blk; focus ((repeat' first | exact Pick.here | apply Pick.skip | apply Pick.app); done); focus rfl) | (apply en_own; focus ((repeat' first | exact Pick.here | apply Pick.skip | apply Pick.app); done); focus rfl) | (apply en_pick; focus ((repeat' first | exact Pick.here | apply Pick.skip | apply Pick.app); done)) | apply en_drop | apply en_app) <;> fail) ⟨A39, c39, A49, c49, rfl, ⟨hn39, hc39, hm39⟩, ⟨hn49, hc49, hm49⟩, rfl⟩
theorem Split_ctr (A : Option Addr) (n c : Nat) (l : List Pt) (k : Nat) (v : Pt) (L : List HP) (hl : Rd L A n l) (hn : n ≤ 100000) (hc : n ≤ c) (hd : l.Nodup) (hv : (srtO ls l)[k]? = some v) :
    Ctr Tryz.prog 87 #[.slice A n c, .int .i64 (k : Nat), .func (.func f) #[] #[]] L fun r L' => SpP v (lowO ls v l) (highO ls v l) L r L' := by
  refine Ctr_of (fn := Tryz.f87) (n := 18) Tryz.func87 rfl rfl rfl ?_
  intro g F
  (repeat first | refine G_seq ?_ | refine G_skip ?_ | refine G_endblk ?_ | refine G_block ?_ | refine G_exit rfl ?_)
  refine G_region ?_
  refine GO_q rfl rfl (ev_assign rfl) ?_
  refine GO_eff rfl rfl eff_alloc ?_; rintro _ _ ⟨b7, rfl, rfl⟩
  refine GO_q rfl rfl (ev_assign rfl) ?_
  refine GO_q rfl rfl (ev_assign rfl) ?_
  refine GO_nil ?_
  (repeat first | refine G_seq ?_ | refine G_skip ?_ | refine G_endblk ?_ | refine G_block ?_ | refine G_exit rfl ?_)
  refine G_region ?_
  refine GO_q rfl rfl (ev_move rfl) ?_
  refine GO_q rfl rfl (ev_move rfl) ?_
  refine GO_q rfl rfl (ev_move rfl) ?_
  refine GO_eff rfl rfl (eff_call rfl (split_ctr so hf A n c l k v _ (by repeat' first | exact hl | apply Rd.skip) hn hc hd hv)) ?_; rintro _ _ ⟨A1, c1, A2, c2, rfl, u1, u2, rfl⟩
  refine GO_q rfl rfl (ev_extract rfl rfl) ?_
  refine GO_q rfl rfl (ev_extract rfl rfl) ?_
  refine GO_q rfl rfl (ev_extract rfl rfl) ?_
  refine GO_q rfl rfl (ev_extract rfl rfl) ?_
  refine GO_q rfl rfl (ev_assign rfl) ?_
  refine GO_eff rfl rfl (eff_storeN rfl rfl rfl rfl (by repeat' first | exact Upd.here rfl | apply Upd.skip | apply Upd.app)) ?_; rintro _ _ ⟨rfl, rfl⟩
  refine GO_q rfl rfl (ev_assign rfl) ?_
  refine GO_q rfl rfl (ev_assign rfl) ?_
  refine GO_nil ?_
  (repeat first | refine G_seq ?_ | refine G_skip ?_ | refine G_endblk ?_ | refine G_block ?_ | refine G_exit rfl ?_)
  exact G_ret (L' := own 58 3 A1 (lowO ls v l).length c1 (flat (lowO ls v l)) :: own 58 3 A2 (highO ls v l).length c2 (flat (highO ls v l)) :: L) rfl (.tmp rfl (.cell rfl (loadN_run (by repeat' first | exact LdN.blk rfl | assumption | apply LdN.skip | apply LdN.app)) (.tmp rfl (.tmp rfl .nil)))) (by (repeat first | exact en_refl | (apply en_blk; focus ((repeat' first | exact Pick.here | apply Pick.skip | apply Pick.app); done); focus rfl) | (apply en_own; focus ((repeat' first | exact Pick.here | apply Pick.skip | apply Pick.app); done); focus rfl) | (apply en_pick; focus ((repeat' first | exact Pick.here | apply Pick.skip | apply Pick.app); done)) | apply en_drop | apply en_app) <;> fail) ⟨A1, c1, A2, c2, rfl, u1, u2, rfl⟩
end
theorem Split0_ctr (f : FuncId) (A : Option Addr) (c : Nat) (L : List HP) : Ctr Tryz.prog 87 #[.slice A 0 c, .int .i64 0, .func (.func f) #[] #[]] L fun r L' => r = .tuple #[.slice none 0 0, .agg #[.int .i64 0, .int .i64 0, .int .i64 0], .slice none 0 0, .bool false] ∧ L' = L := by
  have h1 : ∀ M, Ctr Tryz.prog 125 #[.slice A 0 c, .int .i64 0, .func (.func f) #[] #[]] M fun r L' => r = .tuple #[.agg #[.int .i64 0, .int .i64 0, .int .i64 0], .bool false] ∧ L' = M := fun M => by
    refine Ctr_of (fn := Tryz.f125) (n := 40) Tryz.func125 rfl rfl rfl ?_
    intro g F
    (repeat first | refine G_seq ?_ | refine G_skip ?_ | refine G_endblk ?_ | refine G_block ?_ | refine G_exit rfl ?_)
    refine G_region ?_
    refine GO_eff rfl rfl eff_alloc ?_; rintro _ _ ⟨b6, rfl, rfl⟩
    refine GO_q rfl rfl (ev_assign rfl) ?_
    refine GO_nil ?_
    (repeat first | refine G_seq ?_ | refine G_skip ?_ | refine G_endblk ?_ | refine G_block ?_ | refine G_exit rfl ?_)
    refine G_region ?_
    refine GO_q rfl rfl (ev_move rfl) ?_
    (first | refine GO_q rfl rfl (ev_lssN (q := 0) rfl rfl) ?_ | refine GO_q rfl rfl (ev_lss rfl rfl) ?_)
    refine GO_q rfl rfl (ev_move rfl) ?_
    refine GO_yes rfl rfl rfl (decide_eq_false (by omega)) ?_
    refine GO_q rfl rfl (ev_move rfl) ?_
    refine GO_yes rfl rfl rfl (decide_eq_false (by omega)) ?_
    refine GO_q rfl rfl (ev_move rfl) ?_
    refine GO_yes rfl rfl rfl (decide_eq_false (by omega)) ?_
    refine GO_q rfl rfl (ev_len rfl) ?_
    refine GO_yes rfl rfl rfl (decide_eq_false (by omega)) ?_
    refine GO_q rfl rfl (ev_geq rfl rfl) ?_
    refine GO_q rfl rfl (ev_pick_f rfl (decide_eq_false (by omega)) rfl) ?_
    refine GO_nil ?_
    (repeat first | refine G_seq ?_ | refine G_skip ?_ | refine G_endblk ?_ | refine G_block ?_ | refine G_exit rfl ?_)
    refine G_cond_t rfl rfl ?_
    (repeat first | refine G_seq ?_ | refine G_skip ?_ | refine G_endblk ?_ | refine G_block ?_ | refine G_exit rfl ?_)
    refine G_region ?_
    refine GO_q rfl rfl (ev_loadN rfl (by repeat' first | exact LdN.blk rfl | assumption | apply LdN.skip | apply LdN.app)) ?_
    refine GO_eff rfl rfl (eff_storeN rfl rfl rfl rfl (by repeat' first | exact Upd.here rfl | apply Upd.skip | apply Upd.app)) ?_; rintro _ _ ⟨rfl, rfl⟩
    refine GO_q rfl rfl (ev_assign rfl) ?_
    refine GO_nil ?_
    (repeat first | refine G_seq ?_ | refine G_skip ?_ | refine G_endblk ?_ | refine G_block ?_ | refine G_exit rfl ?_)
    refine G_ret rfl (.cell rfl (loadN_run (by repeat' first | exact LdN.blk rfl | assumption | apply LdN.skip | apply LdN.app)) (.tmp rfl .nil)) (by (repeat first | exact fun _ s => s | apply en_keep | apply en_drop | apply en_app) <;> fail) ⟨rfl, rfl⟩
  have h2 : ∀ M, Ctr Tryz.prog 114 #[.slice A 0 c, .int .i64 0, .func (.func f) #[] #[]] M fun r L' => r = .tuple #[.slice none 0 0, .agg #[.int .i64 0, .int .i64 0, .int .i64 0], .slice none 0 0, .bool false] ∧ L' = M := fun M => by
    refine Ctr_of (fn := Tryz.f114) (n := 50) Tryz.func114 rfl rfl rfl ?_
    intro g F
    (repeat first | refine G_seq ?_ | refine G_skip ?_ | refine G_endblk ?_ | refine G_block ?_ | refine G_exit rfl ?_)
    refine G_region ?_
    refine GO_q rfl rfl (ev_assign rfl) ?_
    refine GO_eff rfl rfl eff_alloc ?_; rintro _ _ ⟨b7, rfl, rfl⟩
    refine GO_q rfl rfl (ev_assign rfl) ?_
    refine GO_q rfl rfl (ev_assign rfl) ?_
    refine GO_nil ?_
    (repeat first | refine G_seq ?_ | refine G_skip ?_ | refine G_endblk ?_ | refine G_block ?_ | refine G_exit rfl ?_)
    refine G_region ?_
    refine GO_q rfl rfl (ev_move rfl) ?_
    refine GO_q rfl rfl (ev_move rfl) ?_
    refine GO_q rfl rfl (ev_move rfl) ?_
    refine GO_eff rfl rfl (eff_call rfl (h1 _)) ?_; rintro _ _ ⟨rfl, rfl⟩
    refine GO_q rfl rfl (ev_move rfl) ?_
    refine GO_q rfl rfl (ev_extract rfl rfl) ?_
    refine GO_q rfl rfl (ev_extract rfl rfl) ?_
    refine GO_eff rfl rfl eff_alloc ?_; rintro _ _ ⟨b10, rfl, rfl⟩
    refine GO_eff rfl rfl (eff_storeN rfl rfl rfl rfl (by repeat' first | exact Upd.here rfl | apply Upd.skip | apply Upd.app)) ?_; rintro _ _ ⟨rfl, rfl⟩
    refine GO_q rfl rfl (ev_assign rfl) ?_
    refine GO_nil ?_
    (repeat first | refine G_seq ?_ | refine G_skip ?_ | refine G_endblk ?_ | refine G_block ?_ | refine G_exit rfl ?_)
    refine G_region ?_
    refine GO_q rfl rfl (ev_move rfl) ?_
    refine GO_q rfl rfl (ev_not rfl) ?_
    refine GO_nil ?_
    (repeat first | refine G_seq ?_ | refine G_skip ?_ | refine G_endblk ?_ | refine G_block ?_ | refine G_exit rfl ?_)
    refine G_cond_t rfl rfl ?_
    (repeat first | refine G_seq ?_ | refine G_skip ?_ | refine G_endblk ?_ | refine G_block ?_ | refine G_exit rfl ?_)
    refine G_draw (.q 0 (.q 1 (.e 2 (.q 3 (.q 4 .nil))))) (by kernel_rfl) (by kernel_rfl) ?_
    refine RS_q retB_noPanic rfl rfl rfl rfl (ev_loadN rfl (by repeat' first | exact LdN.blk rfl | assumption | apply LdN.skip | apply LdN.app)) ?_
    refine RS_m retB_noPanic rfl rfl rfl rfl (ev_assign rfl) ?_
    refine RS_e (RE_cmp (by kernel_rfl) rfl rfl rfl (eff_storeN rfl rfl rfl rfl (by repeat' first | exact Upd.here rfl | apply Upd.skip | apply Upd.app)) ?_); rintro _ _ ⟨rfl, rfl⟩
    refine RS_m retB_noPanic rfl rfl rfl rfl (ev_assign rfl) ?_
    refine RS_m retB_noPanic rfl rfl rfl rfl (ev_assign rfl) ?_
    refine RS_nil ?_
    (repeat first | refine G_seq ?_ | refine G_skip ?_ | refine G_endblk ?_ | refine G_block ?_ | refine G_exit rfl ?_)
    refine G_ret rfl (.tmp rfl (.cell rfl (loadN_run (by repeat' first | exact LdN.blk rfl | assumption | apply LdN.skip | apply LdN.app)) (.tmp rfl (.tmp rfl .nil)))) (by (repeat first | exact fun _ s => s | apply en_keep | apply en_drop | apply en_app) <;> fail) ⟨rfl, rfl⟩
  refine Ctr_of (fn := Tryz.f87) (n := 18) Tryz.func87 rfl rfl rfl ?_
  intro g F
  (repeat first | refine G_seq ?_ | refine G_skip ?_ | refine G_endblk ?_ | refine G_block ?_ | refine G_exit rfl ?_)
  refine G_region ?_
  refine GO_q rfl rfl (ev_assign rfl) ?_
  refine GO_eff rfl rfl eff_alloc ?_; rintro _ _ ⟨b7, rfl, rfl⟩
  refine GO_q rfl rfl (ev_assign rfl) ?_
  refine GO_q rfl rfl (ev_assign rfl) ?_
  refine GO_nil ?_
  (repeat first | refine G_seq ?_ | refine G_skip ?_ | refine G_endblk ?_ | refine G_block ?_ | refine G_exit rfl ?_)
  refine G_region ?_
  refine GO_q rfl rfl (ev_move rfl) ?_
  refine GO_q rfl rfl (ev_move rfl) ?_
  refine GO_q rfl rfl (ev_move rfl) ?_
  refine GO_eff rfl rfl (eff_call rfl (h2 _)) ?_; rintro _ _ ⟨rfl, rfl⟩
  refine GO_q rfl rfl (ev_extract rfl rfl) ?_
  refine GO_q rfl rfl (ev_extract rfl rfl) ?_
  refine GO_q rfl rfl (ev_extract rfl rfl) ?_
  refine GO_q rfl rfl (ev_extract rfl rfl) ?_
  refine GO_q rfl rfl (ev_assign rfl) ?_
  refine GO_eff rfl rfl (eff_storeN rfl rfl rfl rfl (by repeat' first | exact Upd.here rfl | apply Upd.skip | apply Upd.app)) ?_; rintro _ _ ⟨rfl, rfl⟩
  refine GO_q rfl rfl (ev_assign rfl) ?_
  refine GO_q rfl rfl (ev_assign rfl) ?_
  refine GO_nil ?_
  (repeat first | refine G_seq ?_ | refine G_skip ?_ | refine G_endblk ?_ | refine G_block ?_ | refine G_exit rfl ?_)
  refine G_ret rfl (.tmp rfl (.cell rfl (loadN_run (by repeat' first | exact LdN.blk rfl | assumption | apply LdN.skip | apply LdN.app)) (.tmp rfl (.tmp rfl .nil)))) (by (repeat first | exact fun _ s => s | apply en_keep | apply en_drop | apply en_app) <;> fail) ⟨rfl, rfl⟩
end Go.Proofs.YtjgdhkilnalejaaGreat
/- A tree of points by two orders in turn: build. -/
namespace Go.Proofs.YtjgdhkilnalejaaGreat
attribute [local irreducible] sat
open Go.RowKit
set_option linter.unusedVariables false
set_option linter.unusedSimpArgs false
set_option maxRecDepth 100000

/-- What a node comes to by a note. -/
@[reducible] def KT.mk (b : Nat) (p : Pt) (gn : Bool) (lo hi : KT) : KT := .node b p gn (1 + lo.size + hi.size) (arK (arK p.bx lo) hi) lo hi
theorem KT.ok_mk {b : Nat} {p : Pt} {gn : Bool} {lo hi : KT} {lv : Nat} (h1 : lo.ok (lv + 1)) (h2 : hi.ok (lv + 1)) (s1 : ∀ q ∈ lo.all, ahd lv q p = true) (s2 : ∀ q ∈ hi.all, ahd lv p q = true) (c1 : lo.cnt ≤ prt (lo.cnt + hi.cnt + 1)) (c2 : hi.cnt ≤ prt (lo.cnt + hi.cnt + 1)) : (KT.mk b p gn lo hi).ok lv :=
  ⟨⟨s1, s2⟩, ⟨by rw [h1.size, h2.size]; omega, rfl, c1, c2⟩, h1, h2⟩
theorem KT.cnt_of {T : KT} {l : List Pt} (h : T.all.Perm l) : T.cnt = l.length := by rw [← T.all_len]; exact h.length_eq
/-- A tree that was built of points. -/
structure Bt (lv : Nat) (l : List Pt) (T : KT) : Prop where
  ok : T.ok lv
  all : T.all.Perm l
  pts : T.pts = T.all
theorem Bt.mk2 {lv : Nat} {l : List Pt} {v : Pt} {lo hi : KT} {b : Nat} (hd : l.Nodup) (hv : (srtO (ahd lv) l)[l.length / 2]? = some v) (h1 : Bt (lv + 1) (lowO (ahd lv) v l) lo) (h2 : Bt (lv + 1) (highO (ahd lv) v l) hi) : Bt lv l (.mk b v false lo hi) := by
  have o := sto_ahd lv
  have hm : v ∈ l := (srtO_perm l).subset (List.mem_of_getElem? hv)
  have e1 := midO_low o hv
  have e2 := midO_like o hv
  have e3 := partsO_length o v l
  have e4 := likeO_one hd hm
  have e5 : (likeO v l).length = 1 := by rw [e4]; rfl
  have n1 := KT.cnt_of h1.all
  have n2 := KT.cnt_of h2.all
  refine ⟨KT.ok_mk h1.ok h2.ok ?_ ?_ ?_ ?_, ?_, ?_⟩
  · intro q hq
    exact (List.mem_filter.1 (h1.all.subset hq)).2
  · intro q hq
    exact (List.mem_filter.1 (h2.all.subset hq)).2
  · rw [n1, n2]; unfold prt; omega
  · rw [n1, n2]; unfold prt; omega
  · have p := partsO_perm o v l
    rw [e4] at p
    refine List.Perm.trans ?_ p
    show (v :: (lo.all ++ hi.all)).Perm _
    exact ((h1.all.append h2.all).cons v).trans List.perm_middle.symm
  · show [v] ++ (lo.pts ++ hi.pts) = v :: (lo.all ++ hi.all)
    rw [h1.pts, h2.pts]; rfl
theorem kbuild_ctr (t : Nat) (r : Option Addr) (live most : Int) : ∀ (n : Nat) (A : Option Addr) (c : Nat) (l : List Pt) (lv built : Nat) (L : List HP), l.Nodup → Rd L A n l → n ≤ c → n ≤ 50000 → lv + n ≤ 900000 → built + n ≤ 9000000000000000000 →
    Ctr Tryz.prog 65 #[.pointer (some ⟨t, 0, none⟩), .slice A n c, .int .i64 (lv : Nat)] (blk t 79 (kdC r live most built) :: L) fun v L' => ∃ T : KT, Bt lv l T ∧ v = .pointer T.addr ∧ L' = ktH T :: blk t 79 (kdC r live most (built + n)) :: L := by
  intro n
  induction n using Nat.strongRecOn with
  | _ n ih =>
    intro A c l lv built L hd hl hc hn hlv hb
    have hll : l.length = n := hl.len (by decide)
    have hah := fun M => ahead_ctr lv M (by omega)
    rcases Nat.eq_zero_or_pos n with h0 | h0
    · subst h0
      have e : l = [] := List.eq_nil_of_length_eq_zero hll
      subst e
      refine Ctr_of (fn := Tryz.f65) (n := 56) Tryz.func65 rfl rfl rfl ?_
      intro g F
      (repeat first | refine G_seq ?_ | refine G_skip ?_ | refine G_endblk ?_ | refine G_block ?_ | refine G_exit rfl ?_)
      refine G_region ?_
      refine GO_q rfl rfl (ev_assign rfl) ?_
      refine GO_nil ?_
      (repeat first | refine G_seq ?_ | refine G_skip ?_ | refine G_endblk ?_ | refine G_block ?_ | refine G_exit rfl ?_)
      refine G_region ?_
      refine GO_q rfl rfl (ev_move rfl) ?_
      refine GO_q rfl rfl (ev_move rfl) ?_
      refine GO_q rfl rfl (ev_len rfl) ?_
      (first | refine GO_q rfl rfl (ev_quoN (q := 2) rfl rfl (by first | omega | (simp; done) | (simp; omega)) (by first | omega | (simp; done) | (simp; omega))) ?_ | refine GO_q rfl rfl (ev_quo rfl rfl (by first | omega | (simp; done) | (simp; omega)) (by first | omega | (simp; done) | (simp; omega)) (by first | omega | (simp; done) | (simp; omega))) ?_)
      refine GO_q rfl rfl (ev_move rfl) ?_
      refine GO_eff rfl rfl (eff_call rfl (hah _)) ?_; rintro _ _ ⟨rfl, rfl⟩
      refine GO_eff rfl rfl (eff_call rfl (Split0_ctr (aheadF lv) A c _)) ?_; rintro _ _ ⟨rfl, rfl⟩
      refine GO_q rfl rfl (ev_move rfl) ?_
      refine GO_q rfl rfl (ev_extract rfl rfl) ?_
      refine GO_q rfl rfl (ev_extract rfl rfl) ?_
      refine GO_q rfl rfl (ev_extract rfl rfl) ?_
      refine GO_q rfl rfl (ev_extract rfl rfl) ?_
      refine GO_eff rfl rfl eff_alloc ?_; rintro _ _ ⟨b8, rfl, rfl⟩
      refine GO_q rfl rfl (ev_assign rfl) ?_
      refine GO_eff rfl rfl (eff_storeN rfl rfl rfl rfl (by repeat' first | exact Upd.here rfl | apply Upd.skip | apply Upd.app)) ?_; rintro _ _ ⟨rfl, rfl⟩
      refine GO_q rfl rfl (ev_assign rfl) ?_
      refine GO_q rfl rfl (ev_assign rfl) ?_
      refine GO_nil ?_
      (repeat first | refine G_seq ?_ | refine G_skip ?_ | refine G_endblk ?_ | refine G_block ?_ | refine G_exit rfl ?_)
      refine G_region ?_
      refine GO_q rfl rfl (ev_move rfl) ?_
      (first | refine GO_q rfl rfl (ev_notP rfl) ?_ | refine GO_q rfl rfl (ev_not rfl) ?_)
      refine GO_nil ?_
      (repeat first | refine G_seq ?_ | refine G_skip ?_ | refine G_endblk ?_ | refine G_block ?_ | refine G_exit rfl ?_)
      refine G_cond_t rfl rfl ?_
      (repeat first | refine G_seq ?_ | refine G_skip ?_ | refine G_endblk ?_ | refine G_block ?_ | refine G_exit rfl ?_)
      refine G_region ?_
      refine GO_q rfl rfl (ev_assign rfl) ?_
      refine GO_nil ?_
      (repeat first | refine G_seq ?_ | refine G_skip ?_ | refine G_endblk ?_ | refine G_block ?_ | refine G_exit rfl ?_)
      exact G_ret (L' := ktH .nil :: blk t 79 (kdC r live most (built + 0)) :: L) rfl (.tmp rfl .nil) (by (repeat first | exact en_refl | refine en_ktn ?_ | (apply en_blk; focus ((repeat' first | exact Pick.here | apply Pick.skip | apply Pick.app); done); focus rfl) | (apply en_own; focus ((repeat' first | exact Pick.here | apply Pick.skip | apply Pick.app); done); focus rfl) | (apply en_pick; focus ((repeat' first | exact Pick.here | apply Pick.skip | apply Pick.app); done)) | apply en_drop | apply en_app) <;> fail) ⟨.nil, ⟨trivial, .nil, rfl⟩, rfl, rfl⟩
    · have hk : n / 2 < (srtO (ahd lv) l).length := by rw [srtO_length]; omega
      obtain ⟨v, hv⟩ : ∃ v, (srtO (ahd lv) l)[n / 2]? = some v := ⟨_, List.getElem?_eq_getElem hk⟩
      have hv2 : (srtO (ahd lv) l)[l.length / 2]? = some v := by rw [hll]; exact hv
      have hbt := fun b lo hi => Bt.mk2 (b := b) (lo := lo) (hi := hi) hd hv2
      have hsp := fun M h => Split_ctr (sto_ahd lv) (ahead_ls lv) A n c l (n / 2) v M h (by omega) hc hd hv
      have o := sto_ahd lv
      have e1 := midO_low o hv
      have e2 := midO_high o hv
      have hm : v ∈ l := (srtO_perm l).subset (List.mem_of_getElem? hv)
      have e3 := partsO_length o v l
      have e4 : (likeO v l).length = 1 := by rw [likeO_one hd hm]; rfl
      have d1 : (lowO (ahd lv) v l).Nodup := hd.filter _
      have d2 : (highO (ahd lv) v l).Nodup := hd.filter _
      generalize lowO (ahd lv) v l = l1 at *
      generalize highO (ahd lv) v l = l2 at *
      have ih1 := fun A c M hr hc1 => ih l1.length (by omega) A c l1 (lv + 1) (built + 1) M d1 hr hc1 (by omega) (by omega) (by omega)
      have ih2 := fun A c M hr hc1 => ih l2.length (by omega) A c l2 (lv + 1) (built + 1 + l1.length) M d2 hr hc1 (by omega) (by omega) (by omega)
      refine Ctr_of (fn := Tryz.f65) (n := 56) Tryz.func65 rfl rfl rfl ?_
      intro g F
      (repeat first | refine G_seq ?_ | refine G_skip ?_ | refine G_endblk ?_ | refine G_block ?_ | refine G_exit rfl ?_)
      refine G_region ?_
      refine GO_q rfl rfl (ev_assign rfl) ?_
      refine GO_nil ?_
      (repeat first | refine G_seq ?_ | refine G_skip ?_ | refine G_endblk ?_ | refine G_block ?_ | refine G_exit rfl ?_)
      refine G_region ?_
      refine GO_q rfl rfl (ev_move rfl) ?_
      refine GO_q rfl rfl (ev_move rfl) ?_
      refine GO_q rfl rfl (ev_len rfl) ?_
      (first | refine GO_q rfl rfl (ev_quoN (q := 2) rfl rfl (by first | omega | (simp; done) | (simp; omega)) (by first | omega | (simp; done) | (simp; omega))) ?_ | refine GO_q rfl rfl (ev_quo rfl rfl (by first | omega | (simp; done) | (simp; omega)) (by first | omega | (simp; done) | (simp; omega)) (by first | omega | (simp; done) | (simp; omega))) ?_)
      refine GO_q rfl rfl (ev_move rfl) ?_
      refine GO_eff rfl rfl (eff_call rfl (hah _)) ?_; rintro _ _ ⟨rfl, rfl⟩
      refine GO_eff rfl rfl (eff_call rfl (hsp _ (by repeat' first | exact Rc.blk rfl | assumption | apply Rd.skip | apply Rd.app))) ?_; rintro _ _ ⟨A1, c1, A2, c2, rfl, u1, u2, rfl⟩
      refine GO_q rfl rfl (ev_move rfl) ?_
      refine GO_q rfl rfl (ev_extract rfl rfl) ?_
      refine GO_q rfl rfl (ev_extract rfl rfl) ?_
      refine GO_q rfl rfl (ev_extract rfl rfl) ?_
      refine GO_q rfl rfl (ev_extract rfl rfl) ?_
      refine GO_eff rfl rfl eff_alloc ?_; rintro _ _ ⟨b8, rfl, rfl⟩
      refine GO_q rfl rfl (ev_assign rfl) ?_
      refine GO_eff rfl rfl (eff_storeN rfl rfl rfl rfl (by repeat' first | exact Upd.here rfl | apply Upd.skip | apply Upd.app)) ?_; rintro _ _ ⟨rfl, rfl⟩
      refine GO_q rfl rfl (ev_assign rfl) ?_
      refine GO_q rfl rfl (ev_assign rfl) ?_
      refine GO_nil ?_
      (repeat first | refine G_seq ?_ | refine G_skip ?_ | refine G_endblk ?_ | refine G_block ?_ | refine G_exit rfl ?_)
      refine G_region ?_
      refine GO_q rfl rfl (ev_move rfl) ?_
      (first | refine GO_q rfl rfl (ev_notP rfl) ?_ | refine GO_q rfl rfl (ev_not rfl) ?_)
      refine GO_nil ?_
      (repeat first | refine G_seq ?_ | refine G_skip ?_ | refine G_endblk ?_ | refine G_block ?_ | refine G_exit rfl ?_)
      refine G_cond_f rfl rfl ?_
      refine G_heap (L' := blk t 79 (kdC r live most built) :: blk b8 58 [.int .i64 v.id, .int .i64 v.x, .int .i64 v.y] :: own 58 3 A1 l1.length c1 (flat l1) :: own 58 3 A2 l2.length c2 (flat l2) :: F :: L) (by (repeat first | exact en_refl | (apply en_blk; focus ((repeat' first | exact Pick.here | apply Pick.skip | apply Pick.app); done); focus rfl) | (apply en_own; focus ((repeat' first | exact Pick.here | apply Pick.skip | apply Pick.app); done); focus rfl) | (apply en_pick; focus ((repeat' first | exact Pick.here | apply Pick.skip | apply Pick.app); done)) | apply en_drop | apply en_app) <;> fail) ?_
      (repeat first | refine G_seq ?_ | refine G_skip ?_ | refine G_endblk ?_ | refine G_block ?_ | refine G_exit rfl ?_)
      refine G_region ?_
      refine GO_q rfl rfl (ev_move rfl) ?_
      (first | refine GO_q rfl rfl (ev_nilCheck rfl) ?_ | refine GO_q rfl rfl (ev_nilCheckF (by simp) rfl) ?_)
      refine GO_q rfl rfl (ev_fieldAddr rfl) ?_
      refine GO_q rfl rfl (ev_load rfl (by repeat' first | exact Ld.blk rfl | assumption | apply Ld.skip | apply Ld.app)) ?_
      (first | refine GO_q rfl rfl (ev_addN (q := 1) rfl rfl (by first | omega | (simp; done) | (simp; omega))) ?_ | refine GO_q rfl rfl (ev_add rfl rfl (by first | omega | (simp; done) | (simp; omega))) ?_)
      (first | refine GO_q rfl rfl (ev_nilCheck rfl) ?_ | refine GO_q rfl rfl (ev_nilCheckF (by simp) rfl) ?_)
      refine GO_q rfl rfl (ev_fieldAddr rfl) ?_
      refine GO_eff rfl rfl (eff_store rfl rfl rfl (by repeat' first | exact Upd.here rfl | apply Upd.skip | apply Upd.app)) ?_; rintro _ _ ⟨rfl, rfl⟩
      refine GO_nil ?_
      (repeat first | refine G_seq ?_ | refine G_skip ?_ | refine G_endblk ?_ | refine G_block ?_ | refine G_exit rfl ?_)
      refine G_region ?_
      refine GO_q rfl rfl (ev_loadN rfl (by repeat' first | exact LdN.blk rfl | assumption | apply LdN.skip | apply LdN.app)) ?_
      refine GO_q rfl rfl (ev_build rfl rfl) ?_
      refine GO_eff rfl rfl (eff_box rfl) ?_; rintro _ _ ⟨b35, rfl, rfl⟩
      refine GO_q rfl rfl (ev_assign rfl) ?_
      refine GO_nil ?_
      refine G_heap (L' := blk b35 83 (kcC v false none none 0 ⟨0, 0, 0, 0⟩) :: blk t 79 (kdC r live most (built + 1)) :: own 58 3 A1 l1.length c1 (flat l1) :: own 58 3 A2 l2.length c2 (flat l2) :: F :: L) (by (repeat first | exact en_refl | (apply en_blk; focus ((repeat' first | exact Pick.here | apply Pick.skip | apply Pick.app); done); focus rfl) | (apply en_own; focus ((repeat' first | exact Pick.here | apply Pick.skip | apply Pick.app); done); focus rfl) | (apply en_pick; focus ((repeat' first | exact Pick.here | apply Pick.skip | apply Pick.app); done)) | apply en_drop | apply en_app) <;> fail) ?_
      (repeat first | refine G_seq ?_ | refine G_skip ?_ | refine G_endblk ?_ | refine G_block ?_ | refine G_exit rfl ?_)
      refine G_draw (.q 0 (.q 1 (.q 2 (.q 3 (.q 4 (.q 5 (.q 7 (.q 8 (.q 9 (.q 10 (.q 12 (.q 13 (.q 16 (.q 17 (.e 6 (.e 11 (.q 14 (.e 15 (.q 18 (.e 19 .nil)))))))))))))))))))) (by kernel_rfl) (by kernel_rfl) ?_
      refine RS_m retB_noPanic rfl rfl rfl rfl (ev_move rfl) ?_
      refine RS_m retB_noPanic rfl rfl rfl rfl (ev_move rfl) ?_
      refine RS_m retB_noPanic rfl rfl rfl rfl (ev_move rfl) ?_
      refine RS_m retB_noPanic rfl rfl rfl rfl (ev_move rfl) ?_
      refine RS_m retB_noPanic rfl rfl rfl rfl (ev_move rfl) ?_
      (first | refine RS_m retB_noPanic rfl rfl rfl rfl (ev_addN (q := 1) rfl rfl (by first | omega | (simp; done) | (simp; omega))) ?_ | refine RS_m retB_noPanic rfl rfl rfl rfl (ev_add rfl rfl (by first | omega | (simp; done) | (simp; omega))) ?_)
      refine RS_m retB_noPanic rfl rfl rfl rfl (ev_move rfl) ?_
      refine RS_m retB_noPanic rfl rfl rfl rfl (ev_move rfl) ?_
      refine RS_m retB_noPanic rfl rfl rfl rfl (ev_move rfl) ?_
      (first | refine RS_m retB_noPanic rfl rfl rfl rfl (ev_addN (q := 1) rfl rfl (by first | omega | (simp; done) | (simp; omega))) ?_ | refine RS_m retB_noPanic rfl rfl rfl rfl (ev_add rfl rfl (by first | omega | (simp; done) | (simp; omega))) ?_)
      (first | refine RS_m retB_noPanic rfl rfl rfl rfl (ev_nilCheck rfl) ?_ | refine RS_m retB_noPanic rfl rfl rfl rfl (ev_nilCheckF (by simp) rfl) ?_)
      refine RS_m retB_noPanic rfl rfl rfl rfl (ev_fieldAddr rfl) ?_
      (first | refine RS_m retB_noPanic rfl rfl rfl rfl (ev_nilCheck rfl) ?_ | refine RS_m retB_noPanic rfl rfl rfl rfl (ev_nilCheckF (by simp) rfl) ?_)
      refine RS_m retB_noPanic rfl rfl rfl rfl (ev_fieldAddr rfl) ?_
      refine RS_e (RE_cmp (by kernel_rfl) rfl rfl rfl (eff_call rfl (Ctr.pick (by repeat' first | exact Pick.here | apply Pick.skip | apply Pick.app) (ih1 A1 c1 _ (by repeat' first | exact Rc.own (flat_length _) u1.1 | apply Rd.skip) u1.2.1))) ?_); rintro _ _ ⟨T1, g1, rfl, rfl⟩
      refine RS_e (RE_cmp (by kernel_rfl) rfl rfl rfl (eff_call rfl (Ctr.pick (by repeat' first | exact Pick.here | apply Pick.skip | apply Pick.app) (ih2 A2 c2 _ (by repeat' first | exact Rc.own (flat_length _) u2.1 | apply Rd.skip) u2.2.1))) ?_); rintro _ _ ⟨T2, g2, rfl, rfl⟩
      refine RS_m retB_noPanic rfl rfl rfl rfl (ev_indexAddrA rfl rfl (by first | omega | (simp; done) | (simp; omega)) (by first | omega | (simp; done) | (simp; omega))) ?_
      refine RS_e (RE_cmp (by kernel_rfl) rfl rfl rfl (eff_store rfl rfl rfl (by repeat' first | exact Upd.here rfl | apply Upd.skip | apply Upd.app)) ?_); rintro _ _ ⟨rfl, rfl⟩
      refine RS_m retB_noPanic rfl rfl rfl rfl (ev_indexAddrA rfl rfl (by first | omega | (simp; done) | (simp; omega)) (by first | omega | (simp; done) | (simp; omega))) ?_
      refine RS_e (RE_last (by kernel_rfl) rfl rfl rfl (eff_store rfl rfl rfl (by repeat' first | exact Upd.here rfl | apply Upd.skip | apply Upd.app)) ?_); rintro _ _ ⟨rfl, rfl⟩
      have z1 := g1.ok.size
      have z2 := g2.ok.size
      have z3 := KT.cnt_of g1.all
      have z4 := KT.cnt_of g2.all
      refine G_heap (L' := blk b35 83 (kcC v false T1.addr T2.addr 0 ⟨0, 0, 0, 0⟩) :: ktH T1 :: ktH T2 :: blk t 79 (kdC r live most (built + 1 + l1.length + l2.length)) :: F :: L) (by (repeat first | exact en_refl | (apply en_blk; focus ((repeat' first | exact Pick.here | apply Pick.skip | apply Pick.app); done); focus rfl) | (apply en_own; focus ((repeat' first | exact Pick.here | apply Pick.skip | apply Pick.app); done); focus rfl) | (apply en_pick; focus ((repeat' first | exact Pick.here | apply Pick.skip | apply Pick.app); done)) | apply en_drop | apply en_app) <;> fail) ?_
      (repeat first | refine G_seq ?_ | refine G_skip ?_ | refine G_endblk ?_ | refine G_block ?_ | refine G_exit rfl ?_)
      refine G_region ?_
      refine GO_q rfl rfl (ev_move rfl) ?_
      refine GO_eff rfl rfl (eff_call rfl (Ctr.pick (by repeat' first | exact Pick.here | apply Pick.skip | apply Pick.app) (note_ctr b35 v false 0 ⟨0, 0, 0, 0⟩ T1 T2 _ (by repeat' first | exact ktH_in _ _ | apply KIn.skip) (by repeat' first | exact ktH_in _ _ | apply KIn.skip) (by omega) (by omega)))) ?_; rintro _ _ ⟨rfl, rfl⟩
      refine GO_q rfl rfl (ev_assign rfl) ?_
      refine GO_nil ?_
      have eb : built + 1 + l1.length + l2.length = built + n := by omega
      rw [eb]
      (repeat first | refine G_seq ?_ | refine G_skip ?_ | refine G_endblk ?_ | refine G_block ?_ | refine G_exit rfl ?_)
      exact G_ret (L' := ktH (.mk b35 v false T1 T2) :: blk t 79 (kdC r live most (built + n)) :: L) rfl (.tmp rfl .nil) (by (repeat first | exact en_refl | refine en_kt ?_ | (apply en_blk; focus ((repeat' first | exact Pick.here | apply Pick.skip | apply Pick.app); done); focus rfl) | (apply en_own; focus ((repeat' first | exact Pick.here | apply Pick.skip | apply Pick.app); done); focus rfl) | (apply en_pick; focus ((repeat' first | exact Pick.here | apply Pick.skip | apply Pick.app); done)) | apply en_drop | apply en_app) <;> fail) ⟨_, hbt b35 T1 T2 g1 g2, rfl, rfl⟩
end Go.Proofs.YtjgdhkilnalejaaGreat
/- A tree of points by two orders in turn: put. -/
namespace Go.Proofs.YtjgdhkilnalejaaGreat
attribute [local irreducible] sat
open Go.RowKit
set_option linter.unusedVariables false
set_option linter.unusedSimpArgs false
set_option maxRecDepth 100000

/-- A tree that a point was put into. -/
structure PutK (lv : Nat) (q : Pt) (T T' : KT) : Prop where
  ok : T'.ok lv
  pts : T'.pts.Perm (q :: T.pts)
  all : ∀ r ∈ T'.all, r = q ∨ r ∈ T.all
  cnt : T'.cnt ≤ T.cnt + 1
theorem PutK.of_mk {lv : Nat} {q : Pt} {T : KT} {b : Nat} {p : Pt} {gn : Bool} {lo hi : KT} (o1 : lo.ok (lv + 1)) (o2 : hi.ok (lv + 1)) (s1 : ∀ r ∈ lo.all, ahd lv r p = true) (s2 : ∀ r ∈ hi.all, ahd lv p r = true)
    (hp : (KT.mk b p gn lo hi).pts.Perm (q :: T.pts)) (ha : ∀ r ∈ (KT.mk b p gn lo hi).all, r = q ∨ r ∈ T.all) (hc : (KT.mk b p gn lo hi).cnt ≤ T.cnt + 1) :
    (¬ prt (1 + lo.size + hi.size) < max lo.size hi.size → PutK lv q T (.mk b p gn lo hi)) ∧ (∀ T', Bt lv (KT.mk b p gn lo hi).pts T' → PutK lv q T T') ∧ (KT.mk b p gn lo hi).pts.Nodup := by
  have o := sto_ahd lv
  refine ⟨fun hh => ⟨KT.ok_mk o1 o2 s1 s2 ?_ ?_, hp, ha, hc⟩, fun T' hb => ⟨hb.ok, hb.pts ▸ hb.all.trans hp, fun r hr => ha r ?_, ?_⟩, ?_⟩
  · rw [o1.size, o2.size] at hh
    have e : lo.cnt + hi.cnt + 1 = 1 + lo.cnt + hi.cnt := by omega
    rw [e]; omega
  · rw [o1.size, o2.size] at hh
    have e : lo.cnt + hi.cnt + 1 = 1 + lo.cnt + hi.cnt := by omega
    rw [e]; omega
  · exact (KT.pts_sub _).subset (hb.all.subset hr)
  · rw [KT.cnt_of hb.all, hp.length_eq, List.length_cons]
    have := T.pts_len
    omega
  · refine (KT.pts_sub _).nodup ?_
    refine List.nodup_cons.2 ⟨fun hp => ?_, List.nodup_append.2 ⟨o1.nodup, o2.nodup, fun a ha c hc e => ?_⟩⟩
    · rcases List.mem_append.1 hp with hp | hp
      · have := s1 p hp; rw [o.irr] at this; cases this
      · have := s2 p hp; rw [o.irr] at this; cases this
    · subst e
      have := o.tr (s1 a ha) (s2 a hc)
      rw [o.irr] at this; cases this
theorem PutK.lo {lv : Nat} {q : Pt} {b : Nat} {p : Pt} {gn : Bool} {m : Nat} {x : Bx} {lo hi lo' : KT} (ho : (KT.node b p gn m x lo hi).ok lv) (hq : ahd lv q p = true) (h : PutK (lv + 1) q lo lo') :
    (¬ prt (1 + lo'.size + hi.size) < max lo'.size hi.size → PutK lv q (.node b p gn m x lo hi) (.mk b p gn lo' hi)) ∧ (∀ T', Bt lv (KT.mk b p gn lo' hi).pts T' → PutK lv q (.node b p gn m x lo hi) T') ∧ (KT.mk b p gn lo' hi).pts.Nodup := by
  refine PutK.of_mk h.ok ho.2.2.2 (fun r hr => ?_) ho.1.2 ?_ (fun r hr => ?_) ?_
  · rcases h.all r hr with rfl | hr
    · exact hq
    · exact ho.1.1 r hr
  · show ((if gn then [] else [p]) ++ (lo'.pts ++ hi.pts)).Perm (q :: ((if gn then [] else [p]) ++ (lo.pts ++ hi.pts)))
    refine List.Perm.trans (List.Perm.append_left _ (h.pts.append_right _)) ?_
    exact List.perm_middle
  · simp only [KT.all, List.mem_cons, List.mem_append] at hr ⊢
    rcases hr with rfl | hr | hr
    · exact .inr (.inl rfl)
    · rcases h.all r hr with rfl | hr
      · exact .inl rfl
      · exact .inr (.inr (.inl hr))
    · exact .inr (.inr (.inr hr))
  · have := h.cnt
    simp only [KT.cnt]; omega
theorem PutK.hi {lv : Nat} {q : Pt} {b : Nat} {p : Pt} {gn : Bool} {m : Nat} {x : Bx} {lo hi hi' : KT} (ho : (KT.node b p gn m x lo hi).ok lv) (hq : ahd lv p q = true) (h : PutK (lv + 1) q hi hi') :
    (¬ prt (1 + lo.size + hi'.size) < max lo.size hi'.size → PutK lv q (.node b p gn m x lo hi) (.mk b p gn lo hi')) ∧ (∀ T', Bt lv (KT.mk b p gn lo hi').pts T' → PutK lv q (.node b p gn m x lo hi) T') ∧ (KT.mk b p gn lo hi').pts.Nodup := by
  refine PutK.of_mk ho.2.2.1 h.ok ho.1.1 (fun r hr => ?_) ?_ (fun r hr => ?_) ?_
  · rcases h.all r hr with rfl | hr
    · exact hq
    · exact ho.1.2 r hr
  · show ((if gn then [] else [p]) ++ (lo.pts ++ hi'.pts)).Perm (q :: ((if gn then [] else [p]) ++ (lo.pts ++ hi.pts)))
    refine List.Perm.trans (List.Perm.append_left _ (List.Perm.append_left _ h.pts)) ?_
    rw [← List.append_assoc, ← List.append_assoc]
    exact List.perm_middle
  · simp only [KT.all, List.mem_cons, List.mem_append] at hr ⊢
    rcases hr with rfl | hr | hr
    · exact .inr (.inl rfl)
    · exact .inr (.inr (.inl hr))
    · rcases h.all r hr with rfl | hr
      · exact .inl rfl
      · exact .inr (.inr (.inr hr))
  · have := h.cnt
    simp only [KT.cnt]; omega
theorem blk_p {b : Nat} {p : Pt} {gn : Bool} {a1 a2 : Option Addr} {m : Nat} {x : Bx} {M : List HP} : LdN (blk b 83 (kcC p gn a1 a2 m x) :: M) b (0 + 0) 3 [.int .i64 p.id, .int .i64 p.x, .int .i64 p.y] :=
  have h : LdN (blk b 83 (kcC p gn a1 a2 m x) :: M) b 0 11 (kcC p gn a1 a2 m x) := LdN.blk rfl
  ldn_sub (k := 0) h rfl (fun j v hj => by match j with
      | 0 => exact hj
      | 1 => exact hj
      | 2 => exact hj
      | j + 3 => simp at hj)
theorem kput_ctr (t : Nat) (r : Option Addr) (live most : Int) (q : Pt) : ∀ (T : KT) (lv built : Nat) (L : List HP), T.ok lv → q ∉ T.pts → T.cnt ≤ 1000 → lv + T.cnt ≤ 800000 → built + 2000 * T.depth ≤ 8000000000000000000 →
    Ctr Tryz.prog 48 #[.pointer (some ⟨t, 0, none⟩), .pointer T.addr, q.v, .int .i64 (lv : Nat)] (ktH T :: blk t 79 (kdC r live most built) :: L) fun v L' => ∃ T' k, PutK lv q T T' ∧ k ≤ built + 2000 * T.depth ∧ v = .pointer T'.addr ∧ L' = ktH T' :: blk t 79 (kdC r live most k) :: L
  | .nil, lv, built, L, ho, hq, hn, hl, hb => by
    refine Ctr_of (fn := Tryz.f48) (n := 55) Tryz.func48 rfl rfl rfl ?_
    intro g F
    (repeat first | refine G_seq ?_ | refine G_skip ?_ | refine G_endblk ?_ | refine G_block ?_ | refine G_exit rfl ?_)
    refine G_region ?_
    refine GO_eff rfl rfl (eff_box rfl) ?_; rintro _ _ ⟨b6, rfl, rfl⟩
    refine GO_q rfl rfl (ev_assign rfl) ?_
    refine GO_nil ?_
    (repeat first | refine G_seq ?_ | refine G_skip ?_ | refine G_endblk ?_ | refine G_block ?_ | refine G_exit rfl ?_)
    refine G_region ?_
    refine GO_q rfl rfl (ev_move rfl) ?_
    (first | refine GO_q rfl rfl (ev_eqlNil rfl rfl) ?_ | refine GO_q rfl rfl (ev_eqlPtr rfl rfl) ?_)
    refine GO_nil ?_
    (repeat first | refine G_seq ?_ | refine G_skip ?_ | refine G_endblk ?_ | refine G_block ?_ | refine G_exit rfl ?_)
    refine G_cond_t rfl rfl ?_
    (repeat first | refine G_seq ?_ | refine G_skip ?_ | refine G_endblk ?_ | refine G_block ?_ | refine G_exit rfl ?_)
    refine G_region ?_
    refine GO_q rfl rfl (ev_loadN rfl (by repeat' first | exact LdN.blk rfl | assumption | apply LdN.skip | apply LdN.app)) ?_
    refine GO_q rfl rfl (ev_build rfl rfl) ?_
    refine GO_eff rfl rfl (eff_box rfl) ?_; rintro _ _ ⟨b14, rfl, rfl⟩
    refine GO_eff rfl rfl (eff_call rfl (note_ctr b14 q false 0 ⟨0, 0, 0, 0⟩ .nil .nil _ trivial trivial (by decide) (by decide))) ?_; rintro _ _ ⟨rfl, rfl⟩
    refine GO_q rfl rfl (ev_assign rfl) ?_
    refine GO_nil ?_
    (repeat first | refine G_seq ?_ | refine G_skip ?_ | refine G_endblk ?_ | refine G_block ?_ | refine G_exit rfl ?_)
    exact G_ret (L' := ktH (.mk b14 q false .nil .nil) :: blk t 79 (kdC r live most built) :: L) rfl (.tmp rfl .nil) (by (repeat first | exact en_refl | refine en_kt ?_ | apply en_ktn | (apply en_blk; focus ((repeat' first | exact Pick.here | apply Pick.skip | apply Pick.app); done); focus rfl) | (apply en_own; focus ((repeat' first | exact Pick.here | apply Pick.skip | apply Pick.app); done); focus rfl) | (apply en_pick; focus ((repeat' first | exact Pick.here | apply Pick.skip | apply Pick.app); done)) | apply en_drop | apply en_app) <;> fail) ⟨.mk b14 q false .nil .nil, built, ⟨KT.ok_mk trivial trivial (by simp [KT.all]) (by simp [KT.all]) (by decide) (by decide), .refl _, fun r hr => by simpa [KT.all] using hr, by simp [KT.cnt]⟩, Nat.le_add_right _ _, rfl, rfl⟩
  | .node b p gn m x lo hi, lv, built, L, ho, hq, hn, hl, hb => by
    simp only [KT.cnt] at hn hl
    simp only [KT.depth] at hb
    have o := sto_ahd lv
    have p1 := fun T' h => PutK.lo (lo' := T') (q := q) ho h
    have p2 := fun T' h => PutK.hi (hi' := T') (q := q) ho h
    have i1 := fun k M h => kput_ctr t r live most q lo (lv + 1) k M ho.2.2.1 h (by omega) (by omega)
    have i2 := fun k M h => kput_ctr t r live most q hi (lv + 1) k M ho.2.2.2 h (by omega) (by omega)
    have n1 : q ∉ lo.pts := fun h => hq (by simp [KT.pts, h])
    have n2 := fun h : q ∈ hi.pts => hq (by simp [KT.pts, h])
    have z1 := ho.2.2.1.size
    have z2 := ho.2.2.2.size
    refine Ctr.kt ?_
    by_cases e : p = q
    · subst e
      have eg : gn = true := by cases gn <;> simp [KT.pts] at hq ⊢
      subst eg
      refine Ctr_of (fn := Tryz.f48) (n := 55) Tryz.func48 rfl rfl rfl ?_
      intro g F
      (repeat first | refine G_seq ?_ | refine G_skip ?_ | refine G_endblk ?_ | refine G_block ?_ | refine G_exit rfl ?_)
      refine G_region ?_
      refine GO_eff rfl rfl (eff_box rfl) ?_; rintro _ _ ⟨b6, rfl, rfl⟩
      refine GO_q rfl rfl (ev_assign rfl) ?_
      refine GO_nil ?_
      (repeat first | refine G_seq ?_ | refine G_skip ?_ | refine G_endblk ?_ | refine G_block ?_ | refine G_exit rfl ?_)
      refine G_region ?_
      refine GO_q rfl rfl (ev_move rfl) ?_
      (first | refine GO_q rfl rfl (ev_eqlNil rfl rfl) ?_ | refine GO_q rfl rfl (ev_eqlPtr rfl rfl) ?_)
      refine GO_nil ?_
      (repeat first | refine G_seq ?_ | refine G_skip ?_ | refine G_endblk ?_ | refine G_block ?_ | refine G_exit rfl ?_)
      refine G_cond_f rfl rfl ?_
      (repeat first | refine G_seq ?_ | refine G_skip ?_ | refine G_endblk ?_ | refine G_block ?_ | refine G_exit rfl ?_)
      refine G_draw (.q 0 (.q 1 (.q 2 (.q 3 (.q 4 (.q 5 .nil)))))) (by kernel_rfl) (by kernel_rfl) ?_
      refine RS_m retB_noPanic rfl rfl rfl rfl (ev_move rfl) ?_
      (first | refine RS_m retB_noPanic rfl rfl rfl rfl (ev_nilCheck rfl) ?_ | refine RS_m retB_noPanic rfl rfl rfl rfl (ev_nilCheckF (by simp) rfl) ?_)
      refine RS_m retB_noPanic rfl rfl rfl rfl (ev_fieldAddr rfl) ?_
      refine RS_q retB_noPanic rfl rfl rfl rfl (ev_loadN rfl (by repeat' first | exact LdN.blk rfl | assumption | apply LdN.skip | apply LdN.app)) ?_
      refine RS_q retB_noPanic rfl rfl rfl rfl (ev_loadN rfl (by repeat' first | exact LdN.blk rfl | assumption | apply LdN.skip | apply LdN.app)) ?_
      refine RS_m retB_noPanic rfl rfl rfl rfl (ev_eqlS rfl rfl rfl rfl rfl rfl) ?_
      refine RS_nil ?_
      all_goals
        (repeat first | refine G_seq ?_ | refine G_skip ?_ | refine G_endblk ?_ | refine G_block ?_ | refine G_exit rfl ?_)
        refine G_cond_t rfl (decide_eq_true rfl) ?_
        (repeat first | refine G_seq ?_ | refine G_skip ?_ | refine G_endblk ?_ | refine G_block ?_ | refine G_exit rfl ?_)
        refine G_region ?_
        refine GO_q rfl rfl (ev_move rfl) ?_
        (first | refine GO_q rfl rfl (ev_nilCheck rfl) ?_ | refine GO_q rfl rfl (ev_nilCheckF (by simp) rfl) ?_)
        refine GO_q rfl rfl (ev_fieldAddr rfl) ?_
        refine GO_eff rfl rfl (eff_store rfl rfl rfl (by repeat' first | exact Upd.here rfl | apply Upd.skip | apply Upd.app)) ?_; rintro _ _ ⟨rfl, rfl⟩
        refine GO_nil ?_
        (repeat first | refine G_seq ?_ | refine G_skip ?_ | refine G_endblk ?_ | refine G_block ?_ | refine G_exit rfl ?_)
        refine G_region ?_
        refine GO_q rfl rfl (ev_move rfl) ?_
        refine GO_q rfl rfl (ev_assign rfl) ?_
        refine GO_nil ?_
        (repeat first | refine G_seq ?_ | refine G_skip ?_ | refine G_endblk ?_ | refine G_block ?_ | refine G_exit rfl ?_)
        exact G_ret (L' := ktH (.node b p false m x lo hi) :: blk t 79 (kdC r live most built) :: L) rfl (.tmp rfl .nil) (by (repeat first | exact en_refl | refine en_kt ?_ | (apply en_blk; focus ((repeat' first | exact Pick.here | apply Pick.skip | apply Pick.app); done); focus rfl) | (apply en_own; focus ((repeat' first | exact Pick.here | apply Pick.skip | apply Pick.app); done); focus rfl) | (apply en_pick; focus ((repeat' first | exact Pick.here | apply Pick.skip | apply Pick.app); done)) | apply en_drop | apply en_app) <;> fail) ⟨.node b p false m x lo hi, built, ⟨ho, .refl _, fun r hr => .inr hr, Nat.le_add_right _ _⟩, Nat.le_add_right _ _, rfl, rfl⟩
    · have hne : [p.id, p.x, p.y] ≠ [q.id, q.x, q.y] := fun e' => e (by
        cases p; cases q
        simp only [List.cons.injEq, and_true] at e'
        simp [e'])
      have hs := side_ctr b p q lv
      cases hh : ahd lv q p with
      | true =>
        rw [hh] at hs
        have pp1 := fun T' h => p1 T' hh h
        refine Ctr_of (fn := Tryz.f48) (n := 55) Tryz.func48 rfl rfl rfl ?_
        intro g F
        (repeat first | refine G_seq ?_ | refine G_skip ?_ | refine G_endblk ?_ | refine G_block ?_ | refine G_exit rfl ?_)
        refine G_region ?_
        refine GO_eff rfl rfl (eff_box rfl) ?_; rintro _ _ ⟨b6, rfl, rfl⟩
        refine GO_q rfl rfl (ev_assign rfl) ?_
        refine GO_nil ?_
        (repeat first | refine G_seq ?_ | refine G_skip ?_ | refine G_endblk ?_ | refine G_block ?_ | refine G_exit rfl ?_)
        refine G_region ?_
        refine GO_q rfl rfl (ev_move rfl) ?_
        (first | refine GO_q rfl rfl (ev_eqlNil rfl rfl) ?_ | refine GO_q rfl rfl (ev_eqlPtr rfl rfl) ?_)
        refine GO_nil ?_
        (repeat first | refine G_seq ?_ | refine G_skip ?_ | refine G_endblk ?_ | refine G_block ?_ | refine G_exit rfl ?_)
        refine G_cond_f rfl rfl ?_
        (repeat first | refine G_seq ?_ | refine G_skip ?_ | refine G_endblk ?_ | refine G_block ?_ | refine G_exit rfl ?_)
        refine G_draw (.q 0 (.q 1 (.q 2 (.q 3 (.q 4 (.q 5 .nil)))))) (by kernel_rfl) (by kernel_rfl) ?_
        refine RS_m retB_noPanic rfl rfl rfl rfl (ev_move rfl) ?_
        (first | refine RS_m retB_noPanic rfl rfl rfl rfl (ev_nilCheck rfl) ?_ | refine RS_m retB_noPanic rfl rfl rfl rfl (ev_nilCheckF (by simp) rfl) ?_)
        refine RS_m retB_noPanic rfl rfl rfl rfl (ev_fieldAddr rfl) ?_
        refine RS_q retB_noPanic rfl rfl rfl rfl (ev_loadN rfl (by repeat' first | exact LdN.blk rfl | assumption | apply LdN.skip | apply LdN.app)) ?_
        refine RS_q retB_noPanic rfl rfl rfl rfl (ev_loadN rfl (by repeat' first | exact LdN.blk rfl | assumption | apply LdN.skip | apply LdN.app)) ?_
        refine RS_m retB_noPanic rfl rfl rfl rfl (ev_eqlS rfl rfl rfl rfl rfl rfl) ?_
        refine RS_nil ?_
        all_goals
          (repeat first | refine G_seq ?_ | refine G_skip ?_ | refine G_endblk ?_ | refine G_block ?_ | refine G_exit rfl ?_)
          refine G_cond_f rfl (decide_eq_false hne) ?_
          (repeat first | refine G_seq ?_ | refine G_skip ?_ | refine G_endblk ?_ | refine G_block ?_ | refine G_exit rfl ?_)
          refine G_region ?_
          refine GO_q rfl rfl (ev_move rfl) ?_
          refine GO_q rfl rfl (ev_loadN rfl (by repeat' first | exact LdN.blk rfl | assumption | apply LdN.skip | apply LdN.app)) ?_
          refine GO_q rfl rfl (ev_move rfl) ?_
          refine GO_eff rfl rfl (eff_call rfl (hs _ (by repeat' first | exact blk_p | apply LdN.skip) (by omega))) ?_; rintro _ _ ⟨rfl, rfl⟩
          refine GO_q rfl rfl (ev_assign rfl) ?_
          refine GO_nil ?_
          refine G_heap (L' := ktH lo :: blk t 79 (kdC r live most built) :: blk b 83 (kcC p gn lo.addr hi.addr m x) :: blk b6 58 [.int .i64 q.id, .int .i64 q.x, .int .i64 q.y] :: ktH hi :: F :: L) (by (repeat first | exact en_refl | (apply en_blk; focus ((repeat' first | exact Pick.here | apply Pick.skip | apply Pick.app); done); focus rfl) | (apply en_own; focus ((repeat' first | exact Pick.here | apply Pick.skip | apply Pick.app); done); focus rfl) | (apply en_pick; focus ((repeat' first | exact Pick.here | apply Pick.skip | apply Pick.app); done)) | apply en_drop | apply en_app) <;> fail) ?_
          (repeat first | refine G_seq ?_ | refine G_skip ?_ | refine G_endblk ?_ | refine G_block ?_ | refine G_exit rfl ?_)
          refine G_draw (.q 0 (.q 1 (.q 2 (.q 3 (.q 4 (.q 5 (.q 6 (.q 7 (.q 8 (.q 9 (.q 10 (.q 11 (.q 13 (.q 14 (.e 12 (.q 15 (.e 16 .nil))))))))))))))))) (by kernel_rfl) (by kernel_rfl) ?_
          refine RS_m retB_noPanic rfl rfl rfl rfl (ev_move rfl) ?_
          refine RS_m retB_noPanic rfl rfl rfl rfl (ev_move rfl) ?_
          refine RS_m retB_noPanic rfl rfl rfl rfl (ev_move rfl) ?_
          refine RS_m retB_noPanic rfl rfl rfl rfl (ev_move rfl) ?_
          refine RS_m retB_noPanic rfl rfl rfl rfl (ev_move rfl) ?_
          (first | refine RS_m retB_noPanic rfl rfl rfl rfl (ev_nilCheck rfl) ?_ | refine RS_m retB_noPanic rfl rfl rfl rfl (ev_nilCheckF (by simp) rfl) ?_)
          refine RS_m retB_noPanic rfl rfl rfl rfl (ev_fieldAddr rfl) ?_
          refine RS_m retB_noPanic rfl rfl rfl rfl (ev_indexAddrA rfl rfl (by first | omega | (simp; done) | (simp; omega)) (by first | omega | (simp; done) | (simp; omega))) ?_
          refine RS_q retB_noPanic rfl rfl rfl rfl (ev_load rfl (by repeat' first | exact Ld.blk rfl | assumption | apply Ld.skip | apply Ld.app)) ?_
          refine RS_q retB_noPanic rfl rfl rfl rfl (ev_loadN rfl (by repeat' first | exact LdN.blk rfl | assumption | apply LdN.skip | apply LdN.app)) ?_
          refine RS_m retB_noPanic rfl rfl rfl rfl (ev_move rfl) ?_
          (first | refine RS_m retB_noPanic rfl rfl rfl rfl (ev_addN (q := 1) rfl rfl (by first | omega | (simp; done) | (simp; omega))) ?_ | refine RS_m retB_noPanic rfl rfl rfl rfl (ev_add rfl rfl (by first | omega | (simp; done) | (simp; omega))) ?_)
          (first | refine RS_m retB_noPanic rfl rfl rfl rfl (ev_nilCheck rfl) ?_ | refine RS_m retB_noPanic rfl rfl rfl rfl (ev_nilCheckF (by simp) rfl) ?_)
          refine RS_m retB_noPanic rfl rfl rfl rfl (ev_fieldAddr rfl) ?_
          refine RS_e (RE_cmp (by kernel_rfl) rfl rfl rfl (eff_call rfl (i1 built _ n1 (by omega))) ?_); rintro _ _ ⟨T1, k1, g1, hk1, rfl, rfl⟩
          refine RS_m retB_noPanic rfl rfl rfl rfl (ev_indexAddrA rfl rfl (by first | omega | (simp; done) | (simp; omega)) (by first | omega | (simp; done) | (simp; omega))) ?_
          refine RS_e (RE_last (by kernel_rfl) rfl rfl rfl (eff_store rfl rfl rfl (by repeat' first | exact Upd.here rfl | apply Upd.skip | apply Upd.app)) ?_); rintro _ _ ⟨rfl, rfl⟩
          all_goals
            obtain ⟨w1, w2, w3⟩ := pp1 T1 g1
            have z3 := g1.ok.size
            have z4 := g1.cnt
            have z5 := (KT.mk b p gn T1 hi).pts_len
            simp only [KT.cnt] at z5
            refine G_heap (L' := blk b 83 (kcC p gn T1.addr hi.addr m x) :: ktH T1 :: blk t 79 (kdC r live most k1) :: ktH hi :: F :: L) (by (repeat first | exact en_refl | (apply en_blk; focus ((repeat' first | exact Pick.here | apply Pick.skip | apply Pick.app); done); focus rfl) | (apply en_own; focus ((repeat' first | exact Pick.here | apply Pick.skip | apply Pick.app); done); focus rfl) | (apply en_pick; focus ((repeat' first | exact Pick.here | apply Pick.skip | apply Pick.app); done)) | apply en_drop | apply en_app) <;> fail) ?_
            (repeat first | refine G_seq ?_ | refine G_skip ?_ | refine G_endblk ?_ | refine G_block ?_ | refine G_exit rfl ?_)
            refine G_region ?_
            refine GO_q rfl rfl (ev_move rfl) ?_
            refine GO_eff rfl rfl (eff_call rfl (Ctr.pick (by repeat' first | exact Pick.here | apply Pick.skip | apply Pick.app) (note_ctr b p gn m x T1 hi _ (by repeat' first | exact ktH_in _ _ | apply KIn.skip) (by repeat' first | exact ktH_in _ _ | apply KIn.skip) (by omega) (by omega)))) ?_; rintro _ _ ⟨rfl, rfl⟩
            refine GO_eff rfl rfl (eff_call rfl (heavy_ctr b p gn _ _ T1 hi _ ⟨(by repeat' first | exact LdN.blk rfl | apply LdN.skip), (by repeat' first | exact ktH_in _ _ | apply KIn.skip), (by repeat' first | exact ktH_in _ _ | apply KIn.skip)⟩ (by omega))) ?_; rintro _ _ ⟨rfl, rfl⟩
            refine GO_nil ?_
            (repeat first | refine G_seq ?_ | refine G_skip ?_ | refine G_endblk ?_ | refine G_block ?_ | refine G_exit rfl ?_)
            refine G_cond rfl (fun c => ?_) (fun c => ?_)
            · have hps := kpoints_ctr (.mk b p gn T1 hi)
              generalize (KT.mk b p gn T1 hi).pts = ps at *
              (repeat first | refine G_seq ?_ | refine G_skip ?_ | refine G_endblk ?_ | refine G_block ?_ | refine G_exit rfl ?_)
              refine G_region ?_
              refine GO_q rfl rfl (ev_move rfl) ?_
              refine GO_q rfl rfl (ev_move rfl) ?_
              refine GO_eff rfl rfl (eff_call rfl (hps _ ⟨(by repeat' first | exact LdN.blk rfl | apply LdN.skip), (by repeat' first | exact ktH_in _ _ | apply KIn.skip), (by repeat' first | exact ktH_in _ _ | apply KIn.skip)⟩ (by simp only [KT.cnt]; omega))) ?_; rintro _ _ ⟨a, c', rfl, f1, rfl⟩
              refine GO_q rfl rfl (ev_move rfl) ?_
              refine GO_eff rfl rfl (eff_call rfl (Ctr.pick (by repeat' first | exact Pick.here | apply Pick.skip | apply Pick.app) (kbuild_ctr t r live most ps.length a c' ps lv k1 _ w3 (by repeat' first | exact Rc.own (flat_length _) f1.1 | apply Rd.skip) f1.2.1 (by omega) (by omega) (by omega)))) ?_; rintro _ _ ⟨T2, g2, rfl, rfl⟩
              refine GO_q rfl rfl (ev_assign rfl) ?_
              refine GO_nil ?_
              (repeat first | refine G_seq ?_ | refine G_skip ?_ | refine G_endblk ?_ | refine G_block ?_ | refine G_exit rfl ?_)
              exact G_ret (L' := ktH T2 :: blk t 79 (kdC r live most (k1 + ps.length)) :: L) rfl (.tmp rfl .nil) (by (repeat first | exact en_refl | (apply en_blk; focus ((repeat' first | exact Pick.here | apply Pick.skip | apply Pick.app); done); focus rfl) | (apply en_own; focus ((repeat' first | exact Pick.here | apply Pick.skip | apply Pick.app); done); focus rfl) | (apply en_pick; focus ((repeat' first | exact Pick.here | apply Pick.skip | apply Pick.app); done)) | apply en_drop | apply en_app) <;> fail) ⟨T2, _, w2 T2 g2, by simp only [KT.depth]; omega, rfl, rfl⟩
            · (repeat first | refine G_seq ?_ | refine G_skip ?_ | refine G_endblk ?_ | refine G_block ?_ | refine G_exit rfl ?_)
              refine G_region ?_
              refine GO_q rfl rfl (ev_move rfl) ?_
              refine GO_q rfl rfl (ev_assign rfl) ?_
              refine GO_nil ?_
              (repeat first | refine G_seq ?_ | refine G_skip ?_ | refine G_endblk ?_ | refine G_block ?_ | refine G_exit rfl ?_)
              exact G_ret (L' := ktH (.mk b p gn T1 hi) :: blk t 79 (kdC r live most k1) :: L) rfl (.tmp rfl .nil) (by (repeat first | exact en_refl | refine en_kt ?_ | (apply en_blk; focus ((repeat' first | exact Pick.here | apply Pick.skip | apply Pick.app); done); focus rfl) | (apply en_own; focus ((repeat' first | exact Pick.here | apply Pick.skip | apply Pick.app); done); focus rfl) | (apply en_pick; focus ((repeat' first | exact Pick.here | apply Pick.skip | apply Pick.app); done)) | apply en_drop | apply en_app) <;> fail) ⟨_, k1, w1 c, by simp only [KT.depth]; omega, rfl, rfl⟩
      | false =>
        rw [hh] at hs
        have hh2 : ahd lv p q = true := o.tot (fun e' => e e'.symm) hh
        have pp2 := fun T' h => p2 T' hh2 h
        refine Ctr_of (fn := Tryz.f48) (n := 55) Tryz.func48 rfl rfl rfl ?_
        intro g F
        (repeat first | refine G_seq ?_ | refine G_skip ?_ | refine G_endblk ?_ | refine G_block ?_ | refine G_exit rfl ?_)
        refine G_region ?_
        refine GO_eff rfl rfl (eff_box rfl) ?_; rintro _ _ ⟨b6, rfl, rfl⟩
        refine GO_q rfl rfl (ev_assign rfl) ?_
        refine GO_nil ?_
        (repeat first | refine G_seq ?_ | refine G_skip ?_ | refine G_endblk ?_ | refine G_block ?_ | refine G_exit rfl ?_)
        refine G_region ?_
        refine GO_q rfl rfl (ev_move rfl) ?_
        (first | refine GO_q rfl rfl (ev_eqlNil rfl rfl) ?_ | refine GO_q rfl rfl (ev_eqlPtr rfl rfl) ?_)
        refine GO_nil ?_
        (repeat first | refine G_seq ?_ | refine G_skip ?_ | refine G_endblk ?_ | refine G_block ?_ | refine G_exit rfl ?_)
        refine G_cond_f rfl rfl ?_
        (repeat first | refine G_seq ?_ | refine G_skip ?_ | refine G_endblk ?_ | refine G_block ?_ | refine G_exit rfl ?_)
        refine G_draw (.q 0 (.q 1 (.q 2 (.q 3 (.q 4 (.q 5 .nil)))))) (by kernel_rfl) (by kernel_rfl) ?_
        refine RS_m retB_noPanic rfl rfl rfl rfl (ev_move rfl) ?_
        (first | refine RS_m retB_noPanic rfl rfl rfl rfl (ev_nilCheck rfl) ?_ | refine RS_m retB_noPanic rfl rfl rfl rfl (ev_nilCheckF (by simp) rfl) ?_)
        refine RS_m retB_noPanic rfl rfl rfl rfl (ev_fieldAddr rfl) ?_
        refine RS_q retB_noPanic rfl rfl rfl rfl (ev_loadN rfl (by repeat' first | exact LdN.blk rfl | assumption | apply LdN.skip | apply LdN.app)) ?_
        refine RS_q retB_noPanic rfl rfl rfl rfl (ev_loadN rfl (by repeat' first | exact LdN.blk rfl | assumption | apply LdN.skip | apply LdN.app)) ?_
        refine RS_m retB_noPanic rfl rfl rfl rfl (ev_eqlS rfl rfl rfl rfl rfl rfl) ?_
        refine RS_nil ?_
        all_goals
          (repeat first | refine G_seq ?_ | refine G_skip ?_ | refine G_endblk ?_ | refine G_block ?_ | refine G_exit rfl ?_)
          refine G_cond_f rfl (decide_eq_false hne) ?_
          (repeat first | refine G_seq ?_ | refine G_skip ?_ | refine G_endblk ?_ | refine G_block ?_ | refine G_exit rfl ?_)
          refine G_region ?_
          refine GO_q rfl rfl (ev_move rfl) ?_
          refine GO_q rfl rfl (ev_loadN rfl (by repeat' first | exact LdN.blk rfl | assumption | apply LdN.skip | apply LdN.app)) ?_
          refine GO_q rfl rfl (ev_move rfl) ?_
          refine GO_eff rfl rfl (eff_call rfl (hs _ (by repeat' first | exact blk_p | apply LdN.skip) (by omega))) ?_; rintro _ _ ⟨rfl, rfl⟩
          refine GO_q rfl rfl (ev_assign rfl) ?_
          refine GO_nil ?_
          refine G_heap (L' := ktH hi :: blk t 79 (kdC r live most built) :: blk b 83 (kcC p gn lo.addr hi.addr m x) :: blk b6 58 [.int .i64 q.id, .int .i64 q.x, .int .i64 q.y] :: ktH lo :: F :: L) (by (repeat first | exact en_refl | (apply en_blk; focus ((repeat' first | exact Pick.here | apply Pick.skip | apply Pick.app); done); focus rfl) | (apply en_own; focus ((repeat' first | exact Pick.here | apply Pick.skip | apply Pick.app); done); focus rfl) | (apply en_pick; focus ((repeat' first | exact Pick.here | apply Pick.skip | apply Pick.app); done)) | apply en_drop | apply en_app) <;> fail) ?_
          (repeat first | refine G_seq ?_ | refine G_skip ?_ | refine G_endblk ?_ | refine G_block ?_ | refine G_exit rfl ?_)
          refine G_draw (.q 0 (.q 1 (.q 2 (.q 3 (.q 4 (.q 5 (.q 6 (.q 7 (.q 8 (.q 9 (.q 10 (.q 11 (.q 13 (.q 14 (.e 12 (.q 15 (.e 16 .nil))))))))))))))))) (by kernel_rfl) (by kernel_rfl) ?_
          refine RS_m retB_noPanic rfl rfl rfl rfl (ev_move rfl) ?_
          refine RS_m retB_noPanic rfl rfl rfl rfl (ev_move rfl) ?_
          refine RS_m retB_noPanic rfl rfl rfl rfl (ev_move rfl) ?_
          refine RS_m retB_noPanic rfl rfl rfl rfl (ev_move rfl) ?_
          refine RS_m retB_noPanic rfl rfl rfl rfl (ev_move rfl) ?_
          (first | refine RS_m retB_noPanic rfl rfl rfl rfl (ev_nilCheck rfl) ?_ | refine RS_m retB_noPanic rfl rfl rfl rfl (ev_nilCheckF (by simp) rfl) ?_)
          refine RS_m retB_noPanic rfl rfl rfl rfl (ev_fieldAddr rfl) ?_
          refine RS_m retB_noPanic rfl rfl rfl rfl (ev_indexAddrA rfl rfl (by first | omega | (simp; done) | (simp; omega)) (by first | omega | (simp; done) | (simp; omega))) ?_
          refine RS_q retB_noPanic rfl rfl rfl rfl (ev_load rfl (by repeat' first | exact Ld.blk rfl | assumption | apply Ld.skip | apply Ld.app)) ?_
          refine RS_q retB_noPanic rfl rfl rfl rfl (ev_loadN rfl (by repeat' first | exact LdN.blk rfl | assumption | apply LdN.skip | apply LdN.app)) ?_
          refine RS_m retB_noPanic rfl rfl rfl rfl (ev_move rfl) ?_
          (first | refine RS_m retB_noPanic rfl rfl rfl rfl (ev_addN (q := 1) rfl rfl (by first | omega | (simp; done) | (simp; omega))) ?_ | refine RS_m retB_noPanic rfl rfl rfl rfl (ev_add rfl rfl (by first | omega | (simp; done) | (simp; omega))) ?_)
          (first | refine RS_m retB_noPanic rfl rfl rfl rfl (ev_nilCheck rfl) ?_ | refine RS_m retB_noPanic rfl rfl rfl rfl (ev_nilCheckF (by simp) rfl) ?_)
          refine RS_m retB_noPanic rfl rfl rfl rfl (ev_fieldAddr rfl) ?_
          refine RS_e (RE_cmp (by kernel_rfl) rfl rfl rfl (eff_call rfl (i2 built _ n2 (by omega))) ?_); rintro _ _ ⟨T1, k1, g1, hk1, rfl, rfl⟩
          refine RS_m retB_noPanic rfl rfl rfl rfl (ev_indexAddrA rfl rfl (by first | omega | (simp; done) | (simp; omega)) (by first | omega | (simp; done) | (simp; omega))) ?_
          refine RS_e (RE_last (by kernel_rfl) rfl rfl rfl (eff_store rfl rfl rfl (by repeat' first | exact Upd.here rfl | apply Upd.skip | apply Upd.app)) ?_); rintro _ _ ⟨rfl, rfl⟩
          all_goals
            obtain ⟨w1, w2, w3⟩ := pp2 T1 g1
            have z3 := g1.ok.size
            have z4 := g1.cnt
            have z5 := (KT.mk b p gn lo T1).pts_len
            simp only [KT.cnt] at z5
            refine G_heap (L' := blk b 83 (kcC p gn lo.addr T1.addr m x) :: ktH T1 :: blk t 79 (kdC r live most k1) :: ktH lo :: F :: L) (by (repeat first | exact en_refl | (apply en_blk; focus ((repeat' first | exact Pick.here | apply Pick.skip | apply Pick.app); done); focus rfl) | (apply en_own; focus ((repeat' first | exact Pick.here | apply Pick.skip | apply Pick.app); done); focus rfl) | (apply en_pick; focus ((repeat' first | exact Pick.here | apply Pick.skip | apply Pick.app); done)) | apply en_drop | apply en_app) <;> fail) ?_
            (repeat first | refine G_seq ?_ | refine G_skip ?_ | refine G_endblk ?_ | refine G_block ?_ | refine G_exit rfl ?_)
            refine G_region ?_
            refine GO_q rfl rfl (ev_move rfl) ?_
            refine GO_eff rfl rfl (eff_call rfl (Ctr.pick (by repeat' first | exact Pick.here | apply Pick.skip | apply Pick.app) (note_ctr b p gn m x lo T1 _ (by repeat' first | exact ktH_in _ _ | apply KIn.skip) (by repeat' first | exact ktH_in _ _ | apply KIn.skip) (by omega) (by omega)))) ?_; rintro _ _ ⟨rfl, rfl⟩
            refine GO_eff rfl rfl (eff_call rfl (heavy_ctr b p gn _ _ lo T1 _ ⟨(by repeat' first | exact LdN.blk rfl | apply LdN.skip), (by repeat' first | exact ktH_in _ _ | apply KIn.skip), (by repeat' first | exact ktH_in _ _ | apply KIn.skip)⟩ (by omega))) ?_; rintro _ _ ⟨rfl, rfl⟩
            refine GO_nil ?_
            (repeat first | refine G_seq ?_ | refine G_skip ?_ | refine G_endblk ?_ | refine G_block ?_ | refine G_exit rfl ?_)
            refine G_cond rfl (fun c => ?_) (fun c => ?_)
            · have hps := kpoints_ctr (.mk b p gn lo T1)
              generalize (KT.mk b p gn lo T1).pts = ps at *
              (repeat first | refine G_seq ?_ | refine G_skip ?_ | refine G_endblk ?_ | refine G_block ?_ | refine G_exit rfl ?_)
              refine G_region ?_
              refine GO_q rfl rfl (ev_move rfl) ?_
              refine GO_q rfl rfl (ev_move rfl) ?_
              refine GO_eff rfl rfl (eff_call rfl (hps _ ⟨(by repeat' first | exact LdN.blk rfl | apply LdN.skip), (by repeat' first | exact ktH_in _ _ | apply KIn.skip), (by repeat' first | exact ktH_in _ _ | apply KIn.skip)⟩ (by simp only [KT.cnt]; omega))) ?_; rintro _ _ ⟨a, c', rfl, f1, rfl⟩
              refine GO_q rfl rfl (ev_move rfl) ?_
              refine GO_eff rfl rfl (eff_call rfl (Ctr.pick (by repeat' first | exact Pick.here | apply Pick.skip | apply Pick.app) (kbuild_ctr t r live most ps.length a c' ps lv k1 _ w3 (by repeat' first | exact Rc.own (flat_length _) f1.1 | apply Rd.skip) f1.2.1 (by omega) (by omega) (by omega)))) ?_; rintro _ _ ⟨T2, g2, rfl, rfl⟩
              refine GO_q rfl rfl (ev_assign rfl) ?_
              refine GO_nil ?_
              (repeat first | refine G_seq ?_ | refine G_skip ?_ | refine G_endblk ?_ | refine G_block ?_ | refine G_exit rfl ?_)
              exact G_ret (L' := ktH T2 :: blk t 79 (kdC r live most (k1 + ps.length)) :: L) rfl (.tmp rfl .nil) (by (repeat first | exact en_refl | (apply en_blk; focus ((repeat' first | exact Pick.here | apply Pick.skip | apply Pick.app); done); focus rfl) | (apply en_own; focus ((repeat' first | exact Pick.here | apply Pick.skip | apply Pick.app); done); focus rfl) | (apply en_pick; focus ((repeat' first | exact Pick.here | apply Pick.skip | apply Pick.app); done)) | apply en_drop | apply en_app) <;> fail) ⟨T2, _, w2 T2 g2, by simp only [KT.depth]; omega, rfl, rfl⟩
            · (repeat first | refine G_seq ?_ | refine G_skip ?_ | refine G_endblk ?_ | refine G_block ?_ | refine G_exit rfl ?_)
              refine G_region ?_
              refine GO_q rfl rfl (ev_move rfl) ?_
              refine GO_q rfl rfl (ev_assign rfl) ?_
              refine GO_nil ?_
              (repeat first | refine G_seq ?_ | refine G_skip ?_ | refine G_endblk ?_ | refine G_block ?_ | refine G_exit rfl ?_)
              exact G_ret (L' := ktH (.mk b p gn lo T1) :: blk t 79 (kdC r live most k1) :: L) rfl (.tmp rfl .nil) (by (repeat first | exact en_refl | refine en_kt ?_ | (apply en_blk; focus ((repeat' first | exact Pick.here | apply Pick.skip | apply Pick.app); done); focus rfl) | (apply en_own; focus ((repeat' first | exact Pick.here | apply Pick.skip | apply Pick.app); done); focus rfl) | (apply en_pick; focus ((repeat' first | exact Pick.here | apply Pick.skip | apply Pick.app); done)) | apply en_drop | apply en_app) <;> fail) ⟨_, k1, w1 c, by simp only [KT.depth]; omega, rfl, rfl⟩
end Go.Proofs.YtjgdhkilnalejaaGreat
/- A tree of points by two orders in turn: the whole tree as a set of points. -/
namespace Go.Proofs.YtjgdhkilnalejaaGreat
attribute [local irreducible] sat
open Go.RowKit
set_option linter.unusedVariables false
set_option linter.unusedSimpArgs false
set_option maxRecDepth 100000

/-- What clean leaves. -/
structure ClK (built : Nat) (T T' : KT) (k : Nat) : Prop where
  ok : T'.ok 0
  pts : T'.pts.Perm T.pts
  cnt : T'.cnt ≤ T.cnt
  few : T'.cnt - T.pts.length ≤ (T'.cnt + 1) / 2
  bt : k ≤ built + 2000
theorem kclean_ctr (t : Nat) (T : KT) (live : Nat) (most : Int) (built : Nat) (L : List HP) (ho : T.ok 0) (hl : T.pts.length = live) (hn : T.cnt ≤ 2000) (hb : built ≤ 8000000000000000000) :
    Ctr Tryz.prog 45 #[.pointer (some ⟨t, 0, none⟩)] (ktH T :: blk t 79 (kdC T.addr (live : Nat) most built) :: L) fun v L' => ∃ T' k, ClK built T T' k ∧ v = .tuple #[] ∧ L' = ktH T' :: blk t 79 (kdC T'.addr (live : Nat) most k) :: L := by
  have hsz := ho.size
  have c1 := fun M h => ksize_ctr T M h
  rw [hsz] at c1
  have hpl := T.pts_len
  have c5 := fun M h => kpoints_ctr T M h (by omega)
  have hnd : T.pts.Nodup := T.pts_sub.nodup ho.nodup
  subst hl
  refine Ctr_of (fn := Tryz.f45) (n := 28) Tryz.func45 rfl rfl rfl ?_
  intro g F
  (repeat first | refine G_seq ?_ | refine G_skip ?_ | refine G_endblk ?_ | refine G_block ?_ | refine G_exit rfl ?_)
  refine G_region ?_
  refine GO_q rfl rfl (ev_move rfl) ?_
  (first | refine GO_q rfl rfl (ev_nilCheck rfl) ?_ | refine GO_q rfl rfl (ev_nilCheckF (by simp) rfl) ?_)
  refine GO_q rfl rfl (ev_fieldAddr rfl) ?_
  refine GO_q rfl rfl (ev_load rfl (by repeat' first | exact Ld.blk rfl | assumption | apply Ld.skip | apply Ld.app)) ?_
  refine GO_eff rfl rfl (eff_call rfl (c1 _ (by repeat' first | exact ktH_in _ _ | apply KIn.skip))) ?_; rintro _ _ ⟨rfl, rfl⟩
  refine GO_q rfl rfl (ev_assign rfl) ?_
  refine GO_nil ?_
  by_cases hh : (T.cnt + 1) / 2 < T.cnt - T.pts.length
  · (repeat first | refine G_seq ?_ | refine G_skip ?_ | refine G_endblk ?_ | refine G_block ?_ | refine G_exit rfl ?_)
    refine G_region ?_
    refine GO_q rfl rfl (ev_move rfl) ?_
    refine GO_q rfl rfl (ev_move rfl) ?_
    (first | refine GO_q rfl rfl (ev_nilCheck rfl) ?_ | refine GO_q rfl rfl (ev_nilCheckF (by simp) rfl) ?_)
    refine GO_q rfl rfl (ev_fieldAddr rfl) ?_
    refine GO_q rfl rfl (ev_load rfl (by repeat' first | exact Ld.blk rfl | assumption | apply Ld.skip | apply Ld.app)) ?_
    (first | refine GO_q rfl rfl (ev_subN rfl rfl (by first | omega | (simp; done) | (simp; omega))) ?_ | refine GO_q rfl rfl (ev_sub rfl rfl (by first | omega | (simp; done) | (simp; omega))) ?_)
    refine GO_q rfl rfl (ev_move rfl) ?_
    (first | refine GO_q rfl rfl (ev_addN (q := 1) rfl rfl (by first | omega | (simp; done) | (simp; omega))) ?_ | refine GO_q rfl rfl (ev_add rfl rfl (by first | omega | (simp; done) | (simp; omega))) ?_)
    (first | refine GO_q rfl rfl (ev_quoN (q := 2) rfl rfl (by first | omega | (simp; done) | (simp; omega)) (by first | omega | (simp; done) | (simp; omega))) ?_ | refine GO_q rfl rfl (ev_quo rfl rfl (by first | omega | (simp; done) | (simp; omega)) (by first | omega | (simp; done) | (simp; omega)) (by first | omega | (simp; done) | (simp; omega))) ?_)
    refine GO_q rfl rfl (ev_gtr rfl rfl) ?_
    refine GO_nil ?_
    (repeat first | refine G_seq ?_ | refine G_skip ?_ | refine G_endblk ?_ | refine G_block ?_ | refine G_exit rfl ?_)
    refine G_cond_t rfl (decide_eq_true (by omega)) ?_
    (repeat first | refine G_seq ?_ | refine G_skip ?_ | refine G_endblk ?_ | refine G_block ?_ | refine G_exit rfl ?_)
    refine G_region ?_
    refine GO_q rfl rfl (ev_move rfl) ?_
    refine GO_q rfl rfl (ev_move rfl) ?_
    refine GO_q rfl rfl (ev_move rfl) ?_
    (first | refine GO_q rfl rfl (ev_nilCheck rfl) ?_ | refine GO_q rfl rfl (ev_nilCheckF (by simp) rfl) ?_)
    refine GO_q rfl rfl (ev_fieldAddr rfl) ?_
    refine GO_q rfl rfl (ev_load rfl (by repeat' first | exact Ld.blk rfl | assumption | apply Ld.skip | apply Ld.app)) ?_
    refine GO_eff rfl rfl (eff_call rfl (c5 _ (by repeat' first | exact ktH_in _ _ | apply KIn.skip))) ?_; rintro _ _ ⟨a, c', rfl, f1, rfl⟩
    refine GO_eff rfl rfl (eff_call rfl (Ctr.pick (by repeat' first | exact Pick.here | apply Pick.skip | apply Pick.app) (kbuild_ctr t T.addr (T.pts.length : Nat) most T.pts.length a c' T.pts 0 built _ hnd (by repeat' first | exact Rc.own (flat_length _) f1.1 | apply Rd.skip) f1.2.1 (by omega) (by omega) (by omega)))) ?_; rintro _ _ ⟨T2, g2, rfl, rfl⟩
    (first | refine GO_q rfl rfl (ev_nilCheck rfl) ?_ | refine GO_q rfl rfl (ev_nilCheckF (by simp) rfl) ?_)
    refine GO_q rfl rfl (ev_fieldAddr rfl) ?_
    refine GO_eff rfl rfl (eff_store rfl rfl rfl (by repeat' first | exact Upd.here rfl | apply Upd.skip | apply Upd.app)) ?_; rintro _ _ ⟨rfl, rfl⟩
    refine GO_nil ?_
    (repeat first | refine G_seq ?_ | refine G_skip ?_ | refine G_endblk ?_ | refine G_block ?_ | refine G_exit rfl ?_)
    have e := KT.cnt_of g2.all
    exact G_end (rs := []) (vs := []) (L' := ktH T2 :: blk t 79 (kdC T2.addr (T.pts.length : Nat) most (built + T.pts.length)) :: L) rfl .nil (by (repeat first | exact en_refl | (apply en_blk; focus ((repeat' first | exact Pick.here | apply Pick.skip | apply Pick.app); done); focus rfl) | (apply en_own; focus ((repeat' first | exact Pick.here | apply Pick.skip | apply Pick.app); done); focus rfl) | (apply en_pick; focus ((repeat' first | exact Pick.here | apply Pick.skip | apply Pick.app); done)) | apply en_drop | apply en_app) <;> fail) ⟨T2, _, ⟨g2.ok, g2.pts ▸ g2.all, by omega, by omega, by omega⟩, rfl, rfl⟩
  · (repeat first | refine G_seq ?_ | refine G_skip ?_ | refine G_endblk ?_ | refine G_block ?_ | refine G_exit rfl ?_)
    refine G_region ?_
    refine GO_q rfl rfl (ev_move rfl) ?_
    refine GO_q rfl rfl (ev_move rfl) ?_
    (first | refine GO_q rfl rfl (ev_nilCheck rfl) ?_ | refine GO_q rfl rfl (ev_nilCheckF (by simp) rfl) ?_)
    refine GO_q rfl rfl (ev_fieldAddr rfl) ?_
    refine GO_q rfl rfl (ev_load rfl (by repeat' first | exact Ld.blk rfl | assumption | apply Ld.skip | apply Ld.app)) ?_
    (first | refine GO_q rfl rfl (ev_subN rfl rfl (by first | omega | (simp; done) | (simp; omega))) ?_ | refine GO_q rfl rfl (ev_sub rfl rfl (by first | omega | (simp; done) | (simp; omega))) ?_)
    refine GO_q rfl rfl (ev_move rfl) ?_
    (first | refine GO_q rfl rfl (ev_addN (q := 1) rfl rfl (by first | omega | (simp; done) | (simp; omega))) ?_ | refine GO_q rfl rfl (ev_add rfl rfl (by first | omega | (simp; done) | (simp; omega))) ?_)
    (first | refine GO_q rfl rfl (ev_quoN (q := 2) rfl rfl (by first | omega | (simp; done) | (simp; omega)) (by first | omega | (simp; done) | (simp; omega))) ?_ | refine GO_q rfl rfl (ev_quo rfl rfl (by first | omega | (simp; done) | (simp; omega)) (by first | omega | (simp; done) | (simp; omega)) (by first | omega | (simp; done) | (simp; omega))) ?_)
    refine GO_q rfl rfl (ev_gtr rfl rfl) ?_
    refine GO_nil ?_
    (repeat first | refine G_seq ?_ | refine G_skip ?_ | refine G_endblk ?_ | refine G_block ?_ | refine G_exit rfl ?_)
    refine G_cond_f rfl (decide_eq_false (by omega)) ?_
    (repeat first | refine G_seq ?_ | refine G_skip ?_ | refine G_endblk ?_ | refine G_block ?_ | refine G_exit rfl ?_)
    exact G_end (rs := []) (vs := []) (L' := ktH T :: blk t 79 (kdC T.addr (T.pts.length : Nat) most built) :: L) rfl .nil (by (repeat first | exact en_refl | (apply en_blk; focus ((repeat' first | exact Pick.here | apply Pick.skip | apply Pick.app); done); focus rfl) | (apply en_own; focus ((repeat' first | exact Pick.here | apply Pick.skip | apply Pick.app); done); focus rfl) | (apply en_pick; focus ((repeat' first | exact Pick.here | apply Pick.skip | apply Pick.app); done)) | apply en_drop | apply en_app) <;> fail) ⟨T, built, ⟨ho, .refl _, Nat.le_refl _, by omega, by omega⟩, rfl, rfl⟩
theorem kNew_ctr (most : Int) (L : List HP) (h1 : 1 ≤ most) (h2 : most ≤ 1048576) : Ctr Tryz.prog 23 #[.int .i64 most] L fun v L' => ∃ t, v = .tuple #[.pointer (some ⟨t, 0, none⟩), .int .i64 0] ∧ L' = treeK t most [] 0 :: L := by
  refine Ctr_of (fn := Tryz.f23) (n := 13) Tryz.func23 rfl rfl rfl ?_
  intro g F
  (repeat first | refine G_seq ?_ | refine G_skip ?_ | refine G_endblk ?_ | refine G_block ?_ | refine G_exit rfl ?_)
  refine G_region ?_
  refine GO_q rfl rfl (ev_assign rfl) ?_
  refine GO_q rfl rfl (ev_assign rfl) ?_
  refine GO_nil ?_
  (repeat first | refine G_seq ?_ | refine G_skip ?_ | refine G_endblk ?_ | refine G_block ?_ | refine G_exit rfl ?_)
  refine G_region ?_
  refine GO_q rfl rfl (ev_move rfl) ?_
  (first | refine GO_q rfl rfl (ev_lssN (q := 1) rfl rfl) ?_ | refine GO_q rfl rfl (ev_lss rfl rfl) ?_)
  refine GO_q rfl rfl (ev_move rfl) ?_
  refine GO_yes rfl rfl rfl (decide_eq_false (by omega)) ?_
  refine GO_q rfl rfl (ev_move rfl) ?_
  refine GO_yes rfl rfl rfl (decide_eq_false (by omega)) ?_
  refine GO_q rfl rfl (ev_gtr rfl rfl) ?_
  refine GO_q rfl rfl (ev_pick_f rfl (decide_eq_false (by omega)) rfl) ?_
  refine GO_nil ?_
  (repeat first | refine G_seq ?_ | refine G_skip ?_ | refine G_endblk ?_ | refine G_block ?_ | refine G_exit rfl ?_)
  refine G_cond_f rfl (decide_eq_false (by omega)) ?_
  (repeat first | refine G_seq ?_ | refine G_skip ?_ | refine G_endblk ?_ | refine G_block ?_ | refine G_exit rfl ?_)
  refine G_region ?_
  refine GO_q rfl rfl (ev_move rfl) ?_
  refine GO_q rfl rfl (ev_build rfl rfl) ?_
  refine GO_eff rfl rfl (eff_box rfl) ?_; rintro _ _ ⟨b12, rfl, rfl⟩
  refine GO_q rfl rfl (ev_assign rfl) ?_
  refine GO_q rfl rfl (ev_assign rfl) ?_
  refine GO_nil ?_
  (repeat first | refine G_seq ?_ | refine G_skip ?_ | refine G_endblk ?_ | refine G_block ?_ | refine G_exit rfl ?_)
  exact G_ret (L' := treeK b12 most [] 0 :: L) rfl (.tmp rfl (.tmp rfl .nil)) (by (repeat first | exact en_refl | refine en_tk (T := .nil) (v := 0) ⟨trivial, .refl _, Nat.le_refl _, by decide, Nat.le_refl _⟩ ?_ | apply en_ktn | (apply en_blk; focus ((repeat' first | exact Pick.here | apply Pick.skip | apply Pick.app); done); focus rfl) | (apply en_own; focus ((repeat' first | exact Pick.here | apply Pick.skip | apply Pick.app); done); focus rfl) | (apply en_pick; focus ((repeat' first | exact Pick.here | apply Pick.skip | apply Pick.app); done)) | apply en_drop | apply en_app) <;> fail) ⟨b12, rfl, rfl⟩
theorem KInsert_ctr (t : Nat) (most : Int) (l : List Pt) (p : Pt) (k : Nat) (L : List HP) (hk : k ≤ 900) :
    Ctr Tryz.prog 27 #[.pointer (some ⟨t, 0, none⟩), p.v] (treeK t most l k :: L) fun v L' => v = .int .i64 (insC most l p) ∧ L' = treeK t most (insR most l p) (k + 1) :: L := by
  refine Ctr.tk fun T v kg => ?_
  have k0 := KGood_ctr p
  have hlen : T.pts.length = l.length := kg.pts.length_eq
  have hmem : decide (p ∈ T.pts) = decide (p ∈ l) := decide_eq_decide.2 kg.pts.mem_iff
  have hdc := T.depth_cnt
  have hpl := T.pts_len
  have gc := kg.cnt
  have gb := kg.bt
  have hhas := fun M h1 h2 => khas_ctr t T p M h1 h2 (by omega) kg.ok
  rw [hmem] at hhas
  unfold insC insR
  unfold insC
  cases hg : goodP p with
  | false =>
    rw [hg] at k0
    rw [if_pos rfl, if_neg (by decide)]
    refine Ctr_of (fn := Tryz.f27) (n := 46) Tryz.func27 rfl rfl rfl ?_
    intro g F
    (repeat first | refine G_seq ?_ | refine G_skip ?_ | refine G_endblk ?_ | refine G_block ?_ | refine G_exit rfl ?_)
    refine G_region ?_
    refine GO_eff rfl rfl (eff_box rfl) ?_; rintro _ _ ⟨b3, rfl, rfl⟩
    refine GO_q rfl rfl (ev_assign rfl) ?_
    refine GO_nil ?_
    (repeat first | refine G_seq ?_ | refine G_skip ?_ | refine G_endblk ?_ | refine G_block ?_ | refine G_exit rfl ?_)
    (repeat first | refine G_seq ?_ | refine G_skip ?_ | refine G_endblk ?_ | refine G_block ?_ | refine G_exit rfl ?_)
    refine G_region ?_
    refine GO_q rfl rfl (ev_move rfl) ?_
    (first | refine GO_q rfl rfl (ev_eqlNil rfl rfl) ?_ | refine GO_q rfl rfl (ev_eqlPtr rfl rfl) ?_)
    refine GO_q rfl rfl (ev_move rfl) ?_
    refine GO_yes rfl rfl rfl rfl ?_
    refine GO_q rfl rfl (ev_loadN rfl (by repeat' first | exact LdN.blk rfl | assumption | apply LdN.skip | apply LdN.app)) ?_
    refine GO_yes rfl rfl rfl rfl ?_
    refine GO_eff rfl rfl (eff_call rfl (k0 _)) ?_; rintro _ _ ⟨rfl, rfl⟩
    refine GO_yes rfl rfl rfl rfl ?_
    refine GO_q rfl rfl (ev_not rfl) ?_
    refine GO_q rfl rfl (ev_pick_f rfl rfl rfl) ?_
    refine GO_q rfl rfl (ev_assign rfl) ?_
    refine GO_nil ?_
    (repeat first | refine G_seq ?_ | refine G_skip ?_ | refine G_endblk ?_ | refine G_block ?_ | refine G_exit rfl ?_)
    refine G_cond_t rfl rfl ?_
    (repeat first | refine G_seq ?_ | refine G_skip ?_ | refine G_endblk ?_ | refine G_block ?_ | refine G_exit rfl ?_)
    refine G_region ?_
    refine GO_q rfl rfl (ev_assign rfl) ?_
    refine GO_nil ?_
    (repeat first | refine G_seq ?_ | refine G_skip ?_ | refine G_endblk ?_ | refine G_block ?_ | refine G_exit rfl ?_)
    exact G_ret (L' := treeK t most l (k + 1) :: L) rfl (.tmp rfl .nil) (by (repeat first | exact en_refl | refine en_tk (kg.to (.refl _) (Nat.le_succ k)) ?_ | (apply en_blk; focus ((repeat' first | exact Pick.here | apply Pick.skip | apply Pick.app); done); focus rfl) | (apply en_own; focus ((repeat' first | exact Pick.here | apply Pick.skip | apply Pick.app); done); focus rfl) | (apply en_pick; focus ((repeat' first | exact Pick.here | apply Pick.skip | apply Pick.app); done)) | apply en_drop | apply en_app) <;> fail) ⟨rfl, rfl⟩
  | true =>
    rw [hg] at k0
    rw [if_neg (by decide)]
    by_cases hp : p ∈ l
    · rw [decide_eq_true hp] at hhas
      rw [if_pos hp, if_neg (by decide)]
      refine Ctr_of (fn := Tryz.f27) (n := 46) Tryz.func27 rfl rfl rfl ?_
      intro g F
      (repeat first | refine G_seq ?_ | refine G_skip ?_ | refine G_endblk ?_ | refine G_block ?_ | refine G_exit rfl ?_)
      refine G_region ?_
      refine GO_eff rfl rfl (eff_box rfl) ?_; rintro _ _ ⟨b3, rfl, rfl⟩
      refine GO_q rfl rfl (ev_assign rfl) ?_
      refine GO_nil ?_
      (repeat first | refine G_seq ?_ | refine G_skip ?_ | refine G_endblk ?_ | refine G_block ?_ | refine G_exit rfl ?_)
      (repeat first | refine G_seq ?_ | refine G_skip ?_ | refine G_endblk ?_ | refine G_block ?_ | refine G_exit rfl ?_)
      refine G_region ?_
      refine GO_q rfl rfl (ev_move rfl) ?_
      (first | refine GO_q rfl rfl (ev_eqlNil rfl rfl) ?_ | refine GO_q rfl rfl (ev_eqlPtr rfl rfl) ?_)
      refine GO_q rfl rfl (ev_move rfl) ?_
      refine GO_yes rfl rfl rfl rfl ?_
      refine GO_q rfl rfl (ev_loadN rfl (by repeat' first | exact LdN.blk rfl | assumption | apply LdN.skip | apply LdN.app)) ?_
      refine GO_yes rfl rfl rfl rfl ?_
      refine GO_eff rfl rfl (eff_call rfl (k0 _)) ?_; rintro _ _ ⟨rfl, rfl⟩
      refine GO_yes rfl rfl rfl rfl ?_
      refine GO_q rfl rfl (ev_not rfl) ?_
      refine GO_q rfl rfl (ev_pick_f rfl rfl rfl) ?_
      refine GO_q rfl rfl (ev_assign rfl) ?_
      refine GO_nil ?_
      (repeat first | refine G_seq ?_ | refine G_skip ?_ | refine G_endblk ?_ | refine G_block ?_ | refine G_exit rfl ?_)
      refine G_cond_f rfl rfl ?_
      (repeat first | refine G_seq ?_ | refine G_skip ?_ | refine G_endblk ?_ | refine G_block ?_ | refine G_exit rfl ?_)
      refine G_region ?_
      refine GO_q rfl rfl (ev_move rfl) ?_
      refine GO_q rfl rfl (ev_loadN rfl (by repeat' first | exact LdN.blk rfl | assumption | apply LdN.skip | apply LdN.app)) ?_
      refine GO_eff rfl rfl (eff_call rfl (hhas _ (by repeat' first | exact Ld.blk rfl | apply Ld.skip) (by repeat' first | exact ktH_in _ _ | apply KIn.skip))) ?_; rintro _ _ ⟨rfl, rfl⟩
      refine GO_q rfl rfl (ev_assign rfl) ?_
      refine GO_nil ?_
      (repeat first | refine G_seq ?_ | refine G_skip ?_ | refine G_endblk ?_ | refine G_block ?_ | refine G_exit rfl ?_)
      refine G_cond_t rfl rfl ?_
      (repeat first | refine G_seq ?_ | refine G_skip ?_ | refine G_endblk ?_ | refine G_block ?_ | refine G_exit rfl ?_)
      refine G_region ?_
      refine GO_q rfl rfl (ev_assign rfl) ?_
      refine GO_nil ?_
      (repeat first | refine G_seq ?_ | refine G_skip ?_ | refine G_endblk ?_ | refine G_block ?_ | refine G_exit rfl ?_)
      exact G_ret (L' := treeK t most l (k + 1) :: L) rfl (.tmp rfl .nil) (by (repeat first | exact en_refl | refine en_tk (kg.to (.refl _) (Nat.le_succ k)) ?_ | (apply en_blk; focus ((repeat' first | exact Pick.here | apply Pick.skip | apply Pick.app); done); focus rfl) | (apply en_own; focus ((repeat' first | exact Pick.here | apply Pick.skip | apply Pick.app); done); focus rfl) | (apply en_pick; focus ((repeat' first | exact Pick.here | apply Pick.skip | apply Pick.app); done)) | apply en_drop | apply en_app) <;> fail) ⟨rfl, rfl⟩
    · rw [decide_eq_false hp] at hhas
      rw [if_neg hp]
      have hp' : p ∉ T.pts := fun h => hp (kg.pts.mem_iff.1 h)
      by_cases hf : most ≤ l.length
      · rw [if_pos hf, if_neg (by decide)]
        refine Ctr_of (fn := Tryz.f27) (n := 46) Tryz.func27 rfl rfl rfl ?_
        intro g F
        (repeat first | refine G_seq ?_ | refine G_skip ?_ | refine G_endblk ?_ | refine G_block ?_ | refine G_exit rfl ?_)
        refine G_region ?_
        refine GO_eff rfl rfl (eff_box rfl) ?_; rintro _ _ ⟨b3, rfl, rfl⟩
        refine GO_q rfl rfl (ev_assign rfl) ?_
        refine GO_nil ?_
        (repeat first | refine G_seq ?_ | refine G_skip ?_ | refine G_endblk ?_ | refine G_block ?_ | refine G_exit rfl ?_)
        (repeat first | refine G_seq ?_ | refine G_skip ?_ | refine G_endblk ?_ | refine G_block ?_ | refine G_exit rfl ?_)
        refine G_region ?_
        refine GO_q rfl rfl (ev_move rfl) ?_
        (first | refine GO_q rfl rfl (ev_eqlNil rfl rfl) ?_ | refine GO_q rfl rfl (ev_eqlPtr rfl rfl) ?_)
        refine GO_q rfl rfl (ev_move rfl) ?_
        refine GO_yes rfl rfl rfl rfl ?_
        refine GO_q rfl rfl (ev_loadN rfl (by repeat' first | exact LdN.blk rfl | assumption | apply LdN.skip | apply LdN.app)) ?_
        refine GO_yes rfl rfl rfl rfl ?_
        refine GO_eff rfl rfl (eff_call rfl (k0 _)) ?_; rintro _ _ ⟨rfl, rfl⟩
        refine GO_yes rfl rfl rfl rfl ?_
        refine GO_q rfl rfl (ev_not rfl) ?_
        refine GO_q rfl rfl (ev_pick_f rfl rfl rfl) ?_
        refine GO_q rfl rfl (ev_assign rfl) ?_
        refine GO_nil ?_
        (repeat first | refine G_seq ?_ | refine G_skip ?_ | refine G_endblk ?_ | refine G_block ?_ | refine G_exit rfl ?_)
        refine G_cond_f rfl rfl ?_
        (repeat first | refine G_seq ?_ | refine G_skip ?_ | refine G_endblk ?_ | refine G_block ?_ | refine G_exit rfl ?_)
        refine G_region ?_
        refine GO_q rfl rfl (ev_move rfl) ?_
        refine GO_q rfl rfl (ev_loadN rfl (by repeat' first | exact LdN.blk rfl | assumption | apply LdN.skip | apply LdN.app)) ?_
        refine GO_eff rfl rfl (eff_call rfl (hhas _ (by repeat' first | exact Ld.blk rfl | apply Ld.skip) (by repeat' first | exact ktH_in _ _ | apply KIn.skip))) ?_; rintro _ _ ⟨rfl, rfl⟩
        refine GO_q rfl rfl (ev_assign rfl) ?_
        refine GO_nil ?_
        (repeat first | refine G_seq ?_ | refine G_skip ?_ | refine G_endblk ?_ | refine G_block ?_ | refine G_exit rfl ?_)
        refine G_cond_f rfl rfl ?_
        (repeat first | refine G_seq ?_ | refine G_skip ?_ | refine G_endblk ?_ | refine G_block ?_ | refine G_exit rfl ?_)
        refine G_draw (.q 0 (.q 1 (.q 2 (.q 3 (.q 4 (.q 5 (.q 6 (.q 7 (.q 8 (.q 9 .nil)))))))))) (by kernel_rfl) (by kernel_rfl) ?_
        refine RS_m retB_noPanic rfl rfl rfl rfl (ev_move rfl) ?_
        (first | refine RS_m retB_noPanic rfl rfl rfl rfl (ev_nilCheck rfl) ?_ | refine RS_m retB_noPanic rfl rfl rfl rfl (ev_nilCheckF (by simp) rfl) ?_)
        refine RS_m retB_noPanic rfl rfl rfl rfl (ev_fieldAddr rfl) ?_
        refine RS_q retB_noPanic rfl rfl rfl rfl (ev_load rfl (by repeat' first | exact Ld.blk rfl | assumption | apply Ld.skip | apply Ld.app)) ?_
        refine RS_m retB_noPanic rfl rfl rfl rfl (ev_move rfl) ?_
        (first | refine RS_m retB_noPanic rfl rfl rfl rfl (ev_nilCheck rfl) ?_ | refine RS_m retB_noPanic rfl rfl rfl rfl (ev_nilCheckF (by simp) rfl) ?_)
        refine RS_m retB_noPanic rfl rfl rfl rfl (ev_fieldAddr rfl) ?_
        refine RS_q retB_noPanic rfl rfl rfl rfl (ev_load rfl (by repeat' first | exact Ld.blk rfl | assumption | apply Ld.skip | apply Ld.app)) ?_
        refine RS_m retB_noPanic rfl rfl rfl rfl (ev_geq rfl rfl) ?_
        refine RS_m retB_noPanic rfl rfl rfl rfl (ev_assign rfl) ?_
        refine RS_nil ?_
        (repeat first | refine G_seq ?_ | refine G_skip ?_ | refine G_endblk ?_ | refine G_block ?_ | refine G_exit rfl ?_)
        refine G_cond_t rfl (decide_eq_true (by omega)) ?_
        (repeat first | refine G_seq ?_ | refine G_skip ?_ | refine G_endblk ?_ | refine G_block ?_ | refine G_exit rfl ?_)
        refine G_region ?_
        refine GO_q rfl rfl (ev_assign rfl) ?_
        refine GO_nil ?_
        (repeat first | refine G_seq ?_ | refine G_skip ?_ | refine G_endblk ?_ | refine G_block ?_ | refine G_exit rfl ?_)
        exact G_ret (L' := treeK t most l (k + 1) :: L) rfl (.tmp rfl .nil) (by (repeat first | exact en_refl | refine en_tk (kg.to (.refl _) (Nat.le_succ k)) ?_ | (apply en_blk; focus ((repeat' first | exact Pick.here | apply Pick.skip | apply Pick.app); done); focus rfl) | (apply en_own; focus ((repeat' first | exact Pick.here | apply Pick.skip | apply Pick.app); done); focus rfl) | (apply en_pick; focus ((repeat' first | exact Pick.here | apply Pick.skip | apply Pick.app); done)) | apply en_drop | apply en_app) <;> fail) ⟨rfl, rfl⟩
      · rw [if_neg hf, if_pos rfl]
        have hput := fun r M => kput_ctr t r ((l.length : Nat) + 1 : Nat) most p T 0 v M kg.ok hp' (by omega) (by omega) (by omega)
        refine Ctr_of (fn := Tryz.f27) (n := 46) Tryz.func27 rfl rfl rfl ?_
        intro g F
        (repeat first | refine G_seq ?_ | refine G_skip ?_ | refine G_endblk ?_ | refine G_block ?_ | refine G_exit rfl ?_)
        refine G_region ?_
        refine GO_eff rfl rfl (eff_box rfl) ?_; rintro _ _ ⟨b3, rfl, rfl⟩
        refine GO_q rfl rfl (ev_assign rfl) ?_
        refine GO_nil ?_
        (repeat first | refine G_seq ?_ | refine G_skip ?_ | refine G_endblk ?_ | refine G_block ?_ | refine G_exit rfl ?_)
        (repeat first | refine G_seq ?_ | refine G_skip ?_ | refine G_endblk ?_ | refine G_block ?_ | refine G_exit rfl ?_)
        refine G_region ?_
        refine GO_q rfl rfl (ev_move rfl) ?_
        (first | refine GO_q rfl rfl (ev_eqlNil rfl rfl) ?_ | refine GO_q rfl rfl (ev_eqlPtr rfl rfl) ?_)
        refine GO_q rfl rfl (ev_move rfl) ?_
        refine GO_yes rfl rfl rfl rfl ?_
        refine GO_q rfl rfl (ev_loadN rfl (by repeat' first | exact LdN.blk rfl | assumption | apply LdN.skip | apply LdN.app)) ?_
        refine GO_yes rfl rfl rfl rfl ?_
        refine GO_eff rfl rfl (eff_call rfl (k0 _)) ?_; rintro _ _ ⟨rfl, rfl⟩
        refine GO_yes rfl rfl rfl rfl ?_
        refine GO_q rfl rfl (ev_not rfl) ?_
        refine GO_q rfl rfl (ev_pick_f rfl rfl rfl) ?_
        refine GO_q rfl rfl (ev_assign rfl) ?_
        refine GO_nil ?_
        (repeat first | refine G_seq ?_ | refine G_skip ?_ | refine G_endblk ?_ | refine G_block ?_ | refine G_exit rfl ?_)
        refine G_cond_f rfl rfl ?_
        (repeat first | refine G_seq ?_ | refine G_skip ?_ | refine G_endblk ?_ | refine G_block ?_ | refine G_exit rfl ?_)
        refine G_region ?_
        refine GO_q rfl rfl (ev_move rfl) ?_
        refine GO_q rfl rfl (ev_loadN rfl (by repeat' first | exact LdN.blk rfl | assumption | apply LdN.skip | apply LdN.app)) ?_
        refine GO_eff rfl rfl (eff_call rfl (hhas _ (by repeat' first | exact Ld.blk rfl | apply Ld.skip) (by repeat' first | exact ktH_in _ _ | apply KIn.skip))) ?_; rintro _ _ ⟨rfl, rfl⟩
        refine GO_q rfl rfl (ev_assign rfl) ?_
        refine GO_nil ?_
        (repeat first | refine G_seq ?_ | refine G_skip ?_ | refine G_endblk ?_ | refine G_block ?_ | refine G_exit rfl ?_)
        refine G_cond_f rfl rfl ?_
        (repeat first | refine G_seq ?_ | refine G_skip ?_ | refine G_endblk ?_ | refine G_block ?_ | refine G_exit rfl ?_)
        refine G_draw (.q 0 (.q 1 (.q 2 (.q 3 (.q 4 (.q 5 (.q 6 (.q 7 (.q 8 (.q 9 .nil)))))))))) (by kernel_rfl) (by kernel_rfl) ?_
        refine RS_m retB_noPanic rfl rfl rfl rfl (ev_move rfl) ?_
        (first | refine RS_m retB_noPanic rfl rfl rfl rfl (ev_nilCheck rfl) ?_ | refine RS_m retB_noPanic rfl rfl rfl rfl (ev_nilCheckF (by simp) rfl) ?_)
        refine RS_m retB_noPanic rfl rfl rfl rfl (ev_fieldAddr rfl) ?_
        refine RS_q retB_noPanic rfl rfl rfl rfl (ev_load rfl (by repeat' first | exact Ld.blk rfl | assumption | apply Ld.skip | apply Ld.app)) ?_
        refine RS_m retB_noPanic rfl rfl rfl rfl (ev_move rfl) ?_
        (first | refine RS_m retB_noPanic rfl rfl rfl rfl (ev_nilCheck rfl) ?_ | refine RS_m retB_noPanic rfl rfl rfl rfl (ev_nilCheckF (by simp) rfl) ?_)
        refine RS_m retB_noPanic rfl rfl rfl rfl (ev_fieldAddr rfl) ?_
        refine RS_q retB_noPanic rfl rfl rfl rfl (ev_load rfl (by repeat' first | exact Ld.blk rfl | assumption | apply Ld.skip | apply Ld.app)) ?_
        refine RS_m retB_noPanic rfl rfl rfl rfl (ev_geq rfl rfl) ?_
        refine RS_m retB_noPanic rfl rfl rfl rfl (ev_assign rfl) ?_
        refine RS_nil ?_
        (repeat first | refine G_seq ?_ | refine G_skip ?_ | refine G_endblk ?_ | refine G_block ?_ | refine G_exit rfl ?_)
        refine G_cond_f rfl (decide_eq_false (by omega)) ?_
        (repeat first | refine G_seq ?_ | refine G_skip ?_ | refine G_endblk ?_ | refine G_block ?_ | refine G_exit rfl ?_)
        (repeat first | refine G_seq ?_ | refine G_skip ?_ | refine G_endblk ?_ | refine G_block ?_ | refine G_exit rfl ?_)
        refine G_region ?_
        refine GO_q rfl rfl (ev_move rfl) ?_
        (first | refine GO_q rfl rfl (ev_nilCheck rfl) ?_ | refine GO_q rfl rfl (ev_nilCheckF (by simp) rfl) ?_)
        refine GO_q rfl rfl (ev_fieldAddr rfl) ?_
        refine GO_q rfl rfl (ev_load rfl (by repeat' first | exact Ld.blk rfl | assumption | apply Ld.skip | apply Ld.app)) ?_
        (first | refine GO_q rfl rfl (ev_addN (q := 1) rfl rfl (by first | omega | (simp; done) | (simp; omega))) ?_ | refine GO_q rfl rfl (ev_add rfl rfl (by first | omega | (simp; done) | (simp; omega))) ?_)
        (first | refine GO_q rfl rfl (ev_nilCheck rfl) ?_ | refine GO_q rfl rfl (ev_nilCheckF (by simp) rfl) ?_)
        refine GO_q rfl rfl (ev_fieldAddr rfl) ?_
        refine GO_eff rfl rfl (eff_store rfl rfl rfl (by repeat' first | exact Upd.here rfl | apply Upd.skip | apply Upd.app)) ?_; rintro _ _ ⟨rfl, rfl⟩
        refine GO_nil ?_
        refine G_heap (L' := ktH T :: blk t 79 (kdC T.addr ((l.length + 1 : Nat) : Int) most v) :: blk b3 58 [.int .i64 p.id, .int .i64 p.x, .int .i64 p.y] :: F :: L) (by (repeat first | exact en_refl | (apply en_blk; focus ((repeat' first | exact Pick.here | apply Pick.skip | apply Pick.app); done); focus rfl) | (apply en_own; focus ((repeat' first | exact Pick.here | apply Pick.skip | apply Pick.app); done); focus rfl) | (apply en_pick; focus ((repeat' first | exact Pick.here | apply Pick.skip | apply Pick.app); done)) | apply en_drop | apply en_app) <;> fail) ?_
        (repeat first | refine G_seq ?_ | refine G_skip ?_ | refine G_endblk ?_ | refine G_block ?_ | refine G_exit rfl ?_)
        refine G_draw (.q 0 (.q 1 (.q 2 (.q 3 (.q 4 (.q 5 (.q 6 (.e 7 (.q 8 (.q 9 (.e 10 .nil))))))))))) (by kernel_rfl) (by kernel_rfl) ?_
        refine RS_m retB_noPanic rfl rfl rfl rfl (ev_move rfl) ?_
        refine RS_m retB_noPanic rfl rfl rfl rfl (ev_move rfl) ?_
        refine RS_m retB_noPanic rfl rfl rfl rfl (ev_move rfl) ?_
        (first | refine RS_m retB_noPanic rfl rfl rfl rfl (ev_nilCheck rfl) ?_ | refine RS_m retB_noPanic rfl rfl rfl rfl (ev_nilCheckF (by simp) rfl) ?_)
        refine RS_m retB_noPanic rfl rfl rfl rfl (ev_fieldAddr rfl) ?_
        refine RS_q retB_noPanic rfl rfl rfl rfl (ev_load rfl (by repeat' first | exact Ld.blk rfl | assumption | apply Ld.skip | apply Ld.app)) ?_
        refine RS_q retB_noPanic rfl rfl rfl rfl (ev_loadN rfl (by repeat' first | exact LdN.blk rfl | assumption | apply LdN.skip | apply LdN.app)) ?_
        refine RS_e (RE_cmp (by kernel_rfl) rfl rfl rfl (eff_call rfl (hput _ _)) ?_); rintro _ _ ⟨T1, k1, g1, hk1, rfl, rfl⟩
        (first | refine RS_m retB_noPanic rfl rfl rfl rfl (ev_nilCheck rfl) ?_ | refine RS_m retB_noPanic rfl rfl rfl rfl (ev_nilCheckF (by simp) rfl) ?_)
        refine RS_m retB_noPanic rfl rfl rfl rfl (ev_fieldAddr rfl) ?_
        refine RS_e (RE_last (by kernel_rfl) rfl rfl rfl (eff_store rfl rfl rfl (by repeat' first | exact Upd.here rfl | apply Upd.skip | apply Upd.app)) ?_); rintro _ _ ⟨rfl, rfl⟩
        have z1 := g1.pts.length_eq
        have z2 := g1.cnt
        rw [List.length_cons] at z1
        refine G_heap (L' := ktH T1 :: blk t 79 (kdC T1.addr ((l.length + 1 : Nat) : Int) most k1) :: blk b3 58 [.int .i64 p.id, .int .i64 p.x, .int .i64 p.y] :: F :: L) (by (repeat first | exact en_refl | (apply en_blk; focus ((repeat' first | exact Pick.here | apply Pick.skip | apply Pick.app); done); focus rfl) | (apply en_own; focus ((repeat' first | exact Pick.here | apply Pick.skip | apply Pick.app); done); focus rfl) | (apply en_pick; focus ((repeat' first | exact Pick.here | apply Pick.skip | apply Pick.app); done)) | apply en_drop | apply en_app) <;> fail) ?_
        (repeat first | refine G_seq ?_ | refine G_skip ?_ | refine G_endblk ?_ | refine G_block ?_ | refine G_exit rfl ?_)
        refine G_region ?_
        refine GO_q rfl rfl (ev_move rfl) ?_
        refine GO_eff rfl rfl (eff_call rfl (kclean_ctr t T1 (l.length + 1) most k1 _ g1.ok (by omega) (by omega) (by omega))) ?_; rintro _ _ ⟨T2, k2, g2, rfl, rfl⟩
        refine GO_nil ?_
        (repeat first | refine G_seq ?_ | refine G_skip ?_ | refine G_endblk ?_ | refine G_block ?_ | refine G_exit rfl ?_)
        refine G_region ?_
        refine GO_q rfl rfl (ev_assign rfl) ?_
        refine GO_nil ?_
        (repeat first | refine G_seq ?_ | refine G_skip ?_ | refine G_endblk ?_ | refine G_block ?_ | refine G_exit rfl ?_)
        have e : (l ++ [p]).length = l.length + 1 := by simp
        have w1 := g2.cnt
        have w2 := g2.bt
        have w3 := g2.few
        have gg : KG T2 k2 (l ++ [p]) (k + 1) := ⟨g2.ok, g2.pts.trans (g1.pts.trans ((kg.pts.cons p).trans (List.perm_append_singleton p l).symm)), by omega, by rw [e]; omega, by omega⟩
        exact G_ret (L' := treeK t most (l ++ [p]) (k + 1) :: L) rfl (.tmp rfl .nil) (by (repeat first | exact en_refl | refine en_tkn e gg ?_ | (apply en_blk; focus ((repeat' first | exact Pick.here | apply Pick.skip | apply Pick.app); done); focus rfl) | (apply en_own; focus ((repeat' first | exact Pick.here | apply Pick.skip | apply Pick.app); done); focus rfl) | (apply en_pick; focus ((repeat' first | exact Pick.here | apply Pick.skip | apply Pick.app); done)) | apply en_drop | apply en_app) <;> fail) ⟨rfl, rfl⟩
end Go.Proofs.YtjgdhkilnalejaaGreat
/- A tree of points by two orders in turn: reads of a tree that lies open; that a point is seen; the point of an act. -/
namespace Go.Proofs.YtjgdhkilnalejaaGreat
attribute [local irreducible] sat
open Go.RowKit
set_option linter.unusedVariables false
set_option linter.unusedSectionVars false
set_option linter.unusedSimpArgs false
set_option maxRecDepth 100000

section
variable {t : Nat} {most : Int} {T : KT} {v k : Nat} {l : List Pt} {L : List HP} (g : KG T v l k) (hk : k ≤ 900) (h : LdN L t 0 4 (kdC T.addr (l.length : Nat) most v)) (hin : KIn L T)
include g hk h hin
end
/-- What is done: its two numbers and the point. -/
structure Ac where
  kind : Int
  at_ : Int
  p : Pt
/-- The point of an act. -/
def actP (l : List Pt) (a : Ac) : Pt := if a.kind = 2 ∧ 0 < l.length ∧ 0 ≤ a.at_ then l.getD (a.at_ % (l.length : Nat)).toNat a.p else a.p
section
variable {P : Program} {L : List HP} {σ : Env} {d : Option Nat} {ty T T' : TypeId} {pos : String} {aft : Array Edge} {gd : Option (Nat × Bool)} {x y : Operand}
end
/-- What an act leaves. -/
def actL (most : Int) (l : List Pt) (a : Ac) : List Pt := if a.kind = 1 ∨ a.kind = 2 then l.erase (actP l a) else insR most l (actP l a)
instance : Enc Ac := ⟨5, fun a => [.int .i64 a.kind, .int .i64 a.at_, .int .i64 a.p.id, .int .i64 a.p.x, .int .i64 a.p.y], fun _ => rfl, fun p v h => by
  simp at h
  rcases h with rfl | rfl | rfl | rfl | rfl <;> rfl⟩
def playL (most : Int) (l : List Ac) : List Pt := l.foldl (actL most) []
end Go.Proofs.YtjgdhkilnalejaaGreat
/- Slices over iterators: Values, AppendSeq, Collect, Sorted of numbers. -/
namespace Go.Proofs.YtjgdhkilnalejaaGreat
attribute [local irreducible] sat
open Go.RowKit
set_option linter.unusedVariables false
set_option linter.unusedSimpArgs false
set_option maxRecDepth 100000

theorem Values_ctr (A : Option Addr) (n c : Nat) (L : List HP) : Ctr Tryz.prog 33 #[.slice A n c] L fun v L' => ∃ b, v = .func (.func 54) #[] #[.pointer (some ⟨b, 0, none⟩)] ∧ L' = blk b 37 [.slice A n c] :: L := by
  refine Ctr_of (fn := Tryz.f33) (n := 4) Tryz.func33 rfl rfl rfl ?_
  intro g F
  (repeat first | refine G_seq ?_ | refine G_skip ?_ | refine G_endblk ?_ | refine G_block ?_ | refine G_exit rfl ?_)
  refine G_region ?_
  refine GO_eff rfl rfl (eff_box rfl) ?_; rintro _ _ ⟨b1, rfl, rfl⟩
  refine GO_q rfl rfl (ev_assign rfl) ?_
  refine GO_nil ?_
  (repeat first | refine G_seq ?_ | refine G_skip ?_ | refine G_endblk ?_ | refine G_block ?_ | refine G_exit rfl ?_)
  refine G_region ?_
  refine GO_q rfl rfl (ev_makeFunc rfl rfl) ?_
  refine GO_q rfl rfl (ev_assign rfl) ?_
  refine GO_nil ?_
  (repeat first | refine G_seq ?_ | refine G_skip ?_ | refine G_endblk ?_ | refine G_block ?_ | refine G_exit rfl ?_)
  exact G_ret (L' := blk b1 37 [.slice A n c] :: L) rfl (.tmp rfl .nil) (by (repeat first | exact en_refl | (apply en_blk; focus ((repeat' first | exact Pick.here | apply Pick.skip | apply Pick.app); done); focus rfl) | (apply en_own; focus ((repeat' first | exact Pick.here | apply Pick.skip | apply Pick.app); done); focus rfl) | (apply en_pick; focus ((repeat' first | exact Pick.here | apply Pick.skip | apply Pick.app); done)) | apply en_drop | apply en_app) <;> fail) ⟨b1, rfl, rfl⟩
theorem vals_ctr {S : Type} (l b : Nat) (A : Option Addr) (n c : Nat) (xs : List Int) (L : Nat → S → List HP) (Inv : Nat → S → Prop) (hRd : ∀ k s, Inv k s → Rd (L k s) A n xs) (hn : n ≤ 1000000)
    (hy : ∀ k s x, xs[k]? = some x → Inv k s → Yld Tryz.prog l [.int .i64 x] (L k s) fun q L' => q = true ∧ ∃ s', Inv (k + 1) s' ∧ L' = L (k + 1) s') (s0 : S) (h0 : Inv 0 s0) :
    Ctr Tryz.prog 54 #[Value.func (.yield l) #[] #[], .pointer (some ⟨b, 0, none⟩)] (blk b 37 [.slice A n c] :: L 0 s0) fun v L' => v = .tuple #[] ∧ ∃ s', Inv n s' ∧ L' = blk b 37 [.slice A n c] :: L n s' := by
  have hlen : xs.length = n := (hRd 0 s0 h0).len (by decide)
  refine Ctr_of (fn := Tryz.f54) (n := 16) Tryz.func54 rfl rfl rfl ?_
  intro g F
  (repeat first | refine G_seq ?_ | refine G_skip ?_ | refine G_endblk ?_ | refine G_block ?_ | refine G_exit rfl ?_)
  refine G_region ?_
  refine GO_q rfl rfl (ev_load rfl (by repeat' first | exact Ld.blk rfl | assumption | apply Ld.skip | apply Ld.app)) ?_
  refine GO_q rfl rfl (ev_len rfl) ?_
  refine GO_q rfl rfl (ev_move rfl) ?_
  refine GO_nil ?_
  (repeat first | refine G_seq ?_ | refine G_skip ?_ | refine G_endblk ?_ | refine G_block ?_ | refine G_exit rfl ?_)
  refine G_loop (ι := Nat × S) (fun z => [(0, Value.func (.yield l) #[] #[]), (5, .slice A n c), (6, .int .i64 (n : Nat)), (7, .int .i64 (z.1 : Nat))]) (fun z => F :: blk b 37 [.slice A n c] :: L z.1 z.2) (fun z => z.1 ≤ n ∧ Inv z.1 z.2) (fun z => n - z.1) (0, s0) ⟨Nat.zero_le _, h0⟩ ⟨rfl, rfl, rfl, rfl, trivial⟩ (by (repeat first | exact fun _ s => s | apply en_keep | apply en_drop | apply en_app) <;> fail) ?_
  rintro ⟨k, s⟩ ⟨f1, f2⟩
  simp only at f1 f2
  dsimp only
  (repeat first | refine G_seq ?_ | refine G_skip ?_ | refine G_endblk ?_ | refine G_block ?_ | refine G_exit rfl ?_)
  refine G_region ?_
  (first | refine GO_q rfl rfl (ev_lssN rfl rfl) ?_ | refine GO_q rfl rfl (ev_lss rfl rfl) ?_)
  refine GO_nil ?_
  (repeat first | refine G_seq ?_ | refine G_skip ?_ | refine G_endblk ?_ | refine G_block ?_ | refine G_exit rfl ?_)
  refine G_cond rfl (fun c1 => ?_) (fun c1 => ?_)
  · obtain ⟨b1, o1, rfl, x1⟩ := (hRd k s f2).at_ (by omega)
    have g1 : xs[k]? = some xs[k] := List.getElem?_eq_getElem (by omega)
    have y1 := (x1 _ _ g1).at_ (i := 0) rfl
    have hyk := hy k s _ g1 f2
    generalize xs[k] = u at *
    (repeat first | refine G_seq ?_ | refine G_skip ?_ | refine G_endblk ?_ | refine G_block ?_ | refine G_exit rfl ?_)
    refine G_region ?_
    (first | refine GO_q rfl rfl (ev_indexAddrN rfl rfl (by first | omega | (simp; done) | (simp; omega))) ?_ | refine GO_q rfl rfl (ev_indexAddr rfl rfl (by first | omega | (simp; done) | (simp; omega)) (by first | omega | (simp; done) | (simp; omega))) ?_)
    refine GO_q rfl rfl (ev_load rfl (Ld.skip (Ld.skip y1))) ?_
    refine GO_q rfl rfl (ev_assign rfl) ?_
    refine GO_nil ?_
    (repeat first | refine G_seq ?_ | refine G_skip ?_ | refine G_endblk ?_ | refine G_block ?_ | refine G_exit rfl ?_)
    refine G_region ?_
    refine GO_q rfl rfl (ev_move rfl) ?_
    refine GO_q rfl rfl (ev_move rfl) ?_
    refine GO_yield rfl rfl rfl (Yld.frame [F, blk b 37 [.slice (some ⟨b1, o1, none⟩) n c]] hyk (fun _ s => s)) ?_
    rintro q L' ⟨L1, ⟨rfl, s', hs', rfl⟩, rfl⟩
    refine GO_q rfl rfl (ev_not rfl) ?_
    refine GO_nil ?_
    (repeat first | refine G_seq ?_ | refine G_skip ?_ | refine G_endblk ?_ | refine G_block ?_ | refine G_exit rfl ?_)
    refine G_cond_f rfl rfl ?_
    (repeat first | refine G_seq ?_ | refine G_skip ?_ | refine G_endblk ?_ | refine G_block ?_ | refine G_exit rfl ?_)
    refine G_region ?_
    (first | refine GO_q rfl rfl (ev_addN (q := 1) rfl rfl (by first | omega | (simp; done) | (simp; omega))) ?_ | refine GO_q rfl rfl (ev_add rfl rfl (by first | omega | (simp; done) | (simp; omega))) ?_)
    refine GO_q rfl rfl (ev_move rfl) ?_
    refine GO_nil ?_
    (repeat first | refine G_seq ?_ | refine G_skip ?_ | refine G_endblk ?_ | refine G_block ?_ | refine G_exit rfl ?_)
    exact G_round (k + 1, s') ⟨by simp only; omega, hs'⟩ (by simp only; omega) ⟨rfl, rfl, rfl, rfl, trivial⟩ (by (repeat first | exact fun _ s => s | apply en_keep | apply en_drop | apply en_app) <;> fail)
  · have e : k = n := by omega
    subst e
    (repeat first | refine G_seq ?_ | refine G_skip ?_ | refine G_endblk ?_ | refine G_block ?_ | refine G_exit rfl ?_)
    exact G_end (rs := []) (vs := []) (L' := blk b 37 [.slice A k c] :: L k s) rfl .nil (by (repeat first | exact fun _ s => s | apply en_keep | apply en_drop | apply en_app) <;> fail) ⟨rfl, s, f2, rfl⟩
theorem AppendSeq_ctr (b : Nat) (A : Option Addr) (n c : Nat) (xs : List Int) (L : List HP) (hRd : Rd L A n xs) (hn : n ≤ 1000000) :
    Ctr Tryz.prog 75 #[.slice none 0 0, .func (.func 54) #[] #[.pointer (some ⟨b, 0, none⟩)]] (blk b 37 [.slice A n c] :: L) fun v L' => ∃ B e, v = .slice B xs.length e ∧ ((0 < xs.length → ∃ b, B = some ⟨b, 0, none⟩) ∧ xs.length ≤ e ∧ e ≤ maxLen) ∧ L' = own 3 1 B xs.length e (flat xs) :: blk b 37 [.slice A n c] :: L := by
  have hlen : xs.length = n := hRd.len (by decide)
  refine Ctr_ofM (fn := Tryz.f75) (n := 13) Tryz.func75 rfl rfl rfl ?_
  intro g F hgb
  (repeat first | refine G_seq ?_ | refine G_skip ?_ | refine G_endblk ?_ | refine G_block ?_ | refine G_exit rfl ?_)
  refine G_region ?_
  refine GO_eff rfl rfl (eff_box rfl) ?_; rintro _ _ ⟨b2, rfl, rfl⟩
  refine GO_q rfl rfl (ev_assign rfl) ?_
  refine GO_nil ?_
  (repeat first | refine G_seq ?_ | refine G_skip ?_ | refine G_endblk ?_ | refine G_block ?_ | refine G_exit rfl ?_)
  refine G_region ?_
  refine GO_q rfl rfl (ev_move rfl) ?_
  refine GO_nil ?_
  (repeat first | refine G_seq ?_ | refine G_skip ?_ | refine G_endblk ?_ | refine G_block ?_ | refine G_exit rfl ?_)
  refine G_heap (own.nil_ 3 1) ?_
  refine G_range1 (f := 54) (c1 := []) (c2 := [.pointer (some ⟨b, 0, none⟩)]) (post := fun p L1 => p = none ∧ ∃ s : Option Addr × Nat, ((0 < n → ∃ b, s.1 = some ⟨b, 0, none⟩) ∧ n ≤ s.2 ∧ s.2 ≤ maxLen) ∧ L1 = own 3 1 s.1 n s.2 (flat (xs.take n)) :: blk b2 37 [.slice s.1 n s.2] :: F :: blk b 37 [.slice A n c] :: L) (by rw [← hgb]; rfl) rfl rfl ?_ ?_ ?_
  · intro l d R hR
    have hv := vals_ctr (S := Option Addr × Nat) l b A n c xs
      (fun k s => obj l (R .ready none) :: obj d (.deferred (some [])) :: own 3 1 s.1 k s.2 (flat (xs.take k)) :: blk b2 37 [.slice s.1 k s.2] :: F :: L)
      (fun k s => (0 < k → ∃ b, s.1 = some ⟨b, 0, none⟩) ∧ k ≤ s.2 ∧ s.2 ≤ maxLen)
      (fun k s _ => hRd.skip.skip.skip.skip.skip) hn ?_ (none, 0) ⟨fun h => absurd h (Nat.lt_irrefl 0), Nat.le_refl _, Nat.zero_le _⟩
    · refine (Ctr.pre (by (repeat first | exact en_refl | (apply en_blk; focus ((repeat' first | exact Pick.here | apply Pick.skip | apply Pick.app); done); focus rfl) | (apply en_own; focus ((repeat' first | exact Pick.here | apply Pick.skip | apply Pick.app); done); focus rfl) | (apply en_pick; focus ((repeat' first | exact Pick.here | apply Pick.skip | apply Pick.app); done)) | apply en_drop | apply en_app) <;> fail) hv).post' ?_
      rintro v L' hm ⟨rfl, s, hs, rfl⟩ hsat
      refine ⟨_, ⟨.ready, none, _, (by decide), ⟨rfl, s, hs, rfl⟩, rfl⟩, ?_⟩
      revert hm
      exact (by (repeat first | exact en_refl | (apply en_blk; focus ((repeat' first | exact Pick.here | apply Pick.skip | apply Pick.app); done); focus rfl) | (apply en_own; focus ((repeat' first | exact Pick.here | apply Pick.skip | apply Pick.app); done); focus rfl) | (apply en_pick; focus ((repeat' first | exact Pick.here | apply Pick.skip | apply Pick.app); done)) | apply en_drop | apply en_app) <;> fail)
    · intro k s x hx ⟨i1, i2, i3⟩
      have hk : k < n := by rw [← hlen]; exact (List.getElem?_eq_some_iff.1 hx).1
      have e2 : xs.take (k + 1) = xs.take k ++ [x] := by
        rw [List.take_add_one, hx]; rfl
      have htl : (xs.take k).length = k := by rw [List.length_take]; omega
      refine hR (ι := Unit) (τ := fun _ => [(2, .pointer (some ⟨b2, 0, none⟩)), (5, .int .i64 x)]) (M := fun _ => obj d (.deferred (some [])) :: own 3 1 s.1 k s.2 (flat (xs.take k)) :: blk b2 37 [.slice s.1 k s.2] :: F :: L) (Fy := fun _ => True) ?_ ?_
      · intro g F' _ _
        (repeat first | refine G_seq ?_ | refine G_skip ?_ | refine G_endblk ?_ | refine G_block ?_ | refine G_exit rfl ?_)
        refine G_region ?_
        refine GO_q rfl rfl (ev_assign rfl) ?_
        refine GO_nil ?_
        exact G_rndStart () trivial ⟨rfl, rfl, trivial⟩ (by (repeat first | exact fun _ s => s | apply en_keep | apply en_drop | apply en_app) <;> fail)
      · intro g F' _ _ _ _
        (repeat first | refine G_seq ?_ | refine G_skip ?_ | refine G_endblk ?_ | refine G_block ?_ | refine G_exit rfl ?_)
        (repeat first | refine G_seq ?_ | refine G_skip ?_ | refine G_endblk ?_ | refine G_block ?_ | refine G_exit rfl ?_)
        refine G_region ?_
        refine GO_q rfl rfl (ev_load rfl (by repeat' first | exact Ld.blk rfl | assumption | apply Ld.skip | apply Ld.app)) ?_
        refine GO_q rfl rfl (ev_move rfl) ?_
        refine GO_eff rfl rfl (eff_buildSlice1 (by rfl) rfl rfl) ?_; rintro _ _ ⟨b10, rfl, rfl⟩
        refine GO_eff rfl rfl (eff_append rfl rfl (by repeat' first | exact Pick.here | apply Pick.skip) (by repeat' first | exact Rc.blk rfl | assumption | apply Rc.skip) (one_all rfl) (by rfl) (by decide) (by first | omega | (simp; done) | (simp; omega)) (by first | omega | (simp; done) | (simp; omega))) ?_; rintro _ _ ⟨A11, c11, rfl, hc11, hm11, hn11, rfl⟩
        refine GO_eff rfl rfl (eff_store rfl rfl rfl (by repeat' first | exact Upd.here rfl | apply Upd.skip | apply Upd.app)) ?_; rintro _ _ ⟨rfl, rfl⟩
        refine GO_nil ?_
        (repeat first | refine G_seq ?_ | refine G_skip ?_ | refine G_endblk ?_ | refine G_block ?_ | refine G_exit rfl ?_)
        have e3 : flat (xs.take (k + 1)) = flat (xs.take k) ++ [.int .i64 x] := by rw [e2, ← flat_snoc]; rfl
        exact G_rndEnd (obj d (.deferred (some [])) :: own 3 1 A11 (k + 1) c11 (flat (xs.take k) ++ [.int .i64 x]) :: blk b2 37 [.slice A11 (k + 1) c11] :: F :: L) ⟨rfl, (A11, c11), ⟨hn11, hc11, hm11⟩, by rw [e3]⟩ (by (repeat first | exact en_refl | (apply en_blk; focus ((repeat' first | exact Pick.here | apply Pick.skip | apply Pick.app); done); focus rfl) | (apply en_own; focus ((repeat' first | exact Pick.here | apply Pick.skip | apply Pick.app); done); focus rfl) | (apply en_pick; focus ((repeat' first | exact Pick.here | apply Pick.skip | apply Pick.app); done)) | apply en_drop | apply en_app) <;> fail)
  · rintro d L1 ⟨-, ⟨B, e⟩, ⟨i1, i2, i3⟩, rfl⟩
    have e2 : xs.take n = xs := List.take_of_length_le (by omega)
    simp only at i1 i2 i3
    dsimp only
    rw [e2]
    (repeat first | refine G_seq ?_ | refine G_skip ?_ | refine G_endblk ?_ | refine G_block ?_ | refine G_exit rfl ?_)
    refine G_region ?_
    refine GO_q rfl rfl (ev_load rfl (by repeat' first | exact Ld.blk rfl | assumption | apply Ld.skip | apply Ld.app)) ?_
    refine GO_q rfl rfl (ev_assign rfl) ?_
    refine GO_nil ?_
    (repeat first | refine G_seq ?_ | refine G_skip ?_ | refine G_endblk ?_ | refine G_block ?_ | refine G_exit rfl ?_)
    exact G_retM [d] rfl (by rw [← hgb]; rfl) rfl (.tmp rfl .nil) (M := own 3 1 B n e (flat xs) :: blk b2 37 [.slice B n e] :: F :: blk b 37 [.slice A n c] :: L) (L' := own 3 1 B n e (flat xs) :: blk b 37 [.slice A n c] :: L) (by (repeat first | exact en_refl | (apply en_blk; focus ((repeat' first | exact Pick.here | apply Pick.skip | apply Pick.app); done); focus rfl) | (apply en_own; focus ((repeat' first | exact Pick.here | apply Pick.skip | apply Pick.app); done); focus rfl) | (apply en_pick; focus ((repeat' first | exact Pick.here | apply Pick.skip | apply Pick.app); done)) | apply en_drop | apply en_app) <;> fail) (by (repeat first | exact en_refl | (apply en_blk; focus ((repeat' first | exact Pick.here | apply Pick.skip | apply Pick.app); done); focus rfl) | (apply en_own; focus ((repeat' first | exact Pick.here | apply Pick.skip | apply Pick.app); done); focus rfl) | (apply en_pick; focus ((repeat' first | exact Pick.here | apply Pick.skip | apply Pick.app); done)) | apply en_drop | apply en_app) <;> fail) ⟨B, e, by rw [hlen]; rfl, by rw [hlen]; exact ⟨i1, i2, i3⟩, by rw [hlen]⟩
  · rintro d e L1 ⟨h, _⟩
    cases h
theorem Collect_ctr (b : Nat) (A : Option Addr) (n c : Nat) (xs : List Int) (L : List HP) (hRd : Rd L A n xs) (hn : n ≤ 1000000) :
    Ctr Tryz.prog 52 #[.func (.func 54) #[] #[.pointer (some ⟨b, 0, none⟩)]] (blk b 37 [.slice A n c] :: L) fun v L' => ∃ B e, v = .slice B xs.length e ∧ ((0 < xs.length → ∃ b, B = some ⟨b, 0, none⟩) ∧ xs.length ≤ e ∧ e ≤ maxLen) ∧ L' = own 3 1 B xs.length e (flat xs) :: blk b 37 [.slice A n c] :: L := by
  refine Ctr_of (fn := Tryz.f52) (n := 5) Tryz.func52 rfl rfl rfl ?_
  intro g F
  (repeat first | refine G_seq ?_ | refine G_skip ?_ | refine G_endblk ?_ | refine G_block ?_ | refine G_exit rfl ?_)
  refine G_region ?_
  refine GO_q rfl rfl (ev_assign rfl) ?_
  refine GO_nil ?_
  (repeat first | refine G_seq ?_ | refine G_skip ?_ | refine G_endblk ?_ | refine G_block ?_ | refine G_exit rfl ?_)
  refine G_region ?_
  refine GO_q rfl rfl (ev_move rfl) ?_
  refine GO_eff rfl rfl (eff_call rfl (Ctr.pick (by repeat' first | exact Pick.here | apply Pick.skip | apply Pick.app) (AppendSeq_ctr b A n c xs _ hRd.skip hn))) ?_; rintro _ _ ⟨B, e, rfl, ⟨i1, i2, i3⟩, rfl⟩
  refine GO_q rfl rfl (ev_assign rfl) ?_
  refine GO_nil ?_
  (repeat first | refine G_seq ?_ | refine G_skip ?_ | refine G_endblk ?_ | refine G_block ?_ | refine G_exit rfl ?_)
  exact G_ret (L' := own 3 1 B xs.length e (flat xs) :: blk b 37 [.slice A n c] :: L) rfl (.tmp rfl .nil) (by (repeat first | exact en_refl | (apply en_blk; focus ((repeat' first | exact Pick.here | apply Pick.skip | apply Pick.app); done); focus rfl) | (apply en_own; focus ((repeat' first | exact Pick.here | apply Pick.skip | apply Pick.app); done); focus rfl) | (apply en_pick; focus ((repeat' first | exact Pick.here | apply Pick.skip | apply Pick.app); done)) | apply en_drop | apply en_app) <;> fail) ⟨B, e, rfl, ⟨i1, i2, i3⟩, rfl⟩
theorem Sorted_ctr (b : Nat) (A : Option Addr) (n c : Nat) (xs : List Int) (L : List HP) (hRd : Rd L A n xs) (hn : n ≤ 1000000) :
    Ctr Tryz.prog 32 #[.func (.func 54) #[] #[.pointer (some ⟨b, 0, none⟩)]] (blk b 37 [.slice A n c] :: L) fun v L' => ∃ B e, v = .slice B xs.length e ∧ ((0 < xs.length → ∃ b, B = some ⟨b, 0, none⟩) ∧ xs.length ≤ e ∧ e ≤ maxLen) ∧ L' = own 3 1 B xs.length e (flat (srt xs)) :: blk b 37 [.slice A n c] :: L := by
  have hlen : xs.length = n := hRd.len (by decide)
  refine Ctr_of (fn := Tryz.f32) (n := 9) Tryz.func32 rfl rfl rfl ?_
  intro g F
  (repeat first | refine G_seq ?_ | refine G_skip ?_ | refine G_endblk ?_ | refine G_block ?_ | refine G_exit rfl ?_)
  refine G_region ?_
  refine GO_q rfl rfl (ev_assign rfl) ?_
  refine GO_nil ?_
  (repeat first | refine G_seq ?_ | refine G_skip ?_ | refine G_endblk ?_ | refine G_block ?_ | refine G_exit rfl ?_)
  refine G_region ?_
  refine GO_q rfl rfl (ev_move rfl) ?_
  refine GO_eff rfl rfl (eff_call rfl (Ctr.pick (by repeat' first | exact Pick.here | apply Pick.skip | apply Pick.app) (Collect_ctr b A n c xs _ hRd.skip hn))) ?_; rintro _ _ ⟨B, e, rfl, ⟨i1, i2, i3⟩, rfl⟩
  refine GO_q rfl rfl (ev_assign rfl) ?_
  refine GO_nil ?_
  (repeat first | refine G_seq ?_ | refine G_skip ?_ | refine G_endblk ?_ | refine G_block ?_ | refine G_exit rfl ?_)
  refine G_region ?_
  refine GO_q rfl rfl (ev_move rfl) ?_
  refine GO_eff rfl rfl (eff_call rfl (Ctr.pick (by repeat' first | exact Pick.here | apply Pick.skip | apply Pick.app) (sort_ctr B _ e xs _ i1 rfl (by omega)))) ?_; rintro _ _ ⟨rfl, rfl⟩
  refine GO_nil ?_
  (repeat first | refine G_seq ?_ | refine G_skip ?_ | refine G_endblk ?_ | refine G_block ?_ | refine G_exit rfl ?_)
  refine G_region ?_
  refine GO_q rfl rfl (ev_move rfl) ?_
  refine GO_q rfl rfl (ev_assign rfl) ?_
  refine GO_nil ?_
  (repeat first | refine G_seq ?_ | refine G_skip ?_ | refine G_endblk ?_ | refine G_block ?_ | refine G_exit rfl ?_)
  exact G_ret (L' := own 3 1 B xs.length e (flat (srt xs)) :: blk b 37 [.slice A n c] :: L) rfl (.tmp rfl .nil) (by (repeat first | exact en_refl | (apply en_blk; focus ((repeat' first | exact Pick.here | apply Pick.skip | apply Pick.app); done); focus rfl) | (apply en_own; focus ((repeat' first | exact Pick.here | apply Pick.skip | apply Pick.app); done); focus rfl) | (apply en_pick; focus ((repeat' first | exact Pick.here | apply Pick.skip | apply Pick.app); done)) | apply en_drop | apply en_app) <;> fail) ⟨B, e, rfl, ⟨i1, i2, i3⟩, rfl⟩
end Go.Proofs.YtjgdhkilnalejaaGreat
