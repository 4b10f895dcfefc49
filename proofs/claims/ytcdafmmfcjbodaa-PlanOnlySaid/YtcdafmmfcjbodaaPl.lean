/- Plan: the law PlanAnswers. -/
import Derived.Test.YtcdafmmfcjbodaaPk
namespace Go.Proofs.Ytcdafmmfcjbodaa
attribute [local irreducible] sat
open Go.RowKit
set_option linter.unusedVariables false
set_option linter.unusedSimpArgs false
set_option maxRecDepth 100000

theorem n_take (q : Qy) (l : List Pt) (s : List Sp) (hl : l.length ≤ 40) (hs : s.length ≤ 40) : l.take 40 = l ∧ s.take 40 = s :=
  ⟨List.take_of_length_le hl, List.take_of_length_le hs⟩
theorem planAnswers_ctr (q : Qy) (A B : Option Addr) (n c m d : Nat) (l : List Pt) (s : List Sp) (L : List HP) (hl : Rd L A n l) (hc : n ≤ c) (hc2 : c ≤ maxLen) (hs : Rd L B m s) (hd : m ≤ d) (hd2 : d ≤ maxLen) :
    Ctr Try.prog 4 #[q.v, .slice A n c, .slice B m d] L fun v L' => v = .bool true ∧ L' = L := by
  have gl : (l.take 40).length ≤ 40 := List.length_take_le _ _
  have gs : (s.take 40).length ≤ 40 := List.length_take_le _ _
  have tl : (l.take 40).take 40 = l.take 40 := by rw [List.take_take]; rfl
  have ts : (s.take 40).take 40 = s.take 40 := by rw [List.take_take]; rfl
  obtain ⟨l1, e1⟩ : ∃ l1, l.take 40 = l1 := ⟨_, rfl⟩
  obtain ⟨s1, e2⟩ : ∃ s1, s.take 40 = s1 := ⟨_, rfl⟩
  have Z1 := Few_ctr A n c l 40
  have Z2 := spans_ctr B m d s
  rw [e1] at Z1 gl tl
  rw [e2] at Z2 gs ts
  have eo := q.rOut_eq l1 s1
  refine Ctr_of (fn := Try.f4) (n := 25) Try.func4 rfl rfl rfl ?_
  intro g F
  (repeat first | refine G_seq ?_ | refine G_skip ?_ | refine G_endblk ?_ | refine G_block ?_ | refine G_exit rfl ?_)
  refine G_region ?_
  refine GO_eff rfl rfl (eff_box rfl) ?_; rintro _ _ ⟨b3, rfl, rfl⟩
  refine GO_q rfl rfl (ev_assign rfl) ?_
  refine GO_nil ?_
  (repeat first | refine G_seq ?_ | refine G_skip ?_ | refine G_endblk ?_ | refine G_block ?_ | refine G_exit rfl ?_)
  refine G_region ?_
  refine GO_q rfl rfl (ev_move rfl) ?_
  refine GO_eff rfl rfl (eff_call rfl (Ctr.frame [blk b3 37 (cellsL q.v), F] (Z1 L hl hc hc2 (by omega)) (by (repeat first | exact fun _ s => s | apply en_keep | apply en_drop | apply en_app) <;> fail))) ?_; rintro _ _ ⟨_, ⟨A1, c1, N1, rfl, u1, u2, rfl, u3⟩, rfl⟩
  refine GO_q rfl rfl (ev_move rfl) ?_
  refine GO_eff rfl rfl (eff_call rfl (Ctr.frame [blk b3 37 (cellsL q.v), F] (Z2 (N1 ++ L) (by repeat' first | exact Rc.blk rfl | assumption | apply Rd.skip | apply Rd.app) hd hd2) (by (repeat first | exact fun _ s => s | apply en_keep | apply en_drop | apply en_app) <;> fail))) ?_; rintro _ _ ⟨_, ⟨A2, c2, N2, rfl, w1, w2, rfl, w3⟩, rfl⟩
  refine GO_q rfl rfl (ev_assign rfl) ?_
  refine GO_q rfl rfl (ev_assign rfl) ?_
  refine GO_nil ?_
  have v3 : Rd (N2 ++ (N1 ++ L)) A1 l1.length l1 := u3.app
  have HML : ∀ h, sat (N2 ++ (N1 ++ L)) h → sat L h := en_app (en_app en_refl)
  clear u3
  generalize N2 ++ (N1 ++ L) = M at *
  have Z3 := fun L' h => Few_ctr A1 l1.length c1 l1 40 L' h u1 u2 (by omega)
  have Z4 := fun L' h => spans_ctr A2 s1.length c2 s1 L' h w1 w2
  rw [tl] at Z3
  rw [ts] at Z4
  (repeat first | refine G_seq ?_ | refine G_skip ?_ | refine G_endblk ?_ | refine G_block ?_ | refine G_exit rfl ?_)
  refine G_draw (.q 0 (.q 1 (.q 3 (.q 6 (.q 7 (.q 8 (.e 2 (.e 4 (.e 5 (.e 9 (.e 10 (.q 11 (.e 12 (.q 13 (.q 14 .nil))))))))))))))) (by kernel_rfl) (by kernel_rfl) ?_
  refine RS_q retB_noPanic rfl rfl rfl (ev_loadN rfl (by repeat' first | exact LdN.blk rfl | assumption | apply LdN.skip | apply LdN.app)) ?_
  refine RS_q retB_noPanic rfl rfl rfl (ev_move rfl) ?_
  refine RS_q retB_noPanic rfl rfl rfl (ev_move rfl) ?_
  refine RS_q retB_noPanic rfl rfl rfl (ev_loadN rfl (by repeat' first | exact LdN.blk rfl | assumption | apply LdN.skip | apply LdN.app)) ?_
  refine RS_q retB_noPanic rfl rfl rfl (ev_move rfl) ?_
  refine RS_q retB_noPanic rfl rfl rfl (ev_move rfl) ?_
  refine RS_e (RE_eff rfl rfl rfl (eff_call rfl (Z3 _ (by repeat' first | exact Rc.blk rfl | assumption | apply Rd.skip | apply Rd.app))) ?_); rintro _ _ ⟨A3, c3, N3, rfl, x1, x2, rfl, x3⟩; refine ⟨_, fun _ s => s, (by (repeat first | exact fun _ s => s | apply en_keep | apply en_drop | apply en_app) <;> fail), ?_⟩
  refine RS_e (RE_eff rfl rfl rfl (eff_call rfl (Z4 _ (by repeat' first | exact Rc.blk rfl | assumption | apply Rd.skip | apply Rd.app))) ?_); rintro _ _ ⟨A4, c4, N4, rfl, y1, y2, rfl, y3⟩; refine ⟨_, fun _ s => s, (by (repeat first | exact fun _ s => s | apply en_keep | apply en_drop | apply en_app) <;> fail), ?_⟩
  refine RS_e (RE_eff rfl rfl rfl (eff_call rfl (Plain_ctr q A3 A4 _ c3 _ c4 l1 s1 _ (by repeat' first | exact Rc.blk rfl | assumption | apply Rd.skip | apply Rd.app) y3 (by omega) (by omega))) ?_); rintro _ _ ⟨A5, c5, N5, rfl, z1, z2, rfl, z3⟩; refine ⟨_, fun _ s => s, (by (repeat first | exact fun _ s => s | apply en_keep | apply en_drop | apply en_app) <;> fail), ?_⟩
  refine RS_e (RE_eff rfl rfl rfl (eff_call rfl (rPlain_ctr q A1 A2 _ c1 _ c2 l1 s1 _ (by repeat' first | exact Rc.blk rfl | assumption | apply Rd.skip | apply Rd.app) (by repeat' first | exact Rc.blk rfl | assumption | apply Rd.skip | apply Rd.app) (by omega) (by omega))) ?_); rintro _ _ ⟨A6, c6, N6, rfl, t1, t2, rfl, t3⟩; refine ⟨_, fun _ s => s, (by (repeat first | exact fun _ s => s | apply en_keep | apply en_drop | apply en_app) <;> fail), ?_⟩
  refine RS_e (RE_eff rfl rfl rfl (eff_call rfl (AnsSame_ctr _ _ A5 A6 _ _ c5 c6 (q.out l1 s1) (q.rOut l1 s1) _ (by repeat' first | exact Rc.blk rfl | assumption | apply Rd.skip | apply Rd.app) (by repeat' first | exact Rc.blk rfl | assumption | apply Rd.skip | apply Rd.app) (by unfold maxLen at z2; omega))) ?_); rintro _ _ ⟨rfl, rfl⟩; refine ⟨_, fun _ s => s, (by (repeat first | exact fun _ s => s | apply en_keep | apply en_drop | apply en_app) <;> fail), ?_⟩
  refine RS_q retB_noPanic rfl rfl rfl (ev_move rfl) ?_
  refine RS_e (RE_eff_yes rfl rfl rfl ⟨_, rfl, (by simp [eo])⟩ rfl (eff_call rfl (lives25_ctr _)) ?_); rintro _ _ ⟨rfl, rfl⟩; refine ⟨_, fun _ s => s, (by (repeat first | exact fun _ s => s | apply en_keep | apply en_drop | apply en_app) <;> fail), ?_⟩
  refine RS_q retB_noPanic rfl rfl rfl (ev_pick_t rfl (by simp [eo]) rfl) ?_
  refine RS_q retB_noPanic rfl rfl rfl (ev_assign rfl) ?_
  refine RS_nil ?_
  (repeat first | refine G_seq ?_ | refine G_skip ?_ | refine G_endblk ?_ | refine G_block ?_ | refine G_exit rfl ?_)
  exact G_ret (L' := L) rfl (.tmp rfl .nil) (by repeat first | exact en_keep HML | apply en_drop | apply en_app) ⟨rfl, rfl⟩
theorem rd_sps {w : World} {A : Option Addr} {n : Nat} {ns : List Int} (h : Reads w 3 A n (ints ns)) : ∃ l : List Sp, Rd [old w.hm] A n l := by
  obtain ⟨l, hl⟩ := rd_pts h
  refine ⟨l.map fun p => ⟨p.id, p.x, p.y⟩, ?_⟩
  have e : flat (l.map fun p => (⟨p.id, p.x, p.y⟩ : Sp)) = flat l := by
    clear hl h
    induction l with
    | nil => rfl
    | cons a l ih => rw [List.map_cons, flat_cons, flat_cons, ih]; rfl
  unfold Rd
  rw [e]
  exact hl
theorem planAnswers_walk (x0 x1 x2 x3 x4 x5 x6 x7 x8 x9 : Int) (A B : Option Addr) (n c m d : Nat) (ns ms : List Int) (w : World) (hc : n ≤ c) (hc2 : c ≤ maxLen) (hd : m ≤ d) (hd2 : d ≤ maxLen) (h1 : Reads w 3 A n (ints ns)) (h2 : Reads w 3 B m (ints ms)) :
    Calls Try.prog 4 #[.agg #[.int .i64 x0, .int .i64 x1, .int .i64 x2, .int .i64 x3, .int .i64 x4, .int .i64 x5, .int .i64 x6, .int .i64 x7, .int .i64 x8, .int .i64 x9], .slice A n c, .slice B m d] w fun e w' => e = .returned (.bool true) ∧ Below w.heap.size w w' := by
  obtain ⟨l, hl⟩ := rd_pts h1
  obtain ⟨s, hs⟩ := rd_sps h2
  exact law_of_ctr (planAnswers_ctr ⟨x0, ⟨x1, x2, x3, x4⟩, ⟨x5, x6, x7⟩, x8, x9⟩ A B n c m d l s _ hl hc hc2 hs hd hd2)
end Go.Proofs.Ytcdafmmfcjbodaa
