/- Texts of the law KdBack, one behind the other. -/
import Derived.Test.YtjgdhkilnalejaaKdBackM2
import Derived.Shelf.Sort.Plain
import Derived.Shelf.Slices.In.SortNone
import Derived.Test.YtjgdhkilnalejaaProg
import Derived.Test.YtjgdhkilnalejaaKdBackM1
import Derived.RangeFuncRecord
import Derived.RangeFuncIn
import Derived.RangeFuncLeaves
/- A tree of points by two orders in turn: each, points, find. -/
namespace Go.Proofs.Ytjgdhkilnalejaa
attribute [local irreducible] sat
open Go.RowKit
set_option linter.unusedVariables false
set_option linter.unusedSimpArgs false
set_option maxRecDepth 100000

theorem keach_ctr {α : Type} {fid : FuncId} {c1 c2 : List Value} [CalT Try.prog fid] (V : α → HP) (L : List HP) (step : α → Pt → Bool → Bx → Bool × α) (ok : α → Nat → Prop) (Q : Pt → Prop)
    (o1 : ∀ s n p gn x, ok s (n + 1) → ok (step s p gn x).2 n) (o2 : ∀ s n m, ok s n → m ≤ n → ok s m)
    (hf : ∀ s n b p gn m x lo hi, ok s (n + 1) → Q p → KIn L (.node b p gn m x lo hi) → Ctr Try.prog fid (c1 ++ [Value.pointer (some ⟨b, 0, none⟩)] ++ c2).toArray (V s :: L) fun v L' => v = .bool (step s p gn x).1 ∧ L' = V (step s p gn x).2 :: L) :
    ∀ (T : KT) (s : α) (n : Nat), ok s (T.cnt + n) → (∀ p ∈ T.all, Q p) → KIn L T → Ctr Try.prog 55 #[.pointer T.addr, .func (.func fid) c1.toArray c2.toArray] (V s :: L) fun v L' => v = .tuple #[] ∧ L' = V (T.run step s) :: L
  | .nil, s, n, hok, hQ, hin => by
    refine Ctr_of (fn := Try.f55) (n := 26) Try.func55 rfl rfl rfl ?_
    intro g F
    (repeat first | refine G_seq ?_ | refine G_skip ?_ | refine G_endblk ?_ | refine G_block ?_ | refine G_exit rfl ?_)
    refine G_region ?_
    refine GO_q rfl rfl (ev_move rfl) ?_
    (first | refine GO_q rfl rfl (ev_eqlNil rfl rfl) ?_ | refine GO_q rfl rfl (ev_eqlPtr rfl rfl) ?_)
    refine GO_q rfl rfl (ev_move rfl) ?_
    refine GO_no rfl rfl rfl rfl ?_
    refine GO_no rfl rfl rfl rfl ?_
    refine GO_no rfl rfl rfl rfl ?_
    refine GO_no rfl rfl rfl rfl ?_
    refine GO_q rfl rfl (ev_pick_t rfl rfl rfl) ?_
    refine GO_nil ?_
    (repeat first | refine G_seq ?_ | refine G_skip ?_ | refine G_endblk ?_ | refine G_block ?_ | refine G_exit rfl ?_)
    refine G_cond_t rfl rfl ?_
    (repeat first | refine G_seq ?_ | refine G_skip ?_ | refine G_endblk ?_ | refine G_block ?_ | refine G_exit rfl ?_)
    exact G_ret (rs := []) (vs := []) (L' := V s :: L) rfl .nil (by (repeat first | exact fun _ s => s | apply en_keep | apply en_drop | apply en_app) <;> fail) ⟨rfl, rfl⟩
  | .node b p gn m x lo hi, s, n, hok, hQ, hin => by
    obtain ⟨q1, q2, q3, q4, q5, q6, q7, q8, q9, q10⟩ := hin.f
    simp only [KT.cnt] at hok
    have k1 := o1 s (lo.cnt + hi.cnt + n) p gn x (by have e : lo.cnt + hi.cnt + n + 1 = lo.cnt + hi.cnt + 1 + n := by omega
                                                     rw [e]; exact hok)
    have hf1 := hf s (lo.cnt + hi.cnt + n) b p gn m x lo hi (by have e : lo.cnt + hi.cnt + n + 1 = lo.cnt + hi.cnt + 1 + n := by omega
                                                                rw [e]; exact hok) (hQ p (by simp [KT.all])) hin
    have ih1 := keach_ctr V L step ok Q o1 o2 hf lo (step s p gn x).2 (hi.cnt + n) (by rw [← Nat.add_assoc]; exact k1) (fun r hr => hQ r (by simp [KT.all, hr])) q9
    have k2 := lo.run_ok o1 o2 (step s p gn x).2 (hi.cnt + n) (by rw [← Nat.add_assoc]; exact k1)
    have ih2 := keach_ctr V L step ok Q o1 o2 hf hi (lo.run step (step s p gn x).2) n k2 (fun r hr => hQ r (by simp [KT.all, hr])) q10
    have er : KT.run step s (.node b p gn m x lo hi) = if (step s p gn x).1 then hi.run step (lo.run step (step s p gn x).2) else (step s p gn x).2 := rfl
    rw [er]
    generalize (step s p gn x).1 = d at *
    generalize (step s p gn x).2 = s2 at *
    refine Ctr_of (fn := Try.f55) (n := 26) Try.func55 rfl rfl rfl ?_
    intro g F
    (repeat first | refine G_seq ?_ | refine G_skip ?_ | refine G_endblk ?_ | refine G_block ?_ | refine G_exit rfl ?_)
    refine G_region ?_
    refine GO_q rfl rfl (ev_move rfl) ?_
    (first | refine GO_q rfl rfl (ev_eqlNil rfl rfl) ?_ | refine GO_q rfl rfl (ev_eqlPtr rfl rfl) ?_)
    refine GO_q rfl rfl (ev_move rfl) ?_
    refine GO_yes rfl rfl rfl rfl ?_
    refine GO_q rfl rfl (ev_move rfl) ?_
    refine GO_yes rfl rfl rfl rfl ?_
    refine GO_q rfl rfl (ev_move rfl) ?_
    refine GO_yes rfl rfl rfl rfl ?_
    refine GO_eff rfl rfl (eff_callv rfl rfl (Ctr.frame [F] hf1 (fun _ s => s))) ?_; rintro _ _ ⟨M2, ⟨rfl, rfl⟩, rfl⟩
    refine GO_yes rfl rfl rfl rfl ?_
    refine GO_q rfl rfl (ev_not rfl) ?_
    refine GO_q rfl rfl (ev_pick_f rfl rfl rfl) ?_
    refine GO_nil ?_
    cases d with
    | false =>
      (repeat first | refine G_seq ?_ | refine G_skip ?_ | refine G_endblk ?_ | refine G_block ?_ | refine G_exit rfl ?_)
      refine G_cond_t rfl rfl ?_
      (repeat first | refine G_seq ?_ | refine G_skip ?_ | refine G_endblk ?_ | refine G_block ?_ | refine G_exit rfl ?_)
      exact G_ret (rs := []) (vs := []) (L' := V s2 :: L) rfl .nil (by (repeat first | exact fun _ s => s | apply en_keep | apply en_drop | apply en_app) <;> fail) ⟨rfl, rfl⟩
    | true =>
      (repeat first | refine G_seq ?_ | refine G_skip ?_ | refine G_endblk ?_ | refine G_block ?_ | refine G_exit rfl ?_)
      refine G_cond_f rfl rfl ?_
      (repeat first | refine G_seq ?_ | refine G_skip ?_ | refine G_endblk ?_ | refine G_block ?_ | refine G_exit rfl ?_)
      refine G_region ?_
      refine GO_q rfl rfl (ev_move rfl) ?_
      (first | refine GO_q rfl rfl (ev_nilCheck rfl) ?_ | refine GO_q rfl rfl (ev_nilCheckF (by simp) rfl) ?_)
      refine GO_q rfl rfl (ev_fieldAddr rfl) ?_
      refine GO_q rfl rfl (ev_indexAddrA rfl rfl (by first | omega | (simp; done) | (simp; omega)) (by first | omega | (simp; done) | (simp; omega))) ?_
      refine GO_q rfl rfl (ev_load rfl (by repeat' first | exact Ld.blk rfl | assumption | apply Ld.skip | apply Ld.app)) ?_
      refine GO_q rfl rfl (ev_move rfl) ?_
      refine GO_eff rfl rfl (eff_call rfl (Ctr.frame [F] ih1 (fun _ s => s))) ?_; rintro _ _ ⟨M2, ⟨rfl, rfl⟩, rfl⟩
      refine GO_nil ?_
      (repeat first | refine G_seq ?_ | refine G_skip ?_ | refine G_endblk ?_ | refine G_block ?_ | refine G_exit rfl ?_)
      refine G_region ?_
      refine GO_q rfl rfl (ev_move rfl) ?_
      (first | refine GO_q rfl rfl (ev_nilCheck rfl) ?_ | refine GO_q rfl rfl (ev_nilCheckF (by simp) rfl) ?_)
      refine GO_q rfl rfl (ev_fieldAddr rfl) ?_
      refine GO_q rfl rfl (ev_indexAddrA rfl rfl (by first | omega | (simp; done) | (simp; omega)) (by first | omega | (simp; done) | (simp; omega))) ?_
      refine GO_q rfl rfl (ev_load rfl (by repeat' first | exact Ld.blk rfl | assumption | apply Ld.skip | apply Ld.app)) ?_
      refine GO_q rfl rfl (ev_move rfl) ?_
      refine GO_eff rfl rfl (eff_call rfl (Ctr.frame [F] ih2 (fun _ s => s))) ?_; rintro _ _ ⟨M2, ⟨rfl, rfl⟩, rfl⟩
      refine GO_nil ?_
      (repeat first | refine G_seq ?_ | refine G_skip ?_ | refine G_endblk ?_ | refine G_block ?_ | refine G_exit rfl ?_)
      exact G_end (rs := []) (vs := []) (L' := V (hi.run step (lo.run step s2)) :: L) rfl .nil (by (repeat first | exact fun _ s => s | apply en_keep | apply en_drop | apply en_app) <;> fail) ⟨rfl, rfl⟩
/-- Points that are gathered. -/
def ptV (vv : Nat) (l : List Pt) : HP := fun h => ∃ a c, ((0 < l.length → ∃ b, a = some ⟨b, 0, none⟩) ∧ l.length ≤ c ∧ c ≤ maxLen) ∧ sat [own 27 3 a l.length c (flat l), blk vv 40 [.slice a l.length c]] h
theorem G_ptV {P : Program} {B : Exit → Act → World → Prop} {gl : Glob} {n : Nat} {K : List Kt} {σ : Env} {L : List HP} {vv : Nat} {l : List Pt} (h : ∀ a c, ((0 < l.length → ∃ b, a = some ⟨b, 0, none⟩) ∧ l.length ≤ c ∧ c ≤ maxLen) → G P B gl n K σ (own 27 3 a l.length c (flat l) :: blk vv 40 [.slice a l.length c] :: L)) : G P B gl n K σ (ptV vv l :: L) :=
  G_open (ι := Option Addr × Nat) (F := fun i => (0 < l.length → ∃ b, i.1 = some ⟨b, 0, none⟩) ∧ l.length ≤ i.2 ∧ i.2 ≤ maxLen) (N := fun i => [own 27 3 i.1 l.length i.2 (flat l), blk vv 40 [.slice i.1 l.length i.2]]) (fun _ ⟨a, c, hh, hs⟩ => ⟨(a, c), hh, hs⟩) fun i hi => h i.1 i.2 hi
theorem en_ptV {L M : List HP} {vv n : Nat} {l : List Pt} {vs : List Value} {a : Option Addr} {c : Nat} (hn : l.length = n) (hv : flat l = vs) (f1 : 0 < n → ∃ b, a = some ⟨b, 0, none⟩) (f2 : n ≤ c) (f3 : c ≤ maxLen) (f : ∀ h, sat L h → sat (own 27 3 a n c vs :: blk vv 40 [.slice a n c] :: M) h) : ∀ h, sat L h → sat (ptV vv l :: M) h := fun h s => by
  subst hn hv
  exact sat.fold (N := [own 27 3 a l.length c (flat l), blk vv 40 [.slice a l.length c]]) (fun _ hh => ⟨a, c, ⟨f1, f2, f3⟩, hh⟩) (f h s)
def ptOk (l : List Pt) (n : Nat) : Prop := l.length + n ≤ 500000
theorem kpts_ctr (vv : Nat) (l : List Pt) (n b : Nat) (p : Pt) (gn : Bool) (m : Nat) (x : Bx) (lo hi : KT) (L : List HP) (hok : ptOk l (n + 1)) (hin : KIn L (.node b p gn m x lo hi)) :
    Ctr Try.prog 57 #[.pointer (some ⟨b, 0, none⟩), .pointer (some ⟨vv, 0, none⟩)] (ptV vv l :: L) fun v L' => v = .bool (ptStep l p gn x).1 ∧ L' = ptV vv (ptStep l p gn x).2 :: L := by
  unfold ptOk at hok
  obtain ⟨q1, q2, q3, q4, q5, q6, q7, q8, q9, q10⟩ := hin.f
  refine Ctr_of (fn := Try.f57) (n := 16) Try.func57 rfl rfl rfl ?_
  intro g F
  (repeat first | refine G_seq ?_ | refine G_skip ?_ | refine G_endblk ?_ | refine G_block ?_ | refine G_exit rfl ?_)
  refine G_region ?_
  refine GO_q rfl rfl (ev_assign rfl) ?_
  refine GO_nil ?_
  refine G_heap (L' := ptV vv l :: F :: L) (by (repeat first | exact en_refl | (apply en_blk; focus ((repeat' first | exact Pick.here | apply Pick.skip | apply Pick.app); done); focus rfl) | (apply en_own; focus ((repeat' first | exact Pick.here | apply Pick.skip | apply Pick.app); done); focus rfl) | (apply en_pick; focus ((repeat' first | exact Pick.here | apply Pick.skip | apply Pick.app); done)) | apply en_drop | apply en_app) <;> fail) ?_
  refine G_ptV ?_
  rintro a c ⟨f1, f2, f3⟩
  (repeat first | refine G_seq ?_ | refine G_skip ?_ | refine G_endblk ?_ | refine G_block ?_ | refine G_exit rfl ?_)
  refine G_region ?_
  refine GO_q rfl rfl (ev_move rfl) ?_
  (first | refine GO_q rfl rfl (ev_nilCheck rfl) ?_ | refine GO_q rfl rfl (ev_nilCheckF (by simp) rfl) ?_)
  refine GO_q rfl rfl (ev_fieldAddr rfl) ?_
  refine GO_q rfl rfl (ev_load rfl (by repeat' first | exact Ld.blk rfl | assumption | apply Ld.skip | apply Ld.app)) ?_
  refine GO_q rfl rfl (ev_not rfl) ?_
  refine GO_nil ?_
  cases gn with
  | true =>
    (repeat first | refine G_seq ?_ | refine G_skip ?_ | refine G_endblk ?_ | refine G_block ?_ | refine G_exit rfl ?_)
    refine G_cond_f rfl rfl ?_
    (repeat first | refine G_seq ?_ | refine G_skip ?_ | refine G_endblk ?_ | refine G_block ?_ | refine G_exit rfl ?_)
    refine G_region ?_
    refine GO_q rfl rfl (ev_assign rfl) ?_
    refine GO_nil ?_
    (repeat first | refine G_seq ?_ | refine G_skip ?_ | refine G_endblk ?_ | refine G_block ?_ | refine G_exit rfl ?_)
    exact G_ret (L' := ptV vv l :: L) rfl (.tmp rfl .nil) (by (repeat first | exact en_refl | refine en_ptV rfl rfl f1 f2 f3 ?_ | (apply en_blk; focus ((repeat' first | exact Pick.here | apply Pick.skip | apply Pick.app); done); focus rfl) | (apply en_own; focus ((repeat' first | exact Pick.here | apply Pick.skip | apply Pick.app); done); focus rfl) | (apply en_pick; focus ((repeat' first | exact Pick.here | apply Pick.skip | apply Pick.app); done)) | apply en_drop | apply en_app) <;> fail) ⟨rfl, rfl⟩
  | false =>
    (repeat first | refine G_seq ?_ | refine G_skip ?_ | refine G_endblk ?_ | refine G_block ?_ | refine G_exit rfl ?_)
    refine G_cond_t rfl rfl ?_
    (repeat first | refine G_seq ?_ | refine G_skip ?_ | refine G_endblk ?_ | refine G_block ?_ | refine G_exit rfl ?_)
    refine G_draw (.q 0 (.q 1 (.q 2 (.q 3 (.q 4 (.e 5 (.e 6 (.e 7 .nil)))))))) (by kernel_rfl) (by kernel_rfl) ?_
    refine RS_q retB_noPanic rfl rfl rfl rfl (ev_load rfl (by repeat' first | exact Ld.blk rfl | assumption | apply Ld.skip | apply Ld.app)) ?_
    refine RS_m retB_noPanic rfl rfl rfl rfl (ev_move rfl) ?_
    (first | refine RS_m retB_noPanic rfl rfl rfl rfl (ev_nilCheck rfl) ?_ | refine RS_m retB_noPanic rfl rfl rfl rfl (ev_nilCheckF (by simp) rfl) ?_)
    refine RS_m retB_noPanic rfl rfl rfl rfl (ev_fieldAddr rfl) ?_
    refine RS_q retB_noPanic rfl rfl rfl rfl (ev_loadN rfl (by repeat' first | exact LdN.blk rfl | assumption | apply LdN.skip | apply LdN.app)) ?_
    refine RS_e (RE_eff rfl rfl rfl (eff_buildSlice1 (by rfl) rfl rfl) ?_); rintro _ _ ⟨b14, rfl, rfl⟩; refine ⟨_, fun _ s => s, (by first | ((repeat first | exact fun _ s => s | apply en_keep | apply en_drop | apply en_app) <;> fail) | ((repeat first | exact en_refl | (apply en_blk; focus ((repeat' first | exact Pick.here | apply Pick.skip | apply Pick.app); done); focus rfl) | (apply en_own; focus ((repeat' first | exact Pick.here | apply Pick.skip | apply Pick.app); done); focus rfl) | (apply en_pick; focus ((repeat' first | exact Pick.here | apply Pick.skip | apply Pick.app); done)) | apply en_drop | apply en_app) <;> fail)), ?_⟩
    refine RS_e (RE_cmp (by kernel_rfl) rfl rfl rfl (eff_append rfl rfl (by repeat' first | exact Pick.here | apply Pick.skip) (by repeat' first | exact Rc.blk rfl | assumption | apply Rc.skip) (one_all rfl) (by rfl) (by decide) (by first | omega | (simp; done) | (simp; omega)) (by first | omega | (simp; done) | (simp; omega))) ?_); rintro _ _ ⟨A15, c15, rfl, hc15, hm15, hn15, rfl⟩
    refine RS_e (RE_last (by kernel_rfl) rfl rfl rfl (eff_store rfl rfl rfl (by repeat' first | exact Upd.here rfl | apply Upd.skip | apply Upd.app)) ?_); rintro _ _ ⟨rfl, rfl⟩
    (repeat first | refine G_seq ?_ | refine G_skip ?_ | refine G_endblk ?_ | refine G_block ?_ | refine G_exit rfl ?_)
    refine G_region ?_
    refine GO_q rfl rfl (ev_assign rfl) ?_
    refine GO_nil ?_
    (repeat first | refine G_seq ?_ | refine G_skip ?_ | refine G_endblk ?_ | refine G_block ?_ | refine G_exit rfl ?_)
    exact G_ret (L' := ptV vv (l ++ [p]) :: L) rfl (.tmp rfl .nil) (by (repeat first | exact en_refl | refine en_ptV (a := A15) (c := c15) (n := l.length + 1) (vs := flat l ++ flat [p]) (by simp) (by simp [flat]) hn15 hc15 hm15 ?_ | (apply en_blk; focus ((repeat' first | exact Pick.here | apply Pick.skip | apply Pick.app); done); focus rfl) | (apply en_own; focus ((repeat' first | exact Pick.here | apply Pick.skip | apply Pick.app); done); focus rfl) | (apply en_pick; focus ((repeat' first | exact Pick.here | apply Pick.skip | apply Pick.app); done)) | apply en_drop | apply en_app) <;> fail) ⟨rfl, rfl⟩
theorem kpoints_ctr (T : KT) (L : List HP) (hin : KIn L T) (hn : T.cnt ≤ 400000) :
    Ctr Try.prog 36 #[.pointer T.addr] L fun v L' => ∃ a c, v = .slice a T.pts.length c ∧ ((0 < T.pts.length → ∃ b, a = some ⟨b, 0, none⟩) ∧ T.pts.length ≤ c ∧ c ≤ maxLen) ∧ L' = own 27 3 a T.pts.length c (flat T.pts) :: L := by
  have hrun := T.run_pts []
  rw [List.nil_append] at hrun
  refine Ctr_of (fn := Try.f36) (n := 8) Try.func36 rfl rfl rfl ?_
  intro g F
  (repeat first | refine G_seq ?_ | refine G_skip ?_ | refine G_endblk ?_ | refine G_block ?_ | refine G_exit rfl ?_)
  refine G_region ?_
  refine GO_q rfl rfl (ev_assign rfl) ?_
  refine GO_nil ?_
  (repeat first | refine G_seq ?_ | refine G_skip ?_ | refine G_endblk ?_ | refine G_block ?_ | refine G_exit rfl ?_)
  refine G_region ?_
  refine GO_eff rfl rfl eff_alloc ?_; rintro _ _ ⟨b3, rfl, rfl⟩
  refine GO_nil ?_
  refine G_heap (own.nil_ 27 3) ?_
  refine G_heap (L' := ptV b3 [] :: F :: L) (by (repeat first | exact en_refl | refine en_ptV (a := none) (c := 0) (n := 0) (vs := []) rfl rfl (fun h => absurd h (Nat.lt_irrefl 0)) (Nat.le_refl 0) (Nat.zero_le _) ?_ | (apply en_blk; focus ((repeat' first | exact Pick.here | apply Pick.skip | apply Pick.app); done); focus rfl) | (apply en_own; focus ((repeat' first | exact Pick.here | apply Pick.skip | apply Pick.app); done); focus rfl) | (apply en_pick; focus ((repeat' first | exact Pick.here | apply Pick.skip | apply Pick.app); done)) | apply en_drop | apply en_app) <;> fail) ?_
  have he := keach_ctr (fid := 57) (c1 := []) (c2 := [.pointer (some ⟨b3, 0, none⟩)]) (ptV b3) (F :: L) ptStep ptOk (fun _ => True) (fun s n p gn x h => by unfold ptOk ptStep at *; cases gn <;> simp <;> omega) (fun s n m h h' => by unfold ptOk at *; omega)
    (fun s n b p gn m x lo hi h _ hi2 => kpts_ctr b3 s n b p gn m x lo hi (F :: L) h hi2) T [] 0 (by unfold ptOk; simp; omega) (fun _ _ => trivial) hin.skip
  rw [hrun] at he
  (repeat first | refine G_seq ?_ | refine G_skip ?_ | refine G_endblk ?_ | refine G_block ?_ | refine G_exit rfl ?_)
  refine G_region ?_
  refine GO_q rfl rfl (ev_move rfl) ?_
  refine GO_q rfl rfl (ev_makeFunc rfl rfl) ?_
  refine GO_eff rfl rfl (eff_call rfl (he)) ?_; rintro _ _ ⟨rfl, rfl⟩
  refine GO_nil ?_
  refine G_ptV ?_
  rintro a c ⟨f1, f2, f3⟩
  (repeat first | refine G_seq ?_ | refine G_skip ?_ | refine G_endblk ?_ | refine G_block ?_ | refine G_exit rfl ?_)
  refine G_region ?_
  refine GO_q rfl rfl (ev_load rfl (by repeat' first | exact Ld.blk rfl | assumption | apply Ld.skip | apply Ld.app)) ?_
  refine GO_q rfl rfl (ev_assign rfl) ?_
  refine GO_nil ?_
  (repeat first | refine G_seq ?_ | refine G_skip ?_ | refine G_endblk ?_ | refine G_block ?_ | refine G_exit rfl ?_)
  exact G_ret (L' := own 27 3 a T.pts.length c (flat T.pts) :: L) rfl (.tmp rfl .nil) (by (repeat first | exact en_refl | (apply en_blk; focus ((repeat' first | exact Pick.here | apply Pick.skip | apply Pick.app); done); focus rfl) | (apply en_own; focus ((repeat' first | exact Pick.here | apply Pick.skip | apply Pick.app); done); focus rfl) | (apply en_pick; focus ((repeat' first | exact Pick.here | apply Pick.skip | apply Pick.app); done)) | apply en_drop | apply en_app) <;> fail) ⟨a, c, rfl, ⟨f1, f2, f3⟩, rfl⟩
end Go.Proofs.Ytjgdhkilnalejaa
/- A tree of points by two orders in turn: find, has. -/
namespace Go.Proofs.Ytjgdhkilnalejaa
attribute [local irreducible] sat
open Go.RowKit
set_option linter.unusedVariables false
set_option linter.unusedSimpArgs false
set_option maxRecDepth 100000

theorem KIn.fnd {L : List HP} {q : Pt} : ∀ {T : KT} {lv : Nat}, KIn L T → KIn L (T.fnd q lv)
  | .nil, _, _ => trivial
  | .node b p gn m x lo hi, lv, h => by
    unfold KT.fnd
    split
    · exact h
    · split
      · exact KIn.fnd h.2.1
      · exact KIn.fnd h.2.2
theorem KT.fnd_lo {b : Nat} {p q : Pt} {gn : Bool} {m : Nat} {x : Bx} {lo hi : KT} {lv : Nat} (h1 : p ≠ q) (h2 : ahd lv q p = true) : KT.fnd q lv (.node b p gn m x lo hi) = lo.fnd q (lv + 1) := by
  conv => lhs; unfold KT.fnd
  rw [if_neg h1, if_pos h2]
theorem KT.fnd_hi {b : Nat} {p q : Pt} {gn : Bool} {m : Nat} {x : Bx} {lo hi : KT} {lv : Nat} (h1 : p ≠ q) (h2 : ahd lv q p = false) : KT.fnd q lv (.node b p gn m x lo hi) = hi.fnd q (lv + 1) := by
  conv => lhs; unfold KT.fnd
  rw [if_neg h1, if_neg (by rw [h2]; simp)]
theorem kfind_ctr (t : Nat) (T0 : KT) (q : Pt) (L : List HP) (h : Ld L ⟨t, 0 + 0, none⟩ (.pointer T0.addr)) (hin : KIn L T0) (hd : T0.depth ≤ 500000) :
    Ctr Try.prog 42 #[.pointer (some ⟨t, 0, none⟩), q.v] L fun v L' => v = .pointer (T0.fnd q 0).addr ∧ L' = L := by
  refine Ctr_of (fn := Try.f42) (n := 33) Try.func42 rfl rfl rfl ?_
  intro g F
  (repeat first | refine G_seq ?_ | refine G_skip ?_ | refine G_endblk ?_ | refine G_block ?_ | refine G_exit rfl ?_)
  refine G_region ?_
  refine GO_eff rfl rfl (eff_box rfl) ?_; rintro _ _ ⟨b3, rfl, rfl⟩
  refine GO_q rfl rfl (ev_assign rfl) ?_
  refine GO_nil ?_
  (repeat first | refine G_seq ?_ | refine G_skip ?_ | refine G_endblk ?_ | refine G_block ?_ | refine G_exit rfl ?_)
  refine G_region ?_
  refine GO_q rfl rfl (ev_move rfl) ?_
  (first | refine GO_q rfl rfl (ev_nilCheck rfl) ?_ | refine GO_q rfl rfl (ev_nilCheckF (by simp) rfl) ?_)
  refine GO_q rfl rfl (ev_fieldAddr rfl) ?_
  refine GO_q rfl rfl (ev_load rfl (by repeat' first | exact Ld.blk rfl | assumption | apply Ld.skip | apply Ld.app)) ?_
  refine GO_q rfl rfl (ev_assign rfl) ?_
  refine GO_nil ?_
  (repeat first | refine G_seq ?_ | refine G_skip ?_ | refine G_endblk ?_ | refine G_block ?_ | refine G_exit rfl ?_)
  refine G_region ?_
  refine GO_q rfl rfl (ev_assign rfl) ?_
  refine GO_nil ?_
  (repeat first | refine G_seq ?_ | refine G_skip ?_ | refine G_endblk ?_ | refine G_block ?_ | refine G_exit rfl ?_)
  refine G_loop (ι := KT × Nat) (fun i => [(3, .pointer (some ⟨b3, 0, none⟩)), (5, .pointer i.1.addr), (6, .int .i64 (i.2 : Nat))]) (fun _ => blk b3 27 [.int .i64 q.id, .int .i64 q.x, .int .i64 q.y] :: F :: L) (fun i => i.1.fnd q i.2 = T0.fnd q 0 ∧ KIn L i.1 ∧ i.2 + i.1.depth ≤ 500000) (fun i => i.1.depth) (T0, 0) ⟨rfl, hin, by simpa using hd⟩ ⟨rfl, rfl, rfl, trivial⟩ (by (repeat first | exact en_refl | (apply en_blk; focus ((repeat' first | exact Pick.here | apply Pick.skip | apply Pick.app); done); focus rfl) | (apply en_own; focus ((repeat' first | exact Pick.here | apply Pick.skip | apply Pick.app); done); focus rfl) | (apply en_pick; focus ((repeat' first | exact Pick.here | apply Pick.skip | apply Pick.app); done)) | apply en_drop | apply en_app) <;> fail) ?_
  rintro ⟨T, lv⟩ ⟨e1, e2, e3⟩
  cases T with
  | nil =>
    rw [← e1]
    (repeat first | refine G_seq ?_ | refine G_skip ?_ | refine G_endblk ?_ | refine G_block ?_ | refine G_exit rfl ?_)
    refine G_draw (.q 0 (.q 1 (.q 2 (.q 3 (.q 4 (.q 5 (.q 6 (.q 7 (.q 8 (.q 9 .nil)))))))))) (by kernel_rfl) (by kernel_rfl) ?_
    refine RS_m retB_noPanic rfl rfl rfl rfl (ev_move rfl) ?_
    (first | refine RS_m retB_noPanic rfl rfl rfl rfl (ev_neqNil rfl rfl) ?_ | refine RS_m retB_noPanic rfl rfl rfl rfl (ev_neqPtr rfl rfl) ?_)
    refine RS_m retB_noPanic rfl rfl rfl rfl (ev_move rfl) ?_
    refine RS_q_no retB_noPanic rfl rfl rfl ⟨_, rfl, rfl⟩ rfl ?_
    refine RS_q_no retB_noPanic rfl rfl rfl ⟨_, rfl, rfl⟩ rfl ?_
    refine RS_q_no retB_noPanic rfl rfl rfl ⟨_, rfl, rfl⟩ rfl ?_
    refine RS_q_no retB_noPanic rfl rfl rfl ⟨_, rfl, rfl⟩ rfl ?_
    refine RS_q_no retB_noPanic rfl rfl rfl ⟨_, rfl, rfl⟩ rfl ?_
    refine RS_q_no retB_noPanic rfl rfl rfl ⟨_, rfl, rfl⟩ rfl ?_
    refine RS_m retB_noPanic rfl rfl rfl rfl (ev_pick_f rfl rfl rfl) ?_
    refine RS_nil ?_
    (repeat first | refine G_seq ?_ | refine G_skip ?_ | refine G_endblk ?_ | refine G_block ?_ | refine G_exit rfl ?_)
    refine G_cond_f rfl rfl ?_
    (repeat first | refine G_seq ?_ | refine G_skip ?_ | refine G_endblk ?_ | refine G_block ?_ | refine G_exit rfl ?_)
    refine G_region ?_
    refine GO_q rfl rfl (ev_move rfl) ?_
    refine GO_q rfl rfl (ev_assign rfl) ?_
    refine GO_nil ?_
    (repeat first | refine G_seq ?_ | refine G_skip ?_ | refine G_endblk ?_ | refine G_block ?_ | refine G_exit rfl ?_)
    refine G_ret rfl (.tmp rfl .nil) (by (repeat first | exact fun _ s => s | apply en_keep | apply en_drop | apply en_app) <;> fail) ⟨rfl, rfl⟩
  | node b p gn m x lo hi =>
    obtain ⟨q1, q2, q3, q4, q5, q6, q7, q8, q9, q10⟩ := e2.f
    simp only [KT.depth] at e3
    (repeat first | refine G_seq ?_ | refine G_skip ?_ | refine G_endblk ?_ | refine G_block ?_ | refine G_exit rfl ?_)
    refine G_draw (.q 0 (.q 1 (.q 2 (.q 3 (.q 4 (.q 5 (.q 6 (.q 7 (.q 8 (.q 9 .nil)))))))))) (by kernel_rfl) (by kernel_rfl) ?_
    refine RS_m retB_noPanic rfl rfl rfl rfl (ev_move rfl) ?_
    (first | refine RS_m retB_noPanic rfl rfl rfl rfl (ev_neqNil rfl rfl) ?_ | refine RS_m retB_noPanic rfl rfl rfl rfl (ev_neqPtr rfl rfl) ?_)
    refine RS_m retB_noPanic rfl rfl rfl rfl (ev_move rfl) ?_
    refine RS_m_yes retB_noPanic rfl rfl rfl rfl ⟨_, rfl, rfl⟩ rfl (ev_move rfl) ?_
    (first | refine RS_m_yes retB_noPanic rfl rfl rfl rfl ⟨_, rfl, rfl⟩ rfl (ev_nilCheck rfl) ?_ | refine RS_m_yes retB_noPanic rfl rfl rfl rfl ⟨_, rfl, rfl⟩ rfl (ev_nilCheckF (by simp) rfl) ?_)
    refine RS_m_yes retB_noPanic rfl rfl rfl rfl ⟨_, rfl, rfl⟩ rfl (ev_fieldAddr rfl) ?_
    refine RS_q_yes retB_noPanic rfl rfl rfl rfl ⟨_, rfl, rfl⟩ rfl (ev_loadN rfl (by repeat' first | exact LdN.blk rfl | assumption | apply LdN.skip | apply LdN.app)) ?_
    refine RS_q_yes retB_noPanic rfl rfl rfl rfl ⟨_, rfl, rfl⟩ rfl (ev_loadN rfl (by repeat' first | exact LdN.blk rfl | assumption | apply LdN.skip | apply LdN.app)) ?_
    refine RS_m_yes retB_noPanic rfl rfl rfl rfl ⟨_, rfl, rfl⟩ rfl (ev_neqS rfl rfl rfl rfl rfl rfl) ?_
    refine RS_m retB_noPanic rfl rfl rfl rfl (ev_pick_t rfl rfl rfl) ?_
    refine RS_nil ?_
    all_goals
      (repeat first | refine G_seq ?_ | refine G_skip ?_ | refine G_endblk ?_ | refine G_block ?_ | refine G_exit rfl ?_)
      refine G_cond rfl (fun h1 => ?_) (fun h1 => ?_)
      · have hne : p ≠ q := fun e => h1 (by rw [e])
        have hs := side_ctr b p q lv
        cases hq : ahd lv q p with
        | true =>
          rw [hq] at hs
          (repeat first | refine G_seq ?_ | refine G_skip ?_ | refine G_endblk ?_ | refine G_block ?_ | refine G_exit rfl ?_)
          refine G_draw (.q 0 (.q 1 (.q 2 (.q 3 (.q 5 (.q 6 (.e 4 (.q 7 (.q 8 (.q 9 .nil)))))))))) (by kernel_rfl) (by kernel_rfl) ?_
          refine RS_m retB_noPanic rfl rfl rfl rfl (ev_move rfl) ?_
          refine RS_m retB_noPanic rfl rfl rfl rfl (ev_move rfl) ?_
          refine RS_q retB_noPanic rfl rfl rfl rfl (ev_loadN rfl (by repeat' first | exact LdN.blk rfl | assumption | apply LdN.skip | apply LdN.app)) ?_
          refine RS_m retB_noPanic rfl rfl rfl rfl (ev_move rfl) ?_
          (first | refine RS_m retB_noPanic rfl rfl rfl rfl (ev_nilCheck rfl) ?_ | refine RS_m retB_noPanic rfl rfl rfl rfl (ev_nilCheckF (by simp) rfl) ?_)
          refine RS_m retB_noPanic rfl rfl rfl rfl (ev_fieldAddr rfl) ?_
          refine RS_e (RE_eff rfl rfl rfl (eff_call rfl (hs _ q1.skip.skip (by omega))) ?_); rintro _ _ ⟨rfl, rfl⟩; refine ⟨_, fun _ s => s, (by first | ((repeat first | exact fun _ s => s | apply en_keep | apply en_drop | apply en_app) <;> fail) | ((repeat first | exact en_refl | (apply en_blk; focus ((repeat' first | exact Pick.here | apply Pick.skip | apply Pick.app); done); focus rfl) | (apply en_own; focus ((repeat' first | exact Pick.here | apply Pick.skip | apply Pick.app); done); focus rfl) | (apply en_pick; focus ((repeat' first | exact Pick.here | apply Pick.skip | apply Pick.app); done)) | apply en_drop | apply en_app) <;> fail)), ?_⟩
          refine RS_m retB_noPanic rfl rfl rfl rfl (ev_indexAddrA rfl rfl (by first | omega | (simp; done) | (simp; omega)) (by first | omega | (simp; done) | (simp; omega))) ?_
          refine RS_q retB_noPanic rfl rfl rfl rfl (ev_load rfl (by repeat' first | exact Ld.blk rfl | assumption | apply Ld.skip | apply Ld.app)) ?_
          refine RS_m retB_noPanic rfl rfl rfl rfl (ev_assign rfl) ?_
          refine RS_nil ?_
          all_goals
            (repeat first | refine G_seq ?_ | refine G_skip ?_ | refine G_endblk ?_ | refine G_block ?_ | refine G_exit rfl ?_)
            refine G_region ?_
            refine GO_q rfl rfl (ev_move rfl) ?_
            (first | refine GO_q rfl rfl (ev_addN (q := 1) rfl rfl (by first | omega | (simp; done) | (simp; omega))) ?_ | refine GO_q rfl rfl (ev_add rfl rfl (by first | omega | (simp; done) | (simp; omega))) ?_)
            refine GO_q rfl rfl (ev_assign rfl) ?_
            refine GO_nil ?_
            (repeat first | refine G_seq ?_ | refine G_skip ?_ | refine G_endblk ?_ | refine G_block ?_ | refine G_exit rfl ?_)
            refine G_round (lo, lv + 1) ⟨?_, q9, ?_⟩ ?_ ⟨rfl, rfl, rfl, trivial⟩ (by (repeat first | exact en_refl | (apply en_blk; focus ((repeat' first | exact Pick.here | apply Pick.skip | apply Pick.app); done); focus rfl) | (apply en_own; focus ((repeat' first | exact Pick.here | apply Pick.skip | apply Pick.app); done); focus rfl) | (apply en_pick; focus ((repeat' first | exact Pick.here | apply Pick.skip | apply Pick.app); done)) | apply en_drop | apply en_app) <;> fail)
            · rw [← e1]; exact (KT.fnd_lo hne hq).symm
            · show lv + 1 + lo.depth ≤ 500000; omega
            · show lo.depth < max lo.depth hi.depth + 1; omega
        | false =>
          rw [hq] at hs
          (repeat first | refine G_seq ?_ | refine G_skip ?_ | refine G_endblk ?_ | refine G_block ?_ | refine G_exit rfl ?_)
          refine G_draw (.q 0 (.q 1 (.q 2 (.q 3 (.q 5 (.q 6 (.e 4 (.q 7 (.q 8 (.q 9 .nil)))))))))) (by kernel_rfl) (by kernel_rfl) ?_
          refine RS_m retB_noPanic rfl rfl rfl rfl (ev_move rfl) ?_
          refine RS_m retB_noPanic rfl rfl rfl rfl (ev_move rfl) ?_
          refine RS_q retB_noPanic rfl rfl rfl rfl (ev_loadN rfl (by repeat' first | exact LdN.blk rfl | assumption | apply LdN.skip | apply LdN.app)) ?_
          refine RS_m retB_noPanic rfl rfl rfl rfl (ev_move rfl) ?_
          (first | refine RS_m retB_noPanic rfl rfl rfl rfl (ev_nilCheck rfl) ?_ | refine RS_m retB_noPanic rfl rfl rfl rfl (ev_nilCheckF (by simp) rfl) ?_)
          refine RS_m retB_noPanic rfl rfl rfl rfl (ev_fieldAddr rfl) ?_
          refine RS_e (RE_eff rfl rfl rfl (eff_call rfl (hs _ q1.skip.skip (by omega))) ?_); rintro _ _ ⟨rfl, rfl⟩; refine ⟨_, fun _ s => s, (by first | ((repeat first | exact fun _ s => s | apply en_keep | apply en_drop | apply en_app) <;> fail) | ((repeat first | exact en_refl | (apply en_blk; focus ((repeat' first | exact Pick.here | apply Pick.skip | apply Pick.app); done); focus rfl) | (apply en_own; focus ((repeat' first | exact Pick.here | apply Pick.skip | apply Pick.app); done); focus rfl) | (apply en_pick; focus ((repeat' first | exact Pick.here | apply Pick.skip | apply Pick.app); done)) | apply en_drop | apply en_app) <;> fail)), ?_⟩
          refine RS_m retB_noPanic rfl rfl rfl rfl (ev_indexAddrA rfl rfl (by first | omega | (simp; done) | (simp; omega)) (by first | omega | (simp; done) | (simp; omega))) ?_
          refine RS_q retB_noPanic rfl rfl rfl rfl (ev_load rfl (by repeat' first | exact Ld.blk rfl | assumption | apply Ld.skip | apply Ld.app)) ?_
          refine RS_m retB_noPanic rfl rfl rfl rfl (ev_assign rfl) ?_
          refine RS_nil ?_
          all_goals
            (repeat first | refine G_seq ?_ | refine G_skip ?_ | refine G_endblk ?_ | refine G_block ?_ | refine G_exit rfl ?_)
            refine G_region ?_
            refine GO_q rfl rfl (ev_move rfl) ?_
            (first | refine GO_q rfl rfl (ev_addN (q := 1) rfl rfl (by first | omega | (simp; done) | (simp; omega))) ?_ | refine GO_q rfl rfl (ev_add rfl rfl (by first | omega | (simp; done) | (simp; omega))) ?_)
            refine GO_q rfl rfl (ev_assign rfl) ?_
            refine GO_nil ?_
            (repeat first | refine G_seq ?_ | refine G_skip ?_ | refine G_endblk ?_ | refine G_block ?_ | refine G_exit rfl ?_)
            refine G_round (hi, lv + 1) ⟨?_, q10, ?_⟩ ?_ ⟨rfl, rfl, rfl, trivial⟩ (by (repeat first | exact en_refl | (apply en_blk; focus ((repeat' first | exact Pick.here | apply Pick.skip | apply Pick.app); done); focus rfl) | (apply en_own; focus ((repeat' first | exact Pick.here | apply Pick.skip | apply Pick.app); done); focus rfl) | (apply en_pick; focus ((repeat' first | exact Pick.here | apply Pick.skip | apply Pick.app); done)) | apply en_drop | apply en_app) <;> fail)
            · rw [← e1]; exact (KT.fnd_hi hne hq).symm
            · show lv + 1 + hi.depth ≤ 500000; omega
            · show hi.depth < max lo.depth hi.depth + 1; omega
      · have e : p = q := by
          have h2 := Decidable.of_not_not h1
          cases p; cases q
          simp only [List.cons.injEq, and_true] at h2
          simp [h2]
        subst e
        have e4 : T0.fnd p 0 = .node b p gn m x lo hi := by
          rw [← e1]; show KT.fnd p lv (.node b p gn m x lo hi) = _
          unfold KT.fnd; rw [if_pos rfl]
        rw [e4]
        (repeat first | refine G_seq ?_ | refine G_skip ?_ | refine G_endblk ?_ | refine G_block ?_ | refine G_exit rfl ?_)
        refine G_region ?_
        refine GO_q rfl rfl (ev_move rfl) ?_
        refine GO_q rfl rfl (ev_assign rfl) ?_
        refine GO_nil ?_
        (repeat first | refine G_seq ?_ | refine G_skip ?_ | refine G_endblk ?_ | refine G_block ?_ | refine G_exit rfl ?_)
        refine G_ret rfl (.tmp rfl .nil) (by (repeat first | exact fun _ s => s | apply en_keep | apply en_drop | apply en_app) <;> fail) ⟨rfl, rfl⟩
theorem khas_ctr (t : Nat) (T : KT) (q : Pt) (L : List HP) (h : Ld L ⟨t, 0 + 0, none⟩ (.pointer T.addr)) (hin : KIn L T) (hd : T.depth ≤ 500000) (ho : T.ok 0) :
    Ctr Try.prog 30 #[.pointer (some ⟨t, 0, none⟩), q.v] L fun v L' => v = .bool (decide (q ∈ T.pts)) ∧ L' = L := by
  have e : decide (q ∈ T.pts) = (T.fnd q 0).live := by
    have := ho.has q
    cases h : (T.fnd q 0).live
    · rw [h] at this; simpa using this
    · rw [h] at this; simpa using this
  have hf := fun M h1 h2 => kfind_ctr t T q M h1 h2 hd
  have hfi : KIn L (T.fnd q 0) := hin.fnd
  rw [e]
  generalize T.fnd q 0 = D at *
  refine Ctr_of (fn := Try.f30) (n := 20) Try.func30 rfl rfl rfl ?_
  intro g F
  (repeat first | refine G_seq ?_ | refine G_skip ?_ | refine G_endblk ?_ | refine G_block ?_ | refine G_exit rfl ?_)
  refine G_region ?_
  refine GO_eff rfl rfl (eff_box rfl) ?_; rintro _ _ ⟨b3, rfl, rfl⟩
  refine GO_q rfl rfl (ev_assign rfl) ?_
  refine GO_nil ?_
  (repeat first | refine G_seq ?_ | refine G_skip ?_ | refine G_endblk ?_ | refine G_block ?_ | refine G_exit rfl ?_)
  refine G_region ?_
  refine GO_q rfl rfl (ev_move rfl) ?_
  (first | refine GO_q rfl rfl (ev_eqlNil rfl rfl) ?_ | refine GO_q rfl rfl (ev_eqlPtr rfl rfl) ?_)
  refine GO_nil ?_
  (repeat first | refine G_seq ?_ | refine G_skip ?_ | refine G_endblk ?_ | refine G_block ?_ | refine G_exit rfl ?_)
  refine G_cond_f rfl rfl ?_
  (repeat first | refine G_seq ?_ | refine G_skip ?_ | refine G_endblk ?_ | refine G_block ?_ | refine G_exit rfl ?_)
  refine G_region ?_
  refine GO_q rfl rfl (ev_move rfl) ?_
  refine GO_q rfl rfl (ev_loadN rfl (by repeat' first | exact LdN.blk rfl | assumption | apply LdN.skip | apply LdN.app)) ?_
  refine GO_eff rfl rfl (eff_call rfl (hf _ h.skip.skip hin.skip.skip)) ?_; rintro _ _ ⟨rfl, rfl⟩
  refine GO_q rfl rfl (ev_assign rfl) ?_
  refine GO_nil ?_
  cases D with
  | nil =>
    (repeat first | refine G_seq ?_ | refine G_skip ?_ | refine G_endblk ?_ | refine G_block ?_ | refine G_exit rfl ?_)
    refine G_region ?_
    refine GO_q rfl rfl (ev_move rfl) ?_
    (first | refine GO_q rfl rfl (ev_neqNil rfl rfl) ?_ | refine GO_q rfl rfl (ev_neqPtr rfl rfl) ?_)
    refine GO_q rfl rfl (ev_move rfl) ?_
    refine GO_no rfl rfl rfl rfl ?_
    refine GO_no rfl rfl rfl rfl ?_
    refine GO_no rfl rfl rfl rfl ?_
    refine GO_no rfl rfl rfl rfl ?_
    refine GO_no rfl rfl rfl rfl ?_
    refine GO_q rfl rfl (ev_pick_f rfl rfl rfl) ?_
    refine GO_q rfl rfl (ev_assign rfl) ?_
    refine GO_nil ?_
    (repeat first | refine G_seq ?_ | refine G_skip ?_ | refine G_endblk ?_ | refine G_block ?_ | refine G_exit rfl ?_)
    refine G_ret rfl (.tmp rfl .nil) (by (repeat first | exact fun _ s => s | apply en_keep | apply en_drop | apply en_app) <;> fail) ⟨rfl, rfl⟩
  | node b p gn m x lo hi =>
    obtain ⟨q1, q2, q3, q4, q5, q6, q7, q8, q9, q10⟩ := hfi.f
    (repeat first | refine G_seq ?_ | refine G_skip ?_ | refine G_endblk ?_ | refine G_block ?_ | refine G_exit rfl ?_)
    refine G_region ?_
    refine GO_q rfl rfl (ev_move rfl) ?_
    (first | refine GO_q rfl rfl (ev_neqNil rfl rfl) ?_ | refine GO_q rfl rfl (ev_neqPtr rfl rfl) ?_)
    refine GO_q rfl rfl (ev_move rfl) ?_
    refine GO_yes rfl rfl rfl rfl ?_
    refine GO_q rfl rfl (ev_move rfl) ?_
    refine GO_yes rfl rfl rfl rfl ?_
    (first | refine GO_q rfl rfl (ev_nilCheck rfl) ?_ | refine GO_q rfl rfl (ev_nilCheckF (by simp) rfl) ?_)
    refine GO_yes rfl rfl rfl rfl ?_
    refine GO_q rfl rfl (ev_fieldAddr rfl) ?_
    refine GO_yes rfl rfl rfl rfl ?_
    refine GO_q rfl rfl (ev_load rfl (by repeat' first | exact Ld.blk rfl | assumption | apply Ld.skip | apply Ld.app)) ?_
    refine GO_yes rfl rfl rfl rfl ?_
    refine GO_q rfl rfl (ev_not rfl) ?_
    refine GO_q rfl rfl (ev_pick_t rfl rfl rfl) ?_
    refine GO_q rfl rfl (ev_assign rfl) ?_
    refine GO_nil ?_
    (repeat first | refine G_seq ?_ | refine G_skip ?_ | refine G_endblk ?_ | refine G_block ?_ | refine G_exit rfl ?_)
    refine G_ret rfl (.tmp rfl .nil) (by (repeat first | exact fun _ s => s | apply en_keep | apply en_drop | apply en_app) <;> fail) ⟨rfl, rfl⟩
end Go.Proofs.Ytjgdhkilnalejaa
/-
  DERIVED: THE SHELF's CONTRACTS AT THIS DUMP, IN PLAIN WORDS (tools/lay-plain.mjs out of 'TryShelf.lean', which tools/lay-shelf.mjs wrote): THE SAME DECLARATIONS UNDER THE SAME NAMES: 'import', 'namespace', 'open', 'def', 'theorem' AND NOTHING ELSE: no command of the shelf's: FOR A HAND-IN. Each laying: the table of numbers ('.._ren') and one theorem, a field a fact of the dump's own or the kernel's comparison; each contract: ONE APPLICATION.
-/
namespace Go.Proofs
open Go.Shelf
def Try.lays189_ren : Go.Shelf.Ren := ⟨fun | 189 => 61 | 125 => 72 | 257 => 71 | 128 => 89 | 129 => 90 | 294 => 80 | 295 => 81 | 296 => 82 | 297 => 83 | 298 => 84 | 299 => 85 | 216 => 86 | 300 => 87 | 301 => 88 | 328 => 96 | 329 => 97 | 330 => 98 | 331 => 99 | 332 => 100 | 215 => 101 | 343 => 104 | n => n, fun | 28 => 47 | 3 => 3 | 46 => 92 | 0 => 0 | 51 => 105 | 53 => 107 | 4 => 4 | 183 => 97 | 182 => 96 | 131 => 102 | 5 => 5 | 9 => 9 | 218 => 112 | 222 => 116 | 228 => 120 | 229 => 121 | n => n, fun | n => n⟩
theorem Try.lays189 : Go.Proofs.Lays.n189 Try.prog Try.lays189_ren := {
  mixed := by kernel_rfl
  f125 := Try.func72.trans (congrArg some (by kernel_rfl))
  f128 := Try.func89.trans (congrArg some (by kernel_rfl))
  f129 := Try.func90.trans (congrArg some (by kernel_rfl))
  f189 := Try.func61.trans (congrArg some (by kernel_rfl))
  f215 := Try.func101.trans (congrArg some (by kernel_rfl))
  f216 := Try.func86.trans (congrArg some (by kernel_rfl))
  f257 := Try.func71.trans (congrArg some (by kernel_rfl))
  f294 := Try.func80.trans (congrArg some (by kernel_rfl))
  f295 := Try.func81.trans (congrArg some (by kernel_rfl))
  f296 := Try.func82.trans (congrArg some (by kernel_rfl))
  f297 := Try.func83.trans (congrArg some (by kernel_rfl))
  f298 := Try.func84.trans (congrArg some (by kernel_rfl))
  f299 := Try.func85.trans (congrArg some (by kernel_rfl))
  f300 := Try.func87.trans (congrArg some (by kernel_rfl))
  f301 := Try.func88.trans (congrArg some (by kernel_rfl))
  f328 := Try.func96.trans (congrArg some (by kernel_rfl))
  f329 := Try.func97.trans (congrArg some (by kernel_rfl))
  f330 := Try.func98.trans (congrArg some (by kernel_rfl))
  f331 := Try.func99.trans (congrArg some (by kernel_rfl))
  f332 := Try.func100.trans (congrArg some (by kernel_rfl))
  f343 := Try.func104.trans (congrArg some (by kernel_rfl))
  t0 := Try.underlying0
  a0 := Try.isAgg0
  z0 := Try.sizeOf0
  v0 := Try.zeroValue0
  t3 := Try.underlying3
  a3 := Try.isAgg3
  z3 := Try.sizeOf3
  v3 := Try.zeroValue3
  t4 := Try.underlying4
  a4 := Try.isAgg4
  z4 := Try.sizeOf4
  v4 := Try.zeroValue4
  t5 := Try.underlying5
  a5 := Try.isAgg5
  z5 := Try.sizeOf5
  v5 := Try.zeroValue5
  t9 := Try.underlying9
  a9 := Try.isAgg9
  z9 := Try.sizeOf9
  v9 := Try.zeroValue9
  t28 := Try.underlying47
  a28 := Try.isAgg47
  z28 := Try.sizeOf47
  v28 := Try.zeroValue47
  t46 := Try.underlying92
  a46 := Try.isAgg92
  z46 := Try.sizeOf92
  v46 := Try.zeroValue92
  t51 := Try.underlying105
  a51 := Try.isAgg105
  z51 := Try.sizeOf105
  v51 := Try.zeroValue105
  t53 := Try.underlying107
  a53 := Try.isAgg107
  z53 := Try.sizeOf107
  v53 := Try.zeroValue107
  t131 := Try.underlying102
  a131 := Try.isAgg102
  z131 := Try.sizeOf102
  v131 := Try.zeroValue102
  t182 := Try.underlying96
  a182 := Try.isAgg96
  z182 := Try.sizeOf96
  v182 := Try.zeroValue96
  t183 := Try.underlying97
  a183 := Try.isAgg97
  z183 := Try.sizeOf97
  v183 := Try.zeroValue97
  t218 := Try.underlying112
  a218 := Try.isAgg112
  z218 := Try.sizeOf112
  v218 := Try.zeroValue112
  t222 := Try.underlying116
  a222 := Try.isAgg116
  z222 := Try.sizeOf116
  v222 := Try.zeroValue116
  t228 := Try.underlying120
  a228 := Try.isAgg120
  z228 := Try.sizeOf120
  v228 := Try.zeroValue120
  t229 := Try.underlying121
  a229 := Try.isAgg121
  z229 := Try.sizeOf121
  v229 := Try.zeroValue121 }
open Go.Sort Go.RowKit in
theorem Try.slices_Sort_int (blk off cap : Nat) (zs : List Int) (w : World) (hH : Holds (Value.int .i64) w blk off zs.toArray) (hblk : blk < w.heap.size) (hsz : zs.length < 4611686018427387904) :
    Calls Try.prog 61 #[.slice (some ⟨blk, off, none⟩) zs.length cap] w fun e w' =>
      e = .returned (.tuple #[]) ∧ ∃ n os, w' = grow (putRow (Value.int .i64) (Sort.ahead w n) blk off (zs.mergeSort fun x y => decide (x ≤ y)).toArray) os := Any.slices_Sort_int Try.lays189 blk off cap zs w hH hblk hsz
open Go.RowKit Go.Sort in
/-- .. and plain. (LAID: no walk: one application.) -/
theorem Try.slices_Sort_int_none (p : Option Addr) (cap : Nat) (w : World) :
    Calls Try.prog 61 #[.slice p 0 cap] w fun e w' => e = .returned (.tuple #[]) ∧ w' = w := Any.slices_Sort_int_none Try.lays189 p cap w
end Go.Proofs
/- slices.Sort of this program. -/
namespace Go.Proofs.Ytjgdhkilnalejaa
theorem sort_ctr (A : Option Addr) (n c : Nat) (zs : List Int) (L : List HP) (hA : 0 < n → ∃ b, A = some ⟨b, 0, none⟩) (hn : zs.length = n) (hbig : n ≤ 1000000) :
    Ctr Try.prog 61 #[.slice A n c] (own 3 1 A n c (flat zs) :: L) fun v L' => v = .tuple #[] ∧ L' = own 3 1 A n c (flat (srt zs)) :: L := by
  rcases Nat.eq_zero_or_pos n with h0 | h0
  · subst h0
    have hz : zs = [] := List.eq_nil_of_length_eq_zero hn
    subst hz
    intro g F w hw
    refine (Try.slices_Sort_int_none A c w).mono fun e w' ⟨h1, h2⟩ => ?_
    subst h2
    exact ⟨_, _, h1, ⟨rfl, rfl⟩, by rw [show srt [] = [] by simp [srt]]; exact hw⟩
  · intro g F w hw
    obtain ⟨b, rfl⟩ := hA h0
    exact sort_of_shelf b n c zs L hn h0 (fun w hH hb => Try.slices_Sort_int b 0 c zs w hH hb (by omega)) g F w hw
end Go.Proofs.Ytjgdhkilnalejaa
/- A tree of points by two orders in turn: report, and what is told of the whole tree. -/
namespace Go.Proofs.Ytjgdhkilnalejaa
attribute [local irreducible] sat
open Go.RowKit
set_option linter.unusedVariables false
set_option linter.unusedSimpArgs false
set_option maxRecDepth 100000

/-- Ids that are gathered. -/
def idV (vv : Nat) (l : List Int) : HP := fun h => ∃ a c, ((0 < l.length → ∃ b, a = some ⟨b, 0, none⟩) ∧ l.length ≤ c ∧ c ≤ maxLen) ∧ sat [own 3 1 a l.length c (flat l), blk vv 47 [.slice a l.length c]] h
theorem G_idV {P : Program} {B : Exit → Act → World → Prop} {gl : Glob} {n : Nat} {K : List Kt} {σ : Env} {L : List HP} {vv : Nat} {l : List Int} (h : ∀ a c, ((0 < l.length → ∃ b, a = some ⟨b, 0, none⟩) ∧ l.length ≤ c ∧ c ≤ maxLen) → G P B gl n K σ (own 3 1 a l.length c (flat l) :: blk vv 47 [.slice a l.length c] :: L)) : G P B gl n K σ (idV vv l :: L) :=
  G_open (ι := Option Addr × Nat) (F := fun i => (0 < l.length → ∃ b, i.1 = some ⟨b, 0, none⟩) ∧ l.length ≤ i.2 ∧ i.2 ≤ maxLen) (N := fun i => [own 3 1 i.1 l.length i.2 (flat l), blk vv 47 [.slice i.1 l.length i.2]]) (fun _ ⟨a, c, hh, hs⟩ => ⟨(a, c), hh, hs⟩) fun i hi => h i.1 i.2 hi
theorem en_idV {L M : List HP} {vv n : Nat} {l : List Int} {vs : List Value} {a : Option Addr} {c : Nat} (hn : l.length = n) (hv : flat l = vs) (f1 : 0 < n → ∃ b, a = some ⟨b, 0, none⟩) (f2 : n ≤ c) (f3 : c ≤ maxLen) (f : ∀ h, sat L h → sat (own 3 1 a n c vs :: blk vv 47 [.slice a n c] :: M) h) : ∀ h, sat L h → sat (idV vv l :: M) h := fun h s => by
  subst hn hv
  exact sat.fold (N := [own 3 1 a l.length c (flat l), blk vv 47 [.slice a l.length c]]) (fun _ hh => ⟨a, c, ⟨f1, f2, f3⟩, hh⟩) (f h s)
theorem krep_ctr (bb vv : Nat) (w : Bx) (l : List Int) (n b : Nat) (p : Pt) (gn : Bool) (m : Nat) (x : Bx) (lo hi : KT) (L : List HP) (hok : rpOk l (n + 1)) (hin : KIn L (.node b p gn m x lo hi)) (hb : LdN L bb 0 4 [.int .i64 w.x1, .int .i64 w.x2, .int .i64 w.y1, .int .i64 w.y2]) :
    Ctr Try.prog 58 #[.pointer (some ⟨b, 0, none⟩), .pointer (some ⟨bb, 0, none⟩), .pointer (some ⟨vv, 0, none⟩)] (idV vv l :: L) fun v L' => v = .bool (rpStep w l p gn x).1 ∧ L' = idV vv (rpStep w l p gn x).2 :: L := by
  unfold rpOk at hok
  have er : rpStep w l p gn x = (meets w x, if !gn && w.has p.x p.y then l ++ [p.id] else l) := rfl
  rw [er]
  obtain ⟨q1, q2, q3, q4, q5, q6, q7, q8, q9, q10⟩ := hin.f
  have hh := Has_ctr w p
  generalize w.has p.x p.y = r at *
  have hm := Meet_ctr w x
  generalize meets w x = d at *
  refine Ctr_of (fn := Try.f58) (n := 38) Try.func58 rfl rfl rfl ?_
  intro g F
  (repeat first | refine G_seq ?_ | refine G_skip ?_ | refine G_endblk ?_ | refine G_block ?_ | refine G_exit rfl ?_)
  refine G_region ?_
  refine GO_q rfl rfl (ev_assign rfl) ?_
  refine GO_nil ?_
  refine G_heap (L' := idV vv l :: F :: L) (by (repeat first | exact en_refl | (apply en_blk; focus ((repeat' first | exact Pick.here | apply Pick.skip | apply Pick.app); done); focus rfl) | (apply en_own; focus ((repeat' first | exact Pick.here | apply Pick.skip | apply Pick.app); done); focus rfl) | (apply en_pick; focus ((repeat' first | exact Pick.here | apply Pick.skip | apply Pick.app); done)) | apply en_drop | apply en_app) <;> fail) ?_
  refine G_idV ?_
  rintro a c ⟨f1, f2, f3⟩
  cases gn with
  | true =>
    (repeat first | refine G_seq ?_ | refine G_skip ?_ | refine G_endblk ?_ | refine G_block ?_ | refine G_exit rfl ?_)
    refine G_draw (.q 0 (.q 1 (.q 2 (.q 3 (.q 4 (.q 5 (.q 6 (.q 7 (.q 8 (.q 9 (.q 10 (.e 11 (.q 12 .nil))))))))))))) (by kernel_rfl) (by kernel_rfl) ?_
    refine RS_m retB_noPanic rfl rfl rfl rfl (ev_move rfl) ?_
    (first | refine RS_m retB_noPanic rfl rfl rfl rfl (ev_nilCheck rfl) ?_ | refine RS_m retB_noPanic rfl rfl rfl rfl (ev_nilCheckF (by simp) rfl) ?_)
    refine RS_m retB_noPanic rfl rfl rfl rfl (ev_fieldAddr rfl) ?_
    refine RS_q retB_noPanic rfl rfl rfl rfl (ev_load rfl (by repeat' first | exact Ld.blk rfl | assumption | apply Ld.skip | apply Ld.app)) ?_
    refine RS_m retB_noPanic rfl rfl rfl rfl (ev_not rfl) ?_
    refine RS_m retB_noPanic rfl rfl rfl rfl (ev_move rfl) ?_
    refine RS_q_no retB_noPanic rfl rfl rfl ⟨_, rfl, rfl⟩ rfl ?_
    refine RS_q_no retB_noPanic rfl rfl rfl ⟨_, rfl, rfl⟩ rfl ?_
    refine RS_q_no retB_noPanic rfl rfl rfl ⟨_, rfl, rfl⟩ rfl ?_
    refine RS_q_no retB_noPanic rfl rfl rfl ⟨_, rfl, rfl⟩ rfl ?_
    refine RS_q_no retB_noPanic rfl rfl rfl ⟨_, rfl, rfl⟩ rfl ?_
    refine RS_e (RE_no rfl rfl rfl ⟨_, rfl, rfl⟩ rfl ?_)
    refine RS_m retB_noPanic rfl rfl rfl rfl (ev_pick_f rfl rfl rfl) ?_
    refine RS_nil ?_
    all_goals
      (repeat first | refine G_seq ?_ | refine G_skip ?_ | refine G_endblk ?_ | refine G_block ?_ | refine G_exit rfl ?_)
      refine G_cond_f rfl rfl ?_
      (repeat first | refine G_seq ?_ | refine G_skip ?_ | refine G_endblk ?_ | refine G_block ?_ | refine G_exit rfl ?_)
      refine G_draw (.q 0 (.q 1 (.q 2 (.q 3 (.q 4 (.br 5 (.q 6 (.q 7 (.q 8 (.e 9 (.e 10 (.q 11 .nil)))))) 9 (.e 5 (.q 6 (.q 7 (.q 8 (.e 10 (.q 11 .nil)))))))))))) (by kernel_rfl) (by kernel_rfl) ?_
      refine RS_q retB_noPanic rfl rfl rfl rfl (ev_loadN rfl (by repeat' first | exact LdN.blk rfl | assumption | apply LdN.skip | apply LdN.app)) ?_
      refine RS_m retB_noPanic rfl rfl rfl rfl (ev_move rfl) ?_
      (first | refine RS_m retB_noPanic rfl rfl rfl rfl (ev_nilCheck rfl) ?_ | refine RS_m retB_noPanic rfl rfl rfl rfl (ev_nilCheckF (by simp) rfl) ?_)
      refine RS_m retB_noPanic rfl rfl rfl rfl (ev_fieldAddr rfl) ?_
      refine RS_q retB_noPanic rfl rfl rfl rfl (ev_loadN rfl (by repeat' first | exact LdN.blk rfl | assumption | apply LdN.skip | apply LdN.app)) ?_
      refine RS_br ?x78_0 ?x78_1
      case' x78_1 =>
        refine RE_eff rfl rfl rfl eff_alloc ?_; rintro _ _ ⟨b5, rfl, rfl⟩; refine ⟨_, fun _ s => s, (by first | ((repeat first | exact fun _ s => s | apply en_keep | apply en_drop | apply en_app) <;> fail) | ((repeat first | exact en_refl | (apply en_blk; focus ((repeat' first | exact Pick.here | apply Pick.skip | apply Pick.app); done); focus rfl) | (apply en_own; focus ((repeat' first | exact Pick.here | apply Pick.skip | apply Pick.app); done); focus rfl) | (apply en_pick; focus ((repeat' first | exact Pick.here | apply Pick.skip | apply Pick.app); done)) | apply en_drop | apply en_app) <;> fail)), ?_⟩
        refine RS_e (RE_eff rfl rfl rfl (eff_call rfl (hm _)) ?_); rintro _ _ ⟨c9, rfl, rfl⟩; refine ⟨_, fun _ s => s, (by first | ((repeat first | exact fun _ s => s | apply en_keep | apply en_drop | apply en_app) <;> fail) | ((repeat first | exact en_refl | (apply en_blk; focus ((repeat' first | exact Pick.here | apply Pick.skip | apply Pick.app); done); focus rfl) | (apply en_own; focus ((repeat' first | exact Pick.here | apply Pick.skip | apply Pick.app); done); focus rfl) | (apply en_pick; focus ((repeat' first | exact Pick.here | apply Pick.skip | apply Pick.app); done)) | apply en_drop | apply en_app) <;> fail)), ?_⟩
        refine RS_m retB_noPanic rfl rfl rfl rfl (ev_move rfl) ?_
        refine RS_m retB_noPanic rfl rfl rfl rfl (ev_extract rfl rfl) ?_
        refine RS_m retB_noPanic rfl rfl rfl rfl (ev_extract rfl rfl) ?_
        refine RS_e (RE_cmp (by kernel_rfl) rfl rfl rfl (eff_storeN rfl rfl rfl rfl (by repeat' first | exact Upd.here rfl | apply Upd.skip | apply Upd.app)) ?_); rintro _ _ ⟨rfl, rfl⟩
        refine RS_m retB_noPanic rfl rfl rfl rfl (ev_assign rfl) ?_
        refine RS_nil ?_
      case' x78_0 =>
        refine RE_eff rfl rfl rfl (eff_call rfl (hm _)) ?_; rintro _ _ ⟨c9, rfl, rfl⟩; refine ⟨_, fun _ s => s, (by first | ((repeat first | exact fun _ s => s | apply en_keep | apply en_drop | apply en_app) <;> fail) | ((repeat first | exact en_refl | (apply en_blk; focus ((repeat' first | exact Pick.here | apply Pick.skip | apply Pick.app); done); focus rfl) | (apply en_own; focus ((repeat' first | exact Pick.here | apply Pick.skip | apply Pick.app); done); focus rfl) | (apply en_pick; focus ((repeat' first | exact Pick.here | apply Pick.skip | apply Pick.app); done)) | apply en_drop | apply en_app) <;> fail)), ?_⟩
        refine RS_m retB_noPanic rfl rfl rfl rfl (ev_move rfl) ?_
        refine RS_m retB_noPanic rfl rfl rfl rfl (ev_extract rfl rfl) ?_
        refine RS_m retB_noPanic rfl rfl rfl rfl (ev_extract rfl rfl) ?_
        refine RS_e (RE_eff rfl rfl rfl eff_alloc ?_); rintro _ _ ⟨b5, rfl, rfl⟩; refine ⟨_, fun _ s => s, (by first | ((repeat first | exact fun _ s => s | apply en_keep | apply en_drop | apply en_app) <;> fail) | ((repeat first | exact en_refl | (apply en_blk; focus ((repeat' first | exact Pick.here | apply Pick.skip | apply Pick.app); done); focus rfl) | (apply en_own; focus ((repeat' first | exact Pick.here | apply Pick.skip | apply Pick.app); done); focus rfl) | (apply en_pick; focus ((repeat' first | exact Pick.here | apply Pick.skip | apply Pick.app); done)) | apply en_drop | apply en_app) <;> fail)), ?_⟩
        refine RS_e (RE_cmp (by kernel_rfl) rfl rfl rfl (eff_storeN rfl rfl rfl rfl (by repeat' first | exact Upd.here rfl | apply Upd.skip | apply Upd.app)) ?_); rintro _ _ ⟨rfl, rfl⟩
        refine RS_m retB_noPanic rfl rfl rfl rfl (ev_assign rfl) ?_
        refine RS_nil ?_
      all_goals
        (repeat first | refine G_seq ?_ | refine G_skip ?_ | refine G_endblk ?_ | refine G_block ?_ | refine G_exit rfl ?_)
        refine G_region ?_
        refine GO_q rfl rfl (ev_move rfl) ?_
        refine GO_q rfl rfl (ev_assign rfl) ?_
        refine GO_nil ?_
        (repeat first | refine G_seq ?_ | refine G_skip ?_ | refine G_endblk ?_ | refine G_block ?_ | refine G_exit rfl ?_)
        exact G_ret (L' := idV vv l :: L) rfl (.tmp rfl .nil) (by (repeat first | exact en_refl | refine en_idV rfl rfl f1 f2 f3 ?_ | (apply en_blk; focus ((repeat' first | exact Pick.here | apply Pick.skip | apply Pick.app); done); focus rfl) | (apply en_own; focus ((repeat' first | exact Pick.here | apply Pick.skip | apply Pick.app); done); focus rfl) | (apply en_pick; focus ((repeat' first | exact Pick.here | apply Pick.skip | apply Pick.app); done)) | apply en_drop | apply en_app) <;> fail) ⟨rfl, rfl⟩
  | false =>
    cases r with
    | false =>
      (repeat first | refine G_seq ?_ | refine G_skip ?_ | refine G_endblk ?_ | refine G_block ?_ | refine G_exit rfl ?_)
      refine G_draw (.q 0 (.q 1 (.q 2 (.q 3 (.q 4 (.q 5 (.q 6 (.q 7 (.q 8 (.q 9 (.q 10 (.e 11 (.q 12 .nil))))))))))))) (by kernel_rfl) (by kernel_rfl) ?_
      refine RS_m retB_noPanic rfl rfl rfl rfl (ev_move rfl) ?_
      (first | refine RS_m retB_noPanic rfl rfl rfl rfl (ev_nilCheck rfl) ?_ | refine RS_m retB_noPanic rfl rfl rfl rfl (ev_nilCheckF (by simp) rfl) ?_)
      refine RS_m retB_noPanic rfl rfl rfl rfl (ev_fieldAddr rfl) ?_
      refine RS_q retB_noPanic rfl rfl rfl rfl (ev_load rfl (by repeat' first | exact Ld.blk rfl | assumption | apply Ld.skip | apply Ld.app)) ?_
      refine RS_m retB_noPanic rfl rfl rfl rfl (ev_not rfl) ?_
      refine RS_m retB_noPanic rfl rfl rfl rfl (ev_move rfl) ?_
      refine RS_q_yes retB_noPanic rfl rfl rfl rfl ⟨_, rfl, rfl⟩ rfl (ev_loadN rfl (by repeat' first | exact LdN.blk rfl | assumption | apply LdN.skip | apply LdN.app)) ?_
      refine RS_m_yes retB_noPanic rfl rfl rfl rfl ⟨_, rfl, rfl⟩ rfl (ev_move rfl) ?_
      (first | refine RS_m_yes retB_noPanic rfl rfl rfl rfl ⟨_, rfl, rfl⟩ rfl (ev_nilCheck rfl) ?_ | refine RS_m_yes retB_noPanic rfl rfl rfl rfl ⟨_, rfl, rfl⟩ rfl (ev_nilCheckF (by simp) rfl) ?_)
      refine RS_m_yes retB_noPanic rfl rfl rfl rfl ⟨_, rfl, rfl⟩ rfl (ev_fieldAddr rfl) ?_
      refine RS_q_yes retB_noPanic rfl rfl rfl rfl ⟨_, rfl, rfl⟩ rfl (ev_loadN rfl (by repeat' first | exact LdN.blk rfl | assumption | apply LdN.skip | apply LdN.app)) ?_
      refine RS_e (RE_eff_yes rfl rfl rfl ⟨_, rfl, rfl⟩ rfl (eff_call rfl (hh _)) ?_); rintro _ _ ⟨rfl, rfl⟩; refine ⟨_, fun _ s => s, (by first | ((repeat first | exact fun _ s => s | apply en_keep | apply en_drop | apply en_app) <;> fail) | ((repeat first | exact en_refl | (apply en_blk; focus ((repeat' first | exact Pick.here | apply Pick.skip | apply Pick.app); done); focus rfl) | (apply en_own; focus ((repeat' first | exact Pick.here | apply Pick.skip | apply Pick.app); done); focus rfl) | (apply en_pick; focus ((repeat' first | exact Pick.here | apply Pick.skip | apply Pick.app); done)) | apply en_drop | apply en_app) <;> fail)), ?_⟩
      refine RS_m retB_noPanic rfl rfl rfl rfl (ev_pick_t rfl rfl rfl) ?_
      refine RS_nil ?_
      all_goals
        (repeat first | refine G_seq ?_ | refine G_skip ?_ | refine G_endblk ?_ | refine G_block ?_ | refine G_exit rfl ?_)
        refine G_cond_f rfl rfl ?_
        (repeat first | refine G_seq ?_ | refine G_skip ?_ | refine G_endblk ?_ | refine G_block ?_ | refine G_exit rfl ?_)
        refine G_draw (.q 0 (.q 1 (.q 2 (.q 3 (.q 4 (.br 5 (.q 6 (.q 7 (.q 8 (.e 9 (.e 10 (.q 11 .nil)))))) 9 (.e 5 (.q 6 (.q 7 (.q 8 (.e 10 (.q 11 .nil)))))))))))) (by kernel_rfl) (by kernel_rfl) ?_
        refine RS_q retB_noPanic rfl rfl rfl rfl (ev_loadN rfl (by repeat' first | exact LdN.blk rfl | assumption | apply LdN.skip | apply LdN.app)) ?_
        refine RS_m retB_noPanic rfl rfl rfl rfl (ev_move rfl) ?_
        (first | refine RS_m retB_noPanic rfl rfl rfl rfl (ev_nilCheck rfl) ?_ | refine RS_m retB_noPanic rfl rfl rfl rfl (ev_nilCheckF (by simp) rfl) ?_)
        refine RS_m retB_noPanic rfl rfl rfl rfl (ev_fieldAddr rfl) ?_
        refine RS_q retB_noPanic rfl rfl rfl rfl (ev_loadN rfl (by repeat' first | exact LdN.blk rfl | assumption | apply LdN.skip | apply LdN.app)) ?_
        refine RS_br ?x79_0 ?x79_1
        case' x79_1 =>
          refine RE_eff rfl rfl rfl eff_alloc ?_; rintro _ _ ⟨b5, rfl, rfl⟩; refine ⟨_, fun _ s => s, (by first | ((repeat first | exact fun _ s => s | apply en_keep | apply en_drop | apply en_app) <;> fail) | ((repeat first | exact en_refl | (apply en_blk; focus ((repeat' first | exact Pick.here | apply Pick.skip | apply Pick.app); done); focus rfl) | (apply en_own; focus ((repeat' first | exact Pick.here | apply Pick.skip | apply Pick.app); done); focus rfl) | (apply en_pick; focus ((repeat' first | exact Pick.here | apply Pick.skip | apply Pick.app); done)) | apply en_drop | apply en_app) <;> fail)), ?_⟩
          refine RS_e (RE_eff rfl rfl rfl (eff_call rfl (hm _)) ?_); rintro _ _ ⟨c9, rfl, rfl⟩; refine ⟨_, fun _ s => s, (by first | ((repeat first | exact fun _ s => s | apply en_keep | apply en_drop | apply en_app) <;> fail) | ((repeat first | exact en_refl | (apply en_blk; focus ((repeat' first | exact Pick.here | apply Pick.skip | apply Pick.app); done); focus rfl) | (apply en_own; focus ((repeat' first | exact Pick.here | apply Pick.skip | apply Pick.app); done); focus rfl) | (apply en_pick; focus ((repeat' first | exact Pick.here | apply Pick.skip | apply Pick.app); done)) | apply en_drop | apply en_app) <;> fail)), ?_⟩
          refine RS_m retB_noPanic rfl rfl rfl rfl (ev_move rfl) ?_
          refine RS_m retB_noPanic rfl rfl rfl rfl (ev_extract rfl rfl) ?_
          refine RS_m retB_noPanic rfl rfl rfl rfl (ev_extract rfl rfl) ?_
          refine RS_e (RE_cmp (by kernel_rfl) rfl rfl rfl (eff_storeN rfl rfl rfl rfl (by repeat' first | exact Upd.here rfl | apply Upd.skip | apply Upd.app)) ?_); rintro _ _ ⟨rfl, rfl⟩
          refine RS_m retB_noPanic rfl rfl rfl rfl (ev_assign rfl) ?_
          refine RS_nil ?_
        case' x79_0 =>
          refine RE_eff rfl rfl rfl (eff_call rfl (hm _)) ?_; rintro _ _ ⟨c9, rfl, rfl⟩; refine ⟨_, fun _ s => s, (by first | ((repeat first | exact fun _ s => s | apply en_keep | apply en_drop | apply en_app) <;> fail) | ((repeat first | exact en_refl | (apply en_blk; focus ((repeat' first | exact Pick.here | apply Pick.skip | apply Pick.app); done); focus rfl) | (apply en_own; focus ((repeat' first | exact Pick.here | apply Pick.skip | apply Pick.app); done); focus rfl) | (apply en_pick; focus ((repeat' first | exact Pick.here | apply Pick.skip | apply Pick.app); done)) | apply en_drop | apply en_app) <;> fail)), ?_⟩
          refine RS_m retB_noPanic rfl rfl rfl rfl (ev_move rfl) ?_
          refine RS_m retB_noPanic rfl rfl rfl rfl (ev_extract rfl rfl) ?_
          refine RS_m retB_noPanic rfl rfl rfl rfl (ev_extract rfl rfl) ?_
          refine RS_e (RE_eff rfl rfl rfl eff_alloc ?_); rintro _ _ ⟨b5, rfl, rfl⟩; refine ⟨_, fun _ s => s, (by first | ((repeat first | exact fun _ s => s | apply en_keep | apply en_drop | apply en_app) <;> fail) | ((repeat first | exact en_refl | (apply en_blk; focus ((repeat' first | exact Pick.here | apply Pick.skip | apply Pick.app); done); focus rfl) | (apply en_own; focus ((repeat' first | exact Pick.here | apply Pick.skip | apply Pick.app); done); focus rfl) | (apply en_pick; focus ((repeat' first | exact Pick.here | apply Pick.skip | apply Pick.app); done)) | apply en_drop | apply en_app) <;> fail)), ?_⟩
          refine RS_e (RE_cmp (by kernel_rfl) rfl rfl rfl (eff_storeN rfl rfl rfl rfl (by repeat' first | exact Upd.here rfl | apply Upd.skip | apply Upd.app)) ?_); rintro _ _ ⟨rfl, rfl⟩
          refine RS_m retB_noPanic rfl rfl rfl rfl (ev_assign rfl) ?_
          refine RS_nil ?_
        all_goals
          (repeat first | refine G_seq ?_ | refine G_skip ?_ | refine G_endblk ?_ | refine G_block ?_ | refine G_exit rfl ?_)
          refine G_region ?_
          refine GO_q rfl rfl (ev_move rfl) ?_
          refine GO_q rfl rfl (ev_assign rfl) ?_
          refine GO_nil ?_
          (repeat first | refine G_seq ?_ | refine G_skip ?_ | refine G_endblk ?_ | refine G_block ?_ | refine G_exit rfl ?_)
          exact G_ret (L' := idV vv l :: L) rfl (.tmp rfl .nil) (by (repeat first | exact en_refl | refine en_idV rfl rfl f1 f2 f3 ?_ | (apply en_blk; focus ((repeat' first | exact Pick.here | apply Pick.skip | apply Pick.app); done); focus rfl) | (apply en_own; focus ((repeat' first | exact Pick.here | apply Pick.skip | apply Pick.app); done); focus rfl) | (apply en_pick; focus ((repeat' first | exact Pick.here | apply Pick.skip | apply Pick.app); done)) | apply en_drop | apply en_app) <;> fail) ⟨rfl, rfl⟩
    | true =>
      (repeat first | refine G_seq ?_ | refine G_skip ?_ | refine G_endblk ?_ | refine G_block ?_ | refine G_exit rfl ?_)
      refine G_draw (.q 0 (.q 1 (.q 2 (.q 3 (.q 4 (.q 5 (.q 6 (.q 7 (.q 8 (.q 9 (.q 10 (.e 11 (.q 12 .nil))))))))))))) (by kernel_rfl) (by kernel_rfl) ?_
      refine RS_m retB_noPanic rfl rfl rfl rfl (ev_move rfl) ?_
      (first | refine RS_m retB_noPanic rfl rfl rfl rfl (ev_nilCheck rfl) ?_ | refine RS_m retB_noPanic rfl rfl rfl rfl (ev_nilCheckF (by simp) rfl) ?_)
      refine RS_m retB_noPanic rfl rfl rfl rfl (ev_fieldAddr rfl) ?_
      refine RS_q retB_noPanic rfl rfl rfl rfl (ev_load rfl (by repeat' first | exact Ld.blk rfl | assumption | apply Ld.skip | apply Ld.app)) ?_
      refine RS_m retB_noPanic rfl rfl rfl rfl (ev_not rfl) ?_
      refine RS_m retB_noPanic rfl rfl rfl rfl (ev_move rfl) ?_
      refine RS_q_yes retB_noPanic rfl rfl rfl rfl ⟨_, rfl, rfl⟩ rfl (ev_loadN rfl (by repeat' first | exact LdN.blk rfl | assumption | apply LdN.skip | apply LdN.app)) ?_
      refine RS_m_yes retB_noPanic rfl rfl rfl rfl ⟨_, rfl, rfl⟩ rfl (ev_move rfl) ?_
      (first | refine RS_m_yes retB_noPanic rfl rfl rfl rfl ⟨_, rfl, rfl⟩ rfl (ev_nilCheck rfl) ?_ | refine RS_m_yes retB_noPanic rfl rfl rfl rfl ⟨_, rfl, rfl⟩ rfl (ev_nilCheckF (by simp) rfl) ?_)
      refine RS_m_yes retB_noPanic rfl rfl rfl rfl ⟨_, rfl, rfl⟩ rfl (ev_fieldAddr rfl) ?_
      refine RS_q_yes retB_noPanic rfl rfl rfl rfl ⟨_, rfl, rfl⟩ rfl (ev_loadN rfl (by repeat' first | exact LdN.blk rfl | assumption | apply LdN.skip | apply LdN.app)) ?_
      refine RS_e (RE_eff_yes rfl rfl rfl ⟨_, rfl, rfl⟩ rfl (eff_call rfl (hh _)) ?_); rintro _ _ ⟨rfl, rfl⟩; refine ⟨_, fun _ s => s, (by first | ((repeat first | exact fun _ s => s | apply en_keep | apply en_drop | apply en_app) <;> fail) | ((repeat first | exact en_refl | (apply en_blk; focus ((repeat' first | exact Pick.here | apply Pick.skip | apply Pick.app); done); focus rfl) | (apply en_own; focus ((repeat' first | exact Pick.here | apply Pick.skip | apply Pick.app); done); focus rfl) | (apply en_pick; focus ((repeat' first | exact Pick.here | apply Pick.skip | apply Pick.app); done)) | apply en_drop | apply en_app) <;> fail)), ?_⟩
      refine RS_m retB_noPanic rfl rfl rfl rfl (ev_pick_t rfl rfl rfl) ?_
      refine RS_nil ?_
      all_goals
        (repeat first | refine G_seq ?_ | refine G_skip ?_ | refine G_endblk ?_ | refine G_block ?_ | refine G_exit rfl ?_)
        refine G_cond_t rfl rfl ?_
        (repeat first | refine G_seq ?_ | refine G_skip ?_ | refine G_endblk ?_ | refine G_block ?_ | refine G_exit rfl ?_)
        refine G_draw (.q 0 (.q 1 (.q 2 (.q 3 (.q 4 (.q 5 (.e 6 (.e 7 (.e 8 .nil))))))))) (by kernel_rfl) (by kernel_rfl) ?_
        refine RS_q retB_noPanic rfl rfl rfl rfl (ev_load rfl (by repeat' first | exact Ld.blk rfl | assumption | apply Ld.skip | apply Ld.app)) ?_
        refine RS_m retB_noPanic rfl rfl rfl rfl (ev_move rfl) ?_
        (first | refine RS_m retB_noPanic rfl rfl rfl rfl (ev_nilCheck rfl) ?_ | refine RS_m retB_noPanic rfl rfl rfl rfl (ev_nilCheckF (by simp) rfl) ?_)
        refine RS_m retB_noPanic rfl rfl rfl rfl (ev_fieldAddr rfl) ?_
        refine RS_m retB_noPanic rfl rfl rfl rfl (ev_fieldAddr rfl) ?_
        refine RS_q retB_noPanic rfl rfl rfl rfl (ev_load rfl (by repeat' first | exact Ld.blk rfl | assumption | apply Ld.skip | apply Ld.app)) ?_
        refine RS_e (RE_eff rfl rfl rfl (eff_buildSlice1 (by rfl) rfl rfl) ?_); rintro _ _ ⟨b26, rfl, rfl⟩; refine ⟨_, fun _ s => s, (by first | ((repeat first | exact fun _ s => s | apply en_keep | apply en_drop | apply en_app) <;> fail) | ((repeat first | exact en_refl | (apply en_blk; focus ((repeat' first | exact Pick.here | apply Pick.skip | apply Pick.app); done); focus rfl) | (apply en_own; focus ((repeat' first | exact Pick.here | apply Pick.skip | apply Pick.app); done); focus rfl) | (apply en_pick; focus ((repeat' first | exact Pick.here | apply Pick.skip | apply Pick.app); done)) | apply en_drop | apply en_app) <;> fail)), ?_⟩
        refine RS_e (RE_cmp (by kernel_rfl) rfl rfl rfl (eff_append rfl rfl (by repeat' first | exact Pick.here | apply Pick.skip) (by repeat' first | exact Rc.blk rfl | assumption | apply Rc.skip) (one_all rfl) (by rfl) (by decide) (by first | omega | (simp; done) | (simp; omega)) (by first | omega | (simp; done) | (simp; omega))) ?_); rintro _ _ ⟨A27, c27, rfl, hc27, hm27, hn27, rfl⟩
        refine RS_e (RE_last (by kernel_rfl) rfl rfl rfl (eff_store rfl rfl rfl (by repeat' first | exact Upd.here rfl | apply Upd.skip | apply Upd.app)) ?_); rintro _ _ ⟨rfl, rfl⟩
        (repeat first | refine G_seq ?_ | refine G_skip ?_ | refine G_endblk ?_ | refine G_block ?_ | refine G_exit rfl ?_)
        refine G_draw (.q 0 (.q 1 (.q 2 (.q 3 (.q 4 (.br 5 (.q 6 (.q 7 (.q 8 (.e 9 (.e 10 (.q 11 .nil)))))) 9 (.e 5 (.q 6 (.q 7 (.q 8 (.e 10 (.q 11 .nil)))))))))))) (by kernel_rfl) (by kernel_rfl) ?_
        refine RS_q retB_noPanic rfl rfl rfl rfl (ev_loadN rfl (by repeat' first | exact LdN.blk rfl | assumption | apply LdN.skip | apply LdN.app)) ?_
        refine RS_m retB_noPanic rfl rfl rfl rfl (ev_move rfl) ?_
        (first | refine RS_m retB_noPanic rfl rfl rfl rfl (ev_nilCheck rfl) ?_ | refine RS_m retB_noPanic rfl rfl rfl rfl (ev_nilCheckF (by simp) rfl) ?_)
        refine RS_m retB_noPanic rfl rfl rfl rfl (ev_fieldAddr rfl) ?_
        refine RS_q retB_noPanic rfl rfl rfl rfl (ev_loadN rfl (by repeat' first | exact LdN.blk rfl | assumption | apply LdN.skip | apply LdN.app)) ?_
        refine RS_br ?x80_0 ?x80_1
        case' x80_1 =>
          refine RE_eff rfl rfl rfl eff_alloc ?_; rintro _ _ ⟨b5, rfl, rfl⟩; refine ⟨_, fun _ s => s, (by first | ((repeat first | exact fun _ s => s | apply en_keep | apply en_drop | apply en_app) <;> fail) | ((repeat first | exact en_refl | (apply en_blk; focus ((repeat' first | exact Pick.here | apply Pick.skip | apply Pick.app); done); focus rfl) | (apply en_own; focus ((repeat' first | exact Pick.here | apply Pick.skip | apply Pick.app); done); focus rfl) | (apply en_pick; focus ((repeat' first | exact Pick.here | apply Pick.skip | apply Pick.app); done)) | apply en_drop | apply en_app) <;> fail)), ?_⟩
          refine RS_e (RE_eff rfl rfl rfl (eff_call rfl (hm _)) ?_); rintro _ _ ⟨c9, rfl, rfl⟩; refine ⟨_, fun _ s => s, (by first | ((repeat first | exact fun _ s => s | apply en_keep | apply en_drop | apply en_app) <;> fail) | ((repeat first | exact en_refl | (apply en_blk; focus ((repeat' first | exact Pick.here | apply Pick.skip | apply Pick.app); done); focus rfl) | (apply en_own; focus ((repeat' first | exact Pick.here | apply Pick.skip | apply Pick.app); done); focus rfl) | (apply en_pick; focus ((repeat' first | exact Pick.here | apply Pick.skip | apply Pick.app); done)) | apply en_drop | apply en_app) <;> fail)), ?_⟩
          refine RS_m retB_noPanic rfl rfl rfl rfl (ev_move rfl) ?_
          refine RS_m retB_noPanic rfl rfl rfl rfl (ev_extract rfl rfl) ?_
          refine RS_m retB_noPanic rfl rfl rfl rfl (ev_extract rfl rfl) ?_
          refine RS_e (RE_cmp (by kernel_rfl) rfl rfl rfl (eff_storeN rfl rfl rfl rfl (by repeat' first | exact Upd.here rfl | apply Upd.skip | apply Upd.app)) ?_); rintro _ _ ⟨rfl, rfl⟩
          refine RS_m retB_noPanic rfl rfl rfl rfl (ev_assign rfl) ?_
          refine RS_nil ?_
        case' x80_0 =>
          refine RE_eff rfl rfl rfl (eff_call rfl (hm _)) ?_; rintro _ _ ⟨c9, rfl, rfl⟩; refine ⟨_, fun _ s => s, (by first | ((repeat first | exact fun _ s => s | apply en_keep | apply en_drop | apply en_app) <;> fail) | ((repeat first | exact en_refl | (apply en_blk; focus ((repeat' first | exact Pick.here | apply Pick.skip | apply Pick.app); done); focus rfl) | (apply en_own; focus ((repeat' first | exact Pick.here | apply Pick.skip | apply Pick.app); done); focus rfl) | (apply en_pick; focus ((repeat' first | exact Pick.here | apply Pick.skip | apply Pick.app); done)) | apply en_drop | apply en_app) <;> fail)), ?_⟩
          refine RS_m retB_noPanic rfl rfl rfl rfl (ev_move rfl) ?_
          refine RS_m retB_noPanic rfl rfl rfl rfl (ev_extract rfl rfl) ?_
          refine RS_m retB_noPanic rfl rfl rfl rfl (ev_extract rfl rfl) ?_
          refine RS_e (RE_eff rfl rfl rfl eff_alloc ?_); rintro _ _ ⟨b5, rfl, rfl⟩; refine ⟨_, fun _ s => s, (by first | ((repeat first | exact fun _ s => s | apply en_keep | apply en_drop | apply en_app) <;> fail) | ((repeat first | exact en_refl | (apply en_blk; focus ((repeat' first | exact Pick.here | apply Pick.skip | apply Pick.app); done); focus rfl) | (apply en_own; focus ((repeat' first | exact Pick.here | apply Pick.skip | apply Pick.app); done); focus rfl) | (apply en_pick; focus ((repeat' first | exact Pick.here | apply Pick.skip | apply Pick.app); done)) | apply en_drop | apply en_app) <;> fail)), ?_⟩
          refine RS_e (RE_cmp (by kernel_rfl) rfl rfl rfl (eff_storeN rfl rfl rfl rfl (by repeat' first | exact Upd.here rfl | apply Upd.skip | apply Upd.app)) ?_); rintro _ _ ⟨rfl, rfl⟩
          refine RS_m retB_noPanic rfl rfl rfl rfl (ev_assign rfl) ?_
          refine RS_nil ?_
        all_goals
          (repeat first | refine G_seq ?_ | refine G_skip ?_ | refine G_endblk ?_ | refine G_block ?_ | refine G_exit rfl ?_)
          refine G_region ?_
          refine GO_q rfl rfl (ev_move rfl) ?_
          refine GO_q rfl rfl (ev_assign rfl) ?_
          refine GO_nil ?_
          (repeat first | refine G_seq ?_ | refine G_skip ?_ | refine G_endblk ?_ | refine G_block ?_ | refine G_exit rfl ?_)
          exact G_ret (L' := idV vv (l ++ [p.id]) :: L) rfl (.tmp rfl .nil) (by (repeat first | exact en_refl | refine en_idV (a := A27) (c := c27) (n := l.length + 1) (vs := flat l ++ flat [p.id]) (by simp) (by simp [flat]) hn27 hc27 hm27 ?_ | (apply en_blk; focus ((repeat' first | exact Pick.here | apply Pick.skip | apply Pick.app); done); focus rfl) | (apply en_own; focus ((repeat' first | exact Pick.here | apply Pick.skip | apply Pick.app); done); focus rfl) | (apply en_pick; focus ((repeat' first | exact Pick.here | apply Pick.skip | apply Pick.app); done)) | apply en_drop | apply en_app) <;> fail) ⟨rfl, rfl⟩
/-- What is told by a report. -/
def ids (w : Bx) (T : KT) : List Int := srt ((T.pts.filter (inB w)).map (·.id))
theorem ktop_ctr (t : Nat) (T : KT) (L : List HP) (h : Ld L ⟨t, 0 + 0, none⟩ (.pointer T.addr)) : Ctr Try.prog 38 #[.pointer (some ⟨t, 0, none⟩)] L fun v L' => v = .pointer T.addr ∧ L' = L := by
  refine Ctr_of (fn := Try.f38) (n := 9) Try.func38 rfl rfl rfl ?_
  intro g F
  (repeat first | refine G_seq ?_ | refine G_skip ?_ | refine G_endblk ?_ | refine G_block ?_ | refine G_exit rfl ?_)
  refine G_region ?_
  refine GO_q rfl rfl (ev_assign rfl) ?_
  refine GO_nil ?_
  (repeat first | refine G_seq ?_ | refine G_skip ?_ | refine G_endblk ?_ | refine G_block ?_ | refine G_exit rfl ?_)
  refine G_region ?_
  refine GO_q rfl rfl (ev_move rfl) ?_
  (first | refine GO_q rfl rfl (ev_eqlNil rfl rfl) ?_ | refine GO_q rfl rfl (ev_eqlPtr rfl rfl) ?_)
  refine GO_nil ?_
  (repeat first | refine G_seq ?_ | refine G_skip ?_ | refine G_endblk ?_ | refine G_block ?_ | refine G_exit rfl ?_)
  refine G_cond_f rfl rfl ?_
  (repeat first | refine G_seq ?_ | refine G_skip ?_ | refine G_endblk ?_ | refine G_block ?_ | refine G_exit rfl ?_)
  refine G_region ?_
  refine GO_q rfl rfl (ev_move rfl) ?_
  (first | refine GO_q rfl rfl (ev_nilCheck rfl) ?_ | refine GO_q rfl rfl (ev_nilCheckF (by simp) rfl) ?_)
  refine GO_q rfl rfl (ev_fieldAddr rfl) ?_
  refine GO_q rfl rfl (ev_load rfl (by repeat' first | exact h | apply Ld.skip)) ?_
  refine GO_q rfl rfl (ev_assign rfl) ?_
  refine GO_nil ?_
  (repeat first | refine G_seq ?_ | refine G_skip ?_ | refine G_endblk ?_ | refine G_block ?_ | refine G_exit rfl ?_)
  refine G_ret rfl (.tmp rfl .nil) (by (repeat first | exact fun _ s => s | apply en_keep | apply en_drop | apply en_app) <;> fail) ⟨rfl, rfl⟩
theorem kLen_ctr (t : Nat) (n : Int) (L : List HP) (h : Ld L ⟨t, 0 + 1, none⟩ (.int .i64 n)) : Ctr Try.prog 21 #[.pointer (some ⟨t, 0, none⟩)] L fun v L' => v = .int .i64 n ∧ L' = L := by
  refine Ctr_of (fn := Try.f21) (n := 9) Try.func21 rfl rfl rfl ?_
  intro g F
  (repeat first | refine G_seq ?_ | refine G_skip ?_ | refine G_endblk ?_ | refine G_block ?_ | refine G_exit rfl ?_)
  refine G_region ?_
  refine GO_q rfl rfl (ev_assign rfl) ?_
  refine GO_nil ?_
  (repeat first | refine G_seq ?_ | refine G_skip ?_ | refine G_endblk ?_ | refine G_block ?_ | refine G_exit rfl ?_)
  refine G_region ?_
  refine GO_q rfl rfl (ev_move rfl) ?_
  (first | refine GO_q rfl rfl (ev_eqlNil rfl rfl) ?_ | refine GO_q rfl rfl (ev_eqlPtr rfl rfl) ?_)
  refine GO_nil ?_
  (repeat first | refine G_seq ?_ | refine G_skip ?_ | refine G_endblk ?_ | refine G_block ?_ | refine G_exit rfl ?_)
  refine G_cond_f rfl rfl ?_
  (repeat first | refine G_seq ?_ | refine G_skip ?_ | refine G_endblk ?_ | refine G_block ?_ | refine G_exit rfl ?_)
  refine G_region ?_
  refine GO_q rfl rfl (ev_move rfl) ?_
  (first | refine GO_q rfl rfl (ev_nilCheck rfl) ?_ | refine GO_q rfl rfl (ev_nilCheckF (by simp) rfl) ?_)
  refine GO_q rfl rfl (ev_fieldAddr rfl) ?_
  refine GO_q rfl rfl (ev_load rfl (by repeat' first | exact Ld.blk rfl | assumption | apply Ld.skip | apply Ld.app)) ?_
  refine GO_q rfl rfl (ev_assign rfl) ?_
  refine GO_nil ?_
  (repeat first | refine G_seq ?_ | refine G_skip ?_ | refine G_endblk ?_ | refine G_block ?_ | refine G_exit rfl ?_)
  refine G_ret rfl (.tmp rfl .nil) (by (repeat first | exact fun _ s => s | apply en_keep | apply en_drop | apply en_app) <;> fail) ⟨rfl, rfl⟩
theorem kreport_ctr (t : Nat) (T : KT) (w : Bx) (L : List HP) (h : Ld L ⟨t, 0 + 0, none⟩ (.pointer T.addr)) (hin : KIn L T) (ho : T.ok 0) (hn : T.cnt ≤ 400000) :
    Ctr Try.prog 37 #[.pointer (some ⟨t, 0, none⟩), w.v] L fun v L' => ∃ a c, v = .slice a (ids w T).length c ∧ ((0 < (ids w T).length → ∃ b, a = some ⟨b, 0, none⟩) ∧ (ids w T).length ≤ c ∧ c ≤ maxLen) ∧ L' = own 3 1 a (ids w T).length c (flat (ids w T)) :: L := by
  have hrun := ho.run_rp (b := w) []
  rw [List.nil_append] at hrun
  have hll : ((T.pts.filter (inB w)).map (·.id)).length ≤ 400000 := by
    rw [List.length_map]
    have := List.length_filter_le (inB w) T.pts
    have := T.pts_len
    omega
  unfold ids
  rw [show (srt ((T.pts.filter (inB w)).map (·.id))).length = ((T.pts.filter (inB w)).map (·.id)).length by simp [srt, List.length_mergeSort]]
  generalize (T.pts.filter (inB w)).map (·.id) = zs at *
  refine Ctr_of (fn := Try.f37) (n := 13) Try.func37 rfl rfl rfl ?_
  intro g F
  (repeat first | refine G_seq ?_ | refine G_skip ?_ | refine G_endblk ?_ | refine G_block ?_ | refine G_exit rfl ?_)
  refine G_region ?_
  refine GO_eff rfl rfl (eff_box rfl) ?_; rintro _ _ ⟨b3, rfl, rfl⟩
  refine GO_q rfl rfl (ev_assign rfl) ?_
  refine GO_nil ?_
  (repeat first | refine G_seq ?_ | refine G_skip ?_ | refine G_endblk ?_ | refine G_block ?_ | refine G_exit rfl ?_)
  refine G_region ?_
  refine GO_eff rfl rfl eff_alloc ?_; rintro _ _ ⟨b5, rfl, rfl⟩
  refine GO_nil ?_
  refine G_heap (own.nil_ 3 1) ?_
  refine G_heap (L' := idV b5 [] :: blk b3 32 [.int .i64 w.x1, .int .i64 w.x2, .int .i64 w.y1, .int .i64 w.y2] :: F :: L) (by (repeat first | exact en_refl | refine en_idV (a := none) (c := 0) (n := 0) (vs := []) rfl rfl (fun h => absurd h (Nat.lt_irrefl 0)) (Nat.le_refl 0) (Nat.zero_le _) ?_ | (apply en_blk; focus ((repeat' first | exact Pick.here | apply Pick.skip | apply Pick.app); done); focus rfl) | (apply en_own; focus ((repeat' first | exact Pick.here | apply Pick.skip | apply Pick.app); done); focus rfl) | (apply en_pick; focus ((repeat' first | exact Pick.here | apply Pick.skip | apply Pick.app); done)) | apply en_drop | apply en_app) <;> fail) ?_
  have he := keach_ctr (fid := 58) (c1 := []) (c2 := [.pointer (some ⟨b3, 0, none⟩), .pointer (some ⟨b5, 0, none⟩)]) (idV b5) (blk b3 32 [.int .i64 w.x1, .int .i64 w.x2, .int .i64 w.y1, .int .i64 w.y2] :: F :: L) (rpStep w) rpOk (fun _ => True) (fun s n p gn x h => by unfold rpOk rpStep at *; simp only; split <;> first | omega | (simp; omega)) (fun s n m h h' => by unfold rpOk at *; omega)
    (fun s n b p gn m x lo hi h _ hi2 => krep_ctr b3 b5 w s n b p gn m x lo hi _ h hi2 (LdN.blk rfl)) T [] 0 (by unfold rpOk; simp; omega) (fun _ _ => trivial) hin.skip.skip
  rw [hrun] at he
  (repeat first | refine G_seq ?_ | refine G_skip ?_ | refine G_endblk ?_ | refine G_block ?_ | refine G_exit rfl ?_)
  refine G_region ?_
  refine GO_q rfl rfl (ev_move rfl) ?_
  refine GO_eff rfl rfl (eff_call rfl (ktop_ctr t T _ (by repeat' first | exact h | apply Ld.skip))) ?_; rintro _ _ ⟨rfl, rfl⟩
  refine GO_q rfl rfl (ev_makeFunc rfl rfl) ?_
  refine GO_eff rfl rfl (eff_call rfl (he)) ?_; rintro _ _ ⟨rfl, rfl⟩
  refine GO_nil ?_
  refine G_idV ?_
  rintro a c ⟨f1, f2, f3⟩
  have hs := fun M => sort_ctr a zs.length c zs M f1 rfl (by omega)
  (repeat first | refine G_seq ?_ | refine G_skip ?_ | refine G_endblk ?_ | refine G_block ?_ | refine G_exit rfl ?_)
  refine G_region ?_
  refine GO_q rfl rfl (ev_load rfl (by repeat' first | exact Ld.blk rfl | assumption | apply Ld.skip | apply Ld.app)) ?_
  refine GO_eff rfl rfl (eff_call rfl (Ctr.pick (by repeat' first | exact Pick.here | apply Pick.skip | apply Pick.app) (hs _))) ?_; rintro _ _ ⟨rfl, rfl⟩
  refine GO_nil ?_
  (repeat first | refine G_seq ?_ | refine G_skip ?_ | refine G_endblk ?_ | refine G_block ?_ | refine G_exit rfl ?_)
  refine G_region ?_
  refine GO_q rfl rfl (ev_load rfl (by repeat' first | exact Ld.blk rfl | assumption | apply Ld.skip | apply Ld.app)) ?_
  refine GO_q rfl rfl (ev_assign rfl) ?_
  refine GO_nil ?_
  (repeat first | refine G_seq ?_ | refine G_skip ?_ | refine G_endblk ?_ | refine G_block ?_ | refine G_exit rfl ?_)
  exact G_ret (L' := own 3 1 a zs.length c (flat (srt zs)) :: L) rfl (.tmp rfl .nil) (by (repeat first | exact en_refl | (apply en_blk; focus ((repeat' first | exact Pick.here | apply Pick.skip | apply Pick.app); done); focus rfl) | (apply en_own; focus ((repeat' first | exact Pick.here | apply Pick.skip | apply Pick.app); done); focus rfl) | (apply en_pick; focus ((repeat' first | exact Pick.here | apply Pick.skip | apply Pick.app); done)) | apply en_drop | apply en_app) <;> fail) ⟨a, c, rfl, ⟨f1, f2, f3⟩, rfl⟩
theorem kReport_ctr (t : Nat) (T : KT) (w : Bx) (L : List HP) (h : Ld L ⟨t, 0 + 0, none⟩ (.pointer T.addr)) (hin : KIn L T) (ho : T.ok 0) (hn : T.cnt ≤ 400000) :
    Ctr Try.prog 19 #[.pointer (some ⟨t, 0, none⟩), w.v] L fun v L' => ∃ a c, v = .slice a (ids w T).length c ∧ ((0 < (ids w T).length → ∃ b, a = some ⟨b, 0, none⟩) ∧ (ids w T).length ≤ c ∧ c ≤ maxLen) ∧ L' = own 3 1 a (ids w T).length c (flat (ids w T)) :: L := by
  refine Ctr_of (fn := Try.f19) (n := 8) Try.func19 rfl rfl rfl ?_
  intro g F
  (repeat first | refine G_seq ?_ | refine G_skip ?_ | refine G_endblk ?_ | refine G_block ?_ | refine G_exit rfl ?_)
  refine G_region ?_
  refine GO_eff rfl rfl (eff_box rfl) ?_; rintro _ _ ⟨b3, rfl, rfl⟩
  refine GO_q rfl rfl (ev_assign rfl) ?_
  refine GO_nil ?_
  (repeat first | refine G_seq ?_ | refine G_skip ?_ | refine G_endblk ?_ | refine G_block ?_ | refine G_exit rfl ?_)
  refine G_region ?_
  refine GO_q rfl rfl (ev_move rfl) ?_
  refine GO_q rfl rfl (ev_loadN rfl (by repeat' first | exact LdN.blk rfl | assumption | apply LdN.skip | apply LdN.app)) ?_
  refine GO_eff rfl rfl (eff_call rfl (kreport_ctr t T w _ (by repeat' first | exact h | apply Ld.skip) (by repeat' first | exact hin | apply KIn.skip) ho hn)) ?_; rintro _ _ ⟨a, c, rfl, f1, rfl⟩
  refine GO_q rfl rfl (ev_assign rfl) ?_
  refine GO_nil ?_
  (repeat first | refine G_seq ?_ | refine G_skip ?_ | refine G_endblk ?_ | refine G_block ?_ | refine G_exit rfl ?_)
  exact G_ret (L' := own 3 1 a (ids w T).length c (flat (ids w T)) :: L) rfl (.tmp rfl .nil) (by (repeat first | exact en_refl | (apply en_blk; focus ((repeat' first | exact Pick.here | apply Pick.skip | apply Pick.app); done); focus rfl) | (apply en_own; focus ((repeat' first | exact Pick.here | apply Pick.skip | apply Pick.app); done); focus rfl) | (apply en_pick; focus ((repeat' first | exact Pick.here | apply Pick.skip | apply Pick.app); done)) | apply en_drop | apply en_app) <;> fail) ⟨a, c, rfl, f1, rfl⟩
end Go.Proofs.Ytjgdhkilnalejaa
/- A tree of points by two orders in turn: sound. -/
namespace Go.Proofs.Ytjgdhkilnalejaa
attribute [local irreducible] sat
open Go.RowKit
set_option linter.unusedVariables false
set_option linter.unusedSimpArgs false
set_option maxRecDepth 100000

/-- On its side: of the kid k. -/
def onS (lv k : Nat) (p r : Pt) : Prop := (if ahd lv r p = true then (0 : Int) else 1) = (k : Nat) ∧ r ≠ p
section
variable {P : Program} {L : List HP} {σ : Env} {d : Option Nat} {T T' ty : TypeId} {pos : String} {aft : Array Edge} {gd : Option (Nat × Bool)} {x y : Operand}
theorem ev_neqT {n : Nat} {cs es : List Value} {xs ys : List Int} [H : EqT P T n] (hne : xs ≠ ys) (hx : ev σ x = some (.agg cs.toArray)) (hy : ev σ y = some (.agg es.toArray)) (h1 : unI cs = some xs) (h2 : unI es = some ys) (h3 : Nat.beq xs.length n = true) (h4 : Nat.beq ys.length n = true) :
    Ev P L σ ⟨d, .binOp .neq T x y T', ty, pos, aft, gd⟩ (.bool true) := (decide_eq_true hne) ▸ ev_neqS hx hy h1 h2 h3 h4
end
theorem soundF_ctr (pn : Pt) (lv k : Nat) (ok7 a2 a3 a4 : Nat) (nb : Nat) (b : Nat) (p : Pt) (gn : Bool) (m : Nat) (x : Bx) (lo hi : KT) (L : List HP) (hq : onS lv k pn p) (hl : lv ≤ 500000) (hin : KIn L (.node b p gn m x lo hi))
    (h2 : Ld L ⟨a2, 0, none⟩ (.pointer (some ⟨nb, 0, none⟩))) (h3 : Ld L ⟨a3, 0, none⟩ (.int .i64 (lv : Nat))) (h4 : Ld L ⟨a4, 0, none⟩ (.int .i64 (k : Nat))) (hp : LdN L nb (0 + 0) 3 [.int .i64 pn.id, .int .i64 pn.x, .int .i64 pn.y]) :
    Ctr Try.prog 56 #[.pointer (some ⟨b, 0, none⟩), .pointer (some ⟨ok7, 0, none⟩), .pointer (some ⟨a2, 0, none⟩), .pointer (some ⟨a3, 0, none⟩), .pointer (some ⟨a4, 0, none⟩)] (blk ok7 4 [.bool true] :: L) fun v L' => v = .bool true ∧ L' = blk ok7 4 [.bool true] :: L := by
  obtain ⟨q1, q2, q3, q4, q5, q6, q7, q8, q9, q10⟩ := hin.f
  have hs := side_ctr nb pn p lv
  obtain ⟨e1, e2⟩ := hq
  rw [e1] at hs
  have hne : [p.id, p.x, p.y] ≠ [pn.id, pn.x, pn.y] := fun e => e2 (by
    cases p; cases pn
    simp only [List.cons.injEq, and_true] at e
    simp [e])
  refine Ctr_of (fn := Try.f56) (n := 31) Try.func56 rfl rfl rfl ?_
  intro g F
  (repeat first | refine G_seq ?_ | refine G_skip ?_ | refine G_endblk ?_ | refine G_block ?_ | refine G_exit rfl ?_)
  refine G_region ?_
  refine GO_q rfl rfl (ev_assign rfl) ?_
  refine GO_nil ?_
  (repeat first | refine G_seq ?_ | refine G_skip ?_ | refine G_endblk ?_ | refine G_block ?_ | refine G_exit rfl ?_)
  refine G_draw (.q 0 (.q 1 (.q 2 (.q 3 (.q 4 (.q 5 (.q 6 (.q 7 (.q 9 (.e 8 (.q 10 (.q 11 (.q 12 (.q 13 (.q 14 (.q 15 (.q 16 (.q 17 (.q 18 (.q 19 (.q 20 (.q 21 (.q 22 (.e 23 .nil)))))))))))))))))))))))) (by kernel_rfl) (by kernel_rfl) ?_
  refine RS_q retB_noPanic rfl rfl rfl rfl (ev_load rfl (by repeat' first | exact Ld.blk rfl | assumption | apply Ld.skip | apply Ld.app)) ?_
  refine RS_m retB_noPanic rfl rfl rfl rfl (ev_move rfl) ?_
  refine RS_q_yes retB_noPanic rfl rfl rfl rfl ⟨_, rfl, rfl⟩ rfl (ev_load rfl (by repeat' first | exact Ld.blk rfl | assumption | apply Ld.skip | apply Ld.app)) ?_
  refine RS_m_yes retB_noPanic rfl rfl rfl rfl ⟨_, rfl, rfl⟩ rfl (ev_move rfl) ?_
  (first | refine RS_m_yes retB_noPanic rfl rfl rfl rfl ⟨_, rfl, rfl⟩ rfl (ev_nilCheck rfl) ?_ | refine RS_m_yes retB_noPanic rfl rfl rfl rfl ⟨_, rfl, rfl⟩ rfl (ev_nilCheckF (by simp) rfl) ?_)
  refine RS_m_yes retB_noPanic rfl rfl rfl rfl ⟨_, rfl, rfl⟩ rfl (ev_fieldAddr rfl) ?_
  refine RS_q_yes retB_noPanic rfl rfl rfl rfl ⟨_, rfl, rfl⟩ rfl (ev_loadN rfl (by repeat' first | exact LdN.blk rfl | assumption | apply LdN.skip | apply LdN.app)) ?_
  refine RS_q_yes retB_noPanic rfl rfl rfl rfl ⟨_, rfl, rfl⟩ rfl (ev_load rfl (by repeat' first | exact Ld.blk rfl | assumption | apply Ld.skip | apply Ld.app)) ?_
  refine RS_q_yes retB_noPanic rfl rfl rfl rfl ⟨_, rfl, rfl⟩ rfl (ev_load rfl (by repeat' first | exact Ld.blk rfl | assumption | apply Ld.skip | apply Ld.app)) ?_
  refine RS_e (RE_eff_yes rfl rfl rfl ⟨_, rfl, rfl⟩ rfl (eff_call rfl (hs _ (by repeat' first | exact hp | apply LdN.skip) (by omega))) ?_); rintro _ _ ⟨rfl, rfl⟩; refine ⟨_, fun _ s => s, (by first | ((repeat first | exact fun _ s => s | apply en_keep | apply en_drop | apply en_app) <;> fail) | ((repeat first | exact en_refl | (apply en_blk; focus ((repeat' first | exact Pick.here | apply Pick.skip | apply Pick.app); done); focus rfl) | (apply en_own; focus ((repeat' first | exact Pick.here | apply Pick.skip | apply Pick.app); done); focus rfl) | (apply en_pick; focus ((repeat' first | exact Pick.here | apply Pick.skip | apply Pick.app); done)) | apply en_drop | apply en_app) <;> fail)), ?_⟩
  refine RS_m_yes retB_noPanic rfl rfl rfl rfl ⟨_, rfl, rfl⟩ rfl (ev_eql rfl rfl) ?_
  refine RS_m retB_noPanic rfl rfl rfl rfl (ev_pick_t rfl rfl rfl) ?_
  refine RS_m retB_noPanic rfl rfl rfl rfl (ev_move rfl) ?_
  refine RS_m_yes retB_noPanic rfl rfl rfl rfl ⟨_, rfl, (decide_eq_true rfl)⟩ rfl (ev_move rfl) ?_
  (first | refine RS_m_yes retB_noPanic rfl rfl rfl rfl ⟨_, rfl, (decide_eq_true rfl)⟩ rfl (ev_nilCheck rfl) ?_ | refine RS_m_yes retB_noPanic rfl rfl rfl rfl ⟨_, rfl, (decide_eq_true rfl)⟩ rfl (ev_nilCheckF (by simp) rfl) ?_)
  refine RS_m_yes retB_noPanic rfl rfl rfl rfl ⟨_, rfl, (decide_eq_true rfl)⟩ rfl (ev_fieldAddr rfl) ?_
  refine RS_q_yes retB_noPanic rfl rfl rfl rfl ⟨_, rfl, (decide_eq_true rfl)⟩ rfl (ev_loadN rfl (by repeat' first | exact LdN.blk rfl | assumption | apply LdN.skip | apply LdN.app)) ?_
  refine RS_q_yes retB_noPanic rfl rfl rfl rfl ⟨_, rfl, (decide_eq_true rfl)⟩ rfl (ev_load rfl (by repeat' first | exact Ld.blk rfl | assumption | apply Ld.skip | apply Ld.app)) ?_
  (first | refine RS_m_yes retB_noPanic rfl rfl rfl rfl ⟨_, rfl, (decide_eq_true rfl)⟩ rfl (ev_nilCheck rfl) ?_ | refine RS_m_yes retB_noPanic rfl rfl rfl rfl ⟨_, rfl, (decide_eq_true rfl)⟩ rfl (ev_nilCheckF (by simp) rfl) ?_)
  refine RS_m_yes retB_noPanic rfl rfl rfl rfl ⟨_, rfl, (decide_eq_true rfl)⟩ rfl (ev_fieldAddr rfl) ?_
  refine RS_q_yes retB_noPanic rfl rfl rfl rfl ⟨_, rfl, (decide_eq_true rfl)⟩ rfl (ev_loadN rfl (by repeat' first | exact LdN.blk rfl | assumption | apply LdN.skip | apply LdN.app)) ?_
  refine RS_m_yes retB_noPanic rfl rfl rfl rfl ⟨_, rfl, (decide_eq_true rfl)⟩ rfl (ev_neqT hne rfl rfl rfl rfl rfl rfl) ?_
  refine RS_m retB_noPanic rfl rfl rfl rfl (ev_pick_t rfl (decide_eq_true rfl) rfl) ?_
  refine RS_e (RE_last (by kernel_rfl) rfl rfl rfl (eff_store rfl rfl rfl (by repeat' first | exact Upd.here rfl | apply Upd.skip | apply Upd.app)) ?_); rintro _ _ ⟨rfl, rfl⟩
  all_goals
    (repeat first | refine G_seq ?_ | refine G_skip ?_ | refine G_endblk ?_ | refine G_block ?_ | refine G_exit rfl ?_)
    refine G_region ?_
    refine GO_q rfl rfl (ev_load rfl (by repeat' first | exact Ld.blk rfl | assumption | apply Ld.skip | apply Ld.app)) ?_
    refine GO_q rfl rfl (ev_assign rfl) ?_
    refine GO_nil ?_
    (repeat first | refine G_seq ?_ | refine G_skip ?_ | refine G_endblk ?_ | refine G_block ?_ | refine G_exit rfl ?_)
    exact G_ret (L' := blk ok7 4 [.bool true] :: L) rfl (.tmp rfl .nil) (by (repeat first | exact en_refl | (apply en_blk; focus ((repeat' first | exact Pick.here | apply Pick.skip | apply Pick.app); done); focus rfl) | (apply en_own; focus ((repeat' first | exact Pick.here | apply Pick.skip | apply Pick.app); done); focus rfl) | (apply en_pick; focus ((repeat' first | exact Pick.here | apply Pick.skip | apply Pick.app); done)) | apply en_drop | apply en_app) <;> fail) ⟨rfl, rfl⟩
theorem ksound_ctr : ∀ (T : KT) (lv : Nat) (L : List HP), T.ok lv → KIn L T → T.cnt ≤ 90000 → lv + T.cnt ≤ 400000 → Ctr Try.prog 34 #[.pointer T.addr, .int .i64 (lv : Nat)] L fun v L' => v = .bool true ∧ L' = L
  | .nil, lv, L, ho, hin, hn, hl => by
    refine Ctr_of (fn := Try.f34) (n := 54) Try.func34 rfl rfl rfl ?_
    intro g F
    (repeat first | refine G_seq ?_ | refine G_skip ?_ | refine G_endblk ?_ | refine G_block ?_ | refine G_exit rfl ?_)
    refine G_region ?_
    refine GO_eff rfl rfl (eff_box rfl) ?_; rintro _ _ ⟨b2, rfl, rfl⟩
    refine GO_eff rfl rfl (eff_box rfl) ?_; rintro _ _ ⟨b3, rfl, rfl⟩
    refine GO_q rfl rfl (ev_assign rfl) ?_
    refine GO_nil ?_
    (repeat first | refine G_seq ?_ | refine G_skip ?_ | refine G_endblk ?_ | refine G_block ?_ | refine G_exit rfl ?_)
    refine G_region ?_
    refine GO_q rfl rfl (ev_load rfl (by repeat' first | exact Ld.blk rfl | assumption | apply Ld.skip | apply Ld.app)) ?_
    (first | refine GO_q rfl rfl (ev_eqlNil rfl rfl) ?_ | refine GO_q rfl rfl (ev_eqlPtr rfl rfl) ?_)
    refine GO_nil ?_
    (repeat first | refine G_seq ?_ | refine G_skip ?_ | refine G_endblk ?_ | refine G_block ?_ | refine G_exit rfl ?_)
    refine G_cond_t rfl rfl ?_
    (repeat first | refine G_seq ?_ | refine G_skip ?_ | refine G_endblk ?_ | refine G_block ?_ | refine G_exit rfl ?_)
    refine G_region ?_
    refine GO_q rfl rfl (ev_assign rfl) ?_
    refine GO_nil ?_
    (repeat first | refine G_seq ?_ | refine G_skip ?_ | refine G_endblk ?_ | refine G_block ?_ | refine G_exit rfl ?_)
    refine G_ret rfl (.tmp rfl .nil) (by (repeat first | exact fun _ s => s | apply en_keep | apply en_drop | apply en_app) <;> fail) ⟨rfl, rfl⟩
  | .node n p gn m x lo hi, lv, L, ho, hin, hn, hl => by
    have ih1 := fun M h => ksound_ctr lo (lv + 1) M ho.2.2.1 h
    have ih2 := fun M h => ksound_ctr hi (lv + 1) M ho.2.2.2 h
    obtain ⟨q1, q2, q3, q4, q5, q6, q7, q8, q9, q10⟩ := hin.f
    have q0 := hin.1
    simp only [KT.cnt] at hn hl
    have z1 := ho.2.2.1.size
    have z2 := ho.2.2.2.size
    have hnote := fun b5 M h1 h2 => note_ctr b5 p gn m x lo hi M h1 h2 (by omega) (by omega)
    have em : 1 + lo.size + hi.size = m := by rw [ho.2.1.1]; omega
    rw [em, ← ho.2.1.2.1] at hnote
    have o := sto_ahd lv
    have on : ∀ k, k < 2 → ∀ r ∈ (kidN lo hi k).all, onS lv k p r := by
      intro k hk r hr
      rcases (by omega : k = 0 ∨ k = 1) with rfl | rfl
      · have h := ho.1.1 r hr
        exact ⟨by rw [if_pos h]; rfl, fun e => by subst e; rw [o.irr] at h; cases h⟩
      · have h := ho.1.2 r hr
        have h' : ¬ ahd lv r p = true := fun hh => by have := o.tr h hh; rw [o.irr] at this; cases this
        exact ⟨by rw [if_neg h']; rfl, fun e => by subst e; rw [o.irr] at h; cases h⟩
    refine Ctr_of (fn := Try.f34) (n := 54) Try.func34 rfl rfl rfl ?_
    intro g F
    (repeat first | refine G_seq ?_ | refine G_skip ?_ | refine G_endblk ?_ | refine G_block ?_ | refine G_exit rfl ?_)
    refine G_region ?_
    refine GO_eff rfl rfl (eff_box rfl) ?_; rintro _ _ ⟨b2, rfl, rfl⟩
    refine GO_eff rfl rfl (eff_box rfl) ?_; rintro _ _ ⟨b3, rfl, rfl⟩
    refine GO_q rfl rfl (ev_assign rfl) ?_
    refine GO_nil ?_
    (repeat first | refine G_seq ?_ | refine G_skip ?_ | refine G_endblk ?_ | refine G_block ?_ | refine G_exit rfl ?_)
    refine G_region ?_
    refine GO_q rfl rfl (ev_load rfl (by repeat' first | exact Ld.blk rfl | assumption | apply Ld.skip | apply Ld.app)) ?_
    (first | refine GO_q rfl rfl (ev_eqlNil rfl rfl) ?_ | refine GO_q rfl rfl (ev_eqlPtr rfl rfl) ?_)
    refine GO_nil ?_
    (repeat first | refine G_seq ?_ | refine G_skip ?_ | refine G_endblk ?_ | refine G_block ?_ | refine G_exit rfl ?_)
    refine G_cond_f rfl rfl ?_
    (repeat first | refine G_seq ?_ | refine G_skip ?_ | refine G_endblk ?_ | refine G_block ?_ | refine G_exit rfl ?_)
    refine G_region ?_
    refine GO_q rfl rfl (ev_load rfl (by repeat' first | exact Ld.blk rfl | assumption | apply Ld.skip | apply Ld.app)) ?_
    (first | refine GO_q rfl rfl (ev_nilCheck rfl) ?_ | refine GO_q rfl rfl (ev_nilCheckF (by simp) rfl) ?_)
    refine GO_q rfl rfl (ev_loadN rfl (by repeat' first | exact LdN.blk rfl | assumption | apply LdN.skip | apply LdN.app)) ?_
    refine GO_eff rfl rfl eff_alloc ?_; rintro _ _ ⟨b5, rfl, rfl⟩
    refine GO_eff rfl rfl (eff_storeN rfl rfl rfl rfl (by repeat' first | exact Upd.here rfl | apply Upd.skip | apply Upd.app)) ?_; rintro _ _ ⟨rfl, rfl⟩
    refine GO_nil ?_
    refine G_heap (L' := blk b5 67 (kcC p gn lo.addr hi.addr m x) :: blk b3 3 [.int .i64 (lv : Nat)] :: blk b2 35 [.pointer (some ⟨n, 0, none⟩)] :: F :: L) (by (repeat first | exact en_refl | (apply en_blk; focus ((repeat' first | exact Pick.here | apply Pick.skip | apply Pick.app); done); focus rfl) | (apply en_own; focus ((repeat' first | exact Pick.here | apply Pick.skip | apply Pick.app); done); focus rfl) | (apply en_pick; focus ((repeat' first | exact Pick.here | apply Pick.skip | apply Pick.app); done)) | apply en_drop | apply en_app) <;> fail) ?_
    (repeat first | refine G_seq ?_ | refine G_skip ?_ | refine G_endblk ?_ | refine G_block ?_ | refine G_exit rfl ?_)
    refine G_draw (.q 3 (.q 4 (.q 5 (.br 0 (.q 1 (.q 2 (.q 6 (.e 7 (.e 8 .nil))))) 7 (.e 0 (.q 1 (.q 2 (.q 6 (.e 8 .nil))))))))) (by kernel_rfl) (by kernel_rfl) ?_
    refine RS_q retB_noPanic rfl rfl rfl rfl (ev_load rfl (by repeat' first | exact Ld.blk rfl | assumption | apply Ld.skip | apply Ld.app)) ?_
    (first | refine RS_m retB_noPanic rfl rfl rfl rfl (ev_nilCheck rfl) ?_ | refine RS_m retB_noPanic rfl rfl rfl rfl (ev_nilCheckF (by simp) rfl) ?_)
    refine RS_q retB_noPanic rfl rfl rfl rfl (ev_loadN rfl (by repeat' first | exact LdN.blk rfl | assumption | apply LdN.skip | apply LdN.app)) ?_
    refine RS_br ?x81_0 ?x81_1
    case' x81_1 =>
      refine RE_eff rfl rfl rfl eff_alloc ?_; rintro _ _ ⟨b6, rfl, rfl⟩; refine ⟨_, fun _ s => s, (by first | ((repeat first | exact fun _ s => s | apply en_keep | apply en_drop | apply en_app) <;> fail) | ((repeat first | exact en_refl | (apply en_blk; focus ((repeat' first | exact Pick.here | apply Pick.skip | apply Pick.app); done); focus rfl) | (apply en_own; focus ((repeat' first | exact Pick.here | apply Pick.skip | apply Pick.app); done); focus rfl) | (apply en_pick; focus ((repeat' first | exact Pick.here | apply Pick.skip | apply Pick.app); done)) | apply en_drop | apply en_app) <;> fail)), ?_⟩
      refine RS_e (RE_eff rfl rfl rfl (eff_call rfl (Ctr.pick (by repeat' first | exact Pick.here | apply Pick.skip | apply Pick.app) (hnote b5 _ (by repeat' first | exact q9 | apply KIn.skip) (by repeat' first | exact q10 | apply KIn.skip)))) ?_); rintro _ _ ⟨rfl, rfl⟩; refine ⟨_, fun _ s => s, (by first | ((repeat first | exact fun _ s => s | apply en_keep | apply en_drop | apply en_app) <;> fail) | ((repeat first | exact en_refl | (apply en_blk; focus ((repeat' first | exact Pick.here | apply Pick.skip | apply Pick.app); done); focus rfl) | (apply en_own; focus ((repeat' first | exact Pick.here | apply Pick.skip | apply Pick.app); done); focus rfl) | (apply en_pick; focus ((repeat' first | exact Pick.here | apply Pick.skip | apply Pick.app); done)) | apply en_drop | apply en_app) <;> fail)), ?_⟩
      (first | refine RS_m retB_noPanic rfl rfl rfl rfl (ev_nilCheck rfl) ?_ | refine RS_m retB_noPanic rfl rfl rfl rfl (ev_nilCheckF (by simp) rfl) ?_)
      refine RS_q retB_noPanic rfl rfl rfl rfl (ev_loadN rfl (by repeat' first | exact LdN.blk rfl | assumption | apply LdN.skip | apply LdN.app)) ?_
      refine RS_m retB_noPanic rfl rfl rfl rfl (ev_eqlR rfl rfl rfl) ?_
      refine RS_e (RE_cmp (by kernel_rfl) rfl rfl rfl (eff_store rfl rfl rfl (by repeat' first | exact Upd.here rfl | apply Upd.skip | apply Upd.app)) ?_); rintro _ _ ⟨rfl, rfl⟩
      refine RS_nil ?_
    case' x81_0 =>
      refine RE_eff rfl rfl rfl (eff_call rfl (Ctr.pick (by repeat' first | exact Pick.here | apply Pick.skip | apply Pick.app) (hnote b5 _ (by repeat' first | exact q9 | apply KIn.skip) (by repeat' first | exact q10 | apply KIn.skip)))) ?_; rintro _ _ ⟨rfl, rfl⟩; refine ⟨_, fun _ s => s, (by first | ((repeat first | exact fun _ s => s | apply en_keep | apply en_drop | apply en_app) <;> fail) | ((repeat first | exact en_refl | (apply en_blk; focus ((repeat' first | exact Pick.here | apply Pick.skip | apply Pick.app); done); focus rfl) | (apply en_own; focus ((repeat' first | exact Pick.here | apply Pick.skip | apply Pick.app); done); focus rfl) | (apply en_pick; focus ((repeat' first | exact Pick.here | apply Pick.skip | apply Pick.app); done)) | apply en_drop | apply en_app) <;> fail)), ?_⟩
      (first | refine RS_m retB_noPanic rfl rfl rfl rfl (ev_nilCheck rfl) ?_ | refine RS_m retB_noPanic rfl rfl rfl rfl (ev_nilCheckF (by simp) rfl) ?_)
      refine RS_q retB_noPanic rfl rfl rfl rfl (ev_loadN rfl (by repeat' first | exact LdN.blk rfl | assumption | apply LdN.skip | apply LdN.app)) ?_
      refine RS_m retB_noPanic rfl rfl rfl rfl (ev_eqlR rfl rfl rfl) ?_
      refine RS_e (RE_eff rfl rfl rfl eff_alloc ?_); rintro _ _ ⟨b6, rfl, rfl⟩; refine ⟨_, fun _ s => s, (by first | ((repeat first | exact fun _ s => s | apply en_keep | apply en_drop | apply en_app) <;> fail) | ((repeat first | exact en_refl | (apply en_blk; focus ((repeat' first | exact Pick.here | apply Pick.skip | apply Pick.app); done); focus rfl) | (apply en_own; focus ((repeat' first | exact Pick.here | apply Pick.skip | apply Pick.app); done); focus rfl) | (apply en_pick; focus ((repeat' first | exact Pick.here | apply Pick.skip | apply Pick.app); done)) | apply en_drop | apply en_app) <;> fail)), ?_⟩
      refine RS_e (RE_cmp (by kernel_rfl) rfl rfl rfl (eff_store rfl rfl rfl (by repeat' first | exact Upd.here rfl | apply Upd.skip | apply Upd.app)) ?_); rintro _ _ ⟨rfl, rfl⟩
      refine RS_nil ?_
    all_goals
      refine G_heap (L' := blk b6 4 [.bool true] :: blk b3 3 [.int .i64 (lv : Nat)] :: blk b2 35 [.pointer (some ⟨n, 0, none⟩)] :: F :: L) (by (repeat first | exact en_refl | (apply en_blk; focus ((repeat' first | exact Pick.here | apply Pick.skip | apply Pick.app); done); focus rfl) | (apply en_own; focus ((repeat' first | exact Pick.here | apply Pick.skip | apply Pick.app); done); focus rfl) | (apply en_pick; focus ((repeat' first | exact Pick.here | apply Pick.skip | apply Pick.app); done)) | apply en_drop | apply en_app) <;> fail) ?_
      (repeat first | refine G_seq ?_ | refine G_skip ?_ | refine G_endblk ?_ | refine G_block ?_ | refine G_exit rfl ?_)
      refine G_region ?_
      refine GO_q rfl rfl (ev_load rfl (by repeat' first | exact Ld.blk rfl | assumption | apply Ld.skip | apply Ld.app)) ?_
      (first | refine GO_q rfl rfl (ev_nilCheck rfl) ?_ | refine GO_q rfl rfl (ev_nilCheckF (by simp) rfl) ?_)
      refine GO_q rfl rfl (ev_fieldAddr rfl) ?_
      refine GO_q rfl rfl (ev_loadN rfl (by repeat' first | exact LdN.blk rfl | assumption | apply LdN.skip | apply LdN.app)) ?_
      refine GO_q rfl rfl (ev_move rfl) ?_
      refine GO_nil ?_
      (repeat first | refine G_seq ?_ | refine G_skip ?_ | refine G_endblk ?_ | refine G_block ?_ | refine G_exit rfl ?_)
      refine G_loop (ι := Nat) (fun k => [(2, .pointer (some ⟨b2, 0, none⟩)), (3, .pointer (some ⟨b3, 0, none⟩)), (6, .pointer (some ⟨b6, 0, none⟩)), (24, .agg #[.pointer lo.addr, .pointer hi.addr]), (25, .int .i64 (k : Nat))]) (fun _ => blk b6 4 [.bool true] :: blk b3 3 [.int .i64 (lv : Nat)] :: blk b2 35 [.pointer (some ⟨n, 0, none⟩)] :: F :: L) (fun k => k ≤ 2) (fun k => 2 - k) 0 (by decide) ⟨rfl, rfl, rfl, rfl, rfl, trivial⟩ (by (repeat first | exact en_refl | (apply en_blk; focus ((repeat' first | exact Pick.here | apply Pick.skip | apply Pick.app); done); focus rfl) | (apply en_own; focus ((repeat' first | exact Pick.here | apply Pick.skip | apply Pick.app); done); focus rfl) | (apply en_pick; focus ((repeat' first | exact Pick.here | apply Pick.skip | apply Pick.app); done)) | apply en_drop | apply en_app) <;> fail) ?_
      rintro k hk
      have hk3 : k < 2 → ([.pointer lo.addr, .pointer hi.addr] : List Value)[k * 1]? = some (.pointer (kidN lo hi k).addr) := fun h => by
        rcases (by omega : k = 0 ∨ k = 1) with rfl | rfl <;> rfl
      have hi3 : KIn L (kidN lo hi k) := by
        unfold kidN; split
        · exact q9
        · exact q10
      (repeat first | refine G_seq ?_ | refine G_skip ?_ | refine G_endblk ?_ | refine G_block ?_ | refine G_exit rfl ?_)
      refine G_region ?_
      (first | refine GO_q rfl rfl (ev_lssN (q := 2) rfl rfl) ?_ | refine GO_q rfl rfl (ev_lss rfl rfl) ?_)
      refine GO_nil ?_
      (repeat first | refine G_seq ?_ | refine G_skip ?_ | refine G_endblk ?_ | refine G_block ?_ | refine G_exit rfl ?_)
      refine G_cond rfl (fun h1 => ?_) (fun h1 => ?_)
      · have hk2 : k < 2 := by omega
        have e3 := hk3 hk2
        have e4 := on k hk2
        generalize kidN lo hi k = T at e3 e4 hi3
        (repeat first | refine G_seq ?_ | refine G_skip ?_ | refine G_endblk ?_ | refine G_block ?_ | refine G_exit rfl ?_)
        refine G_region ?_
        refine GO_q rfl rfl (ev_move rfl) ?_
        refine GO_q rfl rfl (ev_indexA (cs := [.pointer lo.addr, .pointer hi.addr]) (i := k) rfl rfl (by omega) e3) ?_
        refine GO_eff rfl rfl eff_alloc ?_; rintro _ _ ⟨b7, rfl, rfl⟩
        refine GO_eff rfl rfl (eff_store rfl rfl rfl (by repeat' first | exact Upd.here rfl | apply Upd.skip | apply Upd.app)) ?_; rintro _ _ ⟨rfl, rfl⟩
        refine GO_q rfl rfl (ev_assign rfl) ?_
        refine GO_nil ?_
        refine G_heap (L' := blk b6 4 [.bool true] :: blk b7 3 [.int .i64 (k : Nat)] :: blk b3 3 [.int .i64 (lv : Nat)] :: blk b2 35 [.pointer (some ⟨n, 0, none⟩)] :: F :: L) (by (repeat first | exact en_refl | (apply en_blk; focus ((repeat' first | exact Pick.here | apply Pick.skip | apply Pick.app); done); focus rfl) | (apply en_own; focus ((repeat' first | exact Pick.here | apply Pick.skip | apply Pick.app); done); focus rfl) | (apply en_pick; focus ((repeat' first | exact Pick.here | apply Pick.skip | apply Pick.app); done)) | apply en_drop | apply en_app) <;> fail) ?_
        have he := keach_ctr (α := Unit) (fid := 56) (c1 := []) (c2 := [.pointer (some ⟨b6, 0, none⟩), .pointer (some ⟨b2, 0, none⟩), .pointer (some ⟨b3, 0, none⟩), .pointer (some ⟨b7, 0, none⟩)]) (fun _ => blk b6 4 [.bool true]) (blk b7 3 [.int .i64 (k : Nat)] :: blk b3 3 [.int .i64 (lv : Nat)] :: blk b2 35 [.pointer (some ⟨n, 0, none⟩)] :: F :: L) (fun _ _ _ _ => (true, ())) (fun _ _ => True) (onS lv k p) (fun _ _ _ _ _ _ => trivial) (fun _ _ _ _ _ => trivial)
          (fun s n' b p' gn' m' x' lo' hi' h hq hi2 => soundF_ctr p lv k b6 b2 b3 b7 n b p' gn' m' x' lo' hi' _ hq (by omega) hi2 (by repeat' first | exact Ld.blk rfl | apply Ld.skip) (by repeat' first | exact Ld.blk rfl | apply Ld.skip) (by repeat' first | exact Ld.blk rfl | apply Ld.skip) (by repeat' first | exact q1 | apply LdN.skip)) T () 0 trivial e4 (by repeat' first | exact hi3 | apply KIn.skip)
        (repeat first | refine G_seq ?_ | refine G_skip ?_ | refine G_endblk ?_ | refine G_block ?_ | refine G_exit rfl ?_)
        refine G_region ?_
        refine GO_q rfl rfl (ev_move rfl) ?_
        refine GO_q rfl rfl (ev_makeFunc rfl rfl) ?_
        refine GO_eff rfl rfl (eff_call rfl (he)) ?_; rintro _ _ ⟨rfl, rfl⟩
        refine GO_nil ?_
        (repeat first | refine G_seq ?_ | refine G_skip ?_ | refine G_endblk ?_ | refine G_block ?_ | refine G_exit rfl ?_)
        refine G_region ?_
        (first | refine GO_q rfl rfl (ev_addN (q := 1) rfl rfl (by first | omega | (simp; done) | (simp; omega))) ?_ | refine GO_q rfl rfl (ev_add rfl rfl (by first | omega | (simp; done) | (simp; omega))) ?_)
        refine GO_q rfl rfl (ev_move rfl) ?_
        refine GO_nil ?_
        (repeat first | refine G_seq ?_ | refine G_skip ?_ | refine G_endblk ?_ | refine G_block ?_ | refine G_exit rfl ?_)
        exact G_round (k + 1) (by show k + 1 ≤ 2; omega) (by show 2 - (k + 1) < 2 - k; omega) ⟨rfl, rfl, rfl, rfl, rfl, trivial⟩ (by (repeat first | exact en_refl | (apply en_blk; focus ((repeat' first | exact Pick.here | apply Pick.skip | apply Pick.app); done); focus rfl) | (apply en_own; focus ((repeat' first | exact Pick.here | apply Pick.skip | apply Pick.app); done); focus rfl) | (apply en_pick; focus ((repeat' first | exact Pick.here | apply Pick.skip | apply Pick.app); done)) | apply en_drop | apply en_app) <;> fail)
      · have hr1 := fun M h => ih1 M h (by omega) (by omega)
        have hr2 := fun M h => ih2 M h (by omega) (by omega)
        (repeat first | refine G_seq ?_ | refine G_skip ?_ | refine G_endblk ?_ | refine G_block ?_ | refine G_exit rfl ?_)
        refine G_draw (.q 0 (.q 1 (.q 2 (.q 3 (.q 4 (.q 5 (.q 6 (.q 7 (.q 8 (.e 9 (.q 10 (.q 11 (.q 12 (.q 13 (.q 14 (.q 15 (.q 16 (.q 17 (.q 18 (.e 19 (.q 20 (.q 21 .nil)))))))))))))))))))))) (by kernel_rfl) (by kernel_rfl) ?_
        refine RS_q retB_noPanic rfl rfl rfl rfl (ev_load rfl (by repeat' first | exact Ld.blk rfl | assumption | apply Ld.skip | apply Ld.app)) ?_
        refine RS_m retB_noPanic rfl rfl rfl rfl (ev_move rfl) ?_
        refine RS_q_yes retB_noPanic rfl rfl rfl rfl ⟨_, rfl, rfl⟩ rfl (ev_load rfl (by repeat' first | exact Ld.blk rfl | assumption | apply Ld.skip | apply Ld.app)) ?_
        (first | refine RS_m_yes retB_noPanic rfl rfl rfl rfl ⟨_, rfl, rfl⟩ rfl (ev_nilCheck rfl) ?_ | refine RS_m_yes retB_noPanic rfl rfl rfl rfl ⟨_, rfl, rfl⟩ rfl (ev_nilCheckF (by simp) rfl) ?_)
        refine RS_m_yes retB_noPanic rfl rfl rfl rfl ⟨_, rfl, rfl⟩ rfl (ev_fieldAddr rfl) ?_
        refine RS_m_yes retB_noPanic rfl rfl rfl rfl ⟨_, rfl, rfl⟩ rfl (ev_indexAddrA rfl rfl (by first | omega | (simp; done) | (simp; omega)) (by first | omega | (simp; done) | (simp; omega))) ?_
        refine RS_q_yes retB_noPanic rfl rfl rfl rfl ⟨_, rfl, rfl⟩ rfl (ev_load rfl (by repeat' first | exact Ld.blk rfl | assumption | apply Ld.skip | apply Ld.app)) ?_
        refine RS_q_yes retB_noPanic rfl rfl rfl rfl ⟨_, rfl, rfl⟩ rfl (ev_load rfl (by repeat' first | exact Ld.blk rfl | assumption | apply Ld.skip | apply Ld.app)) ?_
        (first | refine RS_m_yes retB_noPanic rfl rfl rfl rfl ⟨_, rfl, rfl⟩ rfl (ev_addN (q := 1) rfl rfl (by first | omega | (simp; done) | (simp; omega))) ?_ | refine RS_m_yes retB_noPanic rfl rfl rfl rfl ⟨_, rfl, rfl⟩ rfl (ev_add rfl rfl (by first | omega | (simp; done) | (simp; omega))) ?_)
        refine RS_e (RE_eff_yes rfl rfl rfl ⟨_, rfl, rfl⟩ rfl (eff_call rfl (hr1 _ (by repeat' first | exact q9 | apply KIn.skip))) ?_); rintro _ _ ⟨rfl, rfl⟩; refine ⟨_, fun _ s => s, (by first | ((repeat first | exact fun _ s => s | apply en_keep | apply en_drop | apply en_app) <;> fail) | ((repeat first | exact en_refl | (apply en_blk; focus ((repeat' first | exact Pick.here | apply Pick.skip | apply Pick.app); done); focus rfl) | (apply en_own; focus ((repeat' first | exact Pick.here | apply Pick.skip | apply Pick.app); done); focus rfl) | (apply en_pick; focus ((repeat' first | exact Pick.here | apply Pick.skip | apply Pick.app); done)) | apply en_drop | apply en_app) <;> fail)), ?_⟩
        refine RS_m retB_noPanic rfl rfl rfl rfl (ev_pick_t rfl rfl rfl) ?_
        refine RS_m retB_noPanic rfl rfl rfl rfl (ev_move rfl) ?_
        refine RS_q_yes retB_noPanic rfl rfl rfl rfl ⟨_, rfl, rfl⟩ rfl (ev_load rfl (by repeat' first | exact Ld.blk rfl | assumption | apply Ld.skip | apply Ld.app)) ?_
        (first | refine RS_m_yes retB_noPanic rfl rfl rfl rfl ⟨_, rfl, rfl⟩ rfl (ev_nilCheck rfl) ?_ | refine RS_m_yes retB_noPanic rfl rfl rfl rfl ⟨_, rfl, rfl⟩ rfl (ev_nilCheckF (by simp) rfl) ?_)
        refine RS_m_yes retB_noPanic rfl rfl rfl rfl ⟨_, rfl, rfl⟩ rfl (ev_fieldAddr rfl) ?_
        refine RS_m_yes retB_noPanic rfl rfl rfl rfl ⟨_, rfl, rfl⟩ rfl (ev_indexAddrA rfl rfl (by first | omega | (simp; done) | (simp; omega)) (by first | omega | (simp; done) | (simp; omega))) ?_
        refine RS_q_yes retB_noPanic rfl rfl rfl rfl ⟨_, rfl, rfl⟩ rfl (ev_load rfl (by repeat' first | exact Ld.blk rfl | assumption | apply Ld.skip | apply Ld.app)) ?_
        refine RS_q_yes retB_noPanic rfl rfl rfl rfl ⟨_, rfl, rfl⟩ rfl (ev_load rfl (by repeat' first | exact Ld.blk rfl | assumption | apply Ld.skip | apply Ld.app)) ?_
        (first | refine RS_m_yes retB_noPanic rfl rfl rfl rfl ⟨_, rfl, rfl⟩ rfl (ev_addN (q := 1) rfl rfl (by first | omega | (simp; done) | (simp; omega))) ?_ | refine RS_m_yes retB_noPanic rfl rfl rfl rfl ⟨_, rfl, rfl⟩ rfl (ev_add rfl rfl (by first | omega | (simp; done) | (simp; omega))) ?_)
        refine RS_e (RE_eff_yes rfl rfl rfl ⟨_, rfl, rfl⟩ rfl (eff_call rfl (hr2 _ (by repeat' first | exact q10 | apply KIn.skip))) ?_); rintro _ _ ⟨rfl, rfl⟩; refine ⟨_, fun _ s => s, (by first | ((repeat first | exact fun _ s => s | apply en_keep | apply en_drop | apply en_app) <;> fail) | ((repeat first | exact en_refl | (apply en_blk; focus ((repeat' first | exact Pick.here | apply Pick.skip | apply Pick.app); done); focus rfl) | (apply en_own; focus ((repeat' first | exact Pick.here | apply Pick.skip | apply Pick.app); done); focus rfl) | (apply en_pick; focus ((repeat' first | exact Pick.here | apply Pick.skip | apply Pick.app); done)) | apply en_drop | apply en_app) <;> fail)), ?_⟩
        refine RS_m retB_noPanic rfl rfl rfl rfl (ev_pick_t rfl rfl rfl) ?_
        refine RS_m retB_noPanic rfl rfl rfl rfl (ev_assign rfl) ?_
        refine RS_nil ?_
        all_goals
          (repeat first | refine G_seq ?_ | refine G_skip ?_ | refine G_endblk ?_ | refine G_block ?_ | refine G_exit rfl ?_)
          exact G_ret (L' := L) rfl (.tmp rfl .nil) (by (repeat first | exact en_refl | (apply en_blk; focus ((repeat' first | exact Pick.here | apply Pick.skip | apply Pick.app); done); focus rfl) | (apply en_own; focus ((repeat' first | exact Pick.here | apply Pick.skip | apply Pick.app); done); focus rfl) | (apply en_pick; focus ((repeat' first | exact Pick.here | apply Pick.skip | apply Pick.app); done)) | apply en_drop | apply en_app) <;> fail) ⟨rfl, rfl⟩
end Go.Proofs.Ytjgdhkilnalejaa
/- A tree of points by two orders in turn: how deep it may be, Check. -/
namespace Go.Proofs.Ytjgdhkilnalejaa
attribute [local irreducible] sat
open Go.RowKit
set_option linter.unusedVariables false
set_option linter.unusedSimpArgs false
set_option maxRecDepth 100000

/-- Three of four again and again. -/
def bnd : Nat → Nat → Nat
  | 0, _ => 0
  | f + 1, n => if n < 1 then 0 else bnd f (3 * n / 4) + 1
theorem bnd_fuel : ∀ (f g n : Nat), n ≤ f → n ≤ g → bnd f n = bnd g n
  | 0, 0, n, _, _ => rfl
  | 0, g + 1, n, h, _ => by
    have : n = 0 := by omega
    subst this; rfl
  | f + 1, 0, n, _, h => by
    have : n = 0 := by omega
    subst this; rfl
  | f + 1, g + 1, n, h1, h2 => by
    unfold bnd
    by_cases h : n < 1
    · rw [if_pos h, if_pos h]
    · rw [if_neg h, if_neg h, bnd_fuel f g (3 * n / 4) (by omega) (by omega)]
def bnd1 (n : Nat) : Nat := bnd n n
theorem bnd1_zero : bnd1 0 = 0 := rfl
theorem bnd1_step {n : Nat} (h : 1 ≤ n) : bnd1 n = bnd1 (3 * n / 4) + 1 := by
  unfold bnd1
  obtain ⟨m, rfl⟩ : ∃ m, n = m + 1 := ⟨n - 1, by omega⟩
  conv => lhs; unfold bnd
  rw [if_neg (by omega), bnd_fuel m (3 * (m + 1) / 4) _ (by omega) (Nat.le_refl _)]
theorem bnd1_mono : ∀ (m n : Nat), n ≤ m → bnd1 n ≤ bnd1 m := by
  intro m
  induction m using Nat.strongRecOn with
  | _ m ih =>
    intro n hn
    rcases Nat.eq_zero_or_pos n with h | h
    · subst h; exact Nat.zero_le _
    · rw [bnd1_step h, bnd1_step (n := m) (by omega)]
      have := ih (3 * m / 4) (by omega) (3 * n / 4) (by omega)
      omega
/-- How deep a tree of so many may be. -/
def bound (n : Nat) : Nat := if n < 1 then 0 else bnd1 n + 1
theorem bnd1_small : bnd1 9223372036854775807 ≤ 190 := by decide +kernel
theorem KT.ok.bnd {T : KT} {lv : Nat} (h : T.ok lv) : T.depth ≤ bound T.cnt := by
  have := h.dep bnd1 bnd1_mono (fun n hn => bnd1_step hn)
  unfold bound
  split
  · have := T.depth_cnt; omega
  · omega
theorem kBound_ctr (n : Int) (L : List HP) (hn : n ≤ 9223372036854775807) : Ctr Try.prog 22 #[.int .i64 n] L fun v L' => v = .int .i64 (bound n.toNat : Nat) ∧ L' = L := by
  by_cases h0 : n < 1
  · have e : bound n.toNat = 0 := by unfold bound; rw [if_pos (by omega)]
    rw [e]
    refine Ctr_of (fn := Try.f22) (n := 15) Try.func22 rfl rfl rfl ?_
    intro g F
    (repeat first | refine G_seq ?_ | refine G_skip ?_ | refine G_endblk ?_ | refine G_block ?_ | refine G_exit rfl ?_)
    refine G_region ?_
    refine GO_q rfl rfl (ev_assign rfl) ?_
    refine GO_nil ?_
    (repeat first | refine G_seq ?_ | refine G_skip ?_ | refine G_endblk ?_ | refine G_block ?_ | refine G_exit rfl ?_)
    refine G_region ?_
    refine GO_q rfl rfl (ev_move rfl) ?_
    (first | refine GO_q rfl rfl (ev_lssN (q := 1) rfl rfl) ?_ | refine GO_q rfl rfl (ev_lss rfl rfl) ?_)
    refine GO_nil ?_
    (repeat first | refine G_seq ?_ | refine G_skip ?_ | refine G_endblk ?_ | refine G_block ?_ | refine G_exit rfl ?_)
    refine G_cond_t rfl (decide_eq_true h0) ?_
    (repeat first | refine G_seq ?_ | refine G_skip ?_ | refine G_endblk ?_ | refine G_block ?_ | refine G_exit rfl ?_)
    refine G_region ?_
    refine GO_q rfl rfl (ev_assign rfl) ?_
    refine GO_nil ?_
    (repeat first | refine G_seq ?_ | refine G_skip ?_ | refine G_endblk ?_ | refine G_block ?_ | refine G_exit rfl ?_)
    refine G_ret rfl (.tmp rfl .nil) (by (repeat first | exact fun _ s => s | apply en_keep | apply en_drop | apply en_app) <;> fail) ⟨rfl, rfl⟩
  · obtain ⟨n, rfl⟩ : ∃ m : Nat, n = (m : Int) := ⟨n.toNat, by omega⟩
    rw [Int.toNat_natCast]
    have hb : bnd1 n ≤ 190 := Nat.le_trans (bnd1_mono _ _ (by omega)) bnd1_small
    have hst := bnd1_step (n := n) (by omega)
    have hst : bnd1 n = bnd1 (prt n) + 1 := hst
    refine Ctr_of (fn := Try.f22) (n := 15) Try.func22 rfl rfl rfl ?_
    intro g F
    (repeat first | refine G_seq ?_ | refine G_skip ?_ | refine G_endblk ?_ | refine G_block ?_ | refine G_exit rfl ?_)
    refine G_region ?_
    refine GO_q rfl rfl (ev_assign rfl) ?_
    refine GO_nil ?_
    (repeat first | refine G_seq ?_ | refine G_skip ?_ | refine G_endblk ?_ | refine G_block ?_ | refine G_exit rfl ?_)
    refine G_region ?_
    refine GO_q rfl rfl (ev_move rfl) ?_
    (first | refine GO_q rfl rfl (ev_lssN (q := 1) rfl rfl) ?_ | refine GO_q rfl rfl (ev_lss rfl rfl) ?_)
    refine GO_nil ?_
    (repeat first | refine G_seq ?_ | refine G_skip ?_ | refine G_endblk ?_ | refine G_block ?_ | refine G_exit rfl ?_)
    refine G_cond_f rfl (decide_eq_false (by omega)) ?_
    (repeat first | refine G_seq ?_ | refine G_skip ?_ | refine G_endblk ?_ | refine G_block ?_ | refine G_exit rfl ?_)
    refine G_region ?_
    refine GO_q rfl rfl (ev_assign rfl) ?_
    refine GO_nil ?_
    (repeat first | refine G_seq ?_ | refine G_skip ?_ | refine G_endblk ?_ | refine G_block ?_ | refine G_exit rfl ?_)
    refine G_region ?_
    refine GO_q rfl rfl (ev_move rfl) ?_
    refine GO_eff rfl rfl (eff_call rfl (kpart_ctr n _ (by omega))) ?_; rintro _ _ ⟨rfl, rfl⟩
    refine GO_q rfl rfl (ev_assign rfl) ?_
    refine GO_nil ?_
    (repeat first | refine G_seq ?_ | refine G_skip ?_ | refine G_endblk ?_ | refine G_block ?_ | refine G_exit rfl ?_)
    refine G_loop (ι := Nat × Nat) (fun x => [(0, .int .i64 (x.1 : Nat)), (3, .int .i64 (x.2 : Nat))]) (fun _ => F :: L) (fun x => x.2 + bnd1 x.1 = 1 + bnd1 n ∧ x.1 ≤ n) (fun x => x.1) (prt n, 2) ⟨by simp only; omega, by simp only [prt]; omega⟩ ⟨rfl, rfl, trivial⟩ (by (repeat first | exact fun _ s => s | apply en_keep | apply en_drop | apply en_app) <;> fail) ?_
    rintro ⟨m, k⟩ ⟨f1, f2⟩
    simp only at f1 f2
    dsimp only
    (repeat first | refine G_seq ?_ | refine G_skip ?_ | refine G_endblk ?_ | refine G_block ?_ | refine G_exit rfl ?_)
    refine G_region ?_
    refine GO_q rfl rfl (ev_move rfl) ?_
    refine GO_q rfl rfl (ev_geq rfl rfl) ?_
    refine GO_nil ?_
    by_cases h1 : m < 1
    · have e : m = 0 := by omega
      subst e
      (repeat first | refine G_seq ?_ | refine G_skip ?_ | refine G_endblk ?_ | refine G_block ?_ | refine G_exit rfl ?_)
      refine G_cond_f rfl rfl ?_
      (repeat first | refine G_seq ?_ | refine G_skip ?_ | refine G_endblk ?_ | refine G_block ?_ | refine G_exit rfl ?_)
      refine G_region ?_
      refine GO_q rfl rfl (ev_move rfl) ?_
      refine GO_q rfl rfl (ev_assign rfl) ?_
      refine GO_nil ?_
      have ek : k = bound n := by
        unfold bound
        rw [if_neg (by omega)]
        rw [bnd1_zero] at f1
        omega
      rw [ek]
      (repeat first | refine G_seq ?_ | refine G_skip ?_ | refine G_endblk ?_ | refine G_block ?_ | refine G_exit rfl ?_)
      refine G_ret rfl (.tmp rfl .nil) (by (repeat first | exact fun _ s => s | apply en_keep | apply en_drop | apply en_app) <;> fail) ⟨rfl, rfl⟩
    · (repeat first | refine G_seq ?_ | refine G_skip ?_ | refine G_endblk ?_ | refine G_block ?_ | refine G_exit rfl ?_)
      refine G_cond_t rfl (decide_eq_true (by omega)) ?_
      have hs2 := bnd1_step (n := m) (by omega)
      have hs2 : bnd1 m = bnd1 (prt m) + 1 := hs2
      have hpm : prt m ≤ m ∧ prt m < m := by unfold prt; omega
      (repeat first | refine G_seq ?_ | refine G_skip ?_ | refine G_endblk ?_ | refine G_block ?_ | refine G_exit rfl ?_)
      refine G_region ?_
      refine GO_q rfl rfl (ev_move rfl) ?_
      (first | refine GO_q rfl rfl (ev_addN (q := 1) rfl rfl (by first | omega | (simp; done) | (simp; omega))) ?_ | refine GO_q rfl rfl (ev_add rfl rfl (by first | omega | (simp; done) | (simp; omega))) ?_)
      refine GO_q rfl rfl (ev_assign rfl) ?_
      refine GO_nil ?_
      (repeat first | refine G_seq ?_ | refine G_skip ?_ | refine G_endblk ?_ | refine G_block ?_ | refine G_exit rfl ?_)
      refine G_region ?_
      refine GO_q rfl rfl (ev_move rfl) ?_
      refine GO_eff rfl rfl (eff_call rfl (kpart_ctr m _ (by omega))) ?_; rintro _ _ ⟨rfl, rfl⟩
      refine GO_q rfl rfl (ev_assign rfl) ?_
      refine GO_nil ?_
      (repeat first | refine G_seq ?_ | refine G_skip ?_ | refine G_endblk ?_ | refine G_block ?_ | refine G_exit rfl ?_)
      exact G_round (prt m, k + 1) ⟨by simp only; omega, by simp only; omega⟩ (by simp only; omega) ⟨rfl, rfl, trivial⟩ (by (repeat first | exact fun _ s => s | apply en_keep | apply en_drop | apply en_app) <;> fail)
theorem RBound_ctr (n : Int) (L : List HP) (hn : n ≤ 9223372036854775807) : Ctr Try.prog 12 #[.int .i64 n] L fun v L' => v = .int .i64 (bound n.toNat : Nat) ∧ L' = L := by
  by_cases h0 : n < 1
  · have e : bound n.toNat = 0 := by unfold bound; rw [if_pos (by omega)]
    rw [e]
    refine Ctr_of (fn := Try.f12) (n := 29) Try.func12 rfl rfl rfl ?_
    intro g F
    (repeat first | refine G_seq ?_ | refine G_skip ?_ | refine G_endblk ?_ | refine G_block ?_ | refine G_exit rfl ?_)
    refine G_region ?_
    refine GO_q rfl rfl (ev_assign rfl) ?_
    refine GO_nil ?_
    (repeat first | refine G_seq ?_ | refine G_skip ?_ | refine G_endblk ?_ | refine G_block ?_ | refine G_exit rfl ?_)
    refine G_region ?_
    refine GO_q rfl rfl (ev_move rfl) ?_
    (first | refine GO_q rfl rfl (ev_lssN (q := 1) rfl rfl) ?_ | refine GO_q rfl rfl (ev_lss rfl rfl) ?_)
    refine GO_nil ?_
    (repeat first | refine G_seq ?_ | refine G_skip ?_ | refine G_endblk ?_ | refine G_block ?_ | refine G_exit rfl ?_)
    refine G_cond_t rfl (decide_eq_true h0) ?_
    (repeat first | refine G_seq ?_ | refine G_skip ?_ | refine G_endblk ?_ | refine G_block ?_ | refine G_exit rfl ?_)
    refine G_region ?_
    refine GO_q rfl rfl (ev_assign rfl) ?_
    refine GO_nil ?_
    (repeat first | refine G_seq ?_ | refine G_skip ?_ | refine G_endblk ?_ | refine G_block ?_ | refine G_exit rfl ?_)
    refine G_ret rfl (.tmp rfl .nil) (by (repeat first | exact fun _ s => s | apply en_keep | apply en_drop | apply en_app) <;> fail) ⟨rfl, rfl⟩
  · obtain ⟨n, rfl⟩ : ∃ m : Nat, n = (m : Int) := ⟨n.toNat, by omega⟩
    rw [Int.toNat_natCast]
    have hb : bnd1 n ≤ 190 := Nat.le_trans (bnd1_mono _ _ (by omega)) bnd1_small
    refine Ctr_of (fn := Try.f12) (n := 29) Try.func12 rfl rfl rfl ?_
    intro g F
    (repeat first | refine G_seq ?_ | refine G_skip ?_ | refine G_endblk ?_ | refine G_block ?_ | refine G_exit rfl ?_)
    refine G_region ?_
    refine GO_q rfl rfl (ev_assign rfl) ?_
    refine GO_nil ?_
    (repeat first | refine G_seq ?_ | refine G_skip ?_ | refine G_endblk ?_ | refine G_block ?_ | refine G_exit rfl ?_)
    refine G_region ?_
    refine GO_q rfl rfl (ev_move rfl) ?_
    (first | refine GO_q rfl rfl (ev_lssN (q := 1) rfl rfl) ?_ | refine GO_q rfl rfl (ev_lss rfl rfl) ?_)
    refine GO_nil ?_
    (repeat first | refine G_seq ?_ | refine G_skip ?_ | refine G_endblk ?_ | refine G_block ?_ | refine G_exit rfl ?_)
    refine G_cond_f rfl (decide_eq_false (by omega)) ?_
    (repeat first | refine G_seq ?_ | refine G_skip ?_ | refine G_endblk ?_ | refine G_block ?_ | refine G_exit rfl ?_)
    refine G_region ?_
    refine GO_q rfl rfl (ev_assign rfl) ?_
    refine GO_nil ?_
    (repeat first | refine G_seq ?_ | refine G_skip ?_ | refine G_endblk ?_ | refine G_block ?_ | refine G_exit rfl ?_)
    refine G_region ?_
    refine GO_q rfl rfl (ev_assign rfl) ?_
    refine GO_nil ?_
    (repeat first | refine G_seq ?_ | refine G_skip ?_ | refine G_endblk ?_ | refine G_block ?_ | refine G_exit rfl ?_)
    refine G_loop (ι := Nat × Nat) (fun x => [(0, .int .i64 (x.1 : Nat)), (3, .int .i64 ((x.2 + 2 : Nat) : Int)), (4, .int .i64 (x.2 : Nat))]) (fun _ => F :: L) (fun x => x.2 + bnd1 x.1 = bnd1 n ∧ 1 ≤ x.1 ∧ x.1 ≤ n) (fun x => x.1) (n, 0) ⟨by simp only; omega, by simp only; omega, Nat.le_refl _⟩ ⟨rfl, rfl, rfl, trivial⟩ (by (repeat first | exact fun _ s => s | apply en_keep | apply en_drop | apply en_app) <;> fail) ?_
    rintro ⟨m, k⟩ ⟨f1, f2, f3⟩
    simp only at f1 f2 f3
    dsimp only
    have hs2 := bnd1_step (n := m) f2
    have hm : 3 * (m / 4) + 3 * (m % Int.natAbs 4) / 4 = 3 * m / 4 := by
      show 3 * (m / 4) + 3 * (m % 4) / 4 = 3 * m / 4
      omega
    (repeat first | refine G_seq ?_ | refine G_skip ?_ | refine G_endblk ?_ | refine G_block ?_ | refine G_exit rfl ?_)
    refine G_region ?_
    refine GO_q rfl rfl (ev_move rfl) ?_
    (first | refine GO_q rfl rfl (ev_lssN (q := 200) rfl rfl) ?_ | refine GO_q rfl rfl (ev_lss rfl rfl) ?_)
    refine GO_nil ?_
    (repeat first | refine G_seq ?_ | refine G_skip ?_ | refine G_endblk ?_ | refine G_block ?_ | refine G_exit rfl ?_)
    refine G_cond_t rfl (decide_eq_true (by omega)) ?_
    (repeat first | refine G_seq ?_ | refine G_skip ?_ | refine G_endblk ?_ | refine G_block ?_ | refine G_exit rfl ?_)
    refine G_region ?_
    refine GO_q rfl rfl (ev_move rfl) ?_
    (first | refine GO_q rfl rfl (ev_quoN (q := 4) rfl rfl (by first | omega | (simp; done) | (simp; omega)) (by first | omega | (simp; done) | (simp; omega))) ?_ | refine GO_q rfl rfl (ev_quo rfl rfl (by first | omega | (simp; done) | (simp; omega)) (by first | omega | (simp; done) | (simp; omega)) (by first | omega | (simp; done) | (simp; omega))) ?_)
    refine GO_q rfl rfl (ev_move rfl) ?_
    refine GO_q rfl rfl (ev_rem rfl rfl (by first | omega | (simp; done) | (simp; omega)) (by first | omega | (simp; done) | (simp; omega))) ?_
    refine GO_q rfl rfl (ev_assign rfl) ?_
    refine GO_q rfl rfl (ev_assign rfl) ?_
    refine GO_nil ?_
    (repeat first | refine G_seq ?_ | refine G_skip ?_ | refine G_endblk ?_ | refine G_block ?_ | refine G_exit rfl ?_)
    refine G_region ?_
    refine GO_q rfl rfl (ev_move rfl) ?_
    refine GO_q rfl rfl (ev_mul rfl rfl (by first | omega | (simp; done) | (simp; omega))) ?_
    refine GO_q rfl rfl (ev_move rfl) ?_
    refine GO_q rfl rfl (ev_mul rfl rfl (by first | omega | (simp; done) | (simp; omega))) ?_
    (first | refine GO_q rfl rfl (ev_quoN (q := 4) rfl rfl (by first | omega | (simp; done) | (simp; omega)) (by first | omega | (simp; done) | (simp; omega))) ?_ | refine GO_q rfl rfl (ev_quo rfl rfl (by first | omega | (simp; done) | (simp; omega)) (by first | omega | (simp; done) | (simp; omega)) (by first | omega | (simp; done) | (simp; omega))) ?_)
    (first | refine GO_q rfl rfl (ev_addN rfl rfl (by first | omega | (simp; done) | (simp; omega))) ?_ | refine GO_q rfl rfl (ev_add rfl rfl (by first | omega | (simp; done) | (simp; omega))) ?_)
    refine GO_q rfl rfl (ev_assign rfl) ?_
    refine GO_nil ?_
    rw [hm]
    (repeat first | refine G_seq ?_ | refine G_skip ?_ | refine G_endblk ?_ | refine G_block ?_ | refine G_exit rfl ?_)
    refine G_region ?_
    refine GO_q rfl rfl (ev_move rfl) ?_
    (first | refine GO_q rfl rfl (ev_lssN (q := 1) rfl rfl) ?_ | refine GO_q rfl rfl (ev_lss rfl rfl) ?_)
    refine GO_nil ?_
    by_cases h1 : 3 * m / 4 < 1
    · have e : 3 * m / 4 = 0 := by omega
      rw [e, bnd1_zero] at hs2
      rw [e]
      (repeat first | refine G_seq ?_ | refine G_skip ?_ | refine G_endblk ?_ | refine G_block ?_ | refine G_exit rfl ?_)
      refine G_cond_t rfl rfl ?_
      (repeat first | refine G_seq ?_ | refine G_skip ?_ | refine G_endblk ?_ | refine G_block ?_ | refine G_exit rfl ?_)
      refine G_region ?_
      refine GO_q rfl rfl (ev_move rfl) ?_
      refine GO_q rfl rfl (ev_assign rfl) ?_
      refine GO_nil ?_
      have ek : k + 2 = bound n := by
        unfold bound
        rw [if_neg (by omega)]
        omega
      rw [ek]
      (repeat first | refine G_seq ?_ | refine G_skip ?_ | refine G_endblk ?_ | refine G_block ?_ | refine G_exit rfl ?_)
      refine G_ret rfl (.tmp rfl .nil) (by (repeat first | exact fun _ s => s | apply en_keep | apply en_drop | apply en_app) <;> fail) ⟨rfl, rfl⟩
    · skip
      (repeat first | refine G_seq ?_ | refine G_skip ?_ | refine G_endblk ?_ | refine G_block ?_ | refine G_exit rfl ?_)
      refine G_cond_f rfl (decide_eq_false (by omega)) ?_
      (repeat first | refine G_seq ?_ | refine G_skip ?_ | refine G_endblk ?_ | refine G_block ?_ | refine G_exit rfl ?_)
      refine G_region ?_
      refine GO_q rfl rfl (ev_move rfl) ?_
      (first | refine GO_q rfl rfl (ev_addN (q := 1) rfl rfl (by first | omega | (simp; done) | (simp; omega))) ?_ | refine GO_q rfl rfl (ev_add rfl rfl (by first | omega | (simp; done) | (simp; omega))) ?_)
      refine GO_q rfl rfl (ev_assign rfl) ?_
      refine GO_nil ?_
      (repeat first | refine G_seq ?_ | refine G_skip ?_ | refine G_endblk ?_ | refine G_block ?_ | refine G_exit rfl ?_)
      refine G_region ?_
      refine GO_q rfl rfl (ev_move rfl) ?_
      (first | refine GO_q rfl rfl (ev_addN (q := 1) rfl rfl (by first | omega | (simp; done) | (simp; omega))) ?_ | refine GO_q rfl rfl (ev_add rfl rfl (by first | omega | (simp; done) | (simp; omega))) ?_)
      refine GO_q rfl rfl (ev_assign rfl) ?_
      refine GO_nil ?_
      (repeat first | refine G_seq ?_ | refine G_skip ?_ | refine G_endblk ?_ | refine G_block ?_ | refine G_exit rfl ?_)
      exact G_round (3 * m / 4, k + 1) ⟨by simp only; omega, by simp only; omega, by simp only; omega⟩ (by simp only; omega) ⟨rfl, rfl, rfl, trivial⟩ (by (repeat first | exact fun _ s => s | apply en_keep | apply en_drop | apply en_app) <;> fail)
theorem kCheck_ctr (t : Nat) (T : KT) (most built : Int) (L : List HP) (h : LdN L t 0 4 [.pointer T.addr, .int .i64 (T.pts.length : Nat), .int .i64 most, .int .i64 built]) (hin : KIn L T) (ho : T.ok 0) (hn : T.cnt ≤ 90000) (hc : T.cnt - T.pts.length ≤ (T.cnt + 1) / 2) :
    Ctr Try.prog 9 #[.pointer (some ⟨t, 0, none⟩)] L fun v L' => v = .bool true ∧ L' = L := by
  have h0 : Ld L ⟨t, 0 + 0, none⟩ (.pointer T.addr) := h.at_ (i := 0) rfl
  have h1 : Ld L ⟨t, 0 + 1, none⟩ (.int .i64 (T.pts.length : Nat)) := h.at_ (i := 1) rfl
  have hd := ho.bnd
  have hdc := T.depth_cnt
  have hl := T.pts_len
  have hsz := ho.size
  have c1 := fun M h => ksize_ctr T M h
  have c2 := fun M h => ksound_ctr T 0 M ho h hn (by omega)
  have c3 := fun M h => kdepth_ctr T M h (by omega)
  have c4 := fun M => kBound_ctr (T.cnt : Int) M (by omega)
  have c5 := fun M h => kpoints_ctr T M h (by omega)
  rw [hsz] at c1
  rw [Int.toNat_natCast] at c4
  generalize T.pts = ps at *
  refine Ctr_of (fn := Try.f9) (n := 51) Try.func9 rfl rfl rfl ?_
  intro g F
  (repeat first | refine G_seq ?_ | refine G_skip ?_ | refine G_endblk ?_ | refine G_block ?_ | refine G_exit rfl ?_)
  refine G_region ?_
  refine GO_q rfl rfl (ev_assign rfl) ?_
  refine GO_nil ?_
  (repeat first | refine G_seq ?_ | refine G_skip ?_ | refine G_endblk ?_ | refine G_block ?_ | refine G_exit rfl ?_)
  refine G_region ?_
  refine GO_q rfl rfl (ev_move rfl) ?_
  (first | refine GO_q rfl rfl (ev_eqlNil rfl rfl) ?_ | refine GO_q rfl rfl (ev_eqlPtr rfl rfl) ?_)
  refine GO_nil ?_
  (repeat first | refine G_seq ?_ | refine G_skip ?_ | refine G_endblk ?_ | refine G_block ?_ | refine G_exit rfl ?_)
  refine G_cond_f rfl rfl ?_
  (repeat first | refine G_seq ?_ | refine G_skip ?_ | refine G_endblk ?_ | refine G_block ?_ | refine G_exit rfl ?_)
  refine G_region ?_
  refine GO_q rfl rfl (ev_move rfl) ?_
  (first | refine GO_q rfl rfl (ev_nilCheck rfl) ?_ | refine GO_q rfl rfl (ev_nilCheckF (by simp) rfl) ?_)
  refine GO_q rfl rfl (ev_fieldAddr rfl) ?_
  refine GO_q rfl rfl (ev_load rfl (by repeat' first | exact Ld.blk rfl | assumption | apply Ld.skip | apply Ld.app)) ?_
  refine GO_eff rfl rfl (eff_call rfl (c1 _ (by repeat' first | exact hin | apply KIn.skip))) ?_; rintro _ _ ⟨rfl, rfl⟩
  refine GO_q rfl rfl (ev_assign rfl) ?_
  refine GO_nil ?_
  (repeat first | refine G_seq ?_ | refine G_skip ?_ | refine G_endblk ?_ | refine G_block ?_ | refine G_exit rfl ?_)
  refine G_draw (.q 0 (.q 1 (.q 2 (.q 3 (.e 4 (.q 5 (.q 6 (.q 7 (.q 8 (.q 9 (.q 11 (.e 10 (.e 12 (.q 13 (.q 14 (.q 15 (.q 16 (.q 17 (.q 18 (.q 19 (.q 20 (.q 21 (.q 22 (.q 23 (.q 24 (.q 25 (.q 26 (.q 27 (.q 28 (.q 29 (.q 30 (.q 31 (.q 34 (.q 35 (.q 36 (.q 37 (.e 32 (.q 33 (.q 38 (.q 39 (.q 40 .nil))))))))))))))))))))))))))))))))))))))))) (by kernel_rfl) (by kernel_rfl) ?_
  refine RS_m retB_noPanic rfl rfl rfl rfl (ev_move rfl) ?_
  (first | refine RS_m retB_noPanic rfl rfl rfl rfl (ev_nilCheck rfl) ?_ | refine RS_m retB_noPanic rfl rfl rfl rfl (ev_nilCheckF (by simp) rfl) ?_)
  refine RS_m retB_noPanic rfl rfl rfl rfl (ev_fieldAddr rfl) ?_
  refine RS_q retB_noPanic rfl rfl rfl rfl (ev_load rfl (by repeat' first | exact Ld.blk rfl | assumption | apply Ld.skip | apply Ld.app)) ?_
  refine RS_e (RE_eff rfl rfl rfl (eff_call rfl (c2 _ (by repeat' first | exact hin | apply KIn.skip))) ?_); rintro _ _ ⟨rfl, rfl⟩; refine ⟨_, fun _ s => s, (by first | ((repeat first | exact fun _ s => s | apply en_keep | apply en_drop | apply en_app) <;> fail) | ((repeat first | exact en_refl | (apply en_blk; focus ((repeat' first | exact Pick.here | apply Pick.skip | apply Pick.app); done); focus rfl) | (apply en_own; focus ((repeat' first | exact Pick.here | apply Pick.skip | apply Pick.app); done); focus rfl) | (apply en_pick; focus ((repeat' first | exact Pick.here | apply Pick.skip | apply Pick.app); done)) | apply en_drop | apply en_app) <;> fail)), ?_⟩
  refine RS_m retB_noPanic rfl rfl rfl rfl (ev_move rfl) ?_
  refine RS_m_yes retB_noPanic rfl rfl rfl rfl ⟨_, rfl, rfl⟩ rfl (ev_move rfl) ?_
  (first | refine RS_m_yes retB_noPanic rfl rfl rfl rfl ⟨_, rfl, rfl⟩ rfl (ev_nilCheck rfl) ?_ | refine RS_m_yes retB_noPanic rfl rfl rfl rfl ⟨_, rfl, rfl⟩ rfl (ev_nilCheckF (by simp) rfl) ?_)
  refine RS_m_yes retB_noPanic rfl rfl rfl rfl ⟨_, rfl, rfl⟩ rfl (ev_fieldAddr rfl) ?_
  refine RS_q_yes retB_noPanic rfl rfl rfl rfl ⟨_, rfl, rfl⟩ rfl (ev_load rfl (by repeat' first | exact Ld.blk rfl | assumption | apply Ld.skip | apply Ld.app)) ?_
  refine RS_m_yes retB_noPanic rfl rfl rfl rfl ⟨_, rfl, rfl⟩ rfl (ev_move rfl) ?_
  refine RS_e (RE_eff_yes rfl rfl rfl ⟨_, rfl, rfl⟩ rfl (eff_call rfl (c3 _ (by repeat' first | exact hin | apply KIn.skip))) ?_); rintro _ _ ⟨rfl, rfl⟩; refine ⟨_, fun _ s => s, (by first | ((repeat first | exact fun _ s => s | apply en_keep | apply en_drop | apply en_app) <;> fail) | ((repeat first | exact en_refl | (apply en_blk; focus ((repeat' first | exact Pick.here | apply Pick.skip | apply Pick.app); done); focus rfl) | (apply en_own; focus ((repeat' first | exact Pick.here | apply Pick.skip | apply Pick.app); done); focus rfl) | (apply en_pick; focus ((repeat' first | exact Pick.here | apply Pick.skip | apply Pick.app); done)) | apply en_drop | apply en_app) <;> fail)), ?_⟩
  refine RS_e (RE_eff_yes rfl rfl rfl ⟨_, rfl, rfl⟩ rfl (eff_call rfl (c4 _)) ?_); rintro _ _ ⟨rfl, rfl⟩; refine ⟨_, fun _ s => s, (by first | ((repeat first | exact fun _ s => s | apply en_keep | apply en_drop | apply en_app) <;> fail) | ((repeat first | exact en_refl | (apply en_blk; focus ((repeat' first | exact Pick.here | apply Pick.skip | apply Pick.app); done); focus rfl) | (apply en_own; focus ((repeat' first | exact Pick.here | apply Pick.skip | apply Pick.app); done); focus rfl) | (apply en_pick; focus ((repeat' first | exact Pick.here | apply Pick.skip | apply Pick.app); done)) | apply en_drop | apply en_app) <;> fail)), ?_⟩
  refine RS_m_yes retB_noPanic rfl rfl rfl rfl ⟨_, rfl, rfl⟩ rfl (ev_leq rfl rfl) ?_
  refine RS_m retB_noPanic rfl rfl rfl rfl (ev_pick_t rfl rfl rfl) ?_
  refine RS_m retB_noPanic rfl rfl rfl rfl (ev_move rfl) ?_
  refine RS_m_yes retB_noPanic rfl rfl rfl rfl ⟨_, rfl, (decide_eq_true (by omega))⟩ rfl (ev_move rfl) ?_
  refine RS_m_yes retB_noPanic rfl rfl rfl rfl ⟨_, rfl, (decide_eq_true (by omega))⟩ rfl (ev_move rfl) ?_
  (first | refine RS_m_yes retB_noPanic rfl rfl rfl rfl ⟨_, rfl, (decide_eq_true (by omega))⟩ rfl (ev_nilCheck rfl) ?_ | refine RS_m_yes retB_noPanic rfl rfl rfl rfl ⟨_, rfl, (decide_eq_true (by omega))⟩ rfl (ev_nilCheckF (by simp) rfl) ?_)
  refine RS_m_yes retB_noPanic rfl rfl rfl rfl ⟨_, rfl, (decide_eq_true (by omega))⟩ rfl (ev_fieldAddr rfl) ?_
  refine RS_q_yes retB_noPanic rfl rfl rfl rfl ⟨_, rfl, (decide_eq_true (by omega))⟩ rfl (ev_load rfl (by repeat' first | exact Ld.blk rfl | assumption | apply Ld.skip | apply Ld.app)) ?_
  (first | refine RS_m_yes retB_noPanic rfl rfl rfl rfl ⟨_, rfl, (decide_eq_true (by omega))⟩ rfl (ev_subN rfl rfl (by first | omega | (simp; done) | (simp; omega))) ?_ | refine RS_m_yes retB_noPanic rfl rfl rfl rfl ⟨_, rfl, (decide_eq_true (by omega))⟩ rfl (ev_sub rfl rfl (by first | omega | (simp; done) | (simp; omega))) ?_)
  refine RS_m_yes retB_noPanic rfl rfl rfl rfl ⟨_, rfl, (decide_eq_true (by omega))⟩ rfl (ev_move rfl) ?_
  (first | refine RS_m_yes retB_noPanic rfl rfl rfl rfl ⟨_, rfl, (decide_eq_true (by omega))⟩ rfl (ev_addN (q := 1) rfl rfl (by first | omega | (simp; done) | (simp; omega))) ?_ | refine RS_m_yes retB_noPanic rfl rfl rfl rfl ⟨_, rfl, (decide_eq_true (by omega))⟩ rfl (ev_add rfl rfl (by first | omega | (simp; done) | (simp; omega))) ?_)
  (first | refine RS_m_yes retB_noPanic rfl rfl rfl rfl ⟨_, rfl, (decide_eq_true (by omega))⟩ rfl (ev_quoN (q := 2) rfl rfl (by first | omega | (simp; done) | (simp; omega)) (by first | omega | (simp; done) | (simp; omega))) ?_ | refine RS_m_yes retB_noPanic rfl rfl rfl rfl ⟨_, rfl, (decide_eq_true (by omega))⟩ rfl (ev_quo rfl rfl (by first | omega | (simp; done) | (simp; omega)) (by first | omega | (simp; done) | (simp; omega)) (by first | omega | (simp; done) | (simp; omega))) ?_)
  refine RS_m_yes retB_noPanic rfl rfl rfl rfl ⟨_, rfl, (decide_eq_true (by omega))⟩ rfl (ev_leq rfl rfl) ?_
  refine RS_m retB_noPanic rfl rfl rfl rfl (ev_pick_t rfl (decide_eq_true (by omega)) rfl) ?_
  refine RS_m retB_noPanic rfl rfl rfl rfl (ev_move rfl) ?_
  refine RS_m_yes retB_noPanic rfl rfl rfl rfl ⟨_, rfl, (decide_eq_true (by omega))⟩ rfl (ev_move rfl) ?_
  (first | refine RS_m_yes retB_noPanic rfl rfl rfl rfl ⟨_, rfl, (decide_eq_true (by omega))⟩ rfl (ev_nilCheck rfl) ?_ | refine RS_m_yes retB_noPanic rfl rfl rfl rfl ⟨_, rfl, (decide_eq_true (by omega))⟩ rfl (ev_nilCheckF (by simp) rfl) ?_)
  refine RS_m_yes retB_noPanic rfl rfl rfl rfl ⟨_, rfl, (decide_eq_true (by omega))⟩ rfl (ev_fieldAddr rfl) ?_
  refine RS_q_yes retB_noPanic rfl rfl rfl rfl ⟨_, rfl, (decide_eq_true (by omega))⟩ rfl (ev_load rfl (by repeat' first | exact Ld.blk rfl | assumption | apply Ld.skip | apply Ld.app)) ?_
  refine RS_m_yes retB_noPanic rfl rfl rfl rfl ⟨_, rfl, (decide_eq_true (by omega))⟩ rfl (ev_move rfl) ?_
  (first | refine RS_m_yes retB_noPanic rfl rfl rfl rfl ⟨_, rfl, (decide_eq_true (by omega))⟩ rfl (ev_nilCheck rfl) ?_ | refine RS_m_yes retB_noPanic rfl rfl rfl rfl ⟨_, rfl, (decide_eq_true (by omega))⟩ rfl (ev_nilCheckF (by simp) rfl) ?_)
  refine RS_m_yes retB_noPanic rfl rfl rfl rfl ⟨_, rfl, (decide_eq_true (by omega))⟩ rfl (ev_fieldAddr rfl) ?_
  refine RS_q_yes retB_noPanic rfl rfl rfl rfl ⟨_, rfl, (decide_eq_true (by omega))⟩ rfl (ev_load rfl (by repeat' first | exact Ld.blk rfl | assumption | apply Ld.skip | apply Ld.app)) ?_
  refine RS_e (RE_eff_yes rfl rfl rfl ⟨_, rfl, (decide_eq_true (by omega))⟩ rfl (eff_call rfl (c5 _ (by repeat' first | exact hin | apply KIn.skip))) ?_); rintro _ _ ⟨a, c, rfl, f1, rfl⟩; refine ⟨_, fun _ s => s, (by first | ((repeat first | exact fun _ s => s | apply en_keep | apply en_drop | apply en_app) <;> fail) | ((repeat first | exact en_refl | (apply en_blk; focus ((repeat' first | exact Pick.here | apply Pick.skip | apply Pick.app); done); focus rfl) | (apply en_own; focus ((repeat' first | exact Pick.here | apply Pick.skip | apply Pick.app); done); focus rfl) | (apply en_pick; focus ((repeat' first | exact Pick.here | apply Pick.skip | apply Pick.app); done)) | apply en_drop | apply en_app) <;> fail)), ?_⟩
  refine RS_q_yes retB_noPanic rfl rfl rfl rfl ⟨_, rfl, (decide_eq_true (by omega))⟩ rfl (ev_len rfl) ?_
  refine RS_m_yes retB_noPanic rfl rfl rfl rfl ⟨_, rfl, (decide_eq_true (by omega))⟩ rfl (ev_eql rfl rfl) ?_
  refine RS_m retB_noPanic rfl rfl rfl rfl (ev_pick_t rfl (decide_eq_true (by omega)) rfl) ?_
  refine RS_m retB_noPanic rfl rfl rfl rfl (ev_assign rfl) ?_
  refine RS_nil ?_
  all_goals
    (repeat first | refine G_seq ?_ | refine G_skip ?_ | refine G_endblk ?_ | refine G_block ?_ | refine G_exit rfl ?_)
    exact G_ret (L' := L) rfl (.tmp rfl .nil) (by (repeat first | exact en_refl | (apply en_blk; focus ((repeat' first | exact Pick.here | apply Pick.skip | apply Pick.app); done); focus rfl) | (apply en_own; focus ((repeat' first | exact Pick.here | apply Pick.skip | apply Pick.app); done); focus rfl) | (apply en_pick; focus ((repeat' first | exact Pick.here | apply Pick.skip | apply Pick.app); done)) | apply en_drop | apply en_app) <;> fail) ⟨congrArg Value.bool (decide_eq_true rfl), rfl⟩
end Go.Proofs.Ytjgdhkilnalejaa
/- A tree of points by two orders in turn: as a set of points, in the heap. -/
namespace Go.Proofs.Ytjgdhkilnalejaa
set_option linter.unusedVariables false
set_option linter.unusedSimpArgs false
set_option maxRecDepth 100000

@[reducible] def kdC (r : Option Addr) (live most : Int) (built : Nat) : List Value := [.pointer r, .int .i64 live, .int .i64 most, .int .i64 (built : Nat)]
/-- A tree that is as it should be: of these points, after so many changes. -/
structure KG (T : KT) (v : Nat) (l : List Pt) (k : Nat) : Prop where
  ok : T.ok 0
  pts : T.pts.Perm l
  cnt : T.cnt ≤ k
  few : T.cnt - l.length ≤ (T.cnt + 1) / 2
  bt : v ≤ 3000000 * k
def treeK (t : Nat) (most : Int) (l : List Pt) (k : Nat) : HP := fun h => ∃ x : KT × Nat, KG x.1 x.2 l k ∧ sat [ktH x.1, blk t 60 (kdC x.1.addr (l.length : Nat) most x.2)] h
theorem Ctr.tk {P : Program} {f : FuncId} {args : Array Value} {L : List HP} {t : Nat} {most : Int} {l : List Pt} {k : Nat} {post : Value → List HP → Prop} (C : ∀ T v, KG T v l k → Ctr P f args (ktH T :: blk t 60 (kdC T.addr (l.length : Nat) most v) :: L) post) : Ctr P f args (treeK t most l k :: L) post :=
  Ctr.open (ι := KT × Nat) (Fa := fun x => KG x.1 x.2 l k) (N := fun x => [ktH x.1, blk t 60 (kdC x.1.addr (l.length : Nat) most x.2)]) (fun _ h => h) fun x hx => C x.1 x.2 hx
theorem G_tk {P : Program} {B : Exit → Act → World → Prop} {gl : Glob} {n : Nat} {K : List Kt} {σ : Env} {L : List HP} {t : Nat} {most : Int} {l : List Pt} {k : Nat} (h : ∀ T v, KG T v l k → G P B gl n K σ (ktH T :: blk t 60 (kdC T.addr (l.length : Nat) most v) :: L)) : G P B gl n K σ (treeK t most l k :: L) :=
  G_open (ι := KT × Nat) (F := fun x => KG x.1 x.2 l k) (N := fun x => [ktH x.1, blk t 60 (kdC x.1.addr (l.length : Nat) most x.2)]) (fun _ h => h) fun x hx => h x.1 x.2 hx
theorem en_tk {L M : List HP} {t : Nat} {most : Int} {l : List Pt} {k : Nat} {T : KT} {v : Nat} (g : KG T v l k) (f : ∀ h, sat L h → sat (ktH T :: blk t 60 (kdC T.addr (l.length : Nat) most v) :: M) h) : ∀ h, sat L h → sat (treeK t most l k :: M) h := fun h s =>
  sat.fold (N := [_, _]) (fun h q => ⟨(T, v), g, q⟩) (f h s)
theorem en_tkn {L M : List HP} {t : Nat} {most : Int} {l : List Pt} {k n : Nat} {T : KT} {v : Nat} (hn : l.length = n) (g : KG T v l k) (f : ∀ h, sat L h → sat (ktH T :: blk t 60 (kdC T.addr (n : Nat) most v) :: M) h) : ∀ h, sat L h → sat (treeK t most l k :: M) h := by
  subst hn; exact en_tk g f
theorem KG.to {T : KT} {v k k' : Nat} {l m : List Pt} (g : KG T v l k) (p : l.Perm m) (h : k ≤ k') : KG T v m k' :=
  ⟨g.ok, g.pts.trans p, Nat.le_trans g.cnt h, by rw [← p.length_eq]; exact g.few, by have := g.bt; omega⟩
end Go.Proofs.Ytjgdhkilnalejaa
/- A range over a function, in a walk. No program stands in this text. -/
namespace Go.Proofs.Ytjgdhkilnalejaa
open Go.RowKit
set_option linter.unusedVariables false
set_option linter.unusedSimpArgs false

/-- A block that is no cells. -/
structure obj (b : Nat) (o : Obj) (h : Hm) : Prop where
  eq : h b = some o
section
variable {g : Glob} {L : List HP} {w : World}
theorem Hp.obj_heap {b : Nat} {o : Obj} (h : Hp g (obj b o :: L) w) : w.heap[b]? = some o := by
  obtain ⟨h1, h2, d, s1, s2, a, l⟩ := h.s
  exact s1 _ _ a.eq
theorem Hp.allocO (h : Hp g L w) (o : Obj) : Hp g (obj w.heap.size o :: L) (w.alloc o) := by
  refine ⟨h.g, fun k => if k = w.heap.size then some o else none, w.hm, fun k => ?_, fun k o' e => ?_, fun k o' e => ?_, ⟨by simp⟩, h.s⟩
  · by_cases hk : k = w.heap.size
    · right; subst hk; simp [World.hm]
    · left; simp [hk]
  · replace e : (if k = w.heap.size then some o else none) = some o' := e
    by_cases hk : k = w.heap.size
    · subst hk
      rw [if_pos rfl] at e
      show (w.heap.push _)[_]? = _
      simpa using e
    · rw [if_neg hk] at e; cases e
  · have hk : k < w.heap.size := by
      rcases Nat.lt_or_ge k w.heap.size with h' | h'
      · exact h'
      · simp [World.hm, Array.getElem?_eq_none h'] at e
    show (w.heap.push _)[k]? = _
    rw [Array.getElem?_push, if_neg (by omega)]
    exact e
theorem Hp.putO {b : Nat} {o : Obj} (h : Hp g (obj b o :: L) w) (o' : Obj) : Hp g (obj b o' :: L) (w.putObj b o') := by
  have hb := h.obj_heap
  have hlt : b < w.heap.size := (Array.getElem?_eq_some_iff.1 hb).1
  obtain ⟨h1, h2, d, s1, s2, a, l⟩ := h.s
  have a' : h1 b = some o := a.eq
  have hne : ∀ k, k ≠ b → (w.putObj b o').hm k = w.hm k := fun k hk => World.putObj_heap_other hk
  have heq : (w.putObj b o').hm b = some o' := World.putObj_heap_same hlt
  refine ⟨h.g, fun k => if k = b then some o' else none, h2, fun k => ?_, fun k o e => ?_, fun k o e => ?_, ⟨by simp⟩, l⟩
  · by_cases hk : k = b
    · right
      rcases d k with e | e
      · rw [hk, a'] at e; cases e
      · exact e
    · left; simp [hk]
  · replace e : (if k = b then some o' else none) = some o := e
    by_cases hk : k = b
    · subst hk
      rw [if_pos rfl] at e
      rw [heq]; exact e
    · rw [if_neg hk] at e; cases e
  · by_cases hk : k = b
    · rcases d k with e' | e'
      · rw [hk, a'] at e'; cases e'
      · rw [e'] at e; cases e
    · rw [hne k hk]; exact s2 k o e
theorem Hp.true_ (hw : Hp g L w) : Hp g ((fun _ => True) :: L) w := ⟨hw.g, fun _ => none, w.hm, fun _ => .inl rfl, fun _ _ e => (by cases e), hSub.refl _, trivial, hw.s⟩
end

/-! The end of a function that holds such a range. -/
def mk (ds : List Nat) : List Deferred := ds.map fun d => ⟨.collected d, #[]⟩
def mkH (ds : List Nat) : List HP := ds.map fun d => obj d (.deferred (some []))
theorem results_runs {P : Program} {fn : Func} {σ : Env} {L : List HP} {rs : List ResultVar} {vs : List Value} (hr : fn.results = rs.toArray) (h : Res P σ L rs vs) {a : Act} {w : World} (hs : SatE σ a) (hw : sat L w.hm) : (results fn a.tmps).run P w = .ok (retv vs) w := by
  unfold results
  rw [hr]
  simp only [List.mapM_toArray, Sem.run_bind, Sem.run_map]
  have e := h.run hs hw
  generalize hm : List.mapM (m := Sem) _ rs = m
  have e' : m.run P w = .ok vs w := by rw [← hm]; exact e
  rw [e']
  simp only [Result.andThen_ok, Sem.run_pure]
  cases vs with
  | nil => rfl
  | cons v l => cases l <;> simp [retv]
def retM (P : Program) (fn : Func) (g : Glob) (F : HP) (post : Value → List HP → Prop) : Exit → Act → World → Prop
  | .normal, a, w | .ret, a, w => ∃ (ds : List Nat) (M L2 : List HP) (σ : Env) (rs : List ResultVar) (vs : List Value), a.defers = mk ds ∧ SatE σ a ∧ fn.results = rs.toArray ∧ Res P σ M rs vs ∧ (∀ h, sat M h → sat (F :: L2) h) ∧ post (retv vs) L2 ∧ Hp g (mkH ds ++ M) w
  | _, _, _ => False
theorem leaves_mk {P : Program} {fn : Func} {g : Glob} {F : HP} {post : Value → List HP → Prop} {M L2 : List HP} {σ : Env} {rs : List ResultVar} {vs : List Value} {a : Act} (hs : SatE σ a) (hr : fn.results = rs.toArray) (h : Res P σ M rs vs) (hM : ∀ h, sat M h → sat (F :: L2) h) (hp : post (retv vs) L2) :
    ∀ (ds : List Nat) (w : World), Hp g (mkH ds ++ M) w → LeavesInM Fence.wide 0 P fn a.tmps (fun e w' => ∃ v L', e = .returned v ∧ post v L' ∧ Hp g (F :: L') w') (mk ds) .returning w
  | [], w, hw => ⟨retv vs, results_runs hr h hs hw.s, _, L2, rfl, hp, hw.mono hM⟩
  | d :: ds, w, hw => ⟨by simp, .inl ⟨d, w.putObj d (.deferred none), rfl, run_takeDeferred (Hp.obj_heap hw), leaves_mk hs hr h hM hp ds _ ((Hp.putO hw _).mono fun _ s => s.tail)⟩⟩
section
variable {P : Program} {fn : Func} {g : Glob} {n : Nat} {K : List Kt} {σ : Env} {L : List HP} {B : Exit → Act → World → Prop}
theorem Ctr_ofM {f : FuncId} {c : Code} {args : List Value} {post : Value → List HP → Prop} (hf : P.funcs[f]? = some fn) (hb : fn.body = some c) (hn : fn.ntmps = n) (hlen : Nat.ble args.length n = true)
    (h : ∀ g F, g.base = g → G P (retM P fn g F post) g n [.code c] (argsE args 0) (F :: L)) : Ctr P f args.toArray L post := fun g F w hw => by
  refine (callsIn_wide (n := 0)).1 (callsIn_of_wp_marks hf hb trivial ?_)
  have hsz : args.toArray.size ≤ fn.ntmps := by rw [hn]; exact Nat.le_of_ble_eq_true hlen
  have := h g.base F rfl { tmps := args.toArray ++ Array.replicate (fn.ntmps - args.toArray.size) undef, defers := [] } w ⟨by simp at hsz ⊢; omega, rfl, fun t v e => ?_⟩ hw.base
  · refine Code.wpIn_mono (fun e a w h => ?_) this
    cases e with
    | normal =>
      obtain ⟨ds, M, L2, τ, rs, vs, h1, h2, h3, h4, h5, h6, h7⟩ := h
      show LeavesInM _ _ _ _ _ _ a.defers _ _
      rw [h1]
      exact leaves_mk h2 h3 h4 h5 h6 ds w h7.of_base
    | ret =>
      obtain ⟨ds, M, L2, τ, rs, vs, h1, h2, h3, h4, h5, h6, h7⟩ := h
      show LeavesInM _ _ _ _ _ _ a.defers _ _
      rw [h1]
      exact leaves_mk h2 h3 h4 h5 h6 ds w h7.of_base
    | _ => exact h.elim
  · obtain ⟨j, rfl, hj⟩ := argsE_get args 0 t v e
    have hlt : j < args.length := (List.getElem?_eq_some_iff.1 hj).1
    rw [Nat.zero_add, Array.getElem?_append_left (by simpa using hlt)]
    simpa using hj
theorem G_retM {g0 : Glob} {rs : List ResultVar} {vs : List Value} {L' M : List HP} {F : HP} {post : Value → List HP → Prop} (ds : List Nat) (hg : g.base = g0.base) (hd : g.dfs = mk ds) (hr : fn.results = rs.toArray) (h : Res P σ M rs vs) (hL : ∀ h, sat L h → sat (mkH ds ++ M) h) (hM : ∀ h, sat M h → sat (F :: L') h) (hp : post (retv vs) L') :
    G P (retM P fn g0 F post) g n (.code .ret :: K) σ L := fun a w hs hw =>
  wpIn_ret (Kq_ret ⟨ds, M, L', σ, rs, vs, hs.defers.trans hd, hs.e, hr, h, hM, hp, ⟨hw.g.trans hg, hL _ hw.s⟩⟩)

/-! The statement. -/
def Glob.withD (g : Glob) (d : Nat) : Glob := { g with dfs := ⟨.collected d, #[]⟩ :: g.dfs }
theorem G_range {g0 : Operand} {ps : Array Tmp} {assign body : Code} {f : FuncId} {c1 c2 : List Value} {post : Option Code → List HP → Prop} [H : CalT P f] (hr : g.rnd = none) (hq : ev σ g0 = some (.func (.func f) c1.toArray c2.toArray))
    (hc : ∀ (l d : Nat) (fid : FuncId) (tmps : Array Value), tmps.size = n → SatE σ ⟨tmps, []⟩ → Ctr P f (c1 ++ [Value.func (.yield l) #[] #[]] ++ c2).toArray (obj l (.loop ⟨.ready, none, fid, tmps, ps, assign, body, d⟩) :: obj d (.deferred (some [])) :: L)
      fun v L' => ∃ st p L1, st ≠ .busy ∧ post p L1 ∧ L' = obj l (.loop ⟨st, p, fid, tmps, ps, assign, body, d⟩) :: obj d (.deferred (some [])) :: L1)
    (hN : ∀ d L1, post none L1 → G P B (g.withD d) n K σ (obj d (.deferred (some [])) :: L1))
    (hS : ∀ d c L1, post (some c) L1 → G P B (g.withD d) n (.code c :: K) σ (obj d (.deferred (some [])) :: L1)) :
    G P B g n (.code (.rangeFunc g0 ps assign body) :: K) σ L := fun a w hs hw => by
  show (Code.rangeFunc g0 ps assign body).wpIn (fnc g.rnd) 0 P _ a w
  refine wpIn_rangeFunc fun fid _ => ?_
  have h1 := (hw.allocO (.deferred (some []))).allocO (.loop { state := .ready, pending := none, fn := fid, tmps := a.tmps, params := ps, assign, body, defers := w.heap.size })
  have hC := calls_of (hc _ _ fid a.tmps hs.size (fun t v e => hs.e t v e)) h1
  rw [World.size_alloc] at h1 hC
  have hE := run_enterLoop_outer (P := P) (w := w) fid a.tmps ps assign body
  generalize (w.alloc (.deferred (some []))).alloc (.loop { state := .ready, pending := none, fn := fid, tmps := a.tmps, params := ps, assign, body, defers := w.heap.size }) = W at h1 hC hE
  refine ⟨w.heap.size + 1, [⟨.collected w.heap.size, #[]⟩], W, ⟨.fn (.func f) c2.toArray, c1.toArray ++ #[Value.func (.yield (w.heap.size + 1)) #[] #[]]⟩, W, f, (c1 ++ [Value.func (.yield (w.heap.size + 1)) #[] #[]] ++ c2).toArray, W, ?_, ?_, fun _ _ => trivial, ?_, (fun e => by cases e), (callsIn_wide (n := 0)).2 (hC.mono ?_)⟩
  · rw [show (fnc g.rnd).round = none from hr]
    exact hE
  · have ea : a.eval (.const (Value.func (.yield (w.heap.size + 1)) #[] #[])) = Value.func (.yield (w.heap.size + 1)) #[] #[] := rfl
    simp only [resolve, hs.e.eval hq, Deferred.ofValue, Sem.run_bind, Sem.run_pure, Result.andThen_ok, ea, List.map_toArray, List.map_cons, List.map_nil]
  · have := H.run (c1 ++ [Value.func (.yield (w.heap.size + 1)) #[] #[]] ++ c2).toArray W
    simpa [invoke] using this
  · rintro e w' ⟨v, L', rfl, ⟨st, p, L1, hb, hp, rfl⟩, hw'⟩
    refine ⟨p, _, run_endLoop hw'.obj_heap hb, ?_⟩
    have hw2 : Hp g (obj w.heap.size (.deferred (some [])) :: L1) _ := (hw'.putO (.loop ⟨.exhausted, p, fid, a.tmps, ps, assign, body, w.heap.size⟩)).mono fun _ s => s.tail
    have hs2 : Sat (g.withD w.heap.size) n σ { a with defers := [⟨.collected w.heap.size, #[]⟩] ++ a.defers } := ⟨hs.size, by rw [hs.defers]; rfl, fun t v e => hs.e t v e⟩
    cases p with
    | none => exact hN _ _ hp _ _ hs2 ⟨hw2.g, hw2.s⟩
    | some c => exact hS _ c _ hp _ _ hs2 ⟨hw2.g, hw2.s⟩

/-! What a call of yield comes to. -/
def Yld (P : Program) (l : Nat) (args : List Value) (L : List HP) (post : Bool → List HP → Prop) : Prop :=
  ∀ g F w, Hp g (F :: L) w → ∃ fn tmps assign body, (Instr.yield l args.toArray).run P w = .ok (.round l fn tmps assign body) w ∧
    RoundIn Fence.wide 0 P l fn tmps assign body w fun e w' => ∃ b L', e = .returned (.bool b) ∧ post b L' ∧ Hp g (F :: L') w'
theorem Yld.frame {l : Nat} {args : List Value} {L M : List HP} {post : Bool → List HP → Prop} (Fr : List HP) (h : Yld P l args L post) (hL : ∀ h, sat M h → sat (Fr ++ L) h) : Yld P l args M fun b L' => ∃ L1, post b L1 ∧ L' = Fr ++ L1 := by
  intro g F w hw
  have h1 : Hp g ((fun h => sat (F :: Fr) h) :: L) w := hw.mono fun k s => sat.join (N := F :: Fr) (s.cons_mono hL)
  obtain ⟨fn, tmps, assign, body, e, hR⟩ := h g _ w h1
  exact ⟨fn, tmps, assign, body, e, hR.mono fun e w' ⟨b, L1, e1, p, q⟩ => ⟨b, _, e1, ⟨L1, p, rfl⟩, q.mono fun _ s => sat.part (N := F :: Fr) s⟩⟩
theorem Yld.mono {l : Nat} {args : List Value} {L : List HP} {post post' : Bool → List HP → Prop} (h : Yld P l args L post) (f : ∀ b L', post b L' → post' b L') : Yld P l args L post' := fun g F w hw => by
  obtain ⟨fn, tmps, assign, body, e, hR⟩ := h g F w hw
  exact ⟨fn, tmps, assign, body, e, hR.mono fun e w' ⟨b, L1, e1, p, q⟩ => ⟨b, L1, e1, f _ _ p, q⟩⟩
theorem GO_yield {dst : Option Nat} {q : Operand} {xs : List Operand} {ts : Array TypeId} {ty : TypeId} {pos : String} {aft : Array Edge} {ops : Array Oper} {lst : List Oper} {l : Nat} {args : List Value} {post : Bool → List HP → Prop} (hd : dstOk n dst = true)
    (hq : ev σ q = some (.func (.yield l) #[] #[])) (ha : evs σ xs = some args) (hy : Yld P l args L post) (h : ∀ b L', post b L' → GO P B g n ops lst K (putE σ dst (.bool b)) L') :
    GO P B g n ops (⟨dst, .call ⟨.value q, xs.toArray, ts⟩, ty, pos, aft, none⟩ :: lst) K σ L := fun a w hs hw => by
  refine wpListIn_plain rfl fun Kx hK => ⟨fun _ _ => trivial, ?_⟩
  obtain ⟨fid, tmps, assign, body, e1, hR⟩ := hy g _ w hw.true_
  rw [Oper.semAt_eq _ _ _ (fun c e => by cases e)]
  have e : (execOp a.eval ⟨dst, .call ⟨.value q, xs.toArray, ts⟩, ty, pos, aft, none⟩).run P w = .ok (.round l fid tmps assign body) w := by
    simp only [execOp, resolve, hs.e.eval hq, Deferred.ofValue, Sem.run_bind, Sem.run_pure, Result.andThen_ok, invoke, List.map_toArray, evs_map hs.e ha]
    simpa using e1
  rw [e]
  refine ⟨(fun e => by cases e), RoundIn.mono hR fun e w' ⟨b, L', e1, p, q⟩ => ?_⟩
  subst e1
  exact hK _ _ (h b L' p _ _ (hs.put' _ hd) (q.mono fun _ s => s.tail))

/-! A round. -/
def rndB (g : Glob) (F : HP) (l : Nat) (R : LoopState → Option Code → Obj) (post : Bool → List HP → Prop) : Exit → Act → World → Prop
  | .normal, _, w => ∃ L', post true (obj l (R .ready none) :: L') ∧ Hp g (F :: obj l (R .busy none) :: L') w
  | .ret, _, w => ∃ L', post false (obj l (R .done (some .ret)) :: L') ∧ Hp g (F :: obj l (R .busy none) :: L') w
  | .exit id, _, w => ∃ L', post false (obj l (R .done (some (.exit id))) :: L') ∧ Hp g (F :: obj l (R .busy none) :: L') w
  | _, _, _ => False
theorem rndB_noPanic {F : HP} {l : Nat} {R : LoopState → Option Code → Obj} {post : Bool → List HP → Prop} : noPanic (rndB g F l R post) := fun _ _ _ h => h
theorem Yld_of {ι : Type} {τ : ι → Env} {M : ι → List HP} {Fy : ι → Prop} {l d : Nat} {fid : FuncId} {tmps : Array Value} {p : Tmp} {x : Value} {assign body : Code} {τ0 : Env} {post : Bool → List HP → Prop} {R : LoopState → Option Code → Obj} (hR : R = fun st q => .loop ⟨st, q, fid, tmps, #[p], assign, body, d⟩) (hsz : tmps.size = n) (hτ : SatE τ0 ⟨tmps, []⟩) (hp : Nat.blt p n = true)
    (hA : ∀ g F, g.rnd = some l → g.dfs = [] → G P (fun _ _ _ => False) g n [.code assign, .inv (fun a w => ∃ y, Fy y ∧ Sat g n (τ y) a ∧ Hp g (F :: obj l (R .ready none) :: M y) w)] ((p, x) :: τ0) (F :: obj l (R .ready none) :: L))
    (hB : ∀ g F y, Fy y → g.rnd = some l → g.dfs = [] → G P (rndB g F l R post) g n [.code body] (τ y) (F :: obj l (R .busy none) :: M y)) :
    Yld P l [x] (obj l (R .ready none) :: L) post := fun g F w hw => by
  subst hR
  have hw1 := hw.mono fun _ s => s.swap
  have hy := run_yield (P := P) (args := [x].toArray) hw1.obj_heap rfl
  refine ⟨fid, tmps.setIfInBounds p x, assign, body, by simpa using hy, roundIn_of_wpIn trivial ?_⟩
  have hs0 : Sat ⟨g.os, g.tape, g.output, [], some l⟩ n τ0 ⟨tmps, []⟩ := ⟨hsz, rfl, hτ⟩
  have h1 := hA ⟨g.os, g.tape, g.output, [], some l⟩ F rfl rfl _ w (hs0.put x hp) ⟨hw.g, hw.s⟩
  refine Code.wpIn_mono (fun e a1 w1 h => ?_) h1
  cases e with
  | normal =>
    obtain ⟨y, fy, hs1, hw2⟩ := h
    have hw3 := hw2.mono fun _ s => s.swap
    refine ⟨_, run_beginRound hw3.obj_heap rfl, ?_⟩
    have hw4 := (hw3.putO (.loop ⟨.busy, none, fid, tmps, #[p], assign, body, d⟩)).mono fun _ s => s.swap
    have h2 := hB _ F y fy rfl rfl a1 _ hs1 hw4
    refine Code.wpIn_mono (fun e a3 w3 h3 => ?_) h2
    cases e with
    | normal =>
      obtain ⟨L', hp', hw5⟩ := h3
      have hw6 := hw5.mono fun _ s => s.swap
      have hw7 := (hw6.putO (.loop ⟨.ready, none, fid, tmps, #[p], assign, body, d⟩)).mono fun _ s => s.swap
      exact ⟨_, _, run_endRound none hw6.obj_heap, true, _, rfl, hp', ⟨hw7.g, hw7.s⟩⟩
    | ret =>
      obtain ⟨L', hp', hw5⟩ := h3
      have hw6 := hw5.mono fun _ s => s.swap
      have hw7 := (hw6.putO (.loop ⟨.done, some .ret, fid, tmps, #[p], assign, body, d⟩)).mono fun _ s => s.swap
      exact ⟨_, _, run_endRound (some .ret) hw6.obj_heap, false, _, rfl, hp', ⟨hw7.g, hw7.s⟩⟩
    | exit id =>
      obtain ⟨L', hp', hw5⟩ := h3
      have hw6 := hw5.mono fun _ s => s.swap
      have hw7 := (hw6.putO (.loop ⟨.done, some (.exit id), fid, tmps, #[p], assign, body, d⟩)).mono fun _ s => s.swap
      exact ⟨_, _, run_endRound (some (.exit id)) hw6.obj_heap, false, _, rfl, hp', ⟨hw7.g, hw7.s⟩⟩
    | _ => exact h3.elim
  | _ => exact h.elim
/-- What a loop's rounds come to, its record being R. -/
def Rnd (P : Program) (n : Nat) (σ : Env) (l : Nat) (p : Tmp) (assign body : Code) (R : LoopState → Option Code → Obj) : Prop :=
  ∀ {ι : Type} {τ : ι → Env} {M : ι → List HP} {Fy : ι → Prop} {x : Value} {L : List HP} {post : Bool → List HP → Prop},
    (∀ g F, g.rnd = some l → g.dfs = [] → G P (fun _ _ _ => False) g n [.code assign, .inv (fun a w => ∃ y, Fy y ∧ Sat g n (τ y) a ∧ Hp g (F :: obj l (R .ready none) :: M y) w)] ((p, x) :: σ) (F :: obj l (R .ready none) :: L)) →
    (∀ g F y, Fy y → g.rnd = some l → g.dfs = [] → G P (rndB g F l R post) g n [.code body] (τ y) (F :: obj l (R .busy none) :: M y)) →
    Yld P l [x] (obj l (R .ready none) :: L) post
/-- A range with one variable. -/
theorem G_range1 {g0 : Operand} {p : Tmp} {assign body : Code} {f : FuncId} {c1 c2 : List Value} {post : Option Code → List HP → Prop} [H : CalT P f] (hr : g.rnd = none) (hp : Nat.blt p n = true) (hq : ev σ g0 = some (.func (.func f) c1.toArray c2.toArray))
    (hc : ∀ (l d : Nat) (R : LoopState → Option Code → Obj), Rnd P n σ l p assign body R → Ctr P f (c1 ++ [Value.func (.yield l) #[] #[]] ++ c2).toArray (obj l (R .ready none) :: obj d (.deferred (some [])) :: L)
      fun v L' => ∃ st q L1, st ≠ .busy ∧ post q L1 ∧ L' = obj l (R st q) :: obj d (.deferred (some [])) :: L1)
    (hN : ∀ d L1, post none L1 → G P B (g.withD d) n K σ (obj d (.deferred (some [])) :: L1))
    (hS : ∀ d c L1, post (some c) L1 → G P B (g.withD d) n (.code c :: K) σ (obj d (.deferred (some [])) :: L1)) :
    G P B g n (.code (.rangeFunc g0 #[p] assign body) :: K) σ L :=
  G_range hr hq (fun l d fid tmps hsz hσ => hc l d (fun st q => .loop ⟨st, q, fid, tmps, #[p], assign, body, d⟩) fun hA hB => Yld_of rfl hsz hσ hp hA hB) hN hS
/-- The variable has its value; a round's end. -/
theorem G_rndStart {ι : Type} {τ : ι → Env} {M : ι → List HP} {Fy : ι → Prop} {F : HP} {l : Nat} {r : Obj} (y : ι) (hf : Fy y) (hσ : envSub σ (τ y)) (hL : ∀ h, sat L h → sat (F :: obj l r :: M y) h) :
    G P B g n [.inv (fun a w => ∃ y, Fy y ∧ Sat g n (τ y) a ∧ Hp g (F :: obj l r :: M y) w)] σ L := fun _ _ hs hw => ⟨y, hf, hs.sub hσ, hw.mono hL⟩
theorem G_rndEnd {F : HP} {l : Nat} {R : LoopState → Option Code → Obj} {post : Bool → List HP → Prop} (L' : List HP) (hp : post true (obj l (R .ready none) :: L')) (hL : ∀ h, sat L h → sat (F :: obj l (R .busy none) :: L') h) :
    G P (rndB g F l R post) g n [] σ L := fun _ _ _ hw => ⟨L', hp, hw.mono hL⟩
end
end Go.Proofs.Ytjgdhkilnalejaa
/- Picking out of points, by any order that has no equal ones: the walks (out of XPkI). -/
namespace Go.Proofs.Ytjgdhkilnalejaa
attribute [local irreducible] sat
set_option linter.unusedVariables false
set_option linter.unusedSimpArgs false
set_option maxRecDepth 100000

theorem takeM_snoc {l : List Pt} {k : Nat} {x : Pt} (h : l[k]? = some x) : l.take (k + 1) = l.take k ++ [x] := by
  rw [List.take_add_one, h]; rfl
section
variable {ls : Pt → Pt → Bool}
theorem lowO_snoc (v x : Pt) (l : List Pt) : lowO ls v (l ++ [x]) = lowO ls v l ++ if ls x v = true then [x] else [] := by
  unfold lowO; rw [List.filter_append]; congr 1; simp [List.filter_cons]
theorem likeO_snoc (v x : Pt) (l : List Pt) : likeO v (l ++ [x]) = likeO v l ++ if x = v then [x] else [] := by
  unfold likeO; rw [List.filter_append]; congr 1; simp [List.filter_cons]
theorem highO_snoc (v x : Pt) (l : List Pt) : highO ls v (l ++ [x]) = highO ls v l ++ if ls v x = true then [x] else [] := by
  unfold highO; rw [List.filter_append]; congr 1; simp [List.filter_cons]
end
/-- Three slices of a call's own. -/
structure P3 where
  A1 : Option Addr
  c1 : Nat
  A2 : Option Addr
  c2 : Nat
  A3 : Option Addr
  c3 : Nat
structure P3.Ok (s : P3) (n1 n2 n3 : Nat) : Prop where
  h1 : 0 < n1 → ∃ b, s.A1 = some ⟨b, 0, none⟩
  h2 : 0 < n2 → ∃ b, s.A2 = some ⟨b, 0, none⟩
  h3 : 0 < n3 → ∃ b, s.A3 = some ⟨b, 0, none⟩
  k1 : n1 ≤ s.c1
  k2 : n2 ≤ s.c2
  k3 : n3 ≤ s.c3
section
variable {f : FuncId} [CalT Try.prog f] {ls : Pt → Pt → Bool} (so : STO ls) (hf : LsT f ls)
include so
theorem tri (x v : Pt) : ls x v = true ∨ x = v ∨ ls v x = true := by
  by_cases h : ls x v = true
  · exact .inl h
  · by_cases e : x = v
    · exact .inr (.inl e)
    · exact .inr (.inr (so.tot e (by simpa using h)))
include hf
theorem partsM_ctr (A : Option Addr) (n c : Nat) (l : List Pt) (v : Pt) (L : List HP) (hl : Rd L A n l) (hn : n ≤ 1000000) :
    Ctr Try.prog 95 #[.slice A n c, v.v, .func (.func f) #[] #[]] L fun r L' => ∃ s : P3, r = .tuple #[.slice s.A1 (lowO ls v l).length s.c1, .slice s.A2 (likeO v l).length s.c2, .slice s.A3 (highO ls v l).length s.c3] ∧ s.Ok (lowO ls v l).length (likeO v l).length (highO ls v l).length ∧
      L' = own 27 3 s.A1 (lowO ls v l).length s.c1 (flat (lowO ls v l)) :: own 27 3 s.A2 (likeO v l).length s.c2 (flat (likeO v l)) :: own 27 3 s.A3 (highO ls v l).length s.c3 (flat (highO ls v l)) :: L := by
  have h1 : l.length = n := hl.len (by decide)
  refine Ctr_of (fn := Try.f95) (n := 43) Try.func95 rfl rfl rfl ?_
  intro g F
  (repeat first | refine G_seq ?_ | refine G_skip ?_ | refine G_endblk ?_ | refine G_block ?_ | refine G_exit rfl ?_)
  refine G_region ?_
  refine GO_eff rfl rfl (eff_box rfl) ?_; rintro _ _ ⟨b4, rfl, rfl⟩
  refine GO_q rfl rfl (ev_assign rfl) ?_
  refine GO_q rfl rfl (ev_assign rfl) ?_
  refine GO_q rfl rfl (ev_assign rfl) ?_
  refine GO_nil ?_
  (repeat first | refine G_seq ?_ | refine G_skip ?_ | refine G_endblk ?_ | refine G_block ?_ | refine G_exit rfl ?_)
  refine G_region ?_
  refine GO_q rfl rfl (ev_move rfl) ?_
  refine GO_q rfl rfl (ev_len rfl) ?_
  refine GO_q rfl rfl (ev_move rfl) ?_
  refine GO_nil ?_
  (repeat first | refine G_seq ?_ | refine G_skip ?_ | refine G_endblk ?_ | refine G_block ?_ | refine G_exit rfl ?_)
  refine G_heap (own.nil_ 27 3) ?_
  refine G_heap (own.nil_ 27 3) ?_
  refine G_heap (own.nil_ 27 3) ?_
  refine G_loop (ι := Nat × P3) (fun z => [(4, .pointer (some ⟨b4, 0, none⟩)), (2, .func (.func f) #[] #[]), (6, .slice z.2.A1 (lowO ls v (l.take z.1)).length z.2.c1), (7, .slice z.2.A2 (likeO v (l.take z.1)).length z.2.c2), (8, .slice z.2.A3 (highO ls v (l.take z.1)).length z.2.c3), (11, .slice A n c), (12, .int .i64 (n : Nat)), (13, .int .i64 (z.1 : Nat))])
    (fun z => own 27 3 z.2.A1 (lowO ls v (l.take z.1)).length z.2.c1 (flat (lowO ls v (l.take z.1))) :: own 27 3 z.2.A2 (likeO v (l.take z.1)).length z.2.c2 (flat (likeO v (l.take z.1))) :: own 27 3 z.2.A3 (highO ls v (l.take z.1)).length z.2.c3 (flat (highO ls v (l.take z.1))) :: blk b4 27 [.int .i64 v.id, .int .i64 v.x, .int .i64 v.y] :: F :: L)
    (fun z => z.1 ≤ n ∧ z.2.Ok (lowO ls v (l.take z.1)).length (likeO v (l.take z.1)).length (highO ls v (l.take z.1)).length) (fun z => n - z.1) (0, ⟨none, 0, none, 0, none, 0⟩) ⟨Nat.zero_le _, ⟨fun h => absurd h (Nat.lt_irrefl 0), fun h => absurd h (Nat.lt_irrefl 0), fun h => absurd h (Nat.lt_irrefl 0), Nat.le_refl _, Nat.le_refl _, Nat.le_refl _⟩⟩ ⟨rfl, rfl, rfl, rfl, rfl, rfl, rfl, rfl, trivial⟩ (by show ∀ h, _ → sat (own 27 3 none 0 0 [] :: own 27 3 none 0 0 [] :: own 27 3 none 0 0 [] :: blk b4 27 [.int .i64 v.id, .int .i64 v.x, .int .i64 v.y] :: F :: L) h; exact (by (repeat first | exact fun _ s => s | apply en_keep | apply en_drop | apply en_app) <;> fail)) ?_
  rintro ⟨k, s⟩ ⟨f1, f2⟩
  simp only at f1 f2
  dsimp only
  have b1 : (lowO ls v (l.take k)).length ≤ 1000000 := Nat.le_trans (List.length_filter_le _ _) (by rw [List.length_take]; omega)
  have b2 : (likeO v (l.take k)).length ≤ 1000000 := Nat.le_trans (List.length_filter_le _ _) (by rw [List.length_take]; omega)
  have b3 : (highO ls v (l.take k)).length ≤ 1000000 := Nat.le_trans (List.length_filter_le _ _) (by rw [List.length_take]; omega)
  (repeat first | refine G_seq ?_ | refine G_skip ?_ | refine G_endblk ?_ | refine G_block ?_ | refine G_exit rfl ?_)
  refine G_region ?_
  (first | refine GO_q rfl rfl (ev_lssN rfl rfl) ?_ | refine GO_q rfl rfl (ev_lss rfl rfl) ?_)
  refine GO_nil ?_
  (repeat first | refine G_seq ?_ | refine G_skip ?_ | refine G_endblk ?_ | refine G_block ?_ | refine G_exit rfl ?_)
  refine G_cond rfl (fun q1 => ?_) (fun q1 => ?_)
  · obtain ⟨ab, ao, rfl, ax⟩ := hl.at_ (by omega)
    have g1 : l[k]? = some l[k] := List.getElem?_eq_getElem (by omega)
    have y1 := ax _ _ g1
    have hs := takeM_snoc g1
    generalize l[k] = x at *
    have z1 : LdN L ab (ao + k * 3) 3 [.int .i64 x.id, .int .i64 x.x, .int .i64 x.y] := y1
    have t1 := lowO_snoc (ls := ls) v x (l.take k)
    have t2 := likeO_snoc v x (l.take k)
    have t3 := highO_snoc (ls := ls) v x (l.take k)
    rw [← hs] at t1 t2 t3
    (repeat first | refine G_seq ?_ | refine G_skip ?_ | refine G_endblk ?_ | refine G_block ?_ | refine G_exit rfl ?_)
    refine G_region ?_
    (first | refine GO_q rfl rfl (ev_indexAddrN rfl rfl (by first | omega | (simp; done) | (simp; omega))) ?_ | refine GO_q rfl rfl (ev_indexAddr rfl rfl (by first | omega | (simp; done) | (simp; omega)) (by first | omega | (simp; done) | (simp; omega))) ?_)
    refine GO_q rfl rfl (ev_loadN rfl (by repeat' first | exact LdN.blk rfl | assumption | apply LdN.skip | apply LdN.app)) ?_
    refine GO_eff rfl rfl eff_alloc ?_; rintro _ _ ⟨b10, rfl, rfl⟩
    refine GO_eff rfl rfl (eff_storeN rfl rfl rfl rfl (by repeat' first | exact Upd.here rfl | apply Upd.skip | apply Upd.app)) ?_; rintro _ _ ⟨rfl, rfl⟩
    refine GO_nil ?_
    (repeat first | refine G_seq ?_ | refine G_skip ?_ | refine G_endblk ?_ | refine G_block ?_ | refine G_exit rfl ?_)
    refine G_region ?_
    refine GO_q rfl rfl (ev_move rfl) ?_
    refine GO_q rfl rfl (ev_loadN rfl (by repeat' first | exact LdN.blk rfl | assumption | apply LdN.skip | apply LdN.app)) ?_
    refine GO_q rfl rfl (ev_loadN rfl (by repeat' first | exact LdN.blk rfl | assumption | apply LdN.skip | apply LdN.app)) ?_
    refine GO_eff rfl rfl (eff_callv rfl rfl (hf.ctr x v _)) ?_; rintro _ _ ⟨rfl, rfl⟩
    refine GO_q rfl rfl (ev_assign rfl) ?_
    refine GO_nil ?_
    rcases tri so x v with q | q | q
    · have e1 : ls x v = true := q
      have e3 : ls v x = false := so.asym q
      have ne : x ≠ v := fun e => by rw [e, so.irr] at q; cases q
      rw [e1, if_pos rfl] at t1
      rw [if_neg ne, List.append_nil] at t2
      rw [e3, if_neg (by simp), List.append_nil] at t3
      (repeat first | refine G_seq ?_ | refine G_skip ?_ | refine G_endblk ?_ | refine G_block ?_ | refine G_exit rfl ?_)
      refine G_cond_t rfl e1 ?_
      (repeat first | refine G_seq ?_ | refine G_skip ?_ | refine G_endblk ?_ | refine G_block ?_ | refine G_exit rfl ?_)
      refine G_region ?_
      refine GO_q rfl rfl (ev_move rfl) ?_
      refine GO_q rfl rfl (ev_loadN rfl (by repeat' first | exact LdN.blk rfl | assumption | apply LdN.skip | apply LdN.app)) ?_
      refine GO_eff rfl rfl (eff_buildSlice1 (by rfl) rfl rfl) ?_; rintro _ _ ⟨b28, rfl, rfl⟩
      refine GO_eff rfl rfl (eff_append rfl rfl (by repeat' first | exact Pick.here | apply Pick.skip) (by repeat' first | exact Rc.blk rfl | assumption | apply Rc.skip) (one_all rfl) (by rfl) (by decide) (by first | omega | (simp; done) | (simp; omega)) (by first | omega | (simp; done) | (simp; omega))) ?_; rintro _ _ ⟨A29, c29, rfl, hc29, hm29, hn29, rfl⟩
      refine GO_q rfl rfl (ev_assign rfl) ?_
      refine GO_nil ?_
      (repeat first | refine G_seq ?_ | refine G_skip ?_ | refine G_endblk ?_ | refine G_block ?_ | refine G_exit rfl ?_)
      refine G_region ?_
      (first | refine GO_q rfl rfl (ev_addN (q := 1) rfl rfl (by first | omega | (simp; done) | (simp; omega))) ?_ | refine GO_q rfl rfl (ev_add rfl rfl (by first | omega | (simp; done) | (simp; omega))) ?_)
      refine GO_q rfl rfl (ev_move rfl) ?_
      refine GO_nil ?_
      (repeat first | refine G_seq ?_ | refine G_skip ?_ | refine G_endblk ?_ | refine G_block ?_ | refine G_exit rfl ?_)
      exact G_round (k + 1, { s with A1 := A29, c1 := c29 }) ⟨by simp only; omega, by
        simp only
        rw [t1, t2, t3, List.length_append]
        exact ⟨fun _ => hn29 (by omega), f2.h2, f2.h3, hc29, f2.k2, f2.k3⟩⟩ (by simp only; omega) ⟨rfl, rfl, by simp only; rw [t1, List.length_append]; rfl, by simp only; rw [t2]; rfl, by simp only; rw [t3]; rfl, rfl, rfl, rfl, trivial⟩ (by
        simp only
        rw [t1, t2, t3, List.length_append, ← flat_snoc]
        exact (by (repeat first | exact en_refl | (apply en_blk; focus ((repeat' first | exact Pick.here | apply Pick.skip | apply Pick.app); done); focus rfl) | (apply en_own; focus ((repeat' first | exact Pick.here | apply Pick.skip | apply Pick.app); done); focus rfl) | (apply en_pick; focus ((repeat' first | exact Pick.here | apply Pick.skip | apply Pick.app); done)) | apply en_drop | apply en_app) <;> fail))
    · subst q
      have e1 : ls x x = false := so.irr x
      rw [e1, if_neg (by simp), List.append_nil] at t1
      rw [if_pos rfl] at t2
      rw [e1, if_neg (by simp), List.append_nil] at t3
      (repeat first | refine G_seq ?_ | refine G_skip ?_ | refine G_endblk ?_ | refine G_block ?_ | refine G_exit rfl ?_)
      refine G_cond_f rfl e1 ?_
      (repeat first | refine G_seq ?_ | refine G_skip ?_ | refine G_endblk ?_ | refine G_block ?_ | refine G_exit rfl ?_)
      refine G_region ?_
      refine GO_q rfl rfl (ev_move rfl) ?_
      refine GO_q rfl rfl (ev_loadN rfl (by repeat' first | exact LdN.blk rfl | assumption | apply LdN.skip | apply LdN.app)) ?_
      refine GO_q rfl rfl (ev_loadN rfl (by repeat' first | exact LdN.blk rfl | assumption | apply LdN.skip | apply LdN.app)) ?_
      refine GO_eff rfl rfl (eff_callv rfl rfl (hf.ctr x x _)) ?_; rintro _ _ ⟨rfl, rfl⟩
      refine GO_q rfl rfl (ev_assign rfl) ?_
      refine GO_nil ?_
      (repeat first | refine G_seq ?_ | refine G_skip ?_ | refine G_endblk ?_ | refine G_block ?_ | refine G_exit rfl ?_)
      refine G_cond_f rfl e1 ?_
      (repeat first | refine G_seq ?_ | refine G_skip ?_ | refine G_endblk ?_ | refine G_block ?_ | refine G_exit rfl ?_)
      refine G_region ?_
      refine GO_q rfl rfl (ev_move rfl) ?_
      refine GO_q rfl rfl (ev_loadN rfl (by repeat' first | exact LdN.blk rfl | assumption | apply LdN.skip | apply LdN.app)) ?_
      refine GO_eff rfl rfl (eff_buildSlice1 (by rfl) rfl rfl) ?_; rintro _ _ ⟨b19, rfl, rfl⟩
      refine GO_eff rfl rfl (eff_append rfl rfl (by repeat' first | exact Pick.here | apply Pick.skip) (by repeat' first | exact Rc.blk rfl | assumption | apply Rc.skip) (one_all rfl) (by rfl) (by decide) (by first | omega | (simp; done) | (simp; omega)) (by first | omega | (simp; done) | (simp; omega))) ?_; rintro _ _ ⟨A20, c20, rfl, hc20, hm20, hn20, rfl⟩
      refine GO_q rfl rfl (ev_assign rfl) ?_
      refine GO_nil ?_
      (repeat first | refine G_seq ?_ | refine G_skip ?_ | refine G_endblk ?_ | refine G_block ?_ | refine G_exit rfl ?_)
      refine G_region ?_
      (first | refine GO_q rfl rfl (ev_addN (q := 1) rfl rfl (by first | omega | (simp; done) | (simp; omega))) ?_ | refine GO_q rfl rfl (ev_add rfl rfl (by first | omega | (simp; done) | (simp; omega))) ?_)
      refine GO_q rfl rfl (ev_move rfl) ?_
      refine GO_nil ?_
      (repeat first | refine G_seq ?_ | refine G_skip ?_ | refine G_endblk ?_ | refine G_block ?_ | refine G_exit rfl ?_)
      exact G_round (k + 1, { s with A2 := A20, c2 := c20 }) ⟨by simp only; omega, by
        simp only
        rw [t1, t2, t3, List.length_append]
        exact ⟨f2.h1, fun _ => hn20 (by omega), f2.h3, f2.k1, hc20, f2.k3⟩⟩ (by simp only; omega) ⟨rfl, rfl, by simp only; rw [t1]; rfl, by simp only; rw [t2, List.length_append]; rfl, by simp only; rw [t3]; rfl, rfl, rfl, rfl, trivial⟩ (by
        simp only
        rw [t1, t2, t3, List.length_append, ← flat_snoc]
        exact (by (repeat first | exact en_refl | (apply en_blk; focus ((repeat' first | exact Pick.here | apply Pick.skip | apply Pick.app); done); focus rfl) | (apply en_own; focus ((repeat' first | exact Pick.here | apply Pick.skip | apply Pick.app); done); focus rfl) | (apply en_pick; focus ((repeat' first | exact Pick.here | apply Pick.skip | apply Pick.app); done)) | apply en_drop | apply en_app) <;> fail))
    · have e1 : ls x v = false := so.asym q
      have e3 : ls v x = true := q
      have ne : x ≠ v := fun e => by rw [e, so.irr] at q; cases q
      rw [e1, if_neg (by simp), List.append_nil] at t1
      rw [if_neg ne, List.append_nil] at t2
      rw [e3, if_pos rfl] at t3
      (repeat first | refine G_seq ?_ | refine G_skip ?_ | refine G_endblk ?_ | refine G_block ?_ | refine G_exit rfl ?_)
      refine G_cond_f rfl e1 ?_
      (repeat first | refine G_seq ?_ | refine G_skip ?_ | refine G_endblk ?_ | refine G_block ?_ | refine G_exit rfl ?_)
      refine G_region ?_
      refine GO_q rfl rfl (ev_move rfl) ?_
      refine GO_q rfl rfl (ev_loadN rfl (by repeat' first | exact LdN.blk rfl | assumption | apply LdN.skip | apply LdN.app)) ?_
      refine GO_q rfl rfl (ev_loadN rfl (by repeat' first | exact LdN.blk rfl | assumption | apply LdN.skip | apply LdN.app)) ?_
      refine GO_eff rfl rfl (eff_callv rfl rfl (hf.ctr v x _)) ?_; rintro _ _ ⟨rfl, rfl⟩
      refine GO_q rfl rfl (ev_assign rfl) ?_
      refine GO_nil ?_
      (repeat first | refine G_seq ?_ | refine G_skip ?_ | refine G_endblk ?_ | refine G_block ?_ | refine G_exit rfl ?_)
      refine G_cond_t rfl e3 ?_
      (repeat first | refine G_seq ?_ | refine G_skip ?_ | refine G_endblk ?_ | refine G_block ?_ | refine G_exit rfl ?_)
      refine G_region ?_
      refine GO_q rfl rfl (ev_move rfl) ?_
      refine GO_q rfl rfl (ev_loadN rfl (by repeat' first | exact LdN.blk rfl | assumption | apply LdN.skip | apply LdN.app)) ?_
      refine GO_eff rfl rfl (eff_buildSlice1 (by rfl) rfl rfl) ?_; rintro _ _ ⟨b37, rfl, rfl⟩
      refine GO_eff rfl rfl (eff_append rfl rfl (by repeat' first | exact Pick.here | apply Pick.skip) (by repeat' first | exact Rc.blk rfl | assumption | apply Rc.skip) (one_all rfl) (by rfl) (by decide) (by first | omega | (simp; done) | (simp; omega)) (by first | omega | (simp; done) | (simp; omega))) ?_; rintro _ _ ⟨A38, c38, rfl, hc38, hm38, hn38, rfl⟩
      refine GO_q rfl rfl (ev_assign rfl) ?_
      refine GO_nil ?_
      (repeat first | refine G_seq ?_ | refine G_skip ?_ | refine G_endblk ?_ | refine G_block ?_ | refine G_exit rfl ?_)
      refine G_region ?_
      (first | refine GO_q rfl rfl (ev_addN (q := 1) rfl rfl (by first | omega | (simp; done) | (simp; omega))) ?_ | refine GO_q rfl rfl (ev_add rfl rfl (by first | omega | (simp; done) | (simp; omega))) ?_)
      refine GO_q rfl rfl (ev_move rfl) ?_
      refine GO_nil ?_
      (repeat first | refine G_seq ?_ | refine G_skip ?_ | refine G_endblk ?_ | refine G_block ?_ | refine G_exit rfl ?_)
      exact G_round (k + 1, { s with A3 := A38, c3 := c38 }) ⟨by simp only; omega, by
        simp only
        rw [t1, t2, t3, List.length_append]
        exact ⟨f2.h1, f2.h2, fun _ => hn38 (by omega), f2.k1, f2.k2, hc38⟩⟩ (by simp only; omega) ⟨rfl, rfl, by simp only; rw [t1]; rfl, by simp only; rw [t2]; rfl, by simp only; rw [t3, List.length_append]; rfl, rfl, rfl, rfl, trivial⟩ (by
        simp only
        rw [t1, t2, t3, List.length_append, ← flat_snoc]
        exact (by (repeat first | exact en_refl | (apply en_blk; focus ((repeat' first | exact Pick.here | apply Pick.skip | apply Pick.app); done); focus rfl) | (apply en_own; focus ((repeat' first | exact Pick.here | apply Pick.skip | apply Pick.app); done); focus rfl) | (apply en_pick; focus ((repeat' first | exact Pick.here | apply Pick.skip | apply Pick.app); done)) | apply en_drop | apply en_app) <;> fail))
  · have e : l.take k = l := List.take_of_length_le (by omega)
    rw [e] at f2 ⊢
    (repeat first | refine G_seq ?_ | refine G_skip ?_ | refine G_endblk ?_ | refine G_block ?_ | refine G_exit rfl ?_)
    refine G_region ?_
    refine GO_q rfl rfl (ev_move rfl) ?_
    refine GO_q rfl rfl (ev_move rfl) ?_
    refine GO_q rfl rfl (ev_move rfl) ?_
    refine GO_q rfl rfl (ev_assign rfl) ?_
    refine GO_q rfl rfl (ev_assign rfl) ?_
    refine GO_q rfl rfl (ev_assign rfl) ?_
    refine GO_nil ?_
    (repeat first | refine G_seq ?_ | refine G_skip ?_ | refine G_endblk ?_ | refine G_block ?_ | refine G_exit rfl ?_)
    exact G_ret (L' := own 27 3 s.A1 (lowO ls v l).length s.c1 (flat (lowO ls v l)) :: own 27 3 s.A2 (likeO v l).length s.c2 (flat (likeO v l)) :: own 27 3 s.A3 (highO ls v l).length s.c3 (flat (highO ls v l)) :: L) rfl (.tmp rfl (.tmp rfl (.tmp rfl .nil))) (by (repeat first | exact en_refl | (apply en_blk; focus ((repeat' first | exact Pick.here | apply Pick.skip | apply Pick.app); done); focus rfl) | (apply en_own; focus ((repeat' first | exact Pick.here | apply Pick.skip | apply Pick.app); done); focus rfl) | (apply en_pick; focus ((repeat' first | exact Pick.here | apply Pick.skip | apply Pick.app); done)) | apply en_drop | apply en_app) <;> fail) ⟨s, rfl, f2, rfl⟩
end
/-- slices.Chunk -/
theorem Chunk_ctr (A : Option Addr) (n c : Nat) (L : List HP) : Ctr Try.prog 107 #[.slice A n c, .int .i64 5] L fun v L' => ∃ b2 b3, v = .func (.func 109) #[] #[.pointer (some ⟨b2, 0, none⟩), .pointer (some ⟨b3, 0, none⟩)] ∧ L' = blk b2 40 [.slice A n c] :: blk b3 3 [.int .i64 5] :: L := by
  refine Ctr_of (fn := Try.f107) (n := 9) Try.func107 rfl rfl rfl ?_
  intro g F
  (repeat first | refine G_seq ?_ | refine G_skip ?_ | refine G_endblk ?_ | refine G_block ?_ | refine G_exit rfl ?_)
  refine G_region ?_
  refine GO_eff rfl rfl (eff_box rfl) ?_; rintro _ _ ⟨b2, rfl, rfl⟩
  refine GO_eff rfl rfl (eff_box rfl) ?_; rintro _ _ ⟨b3, rfl, rfl⟩
  refine GO_q rfl rfl (ev_assign rfl) ?_
  refine GO_nil ?_
  (repeat first | refine G_seq ?_ | refine G_skip ?_ | refine G_endblk ?_ | refine G_block ?_ | refine G_exit rfl ?_)
  refine G_region ?_
  refine GO_q rfl rfl (ev_load rfl (by repeat' first | exact Ld.blk rfl | assumption | apply Ld.skip | apply Ld.app)) ?_
  (first | refine GO_q rfl rfl (ev_lssN (q := 1) rfl rfl) ?_ | refine GO_q rfl rfl (ev_lss rfl rfl) ?_)
  refine GO_nil ?_
  (repeat first | refine G_seq ?_ | refine G_skip ?_ | refine G_endblk ?_ | refine G_block ?_ | refine G_exit rfl ?_)
  refine G_cond_f rfl rfl ?_
  (repeat first | refine G_seq ?_ | refine G_skip ?_ | refine G_endblk ?_ | refine G_block ?_ | refine G_exit rfl ?_)
  refine G_region ?_
  refine GO_q rfl rfl (ev_makeFunc rfl rfl) ?_
  refine GO_q rfl rfl (ev_assign rfl) ?_
  refine GO_nil ?_
  (repeat first | refine G_seq ?_ | refine G_skip ?_ | refine G_endblk ?_ | refine G_block ?_ | refine G_exit rfl ?_)
  exact G_ret (L' := blk b2 40 [.slice A n c] :: blk b3 3 [.int .i64 5] :: L) rfl (.tmp rfl .nil) (by (repeat first | exact en_refl | (apply en_blk; focus ((repeat' first | exact Pick.here | apply Pick.skip | apply Pick.app); done); focus rfl) | (apply en_own; focus ((repeat' first | exact Pick.here | apply Pick.skip | apply Pick.app); done); focus rfl) | (apply en_pick; focus ((repeat' first | exact Pick.here | apply Pick.skip | apply Pick.app); done)) | apply en_drop | apply en_app) <;> fail) ⟨b2, b3, rfl, rfl⟩
theorem chunks_ctr {S : Type} (y b2 b3 b o n c : Nat) (xs : List Pt) (L : Nat → S → List HP) (Inv : Nat → S → Prop) (hRd : ∀ k s, Inv k s → Rd (L k s) (some ⟨b, o, none⟩) n xs) (hn : n ≤ 1000000) (hc : n ≤ c)
    (hy : ∀ k s, 5 * k < n → Inv k s → Yld Try.prog y [.slice (some ⟨b, o + 5 * k * 3, none⟩) (min 5 (n - 5 * k)) (min 5 (n - 5 * k))] (L k s) fun q L' => q = true ∧ ∃ s', Inv (k + 1) s' ∧ L' = L (k + 1) s') (s0 : S) (h0 : Inv 0 s0) :
    Ctr Try.prog 109 #[Value.func (.yield y) #[] #[], .pointer (some ⟨b2, 0, none⟩), .pointer (some ⟨b3, 0, none⟩)] (blk b2 40 [.slice (some ⟨b, o, none⟩) n c] :: blk b3 3 [.int .i64 5] :: L 0 s0) fun v L' => v = .tuple #[] ∧ ∃ k s', n ≤ 5 * k ∧ 5 * k < n + 5 ∧ Inv k s' ∧ L' = blk b2 40 [.slice (some ⟨b, o, none⟩) n c] :: blk b3 3 [.int .i64 5] :: L k s' := by
  refine Ctr_of (fn := Try.f109) (n := 31) Try.func109 rfl rfl rfl ?_
  intro g F
  (repeat first | refine G_seq ?_ | refine G_skip ?_ | refine G_endblk ?_ | refine G_block ?_ | refine G_exit rfl ?_)
  refine G_region ?_
  refine GO_q rfl rfl (ev_assign rfl) ?_
  refine GO_nil ?_
  (repeat first | refine G_seq ?_ | refine G_skip ?_ | refine G_endblk ?_ | refine G_block ?_ | refine G_exit rfl ?_)
  refine G_loop (ι := Nat × S) (fun z => [(0, Value.func (.yield y) #[] #[]), (1, .pointer (some ⟨b2, 0, none⟩)), (2, .pointer (some ⟨b3, 0, none⟩)), (4, .int .i64 ((5 * z.1 : Nat) : Int))]) (fun z => F :: blk b2 40 [.slice (some ⟨b, o, none⟩) n c] :: blk b3 3 [.int .i64 5] :: L z.1 z.2) (fun z => 5 * z.1 < n + 5 ∧ Inv z.1 z.2) (fun z => n + 5 - 5 * z.1) (0, s0) ⟨by simp only; omega, h0⟩ ⟨rfl, rfl, rfl, rfl, trivial⟩ (by (repeat first | exact fun _ s => s | apply en_keep | apply en_drop | apply en_app) <;> fail) ?_
  rintro ⟨k, s⟩ ⟨f1, f2⟩
  simp only at f1 f2
  dsimp only
  (repeat first | refine G_seq ?_ | refine G_skip ?_ | refine G_endblk ?_ | refine G_block ?_ | refine G_exit rfl ?_)
  refine G_region ?_
  refine GO_q rfl rfl (ev_move rfl) ?_
  refine GO_q rfl rfl (ev_load rfl (by repeat' first | exact Ld.blk rfl | assumption | apply Ld.skip | apply Ld.app)) ?_
  refine GO_q rfl rfl (ev_len rfl) ?_
  (first | refine GO_q rfl rfl (ev_lssN rfl rfl) ?_ | refine GO_q rfl rfl (ev_lss rfl rfl) ?_)
  refine GO_nil ?_
  (repeat first | refine G_seq ?_ | refine G_skip ?_ | refine G_endblk ?_ | refine G_block ?_ | refine G_exit rfl ?_)
  refine G_cond rfl (fun q1 => ?_) (fun q1 => ?_)
  · have hyk := hy k s (by omega) f2
    obtain ⟨i, hi⟩ : ∃ i, i = 5 * k := ⟨_, rfl⟩
    obtain ⟨m, hm⟩ : ∃ m, m = min 5 (n - i) := ⟨_, rfl⟩
    have hme : (min (5 : Int) ((n - i : Nat) : Int)) = (m : Int) := by omega
    rw [← hi] at hyk q1 f1 ⊢
    rw [← hm] at hyk
    (repeat first | refine G_seq ?_ | refine G_skip ?_ | refine G_endblk ?_ | refine G_block ?_ | refine G_exit rfl ?_)
    refine G_draw (.q 0 (.q 1 (.q 2 (.q 3 (.q 4 (.q 5 (.q 6 .nil))))))) (by kernel_rfl) (by kernel_rfl) ?_
    refine RS_q retB_noPanic rfl rfl rfl rfl (ev_load rfl (by repeat' first | exact Ld.blk rfl | assumption | apply Ld.skip | apply Ld.app)) ?_
    refine RS_q retB_noPanic rfl rfl rfl rfl (ev_load rfl (by repeat' first | exact Ld.blk rfl | assumption | apply Ld.skip | apply Ld.app)) ?_
    refine RS_m retB_noPanic rfl rfl rfl rfl (ev_move rfl) ?_
    refine RS_q retB_noPanic rfl rfl rfl rfl (ev_sliceL rfl rfl (by omega) (by omega)) ?_
    refine RS_q retB_noPanic rfl rfl rfl rfl (ev_len rfl) ?_
    refine RS_q retB_noPanic rfl rfl rfl rfl (ev_min rfl rfl) ?_
    refine RS_m retB_noPanic rfl rfl rfl rfl (ev_assign rfl) ?_
    refine RS_nil ?_
    rw [hme]
    (repeat first | refine G_seq ?_ | refine G_skip ?_ | refine G_endblk ?_ | refine G_block ?_ | refine G_exit rfl ?_)
    refine G_region ?_
    refine GO_q rfl rfl (ev_move rfl) ?_
    refine GO_q rfl rfl (ev_load rfl (by repeat' first | exact Ld.blk rfl | assumption | apply Ld.skip | apply Ld.app)) ?_
    refine GO_q rfl rfl (ev_move rfl) ?_
    refine GO_q rfl rfl (ev_move rfl) ?_
    refine GO_q rfl rfl (ev_move rfl) ?_
    (first | refine GO_q rfl rfl (ev_addN rfl rfl (by first | omega | (simp; done) | (simp; omega))) ?_ | refine GO_q rfl rfl (ev_add rfl rfl (by first | omega | (simp; done) | (simp; omega))) ?_)
    refine GO_q rfl rfl (ev_move rfl) ?_
    refine GO_q rfl rfl (ev_move rfl) ?_
    (first | refine GO_q rfl rfl (ev_addN rfl rfl (by first | omega | (simp; done) | (simp; omega))) ?_ | refine GO_q rfl rfl (ev_add rfl rfl (by first | omega | (simp; done) | (simp; omega))) ?_)
    refine GO_q rfl rfl (ev_slice3 (l := i) (h := i + m) (m := i + m) rfl rfl rfl rfl (by omega) (by omega) (by omega)) ?_
    rw [show i + m - i = m by omega, if_neg (show ¬ i + m = i by omega)]
    refine GO_yield rfl rfl rfl (Yld.frame [F, blk b2 40 [.slice (some ⟨b, o, none⟩) n c], blk b3 3 [.int .i64 5]] hyk (fun _ s => s)) ?_
    rintro q L' ⟨L1, ⟨rfl, s', hs', rfl⟩, rfl⟩
    refine GO_q rfl rfl (ev_not rfl) ?_
    refine GO_nil ?_
    (repeat first | refine G_seq ?_ | refine G_skip ?_ | refine G_endblk ?_ | refine G_block ?_ | refine G_exit rfl ?_)
    refine G_cond_f rfl rfl ?_
    (repeat first | refine G_seq ?_ | refine G_skip ?_ | refine G_endblk ?_ | refine G_block ?_ | refine G_exit rfl ?_)
    refine G_region ?_
    refine GO_q rfl rfl (ev_move rfl) ?_
    refine GO_q rfl rfl (ev_load rfl (by repeat' first | exact Ld.blk rfl | assumption | apply Ld.skip | apply Ld.app)) ?_
    (first | refine GO_q rfl rfl (ev_addN rfl rfl (by first | omega | (simp; done) | (simp; omega))) ?_ | refine GO_q rfl rfl (ev_add rfl rfl (by first | omega | (simp; done) | (simp; omega))) ?_)
    refine GO_q rfl rfl (ev_assign rfl) ?_
    refine GO_nil ?_
    (repeat first | refine G_seq ?_ | refine G_skip ?_ | refine G_endblk ?_ | refine G_block ?_ | refine G_exit rfl ?_)
    exact G_round (k + 1, s') ⟨by simp only; omega, hs'⟩ (by simp only; omega) ⟨rfl, rfl, rfl, by rw [hi]; rfl, trivial⟩ (by (repeat first | exact fun _ s => s | apply en_keep | apply en_drop | apply en_app) <;> fail)
  · (repeat first | refine G_seq ?_ | refine G_skip ?_ | refine G_endblk ?_ | refine G_block ?_ | refine G_exit rfl ?_)
    exact G_end (rs := []) (vs := []) (L' := blk b2 40 [.slice (some ⟨b, o, none⟩) n c] :: blk b3 3 [.int .i64 5] :: L k s) rfl .nil (by (repeat first | exact fun _ s => s | apply en_keep | apply en_drop | apply en_app) <;> fail) ⟨rfl, k, s, by omega, f1, f2, rfl⟩
end Go.Proofs.Ytjgdhkilnalejaa
/- Picking out of points: middles, nth, split (out of XPkJ). -/
namespace Go.Proofs.Ytjgdhkilnalejaa
attribute [local irreducible] sat
set_option linter.unusedVariables false
set_option linter.unusedSimpArgs false
set_option maxRecDepth 100000

section
variable {f : FuncId} [CalT Try.prog f] {ls : Pt → Pt → Bool} (so : STO ls) (hf : LsT f ls)
include so hf
theorem middlesM_ctr (A : Option Addr) (n c : Nat) (l : List Pt) (L : List HP) (hl : Rd L A n l) (h0 : 0 < n) (hn : n ≤ 1000000) (hc : n ≤ c) :
    Ctr Try.prog 105 #[.slice A n c, .func (.func f) #[] #[]] L fun r L' => ∃ ms : List Pt, ((∀ x ∈ ms, x ∈ l) ∧ 5 * ms.length < n + 5 ∧ n ≤ 5 * ms.length) ∧ MadeC 27 ms L r L' := by
  have h1 : l.length = n := hl.len (by decide)
  obtain ⟨b, o, rfl, _⟩ := hl.at_ h0
  refine Ctr_ofM (fn := Try.f105) (n := 24) Try.func105 rfl rfl rfl ?_
  intro g F hgb
  (repeat first | refine G_seq ?_ | refine G_skip ?_ | refine G_endblk ?_ | refine G_block ?_ | refine G_exit rfl ?_)
  refine G_region ?_
  refine GO_eff rfl rfl (eff_box rfl) ?_; rintro _ _ ⟨b3, rfl, rfl⟩
  refine GO_q rfl rfl (ev_assign rfl) ?_
  refine GO_nil ?_
  (repeat first | refine G_seq ?_ | refine G_skip ?_ | refine G_endblk ?_ | refine G_block ?_ | refine G_exit rfl ?_)
  refine G_region ?_
  refine GO_eff rfl rfl eff_alloc ?_; rintro _ _ ⟨b5, rfl, rfl⟩
  refine GO_nil ?_
  (repeat first | refine G_seq ?_ | refine G_skip ?_ | refine G_endblk ?_ | refine G_block ?_ | refine G_exit rfl ?_)
  refine G_region ?_
  refine GO_q rfl rfl (ev_move rfl) ?_
  refine GO_eff rfl rfl (eff_call rfl (Chunk_ctr (some ⟨b, o, none⟩) n c _)) ?_; rintro _ _ ⟨b8, b9, rfl, rfl⟩
  refine GO_nil ?_
  (repeat first | refine G_seq ?_ | refine G_skip ?_ | refine G_endblk ?_ | refine G_block ?_ | refine G_exit rfl ?_)
  refine G_heap (own.nil_ 27 3) ?_
  refine G_range1 (f := 109) (c1 := []) (c2 := [.pointer (some ⟨b8, 0, none⟩), .pointer (some ⟨b9, 0, none⟩)]) (post := fun p L1 => p = none ∧ ∃ s : Option Addr × Nat × List Pt, ((∀ x ∈ s.2.2, x ∈ l) ∧ 5 * s.2.2.length < n + 5 ∧ n ≤ 5 * s.2.2.length) ∧ ((0 < s.2.2.length → ∃ b, s.1 = some ⟨b, 0, none⟩) ∧ s.2.2.length ≤ s.2.1 ∧ s.2.1 ≤ maxLen) ∧ L1 = own 27 3 s.1 s.2.2.length s.2.1 (flat s.2.2) :: blk b5 40 [.slice s.1 s.2.2.length s.2.1] :: F :: L) (by rw [← hgb]; rfl) rfl rfl ?_ ?_ ?_
  · intro y d R hR
    have hv := chunks_ctr (S := Option Addr × Nat × List Pt) y b8 b9 b o n c l
      (fun k s => obj y (R .ready none) :: obj d (.deferred (some [])) :: own 27 3 s.1 s.2.2.length s.2.1 (flat s.2.2) :: blk b5 40 [.slice s.1 s.2.2.length s.2.1] :: blk b3 84 [.func (.func f) #[] #[]] :: F :: L)
      (fun k s => s.2.2.length = k ∧ (∀ x ∈ s.2.2, x ∈ l) ∧ (0 < s.2.2.length → ∃ b, s.1 = some ⟨b, 0, none⟩) ∧ s.2.2.length ≤ s.2.1 ∧ s.2.1 ≤ maxLen)
      (fun k s _ => hl.skip.skip.skip.skip.skip.skip) hn hc ?_ (none, 0, []) ⟨rfl, by simp, fun h => absurd h (Nat.lt_irrefl 0), Nat.le_refl _, Nat.zero_le _⟩
    · refine (Ctr.pre (by (repeat first | exact en_refl | (apply en_blk; focus ((repeat' first | exact Pick.here | apply Pick.skip | apply Pick.app); done); focus rfl) | (apply en_own; focus ((repeat' first | exact Pick.here | apply Pick.skip | apply Pick.app); done); focus rfl) | (apply en_pick; focus ((repeat' first | exact Pick.here | apply Pick.skip | apply Pick.app); done)) | apply en_drop | apply en_app) <;> fail) hv).post' ?_
      rintro v L' hm ⟨rfl, k, s, k1, k2, ⟨hs1, hs2, hs3⟩, rfl⟩ hsat
      refine ⟨_, ⟨.ready, none, _, (by decide), ⟨rfl, s, ⟨hs2, by omega, by omega⟩, hs3, rfl⟩, rfl⟩, ?_⟩
      revert hm
      exact (by (repeat first | exact en_refl | (apply en_blk; focus ((repeat' first | exact Pick.here | apply Pick.skip | apply Pick.app); done); focus rfl) | (apply en_own; focus ((repeat' first | exact Pick.here | apply Pick.skip | apply Pick.app); done); focus rfl) | (apply en_pick; focus ((repeat' first | exact Pick.here | apply Pick.skip | apply Pick.app); done)) | apply en_drop | apply en_app) <;> fail)
    · rintro k ⟨B, e, ms⟩ hk ⟨i1, i2, i3, i4, i5⟩
      simp only at i1 i2 i3 i4 i5
      dsimp only
      obtain ⟨i, hi⟩ : ∃ i, i = 5 * k := ⟨_, rfl⟩
      obtain ⟨m, hm⟩ : ∃ m, m = min 5 (n - i) := ⟨_, rfl⟩
      rw [← hi] at hk ⊢
      rw [← hm]
      have hd0 := hl.drop (k := i) (c := c) (by omega) hc
      rw [if_neg (by omega)] at hd0
      have hg : Rd L (some ⟨b, o + i * 3, none⟩) m ((l.drop i).take m) := by
        have h9 : Rd L (some ⟨b, o + i * 3, none⟩) m ((l.drop i).take m) := hd0.take (k := m) (by omega)
        exact h9
      have hgl : ((l.drop i).take m).length = m := hg.len (by decide)
      have hgm : ∀ x ∈ (l.drop i).take m, x ∈ l := fun x hx => List.mem_of_mem_drop (List.mem_of_mem_take hx)
      generalize (l.drop i).take m = gs at *
      refine hR (ι := Unit) (τ := fun _ => [(3, .pointer (some ⟨b3, 0, none⟩)), (5, .pointer (some ⟨b5, 0, none⟩)), (6, .slice (some ⟨b, o + i * 3, none⟩) m m)]) (M := fun _ => obj d (.deferred (some [])) :: own 27 3 B ms.length e (flat ms) :: blk b5 40 [.slice B ms.length e] :: blk b3 84 [.func (.func f) #[] #[]] :: F :: L) (Fy := fun _ => True) ?_ ?_
      · intro g F' _ _
        (repeat first | refine G_seq ?_ | refine G_skip ?_ | refine G_endblk ?_ | refine G_block ?_ | refine G_exit rfl ?_)
        refine G_region ?_
        refine GO_q rfl rfl (ev_assign rfl) ?_
        refine GO_nil ?_
        exact G_rndStart () trivial ⟨rfl, rfl, rfl, trivial⟩ (by (repeat first | exact fun _ s => s | apply en_keep | apply en_drop | apply en_app) <;> fail)
      · intro g F' _ _ _ _
        have hsl : (srtO ls gs).length = m := by rw [srtO_length, hgl]
        have hx : (srtO ls gs)[m / 2]? = some (srtO ls gs)[m / 2] := List.getElem?_eq_getElem (by omega)
        have hxm : (srtO ls gs)[m / 2] ∈ l := hgm _ ((srtO_perm gs).subset (List.getElem_mem _))
        generalize (srtO ls gs)[m / 2] = x at *
        (repeat first | refine G_seq ?_ | refine G_skip ?_ | refine G_endblk ?_ | refine G_block ?_ | refine G_exit rfl ?_)
        (repeat first | refine G_seq ?_ | refine G_skip ?_ | refine G_endblk ?_ | refine G_block ?_ | refine G_exit rfl ?_)
        refine G_region ?_
        refine GO_q rfl rfl (ev_move rfl) ?_
        refine GO_q rfl rfl (ev_load rfl (by repeat' first | exact Ld.blk rfl | assumption | apply Ld.skip | apply Ld.app)) ?_
        refine GO_eff rfl rfl (eff_call rfl ((SortO_ctr so hf (some ⟨b, o + i * 3, none⟩) m m gs _ (by repeat' first | exact Rc.blk rfl | assumption | apply Rd.skip | apply Rd.app) (by omega) (Nat.le_refl _)))) ?_; rintro _ _ ⟨C, c2, rfl, hC, rfl⟩
        refine GO_q rfl rfl (ev_assign rfl) ?_
        refine GO_nil ?_
        rw [hsl] at hC ⊢
        obtain ⟨cb, rfl⟩ := hC (by omega)
        have hld : ∀ L', LdN (own 27 3 (some ⟨cb, 0, none⟩) m c2 (flat (srtO ls gs)) :: L') cb (0 + (m / 2) * 3) 3 [.int .i64 x.id, .int .i64 x.x, .int .i64 x.y] := fun L' => ld_ownP hsl hx L'
        generalize srtO ls gs = ss at *
        (repeat first | refine G_seq ?_ | refine G_skip ?_ | refine G_endblk ?_ | refine G_block ?_ | refine G_exit rfl ?_)
        refine G_draw (.q 0 (.q 1 (.q 2 (.q 3 (.q 4 (.q 5 (.q 6 (.e 7 (.e 8 (.e 9 .nil)))))))))) (by kernel_rfl) (by kernel_rfl) ?_
        refine RS_q rndB_noPanic rfl rfl rfl rfl (ev_load rfl (by repeat' first | exact Ld.blk rfl | assumption | apply Ld.skip | apply Ld.app)) ?_
        refine RS_m rndB_noPanic rfl rfl rfl rfl (ev_move rfl) ?_
        refine RS_m rndB_noPanic rfl rfl rfl rfl (ev_move rfl) ?_
        refine RS_q rndB_noPanic rfl rfl rfl rfl (ev_len rfl) ?_
        (first | refine RS_m rndB_noPanic rfl rfl rfl rfl (ev_quoN (q := 2) rfl rfl (by first | omega | (simp; done) | (simp; omega)) (by first | omega | (simp; done) | (simp; omega))) ?_ | refine RS_m rndB_noPanic rfl rfl rfl rfl (ev_quo rfl rfl (by first | omega | (simp; done) | (simp; omega)) (by first | omega | (simp; done) | (simp; omega)) (by first | omega | (simp; done) | (simp; omega))) ?_)
        (first | refine RS_m rndB_noPanic rfl rfl rfl rfl (ev_indexAddrN rfl rfl (by first | omega | (simp; done) | (simp; omega))) ?_ | refine RS_m rndB_noPanic rfl rfl rfl rfl (ev_indexAddr rfl rfl (by first | omega | (simp; done) | (simp; omega)) (by first | omega | (simp; done) | (simp; omega))) ?_)
        refine RS_q rndB_noPanic rfl rfl rfl rfl (ev_loadN rfl (by repeat' first | exact hld _ | apply LdN.skip)) ?_
        refine RS_e (RE_eff rfl rfl rfl (eff_buildSlice1 (by rfl) rfl rfl) ?_); rintro _ _ ⟨b21, rfl, rfl⟩; refine ⟨_, fun _ s => s, (by first | ((repeat first | exact fun _ s => s | apply en_keep | apply en_drop | apply en_app) <;> fail) | ((repeat first | exact en_refl | (apply en_blk; focus ((repeat' first | exact Pick.here | apply Pick.skip | apply Pick.app); done); focus rfl) | (apply en_own; focus ((repeat' first | exact Pick.here | apply Pick.skip | apply Pick.app); done); focus rfl) | (apply en_pick; focus ((repeat' first | exact Pick.here | apply Pick.skip | apply Pick.app); done)) | apply en_drop | apply en_app) <;> fail)), ?_⟩
        refine RS_e (RE_cmp (by kernel_rfl) rfl rfl rfl (eff_append rfl rfl (by repeat' first | exact Pick.here | apply Pick.skip) (by repeat' first | exact Rc.blk rfl | assumption | apply Rc.skip) (one_all rfl) (by rfl) (by decide) (by first | omega | (simp; done) | (simp; omega)) (by first | omega | (simp; done) | (simp; omega))) ?_); rintro _ _ ⟨A22, c22, rfl, hc22, hm22, hn22, rfl⟩
        refine RS_e (RE_last (by kernel_rfl) rfl rfl rfl (eff_store rfl rfl rfl (by repeat' first | exact Upd.here rfl | apply Upd.skip | apply Upd.app)) ?_); rintro _ _ ⟨rfl, rfl⟩
        (repeat first | refine G_seq ?_ | refine G_skip ?_ | refine G_endblk ?_ | refine G_block ?_ | refine G_exit rfl ?_)
        exact G_rndEnd (obj d (.deferred (some [])) :: own 27 3 A22 (ms ++ [x]).length c22 (flat (ms ++ [x])) :: blk b5 40 [.slice A22 (ms ++ [x]).length c22] :: blk b3 84 [.func (.func f) #[] #[]] :: F :: L) ⟨rfl, (A22, c22, ms ++ [x]), ⟨by simp only [List.length_append, List.length_singleton, i1], fun z hz => (List.mem_append.1 hz).elim (i2 z) (fun h => by simp at h; exact h ▸ hxm), by simp only [List.length_append, List.length_singleton]; exact fun _ => hn22 (by omega), by simp only [List.length_append, List.length_singleton]; exact hc22, hm22⟩, rfl⟩ (by
          rw [List.length_append, ← flat_snoc]
          exact (by (repeat first | exact en_refl | (apply en_blk; focus ((repeat' first | exact Pick.here | apply Pick.skip | apply Pick.app); done); focus rfl) | (apply en_own; focus ((repeat' first | exact Pick.here | apply Pick.skip | apply Pick.app); done); focus rfl) | (apply en_pick; focus ((repeat' first | exact Pick.here | apply Pick.skip | apply Pick.app); done)) | apply en_drop | apply en_app) <;> fail))
  · rintro d L1 ⟨-, ⟨B, e, ms⟩, hms, ⟨i1, i2, i3⟩, rfl⟩
    simp only at hms i1 i2 i3
    dsimp only
    (repeat first | refine G_seq ?_ | refine G_skip ?_ | refine G_endblk ?_ | refine G_block ?_ | refine G_exit rfl ?_)
    refine G_region ?_
    refine GO_q rfl rfl (ev_load rfl (by repeat' first | exact Ld.blk rfl | assumption | apply Ld.skip | apply Ld.app)) ?_
    refine GO_q rfl rfl (ev_assign rfl) ?_
    refine GO_nil ?_
    (repeat first | refine G_seq ?_ | refine G_skip ?_ | refine G_endblk ?_ | refine G_block ?_ | refine G_exit rfl ?_)
    exact G_retM [d] rfl (by rw [← hgb]; rfl) rfl (.tmp rfl .nil) (M := own 27 3 B ms.length e (flat ms) :: blk b5 40 [.slice B ms.length e] :: F :: L) (L' := own 27 3 B ms.length e (flat ms) :: L) (by (repeat first | exact en_refl | (apply en_blk; focus ((repeat' first | exact Pick.here | apply Pick.skip | apply Pick.app); done); focus rfl) | (apply en_own; focus ((repeat' first | exact Pick.here | apply Pick.skip | apply Pick.app); done); focus rfl) | (apply en_pick; focus ((repeat' first | exact Pick.here | apply Pick.skip | apply Pick.app); done)) | apply en_drop | apply en_app) <;> fail) (by (repeat first | exact en_refl | (apply en_blk; focus ((repeat' first | exact Pick.here | apply Pick.skip | apply Pick.app); done); focus rfl) | (apply en_own; focus ((repeat' first | exact Pick.here | apply Pick.skip | apply Pick.app); done); focus rfl) | (apply en_pick; focus ((repeat' first | exact Pick.here | apply Pick.skip | apply Pick.app); done)) | apply en_drop | apply en_app) <;> fail) ⟨ms, hms, B, e, rfl, i1, i2, i3, rfl⟩
  · rintro d e L1 ⟨h, _⟩
    cases h
/-- The one that stands at k. -/
theorem nthM_ctr : ∀ (N : Nat) (A : Option Addr) (n c : Nat) (l : List Pt) (k : Nat) (v : Pt) (L : List HP) (_ : n ≤ N) (_ : Rd L A n l) (_ : n ≤ 1000000) (_ : n ≤ c) (_ : (srtO ls l)[k]? = some v),
    Ctr Try.prog 103 #[.slice A n c, .int .i64 (k : Nat), .func (.func f) #[] #[]] L fun r L' => r = v.v ∧ L' = L := by
  intro N
  induction N using Nat.strongRecOn with
  | _ N ih =>
  intro A n c l k v L hN hl hn hc hv
  have h1 : l.length = n := hl.len (by decide)
  refine Ctr_of (fn := Try.f103) (n := 61) Try.func103 rfl rfl rfl ?_
  intro g F
  (repeat first | refine G_seq ?_ | refine G_skip ?_ | refine G_endblk ?_ | refine G_block ?_ | refine G_exit rfl ?_)
  refine G_region ?_
  refine GO_eff rfl rfl eff_alloc ?_; rintro _ _ ⟨b6, rfl, rfl⟩
  refine GO_nil ?_
  (repeat first | refine G_seq ?_ | refine G_skip ?_ | refine G_endblk ?_)
  refine G_cut (ι := Option Addr × Nat × List Pt × Nat × List HP) (fun x => [(0, .slice x.1 x.2.2.1.length x.2.1), (1, .int .i64 (x.2.2.2.1 : Nat)), (2, .func (.func f) #[] #[]), (6, .pointer (some ⟨b6, 0, none⟩))]) (fun x => blk b6 27 [.int .i64 0, .int .i64 0, .int .i64 0] :: (x.2.2.2.2 ++ F :: L)) (fun x => Rd (x.2.2.2.2 ++ F :: L) x.1 x.2.2.1.length x.2.2.1 ∧ x.2.2.1.length ≤ x.2.1 ∧ x.2.2.1.length ≤ n ∧ (srtO ls x.2.2.1)[x.2.2.2.1]? = some v) ?_ ?_
  · (repeat first | refine G_seq ?_ | refine G_skip ?_ | refine G_endblk ?_ | refine G_block ?_ | refine G_exit rfl ?_)
    refine G_loop (ι := Option Addr × Nat × List Pt × Nat × List HP) (fun x => [(0, .slice x.1 x.2.2.1.length x.2.1), (1, .int .i64 (x.2.2.2.1 : Nat)), (2, .func (.func f) #[] #[]), (6, .pointer (some ⟨b6, 0, none⟩))]) (fun x => blk b6 27 [.int .i64 0, .int .i64 0, .int .i64 0] :: (x.2.2.2.2 ++ F :: L)) (fun x => Rd (x.2.2.2.2 ++ F :: L) x.1 x.2.2.1.length x.2.2.1 ∧ x.2.2.1.length ≤ x.2.1 ∧ x.2.2.1.length ≤ n ∧ (srtO ls x.2.2.1)[x.2.2.2.1]? = some v) (fun x => x.2.2.1.length) (A, c, l, k, []) ⟨by simp only [List.nil_append]; rw [h1]; exact hl.skip, by simp only; omega, by simp only; omega, hv⟩ ⟨by simp only; rw [h1]; rfl, rfl, rfl, rfl, trivial⟩ (by (repeat first | exact fun _ s => s | apply en_keep | apply en_drop | apply en_app) <;> fail) ?_
    rintro ⟨A, c, l, k, X⟩ ⟨f1, f2, f3, f4⟩
    simp only at f1 f2 f3 f4
    dsimp only
    clear hl hc hv h1
    have hk : k < l.length := by
      rcases Nat.lt_or_ge k l.length with h | h
      · exact h
      · rw [List.getElem?_eq_none (by rw [srtO_length]; exact h)] at f4; cases f4
    (repeat first | refine G_seq ?_ | refine G_skip ?_ | refine G_endblk ?_ | refine G_block ?_ | refine G_exit rfl ?_)
    refine G_region ?_
    refine GO_q rfl rfl (ev_move rfl) ?_
    refine GO_q rfl rfl (ev_len rfl) ?_
    refine GO_q rfl rfl (ev_gtr rfl rfl) ?_
    refine GO_nil ?_
    (repeat first | refine G_seq ?_ | refine G_skip ?_ | refine G_endblk ?_ | refine G_block ?_ | refine G_exit rfl ?_)
    refine G_cond rfl (fun q1 => ?_) (fun q1 => ?_)
    · (repeat first | refine G_seq ?_ | refine G_skip ?_ | refine G_endblk ?_ | refine G_block ?_ | refine G_exit rfl ?_)
      refine G_region ?_
      refine GO_q rfl rfl (ev_move rfl) ?_
      refine GO_q rfl rfl (ev_move rfl) ?_
      refine GO_eff rfl rfl (eff_call rfl (middlesM_ctr so hf A l.length c l _ (by repeat' first | exact Rc.blk rfl | assumption | apply Rd.skip | apply Rd.app) (by omega) (by omega) f2)) ?_; rintro _ _ ⟨ms, ⟨m1, m2, m3⟩, B, e, rfl, i1, i2, i3, rfl⟩
      refine GO_q rfl rfl (ev_assign rfl) ?_
      refine GO_nil ?_
      have hml : ms.length / 2 < ms.length := by omega
      have hx : (srtO ls ms)[ms.length / 2]? = some ((srtO ls ms)[ms.length / 2]'(by rw [srtO_length]; exact hml)) := List.getElem?_eq_getElem _
      generalize (srtO ls ms)[ms.length / 2]'(by rw [srtO_length]; exact hml) = x at hx
      have hxl : x ∈ l := m1 x (nthO_mem hx)
      have p1 := partsO_length so x l
      have p2 := likeO_pos hxl
      (repeat first | refine G_seq ?_ | refine G_skip ?_ | refine G_endblk ?_ | refine G_block ?_ | refine G_exit rfl ?_)
      refine G_region ?_
      refine GO_q rfl rfl (ev_move rfl) ?_
      refine GO_q rfl rfl (ev_move rfl) ?_
      refine GO_q rfl rfl (ev_move rfl) ?_
      refine GO_q rfl rfl (ev_len rfl) ?_
      (first | refine GO_q rfl rfl (ev_quoN (q := 2) rfl rfl (by first | omega | (simp; done) | (simp; omega)) (by first | omega | (simp; done) | (simp; omega))) ?_ | refine GO_q rfl rfl (ev_quo rfl rfl (by first | omega | (simp; done) | (simp; omega)) (by first | omega | (simp; done) | (simp; omega)) (by first | omega | (simp; done) | (simp; omega))) ?_)
      refine GO_q rfl rfl (ev_move rfl) ?_
      refine GO_eff rfl rfl (eff_call rfl (ih ms.length (by omega) B ms.length e ms (ms.length / 2) x _ (Nat.le_refl _) (Rc.own (flat_length _) i1) (by omega) i2 hx)) ?_; rintro _ _ ⟨rfl, rfl⟩
      refine GO_q rfl rfl (ev_move rfl) ?_
      refine GO_eff rfl rfl (eff_call rfl (partsM_ctr so hf A l.length c l x _ (by repeat' first | exact Rc.blk rfl | assumption | apply Rd.skip | apply Rd.app) (by omega))) ?_; rintro _ _ ⟨s, rfl, ok, rfl⟩
      refine GO_q rfl rfl (ev_move rfl) ?_
      refine GO_q rfl rfl (ev_extract rfl rfl) ?_
      refine GO_q rfl rfl (ev_extract rfl rfl) ?_
      refine GO_q rfl rfl (ev_extract rfl rfl) ?_
      refine GO_q rfl rfl (ev_assign rfl) ?_
      refine GO_q rfl rfl (ev_assign rfl) ?_
      refine GO_q rfl rfl (ev_assign rfl) ?_
      refine GO_nil ?_
      have n1 : ∀ h, _ := nthO_low (k := k) so x l
      have n2 : ∀ h h', _ := nthO_like (k := k) so x l
      have n3 : ∀ h, _ := nthO_high (k := k) so x l
      have hli : ∀ z ∈ likeO x l, z = x := fun z hz => likeO_eq hz
      generalize lowO ls x l = lo at *
      generalize likeO x l = li at *
      generalize highO ls x l = hi at *
      (repeat first | refine G_seq ?_ | refine G_skip ?_ | refine G_endblk ?_ | refine G_block ?_ | refine G_exit rfl ?_)
      refine G_region ?_
      refine GO_q rfl rfl (ev_move rfl) ?_
      refine GO_q rfl rfl (ev_move rfl) ?_
      refine GO_q rfl rfl (ev_len rfl) ?_
      (first | refine GO_q rfl rfl (ev_lssN rfl rfl) ?_ | refine GO_q rfl rfl (ev_lss rfl rfl) ?_)
      refine GO_q rfl rfl (ev_assign rfl) ?_
      refine GO_nil ?_
      (repeat first | refine G_seq ?_ | refine G_skip ?_ | refine G_endblk ?_ | refine G_block ?_ | refine G_exit rfl ?_)
      refine G_cond rfl (fun q2 => ?_) (fun q2 => ?_)
      · (repeat first | refine G_seq ?_ | refine G_skip ?_ | refine G_endblk ?_ | refine G_block ?_ | refine G_exit rfl ?_)
        refine G_region ?_
        refine GO_q rfl rfl (ev_move rfl) ?_
        refine GO_q rfl rfl (ev_assign rfl) ?_
        refine GO_nil ?_
        (repeat first | refine G_seq ?_ | refine G_skip ?_ | refine G_endblk ?_ | refine G_block ?_ | refine G_exit rfl ?_)
        exact G_round (s.A1, s.c1, lo, k, [own 27 3 s.A1 lo.length s.c1 (flat lo)]) ⟨Rc.own (flat_length _) ok.h1, ok.k1, by simp only; omega, by simp only; rw [← n1 (by omega)]; exact f4⟩ (by simp only; omega) ⟨rfl, rfl, rfl, rfl, trivial⟩ (by (repeat first | exact en_refl | (apply en_blk; focus ((repeat' first | exact Pick.here | apply Pick.skip | apply Pick.app); done); focus rfl) | (apply en_own; focus ((repeat' first | exact Pick.here | apply Pick.skip | apply Pick.app); done); focus rfl) | (apply en_pick; focus ((repeat' first | exact Pick.here | apply Pick.skip | apply Pick.app); done)) | apply en_drop | apply en_app) <;> fail)
      · (repeat first | refine G_seq ?_ | refine G_skip ?_ | refine G_endblk ?_ | refine G_block ?_ | refine G_exit rfl ?_)
        refine G_region ?_
        refine GO_q rfl rfl (ev_move rfl) ?_
        refine GO_q rfl rfl (ev_move rfl) ?_
        refine GO_q rfl rfl (ev_len rfl) ?_
        refine GO_q rfl rfl (ev_move rfl) ?_
        refine GO_q rfl rfl (ev_len rfl) ?_
        (first | refine GO_q rfl rfl (ev_addN rfl rfl (by first | omega | (simp; done) | (simp; omega))) ?_ | refine GO_q rfl rfl (ev_add rfl rfl (by first | omega | (simp; done) | (simp; omega))) ?_)
        (first | refine GO_q rfl rfl (ev_lssN rfl rfl) ?_ | refine GO_q rfl rfl (ev_lss rfl rfl) ?_)
        refine GO_q rfl rfl (ev_assign rfl) ?_
        refine GO_nil ?_
        (repeat first | refine G_seq ?_ | refine G_skip ?_ | refine G_endblk ?_ | refine G_block ?_ | refine G_exit rfl ?_)
        refine G_cond rfl (fun q3 => ?_) (fun q3 => ?_)
        · obtain ⟨lb, hb⟩ := ok.h2 p2
          have e9 := n2 (by omega) (by omega)
          rw [f4] at e9
          have g0 : li[0]? = some x := by
            rw [List.getElem?_eq_getElem p2, hli _ (List.getElem_mem p2)]
          cases e9
          obtain ⟨sA1, sc1, sA2, sc2, sA3, sc3⟩ := s
          simp only at hb
          subst hb
          dsimp only
          have hld : ∀ L', LdN (own 27 3 (some ⟨lb, 0, none⟩) li.length sc2 (flat li) :: L') lb (0 + 0 * 3) 3 [.int .i64 v.id, .int .i64 v.x, .int .i64 v.y] := fun L' => ld_ownP rfl g0 L'
          (repeat first | refine G_seq ?_ | refine G_skip ?_ | refine G_endblk ?_ | refine G_block ?_ | refine G_exit rfl ?_)
          refine G_region ?_
          refine GO_q rfl rfl (ev_move rfl) ?_
          (first | refine GO_q rfl rfl (ev_indexAddrN rfl rfl (by first | omega | (simp; done) | (simp; omega))) ?_ | refine GO_q rfl rfl (ev_indexAddr rfl rfl (by first | omega | (simp; done) | (simp; omega)) (by first | omega | (simp; done) | (simp; omega))) ?_)
          refine GO_q rfl rfl (ev_loadN rfl (by repeat' first | exact hld _ | apply LdN.skip)) ?_
          refine GO_eff rfl rfl (eff_storeN rfl rfl rfl rfl (by repeat' first | exact Upd.here rfl | apply Upd.skip | apply Upd.app)) ?_; rintro _ _ ⟨rfl, rfl⟩
          refine GO_nil ?_
          (repeat first | refine G_seq ?_ | refine G_skip ?_ | refine G_endblk ?_ | refine G_block ?_ | refine G_exit rfl ?_)
          refine G_ret rfl (.cell rfl (loadN_run (by repeat' first | exact LdN.blk rfl | assumption | apply LdN.skip | apply LdN.app)) .nil) ?_ ⟨rfl, rfl⟩
          exact (by (repeat first | exact en_refl | apply en_drop | apply en_app) <;> fail)
        · (repeat first | refine G_seq ?_ | refine G_skip ?_ | refine G_endblk ?_ | refine G_block ?_ | refine G_exit rfl ?_)
          refine G_region ?_
          refine GO_q rfl rfl (ev_move rfl) ?_
          refine GO_q rfl rfl (ev_move rfl) ?_
          refine GO_q rfl rfl (ev_move rfl) ?_
          refine GO_q rfl rfl (ev_len rfl) ?_
          (first | refine GO_q rfl rfl (ev_subN rfl rfl (by first | omega | (simp; done) | (simp; omega))) ?_ | refine GO_q rfl rfl (ev_sub rfl rfl (by first | omega | (simp; done) | (simp; omega))) ?_)
          refine GO_q rfl rfl (ev_move rfl) ?_
          refine GO_q rfl rfl (ev_len rfl) ?_
          (first | refine GO_q rfl rfl (ev_subN rfl rfl (by first | omega | (simp; done) | (simp; omega))) ?_ | refine GO_q rfl rfl (ev_sub rfl rfl (by first | omega | (simp; done) | (simp; omega))) ?_)
          refine GO_q rfl rfl (ev_assign rfl) ?_
          refine GO_q rfl rfl (ev_assign rfl) ?_
          refine GO_nil ?_
          (repeat first | refine G_seq ?_ | refine G_skip ?_ | refine G_endblk ?_ | refine G_block ?_ | refine G_exit rfl ?_)
          exact G_round (s.A3, s.c3, hi, k - lo.length - li.length, [own 27 3 s.A3 hi.length s.c3 (flat hi)]) ⟨Rc.own (flat_length _) ok.h3, ok.k3, by simp only; omega, by simp only; rw [← n3 (by omega)]; exact f4⟩ (by simp only; omega) ⟨rfl, by simp only; rw [show ((k - lo.length - li.length : Nat) : Int) = (k : Int) - (lo.length : Int) - (li.length : Int) by omega]; rfl, rfl, rfl, trivial⟩ (by (repeat first | exact en_refl | (apply en_blk; focus ((repeat' first | exact Pick.here | apply Pick.skip | apply Pick.app); done); focus rfl) | (apply en_own; focus ((repeat' first | exact Pick.here | apply Pick.skip | apply Pick.app); done); focus rfl) | (apply en_pick; focus ((repeat' first | exact Pick.here | apply Pick.skip | apply Pick.app); done)) | apply en_drop | apply en_app) <;> fail)
    · (repeat first | refine G_seq ?_ | refine G_skip ?_ | refine G_endblk ?_ | refine G_block ?_ | refine G_exit rfl ?_)
      exact G_inv (A, c, l, k, X) ⟨f1, f2, f3, f4⟩ ⟨rfl, rfl, rfl, rfl, trivial⟩ (by (repeat first | exact fun _ s => s | apply en_keep | apply en_drop | apply en_app) <;> fail)
  · rintro ⟨A, c, l, k, X⟩ ⟨f1, f2, f3, f4⟩
    simp only at f1 f2 f3 f4
    dsimp only
    clear hl hc hv h1
    have hk : k < l.length := by
      rcases Nat.lt_or_ge k l.length with h | h
      · exact h
      · rw [List.getElem?_eq_none (by rw [srtO_length]; exact h)] at f4; cases f4
    have hsl : (srtO ls l).length = l.length := srtO_length l
    (repeat first | refine G_seq ?_ | refine G_skip ?_ | refine G_endblk ?_ | refine G_block ?_ | refine G_exit rfl ?_)
    refine G_region ?_
    refine GO_q rfl rfl (ev_move rfl) ?_
    refine GO_q rfl rfl (ev_move rfl) ?_
    refine GO_eff rfl rfl (eff_call rfl (SortO_ctr so hf A l.length c l _ (by repeat' first | exact Rc.blk rfl | assumption | apply Rd.skip | apply Rd.app) (by omega) f2)) ?_; rintro _ _ ⟨B, e, rfl, hB, rfl⟩
    refine GO_q rfl rfl (ev_move rfl) ?_
    obtain ⟨lb, rfl⟩ := hB (by omega)
    refine GO_q rfl rfl (ev_indexAddrN rfl rfl (by omega)) ?_
    refine GO_q rfl rfl (ev_loadN rfl (ld_ownP rfl f4 _)) ?_
    refine GO_eff rfl rfl (eff_storeN rfl rfl rfl rfl (by repeat' first | exact Upd.here rfl | apply Upd.skip | apply Upd.app)) ?_; rintro _ _ ⟨rfl, rfl⟩
    refine GO_nil ?_
    (repeat first | refine G_seq ?_ | refine G_skip ?_ | refine G_endblk ?_ | refine G_block ?_ | refine G_exit rfl ?_)
    exact G_ret rfl (.cell rfl (loadN_run (by repeat' first | exact LdN.blk rfl | assumption | apply LdN.skip | apply LdN.app)) .nil) (by (repeat first | exact en_refl | apply en_drop | apply en_app) <;> fail) ⟨rfl, rfl⟩
/-- The one that stands at k; there is one. -/
theorem pickM_ctr (A : Option Addr) (n c : Nat) (l : List Pt) (k : Nat) (v : Pt) (L : List HP) (hl : Rd L A n l) (hn : n ≤ 1000000) (hc : n ≤ c) (hv : (srtO ls l)[k]? = some v) :
    Ctr Try.prog 94 #[.slice A n c, .int .i64 (k : Nat), .func (.func f) #[] #[]] L fun r L' => r = .tuple #[v.v, .bool true] ∧ L' = L := by
  have h1 : l.length = n := hl.len (by decide)
  have hk : k < n := by
    rcases Nat.lt_or_ge k n with h | h
    · exact h
    · rw [List.getElem?_eq_none (by rw [srtO_length]; omega)] at hv; cases hv
  have p2 := likeO_pos (nthO_mem hv)
  have e1 := midO_low so hv
  have e2 := midO_like so hv
  have hli : ∀ z ∈ likeO v l, z = v := fun z hz => likeO_eq hz
  have g0 : (likeO v l)[k - (lowO ls v l).length]? = some v := by
    have h9 : k - (lowO ls v l).length < (likeO v l).length := by omega
    rw [List.getElem?_eq_getElem h9, hli _ (List.getElem_mem h9)]
  refine Ctr_of (fn := Try.f94) (n := 40) Try.func94 rfl rfl rfl ?_
  intro g F
  (repeat first | refine G_seq ?_ | refine G_skip ?_ | refine G_endblk ?_ | refine G_block ?_ | refine G_exit rfl ?_)
  refine G_region ?_
  refine GO_eff rfl rfl eff_alloc ?_; rintro _ _ ⟨b6, rfl, rfl⟩
  refine GO_q rfl rfl (ev_assign rfl) ?_
  refine GO_nil ?_
  (repeat first | refine G_seq ?_ | refine G_skip ?_ | refine G_endblk ?_ | refine G_block ?_ | refine G_exit rfl ?_)
  refine G_region ?_
  refine GO_q rfl rfl (ev_move rfl) ?_
  (first | refine GO_q rfl rfl (ev_lssN (q := 0) rfl rfl) ?_ | refine GO_q rfl rfl (ev_lss rfl rfl) ?_)
  refine GO_q rfl rfl (ev_move rfl) ?_
  refine GO_yes rfl rfl rfl (decide_eq_false (by omega)) ?_
  refine GO_q rfl rfl (ev_move rfl) ?_
  refine GO_yes rfl rfl rfl (decide_eq_false (by omega)) ?_
  refine GO_q rfl rfl (ev_move rfl) ?_
  refine GO_yes rfl rfl rfl (decide_eq_false (by omega)) ?_
  refine GO_q rfl rfl (ev_len rfl) ?_
  refine GO_yes rfl rfl rfl (decide_eq_false (by omega)) ?_
  refine GO_q rfl rfl (ev_geq rfl rfl) ?_
  refine GO_q rfl rfl (ev_pick_f rfl (decide_eq_false (by omega)) rfl) ?_
  refine GO_nil ?_
  (repeat first | refine G_seq ?_ | refine G_skip ?_ | refine G_endblk ?_ | refine G_block ?_ | refine G_exit rfl ?_)
  refine G_cond_f rfl (decide_eq_false (by omega)) ?_
  (repeat first | refine G_seq ?_ | refine G_skip ?_ | refine G_endblk ?_ | refine G_block ?_ | refine G_exit rfl ?_)
  refine G_region ?_
  refine GO_q rfl rfl (ev_move rfl) ?_
  refine GO_q rfl rfl (ev_move rfl) ?_
  refine GO_q rfl rfl (ev_move rfl) ?_
  refine GO_eff rfl rfl (eff_call rfl (nthM_ctr so hf n A n c l k v _ (Nat.le_refl _) (by repeat' first | exact Rc.blk rfl | assumption | apply Rd.skip | apply Rd.app) hn hc hv)) ?_; rintro _ _ ⟨rfl, rfl⟩
  refine GO_eff rfl rfl eff_alloc ?_; rintro _ _ ⟨b8, rfl, rfl⟩
  refine GO_eff rfl rfl (eff_storeN rfl rfl rfl rfl (by repeat' first | exact Upd.here rfl | apply Upd.skip | apply Upd.app)) ?_; rintro _ _ ⟨rfl, rfl⟩
  refine GO_nil ?_
  (repeat first | refine G_seq ?_ | refine G_skip ?_ | refine G_endblk ?_ | refine G_block ?_ | refine G_exit rfl ?_)
  refine G_region ?_
  refine GO_q rfl rfl (ev_move rfl) ?_
  refine GO_q rfl rfl (ev_loadN rfl (by repeat' first | exact LdN.blk rfl | assumption | apply LdN.skip | apply LdN.app)) ?_
  refine GO_q rfl rfl (ev_move rfl) ?_
  refine GO_eff rfl rfl (eff_call rfl (partsM_ctr so hf A n c l v _ (by repeat' first | exact Rc.blk rfl | assumption | apply Rd.skip | apply Rd.app) hn)) ?_; rintro _ _ ⟨s, rfl, ok, rfl⟩
  refine GO_q rfl rfl (ev_move rfl) ?_
  refine GO_q rfl rfl (ev_extract rfl rfl) ?_
  refine GO_q rfl rfl (ev_extract rfl rfl) ?_
  refine GO_q rfl rfl (ev_extract rfl rfl) ?_
  refine GO_q rfl rfl (ev_assign rfl) ?_
  refine GO_q rfl rfl (ev_assign rfl) ?_
  refine GO_q rfl rfl (ev_assign rfl) ?_
  refine GO_nil ?_
  generalize lowO ls v l = lo at *
  generalize likeO v l = li at *
  generalize highO ls v l = hi at *
  obtain ⟨lb, hb⟩ := ok.h2 p2
  obtain ⟨sA1, sc1, sA2, sc2, sA3, sc3⟩ := s
  simp only at hb
  subst hb
  dsimp only
  obtain ⟨j, hj⟩ : ∃ j, k - lo.length = j := ⟨_, rfl⟩
  rw [hj] at g0
  have hjl : j < li.length := by omega
  have hld : ∀ L', LdN (own 27 3 (some ⟨lb, 0, none⟩) li.length sc2 (flat li) :: L') lb (0 + j * 3) 3 [.int .i64 v.id, .int .i64 v.x, .int .i64 v.y] := fun L' => ld_ownP rfl g0 L'
  (repeat first | refine G_seq ?_ | refine G_skip ?_ | refine G_endblk ?_ | refine G_block ?_ | refine G_exit rfl ?_)
  refine G_region ?_
  refine GO_q rfl rfl (ev_move rfl) ?_
  refine GO_q rfl rfl (ev_move rfl) ?_
  refine GO_q rfl rfl (ev_move rfl) ?_
  refine GO_q rfl rfl (ev_len rfl) ?_
  refine GO_q rfl rfl (ev_subN rfl rfl (by omega)) ?_
  rw [hj]
  refine GO_q rfl rfl (ev_indexAddrN rfl rfl (by omega)) ?_
  refine GO_q rfl rfl (ev_loadN rfl (by repeat' first | exact hld _ | apply LdN.skip)) ?_
  refine GO_eff rfl rfl (eff_storeN rfl rfl rfl rfl (by repeat' first | exact Upd.here rfl | apply Upd.skip | apply Upd.app)) ?_; rintro _ _ ⟨rfl, rfl⟩
  refine GO_q rfl rfl (ev_assign rfl) ?_
  refine GO_nil ?_
  (repeat first | refine G_seq ?_ | refine G_skip ?_ | refine G_endblk ?_ | refine G_block ?_ | refine G_exit rfl ?_)
  refine G_ret rfl (.cell rfl (loadN_run (by repeat' first | exact LdN.blk rfl | assumption | apply LdN.skip | apply LdN.app)) (.tmp rfl .nil)) (by (repeat first | exact fun _ s => s | apply en_keep | apply en_drop | apply en_app) <;> fail) ⟨rfl, rfl⟩
end
end Go.Proofs.Ytjgdhkilnalejaa
/- Picking out of points: Split. -/
namespace Go.Proofs.Ytjgdhkilnalejaa
attribute [local irreducible] sat
set_option linter.unusedVariables false
set_option linter.unusedSimpArgs false
set_option maxRecDepth 100000

theorem likeO_one {l : List Pt} (hd : l.Nodup) {v : Pt} (hv : v ∈ l) : likeO v l = [v] := by
  induction l with
  | nil => cases hv
  | cons a l ih =>
    have h := List.nodup_cons.1 hd
    unfold likeO at *
    rw [List.filter_cons]
    by_cases e : a = v
    · subst e
      rw [if_pos (by simp)]
      congr 1
      exact List.filter_eq_nil_iff.2 fun x hx => by simp; exact fun e => h.1 (e ▸ hx)
    · rw [if_neg (by simpa using e)]
      exact ih h.2 ((List.mem_cons.1 hv).resolve_left fun h' => e h'.symm)
/-- What a split leaves. -/
def SpP (v : Pt) (lo hi : List Pt) (L : List HP) (r : Value) (L' : List HP) : Prop := ∃ A1 c1 A2 c2, r = .tuple #[.slice A1 lo.length c1, v.v, .slice A2 hi.length c2, .bool true] ∧ ((0 < lo.length → ∃ b, A1 = some ⟨b, 0, none⟩) ∧ lo.length ≤ c1 ∧ c1 ≤ maxLen) ∧ ((0 < hi.length → ∃ b, A2 = some ⟨b, 0, none⟩) ∧ hi.length ≤ c2 ∧ c2 ≤ maxLen) ∧
  L' = own 27 3 A1 lo.length c1 (flat lo) :: own 27 3 A2 hi.length c2 (flat hi) :: L
section
variable {f : FuncId} [CalT Try.prog f] {ls : Pt → Pt → Bool} (so : STO ls) (hf : LsT f ls)
include so hf
theorem split_ctr (A : Option Addr) (n c : Nat) (l : List Pt) (k : Nat) (v : Pt) (L : List HP) (hl : Rd L A n l) (hn : n ≤ 100000) (hc : n ≤ c) (hd : l.Nodup) (hv : (srtO ls l)[k]? = some v) :
    Ctr Try.prog 79 #[.slice A n c, .int .i64 (k : Nat), .func (.func f) #[] #[]] L fun r L' => SpP v (lowO ls v l) (highO ls v l) L r L' := by
  have h1 : l.length = n := hl.len (by decide)
  have hm := nthO_mem hv
  have e1 := midO_low so hv
  have e2 := midO_like so hv
  have hlk := likeO_one hd hm
  rw [hlk] at e2
  have ek : k = (lowO ls v l).length := by simp at e2; omega
  have cP := fun M h => pickM_ctr so hf A n c l k v M h (by omega) hc hv
  have cR := fun M h => partsM_ctr so hf A n c l v M h (by omega)
  rw [hlk] at cR
  have hb1 : (lowO ls v l).length ≤ 100000 := Nat.le_trans (List.length_filter_le _ _) (by omega)
  have hb2 : (highO ls v l).length ≤ 100000 := Nat.le_trans (List.length_filter_le _ _) (by omega)
  generalize lowO ls v l = lo at *
  generalize highO ls v l = hi at *
  subst ek
  refine Ctr_of (fn := Try.f79) (n := 50) Try.func79 rfl rfl rfl ?_
  intro g F
  (repeat first | refine G_seq ?_ | refine G_skip ?_ | refine G_endblk ?_ | refine G_block ?_ | refine G_exit rfl ?_)
  refine G_region ?_
  refine GO_q rfl rfl (ev_assign rfl) ?_
  refine GO_eff rfl rfl eff_alloc ?_; rintro _ _ ⟨b7, rfl, rfl⟩
  refine GO_q rfl rfl (ev_assign rfl) ?_
  refine GO_q rfl rfl (ev_assign rfl) ?_
  refine GO_nil ?_
  (repeat first | refine G_seq ?_ | refine G_skip ?_ | refine G_endblk ?_ | refine G_block ?_ | refine G_exit rfl ?_)
  refine G_region ?_
  refine GO_q rfl rfl (ev_move rfl) ?_
  refine GO_q rfl rfl (ev_move rfl) ?_
  refine GO_q rfl rfl (ev_move rfl) ?_
  refine GO_eff rfl rfl (eff_call rfl (cP _ (by repeat' first | exact hl | apply Rd.skip))) ?_; rintro _ _ ⟨rfl, rfl⟩
  refine GO_q rfl rfl (ev_move rfl) ?_
  refine GO_q rfl rfl (ev_extract rfl rfl) ?_
  refine GO_q rfl rfl (ev_extract rfl rfl) ?_
  refine GO_eff rfl rfl eff_alloc ?_; rintro _ _ ⟨b10, rfl, rfl⟩
  refine GO_eff rfl rfl (eff_storeN rfl rfl rfl rfl (by repeat' first | exact Upd.here rfl | apply Upd.skip | apply Upd.app)) ?_; rintro _ _ ⟨rfl, rfl⟩
  refine GO_q rfl rfl (ev_assign rfl) ?_
  refine GO_nil ?_
  (repeat first | refine G_seq ?_ | refine G_skip ?_ | refine G_endblk ?_ | refine G_block ?_ | refine G_exit rfl ?_)
  refine G_region ?_
  refine GO_q rfl rfl (ev_move rfl) ?_
  refine GO_q rfl rfl (ev_not rfl) ?_
  refine GO_nil ?_
  (repeat first | refine G_seq ?_ | refine G_skip ?_ | refine G_endblk ?_ | refine G_block ?_ | refine G_exit rfl ?_)
  refine G_cond_f rfl rfl ?_
  (repeat first | refine G_seq ?_ | refine G_skip ?_ | refine G_endblk ?_ | refine G_block ?_ | refine G_exit rfl ?_)
  refine G_region ?_
  refine GO_q rfl rfl (ev_move rfl) ?_
  refine GO_q rfl rfl (ev_loadN rfl (by repeat' first | exact LdN.blk rfl | assumption | apply LdN.skip | apply LdN.app)) ?_
  refine GO_q rfl rfl (ev_move rfl) ?_
  refine GO_eff rfl rfl (eff_call rfl (cR _ (by repeat' first | exact hl | apply Rd.skip))) ?_; rintro _ _ ⟨s, rfl, ok, rfl⟩
  refine GO_q rfl rfl (ev_move rfl) ?_
  refine GO_q rfl rfl (ev_extract rfl rfl) ?_
  refine GO_q rfl rfl (ev_extract rfl rfl) ?_
  refine GO_q rfl rfl (ev_extract rfl rfl) ?_
  refine GO_q rfl rfl (ev_assign rfl) ?_
  refine GO_q rfl rfl (ev_assign rfl) ?_
  refine GO_q rfl rfl (ev_assign rfl) ?_
  refine GO_nil ?_
  obtain ⟨sA1, sc1, sA2, sc2, sA3, sc3⟩ := s
  obtain ⟨lb, hb⟩ := ok.h2 (by simp)
  have hs2 := ok.k2
  simp only [List.length_singleton] at hb hs2
  subst hb
  dsimp only
  have hld : ∀ L', LdN (own 27 3 (some ⟨lb, 0, none⟩) 1 sc2 (flat [v]) :: L') lb (0 + 0 * 3) 3 [.int .i64 v.id, .int .i64 v.x, .int .i64 v.y] := fun L' => ld_ownP (l := [v]) (i := 0) (x := v) rfl rfl L'
  (repeat first | refine G_seq ?_ | refine G_skip ?_ | refine G_endblk ?_ | refine G_block ?_ | refine G_exit rfl ?_)
  refine G_region ?_
  refine GO_q rfl rfl (ev_move rfl) ?_
  refine GO_q rfl rfl (ev_move rfl) ?_
  refine GO_q rfl rfl (ev_len rfl) ?_
  refine GO_q rfl rfl (ev_subN rfl rfl (by omega)) ?_
  rw [Nat.sub_self]
  refine GO_q rfl rfl (ev_assign rfl) ?_
  refine GO_nil ?_
  (repeat first | refine G_seq ?_ | refine G_skip ?_ | refine G_endblk ?_ | refine G_block ?_ | refine G_exit rfl ?_)
  refine G_drawS (own 27 3 (some ⟨lb, 0, none⟩) 1 sc2 (flat [v]) :: blk b10 27 [.int .i64 v.id, .int .i64 v.x, .int .i64 v.y] :: F :: L) (.q 0 (.q 1 (.q 2 (.q 3 (.q 5 (.q 6 (.q 7 (.q 8 (.q 9 (.q 10 (.q 11 (.q 12 (.q 13 (.e 4 (.e 14 (.q 15 (.e 16 (.q 17 (.q 18 .nil))))))))))))))))))) (by (repeat first | exact fun _ s => s | apply en_keep | apply en_drop | apply en_app) <;> fail) (by kernel_rfl) (by kernel_rfl) ?_
  refine RS_m retB_noPanic rfl rfl rfl rfl (ev_move rfl) ?_
  refine RS_m retB_noPanic rfl rfl rfl rfl (ev_move rfl) ?_
  refine RS_m retB_noPanic rfl rfl rfl rfl (ev_move rfl) ?_
  refine RS_q retB_noPanic rfl rfl rfl rfl (ev_sliceH rfl rfl (by omega)) ?_
  refine RS_m retB_noPanic rfl rfl rfl rfl (ev_move rfl) ?_
  refine RS_m retB_noPanic rfl rfl rfl rfl (ev_move rfl) ?_
  (first | refine RS_m retB_noPanic rfl rfl rfl rfl (ev_indexAddrN rfl rfl (by first | omega | (simp; done) | (simp; omega))) ?_ | refine RS_m retB_noPanic rfl rfl rfl rfl (ev_indexAddr rfl rfl (by first | omega | (simp; done) | (simp; omega)) (by first | omega | (simp; done) | (simp; omega))) ?_)
  refine RS_q retB_noPanic rfl rfl rfl rfl (ev_loadN rfl (by repeat' first | exact hld _ | apply LdN.skip)) ?_
  refine RS_m retB_noPanic rfl rfl rfl rfl (ev_move rfl) ?_
  refine RS_m retB_noPanic rfl rfl rfl rfl (ev_move rfl) ?_
  refine RS_m retB_noPanic rfl rfl rfl rfl (ev_move rfl) ?_
  (first | refine RS_m retB_noPanic rfl rfl rfl rfl (ev_addN (q := 1) rfl rfl (by first | omega | (simp; done) | (simp; omega))) ?_ | refine RS_m retB_noPanic rfl rfl rfl rfl (ev_add rfl rfl (by first | omega | (simp; done) | (simp; omega))) ?_)
  refine RS_q retB_noPanic rfl rfl rfl rfl (ev_sliceL rfl rfl (by simp) (by omega)) ?_
  refine RS_e (RE_eff rfl rfl rfl (eff_append rfl rfl (by repeat' first | exact Pick.here | apply Pick.skip) ((Rd.nil (α := Pt) _ _)) ((flat_one ([] : List Pt))) (by rfl) (by decide) (by first | omega | (simp; done) | (simp; omega)) (by first | omega | (simp; done) | (simp; omega))) ?_); rintro _ _ ⟨A39, c39, rfl, hc39, hm39, hn39, rfl⟩; refine ⟨_, (by first | ((repeat first | exact fun _ s => s | apply en_keep | apply en_drop | apply en_app) <;> fail) | ((repeat first | exact en_refl | (apply en_blk; focus ((repeat' first | exact Pick.here | apply Pick.skip | apply Pick.app); done); focus rfl) | (apply en_own; focus ((repeat' first | exact Pick.here | apply Pick.skip | apply Pick.app); done); focus rfl) | (apply en_pick; focus ((repeat' first | exact Pick.here | apply Pick.skip | apply Pick.app); done)) | apply en_drop | apply en_app) <;> fail)), fun _ s => s, ?_⟩
  refine RS_e (RE_eff rfl rfl rfl (eff_append rfl rfl (by repeat' first | exact Pick.here | apply Pick.skip) ((Rd.nil (α := Pt) _ _)) ((flat_one ([] : List Pt))) (by rfl) (by decide) (by first | omega | (simp; done) | (simp; omega)) (by first | omega | (simp; done) | (simp; omega))) ?_); rintro _ _ ⟨A49, c49, rfl, hc49, hm49, hn49, rfl⟩; refine ⟨_, (by first | ((repeat first | exact fun _ s => s | apply en_keep | apply en_drop | apply en_app) <;> fail) | ((repeat first | exact en_refl | (apply en_blk; focus ((repeat' first | exact Pick.here | apply Pick.skip | apply Pick.app); done); focus rfl) | (apply en_own; focus ((repeat' first | exact Pick.here | apply Pick.skip | apply Pick.app); done); focus rfl) | (apply en_pick; focus ((repeat' first | exact Pick.here | apply Pick.skip | apply Pick.app); done)) | apply en_drop | apply en_app) <;> fail)), fun _ s => s, ?_⟩
  refine RS_m retB_noPanic rfl rfl rfl rfl (ev_assign rfl) ?_
  refine RS_e (RE_cmp (by kernel_rfl) rfl rfl rfl (eff_storeN rfl rfl rfl rfl (by repeat' first | exact Upd.here rfl | apply Upd.skip | apply Upd.app)) ?_); rintro _ _ ⟨rfl, rfl⟩
  refine RS_m retB_noPanic rfl rfl rfl rfl (ev_assign rfl) ?_
  refine RS_m retB_noPanic rfl rfl rfl rfl (ev_assign rfl) ?_
  refine RS_nil ?_
  all_goals
    (repeat first | refine G_seq ?_ | refine G_skip ?_ | refine G_endblk ?_ | refine G_block ?_ | refine G_exit rfl ?_)
    have q1 : ∀ q : List Pt, flat q ++ flat ([] : List Pt) = flat q := fun q => by rw [flat_nil, List.append_nil]
    rw [q1, q1]
    refine G_ret (L' := own 27 3 A39 lo.length c39 (flat lo) :: own 27 3 A49 hi.length c49 (flat hi) :: L) rfl (.tmp rfl (.cell rfl (loadN_run (by repeat' first | exact LdN.blk rfl | assumption | apply LdN.skip | apply LdN.app)) (.tmp rfl (.tmp rfl .nil)))) (by (repeat first | exact en_refl | (apply en_blk; focus ((repeat' first | exact Pick.here | apply Pick.skip | apply Pick.app); done); focus rfl) | (apply en_own; focus ((repeat' first | exact Pick.here | apply Pick.skip | apply Pick.app); done); focus rfl) | (apply en_pick; focus ((repeat' first | exact Pick.here | apply Pick.skip | apply Pick.app); done)) | apply en_drop | apply en_app) <;> fail) ⟨A39, c39, A49, c49, rfl, ⟨hn39, hc39, hm39⟩, ⟨hn49, hc49, hm49⟩, rfl⟩
theorem Split_ctr (A : Option Addr) (n c : Nat) (l : List Pt) (k : Nat) (v : Pt) (L : List HP) (hl : Rd L A n l) (hn : n ≤ 100000) (hc : n ≤ c) (hd : l.Nodup) (hv : (srtO ls l)[k]? = some v) :
    Ctr Try.prog 68 #[.slice A n c, .int .i64 (k : Nat), .func (.func f) #[] #[]] L fun r L' => SpP v (lowO ls v l) (highO ls v l) L r L' := by
  refine Ctr_of (fn := Try.f68) (n := 18) Try.func68 rfl rfl rfl ?_
  intro g F
  (repeat first | refine G_seq ?_ | refine G_skip ?_ | refine G_endblk ?_ | refine G_block ?_ | refine G_exit rfl ?_)
  refine G_region ?_
  refine GO_q rfl rfl (ev_assign rfl) ?_
  refine GO_eff rfl rfl eff_alloc ?_; rintro _ _ ⟨b7, rfl, rfl⟩
  refine GO_q rfl rfl (ev_assign rfl) ?_
  refine GO_q rfl rfl (ev_assign rfl) ?_
  refine GO_nil ?_
  (repeat first | refine G_seq ?_ | refine G_skip ?_ | refine G_endblk ?_ | refine G_block ?_ | refine G_exit rfl ?_)
  refine G_region ?_
  refine GO_q rfl rfl (ev_move rfl) ?_
  refine GO_q rfl rfl (ev_move rfl) ?_
  refine GO_q rfl rfl (ev_move rfl) ?_
  refine GO_eff rfl rfl (eff_call rfl (split_ctr so hf A n c l k v _ (by repeat' first | exact hl | apply Rd.skip) hn hc hd hv)) ?_; rintro _ _ ⟨A1, c1, A2, c2, rfl, u1, u2, rfl⟩
  refine GO_q rfl rfl (ev_extract rfl rfl) ?_
  refine GO_q rfl rfl (ev_extract rfl rfl) ?_
  refine GO_q rfl rfl (ev_extract rfl rfl) ?_
  refine GO_q rfl rfl (ev_extract rfl rfl) ?_
  refine GO_q rfl rfl (ev_assign rfl) ?_
  refine GO_eff rfl rfl (eff_storeN rfl rfl rfl rfl (by repeat' first | exact Upd.here rfl | apply Upd.skip | apply Upd.app)) ?_; rintro _ _ ⟨rfl, rfl⟩
  refine GO_q rfl rfl (ev_assign rfl) ?_
  refine GO_q rfl rfl (ev_assign rfl) ?_
  refine GO_nil ?_
  (repeat first | refine G_seq ?_ | refine G_skip ?_ | refine G_endblk ?_ | refine G_block ?_ | refine G_exit rfl ?_)
  exact G_ret (L' := own 27 3 A1 (lowO ls v l).length c1 (flat (lowO ls v l)) :: own 27 3 A2 (highO ls v l).length c2 (flat (highO ls v l)) :: L) rfl (.tmp rfl (.cell rfl (loadN_run (by repeat' first | exact LdN.blk rfl | assumption | apply LdN.skip | apply LdN.app)) (.tmp rfl (.tmp rfl .nil)))) (by (repeat first | exact en_refl | (apply en_blk; focus ((repeat' first | exact Pick.here | apply Pick.skip | apply Pick.app); done); focus rfl) | (apply en_own; focus ((repeat' first | exact Pick.here | apply Pick.skip | apply Pick.app); done); focus rfl) | (apply en_pick; focus ((repeat' first | exact Pick.here | apply Pick.skip | apply Pick.app); done)) | apply en_drop | apply en_app) <;> fail) ⟨A1, c1, A2, c2, rfl, u1, u2, rfl⟩
end
theorem Split0_ctr (f : FuncId) (A : Option Addr) (c : Nat) (L : List HP) : Ctr Try.prog 68 #[.slice A 0 c, .int .i64 0, .func (.func f) #[] #[]] L fun r L' => r = .tuple #[.slice none 0 0, .agg #[.int .i64 0, .int .i64 0, .int .i64 0], .slice none 0 0, .bool false] ∧ L' = L := by
  have h1 : ∀ M, Ctr Try.prog 94 #[.slice A 0 c, .int .i64 0, .func (.func f) #[] #[]] M fun r L' => r = .tuple #[.agg #[.int .i64 0, .int .i64 0, .int .i64 0], .bool false] ∧ L' = M := fun M => by
    refine Ctr_of (fn := Try.f94) (n := 40) Try.func94 rfl rfl rfl ?_
    intro g F
    (repeat first | refine G_seq ?_ | refine G_skip ?_ | refine G_endblk ?_ | refine G_block ?_ | refine G_exit rfl ?_)
    refine G_region ?_
    refine GO_eff rfl rfl eff_alloc ?_; rintro _ _ ⟨b6, rfl, rfl⟩
    refine GO_q rfl rfl (ev_assign rfl) ?_
    refine GO_nil ?_
    (repeat first | refine G_seq ?_ | refine G_skip ?_ | refine G_endblk ?_ | refine G_block ?_ | refine G_exit rfl ?_)
    refine G_region ?_
    refine GO_q rfl rfl (ev_move rfl) ?_
    (first | refine GO_q rfl rfl (ev_lssN (q := 0) rfl rfl) ?_ | refine GO_q rfl rfl (ev_lss rfl rfl) ?_)
    refine GO_q rfl rfl (ev_move rfl) ?_
    refine GO_yes rfl rfl rfl (decide_eq_false (by omega)) ?_
    refine GO_q rfl rfl (ev_move rfl) ?_
    refine GO_yes rfl rfl rfl (decide_eq_false (by omega)) ?_
    refine GO_q rfl rfl (ev_move rfl) ?_
    refine GO_yes rfl rfl rfl (decide_eq_false (by omega)) ?_
    refine GO_q rfl rfl (ev_len rfl) ?_
    refine GO_yes rfl rfl rfl (decide_eq_false (by omega)) ?_
    refine GO_q rfl rfl (ev_geq rfl rfl) ?_
    refine GO_q rfl rfl (ev_pick_f rfl (decide_eq_false (by omega)) rfl) ?_
    refine GO_nil ?_
    (repeat first | refine G_seq ?_ | refine G_skip ?_ | refine G_endblk ?_ | refine G_block ?_ | refine G_exit rfl ?_)
    refine G_cond_t rfl rfl ?_
    (repeat first | refine G_seq ?_ | refine G_skip ?_ | refine G_endblk ?_ | refine G_block ?_ | refine G_exit rfl ?_)
    refine G_region ?_
    refine GO_q rfl rfl (ev_loadN rfl (by repeat' first | exact LdN.blk rfl | assumption | apply LdN.skip | apply LdN.app)) ?_
    refine GO_eff rfl rfl (eff_storeN rfl rfl rfl rfl (by repeat' first | exact Upd.here rfl | apply Upd.skip | apply Upd.app)) ?_; rintro _ _ ⟨rfl, rfl⟩
    refine GO_q rfl rfl (ev_assign rfl) ?_
    refine GO_nil ?_
    (repeat first | refine G_seq ?_ | refine G_skip ?_ | refine G_endblk ?_ | refine G_block ?_ | refine G_exit rfl ?_)
    refine G_ret rfl (.cell rfl (loadN_run (by repeat' first | exact LdN.blk rfl | assumption | apply LdN.skip | apply LdN.app)) (.tmp rfl .nil)) (by (repeat first | exact fun _ s => s | apply en_keep | apply en_drop | apply en_app) <;> fail) ⟨rfl, rfl⟩
  have h2 : ∀ M, Ctr Try.prog 79 #[.slice A 0 c, .int .i64 0, .func (.func f) #[] #[]] M fun r L' => r = .tuple #[.slice none 0 0, .agg #[.int .i64 0, .int .i64 0, .int .i64 0], .slice none 0 0, .bool false] ∧ L' = M := fun M => by
    refine Ctr_of (fn := Try.f79) (n := 50) Try.func79 rfl rfl rfl ?_
    intro g F
    (repeat first | refine G_seq ?_ | refine G_skip ?_ | refine G_endblk ?_ | refine G_block ?_ | refine G_exit rfl ?_)
    refine G_region ?_
    refine GO_q rfl rfl (ev_assign rfl) ?_
    refine GO_eff rfl rfl eff_alloc ?_; rintro _ _ ⟨b7, rfl, rfl⟩
    refine GO_q rfl rfl (ev_assign rfl) ?_
    refine GO_q rfl rfl (ev_assign rfl) ?_
    refine GO_nil ?_
    (repeat first | refine G_seq ?_ | refine G_skip ?_ | refine G_endblk ?_ | refine G_block ?_ | refine G_exit rfl ?_)
    refine G_region ?_
    refine GO_q rfl rfl (ev_move rfl) ?_
    refine GO_q rfl rfl (ev_move rfl) ?_
    refine GO_q rfl rfl (ev_move rfl) ?_
    refine GO_eff rfl rfl (eff_call rfl (h1 _)) ?_; rintro _ _ ⟨rfl, rfl⟩
    refine GO_q rfl rfl (ev_move rfl) ?_
    refine GO_q rfl rfl (ev_extract rfl rfl) ?_
    refine GO_q rfl rfl (ev_extract rfl rfl) ?_
    refine GO_eff rfl rfl eff_alloc ?_; rintro _ _ ⟨b10, rfl, rfl⟩
    refine GO_eff rfl rfl (eff_storeN rfl rfl rfl rfl (by repeat' first | exact Upd.here rfl | apply Upd.skip | apply Upd.app)) ?_; rintro _ _ ⟨rfl, rfl⟩
    refine GO_q rfl rfl (ev_assign rfl) ?_
    refine GO_nil ?_
    (repeat first | refine G_seq ?_ | refine G_skip ?_ | refine G_endblk ?_ | refine G_block ?_ | refine G_exit rfl ?_)
    refine G_region ?_
    refine GO_q rfl rfl (ev_move rfl) ?_
    refine GO_q rfl rfl (ev_not rfl) ?_
    refine GO_nil ?_
    (repeat first | refine G_seq ?_ | refine G_skip ?_ | refine G_endblk ?_ | refine G_block ?_ | refine G_exit rfl ?_)
    refine G_cond_t rfl rfl ?_
    (repeat first | refine G_seq ?_ | refine G_skip ?_ | refine G_endblk ?_ | refine G_block ?_ | refine G_exit rfl ?_)
    refine G_draw (.q 0 (.q 1 (.e 2 (.q 3 (.q 4 .nil))))) (by kernel_rfl) (by kernel_rfl) ?_
    refine RS_q retB_noPanic rfl rfl rfl rfl (ev_loadN rfl (by repeat' first | exact LdN.blk rfl | assumption | apply LdN.skip | apply LdN.app)) ?_
    refine RS_m retB_noPanic rfl rfl rfl rfl (ev_assign rfl) ?_
    refine RS_e (RE_cmp (by kernel_rfl) rfl rfl rfl (eff_storeN rfl rfl rfl rfl (by repeat' first | exact Upd.here rfl | apply Upd.skip | apply Upd.app)) ?_); rintro _ _ ⟨rfl, rfl⟩
    refine RS_m retB_noPanic rfl rfl rfl rfl (ev_assign rfl) ?_
    refine RS_m retB_noPanic rfl rfl rfl rfl (ev_assign rfl) ?_
    refine RS_nil ?_
    (repeat first | refine G_seq ?_ | refine G_skip ?_ | refine G_endblk ?_ | refine G_block ?_ | refine G_exit rfl ?_)
    refine G_ret rfl (.tmp rfl (.cell rfl (loadN_run (by repeat' first | exact LdN.blk rfl | assumption | apply LdN.skip | apply LdN.app)) (.tmp rfl (.tmp rfl .nil)))) (by (repeat first | exact fun _ s => s | apply en_keep | apply en_drop | apply en_app) <;> fail) ⟨rfl, rfl⟩
  refine Ctr_of (fn := Try.f68) (n := 18) Try.func68 rfl rfl rfl ?_
  intro g F
  (repeat first | refine G_seq ?_ | refine G_skip ?_ | refine G_endblk ?_ | refine G_block ?_ | refine G_exit rfl ?_)
  refine G_region ?_
  refine GO_q rfl rfl (ev_assign rfl) ?_
  refine GO_eff rfl rfl eff_alloc ?_; rintro _ _ ⟨b7, rfl, rfl⟩
  refine GO_q rfl rfl (ev_assign rfl) ?_
  refine GO_q rfl rfl (ev_assign rfl) ?_
  refine GO_nil ?_
  (repeat first | refine G_seq ?_ | refine G_skip ?_ | refine G_endblk ?_ | refine G_block ?_ | refine G_exit rfl ?_)
  refine G_region ?_
  refine GO_q rfl rfl (ev_move rfl) ?_
  refine GO_q rfl rfl (ev_move rfl) ?_
  refine GO_q rfl rfl (ev_move rfl) ?_
  refine GO_eff rfl rfl (eff_call rfl (h2 _)) ?_; rintro _ _ ⟨rfl, rfl⟩
  refine GO_q rfl rfl (ev_extract rfl rfl) ?_
  refine GO_q rfl rfl (ev_extract rfl rfl) ?_
  refine GO_q rfl rfl (ev_extract rfl rfl) ?_
  refine GO_q rfl rfl (ev_extract rfl rfl) ?_
  refine GO_q rfl rfl (ev_assign rfl) ?_
  refine GO_eff rfl rfl (eff_storeN rfl rfl rfl rfl (by repeat' first | exact Upd.here rfl | apply Upd.skip | apply Upd.app)) ?_; rintro _ _ ⟨rfl, rfl⟩
  refine GO_q rfl rfl (ev_assign rfl) ?_
  refine GO_q rfl rfl (ev_assign rfl) ?_
  refine GO_nil ?_
  (repeat first | refine G_seq ?_ | refine G_skip ?_ | refine G_endblk ?_ | refine G_block ?_ | refine G_exit rfl ?_)
  refine G_ret rfl (.tmp rfl (.cell rfl (loadN_run (by repeat' first | exact LdN.blk rfl | assumption | apply LdN.skip | apply LdN.app)) (.tmp rfl (.tmp rfl .nil)))) (by (repeat first | exact fun _ s => s | apply en_keep | apply en_drop | apply en_app) <;> fail) ⟨rfl, rfl⟩
end Go.Proofs.Ytjgdhkilnalejaa
/- A tree of points by two orders in turn: build. -/
namespace Go.Proofs.Ytjgdhkilnalejaa
attribute [local irreducible] sat
open Go.RowKit
set_option linter.unusedVariables false
set_option linter.unusedSimpArgs false
set_option maxRecDepth 100000

/-- What a node comes to by a note. -/
@[reducible] def KT.mk (b : Nat) (p : Pt) (gn : Bool) (lo hi : KT) : KT := .node b p gn (1 + lo.size + hi.size) (arK (arK p.bx lo) hi) lo hi
theorem KT.ok_mk {b : Nat} {p : Pt} {gn : Bool} {lo hi : KT} {lv : Nat} (h1 : lo.ok (lv + 1)) (h2 : hi.ok (lv + 1)) (s1 : ∀ q ∈ lo.all, ahd lv q p = true) (s2 : ∀ q ∈ hi.all, ahd lv p q = true) (c1 : lo.cnt ≤ prt (lo.cnt + hi.cnt + 1)) (c2 : hi.cnt ≤ prt (lo.cnt + hi.cnt + 1)) : (KT.mk b p gn lo hi).ok lv :=
  ⟨⟨s1, s2⟩, ⟨by rw [h1.size, h2.size]; omega, rfl, c1, c2⟩, h1, h2⟩
theorem KT.cnt_of {T : KT} {l : List Pt} (h : T.all.Perm l) : T.cnt = l.length := by rw [← T.all_len]; exact h.length_eq
/-- A tree that was built of points. -/
structure Bt (lv : Nat) (l : List Pt) (T : KT) : Prop where
  ok : T.ok lv
  all : T.all.Perm l
  pts : T.pts = T.all
theorem Bt.mk2 {lv : Nat} {l : List Pt} {v : Pt} {lo hi : KT} {b : Nat} (hd : l.Nodup) (hv : (srtO (ahd lv) l)[l.length / 2]? = some v) (h1 : Bt (lv + 1) (lowO (ahd lv) v l) lo) (h2 : Bt (lv + 1) (highO (ahd lv) v l) hi) : Bt lv l (.mk b v false lo hi) := by
  have o := sto_ahd lv
  have hm : v ∈ l := (srtO_perm l).subset (List.mem_of_getElem? hv)
  have e1 := midO_low o hv
  have e2 := midO_like o hv
  have e3 := partsO_length o v l
  have e4 := likeO_one hd hm
  have e5 : (likeO v l).length = 1 := by rw [e4]; rfl
  have n1 := KT.cnt_of h1.all
  have n2 := KT.cnt_of h2.all
  refine ⟨KT.ok_mk h1.ok h2.ok ?_ ?_ ?_ ?_, ?_, ?_⟩
  · intro q hq
    exact (List.mem_filter.1 (h1.all.subset hq)).2
  · intro q hq
    exact (List.mem_filter.1 (h2.all.subset hq)).2
  · rw [n1, n2]; unfold prt; omega
  · rw [n1, n2]; unfold prt; omega
  · have p := partsO_perm o v l
    rw [e4] at p
    refine List.Perm.trans ?_ p
    show (v :: (lo.all ++ hi.all)).Perm _
    exact ((h1.all.append h2.all).cons v).trans List.perm_middle.symm
  · show [v] ++ (lo.pts ++ hi.pts) = v :: (lo.all ++ hi.all)
    rw [h1.pts, h2.pts]; rfl
theorem kbuild_ctr (t : Nat) (r : Option Addr) (live most : Int) : ∀ (n : Nat) (A : Option Addr) (c : Nat) (l : List Pt) (lv built : Nat) (L : List HP), l.Nodup → Rd L A n l → n ≤ c → n ≤ 50000 → lv + n ≤ 900000 → built + n ≤ 9000000000000000000 →
    Ctr Try.prog 54 #[.pointer (some ⟨t, 0, none⟩), .slice A n c, .int .i64 (lv : Nat)] (blk t 60 (kdC r live most built) :: L) fun v L' => ∃ T : KT, Bt lv l T ∧ v = .pointer T.addr ∧ L' = ktH T :: blk t 60 (kdC r live most (built + n)) :: L := by
  intro n
  induction n using Nat.strongRecOn with
  | _ n ih =>
    intro A c l lv built L hd hl hc hn hlv hb
    have hll : l.length = n := hl.len (by decide)
    have hah := fun M => ahead_ctr lv M (by omega)
    rcases Nat.eq_zero_or_pos n with h0 | h0
    · subst h0
      have e : l = [] := List.eq_nil_of_length_eq_zero hll
      subst e
      refine Ctr_of (fn := Try.f54) (n := 56) Try.func54 rfl rfl rfl ?_
      intro g F
      (repeat first | refine G_seq ?_ | refine G_skip ?_ | refine G_endblk ?_ | refine G_block ?_ | refine G_exit rfl ?_)
      refine G_region ?_
      refine GO_q rfl rfl (ev_assign rfl) ?_
      refine GO_nil ?_
      (repeat first | refine G_seq ?_ | refine G_skip ?_ | refine G_endblk ?_ | refine G_block ?_ | refine G_exit rfl ?_)
      refine G_region ?_
      refine GO_q rfl rfl (ev_move rfl) ?_
      refine GO_q rfl rfl (ev_move rfl) ?_
      refine GO_q rfl rfl (ev_len rfl) ?_
      (first | refine GO_q rfl rfl (ev_quoN (q := 2) rfl rfl (by first | omega | (simp; done) | (simp; omega)) (by first | omega | (simp; done) | (simp; omega))) ?_ | refine GO_q rfl rfl (ev_quo rfl rfl (by first | omega | (simp; done) | (simp; omega)) (by first | omega | (simp; done) | (simp; omega)) (by first | omega | (simp; done) | (simp; omega))) ?_)
      refine GO_q rfl rfl (ev_move rfl) ?_
      refine GO_eff rfl rfl (eff_call rfl (hah _)) ?_; rintro _ _ ⟨rfl, rfl⟩
      refine GO_eff rfl rfl (eff_call rfl (Split0_ctr (aheadF lv) A c _)) ?_; rintro _ _ ⟨rfl, rfl⟩
      refine GO_q rfl rfl (ev_move rfl) ?_
      refine GO_q rfl rfl (ev_extract rfl rfl) ?_
      refine GO_q rfl rfl (ev_extract rfl rfl) ?_
      refine GO_q rfl rfl (ev_extract rfl rfl) ?_
      refine GO_q rfl rfl (ev_extract rfl rfl) ?_
      refine GO_eff rfl rfl eff_alloc ?_; rintro _ _ ⟨b8, rfl, rfl⟩
      refine GO_q rfl rfl (ev_assign rfl) ?_
      refine GO_eff rfl rfl (eff_storeN rfl rfl rfl rfl (by repeat' first | exact Upd.here rfl | apply Upd.skip | apply Upd.app)) ?_; rintro _ _ ⟨rfl, rfl⟩
      refine GO_q rfl rfl (ev_assign rfl) ?_
      refine GO_q rfl rfl (ev_assign rfl) ?_
      refine GO_nil ?_
      (repeat first | refine G_seq ?_ | refine G_skip ?_ | refine G_endblk ?_ | refine G_block ?_ | refine G_exit rfl ?_)
      refine G_region ?_
      refine GO_q rfl rfl (ev_move rfl) ?_
      (first | refine GO_q rfl rfl (ev_notP rfl) ?_ | refine GO_q rfl rfl (ev_not rfl) ?_)
      refine GO_nil ?_
      (repeat first | refine G_seq ?_ | refine G_skip ?_ | refine G_endblk ?_ | refine G_block ?_ | refine G_exit rfl ?_)
      refine G_cond_t rfl rfl ?_
      (repeat first | refine G_seq ?_ | refine G_skip ?_ | refine G_endblk ?_ | refine G_block ?_ | refine G_exit rfl ?_)
      refine G_region ?_
      refine GO_q rfl rfl (ev_assign rfl) ?_
      refine GO_nil ?_
      (repeat first | refine G_seq ?_ | refine G_skip ?_ | refine G_endblk ?_ | refine G_block ?_ | refine G_exit rfl ?_)
      exact G_ret (L' := ktH .nil :: blk t 60 (kdC r live most (built + 0)) :: L) rfl (.tmp rfl .nil) (by (repeat first | exact en_refl | refine en_ktn ?_ | (apply en_blk; focus ((repeat' first | exact Pick.here | apply Pick.skip | apply Pick.app); done); focus rfl) | (apply en_own; focus ((repeat' first | exact Pick.here | apply Pick.skip | apply Pick.app); done); focus rfl) | (apply en_pick; focus ((repeat' first | exact Pick.here | apply Pick.skip | apply Pick.app); done)) | apply en_drop | apply en_app) <;> fail) ⟨.nil, ⟨trivial, .nil, rfl⟩, rfl, rfl⟩
    · have hk : n / 2 < (srtO (ahd lv) l).length := by rw [srtO_length]; omega
      obtain ⟨v, hv⟩ : ∃ v, (srtO (ahd lv) l)[n / 2]? = some v := ⟨_, List.getElem?_eq_getElem hk⟩
      have hv2 : (srtO (ahd lv) l)[l.length / 2]? = some v := by rw [hll]; exact hv
      have hbt := fun b lo hi => Bt.mk2 (b := b) (lo := lo) (hi := hi) hd hv2
      have hsp := fun M h => Split_ctr (sto_ahd lv) (ahead_ls lv) A n c l (n / 2) v M h (by omega) hc hd hv
      have o := sto_ahd lv
      have e1 := midO_low o hv
      have e2 := midO_high o hv
      have hm : v ∈ l := (srtO_perm l).subset (List.mem_of_getElem? hv)
      have e3 := partsO_length o v l
      have e4 : (likeO v l).length = 1 := by rw [likeO_one hd hm]; rfl
      have d1 : (lowO (ahd lv) v l).Nodup := hd.filter _
      have d2 : (highO (ahd lv) v l).Nodup := hd.filter _
      generalize lowO (ahd lv) v l = l1 at *
      generalize highO (ahd lv) v l = l2 at *
      have ih1 := fun A c M hr hc1 => ih l1.length (by omega) A c l1 (lv + 1) (built + 1) M d1 hr hc1 (by omega) (by omega) (by omega)
      have ih2 := fun A c M hr hc1 => ih l2.length (by omega) A c l2 (lv + 1) (built + 1 + l1.length) M d2 hr hc1 (by omega) (by omega) (by omega)
      refine Ctr_of (fn := Try.f54) (n := 56) Try.func54 rfl rfl rfl ?_
      intro g F
      (repeat first | refine G_seq ?_ | refine G_skip ?_ | refine G_endblk ?_ | refine G_block ?_ | refine G_exit rfl ?_)
      refine G_region ?_
      refine GO_q rfl rfl (ev_assign rfl) ?_
      refine GO_nil ?_
      (repeat first | refine G_seq ?_ | refine G_skip ?_ | refine G_endblk ?_ | refine G_block ?_ | refine G_exit rfl ?_)
      refine G_region ?_
      refine GO_q rfl rfl (ev_move rfl) ?_
      refine GO_q rfl rfl (ev_move rfl) ?_
      refine GO_q rfl rfl (ev_len rfl) ?_
      (first | refine GO_q rfl rfl (ev_quoN (q := 2) rfl rfl (by first | omega | (simp; done) | (simp; omega)) (by first | omega | (simp; done) | (simp; omega))) ?_ | refine GO_q rfl rfl (ev_quo rfl rfl (by first | omega | (simp; done) | (simp; omega)) (by first | omega | (simp; done) | (simp; omega)) (by first | omega | (simp; done) | (simp; omega))) ?_)
      refine GO_q rfl rfl (ev_move rfl) ?_
      refine GO_eff rfl rfl (eff_call rfl (hah _)) ?_; rintro _ _ ⟨rfl, rfl⟩
      refine GO_eff rfl rfl (eff_call rfl (hsp _ (by repeat' first | exact Rc.blk rfl | assumption | apply Rd.skip | apply Rd.app))) ?_; rintro _ _ ⟨A1, c1, A2, c2, rfl, u1, u2, rfl⟩
      refine GO_q rfl rfl (ev_move rfl) ?_
      refine GO_q rfl rfl (ev_extract rfl rfl) ?_
      refine GO_q rfl rfl (ev_extract rfl rfl) ?_
      refine GO_q rfl rfl (ev_extract rfl rfl) ?_
      refine GO_q rfl rfl (ev_extract rfl rfl) ?_
      refine GO_eff rfl rfl eff_alloc ?_; rintro _ _ ⟨b8, rfl, rfl⟩
      refine GO_q rfl rfl (ev_assign rfl) ?_
      refine GO_eff rfl rfl (eff_storeN rfl rfl rfl rfl (by repeat' first | exact Upd.here rfl | apply Upd.skip | apply Upd.app)) ?_; rintro _ _ ⟨rfl, rfl⟩
      refine GO_q rfl rfl (ev_assign rfl) ?_
      refine GO_q rfl rfl (ev_assign rfl) ?_
      refine GO_nil ?_
      (repeat first | refine G_seq ?_ | refine G_skip ?_ | refine G_endblk ?_ | refine G_block ?_ | refine G_exit rfl ?_)
      refine G_region ?_
      refine GO_q rfl rfl (ev_move rfl) ?_
      (first | refine GO_q rfl rfl (ev_notP rfl) ?_ | refine GO_q rfl rfl (ev_not rfl) ?_)
      refine GO_nil ?_
      (repeat first | refine G_seq ?_ | refine G_skip ?_ | refine G_endblk ?_ | refine G_block ?_ | refine G_exit rfl ?_)
      refine G_cond_f rfl rfl ?_
      refine G_heap (L' := blk t 60 (kdC r live most built) :: blk b8 27 [.int .i64 v.id, .int .i64 v.x, .int .i64 v.y] :: own 27 3 A1 l1.length c1 (flat l1) :: own 27 3 A2 l2.length c2 (flat l2) :: F :: L) (by (repeat first | exact en_refl | (apply en_blk; focus ((repeat' first | exact Pick.here | apply Pick.skip | apply Pick.app); done); focus rfl) | (apply en_own; focus ((repeat' first | exact Pick.here | apply Pick.skip | apply Pick.app); done); focus rfl) | (apply en_pick; focus ((repeat' first | exact Pick.here | apply Pick.skip | apply Pick.app); done)) | apply en_drop | apply en_app) <;> fail) ?_
      (repeat first | refine G_seq ?_ | refine G_skip ?_ | refine G_endblk ?_ | refine G_block ?_ | refine G_exit rfl ?_)
      refine G_region ?_
      refine GO_q rfl rfl (ev_move rfl) ?_
      (first | refine GO_q rfl rfl (ev_nilCheck rfl) ?_ | refine GO_q rfl rfl (ev_nilCheckF (by simp) rfl) ?_)
      refine GO_q rfl rfl (ev_fieldAddr rfl) ?_
      refine GO_q rfl rfl (ev_load rfl (by repeat' first | exact Ld.blk rfl | assumption | apply Ld.skip | apply Ld.app)) ?_
      (first | refine GO_q rfl rfl (ev_addN (q := 1) rfl rfl (by first | omega | (simp; done) | (simp; omega))) ?_ | refine GO_q rfl rfl (ev_add rfl rfl (by first | omega | (simp; done) | (simp; omega))) ?_)
      (first | refine GO_q rfl rfl (ev_nilCheck rfl) ?_ | refine GO_q rfl rfl (ev_nilCheckF (by simp) rfl) ?_)
      refine GO_q rfl rfl (ev_fieldAddr rfl) ?_
      refine GO_eff rfl rfl (eff_store rfl rfl rfl (by repeat' first | exact Upd.here rfl | apply Upd.skip | apply Upd.app)) ?_; rintro _ _ ⟨rfl, rfl⟩
      refine GO_nil ?_
      (repeat first | refine G_seq ?_ | refine G_skip ?_ | refine G_endblk ?_ | refine G_block ?_ | refine G_exit rfl ?_)
      refine G_region ?_
      refine GO_q rfl rfl (ev_loadN rfl (by repeat' first | exact LdN.blk rfl | assumption | apply LdN.skip | apply LdN.app)) ?_
      refine GO_q rfl rfl (ev_build rfl rfl) ?_
      refine GO_eff rfl rfl (eff_box rfl) ?_; rintro _ _ ⟨b35, rfl, rfl⟩
      refine GO_q rfl rfl (ev_assign rfl) ?_
      refine GO_nil ?_
      refine G_heap (L' := blk b35 67 (kcC v false none none 0 ⟨0, 0, 0, 0⟩) :: blk t 60 (kdC r live most (built + 1)) :: own 27 3 A1 l1.length c1 (flat l1) :: own 27 3 A2 l2.length c2 (flat l2) :: F :: L) (by (repeat first | exact en_refl | (apply en_blk; focus ((repeat' first | exact Pick.here | apply Pick.skip | apply Pick.app); done); focus rfl) | (apply en_own; focus ((repeat' first | exact Pick.here | apply Pick.skip | apply Pick.app); done); focus rfl) | (apply en_pick; focus ((repeat' first | exact Pick.here | apply Pick.skip | apply Pick.app); done)) | apply en_drop | apply en_app) <;> fail) ?_
      (repeat first | refine G_seq ?_ | refine G_skip ?_ | refine G_endblk ?_ | refine G_block ?_ | refine G_exit rfl ?_)
      refine G_draw (.q 0 (.q 1 (.q 2 (.q 3 (.q 4 (.q 5 (.q 7 (.q 8 (.q 9 (.q 10 (.q 12 (.q 13 (.q 16 (.q 17 (.e 6 (.e 11 (.q 14 (.e 15 (.q 18 (.e 19 .nil)))))))))))))))))))) (by kernel_rfl) (by kernel_rfl) ?_
      refine RS_m retB_noPanic rfl rfl rfl rfl (ev_move rfl) ?_
      refine RS_m retB_noPanic rfl rfl rfl rfl (ev_move rfl) ?_
      refine RS_m retB_noPanic rfl rfl rfl rfl (ev_move rfl) ?_
      refine RS_m retB_noPanic rfl rfl rfl rfl (ev_move rfl) ?_
      refine RS_m retB_noPanic rfl rfl rfl rfl (ev_move rfl) ?_
      (first | refine RS_m retB_noPanic rfl rfl rfl rfl (ev_addN (q := 1) rfl rfl (by first | omega | (simp; done) | (simp; omega))) ?_ | refine RS_m retB_noPanic rfl rfl rfl rfl (ev_add rfl rfl (by first | omega | (simp; done) | (simp; omega))) ?_)
      refine RS_m retB_noPanic rfl rfl rfl rfl (ev_move rfl) ?_
      refine RS_m retB_noPanic rfl rfl rfl rfl (ev_move rfl) ?_
      refine RS_m retB_noPanic rfl rfl rfl rfl (ev_move rfl) ?_
      (first | refine RS_m retB_noPanic rfl rfl rfl rfl (ev_addN (q := 1) rfl rfl (by first | omega | (simp; done) | (simp; omega))) ?_ | refine RS_m retB_noPanic rfl rfl rfl rfl (ev_add rfl rfl (by first | omega | (simp; done) | (simp; omega))) ?_)
      (first | refine RS_m retB_noPanic rfl rfl rfl rfl (ev_nilCheck rfl) ?_ | refine RS_m retB_noPanic rfl rfl rfl rfl (ev_nilCheckF (by simp) rfl) ?_)
      refine RS_m retB_noPanic rfl rfl rfl rfl (ev_fieldAddr rfl) ?_
      (first | refine RS_m retB_noPanic rfl rfl rfl rfl (ev_nilCheck rfl) ?_ | refine RS_m retB_noPanic rfl rfl rfl rfl (ev_nilCheckF (by simp) rfl) ?_)
      refine RS_m retB_noPanic rfl rfl rfl rfl (ev_fieldAddr rfl) ?_
      refine RS_e (RE_cmp (by kernel_rfl) rfl rfl rfl (eff_call rfl (Ctr.pick (by repeat' first | exact Pick.here | apply Pick.skip | apply Pick.app) (ih1 A1 c1 _ (by repeat' first | exact Rc.own (flat_length _) u1.1 | apply Rd.skip) u1.2.1))) ?_); rintro _ _ ⟨T1, g1, rfl, rfl⟩
      refine RS_e (RE_cmp (by kernel_rfl) rfl rfl rfl (eff_call rfl (Ctr.pick (by repeat' first | exact Pick.here | apply Pick.skip | apply Pick.app) (ih2 A2 c2 _ (by repeat' first | exact Rc.own (flat_length _) u2.1 | apply Rd.skip) u2.2.1))) ?_); rintro _ _ ⟨T2, g2, rfl, rfl⟩
      refine RS_m retB_noPanic rfl rfl rfl rfl (ev_indexAddrA rfl rfl (by first | omega | (simp; done) | (simp; omega)) (by first | omega | (simp; done) | (simp; omega))) ?_
      refine RS_e (RE_cmp (by kernel_rfl) rfl rfl rfl (eff_store rfl rfl rfl (by repeat' first | exact Upd.here rfl | apply Upd.skip | apply Upd.app)) ?_); rintro _ _ ⟨rfl, rfl⟩
      refine RS_m retB_noPanic rfl rfl rfl rfl (ev_indexAddrA rfl rfl (by first | omega | (simp; done) | (simp; omega)) (by first | omega | (simp; done) | (simp; omega))) ?_
      refine RS_e (RE_last (by kernel_rfl) rfl rfl rfl (eff_store rfl rfl rfl (by repeat' first | exact Upd.here rfl | apply Upd.skip | apply Upd.app)) ?_); rintro _ _ ⟨rfl, rfl⟩
      have z1 := g1.ok.size
      have z2 := g2.ok.size
      have z3 := KT.cnt_of g1.all
      have z4 := KT.cnt_of g2.all
      refine G_heap (L' := blk b35 67 (kcC v false T1.addr T2.addr 0 ⟨0, 0, 0, 0⟩) :: ktH T1 :: ktH T2 :: blk t 60 (kdC r live most (built + 1 + l1.length + l2.length)) :: F :: L) (by (repeat first | exact en_refl | (apply en_blk; focus ((repeat' first | exact Pick.here | apply Pick.skip | apply Pick.app); done); focus rfl) | (apply en_own; focus ((repeat' first | exact Pick.here | apply Pick.skip | apply Pick.app); done); focus rfl) | (apply en_pick; focus ((repeat' first | exact Pick.here | apply Pick.skip | apply Pick.app); done)) | apply en_drop | apply en_app) <;> fail) ?_
      (repeat first | refine G_seq ?_ | refine G_skip ?_ | refine G_endblk ?_ | refine G_block ?_ | refine G_exit rfl ?_)
      refine G_region ?_
      refine GO_q rfl rfl (ev_move rfl) ?_
      refine GO_eff rfl rfl (eff_call rfl (Ctr.pick (by repeat' first | exact Pick.here | apply Pick.skip | apply Pick.app) (note_ctr b35 v false 0 ⟨0, 0, 0, 0⟩ T1 T2 _ (by repeat' first | exact ktH_in _ _ | apply KIn.skip) (by repeat' first | exact ktH_in _ _ | apply KIn.skip) (by omega) (by omega)))) ?_; rintro _ _ ⟨rfl, rfl⟩
      refine GO_q rfl rfl (ev_assign rfl) ?_
      refine GO_nil ?_
      have eb : built + 1 + l1.length + l2.length = built + n := by omega
      rw [eb]
      (repeat first | refine G_seq ?_ | refine G_skip ?_ | refine G_endblk ?_ | refine G_block ?_ | refine G_exit rfl ?_)
      exact G_ret (L' := ktH (.mk b35 v false T1 T2) :: blk t 60 (kdC r live most (built + n)) :: L) rfl (.tmp rfl .nil) (by (repeat first | exact en_refl | refine en_kt ?_ | (apply en_blk; focus ((repeat' first | exact Pick.here | apply Pick.skip | apply Pick.app); done); focus rfl) | (apply en_own; focus ((repeat' first | exact Pick.here | apply Pick.skip | apply Pick.app); done); focus rfl) | (apply en_pick; focus ((repeat' first | exact Pick.here | apply Pick.skip | apply Pick.app); done)) | apply en_drop | apply en_app) <;> fail) ⟨_, hbt b35 T1 T2 g1 g2, rfl, rfl⟩
end Go.Proofs.Ytjgdhkilnalejaa
