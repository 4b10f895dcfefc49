/- Texts of the law SegsNone, one behind the other. -/
import Derived.Test.YtmgkmammkmlakaaGreatSegsNoneM1
import Derived.Test.YtmgkmammkmlakaaGreatSegsNoneM2
import Derived.Shelf.Sort.Plain
import Derived.Shelf.Slices.In.SortNone
import Derived.Test.YtmgkmammkmlakaaGreatProg
import Derived.IntWalk
import Derived.OpenShut
import Derived.Laws.Entries
/- Out of XStd2 by tools/gspan.py: intervals in place of points. -/
namespace Go.Proofs.YtmgkmammkmlakaaGreat
attribute [local irreducible] sat
set_option linter.unusedVariables false
set_option linter.unusedSimpArgs false
set_option maxRecDepth 100000

theorem seek_ctr (f : FuncId) [CalT Tryz.prog f] (c1 c2 : List Value) (p : Pt → Bool) (A : Option Addr) (n c k : Nat) (l : List Pt) (L : List HP) (hl : Rd L A n l) (hn : n ≤ 1000000) (hk : k ≤ n) (hp : ∀ (j : Nat) (a : Pt), l[j]? = some a → (p a = true ↔ k ≤ j))
    (hf : ∀ a : Pt, Ctr Tryz.prog f (c1 ++ [a.v] ++ c2).toArray L fun v L' => v = .bool (p a) ∧ L' = L) :
    Ctr Tryz.prog 116 #[.slice A n c, .func (.func f) c1.toArray c2.toArray] L fun v L' => v = .int .i64 (k : Nat) ∧ L' = L := by
  have h1 : l.length = n := hl.len (by decide)
  refine Ctr_of (fn := Tryz.f116) (n := 29) Tryz.func116 rfl rfl rfl ?_
  intro g F
  (repeat first | refine G_seq ?_ | refine G_skip ?_ | refine G_endblk ?_ | refine G_block ?_ | refine G_exit rfl ?_)
  refine G_region ?_
  refine GO_q rfl rfl (ev_assign rfl) ?_
  refine GO_nil ?_
  (repeat first | refine G_seq ?_ | refine G_skip ?_ | refine G_endblk ?_ | refine G_block ?_ | refine G_exit rfl ?_)
  refine G_region ?_
  refine GO_q rfl rfl (ev_move rfl) ?_
  refine GO_q rfl rfl (ev_len rfl) ?_
  refine GO_q rfl rfl (ev_assign rfl) ?_
  refine GO_q rfl rfl (ev_assign rfl) ?_
  refine GO_nil ?_
  (repeat first | refine G_seq ?_ | refine G_skip ?_ | refine G_endblk ?_ | refine G_block ?_ | refine G_exit rfl ?_)
  refine G_loop (ι := Nat × Nat) (fun x => [(0, .slice A n c), (1, .func (.func f) c1.toArray c2.toArray), (5, .int .i64 (x.1 : Nat)), (6, .int .i64 (x.2 : Nat))]) (fun _ => F :: L) (fun x => x.1 ≤ k ∧ k ≤ x.2 ∧ x.2 ≤ n) (fun x => x.2 - x.1) (0, n) ⟨Nat.zero_le _, hk, Nat.le_refl _⟩ ⟨rfl, rfl, rfl, rfl, trivial⟩ (by (repeat first | exact fun _ s => s | apply en_keep | apply en_drop | apply en_app) <;> fail) ?_
  rintro ⟨lo, hi⟩ ⟨f1, f2, f3⟩
  simp only at f1 f2 f3
  dsimp only
  (repeat first | refine G_seq ?_ | refine G_skip ?_ | refine G_endblk ?_ | refine G_block ?_ | refine G_exit rfl ?_)
  refine G_region ?_
  refine GO_q rfl rfl (ev_move rfl) ?_
  refine GO_q rfl rfl (ev_move rfl) ?_
  (first | refine GO_q rfl rfl (ev_lssN rfl rfl) ?_ | refine GO_q rfl rfl (ev_lss rfl rfl) ?_)
  refine GO_nil ?_
  (repeat first | refine G_seq ?_ | refine G_skip ?_ | refine G_endblk ?_ | refine G_block ?_ | refine G_exit rfl ?_)
  refine G_cond rfl (fun h4 => ?_) (fun h4 => ?_)
  · obtain ⟨b1, o1, rfl, x1⟩ := hl.at_ (by omega)
    have hmid : lo + (hi - lo) / 2 < hi := by omega
    have g1 : l[lo + (hi - lo) / 2]? = some l[lo + (hi - lo) / 2] := List.getElem?_eq_getElem (by omega)
    have y1 := x1 _ _ g1
    have hpu := hp _ _ g1
    generalize l[lo + (hi - lo) / 2] = u at *
    (repeat first | refine G_seq ?_ | refine G_skip ?_ | refine G_endblk ?_ | refine G_block ?_ | refine G_exit rfl ?_)
    refine G_region ?_
    refine GO_q rfl rfl (ev_move rfl) ?_
    refine GO_q rfl rfl (ev_move rfl) ?_
    refine GO_q rfl rfl (ev_move rfl) ?_
    (first | refine GO_q rfl rfl (ev_subN rfl rfl (by first | omega | (simp; done) | (simp; omega))) ?_ | refine GO_q rfl rfl (ev_sub rfl rfl (by first | omega | (simp; done) | (simp; omega))) ?_)
    (first | refine GO_q rfl rfl (ev_quoN (q := 2) rfl rfl (by first | omega | (simp; done) | (simp; omega)) (by first | omega | (simp; done) | (simp; omega))) ?_ | refine GO_q rfl rfl (ev_quo rfl rfl (by first | omega | (simp; done) | (simp; omega)) (by first | omega | (simp; done) | (simp; omega)) (by first | omega | (simp; done) | (simp; omega))) ?_)
    (first | refine GO_q rfl rfl (ev_addN rfl rfl (by first | omega | (simp; done) | (simp; omega))) ?_ | refine GO_q rfl rfl (ev_add rfl rfl (by first | omega | (simp; done) | (simp; omega))) ?_)
    refine GO_q rfl rfl (ev_assign rfl) ?_
    refine GO_nil ?_
    obtain ⟨m, hm⟩ : ∃ m, lo + (hi - lo) / 2 = m := ⟨_, rfl⟩
    have hlm : lo ≤ m := by omega
    rw [hm] at hmid y1 hpu
    rw [hm]
    have z1 : LdN L b1 (o1 + m * 3) 3 [.int .i64 u.id, .int .i64 u.x, .int .i64 u.y] := y1
    (repeat first | refine G_seq ?_ | refine G_skip ?_ | refine G_endblk ?_ | refine G_block ?_ | refine G_exit rfl ?_)
    refine G_region ?_
    refine GO_q rfl rfl (ev_move rfl) ?_
    refine GO_q rfl rfl (ev_move rfl) ?_
    refine GO_q rfl rfl (ev_move rfl) ?_
    (first | refine GO_q rfl rfl (ev_indexAddrN rfl rfl (by first | omega | (simp; done) | (simp; omega))) ?_ | refine GO_q rfl rfl (ev_indexAddr rfl rfl (by first | omega | (simp; done) | (simp; omega)) (by first | omega | (simp; done) | (simp; omega))) ?_)
    refine GO_q rfl rfl (ev_loadN rfl (by repeat' first | exact LdN.blk rfl | assumption | apply LdN.skip | apply LdN.app)) ?_
    refine GO_eff rfl rfl (eff_callv rfl rfl (Ctr.frame [F] (hf u) en_refl)) ?_; rintro _ _ ⟨_, ⟨rfl, rfl⟩, rfl⟩
    refine GO_nil ?_
    (repeat first | refine G_seq ?_ | refine G_skip ?_ | refine G_endblk ?_ | refine G_block ?_ | refine G_exit rfl ?_)
    refine G_condB rfl (fun h5 => ?_) (fun h5 => ?_)
    · have := hpu.1 h5
      (repeat first | refine G_seq ?_ | refine G_skip ?_ | refine G_endblk ?_ | refine G_block ?_ | refine G_exit rfl ?_)
      refine G_region ?_
      refine GO_q rfl rfl (ev_move rfl) ?_
      refine GO_q rfl rfl (ev_assign rfl) ?_
      refine GO_nil ?_
      (repeat first | refine G_seq ?_ | refine G_skip ?_ | refine G_endblk ?_ | refine G_block ?_ | refine G_exit rfl ?_)
      exact G_round (lo, m) ⟨f1, this, by simp only; omega⟩ (by simp only; omega) ⟨rfl, rfl, rfl, rfl, trivial⟩ (by (repeat first | exact fun _ s => s | apply en_keep | apply en_drop | apply en_app) <;> fail)
    · have : ¬ k ≤ m := fun h => by rw [hpu.2 h] at h5; cases h5
      (repeat first | refine G_seq ?_ | refine G_skip ?_ | refine G_endblk ?_ | refine G_block ?_ | refine G_exit rfl ?_)
      refine G_region ?_
      refine GO_q rfl rfl (ev_move rfl) ?_
      (first | refine GO_q rfl rfl (ev_addN (q := 1) rfl rfl (by first | omega | (simp; done) | (simp; omega))) ?_ | refine GO_q rfl rfl (ev_add rfl rfl (by first | omega | (simp; done) | (simp; omega))) ?_)
      refine GO_q rfl rfl (ev_assign rfl) ?_
      refine GO_nil ?_
      (repeat first | refine G_seq ?_ | refine G_skip ?_ | refine G_endblk ?_ | refine G_block ?_ | refine G_exit rfl ?_)
      exact G_round (m + 1, hi) ⟨by simp only; omega, f2, f3⟩ (by simp only; omega) ⟨rfl, rfl, rfl, rfl, trivial⟩ (by (repeat first | exact fun _ s => s | apply en_keep | apply en_drop | apply en_app) <;> fail)
  · have e : lo = k := by omega
    subst e
    (repeat first | refine G_seq ?_ | refine G_skip ?_ | refine G_endblk ?_ | refine G_block ?_ | refine G_exit rfl ?_)
    refine G_region ?_
    refine GO_q rfl rfl (ev_move rfl) ?_
    refine GO_q rfl rfl (ev_assign rfl) ?_
    refine GO_nil ?_
    (repeat first | refine G_seq ?_ | refine G_skip ?_ | refine G_endblk ?_ | refine G_block ?_ | refine G_exit rfl ?_)
    refine G_ret rfl (.tmp rfl .nil) (by (repeat first | exact fun _ s => s | apply en_keep | apply en_drop | apply en_app) <;> fail) ⟨rfl, rfl⟩
end Go.Proofs.YtmgkmammkmlakaaGreat
/- Out of XSrt by tools/gspan.py: intervals in place of points. -/
namespace Go.Proofs.YtmgkmammkmlakaaGreat
attribute [local irreducible] sat
set_option linter.unusedVariables false
set_option linter.unusedSimpArgs false
set_option maxRecDepth 100000

theorem behind1_ctr (a v : Pt) (b4 b5 : Nat) (L : List HP) (h4 : LdN L b4 0 3 [.int .i64 v.id, .int .i64 v.x, .int .i64 v.y]) (h5 : Ld L ⟨b5, 0, none⟩ (.func (.func 57) #[] #[])) :
    Ctr Tryz.prog 117 #[a.v, .pointer (some ⟨b5, 0, none⟩), .pointer (some ⟨b4, 0, none⟩)] L fun r L' => r = .bool (v.less a) ∧ L' = L := by
  refine Ctr_of (fn := Tryz.f117) (n := 9) Tryz.func117 rfl rfl rfl ?_
  intro g F
  (repeat first | refine G_seq ?_ | refine G_skip ?_ | refine G_endblk ?_ | refine G_block ?_ | refine G_exit rfl ?_)
  refine G_region ?_
  refine GO_eff rfl rfl (eff_box rfl) ?_; rintro _ _ ⟨b3, rfl, rfl⟩
  refine GO_q rfl rfl (ev_assign rfl) ?_
  refine GO_nil ?_
  (repeat first | refine G_seq ?_ | refine G_skip ?_ | refine G_endblk ?_ | refine G_block ?_ | refine G_exit rfl ?_)
  refine G_region ?_
  refine GO_q rfl rfl (ev_load rfl (by repeat' first | exact Ld.blk rfl | assumption | apply Ld.skip | apply Ld.app)) ?_
  refine GO_q rfl rfl (ev_loadN rfl (by repeat' first | exact LdN.blk rfl | assumption | apply LdN.skip | apply LdN.app)) ?_
  refine GO_q rfl rfl (ev_loadN rfl (by repeat' first | exact LdN.blk rfl | assumption | apply LdN.skip | apply LdN.app)) ?_
  refine GO_eff rfl rfl (eff_callv rfl rfl (less_ctr v a _)) ?_; rintro _ _ ⟨rfl, rfl⟩
  refine GO_q rfl rfl (ev_assign rfl) ?_
  refine GO_nil ?_
  (repeat first | refine G_seq ?_ | refine G_skip ?_ | refine G_endblk ?_ | refine G_block ?_ | refine G_exit rfl ?_)
  refine G_ret rfl (.tmp rfl .nil) (by (repeat first | exact fun _ s => s | apply en_keep | apply en_drop | apply en_app) <;> fail) ⟨rfl, rfl⟩
theorem behind_ctr (A : Option Addr) (n c : Nat) (l : List Pt) (v : Pt) (L : List HP) (hl : Rd L A n l) (hn : n ≤ 1000000) (ho : Asc l) :
    Ctr Tryz.prog 93 #[.slice A n c, v.v, .func (.func 57) #[] #[]] L fun r L' => r = .int .i64 (putK v l : Nat) ∧ L' = L := by
  have h1 : l.length = n := hl.len (by decide)
  have hk := putK_le v l
  refine Ctr_of (fn := Tryz.f93) (n := 10) Tryz.func93 rfl rfl rfl ?_
  intro g F
  (repeat first | refine G_seq ?_ | refine G_skip ?_ | refine G_endblk ?_ | refine G_block ?_ | refine G_exit rfl ?_)
  refine G_region ?_
  refine GO_eff rfl rfl (eff_box rfl) ?_; rintro _ _ ⟨b4, rfl, rfl⟩
  refine GO_eff rfl rfl (eff_box rfl) ?_; rintro _ _ ⟨b5, rfl, rfl⟩
  refine GO_q rfl rfl (ev_assign rfl) ?_
  refine GO_nil ?_
  (repeat first | refine G_seq ?_ | refine G_skip ?_ | refine G_endblk ?_ | refine G_block ?_ | refine G_exit rfl ?_)
  refine G_region ?_
  refine GO_q rfl rfl (ev_move rfl) ?_
  refine GO_q rfl rfl (ev_makeFunc rfl rfl) ?_
  refine GO_eff rfl rfl (eff_call rfl (seek_ctr 117 [] [.pointer (some ⟨b5, 0, none⟩), .pointer (some ⟨b4, 0, none⟩)] (fun a => v.less a) A n c (putK v l) l _ (by repeat' first | exact Rc.blk rfl | assumption | apply Rd.skip | apply Rd.app) hn (by omega) (putK_spec v l ho) (fun a => behind1_ctr a v b4 b5 _ (by repeat' first | exact LdN.blk rfl | assumption | apply LdN.skip | apply LdN.app) (by repeat' first | exact Ld.blk rfl | assumption | apply Ld.skip | apply Ld.app)))) ?_; rintro _ _ ⟨rfl, rfl⟩
  refine GO_q rfl rfl (ev_assign rfl) ?_
  refine GO_nil ?_
  (repeat first | refine G_seq ?_ | refine G_skip ?_ | refine G_endblk ?_ | refine G_block ?_ | refine G_exit rfl ?_)
  refine G_ret rfl (.tmp rfl .nil) (by (repeat first | exact fun _ s => s | apply en_keep | apply en_drop | apply en_app) <;> fail) ⟨rfl, rfl⟩
theorem Put_ctr (A : Option Addr) (n c : Nat) (l : List Pt) (v : Pt) (L : List HP) (hl : Rd L A n l) (hn : n ≤ 100000) (ho : Asc l) :
    Ctr Tryz.prog 56 #[.slice A n c, v.v, .func (.func 57) #[] #[]] L fun r L' => Made 51 (putP v l) L r L' := by
  have h1 : l.length = n := hl.len (by decide)
  have hk := putK_le v l
  rw [putP_eq]
  refine Ctr_of (fn := Tryz.f56) (n := 16) Tryz.func56 rfl rfl rfl ?_
  intro g F
  (repeat first | refine G_seq ?_ | refine G_skip ?_ | refine G_endblk ?_ | refine G_block ?_ | refine G_exit rfl ?_)
  refine G_region ?_
  refine GO_eff rfl rfl (eff_box rfl) ?_; rintro _ _ ⟨b4, rfl, rfl⟩
  refine GO_q rfl rfl (ev_assign rfl) ?_
  refine GO_nil ?_
  (repeat first | refine G_seq ?_ | refine G_skip ?_ | refine G_endblk ?_ | refine G_block ?_ | refine G_exit rfl ?_)
  refine G_draw (.q 0 (.q 2 (.q 3 (.q 4 (.q 6 (.br 1 (.br 5 (.e 7 (.e 8 (.q 9 .nil))) 7 (.e 5 (.e 8 (.q 9 .nil)))) 7 (.e 1 (.e 5 (.e 8 (.q 9 .nil)))))))))) (by kernel_rfl) (by kernel_rfl) ?_
  refine RS_m retB_noPanic rfl rfl rfl rfl (ev_move rfl) ?_
  refine RS_m retB_noPanic rfl rfl rfl rfl (ev_move rfl) ?_
  refine RS_q retB_noPanic rfl rfl rfl rfl (ev_loadN rfl (by repeat' first | exact LdN.blk rfl | assumption | apply LdN.skip | apply LdN.app)) ?_
  refine RS_m retB_noPanic rfl rfl rfl rfl (ev_move rfl) ?_
  refine RS_q retB_noPanic rfl rfl rfl rfl (ev_loadN rfl (by repeat' first | exact LdN.blk rfl | assumption | apply LdN.skip | apply LdN.app)) ?_
  refine RS_br ?x15_0 ?x15_1
  case' x15_1 =>
    refine RE_eff rfl rfl rfl (eff_buildSlice1 (by rfl) rfl rfl) ?_; rintro _ _ ⟨b14, rfl, rfl⟩; refine ⟨_, (by first | ((repeat first | exact fun _ s => s | apply en_keep | apply en_drop | apply en_app) <;> fail) | ((repeat first | exact en_refl | (apply en_blk; focus ((repeat' first | exact Pick.here | apply Pick.skip | apply Pick.app); done); focus rfl) | (apply en_own; focus ((repeat' first | exact Pick.here | apply Pick.skip | apply Pick.app); done); focus rfl) | (apply en_pick; focus ((repeat' first | exact Pick.here | apply Pick.skip | apply Pick.app); done)) | apply en_drop | apply en_app) <;> fail)), fun _ s => s, ?_⟩
    refine RS_e (RE_eff rfl rfl rfl (eff_call rfl (Clone_ctr A n c l _ (by repeat' first | exact Rc.blk rfl | assumption | apply Rd.skip | apply Rd.app) (by omega))) ?_); rintro _ _ ⟨A8, c8, rfl, hn8, rfl⟩; refine ⟨_, (by first | ((repeat first | exact fun _ s => s | apply en_keep | apply en_drop | apply en_app) <;> fail) | ((repeat first | exact en_refl | (apply en_blk; focus ((repeat' first | exact Pick.here | apply Pick.skip | apply Pick.app); done); focus rfl) | (apply en_own; focus ((repeat' first | exact Pick.here | apply Pick.skip | apply Pick.app); done); focus rfl) | (apply en_pick; focus ((repeat' first | exact Pick.here | apply Pick.skip | apply Pick.app); done)) | apply en_drop | apply en_app) <;> fail)), fun _ s => s, ?_⟩
    refine RS_e (RE_eff rfl rfl rfl (eff_call rfl (behind_ctr A n c l v _ (by repeat' first | exact Rc.blk rfl | assumption | apply Rd.skip | apply Rd.app) (by omega) ho)) ?_); rintro _ _ ⟨rfl, rfl⟩; refine ⟨_, (by first | ((repeat first | exact fun _ s => s | apply en_keep | apply en_drop | apply en_app) <;> fail) | ((repeat first | exact en_refl | (apply en_blk; focus ((repeat' first | exact Pick.here | apply Pick.skip | apply Pick.app); done); focus rfl) | (apply en_own; focus ((repeat' first | exact Pick.here | apply Pick.skip | apply Pick.app); done); focus rfl) | (apply en_pick; focus ((repeat' first | exact Pick.here | apply Pick.skip | apply Pick.app); done)) | apply en_drop | apply en_app) <;> fail)), fun _ s => s, ?_⟩
    refine RS_e (RE_eff rfl rfl rfl (eff_call rfl (Ctr.pick (by repeat' first | exact Pick.here | apply Pick.skip | apply Pick.app) (Ctr.pre (en_pick (.skip .here) en_refl) (Insert_ctr A8 _ c8 b14 (putK v l) l v _ rfl (by omega) hk)))) ?_); rintro _ _ ⟨A15, c15, rfl, hn15, rfl⟩; refine ⟨_, (by first | ((repeat first | exact fun _ s => s | apply en_keep | apply en_drop | apply en_app) <;> fail) | ((repeat first | exact en_refl | (apply en_blk; focus ((repeat' first | exact Pick.here | apply Pick.skip | apply Pick.app); done); focus rfl) | (apply en_own; focus ((repeat' first | exact Pick.here | apply Pick.skip | apply Pick.app); done); focus rfl) | (apply en_pick; focus ((repeat' first | exact Pick.here | apply Pick.skip | apply Pick.app); done)) | apply en_drop | apply en_app) <;> fail)), fun _ s => s, ?_⟩
    refine RS_m retB_noPanic rfl rfl rfl rfl (ev_assign rfl) ?_
    refine RS_nil ?_
  case' x15_0 =>
    refine RE_eff rfl rfl rfl (eff_call rfl (Clone_ctr A n c l _ (by repeat' first | exact Rc.blk rfl | assumption | apply Rd.skip | apply Rd.app) (by omega))) ?_; rintro _ _ ⟨A8, c8, rfl, hn8, rfl⟩; refine ⟨_, (by first | ((repeat first | exact fun _ s => s | apply en_keep | apply en_drop | apply en_app) <;> fail) | ((repeat first | exact en_refl | (apply en_blk; focus ((repeat' first | exact Pick.here | apply Pick.skip | apply Pick.app); done); focus rfl) | (apply en_own; focus ((repeat' first | exact Pick.here | apply Pick.skip | apply Pick.app); done); focus rfl) | (apply en_pick; focus ((repeat' first | exact Pick.here | apply Pick.skip | apply Pick.app); done)) | apply en_drop | apply en_app) <;> fail)), fun _ s => s, ?_⟩
    refine RS_br ?x16_0 ?x16_1
    case' x16_1 =>
      refine RE_eff rfl rfl rfl (eff_buildSlice1 (by rfl) rfl rfl) ?_; rintro _ _ ⟨b14, rfl, rfl⟩; refine ⟨_, (by first | ((repeat first | exact fun _ s => s | apply en_keep | apply en_drop | apply en_app) <;> fail) | ((repeat first | exact en_refl | (apply en_blk; focus ((repeat' first | exact Pick.here | apply Pick.skip | apply Pick.app); done); focus rfl) | (apply en_own; focus ((repeat' first | exact Pick.here | apply Pick.skip | apply Pick.app); done); focus rfl) | (apply en_pick; focus ((repeat' first | exact Pick.here | apply Pick.skip | apply Pick.app); done)) | apply en_drop | apply en_app) <;> fail)), fun _ s => s, ?_⟩
      refine RS_e (RE_eff rfl rfl rfl (eff_call rfl (behind_ctr A n c l v _ (by repeat' first | exact Rc.blk rfl | assumption | apply Rd.skip | apply Rd.app) (by omega) ho)) ?_); rintro _ _ ⟨rfl, rfl⟩; refine ⟨_, (by first | ((repeat first | exact fun _ s => s | apply en_keep | apply en_drop | apply en_app) <;> fail) | ((repeat first | exact en_refl | (apply en_blk; focus ((repeat' first | exact Pick.here | apply Pick.skip | apply Pick.app); done); focus rfl) | (apply en_own; focus ((repeat' first | exact Pick.here | apply Pick.skip | apply Pick.app); done); focus rfl) | (apply en_pick; focus ((repeat' first | exact Pick.here | apply Pick.skip | apply Pick.app); done)) | apply en_drop | apply en_app) <;> fail)), fun _ s => s, ?_⟩
      refine RS_e (RE_eff rfl rfl rfl (eff_call rfl (Ctr.pick (by repeat' first | exact Pick.here | apply Pick.skip | apply Pick.app) (Ctr.pre (en_pick (.skip .here) en_refl) (Insert_ctr A8 _ c8 b14 (putK v l) l v _ rfl (by omega) hk)))) ?_); rintro _ _ ⟨A15, c15, rfl, hn15, rfl⟩; refine ⟨_, (by first | ((repeat first | exact fun _ s => s | apply en_keep | apply en_drop | apply en_app) <;> fail) | ((repeat first | exact en_refl | (apply en_blk; focus ((repeat' first | exact Pick.here | apply Pick.skip | apply Pick.app); done); focus rfl) | (apply en_own; focus ((repeat' first | exact Pick.here | apply Pick.skip | apply Pick.app); done); focus rfl) | (apply en_pick; focus ((repeat' first | exact Pick.here | apply Pick.skip | apply Pick.app); done)) | apply en_drop | apply en_app) <;> fail)), fun _ s => s, ?_⟩
      refine RS_m retB_noPanic rfl rfl rfl rfl (ev_assign rfl) ?_
      refine RS_nil ?_
    case' x16_0 =>
      refine RE_eff rfl rfl rfl (eff_call rfl (behind_ctr A n c l v _ (by repeat' first | exact Rc.blk rfl | assumption | apply Rd.skip | apply Rd.app) (by omega) ho)) ?_; rintro _ _ ⟨rfl, rfl⟩; refine ⟨_, (by first | ((repeat first | exact fun _ s => s | apply en_keep | apply en_drop | apply en_app) <;> fail) | ((repeat first | exact en_refl | (apply en_blk; focus ((repeat' first | exact Pick.here | apply Pick.skip | apply Pick.app); done); focus rfl) | (apply en_own; focus ((repeat' first | exact Pick.here | apply Pick.skip | apply Pick.app); done); focus rfl) | (apply en_pick; focus ((repeat' first | exact Pick.here | apply Pick.skip | apply Pick.app); done)) | apply en_drop | apply en_app) <;> fail)), fun _ s => s, ?_⟩
      refine RS_e (RE_eff rfl rfl rfl (eff_buildSlice1 (by rfl) rfl rfl) ?_); rintro _ _ ⟨b14, rfl, rfl⟩; refine ⟨_, (by first | ((repeat first | exact fun _ s => s | apply en_keep | apply en_drop | apply en_app) <;> fail) | ((repeat first | exact en_refl | (apply en_blk; focus ((repeat' first | exact Pick.here | apply Pick.skip | apply Pick.app); done); focus rfl) | (apply en_own; focus ((repeat' first | exact Pick.here | apply Pick.skip | apply Pick.app); done); focus rfl) | (apply en_pick; focus ((repeat' first | exact Pick.here | apply Pick.skip | apply Pick.app); done)) | apply en_drop | apply en_app) <;> fail)), fun _ s => s, ?_⟩
      refine RS_e (RE_eff rfl rfl rfl (eff_call rfl (Ctr.pick (by repeat' first | exact Pick.here | apply Pick.skip | apply Pick.app) (Ctr.pre (en_pick (.skip .here) en_refl) (Insert_ctr A8 _ c8 b14 (putK v l) l v _ rfl (by omega) hk)))) ?_); rintro _ _ ⟨A15, c15, rfl, hn15, rfl⟩; refine ⟨_, (by first | ((repeat first | exact fun _ s => s | apply en_keep | apply en_drop | apply en_app) <;> fail) | ((repeat first | exact en_refl | (apply en_blk; focus ((repeat' first | exact Pick.here | apply Pick.skip | apply Pick.app); done); focus rfl) | (apply en_own; focus ((repeat' first | exact Pick.here | apply Pick.skip | apply Pick.app); done); focus rfl) | (apply en_pick; focus ((repeat' first | exact Pick.here | apply Pick.skip | apply Pick.app); done)) | apply en_drop | apply en_app) <;> fail)), fun _ s => s, ?_⟩
      refine RS_m retB_noPanic rfl rfl rfl rfl (ev_assign rfl) ?_
      refine RS_nil ?_
  all_goals
    (repeat first | refine G_seq ?_ | refine G_skip ?_ | refine G_endblk ?_ | refine G_block ?_ | refine G_exit rfl ?_)
    exact G_ret (L' := own 51 3 A15 (l.take (putK v l) ++ [v] ++ l.drop (putK v l)).length c15 (flat (l.take (putK v l) ++ [v] ++ l.drop (putK v l))) :: L) rfl (.tmp rfl .nil) (by (repeat first | exact en_refl | (apply en_blk; focus ((repeat' first | exact Pick.here | apply Pick.skip | apply Pick.app); done); focus rfl) | (apply en_own; focus ((repeat' first | exact Pick.here | apply Pick.skip | apply Pick.app); done); focus rfl) | (apply en_pick; focus ((repeat' first | exact Pick.here | apply Pick.skip | apply Pick.app); done)) | apply en_drop | apply en_app) <;> fail) ⟨A15, c15, rfl, hn15, rfl⟩
end Go.Proofs.YtmgkmammkmlakaaGreat
/- What a contract leaves, put otherwise. No program stands in this text. -/
namespace Go.Proofs.YtmgkmammkmlakaaGreat
theorem Ctr.post' {P : Program} {f : FuncId} {args : Array Value} {L : List HP} {post post' : Value → List HP → Prop} (h : Ctr P f args L post) (hp : ∀ v L' hm, post v L' → sat L' hm → ∃ M, post' v M ∧ sat M hm) : Ctr P f args L post' := fun g F w hw =>
  (h g F w hw).mono fun e w' ⟨v, L', e1, p, q⟩ => by
    obtain ⟨h1, h2, d, s1, s2, a, l⟩ := q.s
    obtain ⟨M, pm, sm⟩ := hp v L' h2 p l
    exact ⟨v, M, e1, pm, q.g, h1, h2, d, s1, s2, a, sm⟩
theorem Ctr.open {P : Program} {f : FuncId} {args : Array Value} {L : List HP} {A : HP} {ι : Type} {N : ι → List HP} {Fa : ι → Prop} {post : Value → List HP → Prop} (op : ∀ h, A h → ∃ x, Fa x ∧ sat (N x) h) (C : ∀ x, Fa x → Ctr P f args (N x ++ L) post) : Ctr P f args (A :: L) post := fun g F w hw => by
  obtain ⟨h1, h2, d, s1, s2, ha, hl⟩ := hw.s.swap
  obtain ⟨x, fx, nx⟩ := op _ ha
  have hs : sat (N x ++ (F :: L)) w.hm := sat.head (A := fun h => h = h1) (fun _ e => e ▸ nx) ⟨h1, h2, d, s1, s2, rfl, hl⟩
  exact C x fx g F w ⟨hw.g, hs.perm List.perm_middle⟩
end Go.Proofs.YtmgkmammkmlakaaGreat
/- Where a function ends without a word. No program stands in this text. -/
namespace Go.Proofs.YtmgkmammkmlakaaGreat
open Go.RowKit
section
variable {P : Program} {fn : Func} {g : Glob} {n : Nat} {σ : Env} {L : List HP}
theorem G_end {rs : List ResultVar} {vs : List Value} {L' : List HP} {F : HP} {post : Value → List HP → Prop} (hr : fn.results = rs.toArray) (h : Res P σ L rs vs) (hL : ∀ h, sat L h → sat (F :: L') h) (hp : post (retv vs) L') : G P (retB P fn g F post) g n [] σ L := fun a w hs hw => by
  refine ⟨hs.defers, retv vs, ?_, L', hp, hw.mono hL⟩
  unfold results
  rw [hr]
  simp only [List.mapM_toArray, Sem.run_bind, Sem.run_map]
  have e := h.run hs.e hw.s
  generalize hm : List.mapM (m := Sem) _ rs = m
  have e' : m.run P w = .ok vs w := by rw [← hm]; exact e
  rw [e']
  simp only [Result.andThen_ok, Sem.run_pure]
  cases vs with
  | nil => rfl
  | cons v l => cases l <;> simp [retv]
end
end Go.Proofs.YtmgkmammkmlakaaGreat
/-
  DERIVED: THE SHELF's CONTRACTS AT THIS DUMP, IN PLAIN WORDS (tools/lay-plain.mjs out of 'TryzShelf.lean', which tools/lay-shelf.mjs wrote): THE SAME DECLARATIONS UNDER THE SAME NAMES: 'import', 'namespace', 'open', 'def', 'theorem' AND NOTHING ELSE: no command of the shelf's: FOR A HAND-IN. Each laying: the table of numbers ('.._ren') and one theorem, a field a fact of the dump's own or the kernel's comparison; each contract: ONE APPLICATION.
-/
namespace Go.Proofs
open Go.Shelf
def Tryz.lays189_ren : Go.Shelf.Ren := ⟨fun | 189 => 67 | 125 => 106 | 257 => 105 | 128 => 131 | 129 => 132 | 294 => 123 | 295 => 124 | 296 => 125 | 297 => 126 | 298 => 127 | 299 => 128 | 216 => 100 | 300 => 129 | 301 => 130 | 328 => 139 | 329 => 140 | 330 => 141 | 331 => 142 | 332 => 143 | 215 => 121 | 343 => 149 | n => n, fun | 28 => 31 | 3 => 3 | 46 => 123 | 0 => 0 | 51 => 135 | 53 => 137 | 4 => 4 | 183 => 129 | 182 => 128 | 131 => 67 | 5 => 5 | 9 => 9 | 218 => 140 | 222 => 144 | 228 => 147 | 229 => 37 | n => n, fun | n => n⟩
theorem Tryz.lays189 : Go.Proofs.Lays.n189 Tryz.prog Tryz.lays189_ren := {
  mixed := by kernel_rfl
  f125 := Tryz.func106.trans (congrArg some (by kernel_rfl))
  f128 := Tryz.func131.trans (congrArg some (by kernel_rfl))
  f129 := Tryz.func132.trans (congrArg some (by kernel_rfl))
  f189 := Tryz.func67.trans (congrArg some (by kernel_rfl))
  f215 := Tryz.func121.trans (congrArg some (by kernel_rfl))
  f216 := Tryz.func100.trans (congrArg some (by kernel_rfl))
  f257 := Tryz.func105.trans (congrArg some (by kernel_rfl))
  f294 := Tryz.func123.trans (congrArg some (by kernel_rfl))
  f295 := Tryz.func124.trans (congrArg some (by kernel_rfl))
  f296 := Tryz.func125.trans (congrArg some (by kernel_rfl))
  f297 := Tryz.func126.trans (congrArg some (by kernel_rfl))
  f298 := Tryz.func127.trans (congrArg some (by kernel_rfl))
  f299 := Tryz.func128.trans (congrArg some (by kernel_rfl))
  f300 := Tryz.func129.trans (congrArg some (by kernel_rfl))
  f301 := Tryz.func130.trans (congrArg some (by kernel_rfl))
  f328 := Tryz.func139.trans (congrArg some (by kernel_rfl))
  f329 := Tryz.func140.trans (congrArg some (by kernel_rfl))
  f330 := Tryz.func141.trans (congrArg some (by kernel_rfl))
  f331 := Tryz.func142.trans (congrArg some (by kernel_rfl))
  f332 := Tryz.func143.trans (congrArg some (by kernel_rfl))
  f343 := Tryz.func149.trans (congrArg some (by kernel_rfl))
  t0 := Tryz.underlying0
  a0 := Tryz.isAgg0
  z0 := Tryz.sizeOf0
  v0 := Tryz.zeroValue0
  t3 := Tryz.underlying3
  a3 := Tryz.isAgg3
  z3 := Tryz.sizeOf3
  v3 := Tryz.zeroValue3
  t4 := Tryz.underlying4
  a4 := Tryz.isAgg4
  z4 := Tryz.sizeOf4
  v4 := Tryz.zeroValue4
  t5 := Tryz.underlying5
  a5 := Tryz.isAgg5
  z5 := Tryz.sizeOf5
  v5 := Tryz.zeroValue5
  t9 := Tryz.underlying9
  a9 := Tryz.isAgg9
  z9 := Tryz.sizeOf9
  v9 := Tryz.zeroValue9
  t28 := Tryz.underlying31
  a28 := Tryz.isAgg31
  z28 := Tryz.sizeOf31
  v28 := Tryz.zeroValue31
  t46 := Tryz.underlying123
  a46 := Tryz.isAgg123
  z46 := Tryz.sizeOf123
  v46 := Tryz.zeroValue123
  t51 := Tryz.underlying135
  a51 := Tryz.isAgg135
  z51 := Tryz.sizeOf135
  v51 := Tryz.zeroValue135
  t53 := Tryz.underlying137
  a53 := Tryz.isAgg137
  z53 := Tryz.sizeOf137
  v53 := Tryz.zeroValue137
  t131 := Tryz.underlying67
  a131 := Tryz.isAgg67
  z131 := Tryz.sizeOf67
  v131 := Tryz.zeroValue67
  t182 := Tryz.underlying128
  a182 := Tryz.isAgg128
  z182 := Tryz.sizeOf128
  v182 := Tryz.zeroValue128
  t183 := Tryz.underlying129
  a183 := Tryz.isAgg129
  z183 := Tryz.sizeOf129
  v183 := Tryz.zeroValue129
  t218 := Tryz.underlying140
  a218 := Tryz.isAgg140
  z218 := Tryz.sizeOf140
  v218 := Tryz.zeroValue140
  t222 := Tryz.underlying144
  a222 := Tryz.isAgg144
  z222 := Tryz.sizeOf144
  v222 := Tryz.zeroValue144
  t228 := Tryz.underlying147
  a228 := Tryz.isAgg147
  z228 := Tryz.sizeOf147
  v228 := Tryz.zeroValue147
  t229 := Tryz.underlying37
  a229 := Tryz.isAgg37
  z229 := Tryz.sizeOf37
  v229 := Tryz.zeroValue37 }
open Go.Sort Go.RowKit in
theorem Tryz.slices_Sort_int (blk off cap : Nat) (zs : List Int) (w : World) (hH : Holds (Value.int .i64) w blk off zs.toArray) (hblk : blk < w.heap.size) (hsz : zs.length < 4611686018427387904) :
    Calls Tryz.prog 67 #[.slice (some ⟨blk, off, none⟩) zs.length cap] w fun e w' =>
      e = .returned (.tuple #[]) ∧ ∃ n os, w' = grow (putRow (Value.int .i64) (Sort.ahead w n) blk off (zs.mergeSort fun x y => decide (x ≤ y)).toArray) os := Any.slices_Sort_int Tryz.lays189 blk off cap zs w hH hblk hsz
open Go.RowKit Go.Sort in
/-- .. and plain. (LAID: no walk: one application.) -/
theorem Tryz.slices_Sort_int_none (p : Option Addr) (cap : Nat) (w : World) :
    Calls Tryz.prog 67 #[.slice p 0 cap] w fun e w' => e = .returned (.tuple #[]) ∧ w' = w := Any.slices_Sort_int_none Tryz.lays189 p cap w
end Go.Proofs
/- slices.Sort of this program. -/
namespace Go.Proofs.YtmgkmammkmlakaaGreat
theorem sort_ctr (A : Option Addr) (n c : Nat) (zs : List Int) (L : List HP) (hA : 0 < n → ∃ b, A = some ⟨b, 0, none⟩) (hn : zs.length = n) (hbig : n ≤ 1000000) :
    Ctr Tryz.prog 67 #[.slice A n c] (own 3 1 A n c (flat zs) :: L) fun v L' => v = .tuple #[] ∧ L' = own 3 1 A n c (flat (srt zs)) :: L := by
  rcases Nat.eq_zero_or_pos n with h0 | h0
  · subst h0
    have hz : zs = [] := List.eq_nil_of_length_eq_zero hn
    subst hz
    intro g F w hw
    refine (Tryz.slices_Sort_int_none A c w).mono fun e w' ⟨h1, h2⟩ => ?_
    subst h2
    exact ⟨_, _, h1, ⟨rfl, rfl⟩, by rw [show srt [] = [] by simp [srt]]; exact hw⟩
  · intro g F w hw
    obtain ⟨b, rfl⟩ := hA h0
    exact sort_of_shelf b n c zs L hn h0 (fun w hH hb => Tryz.slices_Sort_int b 0 c zs w hH hb (by omega)) g F w hw
end Go.Proofs.YtmgkmammkmlakaaGreat
/- Further rules by operation: numbers of other kinds, parts of arrays. No program stands in this text. -/
namespace Go.Proofs.YtmgkmammkmlakaaGreat
open Go.RowKit
set_option linter.unusedSimpArgs false
set_option linter.unusedSectionVars false
class IntK (P : Program) (T : TypeId) (k : outParam IntKind) : Prop where
  h : P.underlying T = some (.int k)
section
variable {P : Program} {L : List HP} {σ : Env} {d : Option Nat} {ty T T' : TypeId} {pos : String} {aft : Array Edge} {gd : Option (Nat × Bool)} {x y z : Operand} {v u : Value}
theorem ev_remK {k : IntKind} {p q : Nat} (hx : ev σ x = some (.int k (p : Int))) (hy : ev σ y = some (.int k (q : Int))) (hq : 0 < q) : Ev P L σ ⟨d, .binOp .rem T x y T', ty, pos, aft, gd⟩ (.int k ((p % q : Nat) : Int)) :=
  bin_run _ _ p q _ hx hy fun w => by
    have e : ((p : Int)).tmod (q : Int) = ((p % q : Nat) : Int) := by rw [Int.tmod_eq_emod_of_nonneg (by omega)]; rfl
    simp [binOp, Op.intDiv, show q ≠ 0 by omega, e]
theorem ev_convU {k : IntKind} {p : Nat} [H : IntK P T k] [H' : IntK P T' .i64] (hx : ev σ x = some (.int k (p : Int))) (hp : p ≤ 9223372036854775807) : Ev P L σ ⟨d, .convert T T' x, ty, pos, aft, gd⟩ (.int .i64 (p : Int)) := fun a w hs _ => by
  simp only [execOp, hs.eval hx]
  have ek : P.intKind T' = .i64 := by unfold Program.intKind; rw [H'.h]
  have e := run_convert_int (P := P) w T T' k (p : Int) (by rw [H.h]; rfl) (by rw [ek]; exact H'.h)
  have e2 : IntKind.wrap .i64 (p : Int) = p := IntWalk.i64_in _ (by omega)
  rw [ek, e2] at e
  simp only [Sem.run_bind, e, Result.andThen_ok, Sem.run_pure]
theorem ev_indexA {k : IntKind} {n sz i : Nat} {e : TypeId} {cs : List Value} [H : ArrT P T (n, e, sz)] [H1 : OneT P e] (hx : ev σ x = some (.agg cs.toArray)) (hy : ev σ y = some (.int k (i : Int))) (hi : i < n) (hv : cs[i * sz]? = some v) : Ev P L σ ⟨d, .index T x y, ty, pos, aft, gd⟩ v := fun a w hs _ => by
  obtain ⟨hu, ii, hie, hsz⟩ := H.spec
  simp only [execOp, hs.eval hx, hs.eval hy]
  have h9 : cs.toArray[i * sz]? = some v := by simpa using hv
  simp [Instr.index, run_underlying hu, asIntOf, hi, sizeOf, typeInfo, hie, hsz, part, (H1.run w).1, hv]
end
theorem bounds_u8 {n : Int} (h : (Lit.int .u8 n).wf = true) : ∃ m : Nat, n = m ∧ m ≤ 255 := by
  simp [Lit.wf, IntKind.min, IntKind.max, IntKind.signed, IntKind.bits] at h
  exact ⟨n.toNat, by omega, by omega⟩
end Go.Proofs.YtmgkmammkmlakaaGreat
/- Trees of cells: the walks of their nodes. -/
namespace Go.Proofs.YtmgkmammkmlakaaGreat
attribute [local irreducible] sat
set_option linter.unusedVariables false
set_option linter.unusedSimpArgs false
set_option maxRecDepth 100000

@[reducible] def sgC (f t : Nat) (A : Option Addr) (n c : Nat) (p q : Option Addr) : List Value := [.int .i64 (f : Nat), .int .i64 (t : Nat), .slice A n c, .pointer p, .pointer q]
def saH : SA → HP
  | .nil => fun _ => True
  | .node b f t A c l lo hi => fun h => sat [blk b 79 (sgC f t A l.length c lo.addr hi.addr), own 51 3 A l.length c (flat l), saH lo, saH hi] h
def AdOk (A : Option Addr) (c : Nat) (m : List Pt) : Prop := (0 < m.length → ∃ b, A = some ⟨b, 0, none⟩) ∧ m.length ≤ c
def SIn (L : List HP) : SA → Prop
  | .nil => True
  | .node b f t A c l lo hi => LdN L b 0 5 (sgC f t A l.length c lo.addr hi.addr) ∧ Rd L A l.length l ∧ SIn L lo ∧ SIn L hi
theorem SIn.skip {X : HP} {L : List HP} : ∀ {x : SA}, SIn L x → SIn (X :: L) x
  | .nil, _ => trivial
  | .node _ _ _ _ _ _ _ _, h => ⟨h.1.skip, h.2.1.skip, h.2.2.1.skip, h.2.2.2.skip⟩
theorem SIn.of {A : HP} {N L : List HP} (f : ∀ h, A h → sat N h) : ∀ {x : SA}, SIn N x → SIn (A :: L) x
  | .nil, _ => trivial
  | .node _ _ _ _ _ _ _ _, h => ⟨h.1.of' f, Rc.of' f h.2.1, h.2.2.1.of f, h.2.2.2.of f⟩
theorem saH_in : ∀ {x : SA}, (x.each fun _ _ A c m => AdOk A c m) → ∀ L, SIn (saH x :: L) x
  | .nil, _, L => trivial
  | .node b f t A c l lo hi, o, L => SIn.of (N := [blk b 79 (sgC f t A l.length c lo.addr hi.addr), own 51 3 A l.length c (flat l), saH lo, saH hi]) (fun _ h => h)
      ⟨LdN.blk rfl, Rd.skip (Rc.own (flat_length l) o.1.1), (saH_in o.2.1 _).skip.skip, (saH_in o.2.2 []).skip.skip.skip⟩
theorem en_sa {L M : List HP} {b f t c : Nat} {A : Option Addr} {l : List Pt} {lo hi : SA} {p q : Option Addr} (ep : lo.addr = p) (eq : hi.addr = q) (g : ∀ h, sat L h → sat (blk b 79 (sgC f t A l.length c p q) :: own 51 3 A l.length c (flat l) :: saH lo :: saH hi :: M) h) : ∀ h, sat L h → sat (saH (.node b f t A c l lo hi) :: M) h := fun h s => by
  subst ep eq
  exact sat.fold (N := [_, _, _, _]) (fun h q => q) (g h s)
section
variable {S : Type} {fid : FuncId} [CalT Tryz.prog fid] {c1 c2 : List Value} {x y : Nat} {C : S → List HP} {step : S → Nat → Nat → List Pt → S} {I : S → Nat → Prop} {wt : Nat → Nat → List Pt → Nat} {G9 : Option Addr → Nat → List Pt → Option Addr → Nat → List Pt → Prop} {P9 : Nat → Nat → Option Addr → Nat → List Pt → Prop}
theorem neach_ctr
    (hf : ∀ (s : S) (r b f t : Nat) (A : Option Addr) (c : Nat) (m : List Pt) (p q : Option Addr) (M : List HP), P9 f t A c m → I s (wt f t m + r) → Ctr Tryz.prog fid (c1 ++ [Value.pointer (some ⟨b, 0, none⟩)] ++ c2).toArray (C s ++ blk b 79 (sgC f t A m.length c p q) :: own 51 3 A m.length c (flat m) :: M) fun v L' => v = .tuple #[] ∧ ∃ A' c' m', (G9 A c m A' c' m' ∧ I (step s f t m) r) ∧ L' = C (step s f t m) ++ blk b 79 (sgC f t A' m'.length c' p q) :: own 51 3 A' m'.length c' (flat m') :: M) :
    ∀ (X : SA) (s : S) (r : Nat) (M : List HP), X.each P9 → I s (X.at_ x y wt + r) → Ctr Tryz.prog 104 #[.pointer X.addr, .int .i64 (x : Nat), .int .i64 (y : Nat), .func (.func fid) c1.toArray c2.toArray] ((fun h => sat (C s) h) :: saH X :: M) fun v L' => v = .tuple #[] ∧ ∃ Y, (Laid x y G9 X Y ∧ I (X.run x y step s) r) ∧ L' = (fun h => sat (C (X.run x y step s)) h) :: saH Y :: M := by
  intro X
  induction X with
  | nil =>
    intro s r M _ hI
    refine Ctr_of (fn := Tryz.f104) (n := 63) Tryz.func104 rfl rfl rfl ?_
    intro g F
    (repeat first | refine G_seq ?_ | refine G_skip ?_ | refine G_endblk ?_ | refine G_block ?_ | refine G_exit rfl ?_)
    (repeat first | refine G_seq ?_ | refine G_skip ?_ | refine G_endblk ?_ | refine G_block ?_ | refine G_exit rfl ?_)
    refine G_region ?_
    refine GO_q rfl rfl (ev_move rfl) ?_
    (first | refine GO_q rfl rfl (ev_eqlNil rfl rfl) ?_ | refine GO_q rfl rfl (ev_eqlPtr rfl rfl) ?_)
    refine GO_q rfl rfl (ev_move rfl) ?_
    refine GO_no rfl rfl rfl rfl ?_
    refine GO_no rfl rfl rfl rfl ?_
    refine GO_no rfl rfl rfl rfl ?_
    refine GO_no rfl rfl rfl rfl ?_
    refine GO_no rfl rfl rfl rfl ?_
    refine GO_no rfl rfl rfl rfl ?_
    refine GO_q rfl rfl (ev_pick_t rfl rfl rfl) ?_
    refine GO_q rfl rfl (ev_move rfl) ?_
    refine GO_no rfl rfl rfl rfl ?_
    refine GO_no rfl rfl rfl rfl ?_
    refine GO_no rfl rfl rfl rfl ?_
    refine GO_no rfl rfl rfl rfl ?_
    refine GO_no rfl rfl rfl rfl ?_
    refine GO_no rfl rfl rfl rfl ?_
    refine GO_q rfl rfl (ev_pick_t rfl rfl rfl) ?_
    refine GO_q rfl rfl (ev_assign rfl) ?_
    refine GO_nil ?_
    (repeat first | refine G_seq ?_ | refine G_skip ?_ | refine G_endblk ?_ | refine G_block ?_ | refine G_exit rfl ?_)
    refine G_cond_t rfl rfl ?_
    (repeat first | refine G_seq ?_ | refine G_skip ?_ | refine G_endblk ?_ | refine G_block ?_ | refine G_exit rfl ?_)
    exact G_end (rs := []) (vs := []) (L' := (fun h => sat (C s) h) :: saH .nil :: M) rfl .nil (by (repeat first | exact fun _ s => s | apply en_keep | apply en_drop | apply en_app) <;> fail) ⟨rfl, .nil, ⟨rfl, by simpa [SA.at_, SA.run] using hI⟩, rfl⟩
  | node b f t A c m lo hi ihl ihh =>
    intro s r M hP hI
    unfold SA.at_ at hI
    refine Ctr_of (fn := Tryz.f104) (n := 63) Tryz.func104 rfl rfl rfl ?_
    intro g F
    refine G_heap (L' := saH (.node b f t A c m lo hi) :: F :: (fun h => sat (C s) h) :: M) (by (repeat first | exact en_refl | (apply en_blk; focus ((repeat' first | exact Pick.here | apply Pick.skip | apply Pick.app); done); focus rfl) | (apply en_own; focus ((repeat' first | exact Pick.here | apply Pick.skip | apply Pick.app); done); focus rfl) | (apply en_pick; focus ((repeat' first | exact Pick.here | apply Pick.skip | apply Pick.app); done)) | apply en_drop | apply en_app) <;> fail) ?_
    refine G_open (ι := Unit) (F := fun _ => True) (N := fun _ => [blk b 79 (sgC f t A m.length c lo.addr hi.addr), own 51 3 A m.length c (flat m), saH lo, saH hi]) (fun h q => ⟨(), trivial, q⟩) fun _ _ => ?_
    show G _ _ _ _ _ _ (blk b 79 (sgC f t A m.length c lo.addr hi.addr) :: own 51 3 A m.length c (flat m) :: saH lo :: saH hi :: F :: (fun h => sat (C s) h) :: M)
    (repeat first | refine G_seq ?_ | refine G_skip ?_ | refine G_endblk ?_ | refine G_block ?_ | refine G_exit rfl ?_)
    by_cases h1 : y < f
    · rw [if_pos (.inl h1)] at hI
      (repeat first | refine G_seq ?_ | refine G_skip ?_ | refine G_endblk ?_ | refine G_block ?_ | refine G_exit rfl ?_)
      refine G_region ?_
      refine GO_q rfl rfl (ev_move rfl) ?_
      (first | refine GO_q rfl rfl (ev_eqlNil rfl rfl) ?_ | refine GO_q rfl rfl (ev_eqlPtr rfl rfl) ?_)
      refine GO_q rfl rfl (ev_move rfl) ?_
      refine GO_yes rfl rfl rfl rfl ?_
      refine GO_q rfl rfl (ev_move rfl) ?_
      refine GO_yes rfl rfl rfl rfl ?_
      refine GO_q rfl rfl (ev_move rfl) ?_
      refine GO_yes rfl rfl rfl rfl ?_
      (first | refine GO_q rfl rfl (ev_nilCheck rfl) ?_ | refine GO_q rfl rfl (ev_nilCheckF (by simp) rfl) ?_)
      refine GO_yes rfl rfl rfl rfl ?_
      refine GO_q rfl rfl (ev_fieldAddr rfl) ?_
      refine GO_yes rfl rfl rfl rfl ?_
      refine GO_q rfl rfl (ev_load rfl (by repeat' first | exact Ld.blk rfl | assumption | apply Ld.skip | apply Ld.app)) ?_
      refine GO_yes rfl rfl rfl rfl ?_
      (first | refine GO_q rfl rfl (ev_lssN rfl rfl) ?_ | refine GO_q rfl rfl (ev_lss rfl rfl) ?_)
      refine GO_q rfl rfl (ev_pick_f rfl rfl rfl) ?_
      refine GO_q rfl rfl (ev_move rfl) ?_
      refine GO_no rfl rfl rfl (decide_eq_true h1) ?_
      refine GO_no rfl rfl rfl (decide_eq_true h1) ?_
      refine GO_no rfl rfl rfl (decide_eq_true h1) ?_
      refine GO_no rfl rfl rfl (decide_eq_true h1) ?_
      refine GO_no rfl rfl rfl (decide_eq_true h1) ?_
      refine GO_no rfl rfl rfl (decide_eq_true h1) ?_
      refine GO_q rfl rfl (ev_pick_t rfl (decide_eq_true h1) rfl) ?_
      refine GO_q rfl rfl (ev_assign rfl) ?_
      refine GO_nil ?_
      (repeat first | refine G_seq ?_ | refine G_skip ?_ | refine G_endblk ?_ | refine G_block ?_ | refine G_exit rfl ?_)
      refine G_cond_t rfl rfl ?_
      (repeat first | refine G_seq ?_ | refine G_skip ?_ | refine G_endblk ?_ | refine G_block ?_ | refine G_exit rfl ?_)
      exact G_end (rs := []) (vs := []) (L' := (fun h => sat (C s) h) :: saH (.node b f t A c m lo hi) :: M) rfl .nil (by (repeat first | exact en_refl | apply en_sa rfl rfl | (apply en_blk; focus ((repeat' first | exact Pick.here | apply Pick.skip | apply Pick.app); done); focus rfl) | (apply en_own; focus ((repeat' first | exact Pick.here | apply Pick.skip | apply Pick.app); done); focus rfl) | (apply en_pick; focus ((repeat' first | exact Pick.here | apply Pick.skip | apply Pick.app); done)) | apply en_drop | apply en_app) <;> fail) ⟨rfl, .node b f t A c m lo hi, ⟨by unfold Laid; rw [if_pos (.inl h1)], by rw [run_off (.inl h1)]; simpa using hI⟩, by rw [run_off (.inl h1)]⟩
    · by_cases h2 : t < x
      · rw [if_pos (.inr h2)] at hI
        (repeat first | refine G_seq ?_ | refine G_skip ?_ | refine G_endblk ?_ | refine G_block ?_ | refine G_exit rfl ?_)
        refine G_region ?_
        refine GO_q rfl rfl (ev_move rfl) ?_
        (first | refine GO_q rfl rfl (ev_eqlNil rfl rfl) ?_ | refine GO_q rfl rfl (ev_eqlPtr rfl rfl) ?_)
        refine GO_q rfl rfl (ev_move rfl) ?_
        refine GO_yes rfl rfl rfl rfl ?_
        refine GO_q rfl rfl (ev_move rfl) ?_
        refine GO_yes rfl rfl rfl rfl ?_
        refine GO_q rfl rfl (ev_move rfl) ?_
        refine GO_yes rfl rfl rfl rfl ?_
        (first | refine GO_q rfl rfl (ev_nilCheck rfl) ?_ | refine GO_q rfl rfl (ev_nilCheckF (by simp) rfl) ?_)
        refine GO_yes rfl rfl rfl rfl ?_
        refine GO_q rfl rfl (ev_fieldAddr rfl) ?_
        refine GO_yes rfl rfl rfl rfl ?_
        refine GO_q rfl rfl (ev_load rfl (by repeat' first | exact Ld.blk rfl | assumption | apply Ld.skip | apply Ld.app)) ?_
        refine GO_yes rfl rfl rfl rfl ?_
        (first | refine GO_q rfl rfl (ev_lssN rfl rfl) ?_ | refine GO_q rfl rfl (ev_lss rfl rfl) ?_)
        refine GO_q rfl rfl (ev_pick_f rfl rfl rfl) ?_
        refine GO_q rfl rfl (ev_move rfl) ?_
        refine GO_yes rfl rfl rfl (decide_eq_false h1) ?_
        refine GO_q rfl rfl (ev_move rfl) ?_
        refine GO_yes rfl rfl rfl (decide_eq_false h1) ?_
        (first | refine GO_q rfl rfl (ev_nilCheck rfl) ?_ | refine GO_q rfl rfl (ev_nilCheckF (by simp) rfl) ?_)
        refine GO_yes rfl rfl rfl (decide_eq_false h1) ?_
        refine GO_q rfl rfl (ev_fieldAddr rfl) ?_
        refine GO_yes rfl rfl rfl (decide_eq_false h1) ?_
        refine GO_q rfl rfl (ev_load rfl (by repeat' first | exact Ld.blk rfl | assumption | apply Ld.skip | apply Ld.app)) ?_
        refine GO_yes rfl rfl rfl (decide_eq_false h1) ?_
        refine GO_q rfl rfl (ev_move rfl) ?_
        refine GO_yes rfl rfl rfl (decide_eq_false h1) ?_
        (first | refine GO_q rfl rfl (ev_lssN rfl rfl) ?_ | refine GO_q rfl rfl (ev_lss rfl rfl) ?_)
        refine GO_q rfl rfl (ev_pick_f rfl (decide_eq_false h1) rfl) ?_
        refine GO_q rfl rfl (ev_assign rfl) ?_
        refine GO_nil ?_
        (repeat first | refine G_seq ?_ | refine G_skip ?_ | refine G_endblk ?_ | refine G_block ?_ | refine G_exit rfl ?_)
        refine G_cond_t rfl (decide_eq_true h2) ?_
        (repeat first | refine G_seq ?_ | refine G_skip ?_ | refine G_endblk ?_ | refine G_block ?_ | refine G_exit rfl ?_)
        exact G_end (rs := []) (vs := []) (L' := (fun h => sat (C s) h) :: saH (.node b f t A c m lo hi) :: M) rfl .nil (by (repeat first | exact en_refl | apply en_sa rfl rfl | (apply en_blk; focus ((repeat' first | exact Pick.here | apply Pick.skip | apply Pick.app); done); focus rfl) | (apply en_own; focus ((repeat' first | exact Pick.here | apply Pick.skip | apply Pick.app); done); focus rfl) | (apply en_pick; focus ((repeat' first | exact Pick.here | apply Pick.skip | apply Pick.app); done)) | apply en_drop | apply en_app) <;> fail) ⟨rfl, .node b f t A c m lo hi, ⟨by unfold Laid; rw [if_pos (.inr h2)], by rw [run_off (.inr h2)]; simpa using hI⟩, by rw [run_off (.inr h2)]⟩
      · have h12 : ¬ (y < f ∨ t < x) := by omega
        rw [if_neg h12] at hI
        (repeat first | refine G_seq ?_ | refine G_skip ?_ | refine G_endblk ?_ | refine G_block ?_ | refine G_exit rfl ?_)
        refine G_region ?_
        refine GO_q rfl rfl (ev_move rfl) ?_
        (first | refine GO_q rfl rfl (ev_eqlNil rfl rfl) ?_ | refine GO_q rfl rfl (ev_eqlPtr rfl rfl) ?_)
        refine GO_q rfl rfl (ev_move rfl) ?_
        refine GO_yes rfl rfl rfl rfl ?_
        refine GO_q rfl rfl (ev_move rfl) ?_
        refine GO_yes rfl rfl rfl rfl ?_
        refine GO_q rfl rfl (ev_move rfl) ?_
        refine GO_yes rfl rfl rfl rfl ?_
        (first | refine GO_q rfl rfl (ev_nilCheck rfl) ?_ | refine GO_q rfl rfl (ev_nilCheckF (by simp) rfl) ?_)
        refine GO_yes rfl rfl rfl rfl ?_
        refine GO_q rfl rfl (ev_fieldAddr rfl) ?_
        refine GO_yes rfl rfl rfl rfl ?_
        refine GO_q rfl rfl (ev_load rfl (by repeat' first | exact Ld.blk rfl | assumption | apply Ld.skip | apply Ld.app)) ?_
        refine GO_yes rfl rfl rfl rfl ?_
        (first | refine GO_q rfl rfl (ev_lssN rfl rfl) ?_ | refine GO_q rfl rfl (ev_lss rfl rfl) ?_)
        refine GO_q rfl rfl (ev_pick_f rfl rfl rfl) ?_
        refine GO_q rfl rfl (ev_move rfl) ?_
        refine GO_yes rfl rfl rfl (decide_eq_false h1) ?_
        refine GO_q rfl rfl (ev_move rfl) ?_
        refine GO_yes rfl rfl rfl (decide_eq_false h1) ?_
        (first | refine GO_q rfl rfl (ev_nilCheck rfl) ?_ | refine GO_q rfl rfl (ev_nilCheckF (by simp) rfl) ?_)
        refine GO_yes rfl rfl rfl (decide_eq_false h1) ?_
        refine GO_q rfl rfl (ev_fieldAddr rfl) ?_
        refine GO_yes rfl rfl rfl (decide_eq_false h1) ?_
        refine GO_q rfl rfl (ev_load rfl (by repeat' first | exact Ld.blk rfl | assumption | apply Ld.skip | apply Ld.app)) ?_
        refine GO_yes rfl rfl rfl (decide_eq_false h1) ?_
        refine GO_q rfl rfl (ev_move rfl) ?_
        refine GO_yes rfl rfl rfl (decide_eq_false h1) ?_
        (first | refine GO_q rfl rfl (ev_lssN rfl rfl) ?_ | refine GO_q rfl rfl (ev_lss rfl rfl) ?_)
        refine GO_q rfl rfl (ev_pick_f rfl (decide_eq_false h1) rfl) ?_
        refine GO_q rfl rfl (ev_assign rfl) ?_
        refine GO_nil ?_
        (repeat first | refine G_seq ?_ | refine G_skip ?_ | refine G_endblk ?_ | refine G_block ?_ | refine G_exit rfl ?_)
        refine G_cond_f rfl (decide_eq_false h2) ?_
        by_cases h3 : x ≤ f ∧ t ≤ y
        · rw [if_pos h3] at hI
          (repeat first | refine G_seq ?_ | refine G_skip ?_ | refine G_endblk ?_ | refine G_block ?_ | refine G_exit rfl ?_)
          refine G_region ?_
          refine GO_q rfl rfl (ev_move rfl) ?_
          refine GO_q rfl rfl (ev_move rfl) ?_
          (first | refine GO_q rfl rfl (ev_nilCheck rfl) ?_ | refine GO_q rfl rfl (ev_nilCheckF (by simp) rfl) ?_)
          refine GO_q rfl rfl (ev_fieldAddr rfl) ?_
          refine GO_q rfl rfl (ev_load rfl (by repeat' first | exact Ld.blk rfl | assumption | apply Ld.skip | apply Ld.app)) ?_
          refine GO_q rfl rfl (ev_leq rfl rfl) ?_
          refine GO_q rfl rfl (ev_move rfl) ?_
          refine GO_yes rfl rfl rfl (decide_eq_true (by omega)) ?_
          refine GO_q rfl rfl (ev_move rfl) ?_
          refine GO_yes rfl rfl rfl (decide_eq_true (by omega)) ?_
          (first | refine GO_q rfl rfl (ev_nilCheck rfl) ?_ | refine GO_q rfl rfl (ev_nilCheckF (by simp) rfl) ?_)
          refine GO_yes rfl rfl rfl (decide_eq_true (by omega)) ?_
          refine GO_q rfl rfl (ev_fieldAddr rfl) ?_
          refine GO_yes rfl rfl rfl (decide_eq_true (by omega)) ?_
          refine GO_q rfl rfl (ev_load rfl (by repeat' first | exact Ld.blk rfl | assumption | apply Ld.skip | apply Ld.app)) ?_
          refine GO_yes rfl rfl rfl (decide_eq_true (by omega)) ?_
          refine GO_q rfl rfl (ev_move rfl) ?_
          refine GO_yes rfl rfl rfl (decide_eq_true (by omega)) ?_
          refine GO_q rfl rfl (ev_leq rfl rfl) ?_
          refine GO_q rfl rfl (ev_pick_t rfl (decide_eq_true (by omega)) rfl) ?_
          refine GO_q rfl rfl (ev_assign rfl) ?_
          refine GO_nil ?_
          (repeat first | refine G_seq ?_ | refine G_skip ?_ | refine G_endblk ?_ | refine G_block ?_ | refine G_exit rfl ?_)
          refine G_cond_t rfl (decide_eq_true (by omega)) ?_
          have hc := fun M => hf s r b f t A c m lo.addr hi.addr M hP.1 hI
          (repeat first | refine G_seq ?_ | refine G_skip ?_ | refine G_endblk ?_ | refine G_block ?_ | refine G_exit rfl ?_)
          refine G_region ?_
          refine GO_q rfl rfl (ev_move rfl) ?_
          refine GO_q rfl rfl (ev_move rfl) ?_
          refine GO_eff rfl rfl (eff_callv rfl rfl (Ctr.pre (M := C s ++ blk b 79 (sgC f t A m.length c lo.addr hi.addr) :: own 51 3 A m.length c (flat m) :: saH lo :: saH hi :: F :: M) (fun h q => sat.part ((show ∀ h, sat _ h → sat ((fun h => sat (C s) h) :: blk b 79 (sgC f t A m.length c lo.addr hi.addr) :: own 51 3 A m.length c (flat m) :: saH lo :: saH hi :: F :: M) h from (by (repeat first | exact en_refl | (apply en_blk; focus ((repeat' first | exact Pick.here | apply Pick.skip | apply Pick.app); done); focus rfl) | (apply en_own; focus ((repeat' first | exact Pick.here | apply Pick.skip | apply Pick.app); done); focus rfl) | (apply en_pick; focus ((repeat' first | exact Pick.here | apply Pick.skip | apply Pick.app); done)) | apply en_drop | apply en_app) <;> fail)) h q)) (hc _))) ?_; rintro _ _ ⟨rfl, A', c', m', ⟨hg, hI'⟩, rfl⟩
          refine GO_nil ?_
          refine G_heap (fun _ q => sat.join q) ?_
          (repeat first | refine G_seq ?_ | refine G_skip ?_ | refine G_endblk ?_ | refine G_block ?_ | refine G_exit rfl ?_)
          exact G_end (rs := []) (vs := []) (L' := (fun h => sat (C (step s f t m)) h) :: saH (.node b f t A' c' m' lo hi) :: M) rfl .nil (by (repeat first | exact en_refl | apply en_sa rfl rfl | (apply en_blk; focus ((repeat' first | exact Pick.here | apply Pick.skip | apply Pick.app); done); focus rfl) | (apply en_own; focus ((repeat' first | exact Pick.here | apply Pick.skip | apply Pick.app); done); focus rfl) | (apply en_pick; focus ((repeat' first | exact Pick.here | apply Pick.skip | apply Pick.app); done)) | apply en_drop | apply en_app) <;> fail) ⟨rfl, .node b f t A' c' m' lo hi, ⟨by unfold Laid; rw [if_neg h12, if_pos h3]; exact ⟨A', c', m', hg, rfl⟩, by rw [run_in h12 h3]; exact hI'⟩, by rw [run_in h12 h3]⟩
        · rw [if_neg h3] at hI
          have hcond : (if x ≤ f then decide (t ≤ y) else false) = false := by
            split
            · exact decide_eq_false (by omega)
            · rfl
          have c3 := fun M => ihl s (hi.at_ x y wt + r) M hP.2.1 (by rw [← Nat.add_assoc]; exact hI)
          rcases Nat.lt_or_ge f x with h4 | h4
          · (repeat first | refine G_seq ?_ | refine G_skip ?_ | refine G_endblk ?_ | refine G_block ?_ | refine G_exit rfl ?_)
            refine G_region ?_
            refine GO_q rfl rfl (ev_move rfl) ?_
            refine GO_q rfl rfl (ev_move rfl) ?_
            (first | refine GO_q rfl rfl (ev_nilCheck rfl) ?_ | refine GO_q rfl rfl (ev_nilCheckF (by simp) rfl) ?_)
            refine GO_q rfl rfl (ev_fieldAddr rfl) ?_
            refine GO_q rfl rfl (ev_load rfl (by repeat' first | exact Ld.blk rfl | assumption | apply Ld.skip | apply Ld.app)) ?_
            refine GO_q rfl rfl (ev_leq rfl rfl) ?_
            refine GO_q rfl rfl (ev_move rfl) ?_
            refine GO_no rfl rfl rfl (decide_eq_false (by omega)) ?_
            refine GO_no rfl rfl rfl (decide_eq_false (by omega)) ?_
            refine GO_no rfl rfl rfl (decide_eq_false (by omega)) ?_
            refine GO_no rfl rfl rfl (decide_eq_false (by omega)) ?_
            refine GO_no rfl rfl rfl (decide_eq_false (by omega)) ?_
            refine GO_no rfl rfl rfl (decide_eq_false (by omega)) ?_
            refine GO_q rfl rfl (ev_pick_f rfl (decide_eq_false (by omega)) rfl) ?_
            refine GO_q rfl rfl (ev_assign rfl) ?_
            refine GO_nil ?_
            (repeat first | refine G_seq ?_ | refine G_skip ?_ | refine G_endblk ?_ | refine G_block ?_ | refine G_exit rfl ?_)
            refine G_cond_f rfl rfl ?_
            (repeat first | refine G_seq ?_ | refine G_skip ?_ | refine G_endblk ?_ | refine G_block ?_ | refine G_exit rfl ?_)
            refine G_region ?_
            refine GO_q rfl rfl (ev_move rfl) ?_
            (first | refine GO_q rfl rfl (ev_nilCheck rfl) ?_ | refine GO_q rfl rfl (ev_nilCheckF (by simp) rfl) ?_)
            refine GO_q rfl rfl (ev_fieldAddr rfl) ?_
            refine GO_q rfl rfl (ev_indexAddrA rfl rfl (by first | omega | (simp; done) | (simp; omega)) (by first | omega | (simp; done) | (simp; omega))) ?_
            refine GO_q rfl rfl (ev_load rfl (by repeat' first | exact Ld.blk rfl | assumption | apply Ld.skip | apply Ld.app)) ?_
            refine GO_q rfl rfl (ev_move rfl) ?_
            refine GO_q rfl rfl (ev_move rfl) ?_
            refine GO_q rfl rfl (ev_move rfl) ?_
            refine GO_eff rfl rfl (eff_call rfl (Ctr.pre (M := (fun h => sat (C s) h) :: saH lo :: blk b 79 (sgC f t A m.length c lo.addr hi.addr) :: own 51 3 A m.length c (flat m) :: saH hi :: F :: M) (by (repeat first | exact en_refl | (apply en_blk; focus ((repeat' first | exact Pick.here | apply Pick.skip | apply Pick.app); done); focus rfl) | (apply en_own; focus ((repeat' first | exact Pick.here | apply Pick.skip | apply Pick.app); done); focus rfl) | (apply en_pick; focus ((repeat' first | exact Pick.here | apply Pick.skip | apply Pick.app); done)) | apply en_drop | apply en_app) <;> fail) (c3 _))) ?_; rintro _ _ ⟨rfl, lo', ⟨hl1, hI1⟩, rfl⟩
            refine GO_nil ?_
            have c4 := fun M => ihh _ r M hP.2.2 hI1
            (repeat first | refine G_seq ?_ | refine G_skip ?_ | refine G_endblk ?_ | refine G_block ?_ | refine G_exit rfl ?_)
            refine G_region ?_
            refine GO_q rfl rfl (ev_move rfl) ?_
            (first | refine GO_q rfl rfl (ev_nilCheck rfl) ?_ | refine GO_q rfl rfl (ev_nilCheckF (by simp) rfl) ?_)
            refine GO_q rfl rfl (ev_fieldAddr rfl) ?_
            refine GO_q rfl rfl (ev_indexAddrA rfl rfl (by first | omega | (simp; done) | (simp; omega)) (by first | omega | (simp; done) | (simp; omega))) ?_
            refine GO_q rfl rfl (ev_load rfl (by repeat' first | exact Ld.blk rfl | assumption | apply Ld.skip | apply Ld.app)) ?_
            refine GO_q rfl rfl (ev_move rfl) ?_
            refine GO_q rfl rfl (ev_move rfl) ?_
            refine GO_q rfl rfl (ev_move rfl) ?_
            refine GO_eff rfl rfl (eff_call rfl (Ctr.pre (M := (fun h => sat (C (lo.run x y step s)) h) :: saH hi :: saH lo' :: blk b 79 (sgC f t A m.length c lo.addr hi.addr) :: own 51 3 A m.length c (flat m) :: F :: M) (by (repeat first | exact en_refl | (apply en_blk; focus ((repeat' first | exact Pick.here | apply Pick.skip | apply Pick.app); done); focus rfl) | (apply en_own; focus ((repeat' first | exact Pick.here | apply Pick.skip | apply Pick.app); done); focus rfl) | (apply en_pick; focus ((repeat' first | exact Pick.here | apply Pick.skip | apply Pick.app); done)) | apply en_drop | apply en_app) <;> fail) (c4 _))) ?_; rintro _ _ ⟨rfl, hi', ⟨hl2, hI2⟩, rfl⟩
            refine GO_nil ?_
            (repeat first | refine G_seq ?_ | refine G_skip ?_ | refine G_endblk ?_ | refine G_block ?_ | refine G_exit rfl ?_)
            exact G_end (rs := []) (vs := []) (L' := (fun h => sat (C (hi.run x y step (lo.run x y step s))) h) :: saH (.node b f t A c m lo' hi') :: M) rfl .nil (by (repeat first | exact en_refl | apply en_sa hl1.addr hl2.addr | (apply en_blk; focus ((repeat' first | exact Pick.here | apply Pick.skip | apply Pick.app); done); focus rfl) | (apply en_own; focus ((repeat' first | exact Pick.here | apply Pick.skip | apply Pick.app); done); focus rfl) | (apply en_pick; focus ((repeat' first | exact Pick.here | apply Pick.skip | apply Pick.app); done)) | apply en_drop | apply en_app) <;> fail) ⟨rfl, .node b f t A c m lo' hi', ⟨by unfold Laid; rw [if_neg h12, if_neg h3]; exact ⟨lo', hi', hl1, hl2, rfl⟩, by rw [run_go h12 h3]; exact hI2⟩, by rw [run_go h12 h3]⟩
          · (repeat first | refine G_seq ?_ | refine G_skip ?_ | refine G_endblk ?_ | refine G_block ?_ | refine G_exit rfl ?_)
            refine G_region ?_
            refine GO_q rfl rfl (ev_move rfl) ?_
            refine GO_q rfl rfl (ev_move rfl) ?_
            (first | refine GO_q rfl rfl (ev_nilCheck rfl) ?_ | refine GO_q rfl rfl (ev_nilCheckF (by simp) rfl) ?_)
            refine GO_q rfl rfl (ev_fieldAddr rfl) ?_
            refine GO_q rfl rfl (ev_load rfl (by repeat' first | exact Ld.blk rfl | assumption | apply Ld.skip | apply Ld.app)) ?_
            refine GO_q rfl rfl (ev_leq rfl rfl) ?_
            refine GO_q rfl rfl (ev_move rfl) ?_
            refine GO_yes rfl rfl rfl (decide_eq_true (by omega)) ?_
            refine GO_q rfl rfl (ev_move rfl) ?_
            refine GO_yes rfl rfl rfl (decide_eq_true (by omega)) ?_
            (first | refine GO_q rfl rfl (ev_nilCheck rfl) ?_ | refine GO_q rfl rfl (ev_nilCheckF (by simp) rfl) ?_)
            refine GO_yes rfl rfl rfl (decide_eq_true (by omega)) ?_
            refine GO_q rfl rfl (ev_fieldAddr rfl) ?_
            refine GO_yes rfl rfl rfl (decide_eq_true (by omega)) ?_
            refine GO_q rfl rfl (ev_load rfl (by repeat' first | exact Ld.blk rfl | assumption | apply Ld.skip | apply Ld.app)) ?_
            refine GO_yes rfl rfl rfl (decide_eq_true (by omega)) ?_
            refine GO_q rfl rfl (ev_move rfl) ?_
            refine GO_yes rfl rfl rfl (decide_eq_true (by omega)) ?_
            refine GO_q rfl rfl (ev_leq rfl rfl) ?_
            refine GO_q rfl rfl (ev_pick_t rfl (decide_eq_true (by omega)) rfl) ?_
            refine GO_q rfl rfl (ev_assign rfl) ?_
            refine GO_nil ?_
            (repeat first | refine G_seq ?_ | refine G_skip ?_ | refine G_endblk ?_ | refine G_block ?_ | refine G_exit rfl ?_)
            refine G_cond_f rfl (decide_eq_false (by omega)) ?_
            (repeat first | refine G_seq ?_ | refine G_skip ?_ | refine G_endblk ?_ | refine G_block ?_ | refine G_exit rfl ?_)
            refine G_region ?_
            refine GO_q rfl rfl (ev_move rfl) ?_
            (first | refine GO_q rfl rfl (ev_nilCheck rfl) ?_ | refine GO_q rfl rfl (ev_nilCheckF (by simp) rfl) ?_)
            refine GO_q rfl rfl (ev_fieldAddr rfl) ?_
            refine GO_q rfl rfl (ev_indexAddrA rfl rfl (by first | omega | (simp; done) | (simp; omega)) (by first | omega | (simp; done) | (simp; omega))) ?_
            refine GO_q rfl rfl (ev_load rfl (by repeat' first | exact Ld.blk rfl | assumption | apply Ld.skip | apply Ld.app)) ?_
            refine GO_q rfl rfl (ev_move rfl) ?_
            refine GO_q rfl rfl (ev_move rfl) ?_
            refine GO_q rfl rfl (ev_move rfl) ?_
            refine GO_eff rfl rfl (eff_call rfl (Ctr.pre (M := (fun h => sat (C s) h) :: saH lo :: blk b 79 (sgC f t A m.length c lo.addr hi.addr) :: own 51 3 A m.length c (flat m) :: saH hi :: F :: M) (by (repeat first | exact en_refl | (apply en_blk; focus ((repeat' first | exact Pick.here | apply Pick.skip | apply Pick.app); done); focus rfl) | (apply en_own; focus ((repeat' first | exact Pick.here | apply Pick.skip | apply Pick.app); done); focus rfl) | (apply en_pick; focus ((repeat' first | exact Pick.here | apply Pick.skip | apply Pick.app); done)) | apply en_drop | apply en_app) <;> fail) (c3 _))) ?_; rintro _ _ ⟨rfl, lo', ⟨hl1, hI1⟩, rfl⟩
            refine GO_nil ?_
            have c4 := fun M => ihh _ r M hP.2.2 hI1
            (repeat first | refine G_seq ?_ | refine G_skip ?_ | refine G_endblk ?_ | refine G_block ?_ | refine G_exit rfl ?_)
            refine G_region ?_
            refine GO_q rfl rfl (ev_move rfl) ?_
            (first | refine GO_q rfl rfl (ev_nilCheck rfl) ?_ | refine GO_q rfl rfl (ev_nilCheckF (by simp) rfl) ?_)
            refine GO_q rfl rfl (ev_fieldAddr rfl) ?_
            refine GO_q rfl rfl (ev_indexAddrA rfl rfl (by first | omega | (simp; done) | (simp; omega)) (by first | omega | (simp; done) | (simp; omega))) ?_
            refine GO_q rfl rfl (ev_load rfl (by repeat' first | exact Ld.blk rfl | assumption | apply Ld.skip | apply Ld.app)) ?_
            refine GO_q rfl rfl (ev_move rfl) ?_
            refine GO_q rfl rfl (ev_move rfl) ?_
            refine GO_q rfl rfl (ev_move rfl) ?_
            refine GO_eff rfl rfl (eff_call rfl (Ctr.pre (M := (fun h => sat (C (lo.run x y step s)) h) :: saH hi :: saH lo' :: blk b 79 (sgC f t A m.length c lo.addr hi.addr) :: own 51 3 A m.length c (flat m) :: F :: M) (by (repeat first | exact en_refl | (apply en_blk; focus ((repeat' first | exact Pick.here | apply Pick.skip | apply Pick.app); done); focus rfl) | (apply en_own; focus ((repeat' first | exact Pick.here | apply Pick.skip | apply Pick.app); done); focus rfl) | (apply en_pick; focus ((repeat' first | exact Pick.here | apply Pick.skip | apply Pick.app); done)) | apply en_drop | apply en_app) <;> fail) (c4 _))) ?_; rintro _ _ ⟨rfl, hi', ⟨hl2, hI2⟩, rfl⟩
            refine GO_nil ?_
            (repeat first | refine G_seq ?_ | refine G_skip ?_ | refine G_endblk ?_ | refine G_block ?_ | refine G_exit rfl ?_)
            exact G_end (rs := []) (vs := []) (L' := (fun h => sat (C (hi.run x y step (lo.run x y step s))) h) :: saH (.node b f t A c m lo' hi') :: M) rfl .nil (by (repeat first | exact en_refl | apply en_sa hl1.addr hl2.addr | (apply en_blk; focus ((repeat' first | exact Pick.here | apply Pick.skip | apply Pick.app); done); focus rfl) | (apply en_own; focus ((repeat' first | exact Pick.here | apply Pick.skip | apply Pick.app); done); focus rfl) | (apply en_pick; focus ((repeat' first | exact Pick.here | apply Pick.skip | apply Pick.app); done)) | apply en_drop | apply en_app) <;> fail) ⟨rfl, .node b f t A c m lo' hi', ⟨by unfold Laid; rw [if_neg h12, if_neg h3]; exact ⟨lo', hi', hl1, hl2, rfl⟩, by rw [run_go h12 h3]; exact hI2⟩, by rw [run_go h12 h3]⟩
end
end Go.Proofs.YtmgkmammkmlakaaGreat
/- Trees of cells: looking at nodes. -/
namespace Go.Proofs.YtmgkmammkmlakaaGreat
attribute [local irreducible] sat
set_option linter.unusedVariables false
set_option linter.unusedSimpArgs false
set_option maxRecDepth 100000

theorem LdN.sub' {L : List HP} {b o n : Nat} {vs ws : List Value} (h : LdN L b o n vs) (k m : Nat) (e : takeE (dropE vs k) m = some ws) : LdN L b (o + k) m ws :=
  ⟨(takeE_get e).1, fun j v hj => by
    have h1 := (takeE_get e).2 j v hj
    rw [dropE_eq, List.getElem?_drop] at h1
    rw [Nat.add_assoc]
    exact h.2 _ _ h1⟩
def SA.hasc (c : Nat) : SA → Bool
  | .nil => false
  | .node _ f t _ _ _ _ _ => decide (f ≤ c ∧ c ≤ t)
def SA.lst : SA → List Pt
  | .nil => []
  | .node _ _ _ _ _ l _ _ => l
def SA.nxt (c : Nat) : SA → SA
  | .nil => .nil
  | .node _ _ _ _ _ _ lo hi => if hi.hasc c then hi else if lo.hasc c then lo else .nil
def idsOf (l : List Pt) : List Int := l.map (·.id)
theorem nhas_ctr (X : SA) (c : Nat) (L : List HP) (h : SIn L X) : Ctr Tryz.prog 85 #[.pointer X.addr, .int .i64 (c : Nat)] L fun v L' => v = .bool (X.hasc c) ∧ L' = L := by
  cases X with
  | nil =>
    refine Ctr_of (fn := Tryz.f85) (n := 23) Tryz.func85 rfl rfl rfl ?_
    intro g F
    (repeat first | refine G_seq ?_ | refine G_skip ?_ | refine G_endblk ?_ | refine G_block ?_ | refine G_exit rfl ?_)
    refine G_region ?_
    refine GO_q rfl rfl (ev_assign rfl) ?_
    refine GO_nil ?_
    (repeat first | refine G_seq ?_ | refine G_skip ?_ | refine G_endblk ?_ | refine G_block ?_ | refine G_exit rfl ?_)
    refine G_region ?_
    refine GO_q rfl rfl (ev_move rfl) ?_
    (first | refine GO_q rfl rfl (ev_neqNil rfl rfl) ?_ | refine GO_q rfl rfl (ev_neqPtr rfl rfl) ?_)
    refine GO_q rfl rfl (ev_move rfl) ?_
    refine GO_no rfl rfl rfl rfl ?_
    refine GO_no rfl rfl rfl rfl ?_
    refine GO_no rfl rfl rfl rfl ?_
    refine GO_no rfl rfl rfl rfl ?_
    refine GO_no rfl rfl rfl rfl ?_
    refine GO_no rfl rfl rfl rfl ?_
    refine GO_q rfl rfl (ev_pick_f rfl rfl rfl) ?_
    refine GO_q rfl rfl (ev_move rfl) ?_
    refine GO_no rfl rfl rfl rfl ?_
    refine GO_no rfl rfl rfl rfl ?_
    refine GO_no rfl rfl rfl rfl ?_
    refine GO_no rfl rfl rfl rfl ?_
    refine GO_no rfl rfl rfl rfl ?_
    refine GO_no rfl rfl rfl rfl ?_
    refine GO_q rfl rfl (ev_pick_f rfl rfl rfl) ?_
    refine GO_q rfl rfl (ev_assign rfl) ?_
    refine GO_nil ?_
    (repeat first | refine G_seq ?_ | refine G_skip ?_ | refine G_endblk ?_ | refine G_block ?_ | refine G_exit rfl ?_)
    refine G_ret rfl (.tmp rfl .nil) (by (repeat first | exact fun _ s => s | apply en_keep | apply en_drop | apply en_app) <;> fail) ⟨rfl, rfl⟩
  | node b f t A d m lo hi =>
    have h0 : Ld L ⟨b, 0 + 0, none⟩ (.int .i64 (f : Nat)) := h.1.at_ (i := 0) rfl
    have h1 : Ld L ⟨b, 0 + 1, none⟩ (.int .i64 (t : Nat)) := h.1.at_ (i := 1) rfl
    rcases Nat.lt_or_ge c f with c1 | c1
    · skip
      refine Ctr_of (fn := Tryz.f85) (n := 23) Tryz.func85 rfl rfl rfl ?_
      intro g F
      (repeat first | refine G_seq ?_ | refine G_skip ?_ | refine G_endblk ?_ | refine G_block ?_ | refine G_exit rfl ?_)
      refine G_region ?_
      refine GO_q rfl rfl (ev_assign rfl) ?_
      refine GO_nil ?_
      (repeat first | refine G_seq ?_ | refine G_skip ?_ | refine G_endblk ?_ | refine G_block ?_ | refine G_exit rfl ?_)
      refine G_region ?_
      refine GO_q rfl rfl (ev_move rfl) ?_
      (first | refine GO_q rfl rfl (ev_neqNil rfl rfl) ?_ | refine GO_q rfl rfl (ev_neqPtr rfl rfl) ?_)
      refine GO_q rfl rfl (ev_move rfl) ?_
      refine GO_yes rfl rfl rfl rfl ?_
      refine GO_q rfl rfl (ev_move rfl) ?_
      refine GO_yes rfl rfl rfl rfl ?_
      (first | refine GO_q rfl rfl (ev_nilCheck rfl) ?_ | refine GO_q rfl rfl (ev_nilCheckF (by simp) rfl) ?_)
      refine GO_yes rfl rfl rfl rfl ?_
      refine GO_q rfl rfl (ev_fieldAddr rfl) ?_
      refine GO_yes rfl rfl rfl rfl ?_
      refine GO_q rfl rfl (ev_load rfl (by repeat' first | exact Ld.blk rfl | assumption | apply Ld.skip | apply Ld.app)) ?_
      refine GO_yes rfl rfl rfl rfl ?_
      refine GO_q rfl rfl (ev_move rfl) ?_
      refine GO_yes rfl rfl rfl rfl ?_
      refine GO_q rfl rfl (ev_leq rfl rfl) ?_
      refine GO_q rfl rfl (ev_pick_t rfl rfl rfl) ?_
      refine GO_q rfl rfl (ev_move rfl) ?_
      refine GO_no rfl rfl rfl (decide_eq_false (by omega)) ?_
      refine GO_no rfl rfl rfl (decide_eq_false (by omega)) ?_
      refine GO_no rfl rfl rfl (decide_eq_false (by omega)) ?_
      refine GO_no rfl rfl rfl (decide_eq_false (by omega)) ?_
      refine GO_no rfl rfl rfl (decide_eq_false (by omega)) ?_
      refine GO_no rfl rfl rfl (decide_eq_false (by omega)) ?_
      refine GO_q rfl rfl (ev_pick_f rfl (decide_eq_false (by omega)) rfl) ?_
      refine GO_q rfl rfl (ev_assign rfl) ?_
      refine GO_nil ?_
      (repeat first | refine G_seq ?_ | refine G_skip ?_ | refine G_endblk ?_ | refine G_block ?_ | refine G_exit rfl ?_)
      refine G_ret rfl (.tmp rfl .nil) (by (repeat first | exact fun _ s => s | apply en_keep | apply en_drop | apply en_app) <;> fail) ⟨by simp [retv, SA.hasc]; omega, rfl⟩
    · skip
      refine Ctr_of (fn := Tryz.f85) (n := 23) Tryz.func85 rfl rfl rfl ?_
      intro g F
      (repeat first | refine G_seq ?_ | refine G_skip ?_ | refine G_endblk ?_ | refine G_block ?_ | refine G_exit rfl ?_)
      refine G_region ?_
      refine GO_q rfl rfl (ev_assign rfl) ?_
      refine GO_nil ?_
      (repeat first | refine G_seq ?_ | refine G_skip ?_ | refine G_endblk ?_ | refine G_block ?_ | refine G_exit rfl ?_)
      refine G_region ?_
      refine GO_q rfl rfl (ev_move rfl) ?_
      (first | refine GO_q rfl rfl (ev_neqNil rfl rfl) ?_ | refine GO_q rfl rfl (ev_neqPtr rfl rfl) ?_)
      refine GO_q rfl rfl (ev_move rfl) ?_
      refine GO_yes rfl rfl rfl rfl ?_
      refine GO_q rfl rfl (ev_move rfl) ?_
      refine GO_yes rfl rfl rfl rfl ?_
      (first | refine GO_q rfl rfl (ev_nilCheck rfl) ?_ | refine GO_q rfl rfl (ev_nilCheckF (by simp) rfl) ?_)
      refine GO_yes rfl rfl rfl rfl ?_
      refine GO_q rfl rfl (ev_fieldAddr rfl) ?_
      refine GO_yes rfl rfl rfl rfl ?_
      refine GO_q rfl rfl (ev_load rfl (by repeat' first | exact Ld.blk rfl | assumption | apply Ld.skip | apply Ld.app)) ?_
      refine GO_yes rfl rfl rfl rfl ?_
      refine GO_q rfl rfl (ev_move rfl) ?_
      refine GO_yes rfl rfl rfl rfl ?_
      refine GO_q rfl rfl (ev_leq rfl rfl) ?_
      refine GO_q rfl rfl (ev_pick_t rfl rfl rfl) ?_
      refine GO_q rfl rfl (ev_move rfl) ?_
      refine GO_yes rfl rfl rfl (decide_eq_true (by omega)) ?_
      refine GO_q rfl rfl (ev_move rfl) ?_
      refine GO_yes rfl rfl rfl (decide_eq_true (by omega)) ?_
      refine GO_q rfl rfl (ev_move rfl) ?_
      refine GO_yes rfl rfl rfl (decide_eq_true (by omega)) ?_
      (first | refine GO_q rfl rfl (ev_nilCheck rfl) ?_ | refine GO_q rfl rfl (ev_nilCheckF (by simp) rfl) ?_)
      refine GO_yes rfl rfl rfl (decide_eq_true (by omega)) ?_
      refine GO_q rfl rfl (ev_fieldAddr rfl) ?_
      refine GO_yes rfl rfl rfl (decide_eq_true (by omega)) ?_
      refine GO_q rfl rfl (ev_load rfl (by repeat' first | exact Ld.blk rfl | assumption | apply Ld.skip | apply Ld.app)) ?_
      refine GO_yes rfl rfl rfl (decide_eq_true (by omega)) ?_
      refine GO_q rfl rfl (ev_leq rfl rfl) ?_
      refine GO_q rfl rfl (ev_pick_t rfl (decide_eq_true (by omega)) rfl) ?_
      refine GO_q rfl rfl (ev_assign rfl) ?_
      refine GO_nil ?_
      (repeat first | refine G_seq ?_ | refine G_skip ?_ | refine G_endblk ?_ | refine G_block ?_ | refine G_exit rfl ?_)
      refine G_ret rfl (.tmp rfl .nil) (by (repeat first | exact fun _ s => s | apply en_keep | apply en_drop | apply en_app) <;> fail) ⟨by simp [retv, SA.hasc]; omega, rfl⟩
/-- What look leaves: the ids of a node's own, and the next one. -/
def Looked (ids : List Int) (p : Option Addr) (L : List HP) (v : Value) (L' : List HP) : Prop := ∃ A c, v = .tuple #[.slice A ids.length c, .pointer p] ∧ ((0 < ids.length → ∃ b, A = some ⟨b, 0, none⟩) ∧ ids.length ≤ c ∧ c ≤ maxLen) ∧ L' = own 3 1 A ids.length c (flat ids) :: L
theorem look_no (X : SA) (c : Nat) (L : List HP) (h : SIn L X) (hc : X.hasc c = false) : Ctr Tryz.prog 51 #[.pointer X.addr, .int .i64 (c : Nat)] L fun v L' => Looked [] none L v L' := by
  have hh := nhas_ctr X c L h
  rw [hc] at hh
  refine Ctr_of (fn := Tryz.f51) (n := 45) Tryz.func51 rfl rfl rfl ?_
  intro g F
  (repeat first | refine G_seq ?_ | refine G_skip ?_ | refine G_endblk ?_ | refine G_block ?_ | refine G_exit rfl ?_)
  refine G_region ?_
  refine GO_q rfl rfl (ev_assign rfl) ?_
  refine GO_q rfl rfl (ev_assign rfl) ?_
  refine GO_nil ?_
  (repeat first | refine G_seq ?_ | refine G_skip ?_ | refine G_endblk ?_ | refine G_block ?_ | refine G_exit rfl ?_)
  refine G_region ?_
  refine GO_q rfl rfl (ev_move rfl) ?_
  refine GO_q rfl rfl (ev_move rfl) ?_
  refine GO_eff rfl rfl (eff_call rfl (Ctr.frame [F] hh (fun _ s => s))) ?_; rintro _ _ ⟨L1, ⟨rfl, hL1⟩, rfl⟩
  refine GO_q rfl rfl (ev_not rfl) ?_
  refine GO_nil ?_
  subst hL1
  (repeat first | refine G_seq ?_ | refine G_skip ?_ | refine G_endblk ?_ | refine G_block ?_ | refine G_exit rfl ?_)
  refine G_cond_t rfl rfl ?_
  (repeat first | refine G_seq ?_ | refine G_skip ?_ | refine G_endblk ?_ | refine G_block ?_ | refine G_exit rfl ?_)
  refine G_region ?_
  refine GO_q rfl rfl (ev_assign rfl) ?_
  refine GO_q rfl rfl (ev_assign rfl) ?_
  refine GO_nil ?_
  (repeat first | refine G_seq ?_ | refine G_skip ?_ | refine G_endblk ?_ | refine G_block ?_ | refine G_exit rfl ?_)
  refine G_heap (own.nil_ 3 1) ?_
  exact G_ret (L' := own 3 1 none 0 0 [] :: L1) rfl (.tmp rfl (.tmp rfl .nil)) (by (repeat first | exact en_refl | (apply en_blk; focus ((repeat' first | exact Pick.here | apply Pick.skip | apply Pick.app); done); focus rfl) | (apply en_own; focus ((repeat' first | exact Pick.here | apply Pick.skip | apply Pick.app); done); focus rfl) | (apply en_pick; focus ((repeat' first | exact Pick.here | apply Pick.skip | apply Pick.app); done)) | apply en_drop | apply en_app) <;> fail) ⟨none, 0, rfl, ⟨fun h => absurd h (Nat.lt_irrefl 0), Nat.le_refl _, Nat.zero_le _⟩, rfl⟩
theorem look_yes (b f t : Nat) (A : Option Addr) (d : Nat) (m : List Pt) (lo hi : SA) (c : Nat) (L : List HP) (h : SIn L (.node b f t A d m lo hi)) (hc : (SA.node b f t A d m lo hi).hasc c = true) (hm : m.length ≤ 1000000) :
    Ctr Tryz.prog 51 #[.pointer (some ⟨b, 0, none⟩), .int .i64 (c : Nat)] L fun v L' => Looked (srt (idsOf m)) (SA.nxt c (.node b f t A d m lo hi)).addr L v L' := by
  have hh := nhas_ctr (.node b f t A d m lo hi) c L h
  rw [hc] at hh
  have hlo := nhas_ctr lo c
  have hhi := nhas_ctr hi c
  have h2 : Ld L ⟨b, 0 + 2, none⟩ (.slice A m.length d) := h.1.at_ (i := 2) rfl
  have h3 : LdN L b (0 + 3) 2 [.pointer lo.addr, .pointer hi.addr] := h.1.sub' 3 2 rfl
  have hr := h.2.1
  have hkl := h.2.2.1
  have hkh := h.2.2.2
  have hs := fun A c M hA => sort_ctr A (idsOf m).length c (idsOf m) M hA rfl (by unfold idsOf; rw [List.length_map]; exact hm)
  have hsl : (idsOf m).length = (srt (idsOf m)).length := by simp [srt]
  have hlen : (idsOf m).length = m.length := by simp [idsOf]
  generalize hsr : srt (idsOf m) = sids at *
  refine Ctr_of (fn := Tryz.f51) (n := 45) Tryz.func51 rfl rfl rfl ?_
  intro g F
  (repeat first | refine G_seq ?_ | refine G_skip ?_ | refine G_endblk ?_ | refine G_block ?_ | refine G_exit rfl ?_)
  refine G_region ?_
  refine GO_q rfl rfl (ev_assign rfl) ?_
  refine GO_q rfl rfl (ev_assign rfl) ?_
  refine GO_nil ?_
  (repeat first | refine G_seq ?_ | refine G_skip ?_ | refine G_endblk ?_ | refine G_block ?_ | refine G_exit rfl ?_)
  refine G_region ?_
  refine GO_q rfl rfl (ev_move rfl) ?_
  refine GO_q rfl rfl (ev_move rfl) ?_
  refine GO_eff rfl rfl (eff_call rfl (Ctr.frame [F] hh (fun _ s => s))) ?_; rintro _ _ ⟨L1, ⟨rfl, hL1⟩, rfl⟩
  refine GO_q rfl rfl (ev_not rfl) ?_
  refine GO_nil ?_
  subst hL1
  (repeat first | refine G_seq ?_ | refine G_skip ?_ | refine G_endblk ?_ | refine G_block ?_ | refine G_exit rfl ?_)
  refine G_cond_f rfl rfl ?_
  refine G_heap (own.nil_ 3 1) ?_
  (repeat first | refine G_seq ?_ | refine G_skip ?_ | refine G_endblk ?_ | refine G_block ?_ | refine G_exit rfl ?_)
  refine G_region ?_
  refine GO_q rfl rfl (ev_move rfl) ?_
  (first | refine GO_q rfl rfl (ev_nilCheck rfl) ?_ | refine GO_q rfl rfl (ev_nilCheckF (by simp) rfl) ?_)
  refine GO_q rfl rfl (ev_fieldAddr rfl) ?_
  refine GO_q rfl rfl (ev_load rfl (by repeat' first | exact Ld.blk rfl | assumption | apply Ld.skip | apply Ld.app)) ?_
  refine GO_q rfl rfl (ev_len rfl) ?_
  refine GO_q rfl rfl (ev_move rfl) ?_
  refine GO_nil ?_
  (repeat first | refine G_seq ?_ | refine G_skip ?_ | refine G_endblk ?_ | refine G_block ?_ | refine G_exit rfl ?_)
  refine G_loop (ι := Nat × Option Addr × Nat) (fun z => [(0, .pointer (some ⟨b, 0, none⟩)), (1, .int .i64 (c : Nat)), (4, .slice z.2.1 z.1 z.2.2), (5, .pointer none), (17, .slice A m.length d), (18, .int .i64 (m.length : Nat)), (19, .int .i64 (z.1 : Nat))]) (fun z => own 3 1 z.2.1 z.1 z.2.2 (flat (idsOf (m.take z.1))) :: F :: L1) (fun z => z.1 ≤ m.length ∧ (0 < z.1 → ∃ b, z.2.1 = some ⟨b, 0, none⟩)) (fun z => m.length - z.1) (0, none, 0) ⟨Nat.zero_le _, fun h => absurd h (Nat.lt_irrefl 0)⟩ ⟨rfl, rfl, rfl, rfl, rfl, rfl, rfl, trivial⟩ (fun _ s => s) ?_
  rintro ⟨k, O, e⟩ ⟨f1, f2⟩
  simp only at f1 f2
  dsimp only
  (repeat first | refine G_seq ?_ | refine G_skip ?_ | refine G_endblk ?_ | refine G_block ?_ | refine G_exit rfl ?_)
  refine G_region ?_
  (first | refine GO_q rfl rfl (ev_lssN rfl rfl) ?_ | refine GO_q rfl rfl (ev_lss rfl rfl) ?_)
  refine GO_nil ?_
  (repeat first | refine G_seq ?_ | refine G_skip ?_ | refine G_endblk ?_ | refine G_block ?_ | refine G_exit rfl ?_)
  refine G_cond rfl (fun c1 => ?_) (fun c1 => ?_)
  · obtain ⟨b1, o1, rfl, x1⟩ := hr.at_ (by omega)
    have g1 : m[k]? = some m[k] := List.getElem?_eq_getElem (by omega)
    have y1 := x1 _ _ g1
    have s1 : idsOf (m.take (k + 1)) = idsOf (m.take k) ++ [m[k].id] := by unfold idsOf; rw [List.take_succ_eq_append_getElem (by omega), List.map_append]; rfl
    generalize m[k] = u at *
    have z1 : LdN L1 b1 (o1 + k * 3) 3 [.int .i64 u.id, .int .i64 u.x, .int .i64 u.y] := y1
    (repeat first | refine G_seq ?_ | refine G_skip ?_ | refine G_endblk ?_ | refine G_block ?_ | refine G_exit rfl ?_)
    refine G_region ?_
    (first | refine GO_q rfl rfl (ev_indexAddrN rfl rfl (by first | omega | (simp; done) | (simp; omega))) ?_ | refine GO_q rfl rfl (ev_indexAddr rfl rfl (by first | omega | (simp; done) | (simp; omega)) (by first | omega | (simp; done) | (simp; omega))) ?_)
    refine GO_q rfl rfl (ev_loadN rfl (by repeat' first | exact LdN.blk rfl | assumption | apply LdN.skip | apply LdN.app)) ?_
    refine GO_eff rfl rfl eff_alloc ?_; rintro _ _ ⟨b7, rfl, rfl⟩
    refine GO_eff rfl rfl (eff_storeN rfl rfl rfl rfl (by repeat' first | exact Upd.here rfl | apply Upd.skip | apply Upd.app)) ?_; rintro _ _ ⟨rfl, rfl⟩
    refine GO_nil ?_
    (repeat first | refine G_seq ?_ | refine G_skip ?_ | refine G_endblk ?_ | refine G_block ?_ | refine G_exit rfl ?_)
    refine G_region ?_
    refine GO_q rfl rfl (ev_move rfl) ?_
    refine GO_q rfl rfl (ev_fieldAddr rfl) ?_
    refine GO_q rfl rfl (ev_load rfl (by repeat' first | exact Ld.blk rfl | assumption | apply Ld.skip | apply Ld.app)) ?_
    refine GO_eff rfl rfl (eff_buildSlice1 (by rfl) rfl rfl) ?_; rintro _ _ ⟨b26, rfl, rfl⟩
    refine GO_eff rfl rfl (eff_append rfl rfl (by repeat' first | exact Pick.here | apply Pick.skip) (by repeat' first | exact Rc.blk rfl | assumption | apply Rc.skip) (one_all rfl) (by rfl) (by decide) (by first | omega | (simp; done) | (simp; omega)) (by first | omega | (simp; done) | (simp; omega))) ?_; rintro _ _ ⟨A27, c27, rfl, hc27, hm27, hn27, rfl⟩
    refine GO_q rfl rfl (ev_assign rfl) ?_
    refine GO_nil ?_
    (repeat first | refine G_seq ?_ | refine G_skip ?_ | refine G_endblk ?_ | refine G_block ?_ | refine G_exit rfl ?_)
    refine G_region ?_
    (first | refine GO_q rfl rfl (ev_addN (q := 1) rfl rfl (by first | omega | (simp; done) | (simp; omega))) ?_ | refine GO_q rfl rfl (ev_add rfl rfl (by first | omega | (simp; done) | (simp; omega))) ?_)
    refine GO_q rfl rfl (ev_move rfl) ?_
    refine GO_nil ?_
    (repeat first | refine G_seq ?_ | refine G_skip ?_ | refine G_endblk ?_ | refine G_block ?_ | refine G_exit rfl ?_)
    refine G_round (k + 1, A27, c27) ⟨c1, fun _ => hn27 (by omega)⟩ (by simp only; omega) ⟨rfl, rfl, rfl, rfl, rfl, rfl, rfl, trivial⟩ ?_
    have e5 : flat (idsOf (m.take (k + 1))) = flat (idsOf (m.take k)) ++ [Value.int .i64 u.id] := by rw [s1]; exact (flat_snoc _ _).symm
    simp only [e5]
    exact (by (repeat first | exact en_refl | (apply en_blk; focus ((repeat' first | exact Pick.here | apply Pick.skip | apply Pick.app); done); focus rfl) | (apply en_own; focus ((repeat' first | exact Pick.here | apply Pick.skip | apply Pick.app); done); focus rfl) | (apply en_pick; focus ((repeat' first | exact Pick.here | apply Pick.skip | apply Pick.app); done)) | apply en_drop | apply en_app) <;> fail)
  · have e0 : k = m.length := by omega
    subst e0
    rw [List.take_length]
    rw [← hlen]
    rw [← hlen] at f2
    (repeat first | refine G_seq ?_ | refine G_skip ?_ | refine G_endblk ?_ | refine G_block ?_ | refine G_exit rfl ?_)
    refine G_region ?_
    refine GO_q rfl rfl (ev_move rfl) ?_
    refine GO_eff rfl rfl (eff_call rfl (Ctr.pick (by repeat' first | exact Pick.here | apply Pick.skip | apply Pick.app) (hs O e _ f2))) ?_; rintro _ _ ⟨rfl, rfl⟩
    refine GO_nil ?_
    refine G_pure (fun h s => own.facts s) ?_
    rintro ⟨w1, w2, w3, w4⟩
    rw [hsl] at f2 w2
    rw [hsl]
    (repeat first | refine G_seq ?_ | refine G_skip ?_ | refine G_endblk ?_ | refine G_block ?_ | refine G_exit rfl ?_)
    refine G_region ?_
    refine GO_q rfl rfl (ev_move rfl) ?_
    (first | refine GO_q rfl rfl (ev_nilCheck rfl) ?_ | refine GO_q rfl rfl (ev_nilCheckF (by simp) rfl) ?_)
    refine GO_q rfl rfl (ev_fieldAddr rfl) ?_
    refine GO_q rfl rfl (ev_loadN rfl (by repeat' first | exact LdN.blk rfl | assumption | apply LdN.skip | apply LdN.app)) ?_
    refine GO_q rfl rfl (ev_move rfl) ?_
    refine GO_nil ?_
    (repeat first | refine G_seq ?_ | refine G_skip ?_ | refine G_endblk ?_ | refine G_block ?_ | refine G_exit rfl ?_)
    refine G_loop (ι := Nat) (fun k => [(1, .int .i64 (c : Nat)), (4, .slice O sids.length e), (5, .pointer (if k = 0 then none else if k = 1 then (if lo.hasc c then lo.addr else none) else (SA.nxt c (.node b f t A d m lo hi)).addr)), (34, .agg #[.pointer lo.addr, .pointer hi.addr]), (35, .int .i64 (k : Nat))]) (fun k => own 3 1 O sids.length e (flat sids) :: F :: L1) (fun k => k ≤ 2) (fun k => 2 - k) 0 (Nat.zero_le _) ⟨rfl, rfl, rfl, rfl, rfl, trivial⟩ (fun _ s => s) ?_
    intro k hk
    (repeat first | refine G_seq ?_ | refine G_skip ?_ | refine G_endblk ?_ | refine G_block ?_ | refine G_exit rfl ?_)
    refine G_region ?_
    (first | refine GO_q rfl rfl (ev_lssN (q := 2) rfl rfl) ?_ | refine GO_q rfl rfl (ev_lss rfl rfl) ?_)
    refine GO_nil ?_
    (repeat first | refine G_seq ?_ | refine G_skip ?_ | refine G_endblk ?_ | refine G_block ?_ | refine G_exit rfl ?_)
    refine G_cond rfl (fun c2 => ?_) (fun c2 => ?_)
    · rcases Nat.eq_zero_or_pos k with h0 | h0
      · subst h0
        (repeat first | refine G_seq ?_ | refine G_skip ?_ | refine G_endblk ?_ | refine G_block ?_ | refine G_exit rfl ?_)
        refine G_region ?_
        refine GO_q rfl rfl (ev_indexA (cs := [.pointer lo.addr, .pointer hi.addr]) (i := 0) rfl rfl (by omega) rfl) ?_
        refine GO_q rfl rfl (ev_assign rfl) ?_
        refine GO_nil ?_
        (repeat first | refine G_seq ?_ | refine G_skip ?_ | refine G_endblk ?_ | refine G_block ?_ | refine G_exit rfl ?_)
        refine G_region ?_
        refine GO_q rfl rfl (ev_move rfl) ?_
        refine GO_q rfl rfl (ev_move rfl) ?_
        refine GO_eff rfl rfl (eff_call rfl (hlo _ hkl.skip.skip)) ?_; rintro _ _ ⟨rfl, rfl⟩
        refine GO_nil ?_
        cases hl : lo.hasc c with
        | true =>
          (repeat first | refine G_seq ?_ | refine G_skip ?_ | refine G_endblk ?_ | refine G_block ?_ | refine G_exit rfl ?_)
          refine G_cond_t rfl rfl ?_
          (repeat first | refine G_seq ?_ | refine G_skip ?_ | refine G_endblk ?_ | refine G_block ?_ | refine G_exit rfl ?_)
          refine G_region ?_
          refine GO_q rfl rfl (ev_move rfl) ?_
          refine GO_q rfl rfl (ev_assign rfl) ?_
          refine GO_nil ?_
          (repeat first | refine G_seq ?_ | refine G_skip ?_ | refine G_endblk ?_ | refine G_block ?_ | refine G_exit rfl ?_)
          refine G_region ?_
          (first | refine GO_q rfl rfl (ev_addN (q := 1) rfl rfl (by first | omega | (simp; done) | (simp; omega))) ?_ | refine GO_q rfl rfl (ev_add rfl rfl (by first | omega | (simp; done) | (simp; omega))) ?_)
          refine GO_q rfl rfl (ev_move rfl) ?_
          refine GO_nil ?_
          (repeat first | refine G_seq ?_ | refine G_skip ?_ | refine G_endblk ?_ | refine G_block ?_ | refine G_exit rfl ?_)
          exact G_round 1 (by omega) (by omega) ⟨rfl, rfl, rfl, rfl, rfl, trivial⟩ (fun _ s => s)
        | false =>
          (repeat first | refine G_seq ?_ | refine G_skip ?_ | refine G_endblk ?_ | refine G_block ?_ | refine G_exit rfl ?_)
          refine G_cond_f rfl rfl ?_
          (repeat first | refine G_seq ?_ | refine G_skip ?_ | refine G_endblk ?_ | refine G_block ?_ | refine G_exit rfl ?_)
          refine G_region ?_
          (first | refine GO_q rfl rfl (ev_addN (q := 1) rfl rfl (by first | omega | (simp; done) | (simp; omega))) ?_ | refine GO_q rfl rfl (ev_add rfl rfl (by first | omega | (simp; done) | (simp; omega))) ?_)
          refine GO_q rfl rfl (ev_move rfl) ?_
          refine GO_nil ?_
          (repeat first | refine G_seq ?_ | refine G_skip ?_ | refine G_endblk ?_ | refine G_block ?_ | refine G_exit rfl ?_)
          exact G_round 1 (by omega) (by omega) ⟨rfl, rfl, rfl, rfl, rfl, trivial⟩ (fun _ s => s)
      · have h1 : k = 1 := by omega
        subst h1
        (repeat first | refine G_seq ?_ | refine G_skip ?_ | refine G_endblk ?_ | refine G_block ?_ | refine G_exit rfl ?_)
        refine G_region ?_
        refine GO_q rfl rfl (ev_indexA (cs := [.pointer lo.addr, .pointer hi.addr]) (i := 1) rfl rfl (by omega) rfl) ?_
        refine GO_q rfl rfl (ev_assign rfl) ?_
        refine GO_nil ?_
        (repeat first | refine G_seq ?_ | refine G_skip ?_ | refine G_endblk ?_ | refine G_block ?_ | refine G_exit rfl ?_)
        refine G_region ?_
        refine GO_q rfl rfl (ev_move rfl) ?_
        refine GO_q rfl rfl (ev_move rfl) ?_
        refine GO_eff rfl rfl (eff_call rfl (hhi _ hkh.skip.skip)) ?_; rintro _ _ ⟨rfl, rfl⟩
        refine GO_nil ?_
        cases hl : hi.hasc c with
        | true =>
          (repeat first | refine G_seq ?_ | refine G_skip ?_ | refine G_endblk ?_ | refine G_block ?_ | refine G_exit rfl ?_)
          refine G_cond_t rfl rfl ?_
          (repeat first | refine G_seq ?_ | refine G_skip ?_ | refine G_endblk ?_ | refine G_block ?_ | refine G_exit rfl ?_)
          refine G_region ?_
          refine GO_q rfl rfl (ev_move rfl) ?_
          refine GO_q rfl rfl (ev_assign rfl) ?_
          refine GO_nil ?_
          (repeat first | refine G_seq ?_ | refine G_skip ?_ | refine G_endblk ?_ | refine G_block ?_ | refine G_exit rfl ?_)
          refine G_region ?_
          (first | refine GO_q rfl rfl (ev_addN (q := 1) rfl rfl (by first | omega | (simp; done) | (simp; omega))) ?_ | refine GO_q rfl rfl (ev_add rfl rfl (by first | omega | (simp; done) | (simp; omega))) ?_)
          refine GO_q rfl rfl (ev_move rfl) ?_
          refine GO_nil ?_
          (repeat first | refine G_seq ?_ | refine G_skip ?_ | refine G_endblk ?_ | refine G_block ?_ | refine G_exit rfl ?_)
          exact G_round 2 (by omega) (by omega) ⟨rfl, rfl, by simp only [SA.nxt, hl]; rfl, rfl, rfl, trivial⟩ (fun _ s => s)
        | false =>
          (repeat first | refine G_seq ?_ | refine G_skip ?_ | refine G_endblk ?_ | refine G_block ?_ | refine G_exit rfl ?_)
          refine G_cond_f rfl rfl ?_
          (repeat first | refine G_seq ?_ | refine G_skip ?_ | refine G_endblk ?_ | refine G_block ?_ | refine G_exit rfl ?_)
          refine G_region ?_
          (first | refine GO_q rfl rfl (ev_addN (q := 1) rfl rfl (by first | omega | (simp; done) | (simp; omega))) ?_ | refine GO_q rfl rfl (ev_add rfl rfl (by first | omega | (simp; done) | (simp; omega))) ?_)
          refine GO_q rfl rfl (ev_move rfl) ?_
          refine GO_nil ?_
          (repeat first | refine G_seq ?_ | refine G_skip ?_ | refine G_endblk ?_ | refine G_block ?_ | refine G_exit rfl ?_)
          exact G_round 2 (by omega) (by omega) ⟨rfl, rfl, by simp only [SA.nxt, hl]; cases lo.hasc c <;> rfl, rfl, rfl, trivial⟩ (fun _ s => s)
    · have h2 : k = 2 := by omega
      subst h2
      (repeat first | refine G_seq ?_ | refine G_skip ?_ | refine G_endblk ?_ | refine G_block ?_ | refine G_exit rfl ?_)
      refine G_region ?_
      refine GO_q rfl rfl (ev_move rfl) ?_
      refine GO_q rfl rfl (ev_move rfl) ?_
      refine GO_q rfl rfl (ev_assign rfl) ?_
      refine GO_q rfl rfl (ev_assign rfl) ?_
      refine GO_nil ?_
      (repeat first | refine G_seq ?_ | refine G_skip ?_ | refine G_endblk ?_ | refine G_block ?_ | refine G_exit rfl ?_)
      exact G_ret (L' := own 3 1 O sids.length e (flat sids) :: L1) rfl (.tmp rfl (.tmp rfl .nil)) (fun _ s => s.swap) ⟨O, e, rfl, ⟨f2, w2, w3⟩, rfl⟩
end Go.Proofs.YtmgkmammkmlakaaGreat
/- Trees of cells: building them, and more that is told of nodes. -/
namespace Go.Proofs.YtmgkmammkmlakaaGreat
attribute [local irreducible] sat
set_option linter.unusedVariables false
set_option linter.unusedSimpArgs false
set_option maxRecDepth 100000

theorem Look_no (X : SA) (c : Nat) (L : List HP) (h : SIn L X) (hc : X.hasc c = false) : Ctr Tryz.prog 16 #[.pointer X.addr, .int .i64 (c : Nat)] L fun v L' => Looked [] none L v L' := by
  refine Ctr_of (fn := Tryz.f16) (n := 11) Tryz.func16 rfl rfl rfl ?_
  intro g F
  (repeat first | refine G_seq ?_ | refine G_skip ?_ | refine G_endblk ?_ | refine G_block ?_ | refine G_exit rfl ?_)
  refine G_region ?_
  refine GO_q rfl rfl (ev_assign rfl) ?_
  refine GO_q rfl rfl (ev_assign rfl) ?_
  refine GO_nil ?_
  (repeat first | refine G_seq ?_ | refine G_skip ?_ | refine G_endblk ?_ | refine G_block ?_ | refine G_exit rfl ?_)
  refine G_region ?_
  refine GO_q rfl rfl (ev_move rfl) ?_
  refine GO_q rfl rfl (ev_move rfl) ?_
  refine GO_eff rfl rfl (eff_call rfl (look_no X c _ h.skip hc)) ?_; rintro _ _ ⟨A, d, rfl, hA, rfl⟩
  refine GO_q rfl rfl (ev_extract rfl rfl) ?_
  refine GO_q rfl rfl (ev_extract rfl rfl) ?_
  refine GO_q rfl rfl (ev_assign rfl) ?_
  refine GO_q rfl rfl (ev_assign rfl) ?_
  refine GO_nil ?_
  (repeat first | refine G_seq ?_ | refine G_skip ?_ | refine G_endblk ?_ | refine G_block ?_ | refine G_exit rfl ?_)
  exact G_ret (L' := own 3 1 A ([] : List Int).length d (flat ([] : List Int)) :: L) rfl (.tmp rfl (.tmp rfl .nil)) (by (repeat first | exact en_refl | (apply en_blk; focus ((repeat' first | exact Pick.here | apply Pick.skip | apply Pick.app); done); focus rfl) | (apply en_own; focus ((repeat' first | exact Pick.here | apply Pick.skip | apply Pick.app); done); focus rfl) | (apply en_pick; focus ((repeat' first | exact Pick.here | apply Pick.skip | apply Pick.app); done)) | apply en_drop | apply en_app) <;> fail) ⟨A, d, rfl, hA, rfl⟩
theorem Look_yes (b f t : Nat) (A : Option Addr) (d : Nat) (m : List Pt) (lo hi : SA) (c : Nat) (L : List HP) (h : SIn L (.node b f t A d m lo hi)) (hc : (SA.node b f t A d m lo hi).hasc c = true) (hm : m.length ≤ 1000000) :
    Ctr Tryz.prog 16 #[.pointer (some ⟨b, 0, none⟩), .int .i64 (c : Nat)] L fun v L' => Looked (srt (idsOf m)) (SA.nxt c (.node b f t A d m lo hi)).addr L v L' := by
  refine Ctr_of (fn := Tryz.f16) (n := 11) Tryz.func16 rfl rfl rfl ?_
  intro g F
  (repeat first | refine G_seq ?_ | refine G_skip ?_ | refine G_endblk ?_ | refine G_block ?_ | refine G_exit rfl ?_)
  refine G_region ?_
  refine GO_q rfl rfl (ev_assign rfl) ?_
  refine GO_q rfl rfl (ev_assign rfl) ?_
  refine GO_nil ?_
  (repeat first | refine G_seq ?_ | refine G_skip ?_ | refine G_endblk ?_ | refine G_block ?_ | refine G_exit rfl ?_)
  refine G_region ?_
  refine GO_q rfl rfl (ev_move rfl) ?_
  refine GO_q rfl rfl (ev_move rfl) ?_
  refine GO_eff rfl rfl (eff_call rfl (look_yes b f t A d m lo hi c _ h.skip hc hm)) ?_; rintro _ _ ⟨B, e, rfl, hA, rfl⟩
  refine GO_q rfl rfl (ev_extract rfl rfl) ?_
  refine GO_q rfl rfl (ev_extract rfl rfl) ?_
  refine GO_q rfl rfl (ev_assign rfl) ?_
  refine GO_q rfl rfl (ev_assign rfl) ?_
  refine GO_nil ?_
  (repeat first | refine G_seq ?_ | refine G_skip ?_ | refine G_endblk ?_ | refine G_block ?_ | refine G_exit rfl ?_)
  exact G_ret (L' := own 3 1 B (srt (idsOf m)).length e (flat (srt (idsOf m))) :: L) rfl (.tmp rfl (.tmp rfl .nil)) (by (repeat first | exact en_refl | (apply en_blk; focus ((repeat' first | exact Pick.here | apply Pick.skip | apply Pick.app); done); focus rfl) | (apply en_own; focus ((repeat' first | exact Pick.here | apply Pick.skip | apply Pick.app); done); focus rfl) | (apply en_pick; focus ((repeat' first | exact Pick.here | apply Pick.skip | apply Pick.app); done)) | apply en_drop | apply en_app) <;> fail) ⟨B, e, rfl, hA, rfl⟩
theorem NCells_ctr (b f t : Nat) (A : Option Addr) (d : Nat) (m : List Pt) (lo hi : SA) (L : List HP) (h : SIn L (.node b f t A d m lo hi)) :
    Ctr Tryz.prog 15 #[.pointer (some ⟨b, 0, none⟩)] L fun v L' => v = .tuple #[.int .i64 (f : Nat), .int .i64 (t : Nat)] ∧ L' = L := by
  have h0 : Ld L ⟨b, 0 + 0, none⟩ (.int .i64 (f : Nat)) := h.1.at_ (i := 0) rfl
  have h1 : Ld L ⟨b, 0 + 1, none⟩ (.int .i64 (t : Nat)) := h.1.at_ (i := 1) rfl
  refine Ctr_of (fn := Tryz.f15) (n := 14) Tryz.func15 rfl rfl rfl ?_
  intro g F
  (repeat first | refine G_seq ?_ | refine G_skip ?_ | refine G_endblk ?_ | refine G_block ?_ | refine G_exit rfl ?_)
  refine G_region ?_
  refine GO_q rfl rfl (ev_assign rfl) ?_
  refine GO_q rfl rfl (ev_assign rfl) ?_
  refine GO_nil ?_
  (repeat first | refine G_seq ?_ | refine G_skip ?_ | refine G_endblk ?_ | refine G_block ?_ | refine G_exit rfl ?_)
  refine G_region ?_
  refine GO_q rfl rfl (ev_move rfl) ?_
  (first | refine GO_q rfl rfl (ev_eqlNil rfl rfl) ?_ | refine GO_q rfl rfl (ev_eqlPtr rfl rfl) ?_)
  refine GO_nil ?_
  (repeat first | refine G_seq ?_ | refine G_skip ?_ | refine G_endblk ?_ | refine G_block ?_ | refine G_exit rfl ?_)
  refine G_cond_f rfl rfl ?_
  (repeat first | refine G_seq ?_ | refine G_skip ?_ | refine G_endblk ?_ | refine G_block ?_ | refine G_exit rfl ?_)
  refine G_draw (.q 0 (.q 1 (.q 2 (.q 3 (.q 4 (.q 5 (.q 6 (.q 7 (.q 8 (.q 9 .nil)))))))))) (by kernel_rfl) (by kernel_rfl) ?_
  refine RS_m retB_noPanic rfl rfl rfl rfl (ev_move rfl) ?_
  (first | refine RS_m retB_noPanic rfl rfl rfl rfl (ev_nilCheck rfl) ?_ | refine RS_m retB_noPanic rfl rfl rfl rfl (ev_nilCheckF (by simp) rfl) ?_)
  refine RS_m retB_noPanic rfl rfl rfl rfl (ev_fieldAddr rfl) ?_
  refine RS_q retB_noPanic rfl rfl rfl rfl (ev_load rfl (by repeat' first | exact Ld.blk rfl | assumption | apply Ld.skip | apply Ld.app)) ?_
  refine RS_m retB_noPanic rfl rfl rfl rfl (ev_move rfl) ?_
  (first | refine RS_m retB_noPanic rfl rfl rfl rfl (ev_nilCheck rfl) ?_ | refine RS_m retB_noPanic rfl rfl rfl rfl (ev_nilCheckF (by simp) rfl) ?_)
  refine RS_m retB_noPanic rfl rfl rfl rfl (ev_fieldAddr rfl) ?_
  refine RS_q retB_noPanic rfl rfl rfl rfl (ev_load rfl (by repeat' first | exact Ld.blk rfl | assumption | apply Ld.skip | apply Ld.app)) ?_
  refine RS_m retB_noPanic rfl rfl rfl rfl (ev_assign rfl) ?_
  refine RS_m retB_noPanic rfl rfl rfl rfl (ev_assign rfl) ?_
  refine RS_nil ?_
  (repeat first | refine G_seq ?_ | refine G_skip ?_ | refine G_endblk ?_ | refine G_block ?_ | refine G_exit rfl ?_)
  refine G_ret rfl (.tmp rfl (.tmp rfl .nil)) (by (repeat first | exact fun _ s => s | apply en_keep | apply en_drop | apply en_app) <;> fail) ⟨rfl, rfl⟩
theorem nall_ctr : ∀ (X : SA) (L : List HP), SIn L X → X.all ≤ 9223372036854775807 → Ctr Tryz.prog 72 #[.pointer X.addr] L fun v L' => v = .int .i64 (X.all : Nat) ∧ L' = L := by
  intro X
  induction X with
  | nil =>
    intro L _ _
    refine Ctr_of (fn := Tryz.f72) (n := 24) Tryz.func72 rfl rfl rfl ?_
    intro g F
    (repeat first | refine G_seq ?_ | refine G_skip ?_ | refine G_endblk ?_ | refine G_block ?_ | refine G_exit rfl ?_)
    refine G_region ?_
    refine GO_q rfl rfl (ev_assign rfl) ?_
    refine GO_nil ?_
    (repeat first | refine G_seq ?_ | refine G_skip ?_ | refine G_endblk ?_ | refine G_block ?_ | refine G_exit rfl ?_)
    refine G_region ?_
    refine GO_q rfl rfl (ev_move rfl) ?_
    (first | refine GO_q rfl rfl (ev_eqlNil rfl rfl) ?_ | refine GO_q rfl rfl (ev_eqlPtr rfl rfl) ?_)
    refine GO_nil ?_
    (repeat first | refine G_seq ?_ | refine G_skip ?_ | refine G_endblk ?_ | refine G_block ?_ | refine G_exit rfl ?_)
    refine G_cond_t rfl rfl ?_
    (repeat first | refine G_seq ?_ | refine G_skip ?_ | refine G_endblk ?_ | refine G_block ?_ | refine G_exit rfl ?_)
    refine G_region ?_
    refine GO_q rfl rfl (ev_assign rfl) ?_
    refine GO_nil ?_
    (repeat first | refine G_seq ?_ | refine G_skip ?_ | refine G_endblk ?_ | refine G_block ?_ | refine G_exit rfl ?_)
    refine G_ret rfl (.tmp rfl .nil) (by (repeat first | exact fun _ s => s | apply en_keep | apply en_drop | apply en_app) <;> fail) ⟨rfl, rfl⟩
  | node b f t A d m lo hi ihl ihh =>
    intro L h hb
    have h2 : Ld L ⟨b, 0 + 2, none⟩ (.slice A m.length d) := h.1.at_ (i := 2) rfl
    have h3 : Ld L ⟨b, 0 + 3 + 0 * 1, none⟩ (.pointer lo.addr) := h.1.at_ (i := 3) rfl
    have h4 : Ld L ⟨b, 0 + 3 + 1 * 1, none⟩ (.pointer hi.addr) := h.1.at_ (i := 4) rfl
    have e : SA.all (.node b f t A d m lo hi) = m.length + lo.all + hi.all := rfl
    rw [e] at hb ⊢
    have c1 := fun L h => ihl L h (by omega)
    have c2 := fun L h => ihh L h (by omega)
    generalize lo.all = x at *
    generalize hi.all = y at *
    refine Ctr_of (fn := Tryz.f72) (n := 24) Tryz.func72 rfl rfl rfl ?_
    intro g F
    (repeat first | refine G_seq ?_ | refine G_skip ?_ | refine G_endblk ?_ | refine G_block ?_ | refine G_exit rfl ?_)
    refine G_region ?_
    refine GO_q rfl rfl (ev_assign rfl) ?_
    refine GO_nil ?_
    (repeat first | refine G_seq ?_ | refine G_skip ?_ | refine G_endblk ?_ | refine G_block ?_ | refine G_exit rfl ?_)
    refine G_region ?_
    refine GO_q rfl rfl (ev_move rfl) ?_
    (first | refine GO_q rfl rfl (ev_eqlNil rfl rfl) ?_ | refine GO_q rfl rfl (ev_eqlPtr rfl rfl) ?_)
    refine GO_nil ?_
    (repeat first | refine G_seq ?_ | refine G_skip ?_ | refine G_endblk ?_ | refine G_block ?_ | refine G_exit rfl ?_)
    refine G_cond_f rfl rfl ?_
    (repeat first | refine G_seq ?_ | refine G_skip ?_ | refine G_endblk ?_ | refine G_block ?_ | refine G_exit rfl ?_)
    refine G_draw (.q 0 (.q 1 (.q 2 (.q 3 (.q 4 (.q 5 (.q 6 (.q 7 (.q 8 (.q 9 (.q 12 (.q 13 (.q 14 (.q 15 (.q 16 (.e 10 (.q 11 (.e 17 (.q 18 (.q 19 .nil)))))))))))))))))))) (by kernel_rfl) (by kernel_rfl) ?_
    refine RS_m retB_noPanic rfl rfl rfl rfl (ev_move rfl) ?_
    (first | refine RS_m retB_noPanic rfl rfl rfl rfl (ev_nilCheck rfl) ?_ | refine RS_m retB_noPanic rfl rfl rfl rfl (ev_nilCheckF (by simp) rfl) ?_)
    refine RS_m retB_noPanic rfl rfl rfl rfl (ev_fieldAddr rfl) ?_
    refine RS_q retB_noPanic rfl rfl rfl rfl (ev_load rfl (by repeat' first | exact Ld.blk rfl | assumption | apply Ld.skip | apply Ld.app)) ?_
    refine RS_q retB_noPanic rfl rfl rfl rfl (ev_len rfl) ?_
    refine RS_m retB_noPanic rfl rfl rfl rfl (ev_move rfl) ?_
    (first | refine RS_m retB_noPanic rfl rfl rfl rfl (ev_nilCheck rfl) ?_ | refine RS_m retB_noPanic rfl rfl rfl rfl (ev_nilCheckF (by simp) rfl) ?_)
    refine RS_m retB_noPanic rfl rfl rfl rfl (ev_fieldAddr rfl) ?_
    refine RS_m retB_noPanic rfl rfl rfl rfl (ev_indexAddrA (i := 0) rfl rfl (by omega) (by omega)) ?_
    refine RS_q retB_noPanic rfl rfl rfl rfl (ev_load rfl (Ld.skip h3)) ?_
    refine RS_m retB_noPanic rfl rfl rfl rfl (ev_move rfl) ?_
    (first | refine RS_m retB_noPanic rfl rfl rfl rfl (ev_nilCheck rfl) ?_ | refine RS_m retB_noPanic rfl rfl rfl rfl (ev_nilCheckF (by simp) rfl) ?_)
    refine RS_m retB_noPanic rfl rfl rfl rfl (ev_fieldAddr rfl) ?_
    refine RS_m retB_noPanic rfl rfl rfl rfl (ev_indexAddrA (i := 1) rfl rfl (by omega) (by omega)) ?_
    refine RS_q retB_noPanic rfl rfl rfl rfl (ev_load rfl (Ld.skip h4)) ?_
    refine RS_e (RE_eff rfl rfl rfl (eff_call rfl (c1 _ h.2.2.1.skip)) ?_); rintro _ _ ⟨rfl, rfl⟩; refine ⟨_, fun _ s => s, (by first | ((repeat first | exact fun _ s => s | apply en_keep | apply en_drop | apply en_app) <;> fail) | ((repeat first | exact en_refl | (apply en_blk; focus ((repeat' first | exact Pick.here | apply Pick.skip | apply Pick.app); done); focus rfl) | (apply en_own; focus ((repeat' first | exact Pick.here | apply Pick.skip | apply Pick.app); done); focus rfl) | (apply en_pick; focus ((repeat' first | exact Pick.here | apply Pick.skip | apply Pick.app); done)) | apply en_drop | apply en_app) <;> fail)), ?_⟩
    (first | refine RS_m retB_noPanic rfl rfl rfl rfl (ev_addN rfl rfl (by first | omega | (simp; done) | (simp; omega))) ?_ | refine RS_m retB_noPanic rfl rfl rfl rfl (ev_add rfl rfl (by first | omega | (simp; done) | (simp; omega))) ?_)
    refine RS_e (RE_eff rfl rfl rfl (eff_call rfl (c2 _ h.2.2.2.skip)) ?_); rintro _ _ ⟨rfl, rfl⟩; refine ⟨_, fun _ s => s, (by first | ((repeat first | exact fun _ s => s | apply en_keep | apply en_drop | apply en_app) <;> fail) | ((repeat first | exact en_refl | (apply en_blk; focus ((repeat' first | exact Pick.here | apply Pick.skip | apply Pick.app); done); focus rfl) | (apply en_own; focus ((repeat' first | exact Pick.here | apply Pick.skip | apply Pick.app); done); focus rfl) | (apply en_pick; focus ((repeat' first | exact Pick.here | apply Pick.skip | apply Pick.app); done)) | apply en_drop | apply en_app) <;> fail)), ?_⟩
    (first | refine RS_m retB_noPanic rfl rfl rfl rfl (ev_addN rfl rfl (by first | omega | (simp; done) | (simp; omega))) ?_ | refine RS_m retB_noPanic rfl rfl rfl rfl (ev_add rfl rfl (by first | omega | (simp; done) | (simp; omega))) ?_)
    refine RS_m retB_noPanic rfl rfl rfl rfl (ev_assign rfl) ?_
    refine RS_nil ?_
    (repeat first | refine G_seq ?_ | refine G_skip ?_ | refine G_endblk ?_ | refine G_block ?_ | refine G_exit rfl ?_)
    refine G_ret rfl (.tmp rfl .nil) (by (repeat first | exact fun _ s => s | apply en_keep | apply en_drop | apply en_app) <;> fail) ⟨rfl, rfl⟩
theorem en_sanil {L M : List HP} (g : ∀ h, sat L h → sat M h) : ∀ h, sat L h → sat (saH .nil :: M) h := fun h s => sat.fold (N := []) (fun _ _ => trivial) (g h s)
theorem build0_ctr (f : Nat) (L : List HP) : Ctr Tryz.prog 73 #[.int .i64 (f : Nat), .int .i64 (f : Nat)] L fun v L' => ∃ X : SA, v = .pointer X.addr ∧ ((∀ q o, SgOk q [] X f f o) ∧ X.each fun _ _ A c m => AdOk A c m) ∧ L' = saH X :: L := by
  refine Ctr_of (fn := Tryz.f73) (n := 32) Tryz.func73 rfl rfl rfl ?_
  intro g F
  (repeat first | refine G_seq ?_ | refine G_skip ?_ | refine G_endblk ?_ | refine G_block ?_ | refine G_exit rfl ?_)
  refine G_region ?_
  refine GO_q rfl rfl (ev_assign rfl) ?_
  refine GO_nil ?_
  (repeat first | refine G_seq ?_ | refine G_skip ?_ | refine G_endblk ?_ | refine G_block ?_ | refine G_exit rfl ?_)
  refine G_region ?_
  refine GO_q rfl rfl (ev_move rfl) ?_
  refine GO_q rfl rfl (ev_move rfl) ?_
  refine GO_q rfl rfl (ev_build rfl rfl) ?_
  refine GO_eff rfl rfl (eff_box rfl) ?_; rintro _ _ ⟨b10, rfl, rfl⟩
  refine GO_q rfl rfl (ev_assign rfl) ?_
  refine GO_nil ?_
  (repeat first | refine G_seq ?_ | refine G_skip ?_ | refine G_endblk ?_ | refine G_block ?_ | refine G_exit rfl ?_)
  refine G_region ?_
  refine GO_q rfl rfl (ev_move rfl) ?_
  refine GO_q rfl rfl (ev_move rfl) ?_
  (first | refine GO_q rfl rfl (ev_lssN rfl rfl) ?_ | refine GO_q rfl rfl (ev_lss rfl rfl) ?_)
  refine GO_nil ?_
  (repeat first | refine G_seq ?_ | refine G_skip ?_ | refine G_endblk ?_ | refine G_block ?_ | refine G_exit rfl ?_)
  refine G_cond_f rfl (decide_eq_false (by omega)) ?_
  (repeat first | refine G_seq ?_ | refine G_skip ?_ | refine G_endblk ?_ | refine G_block ?_ | refine G_exit rfl ?_)
  (repeat first | refine G_seq ?_ | refine G_skip ?_ | refine G_endblk ?_ | refine G_block ?_ | refine G_exit rfl ?_)
  refine G_region ?_
  refine GO_q rfl rfl (ev_move rfl) ?_
  refine GO_q rfl rfl (ev_assign rfl) ?_
  refine GO_nil ?_
  refine G_heap (own.nil_ 51 3) ?_
  (repeat first | refine G_seq ?_ | refine G_skip ?_ | refine G_endblk ?_ | refine G_block ?_ | refine G_exit rfl ?_)
  exact G_ret (L' := saH (.node b10 f f none 0 [] .nil .nil) :: L) rfl (.tmp rfl .nil) (by (repeat first | exact en_refl | apply en_sa rfl rfl | apply en_sanil | (apply en_blk; focus ((repeat' first | exact Pick.here | apply Pick.skip | apply Pick.app); done); focus rfl) | (apply en_own; focus ((repeat' first | exact Pick.here | apply Pick.skip | apply Pick.app); done); focus rfl) | (apply en_pick; focus ((repeat' first | exact Pick.here | apply Pick.skip | apply Pick.app); done)) | apply en_drop | apply en_app) <;> fail) ⟨.node b10 f f none 0 [] .nil .nil, rfl, ⟨fun q o => ⟨rfl, rfl, rfl, .inr ⟨rfl, rfl, rfl⟩⟩, ⟨⟨fun h => absurd h (Nat.lt_irrefl 0), Nat.le_refl _⟩, trivial, trivial⟩⟩, rfl⟩
theorem build_ctr : ∀ (k f t : Nat) (L : List HP), f ≤ t → t - f ≤ k → t ≤ 1000000 → Ctr Tryz.prog 73 #[.int .i64 (f : Nat), .int .i64 (t : Nat)] L fun v L' => ∃ X : SA, v = .pointer X.addr ∧ ((∀ q o, SgOk q [] X f t o) ∧ X.each fun _ _ A c m => AdOk A c m) ∧ L' = saH X :: L := by
  intro k
  induction k with
  | zero =>
    intro f t L h1 h2 h3
    have e : f = t := by omega
    subst e
    exact build0_ctr f L
  | succ k ih =>
    intro f t L h1 h2 h3
    by_cases e : f = t
    · subst e
      exact build0_ctr f L
    have i1 := fun L => ih f (f + (t - f) / 2) L (by omega) (by omega) (by omega)
    have i2 := fun L => ih (f + (t - f) / 2 + 1) t L (by omega) (by omega) (by omega)
    refine Ctr_of (fn := Tryz.f73) (n := 32) Tryz.func73 rfl rfl rfl ?_
    intro g F
    (repeat first | refine G_seq ?_ | refine G_skip ?_ | refine G_endblk ?_ | refine G_block ?_ | refine G_exit rfl ?_)
    refine G_region ?_
    refine GO_q rfl rfl (ev_assign rfl) ?_
    refine GO_nil ?_
    (repeat first | refine G_seq ?_ | refine G_skip ?_ | refine G_endblk ?_ | refine G_block ?_ | refine G_exit rfl ?_)
    refine G_region ?_
    refine GO_q rfl rfl (ev_move rfl) ?_
    refine GO_q rfl rfl (ev_move rfl) ?_
    refine GO_q rfl rfl (ev_build rfl rfl) ?_
    refine GO_eff rfl rfl (eff_box rfl) ?_; rintro _ _ ⟨b10, rfl, rfl⟩
    refine GO_q rfl rfl (ev_assign rfl) ?_
    refine GO_nil ?_
    (repeat first | refine G_seq ?_ | refine G_skip ?_ | refine G_endblk ?_ | refine G_block ?_ | refine G_exit rfl ?_)
    refine G_region ?_
    refine GO_q rfl rfl (ev_move rfl) ?_
    refine GO_q rfl rfl (ev_move rfl) ?_
    (first | refine GO_q rfl rfl (ev_lssN rfl rfl) ?_ | refine GO_q rfl rfl (ev_lss rfl rfl) ?_)
    refine GO_nil ?_
    (repeat first | refine G_seq ?_ | refine G_skip ?_ | refine G_endblk ?_ | refine G_block ?_ | refine G_exit rfl ?_)
    refine G_cond_t rfl (decide_eq_true (by omega)) ?_
    (repeat first | refine G_seq ?_ | refine G_skip ?_ | refine G_endblk ?_ | refine G_block ?_ | refine G_exit rfl ?_)
    refine G_region ?_
    refine GO_q rfl rfl (ev_move rfl) ?_
    refine GO_q rfl rfl (ev_move rfl) ?_
    refine GO_q rfl rfl (ev_move rfl) ?_
    (first | refine GO_q rfl rfl (ev_subN rfl rfl (by first | omega | (simp; done) | (simp; omega))) ?_ | refine GO_q rfl rfl (ev_sub rfl rfl (by first | omega | (simp; done) | (simp; omega))) ?_)
    (first | refine GO_q rfl rfl (ev_quoN (q := 2) rfl rfl (by first | omega | (simp; done) | (simp; omega)) (by first | omega | (simp; done) | (simp; omega))) ?_ | refine GO_q rfl rfl (ev_quo rfl rfl (by first | omega | (simp; done) | (simp; omega)) (by first | omega | (simp; done) | (simp; omega)) (by first | omega | (simp; done) | (simp; omega))) ?_)
    (first | refine GO_q rfl rfl (ev_addN rfl rfl (by first | omega | (simp; done) | (simp; omega))) ?_ | refine GO_q rfl rfl (ev_add rfl rfl (by first | omega | (simp; done) | (simp; omega))) ?_)
    refine GO_q rfl rfl (ev_assign rfl) ?_
    refine GO_nil ?_
    refine G_heap (own.nil_ 51 3) ?_
    (repeat first | refine G_seq ?_ | refine G_skip ?_ | refine G_endblk ?_ | refine G_block ?_ | refine G_exit rfl ?_)
    refine G_region ?_
    refine GO_q rfl rfl (ev_move rfl) ?_
    refine GO_q rfl rfl (ev_move rfl) ?_
    refine GO_q rfl rfl (ev_move rfl) ?_
    refine GO_eff rfl rfl (eff_call rfl (i1 _)) ?_; rintro _ _ ⟨lo, rfl, ⟨a1, a2⟩, rfl⟩
    refine GO_q rfl rfl (ev_move rfl) ?_
    (first | refine GO_q rfl rfl (ev_addN (q := 1) rfl rfl (by first | omega | (simp; done) | (simp; omega))) ?_ | refine GO_q rfl rfl (ev_add rfl rfl (by first | omega | (simp; done) | (simp; omega))) ?_)
    refine GO_q rfl rfl (ev_move rfl) ?_
    refine GO_eff rfl rfl (eff_call rfl (i2 _)) ?_; rintro _ _ ⟨hi, rfl, ⟨a3, a4⟩, rfl⟩
    refine GO_q rfl rfl (ev_buildA rfl rfl) ?_
    (first | refine GO_q rfl rfl (ev_nilCheck rfl) ?_ | refine GO_q rfl rfl (ev_nilCheckF (by simp) rfl) ?_)
    refine GO_q rfl rfl (ev_fieldAddr rfl) ?_
    refine GO_eff rfl rfl (eff_storeN rfl rfl rfl rfl (by repeat' first | exact Upd.here rfl | apply Upd.skip | apply Upd.app)) ?_; rintro _ _ ⟨rfl, rfl⟩
    refine GO_nil ?_
    (repeat first | refine G_seq ?_ | refine G_skip ?_ | refine G_endblk ?_ | refine G_block ?_ | refine G_exit rfl ?_)
    refine G_region ?_
    refine GO_q rfl rfl (ev_move rfl) ?_
    refine GO_q rfl rfl (ev_assign rfl) ?_
    refine GO_nil ?_
    (repeat first | refine G_seq ?_ | refine G_skip ?_ | refine G_endblk ?_ | refine G_block ?_ | refine G_exit rfl ?_)
    exact G_ret (L' := saH (.node b10 f t none 0 [] lo hi) :: L) rfl (.tmp rfl .nil) (by (repeat first | exact en_refl | apply en_sa rfl rfl | (apply en_blk; focus ((repeat' first | exact Pick.here | apply Pick.skip | apply Pick.app); done); focus rfl) | (apply en_own; focus ((repeat' first | exact Pick.here | apply Pick.skip | apply Pick.app); done); focus rfl) | (apply en_pick; focus ((repeat' first | exact Pick.here | apply Pick.skip | apply Pick.app); done)) | apply en_drop | apply en_app) <;> fail) ⟨.node b10 f t none 0 [] lo hi, rfl, ⟨fun q o => ⟨rfl, rfl, rfl, .inl ⟨by omega, a1 q _, a3 q _⟩⟩, ⟨⟨fun h => absurd h (Nat.lt_irrefl 0), Nat.le_refl _⟩, a2, a4⟩⟩, rfl⟩
end Go.Proofs.YtmgkmammkmlakaaGreat
/- Boxes, windows and intervals: the walks of the small functions (for the laws of plan). -/
namespace Go.Proofs.YtmgkmammkmlakaaGreat
attribute [local irreducible] sat
set_option linter.unusedVariables false
set_option linter.unusedSimpArgs false
set_option maxRecDepth 100000

def good (n : Int) : Bool := decide (-1099511627776 ≤ n) && decide (n ≤ 1099511627776)
def wthn (n lo hi : Int) : Bool := decide (lo ≤ n ∧ n ≤ hi)

theorem Good_ctr (n : Int) (L : List HP) : Ctr Tryz.prog 89 #[.int .i64 n] L fun v L' => v = .bool (good n) ∧ L' = L := by
  refine Ctr_of (fn := Tryz.f89) (n := 9) Tryz.func89 rfl rfl rfl ?_
  intro g F
  (repeat first | refine G_seq ?_ | refine G_skip ?_ | refine G_endblk ?_ | refine G_block ?_ | refine G_exit rfl ?_)
  refine G_region ?_
  refine GO_q rfl rfl (ev_assign rfl) ?_
  refine GO_nil ?_
  (repeat first | refine G_seq ?_ | refine G_skip ?_ | refine G_endblk ?_ | refine G_block ?_ | refine G_exit rfl ?_)
  refine G_region ?_
  refine GO_q rfl rfl (ev_move rfl) ?_
  refine GO_q rfl rfl (ev_geq rfl rfl) ?_
  refine GO_q rfl rfl (ev_move rfl) ?_
  refine GO_guard rfl rfl rfl (fun hq3 => ?y1) (fun hq3 => ?n1)
  case' n1 =>
    have hp3 := hq3
    try simp only [decide_eq_true_eq, decide_eq_false_iff_not, Bool.not_true, Bool.not_false] at hp3
    refine GO_no rfl rfl rfl hq3 ?_
    refine GO_q rfl rfl (ev_pick_f rfl hq3 rfl) ?_
    refine GO_q rfl rfl (ev_assign rfl) ?_
    refine GO_nil ?_
  case' y1 =>
    have hp3 := hq3
    try simp only [decide_eq_true_eq, decide_eq_false_iff_not, Bool.not_true, Bool.not_false] at hp3
    refine GO_q rfl rfl (ev_move rfl) ?_
    refine GO_yes rfl rfl rfl hq3 ?_
    refine GO_q rfl rfl (ev_leq rfl rfl) ?_
    refine GO_q rfl rfl (ev_pick_t rfl hq3 rfl) ?_
    refine GO_q rfl rfl (ev_assign rfl) ?_
    refine GO_nil ?_
  · (repeat first | refine G_seq ?_ | refine G_skip ?_ | refine G_endblk ?_ | refine G_block ?_ | refine G_exit rfl ?_)
    refine G_ret rfl (.tmp rfl .nil) (by (repeat first | exact fun _ s => s | apply en_keep | apply en_drop | apply en_app) <;> fail) ⟨by simp [retv, good]; omega, rfl⟩
  · (repeat first | refine G_seq ?_ | refine G_skip ?_ | refine G_endblk ?_ | refine G_block ?_ | refine G_exit rfl ?_)
    refine G_ret rfl (.tmp rfl .nil) (by (repeat first | exact fun _ s => s | apply en_keep | apply en_drop | apply en_app) <;> fail) ⟨by simp [retv, good]; omega, rfl⟩
theorem Coord_ctr (n : Int) (L : List HP) : Ctr Tryz.prog 145 #[.int .i64 n] L fun v L' => v = .bool (good n) ∧ L' = L := by
  refine Ctr_of (fn := Tryz.f145) (n := 9) Tryz.func145 rfl rfl rfl ?_
  intro g F
  (repeat first | refine G_seq ?_ | refine G_skip ?_ | refine G_endblk ?_ | refine G_block ?_ | refine G_exit rfl ?_)
  refine G_region ?_
  refine GO_q rfl rfl (ev_assign rfl) ?_
  refine GO_nil ?_
  (repeat first | refine G_seq ?_ | refine G_skip ?_ | refine G_endblk ?_ | refine G_block ?_ | refine G_exit rfl ?_)
  refine G_region ?_
  refine GO_q rfl rfl (ev_move rfl) ?_
  refine GO_q rfl rfl (ev_geq rfl rfl) ?_
  refine GO_q rfl rfl (ev_move rfl) ?_
  refine GO_guard rfl rfl rfl (fun hq3 => ?y2) (fun hq3 => ?n2)
  case' n2 =>
    have hp3 := hq3
    try simp only [decide_eq_true_eq, decide_eq_false_iff_not, Bool.not_true, Bool.not_false] at hp3
    refine GO_no rfl rfl rfl hq3 ?_
    refine GO_q rfl rfl (ev_pick_f rfl hq3 rfl) ?_
    refine GO_q rfl rfl (ev_assign rfl) ?_
    refine GO_nil ?_
  case' y2 =>
    have hp3 := hq3
    try simp only [decide_eq_true_eq, decide_eq_false_iff_not, Bool.not_true, Bool.not_false] at hp3
    refine GO_q rfl rfl (ev_move rfl) ?_
    refine GO_yes rfl rfl rfl hq3 ?_
    refine GO_q rfl rfl (ev_leq rfl rfl) ?_
    refine GO_q rfl rfl (ev_pick_t rfl hq3 rfl) ?_
    refine GO_q rfl rfl (ev_assign rfl) ?_
    refine GO_nil ?_
  · (repeat first | refine G_seq ?_ | refine G_skip ?_ | refine G_endblk ?_ | refine G_block ?_ | refine G_exit rfl ?_)
    refine G_ret rfl (.tmp rfl .nil) (by (repeat first | exact fun _ s => s | apply en_keep | apply en_drop | apply en_app) <;> fail) ⟨by simp [retv, good]; omega, rfl⟩
  · (repeat first | refine G_seq ?_ | refine G_skip ?_ | refine G_endblk ?_ | refine G_block ?_ | refine G_exit rfl ?_)
    refine G_ret rfl (.tmp rfl .nil) (by (repeat first | exact fun _ s => s | apply en_keep | apply en_drop | apply en_app) <;> fail) ⟨by simp [retv, good]; omega, rfl⟩
/-- A box: its four numbers. -/
structure Bx where
  x1 : Int
  x2 : Int
  y1 : Int
  y2 : Int
/-- A window: its three. -/
structure Wn where
  x1 : Int
  x2 : Int
  y : Int
/-- An interval with its number. -/
structure Sp where
  id : Int
  lo : Int
  hi : Int
def Bx.has (b : Bx) (x y : Int) : Bool := wthn x b.x1 b.x2 && wthn y b.y1 b.y2
def Wn.sees (w : Wn) (x y : Int) : Bool := wthn x w.x1 w.x2 && decide (w.y ≤ y)
def Sp.over (s t : Sp) : Bool := decide (s.lo ≤ s.hi ∧ t.lo ≤ t.hi ∧ s.lo ≤ t.hi ∧ t.lo ≤ s.hi)

/-- The judgement of a box: 0, 2 (a number that is no coordinate), 3 (out of order). -/
def Bx.chk (b : Bx) : Int :=
  if good b.x1 && good b.x2 && good b.y1 && good b.y2 then (if b.x1 > b.x2 ∨ b.y1 > b.y2 then 3 else 0) else 2
def Wn.bx (w : Wn) : Bx := ⟨w.x1, w.x2, w.y, 1099511627776⟩
end Go.Proofs.YtmgkmammkmlakaaGreat
/- Lists of intervals in order: sorted at api.Span. -/
namespace Go.Proofs.YtmgkmammkmlakaaGreat
attribute [local irreducible] sat
set_option linter.unusedVariables false
set_option linter.unusedSimpArgs false
set_option maxRecDepth 100000

/-- What is true of the first ones alone. -/
theorem fall_split (p : Pt → Bool) : ∀ (l : List Pt), l.Pairwise (fun a b => p b = true → p a = true) → l.filter p ++ l.filter (fun x => !p x) = l
  | [], _ => rfl
  | a :: l, h => by
    rw [List.pairwise_cons] at h
    have ih := fall_split p l h.2
    cases ha : p a with
    | true => rw [List.filter_cons_of_pos (by simpa using ha), List.filter_cons_of_neg (by simp [ha]), List.cons_append, ih]
    | false =>
      have h0 : l.filter p = [] := by
        rw [List.filter_eq_nil_iff]; intro b hb hpb
        have := h.1 b hb hpb
        rw [ha] at this; cases this
      rw [List.filter_cons_of_neg (by simp [ha]), List.filter_cons_of_pos (by simp [ha]), h0, List.nil_append]
      rw [h0, List.nil_append] at ih
      rw [ih]
theorem fall_take (p : Pt → Bool) (l : List Pt) (h : l.Pairwise (fun a b => p b = true → p a = true)) : l.take (l.countP p) = l.filter p := by
  have e : l.countP p = (l.filter p).length := List.countP_eq_length_filter
  rw [e]
  have h2 := congrArg (List.take (l.filter p).length) (fall_split p l h)
  rw [List.take_left] at h2
  exact h2.symm
theorem fall_drop (p : Pt → Bool) (l : List Pt) (h : l.Pairwise (fun a b => p b = true → p a = true)) : l.drop (l.countP p) = l.filter (fun x => !p x) := by
  have h1 := fall_take p l h
  have h2 := fall_split p l h
  have h3 := List.take_append_drop (l.countP p) l
  rw [h1] at h3
  exact List.append_cancel_left (h3.trans h2.symm)
theorem fall_at (p : Pt → Bool) (l : List Pt) (h : l.Pairwise (fun a b => p b = true → p a = true)) (j : Nat) (a : Pt) (hj : l[j]? = some a) : (!p a) = true ↔ l.countP p ≤ j := by
  rcases Nat.lt_or_ge j (l.countP p) with h1 | h1
  · have : a ∈ l.filter p := by
      rw [← fall_take p l h]
      exact List.mem_of_getElem? (i := j) (by rw [List.getElem?_take_of_lt h1]; exact hj)
    have := (List.mem_filter.1 this).2
    simp [this]; omega
  · have : a ∈ l.filter (fun x => !p x) := by
      rw [← fall_drop p l h]
      exact List.mem_of_getElem? (i := j - l.countP p) (by rw [List.getElem?_drop, show l.countP p + (j - l.countP p) = j by omega]; exact hj)
    have := (List.mem_filter.1 this).2
    simp only [this, true_iff]; exact h1
theorem Asc.fall_less {l : List Pt} (h : Asc l) (v : Pt) : l.Pairwise (fun a b => b.less v = true → a.less v = true) := h.imp fun hab hb => Pt.less_trans hab hb
theorem Asc.fall_lo {l : List Pt} (h : Asc l) (x : Int) : l.Pairwise (fun a b => decide (b.x ≤ x) = true → decide (a.x ≤ x) = true) := h.imp fun {a b} hab hb => by
  rw [Pt.less_iff] at hab
  simp at hb ⊢; omega
/-- Where an interval stands, or would. -/
def loS (v : Pt) (l : List Pt) : Nat := l.countP (fun x => x.less v)
theorem loS_le (v : Pt) (l : List Pt) : loS v l ≤ l.length := List.countP_le_length
theorem loS_get {l : List Pt} (h : Asc l) (v a : Pt) (hg : l[loS v l]? = some a) : (!v.less a) = decide (v ∈ l) := by
  have h1 := (fall_at _ l (h.fall_less v) _ a hg).2 (Nat.le_refl _)
  have h1' : a.less v = false := by simpa using h1
  have ha := List.mem_of_getElem? hg
  by_cases hv : v ∈ l
  · rw [decide_eq_true hv]
    obtain ⟨j, hj⟩ := List.getElem?_of_mem hv
    have h2 := (fall_at _ l (h.fall_less v) _ v hj).1 (by simp [Pt.less_irrefl])
    have h2' : loS v l ≤ j := h2
    rcases Nat.lt_or_eq_of_le h2' with h3 | h3
    · have hjl : j < l.length := (List.getElem?_eq_some_iff.1 hj).1
      have h4 := List.pairwise_iff_getElem.1 h (loS v l) j (by omega) hjl h3
      have h5 : l[j] = v := (List.getElem?_eq_some_iff.1 hj).2
      have h6 : l[loS v l] = a := (List.getElem?_eq_some_iff.1 hg).2
      rw [h5, h6, h1'] at h4; cases h4
    · rw [h3, hj] at hg; cases hg
      simp [Pt.less_irrefl]
  · rw [decide_eq_false hv]
    have hne : a ≠ v := fun e => hv (e ▸ ha)
    simp [Pt.less_total hne h1']
theorem loS_out {l : List Pt} (h : Asc l) (v : Pt) (hg : ¬ loS v l < l.length) : v ∉ l := fun hv => by
  obtain ⟨j, hj⟩ := List.getElem?_of_mem hv
  have h2 := (fall_at _ l (h.fall_less v) _ v hj).1 (by simp [Pt.less_irrefl])
  have h2' : loS v l ≤ j := h2
  have hjl : j < l.length := (List.getElem?_eq_some_iff.1 hj).1
  omega
theorem loS_erase {l : List Pt} (h : Asc l) (v : Pt) (hv : v ∈ l) : loS v l < l.length ∧ l.take (loS v l) ++ l.drop (loS v l + 1) = l.erase v := by
  have hlt : loS v l < l.length := by
    rcases Nat.lt_or_ge (loS v l) l.length with h1 | h1
    · exact h1
    · exact absurd hv (loS_out h v (by omega))
  refine ⟨hlt, ?_⟩
  have hg : l[loS v l]? = some l[loS v l] := List.getElem?_eq_getElem hlt
  have h1 := loS_get h v _ hg
  rw [decide_eq_true hv] at h1
  have h2 := (fall_at _ l (h.fall_less v) _ _ hg).2 (Nat.le_refl _)
  have e : l[loS v l] = v := by
    rcases Classical.em (l[loS v l] = v) with h3 | h3
    · exact h3
    · have := Pt.less_total h3 (by simpa using h2)
      rw [this] at h1; cases h1
  have hnot : v ∉ l.take (loS v l) := by
    rw [show l.take (loS v l) = l.filter _ from fall_take _ l (h.fall_less v)]
    intro h3
    have := (List.mem_filter.1 h3).2
    rw [Pt.less_irrefl] at this; cases this
  conv => rhs; rw [← List.take_append_drop (loS v l) l, List.drop_eq_getElem_cons hlt, List.erase_append_right _ hnot, e, List.erase_cons_head]
theorem first1S_ctr (a v : Pt) (b4 b5 : Nat) (L : List HP) (h4 : LdN L b4 0 3 [.int .i64 v.id, .int .i64 v.x, .int .i64 v.y]) (h5 : Ld L ⟨b5, 0, none⟩ (.func (.func 57) #[] #[])) :
    Ctr Tryz.prog 138 #[a.v, .pointer (some ⟨b5, 0, none⟩), .pointer (some ⟨b4, 0, none⟩)] L fun r L' => r = .bool (!a.less v) ∧ L' = L := by
  refine Ctr_of (fn := Tryz.f138) (n := 10) Tryz.func138 rfl rfl rfl ?_
  intro g F
  (repeat first | refine G_seq ?_ | refine G_skip ?_ | refine G_endblk ?_ | refine G_block ?_ | refine G_exit rfl ?_)
  refine G_region ?_
  refine GO_eff rfl rfl (eff_box rfl) ?_; rintro _ _ ⟨b3, rfl, rfl⟩
  refine GO_q rfl rfl (ev_assign rfl) ?_
  refine GO_nil ?_
  (repeat first | refine G_seq ?_ | refine G_skip ?_ | refine G_endblk ?_ | refine G_block ?_ | refine G_exit rfl ?_)
  refine G_region ?_
  refine GO_q rfl rfl (ev_load rfl (by repeat' first | exact Ld.blk rfl | assumption | apply Ld.skip | apply Ld.app)) ?_
  refine GO_q rfl rfl (ev_loadN rfl (by repeat' first | exact LdN.blk rfl | assumption | apply LdN.skip | apply LdN.app)) ?_
  refine GO_q rfl rfl (ev_loadN rfl (by repeat' first | exact LdN.blk rfl | assumption | apply LdN.skip | apply LdN.app)) ?_
  refine GO_eff rfl rfl (eff_callv rfl rfl (less_ctr a v _)) ?_; rintro _ _ ⟨rfl, rfl⟩
  refine GO_q rfl rfl (ev_not rfl) ?_
  refine GO_q rfl rfl (ev_assign rfl) ?_
  refine GO_nil ?_
  (repeat first | refine G_seq ?_ | refine G_skip ?_ | refine G_endblk ?_ | refine G_block ?_ | refine G_exit rfl ?_)
  refine G_ret rfl (.tmp rfl .nil) (by (repeat first | exact fun _ s => s | apply en_keep | apply en_drop | apply en_app) <;> fail) ⟨rfl, rfl⟩
theorem firstS_ctr (A : Option Addr) (n c : Nat) (l : List Pt) (v : Pt) (L : List HP) (hl : Rd L A n l) (hn : n ≤ 1000000) (ho : Asc l) :
    Ctr Tryz.prog 122 #[.slice A n c, v.v, .func (.func 57) #[] #[]] L fun r L' => r = .int .i64 (loS v l : Nat) ∧ L' = L := by
  have h1 : l.length = n := hl.len (by decide)
  have hk := loS_le v l
  have hsp := fall_at _ l (ho.fall_less v)
  refine Ctr_of (fn := Tryz.f122) (n := 10) Tryz.func122 rfl rfl rfl ?_
  intro g F
  (repeat first | refine G_seq ?_ | refine G_skip ?_ | refine G_endblk ?_ | refine G_block ?_ | refine G_exit rfl ?_)
  refine G_region ?_
  refine GO_eff rfl rfl (eff_box rfl) ?_; rintro _ _ ⟨b4, rfl, rfl⟩
  refine GO_eff rfl rfl (eff_box rfl) ?_; rintro _ _ ⟨b5, rfl, rfl⟩
  refine GO_q rfl rfl (ev_assign rfl) ?_
  refine GO_nil ?_
  (repeat first | refine G_seq ?_ | refine G_skip ?_ | refine G_endblk ?_ | refine G_block ?_ | refine G_exit rfl ?_)
  refine G_region ?_
  refine GO_q rfl rfl (ev_move rfl) ?_
  refine GO_q rfl rfl (ev_makeFunc rfl rfl) ?_
  refine GO_eff rfl rfl (eff_call rfl (seek_ctr 138 [] [.pointer (some ⟨b5, 0, none⟩), .pointer (some ⟨b4, 0, none⟩)] (fun a => !a.less v) A n c (loS v l) l _ (by repeat' first | exact Rc.blk rfl | assumption | apply Rd.skip | apply Rd.app) hn (by omega) hsp (fun a => first1S_ctr a v b4 b5 _ (by repeat' first | exact LdN.blk rfl | assumption | apply LdN.skip | apply LdN.app) (by repeat' first | exact Ld.blk rfl | assumption | apply Ld.skip | apply Ld.app)))) ?_; rintro _ _ ⟨rfl, rfl⟩
  refine GO_q rfl rfl (ev_assign rfl) ?_
  refine GO_nil ?_
  (repeat first | refine G_seq ?_ | refine G_skip ?_ | refine G_endblk ?_ | refine G_block ?_ | refine G_exit rfl ?_)
  refine G_ret rfl (.tmp rfl .nil) (by (repeat first | exact fun _ s => s | apply en_keep | apply en_drop | apply en_app) <;> fail) ⟨rfl, rfl⟩
theorem hasS_ctr (A : Option Addr) (n c : Nat) (l : List Pt) (v : Pt) (L : List HP) (hl : Rd L A n l) (hn : n ≤ 1000000) (ho : Asc l) :
    Ctr Tryz.prog 101 #[.slice A n c, v.v, .func (.func 57) #[] #[]] L fun r L' => r = .tuple #[.int .i64 (loS v l : Nat), .bool (decide (v ∈ l))] ∧ L' = L := by
  have h1 : l.length = n := hl.len (by decide)
  have hfi := fun L hl => firstS_ctr A n c l v L hl hn ho
  have hget := loS_get ho v
  have hout := loS_out ho v
  generalize hk : loS v l = k at *
  generalize hd : decide (v ∈ l) = d at *
  by_cases c1 : k < n
  · obtain ⟨b1, o1, rfl, x1⟩ := hl.at_ (by omega)
    have g1 : l[k]? = some l[k] := List.getElem?_eq_getElem (by omega)
    have y1 := x1 _ _ g1
    have hg := hget _ g1
    generalize l[k] = u at *
    have z1 : LdN L b1 (o1 + k * 3) 3 [.int .i64 u.id, .int .i64 u.x, .int .i64 u.y] := y1
    subst hg
    refine Ctr_of (fn := Tryz.f101) (n := 28) Tryz.func101 rfl rfl rfl ?_
    intro g F
    (repeat first | refine G_seq ?_ | refine G_skip ?_ | refine G_endblk ?_ | refine G_block ?_ | refine G_exit rfl ?_)
    refine G_region ?_
    refine GO_eff rfl rfl (eff_box rfl) ?_; rintro _ _ ⟨b4, rfl, rfl⟩
    refine GO_q rfl rfl (ev_assign rfl) ?_
    refine GO_q rfl rfl (ev_assign rfl) ?_
    refine GO_nil ?_
    (repeat first | refine G_seq ?_ | refine G_skip ?_ | refine G_endblk ?_ | refine G_block ?_ | refine G_exit rfl ?_)
    refine G_region ?_
    refine GO_q rfl rfl (ev_move rfl) ?_
    refine GO_q rfl rfl (ev_loadN rfl (by repeat' first | exact LdN.blk rfl | assumption | apply LdN.skip | apply LdN.app)) ?_
    refine GO_q rfl rfl (ev_move rfl) ?_
    refine GO_eff rfl rfl (eff_call rfl (hfi _ (by repeat' first | exact Rc.blk rfl | assumption | apply Rd.skip | apply Rd.app))) ?_; rintro _ _ ⟨rfl, rfl⟩
    refine GO_q rfl rfl (ev_assign rfl) ?_
    refine GO_nil ?_
    (repeat first | refine G_seq ?_ | refine G_skip ?_ | refine G_endblk ?_ | refine G_block ?_ | refine G_exit rfl ?_)
    refine G_draw (.q 0 (.q 1 (.q 2 (.q 3 (.q 4 (.q 5 (.q 6 (.q 7 (.q 8 (.q 9 (.q 10 (.q 11 (.e 12 (.q 13 (.q 14 (.q 15 (.q 16 .nil))))))))))))))))) (by kernel_rfl) (by kernel_rfl) ?_
    refine RS_m retB_noPanic rfl rfl rfl rfl (ev_move rfl) ?_
    refine RS_m retB_noPanic rfl rfl rfl rfl (ev_move rfl) ?_
    refine RS_m retB_noPanic rfl rfl rfl rfl (ev_move rfl) ?_
    refine RS_q retB_noPanic rfl rfl rfl rfl (ev_len rfl) ?_
    (first | refine RS_m retB_noPanic rfl rfl rfl rfl (ev_lssN rfl rfl) ?_ | refine RS_m retB_noPanic rfl rfl rfl rfl (ev_lss rfl rfl) ?_)
    refine RS_m retB_noPanic rfl rfl rfl rfl (ev_move rfl) ?_
    refine RS_m_yes retB_noPanic rfl rfl rfl rfl ⟨_, rfl, (decide_eq_true c1)⟩ rfl (ev_move rfl) ?_
    refine RS_q_yes retB_noPanic rfl rfl rfl rfl ⟨_, rfl, (decide_eq_true c1)⟩ rfl (ev_loadN rfl (by repeat' first | exact LdN.blk rfl | assumption | apply LdN.skip | apply LdN.app)) ?_
    refine RS_m_yes retB_noPanic rfl rfl rfl rfl ⟨_, rfl, (decide_eq_true c1)⟩ rfl (ev_move rfl) ?_
    refine RS_m_yes retB_noPanic rfl rfl rfl rfl ⟨_, rfl, (decide_eq_true c1)⟩ rfl (ev_move rfl) ?_
    (first | refine RS_m_yes retB_noPanic rfl rfl rfl rfl ⟨_, rfl, (decide_eq_true c1)⟩ rfl (ev_indexAddrN rfl rfl (by first | omega | (simp; done) | (simp; omega))) ?_ | refine RS_m_yes retB_noPanic rfl rfl rfl rfl ⟨_, rfl, (decide_eq_true c1)⟩ rfl (ev_indexAddr rfl rfl (by first | omega | (simp; done) | (simp; omega)) (by first | omega | (simp; done) | (simp; omega))) ?_)
    refine RS_q_yes retB_noPanic rfl rfl rfl rfl ⟨_, rfl, (decide_eq_true c1)⟩ rfl (ev_loadN rfl (by repeat' first | exact LdN.blk rfl | assumption | apply LdN.skip | apply LdN.app)) ?_
    refine RS_e (RE_eff_yes rfl rfl rfl ⟨_, rfl, (decide_eq_true c1)⟩ rfl (eff_callv rfl rfl (less_ctr v u _)) ?_); rintro _ _ ⟨rfl, rfl⟩; refine ⟨_, fun _ s => s, (by first | ((repeat first | exact fun _ s => s | apply en_keep | apply en_drop | apply en_app) <;> fail) | ((repeat first | exact en_refl | (apply en_blk; focus ((repeat' first | exact Pick.here | apply Pick.skip | apply Pick.app); done); focus rfl) | (apply en_own; focus ((repeat' first | exact Pick.here | apply Pick.skip | apply Pick.app); done); focus rfl) | (apply en_pick; focus ((repeat' first | exact Pick.here | apply Pick.skip | apply Pick.app); done)) | apply en_drop | apply en_app) <;> fail)), ?_⟩
    refine RS_m_yes retB_noPanic rfl rfl rfl rfl ⟨_, rfl, (decide_eq_true c1)⟩ rfl (ev_not rfl) ?_
    refine RS_m retB_noPanic rfl rfl rfl rfl (ev_pick_t rfl (decide_eq_true c1) rfl) ?_
    refine RS_m retB_noPanic rfl rfl rfl rfl (ev_assign rfl) ?_
    refine RS_m retB_noPanic rfl rfl rfl rfl (ev_assign rfl) ?_
    refine RS_nil ?_
    (repeat first | refine G_seq ?_ | refine G_skip ?_ | refine G_endblk ?_ | refine G_block ?_ | refine G_exit rfl ?_)
    refine G_ret rfl (.tmp rfl (.tmp rfl .nil)) (by (repeat first | exact fun _ s => s | apply en_keep | apply en_drop | apply en_app) <;> fail) ⟨rfl, rfl⟩
  · have : d = false := by rw [← hd]; exact decide_eq_false (hout (by omega))
    subst this
    refine Ctr_of (fn := Tryz.f101) (n := 28) Tryz.func101 rfl rfl rfl ?_
    intro g F
    (repeat first | refine G_seq ?_ | refine G_skip ?_ | refine G_endblk ?_ | refine G_block ?_ | refine G_exit rfl ?_)
    refine G_region ?_
    refine GO_eff rfl rfl (eff_box rfl) ?_; rintro _ _ ⟨b4, rfl, rfl⟩
    refine GO_q rfl rfl (ev_assign rfl) ?_
    refine GO_q rfl rfl (ev_assign rfl) ?_
    refine GO_nil ?_
    (repeat first | refine G_seq ?_ | refine G_skip ?_ | refine G_endblk ?_ | refine G_block ?_ | refine G_exit rfl ?_)
    refine G_region ?_
    refine GO_q rfl rfl (ev_move rfl) ?_
    refine GO_q rfl rfl (ev_loadN rfl (by repeat' first | exact LdN.blk rfl | assumption | apply LdN.skip | apply LdN.app)) ?_
    refine GO_q rfl rfl (ev_move rfl) ?_
    refine GO_eff rfl rfl (eff_call rfl (hfi _ (by repeat' first | exact Rc.blk rfl | assumption | apply Rd.skip | apply Rd.app))) ?_; rintro _ _ ⟨rfl, rfl⟩
    refine GO_q rfl rfl (ev_assign rfl) ?_
    refine GO_nil ?_
    (repeat first | refine G_seq ?_ | refine G_skip ?_ | refine G_endblk ?_ | refine G_block ?_ | refine G_exit rfl ?_)
    refine G_draw (.q 0 (.q 1 (.q 2 (.q 3 (.q 4 (.q 5 (.q 6 (.q 7 (.q 8 (.q 9 (.q 10 (.q 11 (.e 12 (.q 13 (.q 14 (.q 15 (.q 16 .nil))))))))))))))))) (by kernel_rfl) (by kernel_rfl) ?_
    refine RS_m retB_noPanic rfl rfl rfl rfl (ev_move rfl) ?_
    refine RS_m retB_noPanic rfl rfl rfl rfl (ev_move rfl) ?_
    refine RS_m retB_noPanic rfl rfl rfl rfl (ev_move rfl) ?_
    refine RS_q retB_noPanic rfl rfl rfl rfl (ev_len rfl) ?_
    (first | refine RS_m retB_noPanic rfl rfl rfl rfl (ev_lssN rfl rfl) ?_ | refine RS_m retB_noPanic rfl rfl rfl rfl (ev_lss rfl rfl) ?_)
    refine RS_m retB_noPanic rfl rfl rfl rfl (ev_move rfl) ?_
    refine RS_q_no retB_noPanic rfl rfl rfl ⟨_, rfl, (decide_eq_false c1)⟩ rfl ?_
    refine RS_q_no retB_noPanic rfl rfl rfl ⟨_, rfl, (decide_eq_false c1)⟩ rfl ?_
    refine RS_q_no retB_noPanic rfl rfl rfl ⟨_, rfl, (decide_eq_false c1)⟩ rfl ?_
    refine RS_q_no retB_noPanic rfl rfl rfl ⟨_, rfl, (decide_eq_false c1)⟩ rfl ?_
    refine RS_q_no retB_noPanic rfl rfl rfl ⟨_, rfl, (decide_eq_false c1)⟩ rfl ?_
    refine RS_q_no retB_noPanic rfl rfl rfl ⟨_, rfl, (decide_eq_false c1)⟩ rfl ?_
    refine RS_e (RE_no rfl rfl rfl ⟨_, rfl, (decide_eq_false c1)⟩ rfl ?_)
    refine RS_q_no retB_noPanic rfl rfl rfl ⟨_, rfl, (decide_eq_false c1)⟩ rfl ?_
    refine RS_m retB_noPanic rfl rfl rfl rfl (ev_pick_f rfl (decide_eq_false c1) rfl) ?_
    refine RS_m retB_noPanic rfl rfl rfl rfl (ev_assign rfl) ?_
    refine RS_m retB_noPanic rfl rfl rfl rfl (ev_assign rfl) ?_
    refine RS_nil ?_
    (repeat first | refine G_seq ?_ | refine G_skip ?_ | refine G_endblk ?_ | refine G_block ?_ | refine G_exit rfl ?_)
    refine G_ret rfl (.tmp rfl (.tmp rfl .nil)) (by (repeat first | exact fun _ s => s | apply en_keep | apply en_drop | apply en_app) <;> fail) ⟨rfl, rfl⟩
theorem HasS_ctr (A : Option Addr) (n c : Nat) (l : List Pt) (v : Pt) (L : List HP) (hl : Rd L A n l) (hn : n ≤ 1000000) (ho : Asc l) :
    Ctr Tryz.prog 90 #[.slice A n c, v.v, .func (.func 57) #[] #[]] L fun r L' => r = .bool (decide (v ∈ l)) ∧ L' = L := by
  refine Ctr_of (fn := Tryz.f90) (n := 17) Tryz.func90 rfl rfl rfl ?_
  intro g F
  (repeat first | refine G_seq ?_ | refine G_skip ?_ | refine G_endblk ?_ | refine G_block ?_ | refine G_exit rfl ?_)
  refine G_region ?_
  refine GO_eff rfl rfl (eff_box rfl) ?_; rintro _ _ ⟨b4, rfl, rfl⟩
  refine GO_q rfl rfl (ev_assign rfl) ?_
  refine GO_nil ?_
  (repeat first | refine G_seq ?_ | refine G_skip ?_ | refine G_endblk ?_ | refine G_block ?_ | refine G_exit rfl ?_)
  refine G_region ?_
  refine GO_q rfl rfl (ev_move rfl) ?_
  refine GO_q rfl rfl (ev_loadN rfl (by repeat' first | exact LdN.blk rfl | assumption | apply LdN.skip | apply LdN.app)) ?_
  refine GO_q rfl rfl (ev_move rfl) ?_
  refine GO_eff rfl rfl (eff_call rfl (hasS_ctr A n c l v _ (by repeat' first | exact Rc.blk rfl | assumption | apply Rd.skip | apply Rd.app) hn ho)) ?_; rintro _ _ ⟨rfl, rfl⟩
  refine GO_q rfl rfl (ev_move rfl) ?_
  refine GO_q rfl rfl (ev_extract rfl rfl) ?_
  refine GO_q rfl rfl (ev_extract rfl rfl) ?_
  refine GO_q rfl rfl (ev_assign rfl) ?_
  refine GO_q rfl rfl (ev_assign rfl) ?_
  refine GO_nil ?_
  (repeat first | refine G_seq ?_ | refine G_skip ?_ | refine G_endblk ?_ | refine G_block ?_ | refine G_exit rfl ?_)
  refine G_region ?_
  refine GO_q rfl rfl (ev_move rfl) ?_
  refine GO_q rfl rfl (ev_assign rfl) ?_
  refine GO_nil ?_
  (repeat first | refine G_seq ?_ | refine G_skip ?_ | refine G_endblk ?_ | refine G_block ?_ | refine G_exit rfl ?_)
  refine G_ret rfl (.tmp rfl .nil) (by (repeat first | exact fun _ s => s | apply en_keep | apply en_drop | apply en_app) <;> fail) ⟨rfl, rfl⟩
/-- Cut. -/
theorem CutS_ctr (A : Option Addr) (n c : Nat) (l : List Pt) (v : Pt) (L : List HP) (hl : Rd L A n l) (hn : n ≤ 1000000) (ho : Asc l) :
    Ctr Tryz.prog 62 #[.slice A n c, v.v, .func (.func 57) #[] #[]] L fun r L' => ∃ B e, r = .tuple #[.slice B (l.erase v).length e, .bool (decide (v ∈ l))] ∧ ((0 < (l.erase v).length → ∃ b, B = some ⟨b, 0, none⟩) ∧ (l.erase v).length ≤ e ∧ e ≤ maxLen) ∧ L' = own 51 3 B (l.erase v).length e (flat (l.erase v)) :: L := by
  have h1 : l.length = n := hl.len (by decide)
  have hh := fun L hl => hasS_ctr A n c l v L hl hn ho
  by_cases hv : v ∈ l
  · rw [decide_eq_true hv] at hh
    rw [decide_eq_true hv]
    obtain ⟨hlt, he⟩ := loS_erase ho v hv
    generalize loS v l = k at *
    refine Ctr_of (fn := Tryz.f62) (n := 27) Tryz.func62 rfl rfl rfl ?_
    intro g F
    (repeat first | refine G_seq ?_ | refine G_skip ?_ | refine G_endblk ?_ | refine G_block ?_ | refine G_exit rfl ?_)
    refine G_region ?_
    refine GO_eff rfl rfl (eff_box rfl) ?_; rintro _ _ ⟨b4, rfl, rfl⟩
    refine GO_q rfl rfl (ev_assign rfl) ?_
    refine GO_q rfl rfl (ev_assign rfl) ?_
    refine GO_nil ?_
    (repeat first | refine G_seq ?_ | refine G_skip ?_ | refine G_endblk ?_ | refine G_block ?_ | refine G_exit rfl ?_)
    refine G_region ?_
    refine GO_q rfl rfl (ev_move rfl) ?_
    refine GO_q rfl rfl (ev_loadN rfl (by repeat' first | exact LdN.blk rfl | assumption | apply LdN.skip | apply LdN.app)) ?_
    refine GO_q rfl rfl (ev_move rfl) ?_
    refine GO_eff rfl rfl (eff_call rfl (hh _ (by repeat' first | exact Rc.blk rfl | assumption | apply Rd.skip | apply Rd.app))) ?_; rintro _ _ ⟨rfl, rfl⟩
    refine GO_q rfl rfl (ev_move rfl) ?_
    refine GO_q rfl rfl (ev_extract rfl rfl) ?_
    refine GO_q rfl rfl (ev_extract rfl rfl) ?_
    refine GO_q rfl rfl (ev_assign rfl) ?_
    refine GO_q rfl rfl (ev_assign rfl) ?_
    refine GO_nil ?_
    (repeat first | refine G_seq ?_ | refine G_skip ?_ | refine G_endblk ?_ | refine G_block ?_ | refine G_exit rfl ?_)
    refine G_region ?_
    refine GO_q rfl rfl (ev_move rfl) ?_
    refine GO_q rfl rfl (ev_not rfl) ?_
    refine GO_nil ?_
    (repeat first | refine G_seq ?_ | refine G_skip ?_ | refine G_endblk ?_ | refine G_block ?_ | refine G_exit rfl ?_)
    refine G_cond_f rfl rfl ?_
    refine G_heap (L' := F :: L) (by (repeat first | exact fun _ s => s | apply en_keep | apply en_drop | apply en_app) <;> fail) ?_
    have hD := fun b e M => (Delete_ctr b l.length e k l M rfl (by omega) hlt).made
    rw [he] at hD
    (repeat first | refine G_seq ?_ | refine G_skip ?_ | refine G_endblk ?_ | refine G_block ?_ | refine G_exit rfl ?_)
    refine G_region ?_
    refine GO_q rfl rfl (ev_move rfl) ?_
    refine GO_eff rfl rfl (eff_call rfl (Clone_ctr A n c l _ (by repeat' first | exact Rc.blk rfl | assumption | apply Rd.skip | apply Rd.app) hn)) ?_; rintro _ _ ⟨A8, c8, rfl, hn8, rfl⟩
    refine GO_q rfl rfl (ev_move rfl) ?_
    refine GO_q rfl rfl (ev_move rfl) ?_
    (first | refine GO_q rfl rfl (ev_addN (q := 1) rfl rfl (by first | omega | (simp; done) | (simp; omega))) ?_ | refine GO_q rfl rfl (ev_add rfl rfl (by first | omega | (simp; done) | (simp; omega))) ?_)
    refine GO_eff rfl rfl (eff_call rfl (Ctr.pick (by repeat' first | exact Pick.here | apply Pick.skip | apply Pick.app) (show Ctr _ _ _ (own 51 3 A8 l.length c8 (flat l) :: _) _ from by obtain ⟨b, rfl⟩ := hn8 (by omega); exact hD b c8 _))) ?_; rintro _ _ ⟨B, e, rfl, hB, hc, hm, rfl⟩
    refine GO_q rfl rfl (ev_assign rfl) ?_
    refine GO_q rfl rfl (ev_assign rfl) ?_
    refine GO_nil ?_
    (repeat first | refine G_seq ?_ | refine G_skip ?_ | refine G_endblk ?_ | refine G_block ?_ | refine G_exit rfl ?_)
    exact G_ret (L' := own 51 3 B (l.erase v).length e (flat (l.erase v)) :: L) rfl (.tmp rfl (.tmp rfl .nil)) (by (repeat first | exact en_refl | (apply en_blk; focus ((repeat' first | exact Pick.here | apply Pick.skip | apply Pick.app); done); focus rfl) | (apply en_own; focus ((repeat' first | exact Pick.here | apply Pick.skip | apply Pick.app); done); focus rfl) | (apply en_pick; focus ((repeat' first | exact Pick.here | apply Pick.skip | apply Pick.app); done)) | apply en_drop | apply en_app) <;> fail) ⟨B, e, rfl, ⟨hB, hc, hm⟩, rfl⟩
  · rw [decide_eq_false hv] at hh
    rw [decide_eq_false hv, List.erase_of_not_mem hv]
    generalize loS v l = k at *
    refine Ctr_of (fn := Tryz.f62) (n := 27) Tryz.func62 rfl rfl rfl ?_
    intro g F
    (repeat first | refine G_seq ?_ | refine G_skip ?_ | refine G_endblk ?_ | refine G_block ?_ | refine G_exit rfl ?_)
    refine G_region ?_
    refine GO_eff rfl rfl (eff_box rfl) ?_; rintro _ _ ⟨b4, rfl, rfl⟩
    refine GO_q rfl rfl (ev_assign rfl) ?_
    refine GO_q rfl rfl (ev_assign rfl) ?_
    refine GO_nil ?_
    (repeat first | refine G_seq ?_ | refine G_skip ?_ | refine G_endblk ?_ | refine G_block ?_ | refine G_exit rfl ?_)
    refine G_region ?_
    refine GO_q rfl rfl (ev_move rfl) ?_
    refine GO_q rfl rfl (ev_loadN rfl (by repeat' first | exact LdN.blk rfl | assumption | apply LdN.skip | apply LdN.app)) ?_
    refine GO_q rfl rfl (ev_move rfl) ?_
    refine GO_eff rfl rfl (eff_call rfl (hh _ (by repeat' first | exact Rc.blk rfl | assumption | apply Rd.skip | apply Rd.app))) ?_; rintro _ _ ⟨rfl, rfl⟩
    refine GO_q rfl rfl (ev_move rfl) ?_
    refine GO_q rfl rfl (ev_extract rfl rfl) ?_
    refine GO_q rfl rfl (ev_extract rfl rfl) ?_
    refine GO_q rfl rfl (ev_assign rfl) ?_
    refine GO_q rfl rfl (ev_assign rfl) ?_
    refine GO_nil ?_
    (repeat first | refine G_seq ?_ | refine G_skip ?_ | refine G_endblk ?_ | refine G_block ?_ | refine G_exit rfl ?_)
    refine G_region ?_
    refine GO_q rfl rfl (ev_move rfl) ?_
    refine GO_q rfl rfl (ev_not rfl) ?_
    refine GO_nil ?_
    (repeat first | refine G_seq ?_ | refine G_skip ?_ | refine G_endblk ?_ | refine G_block ?_ | refine G_exit rfl ?_)
    refine G_cond_t rfl rfl ?_
    refine G_heap (L' := F :: L) (by (repeat first | exact fun _ s => s | apply en_keep | apply en_drop | apply en_app) <;> fail) ?_
    (repeat first | refine G_seq ?_ | refine G_skip ?_ | refine G_endblk ?_ | refine G_block ?_ | refine G_exit rfl ?_)
    refine G_region ?_
    refine GO_q rfl rfl (ev_move rfl) ?_
    refine GO_eff rfl rfl (eff_call rfl ((Clone_ctr A n c l _ (by repeat' first | exact Rc.blk rfl | assumption | apply Rd.skip | apply Rd.app) hn).made)) ?_; rintro _ _ ⟨A8, c8, rfl, hn8, hc8, hm8, rfl⟩
    refine GO_q rfl rfl (ev_assign rfl) ?_
    refine GO_q rfl rfl (ev_assign rfl) ?_
    refine GO_nil ?_
    (repeat first | refine G_seq ?_ | refine G_skip ?_ | refine G_endblk ?_ | refine G_block ?_ | refine G_exit rfl ?_)
    exact G_ret (L' := own 51 3 A8 l.length c8 (flat l) :: L) rfl (.tmp rfl (.tmp rfl .nil)) (by (repeat first | exact en_refl | (apply en_blk; focus ((repeat' first | exact Pick.here | apply Pick.skip | apply Pick.app); done); focus rfl) | (apply en_own; focus ((repeat' first | exact Pick.here | apply Pick.skip | apply Pick.app); done); focus rfl) | (apply en_pick; focus ((repeat' first | exact Pick.here | apply Pick.skip | apply Pick.app); done)) | apply en_drop | apply en_app) <;> fail) ⟨A8, c8, rfl, ⟨hn8, hc8, hm8⟩, rfl⟩
theorem IsS_ctr (A : Option Addr) (n c : Nat) (l : List Pt) (L : List HP) (hl : Rd L A n l) (hn : n ≤ 1000000) (ho : Asc l) :
    Ctr Tryz.prog 68 #[.slice A n c, .func (.func 57) #[] #[]] L fun r L' => r = .bool true ∧ L' = L := by
  have h1 : l.length = n := hl.len (by decide)
  refine Ctr_of (fn := Tryz.f68) (n := 23) Tryz.func68 rfl rfl rfl ?_
  intro g F
  (repeat first | refine G_seq ?_ | refine G_skip ?_ | refine G_endblk ?_ | refine G_block ?_ | refine G_exit rfl ?_)
  refine G_region ?_
  refine GO_q rfl rfl (ev_assign rfl) ?_
  refine GO_nil ?_
  (repeat first | refine G_seq ?_ | refine G_skip ?_ | refine G_endblk ?_ | refine G_block ?_ | refine G_exit rfl ?_)
  refine G_region ?_
  refine GO_q rfl rfl (ev_assign rfl) ?_
  refine GO_nil ?_
  (repeat first | refine G_seq ?_ | refine G_skip ?_ | refine G_endblk ?_ | refine G_block ?_ | refine G_exit rfl ?_)
  refine G_loop (ι := Nat) (fun k => [(0, .slice A n c), (1, .func (.func 57) #[] #[]), (5, .int .i64 (k : Nat))]) (fun _ => F :: L) (fun k => 1 ≤ k ∧ k ≤ n + 1) (fun k => n + 1 - k) 1 ⟨Nat.le_refl _, by omega⟩ ⟨rfl, rfl, rfl, trivial⟩ (by (repeat first | exact fun _ s => s | apply en_keep | apply en_drop | apply en_app) <;> fail) ?_
  rintro k ⟨k1, k2⟩
  (repeat first | refine G_seq ?_ | refine G_skip ?_ | refine G_endblk ?_ | refine G_block ?_ | refine G_exit rfl ?_)
  refine G_region ?_
  refine GO_q rfl rfl (ev_move rfl) ?_
  refine GO_q rfl rfl (ev_move rfl) ?_
  refine GO_q rfl rfl (ev_len rfl) ?_
  (first | refine GO_q rfl rfl (ev_lssN rfl rfl) ?_ | refine GO_q rfl rfl (ev_lss rfl rfl) ?_)
  refine GO_nil ?_
  (repeat first | refine G_seq ?_ | refine G_skip ?_ | refine G_endblk ?_ | refine G_block ?_ | refine G_exit rfl ?_)
  refine G_cond rfl (fun c1 => ?_) (fun c1 => ?_)
  · obtain ⟨b1, o1, rfl, x1⟩ := hl.at_ (by omega)
    have g1 : l[k]? = some l[k] := List.getElem?_eq_getElem (by omega)
    have g2 : l[k - 1]? = some l[k - 1] := List.getElem?_eq_getElem (by omega)
    have y1 := x1 _ _ g1
    have y2 := x1 _ _ g2
    have hlt := Pt.less_asymm (List.pairwise_iff_getElem.1 ho (k - 1) k (by omega) (by omega) (by omega))
    generalize l[k] = u at *
    generalize l[k - 1] = w at *
    have z1 : LdN L b1 (o1 + k * 3) 3 [.int .i64 u.id, .int .i64 u.x, .int .i64 u.y] := y1
    have z2 : LdN L b1 (o1 + (k - 1) * 3) 3 [.int .i64 w.id, .int .i64 w.x, .int .i64 w.y] := y2
    (repeat first | refine G_seq ?_ | refine G_skip ?_ | refine G_endblk ?_ | refine G_block ?_ | refine G_exit rfl ?_)
    refine G_draw (.q 0 (.q 1 (.q 2 (.q 3 (.q 4 (.q 5 (.q 6 (.q 7 (.q 8 (.q 9 (.e 10 .nil))))))))))) (by kernel_rfl) (by kernel_rfl) ?_
    refine RS_m retB_noPanic rfl rfl rfl rfl (ev_move rfl) ?_
    refine RS_m retB_noPanic rfl rfl rfl rfl (ev_move rfl) ?_
    refine RS_m retB_noPanic rfl rfl rfl rfl (ev_move rfl) ?_
    (first | refine RS_m retB_noPanic rfl rfl rfl rfl (ev_indexAddrN rfl rfl (by first | omega | (simp; done) | (simp; omega))) ?_ | refine RS_m retB_noPanic rfl rfl rfl rfl (ev_indexAddr rfl rfl (by first | omega | (simp; done) | (simp; omega)) (by first | omega | (simp; done) | (simp; omega))) ?_)
    refine RS_q retB_noPanic rfl rfl rfl rfl (ev_loadN rfl (by repeat' first | exact LdN.blk rfl | assumption | apply LdN.skip | apply LdN.app)) ?_
    refine RS_m retB_noPanic rfl rfl rfl rfl (ev_move rfl) ?_
    refine RS_m retB_noPanic rfl rfl rfl rfl (ev_move rfl) ?_
    (first | refine RS_m retB_noPanic rfl rfl rfl rfl (ev_subN (q := 1) rfl rfl (by first | omega | (simp; done) | (simp; omega))) ?_ | refine RS_m retB_noPanic rfl rfl rfl rfl (ev_sub rfl rfl (by first | omega | (simp; done) | (simp; omega))) ?_)
    (first | refine RS_m retB_noPanic rfl rfl rfl rfl (ev_indexAddrN rfl rfl (by first | omega | (simp; done) | (simp; omega))) ?_ | refine RS_m retB_noPanic rfl rfl rfl rfl (ev_indexAddr rfl rfl (by first | omega | (simp; done) | (simp; omega)) (by first | omega | (simp; done) | (simp; omega))) ?_)
    refine RS_q retB_noPanic rfl rfl rfl rfl (ev_loadN rfl (by repeat' first | exact LdN.blk rfl | assumption | apply LdN.skip | apply LdN.app)) ?_
    refine RS_e (RE_last (by kernel_rfl) rfl rfl rfl (eff_callv rfl rfl (less_ctr u w _)) ?_); rintro _ _ ⟨rfl, rfl⟩
    (repeat first | refine G_seq ?_ | refine G_skip ?_ | refine G_endblk ?_ | refine G_block ?_ | refine G_exit rfl ?_)
    refine G_cond_f rfl hlt ?_
    (repeat first | refine G_seq ?_ | refine G_skip ?_ | refine G_endblk ?_ | refine G_block ?_ | refine G_exit rfl ?_)
    (repeat first | refine G_seq ?_ | refine G_skip ?_ | refine G_endblk ?_ | refine G_block ?_ | refine G_exit rfl ?_)
    refine G_region ?_
    refine GO_q rfl rfl (ev_move rfl) ?_
    (first | refine GO_q rfl rfl (ev_addN (q := 1) rfl rfl (by first | omega | (simp; done) | (simp; omega))) ?_ | refine GO_q rfl rfl (ev_add rfl rfl (by first | omega | (simp; done) | (simp; omega))) ?_)
    refine GO_q rfl rfl (ev_assign rfl) ?_
    refine GO_nil ?_
    (repeat first | refine G_seq ?_ | refine G_skip ?_ | refine G_endblk ?_ | refine G_block ?_ | refine G_exit rfl ?_)
    exact G_round (k + 1) ⟨by omega, by omega⟩ (by omega) ⟨rfl, rfl, rfl, trivial⟩ (by (repeat first | exact fun _ s => s | apply en_keep | apply en_drop | apply en_app) <;> fail)
  · (repeat first | refine G_seq ?_ | refine G_skip ?_ | refine G_endblk ?_ | refine G_block ?_ | refine G_exit rfl ?_)
    refine G_region ?_
    refine GO_q rfl rfl (ev_assign rfl) ?_
    refine GO_nil ?_
    (repeat first | refine G_seq ?_ | refine G_skip ?_ | refine G_endblk ?_ | refine G_block ?_ | refine G_exit rfl ?_)
    refine G_ret rfl (.tmp rfl .nil) (by (repeat first | exact fun _ s => s | apply en_keep | apply en_drop | apply en_app) <;> fail) ⟨rfl, rfl⟩
/-- How many begin no later. -/
def loB (x : Int) (l : List Pt) : Nat := l.countP (fun s => decide (s.x ≤ x))
theorem loB_le (x : Int) (l : List Pt) : loB x l ≤ l.length := List.countP_le_length
theorem loB_mono {x y : Int} (l : List Pt) (h : x ≤ y) : loB x l ≤ loB y l := List.countP_mono_left fun z _ hz => by simp at hz ⊢; omega
theorem loB_between {l : List Pt} (h : Asc l) {x y : Int} (hxy : x ≤ y) : (l.drop (loB x l)).take (loB y l - loB x l) = l.filter (fun s => decide (x < s.x ∧ s.x ≤ y)) := by
  rw [← List.drop_take]
  have e1 : l.take (loB y l) = l.filter (fun s => decide (s.x ≤ y)) := fall_take _ l (h.fall_lo y)
  have e2 : loB x l = loB x (l.filter (fun s => decide (s.x ≤ y))) := by
    unfold loB
    rw [List.countP_filter]
    refine List.countP_congr fun s _ => ?_
    simp; omega
  rw [e1, e2]
  have e3 : (l.filter (fun s => decide (s.x ≤ y))).drop (loB x (l.filter (fun s => decide (s.x ≤ y)))) = _ := fall_drop _ _ ((h.sub List.filter_sublist).fall_lo x)
  rw [e3, List.filter_filter]
  refine List.filter_congr fun s _ => ?_
  by_cases h1 : s.x ≤ x
  · simp [h1]; intro h2; omega
  · simp [h1]; omega
theorem lower_ctr (a b : Pt) (L : List HP) : Ctr Tryz.prog 87 #[a.v, b.v] L fun r L' => r = .bool (decide (a.x < b.x)) ∧ L' = L := by
  refine Ctr_of (fn := Tryz.f87) (n := 10) Tryz.func87 rfl rfl rfl ?_
  intro g F
  (repeat first | refine G_seq ?_ | refine G_skip ?_ | refine G_endblk ?_ | refine G_block ?_ | refine G_exit rfl ?_)
  refine G_region ?_
  refine GO_eff rfl rfl (eff_box rfl) ?_; rintro _ _ ⟨b2, rfl, rfl⟩
  refine GO_eff rfl rfl (eff_box rfl) ?_; rintro _ _ ⟨b3, rfl, rfl⟩
  refine GO_q rfl rfl (ev_assign rfl) ?_
  refine GO_nil ?_
  (repeat first | refine G_seq ?_ | refine G_skip ?_ | refine G_endblk ?_ | refine G_block ?_ | refine G_exit rfl ?_)
  refine G_region ?_
  refine GO_q rfl rfl (ev_fieldAddr rfl) ?_
  refine GO_q rfl rfl (ev_load rfl (by repeat' first | exact Ld.blk rfl | assumption | apply Ld.skip | apply Ld.app)) ?_
  refine GO_q rfl rfl (ev_fieldAddr rfl) ?_
  refine GO_q rfl rfl (ev_load rfl (by repeat' first | exact Ld.blk rfl | assumption | apply Ld.skip | apply Ld.app)) ?_
  (first | refine GO_q rfl rfl (ev_lssN rfl rfl) ?_ | refine GO_q rfl rfl (ev_lss rfl rfl) ?_)
  refine GO_q rfl rfl (ev_assign rfl) ?_
  refine GO_nil ?_
  (repeat first | refine G_seq ?_ | refine G_skip ?_ | refine G_endblk ?_ | refine G_block ?_ | refine G_exit rfl ?_)
  refine G_ret rfl (.tmp rfl .nil) (by (repeat first | exact fun _ s => s | apply en_keep | apply en_drop | apply en_app) <;> fail) ⟨rfl, rfl⟩
theorem lbehind1_ctr (a v : Pt) (b4 b5 : Nat) (L : List HP) (h4 : LdN L b4 0 3 [.int .i64 v.id, .int .i64 v.x, .int .i64 v.y]) (h5 : Ld L ⟨b5, 0, none⟩ (.func (.func 87) #[] #[])) :
    Ctr Tryz.prog 117 #[a.v, .pointer (some ⟨b5, 0, none⟩), .pointer (some ⟨b4, 0, none⟩)] L fun r L' => r = .bool (!decide (a.x ≤ v.x)) ∧ L' = L := by
  refine Ctr_of (fn := Tryz.f117) (n := 9) Tryz.func117 rfl rfl rfl ?_
  intro g F
  (repeat first | refine G_seq ?_ | refine G_skip ?_ | refine G_endblk ?_ | refine G_block ?_ | refine G_exit rfl ?_)
  refine G_region ?_
  refine GO_eff rfl rfl (eff_box rfl) ?_; rintro _ _ ⟨b3, rfl, rfl⟩
  refine GO_q rfl rfl (ev_assign rfl) ?_
  refine GO_nil ?_
  (repeat first | refine G_seq ?_ | refine G_skip ?_ | refine G_endblk ?_ | refine G_block ?_ | refine G_exit rfl ?_)
  refine G_region ?_
  refine GO_q rfl rfl (ev_load rfl (by repeat' first | exact Ld.blk rfl | assumption | apply Ld.skip | apply Ld.app)) ?_
  refine GO_q rfl rfl (ev_loadN rfl (by repeat' first | exact LdN.blk rfl | assumption | apply LdN.skip | apply LdN.app)) ?_
  refine GO_q rfl rfl (ev_loadN rfl (by repeat' first | exact LdN.blk rfl | assumption | apply LdN.skip | apply LdN.app)) ?_
  refine GO_eff rfl rfl (eff_callv rfl rfl (lower_ctr v a _)) ?_; rintro _ _ ⟨rfl, rfl⟩
  refine GO_q rfl rfl (ev_assign rfl) ?_
  refine GO_nil ?_
  have e : decide (v.x < a.x) = !decide (a.x ≤ v.x) := by
    by_cases h : a.x ≤ v.x
    · simp [h]
    · simp [h]; omega
  (repeat first | refine G_seq ?_ | refine G_skip ?_ | refine G_endblk ?_ | refine G_block ?_ | refine G_exit rfl ?_)
  refine G_ret rfl (.tmp rfl .nil) (by (repeat first | exact fun _ s => s | apply en_keep | apply en_drop | apply en_app) <;> fail) ⟨congrArg Value.bool e, rfl⟩
theorem lbehind_ctr (A : Option Addr) (n c : Nat) (l : List Pt) (v : Pt) (L : List HP) (hl : Rd L A n l) (hn : n ≤ 1000000) (ho : Asc l) :
    Ctr Tryz.prog 93 #[.slice A n c, v.v, .func (.func 87) #[] #[]] L fun r L' => r = .int .i64 (loB v.x l : Nat) ∧ L' = L := by
  have h1 : l.length = n := hl.len (by decide)
  have hk := loB_le v.x l
  have hsp := fall_at _ l (ho.fall_lo v.x)
  refine Ctr_of (fn := Tryz.f93) (n := 10) Tryz.func93 rfl rfl rfl ?_
  intro g F
  (repeat first | refine G_seq ?_ | refine G_skip ?_ | refine G_endblk ?_ | refine G_block ?_ | refine G_exit rfl ?_)
  refine G_region ?_
  refine GO_eff rfl rfl (eff_box rfl) ?_; rintro _ _ ⟨b4, rfl, rfl⟩
  refine GO_eff rfl rfl (eff_box rfl) ?_; rintro _ _ ⟨b5, rfl, rfl⟩
  refine GO_q rfl rfl (ev_assign rfl) ?_
  refine GO_nil ?_
  (repeat first | refine G_seq ?_ | refine G_skip ?_ | refine G_endblk ?_ | refine G_block ?_ | refine G_exit rfl ?_)
  refine G_region ?_
  refine GO_q rfl rfl (ev_move rfl) ?_
  refine GO_q rfl rfl (ev_makeFunc rfl rfl) ?_
  refine GO_eff rfl rfl (eff_call rfl (seek_ctr 117 [] [.pointer (some ⟨b5, 0, none⟩), .pointer (some ⟨b4, 0, none⟩)] (fun a => !decide (a.x ≤ v.x)) A n c (loB v.x l) l _ (by repeat' first | exact Rc.blk rfl | assumption | apply Rd.skip | apply Rd.app) hn (by omega) hsp (fun a => lbehind1_ctr a v b4 b5 _ (by repeat' first | exact LdN.blk rfl | assumption | apply LdN.skip | apply LdN.app) (by repeat' first | exact Ld.blk rfl | assumption | apply Ld.skip | apply Ld.app)))) ?_; rintro _ _ ⟨rfl, rfl⟩
  refine GO_q rfl rfl (ev_assign rfl) ?_
  refine GO_nil ?_
  (repeat first | refine G_seq ?_ | refine G_skip ?_ | refine G_endblk ?_ | refine G_block ?_ | refine G_exit rfl ?_)
  refine G_ret rfl (.tmp rfl .nil) (by (repeat first | exact fun _ s => s | apply en_keep | apply en_drop | apply en_app) <;> fail) ⟨rfl, rfl⟩
theorem LBehind_ctr (A : Option Addr) (n c : Nat) (l : List Pt) (v : Pt) (L : List HP) (hl : Rd L A n l) (hn : n ≤ 1000000) (ho : Asc l) :
    Ctr Tryz.prog 86 #[.slice A n c, v.v, .func (.func 87) #[] #[]] L fun r L' => r = .int .i64 (loB v.x l : Nat) ∧ L' = L := by
  refine Ctr_of (fn := Tryz.f86) (n := 11) Tryz.func86 rfl rfl rfl ?_
  intro g F
  (repeat first | refine G_seq ?_ | refine G_skip ?_ | refine G_endblk ?_ | refine G_block ?_ | refine G_exit rfl ?_)
  refine G_region ?_
  refine GO_eff rfl rfl (eff_box rfl) ?_; rintro _ _ ⟨b4, rfl, rfl⟩
  refine GO_q rfl rfl (ev_assign rfl) ?_
  refine GO_nil ?_
  (repeat first | refine G_seq ?_ | refine G_skip ?_ | refine G_endblk ?_ | refine G_block ?_ | refine G_exit rfl ?_)
  refine G_region ?_
  refine GO_q rfl rfl (ev_move rfl) ?_
  refine GO_q rfl rfl (ev_loadN rfl (by repeat' first | exact LdN.blk rfl | assumption | apply LdN.skip | apply LdN.app)) ?_
  refine GO_q rfl rfl (ev_move rfl) ?_
  refine GO_eff rfl rfl (eff_call rfl (lbehind_ctr A n c l v _ (by repeat' first | exact Rc.blk rfl | assumption | apply Rd.skip | apply Rd.app) hn ho)) ?_; rintro _ _ ⟨rfl, rfl⟩
  refine GO_q rfl rfl (ev_assign rfl) ?_
  refine GO_nil ?_
  (repeat first | refine G_seq ?_ | refine G_skip ?_ | refine G_endblk ?_ | refine G_block ?_ | refine G_exit rfl ?_)
  refine G_ret rfl (.tmp rfl .nil) (by (repeat first | exact fun _ s => s | apply en_keep | apply en_drop | apply en_app) <;> fail) ⟨rfl, rfl⟩
end Go.Proofs.YtmgkmammkmlakaaGreat
/- Trees of cells: laying intervals, and building all anew. -/
namespace Go.Proofs.YtmgkmammkmlakaaGreat
attribute [local irreducible] sat
set_option linter.unusedVariables false
set_option linter.unusedSimpArgs false
set_option maxRecDepth 100000

def qR (R : List Int) (s : Pt) : Nat × Nat := (cellR R s.x, cellR R s.y)
@[reducible] def tgC (x : RA) (X : Option Addr) (A : Option Addr) (n c : Nat) (most : Int) (built : Nat) : List Value := [.pointer x.addr, .pointer X, .slice A n c, .int .i64 most, .int .i64 (built : Nat)]
@[reducible] def Pt.cs (s : Pt) : List Value := [.int .i64 s.id, .int .i64 s.x, .int .i64 s.y]
@[reducible] def noP : Pt → Bool := fun _ => false
/-- What putting an interval in, or taking it out, makes of a node's own. -/
def Gput (s : Pt) (A : Option Addr) (c : Nat) (m : List Pt) (A' : Option Addr) (c' : Nat) (m' : List Pt) : Prop := m' = putP s m ∧ AdOk A' c' m'
def Gcut (s : Pt) (A : Option Addr) (c : Nat) (m : List Pt) (A' : Option Addr) (c' : Nat) (m' : List Pt) : Prop := m' = m.erase s ∧ AdOk A' c' m'
def Gsame (A : Option Addr) (c : Nat) (m : List Pt) (A' : Option Addr) (c' : Nat) (m' : List Pt) : Prop := A' = A ∧ c' = c ∧ m' = m
theorem SgOk.put {q : Pt → Nat × Nat} {l : List Pt} {s : Pt} {X Y : SA} {f t : Nat} (h : SgOk q l X f t noP) (ho : Asc l) (hs : (q s).1 ≤ (q s).2) (hl : Laid (q s).1 (q s).2 (Gput s) X Y) : SgOk q (putP s l) Y f t noP :=
  SgOk.laid (g := putP s) (fun _ _ _ _ _ _ h => h.1) (fun p hp => by rw [filter_putP p s l ho, hp]; rfl) (fun p hp => by rw [filter_putP p s l ho, hp]; rfl) hs h rfl hl
theorem SgOk.cut {q : Pt → Nat × Nat} {l : List Pt} {s : Pt} {X Y : SA} {f t : Nat} (h : SgOk q l X f t noP) (hs : (q s).1 ≤ (q s).2) (hl : Laid (q s).1 (q s).2 (Gcut s) X Y) : SgOk q (l.erase s) Y f t noP :=
  SgOk.laid (g := fun m => m.erase s) (fun _ _ _ _ _ _ h => h.1) (fun p hp => by rw [filter_erase p s l, hp]; rfl) (fun p hp => by rw [filter_erase p s l, hp]; rfl) hs h rfl hl
theorem lay1_ctr (s : Pt) (sb b f t : Nat) (A : Option Addr) (c : Nat) (m : List Pt) (p q : Option Addr) (M : List HP) (ha : AdOk A c m) (hm : m.length ≤ 1000) (ho : Asc m) :
    Ctr Tryz.prog 95 #[.pointer (some ⟨b, 0, none⟩), .pointer (some ⟨sb, 0, none⟩)] (blk sb 51 s.cs :: blk b 79 (sgC f t A m.length c p q) :: own 51 3 A m.length c (flat m) :: M) fun v L' => v = .tuple #[] ∧ ∃ A' c' m', (Gput s A c m A' c' m' ∧ True) ∧ L' = blk sb 51 s.cs :: blk b 79 (sgC f t A' m'.length c' p q) :: own 51 3 A' m'.length c' (flat m') :: M := by
  have hr : ∀ M, Rd (own 51 3 A m.length c (flat m) :: M) A m.length m := fun M => Rc.own (flat_length m) ha.1
  refine Ctr_of (fn := Tryz.f95) (n := 12) Tryz.func95 rfl rfl rfl ?_
  intro g F
  (repeat first | refine G_seq ?_ | refine G_skip ?_ | refine G_endblk ?_ | refine G_block ?_ | refine G_exit rfl ?_)
  (repeat first | refine G_seq ?_ | refine G_skip ?_ | refine G_endblk ?_ | refine G_block ?_ | refine G_exit rfl ?_)
  refine G_draw (.q 0 (.q 1 (.q 2 (.q 3 (.q 4 (.q 5 (.e 6 (.q 7 (.q 8 (.e 9 .nil)))))))))) (by kernel_rfl) (by kernel_rfl) ?_
  refine RS_m retB_noPanic rfl rfl rfl rfl (ev_move rfl) ?_
  refine RS_m retB_noPanic rfl rfl rfl rfl (ev_move rfl) ?_
  (first | refine RS_m retB_noPanic rfl rfl rfl rfl (ev_nilCheck rfl) ?_ | refine RS_m retB_noPanic rfl rfl rfl rfl (ev_nilCheckF (by simp) rfl) ?_)
  refine RS_m retB_noPanic rfl rfl rfl rfl (ev_fieldAddr rfl) ?_
  refine RS_q retB_noPanic rfl rfl rfl rfl (ev_load rfl (by repeat' first | exact Ld.blk rfl | assumption | apply Ld.skip | apply Ld.app)) ?_
  refine RS_q retB_noPanic rfl rfl rfl rfl (ev_loadN rfl (by repeat' first | exact LdN.blk rfl | assumption | apply LdN.skip | apply LdN.app)) ?_
  refine RS_e (RE_eff rfl rfl rfl (eff_call rfl ((Put_ctr A m.length c m s _ (by repeat' first | exact hr _ | apply Rd.skip) (by omega) ho).made)) ?_); rintro _ _ ⟨A', c', rfl, e1, e2, e3, rfl⟩; refine ⟨_, fun _ s => s, (by first | ((repeat first | exact fun _ s => s | apply en_keep | apply en_drop | apply en_app) <;> fail) | ((repeat first | exact en_refl | (apply en_blk; focus ((repeat' first | exact Pick.here | apply Pick.skip | apply Pick.app); done); focus rfl) | (apply en_own; focus ((repeat' first | exact Pick.here | apply Pick.skip | apply Pick.app); done); focus rfl) | (apply en_pick; focus ((repeat' first | exact Pick.here | apply Pick.skip | apply Pick.app); done)) | apply en_drop | apply en_app) <;> fail)), ?_⟩
  (first | refine RS_m retB_noPanic rfl rfl rfl rfl (ev_nilCheck rfl) ?_ | refine RS_m retB_noPanic rfl rfl rfl rfl (ev_nilCheckF (by simp) rfl) ?_)
  refine RS_m retB_noPanic rfl rfl rfl rfl (ev_fieldAddr rfl) ?_
  refine RS_e (RE_last (by kernel_rfl) rfl rfl rfl (eff_store rfl rfl rfl (by repeat' first | exact Upd.here rfl | apply Upd.skip | apply Upd.app)) ?_); rintro _ _ ⟨rfl, rfl⟩
  (repeat first | refine G_seq ?_ | refine G_skip ?_ | refine G_endblk ?_ | refine G_block ?_ | refine G_exit rfl ?_)
  exact G_end (rs := []) (vs := []) (L' := blk sb 51 s.cs :: blk b 79 (sgC f t A' (putP s m).length c' p q) :: own 51 3 A' (putP s m).length c' (flat (putP s m)) :: M) rfl .nil (by (repeat first | exact en_refl | (apply en_blk; focus ((repeat' first | exact Pick.here | apply Pick.skip | apply Pick.app); done); focus rfl) | (apply en_own; focus ((repeat' first | exact Pick.here | apply Pick.skip | apply Pick.app); done); focus rfl) | (apply en_pick; focus ((repeat' first | exact Pick.here | apply Pick.skip | apply Pick.app); done)) | apply en_drop | apply en_app) <;> fail) ⟨rfl, A', c', putP s m, ⟨⟨rfl, e1, e2⟩, trivial⟩, rfl⟩
theorem cut1_ctr (s : Pt) (sb b f t : Nat) (A : Option Addr) (c : Nat) (m : List Pt) (p q : Option Addr) (M : List HP) (ha : AdOk A c m) (hm : m.length ≤ 1000) (ho : Asc m) :
    Ctr Tryz.prog 66 #[.pointer (some ⟨b, 0, none⟩), .pointer (some ⟨sb, 0, none⟩)] (blk sb 51 s.cs :: blk b 79 (sgC f t A m.length c p q) :: own 51 3 A m.length c (flat m) :: M) fun v L' => v = .tuple #[] ∧ ∃ A' c' m', (Gcut s A c m A' c' m' ∧ True) ∧ L' = blk sb 51 s.cs :: blk b 79 (sgC f t A' m'.length c' p q) :: own 51 3 A' m'.length c' (flat m') :: M := by
  have hr : ∀ M, Rd (own 51 3 A m.length c (flat m) :: M) A m.length m := fun M => Rc.own (flat_length m) ha.1
  refine Ctr_of (fn := Tryz.f66) (n := 15) Tryz.func66 rfl rfl rfl ?_
  intro g F
  (repeat first | refine G_seq ?_ | refine G_skip ?_ | refine G_endblk ?_ | refine G_block ?_ | refine G_exit rfl ?_)
  (repeat first | refine G_seq ?_ | refine G_skip ?_ | refine G_endblk ?_ | refine G_block ?_ | refine G_exit rfl ?_)
  refine G_draw (.q 0 (.q 1 (.q 2 (.q 3 (.q 4 (.q 5 (.e 6 (.q 7 (.q 8 (.q 9 (.q 10 (.q 11 (.e 12 .nil))))))))))))) (by kernel_rfl) (by kernel_rfl) ?_
  refine RS_m retB_noPanic rfl rfl rfl rfl (ev_move rfl) ?_
  refine RS_m retB_noPanic rfl rfl rfl rfl (ev_move rfl) ?_
  (first | refine RS_m retB_noPanic rfl rfl rfl rfl (ev_nilCheck rfl) ?_ | refine RS_m retB_noPanic rfl rfl rfl rfl (ev_nilCheckF (by simp) rfl) ?_)
  refine RS_m retB_noPanic rfl rfl rfl rfl (ev_fieldAddr rfl) ?_
  refine RS_q retB_noPanic rfl rfl rfl rfl (ev_load rfl (by repeat' first | exact Ld.blk rfl | assumption | apply Ld.skip | apply Ld.app)) ?_
  refine RS_q retB_noPanic rfl rfl rfl rfl (ev_loadN rfl (by repeat' first | exact LdN.blk rfl | assumption | apply LdN.skip | apply LdN.app)) ?_
  refine RS_e (RE_eff rfl rfl rfl (eff_call rfl (CutS_ctr A m.length c m s _ (by repeat' first | exact hr _ | apply Rd.skip) (by omega) ho)) ?_); rintro _ _ ⟨A', c', rfl, ⟨e1, e2, e3⟩, rfl⟩; refine ⟨_, fun _ s => s, (by first | ((repeat first | exact fun _ s => s | apply en_keep | apply en_drop | apply en_app) <;> fail) | ((repeat first | exact en_refl | (apply en_blk; focus ((repeat' first | exact Pick.here | apply Pick.skip | apply Pick.app); done); focus rfl) | (apply en_own; focus ((repeat' first | exact Pick.here | apply Pick.skip | apply Pick.app); done); focus rfl) | (apply en_pick; focus ((repeat' first | exact Pick.here | apply Pick.skip | apply Pick.app); done)) | apply en_drop | apply en_app) <;> fail)), ?_⟩
  refine RS_m retB_noPanic rfl rfl rfl rfl (ev_move rfl) ?_
  refine RS_m retB_noPanic rfl rfl rfl rfl (ev_extract rfl rfl) ?_
  refine RS_m retB_noPanic rfl rfl rfl rfl (ev_extract rfl rfl) ?_
  (first | refine RS_m retB_noPanic rfl rfl rfl rfl (ev_nilCheck rfl) ?_ | refine RS_m retB_noPanic rfl rfl rfl rfl (ev_nilCheckF (by simp) rfl) ?_)
  refine RS_m retB_noPanic rfl rfl rfl rfl (ev_fieldAddr rfl) ?_
  refine RS_e (RE_last (by kernel_rfl) rfl rfl rfl (eff_store rfl rfl rfl (by repeat' first | exact Upd.here rfl | apply Upd.skip | apply Upd.app)) ?_); rintro _ _ ⟨rfl, rfl⟩
  (repeat first | refine G_seq ?_ | refine G_skip ?_ | refine G_endblk ?_ | refine G_block ?_ | refine G_exit rfl ?_)
  exact G_end (rs := []) (vs := []) (L' := blk sb 51 s.cs :: blk b 79 (sgC f t A' (m.erase s).length c' p q) :: own 51 3 A' (m.erase s).length c' (flat (m.erase s)) :: M) rfl .nil (by (repeat first | exact en_refl | (apply en_blk; focus ((repeat' first | exact Pick.here | apply Pick.skip | apply Pick.app); done); focus rfl) | (apply en_own; focus ((repeat' first | exact Pick.here | apply Pick.skip | apply Pick.app); done); focus rfl) | (apply en_pick; focus ((repeat' first | exact Pick.here | apply Pick.skip | apply Pick.app); done)) | apply en_drop | apply en_app) <;> fail) ⟨rfl, A', c', m.erase s, ⟨⟨rfl, e1, e2⟩, trivial⟩, rfl⟩
section
variable {S : Type} {fid : FuncId} [CalT Tryz.prog fid] {c1 c2 : List Value} {C : S → List HP} {step : S → Nat → Nat → List Pt → S} {I : S → Nat → Prop} {wt : Nat → Nat → List Pt → Nat} {G9 : Option Addr → Nat → List Pt → Option Addr → Nat → List Pt → Prop} {P9 : Nat → Nat → Option Addr → Nat → List Pt → Prop}
theorem teach_ctr
    (hf : ∀ (s : S) (r b f t : Nat) (A : Option Addr) (c : Nat) (m : List Pt) (p q : Option Addr) (M : List HP), P9 f t A c m → I s (wt f t m + r) → Ctr Tryz.prog fid (c1 ++ [Value.pointer (some ⟨b, 0, none⟩)] ++ c2).toArray (C s ++ blk b 79 (sgC f t A m.length c p q) :: own 51 3 A m.length c (flat m) :: M) fun v L' => v = .tuple #[] ∧ ∃ A' c' m', (G9 A c m A' c' m' ∧ I (step s f t m) r) ∧ L' = C (step s f t m) ++ blk b 79 (sgC f t A' m'.length c' p q) :: own 51 3 A' m'.length c' (flat m') :: M)
    (t : Nat) (x : RA) (X : SA) (A : Option Addr) (n c : Nat) (most : Int) (built : Nat) (s : Pt) (s0 : S) (r : Nat) (M : List HP) (ht : LdN M t 0 5 (tgC x X.addr A n c most built)) (hx : RIn M x) (o : x.ok) (hb : x.R.length ≤ 1000) (hs : s.x ≤ s.y) (hP : X.each P9) (hI : I s0 (X.at_ (qR x.R s).1 (qR x.R s).2 wt + r)) :
    Ctr Tryz.prog 65 #[.pointer (some ⟨t, 0, none⟩), s.v, .func (.func fid) c1.toArray c2.toArray] ((fun h => sat (C s0) h) :: saH X :: M) fun v L' => v = .tuple #[] ∧ ∃ Y, (Laid (qR x.R s).1 (qR x.R s).2 G9 X Y ∧ I (X.run (qR x.R s).1 (qR x.R s).2 step s0) r) ∧ L' = (fun h => sat (C (X.run (qR x.R s).1 (qR x.R s).2 step s0)) h) :: saH Y :: M := by
  have h0 : Ld M ⟨t, 0 + 0, none⟩ (.pointer x.addr) := ht.at_ (i := 0) rfl
  have h1 : Ld M ⟨t, 0 + 1, none⟩ (.pointer X.addr) := ht.at_ (i := 1) rfl
  have hc := fun L h => RCells_ctr x s.x s.y L h o (by omega) hs
  have hn := fun M => neach_ctr hf X s0 r M hP hI
  unfold qR at hn ⊢
  simp only at hn ⊢
  refine Ctr_of (fn := Tryz.f65) (n := 30) Tryz.func65 rfl rfl rfl ?_
  intro g F
  (repeat first | refine G_seq ?_ | refine G_skip ?_ | refine G_endblk ?_ | refine G_block ?_ | refine G_exit rfl ?_)
  refine G_region ?_
  refine GO_eff rfl rfl (eff_box rfl) ?_; rintro _ _ ⟨b4, rfl, rfl⟩
  refine GO_nil ?_
  (repeat first | refine G_seq ?_ | refine G_skip ?_ | refine G_endblk ?_ | refine G_block ?_ | refine G_exit rfl ?_)
  refine G_draw (.q 0 (.q 1 (.q 2 (.q 3 (.q 4 (.q 5 (.q 6 (.q 7 (.e 8 (.q 9 (.q 10 (.q 11 (.q 12 (.q 13 (.q 14 (.q 15 .nil)))))))))))))))) (by kernel_rfl) (by kernel_rfl) ?_
  refine RS_m retB_noPanic rfl rfl rfl rfl (ev_move rfl) ?_
  (first | refine RS_m retB_noPanic rfl rfl rfl rfl (ev_nilCheck rfl) ?_ | refine RS_m retB_noPanic rfl rfl rfl rfl (ev_nilCheckF (by simp) rfl) ?_)
  refine RS_m retB_noPanic rfl rfl rfl rfl (ev_fieldAddr rfl) ?_
  refine RS_q retB_noPanic rfl rfl rfl rfl (ev_load rfl (by repeat' first | exact Ld.blk rfl | assumption | apply Ld.skip | apply Ld.app)) ?_
  refine RS_m retB_noPanic rfl rfl rfl rfl (ev_fieldAddr rfl) ?_
  refine RS_q retB_noPanic rfl rfl rfl rfl (ev_load rfl (by repeat' first | exact Ld.blk rfl | assumption | apply Ld.skip | apply Ld.app)) ?_
  refine RS_m retB_noPanic rfl rfl rfl rfl (ev_fieldAddr rfl) ?_
  refine RS_q retB_noPanic rfl rfl rfl rfl (ev_load rfl (by repeat' first | exact Ld.blk rfl | assumption | apply Ld.skip | apply Ld.app)) ?_
  refine RS_e (RE_eff rfl rfl rfl (eff_call rfl (hc _ (by repeat' first | exact hx | apply RIn.skip))) ?_); rintro _ _ ⟨rfl, rfl⟩; refine ⟨_, fun _ s => s, (by first | ((repeat first | exact fun _ s => s | apply en_keep | apply en_drop | apply en_app) <;> fail) | ((repeat first | exact en_refl | (apply en_blk; focus ((repeat' first | exact Pick.here | apply Pick.skip | apply Pick.app); done); focus rfl) | (apply en_own; focus ((repeat' first | exact Pick.here | apply Pick.skip | apply Pick.app); done); focus rfl) | (apply en_pick; focus ((repeat' first | exact Pick.here | apply Pick.skip | apply Pick.app); done)) | apply en_drop | apply en_app) <;> fail)), ?_⟩
  refine RS_m retB_noPanic rfl rfl rfl rfl (ev_move rfl) ?_
  refine RS_m retB_noPanic rfl rfl rfl rfl (ev_extract rfl rfl) ?_
  refine RS_m retB_noPanic rfl rfl rfl rfl (ev_extract rfl rfl) ?_
  refine RS_m retB_noPanic rfl rfl rfl rfl (ev_extract rfl rfl) ?_
  refine RS_m retB_noPanic rfl rfl rfl rfl (ev_assign rfl) ?_
  refine RS_m retB_noPanic rfl rfl rfl rfl (ev_assign rfl) ?_
  refine RS_m retB_noPanic rfl rfl rfl rfl (ev_assign rfl) ?_
  refine RS_nil ?_
  (repeat first | refine G_seq ?_ | refine G_skip ?_ | refine G_endblk ?_ | refine G_block ?_ | refine G_exit rfl ?_)
  refine G_region ?_
  refine GO_q rfl rfl (ev_move rfl) ?_
  (first | refine GO_q rfl rfl (ev_nilCheck rfl) ?_ | refine GO_q rfl rfl (ev_nilCheckF (by simp) rfl) ?_)
  refine GO_q rfl rfl (ev_fieldAddr rfl) ?_
  refine GO_q rfl rfl (ev_load rfl (by repeat' first | exact Ld.blk rfl | assumption | apply Ld.skip | apply Ld.app)) ?_
  refine GO_q rfl rfl (ev_move rfl) ?_
  refine GO_q rfl rfl (ev_move rfl) ?_
  refine GO_q rfl rfl (ev_move rfl) ?_
  refine GO_eff rfl rfl (eff_call rfl (Ctr.pre (M := (fun h => sat (C s0) h) :: saH X :: F :: M) (by (repeat first | exact en_refl | (apply en_blk; focus ((repeat' first | exact Pick.here | apply Pick.skip | apply Pick.app); done); focus rfl) | (apply en_own; focus ((repeat' first | exact Pick.here | apply Pick.skip | apply Pick.app); done); focus rfl) | (apply en_pick; focus ((repeat' first | exact Pick.here | apply Pick.skip | apply Pick.app); done)) | apply en_drop | apply en_app) <;> fail) (hn _))) ?_; rintro _ _ ⟨rfl, Y, ⟨a1, a2⟩, rfl⟩
  refine GO_nil ?_
  (repeat first | refine G_seq ?_ | refine G_skip ?_ | refine G_endblk ?_ | refine G_block ?_ | refine G_exit rfl ?_)
  exact G_end (rs := []) (vs := []) (L' := (fun h => sat (C (X.run (cellR x.R s.x) (cellR x.R s.y) step s0)) h) :: saH Y :: M) rfl .nil (by (repeat first | exact en_refl | (apply en_blk; focus ((repeat' first | exact Pick.here | apply Pick.skip | apply Pick.app); done); focus rfl) | (apply en_own; focus ((repeat' first | exact Pick.here | apply Pick.skip | apply Pick.app); done); focus rfl) | (apply en_pick; focus ((repeat' first | exact Pick.here | apply Pick.skip | apply Pick.app); done)) | apply en_drop | apply en_app) <;> fail) ⟨rfl, Y, ⟨a1, a2⟩, rfl⟩
end
theorem lay_ctr (t : Nat) (x : RA) (X : SA) (A : Option Addr) (n c : Nat) (most : Int) (built : Nat) (s : Pt) (M : List HP) (ht : LdN M t 0 5 (tgC x X.addr A n c most built)) (hx : RIn M x) (o : x.ok) (hb : x.R.length ≤ 1000) (hs : s.x ≤ s.y) (hP : X.each fun _ _ A c m => AdOk A c m ∧ m.length ≤ 1000 ∧ Asc m) :
    Ctr Tryz.prog 59 #[.pointer (some ⟨t, 0, none⟩), s.v] (saH X :: M) fun v L' => v = .tuple #[] ∧ ∃ Y, Laid (qR x.R s).1 (qR x.R s).2 (Gput s) X Y ∧ L' = saH Y :: M := by
  refine Ctr_of (fn := Tryz.f59) (n := 8) Tryz.func59 rfl rfl rfl ?_
  intro g F
  (repeat first | refine G_seq ?_ | refine G_skip ?_ | refine G_endblk ?_ | refine G_block ?_ | refine G_exit rfl ?_)
  refine G_region ?_
  refine GO_eff rfl rfl (eff_box rfl) ?_; rintro _ _ ⟨b3, rfl, rfl⟩
  refine GO_nil ?_
  have hT := fun M ht hx => teach_ctr (S := Unit) (fid := 95) (c1 := []) (c2 := [.pointer (some ⟨b3, 0, none⟩)]) (C := fun _ => [blk b3 51 s.cs]) (step := fun s _ _ _ => s) (I := fun _ _ => True) (wt := fun _ _ _ => 0) (G9 := Gput s) (P9 := fun _ _ A c m => AdOk A c m ∧ m.length ≤ 1000 ∧ Asc m) (fun _ r b f t A c m p q M hp _ => lay1_ctr s b3 b f t A c m p q M hp.1 hp.2.1 hp.2.2) t x X A n c most built s () 0 M ht hx o hb hs hP trivial
  (repeat first | refine G_seq ?_ | refine G_skip ?_ | refine G_endblk ?_ | refine G_block ?_ | refine G_exit rfl ?_)
  refine G_region ?_
  refine GO_q rfl rfl (ev_move rfl) ?_
  refine GO_q rfl rfl (ev_loadN rfl (by repeat' first | exact LdN.blk rfl | assumption | apply LdN.skip | apply LdN.app)) ?_
  refine GO_q rfl rfl (ev_makeFunc rfl rfl) ?_
  refine GO_eff rfl rfl (eff_call rfl (Ctr.pre (M := (fun h => sat [blk b3 51 s.cs] h) :: saH X :: F :: M) (fun h q => (show ∀ h, sat _ h → sat ((fun h => sat [blk b3 51 s.cs] h) :: saH X :: F :: M) h from fun h q => sat.join (N := [blk b3 51 s.cs]) ((show ∀ h, sat _ h → sat (blk b3 51 s.cs :: saH X :: F :: M) h from (by (repeat first | exact en_refl | (apply en_blk; focus ((repeat' first | exact Pick.here | apply Pick.skip | apply Pick.app); done); focus rfl) | (apply en_own; focus ((repeat' first | exact Pick.here | apply Pick.skip | apply Pick.app); done); focus rfl) | (apply en_pick; focus ((repeat' first | exact Pick.here | apply Pick.skip | apply Pick.app); done)) | apply en_drop | apply en_app) <;> fail)) h q)) h q) (hT _ (by repeat' first | exact ht | apply LdN.skip) (by repeat' first | exact hx | apply RIn.skip)))) ?_; rintro _ _ ⟨rfl, Y, ⟨a1, _⟩, rfl⟩
  refine GO_nil ?_
  (repeat first | refine G_seq ?_ | refine G_skip ?_ | refine G_endblk ?_ | refine G_block ?_ | refine G_exit rfl ?_)
  exact G_end (rs := []) (vs := []) (L' := saH Y :: M) rfl .nil (by (repeat first | exact en_refl | (apply en_blk; focus ((repeat' first | exact Pick.here | apply Pick.skip | apply Pick.app); done); focus rfl) | (apply en_own; focus ((repeat' first | exact Pick.here | apply Pick.skip | apply Pick.app); done); focus rfl) | (apply en_pick; focus ((repeat' first | exact Pick.here | apply Pick.skip | apply Pick.app); done)) | apply en_drop | apply en_app) <;> fail) ⟨rfl, Y, a1, rfl⟩
theorem tcut_ctr (t : Nat) (x : RA) (X : SA) (A : Option Addr) (n c : Nat) (most : Int) (built : Nat) (s : Pt) (sb : Nat) (M : List HP) (ht : LdN M t 0 5 (tgC x X.addr A n c most built)) (hx : RIn M x) (o : x.ok) (hb : x.R.length ≤ 1000) (hs : s.x ≤ s.y) (hP : X.each fun _ _ A c m => AdOk A c m ∧ m.length ≤ 1000 ∧ Asc m) :
    Ctr Tryz.prog 65 #[.pointer (some ⟨t, 0, none⟩), s.v, .func (.func 66) #[] #[.pointer (some ⟨sb, 0, none⟩)]] (blk sb 51 s.cs :: saH X :: M) fun v L' => v = .tuple #[] ∧ ∃ Y, Laid (qR x.R s).1 (qR x.R s).2 (Gcut s) X Y ∧ L' = saH Y :: M :=
  ((teach_ctr (S := Unit) (fid := 66) (c1 := []) (c2 := [.pointer (some ⟨sb, 0, none⟩)]) (C := fun _ => [blk sb 51 s.cs]) (step := fun s _ _ _ => s) (I := fun _ _ => True) (wt := fun _ _ _ => 0) (G9 := Gcut s) (P9 := fun _ _ A c m => AdOk A c m ∧ m.length ≤ 1000 ∧ Asc m) (fun _ r b f t A c m p q M hp _ => cut1_ctr s sb b f t A c m p q M hp.1 hp.2.1 hp.2.2) t x X A n c most built s () 0 M ht hx o hb hs hP trivial).pre (fun h q => sat.join (N := [blk sb 51 s.cs]) q)).post' fun v L' hm ⟨e1, Y, ⟨e2, _⟩, e3⟩ q => ⟨saH Y :: M, ⟨e1, Y, e2, rfl⟩, (e3 ▸ q).tail⟩
theorem SgOk.ad {q : Pt → Nat × Nat} {l : List Pt} {X : SA} {f t : Nat} {o : Pt → Bool} (h : SgOk q l X f t o) (ha : X.each fun _ _ A c m => AdOk A c m) (hl : l.length ≤ 1000) (ho : Asc l) : X.each fun _ _ A c m => AdOk A c m ∧ m.length ≤ 1000 ∧ Asc m :=
  (ha.and h.sub).mono fun _ _ _ _ _ h => ⟨h.1, Nat.le_trans h.2.1.length_le hl, ho.sub h.2.1⟩
theorem take_put {l : List Pt} (ho : Asc l) {i : Nat} (hi : i < l.length) : l.take (i + 1) = putP l[i] (l.take i) := by
  rw [List.take_succ_eq_append_getElem hi, putP_last]
  intro a ha
  have h1 : l.take (i + 1) = l.take i ++ [l[i]] := List.take_succ_eq_append_getElem hi
  have h2 : Asc (l.take i ++ [l[i]]) := h1 ▸ ho.sub (List.take_sublist _ _)
  unfold Asc at h2
  rw [List.pairwise_append] at h2
  exact h2.2.2 a ha _ (by simp)
theorem anew_ctr (t : Nat) (x x' : RA) (root A : Option Addr) (c : Nat) (l : List Pt) (most : Int) (built : Nat) (M : List HP) (o : x'.ok) (hb : x'.R.length ≤ 1000) (hl : l.length ≤ 1000) (ho : Asc l) (ha : AdOk A c l) (hs : ∀ s ∈ l, s.x ≤ s.y) (hbu : built ≤ 1000000) :
    Ctr Tryz.prog 60 #[.pointer (some ⟨t, 0, none⟩), .pointer x'.addr] (blk t 83 (tgC x root A l.length c most built) :: raH x' :: own 51 3 A l.length c (flat l) :: M) fun v L' => v = .tuple #[] ∧ ∃ Y, (SgOk (qR x'.R) l Y 0 (2 * x'.R.length) noP ∧ Y.each fun _ _ A c m => AdOk A c m) ∧ L' = blk t 83 (tgC x' Y.addr A l.length c most (built + 1)) :: raH x' :: own 51 3 A l.length c (flat l) :: saH Y :: M := by
  have hx : ∀ M, RIn (raH x' :: M) x' := fun M => raH_in o M
  refine Ctr_of (fn := Tryz.f60) (n := 37) Tryz.func60 rfl rfl rfl ?_
  intro g F
  (repeat first | refine G_seq ?_ | refine G_skip ?_ | refine G_endblk ?_ | refine G_block ?_ | refine G_exit rfl ?_)
  refine G_region ?_
  refine GO_q rfl rfl (ev_move rfl) ?_
  refine GO_q rfl rfl (ev_move rfl) ?_
  (first | refine GO_q rfl rfl (ev_nilCheck rfl) ?_ | refine GO_q rfl rfl (ev_nilCheckF (by simp) rfl) ?_)
  refine GO_q rfl rfl (ev_fieldAddr rfl) ?_
  refine GO_eff rfl rfl (eff_store rfl rfl rfl (by repeat' first | exact Upd.here rfl | apply Upd.skip | apply Upd.app)) ?_; rintro _ _ ⟨rfl, rfl⟩
  refine GO_nil ?_
  (repeat first | refine G_seq ?_ | refine G_skip ?_ | refine G_endblk ?_ | refine G_block ?_ | refine G_exit rfl ?_)
  refine G_region ?_
  refine GO_q rfl rfl (ev_move rfl) ?_
  refine GO_q rfl rfl (ev_move rfl) ?_
  refine GO_eff rfl rfl (eff_call rfl (RLen_ctr x' _ (by repeat' first | exact hx _ | apply RIn.skip))) ?_; rintro _ _ ⟨rfl, rfl⟩
  refine GO_q rfl rfl (ev_mul rfl rfl (by first | omega | (simp; done) | (simp; omega))) ?_
  refine GO_eff rfl rfl (eff_call rfl (build_ctr (2 * x'.R.length) 0 (2 * x'.R.length) _ (by omega) (by omega) (by omega))) ?_; rintro _ _ ⟨X0, rfl, ⟨hok, had⟩, rfl⟩
  (first | refine GO_q rfl rfl (ev_nilCheck rfl) ?_ | refine GO_q rfl rfl (ev_nilCheckF (by simp) rfl) ?_)
  refine GO_q rfl rfl (ev_fieldAddr rfl) ?_
  refine GO_eff rfl rfl (eff_store rfl rfl rfl (by repeat' first | exact Upd.here rfl | apply Upd.skip | apply Upd.app)) ?_; rintro _ _ ⟨rfl, rfl⟩
  refine GO_nil ?_
  (repeat first | refine G_seq ?_ | refine G_skip ?_ | refine G_endblk ?_ | refine G_block ?_ | refine G_exit rfl ?_)
  refine G_region ?_
  refine GO_q rfl rfl (ev_move rfl) ?_
  (first | refine GO_q rfl rfl (ev_nilCheck rfl) ?_ | refine GO_q rfl rfl (ev_nilCheckF (by simp) rfl) ?_)
  refine GO_q rfl rfl (ev_fieldAddr rfl) ?_
  refine GO_q rfl rfl (ev_load rfl (by repeat' first | exact Ld.blk rfl | assumption | apply Ld.skip | apply Ld.app)) ?_
  (first | refine GO_q rfl rfl (ev_addN (q := 1) rfl rfl (by first | omega | (simp; done) | (simp; omega))) ?_ | refine GO_q rfl rfl (ev_add rfl rfl (by first | omega | (simp; done) | (simp; omega))) ?_)
  (first | refine GO_q rfl rfl (ev_nilCheck rfl) ?_ | refine GO_q rfl rfl (ev_nilCheckF (by simp) rfl) ?_)
  refine GO_q rfl rfl (ev_fieldAddr rfl) ?_
  refine GO_eff rfl rfl (eff_store rfl rfl rfl (by repeat' first | exact Upd.here rfl | apply Upd.skip | apply Upd.app)) ?_; rintro _ _ ⟨rfl, rfl⟩
  refine GO_nil ?_
  (repeat first | refine G_seq ?_ | refine G_skip ?_ | refine G_endblk ?_ | refine G_block ?_ | refine G_exit rfl ?_)
  refine G_region ?_
  refine GO_q rfl rfl (ev_move rfl) ?_
  (first | refine GO_q rfl rfl (ev_nilCheck rfl) ?_ | refine GO_q rfl rfl (ev_nilCheckF (by simp) rfl) ?_)
  refine GO_q rfl rfl (ev_fieldAddr rfl) ?_
  refine GO_q rfl rfl (ev_load rfl (by repeat' first | exact Ld.blk rfl | assumption | apply Ld.skip | apply Ld.app)) ?_
  refine GO_q rfl rfl (ev_len rfl) ?_
  refine GO_q rfl rfl (ev_move rfl) ?_
  refine GO_nil ?_
  (repeat first | refine G_seq ?_ | refine G_skip ?_ | refine G_endblk ?_ | refine G_block ?_ | refine G_exit rfl ?_)
  refine G_loop (ι := Nat × SA) (fun z => [(0, .pointer (some ⟨t, 0, none⟩)), (27, .slice A l.length c), (28, .int .i64 (l.length : Nat)), (29, .int .i64 (z.1 : Nat))]) (fun z => saH z.2 :: F :: blk t 83 (tgC x' X0.addr A l.length c most (built + 1)) :: raH x' :: own 51 3 A l.length c (flat l) :: M) (fun z => z.1 ≤ l.length ∧ SgOk (qR x'.R) (l.take z.1) z.2 0 (2 * x'.R.length) noP ∧ (z.2.each fun _ _ A c m => AdOk A c m) ∧ z.2.addr = X0.addr) (fun z => l.length - z.1) (0, X0) ⟨Nat.zero_le _, hok _ _, had, rfl⟩ ⟨rfl, rfl, rfl, rfl, trivial⟩ (by (repeat first | exact en_refl | (apply en_blk; focus ((repeat' first | exact Pick.here | apply Pick.skip | apply Pick.app); done); focus rfl) | (apply en_own; focus ((repeat' first | exact Pick.here | apply Pick.skip | apply Pick.app); done); focus rfl) | (apply en_pick; focus ((repeat' first | exact Pick.here | apply Pick.skip | apply Pick.app); done)) | apply en_drop | apply en_app) <;> fail) ?_
  rintro ⟨i, X⟩ ⟨f1, f2, f3, f4⟩
  simp only at f1 f2 f3 f4
  dsimp only
  (repeat first | refine G_seq ?_ | refine G_skip ?_ | refine G_endblk ?_ | refine G_block ?_ | refine G_exit rfl ?_)
  refine G_region ?_
  (first | refine GO_q rfl rfl (ev_lssN rfl rfl) ?_ | refine GO_q rfl rfl (ev_lss rfl rfl) ?_)
  refine GO_nil ?_
  (repeat first | refine G_seq ?_ | refine G_skip ?_ | refine G_endblk ?_ | refine G_block ?_ | refine G_exit rfl ?_)
  refine G_cond rfl (fun c1 => ?_) (fun c1 => ?_)
  · have hrd : Rd (own 51 3 A l.length c (flat l) :: M) A l.length l := Rc.own (flat_length l) ha.1
    obtain ⟨b1, o1, rfl, x1⟩ := hrd.at_ (by omega)
    have g1 : l[i]? = some l[i] := List.getElem?_eq_getElem (by omega)
    have y1 := x1 _ _ g1
    have tp := take_put ho c1
    have hsi := hs l[i] (List.getElem_mem _)
    generalize l[i] = u at *
    have z1 : LdN (own 51 3 (some ⟨b1, o1, none⟩) l.length c (flat l) :: M) b1 (o1 + i * 3) 3 [.int .i64 u.id, .int .i64 u.x, .int .i64 u.y] := y1
    have htl : (l.take i).length ≤ 1000 := by rw [List.length_take]; omega
    have hta : Asc (l.take i) := ho.sub (List.take_sublist _ _)
    (repeat first | refine G_seq ?_ | refine G_skip ?_ | refine G_endblk ?_ | refine G_block ?_ | refine G_exit rfl ?_)
    refine G_region ?_
    (first | refine GO_q rfl rfl (ev_indexAddrN rfl rfl (by first | omega | (simp; done) | (simp; omega))) ?_ | refine GO_q rfl rfl (ev_indexAddr rfl rfl (by first | omega | (simp; done) | (simp; omega)) (by first | omega | (simp; done) | (simp; omega))) ?_)
    refine GO_q rfl rfl (ev_loadN rfl (by repeat' first | exact LdN.blk rfl | assumption | apply LdN.skip | apply LdN.app)) ?_
    refine GO_eff rfl rfl eff_alloc ?_; rintro _ _ ⟨b5, rfl, rfl⟩
    refine GO_eff rfl rfl (eff_storeN rfl rfl rfl rfl (by repeat' first | exact Upd.here rfl | apply Upd.skip | apply Upd.app)) ?_; rintro _ _ ⟨rfl, rfl⟩
    refine GO_nil ?_
    have hlay := fun M' ht hx => lay_ctr t x' X (some ⟨b1, o1, none⟩) l.length c most (built + 1) u M' ht hx o hb hsi (f2.ad f3 htl hta)
    rw [f4] at hlay
    (repeat first | refine G_seq ?_ | refine G_skip ?_ | refine G_endblk ?_ | refine G_block ?_ | refine G_exit rfl ?_)
    refine G_region ?_
    refine GO_q rfl rfl (ev_move rfl) ?_
    refine GO_q rfl rfl (ev_loadN rfl (by repeat' first | exact LdN.blk rfl | assumption | apply LdN.skip | apply LdN.app)) ?_
    refine GO_eff rfl rfl (eff_call rfl (Ctr.pick (by repeat' first | exact Pick.here | apply Pick.skip | apply Pick.app) (hlay _ (by repeat' first | exact LdN.blk rfl | apply LdN.skip) (by repeat' first | exact hx _ | apply RIn.skip)))) ?_; rintro _ _ ⟨rfl, Y, hY, rfl⟩
    refine GO_nil ?_
    (repeat first | refine G_seq ?_ | refine G_skip ?_ | refine G_endblk ?_ | refine G_block ?_ | refine G_exit rfl ?_)
    refine G_region ?_
    (first | refine GO_q rfl rfl (ev_addN (q := 1) rfl rfl (by first | omega | (simp; done) | (simp; omega))) ?_ | refine GO_q rfl rfl (ev_add rfl rfl (by first | omega | (simp; done) | (simp; omega))) ?_)
    refine GO_q rfl rfl (ev_move rfl) ?_
    refine GO_nil ?_
    (repeat first | refine G_seq ?_ | refine G_skip ?_ | refine G_endblk ?_ | refine G_block ?_ | refine G_exit rfl ?_)
    refine G_round (i + 1, Y) ⟨by simp only; omega, ?_, ?_, by rw [hY.addr]; exact f4⟩ (by simp only; omega) ⟨rfl, rfl, rfl, rfl, trivial⟩ (by (repeat first | exact en_refl | (apply en_blk; focus ((repeat' first | exact Pick.here | apply Pick.skip | apply Pick.app); done); focus rfl) | (apply en_own; focus ((repeat' first | exact Pick.here | apply Pick.skip | apply Pick.app); done); focus rfl) | (apply en_pick; focus ((repeat' first | exact Pick.here | apply Pick.skip | apply Pick.app); done)) | apply en_drop | apply en_app) <;> fail)
    · simp only
      rw [tp]
      exact f2.put hta (cellR_mono _ hsi) hY
    · exact hY.each (P := fun _ _ A c m => AdOk A c m) (fun _ _ _ _ _ _ _ _ _ g => g.2) f3
  · have e : i = l.length := by omega
    subst e
    rw [List.take_length] at f2
    (repeat first | refine G_seq ?_ | refine G_skip ?_ | refine G_endblk ?_ | refine G_block ?_ | refine G_exit rfl ?_)
    refine G_end (rs := []) (vs := []) (L' := blk t 83 (tgC x' X0.addr A l.length c most (built + 1)) :: raH x' :: own 51 3 A l.length c (flat l) :: saH X :: M) rfl .nil (by (repeat first | exact en_refl | (apply en_blk; focus ((repeat' first | exact Pick.here | apply Pick.skip | apply Pick.app); done); focus rfl) | (apply en_own; focus ((repeat' first | exact Pick.here | apply Pick.skip | apply Pick.app); done); focus rfl) | (apply en_pick; focus ((repeat' first | exact Pick.here | apply Pick.skip | apply Pick.app); done)) | apply en_drop | apply en_app) <;> fail) ⟨rfl, X, ⟨f2, f3⟩, by rw [f4]⟩
/-- The ends of all. -/
def endsOf (l : List Pt) : List Int := l.flatMap fun s => [s.x, s.y]
theorem endsOf_snoc (l : List Pt) (s : Pt) : endsOf (l ++ [s]) = endsOf l ++ [s.x, s.y] := by simp [endsOf]
theorem endsOf_length (l : List Pt) : (endsOf l).length = 2 * l.length := by
  induction l with
  | nil => rfl
  | cons a l ih => simp only [endsOf, List.flatMap_cons, List.length_append, List.length_cons] at ih ⊢; simp only [List.length_nil]; omega
theorem tOwn_ctr (t : Nat) (x : RA) (root A : Option Addr) (c : Nat) (l : List Pt) (most : Int) (built : Nat) (L : List HP) (ht : LdN L t 0 5 (tgC x root A l.length c most built)) (hr : Rd L A l.length l) (hl : l.length ≤ 1000) :
    Ctr Tryz.prog 64 #[.pointer (some ⟨t, 0, none⟩)] L fun v L' => MadeR (ofL (endsOf l)) L v L' := by
  have h2 : Ld L ⟨t, 0 + 2, none⟩ (.slice A l.length c) := ht.at_ (i := 2) rfl
  refine Ctr_of (fn := Tryz.f64) (n := 25) Tryz.func64 rfl rfl rfl ?_
  intro g F
  refine G_heap (own.nil_ 3 1) ?_
  (repeat first | refine G_seq ?_ | refine G_skip ?_ | refine G_endblk ?_ | refine G_block ?_ | refine G_exit rfl ?_)
  refine G_region ?_
  refine GO_q rfl rfl (ev_assign rfl) ?_
  refine GO_nil ?_
  (repeat first | refine G_seq ?_ | refine G_skip ?_ | refine G_endblk ?_ | refine G_block ?_ | refine G_exit rfl ?_)
  refine G_region ?_
  refine GO_q rfl rfl (ev_assign rfl) ?_
  refine GO_nil ?_
  (repeat first | refine G_seq ?_ | refine G_skip ?_ | refine G_endblk ?_ | refine G_block ?_ | refine G_exit rfl ?_)
  refine G_region ?_
  refine GO_q rfl rfl (ev_move rfl) ?_
  (first | refine GO_q rfl rfl (ev_nilCheck rfl) ?_ | refine GO_q rfl rfl (ev_nilCheckF (by simp) rfl) ?_)
  refine GO_q rfl rfl (ev_fieldAddr rfl) ?_
  refine GO_q rfl rfl (ev_load rfl (by repeat' first | exact Ld.blk rfl | assumption | apply Ld.skip | apply Ld.app)) ?_
  refine GO_q rfl rfl (ev_len rfl) ?_
  refine GO_q rfl rfl (ev_move rfl) ?_
  refine GO_nil ?_
  (repeat first | refine G_seq ?_ | refine G_skip ?_ | refine G_endblk ?_ | refine G_block ?_ | refine G_exit rfl ?_)
  refine G_loop (ι := Nat × Option Addr × Nat) (fun z => [(3, .slice z.2.1 (2 * z.1) z.2.2), (9, .slice A l.length c), (10, .int .i64 (l.length : Nat)), (11, .int .i64 (z.1 : Nat))]) (fun z => own 3 1 z.2.1 (2 * z.1) z.2.2 (flat (endsOf (l.take z.1))) :: F :: L) (fun z => z.1 ≤ l.length ∧ 2 * z.1 ≤ z.2.2 ∧ (0 < 2 * z.1 → ∃ b, z.2.1 = some ⟨b, 0, none⟩)) (fun z => l.length - z.1) (0, none, 0) ⟨Nat.zero_le _, Nat.zero_le _, fun h => absurd h (Nat.lt_irrefl 0)⟩ ⟨rfl, rfl, rfl, rfl, trivial⟩ (fun _ s => s) ?_
  rintro ⟨k, O, e⟩ ⟨f1, f2, f3⟩
  simp only at f1 f2 f3
  dsimp only
  (repeat first | refine G_seq ?_ | refine G_skip ?_ | refine G_endblk ?_ | refine G_block ?_ | refine G_exit rfl ?_)
  refine G_region ?_
  (first | refine GO_q rfl rfl (ev_lssN rfl rfl) ?_ | refine GO_q rfl rfl (ev_lss rfl rfl) ?_)
  refine GO_nil ?_
  (repeat first | refine G_seq ?_ | refine G_skip ?_ | refine G_endblk ?_ | refine G_block ?_ | refine G_exit rfl ?_)
  refine G_cond rfl (fun c1 => ?_) (fun c1 => ?_)
  · obtain ⟨b1, o1, rfl, x1⟩ := hr.at_ (by omega)
    have g1 : l[k]? = some l[k] := List.getElem?_eq_getElem (by omega)
    have y1 := x1 _ _ g1
    have s1 : endsOf (l.take (k + 1)) = endsOf (l.take k) ++ [l[k].x, l[k].y] := by rw [List.take_succ_eq_append_getElem (by omega), endsOf_snoc]
    generalize l[k] = u at *
    have z1 : LdN L b1 (o1 + k * 3) 3 [.int .i64 u.id, .int .i64 u.x, .int .i64 u.y] := y1
    (repeat first | refine G_seq ?_ | refine G_skip ?_ | refine G_endblk ?_ | refine G_block ?_ | refine G_exit rfl ?_)
    refine G_region ?_
    (first | refine GO_q rfl rfl (ev_indexAddrN rfl rfl (by first | omega | (simp; done) | (simp; omega))) ?_ | refine GO_q rfl rfl (ev_indexAddr rfl rfl (by first | omega | (simp; done) | (simp; omega)) (by first | omega | (simp; done) | (simp; omega))) ?_)
    refine GO_q rfl rfl (ev_loadN rfl (by repeat' first | exact LdN.blk rfl | assumption | apply LdN.skip | apply LdN.app)) ?_
    refine GO_eff rfl rfl eff_alloc ?_; rintro _ _ ⟨b5, rfl, rfl⟩
    refine GO_eff rfl rfl (eff_storeN rfl rfl rfl rfl (by repeat' first | exact Upd.here rfl | apply Upd.skip | apply Upd.app)) ?_; rintro _ _ ⟨rfl, rfl⟩
    refine GO_nil ?_
    (repeat first | refine G_seq ?_ | refine G_skip ?_ | refine G_endblk ?_ | refine G_block ?_ | refine G_exit rfl ?_)
    refine G_region ?_
    refine GO_q rfl rfl (ev_move rfl) ?_
    refine GO_q rfl rfl (ev_fieldAddr rfl) ?_
    refine GO_q rfl rfl (ev_load rfl (by repeat' first | exact Ld.blk rfl | assumption | apply Ld.skip | apply Ld.app)) ?_
    refine GO_q rfl rfl (ev_fieldAddr rfl) ?_
    refine GO_q rfl rfl (ev_load rfl (by repeat' first | exact Ld.blk rfl | assumption | apply Ld.skip | apply Ld.app)) ?_
    refine GO_eff rfl rfl (eff_buildSliceN (by rfl) rfl rfl) ?_; rintro _ _ ⟨b20, rfl, rfl⟩
    refine GO_eff rfl rfl (eff_append rfl rfl (by repeat' first | exact Pick.here | apply Pick.skip) (by repeat' first | exact Rc.blk rfl | assumption | apply Rc.skip) (one_all rfl) (by rfl) (by decide) (by first | omega | (simp; done) | (simp; omega)) (by first | omega | (simp; done) | (simp; omega))) ?_; rintro _ _ ⟨A21, c21, rfl, hc21, hm21, hn21, rfl⟩
    refine GO_q rfl rfl (ev_assign rfl) ?_
    refine GO_nil ?_
    (repeat first | refine G_seq ?_ | refine G_skip ?_ | refine G_endblk ?_ | refine G_block ?_ | refine G_exit rfl ?_)
    refine G_region ?_
    (first | refine GO_q rfl rfl (ev_addN (q := 1) rfl rfl (by first | omega | (simp; done) | (simp; omega))) ?_ | refine GO_q rfl rfl (ev_add rfl rfl (by first | omega | (simp; done) | (simp; omega))) ?_)
    refine GO_q rfl rfl (ev_move rfl) ?_
    refine GO_nil ?_
    (repeat first | refine G_seq ?_ | refine G_skip ?_ | refine G_endblk ?_ | refine G_block ?_ | refine G_exit rfl ?_)
    refine G_round (k + 1, A21, c21) ⟨by simp only; omega, by simp only; omega, fun _ => hn21 (by omega)⟩ (by simp only; omega) ⟨rfl, rfl, rfl, rfl, trivial⟩ ?_
    have e5 : flat (endsOf (l.take (k + 1))) = flat (endsOf (l.take k)) ++ [Value.int .i64 u.x, .int .i64 u.y] := by rw [s1, flat_append]; rfl
    simp only [e5]
    exact (by (repeat first | exact en_refl | (apply en_blk; focus ((repeat' first | exact Pick.here | apply Pick.skip | apply Pick.app); done); focus rfl) | (apply en_own; focus ((repeat' first | exact Pick.here | apply Pick.skip | apply Pick.app); done); focus rfl) | (apply en_pick; focus ((repeat' first | exact Pick.here | apply Pick.skip | apply Pick.app); done)) | apply en_drop | apply en_app) <;> fail)
  · have e0 : k = l.length := by omega
    subst e0
    rw [List.take_length]
    rw [← endsOf_length] at f2 f3
    rw [← endsOf_length]
    (repeat first | refine G_seq ?_ | refine G_skip ?_ | refine G_endblk ?_ | refine G_block ?_ | refine G_exit rfl ?_)
    refine G_region ?_
    refine GO_q rfl rfl (ev_move rfl) ?_
    refine GO_eff rfl rfl (eff_call rfl (RNew_ctr O (endsOf l).length e (endsOf l) _ (Rc.own (flat_length _) f3) (by rw [endsOf_length]; omega) f2)) ?_; rintro _ _ ⟨x', a1, a2, a3, rfl, rfl⟩
    refine GO_q rfl rfl (ev_assign rfl) ?_
    refine GO_nil ?_
    (repeat first | refine G_seq ?_ | refine G_skip ?_ | refine G_endblk ?_ | refine G_block ?_ | refine G_exit rfl ?_)
    exact G_ret (L' := raH x' :: L) rfl (.tmp rfl .nil) (by (repeat first | exact en_refl | (apply en_blk; focus ((repeat' first | exact Pick.here | apply Pick.skip | apply Pick.app); done); focus rfl) | (apply en_own; focus ((repeat' first | exact Pick.here | apply Pick.skip | apply Pick.app); done); focus rfl) | (apply en_pick; focus ((repeat' first | exact Pick.here | apply Pick.skip | apply Pick.app); done)) | apply en_drop | apply en_app) <;> fail) ⟨x', a1, a2, a3, rfl, rfl⟩
end Go.Proofs.YtmgkmammkmlakaaGreat
/- Trees that are heaps by Y: what lies in memory, and the small functions. -/
namespace Go.Proofs.YtmgkmammkmlakaaGreat
attribute [local irreducible] sat
set_option linter.unusedVariables false
set_option linter.unusedSimpArgs false
set_option maxRecDepth 100000

def goodId (n : Int) : Bool := decide (1 ≤ n) && decide (n ≤ 2147483647)
def goodP (p : Pt) : Bool := goodId p.id && (good p.x && good p.y)
theorem kid_id_ctr (n : Int) (L : List HP) : Ctr Tryz.prog 88 #[.int .i64 n] L fun v L' => v = .bool (goodId n) ∧ L' = L := by
  refine Ctr_of (fn := Tryz.f88) (n := 9) Tryz.func88 rfl rfl rfl ?_
  intro g F
  (repeat first | refine G_seq ?_ | refine G_skip ?_ | refine G_endblk ?_ | refine G_block ?_ | refine G_exit rfl ?_)
  refine G_region ?_
  refine GO_q rfl rfl (ev_assign rfl) ?_
  refine GO_nil ?_
  (repeat first | refine G_seq ?_ | refine G_skip ?_ | refine G_endblk ?_ | refine G_block ?_ | refine G_exit rfl ?_)
  refine G_region ?_
  refine GO_q rfl rfl (ev_move rfl) ?_
  refine GO_q rfl rfl (ev_geq rfl rfl) ?_
  refine GO_q rfl rfl (ev_move rfl) ?_
  refine GO_guard rfl rfl rfl (fun hc6 => ?y6) (fun hc6 => ?n6)
  case' n6 =>
    have hd6 := hc6
    try simp only [decide_eq_true_eq, decide_eq_false_iff_not, Bool.not_true, Bool.not_false, Bool.not_eq_true', Bool.not_eq_false'] at hd6
    refine GO_no rfl rfl rfl hc6 ?_
    refine GO_q rfl rfl (ev_pick_f rfl hc6 rfl) ?_
    refine GO_q rfl rfl (ev_assign rfl) ?_
    refine GO_nil ?_
    (repeat first | refine G_seq ?_ | refine G_skip ?_ | refine G_endblk ?_ | refine G_block ?_ | refine G_exit rfl ?_)
    refine G_ret rfl (.tmp rfl .nil) (by (repeat first | exact fun _ s => s | apply en_keep | apply en_drop | apply en_app) <;> fail) ⟨by simp_all [retv, goodId] <;> (intros; omega), rfl⟩
  case' y6 =>
    have hd6 := hc6
    try simp only [decide_eq_true_eq, decide_eq_false_iff_not, Bool.not_true, Bool.not_false, Bool.not_eq_true', Bool.not_eq_false'] at hd6
    refine GO_q rfl rfl (ev_move rfl) ?_
    refine GO_yes rfl rfl rfl hc6 ?_
    refine GO_q rfl rfl (ev_leq rfl rfl) ?_
    refine GO_q rfl rfl (ev_pick_t rfl hc6 rfl) ?_
    refine GO_q rfl rfl (ev_assign rfl) ?_
    refine GO_nil ?_
    (repeat first | refine G_seq ?_ | refine G_skip ?_ | refine G_endblk ?_ | refine G_block ?_ | refine G_exit rfl ?_)
    refine G_ret rfl (.tmp rfl .nil) (by (repeat first | exact fun _ s => s | apply en_keep | apply en_drop | apply en_app) <;> fail) ⟨by simp_all [retv, goodId] <;> (intros; omega), rfl⟩
/-- Whether a point comes ahead of another one by Y. -/
def und (p q : Pt) : Bool := decide (up p q < 0)
/-- A tree. -/
inductive PT where
  | nil
  | node (p s : Pt) (lo hi : PT)
def PT.size : PT → Nat
  | .nil => 0
  | .node _ _ lo hi => lo.size + 1 + hi.size
/-- A node's cells. -/
@[reducible] def nodeC (p s : Pt) (l h : Option Addr) (n : Nat) : List Value := [.int .i64 p.id, .int .i64 p.x, .int .i64 p.y, .int .i64 s.id, .int .i64 s.x, .int .i64 s.y, .pointer l, .pointer h, .int .i64 (n : Nat)]
theorem PT.size_nil : PT.nil.size = 0 := rfl
theorem PT.size_node (p s : Pt) (lo hi : PT) : (PT.node p s lo hi).size = lo.size + 1 + hi.size := rfl
end Go.Proofs.YtmgkmammkmlakaaGreat
/- Trees of cells: Insert, Delete. -/
namespace Go.Proofs.YtmgkmammkmlakaaGreat
attribute [local irreducible] sat
set_option linter.unusedVariables false
set_option linter.unusedSimpArgs false
set_option maxRecDepth 100000

def fairP (s : Pt) : Bool := goodId s.id && good s.x && good s.y && decide (s.x ≤ s.y)
theorem KFair_ctr (s : Pt) (L : List HP) : Ctr Tryz.prog 54 #[s.v] L fun v L' => v = .bool (fairP s) ∧ L' = L := by
  refine Ctr_of (fn := Tryz.f54) (n := 23) Tryz.func54 rfl rfl rfl ?_
  intro g F
  (repeat first | refine G_seq ?_ | refine G_skip ?_ | refine G_endblk ?_ | refine G_block ?_ | refine G_exit rfl ?_)
  refine G_region ?_
  refine GO_eff rfl rfl (eff_box rfl) ?_; rintro _ _ ⟨b1, rfl, rfl⟩
  refine GO_q rfl rfl (ev_assign rfl) ?_
  refine GO_nil ?_
  (repeat first | refine G_seq ?_ | refine G_skip ?_ | refine G_endblk ?_ | refine G_block ?_ | refine G_exit rfl ?_)
  refine G_region ?_
  refine GO_q rfl rfl (ev_fieldAddr rfl) ?_
  refine GO_q rfl rfl (ev_load rfl (by repeat' first | exact Ld.blk rfl | assumption | apply Ld.skip | apply Ld.app)) ?_
  refine GO_eff rfl rfl (eff_call rfl (kid_id_ctr _ _)) ?_; rintro _ _ ⟨rfl, rfl⟩
  refine GO_q rfl rfl (ev_move rfl) ?_
  refine GO_guard rfl rfl rfl (fun hc6 => ?y6) (fun hc6 => ?n6)
  case' n6 =>
    have hd6 := hc6
    try simp only [decide_eq_true_eq, decide_eq_false_iff_not, Bool.not_true, Bool.not_false, Bool.not_eq_true', Bool.not_eq_false'] at hd6
    refine GO_no rfl rfl rfl hc6 ?_
    refine GO_no rfl rfl rfl hc6 ?_
    refine GO_q rfl rfl (ev_pick_f rfl hc6 rfl) ?_
    refine GO_q rfl rfl (ev_move rfl) ?_
    refine GO_no rfl rfl rfl rfl ?_
    refine GO_no rfl rfl rfl rfl ?_
    refine GO_no rfl rfl rfl rfl ?_
    refine GO_q rfl rfl (ev_pick_f rfl rfl rfl) ?_
    refine GO_q rfl rfl (ev_move rfl) ?_
    refine GO_no rfl rfl rfl rfl ?_
    refine GO_no rfl rfl rfl rfl ?_
    refine GO_no rfl rfl rfl rfl ?_
    refine GO_no rfl rfl rfl rfl ?_
    refine GO_no rfl rfl rfl rfl ?_
    refine GO_q rfl rfl (ev_pick_f rfl rfl rfl) ?_
    refine GO_q rfl rfl (ev_assign rfl) ?_
    refine GO_nil ?_
    (repeat first | refine G_seq ?_ | refine G_skip ?_ | refine G_endblk ?_ | refine G_block ?_ | refine G_exit rfl ?_)
    refine G_ret rfl (.tmp rfl .nil) (by (repeat first | exact fun _ s => s | apply en_keep | apply en_drop | apply en_app) <;> fail) ⟨by simp_all [retv, fairP], rfl⟩
  case' y6 =>
    have hd6 := hc6
    try simp only [decide_eq_true_eq, decide_eq_false_iff_not, Bool.not_true, Bool.not_false, Bool.not_eq_true', Bool.not_eq_false'] at hd6
    refine GO_q rfl rfl (ev_fieldAddr rfl) ?_
    refine GO_yes rfl rfl rfl hc6 ?_
    refine GO_q rfl rfl (ev_load rfl (by repeat' first | exact Ld.blk rfl | assumption | apply Ld.skip | apply Ld.app)) ?_
    refine GO_yes rfl rfl rfl hc6 ?_
    refine GO_eff rfl rfl (eff_call rfl (Good_ctr _ _)) ?_; rintro _ _ ⟨rfl, rfl⟩
    refine GO_q rfl rfl (ev_pick_t rfl hc6 rfl) ?_
    refine GO_q rfl rfl (ev_move rfl) ?_
    refine GO_guard rfl rfl rfl (fun hc10 => ?y10) (fun hc10 => ?n10)
    case' n10 =>
      have hd10 := hc10
      try simp only [decide_eq_true_eq, decide_eq_false_iff_not, Bool.not_true, Bool.not_false, Bool.not_eq_true', Bool.not_eq_false'] at hd10
      refine GO_no rfl rfl rfl hc10 ?_
      refine GO_no rfl rfl rfl hc10 ?_
      refine GO_q rfl rfl (ev_pick_f rfl hc10 rfl) ?_
      refine GO_q rfl rfl (ev_move rfl) ?_
      refine GO_no rfl rfl rfl rfl ?_
      refine GO_no rfl rfl rfl rfl ?_
      refine GO_no rfl rfl rfl rfl ?_
      refine GO_no rfl rfl rfl rfl ?_
      refine GO_no rfl rfl rfl rfl ?_
      refine GO_q rfl rfl (ev_pick_f rfl rfl rfl) ?_
      refine GO_q rfl rfl (ev_assign rfl) ?_
      refine GO_nil ?_
      (repeat first | refine G_seq ?_ | refine G_skip ?_ | refine G_endblk ?_ | refine G_block ?_ | refine G_exit rfl ?_)
      refine G_ret rfl (.tmp rfl .nil) (by (repeat first | exact fun _ s => s | apply en_keep | apply en_drop | apply en_app) <;> fail) ⟨by simp_all [retv, fairP], rfl⟩
    case' y10 =>
      have hd10 := hc10
      try simp only [decide_eq_true_eq, decide_eq_false_iff_not, Bool.not_true, Bool.not_false, Bool.not_eq_true', Bool.not_eq_false'] at hd10
      refine GO_q rfl rfl (ev_fieldAddr rfl) ?_
      refine GO_yes rfl rfl rfl hc10 ?_
      refine GO_q rfl rfl (ev_load rfl (by repeat' first | exact Ld.blk rfl | assumption | apply Ld.skip | apply Ld.app)) ?_
      refine GO_yes rfl rfl rfl hc10 ?_
      refine GO_eff rfl rfl (eff_call rfl (Good_ctr _ _)) ?_; rintro _ _ ⟨rfl, rfl⟩
      refine GO_q rfl rfl (ev_pick_t rfl hc10 rfl) ?_
      refine GO_q rfl rfl (ev_move rfl) ?_
      refine GO_guard rfl rfl rfl (fun hc14 => ?y14) (fun hc14 => ?n14)
      case' n14 =>
        have hd14 := hc14
        try simp only [decide_eq_true_eq, decide_eq_false_iff_not, Bool.not_true, Bool.not_false, Bool.not_eq_true', Bool.not_eq_false'] at hd14
        refine GO_no rfl rfl rfl hc14 ?_
        refine GO_no rfl rfl rfl hc14 ?_
        refine GO_no rfl rfl rfl hc14 ?_
        refine GO_no rfl rfl rfl hc14 ?_
        refine GO_q rfl rfl (ev_pick_f rfl hc14 rfl) ?_
        refine GO_q rfl rfl (ev_assign rfl) ?_
        refine GO_nil ?_
        (repeat first | refine G_seq ?_ | refine G_skip ?_ | refine G_endblk ?_ | refine G_block ?_ | refine G_exit rfl ?_)
        refine G_ret rfl (.tmp rfl .nil) (by (repeat first | exact fun _ s => s | apply en_keep | apply en_drop | apply en_app) <;> fail) ⟨by simp_all [retv, fairP], rfl⟩
      case' y14 =>
        have hd14 := hc14
        try simp only [decide_eq_true_eq, decide_eq_false_iff_not, Bool.not_true, Bool.not_false, Bool.not_eq_true', Bool.not_eq_false'] at hd14
        refine GO_q rfl rfl (ev_fieldAddr rfl) ?_
        refine GO_yes rfl rfl rfl hc14 ?_
        refine GO_q rfl rfl (ev_load rfl (by repeat' first | exact Ld.blk rfl | assumption | apply Ld.skip | apply Ld.app)) ?_
        refine GO_yes rfl rfl rfl hc14 ?_
        refine GO_q rfl rfl (ev_fieldAddr rfl) ?_
        refine GO_yes rfl rfl rfl hc14 ?_
        refine GO_q rfl rfl (ev_load rfl (by repeat' first | exact Ld.blk rfl | assumption | apply Ld.skip | apply Ld.app)) ?_
        refine GO_yes rfl rfl rfl hc14 ?_
        refine GO_q rfl rfl (ev_leq rfl rfl) ?_
        refine GO_q rfl rfl (ev_pick_t rfl hc14 rfl) ?_
        refine GO_q rfl rfl (ev_assign rfl) ?_
        refine GO_nil ?_
        (repeat first | refine G_seq ?_ | refine G_skip ?_ | refine G_endblk ?_ | refine G_block ?_ | refine G_exit rfl ?_)
        refine G_ret rfl (.tmp rfl .nil) (by (repeat first | exact fun _ s => s | apply en_keep | apply en_drop | apply en_app) <;> fail) ⟨by simp_all [retv, fairP], rfl⟩
/-- What is true of a tree: x the numbers, X the nodes, l its intervals in order, k as they came. -/
structure TOk (x : RA) (X : SA) (A : Option Addr) (c : Nat) (l k : List Pt) (R : List Int) : Prop where
  xo : x.ok
  xR : x.R = R
  ad : X.each fun _ _ A c m => AdOk A c m
  a : AdOk A c l
  asc : Asc l
  sg : SgOk (qR R) l X 0 (2 * R.length) noP
  ends : ∀ s ∈ l, s.x ∈ R ∧ s.y ∈ R ∧ s.x ≤ s.y
  small : R.length ≤ 4 * l.length + 6
  perm : l.Perm k
structure TIn (L : List HP) (t : Nat) (x : RA) (X : SA) (A : Option Addr) (c : Nat) (l : List Pt) (most : Int) (built : Nat) : Prop where
  t : LdN L t 0 5 (tgC x X.addr A l.length c most built)
  x : RIn L x
  X : SIn L X
  l : Rd L A l.length l
theorem TIn.skip {Y : HP} {L : List HP} {t : Nat} {x : RA} {X : SA} {A : Option Addr} {c : Nat} {l : List Pt} {most : Int} {built : Nat} (h : TIn L t x X A c l most built) : TIn (Y :: L) t x X A c l most built := ⟨h.t.skip, h.x.skip, h.X.skip, h.l.skip⟩
theorem TIn.app {N L : List HP} {t : Nat} {x : RA} {X : SA} {A : Option Addr} {c : Nat} {l : List Pt} {most : Int} {built : Nat} (h : TIn L t x X A c l most built) : TIn (N ++ L) t x X A c l most built := by
  induction N with
  | nil => exact h
  | cons X N ih => exact ih.skip
/-- A tree as it lies in memory. -/
def tgL (t : Nat) (x : RA) (X : SA) (A : Option Addr) (c : Nat) (l : List Pt) (most : Int) (built : Nat) (M : List HP) : List HP := blk t 83 (tgC x X.addr A l.length c most built) :: raH x :: saH X :: own 51 3 A l.length c (flat l) :: M
theorem TOk.in_ {x : RA} {X : SA} {A : Option Addr} {c : Nat} {l k : List Pt} {R : List Int} (o : TOk x X A c l k R) (t : Nat) (most : Int) (built : Nat) (M : List HP) : TIn (tgL t x X A c l most built M) t x X A c l most built :=
  ⟨LdN.blk rfl, RIn.skip (raH_in o.xo _), SIn.skip (SIn.skip (saH_in o.ad _)), Rd.skip (Rd.skip (Rd.skip (Rc.own (flat_length l) o.a.1)))⟩
theorem thas_ctr (t : Nat) (x : RA) (X : SA) (A : Option Addr) (c : Nat) (l : List Pt) (most : Int) (built : Nat) (s : Pt) (L : List HP) (h : TIn L t x X A c l most built) (ho : Asc l) (hl : l.length ≤ 1000) :
    Ctr Tryz.prog 55 #[.pointer (some ⟨t, 0, none⟩), s.v] L fun v L' => v = .bool (decide (s ∈ l)) ∧ L' = L := by
  have h2 : Ld L ⟨t, 0 + 2, none⟩ (.slice A l.length c) := h.t.at_ (i := 2) rfl
  have hr := h.l
  generalize hd : decide (s ∈ l) = d
  have hh := fun L hr => HasS_ctr A l.length c l s L hr (by omega) ho
  rw [hd] at hh
  refine Ctr_of (fn := Tryz.f55) (n := 15) Tryz.func55 rfl rfl rfl ?_
  intro g F
  (repeat first | refine G_seq ?_ | refine G_skip ?_ | refine G_endblk ?_ | refine G_block ?_ | refine G_exit rfl ?_)
  refine G_region ?_
  refine GO_eff rfl rfl (eff_box rfl) ?_; rintro _ _ ⟨b3, rfl, rfl⟩
  refine GO_q rfl rfl (ev_assign rfl) ?_
  refine GO_nil ?_
  (repeat first | refine G_seq ?_ | refine G_skip ?_ | refine G_endblk ?_ | refine G_block ?_ | refine G_exit rfl ?_)
  (repeat first | refine G_seq ?_ | refine G_skip ?_ | refine G_endblk ?_ | refine G_block ?_ | refine G_exit rfl ?_)
  refine G_draw (.q 0 (.q 1 (.q 2 (.q 3 (.q 4 (.q 5 (.q 6 (.q 7 (.e 8 (.q 9 (.q 10 .nil))))))))))) (by kernel_rfl) (by kernel_rfl) ?_
  refine RS_m retB_noPanic rfl rfl rfl rfl (ev_move rfl) ?_
  (first | refine RS_m retB_noPanic rfl rfl rfl rfl (ev_neqNil rfl rfl) ?_ | refine RS_m retB_noPanic rfl rfl rfl rfl (ev_neqPtr rfl rfl) ?_)
  refine RS_m retB_noPanic rfl rfl rfl rfl (ev_move rfl) ?_
  refine RS_m_yes retB_noPanic rfl rfl rfl rfl ⟨_, rfl, rfl⟩ rfl (ev_move rfl) ?_
  (first | refine RS_m_yes retB_noPanic rfl rfl rfl rfl ⟨_, rfl, rfl⟩ rfl (ev_nilCheck rfl) ?_ | refine RS_m_yes retB_noPanic rfl rfl rfl rfl ⟨_, rfl, rfl⟩ rfl (ev_nilCheckF (by simp) rfl) ?_)
  refine RS_m_yes retB_noPanic rfl rfl rfl rfl ⟨_, rfl, rfl⟩ rfl (ev_fieldAddr rfl) ?_
  refine RS_q_yes retB_noPanic rfl rfl rfl rfl ⟨_, rfl, rfl⟩ rfl (ev_load rfl (by repeat' first | exact Ld.blk rfl | assumption | apply Ld.skip | apply Ld.app)) ?_
  refine RS_q_yes retB_noPanic rfl rfl rfl rfl ⟨_, rfl, rfl⟩ rfl (ev_loadN rfl (by repeat' first | exact LdN.blk rfl | assumption | apply LdN.skip | apply LdN.app)) ?_
  refine RS_e (RE_eff_yes rfl rfl rfl ⟨_, rfl, rfl⟩ rfl (eff_call rfl (hh _ (by repeat' first | exact Rc.blk rfl | assumption | apply Rd.skip | apply Rd.app))) ?_); rintro _ _ ⟨rfl, rfl⟩; refine ⟨_, fun _ s => s, (by first | ((repeat first | exact fun _ s => s | apply en_keep | apply en_drop | apply en_app) <;> fail) | ((repeat first | exact en_refl | (apply en_blk; focus ((repeat' first | exact Pick.here | apply Pick.skip | apply Pick.app); done); focus rfl) | (apply en_own; focus ((repeat' first | exact Pick.here | apply Pick.skip | apply Pick.app); done); focus rfl) | (apply en_pick; focus ((repeat' first | exact Pick.here | apply Pick.skip | apply Pick.app); done)) | apply en_drop | apply en_app) <;> fail)), ?_⟩
  refine RS_m retB_noPanic rfl rfl rfl rfl (ev_pick_t rfl rfl rfl) ?_
  refine RS_m retB_noPanic rfl rfl rfl rfl (ev_assign rfl) ?_
  refine RS_nil ?_
  (repeat first | refine G_seq ?_ | refine G_skip ?_ | refine G_endblk ?_ | refine G_block ?_ | refine G_exit rfl ?_)
  refine G_ret rfl (.tmp rfl .nil) (by (repeat first | exact fun _ s => s | apply en_keep | apply en_drop | apply en_app) <;> fail) ⟨rfl, rfl⟩
/-- What Insert tells. -/
def insE (most : Int) (k : List Pt) (s : Pt) : Int := if fairP s = false then 1 else if s ∈ k then 5 else if most ≤ (k.length : Nat) then 4 else 0
def bothIn (R : List Int) (s : Pt) : Bool := hasR R s.x && hasR R s.y
def insR (R : List Int) (s : Pt) : List Int := if bothIn R s then R else ofL (R ++ [s.x, s.y])
def insB (R : List Int) (s : Pt) (b : Nat) : Nat := if bothIn R s then b else b + 1
theorem fairP.le {s : Pt} (h : fairP s = true) : s.x ≤ s.y := by unfold fairP at h; simp at h; exact h.2
theorem tInsert_ctr (t : Nat) (x : RA) (X : SA) (A : Option Addr) (c : Nat) (l k : List Pt) (R : List Int) (most : Int) (built : Nat) (s : Pt) (M : List HP) (o : TOk x X A c l k R) (hk : k.length ≤ 100) (hb : built ≤ 100000) :
    Ctr Tryz.prog 25 #[.pointer (some ⟨t, 0, none⟩), s.v] (tgL t x X A c l most built M) fun v L' => v = .int .i64 (insE most k s) ∧ ∃ x' X' A' c' l', (if insE most k s = 0 then TOk x' X' A' c' l' (k ++ [s]) (insR R s) else x' = x ∧ X' = X ∧ A' = A ∧ c' = c ∧ l' = l) ∧ L' = tgL t x' X' A' c' l' most (if insE most k s = 0 then insB R s built else built) M := by
  have hin := o.in_ t most built M
  have hll : l.length = k.length := o.perm.length_eq
  have h2 : ∀ L', Ld (blk t 83 (tgC x X.addr A l.length c most built) :: L') ⟨t, 0 + 2, none⟩ (.slice A l.length c) := fun L' => Ld.blk rfl
  have hhas := fun L h => thas_ctr t x X A c l most built s L h o.asc (by omega)
  have hmem : decide (s ∈ l) = decide (s ∈ k) := decide_eq_decide.2 o.perm.mem_iff
  rw [hmem] at hhas
  by_cases c1 : fairP s = false
  · have e : insE most k s = 1 := by unfold insE; rw [if_pos c1]
    have hf := KFair_ctr s
    rw [c1] at hf
    rw [e]
    refine Ctr.mono (post := fun v L' => v = .int .i64 1 ∧ L' = tgL t x X A c l most built M) ?_ (fun v L' h => ⟨h.1, x, X, A, c, l, ⟨rfl, rfl, rfl, rfl, rfl⟩, h.2⟩)
    generalize tgL t x X A c l most built M = LL at *
    refine Ctr_of (fn := Tryz.f25) (n := 62) Tryz.func25 rfl rfl rfl ?_
    intro g F
    (repeat first | refine G_seq ?_ | refine G_skip ?_ | refine G_endblk ?_ | refine G_block ?_ | refine G_exit rfl ?_)
    refine G_region ?_
    refine GO_eff rfl rfl (eff_box rfl) ?_; rintro _ _ ⟨b3, rfl, rfl⟩
    refine GO_q rfl rfl (ev_assign rfl) ?_
    refine GO_nil ?_
    (repeat first | refine G_seq ?_ | refine G_skip ?_ | refine G_endblk ?_ | refine G_block ?_ | refine G_exit rfl ?_)
    (repeat first | refine G_seq ?_ | refine G_skip ?_ | refine G_endblk ?_ | refine G_block ?_ | refine G_exit rfl ?_)
    refine G_region ?_
    refine GO_q rfl rfl (ev_move rfl) ?_
    (first | refine GO_q rfl rfl (ev_eqlNil rfl rfl) ?_ | refine GO_q rfl rfl (ev_eqlPtr rfl rfl) ?_)
    refine GO_q rfl rfl (ev_move rfl) ?_
    refine GO_yes rfl rfl rfl rfl ?_
    refine GO_q rfl rfl (ev_loadN rfl (by repeat' first | exact LdN.blk rfl | assumption | apply LdN.skip | apply LdN.app)) ?_
    refine GO_yes rfl rfl rfl rfl ?_
    refine GO_eff rfl rfl (eff_call rfl (hf _)) ?_; rintro _ _ ⟨rfl, rfl⟩
    refine GO_yes rfl rfl rfl rfl ?_
    refine GO_q rfl rfl (ev_not rfl) ?_
    refine GO_q rfl rfl (ev_pick_f rfl rfl rfl) ?_
    refine GO_q rfl rfl (ev_assign rfl) ?_
    refine GO_nil ?_
    (repeat first | refine G_seq ?_ | refine G_skip ?_ | refine G_endblk ?_ | refine G_block ?_ | refine G_exit rfl ?_)
    refine G_cond_t rfl rfl ?_
    (repeat first | refine G_seq ?_ | refine G_skip ?_ | refine G_endblk ?_ | refine G_block ?_ | refine G_exit rfl ?_)
    refine G_region ?_
    refine GO_q rfl rfl (ev_assign rfl) ?_
    refine GO_nil ?_
    (repeat first | refine G_seq ?_ | refine G_skip ?_ | refine G_endblk ?_ | refine G_block ?_ | refine G_exit rfl ?_)
    refine G_ret rfl (.tmp rfl .nil) (by (repeat first | exact fun _ s => s | apply en_keep | apply en_drop | apply en_app) <;> fail) ⟨rfl, rfl⟩
  · have hf := KFair_ctr s
    have c1' : fairP s = true := by simpa using c1
    have hxy := fairP.le c1'
    rw [c1'] at hf
    by_cases c2 : s ∈ k
    · have e : insE most k s = 5 := by unfold insE; rw [if_neg c1, if_pos c2]
      rw [decide_eq_true c2] at hhas
      rw [e]
      refine Ctr.mono (post := fun v L' => v = .int .i64 5 ∧ L' = tgL t x X A c l most built M) ?_ (fun v L' h => ⟨h.1, x, X, A, c, l, ⟨rfl, rfl, rfl, rfl, rfl⟩, h.2⟩)
      generalize tgL t x X A c l most built M = LL at *
      refine Ctr_of (fn := Tryz.f25) (n := 62) Tryz.func25 rfl rfl rfl ?_
      intro g F
      (repeat first | refine G_seq ?_ | refine G_skip ?_ | refine G_endblk ?_ | refine G_block ?_ | refine G_exit rfl ?_)
      refine G_region ?_
      refine GO_eff rfl rfl (eff_box rfl) ?_; rintro _ _ ⟨b3, rfl, rfl⟩
      refine GO_q rfl rfl (ev_assign rfl) ?_
      refine GO_nil ?_
      (repeat first | refine G_seq ?_ | refine G_skip ?_ | refine G_endblk ?_ | refine G_block ?_ | refine G_exit rfl ?_)
      (repeat first | refine G_seq ?_ | refine G_skip ?_ | refine G_endblk ?_ | refine G_block ?_ | refine G_exit rfl ?_)
      refine G_region ?_
      refine GO_q rfl rfl (ev_move rfl) ?_
      (first | refine GO_q rfl rfl (ev_eqlNil rfl rfl) ?_ | refine GO_q rfl rfl (ev_eqlPtr rfl rfl) ?_)
      refine GO_q rfl rfl (ev_move rfl) ?_
      refine GO_yes rfl rfl rfl rfl ?_
      refine GO_q rfl rfl (ev_loadN rfl (by repeat' first | exact LdN.blk rfl | assumption | apply LdN.skip | apply LdN.app)) ?_
      refine GO_yes rfl rfl rfl rfl ?_
      refine GO_eff rfl rfl (eff_call rfl (hf _)) ?_; rintro _ _ ⟨rfl, rfl⟩
      refine GO_yes rfl rfl rfl rfl ?_
      refine GO_q rfl rfl (ev_not rfl) ?_
      refine GO_q rfl rfl (ev_pick_f rfl rfl rfl) ?_
      refine GO_q rfl rfl (ev_assign rfl) ?_
      refine GO_nil ?_
      (repeat first | refine G_seq ?_ | refine G_skip ?_ | refine G_endblk ?_ | refine G_block ?_ | refine G_exit rfl ?_)
      refine G_cond_f rfl rfl ?_
      (repeat first | refine G_seq ?_ | refine G_skip ?_ | refine G_endblk ?_ | refine G_block ?_ | refine G_exit rfl ?_)
      refine G_region ?_
      refine GO_q rfl rfl (ev_move rfl) ?_
      refine GO_q rfl rfl (ev_loadN rfl (by repeat' first | exact LdN.blk rfl | assumption | apply LdN.skip | apply LdN.app)) ?_
      refine GO_eff rfl rfl (eff_call rfl (hhas _ hin.skip.skip)) ?_; rintro _ _ ⟨rfl, rfl⟩
      refine GO_q rfl rfl (ev_assign rfl) ?_
      refine GO_nil ?_
      (repeat first | refine G_seq ?_ | refine G_skip ?_ | refine G_endblk ?_ | refine G_block ?_ | refine G_exit rfl ?_)
      refine G_cond_t rfl rfl ?_
      (repeat first | refine G_seq ?_ | refine G_skip ?_ | refine G_endblk ?_ | refine G_block ?_ | refine G_exit rfl ?_)
      refine G_region ?_
      refine GO_q rfl rfl (ev_assign rfl) ?_
      refine GO_nil ?_
      (repeat first | refine G_seq ?_ | refine G_skip ?_ | refine G_endblk ?_ | refine G_block ?_ | refine G_exit rfl ?_)
      refine G_ret rfl (.tmp rfl .nil) (by (repeat first | exact fun _ s => s | apply en_keep | apply en_drop | apply en_app) <;> fail) ⟨rfl, rfl⟩
    · rw [decide_eq_false c2] at hhas
      by_cases c3 : most ≤ (k.length : Nat)
      · have e : insE most k s = 4 := by unfold insE; rw [if_neg c1, if_neg c2, if_pos c3]
        rw [e]
        refine Ctr.mono (post := fun v L' => v = .int .i64 4 ∧ L' = tgL t x X A c l most built M) ?_ (fun v L' h => ⟨h.1, x, X, A, c, l, ⟨rfl, rfl, rfl, rfl, rfl⟩, h.2⟩)
        have h2' : Ld (tgL t x X A c l most built M) ⟨t, 0 + 2, none⟩ (.slice A l.length c) := hin.t.at_ (i := 2) rfl
        have h3' : Ld (tgL t x X A c l most built M) ⟨t, 0 + 3, none⟩ (.int .i64 most) := hin.t.at_ (i := 3) rfl
        generalize tgL t x X A c l most built M = LL at *
        refine Ctr_of (fn := Tryz.f25) (n := 62) Tryz.func25 rfl rfl rfl ?_
        intro g F
        (repeat first | refine G_seq ?_ | refine G_skip ?_ | refine G_endblk ?_ | refine G_block ?_ | refine G_exit rfl ?_)
        refine G_region ?_
        refine GO_eff rfl rfl (eff_box rfl) ?_; rintro _ _ ⟨b3, rfl, rfl⟩
        refine GO_q rfl rfl (ev_assign rfl) ?_
        refine GO_nil ?_
        (repeat first | refine G_seq ?_ | refine G_skip ?_ | refine G_endblk ?_ | refine G_block ?_ | refine G_exit rfl ?_)
        (repeat first | refine G_seq ?_ | refine G_skip ?_ | refine G_endblk ?_ | refine G_block ?_ | refine G_exit rfl ?_)
        refine G_region ?_
        refine GO_q rfl rfl (ev_move rfl) ?_
        (first | refine GO_q rfl rfl (ev_eqlNil rfl rfl) ?_ | refine GO_q rfl rfl (ev_eqlPtr rfl rfl) ?_)
        refine GO_q rfl rfl (ev_move rfl) ?_
        refine GO_yes rfl rfl rfl rfl ?_
        refine GO_q rfl rfl (ev_loadN rfl (by repeat' first | exact LdN.blk rfl | assumption | apply LdN.skip | apply LdN.app)) ?_
        refine GO_yes rfl rfl rfl rfl ?_
        refine GO_eff rfl rfl (eff_call rfl (hf _)) ?_; rintro _ _ ⟨rfl, rfl⟩
        refine GO_yes rfl rfl rfl rfl ?_
        refine GO_q rfl rfl (ev_not rfl) ?_
        refine GO_q rfl rfl (ev_pick_f rfl rfl rfl) ?_
        refine GO_q rfl rfl (ev_assign rfl) ?_
        refine GO_nil ?_
        (repeat first | refine G_seq ?_ | refine G_skip ?_ | refine G_endblk ?_ | refine G_block ?_ | refine G_exit rfl ?_)
        refine G_cond_f rfl rfl ?_
        (repeat first | refine G_seq ?_ | refine G_skip ?_ | refine G_endblk ?_ | refine G_block ?_ | refine G_exit rfl ?_)
        refine G_region ?_
        refine GO_q rfl rfl (ev_move rfl) ?_
        refine GO_q rfl rfl (ev_loadN rfl (by repeat' first | exact LdN.blk rfl | assumption | apply LdN.skip | apply LdN.app)) ?_
        refine GO_eff rfl rfl (eff_call rfl (hhas _ hin.skip.skip)) ?_; rintro _ _ ⟨rfl, rfl⟩
        refine GO_q rfl rfl (ev_assign rfl) ?_
        refine GO_nil ?_
        (repeat first | refine G_seq ?_ | refine G_skip ?_ | refine G_endblk ?_ | refine G_block ?_ | refine G_exit rfl ?_)
        refine G_cond_f rfl rfl ?_
        (repeat first | refine G_seq ?_ | refine G_skip ?_ | refine G_endblk ?_ | refine G_block ?_ | refine G_exit rfl ?_)
        refine G_draw (.q 0 (.q 1 (.q 2 (.q 3 (.q 4 (.q 5 (.q 6 (.q 7 (.q 8 (.q 9 (.q 10 .nil))))))))))) (by kernel_rfl) (by kernel_rfl) ?_
        refine RS_m retB_noPanic rfl rfl rfl rfl (ev_move rfl) ?_
        (first | refine RS_m retB_noPanic rfl rfl rfl rfl (ev_nilCheck rfl) ?_ | refine RS_m retB_noPanic rfl rfl rfl rfl (ev_nilCheckF (by simp) rfl) ?_)
        refine RS_m retB_noPanic rfl rfl rfl rfl (ev_fieldAddr rfl) ?_
        refine RS_q retB_noPanic rfl rfl rfl rfl (ev_load rfl (by repeat' first | exact Ld.blk rfl | assumption | apply Ld.skip | apply Ld.app)) ?_
        refine RS_q retB_noPanic rfl rfl rfl rfl (ev_len rfl) ?_
        refine RS_m retB_noPanic rfl rfl rfl rfl (ev_move rfl) ?_
        (first | refine RS_m retB_noPanic rfl rfl rfl rfl (ev_nilCheck rfl) ?_ | refine RS_m retB_noPanic rfl rfl rfl rfl (ev_nilCheckF (by simp) rfl) ?_)
        refine RS_m retB_noPanic rfl rfl rfl rfl (ev_fieldAddr rfl) ?_
        refine RS_q retB_noPanic rfl rfl rfl rfl (ev_load rfl (by repeat' first | exact Ld.blk rfl | assumption | apply Ld.skip | apply Ld.app)) ?_
        refine RS_m retB_noPanic rfl rfl rfl rfl (ev_geq rfl rfl) ?_
        refine RS_m retB_noPanic rfl rfl rfl rfl (ev_assign rfl) ?_
        refine RS_nil ?_
        (repeat first | refine G_seq ?_ | refine G_skip ?_ | refine G_endblk ?_ | refine G_block ?_ | refine G_exit rfl ?_)
        refine G_cond_t rfl (decide_eq_true (by omega)) ?_
        (repeat first | refine G_seq ?_ | refine G_skip ?_ | refine G_endblk ?_ | refine G_block ?_ | refine G_exit rfl ?_)
        refine G_region ?_
        refine GO_q rfl rfl (ev_assign rfl) ?_
        refine GO_nil ?_
        (repeat first | refine G_seq ?_ | refine G_skip ?_ | refine G_endblk ?_ | refine G_block ?_ | refine G_exit rfl ?_)
        refine G_ret rfl (.tmp rfl .nil) (by (repeat first | exact fun _ s => s | apply en_keep | apply en_drop | apply en_app) <;> fail) ⟨rfl, rfl⟩
      · have e : insE most k s = 0 := by unfold insE; rw [if_neg c1, if_neg c2, if_neg c3]
        have hRl : x.R.length ≤ 1000 := by rw [o.xR]; have := o.small; omega
        have hrk := fun L h => rlow_ctr x s.x L h o.xo (by omega)
        have hxR := o.xR
        have hsl : s ∉ l := fun h => c2 (o.perm.mem_iff.1 h)
        rw [e]
        simp only [if_true]
        unfold tgL
        refine Ctr_of (fn := Tryz.f25) (n := 62) Tryz.func25 rfl rfl rfl ?_
        intro g F
        (repeat first | refine G_seq ?_ | refine G_skip ?_ | refine G_endblk ?_ | refine G_block ?_ | refine G_exit rfl ?_)
        refine G_region ?_
        refine GO_eff rfl rfl (eff_box rfl) ?_; rintro _ _ ⟨b3, rfl, rfl⟩
        refine GO_q rfl rfl (ev_assign rfl) ?_
        refine GO_nil ?_
        (repeat first | refine G_seq ?_ | refine G_skip ?_ | refine G_endblk ?_ | refine G_block ?_ | refine G_exit rfl ?_)
        (repeat first | refine G_seq ?_ | refine G_skip ?_ | refine G_endblk ?_ | refine G_block ?_ | refine G_exit rfl ?_)
        refine G_region ?_
        refine GO_q rfl rfl (ev_move rfl) ?_
        (first | refine GO_q rfl rfl (ev_eqlNil rfl rfl) ?_ | refine GO_q rfl rfl (ev_eqlPtr rfl rfl) ?_)
        refine GO_q rfl rfl (ev_move rfl) ?_
        refine GO_yes rfl rfl rfl rfl ?_
        refine GO_q rfl rfl (ev_loadN rfl (by repeat' first | exact LdN.blk rfl | assumption | apply LdN.skip | apply LdN.app)) ?_
        refine GO_yes rfl rfl rfl rfl ?_
        refine GO_eff rfl rfl (eff_call rfl (hf _)) ?_; rintro _ _ ⟨rfl, rfl⟩
        refine GO_yes rfl rfl rfl rfl ?_
        refine GO_q rfl rfl (ev_not rfl) ?_
        refine GO_q rfl rfl (ev_pick_f rfl rfl rfl) ?_
        refine GO_q rfl rfl (ev_assign rfl) ?_
        refine GO_nil ?_
        (repeat first | refine G_seq ?_ | refine G_skip ?_ | refine G_endblk ?_ | refine G_block ?_ | refine G_exit rfl ?_)
        refine G_cond_f rfl rfl ?_
        (repeat first | refine G_seq ?_ | refine G_skip ?_ | refine G_endblk ?_ | refine G_block ?_ | refine G_exit rfl ?_)
        refine G_region ?_
        refine GO_q rfl rfl (ev_move rfl) ?_
        refine GO_q rfl rfl (ev_loadN rfl (by repeat' first | exact LdN.blk rfl | assumption | apply LdN.skip | apply LdN.app)) ?_
        refine GO_eff rfl rfl (eff_call rfl (hhas _ hin.skip.skip)) ?_; rintro _ _ ⟨rfl, rfl⟩
        refine GO_q rfl rfl (ev_assign rfl) ?_
        refine GO_nil ?_
        (repeat first | refine G_seq ?_ | refine G_skip ?_ | refine G_endblk ?_ | refine G_block ?_ | refine G_exit rfl ?_)
        refine G_cond_f rfl rfl ?_
        (repeat first | refine G_seq ?_ | refine G_skip ?_ | refine G_endblk ?_ | refine G_block ?_ | refine G_exit rfl ?_)
        refine G_draw (.q 0 (.q 1 (.q 2 (.q 3 (.q 4 (.q 5 (.q 6 (.q 7 (.q 8 (.q 9 (.q 10 .nil))))))))))) (by kernel_rfl) (by kernel_rfl) ?_
        refine RS_m retB_noPanic rfl rfl rfl rfl (ev_move rfl) ?_
        (first | refine RS_m retB_noPanic rfl rfl rfl rfl (ev_nilCheck rfl) ?_ | refine RS_m retB_noPanic rfl rfl rfl rfl (ev_nilCheckF (by simp) rfl) ?_)
        refine RS_m retB_noPanic rfl rfl rfl rfl (ev_fieldAddr rfl) ?_
        refine RS_q retB_noPanic rfl rfl rfl rfl (ev_load rfl (by repeat' first | exact Ld.blk rfl | assumption | apply Ld.skip | apply Ld.app)) ?_
        refine RS_q retB_noPanic rfl rfl rfl rfl (ev_len rfl) ?_
        refine RS_m retB_noPanic rfl rfl rfl rfl (ev_move rfl) ?_
        (first | refine RS_m retB_noPanic rfl rfl rfl rfl (ev_nilCheck rfl) ?_ | refine RS_m retB_noPanic rfl rfl rfl rfl (ev_nilCheckF (by simp) rfl) ?_)
        refine RS_m retB_noPanic rfl rfl rfl rfl (ev_fieldAddr rfl) ?_
        refine RS_q retB_noPanic rfl rfl rfl rfl (ev_load rfl (by repeat' first | exact Ld.blk rfl | assumption | apply Ld.skip | apply Ld.app)) ?_
        refine RS_m retB_noPanic rfl rfl rfl rfl (ev_geq rfl rfl) ?_
        refine RS_m retB_noPanic rfl rfl rfl rfl (ev_assign rfl) ?_
        refine RS_nil ?_
        (repeat first | refine G_seq ?_ | refine G_skip ?_ | refine G_endblk ?_ | refine G_block ?_ | refine G_exit rfl ?_)
        refine G_cond_f rfl (decide_eq_false (by omega)) ?_
        (repeat first | refine G_seq ?_ | refine G_skip ?_ | refine G_endblk ?_ | refine G_block ?_ | refine G_exit rfl ?_)
        have hlen := putP_length s l
        have hasc := putP_asc s l o.asc hsl
        have hbi : ([s.x, s.y].all (hasR x.R)) = bothIn R s := by simp [bothIn, hxR]
        have hra : ∀ M, Rd (own 51 3 A l.length c (flat l) :: M) A l.length l := fun M => Rc.own (flat_length l) o.a.1
        have hrx : ∀ M, RIn (raH x :: M) x := fun M => raH_in o.xo M
        (repeat first | refine G_seq ?_ | refine G_skip ?_ | refine G_endblk ?_ | refine G_block ?_ | refine G_exit rfl ?_)
        refine G_draw (.q 0 (.q 1 (.q 2 (.q 3 (.q 4 (.q 5 (.e 6 (.q 7 (.q 8 (.e 9 .nil)))))))))) (by kernel_rfl) (by kernel_rfl) ?_
        refine RS_m retB_noPanic rfl rfl rfl rfl (ev_move rfl) ?_
        refine RS_m retB_noPanic rfl rfl rfl rfl (ev_move rfl) ?_
        (first | refine RS_m retB_noPanic rfl rfl rfl rfl (ev_nilCheck rfl) ?_ | refine RS_m retB_noPanic rfl rfl rfl rfl (ev_nilCheckF (by simp) rfl) ?_)
        refine RS_m retB_noPanic rfl rfl rfl rfl (ev_fieldAddr rfl) ?_
        refine RS_q retB_noPanic rfl rfl rfl rfl (ev_load rfl (by repeat' first | exact Ld.blk rfl | assumption | apply Ld.skip | apply Ld.app)) ?_
        refine RS_q retB_noPanic rfl rfl rfl rfl (ev_loadN rfl (by repeat' first | exact LdN.blk rfl | assumption | apply LdN.skip | apply LdN.app)) ?_
        refine RS_e (RE_eff rfl rfl rfl (eff_call rfl ((Put_ctr A l.length c l s _ (by repeat' first | exact hra _ | apply Rd.skip) (by omega) o.asc).made)) ?_); rintro _ _ ⟨A', c', rfl, e1, e2, e3, rfl⟩; refine ⟨_, fun _ s => s, (by first | ((repeat first | exact fun _ s => s | apply en_keep | apply en_drop | apply en_app) <;> fail) | ((repeat first | exact en_refl | (apply en_blk; focus ((repeat' first | exact Pick.here | apply Pick.skip | apply Pick.app); done); focus rfl) | (apply en_own; focus ((repeat' first | exact Pick.here | apply Pick.skip | apply Pick.app); done); focus rfl) | (apply en_pick; focus ((repeat' first | exact Pick.here | apply Pick.skip | apply Pick.app); done)) | apply en_drop | apply en_app) <;> fail)), ?_⟩
        (first | refine RS_m retB_noPanic rfl rfl rfl rfl (ev_nilCheck rfl) ?_ | refine RS_m retB_noPanic rfl rfl rfl rfl (ev_nilCheckF (by simp) rfl) ?_)
        refine RS_m retB_noPanic rfl rfl rfl rfl (ev_fieldAddr rfl) ?_
        refine RS_e (RE_last (by kernel_rfl) rfl rfl rfl (eff_store rfl rfl rfl (by repeat' first | exact Upd.here rfl | apply Upd.skip | apply Upd.app)) ?_); rintro _ _ ⟨rfl, rfl⟩
        refine G_heap (L' := blk b3 51 s.cs :: blk t 83 (tgC x X.addr A' (putP s l).length c' most built) :: raH x :: saH X :: own 51 3 A' (putP s l).length c' (flat (putP s l)) :: F :: M) (by (repeat first | exact en_refl | (apply en_blk; focus ((repeat' first | exact Pick.here | apply Pick.skip | apply Pick.app); done); focus rfl) | (apply en_own; focus ((repeat' first | exact Pick.here | apply Pick.skip | apply Pick.app); done); focus rfl) | (apply en_pick; focus ((repeat' first | exact Pick.here | apply Pick.skip | apply Pick.app); done)) | apply en_drop | apply en_app) <;> fail) ?_
        (repeat first | refine G_seq ?_ | refine G_skip ?_ | refine G_endblk ?_ | refine G_block ?_ | refine G_exit rfl ?_)
        refine G_draw (.q 0 (.q 1 (.q 2 (.q 3 (.q 4 (.q 5 (.q 6 (.q 7 (.e 8 (.e 9 .nil)))))))))) (by kernel_rfl) (by kernel_rfl) ?_
        refine RS_m retB_noPanic rfl rfl rfl rfl (ev_move rfl) ?_
        (first | refine RS_m retB_noPanic rfl rfl rfl rfl (ev_nilCheck rfl) ?_ | refine RS_m retB_noPanic rfl rfl rfl rfl (ev_nilCheckF (by simp) rfl) ?_)
        refine RS_m retB_noPanic rfl rfl rfl rfl (ev_fieldAddr rfl) ?_
        refine RS_q retB_noPanic rfl rfl rfl rfl (ev_load rfl (by repeat' first | exact Ld.blk rfl | assumption | apply Ld.skip | apply Ld.app)) ?_
        refine RS_m retB_noPanic rfl rfl rfl rfl (ev_fieldAddr rfl) ?_
        refine RS_q retB_noPanic rfl rfl rfl rfl (ev_load rfl (by repeat' first | exact Ld.blk rfl | assumption | apply Ld.skip | apply Ld.app)) ?_
        refine RS_m retB_noPanic rfl rfl rfl rfl (ev_fieldAddr rfl) ?_
        refine RS_q retB_noPanic rfl rfl rfl rfl (ev_load rfl (by repeat' first | exact Ld.blk rfl | assumption | apply Ld.skip | apply Ld.app)) ?_
        refine RS_e (RE_eff rfl rfl rfl (eff_buildSliceN (by rfl) rfl rfl) ?_); rintro _ _ ⟨b45, rfl, rfl⟩; refine ⟨_, fun _ s => s, (by first | ((repeat first | exact fun _ s => s | apply en_keep | apply en_drop | apply en_app) <;> fail) | ((repeat first | exact en_refl | (apply en_blk; focus ((repeat' first | exact Pick.here | apply Pick.skip | apply Pick.app); done); focus rfl) | (apply en_own; focus ((repeat' first | exact Pick.here | apply Pick.skip | apply Pick.app); done); focus rfl) | (apply en_pick; focus ((repeat' first | exact Pick.here | apply Pick.skip | apply Pick.app); done)) | apply en_drop | apply en_app) <;> fail)), ?_⟩
        refine RS_e (RE_last (by kernel_rfl) rfl rfl rfl (eff_call rfl (RkHas_ctr x (some ⟨b45, 0, none⟩) 2 2 [s.x, s.y] _ (by repeat' first | exact hrx _ | apply RIn.skip) o.xo (by omega) (by repeat' first | exact Rc.blk rfl | apply Rd.skip) (by omega))) ?_); rintro _ _ ⟨rfl, rfl⟩
        rw [hbi]
        have hle : ∀ u ∈ putP s l, u.x ≤ u.y := fun u hu => by
          rcases List.mem_cons.1 ((putP_perm s l).subset hu) with rfl | hu
          · exact hxy
          · exact (o.ends u hu).2.2
        have hpk : (putP s l).Perm (k ++ [s]) := (putP_perm s l).trans ((o.perm.cons s).trans (List.perm_append_singleton s k).symm)
        cases c4 : bothIn R s with
        | true =>
          have eR : insR R s = R := by unfold insR; rw [if_pos c4]
          have eB : insB R s built = built := by unfold insB; rw [if_pos c4]
          have hm2 : s.x ∈ R ∧ s.y ∈ R := by unfold bothIn hasR at c4; simpa using c4
          rw [eR, eB]
          (repeat first | refine G_seq ?_ | refine G_skip ?_ | refine G_endblk ?_ | refine G_block ?_ | refine G_exit rfl ?_)
          refine G_cond_t rfl rfl ?_
          (repeat first | refine G_seq ?_ | refine G_skip ?_ | refine G_endblk ?_ | refine G_block ?_ | refine G_exit rfl ?_)
          refine G_region ?_
          refine GO_q rfl rfl (ev_move rfl) ?_
          refine GO_q rfl rfl (ev_loadN rfl (by repeat' first | exact LdN.blk rfl | assumption | apply LdN.skip | apply LdN.app)) ?_
          refine GO_eff rfl rfl (eff_call rfl (Ctr.pick (by repeat' first | exact Pick.here | apply Pick.skip | apply Pick.app) (lay_ctr t x X A' (putP s l).length c' most built s _ (by repeat' first | exact LdN.blk rfl | apply LdN.skip) (by repeat' first | exact hrx _ | apply RIn.skip) o.xo hRl hxy (o.sg.ad o.ad (by omega) o.asc)))) ?_; rintro _ _ ⟨rfl, Y, hY, rfl⟩
          refine GO_nil ?_
          have eY := hY.addr
          have hsg := o.sg.put (s := s) o.asc (cellR_mono _ hxy) (by rw [← hxR]; exact hY)
          (repeat first | refine G_seq ?_ | refine G_skip ?_ | refine G_endblk ?_ | refine G_block ?_ | refine G_exit rfl ?_)
          refine G_region ?_
          refine GO_q rfl rfl (ev_assign rfl) ?_
          refine GO_nil ?_
          (repeat first | refine G_seq ?_ | refine G_skip ?_ | refine G_endblk ?_ | refine G_block ?_ | refine G_exit rfl ?_)
          refine G_ret (L' := tgL t x Y A' c' (putP s l) most built M) rfl (.tmp rfl .nil) ?_ ⟨rfl, x, Y, A', c', putP s l, ⟨o.xo, o.xR, hY.each (P := fun _ _ A c m => AdOk A c m) (fun _ _ _ _ _ _ _ _ _ g => g.2) o.ad, ⟨e1, e2⟩, hasc, hsg, fun u hu => ?_, by have := o.small; omega, hpk⟩, rfl⟩
          · unfold tgL
            rw [eY]
            exact (by (repeat first | exact en_refl | (apply en_blk; focus ((repeat' first | exact Pick.here | apply Pick.skip | apply Pick.app); done); focus rfl) | (apply en_own; focus ((repeat' first | exact Pick.here | apply Pick.skip | apply Pick.app); done); focus rfl) | (apply en_pick; focus ((repeat' first | exact Pick.here | apply Pick.skip | apply Pick.app); done)) | apply en_drop | apply en_app) <;> fail)
          · rcases List.mem_cons.1 ((putP_perm s l).subset hu) with rfl | hu
            · exact ⟨hm2.1, hm2.2, hxy⟩
            · exact o.ends u hu
        | false =>
          have eR : insR R s = ofL (R ++ [s.x, s.y]) := by unfold insR; rw [c4]; rfl
          have eB : insB R s built = built + 1 := by unfold insB; rw [c4]; rfl
          have hRlen := ofL_length (R ++ [s.x, s.y])
          rw [List.length_append, List.length_cons, List.length_cons, List.length_nil] at hRlen
          have hRmem := ofL_mem (R ++ [s.x, s.y])
          rw [eR, eB]
          have hsm := o.small
          (repeat first | refine G_seq ?_ | refine G_skip ?_ | refine G_endblk ?_ | refine G_block ?_ | refine G_exit rfl ?_)
          refine G_cond_f rfl rfl ?_
          generalize hR' : ofL (R ++ [s.x, s.y]) = R' at *
          have hW := fun b L h => RWith_ctr x (some ⟨b, 0, none⟩) 2 2 [s.x, s.y] L h o.xo (by omega)
          rw [hxR, hR'] at hW
          (repeat first | refine G_seq ?_ | refine G_skip ?_ | refine G_endblk ?_ | refine G_block ?_ | refine G_exit rfl ?_)
          refine G_draw (.q 0 (.q 1 (.q 2 (.q 3 (.q 4 (.q 5 (.q 6 (.q 7 (.q 8 (.e 9 (.e 10 (.e 11 .nil)))))))))))) (by kernel_rfl) (by kernel_rfl) ?_
          refine RS_m retB_noPanic rfl rfl rfl rfl (ev_move rfl) ?_
          refine RS_m retB_noPanic rfl rfl rfl rfl (ev_move rfl) ?_
          (first | refine RS_m retB_noPanic rfl rfl rfl rfl (ev_nilCheck rfl) ?_ | refine RS_m retB_noPanic rfl rfl rfl rfl (ev_nilCheckF (by simp) rfl) ?_)
          refine RS_m retB_noPanic rfl rfl rfl rfl (ev_fieldAddr rfl) ?_
          refine RS_q retB_noPanic rfl rfl rfl rfl (ev_load rfl (by repeat' first | exact Ld.blk rfl | assumption | apply Ld.skip | apply Ld.app)) ?_
          refine RS_m retB_noPanic rfl rfl rfl rfl (ev_fieldAddr rfl) ?_
          refine RS_q retB_noPanic rfl rfl rfl rfl (ev_load rfl (by repeat' first | exact Ld.blk rfl | assumption | apply Ld.skip | apply Ld.app)) ?_
          refine RS_m retB_noPanic rfl rfl rfl rfl (ev_fieldAddr rfl) ?_
          refine RS_q retB_noPanic rfl rfl rfl rfl (ev_load rfl (by repeat' first | exact Ld.blk rfl | assumption | apply Ld.skip | apply Ld.app)) ?_
          refine RS_e (RE_eff rfl rfl rfl (eff_buildSliceN (by rfl) rfl rfl) ?_); rintro _ _ ⟨b59, rfl, rfl⟩; refine ⟨_, fun _ s => s, (by first | ((repeat first | exact fun _ s => s | apply en_keep | apply en_drop | apply en_app) <;> fail) | ((repeat first | exact en_refl | (apply en_blk; focus ((repeat' first | exact Pick.here | apply Pick.skip | apply Pick.app); done); focus rfl) | (apply en_own; focus ((repeat' first | exact Pick.here | apply Pick.skip | apply Pick.app); done); focus rfl) | (apply en_pick; focus ((repeat' first | exact Pick.here | apply Pick.skip | apply Pick.app); done)) | apply en_drop | apply en_app) <;> fail)), ?_⟩
          refine RS_e (RE_eff rfl rfl rfl (eff_call rfl (hW _ _ (by repeat' first | exact hrx _ | apply RIn.skip) (by repeat' first | exact Rc.blk rfl | apply Rd.skip) (by omega) (by omega))) ?_); rintro _ _ ⟨x', d1, d2, d3, rfl, rfl⟩; refine ⟨_, fun _ s => s, (by first | ((repeat first | exact fun _ s => s | apply en_keep | apply en_drop | apply en_app) <;> fail) | ((repeat first | exact en_refl | (apply en_blk; focus ((repeat' first | exact Pick.here | apply Pick.skip | apply Pick.app); done); focus rfl) | (apply en_own; focus ((repeat' first | exact Pick.here | apply Pick.skip | apply Pick.app); done); focus rfl) | (apply en_pick; focus ((repeat' first | exact Pick.here | apply Pick.skip | apply Pick.app); done)) | apply en_drop | apply en_app) <;> fail)), ?_⟩
          refine RS_e (RE_last (by kernel_rfl) rfl rfl rfl (eff_call rfl (Ctr.pre (M := blk t 83 (tgC x X.addr A' (putP s l).length c' most built) :: raH x' :: own 51 3 A' (putP s l).length c' (flat (putP s l)) :: F :: M) (by (repeat first | exact en_refl | (apply en_blk; focus ((repeat' first | exact Pick.here | apply Pick.skip | apply Pick.app); done); focus rfl) | (apply en_own; focus ((repeat' first | exact Pick.here | apply Pick.skip | apply Pick.app); done); focus rfl) | (apply en_pick; focus ((repeat' first | exact Pick.here | apply Pick.skip | apply Pick.app); done)) | apply en_drop | apply en_app) <;> fail) (anew_ctr t x x' X.addr A' c' (putP s l) most built _ d2 (by rw [d1]; omega) (by omega) hasc ⟨e1, e2⟩ hle (by omega)))) ?_); rintro _ _ ⟨rfl, Y, ⟨hsg, had⟩, rfl⟩
          (repeat first | refine G_seq ?_ | refine G_skip ?_ | refine G_endblk ?_ | refine G_block ?_ | refine G_exit rfl ?_)
          refine G_region ?_
          refine GO_q rfl rfl (ev_assign rfl) ?_
          refine GO_nil ?_
          (repeat first | refine G_seq ?_ | refine G_skip ?_ | refine G_endblk ?_ | refine G_block ?_ | refine G_exit rfl ?_)
          refine G_ret (L' := tgL t x' Y A' c' (putP s l) most (built + 1) M) rfl (.tmp rfl .nil) ?_ ⟨rfl, x', Y, A', c', putP s l, ⟨d2, d1, had, ⟨e1, e2⟩, hasc, by rw [d1] at hsg; exact hsg, fun u hu => ?_, by omega, hpk⟩, rfl⟩
          · unfold tgL
            exact (by (repeat first | exact en_refl | (apply en_blk; focus ((repeat' first | exact Pick.here | apply Pick.skip | apply Pick.app); done); focus rfl) | (apply en_own; focus ((repeat' first | exact Pick.here | apply Pick.skip | apply Pick.app); done); focus rfl) | (apply en_pick; focus ((repeat' first | exact Pick.here | apply Pick.skip | apply Pick.app); done)) | apply en_drop | apply en_app) <;> fail)
          · rcases List.mem_cons.1 ((putP_perm s l).subset hu) with rfl | hu
            · exact ⟨(hRmem _).2 (by simp), (hRmem _).2 (by simp), hxy⟩
            · have := o.ends u hu
              exact ⟨(hRmem _).2 (by simp [this.1]), (hRmem _).2 (by simp [this.2.1]), this.2.2⟩
end Go.Proofs.YtmgkmammkmlakaaGreat
