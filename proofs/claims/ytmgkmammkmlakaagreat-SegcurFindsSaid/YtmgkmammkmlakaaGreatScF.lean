/- The law SegcurFinds. -/
import Derived.Test.YtmgkmammkmlakaaGreatScL
import Derived.Test.YtmgkmammkmlakaaGreatSgM
namespace Go.Proofs.YtmgkmammkmlakaaGreat
attribute [local irreducible] sat
open Go.RowKit
set_option linter.unusedVariables false
set_option linter.unusedSimpArgs false
set_option maxRecDepth 100000

/-- How many steps are made. -/
def stp (left : Nat) (n : Int) : Nat := min n.toNat left
theorem rSteps_ctr (left : Nat) (n : Int) (L : List HP) : Ctr Tryz.prog 45 #[.int .i64 (left : Nat), .int .i64 n] L fun r L' => r = .int .i64 (min n.toNat left : Nat) ∧ L' = L := by
  by_cases h1 : n < 0
  · have e : min n.toNat left = 0 := by omega
    rw [e]
    refine Ctr_of (fn := Tryz.f45) (n := 12) Tryz.func45 rfl rfl rfl ?_
    intro g F
    (repeat first | refine G_seq ?_ | refine G_skip ?_ | refine G_endblk ?_ | refine G_block ?_ | refine G_exit rfl ?_)
    refine G_region ?_
    refine GO_q rfl rfl (ev_assign rfl) ?_
    refine GO_nil ?_
    (repeat first | refine G_seq ?_ | refine G_skip ?_ | refine G_endblk ?_ | refine G_block ?_ | refine G_exit rfl ?_)
    refine G_region ?_
    refine GO_q rfl rfl (ev_move rfl) ?_
    (first | refine GO_q rfl rfl (ev_lssN (q := 0) rfl rfl) ?_ | refine GO_q rfl rfl (ev_lss rfl rfl) ?_)
    refine GO_nil ?_
    (repeat first | refine G_seq ?_ | refine G_skip ?_ | refine G_endblk ?_ | refine G_block ?_ | refine G_exit rfl ?_)
    refine G_cond_t rfl (decide_eq_true h1) ?_
    (repeat first | refine G_seq ?_ | refine G_skip ?_ | refine G_endblk ?_ | refine G_block ?_ | refine G_exit rfl ?_)
    refine G_region ?_
    refine GO_q rfl rfl (ev_assign rfl) ?_
    refine GO_nil ?_
    (repeat first | refine G_seq ?_ | refine G_skip ?_ | refine G_endblk ?_ | refine G_block ?_ | refine G_exit rfl ?_)
    refine G_ret rfl (.tmp rfl .nil) (by (repeat first | exact fun _ s => s | apply en_keep | apply en_drop | apply en_app) <;> fail) ⟨rfl, rfl⟩
  · by_cases h2 : (left : Int) < n
    · have e : min n.toNat left = left := by omega
      rw [e]
      refine Ctr_of (fn := Tryz.f45) (n := 12) Tryz.func45 rfl rfl rfl ?_
      intro g F
      (repeat first | refine G_seq ?_ | refine G_skip ?_ | refine G_endblk ?_ | refine G_block ?_ | refine G_exit rfl ?_)
      refine G_region ?_
      refine GO_q rfl rfl (ev_assign rfl) ?_
      refine GO_nil ?_
      (repeat first | refine G_seq ?_ | refine G_skip ?_ | refine G_endblk ?_ | refine G_block ?_ | refine G_exit rfl ?_)
      refine G_region ?_
      refine GO_q rfl rfl (ev_move rfl) ?_
      (first | refine GO_q rfl rfl (ev_lssN (q := 0) rfl rfl) ?_ | refine GO_q rfl rfl (ev_lss rfl rfl) ?_)
      refine GO_nil ?_
      (repeat first | refine G_seq ?_ | refine G_skip ?_ | refine G_endblk ?_ | refine G_block ?_ | refine G_exit rfl ?_)
      refine G_cond_f rfl (decide_eq_false h1) ?_
      (repeat first | refine G_seq ?_ | refine G_skip ?_ | refine G_endblk ?_ | refine G_block ?_ | refine G_exit rfl ?_)
      (repeat first | refine G_seq ?_ | refine G_skip ?_ | refine G_endblk ?_ | refine G_block ?_ | refine G_exit rfl ?_)
      refine G_region ?_
      refine GO_q rfl rfl (ev_move rfl) ?_
      refine GO_q rfl rfl (ev_move rfl) ?_
      refine GO_q rfl rfl (ev_gtr rfl rfl) ?_
      refine GO_nil ?_
      (repeat first | refine G_seq ?_ | refine G_skip ?_ | refine G_endblk ?_ | refine G_block ?_ | refine G_exit rfl ?_)
      refine G_cond_t rfl (decide_eq_true (by omega)) ?_
      (repeat first | refine G_seq ?_ | refine G_skip ?_ | refine G_endblk ?_ | refine G_block ?_ | refine G_exit rfl ?_)
      refine G_region ?_
      refine GO_q rfl rfl (ev_move rfl) ?_
      refine GO_q rfl rfl (ev_assign rfl) ?_
      refine GO_nil ?_
      (repeat first | refine G_seq ?_ | refine G_skip ?_ | refine G_endblk ?_ | refine G_block ?_ | refine G_exit rfl ?_)
      refine G_ret rfl (.tmp rfl .nil) (by (repeat first | exact fun _ s => s | apply en_keep | apply en_drop | apply en_app) <;> fail) ⟨rfl, rfl⟩
    · have e : ((min n.toNat left : Nat) : Int) = n := by omega
      rw [e]
      refine Ctr_of (fn := Tryz.f45) (n := 12) Tryz.func45 rfl rfl rfl ?_
      intro g F
      (repeat first | refine G_seq ?_ | refine G_skip ?_ | refine G_endblk ?_ | refine G_block ?_ | refine G_exit rfl ?_)
      refine G_region ?_
      refine GO_q rfl rfl (ev_assign rfl) ?_
      refine GO_nil ?_
      (repeat first | refine G_seq ?_ | refine G_skip ?_ | refine G_endblk ?_ | refine G_block ?_ | refine G_exit rfl ?_)
      refine G_region ?_
      refine GO_q rfl rfl (ev_move rfl) ?_
      (first | refine GO_q rfl rfl (ev_lssN (q := 0) rfl rfl) ?_ | refine GO_q rfl rfl (ev_lss rfl rfl) ?_)
      refine GO_nil ?_
      (repeat first | refine G_seq ?_ | refine G_skip ?_ | refine G_endblk ?_ | refine G_block ?_ | refine G_exit rfl ?_)
      refine G_cond_f rfl (decide_eq_false h1) ?_
      (repeat first | refine G_seq ?_ | refine G_skip ?_ | refine G_endblk ?_ | refine G_block ?_ | refine G_exit rfl ?_)
      (repeat first | refine G_seq ?_ | refine G_skip ?_ | refine G_endblk ?_ | refine G_block ?_ | refine G_exit rfl ?_)
      refine G_region ?_
      refine GO_q rfl rfl (ev_move rfl) ?_
      refine GO_q rfl rfl (ev_move rfl) ?_
      refine GO_q rfl rfl (ev_gtr rfl rfl) ?_
      refine GO_nil ?_
      (repeat first | refine G_seq ?_ | refine G_skip ?_ | refine G_endblk ?_ | refine G_block ?_ | refine G_exit rfl ?_)
      refine G_cond_f rfl (decide_eq_false (by omega)) ?_
      (repeat first | refine G_seq ?_ | refine G_skip ?_ | refine G_endblk ?_ | refine G_block ?_ | refine G_exit rfl ?_)
      (repeat first | refine G_seq ?_ | refine G_skip ?_ | refine G_endblk ?_ | refine G_block ?_ | refine G_exit rfl ?_)
      refine G_region ?_
      refine GO_q rfl rfl (ev_move rfl) ?_
      refine GO_q rfl rfl (ev_assign rfl) ?_
      refine GO_nil ?_
      (repeat first | refine G_seq ?_ | refine G_skip ?_ | refine G_endblk ?_ | refine G_block ?_ | refine G_exit rfl ?_)
      refine G_ret rfl (.tmp rfl .nil) (by (repeat first | exact fun _ s => s | apply en_keep | apply en_drop | apply en_app) <;> fail) ⟨rfl, rfl⟩
section
variable {t : Nat} {x : RA} {X : SA} {A : Option Addr} {c : Nat} {l k : List Pt} {R : List Int} {most : Int} {built : Nat}
/-- The cursor that Overlap makes: what it looks at, and what it takes at last. -/
theorem cOver_ctr (u v : Int) (L : List HP) (h : TIn L t x X A c l most built) (o : TOk x X A c l k R) (hR : R.length ≤ 1000) : Ctr Tryz.prog 44 #[.pointer (some ⟨t, 0, none⟩), .int .i64 u, .int .i64 v] L fun r L' => ∃ cb b1 b2 b3, r = .pointer (some ⟨cb, 0, none⟩) ∧ L' = blk cb 108 (cuC (if u ≤ v then X else .nil) (cellR R u) (if u ≤ v then some (b1, b2, b3) else none) none 0 0 0) :: blk b1 23 [.pointer (some ⟨t, 0, none⟩)] :: blk b2 3 [.int .i64 u] :: blk b3 3 [.int .i64 v] :: L := by
  have cc := fun L h => tCell_ctr (t := t) (X := X) (A := A) (c := c) (l := l) (most := most) (built := built) u L h o.xo (by rw [o.xR]; exact hR)
  rw [o.xR] at cc
  have hb : ∀ L b1 b2 b3, TIn L t x X A c l most built → Ctr Tryz.prog 77 #[.pointer (some ⟨t, 0, none⟩), .int .i64 u, fnV (some (b1, b2, b3))] L fun r L' => ∃ cb, r = .pointer (some ⟨cb, 0, none⟩) ∧ L' = blk cb 108 (cuC X (cellR R u) (some (b1, b2, b3)) none 0 0 0) :: L := fun L b1 b2 b3 h => by
    refine Ctr_of (fn := Tryz.f77) (n := 17) Tryz.func77 rfl rfl rfl ?_
    intro g F
    (repeat first | refine G_seq ?_ | refine G_skip ?_ | refine G_endblk ?_ | refine G_block ?_ | refine G_exit rfl ?_)
    refine G_region ?_
    refine GO_q rfl rfl (ev_assign rfl) ?_
    refine GO_nil ?_
    (repeat first | refine G_seq ?_ | refine G_skip ?_ | refine G_endblk ?_ | refine G_block ?_ | refine G_exit rfl ?_)
    refine G_region ?_
    refine GO_q rfl rfl (ev_move rfl) ?_
    (first | refine GO_q rfl rfl (ev_eqlNil rfl rfl) ?_ | refine GO_q rfl rfl (ev_eqlPtr rfl rfl) ?_)
    refine GO_nil ?_
    (repeat first | refine G_seq ?_ | refine G_skip ?_ | refine G_endblk ?_ | refine G_block ?_ | refine G_exit rfl ?_)
    refine G_cond_f rfl rfl ?_
    (repeat first | refine G_seq ?_ | refine G_skip ?_ | refine G_endblk ?_ | refine G_block ?_ | refine G_exit rfl ?_)
    refine G_region ?_
    refine GO_q rfl rfl (ev_move rfl) ?_
    refine GO_eff rfl rfl (eff_call rfl (tRoot_ctr _ h.skip)) ?_; rintro _ _ ⟨rfl, rfl⟩
    refine GO_q rfl rfl (ev_move rfl) ?_
    refine GO_q rfl rfl (ev_move rfl) ?_
    refine GO_eff rfl rfl (eff_call rfl (cc _ h.skip)) ?_; rintro _ _ ⟨rfl, rfl⟩
    refine GO_q rfl rfl (ev_move rfl) ?_
    refine GO_q rfl rfl (ev_build rfl rfl) ?_
    refine GO_eff rfl rfl (eff_box rfl) ?_; rintro _ _ ⟨b16, rfl, rfl⟩
    refine GO_q rfl rfl (ev_assign rfl) ?_
    refine GO_nil ?_
    (repeat first | refine G_seq ?_ | refine G_skip ?_ | refine G_endblk ?_ | refine G_block ?_ | refine G_exit rfl ?_)
    exact G_ret (L' := blk b16 108 (cuC X (cellR R u) (some (b1, b2, b3)) none 0 0 0) :: L) rfl (.tmp rfl .nil) (by (repeat first | exact en_refl | (apply en_blk; focus ((repeat' first | exact Pick.here | apply Pick.skip | apply Pick.app); done); focus rfl) | (apply en_own; focus ((repeat' first | exact Pick.here | apply Pick.skip | apply Pick.app); done); focus rfl) | (apply en_pick; focus ((repeat' first | exact Pick.here | apply Pick.skip | apply Pick.app); done)) | apply en_drop | apply en_app) <;> fail) ⟨b16, rfl, rfl⟩
  by_cases huv : u ≤ v
  · simp only [if_pos huv]
    refine Ctr_of (fn := Tryz.f44) (n := 26) Tryz.func44 rfl rfl rfl ?_
    intro g F
    (repeat first | refine G_seq ?_ | refine G_skip ?_ | refine G_endblk ?_ | refine G_block ?_ | refine G_exit rfl ?_)
    refine G_region ?_
    refine GO_eff rfl rfl (eff_box rfl) ?_; rintro _ _ ⟨b3, rfl, rfl⟩
    refine GO_eff rfl rfl (eff_box rfl) ?_; rintro _ _ ⟨b4, rfl, rfl⟩
    refine GO_eff rfl rfl (eff_box rfl) ?_; rintro _ _ ⟨b5, rfl, rfl⟩
    refine GO_q rfl rfl (ev_assign rfl) ?_
    refine GO_nil ?_
    (repeat first | refine G_seq ?_ | refine G_skip ?_ | refine G_endblk ?_ | refine G_block ?_ | refine G_exit rfl ?_)
    refine G_region ?_
    refine GO_q rfl rfl (ev_load rfl (by repeat' first | exact Ld.blk rfl | assumption | apply Ld.skip | apply Ld.app)) ?_
    refine GO_q rfl rfl (ev_load rfl (by repeat' first | exact Ld.blk rfl | assumption | apply Ld.skip | apply Ld.app)) ?_
    refine GO_q rfl rfl (ev_makeFunc rfl rfl) ?_
    refine GO_eff rfl rfl (eff_call rfl (hb _ b3 b4 b5 (by repeat' first | exact h | apply TIn.skip))) ?_; rintro _ _ ⟨cb, rfl, rfl⟩
    refine GO_q rfl rfl (ev_assign rfl) ?_
    refine GO_nil ?_
    (repeat first | refine G_seq ?_ | refine G_skip ?_ | refine G_endblk ?_ | refine G_block ?_ | refine G_exit rfl ?_)
    refine G_region ?_
    refine GO_q rfl rfl (ev_move rfl) ?_
    (first | refine GO_q rfl rfl (ev_neqNil rfl rfl) ?_ | refine GO_q rfl rfl (ev_neqPtr rfl rfl) ?_)
    refine GO_q rfl rfl (ev_move rfl) ?_
    refine GO_yes rfl rfl rfl rfl ?_
    refine GO_q rfl rfl (ev_load rfl (by repeat' first | exact Ld.blk rfl | assumption | apply Ld.skip | apply Ld.app)) ?_
    refine GO_yes rfl rfl rfl rfl ?_
    refine GO_q rfl rfl (ev_load rfl (by repeat' first | exact Ld.blk rfl | assumption | apply Ld.skip | apply Ld.app)) ?_
    refine GO_yes rfl rfl rfl rfl ?_
    refine GO_q rfl rfl (ev_gtr rfl rfl) ?_
    refine GO_q rfl rfl (ev_pick_t rfl rfl rfl) ?_
    refine GO_nil ?_
    (repeat first | refine G_seq ?_ | refine G_skip ?_ | refine G_endblk ?_ | refine G_block ?_ | refine G_exit rfl ?_)
    refine G_cond_f rfl (decide_eq_false (by omega)) ?_
    (repeat first | refine G_seq ?_ | refine G_skip ?_ | refine G_endblk ?_ | refine G_block ?_ | refine G_exit rfl ?_)
    (repeat first | refine G_seq ?_ | refine G_skip ?_ | refine G_endblk ?_ | refine G_block ?_ | refine G_exit rfl ?_)
    refine G_region ?_
    refine GO_q rfl rfl (ev_move rfl) ?_
    refine GO_q rfl rfl (ev_assign rfl) ?_
    refine GO_nil ?_
    (repeat first | refine G_seq ?_ | refine G_skip ?_ | refine G_endblk ?_ | refine G_block ?_ | refine G_exit rfl ?_)
    exact G_ret (L' := blk cb 108 (cuC X (cellR R u) (some (b3, b4, b5)) none 0 0 0) :: blk b3 23 [.pointer (some ⟨t, 0, none⟩)] :: blk b4 3 [.int .i64 u] :: blk b5 3 [.int .i64 v] :: L) rfl (.tmp rfl .nil) (by (repeat first | exact en_refl | (apply en_blk; focus ((repeat' first | exact Pick.here | apply Pick.skip | apply Pick.app); done); focus rfl) | (apply en_own; focus ((repeat' first | exact Pick.here | apply Pick.skip | apply Pick.app); done); focus rfl) | (apply en_pick; focus ((repeat' first | exact Pick.here | apply Pick.skip | apply Pick.app); done)) | apply en_drop | apply en_app) <;> fail) ⟨cb, b3, b4, b5, rfl, rfl⟩
  · simp only [if_neg huv]
    refine Ctr_of (fn := Tryz.f44) (n := 26) Tryz.func44 rfl rfl rfl ?_
    intro g F
    (repeat first | refine G_seq ?_ | refine G_skip ?_ | refine G_endblk ?_ | refine G_block ?_ | refine G_exit rfl ?_)
    refine G_region ?_
    refine GO_eff rfl rfl (eff_box rfl) ?_; rintro _ _ ⟨b3, rfl, rfl⟩
    refine GO_eff rfl rfl (eff_box rfl) ?_; rintro _ _ ⟨b4, rfl, rfl⟩
    refine GO_eff rfl rfl (eff_box rfl) ?_; rintro _ _ ⟨b5, rfl, rfl⟩
    refine GO_q rfl rfl (ev_assign rfl) ?_
    refine GO_nil ?_
    (repeat first | refine G_seq ?_ | refine G_skip ?_ | refine G_endblk ?_ | refine G_block ?_ | refine G_exit rfl ?_)
    refine G_region ?_
    refine GO_q rfl rfl (ev_load rfl (by repeat' first | exact Ld.blk rfl | assumption | apply Ld.skip | apply Ld.app)) ?_
    refine GO_q rfl rfl (ev_load rfl (by repeat' first | exact Ld.blk rfl | assumption | apply Ld.skip | apply Ld.app)) ?_
    refine GO_q rfl rfl (ev_makeFunc rfl rfl) ?_
    refine GO_eff rfl rfl (eff_call rfl (hb _ b3 b4 b5 (by repeat' first | exact h | apply TIn.skip))) ?_; rintro _ _ ⟨cb, rfl, rfl⟩
    refine GO_q rfl rfl (ev_assign rfl) ?_
    refine GO_nil ?_
    (repeat first | refine G_seq ?_ | refine G_skip ?_ | refine G_endblk ?_ | refine G_block ?_ | refine G_exit rfl ?_)
    refine G_region ?_
    refine GO_q rfl rfl (ev_move rfl) ?_
    (first | refine GO_q rfl rfl (ev_neqNil rfl rfl) ?_ | refine GO_q rfl rfl (ev_neqPtr rfl rfl) ?_)
    refine GO_q rfl rfl (ev_move rfl) ?_
    refine GO_yes rfl rfl rfl rfl ?_
    refine GO_q rfl rfl (ev_load rfl (by repeat' first | exact Ld.blk rfl | assumption | apply Ld.skip | apply Ld.app)) ?_
    refine GO_yes rfl rfl rfl rfl ?_
    refine GO_q rfl rfl (ev_load rfl (by repeat' first | exact Ld.blk rfl | assumption | apply Ld.skip | apply Ld.app)) ?_
    refine GO_yes rfl rfl rfl rfl ?_
    refine GO_q rfl rfl (ev_gtr rfl rfl) ?_
    refine GO_q rfl rfl (ev_pick_t rfl rfl rfl) ?_
    refine GO_nil ?_
    (repeat first | refine G_seq ?_ | refine G_skip ?_ | refine G_endblk ?_ | refine G_block ?_ | refine G_exit rfl ?_)
    refine G_cond_t rfl (decide_eq_true (by omega)) ?_
    (repeat first | refine G_seq ?_ | refine G_skip ?_ | refine G_endblk ?_ | refine G_block ?_ | refine G_exit rfl ?_)
    refine G_region ?_
    refine GO_q rfl rfl (ev_move rfl) ?_
    refine GO_q rfl rfl (ev_move rfl) ?_
    (first | refine GO_q rfl rfl (ev_nilCheck rfl) ?_ | refine GO_q rfl rfl (ev_nilCheckF (by simp) rfl) ?_)
    refine GO_q rfl rfl (ev_fieldAddr rfl) ?_
    refine GO_eff rfl rfl (eff_store rfl rfl rfl (by repeat' first | exact Upd.here rfl | apply Upd.skip | apply Upd.app)) ?_; rintro _ _ ⟨rfl, rfl⟩
    (first | refine GO_q rfl rfl (ev_nilCheck rfl) ?_ | refine GO_q rfl rfl (ev_nilCheckF (by simp) rfl) ?_)
    refine GO_q rfl rfl (ev_fieldAddr rfl) ?_
    refine GO_eff rfl rfl (eff_store rfl rfl rfl (by repeat' first | exact Upd.here rfl | apply Upd.skip | apply Upd.app)) ?_; rintro _ _ ⟨rfl, rfl⟩
    refine GO_nil ?_
    (repeat first | refine G_seq ?_ | refine G_skip ?_ | refine G_endblk ?_ | refine G_block ?_ | refine G_exit rfl ?_)
    refine G_region ?_
    refine GO_q rfl rfl (ev_move rfl) ?_
    refine GO_q rfl rfl (ev_assign rfl) ?_
    refine GO_nil ?_
    (repeat first | refine G_seq ?_ | refine G_skip ?_ | refine G_endblk ?_ | refine G_block ?_ | refine G_exit rfl ?_)
    exact G_ret (L' := blk cb 108 (cuC .nil (cellR R u) none none 0 0 0) :: blk b3 23 [.pointer (some ⟨t, 0, none⟩)] :: blk b4 3 [.int .i64 u] :: blk b5 3 [.int .i64 v] :: L) rfl (.tmp rfl .nil) (by (repeat first | exact en_refl | (apply en_blk; focus ((repeat' first | exact Pick.here | apply Pick.skip | apply Pick.app); done); focus rfl) | (apply en_own; focus ((repeat' first | exact Pick.here | apply Pick.skip | apply Pick.app); done); focus rfl) | (apply en_pick; focus ((repeat' first | exact Pick.here | apply Pick.skip | apply Pick.app); done)) | apply en_drop | apply en_app) <;> fail) ⟨cb, b3, b4, b5, rfl, rfl⟩
end
theorem SegcurFinds_ctr (A : Option Addr) (n c : Nat) (acts : List Ac) (u v : Int) (T : Option Addr) (m e : Nat) (st : List Int) (L : List HP) (hl : Rd L A n acts) (hn : n ≤ 9223372036854775807) (ha : ∀ a ∈ acts, a.at_ ≤ 9223372036854775807) (hst : Rd L T m st) (hm : m ≤ 9223372036854775807) :
    Ctr Tryz.prog 10 #[.slice A n c, .agg #[.int .i64 u, .int .i64 v], .slice T m e] L fun r L' => r = .bool true ∧ L' = L := by
  have hml : st.length = m := hst.len (by decide)
  refine Ctr_of (fn := Tryz.f10) (n := 155) Tryz.func10 rfl rfl rfl ?_
  intro g F
  (repeat first | refine G_seq ?_ | refine G_skip ?_ | refine G_endblk ?_ | refine G_block ?_ | refine G_exit rfl ?_)
  refine G_region ?_
  refine GO_eff rfl rfl (eff_box rfl) ?_; rintro _ _ ⟨b4, rfl, rfl⟩
  refine GO_q rfl rfl (ev_assign rfl) ?_
  refine GO_nil ?_
  (repeat first | refine G_seq ?_ | refine G_skip ?_ | refine G_endblk ?_ | refine G_block ?_ | refine G_exit rfl ?_)
  refine G_region ?_
  refine GO_q rfl rfl (ev_move rfl) ?_
  refine GO_eff rfl rfl (eff_call rfl (gMade_ctr A n c acts _ hl.skip.skip hn ha)) ?_; rintro _ _ ⟨t, b, s, rfl, ⟨hk, hb⟩, rfl⟩
  refine GO_q rfl rfl (ev_move rfl) ?_
  refine GO_q rfl rfl (ev_extract rfl rfl) ?_
  refine GO_q rfl rfl (ev_extract rfl rfl) ?_
  refine GO_q rfl rfl (ev_extract rfl rfl) ?_
  refine GO_q rfl rfl (ev_assign rfl) ?_
  refine GO_q rfl rfl (ev_assign rfl) ?_
  refine GO_q rfl rfl (ev_assign rfl) ?_
  refine GO_nil ?_
  refine G_pure (fun h q => seg_fair q) ?_
  rintro ⟨hf, hR⟩
  refine G_heap (L' := setQ b 60 s :: segH t 60 s :: blk b4 47 [.int .i64 u, .int .i64 v] :: F :: L) (by (repeat first | exact en_refl | (apply en_blk; focus ((repeat' first | exact Pick.here | apply Pick.skip | apply Pick.app); done); focus rfl) | (apply en_own; focus ((repeat' first | exact Pick.here | apply Pick.skip | apply Pick.app); done); focus rfl) | (apply en_pick; focus ((repeat' first | exact Pick.here | apply Pick.skip | apply Pick.app); done)) | apply en_drop | apply en_app) <;> fail) ?_
  refine G_open (ι := Option Addr × Nat × Option Addr × Nat) (N := setZ b 60 s) (F := setO s) (fun _ h => h) fun z o => ?_
  obtain ⟨B1, d1, B2, d2⟩ := z
  replace o : QOk B1 d1 s.k B2 d2 s.R := o
  refine G_heap (L' := segH t 60 s :: blk b 33 (qsC B1 s.k.length d1 60 B2 s.R.length d2 s.b) :: own 51 3 B1 s.k.length d1 (flat s.k) :: own 3 1 B2 s.R.length d2 (flat s.R) :: blk b4 47 [.int .i64 u, .int .i64 v] :: F :: L) (by show ∀ h, sat (blk b 33 (qsC B1 s.k.length d1 60 B2 s.R.length d2 s.b) :: own 51 3 B1 s.k.length d1 (flat s.k) :: own 3 1 B2 s.R.length d2 (flat s.R) :: _) h → _; exact (by (repeat first | exact en_refl | (apply en_blk; focus ((repeat' first | exact Pick.here | apply Pick.skip | apply Pick.app); done); focus rfl) | (apply en_own; focus ((repeat' first | exact Pick.here | apply Pick.skip | apply Pick.app); done); focus rfl) | (apply en_pick; focus ((repeat' first | exact Pick.here | apply Pick.skip | apply Pick.app); done)) | apply en_drop | apply en_app) <;> fail)) ?_
  refine G_open (ι := RA × SA × Option Addr × Nat × List Pt) (N := segZ t 60 s) (F := segO s) (fun _ h => h) fun z ot => ?_
  obtain ⟨x, X, A3, c3, l⟩ := z
  replace ot : TOk x X A3 c3 l s.k s.R := ot
  have hT := ot.in_ t 60 s.b (qsL b B1 d1 s.k 60 B2 d2 s.R s.b L)
  have hQ : QIn (tgL t x X A3 c3 l 60 s.b (qsL b B1 d1 s.k 60 B2 d2 s.R s.b L)) b B1 d1 s.k 60 B2 d2 s.R s.b := (o.in_ L).skip.skip.skip.skip
  have hdrop : ∀ h, sat (tgL t x X A3 c3 l 60 s.b (qsL b B1 d1 s.k 60 B2 d2 s.R s.b L)) h → sat L h := by
    unfold tgL qsL
    exact (by (repeat first | exact fun _ s => s | apply en_keep | apply en_drop | apply en_app) <;> fail)
  refine G_heap (L' := blk b4 47 [.int .i64 u, .int .i64 v] :: F :: tgL t x X A3 c3 l 60 s.b (qsL b B1 d1 s.k 60 B2 d2 s.R s.b L)) (by
    show ∀ h, sat (blk t 83 (tgC x X.addr A3 l.length c3 60 s.b) :: raH x :: saH X :: own 51 3 A3 l.length c3 (flat l) :: blk b 33 (qsC B1 s.k.length d1 60 B2 s.R.length d2 s.b) :: own 51 3 B1 s.k.length d1 (flat s.k) :: own 3 1 B2 s.R.length d2 (flat s.R) :: blk b4 47 [.int .i64 u, .int .i64 v] :: F :: L) h → sat (blk b4 47 [.int .i64 u, .int .i64 v] :: F :: blk t 83 (tgC x X.addr A3 l.length c3 60 s.b) :: raH x :: saH X :: own 51 3 A3 l.length c3 (flat l) :: blk b 33 (qsC B1 s.k.length d1 60 B2 s.R.length d2 s.b) :: own 51 3 B1 s.k.length d1 (flat s.k) :: own 3 1 B2 s.R.length d2 (flat s.R) :: L) h
    exact (by (repeat first | exact en_refl | (apply en_blk; focus ((repeat' first | exact Pick.here | apply Pick.skip | apply Pick.app); done); focus rfl) | (apply en_own; focus ((repeat' first | exact Pick.here | apply Pick.skip | apply Pick.app); done); focus rfl) | (apply en_pick; focus ((repeat' first | exact Pick.here | apply Pick.skip | apply Pick.app); done)) | apply en_drop | apply en_app) <;> fail)) ?_
  have hstL : Rd (tgL t x X A3 c3 l 60 s.b (qsL b B1 d1 s.k 60 B2 d2 s.R s.b L)) T m st := Rd.mono hdrop hst
  generalize tgL t x X A3 c3 l 60 s.b (qsL b B1 d1 s.k 60 B2 d2 s.R s.b L) = LL at *
  have hkl := ot.perm.length_eq
  have hRl : s.R.length ≤ 326 := by omega
  have h2 : Ld LL ⟨b, 0 + 2, none⟩ (.slice B2 s.R.length d2) := hQ.q.at_ (i := 2) rfl
  have hrr := hQ.r
  have cN := fun L h => nCell_ctr B2 s.R.length d2 s.R u L h (by omega)
  obtain ⟨hw1, hw2⟩ := ot.wy (by omega) u
  have hlv : X.wn (cellR s.R u) ≤ lv 70 (2 * s.R.length + 1) := by rw [hw1]; exact wy_lv 70 0 (2 * s.R.length) _ (Nat.zero_le _)
  have hlv2 := lv_le 70 (2 * s.R.length + 1)
  have hlv1 : 1 ≤ lv 70 (2 * s.R.length + 1) := by unfold lv; split <;> omega
  have cW := fun L => wWay_ctr 0 (2 * s.R.length) (cellR s.R u) L (Nat.zero_le _) (by omega)
  rw [← hw1] at cW
  have cV := fun L => wLevels_ctr (2 * s.R.length + 1) L (by omega) (by omega)
  have cO := fun L h => sOverlap_ctr b B1 d1 s.k 60 B2 d2 s.R s.b u v L h (by omega)
  have hql := bgnK_length s.k u v
  have hol := overK_length s.k u v
  have hB0 : ∀ M, TIn M t x X A3 c3 l 60 s.b → Ctr Tryz.prog 22 #[.pointer (some ⟨t, 0, none⟩), .int .i64 u, .int .i64 v] M fun r L' => Made 3 (bgnK s.k u v) M r L' := fun M h => tBegins_ctr u v M h ot (by omega)
  have cC := fun L h => cOver_ctr (t := t) (x := x) (X := X) (A := A3) (c := c3) (l := l) (most := 60) (built := s.b) u v L h ot (by omega)
  have hov1 : u ≤ v → srt (idsOf (X.way (cellR s.R u)) ++ bgnK s.k u v) = overK s.k u v := fun h => by
    rw [← ot.over h, ← ot.stab u]
    exact srt_of_perm ((srt_perm _).symm.append_right _)
  have hov2 : ¬ u ≤ v → overK s.k u v = [] := fun h => by
    unfold overK
    have : (s.k.filter fun p => decide (u ≤ v ∧ p.x ≤ v ∧ u ≤ p.y)) = [] := by
      rw [List.filter_eq_nil_iff]; intro a _; simp [h]
    rw [this]; exact eq_of_sorted _ _ (srt_perm _) (srt_sorted _) .nil
  have hld := ot.leads u
  generalize lv 70 (2 * s.R.length + 1) = lvl at *
  generalize bgnK s.k u v = q1 at *
  generalize overK s.k u v = q3 at *
  generalize cellR s.R u = cc at *
  (repeat first | refine G_seq ?_ | refine G_skip ?_ | refine G_endblk ?_ | refine G_block ?_ | refine G_exit rfl ?_)
  refine G_region ?_
  refine GO_q rfl rfl (ev_move rfl) ?_
  refine GO_q rfl rfl (ev_not rfl) ?_
  refine GO_nil ?_
  (repeat first | refine G_seq ?_ | refine G_skip ?_ | refine G_endblk ?_ | refine G_block ?_ | refine G_exit rfl ?_)
  refine G_cond_f rfl rfl ?_
  (repeat first | refine G_seq ?_ | refine G_skip ?_ | refine G_endblk ?_ | refine G_block ?_ | refine G_exit rfl ?_)
  (repeat first | refine G_seq ?_ | refine G_skip ?_ | refine G_endblk ?_ | refine G_block ?_ | refine G_exit rfl ?_)
  refine G_region ?_
  refine GO_q rfl rfl (ev_move rfl) ?_
  refine GO_q rfl rfl (ev_indexAddrA rfl rfl (by first | omega | (simp; done) | (simp; omega)) (by first | omega | (simp; done) | (simp; omega))) ?_
  refine GO_q rfl rfl (ev_load rfl (by repeat' first | exact Ld.blk rfl | assumption | apply Ld.skip | apply Ld.app)) ?_
  refine GO_q rfl rfl (ev_indexAddrA rfl rfl (by first | omega | (simp; done) | (simp; omega)) (by first | omega | (simp; done) | (simp; omega))) ?_
  refine GO_q rfl rfl (ev_load rfl (by repeat' first | exact Ld.blk rfl | assumption | apply Ld.skip | apply Ld.app)) ?_
  refine GO_eff rfl rfl (eff_call rfl (cC _ hT.skip.skip)) ?_; rintro _ _ ⟨cb, z1, z2, z3, rfl, rfl⟩
  refine GO_q rfl rfl (ev_assign rfl) ?_
  refine GO_nil ?_
  (repeat first | refine G_seq ?_ | refine G_skip ?_ | refine G_endblk ?_ | refine G_block ?_ | refine G_exit rfl ?_)
  refine G_region ?_
  refine GO_q rfl rfl (ev_assign rfl) ?_
  refine GO_nil ?_
  refine G_heap (own.nil_ 3 1) ?_
  obtain ⟨M, hM⟩ : ∃ M, M = blk z1 23 [.pointer (some ⟨t, 0, none⟩)] :: blk z2 3 [.int .i64 u] :: blk z3 3 [.int .i64 v] :: blk b4 47 [.int .i64 u, .int .i64 v] :: F :: LL := ⟨_, rfl⟩
  have hTM : TIn M t x X A3 c3 l 60 s.b := by rw [hM]; exact hT.skip.skip.skip.skip.skip
  have hQM : QIn M b B1 d1 s.k 60 B2 d2 s.R s.b := by rw [hM]; exact hQ.skip.skip.skip.skip.skip
  have hSM : Rd M T m st := by rw [hM]; exact hstL.skip.skip.skip.skip.skip
  have h2M : Ld M ⟨b, 0 + 2, none⟩ (.slice B2 s.R.length d2) := by rw [hM]; exact h2.skip.skip.skip.skip.skip
  have hRM : Rd M B2 s.R.length s.R := by rw [hM]; exact hrr.skip.skip.skip.skip.skip
  have ha0 : Ld M ⟨b4, 0 + 0 * 1, none⟩ (.int .i64 u) := by rw [hM]; exact Ld.skip (Ld.skip (Ld.skip (Ld.blk rfl)))
  have ha1 : Ld M ⟨b4, 0 + 1 * 1, none⟩ (.int .i64 v) := by rw [hM]; exact Ld.skip (Ld.skip (Ld.skip (Ld.blk rfl)))
  have hz : ∀ z, some (z1, z2, z3) = some z → Ld M ⟨z.1, 0, none⟩ (.pointer (some ⟨t, 0, none⟩)) ∧ Ld M ⟨z.2.1, 0, none⟩ (.int .i64 u) ∧ Ld M ⟨z.2.2, 0, none⟩ (.int .i64 v) := fun z h => by
    cases h
    rw [hM]
    exact ⟨Ld.blk rfl, Ld.skip (Ld.blk rfl), Ld.skip (Ld.skip (Ld.blk rfl))⟩
  have hB : ∀ N : List HP, Ctr Tryz.prog 22 #[.pointer (some ⟨t, 0, none⟩), .int .i64 u, .int .i64 v] (N ++ M) fun r L' => Made 3 q1 (N ++ M) r L' := fun N => hB0 _ hTM.app
  have hdrM : ∀ h, sat M h → sat (F :: LL) h := by rw [hM]; exact (by (repeat first | exact fun _ s => s | apply en_keep | apply en_drop | apply en_app) <;> fail)
  obtain ⟨Y0, pd0, left0, tot, hI, hso, hle, hlf⟩ : ∃ Y0 pd0 left0 tot, CuI M (qR s.R) l cc (some (z1, z2, z3)) q1 tot Y0 pd0 [] left0 ∧ srt tot = q3 ∧ left0 ≤ lvl + 1 ∧ (Y0 = (if u ≤ v then X else .nil) ∧ pd0 = (if u ≤ v then some (z1, z2, z3) else none) ∧ left0 = if u ≤ v then X.wn cc + 1 else 0) := by
    by_cases huv : u ≤ v
    · refine ⟨X, some (z1, z2, z3), X.wn cc + 1, idsOf (X.way cc) ++ q1, ⟨hTM.X, hld, by simp [pdL], rfl, .inr rfl⟩, hov1 huv, by omega, ?_⟩
      simp [huv]
    · refine ⟨.nil, none, 0, [], ⟨trivial, .inl rfl, by simp [pdL, SA.way, idsOf], rfl, .inl rfl⟩, ?_, by omega, ?_⟩
      · rw [hov2 huv]; exact eq_of_sorted _ _ (srt_perm _) (srt_sorted _) .nil
      · simp [huv]
  rw [← hlf.1, ← hlf.2.1]
  have htl : tot.length ≤ 80 := by rw [← srt_length, hso]; omega
  refine G_heap (L' := blk cb 108 (cuC Y0 cc pd0 none ([] : List Int).length 0 0) :: own 3 1 none ([] : List Int).length 0 (flat ([] : List Int)) :: M) (by rw [hM]; exact (by (repeat first | exact en_refl | (apply en_blk; focus ((repeat' first | exact Pick.here | apply Pick.skip | apply Pick.app); done); focus rfl) | (apply en_own; focus ((repeat' first | exact Pick.here | apply Pick.skip | apply Pick.app); done); focus rfl) | (apply en_pick; focus ((repeat' first | exact Pick.here | apply Pick.skip | apply Pick.app); done)) | apply en_drop | apply en_app) <;> fail)) ?_
  have cR := fun (l0 : Nat) (nn : Int) L => rSteps_ctr l0 nn L
  by_cases huv : u ≤ v
  · have e7 : left0 = X.wn cc + 1 := by rw [hlf.2.2, if_pos huv]
    (repeat first | refine G_seq ?_ | refine G_skip ?_ | refine G_endblk ?_ | refine G_block ?_ | refine G_exit rfl ?_)
    refine G_region ?_
    refine GO_q rfl rfl (ev_indexAddrA rfl rfl (by first | omega | (simp; done) | (simp; omega)) (by first | omega | (simp; done) | (simp; omega))) ?_
    refine GO_q rfl rfl (ev_load rfl (by repeat' first | exact Ld.blk rfl | assumption | apply Ld.skip | apply Ld.app)) ?_
    refine GO_q rfl rfl (ev_indexAddrA rfl rfl (by first | omega | (simp; done) | (simp; omega)) (by first | omega | (simp; done) | (simp; omega))) ?_
    refine GO_q rfl rfl (ev_load rfl (by repeat' first | exact Ld.blk rfl | assumption | apply Ld.skip | apply Ld.app)) ?_
    refine GO_q rfl rfl (ev_leq rfl rfl) ?_
    refine GO_nil ?_
    (repeat first | refine G_seq ?_ | refine G_skip ?_ | refine G_endblk ?_ | refine G_block ?_ | refine G_exit rfl ?_)
    refine G_cond_t rfl (decide_eq_true huv) ?_
    (repeat first | refine G_seq ?_ | refine G_skip ?_ | refine G_endblk ?_ | refine G_block ?_ | refine G_exit rfl ?_)
    refine G_draw (.q 0 (.q 1 (.q 2 (.q 3 (.q 4 (.q 5 (.q 6 (.q 7 (.q 8 (.q 9 (.q 10 (.q 11 (.e 12 (.e 13 (.q 14 (.q 15 .nil)))))))))))))))) (by kernel_rfl) (by kernel_rfl) ?_
    refine RS_m retB_noPanic rfl rfl rfl rfl (ev_move rfl) ?_
    (first | refine RS_m retB_noPanic rfl rfl rfl rfl (ev_nilCheck rfl) ?_ | refine RS_m retB_noPanic rfl rfl rfl rfl (ev_nilCheckF (by simp) rfl) ?_)
    refine RS_m retB_noPanic rfl rfl rfl rfl (ev_fieldAddr rfl) ?_
    refine RS_q retB_noPanic rfl rfl rfl rfl (ev_load rfl (by repeat' first | exact Ld.blk rfl | assumption | apply Ld.skip | apply Ld.app)) ?_
    refine RS_q retB_noPanic rfl rfl rfl rfl (ev_len rfl) ?_
    refine RS_m retB_noPanic rfl rfl rfl rfl (ev_mul rfl rfl (by first | omega | (simp; done) | (simp; omega))) ?_
    refine RS_m retB_noPanic rfl rfl rfl rfl (ev_move rfl) ?_
    (first | refine RS_m retB_noPanic rfl rfl rfl rfl (ev_nilCheck rfl) ?_ | refine RS_m retB_noPanic rfl rfl rfl rfl (ev_nilCheckF (by simp) rfl) ?_)
    refine RS_m retB_noPanic rfl rfl rfl rfl (ev_fieldAddr rfl) ?_
    refine RS_q retB_noPanic rfl rfl rfl rfl (ev_load rfl (by repeat' first | exact Ld.blk rfl | assumption | apply Ld.skip | apply Ld.app)) ?_
    refine RS_m retB_noPanic rfl rfl rfl rfl (ev_indexAddrA rfl rfl (by first | omega | (simp; done) | (simp; omega)) (by first | omega | (simp; done) | (simp; omega))) ?_
    refine RS_q retB_noPanic rfl rfl rfl rfl (ev_load rfl (by repeat' first | exact Ld.blk rfl | assumption | apply Ld.skip | apply Ld.app)) ?_
    refine RS_e (RE_eff rfl rfl rfl (eff_call rfl (cN _ (by repeat' first | exact hRM | apply Rd.skip))) ?_); rintro _ _ ⟨rfl, rfl⟩; refine ⟨_, fun _ s => s, (by first | ((repeat first | exact fun _ s => s | apply en_keep | apply en_drop | apply en_app) <;> fail) | ((repeat first | exact en_refl | (apply en_blk; focus ((repeat' first | exact Pick.here | apply Pick.skip | apply Pick.app); done); focus rfl) | (apply en_own; focus ((repeat' first | exact Pick.here | apply Pick.skip | apply Pick.app); done); focus rfl) | (apply en_pick; focus ((repeat' first | exact Pick.here | apply Pick.skip | apply Pick.app); done)) | apply en_drop | apply en_app) <;> fail)), ?_⟩
    refine RS_e (RE_eff rfl rfl rfl (eff_call rfl (cW _)) ?_); rintro _ _ ⟨rfl, rfl⟩; refine ⟨_, fun _ s => s, (by first | ((repeat first | exact fun _ s => s | apply en_keep | apply en_drop | apply en_app) <;> fail) | ((repeat first | exact en_refl | (apply en_blk; focus ((repeat' first | exact Pick.here | apply Pick.skip | apply Pick.app); done); focus rfl) | (apply en_own; focus ((repeat' first | exact Pick.here | apply Pick.skip | apply Pick.app); done); focus rfl) | (apply en_pick; focus ((repeat' first | exact Pick.here | apply Pick.skip | apply Pick.app); done)) | apply en_drop | apply en_app) <;> fail)), ?_⟩
    (first | refine RS_m retB_noPanic rfl rfl rfl rfl (ev_addN (q := 1) rfl rfl (by first | omega | (simp; done) | (simp; omega))) ?_ | refine RS_m retB_noPanic rfl rfl rfl rfl (ev_add rfl rfl (by first | omega | (simp; done) | (simp; omega))) ?_)
    refine RS_m retB_noPanic rfl rfl rfl rfl (ev_assign rfl) ?_
    refine RS_nil ?_
    rw [← e7]
    clear e7 hlf
    (repeat first | refine G_seq ?_ | refine G_skip ?_ | refine G_endblk ?_ | refine G_block ?_ | refine G_exit rfl ?_)
    (repeat first | refine G_seq ?_ | refine G_skip ?_ | refine G_endblk ?_ | refine G_block ?_ | refine G_exit rfl ?_)
    refine G_region ?_
    refine GO_q rfl rfl (ev_move rfl) ?_
    refine GO_q rfl rfl (ev_assign rfl) ?_
    refine GO_nil ?_
    (repeat first | refine G_seq ?_ | refine G_skip ?_ | refine G_endblk ?_ | refine G_block ?_ | refine G_exit rfl ?_)
    refine G_region ?_
    refine GO_q rfl rfl (ev_assign rfl) ?_
    refine GO_nil ?_
    (repeat first | refine G_seq ?_ | refine G_skip ?_ | refine G_endblk ?_ | refine G_block ?_ | refine G_exit rfl ?_)
    refine G_loop (ι := Nat × Nat × SA × Option (Nat × Nat × Nat) × Option Addr × Nat × List Int) (fun z => [(2, .slice T m e), (4, .pointer (some ⟨b4, 0, none⟩)), (7, .pointer (some ⟨t, 0, none⟩)), (8, .pointer (some ⟨b, 0, none⟩)), (10, .pointer (some ⟨cb, 0, none⟩)), (11, .int .i64 (left0 - z.2.1 : Nat)), (12, .int .i64 (left0 : Nat)), (13, .int .i64 (z.1 : Nat))]) (fun z => blk cb 108 (cuC z.2.2.1 cc z.2.2.2.1 z.2.2.2.2.1 z.2.2.2.2.2.2.length z.2.2.2.2.2.1 z.2.1) :: own 3 1 z.2.2.2.2.1 z.2.2.2.2.2.2.length z.2.2.2.2.2.1 (flat z.2.2.2.2.2.2) :: M)
      (fun z => z.1 ≤ m ∧ z.2.1 ≤ left0 ∧ CuI M (qR s.R) l cc (some (z1, z2, z3)) q1 tot z.2.2.1 z.2.2.2.1 z.2.2.2.2.2.2 (left0 - z.2.1) ∧ (0 < z.2.2.2.2.2.2.length → ∃ b, z.2.2.2.2.1 = some ⟨b, 0, none⟩)) (fun z => m - z.1) (0, 0, Y0, pd0, none, 0, []) ⟨Nat.zero_le _, Nat.zero_le _, hI, fun h => absurd h (Nat.lt_irrefl 0)⟩ ⟨rfl, rfl, rfl, rfl, rfl, rfl, rfl, rfl, trivial⟩ (fun _ s => s) ?_
    rintro ⟨i, k, Y, pd, A', d', ids⟩ ⟨f1, f2, f3, f4⟩
    simp only at f1 f2 f3 f4
    dsimp only
    have cRun := cRun_ctr cb cc t u v 1000 (qR s.R) l (some (z1, z2, z3)) q1 tot M hz hB (by omega) (by omega) (by omega) Y pd A' d' k (left0 - k) ids f4 f3 (by omega) (by have : Int.toNat 1000 = 1000 := rfl; omega)
    have e8 : k + (left0 - k) = left0 := by omega
    rw [e8] at cRun
    by_cases c1 : i < m ∧ i < 60
    · obtain ⟨lb, lo', rfl, hx⟩ := hSM.at_ (by omega)
      have g1 : st[i]? = some st[i] := List.getElem?_eq_getElem (by omega)
      have y1 := (hx _ _ g1).at_ (i := 0) rfl
      generalize st[i] = w at *
      have y2 : Ld M ⟨lb, lo' + i * 1, none⟩ (.int .i64 w) := y1
      have cSt := cStep_ctr cb cc t u v w (qR s.R) l (some (z1, z2, z3)) q1 tot M hz hB (by omega) (by omega) (by omega) Y pd A' d' k (left0 - k) ids f4 f3 (by omega)
      have hmn : min w.toNat (left0 - k) ≤ left0 - k := Nat.min_le_right _ _
      have cRr := fun L => cR (left0 - k) w L
      generalize min w.toNat (left0 - k) = mn at *
      (repeat first | refine G_seq ?_ | refine G_skip ?_ | refine G_endblk ?_ | refine G_block ?_ | refine G_exit rfl ?_)
      refine G_region ?_
      refine GO_q rfl rfl (ev_move rfl) ?_
      refine GO_q rfl rfl (ev_move rfl) ?_
      refine GO_q rfl rfl (ev_len rfl) ?_
      (first | refine GO_q rfl rfl (ev_lssN rfl rfl) ?_ | refine GO_q rfl rfl (ev_lss rfl rfl) ?_)
      refine GO_q rfl rfl (ev_move rfl) ?_
      refine GO_yes rfl rfl rfl (decide_eq_true (by omega)) ?_
      refine GO_q rfl rfl (ev_move rfl) ?_
      refine GO_yes rfl rfl rfl (decide_eq_true (by omega)) ?_
      (first | refine GO_q rfl rfl (ev_lssN (q := 60) rfl rfl) ?_ | refine GO_q rfl rfl (ev_lss rfl rfl) ?_)
      refine GO_q rfl rfl (ev_pick_t rfl (decide_eq_true (by omega)) rfl) ?_
      refine GO_nil ?_
      (repeat first | refine G_seq ?_ | refine G_skip ?_ | refine G_endblk ?_ | refine G_block ?_ | refine G_exit rfl ?_)
      refine G_cond_t rfl (decide_eq_true (by omega)) ?_
      (repeat first | refine G_seq ?_ | refine G_skip ?_ | refine G_endblk ?_ | refine G_block ?_ | refine G_exit rfl ?_)
      refine G_region ?_
      refine GO_q rfl rfl (ev_move rfl) ?_
      refine GO_q rfl rfl (ev_move rfl) ?_
      refine GO_q rfl rfl (ev_move rfl) ?_
      (first | refine GO_q rfl rfl (ev_indexAddrN rfl rfl (by first | omega | (simp; done) | (simp; omega))) ?_ | refine GO_q rfl rfl (ev_indexAddr rfl rfl (by first | omega | (simp; done) | (simp; omega)) (by first | omega | (simp; done) | (simp; omega))) ?_)
      refine GO_q rfl rfl (ev_load rfl (by repeat' first | exact Ld.blk rfl | assumption | apply Ld.skip | apply Ld.app)) ?_
      refine GO_eff rfl rfl (eff_call rfl (cRr _)) ?_; rintro _ _ ⟨rfl, rfl⟩
      refine GO_q rfl rfl (ev_assign rfl) ?_
      refine GO_nil ?_
      (repeat first | refine G_seq ?_ | refine G_skip ?_ | refine G_endblk ?_ | refine G_block ?_ | refine G_exit rfl ?_)
      refine G_region ?_
      refine GO_q rfl rfl (ev_move rfl) ?_
      refine GO_q rfl rfl (ev_move rfl) ?_
      refine GO_q rfl rfl (ev_move rfl) ?_
      (first | refine GO_q rfl rfl (ev_indexAddrN rfl rfl (by first | omega | (simp; done) | (simp; omega))) ?_ | refine GO_q rfl rfl (ev_indexAddr rfl rfl (by first | omega | (simp; done) | (simp; omega)) (by first | omega | (simp; done) | (simp; omega))) ?_)
      refine GO_q rfl rfl (ev_load rfl (by repeat' first | exact Ld.blk rfl | assumption | apply Ld.skip | apply Ld.app)) ?_
      refine GO_eff rfl rfl (eff_call rfl (cSt)) ?_; rintro _ _ ⟨rfl, Y', pd', A2, d2', ids', ⟨hI', hA'⟩, rfl⟩
      refine GO_q rfl rfl (ev_move rfl) ?_
      refine GO_q rfl rfl (ev_extract rfl rfl) ?_
      refine GO_q rfl rfl (ev_extract rfl rfl) ?_
      refine GO_q rfl rfl (ev_assign rfl) ?_
      refine GO_q rfl rfl (ev_assign rfl) ?_
      refine GO_nil ?_
      have cD := fun L h => cDone_ctr (cb := cb) (c := cc) (Y := Y') (A := A2) (n := ids'.length) (d := d2') (k := k + mn) pd' L h
      rw [hI'.done] at cD
      have e9 : left0 - k - mn = left0 - (k + mn) := by omega
      (repeat first | refine G_seq ?_ | refine G_skip ?_ | refine G_endblk ?_ | refine G_block ?_ | refine G_exit rfl ?_)
      refine G_region ?_
      refine GO_q rfl rfl (ev_move rfl) ?_
      refine GO_q rfl rfl (ev_move rfl) ?_
      (first | refine GO_q rfl rfl (ev_subN rfl rfl (by first | omega | (simp; done) | (simp; omega))) ?_ | refine GO_q rfl rfl (ev_sub rfl rfl (by first | omega | (simp; done) | (simp; omega))) ?_)
      refine GO_q rfl rfl (ev_assign rfl) ?_
      refine GO_nil ?_
      (repeat first | refine G_seq ?_ | refine G_skip ?_ | refine G_endblk ?_ | refine G_block ?_ | refine G_exit rfl ?_)
      refine G_region ?_
      refine GO_q rfl rfl (ev_move rfl) ?_
      refine GO_q rfl rfl (ev_move rfl) ?_
      refine GO_q rfl rfl (ev_neq rfl rfl) ?_
      refine GO_q rfl rfl (ev_move rfl) ?_
      refine GO_yes rfl rfl rfl (by simp) ?_
      refine GO_q rfl rfl (ev_move rfl) ?_
      refine GO_yes rfl rfl rfl (by simp) ?_
      refine GO_q rfl rfl (ev_move rfl) ?_
      refine GO_yes rfl rfl rfl (by simp) ?_
      refine GO_q rfl rfl (ev_eql rfl rfl) ?_
      refine GO_yes rfl rfl rfl (by simp) ?_
      refine GO_q rfl rfl (ev_neqB rfl rfl) ?_
      refine GO_q rfl rfl (ev_pick_f rfl (by simp) rfl) ?_
      refine GO_q rfl rfl (ev_move rfl) ?_
      refine GO_yes rfl rfl rfl (by simp) ?_
      refine GO_q rfl rfl (ev_move rfl) ?_
      refine GO_yes rfl rfl rfl (by simp) ?_
      refine GO_eff rfl rfl (eff_call rfl (cD _ (by repeat' first | exact LdN.blk rfl | assumption | apply LdN.skip | apply LdN.app))) ?_; rintro _ _ ⟨rfl, rfl⟩
      refine GO_yes rfl rfl rfl (by simp) ?_
      refine GO_q rfl rfl (ev_move rfl) ?_
      refine GO_yes rfl rfl rfl (by simp) ?_
      refine GO_q rfl rfl (ev_neqB rfl rfl) ?_
      refine GO_q rfl rfl (ev_pick_f rfl (by simp) rfl) ?_
      refine GO_q rfl rfl (ev_move rfl) ?_
      refine GO_yes rfl rfl rfl (by simp) ?_
      refine GO_q rfl rfl (ev_move rfl) ?_
      refine GO_yes rfl rfl rfl (by simp) ?_
      refine GO_eff rfl rfl (eff_call rfl (cSteps_ctr pd' _ (by repeat' first | exact LdN.blk rfl | assumption | apply LdN.skip | apply LdN.app))) ?_; rintro _ _ ⟨rfl, rfl⟩
      refine GO_yes rfl rfl rfl (by simp) ?_
      refine GO_q rfl rfl (ev_move rfl) ?_
      refine GO_yes rfl rfl rfl (by simp) ?_
      refine GO_q rfl rfl (ev_move rfl) ?_
      refine GO_yes rfl rfl rfl (by simp) ?_
      (first | refine GO_q rfl rfl (ev_subN rfl rfl (by first | omega | (simp; done) | (simp; omega))) ?_ | refine GO_q rfl rfl (ev_sub rfl rfl (by first | omega | (simp; done) | (simp; omega))) ?_)
      refine GO_yes rfl rfl rfl (by simp) ?_
      refine GO_q rfl rfl (ev_neq rfl rfl) ?_
      refine GO_q rfl rfl (ev_pick_f rfl (by simp) rfl) ?_
      refine GO_nil ?_
      (repeat first | refine G_seq ?_ | refine G_skip ?_ | refine G_endblk ?_ | refine G_block ?_ | refine G_exit rfl ?_)
      refine G_cond_f rfl (decide_eq_false (by omega)) ?_
      (repeat first | refine G_seq ?_ | refine G_skip ?_ | refine G_endblk ?_ | refine G_block ?_ | refine G_exit rfl ?_)
      (repeat first | refine G_seq ?_ | refine G_skip ?_ | refine G_endblk ?_ | refine G_block ?_ | refine G_exit rfl ?_)
      refine G_region ?_
      refine GO_q rfl rfl (ev_move rfl) ?_
      (first | refine GO_q rfl rfl (ev_addN (q := 1) rfl rfl (by first | omega | (simp; done) | (simp; omega))) ?_ | refine GO_q rfl rfl (ev_add rfl rfl (by first | omega | (simp; done) | (simp; omega))) ?_)
      refine GO_q rfl rfl (ev_assign rfl) ?_
      refine GO_nil ?_
      rw [e9]
      rw [e9] at hI'
      (repeat first | refine G_seq ?_ | refine G_skip ?_ | refine G_endblk ?_ | refine G_block ?_ | refine G_exit rfl ?_)
      exact G_round (i + 1, k + mn, Y', pd', A2, d2', ids') ⟨by simp only; omega, by simp only; omega, hI', hA'⟩ (by simp only; omega) ⟨rfl, rfl, rfl, rfl, rfl, rfl, rfl, rfl, trivial⟩ (fun _ s => s)
    · by_cases c2 : i < m
      case' pos =>
        (repeat first | refine G_seq ?_ | refine G_skip ?_ | refine G_endblk ?_ | refine G_block ?_ | refine G_exit rfl ?_)
        refine G_region ?_
        refine GO_q rfl rfl (ev_move rfl) ?_
        refine GO_q rfl rfl (ev_move rfl) ?_
        refine GO_q rfl rfl (ev_len rfl) ?_
        (first | refine GO_q rfl rfl (ev_lssN rfl rfl) ?_ | refine GO_q rfl rfl (ev_lss rfl rfl) ?_)
        refine GO_q rfl rfl (ev_move rfl) ?_
        refine GO_yes rfl rfl rfl (decide_eq_true (by omega)) ?_
        refine GO_q rfl rfl (ev_move rfl) ?_
        refine GO_yes rfl rfl rfl (decide_eq_true (by omega)) ?_
        (first | refine GO_q rfl rfl (ev_lssN (q := 60) rfl rfl) ?_ | refine GO_q rfl rfl (ev_lss rfl rfl) ?_)
        refine GO_q rfl rfl (ev_pick_t rfl (decide_eq_true (by omega)) rfl) ?_
        refine GO_nil ?_
        (repeat first | refine G_seq ?_ | refine G_skip ?_ | refine G_endblk ?_ | refine G_block ?_ | refine G_exit rfl ?_)
        refine G_cond_f rfl (decide_eq_false (by omega)) ?_
      case' neg =>
        (repeat first | refine G_seq ?_ | refine G_skip ?_ | refine G_endblk ?_ | refine G_block ?_ | refine G_exit rfl ?_)
        refine G_region ?_
        refine GO_q rfl rfl (ev_move rfl) ?_
        refine GO_q rfl rfl (ev_move rfl) ?_
        refine GO_q rfl rfl (ev_len rfl) ?_
        (first | refine GO_q rfl rfl (ev_lssN rfl rfl) ?_ | refine GO_q rfl rfl (ev_lss rfl rfl) ?_)
        refine GO_q rfl rfl (ev_move rfl) ?_
        refine GO_no rfl rfl rfl (decide_eq_false (by omega)) ?_
        refine GO_no rfl rfl rfl (decide_eq_false (by omega)) ?_
        refine GO_q rfl rfl (ev_pick_f rfl (decide_eq_false (by omega)) rfl) ?_
        refine GO_nil ?_
        (repeat first | refine G_seq ?_ | refine G_skip ?_ | refine G_endblk ?_ | refine G_block ?_ | refine G_exit rfl ?_)
        refine G_cond_f rfl rfl ?_
      all_goals
        (repeat first | refine G_seq ?_ | refine G_skip ?_ | refine G_endblk ?_ | refine G_block ?_ | refine G_exit rfl ?_)
        refine G_region ?_
        refine GO_q rfl rfl (ev_move rfl) ?_
        refine GO_eff rfl rfl (eff_call rfl (cRun)) ?_; rintro _ _ ⟨rfl, A4, d4, ids4, ⟨hp4, hA4⟩, rfl⟩
        refine GO_q rfl rfl (ev_move rfl) ?_
        refine GO_q rfl rfl (ev_extract rfl rfl) ?_
        refine GO_q rfl rfl (ev_extract rfl rfl) ?_
        refine GO_q rfl rfl (ev_assign rfl) ?_
        refine GO_q rfl rfl (ev_assign rfl) ?_
        refine GO_nil ?_
        have e4 : srt ids4 = q3 := by rw [← hso]; exact srt_of_perm hp4
        have e5 : ids4.length = q3.length := by rw [← e4, srt_length]
        have cI : ∀ L, LdN L cb 0 5 (cuC .nil cc none A4 ids4.length d4 left0) → Rd L A4 ids4.length ids4 → Ctr Tryz.prog 39 #[.pointer (some ⟨cb, 0, none⟩)] L fun v L' => ∃ B e, v = .slice B q3.length e ∧ ((0 < q3.length → ∃ b, B = some ⟨b, 0, none⟩) ∧ q3.length ≤ e ∧ e ≤ maxLen) ∧ L' = own 3 1 B q3.length e (flat q3) :: L := fun L h h' =>
          (cIDs_ctr cb cc .nil none A4 d4 left0 ids4 L h h' (by omega)).mono fun v L' ⟨B, e, h1, h2, h3⟩ => ⟨B, e, by rw [← e5]; exact h1, by rw [← e5]; exact h2, by rw [← e5, ← e4]; exact h3⟩
        have hr4 : ∀ M, Rd (own 3 1 A4 ids4.length d4 (flat ids4) :: M) A4 ids4.length ids4 := fun M => Rc.own (flat_length _) hA4
        (repeat first | refine G_seq ?_ | refine G_skip ?_ | refine G_endblk ?_ | refine G_block ?_ | refine G_exit rfl ?_)
        refine G_draw (.q 0 (.q 1 (.q 2 (.q 3 (.q 4 (.q 5 (.q 6 (.e 7 (.q 8 .nil))))))))) (by kernel_rfl) (by kernel_rfl) ?_
        refine RS_m retB_noPanic rfl rfl rfl rfl (ev_move rfl) ?_
        (first | refine RS_m retB_noPanic rfl rfl rfl rfl (ev_nilCheck rfl) ?_ | refine RS_m retB_noPanic rfl rfl rfl rfl (ev_nilCheckF (by simp) rfl) ?_)
        refine RS_m retB_noPanic rfl rfl rfl rfl (ev_fieldAddr rfl) ?_
        refine RS_m retB_noPanic rfl rfl rfl rfl (ev_indexAddrA rfl rfl (by first | omega | (simp; done) | (simp; omega)) (by first | omega | (simp; done) | (simp; omega))) ?_
        refine RS_q retB_noPanic rfl rfl rfl rfl (ev_load rfl (by repeat' first | exact Ld.blk rfl | assumption | apply Ld.skip | apply Ld.app)) ?_
        refine RS_m retB_noPanic rfl rfl rfl rfl (ev_indexAddrA rfl rfl (by first | omega | (simp; done) | (simp; omega)) (by first | omega | (simp; done) | (simp; omega))) ?_
        refine RS_q retB_noPanic rfl rfl rfl rfl (ev_load rfl (by repeat' first | exact Ld.blk rfl | assumption | apply Ld.skip | apply Ld.app)) ?_
        refine RS_e (RE_eff rfl rfl rfl (eff_call rfl (cO _ (by repeat' first | exact hQM | apply QIn.skip))) ?_); rintro _ _ ⟨Y7, A7, c7, rfl, j1, j2, j3, rfl⟩; refine ⟨_, fun _ s => s, (by first | ((repeat first | exact fun _ s => s | apply en_keep | apply en_drop | apply en_app) <;> fail) | ((repeat first | exact en_refl | (apply en_blk; focus ((repeat' first | exact Pick.here | apply Pick.skip | apply Pick.app); done); focus rfl) | (apply en_own; focus ((repeat' first | exact Pick.here | apply Pick.skip | apply Pick.app); done); focus rfl) | (apply en_pick; focus ((repeat' first | exact Pick.here | apply Pick.skip | apply Pick.app); done)) | apply en_drop | apply en_app) <;> fail)), ?_⟩
        refine RS_m retB_noPanic rfl rfl rfl rfl (ev_assign rfl) ?_
        refine RS_nil ?_
        (repeat first | refine G_seq ?_ | refine G_skip ?_ | refine G_endblk ?_ | refine G_block ?_ | refine G_exit rfl ?_)
        refine G_region ?_
        refine GO_q rfl rfl (ev_move rfl) ?_
        refine GO_q rfl rfl (ev_move rfl) ?_
        refine GO_yes rfl rfl rfl rfl ?_
        refine GO_q rfl rfl (ev_move rfl) ?_
        refine GO_yes rfl rfl rfl rfl ?_
        refine GO_eff rfl rfl (eff_call rfl (cSteps_ctr none _ (by repeat' first | exact LdN.blk rfl | assumption | apply LdN.skip | apply LdN.app))) ?_; rintro _ _ ⟨rfl, rfl⟩
        refine GO_yes rfl rfl rfl rfl ?_
        refine GO_q rfl rfl (ev_move rfl) ?_
        refine GO_yes rfl rfl rfl rfl ?_
        refine GO_q rfl rfl (ev_eql rfl rfl) ?_
        refine GO_q rfl rfl (ev_pick_t rfl rfl rfl) ?_
        refine GO_q rfl rfl (ev_move rfl) ?_
        refine GO_yes rfl rfl rfl (decide_eq_true rfl) ?_
        refine GO_q rfl rfl (ev_move rfl) ?_
        refine GO_yes rfl rfl rfl (decide_eq_true rfl) ?_
        refine GO_q rfl rfl (ev_move rfl) ?_
        refine GO_yes rfl rfl rfl (decide_eq_true rfl) ?_
        (first | refine GO_q rfl rfl (ev_nilCheck rfl) ?_ | refine GO_q rfl rfl (ev_nilCheckF (by simp) rfl) ?_)
        refine GO_yes rfl rfl rfl (decide_eq_true rfl) ?_
        refine GO_q rfl rfl (ev_fieldAddr rfl) ?_
        refine GO_yes rfl rfl rfl (decide_eq_true rfl) ?_
        refine GO_q rfl rfl (ev_load rfl (by repeat' first | exact Ld.blk rfl | assumption | apply Ld.skip | apply Ld.app)) ?_
        refine GO_yes rfl rfl rfl (decide_eq_true rfl) ?_
        refine GO_q rfl rfl (ev_len rfl) ?_
        refine GO_yes rfl rfl rfl (decide_eq_true rfl) ?_
        refine GO_q rfl rfl (ev_mul rfl rfl (by first | omega | (simp; done) | (simp; omega))) ?_
        refine GO_yes rfl rfl rfl (decide_eq_true rfl) ?_
        (first | refine GO_q rfl rfl (ev_addN (q := 1) rfl rfl (by first | omega | (simp; done) | (simp; omega))) ?_ | refine GO_q rfl rfl (ev_add rfl rfl (by first | omega | (simp; done) | (simp; omega))) ?_)
        refine GO_yes rfl rfl rfl (decide_eq_true rfl) ?_
        refine GO_eff rfl rfl (eff_call rfl (cV _)) ?_; rintro _ _ ⟨rfl, rfl⟩
        refine GO_yes rfl rfl rfl (decide_eq_true rfl) ?_
        (first | refine GO_q rfl rfl (ev_addN (q := 1) rfl rfl (by first | omega | (simp; done) | (simp; omega))) ?_ | refine GO_q rfl rfl (ev_add rfl rfl (by first | omega | (simp; done) | (simp; omega))) ?_)
        refine GO_yes rfl rfl rfl (decide_eq_true rfl) ?_
        refine GO_q rfl rfl (ev_leq rfl rfl) ?_
        refine GO_q rfl rfl (ev_pick_t rfl (decide_eq_true rfl) rfl) ?_
        refine GO_q rfl rfl (ev_move rfl) ?_
        refine GO_yes rfl rfl rfl (decide_eq_true (by omega)) ?_
        refine GO_q rfl rfl (ev_move rfl) ?_
        refine GO_yes rfl rfl rfl (decide_eq_true (by omega)) ?_
        refine GO_eff rfl rfl (eff_call rfl (cI _ (by repeat' first | exact LdN.blk rfl | assumption | apply LdN.skip | apply LdN.app) (by repeat' first | exact hr4 _ | apply Rd.skip))) ?_; rintro _ _ ⟨B5, e6, rfl, ⟨u1, u2, u3⟩, rfl⟩
        refine GO_yes rfl rfl rfl (decide_eq_true (by omega)) ?_
        refine GO_q rfl rfl (ev_move rfl) ?_
        refine GO_yes rfl rfl rfl (decide_eq_true (by omega)) ?_
        refine GO_eff rfl rfl (eff_call rfl (Same_ctr B5 A7 _ _ e6 c7 q3 q3 _ (Rc.own (flat_length _) u1) (by repeat' first | exact j3 _ | apply Rd.skip) (by omega))) ?_; rintro _ _ ⟨rfl, rfl⟩
        refine GO_q rfl rfl (ev_pick_t rfl (decide_eq_true (by omega)) rfl) ?_
        refine GO_q rfl rfl (ev_move rfl) ?_
        refine GO_yes rfl rfl rfl (decide_eq_true rfl) ?_
        refine GO_q rfl rfl (ev_move rfl) ?_
        refine GO_yes rfl rfl rfl (decide_eq_true rfl) ?_
        refine GO_eff rfl rfl (eff_call rfl (cN_ctr none _ (by repeat' first | exact LdN.blk rfl | assumption | apply LdN.skip | apply LdN.app))) ?_; rintro _ _ ⟨rfl, rfl⟩
        refine GO_yes rfl rfl rfl (decide_eq_true rfl) ?_
        refine GO_q rfl rfl (ev_move rfl) ?_
        refine GO_yes rfl rfl rfl (decide_eq_true rfl) ?_
        refine GO_q rfl rfl (ev_len rfl) ?_
        refine GO_yes rfl rfl rfl (decide_eq_true rfl) ?_
        refine GO_q rfl rfl (ev_eql rfl rfl) ?_
        refine GO_q rfl rfl (ev_pick_t rfl (decide_eq_true rfl) rfl) ?_
        refine GO_q rfl rfl (ev_move rfl) ?_
        refine GO_yes rfl rfl rfl (decide_eq_true (by omega)) ?_
        refine GO_eff rfl rfl (eff_call rfl (lives23_ctr _)) ?_; rintro _ _ ⟨rfl, X9, rfl⟩
        refine GO_q rfl rfl (ev_pick_t rfl (decide_eq_true (by omega)) rfl) ?_
        refine GO_q rfl rfl (ev_assign rfl) ?_
        refine GO_nil ?_
        (repeat first | refine G_seq ?_ | refine G_skip ?_ | refine G_endblk ?_ | refine G_block ?_ | refine G_exit rfl ?_)
        refine G_heap (L' := M) (by (repeat first | exact fun _ s => s | apply en_keep | apply en_drop | apply en_app) <;> fail) ?_
        refine G_heap hdrM ?_
        exact G_ret (L' := L) rfl (.tmp rfl .nil) (en_keep hdrop) ⟨rfl, rfl⟩
  · have e7 : left0 = 0 := by rw [hlf.2.2, if_neg huv]
    clear hlf
    subst e7
    (repeat first | refine G_seq ?_ | refine G_skip ?_ | refine G_endblk ?_ | refine G_block ?_ | refine G_exit rfl ?_)
    refine G_region ?_
    refine GO_q rfl rfl (ev_indexAddrA rfl rfl (by first | omega | (simp; done) | (simp; omega)) (by first | omega | (simp; done) | (simp; omega))) ?_
    refine GO_q rfl rfl (ev_load rfl (by repeat' first | exact Ld.blk rfl | assumption | apply Ld.skip | apply Ld.app)) ?_
    refine GO_q rfl rfl (ev_indexAddrA rfl rfl (by first | omega | (simp; done) | (simp; omega)) (by first | omega | (simp; done) | (simp; omega))) ?_
    refine GO_q rfl rfl (ev_load rfl (by repeat' first | exact Ld.blk rfl | assumption | apply Ld.skip | apply Ld.app)) ?_
    refine GO_q rfl rfl (ev_leq rfl rfl) ?_
    refine GO_nil ?_
    (repeat first | refine G_seq ?_ | refine G_skip ?_ | refine G_endblk ?_ | refine G_block ?_ | refine G_exit rfl ?_)
    refine G_cond_f rfl (decide_eq_false huv) ?_
    (repeat first | refine G_seq ?_ | refine G_skip ?_ | refine G_endblk ?_ | refine G_block ?_ | refine G_exit rfl ?_)
    (repeat first | refine G_seq ?_ | refine G_skip ?_ | refine G_endblk ?_ | refine G_block ?_ | refine G_exit rfl ?_)
    refine G_region ?_
    refine GO_q rfl rfl (ev_move rfl) ?_
    refine GO_q rfl rfl (ev_assign rfl) ?_
    refine GO_nil ?_
    (repeat first | refine G_seq ?_ | refine G_skip ?_ | refine G_endblk ?_ | refine G_block ?_ | refine G_exit rfl ?_)
    refine G_region ?_
    refine GO_q rfl rfl (ev_assign rfl) ?_
    refine GO_nil ?_
    (repeat first | refine G_seq ?_ | refine G_skip ?_ | refine G_endblk ?_ | refine G_block ?_ | refine G_exit rfl ?_)
    refine G_loop (ι := Nat × Nat × SA × Option (Nat × Nat × Nat) × Option Addr × Nat × List Int) (fun z => [(2, .slice T m e), (4, .pointer (some ⟨b4, 0, none⟩)), (7, .pointer (some ⟨t, 0, none⟩)), (8, .pointer (some ⟨b, 0, none⟩)), (10, .pointer (some ⟨cb, 0, none⟩)), (11, .int .i64 (0 - z.2.1 : Nat)), (12, .int .i64 (0 : Nat)), (13, .int .i64 (z.1 : Nat))]) (fun z => blk cb 108 (cuC z.2.2.1 cc z.2.2.2.1 z.2.2.2.2.1 z.2.2.2.2.2.2.length z.2.2.2.2.2.1 z.2.1) :: own 3 1 z.2.2.2.2.1 z.2.2.2.2.2.2.length z.2.2.2.2.2.1 (flat z.2.2.2.2.2.2) :: M)
      (fun z => z.1 ≤ m ∧ z.2.1 ≤ 0 ∧ CuI M (qR s.R) l cc (some (z1, z2, z3)) q1 tot z.2.2.1 z.2.2.2.1 z.2.2.2.2.2.2 (0 - z.2.1) ∧ (0 < z.2.2.2.2.2.2.length → ∃ b, z.2.2.2.2.1 = some ⟨b, 0, none⟩)) (fun z => m - z.1) (0, 0, Y0, pd0, none, 0, []) ⟨Nat.zero_le _, Nat.zero_le _, hI, fun h => absurd h (Nat.lt_irrefl 0)⟩ ⟨rfl, rfl, rfl, rfl, rfl, rfl, rfl, rfl, trivial⟩ (fun _ s => s) ?_
    rintro ⟨i, k, Y, pd, A', d', ids⟩ ⟨f1, f2, f3, f4⟩
    simp only at f1 f2 f3 f4
    dsimp only
    have cRun := cRun_ctr cb cc t u v 1000 (qR s.R) l (some (z1, z2, z3)) q1 tot M hz hB (by omega) (by omega) (by omega) Y pd A' d' k (0 - k) ids f4 f3 (by omega) (by have : Int.toNat 1000 = 1000 := rfl; omega)
    have e8 : k + (0 - k) = 0 := by omega
    rw [e8] at cRun
    by_cases c1 : i < m ∧ i < 60
    · obtain ⟨lb, lo', rfl, hx⟩ := hSM.at_ (by omega)
      have g1 : st[i]? = some st[i] := List.getElem?_eq_getElem (by omega)
      have y1 := (hx _ _ g1).at_ (i := 0) rfl
      generalize st[i] = w at *
      have y2 : Ld M ⟨lb, lo' + i * 1, none⟩ (.int .i64 w) := y1
      have cSt := cStep_ctr cb cc t u v w (qR s.R) l (some (z1, z2, z3)) q1 tot M hz hB (by omega) (by omega) (by omega) Y pd A' d' k (0 - k) ids f4 f3 (by omega)
      have hmn : min w.toNat (0 - k) ≤ 0 - k := Nat.min_le_right _ _
      have cRr := fun L => cR (0 - k) w L
      generalize min w.toNat (0 - k) = mn at *
      (repeat first | refine G_seq ?_ | refine G_skip ?_ | refine G_endblk ?_ | refine G_block ?_ | refine G_exit rfl ?_)
      refine G_region ?_
      refine GO_q rfl rfl (ev_move rfl) ?_
      refine GO_q rfl rfl (ev_move rfl) ?_
      refine GO_q rfl rfl (ev_len rfl) ?_
      (first | refine GO_q rfl rfl (ev_lssN rfl rfl) ?_ | refine GO_q rfl rfl (ev_lss rfl rfl) ?_)
      refine GO_q rfl rfl (ev_move rfl) ?_
      refine GO_yes rfl rfl rfl (decide_eq_true (by omega)) ?_
      refine GO_q rfl rfl (ev_move rfl) ?_
      refine GO_yes rfl rfl rfl (decide_eq_true (by omega)) ?_
      (first | refine GO_q rfl rfl (ev_lssN (q := 60) rfl rfl) ?_ | refine GO_q rfl rfl (ev_lss rfl rfl) ?_)
      refine GO_q rfl rfl (ev_pick_t rfl (decide_eq_true (by omega)) rfl) ?_
      refine GO_nil ?_
      (repeat first | refine G_seq ?_ | refine G_skip ?_ | refine G_endblk ?_ | refine G_block ?_ | refine G_exit rfl ?_)
      refine G_cond_t rfl (decide_eq_true (by omega)) ?_
      (repeat first | refine G_seq ?_ | refine G_skip ?_ | refine G_endblk ?_ | refine G_block ?_ | refine G_exit rfl ?_)
      refine G_region ?_
      refine GO_q rfl rfl (ev_move rfl) ?_
      refine GO_q rfl rfl (ev_move rfl) ?_
      refine GO_q rfl rfl (ev_move rfl) ?_
      (first | refine GO_q rfl rfl (ev_indexAddrN rfl rfl (by first | omega | (simp; done) | (simp; omega))) ?_ | refine GO_q rfl rfl (ev_indexAddr rfl rfl (by first | omega | (simp; done) | (simp; omega)) (by first | omega | (simp; done) | (simp; omega))) ?_)
      refine GO_q rfl rfl (ev_load rfl (by repeat' first | exact Ld.blk rfl | assumption | apply Ld.skip | apply Ld.app)) ?_
      refine GO_eff rfl rfl (eff_call rfl (cRr _)) ?_; rintro _ _ ⟨rfl, rfl⟩
      refine GO_q rfl rfl (ev_assign rfl) ?_
      refine GO_nil ?_
      (repeat first | refine G_seq ?_ | refine G_skip ?_ | refine G_endblk ?_ | refine G_block ?_ | refine G_exit rfl ?_)
      refine G_region ?_
      refine GO_q rfl rfl (ev_move rfl) ?_
      refine GO_q rfl rfl (ev_move rfl) ?_
      refine GO_q rfl rfl (ev_move rfl) ?_
      (first | refine GO_q rfl rfl (ev_indexAddrN rfl rfl (by first | omega | (simp; done) | (simp; omega))) ?_ | refine GO_q rfl rfl (ev_indexAddr rfl rfl (by first | omega | (simp; done) | (simp; omega)) (by first | omega | (simp; done) | (simp; omega))) ?_)
      refine GO_q rfl rfl (ev_load rfl (by repeat' first | exact Ld.blk rfl | assumption | apply Ld.skip | apply Ld.app)) ?_
      refine GO_eff rfl rfl (eff_call rfl (cSt)) ?_; rintro _ _ ⟨rfl, Y', pd', A2, d2', ids', ⟨hI', hA'⟩, rfl⟩
      refine GO_q rfl rfl (ev_move rfl) ?_
      refine GO_q rfl rfl (ev_extract rfl rfl) ?_
      refine GO_q rfl rfl (ev_extract rfl rfl) ?_
      refine GO_q rfl rfl (ev_assign rfl) ?_
      refine GO_q rfl rfl (ev_assign rfl) ?_
      refine GO_nil ?_
      have cD := fun L h => cDone_ctr (cb := cb) (c := cc) (Y := Y') (A := A2) (n := ids'.length) (d := d2') (k := k + mn) pd' L h
      rw [hI'.done] at cD
      have e9 : 0 - k - mn = 0 - (k + mn) := by omega
      (repeat first | refine G_seq ?_ | refine G_skip ?_ | refine G_endblk ?_ | refine G_block ?_ | refine G_exit rfl ?_)
      refine G_region ?_
      refine GO_q rfl rfl (ev_move rfl) ?_
      refine GO_q rfl rfl (ev_move rfl) ?_
      (first | refine GO_q rfl rfl (ev_subN rfl rfl (by first | omega | (simp; done) | (simp; omega))) ?_ | refine GO_q rfl rfl (ev_sub rfl rfl (by first | omega | (simp; done) | (simp; omega))) ?_)
      refine GO_q rfl rfl (ev_assign rfl) ?_
      refine GO_nil ?_
      (repeat first | refine G_seq ?_ | refine G_skip ?_ | refine G_endblk ?_ | refine G_block ?_ | refine G_exit rfl ?_)
      refine G_region ?_
      refine GO_q rfl rfl (ev_move rfl) ?_
      refine GO_q rfl rfl (ev_move rfl) ?_
      refine GO_q rfl rfl (ev_neq rfl rfl) ?_
      refine GO_q rfl rfl (ev_move rfl) ?_
      refine GO_yes rfl rfl rfl (by simp) ?_
      refine GO_q rfl rfl (ev_move rfl) ?_
      refine GO_yes rfl rfl rfl (by simp) ?_
      refine GO_q rfl rfl (ev_move rfl) ?_
      refine GO_yes rfl rfl rfl (by simp) ?_
      refine GO_q rfl rfl (ev_eql rfl rfl) ?_
      refine GO_yes rfl rfl rfl (by simp) ?_
      refine GO_q rfl rfl (ev_neqB rfl rfl) ?_
      refine GO_q rfl rfl (ev_pick_f rfl (by simp) rfl) ?_
      refine GO_q rfl rfl (ev_move rfl) ?_
      refine GO_yes rfl rfl rfl (by simp) ?_
      refine GO_q rfl rfl (ev_move rfl) ?_
      refine GO_yes rfl rfl rfl (by simp) ?_
      refine GO_eff rfl rfl (eff_call rfl (cD _ (by repeat' first | exact LdN.blk rfl | assumption | apply LdN.skip | apply LdN.app))) ?_; rintro _ _ ⟨rfl, rfl⟩
      refine GO_yes rfl rfl rfl (by simp) ?_
      refine GO_q rfl rfl (ev_move rfl) ?_
      refine GO_yes rfl rfl rfl (by simp) ?_
      refine GO_q rfl rfl (ev_neqB rfl rfl) ?_
      refine GO_q rfl rfl (ev_pick_f rfl (by simp) rfl) ?_
      refine GO_q rfl rfl (ev_move rfl) ?_
      refine GO_yes rfl rfl rfl (by simp) ?_
      refine GO_q rfl rfl (ev_move rfl) ?_
      refine GO_yes rfl rfl rfl (by simp) ?_
      refine GO_eff rfl rfl (eff_call rfl (cSteps_ctr pd' _ (by repeat' first | exact LdN.blk rfl | assumption | apply LdN.skip | apply LdN.app))) ?_; rintro _ _ ⟨rfl, rfl⟩
      refine GO_yes rfl rfl rfl (by simp) ?_
      refine GO_q rfl rfl (ev_move rfl) ?_
      refine GO_yes rfl rfl rfl (by simp) ?_
      refine GO_q rfl rfl (ev_move rfl) ?_
      refine GO_yes rfl rfl rfl (by simp) ?_
      (first | refine GO_q rfl rfl (ev_subN rfl rfl (by first | omega | (simp; done) | (simp; omega))) ?_ | refine GO_q rfl rfl (ev_sub rfl rfl (by first | omega | (simp; done) | (simp; omega))) ?_)
      refine GO_yes rfl rfl rfl (by simp) ?_
      refine GO_q rfl rfl (ev_neq rfl rfl) ?_
      refine GO_q rfl rfl (ev_pick_f rfl (by simp) rfl) ?_
      refine GO_nil ?_
      (repeat first | refine G_seq ?_ | refine G_skip ?_ | refine G_endblk ?_ | refine G_block ?_ | refine G_exit rfl ?_)
      refine G_cond_f rfl (decide_eq_false (by omega)) ?_
      (repeat first | refine G_seq ?_ | refine G_skip ?_ | refine G_endblk ?_ | refine G_block ?_ | refine G_exit rfl ?_)
      (repeat first | refine G_seq ?_ | refine G_skip ?_ | refine G_endblk ?_ | refine G_block ?_ | refine G_exit rfl ?_)
      refine G_region ?_
      refine GO_q rfl rfl (ev_move rfl) ?_
      (first | refine GO_q rfl rfl (ev_addN (q := 1) rfl rfl (by first | omega | (simp; done) | (simp; omega))) ?_ | refine GO_q rfl rfl (ev_add rfl rfl (by first | omega | (simp; done) | (simp; omega))) ?_)
      refine GO_q rfl rfl (ev_assign rfl) ?_
      refine GO_nil ?_
      rw [e9]
      rw [e9] at hI'
      (repeat first | refine G_seq ?_ | refine G_skip ?_ | refine G_endblk ?_ | refine G_block ?_ | refine G_exit rfl ?_)
      exact G_round (i + 1, k + mn, Y', pd', A2, d2', ids') ⟨by simp only; omega, by simp only; omega, hI', hA'⟩ (by simp only; omega) ⟨rfl, rfl, rfl, rfl, rfl, rfl, rfl, rfl, trivial⟩ (fun _ s => s)
    · by_cases c2 : i < m
      case' pos =>
        (repeat first | refine G_seq ?_ | refine G_skip ?_ | refine G_endblk ?_ | refine G_block ?_ | refine G_exit rfl ?_)
        refine G_region ?_
        refine GO_q rfl rfl (ev_move rfl) ?_
        refine GO_q rfl rfl (ev_move rfl) ?_
        refine GO_q rfl rfl (ev_len rfl) ?_
        (first | refine GO_q rfl rfl (ev_lssN rfl rfl) ?_ | refine GO_q rfl rfl (ev_lss rfl rfl) ?_)
        refine GO_q rfl rfl (ev_move rfl) ?_
        refine GO_yes rfl rfl rfl (decide_eq_true (by omega)) ?_
        refine GO_q rfl rfl (ev_move rfl) ?_
        refine GO_yes rfl rfl rfl (decide_eq_true (by omega)) ?_
        (first | refine GO_q rfl rfl (ev_lssN (q := 60) rfl rfl) ?_ | refine GO_q rfl rfl (ev_lss rfl rfl) ?_)
        refine GO_q rfl rfl (ev_pick_t rfl (decide_eq_true (by omega)) rfl) ?_
        refine GO_nil ?_
        (repeat first | refine G_seq ?_ | refine G_skip ?_ | refine G_endblk ?_ | refine G_block ?_ | refine G_exit rfl ?_)
        refine G_cond_f rfl (decide_eq_false (by omega)) ?_
      case' neg =>
        (repeat first | refine G_seq ?_ | refine G_skip ?_ | refine G_endblk ?_ | refine G_block ?_ | refine G_exit rfl ?_)
        refine G_region ?_
        refine GO_q rfl rfl (ev_move rfl) ?_
        refine GO_q rfl rfl (ev_move rfl) ?_
        refine GO_q rfl rfl (ev_len rfl) ?_
        (first | refine GO_q rfl rfl (ev_lssN rfl rfl) ?_ | refine GO_q rfl rfl (ev_lss rfl rfl) ?_)
        refine GO_q rfl rfl (ev_move rfl) ?_
        refine GO_no rfl rfl rfl (decide_eq_false (by omega)) ?_
        refine GO_no rfl rfl rfl (decide_eq_false (by omega)) ?_
        refine GO_q rfl rfl (ev_pick_f rfl (decide_eq_false (by omega)) rfl) ?_
        refine GO_nil ?_
        (repeat first | refine G_seq ?_ | refine G_skip ?_ | refine G_endblk ?_ | refine G_block ?_ | refine G_exit rfl ?_)
        refine G_cond_f rfl rfl ?_
      all_goals
        (repeat first | refine G_seq ?_ | refine G_skip ?_ | refine G_endblk ?_ | refine G_block ?_ | refine G_exit rfl ?_)
        refine G_region ?_
        refine GO_q rfl rfl (ev_move rfl) ?_
        refine GO_eff rfl rfl (eff_call rfl (cRun)) ?_; rintro _ _ ⟨rfl, A4, d4, ids4, ⟨hp4, hA4⟩, rfl⟩
        refine GO_q rfl rfl (ev_move rfl) ?_
        refine GO_q rfl rfl (ev_extract rfl rfl) ?_
        refine GO_q rfl rfl (ev_extract rfl rfl) ?_
        refine GO_q rfl rfl (ev_assign rfl) ?_
        refine GO_q rfl rfl (ev_assign rfl) ?_
        refine GO_nil ?_
        have e4 : srt ids4 = q3 := by rw [← hso]; exact srt_of_perm hp4
        have e5 : ids4.length = q3.length := by rw [← e4, srt_length]
        have cI : ∀ L, LdN L cb 0 5 (cuC .nil cc none A4 ids4.length d4 0) → Rd L A4 ids4.length ids4 → Ctr Tryz.prog 39 #[.pointer (some ⟨cb, 0, none⟩)] L fun v L' => ∃ B e, v = .slice B q3.length e ∧ ((0 < q3.length → ∃ b, B = some ⟨b, 0, none⟩) ∧ q3.length ≤ e ∧ e ≤ maxLen) ∧ L' = own 3 1 B q3.length e (flat q3) :: L := fun L h h' =>
          (cIDs_ctr cb cc .nil none A4 d4 0 ids4 L h h' (by omega)).mono fun v L' ⟨B, e, h1, h2, h3⟩ => ⟨B, e, by rw [← e5]; exact h1, by rw [← e5]; exact h2, by rw [← e5, ← e4]; exact h3⟩
        have hr4 : ∀ M, Rd (own 3 1 A4 ids4.length d4 (flat ids4) :: M) A4 ids4.length ids4 := fun M => Rc.own (flat_length _) hA4
        (repeat first | refine G_seq ?_ | refine G_skip ?_ | refine G_endblk ?_ | refine G_block ?_ | refine G_exit rfl ?_)
        refine G_draw (.q 0 (.q 1 (.q 2 (.q 3 (.q 4 (.q 5 (.q 6 (.e 7 (.q 8 .nil))))))))) (by kernel_rfl) (by kernel_rfl) ?_
        refine RS_m retB_noPanic rfl rfl rfl rfl (ev_move rfl) ?_
        (first | refine RS_m retB_noPanic rfl rfl rfl rfl (ev_nilCheck rfl) ?_ | refine RS_m retB_noPanic rfl rfl rfl rfl (ev_nilCheckF (by simp) rfl) ?_)
        refine RS_m retB_noPanic rfl rfl rfl rfl (ev_fieldAddr rfl) ?_
        refine RS_m retB_noPanic rfl rfl rfl rfl (ev_indexAddrA rfl rfl (by first | omega | (simp; done) | (simp; omega)) (by first | omega | (simp; done) | (simp; omega))) ?_
        refine RS_q retB_noPanic rfl rfl rfl rfl (ev_load rfl (by repeat' first | exact Ld.blk rfl | assumption | apply Ld.skip | apply Ld.app)) ?_
        refine RS_m retB_noPanic rfl rfl rfl rfl (ev_indexAddrA rfl rfl (by first | omega | (simp; done) | (simp; omega)) (by first | omega | (simp; done) | (simp; omega))) ?_
        refine RS_q retB_noPanic rfl rfl rfl rfl (ev_load rfl (by repeat' first | exact Ld.blk rfl | assumption | apply Ld.skip | apply Ld.app)) ?_
        refine RS_e (RE_eff rfl rfl rfl (eff_call rfl (cO _ (by repeat' first | exact hQM | apply QIn.skip))) ?_); rintro _ _ ⟨Y7, A7, c7, rfl, j1, j2, j3, rfl⟩; refine ⟨_, fun _ s => s, (by first | ((repeat first | exact fun _ s => s | apply en_keep | apply en_drop | apply en_app) <;> fail) | ((repeat first | exact en_refl | (apply en_blk; focus ((repeat' first | exact Pick.here | apply Pick.skip | apply Pick.app); done); focus rfl) | (apply en_own; focus ((repeat' first | exact Pick.here | apply Pick.skip | apply Pick.app); done); focus rfl) | (apply en_pick; focus ((repeat' first | exact Pick.here | apply Pick.skip | apply Pick.app); done)) | apply en_drop | apply en_app) <;> fail)), ?_⟩
        refine RS_m retB_noPanic rfl rfl rfl rfl (ev_assign rfl) ?_
        refine RS_nil ?_
        (repeat first | refine G_seq ?_ | refine G_skip ?_ | refine G_endblk ?_ | refine G_block ?_ | refine G_exit rfl ?_)
        refine G_region ?_
        refine GO_q rfl rfl (ev_move rfl) ?_
        refine GO_q rfl rfl (ev_move rfl) ?_
        refine GO_yes rfl rfl rfl rfl ?_
        refine GO_q rfl rfl (ev_move rfl) ?_
        refine GO_yes rfl rfl rfl rfl ?_
        refine GO_eff rfl rfl (eff_call rfl (cSteps_ctr none _ (by repeat' first | exact LdN.blk rfl | assumption | apply LdN.skip | apply LdN.app))) ?_; rintro _ _ ⟨rfl, rfl⟩
        refine GO_yes rfl rfl rfl rfl ?_
        refine GO_q rfl rfl (ev_move rfl) ?_
        refine GO_yes rfl rfl rfl rfl ?_
        refine GO_q rfl rfl (ev_eql rfl rfl) ?_
        refine GO_q rfl rfl (ev_pick_t rfl rfl rfl) ?_
        refine GO_q rfl rfl (ev_move rfl) ?_
        refine GO_yes rfl rfl rfl (decide_eq_true rfl) ?_
        refine GO_q rfl rfl (ev_move rfl) ?_
        refine GO_yes rfl rfl rfl (decide_eq_true rfl) ?_
        refine GO_q rfl rfl (ev_move rfl) ?_
        refine GO_yes rfl rfl rfl (decide_eq_true rfl) ?_
        (first | refine GO_q rfl rfl (ev_nilCheck rfl) ?_ | refine GO_q rfl rfl (ev_nilCheckF (by simp) rfl) ?_)
        refine GO_yes rfl rfl rfl (decide_eq_true rfl) ?_
        refine GO_q rfl rfl (ev_fieldAddr rfl) ?_
        refine GO_yes rfl rfl rfl (decide_eq_true rfl) ?_
        refine GO_q rfl rfl (ev_load rfl (by repeat' first | exact Ld.blk rfl | assumption | apply Ld.skip | apply Ld.app)) ?_
        refine GO_yes rfl rfl rfl (decide_eq_true rfl) ?_
        refine GO_q rfl rfl (ev_len rfl) ?_
        refine GO_yes rfl rfl rfl (decide_eq_true rfl) ?_
        refine GO_q rfl rfl (ev_mul rfl rfl (by first | omega | (simp; done) | (simp; omega))) ?_
        refine GO_yes rfl rfl rfl (decide_eq_true rfl) ?_
        (first | refine GO_q rfl rfl (ev_addN (q := 1) rfl rfl (by first | omega | (simp; done) | (simp; omega))) ?_ | refine GO_q rfl rfl (ev_add rfl rfl (by first | omega | (simp; done) | (simp; omega))) ?_)
        refine GO_yes rfl rfl rfl (decide_eq_true rfl) ?_
        refine GO_eff rfl rfl (eff_call rfl (cV _)) ?_; rintro _ _ ⟨rfl, rfl⟩
        refine GO_yes rfl rfl rfl (decide_eq_true rfl) ?_
        (first | refine GO_q rfl rfl (ev_addN (q := 1) rfl rfl (by first | omega | (simp; done) | (simp; omega))) ?_ | refine GO_q rfl rfl (ev_add rfl rfl (by first | omega | (simp; done) | (simp; omega))) ?_)
        refine GO_yes rfl rfl rfl (decide_eq_true rfl) ?_
        refine GO_q rfl rfl (ev_leq rfl rfl) ?_
        refine GO_q rfl rfl (ev_pick_t rfl (decide_eq_true rfl) rfl) ?_
        refine GO_q rfl rfl (ev_move rfl) ?_
        refine GO_yes rfl rfl rfl (decide_eq_true (by omega)) ?_
        refine GO_q rfl rfl (ev_move rfl) ?_
        refine GO_yes rfl rfl rfl (decide_eq_true (by omega)) ?_
        refine GO_eff rfl rfl (eff_call rfl (cI _ (by repeat' first | exact LdN.blk rfl | assumption | apply LdN.skip | apply LdN.app) (by repeat' first | exact hr4 _ | apply Rd.skip))) ?_; rintro _ _ ⟨B5, e6, rfl, ⟨u1, u2, u3⟩, rfl⟩
        refine GO_yes rfl rfl rfl (decide_eq_true (by omega)) ?_
        refine GO_q rfl rfl (ev_move rfl) ?_
        refine GO_yes rfl rfl rfl (decide_eq_true (by omega)) ?_
        refine GO_eff rfl rfl (eff_call rfl (Same_ctr B5 A7 _ _ e6 c7 q3 q3 _ (Rc.own (flat_length _) u1) (by repeat' first | exact j3 _ | apply Rd.skip) (by omega))) ?_; rintro _ _ ⟨rfl, rfl⟩
        refine GO_q rfl rfl (ev_pick_t rfl (decide_eq_true (by omega)) rfl) ?_
        refine GO_q rfl rfl (ev_move rfl) ?_
        refine GO_yes rfl rfl rfl (decide_eq_true rfl) ?_
        refine GO_q rfl rfl (ev_move rfl) ?_
        refine GO_yes rfl rfl rfl (decide_eq_true rfl) ?_
        refine GO_eff rfl rfl (eff_call rfl (cN_ctr none _ (by repeat' first | exact LdN.blk rfl | assumption | apply LdN.skip | apply LdN.app))) ?_; rintro _ _ ⟨rfl, rfl⟩
        refine GO_yes rfl rfl rfl (decide_eq_true rfl) ?_
        refine GO_q rfl rfl (ev_move rfl) ?_
        refine GO_yes rfl rfl rfl (decide_eq_true rfl) ?_
        refine GO_q rfl rfl (ev_len rfl) ?_
        refine GO_yes rfl rfl rfl (decide_eq_true rfl) ?_
        refine GO_q rfl rfl (ev_eql rfl rfl) ?_
        refine GO_q rfl rfl (ev_pick_t rfl (decide_eq_true rfl) rfl) ?_
        refine GO_q rfl rfl (ev_move rfl) ?_
        refine GO_yes rfl rfl rfl (decide_eq_true (by omega)) ?_
        refine GO_eff rfl rfl (eff_call rfl (lives23_ctr _)) ?_; rintro _ _ ⟨rfl, X9, rfl⟩
        refine GO_q rfl rfl (ev_pick_t rfl (decide_eq_true (by omega)) rfl) ?_
        refine GO_q rfl rfl (ev_assign rfl) ?_
        refine GO_nil ?_
        (repeat first | refine G_seq ?_ | refine G_skip ?_ | refine G_endblk ?_ | refine G_block ?_ | refine G_exit rfl ?_)
        refine G_heap (L' := M) (by (repeat first | exact fun _ s => s | apply en_keep | apply en_drop | apply en_app) <;> fail) ?_
        refine G_heap hdrM ?_
        exact G_ret (L' := L) rfl (.tmp rfl .nil) (en_keep hdrop) ⟨rfl, rfl⟩
theorem segcurFinds_walk (A : Option Addr) (n c : Nat) (ns : List Int) (b0 b1 : Int) (T : Option Addr) (m d : Nat) (ts : List Int) (w : World) (hc : n ≤ c) (hc2 : c ≤ maxLen) (hb : Ints ns) (h1 : Reads w 5 A n (ints ns)) (hd : m ≤ d) (hd2 : d ≤ maxLen) (hbt : Ints ts) (h2 : Reads w 1 T m (ints ts)) :
    Calls Tryz.prog 10 #[.slice A n c, .agg #[.int .i64 b0, .int .i64 b1], .slice T m d] w fun e w' => e = .returned (.bool true) ∧ Below w.heap.size w w' := by
  obtain ⟨l, hl, hk⟩ := rd_acts h1 hb
  refine law_of_ctr (SegcurFinds_ctr A n c l b0 b1 T m d ts _ hl (by unfold maxLen at hc2; omega) hk ?_ (by unfold maxLen at hd2; omega))
  unfold Rd
  have e : flat ts = ints ts := by rw [flat_int]; rfl
  rw [e]
  exact rc_of_reads (by decide) h2
end Go.Proofs.YtmgkmammkmlakaaGreat
