/- The law PstLine. -/
import Derived.Test.YtalcanejhniepaaLives
import Derived.Test.YtalcanejhniepaaOps2
import Derived.Test.YtalcanejhniepaaBr
namespace Go.Proofs.Ytalcanejhniepaa
attribute [local irreducible] sat
open Go.RowKit
set_option linter.unusedVariables false
set_option linter.unusedSimpArgs false
set_option maxRecDepth 100000

instance : IntK Try.prog 5 .u8 := ⟨by kernel_rfl⟩
instance : IntK Try.prog 3 .i64 := ⟨by kernel_rfl⟩
def liY (k : Nat) (i : Nat) : Int := match k with | 0 => (i : Int) | 1 => 0 - (i : Int) | 2 => 0 | _ => (i : Int) * 7 % 13
theorem liY_at (k i : Nat) (h : k < 4) : [Value.int .i64 (i : Int), .int .i64 (0 - (i : Int)), .int .i64 0, .int .i64 ((i : Int) * 7 % 13)][k * 1]? = some (.int .i64 (liY k i)) := by
  match k, h with
  | 0, _ => rfl
  | 1, _ => rfl
  | 2, _ => rfl
  | 3, _ => rfl
theorem liY_le (k i : Nat) (h : i ≤ 120) : -120 ≤ liY k i ∧ liY k i ≤ 120 := by
  unfold liY
  split <;> omega
def liP (k i : Nat) : Pt := ⟨(i : Int), (i : Int), liY k i⟩
/-- From the one behind a on, so many. -/
def seg (k a : Nat) : Nat → List Pt
  | 0 => []
  | m + 1 => liP k (a + m + 1) :: seg k a m
theorem seg_len (k a : Nat) : ∀ m, (seg k a m).length = m
  | 0 => rfl
  | m + 1 => by rw [seg, List.length_cons, seg_len k a m]
theorem seg_mem {k a : Nat} {p : Pt} : ∀ {m : Nat}, p ∈ seg k a m → ∃ j : Nat, a < j ∧ j ≤ a + m ∧ p = liP k j
  | 0, h => by cases h
  | m + 1, h => by
    rcases List.mem_cons.1 h with h | h
    · exact ⟨a + m + 1, by omega, by omega, h⟩
    · obtain ⟨j, h1, h2, h3⟩ := seg_mem h
      exact ⟨j, h1, by omega, h3⟩
theorem seg_perm (k : Nat) : ∀ (m a : Nat), (seg k a (m + 1)).Perm (liP k (a + 1) :: seg k (a + 1) m)
  | 0, a => .refl _
  | m + 1, a => by
    have e : liP k (a + (m + 1) + 1) = liP k (a + 1 + m + 1) := by congr 1; omega
    show (liP k (a + (m + 1) + 1) :: seg k a (m + 1)).Perm (liP k (a + 1) :: liP k (a + 1 + m + 1) :: seg k (a + 1) m)
    rw [e]
    exact ((seg_perm k m a).cons _).trans (.swap _ _ _)
theorem li_good (k i : Nat) (h1 : 1 ≤ i) (h : i ≤ 120) : goodP (liP k i) = true := by
  have := liY_le k i h
  simp only [goodP, goodId, good, liP, Bool.and_eq_true, decide_eq_true_eq]
  refine ⟨⟨decide_eq_true ?_, decide_eq_true ?_⟩, ⟨decide_eq_true ?_, decide_eq_true ?_⟩, decide_eq_true ?_, decide_eq_true ?_⟩ <;> omega
theorem seg_ins (k m : Nat) (h : m + 1 ≤ 120) : insC 300 (seg k 0 m) (liP k (m + 1)) = 0 ∧ insL 300 (seg k 0 m) (liP k (m + 1)) = seg k 0 (m + 1) := by
  have h1 : insC 300 (seg k 0 m) (liP k (m + 1)) = 0 := by
    unfold insC
    rw [if_neg (by rw [li_good k (m + 1) (by omega) h]; simp), if_neg (fun hm => ?_), if_neg (by rw [seg_len]; omega)]
    obtain ⟨j, a, b, c⟩ := seg_mem hm
    have := congrArg Pt.id c
    simp only [liP] at this
    omega
  refine ⟨h1, ?_⟩
  unfold insL
  rw [if_pos h1]
  show _ = liP k (0 + m + 1) :: seg k 0 m
  rw [Nat.zero_add]
theorem seg_win (k m : Nat) (h : m ≤ 120) : (winIds ⟨-300, 300, -300⟩ (seg k 0 m)).length = m := by
  rw [winIds, List.length_map, List.filter_eq_self.2, seg_len]
  intro p hp
  obtain ⟨j, a, b, c⟩ := seg_mem hp
  have := liY_le k j (by omega)
  subst c
  simp only [Wn.sees, wthn, liP, Bool.and_eq_true]
  refine ⟨decide_eq_true ⟨?_, ?_⟩, decide_eq_true ?_⟩ <;> omega
/-- What is left to be deleted: from the other end, or from this one. -/
def lft (r : Bool) (many i : Nat) : Nat := if r then many - i else 0
def nxt (r : Bool) (many i : Nat) : Nat := if r then many + 1 - i else i
theorem lft_del (r : Bool) (k many i : Nat) (h1 : i + 1 ≤ many) : delC (seg k (lft r many (i + 1)) (i + 1)) (liP k (nxt r many (i + 1))) = 0 ∧ ((seg k (lft r many (i + 1)) (i + 1)).erase (liP k (nxt r many (i + 1)))).Perm (seg k (lft r many i) i) := by
  cases r with
  | false =>
    have e : liP k (nxt false many (i + 1)) = liP k (0 + i + 1) := by simp [nxt]
    rw [e]
    refine ⟨if_pos (List.mem_cons_self ..), ?_⟩
    show ((liP k (0 + i + 1) :: seg k 0 i).erase _).Perm _
    rw [List.erase_cons_head]
    show (seg k 0 i).Perm (seg k 0 i)
    exact .refl _
  | true =>
    have e1 : lft true many (i + 1) + 1 = lft true many i := by simp [lft]; omega
    have e2 : nxt true many (i + 1) = lft true many (i + 1) + 1 := by simp [nxt, lft]; omega
    have hp := seg_perm k i (lft true many (i + 1))
    rw [← e2] at hp
    refine ⟨if_pos (hp.mem_iff.2 (List.mem_cons_self ..)), ?_⟩
    refine (hp.erase _).trans ?_
    rw [List.erase_cons_head, e2, e1]
theorem PstLine_ctr (n kind : Nat) (hn : n ≤ 255) (hk : kind ≤ 255) (L : List HP) : Ctr Try.prog 5 #[.int .u8 (n : Int), .int .u8 (kind : Int)] L fun v L' => v = .bool true ∧ L' = L := by
  obtain ⟨many, hmany⟩ : ∃ m, n % 120 = m := ⟨_, rfl⟩
  have hm : many ≤ 120 := by omega
  obtain ⟨k, hkk⟩ : ∃ k, kind % 4 = k := ⟨_, rfl⟩
  have hk4 : k < 4 := by omega
  obtain ⟨r, hr⟩ : ∃ r, decide (128 ≤ (kind : Int)) = r := ⟨_, rfl⟩
  refine Ctr_of (fn := Try.f5) (n := 112) Try.func5 rfl rfl rfl ?_
  intro g F
  (repeat first | refine G_seq ?_ | refine G_skip ?_ | refine G_endblk ?_ | refine G_block ?_ | refine G_exit rfl ?_)
  refine G_region ?_
  refine GO_q rfl rfl (ev_assign rfl) ?_
  refine GO_nil ?_
  (repeat first | refine G_seq ?_ | refine G_skip ?_ | refine G_endblk ?_ | refine G_block ?_ | refine G_exit rfl ?_)
  refine G_region ?_
  refine GO_eff rfl rfl (eff_call rfl (PNew_ctr 300 _ (by decide))) ?_; rintro _ _ ⟨t, rfl, rfl⟩
  refine GO_q rfl rfl (ev_move rfl) ?_
  refine GO_q rfl rfl (ev_extract rfl rfl) ?_
  refine GO_q rfl rfl (ev_extract rfl rfl) ?_
  refine GO_q rfl rfl (ev_assign rfl) ?_
  refine GO_q rfl rfl (ev_assign rfl) ?_
  refine GO_nil ?_
  (repeat first | refine G_seq ?_ | refine G_skip ?_ | refine G_endblk ?_ | refine G_block ?_ | refine G_exit rfl ?_)
  refine G_region ?_
  refine GO_q rfl rfl (ev_move rfl) ?_
  (first | refine GO_q rfl rfl (ev_eqlNil rfl rfl) ?_ | refine GO_q rfl rfl (ev_eqlPtr rfl rfl) ?_)
  refine GO_q rfl rfl (ev_move rfl) ?_
  refine GO_yes rfl rfl rfl rfl ?_
  refine GO_q rfl rfl (ev_move rfl) ?_
  refine GO_yes rfl rfl rfl rfl ?_
  refine GO_q rfl rfl (ev_neq rfl rfl) ?_
  refine GO_q rfl rfl (ev_pick_f rfl rfl rfl) ?_
  refine GO_nil ?_
  (repeat first | refine G_seq ?_ | refine G_skip ?_ | refine G_endblk ?_ | refine G_block ?_ | refine G_exit rfl ?_)
  refine G_cond_f rfl rfl ?_
  (repeat first | refine G_seq ?_ | refine G_skip ?_ | refine G_endblk ?_ | refine G_block ?_ | refine G_exit rfl ?_)
  refine G_region ?_
  refine GO_q rfl rfl (ev_move rfl) ?_
  refine GO_q rfl rfl (ev_remK (q := 120) rfl rfl (by decide)) ?_
  refine GO_q rfl rfl (ev_convU rfl (by omega)) ?_
  refine GO_q rfl rfl (ev_assign rfl) ?_
  refine GO_nil ?_
  rw [hmany]
  (repeat first | refine G_seq ?_ | refine G_skip ?_ | refine G_endblk ?_ | refine G_block ?_ | refine G_exit rfl ?_)
  refine G_region ?_
  refine GO_q rfl rfl (ev_assign rfl) ?_
  refine GO_nil ?_
  (repeat first | refine G_seq ?_ | refine G_skip ?_ | refine G_endblk ?_)
  refine G_cut (ι := Unit) (fun _ => [(0, .int .u8 (n : Int)), (1, .int .u8 (kind : Int)), (5, .pointer (some ⟨t, 0, none⟩)), (7, .int .i64 (many : Int))]) (fun _ => treeS t 300 (seg k 0 many) :: F :: L) (fun _ => True) ?_ ?_
  · (repeat first | refine G_seq ?_ | refine G_skip ?_ | refine G_endblk ?_ | refine G_block ?_ | refine G_exit rfl ?_)
    refine G_loop (ι := Nat) (fun m => [(0, .int .u8 (n : Int)), (1, .int .u8 (kind : Int)), (5, .pointer (some ⟨t, 0, none⟩)), (7, .int .i64 (many : Int)), (8, .int .i64 ((m + 1 : Nat) : Int))]) (fun m => treeS t 300 (seg k 0 m) :: F :: L) (fun m => m ≤ many) (fun m => many - m) 0 (Nat.zero_le _) ⟨rfl, rfl, rfl, rfl, rfl, trivial⟩ (by (repeat first | exact en_refl | (apply en_blk; focus ((repeat' first | exact Pick.here | apply Pick.skip | apply Pick.app); done); focus rfl) | (apply en_own; focus ((repeat' first | exact Pick.here | apply Pick.skip | apply Pick.app); done); focus rfl) | (apply en_pick; focus ((repeat' first | exact Pick.here | apply Pick.skip | apply Pick.app); done)) | apply en_drop | apply en_app) <;> fail) ?_
    intro m hmm
    by_cases c1 : m < many
    · obtain ⟨i1, i2⟩ := seg_ins k m (by omega)
      have hP := PInsert_ctr t 300 (seg k 0 m) (liP k (m + 1))
      rw [i1, i2] at hP
      (repeat first | refine G_seq ?_ | refine G_skip ?_ | refine G_endblk ?_ | refine G_block ?_ | refine G_exit rfl ?_)
      refine G_region ?_
      refine GO_q rfl rfl (ev_move rfl) ?_
      refine GO_q rfl rfl (ev_move rfl) ?_
      refine GO_q rfl rfl (ev_leq rfl rfl) ?_
      refine GO_nil ?_
      (repeat first | refine G_seq ?_ | refine G_skip ?_ | refine G_endblk ?_ | refine G_block ?_ | refine G_exit rfl ?_)
      refine G_cond_t rfl (decide_eq_true (by omega)) ?_
      (repeat first | refine G_seq ?_ | refine G_skip ?_ | refine G_endblk ?_ | refine G_block ?_ | refine G_exit rfl ?_)
      refine G_region ?_
      refine GO_q rfl rfl (ev_move rfl) ?_
      refine GO_q rfl rfl (ev_move rfl) ?_
      refine GO_q rfl rfl (ev_move rfl) ?_
      refine GO_q rfl rfl (ev_move rfl) ?_
      refine GO_q rfl rfl (ev_neg rfl (by first | omega | (simp; done) | (simp; omega))) ?_
      refine GO_q rfl rfl (ev_move rfl) ?_
      refine GO_q rfl rfl (ev_mul rfl rfl (by first | omega | (simp; done) | (simp; omega))) ?_
      refine GO_q rfl rfl (ev_rem rfl rfl (by omega) (by omega)) ?_
      refine GO_q rfl rfl (ev_buildA rfl rfl) ?_
      refine GO_q rfl rfl (ev_move rfl) ?_
      refine GO_q rfl rfl (ev_remK (q := 4) rfl rfl (by decide)) ?_
      refine GO_q rfl rfl (ev_indexA (i := kind % 4) rfl rfl (by omega) (by rw [hkk]; exact liY_at k (m + 1) hk4)) ?_
      refine GO_q rfl rfl (ev_build rfl rfl) ?_
      refine GO_eff rfl rfl eff_alloc ?_; rintro _ _ ⟨b9, rfl, rfl⟩
      refine GO_eff rfl rfl (eff_storeN rfl rfl rfl rfl (by repeat' first | exact Upd.here rfl | apply Upd.skip | apply Upd.app)) ?_; rintro _ _ ⟨rfl, rfl⟩
      refine GO_nil ?_
      (repeat first | refine G_seq ?_ | refine G_skip ?_ | refine G_endblk ?_ | refine G_block ?_ | refine G_exit rfl ?_)
      refine G_region ?_
      refine GO_q rfl rfl (ev_move rfl) ?_
      refine GO_q rfl rfl (ev_loadN rfl (by repeat' first | exact LdN.blk rfl | assumption | apply LdN.skip | apply LdN.app)) ?_
      refine GO_eff rfl rfl (eff_call rfl (Ctr.pick (by repeat' first | exact Pick.here | apply Pick.skip | apply Pick.app) (hP _ (by rw [seg_len]; omega)))) ?_; rintro _ _ ⟨rfl, rfl⟩
      refine GO_q rfl rfl (ev_neq rfl rfl) ?_
      refine GO_nil ?_
      (repeat first | refine G_seq ?_ | refine G_skip ?_ | refine G_endblk ?_ | refine G_block ?_ | refine G_exit rfl ?_)
      refine G_cond_f rfl rfl ?_
      (repeat first | refine G_seq ?_ | refine G_skip ?_ | refine G_endblk ?_ | refine G_block ?_ | refine G_exit rfl ?_)
      refine G_region ?_
      refine GO_q rfl rfl (ev_move rfl) ?_
      (first | refine GO_q rfl rfl (ev_addN (q := 1) rfl rfl (by first | omega | (simp; done) | (simp; omega))) ?_ | refine GO_q rfl rfl (ev_add rfl rfl (by first | omega | (simp; done) | (simp; omega))) ?_)
      refine GO_q rfl rfl (ev_assign rfl) ?_
      refine GO_nil ?_
      (repeat first | refine G_seq ?_ | refine G_skip ?_ | refine G_endblk ?_ | refine G_block ?_ | refine G_exit rfl ?_)
      exact G_round (m + 1) (by omega) (by omega) ⟨rfl, rfl, rfl, rfl, rfl, trivial⟩ (by (repeat first | exact en_refl | (apply en_blk; focus ((repeat' first | exact Pick.here | apply Pick.skip | apply Pick.app); done); focus rfl) | (apply en_own; focus ((repeat' first | exact Pick.here | apply Pick.skip | apply Pick.app); done); focus rfl) | (apply en_pick; focus ((repeat' first | exact Pick.here | apply Pick.skip | apply Pick.app); done)) | apply en_drop | apply en_app) <;> fail)
    · have e : m = many := by omega
      subst e
      (repeat first | refine G_seq ?_ | refine G_skip ?_ | refine G_endblk ?_ | refine G_block ?_ | refine G_exit rfl ?_)
      refine G_region ?_
      refine GO_q rfl rfl (ev_move rfl) ?_
      refine GO_q rfl rfl (ev_move rfl) ?_
      refine GO_q rfl rfl (ev_leq rfl rfl) ?_
      refine GO_nil ?_
      (repeat first | refine G_seq ?_ | refine G_skip ?_ | refine G_endblk ?_ | refine G_block ?_ | refine G_exit rfl ?_)
      refine G_cond_f rfl (decide_eq_false (by omega)) ?_
      (repeat first | refine G_seq ?_ | refine G_skip ?_ | refine G_endblk ?_ | refine G_block ?_ | refine G_exit rfl ?_)
      exact G_inv () trivial ⟨rfl, rfl, rfl, rfl, trivial⟩ (by (repeat first | exact en_refl | (apply en_blk; focus ((repeat' first | exact Pick.here | apply Pick.skip | apply Pick.app); done); focus rfl) | (apply en_own; focus ((repeat' first | exact Pick.here | apply Pick.skip | apply Pick.app); done); focus rfl) | (apply en_pick; focus ((repeat' first | exact Pick.here | apply Pick.skip | apply Pick.app); done)) | apply en_drop | apply en_app) <;> fail)
  · rintro ⟨⟩ _
    have sw := seg_win k many hm
    have sl := seg_len k 0 many
    have hC := SCount_ctr t 300 ⟨-300, 300, -300⟩ (seg k 0 many)
    have hD := SDepth_ctr t 300 (seg k 0 many)
    rw [sw] at hC
    rw [sl] at hC hD
    (repeat first | refine G_seq ?_ | refine G_skip ?_ | refine G_endblk ?_ | refine G_block ?_ | refine G_exit rfl ?_)
    refine G_region ?_
    refine GO_q rfl rfl (ev_move rfl) ?_
    refine GO_eff rfl rfl (eff_call rfl (Ctr.pick (by repeat' first | exact Pick.here | apply Pick.skip | apply Pick.app) (SCheck_ctr t 300 (seg k 0 many) _ (by omega) (by omega)))) ?_; rintro _ _ ⟨rfl, rfl⟩
    refine GO_q rfl rfl (ev_not rfl) ?_
    refine GO_q rfl rfl (ev_move rfl) ?_
    refine GO_yes rfl rfl rfl rfl ?_
    refine GO_q rfl rfl (ev_move rfl) ?_
    refine GO_yes rfl rfl rfl rfl ?_
    refine GO_q rfl rfl (ev_build rfl rfl) ?_
    refine GO_yes rfl rfl rfl rfl ?_
    refine GO_eff rfl rfl (eff_call rfl (Ctr.pick (by repeat' first | exact Pick.here | apply Pick.skip | apply Pick.app) (hC _ (by omega)))) ?_; rintro _ _ ⟨rfl, rfl⟩
    refine GO_yes rfl rfl rfl rfl ?_
    refine GO_q rfl rfl (ev_move rfl) ?_
    refine GO_yes rfl rfl rfl rfl ?_
    refine GO_q rfl rfl (ev_neq rfl rfl) ?_
    refine GO_q rfl rfl (ev_pick_f rfl rfl rfl) ?_
    refine GO_q rfl rfl (ev_move rfl) ?_
    refine GO_yes rfl rfl rfl (by simp) ?_
    refine GO_q rfl rfl (ev_move rfl) ?_
    refine GO_yes rfl rfl rfl (by simp) ?_
    refine GO_eff rfl rfl (eff_call rfl (Ctr.pick (by repeat' first | exact Pick.here | apply Pick.skip | apply Pick.app) (hD _ (by omega)))) ?_; rintro _ _ ⟨⟨d59, rfl, hd59⟩, rfl⟩
    refine GO_yes rfl rfl rfl (by simp) ?_
    refine GO_q rfl rfl (ev_move rfl) ?_
    refine GO_yes rfl rfl rfl (by simp) ?_
    refine GO_eff rfl rfl (eff_call rfl (RBound_ctr many _ (by omega))) ?_; rintro _ _ ⟨rfl, rfl⟩
    refine GO_yes rfl rfl rfl (by simp) ?_
    refine GO_q rfl rfl (ev_gtr rfl rfl) ?_
    refine GO_q rfl rfl (ev_pick_f rfl (by simp) rfl) ?_
    refine GO_nil ?_
    (repeat first | refine G_seq ?_ | refine G_skip ?_ | refine G_endblk ?_ | refine G_block ?_ | refine G_exit rfl ?_)
    refine G_cond_f rfl (decide_eq_false (by omega)) ?_
    (repeat first | refine G_seq ?_ | refine G_skip ?_ | refine G_endblk ?_ | refine G_block ?_ | refine G_exit rfl ?_)
    refine G_region ?_
    refine GO_q rfl rfl (ev_move rfl) ?_
    refine GO_q rfl rfl (ev_assign rfl) ?_
    refine GO_nil ?_
    (repeat first | refine G_seq ?_ | refine G_skip ?_ | refine G_endblk ?_)
    refine G_cut (ι := Unit) (fun _ => [(5, .pointer (some ⟨t, 0, none⟩))]) (fun _ => treeS t 300 [] :: F :: L) (fun _ => True) ?_ ?_
    · (repeat first | refine G_seq ?_ | refine G_skip ?_ | refine G_endblk ?_ | refine G_block ?_ | refine G_exit rfl ?_)
      refine G_loop (ι := Nat) (fun i => [(0, .int .u8 (n : Int)), (1, .int .u8 (kind : Int)), (5, .pointer (some ⟨t, 0, none⟩)), (7, .int .i64 (many : Int)), (10, .int .i64 (i : Nat))]) (fun i => treeS t 300 (seg k (lft r many i) i) :: F :: L) (fun i => i ≤ many) (fun i => i) many (Nat.le_refl _) ⟨rfl, rfl, rfl, rfl, rfl, trivial⟩ (by
        have e : lft r many many = 0 := by unfold lft; split <;> omega
        rw [e]
        exact (by (repeat first | exact en_refl | (apply en_blk; focus ((repeat' first | exact Pick.here | apply Pick.skip | apply Pick.app); done); focus rfl) | (apply en_own; focus ((repeat' first | exact Pick.here | apply Pick.skip | apply Pick.app); done); focus rfl) | (apply en_pick; focus ((repeat' first | exact Pick.here | apply Pick.skip | apply Pick.app); done)) | apply en_drop | apply en_app) <;> fail)) ?_
      intro i hi
      cases i with
      | zero =>
        (repeat first | refine G_seq ?_ | refine G_skip ?_ | refine G_endblk ?_ | refine G_block ?_ | refine G_exit rfl ?_)
        refine G_region ?_
        refine GO_q rfl rfl (ev_move rfl) ?_
        refine GO_q rfl rfl (ev_geq rfl rfl) ?_
        refine GO_nil ?_
        (repeat first | refine G_seq ?_ | refine G_skip ?_ | refine G_endblk ?_ | refine G_block ?_ | refine G_exit rfl ?_)
        refine G_cond_f rfl rfl ?_
        (repeat first | refine G_seq ?_ | refine G_skip ?_ | refine G_endblk ?_ | refine G_block ?_ | refine G_exit rfl ?_)
        exact G_inv () trivial ⟨rfl, trivial⟩ (by (repeat first | exact en_refl | (apply en_blk; focus ((repeat' first | exact Pick.here | apply Pick.skip | apply Pick.app); done); focus rfl) | (apply en_own; focus ((repeat' first | exact Pick.here | apply Pick.skip | apply Pick.app); done); focus rfl) | (apply en_pick; focus ((repeat' first | exact Pick.here | apply Pick.skip | apply Pick.app); done)) | apply en_drop | apply en_app) <;> fail)
      | succ i =>
        obtain ⟨d1, d2⟩ := lft_del r k many i hi
        have hPd := PDelete_ctr t 300 (seg k (lft r many (i + 1)) (i + 1)) (liP k (nxt r many (i + 1)))
        rw [d1] at hPd
        have sl2 := seg_len k (lft r many (i + 1)) (i + 1)
        have sl3 := List.length_erase_le (a := liP k (nxt r many (i + 1))) (l := seg k (lft r many (i + 1)) (i + 1))
        generalize hse : (seg k (lft r many (i + 1)) (i + 1)).erase (liP k (nxt r many (i + 1))) = se at *
        (repeat first | refine G_seq ?_ | refine G_skip ?_ | refine G_endblk ?_ | refine G_block ?_ | refine G_exit rfl ?_)
        refine G_region ?_
        refine GO_q rfl rfl (ev_move rfl) ?_
        refine GO_q rfl rfl (ev_geq rfl rfl) ?_
        refine GO_nil ?_
        (repeat first | refine G_seq ?_ | refine G_skip ?_ | refine G_endblk ?_ | refine G_block ?_ | refine G_exit rfl ?_)
        refine G_cond_t rfl (decide_eq_true (by omega)) ?_
        (repeat first | refine G_seq ?_ | refine G_skip ?_ | refine G_endblk ?_ | refine G_block ?_ | refine G_exit rfl ?_)
        refine G_region ?_
        refine GO_q rfl rfl (ev_move rfl) ?_
        refine GO_q rfl rfl (ev_assign rfl) ?_
        refine GO_nil ?_
        (repeat first | refine G_seq ?_ | refine G_skip ?_ | refine G_endblk ?_ | refine G_block ?_ | refine G_exit rfl ?_)
        refine G_region ?_
        refine GO_q rfl rfl (ev_move rfl) ?_
        refine GO_q rfl rfl (ev_geq rfl rfl) ?_
        refine GO_nil ?_
        (repeat first | refine G_seq ?_ | refine G_skip ?_ | refine G_endblk ?_)
        refine G_cut (ι := Unit) (fun _ => [(0, .int .u8 (n : Int)), (1, .int .u8 (kind : Int)), (5, .pointer (some ⟨t, 0, none⟩)), (7, .int .i64 (many : Int)), (10, .int .i64 ((i + 1 : Nat) : Int)), (11, .int .i64 ((nxt r many (i + 1) : Nat) : Int))]) (fun _ => treeS t 300 (seg k (lft r many (i + 1)) (i + 1)) :: F :: L) (fun _ => True) ?_ ?_
        · cases hrr : r with
          | true =>
            rw [hrr] at hr
            (repeat first | refine G_seq ?_ | refine G_skip ?_ | refine G_endblk ?_ | refine G_block ?_ | refine G_exit rfl ?_)
            refine G_cond_t rfl hr ?_
            (repeat first | refine G_seq ?_ | refine G_skip ?_ | refine G_endblk ?_ | refine G_block ?_ | refine G_exit rfl ?_)
            refine G_region ?_
            refine GO_q rfl rfl (ev_move rfl) ?_
            (first | refine GO_q rfl rfl (ev_addN (q := 1) rfl rfl (by first | omega | (simp; done) | (simp; omega))) ?_ | refine GO_q rfl rfl (ev_add rfl rfl (by first | omega | (simp; done) | (simp; omega))) ?_)
            refine GO_q rfl rfl (ev_move rfl) ?_
            refine GO_q rfl rfl (ev_subN rfl rfl (by omega)) ?_
            refine GO_q rfl rfl (ev_assign rfl) ?_
            refine GO_nil ?_
            (repeat first | refine G_seq ?_ | refine G_skip ?_ | refine G_endblk ?_ | refine G_block ?_ | refine G_exit rfl ?_)
            exact G_inv () trivial ⟨rfl, rfl, rfl, rfl, rfl, rfl, trivial⟩ (by (repeat first | exact en_refl | (apply en_blk; focus ((repeat' first | exact Pick.here | apply Pick.skip | apply Pick.app); done); focus rfl) | (apply en_own; focus ((repeat' first | exact Pick.here | apply Pick.skip | apply Pick.app); done); focus rfl) | (apply en_pick; focus ((repeat' first | exact Pick.here | apply Pick.skip | apply Pick.app); done)) | apply en_drop | apply en_app) <;> fail)
          | false =>
            rw [hrr] at hr
            (repeat first | refine G_seq ?_ | refine G_skip ?_ | refine G_endblk ?_ | refine G_block ?_ | refine G_exit rfl ?_)
            refine G_cond_f rfl hr ?_
            (repeat first | refine G_seq ?_ | refine G_skip ?_ | refine G_endblk ?_ | refine G_block ?_ | refine G_exit rfl ?_)
            exact G_inv () trivial ⟨rfl, rfl, rfl, rfl, rfl, rfl, trivial⟩ (by (repeat first | exact en_refl | (apply en_blk; focus ((repeat' first | exact Pick.here | apply Pick.skip | apply Pick.app); done); focus rfl) | (apply en_own; focus ((repeat' first | exact Pick.here | apply Pick.skip | apply Pick.app); done); focus rfl) | (apply en_pick; focus ((repeat' first | exact Pick.here | apply Pick.skip | apply Pick.app); done)) | apply en_drop | apply en_app) <;> fail)
        · rintro ⟨⟩ _
          have hnx : 1 ≤ nxt r many (i + 1) ∧ nxt r many (i + 1) ≤ 120 := by unfold nxt; split <;> omega
          generalize nxt r many (i + 1) = j at *
          by_cases h9 : ((i + 1 : Nat) : Int) % 9 = 0
          case' pos =>
            (repeat first | refine G_seq ?_ | refine G_skip ?_ | refine G_endblk ?_ | refine G_block ?_ | refine G_exit rfl ?_)
            refine G_region ?_
            refine GO_q rfl rfl (ev_move rfl) ?_
            refine GO_q rfl rfl (ev_move rfl) ?_
            refine GO_q rfl rfl (ev_move rfl) ?_
            refine GO_q rfl rfl (ev_move rfl) ?_
            refine GO_q rfl rfl (ev_move rfl) ?_
            refine GO_q rfl rfl (ev_neg rfl (by first | omega | (simp; done) | (simp; omega))) ?_
            refine GO_q rfl rfl (ev_move rfl) ?_
            refine GO_q rfl rfl (ev_mul rfl rfl (by first | omega | (simp; done) | (simp; omega))) ?_
            refine GO_q rfl rfl (ev_rem rfl rfl (by omega) (by omega)) ?_
            refine GO_q rfl rfl (ev_buildA rfl rfl) ?_
            refine GO_q rfl rfl (ev_move rfl) ?_
            refine GO_q rfl rfl (ev_remK (q := 4) rfl rfl (by decide)) ?_
            refine GO_q rfl rfl (ev_indexA (i := kind % 4) rfl rfl (by omega) (by rw [hkk]; exact liY_at k j hk4)) ?_
            refine GO_q rfl rfl (ev_build rfl rfl) ?_
            refine GO_eff rfl rfl (eff_call rfl (Ctr.pick (by repeat' first | exact Pick.here | apply Pick.skip | apply Pick.app) (hPd _ (by omega)))) ?_; rintro _ _ ⟨rfl, rfl⟩
            refine GO_q rfl rfl (ev_neq rfl rfl) ?_
            refine GO_q rfl rfl (ev_move rfl) ?_
            refine GO_yes rfl rfl rfl rfl ?_
            refine GO_q rfl rfl (ev_move rfl) ?_
            refine GO_yes rfl rfl rfl rfl ?_
            refine GO_q rfl rfl (ev_rem rfl rfl (by omega) (by omega)) ?_
            refine GO_yes rfl rfl rfl rfl ?_
            refine GO_q rfl rfl (ev_eql rfl rfl) ?_
            refine GO_yes rfl rfl rfl rfl ?_
            refine GO_q rfl rfl (ev_move rfl) ?_
            refine GO_yes rfl rfl rfl (decide_eq_true h9) ?_
            refine GO_q rfl rfl (ev_move rfl) ?_
            refine GO_yes rfl rfl rfl (decide_eq_true h9) ?_
            refine GO_eff rfl rfl (eff_call rfl (Ctr.pick (by repeat' first | exact Pick.here | apply Pick.skip | apply Pick.app) (SCheck_ctr t 300 se _ (by omega) (by omega)))) ?_; rintro _ _ ⟨rfl, rfl⟩
            refine GO_yes rfl rfl rfl (decide_eq_true h9) ?_
            refine GO_q rfl rfl (ev_not rfl) ?_
            refine GO_yes rfl rfl rfl rfl ?_
            refine GO_q rfl rfl (ev_pick_t rfl (decide_eq_true h9) rfl) ?_
            refine GO_q rfl rfl (ev_pick_f rfl rfl rfl) ?_
            refine GO_nil ?_
          case' neg =>
            (repeat first | refine G_seq ?_ | refine G_skip ?_ | refine G_endblk ?_ | refine G_block ?_ | refine G_exit rfl ?_)
            refine G_region ?_
            refine GO_q rfl rfl (ev_move rfl) ?_
            refine GO_q rfl rfl (ev_move rfl) ?_
            refine GO_q rfl rfl (ev_move rfl) ?_
            refine GO_q rfl rfl (ev_move rfl) ?_
            refine GO_q rfl rfl (ev_move rfl) ?_
            refine GO_q rfl rfl (ev_neg rfl (by first | omega | (simp; done) | (simp; omega))) ?_
            refine GO_q rfl rfl (ev_move rfl) ?_
            refine GO_q rfl rfl (ev_mul rfl rfl (by first | omega | (simp; done) | (simp; omega))) ?_
            refine GO_q rfl rfl (ev_rem rfl rfl (by omega) (by omega)) ?_
            refine GO_q rfl rfl (ev_buildA rfl rfl) ?_
            refine GO_q rfl rfl (ev_move rfl) ?_
            refine GO_q rfl rfl (ev_remK (q := 4) rfl rfl (by decide)) ?_
            refine GO_q rfl rfl (ev_indexA (i := kind % 4) rfl rfl (by omega) (by rw [hkk]; exact liY_at k j hk4)) ?_
            refine GO_q rfl rfl (ev_build rfl rfl) ?_
            refine GO_eff rfl rfl (eff_call rfl (Ctr.pick (by repeat' first | exact Pick.here | apply Pick.skip | apply Pick.app) (hPd _ (by omega)))) ?_; rintro _ _ ⟨rfl, rfl⟩
            refine GO_q rfl rfl (ev_neq rfl rfl) ?_
            refine GO_q rfl rfl (ev_move rfl) ?_
            refine GO_yes rfl rfl rfl rfl ?_
            refine GO_q rfl rfl (ev_move rfl) ?_
            refine GO_yes rfl rfl rfl rfl ?_
            refine GO_q rfl rfl (ev_rem rfl rfl (by omega) (by omega)) ?_
            refine GO_yes rfl rfl rfl rfl ?_
            refine GO_q rfl rfl (ev_eql rfl rfl) ?_
            refine GO_yes rfl rfl rfl rfl ?_
            refine GO_q rfl rfl (ev_move rfl) ?_
            refine GO_no rfl rfl rfl (decide_eq_false h9) ?_
            refine GO_no rfl rfl rfl (decide_eq_false h9) ?_
            refine GO_no rfl rfl rfl (decide_eq_false h9) ?_
            refine GO_yes rfl rfl rfl rfl ?_
            refine GO_q rfl rfl (ev_pick_f rfl (decide_eq_false h9) rfl) ?_
            refine GO_q rfl rfl (ev_pick_f rfl rfl rfl) ?_
            refine GO_nil ?_
          all_goals
            (repeat first | refine G_seq ?_ | refine G_skip ?_ | refine G_endblk ?_ | refine G_block ?_ | refine G_exit rfl ?_)
            refine G_cond_f rfl rfl ?_
            (repeat first | refine G_seq ?_ | refine G_skip ?_ | refine G_endblk ?_ | refine G_block ?_ | refine G_exit rfl ?_)
            refine G_region ?_
            refine GO_q rfl rfl (ev_move rfl) ?_
            (first | refine GO_q rfl rfl (ev_subN (q := 1) rfl rfl (by first | omega | (simp; done) | (simp; omega))) ?_ | refine GO_q rfl rfl (ev_sub rfl rfl (by first | omega | (simp; done) | (simp; omega))) ?_)
            refine GO_q rfl rfl (ev_assign rfl) ?_
            refine GO_nil ?_
            (repeat first | refine G_seq ?_ | refine G_skip ?_ | refine G_endblk ?_ | refine G_block ?_ | refine G_exit rfl ?_)
            refine G_round i (by omega) (by omega) ⟨rfl, rfl, rfl, rfl, rfl, trivial⟩ ?_
            exact treeS_perm d2 (by (repeat first | exact en_refl | (apply en_blk; focus ((repeat' first | exact Pick.here | apply Pick.skip | apply Pick.app); done); focus rfl) | (apply en_own; focus ((repeat' first | exact Pick.here | apply Pick.skip | apply Pick.app); done); focus rfl) | (apply en_pick; focus ((repeat' first | exact Pick.here | apply Pick.skip | apply Pick.app); done)) | apply en_drop | apply en_app) <;> fail)
    · rintro ⟨⟩ _
      (repeat first | refine G_seq ?_ | refine G_skip ?_ | refine G_endblk ?_ | refine G_block ?_ | refine G_exit rfl ?_)
      refine G_region ?_
      refine GO_q rfl rfl (ev_move rfl) ?_
      refine GO_eff rfl rfl (eff_call rfl (Ctr.pick (by repeat' first | exact Pick.here | apply Pick.skip | apply Pick.app) (SLen_ctr t 300 [] _))) ?_; rintro _ _ ⟨rfl, rfl⟩
      refine GO_q rfl rfl (ev_eql rfl rfl) ?_
      refine GO_q rfl rfl (ev_move rfl) ?_
      refine GO_yes rfl rfl rfl rfl ?_
      refine GO_q rfl rfl (ev_move rfl) ?_
      refine GO_yes rfl rfl rfl rfl ?_
      refine GO_eff rfl rfl (eff_call rfl (Ctr.pick (by repeat' first | exact Pick.here | apply Pick.skip | apply Pick.app) (SCheck_ctr t 300 [] _ (by decide) (by decide)))) ?_; rintro _ _ ⟨rfl, rfl⟩
      refine GO_q rfl rfl (ev_pick_t rfl rfl rfl) ?_
      refine GO_q rfl rfl (ev_move rfl) ?_
      refine GO_yes rfl rfl rfl rfl ?_
      refine GO_eff rfl rfl (eff_call rfl (lives_ctr _)) ?_; rintro _ _ ⟨rfl, X, rfl⟩
      refine GO_q rfl rfl (ev_pick_t rfl rfl rfl) ?_
      refine GO_q rfl rfl (ev_assign rfl) ?_
      refine GO_nil ?_
      (repeat first | refine G_seq ?_ | refine G_skip ?_ | refine G_endblk ?_ | refine G_block ?_ | refine G_exit rfl ?_)
      exact G_ret (L' := L) rfl (.tmp rfl .nil) (by (repeat first | exact fun _ s => s | apply en_keep | apply en_drop | apply en_app) <;> fail) ⟨rfl, rfl⟩
theorem pstLine_walk (n k : Int) (hn : (Lit.int .u8 n).wf = true) (hk : (Lit.int .u8 k).wf = true) (w : World) :
    Calls Try.prog 5 #[.int .u8 n, .int .u8 k] w fun e w' => e = .returned (.bool true) ∧ Below w.heap.size w w' := by
  obtain ⟨n, rfl, h1⟩ := bounds_u8 hn
  obtain ⟨k, rfl, h2⟩ := bounds_u8 hk
  exact law_of_ctr (PstLine_ctr n k h1 h2 _)
end Go.Proofs.Ytalcanejhniepaa
