/- The law BoxChecks' walk, and what all laws of layer 4 end in. -/
import Derived.Test.YtlkhnhahepehkaaBox2
namespace Go.Proofs.Ytlkhnhahepehkaa
open Go.RowKit
set_option linter.unusedSimpArgs false
set_option linter.unusedVariables false
attribute [local go_sem ↓] run_maxI run_minI

set_option maxHeartbeats 1000000 in
theorem lives4_any (w : World) : Calls Try.prog 28 #[] w fun e w' => e = .returned (.bool true) ∧ Keep noBlk w w' := by
  have m1 : Value.tuple #[.agg #[.int .i64 (maxI 0 2), .int .i64 (minI 4 6), .int .i64 (maxI 0 4), .int .i64 (minI 4 9)], .bool true] = .tuple #[.agg #[.int .i64 2, .int .i64 4, .int .i64 4, .int .i64 4], .bool true] := rfl
  have M1 := Lib.hid m1
  have j1 : judge 1 0 0 0 = 3 := by decide
  have J1 := Lib.hid j1
  clear m1 j1
  go_enter Try.func28, Try.ntmps28
  go_wp2_with fail
  refine (meet_yes 0 4 0 4 2 6 4 9 _ (by decide) (by decide) (by decide)).mono ?_; rintro e w1 ⟨rfl, hk1⟩
  obtain ⟨ka1, kb1, kc1⟩ := hk1.rules
  have HK1 := Lib.hid hk1
  clear hk1
  try simp only [World.size_alloc, World.size_setCell, World.size_drew] at ka1 kb1 kc1
  try have ke1_1 := Nat.lt_of_succ_le kc1
  try have ke1_2 := Nat.lt_of_succ_lt ke1_1
  try have ke1_3 := Nat.lt_of_succ_lt ke1_2
  try have ke1_4 := Nat.lt_of_succ_lt ke1_3
  try have ke1_5 := Nat.lt_of_succ_lt ke1_4
  rw [M1.out]
  go_wp2_with fail
  refine (check_any _ _ _ _ _).mono ?_; rintro e w2 ⟨rfl, hk2⟩
  obtain ⟨ka2, kb2, kc2⟩ := hk2.rules
  obtain ⟨ka2_1, kb2_1⟩ := hk2.rule_at (Nat.le_trans kc1 (by (try simp only [World.size_alloc, World.size_setCell, World.size_drew]) <;> omega))
  have kc2_1 := Nat.le_trans kc1 (Nat.le_trans (by (try simp only [World.size_alloc, World.size_setCell, World.size_drew]) <;> omega) hk2.size)
  have HK2 := Lib.hid hk2
  clear hk2
  try simp only [World.size_alloc, World.size_setCell, World.size_drew] at ka2 kb2 kc2
  try have ke2_1 := Nat.lt_of_succ_le kc2
  try have ke2_2 := Nat.lt_of_succ_lt ke2_1
  try have ke2_3 := Nat.lt_of_succ_lt ke2_2
  try have ke2_4 := Nat.lt_of_succ_lt ke2_3
  try have ke2_5 := Nat.lt_of_succ_lt ke2_4
  try have ke2_1_1 := Nat.lt_of_succ_le kc2_1
  try have ke2_1_2 := Nat.lt_of_succ_lt ke2_1_1
  try have ke2_1_3 := Nat.lt_of_succ_lt ke2_1_2
  try have ke2_1_4 := Nat.lt_of_succ_lt ke2_1_3
  try have ke2_1_5 := Nat.lt_of_succ_lt ke2_1_4
  rw [J1.out]
  go_wp2_with fail
  go_ret
  refine ⟨rfl, ?_⟩
  (repeat (first | exact Keep.refl _ _ | (with_reducible refine Keep.trans ?_ HK1.out) | (with_reducible refine Keep.trans ?_ HK2.out) | (with_reducible refine Keep.setCell ?_ (by simp <;> omega) _) | (with_reducible refine Keep.alloc ?_ _) | (with_reducible refine Keep.drew ?_) | (with_reducible refine Keep.drewN ?_ _)))

theorem rwin_is (x1 x2 y j : Int) (h : Hid (judge x1 x2 y 1099511627776 = j)) (w : World) :
    Calls Try.prog 39 #[.agg #[.int .i64 x1, .int .i64 x2, .int .i64 y]] w fun e w' => e = .returned (.int .i64 j) ∧ Keep noBlk w w' := by
  rw [← h.out]; exact rwin_any x1 x2 y w

set_option maxHeartbeats 4000000 in
theorem boxChecks_yes (x1 x2 y1 y2 u1 u2 v i x y : Int) (w : World) (h : judge u1 u2 v 1099511627776 = 0) :
    Calls Try.prog 10 #[.agg #[.int .i64 x1, .int .i64 x2, .int .i64 y1, .int .i64 y2], .agg #[.int .i64 u1, .int .i64 u2, .int .i64 v], .agg #[.int .i64 i, .int .i64 x, .int .i64 y]] w fun e w' => e = .returned (.bool true) ∧ Below w.heap.size w w' := by
  have H := Lib.hid h
  clear h
  go_enter Try.func10, Try.ntmps10
  go_wp2_with fail
  refine (open_yes u1 u2 v _ H.out).mono ?_; rintro e w1 ⟨rfl, hk1⟩
  obtain ⟨ka1, kb1, kc1⟩ := hk1.rules
  have HK1 := Lib.hid hk1
  clear hk1
  try simp only [World.size_alloc, World.size_setCell, World.size_drew] at ka1 kb1 kc1
  try have ke1_1 := Nat.lt_of_succ_le kc1
  try have ke1_2 := Nat.lt_of_succ_lt ke1_1
  try have ke1_3 := Nat.lt_of_succ_lt ke1_2
  try have ke1_4 := Nat.lt_of_succ_lt ke1_3
  try have ke1_5 := Nat.lt_of_succ_lt ke1_4
  go_wp2_with fail
  refine (all_any _).mono ?_; rintro e w2 ⟨rfl, hk2⟩
  obtain ⟨ka2, kb2, kc2⟩ := hk2.rules
  obtain ⟨ka2_1, kb2_1⟩ := hk2.rule_at (Nat.le_trans kc1 (by (try simp only [World.size_alloc, World.size_setCell, World.size_drew]) <;> omega))
  have kc2_1 := Nat.le_trans kc1 (Nat.le_trans (by (try simp only [World.size_alloc, World.size_setCell, World.size_drew]) <;> omega) hk2.size)
  have HK2 := Lib.hid hk2
  clear hk2
  try simp only [World.size_alloc, World.size_setCell, World.size_drew] at ka2 kb2 kc2
  try have ke2_1 := Nat.lt_of_succ_le kc2
  try have ke2_2 := Nat.lt_of_succ_lt ke2_1
  try have ke2_3 := Nat.lt_of_succ_lt ke2_2
  try have ke2_4 := Nat.lt_of_succ_lt ke2_3
  try have ke2_5 := Nat.lt_of_succ_lt ke2_4
  try have ke2_1_1 := Nat.lt_of_succ_le kc2_1
  try have ke2_1_2 := Nat.lt_of_succ_lt ke2_1_1
  try have ke2_1_3 := Nat.lt_of_succ_lt ke2_1_2
  try have ke2_1_4 := Nat.lt_of_succ_lt ke2_1_3
  try have ke2_1_5 := Nat.lt_of_succ_lt ke2_1_4
  go_wp2_with fail
  refine wp_region_keep (by kernel_rfl) (by kernel_rfl) (fun T3 hT3 WW3 hg3 HC3 => ?_)
  obtain ⟨ra3, rb3, rc3⟩ := keep_rules_at hg3 (Nat.le_refl _)
  obtain ⟨ra3_1, rb3_1, rc3_1⟩ := keep_rules_at hg3 (Nat.le_trans kc1 (by (try simp only [World.size_alloc, World.size_setCell, World.size_drew]) <;> omega))
  obtain ⟨ra3_2, rb3_2, rc3_2⟩ := keep_rules_at hg3 (Nat.le_trans kc2 (by (try simp only [World.size_alloc, World.size_setCell, World.size_drew]) <;> omega))
  have HG3 := Lib.hid hg3
  clear hg3
  try simp only [World.size_alloc, World.size_setCell, World.size_drew] at ra3 rb3 rc3
  repeat (go_big_quiet_step (first | (go_at_call 34; with_reducible apply keep_call HC3 HG3 (check_any _ _ _ _ _)) | (go_at_call 35; with_reducible apply keep_call HC3 HG3 (rcheck_any _ _ _ _ _)) | (go_at_call 36; with_reducible apply keep_call HC3 HG3 (has_any _ _ _ _ _ _ _ _)) | (go_at_call 26; with_reducible apply keep_call HC3 HG3 (rhas_any _ _ _ _ _ _ _)) | (go_at_call 37; with_reducible apply keep_call HC3 HG3 (sees_any _ _ _ _ _ _ _)) | (go_at_call 38; with_reducible apply keep_call HC3 HG3 (rsees_any _ _ _ _ _ _)) | (go_at_call 39; with_reducible apply keep_call HC3 HG3 (rwin_is _ _ _ _ H _)) | (go_at_call 28; with_reducible apply keep_call HC3 HG3 (lives4_any _))))
  refine wpQuiet_nil ?_
  intro w3 hw3
  obtain ⟨x3, rfl⟩ := hw3
  have HK3 := Lib.hid (HG3.out x3)
  have kc3 := rc3 x3
  go_wp2_with fail
  go_ret
  refine ⟨rfl, Keep.below ?_⟩
  (repeat (first | exact Keep.refl _ _ | (with_reducible refine Keep.trans ?_ HK1.out) | (with_reducible refine Keep.trans ?_ HK2.out) | (with_reducible refine Keep.trans ?_ HK3.out) | (with_reducible refine Keep.setCell ?_ (by simp <;> omega) _) | (with_reducible refine Keep.alloc ?_ _) | (with_reducible refine Keep.drew ?_) | (with_reducible refine Keep.drewN ?_ _)))

set_option maxHeartbeats 4000000 in
theorem boxChecks_no (x1 x2 y1 y2 u1 u2 v i x y j : Int) (w : World) (h : judge u1 u2 v 1099511627776 = j) (hj : (j == 0) = false) :
    Calls Try.prog 10 #[.agg #[.int .i64 x1, .int .i64 x2, .int .i64 y1, .int .i64 y2], .agg #[.int .i64 u1, .int .i64 u2, .int .i64 v], .agg #[.int .i64 i, .int .i64 x, .int .i64 y]] w fun e w' => e = .returned (.bool true) ∧ Below w.heap.size w w' := by
  have H := Lib.hid h
  clear h
  go_enter Try.func10, Try.ntmps10
  go_wp2_with fail
  refine (open_no u1 u2 v j _ H.out hj).mono ?_; rintro e w1 ⟨rfl, hk1⟩
  obtain ⟨ka1, kb1, kc1⟩ := hk1.rules
  have HK1 := Lib.hid hk1
  clear hk1
  try simp only [World.size_alloc, World.size_setCell, World.size_drew] at ka1 kb1 kc1
  try have ke1_1 := Nat.lt_of_succ_le kc1
  try have ke1_2 := Nat.lt_of_succ_lt ke1_1
  try have ke1_3 := Nat.lt_of_succ_lt ke1_2
  try have ke1_4 := Nat.lt_of_succ_lt ke1_3
  try have ke1_5 := Nat.lt_of_succ_lt ke1_4
  go_wp2_with fail
  refine (all_any _).mono ?_; rintro e w2 ⟨rfl, hk2⟩
  obtain ⟨ka2, kb2, kc2⟩ := hk2.rules
  obtain ⟨ka2_1, kb2_1⟩ := hk2.rule_at (Nat.le_trans kc1 (by (try simp only [World.size_alloc, World.size_setCell, World.size_drew]) <;> omega))
  have kc2_1 := Nat.le_trans kc1 (Nat.le_trans (by (try simp only [World.size_alloc, World.size_setCell, World.size_drew]) <;> omega) hk2.size)
  have HK2 := Lib.hid hk2
  clear hk2
  try simp only [World.size_alloc, World.size_setCell, World.size_drew] at ka2 kb2 kc2
  try have ke2_1 := Nat.lt_of_succ_le kc2
  try have ke2_2 := Nat.lt_of_succ_lt ke2_1
  try have ke2_3 := Nat.lt_of_succ_lt ke2_2
  try have ke2_4 := Nat.lt_of_succ_lt ke2_3
  try have ke2_5 := Nat.lt_of_succ_lt ke2_4
  try have ke2_1_1 := Nat.lt_of_succ_le kc2_1
  try have ke2_1_2 := Nat.lt_of_succ_lt ke2_1_1
  try have ke2_1_3 := Nat.lt_of_succ_lt ke2_1_2
  try have ke2_1_4 := Nat.lt_of_succ_lt ke2_1_3
  try have ke2_1_5 := Nat.lt_of_succ_lt ke2_1_4
  go_wp2_with fail
  refine wp_region_keep (by kernel_rfl) (by kernel_rfl) (fun T3 hT3 WW3 hg3 HC3 => ?_)
  obtain ⟨ra3, rb3, rc3⟩ := keep_rules_at hg3 (Nat.le_refl _)
  obtain ⟨ra3_1, rb3_1, rc3_1⟩ := keep_rules_at hg3 (Nat.le_trans kc1 (by (try simp only [World.size_alloc, World.size_setCell, World.size_drew]) <;> omega))
  obtain ⟨ra3_2, rb3_2, rc3_2⟩ := keep_rules_at hg3 (Nat.le_trans kc2 (by (try simp only [World.size_alloc, World.size_setCell, World.size_drew]) <;> omega))
  have HG3 := Lib.hid hg3
  clear hg3
  try simp only [World.size_alloc, World.size_setCell, World.size_drew] at ra3 rb3 rc3
  repeat (go_big_quiet_step (first | (go_at_call 34; with_reducible apply keep_call HC3 HG3 (check_any _ _ _ _ _)) | (go_at_call 35; with_reducible apply keep_call HC3 HG3 (rcheck_any _ _ _ _ _)) | (go_at_call 36; with_reducible apply keep_call HC3 HG3 (has_any _ _ _ _ _ _ _ _)) | (go_at_call 26; with_reducible apply keep_call HC3 HG3 (rhas_any _ _ _ _ _ _ _)) | (go_at_call 37; with_reducible apply keep_call HC3 HG3 (sees_any _ _ _ _ _ _ _)) | (go_at_call 38; with_reducible apply keep_call HC3 HG3 (rsees_any _ _ _ _ _ _)) | (go_at_call 39; with_reducible apply keep_call HC3 HG3 (rwin_is _ _ _ _ H _)) | (go_at_call 28; with_reducible apply keep_call HC3 HG3 (lives4_any _))))
  refine wpQuiet_nil ?_
  intro w3 hw3
  obtain ⟨x3, rfl⟩ := hw3
  have HK3 := Lib.hid (HG3.out x3)
  have kc3 := rc3 x3
  go_wp2_with fail
  go_ret
  refine ⟨rfl, Keep.below ?_⟩
  (repeat (first | exact Keep.refl _ _ | (with_reducible refine Keep.trans ?_ HK1.out) | (with_reducible refine Keep.trans ?_ HK2.out) | (with_reducible refine Keep.trans ?_ HK3.out) | (with_reducible refine Keep.setCell ?_ (by simp <;> omega) _) | (with_reducible refine Keep.alloc ?_ _) | (with_reducible refine Keep.drew ?_) | (with_reducible refine Keep.drewN ?_ _)))

theorem boxChecks_walk (x1 x2 y1 y2 u1 u2 v i x y : Int) (w : World) :
    Calls Try.prog 10 #[.agg #[.int .i64 x1, .int .i64 x2, .int .i64 y1, .int .i64 y2], .agg #[.int .i64 u1, .int .i64 u2, .int .i64 v], .agg #[.int .i64 i, .int .i64 x, .int .i64 y]] w fun e w' => e = .returned (.bool true) ∧ Below w.heap.size w w' := by
  by_cases h : judge u1 u2 v 1099511627776 = 0
  · exact boxChecks_yes x1 x2 y1 y2 u1 u2 v i x y w h
  · exact boxChecks_no x1 x2 y1 y2 u1 u2 v i x y _ w rfl (by simpa using h)
end Go.Proofs.Ytlkhnhahepehkaa
