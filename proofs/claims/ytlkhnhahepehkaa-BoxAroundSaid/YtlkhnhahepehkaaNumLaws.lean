/- The walks of the laws of layer 1 (num): each returns true, whatever the input. -/
import Derived.Test.YtlkhnhahepehkaaNum
namespace Go.Proofs.Ytlkhnhahepehkaa
open Go.RowKit

theorem sign_is (a s : Int) (h : Hid (signOf a = s)) (w : World) : Calls Try.prog 19 #[.int .i64 a] w fun e w' => e = .returned (.int .i64 s) ∧ w = w' := by
  rw [← h.out]; exact sign_any a w
theorem good_is (a : Int) (g : Bool) (h : Hid (decide (-1099511627776 ≤ a ∧ a ≤ 1099511627776) = g)) (w : World) : Calls Try.prog 20 #[.int .i64 a] w fun e w' => e = .returned (.bool g) ∧ w = w' := by
  rw [← h.out]; exact good_any a w
set_option maxHeartbeats 400000 in
theorem lives1_any (w : World) : Calls Try.prog 16 #[] w fun e w' => e = .returned (.bool true) ∧ w = w' := by
  have e1 : resV (2 + 3) = .tuple #[.int .i64 5, .bool true] := by rw [resV_yes (by omega)]; rfl
  have H1 := Lib.hid e1
  clear e1
  go_enter Try.func16, Try.ntmps16
  go_wp2_with fail
  refine (add_any 2 3 (by omega) (by omega) _).mono ?_; rintro e w' ⟨rfl, rfl⟩
  rw [H1.out]
  go_wp2_with fail
  refine (mid_any (-3) 0 (by omega) (by omega) _).mono ?_; rintro e w' ⟨rfl, rfl⟩
  go_wp2_with fail
  refine (good_any 7 _).mono ?_; rintro e w' ⟨rfl, rfl⟩
  go_wp2_with fail
  go_ret
  exact ⟨rfl, rfl⟩

set_option maxHeartbeats 400000 in
theorem numSums_walk (a b : Int) (ha : -9223372036854775808 ≤ a ∧ a ≤ 9223372036854775807) (hb : -9223372036854775808 ≤ b ∧ b ≤ 9223372036854775807) (w : World) :
    Calls Try.prog 3 #[.int .i64 a, .int .i64 b] w fun e w' => e = .returned (.bool true) ∧ w = w' := by
  go_enter Try.func3, Try.ntmps3
  go_wp2_with fail
  refine (add_any a b ha hb _).mono ?_; rintro e w' ⟨rfl, rfl⟩; unfold resV
  go_wp2_with fail
  refine (refadd_any a b ha hb _).mono ?_; rintro e w' ⟨rfl, rfl⟩; unfold resV
  go_wp2_with fail
  refine (sub_any a b ha hb _).mono ?_; rintro e w' ⟨rfl, rfl⟩; unfold resV
  go_wp2_with fail
  refine (refsub_any a b ha hb _).mono ?_; rintro e w' ⟨rfl, rfl⟩; unfold resV
  go_wp2_with fail
  refine (lives1_any _).mono ?_; rintro e w' ⟨rfl, rfl⟩
  go_wp2_with fail
  go_ret
  exact ⟨rfl, rfl⟩

set_option maxHeartbeats 400000 in
theorem numProducts_walk (a b : Int) (ha : -9223372036854775808 ≤ a ∧ a ≤ 9223372036854775807) (hb : -9223372036854775808 ≤ b ∧ b ≤ 9223372036854775807) (w : World) :
    Calls Try.prog 7 #[.int .i64 a, .int .i64 b] w fun e w' => e = .returned (.bool true) ∧ w = w' := by
  go_enter Try.func7, Try.ntmps7
  go_wp2_with fail
  refine (mul_any a b ha hb _).mono ?_; rintro e w' ⟨rfl, rfl⟩; unfold resV
  go_wp2_with fail
  refine (refmul_any a b ha hb _).mono ?_; rintro e w' ⟨rfl, rfl⟩; unfold resV
  go_wp2_with fail
  refine (neg_any a ha _).mono ?_; rintro e w' ⟨rfl, rfl⟩; unfold resV
  go_wp2_with fail
  refine (refsub_any 0 a (by omega) ha _).mono ?_; rintro e w' ⟨rfl, rfl⟩; unfold resV
  go_wp2_with fail
  refine (lives1_any _).mono ?_; rintro e w' ⟨rfl, rfl⟩
  go_wp2_with fail
  go_ret
  exact ⟨rfl, rfl⟩

set_option maxHeartbeats 8000000 in
theorem numMiddles_walk (a b : Int) (ha : -9223372036854775808 ≤ a ∧ a ≤ 9223372036854775807) (hb : -9223372036854775808 ≤ b ∧ b ≤ 9223372036854775807) (w : World) :
    Calls Try.prog 5 #[.int .i64 a, .int .i64 b] w fun e w' => e = .returned (.bool true) ∧ w = w' := by
  obtain ⟨m, hm⟩ : ∃ m : Int, m = (a + b) / 2 := ⟨_, rfl⟩
  have hm2 : (b + a) / 2 = m := by rw [hm, Int.add_comm]
  have m1 : m < a → b ≤ m := by omega
  have m2 : a < m → m ≤ b := by omega
  have Hm := Lib.hid hm
  have Hm2 := Lib.hid hm2
  clear hm hm2
  by_cases c1 : m < a
  all_goals by_cases c2 : a < m
  all_goals try (exfalso; omega)
  all_goals
    rcases (by omega : a < -1099511627776 ∨ (-1099511627776 ≤ a ∧ a < 0) ∨ a = 0 ∨ (0 < a ∧ a ≤ 1099511627776) ∨ 1099511627776 < a) with d | ⟨d, d2⟩ | d | ⟨d, d2⟩ | d
    · obtain ⟨s, es, Hs⟩ : ∃ s : Int, s = -1 ∧ Hid (signOf a = s) := ⟨_, rfl, by simp [signOf, Hid]; omega⟩
      obtain ⟨g, eg, Hg⟩ : ∃ g : Bool, g = false ∧ Hid (decide (-1099511627776 ≤ a ∧ a ≤ 1099511627776) = g) := ⟨_, rfl, by simp [Hid]; omega⟩
      subst es eg
      go_enter Try.func5, Try.ntmps5
      go_wp2_with fail
      refine (mid_any a b ha hb _).mono ?_; rintro e w' ⟨rfl, rfl⟩; rw [← Hm.out]
      go_wp2_with fail
      refine (refmid_any a b ha hb _).mono ?_; rintro e w' ⟨rfl, rfl⟩; rw [← Hm.out]
      go_wp2_with fail
      refine (mid_any b a hb ha _).mono ?_; rintro e w' ⟨rfl, rfl⟩; rw [Hm2.out]
      go_wp2_with fail
      refine (sign_is _ _ Hs _).mono ?_; rintro e w' ⟨rfl, rfl⟩
      go_wp2_with fail
      refine (good_is _ _ Hg _).mono ?_; rintro e w' ⟨rfl, rfl⟩
      go_wp2_with fail
      refine (lives1_any _).mono ?_; rintro e w' ⟨rfl, rfl⟩
      go_wp2_with fail
      go_ret
      exact ⟨ret_bool (by first | rfl | (simp; omega)), rfl⟩
    · obtain ⟨s, es, Hs⟩ : ∃ s : Int, s = -1 ∧ Hid (signOf a = s) := ⟨_, rfl, by simp [signOf, Hid]; omega⟩
      obtain ⟨g, eg, Hg⟩ : ∃ g : Bool, g = true ∧ Hid (decide (-1099511627776 ≤ a ∧ a ≤ 1099511627776) = g) := ⟨_, rfl, by simp [Hid]; omega⟩
      subst es eg
      go_enter Try.func5, Try.ntmps5
      go_wp2_with fail
      refine (mid_any a b ha hb _).mono ?_; rintro e w' ⟨rfl, rfl⟩; rw [← Hm.out]
      go_wp2_with fail
      refine (refmid_any a b ha hb _).mono ?_; rintro e w' ⟨rfl, rfl⟩; rw [← Hm.out]
      go_wp2_with fail
      refine (mid_any b a hb ha _).mono ?_; rintro e w' ⟨rfl, rfl⟩; rw [Hm2.out]
      go_wp2_with fail
      refine (sign_is _ _ Hs _).mono ?_; rintro e w' ⟨rfl, rfl⟩
      go_wp2_with fail
      refine (good_is _ _ Hg _).mono ?_; rintro e w' ⟨rfl, rfl⟩
      go_wp2_with fail
      refine (lives1_any _).mono ?_; rintro e w' ⟨rfl, rfl⟩
      go_wp2_with fail
      go_ret
      exact ⟨ret_bool (by first | rfl | (simp; omega)), rfl⟩
    · subst d
      obtain ⟨s, es, Hs⟩ : ∃ s : Int, s = 0 ∧ Hid (signOf 0 = s) := ⟨_, rfl, rfl⟩
      obtain ⟨g, eg, Hg⟩ : ∃ g : Bool, g = true ∧ Hid (decide ((-1099511627776 : Int) ≤ 0 ∧ (0 : Int) ≤ 1099511627776) = g) := ⟨_, rfl, by simp [Hid]⟩
      subst es eg
      go_enter Try.func5, Try.ntmps5
      go_wp2_with fail
      refine (mid_any 0 b ha hb _).mono ?_; rintro e w' ⟨rfl, rfl⟩; rw [← Hm.out]
      go_wp2_with fail
      refine (refmid_any 0 b ha hb _).mono ?_; rintro e w' ⟨rfl, rfl⟩; rw [← Hm.out]
      go_wp2_with fail
      refine (mid_any b 0 hb ha _).mono ?_; rintro e w' ⟨rfl, rfl⟩; rw [Hm2.out]
      go_wp2_with fail
      refine (sign_is _ _ Hs _).mono ?_; rintro e w' ⟨rfl, rfl⟩
      go_wp2_with fail
      refine (good_is _ _ Hg _).mono ?_; rintro e w' ⟨rfl, rfl⟩
      go_wp2_with fail
      refine (lives1_any _).mono ?_; rintro e w' ⟨rfl, rfl⟩
      go_wp2_with fail
      go_ret
      exact ⟨ret_bool (by first | rfl | (simp; omega)), rfl⟩
    · obtain ⟨s, es, Hs⟩ : ∃ s : Int, s = 1 ∧ Hid (signOf a = s) := ⟨_, rfl, by simp [signOf, Hid]; omega⟩
      obtain ⟨g, eg, Hg⟩ : ∃ g : Bool, g = true ∧ Hid (decide (-1099511627776 ≤ a ∧ a ≤ 1099511627776) = g) := ⟨_, rfl, by simp [Hid]; omega⟩
      subst es eg
      go_enter Try.func5, Try.ntmps5
      go_wp2_with fail
      refine (mid_any a b ha hb _).mono ?_; rintro e w' ⟨rfl, rfl⟩; rw [← Hm.out]
      go_wp2_with fail
      refine (refmid_any a b ha hb _).mono ?_; rintro e w' ⟨rfl, rfl⟩; rw [← Hm.out]
      go_wp2_with fail
      refine (mid_any b a hb ha _).mono ?_; rintro e w' ⟨rfl, rfl⟩; rw [Hm2.out]
      go_wp2_with fail
      refine (sign_is _ _ Hs _).mono ?_; rintro e w' ⟨rfl, rfl⟩
      go_wp2_with fail
      refine (good_is _ _ Hg _).mono ?_; rintro e w' ⟨rfl, rfl⟩
      go_wp2_with fail
      refine (lives1_any _).mono ?_; rintro e w' ⟨rfl, rfl⟩
      go_wp2_with fail
      go_ret
      exact ⟨ret_bool (by first | rfl | (simp; omega)), rfl⟩
    · obtain ⟨s, es, Hs⟩ : ∃ s : Int, s = 1 ∧ Hid (signOf a = s) := ⟨_, rfl, by simp [signOf, Hid]; omega⟩
      obtain ⟨g, eg, Hg⟩ : ∃ g : Bool, g = false ∧ Hid (decide (-1099511627776 ≤ a ∧ a ≤ 1099511627776) = g) := ⟨_, rfl, by simp [Hid]; omega⟩
      subst es eg
      go_enter Try.func5, Try.ntmps5
      go_wp2_with fail
      refine (mid_any a b ha hb _).mono ?_; rintro e w' ⟨rfl, rfl⟩; rw [← Hm.out]
      go_wp2_with fail
      refine (refmid_any a b ha hb _).mono ?_; rintro e w' ⟨rfl, rfl⟩; rw [← Hm.out]
      go_wp2_with fail
      refine (mid_any b a hb ha _).mono ?_; rintro e w' ⟨rfl, rfl⟩; rw [Hm2.out]
      go_wp2_with fail
      refine (sign_is _ _ Hs _).mono ?_; rintro e w' ⟨rfl, rfl⟩
      go_wp2_with fail
      refine (good_is _ _ Hg _).mono ?_; rintro e w' ⟨rfl, rfl⟩
      go_wp2_with fail
      refine (lives1_any _).mono ?_; rintro e w' ⟨rfl, rfl⟩
      go_wp2_with fail
      go_ret
      exact ⟨ret_bool (by first | rfl | (simp; omega)), rfl⟩

set_option maxHeartbeats 400000 in
theorem numBack_walk (a b : Int) (ha : -9223372036854775808 ≤ a ∧ a ≤ 9223372036854775807) (hb : -9223372036854775808 ≤ b ∧ b ≤ 9223372036854775807) (w : World) :
    Calls Try.prog 4 #[.int .i64 a, .int .i64 b] w fun e w' => e = .returned (.bool true) ∧ w = w' := by
  by_cases c : -9223372036854775808 ≤ a + b ∧ a + b ≤ 9223372036854775807
  all_goals by_cases d : -9223372036854775808 ≤ a - b ∧ a - b ≤ 9223372036854775807
  · obtain ⟨m, em⟩ : ∃ m : Int, m = a + b := ⟨_, rfl⟩
    obtain ⟨n, en⟩ : ∃ n : Int, n = a - b := ⟨_, rfl⟩
    have s1 : resV (a + b) = .tuple #[.int .i64 m, .bool true] := by rw [← em, resV_yes (by omega)]
    have s2 : resV (a - b) = .tuple #[.int .i64 n, .bool true] := by rw [← en, resV_yes (by omega)]
    have s3 : resV (m - b) = .tuple #[.int .i64 a, .bool true] := by rw [show m - b = a by omega, resV_yes (by omega)]
    have s4 : resV (n + b) = .tuple #[.int .i64 a, .bool true] := by rw [show n + b = a by omega, resV_yes (by omega)]
    have hm : -9223372036854775808 ≤ m ∧ m ≤ 9223372036854775807 := by omega
    have hn : -9223372036854775808 ≤ n ∧ n ≤ 9223372036854775807 := by omega
    have S1 := Lib.hid s1; have S2 := Lib.hid s2; have S3 := Lib.hid s3; have S4 := Lib.hid s4
    clear s1 s2 s3 s4 em en c d
    go_enter Try.func4, Try.ntmps4
    go_wp2_with fail
    refine (add_any a b ha hb _).mono ?_; rintro e w' ⟨rfl, rfl⟩; rw [S1.out]
    go_wp2_with fail
    refine (sub_any m b hm hb _).mono ?_; rintro e w' ⟨rfl, rfl⟩; rw [S3.out]
    go_wp2_with fail
    refine (sub_any a b ha hb _).mono ?_; rintro e w' ⟨rfl, rfl⟩; rw [S2.out]
    go_wp2_with fail
    refine (add_any n b hn hb _).mono ?_; rintro e w' ⟨rfl, rfl⟩; rw [S4.out]
    go_wp2_with fail
    refine (lives1_any _).mono ?_; rintro e w' ⟨rfl, rfl⟩
    go_wp2_with fail
    go_ret
    exact ⟨rfl, rfl⟩
  · obtain ⟨m, em⟩ : ∃ m : Int, m = a + b := ⟨_, rfl⟩
    have s1 : resV (a + b) = .tuple #[.int .i64 m, .bool true] := by rw [← em, resV_yes (by omega)]
    have s2 : resV (a - b) = .tuple #[.int .i64 0, .bool false] := by rw [resV_no (by omega)]
    have s3 : resV (m - b) = .tuple #[.int .i64 a, .bool true] := by rw [show m - b = a by omega, resV_yes (by omega)]
    have hm : -9223372036854775808 ≤ m ∧ m ≤ 9223372036854775807 := by omega
    have S1 := Lib.hid s1; have S2 := Lib.hid s2; have S3 := Lib.hid s3
    clear s1 s2 s3 em c d
    go_enter Try.func4, Try.ntmps4
    go_wp2_with fail
    refine (add_any a b ha hb _).mono ?_; rintro e w' ⟨rfl, rfl⟩; rw [S1.out]
    go_wp2_with fail
    refine (sub_any m b hm hb _).mono ?_; rintro e w' ⟨rfl, rfl⟩; rw [S3.out]
    go_wp2_with fail
    refine (sub_any a b ha hb _).mono ?_; rintro e w' ⟨rfl, rfl⟩; rw [S2.out]
    go_wp2_with fail
    refine (lives1_any _).mono ?_; rintro e w' ⟨rfl, rfl⟩
    go_wp2_with fail
    go_ret
    exact ⟨rfl, rfl⟩
  · obtain ⟨n, en⟩ : ∃ n : Int, n = a - b := ⟨_, rfl⟩
    have s1 : resV (a + b) = .tuple #[.int .i64 0, .bool false] := by rw [resV_no (by omega)]
    have s2 : resV (a - b) = .tuple #[.int .i64 n, .bool true] := by rw [← en, resV_yes (by omega)]
    have s4 : resV (n + b) = .tuple #[.int .i64 a, .bool true] := by rw [show n + b = a by omega, resV_yes (by omega)]
    have hn : -9223372036854775808 ≤ n ∧ n ≤ 9223372036854775807 := by omega
    have S1 := Lib.hid s1; have S2 := Lib.hid s2; have S4 := Lib.hid s4
    clear s1 s2 s4 en c d
    go_enter Try.func4, Try.ntmps4
    go_wp2_with fail
    refine (add_any a b ha hb _).mono ?_; rintro e w' ⟨rfl, rfl⟩; rw [S1.out]
    go_wp2_with fail
    refine (sub_any a b ha hb _).mono ?_; rintro e w' ⟨rfl, rfl⟩; rw [S2.out]
    go_wp2_with fail
    refine (add_any n b hn hb _).mono ?_; rintro e w' ⟨rfl, rfl⟩; rw [S4.out]
    go_wp2_with fail
    refine (lives1_any _).mono ?_; rintro e w' ⟨rfl, rfl⟩
    go_wp2_with fail
    go_ret
    exact ⟨rfl, rfl⟩
  · exfalso; omega
end Go.Proofs.Ytlkhnhahepehkaa
