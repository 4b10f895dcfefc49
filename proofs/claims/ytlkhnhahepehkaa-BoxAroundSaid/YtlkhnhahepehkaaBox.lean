/- The contracts of package box and of its reference, by walks. -/
import Derived.Test.YtlkhnhahepehkaaNumLaws
import Derived.Test.YtlkhnhahepehkaaFrame
namespace Go.Proofs.Ytlkhnhahepehkaa
open Go.RowKit
set_option linter.unusedSimpArgs false

attribute [local go_sem ↓] run_maxI run_minI
theorem ret_bool_keep {a b : Bool} {S : Nat → Prop} {w w' : World} (h : a = b) (hk : Keep S w w') : Ending.returned (.bool a) = .returned (.bool b) ∧ Keep S w w' := ⟨by rw [h], hk⟩

def inB (n lo hi : Int) : Bool := decide (lo ≤ n) && decide (n ≤ hi)
theorem inB_iff (n lo hi : Int) : inB n lo hi = true ↔ lo ≤ n ∧ n ≤ hi := by simp [inB]

set_option maxHeartbeats 400000 in
theorem within_any (n lo hi : Int) (w : World) :
    Calls Try.prog 46 #[.int .i64 n, .int .i64 lo, .int .i64 hi] w fun e w' => e = .returned (.bool (inB n lo hi)) ∧ w = w' := by
  by_cases h : lo ≤ n
  · go_enter Try.func46, Try.ntmps46
    go_wp2
    go_ret
    exact ⟨ret_bool (by first | (simp [inB] <;> omega) | (rw [Bool.eq_iff_iff]; simp [inB] <;> omega)), rfl⟩
  · go_enter Try.func46, Try.ntmps46
    go_wp2
    go_ret
    exact ⟨ret_bool (by first | (simp [inB] <;> omega) | (rw [Bool.eq_iff_iff]; simp [inB] <;> omega)), rfl⟩

def hasB (x1 x2 y1 y2 x y : Int) : Bool := inB x x1 x2 && inB y y1 y2

set_option maxHeartbeats 400000 in
theorem has_any (x1 x2 y1 y2 i x y : Int) (w : World) :
    Calls Try.prog 36 #[.agg #[.int .i64 x1, .int .i64 x2, .int .i64 y1, .int .i64 y2], .agg #[.int .i64 i, .int .i64 x, .int .i64 y]] w fun e w' => e = .returned (.bool (hasB x1 x2 y1 y2 x y)) ∧ Keep noBlk w w' := by
  rcases h : inB x x1 x2 with _ | _
  · have H := Lib.hid h
    clear h
    go_enter Try.func36, Try.ntmps36
    go_wp2_with fail
    refine (within_any _ _ _ _).mono ?_; rintro e w' ⟨rfl, rfl⟩; rw [H.out]
    go_wp2_with fail
    go_ret
    exact ⟨ret_bool (by first | (simp [hasB, H.out] <;> omega) | (rw [Bool.eq_iff_iff]; simp [hasB, H.out] <;> omega)), ((Keep.refl _ _).alloc _).alloc _⟩
  · have H := Lib.hid h
    clear h
    go_enter Try.func36, Try.ntmps36
    go_wp2_with fail
    refine (within_any _ _ _ _).mono ?_; rintro e w' ⟨rfl, rfl⟩; rw [H.out]
    go_wp2_with fail
    refine (within_any _ _ _ _).mono ?_; rintro e w' ⟨rfl, rfl⟩
    go_wp2_with fail
    go_ret
    exact ⟨ret_bool (by first | (simp [hasB, H.out] <;> omega) | (rw [Bool.eq_iff_iff]; simp [hasB, H.out] <;> omega)), ((Keep.refl _ _).alloc _).alloc _⟩

set_option maxHeartbeats 400000 in
theorem rhas_any (x1 x2 y1 y2 x y : Int) (w : World) :
    Calls Try.prog 26 #[.agg #[.int .i64 x1, .int .i64 x2, .int .i64 y1, .int .i64 y2], .int .i64 x, .int .i64 y] w fun e w' => e = .returned (.bool (hasB x1 x2 y1 y2 x y)) ∧ Keep noBlk w w' := by
  by_cases h1 : x1 ≤ x
  · by_cases h2 : x ≤ x2
    · by_cases h3 : y1 ≤ y
      · go_enter Try.func26, Try.ntmps26
        go_wp2
        go_ret
        exact ⟨ret_bool (by first | (simp [hasB, inB] <;> omega) | (rw [Bool.eq_iff_iff]; simp [hasB, inB] <;> omega)), (Keep.refl _ _).alloc _⟩
      · go_enter Try.func26, Try.ntmps26
        go_wp2
        go_ret
        exact ⟨ret_bool (by first | (simp [hasB, inB] <;> omega) | (rw [Bool.eq_iff_iff]; simp [hasB, inB] <;> omega)), (Keep.refl _ _).alloc _⟩
    · go_enter Try.func26, Try.ntmps26
      go_wp2
      go_ret
      exact ⟨ret_bool (by first | (simp [hasB, inB] <;> omega) | (rw [Bool.eq_iff_iff]; simp [hasB, inB] <;> omega)), (Keep.refl _ _).alloc _⟩
  · go_enter Try.func26, Try.ntmps26
    go_wp2
    go_ret
    exact ⟨ret_bool (by first | (simp [hasB, inB] <;> omega) | (rw [Bool.eq_iff_iff]; simp [hasB, inB] <;> omega)), (Keep.refl _ _).alloc _⟩

def someB (x1 x2 y1 y2 : Int) : Bool := decide (x1 ≤ x2) && decide (y1 ≤ y2)
set_option maxHeartbeats 400000 in
theorem some_any (x1 x2 y1 y2 : Int) (w : World) :
    Calls Try.prog 45 #[.agg #[.int .i64 x1, .int .i64 x2, .int .i64 y1, .int .i64 y2]] w fun e w' => e = .returned (.bool (someB x1 x2 y1 y2)) ∧ Keep noBlk w w' := by
  by_cases h1 : x1 ≤ x2
  · go_enter Try.func45, Try.ntmps45
    go_wp2
    go_ret
    exact ⟨ret_bool (by first | (simp [someB] <;> omega) | (rw [Bool.eq_iff_iff]; simp [someB] <;> omega)), (Keep.refl _ _).alloc _⟩
  · go_enter Try.func45, Try.ntmps45
    go_wp2
    go_ret
    exact ⟨ret_bool (by first | (simp [someB] <;> omega) | (rw [Bool.eq_iff_iff]; simp [someB] <;> omega)), (Keep.refl _ _).alloc _⟩

def withinB (x1 x2 y1 y2 u1 u2 v1 v2 : Int) : Bool := someB x1 x2 y1 y2 && (decide (u1 ≤ x1) && (decide (x2 ≤ u2) && (decide (v1 ≤ y1) && decide (y2 ≤ v2))))
set_option maxHeartbeats 1000000 in
theorem bwithin_any (x1 x2 y1 y2 u1 u2 v1 v2 : Int) (w : World) :
    Calls Try.prog 27 #[.agg #[.int .i64 x1, .int .i64 x2, .int .i64 y1, .int .i64 y2], .agg #[.int .i64 u1, .int .i64 u2, .int .i64 v1, .int .i64 v2]] w fun e w' => e = .returned (.bool (withinB x1 x2 y1 y2 u1 u2 v1 v2)) ∧ Keep noBlk w w' := by
  rcases h : someB x1 x2 y1 y2 with _ | _
  · have H := Lib.hid h
    clear h
    go_enter Try.func27, Try.ntmps27
    go_wp2_with fail
    refine (some_any _ _ _ _ _).mono ?_; rintro e w1 ⟨rfl, hk⟩; rw [H.out]
    go_wp2_with fail
    go_ret
    exact ⟨ret_bool (by first | (simp [withinB, H.out] <;> omega) | (rw [Bool.eq_iff_iff]; simp [withinB, H.out] <;> omega)), (((Keep.refl _ _).alloc _).alloc _).trans hk⟩
  · have H := Lib.hid h
    clear h
    by_cases h1 : u1 ≤ x1
    all_goals by_cases h2 : x2 ≤ u2
    all_goals by_cases h3 : v1 ≤ y1
    all_goals
      go_enter Try.func27, Try.ntmps27
      go_wp2_with fail
      refine (some_any _ _ _ _ _).mono ?_; rintro e w1 ⟨rfl, hk⟩; rw [H.out]
      obtain ⟨k1, k2, k3⟩ := hk.rules
      have HK := Lib.hid hk
      clear hk
      go_wp2_with fail
      go_ret
      exact ⟨ret_bool (by first | (simp [withinB, H.out] <;> omega) | (rw [Bool.eq_iff_iff]; simp [withinB, H.out] <;> omega)), (((Keep.refl _ _).alloc _).alloc _).trans HK.out⟩

set_option maxHeartbeats 1000000 in
theorem meet_no (x1 x2 y1 y2 u1 u2 v1 v2 : Int) (w : World) (h : (someB x1 x2 y1 y2 && (someB u1 u2 v1 v2 && someB (maxI x1 u1) (minI x2 u2) (maxI y1 v1) (minI y2 v2))) = false) :
    Calls Try.prog 25 #[.agg #[.int .i64 x1, .int .i64 x2, .int .i64 y1, .int .i64 y2], .agg #[.int .i64 u1, .int .i64 u2, .int .i64 v1, .int .i64 v2]] w fun e w' =>
      e = .returned (.tuple #[.agg #[.int .i64 0, .int .i64 0, .int .i64 0, .int .i64 0], .bool false]) ∧ Keep noBlk w w' := by
  rcases h1 : someB x1 x2 y1 y2 with _ | _
  · have H1 := Lib.hid h1
    clear h1 h
    go_enter Try.func25, Try.ntmps25
    go_wp2_with fail
    refine (some_any _ _ _ _ _).mono ?_; rintro e w1 ⟨rfl, hk1⟩
    obtain ⟨ka1, kb1, kc1⟩ := hk1.rules
    have HK1 := Lib.hid hk1
    clear hk1
    try simp only [World.size_alloc, World.size_setCell, World.size_drew] at ka1 kb1 kc1
    try have ke1_1 := Nat.lt_of_succ_le kc1
    try have ke1_2 := Nat.lt_of_succ_lt ke1_1
    try have ke1_3 := Nat.lt_of_succ_lt ke1_2
    try have ke1_4 := Nat.lt_of_succ_lt ke1_3
    try have ke1_5 := Nat.lt_of_succ_lt ke1_4
    rw [H1.out]
    go_wp2_with fail
    refine bodyPost_ret (v := .tuple #[.agg #[.int .i64 0, .int .i64 0, .int .i64 0, .int .i64 0], .bool false]) (by simp only [results, Try.results25]; go_simp) rfl ?_
    refine ⟨rfl, ?_⟩
    (repeat (first | exact Keep.refl _ _ | (with_reducible refine Keep.trans ?_ HK1.out) | (with_reducible refine Keep.setCell ?_ (by simp <;> omega) _) | (with_reducible refine Keep.alloc ?_ _) | (with_reducible refine Keep.drew ?_) | (with_reducible refine Keep.drewN ?_ _)))
  · rcases h2 : someB u1 u2 v1 v2 with _ | _
    · have H1 := Lib.hid h1
      have H2 := Lib.hid h2
      clear h1 h2 h
      go_enter Try.func25, Try.ntmps25
      go_wp2_with fail
      refine (some_any _ _ _ _ _).mono ?_; rintro e w1 ⟨rfl, hk1⟩
      obtain ⟨ka1, kb1, kc1⟩ := hk1.rules
      have HK1 := Lib.hid hk1
      clear hk1
      try simp only [World.size_alloc, World.size_setCell, World.size_drew] at ka1 kb1 kc1
      try have ke1_1 := Nat.lt_of_succ_le kc1
      try have ke1_2 := Nat.lt_of_succ_lt ke1_1
      try have ke1_3 := Nat.lt_of_succ_lt ke1_2
      try have ke1_4 := Nat.lt_of_succ_lt ke1_3
      try have ke1_5 := Nat.lt_of_succ_lt ke1_4
      rw [H1.out]
      go_wp2_with fail
      refine (some_any _ _ _ _ _).mono ?_; rintro e w2 ⟨rfl, hk2⟩
      obtain ⟨ka2, kb2, kc2⟩ := hk2.rules
      obtain ⟨ka2_1, kb2_1⟩ := hk2.rule_at (Nat.le_trans kc1 (by (try simp only [World.size_alloc, World.size_setCell, World.size_drew]) <;> omega))
      have kc2_1 := Nat.le_trans kc1 (Nat.le_trans (by (try simp only [World.size_alloc, World.size_setCell, World.size_drew]) <;> omega) hk2.size)
      have HK2 := Lib.hid hk2
      clear hk2
      try simp only [World.size_alloc, World.size_setCell, World.size_drew] at ka2 kb2 kc2
      try have ke2_1 := Nat.lt_of_succ_le kc2
      try have ke2_2 := Nat.lt_of_succ_lt ke2_1
      try have ke2_3 := Nat.lt_of_succ_lt ke2_2
      try have ke2_4 := Nat.lt_of_succ_lt ke2_3
      try have ke2_5 := Nat.lt_of_succ_lt ke2_4
      try have ke2_1_1 := Nat.lt_of_succ_le kc2_1
      try have ke2_1_2 := Nat.lt_of_succ_lt ke2_1_1
      try have ke2_1_3 := Nat.lt_of_succ_lt ke2_1_2
      try have ke2_1_4 := Nat.lt_of_succ_lt ke2_1_3
      try have ke2_1_5 := Nat.lt_of_succ_lt ke2_1_4
      rw [H2.out]
      go_wp2_with fail
      refine bodyPost_ret (v := .tuple #[.agg #[.int .i64 0, .int .i64 0, .int .i64 0, .int .i64 0], .bool false]) (by simp only [results, Try.results25]; go_simp) rfl ?_
      refine ⟨rfl, ?_⟩
      (repeat (first | exact Keep.refl _ _ | (with_reducible refine Keep.trans ?_ HK1.out) | (with_reducible refine Keep.trans ?_ HK2.out) | (with_reducible refine Keep.setCell ?_ (by simp <;> omega) _) | (with_reducible refine Keep.alloc ?_ _) | (with_reducible refine Keep.drew ?_) | (with_reducible refine Keep.drewN ?_ _)))
    · have h3 : someB (maxI x1 u1) (minI x2 u2) (maxI y1 v1) (minI y2 v2) = false := by simpa [h1, h2] using h
      have H1 := Lib.hid h1
      have H2 := Lib.hid h2
      have H3 := Lib.hid h3
      clear h1 h2 h3 h
      go_enter Try.func25, Try.ntmps25
      go_wp2_with fail
      refine (some_any _ _ _ _ _).mono ?_; rintro e w1 ⟨rfl, hk1⟩
      obtain ⟨ka1, kb1, kc1⟩ := hk1.rules
      have HK1 := Lib.hid hk1
      clear hk1
      try simp only [World.size_alloc, World.size_setCell, World.size_drew] at ka1 kb1 kc1
      try have ke1_1 := Nat.lt_of_succ_le kc1
      try have ke1_2 := Nat.lt_of_succ_lt ke1_1
      try have ke1_3 := Nat.lt_of_succ_lt ke1_2
      try have ke1_4 := Nat.lt_of_succ_lt ke1_3
      try have ke1_5 := Nat.lt_of_succ_lt ke1_4
      rw [H1.out]
      go_wp2_with fail
      refine (some_any _ _ _ _ _).mono ?_; rintro e w2 ⟨rfl, hk2⟩
      obtain ⟨ka2, kb2, kc2⟩ := hk2.rules
      obtain ⟨ka2_1, kb2_1⟩ := hk2.rule_at (Nat.le_trans kc1 (by (try simp only [World.size_alloc, World.size_setCell, World.size_drew]) <;> omega))
      have kc2_1 := Nat.le_trans kc1 (Nat.le_trans (by (try simp only [World.size_alloc, World.size_setCell, World.size_drew]) <;> omega) hk2.size)
      have HK2 := Lib.hid hk2
      clear hk2
      try simp only [World.size_alloc, World.size_setCell, World.size_drew] at ka2 kb2 kc2
      try have ke2_1 := Nat.lt_of_succ_le kc2
      try have ke2_2 := Nat.lt_of_succ_lt ke2_1
      try have ke2_3 := Nat.lt_of_succ_lt ke2_2
      try have ke2_4 := Nat.lt_of_succ_lt ke2_3
      try have ke2_5 := Nat.lt_of_succ_lt ke2_4
      try have ke2_1_1 := Nat.lt_of_succ_le kc2_1
      try have ke2_1_2 := Nat.lt_of_succ_lt ke2_1_1
      try have ke2_1_3 := Nat.lt_of_succ_lt ke2_1_2
      try have ke2_1_4 := Nat.lt_of_succ_lt ke2_1_3
      try have ke2_1_5 := Nat.lt_of_succ_lt ke2_1_4
      rw [H2.out]
      go_wp2_with fail
      refine (some_any _ _ _ _ _).mono ?_; rintro e w3 ⟨rfl, hk3⟩
      obtain ⟨ka3, kb3, kc3⟩ := hk3.rules
      obtain ⟨ka3_1, kb3_1⟩ := hk3.rule_at (Nat.le_trans kc1 (by (try simp only [World.size_alloc, World.size_setCell, World.size_drew]) <;> omega))
      obtain ⟨ka3_2, kb3_2⟩ := hk3.rule_at (Nat.le_trans kc2 (by (try simp only [World.size_alloc, World.size_setCell, World.size_drew]) <;> omega))
      have kc3_1 := Nat.le_trans kc1 (Nat.le_trans (by (try simp only [World.size_alloc, World.size_setCell, World.size_drew]) <;> omega) hk3.size)
      have kc3_2 := Nat.le_trans kc2 (Nat.le_trans (by (try simp only [World.size_alloc, World.size_setCell, World.size_drew]) <;> omega) hk3.size)
      have HK3 := Lib.hid hk3
      clear hk3
      try simp only [World.size_alloc, World.size_setCell, World.size_drew] at ka3 kb3 kc3
      try have ke3_1 := Nat.lt_of_succ_le kc3
      try have ke3_2 := Nat.lt_of_succ_lt ke3_1
      try have ke3_3 := Nat.lt_of_succ_lt ke3_2
      try have ke3_4 := Nat.lt_of_succ_lt ke3_3
      try have ke3_5 := Nat.lt_of_succ_lt ke3_4
      try have ke3_1_1 := Nat.lt_of_succ_le kc3_1
      try have ke3_1_2 := Nat.lt_of_succ_lt ke3_1_1
      try have ke3_1_3 := Nat.lt_of_succ_lt ke3_1_2
      try have ke3_1_4 := Nat.lt_of_succ_lt ke3_1_3
      try have ke3_1_5 := Nat.lt_of_succ_lt ke3_1_4
      try have ke3_2_1 := Nat.lt_of_succ_le kc3_2
      try have ke3_2_2 := Nat.lt_of_succ_lt ke3_2_1
      try have ke3_2_3 := Nat.lt_of_succ_lt ke3_2_2
      try have ke3_2_4 := Nat.lt_of_succ_lt ke3_2_3
      try have ke3_2_5 := Nat.lt_of_succ_lt ke3_2_4
      rw [H3.out]
      go_wp2_with fail
      refine bodyPost_ret (v := .tuple #[.agg #[.int .i64 0, .int .i64 0, .int .i64 0, .int .i64 0], .bool false]) (by simp only [results, Try.results25]; go_simp) rfl ?_
      refine ⟨rfl, ?_⟩
      (repeat (first | exact Keep.refl _ _ | (with_reducible refine Keep.trans ?_ HK1.out) | (with_reducible refine Keep.trans ?_ HK2.out) | (with_reducible refine Keep.trans ?_ HK3.out) | (with_reducible refine Keep.setCell ?_ (by simp <;> omega) _) | (with_reducible refine Keep.alloc ?_ _) | (with_reducible refine Keep.drew ?_) | (with_reducible refine Keep.drewN ?_ _)))

set_option maxHeartbeats 1000000 in
theorem meet_yes (x1 x2 y1 y2 u1 u2 v1 v2 : Int) (w : World) (h1 : someB x1 x2 y1 y2 = true) (h2 : someB u1 u2 v1 v2 = true) (h3 : someB (maxI x1 u1) (minI x2 u2) (maxI y1 v1) (minI y2 v2) = true) :
    Calls Try.prog 25 #[.agg #[.int .i64 x1, .int .i64 x2, .int .i64 y1, .int .i64 y2], .agg #[.int .i64 u1, .int .i64 u2, .int .i64 v1, .int .i64 v2]] w fun e w' =>
      e = .returned (.tuple #[.agg #[.int .i64 (maxI x1 u1), .int .i64 (minI x2 u2), .int .i64 (maxI y1 v1), .int .i64 (minI y2 v2)], .bool true]) ∧ Keep noBlk w w' := by
  have H1 := Lib.hid h1
  have H2 := Lib.hid h2
  have H3 := Lib.hid h3
  clear h1 h2 h3
  go_enter Try.func25, Try.ntmps25
  go_wp2_with fail
  refine (some_any _ _ _ _ _).mono ?_; rintro e w1 ⟨rfl, hk1⟩
  obtain ⟨ka1, kb1, kc1⟩ := hk1.rules
  have HK1 := Lib.hid hk1
  clear hk1
  try simp only [World.size_alloc, World.size_setCell, World.size_drew] at ka1 kb1 kc1
  try have ke1_1 := Nat.lt_of_succ_le kc1
  try have ke1_2 := Nat.lt_of_succ_lt ke1_1
  try have ke1_3 := Nat.lt_of_succ_lt ke1_2
  try have ke1_4 := Nat.lt_of_succ_lt ke1_3
  try have ke1_5 := Nat.lt_of_succ_lt ke1_4
  rw [H1.out]
  go_wp2_with fail
  refine (some_any _ _ _ _ _).mono ?_; rintro e w2 ⟨rfl, hk2⟩
  obtain ⟨ka2, kb2, kc2⟩ := hk2.rules
  obtain ⟨ka2_1, kb2_1⟩ := hk2.rule_at (Nat.le_trans kc1 (by (try simp only [World.size_alloc, World.size_setCell, World.size_drew]) <;> omega))
  have kc2_1 := Nat.le_trans kc1 (Nat.le_trans (by (try simp only [World.size_alloc, World.size_setCell, World.size_drew]) <;> omega) hk2.size)
  have HK2 := Lib.hid hk2
  clear hk2
  try simp only [World.size_alloc, World.size_setCell, World.size_drew] at ka2 kb2 kc2
  try have ke2_1 := Nat.lt_of_succ_le kc2
  try have ke2_2 := Nat.lt_of_succ_lt ke2_1
  try have ke2_3 := Nat.lt_of_succ_lt ke2_2
  try have ke2_4 := Nat.lt_of_succ_lt ke2_3
  try have ke2_5 := Nat.lt_of_succ_lt ke2_4
  try have ke2_1_1 := Nat.lt_of_succ_le kc2_1
  try have ke2_1_2 := Nat.lt_of_succ_lt ke2_1_1
  try have ke2_1_3 := Nat.lt_of_succ_lt ke2_1_2
  try have ke2_1_4 := Nat.lt_of_succ_lt ke2_1_3
  try have ke2_1_5 := Nat.lt_of_succ_lt ke2_1_4
  rw [H2.out]
  go_wp2_with fail
  refine (some_any _ _ _ _ _).mono ?_; rintro e w3 ⟨rfl, hk3⟩
  obtain ⟨ka3, kb3, kc3⟩ := hk3.rules
  obtain ⟨ka3_1, kb3_1⟩ := hk3.rule_at (Nat.le_trans kc1 (by (try simp only [World.size_alloc, World.size_setCell, World.size_drew]) <;> omega))
  obtain ⟨ka3_2, kb3_2⟩ := hk3.rule_at (Nat.le_trans kc2 (by (try simp only [World.size_alloc, World.size_setCell, World.size_drew]) <;> omega))
  have kc3_1 := Nat.le_trans kc1 (Nat.le_trans (by (try simp only [World.size_alloc, World.size_setCell, World.size_drew]) <;> omega) hk3.size)
  have kc3_2 := Nat.le_trans kc2 (Nat.le_trans (by (try simp only [World.size_alloc, World.size_setCell, World.size_drew]) <;> omega) hk3.size)
  have HK3 := Lib.hid hk3
  clear hk3
  try simp only [World.size_alloc, World.size_setCell, World.size_drew] at ka3 kb3 kc3
  try have ke3_1 := Nat.lt_of_succ_le kc3
  try have ke3_2 := Nat.lt_of_succ_lt ke3_1
  try have ke3_3 := Nat.lt_of_succ_lt ke3_2
  try have ke3_4 := Nat.lt_of_succ_lt ke3_3
  try have ke3_5 := Nat.lt_of_succ_lt ke3_4
  try have ke3_1_1 := Nat.lt_of_succ_le kc3_1
  try have ke3_1_2 := Nat.lt_of_succ_lt ke3_1_1
  try have ke3_1_3 := Nat.lt_of_succ_lt ke3_1_2
  try have ke3_1_4 := Nat.lt_of_succ_lt ke3_1_3
  try have ke3_1_5 := Nat.lt_of_succ_lt ke3_1_4
  try have ke3_2_1 := Nat.lt_of_succ_le kc3_2
  try have ke3_2_2 := Nat.lt_of_succ_lt ke3_2_1
  try have ke3_2_3 := Nat.lt_of_succ_lt ke3_2_2
  try have ke3_2_4 := Nat.lt_of_succ_lt ke3_2_3
  try have ke3_2_5 := Nat.lt_of_succ_lt ke3_2_4
  rw [H3.out]
  go_wp2_with fail
  refine bodyPost_ret (v := .tuple #[.agg #[.int .i64 (maxI x1 u1), .int .i64 (minI x2 u2), .int .i64 (maxI y1 v1), .int .i64 (minI y2 v2)], .bool true]) (by simp only [results, Try.results25]; go_simp) rfl ?_
  refine ⟨rfl, ?_⟩
  (repeat (first | exact Keep.refl _ _ | (with_reducible refine Keep.trans ?_ HK1.out) | (with_reducible refine Keep.trans ?_ HK2.out) | (with_reducible refine Keep.trans ?_ HK3.out) | (with_reducible refine Keep.setCell ?_ (by simp <;> omega) _) | (with_reducible refine Keep.alloc ?_ _) | (with_reducible refine Keep.drew ?_) | (with_reducible refine Keep.drewN ?_ _)))
end Go.Proofs.Ytlkhnhahepehkaa
