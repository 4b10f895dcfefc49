/- The law BoxMeets' walk. -/
import Derived.Test.YtlkhnhahepehkaaBox3
namespace Go.Proofs.Ytlkhnhahepehkaa
open Go.RowKit
set_option linter.unusedSimpArgs false
set_option linter.unusedVariables false
attribute [local go_sem ↓] run_maxI run_minI

/-- Whether two boxes are one. -/
def eqB (a b c d e f g h : Int) : Bool := decide (a = e ∧ b = f ∧ c = g ∧ d = h)
theorem run_eql_box (w : World) (a b c d e f g h : Int) : (binOp .eql 34 (.agg #[.int .i64 a, .int .i64 b, .int .i64 c, .int .i64 d]) (.agg #[.int .i64 e, .int .i64 f, .int .i64 g, .int .i64 h])).run Try.prog w = .ok (.bool (eqB a b c d e f g h)) w := by
  by_cases h1 : a = e
  · by_cases h2 : b = f
    · by_cases h3 : c = g
      · by_cases h4 : d = h
        · go_simp
          simp [eqB, h1, h2, h3, h4]
        · go_simp
          simp [eqB, h1, h2, h3, h4]
      · go_simp
        simp [eqB, h1, h2, h3]
    · go_simp
      simp [eqB, h1, h2]
  · go_simp
    simp [eqB, h1]
attribute [local go_sem ↓] run_eql_box

theorem rhas_is (x1 x2 y1 y2 x y : Int) (r : Bool) (h : Hid (hasB x1 x2 y1 y2 x y = r)) (w : World) :
    Calls Try.prog 26 #[.agg #[.int .i64 x1, .int .i64 x2, .int .i64 y1, .int .i64 y2], .int .i64 x, .int .i64 y] w fun e w' => e = .returned (.bool r) ∧ Keep noBlk w w' := by
  rw [← h.out]; exact rhas_any x1 x2 y1 y2 x y w
theorem bwithin_is (x1 x2 y1 y2 u1 u2 v1 v2 : Int) (r : Bool) (h : Hid (withinB x1 x2 y1 y2 u1 u2 v1 v2 = r)) (w : World) :
    Calls Try.prog 27 #[.agg #[.int .i64 x1, .int .i64 x2, .int .i64 y1, .int .i64 y2], .agg #[.int .i64 u1, .int .i64 u2, .int .i64 v1, .int .i64 v2]] w fun e w' => e = .returned (.bool r) ∧ Keep noBlk w w' := by
  rw [← h.out]; exact bwithin_any x1 x2 y1 y2 u1 u2 v1 v2 w
theorem meet_is (x1 x2 y1 y2 u1 u2 v1 v2 m1 m2 m3 m4 : Int) (h : Hid (someB x1 x2 y1 y2 = true ∧ someB u1 u2 v1 v2 = true ∧ someB m1 m2 m3 m4 = true ∧ m1 = maxI x1 u1 ∧ m2 = minI x2 u2 ∧ m3 = maxI y1 v1 ∧ m4 = minI y2 v2)) (w : World) :
    Calls Try.prog 25 #[.agg #[.int .i64 x1, .int .i64 x2, .int .i64 y1, .int .i64 y2], .agg #[.int .i64 u1, .int .i64 u2, .int .i64 v1, .int .i64 v2]] w fun e w' =>
      e = .returned (.tuple #[.agg #[.int .i64 m1, .int .i64 m2, .int .i64 m3, .int .i64 m4], .bool true]) ∧ Keep noBlk w w' := by
  obtain ⟨a, b, c, rfl, rfl, rfl, rfl⟩ := h.out
  exact meet_yes x1 x2 y1 y2 u1 u2 v1 v2 w a b c

/-- Two boxes that do not meet. -/
theorem boxMeets_no (x1 x2 y1 y2 u1 u2 v1 v2 i x y : Int) (w : World) (f1 : Bool) (h : (someB x1 x2 y1 y2 && (someB u1 u2 v1 v2 && someB (maxI x1 u1) (minI x2 u2) (maxI y1 v1) (minI y2 v2))) = false)
    (H1 : Hid (hasB x1 x2 y1 y2 x y = f1)) (H2 : Hid (f1 = true → hasB u1 u2 v1 v2 x y = false)) (H3 : Hid (withinB x1 x2 y1 y2 u1 u2 v1 v2 = false)) :
    Calls Try.prog 8 #[.agg #[.int .i64 x1, .int .i64 x2, .int .i64 y1, .int .i64 y2], .agg #[.int .i64 u1, .int .i64 u2, .int .i64 v1, .int .i64 v2], .agg #[.int .i64 i, .int .i64 x, .int .i64 y]] w fun e w' => e = .returned (.bool true) ∧ Below w.heap.size w w' := by
  have H := Lib.hid h
  clear h
  cases f1
  · go_enter Try.func8, Try.ntmps8
    go_wp2_with fail
    refine (meet_no _ _ _ _ _ _ _ _ _ H.out).mono ?_; rintro e w1 ⟨rfl, hk1⟩
    obtain ⟨ka1, kb1, kc1⟩ := hk1.rules
    have HK1 := Lib.hid hk1
    clear hk1
    try simp only [World.size_alloc, World.size_setCell, World.size_drew] at ka1 kb1 kc1
    try have ke1_1 := Nat.lt_of_succ_le kc1
    try have ke1_2 := Nat.lt_of_succ_lt ke1_1
    try have ke1_3 := Nat.lt_of_succ_lt ke1_2
    try have ke1_4 := Nat.lt_of_succ_lt ke1_3
    try have ke1_5 := Nat.lt_of_succ_lt ke1_4
    go_wp2_with fail
    refine (rhas_is _ _ _ _ _ _ _ H1 _).mono ?_; rintro e w2 ⟨rfl, hk2⟩
    obtain ⟨ka2, kb2, kc2⟩ := hk2.rules
    obtain ⟨ka2_1, kb2_1⟩ := hk2.rule_at (Nat.le_trans kc1 (by (try simp only [World.size_alloc, World.size_setCell, World.size_drew]) <;> omega))
    have kc2_1 := Nat.le_trans kc1 (Nat.le_trans (by (try simp only [World.size_alloc, World.size_setCell, World.size_drew]) <;> omega) hk2.size)
    have HK2 := Lib.hid hk2
    clear hk2
    try simp only [World.size_alloc, World.size_setCell, World.size_drew] at ka2 kb2 kc2
    try have ke2_1 := Nat.lt_of_succ_le kc2
    try have ke2_2 := Nat.lt_of_succ_lt ke2_1
    try have ke2_3 := Nat.lt_of_succ_lt ke2_2
    try have ke2_4 := Nat.lt_of_succ_lt ke2_3
    try have ke2_5 := Nat.lt_of_succ_lt ke2_4
    try have ke2_1_1 := Nat.lt_of_succ_le kc2_1
    try have ke2_1_2 := Nat.lt_of_succ_lt ke2_1_1
    try have ke2_1_3 := Nat.lt_of_succ_lt ke2_1_2
    try have ke2_1_4 := Nat.lt_of_succ_lt ke2_1_3
    try have ke2_1_5 := Nat.lt_of_succ_lt ke2_1_4
    go_wp2_with fail
    refine (bwithin_is _ _ _ _ _ _ _ _ _ H3 _).mono ?_; rintro e w3 ⟨rfl, hk3⟩
    obtain ⟨ka3, kb3, kc3⟩ := hk3.rules
    obtain ⟨ka3_1, kb3_1⟩ := hk3.rule_at (Nat.le_trans kc1 (by (try simp only [World.size_alloc, World.size_setCell, World.size_drew]) <;> omega))
    obtain ⟨ka3_2, kb3_2⟩ := hk3.rule_at (Nat.le_trans kc2 (by (try simp only [World.size_alloc, World.size_setCell, World.size_drew]) <;> omega))
    have kc3_1 := Nat.le_trans kc1 (Nat.le_trans (by (try simp only [World.size_alloc, World.size_setCell, World.size_drew]) <;> omega) hk3.size)
    have kc3_2 := Nat.le_trans kc2 (Nat.le_trans (by (try simp only [World.size_alloc, World.size_setCell, World.size_drew]) <;> omega) hk3.size)
    have HK3 := Lib.hid hk3
    clear hk3
    try simp only [World.size_alloc, World.size_setCell, World.size_drew] at ka3 kb3 kc3
    try have ke3_1 := Nat.lt_of_succ_le kc3
    try have ke3_2 := Nat.lt_of_succ_lt ke3_1
    try have ke3_3 := Nat.lt_of_succ_lt ke3_2
    try have ke3_4 := Nat.lt_of_succ_lt ke3_3
    try have ke3_5 := Nat.lt_of_succ_lt ke3_4
    try have ke3_1_1 := Nat.lt_of_succ_le kc3_1
    try have ke3_1_2 := Nat.lt_of_succ_lt ke3_1_1
    try have ke3_1_3 := Nat.lt_of_succ_lt ke3_1_2
    try have ke3_1_4 := Nat.lt_of_succ_lt ke3_1_3
    try have ke3_1_5 := Nat.lt_of_succ_lt ke3_1_4
    try have ke3_2_1 := Nat.lt_of_succ_le kc3_2
    try have ke3_2_2 := Nat.lt_of_succ_lt ke3_2_1
    try have ke3_2_3 := Nat.lt_of_succ_lt ke3_2_2
    try have ke3_2_4 := Nat.lt_of_succ_lt ke3_2_3
    try have ke3_2_5 := Nat.lt_of_succ_lt ke3_2_4
    go_wp2_with fail
    refine (lives4_any _).mono ?_; rintro e w4 ⟨rfl, hk4⟩
    obtain ⟨ka4, kb4, kc4⟩ := hk4.rules
    obtain ⟨ka4_1, kb4_1⟩ := hk4.rule_at (Nat.le_trans kc1 (by (try simp only [World.size_alloc, World.size_setCell, World.size_drew]) <;> omega))
    obtain ⟨ka4_2, kb4_2⟩ := hk4.rule_at (Nat.le_trans kc2 (by (try simp only [World.size_alloc, World.size_setCell, World.size_drew]) <;> omega))
    obtain ⟨ka4_3, kb4_3⟩ := hk4.rule_at (Nat.le_trans kc3 (by (try simp only [World.size_alloc, World.size_setCell, World.size_drew]) <;> omega))
    have kc4_1 := Nat.le_trans kc1 (Nat.le_trans (by (try simp only [World.size_alloc, World.size_setCell, World.size_drew]) <;> omega) hk4.size)
    have kc4_2 := Nat.le_trans kc2 (Nat.le_trans (by (try simp only [World.size_alloc, World.size_setCell, World.size_drew]) <;> omega) hk4.size)
    have kc4_3 := Nat.le_trans kc3 (Nat.le_trans (by (try simp only [World.size_alloc, World.size_setCell, World.size_drew]) <;> omega) hk4.size)
    have HK4 := Lib.hid hk4
    clear hk4
    try simp only [World.size_alloc, World.size_setCell, World.size_drew] at ka4 kb4 kc4
    try have ke4_1 := Nat.lt_of_succ_le kc4
    try have ke4_2 := Nat.lt_of_succ_lt ke4_1
    try have ke4_3 := Nat.lt_of_succ_lt ke4_2
    try have ke4_4 := Nat.lt_of_succ_lt ke4_3
    try have ke4_5 := Nat.lt_of_succ_lt ke4_4
    try have ke4_1_1 := Nat.lt_of_succ_le kc4_1
    try have ke4_1_2 := Nat.lt_of_succ_lt ke4_1_1
    try have ke4_1_3 := Nat.lt_of_succ_lt ke4_1_2
    try have ke4_1_4 := Nat.lt_of_succ_lt ke4_1_3
    try have ke4_1_5 := Nat.lt_of_succ_lt ke4_1_4
    try have ke4_2_1 := Nat.lt_of_succ_le kc4_2
    try have ke4_2_2 := Nat.lt_of_succ_lt ke4_2_1
    try have ke4_2_3 := Nat.lt_of_succ_lt ke4_2_2
    try have ke4_2_4 := Nat.lt_of_succ_lt ke4_2_3
    try have ke4_2_5 := Nat.lt_of_succ_lt ke4_2_4
    try have ke4_3_1 := Nat.lt_of_succ_le kc4_3
    try have ke4_3_2 := Nat.lt_of_succ_lt ke4_3_1
    try have ke4_3_3 := Nat.lt_of_succ_lt ke4_3_2
    try have ke4_3_4 := Nat.lt_of_succ_lt ke4_3_3
    try have ke4_3_5 := Nat.lt_of_succ_lt ke4_3_4
    go_wp2_with fail
    go_ret
    refine ⟨rfl, Keep.below ?_⟩
    (repeat (first | exact Keep.refl _ _ | (with_reducible refine Keep.trans ?_ HK1.out) | (with_reducible refine Keep.trans ?_ HK2.out) | (with_reducible refine Keep.trans ?_ HK3.out) | (with_reducible refine Keep.trans ?_ HK4.out) | (with_reducible refine Keep.setCell ?_ (by simp <;> omega) _) | (with_reducible refine Keep.alloc ?_ _) | (with_reducible refine Keep.drew ?_) | (with_reducible refine Keep.drewN ?_ _)))
  · have H5 : Hid (hasB u1 u2 v1 v2 x y = false) := H2.out rfl
    go_enter Try.func8, Try.ntmps8
    go_wp2_with fail
    refine (meet_no _ _ _ _ _ _ _ _ _ H.out).mono ?_; rintro e w1 ⟨rfl, hk1⟩
    obtain ⟨ka1, kb1, kc1⟩ := hk1.rules
    have HK1 := Lib.hid hk1
    clear hk1
    try simp only [World.size_alloc, World.size_setCell, World.size_drew] at ka1 kb1 kc1
    try have ke1_1 := Nat.lt_of_succ_le kc1
    try have ke1_2 := Nat.lt_of_succ_lt ke1_1
    try have ke1_3 := Nat.lt_of_succ_lt ke1_2
    try have ke1_4 := Nat.lt_of_succ_lt ke1_3
    try have ke1_5 := Nat.lt_of_succ_lt ke1_4
    go_wp2_with fail
    refine (rhas_is _ _ _ _ _ _ _ H1 _).mono ?_; rintro e w2 ⟨rfl, hk2⟩
    obtain ⟨ka2, kb2, kc2⟩ := hk2.rules
    obtain ⟨ka2_1, kb2_1⟩ := hk2.rule_at (Nat.le_trans kc1 (by (try simp only [World.size_alloc, World.size_setCell, World.size_drew]) <;> omega))
    have kc2_1 := Nat.le_trans kc1 (Nat.le_trans (by (try simp only [World.size_alloc, World.size_setCell, World.size_drew]) <;> omega) hk2.size)
    have HK2 := Lib.hid hk2
    clear hk2
    try simp only [World.size_alloc, World.size_setCell, World.size_drew] at ka2 kb2 kc2
    try have ke2_1 := Nat.lt_of_succ_le kc2
    try have ke2_2 := Nat.lt_of_succ_lt ke2_1
    try have ke2_3 := Nat.lt_of_succ_lt ke2_2
    try have ke2_4 := Nat.lt_of_succ_lt ke2_3
    try have ke2_5 := Nat.lt_of_succ_lt ke2_4
    try have ke2_1_1 := Nat.lt_of_succ_le kc2_1
    try have ke2_1_2 := Nat.lt_of_succ_lt ke2_1_1
    try have ke2_1_3 := Nat.lt_of_succ_lt ke2_1_2
    try have ke2_1_4 := Nat.lt_of_succ_lt ke2_1_3
    try have ke2_1_5 := Nat.lt_of_succ_lt ke2_1_4
    go_wp2_with fail
    refine (rhas_is _ _ _ _ _ _ _ H5 _).mono ?_; rintro e w3 ⟨rfl, hk3⟩
    obtain ⟨ka3, kb3, kc3⟩ := hk3.rules
    obtain ⟨ka3_1, kb3_1⟩ := hk3.rule_at (Nat.le_trans kc1 (by (try simp only [World.size_alloc, World.size_setCell, World.size_drew]) <;> omega))
    obtain ⟨ka3_2, kb3_2⟩ := hk3.rule_at (Nat.le_trans kc2 (by (try simp only [World.size_alloc, World.size_setCell, World.size_drew]) <;> omega))
    have kc3_1 := Nat.le_trans kc1 (Nat.le_trans (by (try simp only [World.size_alloc, World.size_setCell, World.size_drew]) <;> omega) hk3.size)
    have kc3_2 := Nat.le_trans kc2 (Nat.le_trans (by (try simp only [World.size_alloc, World.size_setCell, World.size_drew]) <;> omega) hk3.size)
    have HK3 := Lib.hid hk3
    clear hk3
    try simp only [World.size_alloc, World.size_setCell, World.size_drew] at ka3 kb3 kc3
    try have ke3_1 := Nat.lt_of_succ_le kc3
    try have ke3_2 := Nat.lt_of_succ_lt ke3_1
    try have ke3_3 := Nat.lt_of_succ_lt ke3_2
    try have ke3_4 := Nat.lt_of_succ_lt ke3_3
    try have ke3_5 := Nat.lt_of_succ_lt ke3_4
    try have ke3_1_1 := Nat.lt_of_succ_le kc3_1
    try have ke3_1_2 := Nat.lt_of_succ_lt ke3_1_1
    try have ke3_1_3 := Nat.lt_of_succ_lt ke3_1_2
    try have ke3_1_4 := Nat.lt_of_succ_lt ke3_1_3
    try have ke3_1_5 := Nat.lt_of_succ_lt ke3_1_4
    try have ke3_2_1 := Nat.lt_of_succ_le kc3_2
    try have ke3_2_2 := Nat.lt_of_succ_lt ke3_2_1
    try have ke3_2_3 := Nat.lt_of_succ_lt ke3_2_2
    try have ke3_2_4 := Nat.lt_of_succ_lt ke3_2_3
    try have ke3_2_5 := Nat.lt_of_succ_lt ke3_2_4
    go_wp2_with fail
    refine (bwithin_is _ _ _ _ _ _ _ _ _ H3 _).mono ?_; rintro e w4 ⟨rfl, hk4⟩
    obtain ⟨ka4, kb4, kc4⟩ := hk4.rules
    obtain ⟨ka4_1, kb4_1⟩ := hk4.rule_at (Nat.le_trans kc1 (by (try simp only [World.size_alloc, World.size_setCell, World.size_drew]) <;> omega))
    obtain ⟨ka4_2, kb4_2⟩ := hk4.rule_at (Nat.le_trans kc2 (by (try simp only [World.size_alloc, World.size_setCell, World.size_drew]) <;> omega))
    obtain ⟨ka4_3, kb4_3⟩ := hk4.rule_at (Nat.le_trans kc3 (by (try simp only [World.size_alloc, World.size_setCell, World.size_drew]) <;> omega))
    have kc4_1 := Nat.le_trans kc1 (Nat.le_trans (by (try simp only [World.size_alloc, World.size_setCell, World.size_drew]) <;> omega) hk4.size)
    have kc4_2 := Nat.le_trans kc2 (Nat.le_trans (by (try simp only [World.size_alloc, World.size_setCell, World.size_drew]) <;> omega) hk4.size)
    have kc4_3 := Nat.le_trans kc3 (Nat.le_trans (by (try simp only [World.size_alloc, World.size_setCell, World.size_drew]) <;> omega) hk4.size)
    have HK4 := Lib.hid hk4
    clear hk4
    try simp only [World.size_alloc, World.size_setCell, World.size_drew] at ka4 kb4 kc4
    try have ke4_1 := Nat.lt_of_succ_le kc4
    try have ke4_2 := Nat.lt_of_succ_lt ke4_1
    try have ke4_3 := Nat.lt_of_succ_lt ke4_2
    try have ke4_4 := Nat.lt_of_succ_lt ke4_3
    try have ke4_5 := Nat.lt_of_succ_lt ke4_4
    try have ke4_1_1 := Nat.lt_of_succ_le kc4_1
    try have ke4_1_2 := Nat.lt_of_succ_lt ke4_1_1
    try have ke4_1_3 := Nat.lt_of_succ_lt ke4_1_2
    try have ke4_1_4 := Nat.lt_of_succ_lt ke4_1_3
    try have ke4_1_5 := Nat.lt_of_succ_lt ke4_1_4
    try have ke4_2_1 := Nat.lt_of_succ_le kc4_2
    try have ke4_2_2 := Nat.lt_of_succ_lt ke4_2_1
    try have ke4_2_3 := Nat.lt_of_succ_lt ke4_2_2
    try have ke4_2_4 := Nat.lt_of_succ_lt ke4_2_3
    try have ke4_2_5 := Nat.lt_of_succ_lt ke4_2_4
    try have ke4_3_1 := Nat.lt_of_succ_le kc4_3
    try have ke4_3_2 := Nat.lt_of_succ_lt ke4_3_1
    try have ke4_3_3 := Nat.lt_of_succ_lt ke4_3_2
    try have ke4_3_4 := Nat.lt_of_succ_lt ke4_3_3
    try have ke4_3_5 := Nat.lt_of_succ_lt ke4_3_4
    go_wp2_with fail
    refine (lives4_any _).mono ?_; rintro e w5 ⟨rfl, hk5⟩
    obtain ⟨ka5, kb5, kc5⟩ := hk5.rules
    obtain ⟨ka5_1, kb5_1⟩ := hk5.rule_at (Nat.le_trans kc1 (by (try simp only [World.size_alloc, World.size_setCell, World.size_drew]) <;> omega))
    obtain ⟨ka5_2, kb5_2⟩ := hk5.rule_at (Nat.le_trans kc2 (by (try simp only [World.size_alloc, World.size_setCell, World.size_drew]) <;> omega))
    obtain ⟨ka5_3, kb5_3⟩ := hk5.rule_at (Nat.le_trans kc3 (by (try simp only [World.size_alloc, World.size_setCell, World.size_drew]) <;> omega))
    obtain ⟨ka5_4, kb5_4⟩ := hk5.rule_at (Nat.le_trans kc4 (by (try simp only [World.size_alloc, World.size_setCell, World.size_drew]) <;> omega))
    have kc5_1 := Nat.le_trans kc1 (Nat.le_trans (by (try simp only [World.size_alloc, World.size_setCell, World.size_drew]) <;> omega) hk5.size)
    have kc5_2 := Nat.le_trans kc2 (Nat.le_trans (by (try simp only [World.size_alloc, World.size_setCell, World.size_drew]) <;> omega) hk5.size)
    have kc5_3 := Nat.le_trans kc3 (Nat.le_trans (by (try simp only [World.size_alloc, World.size_setCell, World.size_drew]) <;> omega) hk5.size)
    have kc5_4 := Nat.le_trans kc4 (Nat.le_trans (by (try simp only [World.size_alloc, World.size_setCell, World.size_drew]) <;> omega) hk5.size)
    have HK5 := Lib.hid hk5
    clear hk5
    try simp only [World.size_alloc, World.size_setCell, World.size_drew] at ka5 kb5 kc5
    try have ke5_1 := Nat.lt_of_succ_le kc5
    try have ke5_2 := Nat.lt_of_succ_lt ke5_1
    try have ke5_3 := Nat.lt_of_succ_lt ke5_2
    try have ke5_4 := Nat.lt_of_succ_lt ke5_3
    try have ke5_5 := Nat.lt_of_succ_lt ke5_4
    try have ke5_1_1 := Nat.lt_of_succ_le kc5_1
    try have ke5_1_2 := Nat.lt_of_succ_lt ke5_1_1
    try have ke5_1_3 := Nat.lt_of_succ_lt ke5_1_2
    try have ke5_1_4 := Nat.lt_of_succ_lt ke5_1_3
    try have ke5_1_5 := Nat.lt_of_succ_lt ke5_1_4
    try have ke5_2_1 := Nat.lt_of_succ_le kc5_2
    try have ke5_2_2 := Nat.lt_of_succ_lt ke5_2_1
    try have ke5_2_3 := Nat.lt_of_succ_lt ke5_2_2
    try have ke5_2_4 := Nat.lt_of_succ_lt ke5_2_3
    try have ke5_2_5 := Nat.lt_of_succ_lt ke5_2_4
    try have ke5_3_1 := Nat.lt_of_succ_le kc5_3
    try have ke5_3_2 := Nat.lt_of_succ_lt ke5_3_1
    try have ke5_3_3 := Nat.lt_of_succ_lt ke5_3_2
    try have ke5_3_4 := Nat.lt_of_succ_lt ke5_3_3
    try have ke5_3_5 := Nat.lt_of_succ_lt ke5_3_4
    try have ke5_4_1 := Nat.lt_of_succ_le kc5_4
    try have ke5_4_2 := Nat.lt_of_succ_lt ke5_4_1
    try have ke5_4_3 := Nat.lt_of_succ_lt ke5_4_2
    try have ke5_4_4 := Nat.lt_of_succ_lt ke5_4_3
    try have ke5_4_5 := Nat.lt_of_succ_lt ke5_4_4
    go_wp2_with fail
    go_ret
    refine ⟨rfl, Keep.below ?_⟩
    (repeat (first | exact Keep.refl _ _ | (with_reducible refine Keep.trans ?_ HK1.out) | (with_reducible refine Keep.trans ?_ HK2.out) | (with_reducible refine Keep.trans ?_ HK3.out) | (with_reducible refine Keep.trans ?_ HK4.out) | (with_reducible refine Keep.trans ?_ HK5.out) | (with_reducible refine Keep.setCell ?_ (by simp <;> omega) _) | (with_reducible refine Keep.alloc ?_ _) | (with_reducible refine Keep.drew ?_) | (with_reducible refine Keep.drewN ?_ _)))

set_option maxHeartbeats 2000000 in
theorem boxMeets_af (x1 x2 y1 y2 u1 u2 v1 v2 m1 m2 m3 m4 i x y : Int) (w : World) (hx : m1 ≤ m2) (hy : m3 ≤ m4) (he : eqB m1 m2 m3 m4 x1 x2 y1 y2 = false)
    (H : Hid (someB x1 x2 y1 y2 = true ∧ someB u1 u2 v1 v2 = true ∧ someB m1 m2 m3 m4 = true ∧ m1 = maxI x1 u1 ∧ m2 = minI x2 u2 ∧ m3 = maxI y1 v1 ∧ m4 = minI y2 v2))
    (H1 : Hid (hasB x1 x2 y1 y2 x y = false)) (H3 : Hid (hasB m1 m2 m3 m4 x y = false)) (H4 : Hid (withinB x1 x2 y1 y2 u1 u2 v1 v2 = false)) (H5 : Hid (withinB m1 m2 m3 m4 x1 x2 y1 y2 = true)) (H6 : Hid (withinB m1 m2 m3 m4 u1 u2 v1 v2 = true)) :
    Calls Try.prog 8 #[.agg #[.int .i64 x1, .int .i64 x2, .int .i64 y1, .int .i64 y2], .agg #[.int .i64 u1, .int .i64 u2, .int .i64 v1, .int .i64 v2], .agg #[.int .i64 i, .int .i64 x, .int .i64 y]] w fun e w' => e = .returned (.bool true) ∧ Below w.heap.size w w' := by
  go_enter Try.func8, Try.ntmps8
  go_wp2_with fail
  refine (meet_is _ _ _ _ _ _ _ _ m1 m2 m3 m4 H _).mono ?_; rintro e w1 ⟨rfl, hk1⟩
  obtain ⟨ka1, kb1, kc1⟩ := hk1.rules
  have HK1 := Lib.hid hk1
  clear hk1
  try simp only [World.size_alloc, World.size_setCell, World.size_drew] at ka1 kb1 kc1
  try have ke1_1 := Nat.lt_of_succ_le kc1
  try have ke1_2 := Nat.lt_of_succ_lt ke1_1
  try have ke1_3 := Nat.lt_of_succ_lt ke1_2
  try have ke1_4 := Nat.lt_of_succ_lt ke1_3
  try have ke1_5 := Nat.lt_of_succ_lt ke1_4
  go_wp2_with fail
  refine (rhas_is _ _ _ _ _ _ _ H1 _).mono ?_; rintro e w2 ⟨rfl, hk2⟩
  obtain ⟨ka2, kb2, kc2⟩ := hk2.rules
  obtain ⟨ka2_1, kb2_1⟩ := hk2.rule_at (Nat.le_trans kc1 (by (try simp only [World.size_alloc, World.size_setCell, World.size_drew]) <;> omega))
  have kc2_1 := Nat.le_trans kc1 (Nat.le_trans (by (try simp only [World.size_alloc, World.size_setCell, World.size_drew]) <;> omega) hk2.size)
  have HK2 := Lib.hid hk2
  clear hk2
  try simp only [World.size_alloc, World.size_setCell, World.size_drew] at ka2 kb2 kc2
  try have ke2_1 := Nat.lt_of_succ_le kc2
  try have ke2_2 := Nat.lt_of_succ_lt ke2_1
  try have ke2_3 := Nat.lt_of_succ_lt ke2_2
  try have ke2_4 := Nat.lt_of_succ_lt ke2_3
  try have ke2_5 := Nat.lt_of_succ_lt ke2_4
  try have ke2_1_1 := Nat.lt_of_succ_le kc2_1
  try have ke2_1_2 := Nat.lt_of_succ_lt ke2_1_1
  try have ke2_1_3 := Nat.lt_of_succ_lt ke2_1_2
  try have ke2_1_4 := Nat.lt_of_succ_lt ke2_1_3
  try have ke2_1_5 := Nat.lt_of_succ_lt ke2_1_4
  go_wp2_with fail
  refine (rhas_is _ _ _ _ _ _ _ H3 _).mono ?_; rintro e w3 ⟨rfl, hk3⟩
  obtain ⟨ka3, kb3, kc3⟩ := hk3.rules
  obtain ⟨ka3_1, kb3_1⟩ := hk3.rule_at (Nat.le_trans kc1 (by (try simp only [World.size_alloc, World.size_setCell, World.size_drew]) <;> omega))
  obtain ⟨ka3_2, kb3_2⟩ := hk3.rule_at (Nat.le_trans kc2 (by (try simp only [World.size_alloc, World.size_setCell, World.size_drew]) <;> omega))
  have kc3_1 := Nat.le_trans kc1 (Nat.le_trans (by (try simp only [World.size_alloc, World.size_setCell, World.size_drew]) <;> omega) hk3.size)
  have kc3_2 := Nat.le_trans kc2 (Nat.le_trans (by (try simp only [World.size_alloc, World.size_setCell, World.size_drew]) <;> omega) hk3.size)
  have HK3 := Lib.hid hk3
  clear hk3
  try simp only [World.size_alloc, World.size_setCell, World.size_drew] at ka3 kb3 kc3
  try have ke3_1 := Nat.lt_of_succ_le kc3
  try have ke3_2 := Nat.lt_of_succ_lt ke3_1
  try have ke3_3 := Nat.lt_of_succ_lt ke3_2
  try have ke3_4 := Nat.lt_of_succ_lt ke3_3
  try have ke3_5 := Nat.lt_of_succ_lt ke3_4
  try have ke3_1_1 := Nat.lt_of_succ_le kc3_1
  try have ke3_1_2 := Nat.lt_of_succ_lt ke3_1_1
  try have ke3_1_3 := Nat.lt_of_succ_lt ke3_1_2
  try have ke3_1_4 := Nat.lt_of_succ_lt ke3_1_3
  try have ke3_1_5 := Nat.lt_of_succ_lt ke3_1_4
  try have ke3_2_1 := Nat.lt_of_succ_le kc3_2
  try have ke3_2_2 := Nat.lt_of_succ_lt ke3_2_1
  try have ke3_2_3 := Nat.lt_of_succ_lt ke3_2_2
  try have ke3_2_4 := Nat.lt_of_succ_lt ke3_2_3
  try have ke3_2_5 := Nat.lt_of_succ_lt ke3_2_4
  go_wp2_with fail
  refine wp_region_keep (by kernel_rfl) (by kernel_rfl) (fun T5 hT5 WW5 hg5 HC5 => ?_)
  obtain ⟨ra5, rb5, rc5⟩ := keep_rules_at hg5 (Nat.le_refl _)
  obtain ⟨ra5_1, rb5_1, rc5_1⟩ := keep_rules_at hg5 (Nat.le_trans kc1 (by (try simp only [World.size_alloc, World.size_setCell, World.size_drew]) <;> omega))
  obtain ⟨ra5_2, rb5_2, rc5_2⟩ := keep_rules_at hg5 (Nat.le_trans kc2 (by (try simp only [World.size_alloc, World.size_setCell, World.size_drew]) <;> omega))
  obtain ⟨ra5_3, rb5_3, rc5_3⟩ := keep_rules_at hg5 (Nat.le_trans kc3 (by (try simp only [World.size_alloc, World.size_setCell, World.size_drew]) <;> omega))
  have HG5 := Lib.hid hg5
  clear hg5
  try simp only [World.size_alloc, World.size_setCell, World.size_drew] at ra5 rb5 rc5
  repeat (go_big_quiet_step (first | (go_at_call 27; with_reducible apply keep_call HC5 HG5 (bwithin_is _ _ _ _ _ _ _ _ _ H4 _)) | (go_at_call 27; with_reducible apply keep_call HC5 HG5 (bwithin_is _ _ _ _ _ _ _ _ _ H5 _)) | (go_at_call 27; with_reducible apply keep_call HC5 HG5 (bwithin_is _ _ _ _ _ _ _ _ _ H6 _)) | (go_at_call 28; with_reducible apply keep_call HC5 HG5 (lives4_any _))))
  refine wpQuiet_nil ?_
  intro w5 hw5
  obtain ⟨x5, rfl⟩ := hw5
  have HK5 := Lib.hid (HG5.out x5)
  have kc5 := rc5 x5
  go_wp2_with fail
  go_ret
  refine ⟨rfl, Keep.below ?_⟩
  (repeat (first | exact Keep.refl _ _ | (with_reducible refine Keep.trans ?_ HK1.out) | (with_reducible refine Keep.trans ?_ HK2.out) | (with_reducible refine Keep.trans ?_ HK3.out) | (with_reducible refine Keep.trans ?_ HK5.out) | (with_reducible refine Keep.setCell ?_ (by simp <;> omega) _) | (with_reducible refine Keep.alloc ?_ _) | (with_reducible refine Keep.drew ?_) | (with_reducible refine Keep.drewN ?_ _)))

set_option maxHeartbeats 2000000 in
theorem boxMeets_at (x1 x2 y1 y2 u1 u2 v1 v2 m1 m2 m3 m4 i x y : Int) (w : World) (hx : m1 ≤ m2) (hy : m3 ≤ m4) (he : eqB m1 m2 m3 m4 x1 x2 y1 y2 = true)
    (H : Hid (someB x1 x2 y1 y2 = true ∧ someB u1 u2 v1 v2 = true ∧ someB m1 m2 m3 m4 = true ∧ m1 = maxI x1 u1 ∧ m2 = minI x2 u2 ∧ m3 = maxI y1 v1 ∧ m4 = minI y2 v2))
    (H1 : Hid (hasB x1 x2 y1 y2 x y = false)) (H3 : Hid (hasB m1 m2 m3 m4 x y = false)) (H4 : Hid (withinB x1 x2 y1 y2 u1 u2 v1 v2 = true)) (H5 : Hid (withinB m1 m2 m3 m4 x1 x2 y1 y2 = true)) (H6 : Hid (withinB m1 m2 m3 m4 u1 u2 v1 v2 = true)) :
    Calls Try.prog 8 #[.agg #[.int .i64 x1, .int .i64 x2, .int .i64 y1, .int .i64 y2], .agg #[.int .i64 u1, .int .i64 u2, .int .i64 v1, .int .i64 v2], .agg #[.int .i64 i, .int .i64 x, .int .i64 y]] w fun e w' => e = .returned (.bool true) ∧ Below w.heap.size w w' := by
  go_enter Try.func8, Try.ntmps8
  go_wp2_with fail
  refine (meet_is _ _ _ _ _ _ _ _ m1 m2 m3 m4 H _).mono ?_; rintro e w1 ⟨rfl, hk1⟩
  obtain ⟨ka1, kb1, kc1⟩ := hk1.rules
  have HK1 := Lib.hid hk1
  clear hk1
  try simp only [World.size_alloc, World.size_setCell, World.size_drew] at ka1 kb1 kc1
  try have ke1_1 := Nat.lt_of_succ_le kc1
  try have ke1_2 := Nat.lt_of_succ_lt ke1_1
  try have ke1_3 := Nat.lt_of_succ_lt ke1_2
  try have ke1_4 := Nat.lt_of_succ_lt ke1_3
  try have ke1_5 := Nat.lt_of_succ_lt ke1_4
  go_wp2_with fail
  refine (rhas_is _ _ _ _ _ _ _ H1 _).mono ?_; rintro e w2 ⟨rfl, hk2⟩
  obtain ⟨ka2, kb2, kc2⟩ := hk2.rules
  obtain ⟨ka2_1, kb2_1⟩ := hk2.rule_at (Nat.le_trans kc1 (by (try simp only [World.size_alloc, World.size_setCell, World.size_drew]) <;> omega))
  have kc2_1 := Nat.le_trans kc1 (Nat.le_trans (by (try simp only [World.size_alloc, World.size_setCell, World.size_drew]) <;> omega) hk2.size)
  have HK2 := Lib.hid hk2
  clear hk2
  try simp only [World.size_alloc, World.size_setCell, World.size_drew] at ka2 kb2 kc2
  try have ke2_1 := Nat.lt_of_succ_le kc2
  try have ke2_2 := Nat.lt_of_succ_lt ke2_1
  try have ke2_3 := Nat.lt_of_succ_lt ke2_2
  try have ke2_4 := Nat.lt_of_succ_lt ke2_3
  try have ke2_5 := Nat.lt_of_succ_lt ke2_4
  try have ke2_1_1 := Nat.lt_of_succ_le kc2_1
  try have ke2_1_2 := Nat.lt_of_succ_lt ke2_1_1
  try have ke2_1_3 := Nat.lt_of_succ_lt ke2_1_2
  try have ke2_1_4 := Nat.lt_of_succ_lt ke2_1_3
  try have ke2_1_5 := Nat.lt_of_succ_lt ke2_1_4
  go_wp2_with fail
  refine (rhas_is _ _ _ _ _ _ _ H3 _).mono ?_; rintro e w3 ⟨rfl, hk3⟩
  obtain ⟨ka3, kb3, kc3⟩ := hk3.rules
  obtain ⟨ka3_1, kb3_1⟩ := hk3.rule_at (Nat.le_trans kc1 (by (try simp only [World.size_alloc, World.size_setCell, World.size_drew]) <;> omega))
  obtain ⟨ka3_2, kb3_2⟩ := hk3.rule_at (Nat.le_trans kc2 (by (try simp only [World.size_alloc, World.size_setCell, World.size_drew]) <;> omega))
  have kc3_1 := Nat.le_trans kc1 (Nat.le_trans (by (try simp only [World.size_alloc, World.size_setCell, World.size_drew]) <;> omega) hk3.size)
  have kc3_2 := Nat.le_trans kc2 (Nat.le_trans (by (try simp only [World.size_alloc, World.size_setCell, World.size_drew]) <;> omega) hk3.size)
  have HK3 := Lib.hid hk3
  clear hk3
  try simp only [World.size_alloc, World.size_setCell, World.size_drew] at ka3 kb3 kc3
  try have ke3_1 := Nat.lt_of_succ_le kc3
  try have ke3_2 := Nat.lt_of_succ_lt ke3_1
  try have ke3_3 := Nat.lt_of_succ_lt ke3_2
  try have ke3_4 := Nat.lt_of_succ_lt ke3_3
  try have ke3_5 := Nat.lt_of_succ_lt ke3_4
  try have ke3_1_1 := Nat.lt_of_succ_le kc3_1
  try have ke3_1_2 := Nat.lt_of_succ_lt ke3_1_1
  try have ke3_1_3 := Nat.lt_of_succ_lt ke3_1_2
  try have ke3_1_4 := Nat.lt_of_succ_lt ke3_1_3
  try have ke3_1_5 := Nat.lt_of_succ_lt ke3_1_4
  try have ke3_2_1 := Nat.lt_of_succ_le kc3_2
  try have ke3_2_2 := Nat.lt_of_succ_lt ke3_2_1
  try have ke3_2_3 := Nat.lt_of_succ_lt ke3_2_2
  try have ke3_2_4 := Nat.lt_of_succ_lt ke3_2_3
  try have ke3_2_5 := Nat.lt_of_succ_lt ke3_2_4
  go_wp2_with fail
  refine wp_region_keep (by kernel_rfl) (by kernel_rfl) (fun T5 hT5 WW5 hg5 HC5 => ?_)
  obtain ⟨ra5, rb5, rc5⟩ := keep_rules_at hg5 (Nat.le_refl _)
  obtain ⟨ra5_1, rb5_1, rc5_1⟩ := keep_rules_at hg5 (Nat.le_trans kc1 (by (try simp only [World.size_alloc, World.size_setCell, World.size_drew]) <;> omega))
  obtain ⟨ra5_2, rb5_2, rc5_2⟩ := keep_rules_at hg5 (Nat.le_trans kc2 (by (try simp only [World.size_alloc, World.size_setCell, World.size_drew]) <;> omega))
  obtain ⟨ra5_3, rb5_3, rc5_3⟩ := keep_rules_at hg5 (Nat.le_trans kc3 (by (try simp only [World.size_alloc, World.size_setCell, World.size_drew]) <;> omega))
  have HG5 := Lib.hid hg5
  clear hg5
  try simp only [World.size_alloc, World.size_setCell, World.size_drew] at ra5 rb5 rc5
  repeat (go_big_quiet_step (first | (go_at_call 27; with_reducible apply keep_call HC5 HG5 (bwithin_is _ _ _ _ _ _ _ _ _ H4 _)) | (go_at_call 27; with_reducible apply keep_call HC5 HG5 (bwithin_is _ _ _ _ _ _ _ _ _ H5 _)) | (go_at_call 27; with_reducible apply keep_call HC5 HG5 (bwithin_is _ _ _ _ _ _ _ _ _ H6 _)) | (go_at_call 28; with_reducible apply keep_call HC5 HG5 (lives4_any _))))
  refine wpQuiet_nil ?_
  intro w5 hw5
  obtain ⟨x5, rfl⟩ := hw5
  have HK5 := Lib.hid (HG5.out x5)
  have kc5 := rc5 x5
  go_wp2_with fail
  go_ret
  refine ⟨rfl, Keep.below ?_⟩
  (repeat (first | exact Keep.refl _ _ | (with_reducible refine Keep.trans ?_ HK1.out) | (with_reducible refine Keep.trans ?_ HK2.out) | (with_reducible refine Keep.trans ?_ HK3.out) | (with_reducible refine Keep.trans ?_ HK5.out) | (with_reducible refine Keep.setCell ?_ (by simp <;> omega) _) | (with_reducible refine Keep.alloc ?_ _) | (with_reducible refine Keep.drew ?_) | (with_reducible refine Keep.drewN ?_ _)))

set_option maxHeartbeats 2000000 in
theorem boxMeets_bf (x1 x2 y1 y2 u1 u2 v1 v2 m1 m2 m3 m4 i x y : Int) (w : World) (hx : m1 ≤ m2) (hy : m3 ≤ m4) (he : eqB m1 m2 m3 m4 x1 x2 y1 y2 = false)
    (H : Hid (someB x1 x2 y1 y2 = true ∧ someB u1 u2 v1 v2 = true ∧ someB m1 m2 m3 m4 = true ∧ m1 = maxI x1 u1 ∧ m2 = minI x2 u2 ∧ m3 = maxI y1 v1 ∧ m4 = minI y2 v2))
    (H1 : Hid (hasB x1 x2 y1 y2 x y = true)) (H2 : Hid (hasB u1 u2 v1 v2 x y = false)) (H3 : Hid (hasB m1 m2 m3 m4 x y = false)) (H4 : Hid (withinB x1 x2 y1 y2 u1 u2 v1 v2 = false)) (H5 : Hid (withinB m1 m2 m3 m4 x1 x2 y1 y2 = true)) (H6 : Hid (withinB m1 m2 m3 m4 u1 u2 v1 v2 = true)) :
    Calls Try.prog 8 #[.agg #[.int .i64 x1, .int .i64 x2, .int .i64 y1, .int .i64 y2], .agg #[.int .i64 u1, .int .i64 u2, .int .i64 v1, .int .i64 v2], .agg #[.int .i64 i, .int .i64 x, .int .i64 y]] w fun e w' => e = .returned (.bool true) ∧ Below w.heap.size w w' := by
  go_enter Try.func8, Try.ntmps8
  go_wp2_with fail
  refine (meet_is _ _ _ _ _ _ _ _ m1 m2 m3 m4 H _).mono ?_; rintro e w1 ⟨rfl, hk1⟩
  obtain ⟨ka1, kb1, kc1⟩ := hk1.rules
  have HK1 := Lib.hid hk1
  clear hk1
  try simp only [World.size_alloc, World.size_setCell, World.size_drew] at ka1 kb1 kc1
  try have ke1_1 := Nat.lt_of_succ_le kc1
  try have ke1_2 := Nat.lt_of_succ_lt ke1_1
  try have ke1_3 := Nat.lt_of_succ_lt ke1_2
  try have ke1_4 := Nat.lt_of_succ_lt ke1_3
  try have ke1_5 := Nat.lt_of_succ_lt ke1_4
  go_wp2_with fail
  refine (rhas_is _ _ _ _ _ _ _ H1 _).mono ?_; rintro e w2 ⟨rfl, hk2⟩
  obtain ⟨ka2, kb2, kc2⟩ := hk2.rules
  obtain ⟨ka2_1, kb2_1⟩ := hk2.rule_at (Nat.le_trans kc1 (by (try simp only [World.size_alloc, World.size_setCell, World.size_drew]) <;> omega))
  have kc2_1 := Nat.le_trans kc1 (Nat.le_trans (by (try simp only [World.size_alloc, World.size_setCell, World.size_drew]) <;> omega) hk2.size)
  have HK2 := Lib.hid hk2
  clear hk2
  try simp only [World.size_alloc, World.size_setCell, World.size_drew] at ka2 kb2 kc2
  try have ke2_1 := Nat.lt_of_succ_le kc2
  try have ke2_2 := Nat.lt_of_succ_lt ke2_1
  try have ke2_3 := Nat.lt_of_succ_lt ke2_2
  try have ke2_4 := Nat.lt_of_succ_lt ke2_3
  try have ke2_5 := Nat.lt_of_succ_lt ke2_4
  try have ke2_1_1 := Nat.lt_of_succ_le kc2_1
  try have ke2_1_2 := Nat.lt_of_succ_lt ke2_1_1
  try have ke2_1_3 := Nat.lt_of_succ_lt ke2_1_2
  try have ke2_1_4 := Nat.lt_of_succ_lt ke2_1_3
  try have ke2_1_5 := Nat.lt_of_succ_lt ke2_1_4
  go_wp2_with fail
  refine (rhas_is _ _ _ _ _ _ _ H2 _).mono ?_; rintro e w3 ⟨rfl, hk3⟩
  obtain ⟨ka3, kb3, kc3⟩ := hk3.rules
  obtain ⟨ka3_1, kb3_1⟩ := hk3.rule_at (Nat.le_trans kc1 (by (try simp only [World.size_alloc, World.size_setCell, World.size_drew]) <;> omega))
  obtain ⟨ka3_2, kb3_2⟩ := hk3.rule_at (Nat.le_trans kc2 (by (try simp only [World.size_alloc, World.size_setCell, World.size_drew]) <;> omega))
  have kc3_1 := Nat.le_trans kc1 (Nat.le_trans (by (try simp only [World.size_alloc, World.size_setCell, World.size_drew]) <;> omega) hk3.size)
  have kc3_2 := Nat.le_trans kc2 (Nat.le_trans (by (try simp only [World.size_alloc, World.size_setCell, World.size_drew]) <;> omega) hk3.size)
  have HK3 := Lib.hid hk3
  clear hk3
  try simp only [World.size_alloc, World.size_setCell, World.size_drew] at ka3 kb3 kc3
  try have ke3_1 := Nat.lt_of_succ_le kc3
  try have ke3_2 := Nat.lt_of_succ_lt ke3_1
  try have ke3_3 := Nat.lt_of_succ_lt ke3_2
  try have ke3_4 := Nat.lt_of_succ_lt ke3_3
  try have ke3_5 := Nat.lt_of_succ_lt ke3_4
  try have ke3_1_1 := Nat.lt_of_succ_le kc3_1
  try have ke3_1_2 := Nat.lt_of_succ_lt ke3_1_1
  try have ke3_1_3 := Nat.lt_of_succ_lt ke3_1_2
  try have ke3_1_4 := Nat.lt_of_succ_lt ke3_1_3
  try have ke3_1_5 := Nat.lt_of_succ_lt ke3_1_4
  try have ke3_2_1 := Nat.lt_of_succ_le kc3_2
  try have ke3_2_2 := Nat.lt_of_succ_lt ke3_2_1
  try have ke3_2_3 := Nat.lt_of_succ_lt ke3_2_2
  try have ke3_2_4 := Nat.lt_of_succ_lt ke3_2_3
  try have ke3_2_5 := Nat.lt_of_succ_lt ke3_2_4
  go_wp2_with fail
  refine (rhas_is _ _ _ _ _ _ _ H3 _).mono ?_; rintro e w4 ⟨rfl, hk4⟩
  obtain ⟨ka4, kb4, kc4⟩ := hk4.rules
  obtain ⟨ka4_1, kb4_1⟩ := hk4.rule_at (Nat.le_trans kc1 (by (try simp only [World.size_alloc, World.size_setCell, World.size_drew]) <;> omega))
  obtain ⟨ka4_2, kb4_2⟩ := hk4.rule_at (Nat.le_trans kc2 (by (try simp only [World.size_alloc, World.size_setCell, World.size_drew]) <;> omega))
  obtain ⟨ka4_3, kb4_3⟩ := hk4.rule_at (Nat.le_trans kc3 (by (try simp only [World.size_alloc, World.size_setCell, World.size_drew]) <;> omega))
  have kc4_1 := Nat.le_trans kc1 (Nat.le_trans (by (try simp only [World.size_alloc, World.size_setCell, World.size_drew]) <;> omega) hk4.size)
  have kc4_2 := Nat.le_trans kc2 (Nat.le_trans (by (try simp only [World.size_alloc, World.size_setCell, World.size_drew]) <;> omega) hk4.size)
  have kc4_3 := Nat.le_trans kc3 (Nat.le_trans (by (try simp only [World.size_alloc, World.size_setCell, World.size_drew]) <;> omega) hk4.size)
  have HK4 := Lib.hid hk4
  clear hk4
  try simp only [World.size_alloc, World.size_setCell, World.size_drew] at ka4 kb4 kc4
  try have ke4_1 := Nat.lt_of_succ_le kc4
  try have ke4_2 := Nat.lt_of_succ_lt ke4_1
  try have ke4_3 := Nat.lt_of_succ_lt ke4_2
  try have ke4_4 := Nat.lt_of_succ_lt ke4_3
  try have ke4_5 := Nat.lt_of_succ_lt ke4_4
  try have ke4_1_1 := Nat.lt_of_succ_le kc4_1
  try have ke4_1_2 := Nat.lt_of_succ_lt ke4_1_1
  try have ke4_1_3 := Nat.lt_of_succ_lt ke4_1_2
  try have ke4_1_4 := Nat.lt_of_succ_lt ke4_1_3
  try have ke4_1_5 := Nat.lt_of_succ_lt ke4_1_4
  try have ke4_2_1 := Nat.lt_of_succ_le kc4_2
  try have ke4_2_2 := Nat.lt_of_succ_lt ke4_2_1
  try have ke4_2_3 := Nat.lt_of_succ_lt ke4_2_2
  try have ke4_2_4 := Nat.lt_of_succ_lt ke4_2_3
  try have ke4_2_5 := Nat.lt_of_succ_lt ke4_2_4
  try have ke4_3_1 := Nat.lt_of_succ_le kc4_3
  try have ke4_3_2 := Nat.lt_of_succ_lt ke4_3_1
  try have ke4_3_3 := Nat.lt_of_succ_lt ke4_3_2
  try have ke4_3_4 := Nat.lt_of_succ_lt ke4_3_3
  try have ke4_3_5 := Nat.lt_of_succ_lt ke4_3_4
  go_wp2_with fail
  refine wp_region_keep (by kernel_rfl) (by kernel_rfl) (fun T5 hT5 WW5 hg5 HC5 => ?_)
  obtain ⟨ra5, rb5, rc5⟩ := keep_rules_at hg5 (Nat.le_refl _)
  obtain ⟨ra5_1, rb5_1, rc5_1⟩ := keep_rules_at hg5 (Nat.le_trans kc1 (by (try simp only [World.size_alloc, World.size_setCell, World.size_drew]) <;> omega))
  obtain ⟨ra5_2, rb5_2, rc5_2⟩ := keep_rules_at hg5 (Nat.le_trans kc2 (by (try simp only [World.size_alloc, World.size_setCell, World.size_drew]) <;> omega))
  obtain ⟨ra5_3, rb5_3, rc5_3⟩ := keep_rules_at hg5 (Nat.le_trans kc3 (by (try simp only [World.size_alloc, World.size_setCell, World.size_drew]) <;> omega))
  obtain ⟨ra5_4, rb5_4, rc5_4⟩ := keep_rules_at hg5 (Nat.le_trans kc4 (by (try simp only [World.size_alloc, World.size_setCell, World.size_drew]) <;> omega))
  have HG5 := Lib.hid hg5
  clear hg5
  try simp only [World.size_alloc, World.size_setCell, World.size_drew] at ra5 rb5 rc5
  repeat (go_big_quiet_step (first | (go_at_call 27; with_reducible apply keep_call HC5 HG5 (bwithin_is _ _ _ _ _ _ _ _ _ H4 _)) | (go_at_call 27; with_reducible apply keep_call HC5 HG5 (bwithin_is _ _ _ _ _ _ _ _ _ H5 _)) | (go_at_call 27; with_reducible apply keep_call HC5 HG5 (bwithin_is _ _ _ _ _ _ _ _ _ H6 _)) | (go_at_call 28; with_reducible apply keep_call HC5 HG5 (lives4_any _))))
  refine wpQuiet_nil ?_
  intro w5 hw5
  obtain ⟨x5, rfl⟩ := hw5
  have HK5 := Lib.hid (HG5.out x5)
  have kc5 := rc5 x5
  go_wp2_with fail
  go_ret
  refine ⟨rfl, Keep.below ?_⟩
  (repeat (first | exact Keep.refl _ _ | (with_reducible refine Keep.trans ?_ HK1.out) | (with_reducible refine Keep.trans ?_ HK2.out) | (with_reducible refine Keep.trans ?_ HK3.out) | (with_reducible refine Keep.trans ?_ HK4.out) | (with_reducible refine Keep.trans ?_ HK5.out) | (with_reducible refine Keep.setCell ?_ (by simp <;> omega) _) | (with_reducible refine Keep.alloc ?_ _) | (with_reducible refine Keep.drew ?_) | (with_reducible refine Keep.drewN ?_ _)))

set_option maxHeartbeats 2000000 in
theorem boxMeets_bt (x1 x2 y1 y2 u1 u2 v1 v2 m1 m2 m3 m4 i x y : Int) (w : World) (hx : m1 ≤ m2) (hy : m3 ≤ m4) (he : eqB m1 m2 m3 m4 x1 x2 y1 y2 = true)
    (H : Hid (someB x1 x2 y1 y2 = true ∧ someB u1 u2 v1 v2 = true ∧ someB m1 m2 m3 m4 = true ∧ m1 = maxI x1 u1 ∧ m2 = minI x2 u2 ∧ m3 = maxI y1 v1 ∧ m4 = minI y2 v2))
    (H1 : Hid (hasB x1 x2 y1 y2 x y = true)) (H2 : Hid (hasB u1 u2 v1 v2 x y = false)) (H3 : Hid (hasB m1 m2 m3 m4 x y = false)) (H4 : Hid (withinB x1 x2 y1 y2 u1 u2 v1 v2 = true)) (H5 : Hid (withinB m1 m2 m3 m4 x1 x2 y1 y2 = true)) (H6 : Hid (withinB m1 m2 m3 m4 u1 u2 v1 v2 = true)) :
    Calls Try.prog 8 #[.agg #[.int .i64 x1, .int .i64 x2, .int .i64 y1, .int .i64 y2], .agg #[.int .i64 u1, .int .i64 u2, .int .i64 v1, .int .i64 v2], .agg #[.int .i64 i, .int .i64 x, .int .i64 y]] w fun e w' => e = .returned (.bool true) ∧ Below w.heap.size w w' := by
  go_enter Try.func8, Try.ntmps8
  go_wp2_with fail
  refine (meet_is _ _ _ _ _ _ _ _ m1 m2 m3 m4 H _).mono ?_; rintro e w1 ⟨rfl, hk1⟩
  obtain ⟨ka1, kb1, kc1⟩ := hk1.rules
  have HK1 := Lib.hid hk1
  clear hk1
  try simp only [World.size_alloc, World.size_setCell, World.size_drew] at ka1 kb1 kc1
  try have ke1_1 := Nat.lt_of_succ_le kc1
  try have ke1_2 := Nat.lt_of_succ_lt ke1_1
  try have ke1_3 := Nat.lt_of_succ_lt ke1_2
  try have ke1_4 := Nat.lt_of_succ_lt ke1_3
  try have ke1_5 := Nat.lt_of_succ_lt ke1_4
  go_wp2_with fail
  refine (rhas_is _ _ _ _ _ _ _ H1 _).mono ?_; rintro e w2 ⟨rfl, hk2⟩
  obtain ⟨ka2, kb2, kc2⟩ := hk2.rules
  obtain ⟨ka2_1, kb2_1⟩ := hk2.rule_at (Nat.le_trans kc1 (by (try simp only [World.size_alloc, World.size_setCell, World.size_drew]) <;> omega))
  have kc2_1 := Nat.le_trans kc1 (Nat.le_trans (by (try simp only [World.size_alloc, World.size_setCell, World.size_drew]) <;> omega) hk2.size)
  have HK2 := Lib.hid hk2
  clear hk2
  try simp only [World.size_alloc, World.size_setCell, World.size_drew] at ka2 kb2 kc2
  try have ke2_1 := Nat.lt_of_succ_le kc2
  try have ke2_2 := Nat.lt_of_succ_lt ke2_1
  try have ke2_3 := Nat.lt_of_succ_lt ke2_2
  try have ke2_4 := Nat.lt_of_succ_lt ke2_3
  try have ke2_5 := Nat.lt_of_succ_lt ke2_4
  try have ke2_1_1 := Nat.lt_of_succ_le kc2_1
  try have ke2_1_2 := Nat.lt_of_succ_lt ke2_1_1
  try have ke2_1_3 := Nat.lt_of_succ_lt ke2_1_2
  try have ke2_1_4 := Nat.lt_of_succ_lt ke2_1_3
  try have ke2_1_5 := Nat.lt_of_succ_lt ke2_1_4
  go_wp2_with fail
  refine (rhas_is _ _ _ _ _ _ _ H2 _).mono ?_; rintro e w3 ⟨rfl, hk3⟩
  obtain ⟨ka3, kb3, kc3⟩ := hk3.rules
  obtain ⟨ka3_1, kb3_1⟩ := hk3.rule_at (Nat.le_trans kc1 (by (try simp only [World.size_alloc, World.size_setCell, World.size_drew]) <;> omega))
  obtain ⟨ka3_2, kb3_2⟩ := hk3.rule_at (Nat.le_trans kc2 (by (try simp only [World.size_alloc, World.size_setCell, World.size_drew]) <;> omega))
  have kc3_1 := Nat.le_trans kc1 (Nat.le_trans (by (try simp only [World.size_alloc, World.size_setCell, World.size_drew]) <;> omega) hk3.size)
  have kc3_2 := Nat.le_trans kc2 (Nat.le_trans (by (try simp only [World.size_alloc, World.size_setCell, World.size_drew]) <;> omega) hk3.size)
  have HK3 := Lib.hid hk3
  clear hk3
  try simp only [World.size_alloc, World.size_setCell, World.size_drew] at ka3 kb3 kc3
  try have ke3_1 := Nat.lt_of_succ_le kc3
  try have ke3_2 := Nat.lt_of_succ_lt ke3_1
  try have ke3_3 := Nat.lt_of_succ_lt ke3_2
  try have ke3_4 := Nat.lt_of_succ_lt ke3_3
  try have ke3_5 := Nat.lt_of_succ_lt ke3_4
  try have ke3_1_1 := Nat.lt_of_succ_le kc3_1
  try have ke3_1_2 := Nat.lt_of_succ_lt ke3_1_1
  try have ke3_1_3 := Nat.lt_of_succ_lt ke3_1_2
  try have ke3_1_4 := Nat.lt_of_succ_lt ke3_1_3
  try have ke3_1_5 := Nat.lt_of_succ_lt ke3_1_4
  try have ke3_2_1 := Nat.lt_of_succ_le kc3_2
  try have ke3_2_2 := Nat.lt_of_succ_lt ke3_2_1
  try have ke3_2_3 := Nat.lt_of_succ_lt ke3_2_2
  try have ke3_2_4 := Nat.lt_of_succ_lt ke3_2_3
  try have ke3_2_5 := Nat.lt_of_succ_lt ke3_2_4
  go_wp2_with fail
  refine (rhas_is _ _ _ _ _ _ _ H3 _).mono ?_; rintro e w4 ⟨rfl, hk4⟩
  obtain ⟨ka4, kb4, kc4⟩ := hk4.rules
  obtain ⟨ka4_1, kb4_1⟩ := hk4.rule_at (Nat.le_trans kc1 (by (try simp only [World.size_alloc, World.size_setCell, World.size_drew]) <;> omega))
  obtain ⟨ka4_2, kb4_2⟩ := hk4.rule_at (Nat.le_trans kc2 (by (try simp only [World.size_alloc, World.size_setCell, World.size_drew]) <;> omega))
  obtain ⟨ka4_3, kb4_3⟩ := hk4.rule_at (Nat.le_trans kc3 (by (try simp only [World.size_alloc, World.size_setCell, World.size_drew]) <;> omega))
  have kc4_1 := Nat.le_trans kc1 (Nat.le_trans (by (try simp only [World.size_alloc, World.size_setCell, World.size_drew]) <;> omega) hk4.size)
  have kc4_2 := Nat.le_trans kc2 (Nat.le_trans (by (try simp only [World.size_alloc, World.size_setCell, World.size_drew]) <;> omega) hk4.size)
  have kc4_3 := Nat.le_trans kc3 (Nat.le_trans (by (try simp only [World.size_alloc, World.size_setCell, World.size_drew]) <;> omega) hk4.size)
  have HK4 := Lib.hid hk4
  clear hk4
  try simp only [World.size_alloc, World.size_setCell, World.size_drew] at ka4 kb4 kc4
  try have ke4_1 := Nat.lt_of_succ_le kc4
  try have ke4_2 := Nat.lt_of_succ_lt ke4_1
  try have ke4_3 := Nat.lt_of_succ_lt ke4_2
  try have ke4_4 := Nat.lt_of_succ_lt ke4_3
  try have ke4_5 := Nat.lt_of_succ_lt ke4_4
  try have ke4_1_1 := Nat.lt_of_succ_le kc4_1
  try have ke4_1_2 := Nat.lt_of_succ_lt ke4_1_1
  try have ke4_1_3 := Nat.lt_of_succ_lt ke4_1_2
  try have ke4_1_4 := Nat.lt_of_succ_lt ke4_1_3
  try have ke4_1_5 := Nat.lt_of_succ_lt ke4_1_4
  try have ke4_2_1 := Nat.lt_of_succ_le kc4_2
  try have ke4_2_2 := Nat.lt_of_succ_lt ke4_2_1
  try have ke4_2_3 := Nat.lt_of_succ_lt ke4_2_2
  try have ke4_2_4 := Nat.lt_of_succ_lt ke4_2_3
  try have ke4_2_5 := Nat.lt_of_succ_lt ke4_2_4
  try have ke4_3_1 := Nat.lt_of_succ_le kc4_3
  try have ke4_3_2 := Nat.lt_of_succ_lt ke4_3_1
  try have ke4_3_3 := Nat.lt_of_succ_lt ke4_3_2
  try have ke4_3_4 := Nat.lt_of_succ_lt ke4_3_3
  try have ke4_3_5 := Nat.lt_of_succ_lt ke4_3_4
  go_wp2_with fail
  refine wp_region_keep (by kernel_rfl) (by kernel_rfl) (fun T5 hT5 WW5 hg5 HC5 => ?_)
  obtain ⟨ra5, rb5, rc5⟩ := keep_rules_at hg5 (Nat.le_refl _)
  obtain ⟨ra5_1, rb5_1, rc5_1⟩ := keep_rules_at hg5 (Nat.le_trans kc1 (by (try simp only [World.size_alloc, World.size_setCell, World.size_drew]) <;> omega))
  obtain ⟨ra5_2, rb5_2, rc5_2⟩ := keep_rules_at hg5 (Nat.le_trans kc2 (by (try simp only [World.size_alloc, World.size_setCell, World.size_drew]) <;> omega))
  obtain ⟨ra5_3, rb5_3, rc5_3⟩ := keep_rules_at hg5 (Nat.le_trans kc3 (by (try simp only [World.size_alloc, World.size_setCell, World.size_drew]) <;> omega))
  obtain ⟨ra5_4, rb5_4, rc5_4⟩ := keep_rules_at hg5 (Nat.le_trans kc4 (by (try simp only [World.size_alloc, World.size_setCell, World.size_drew]) <;> omega))
  have HG5 := Lib.hid hg5
  clear hg5
  try simp only [World.size_alloc, World.size_setCell, World.size_drew] at ra5 rb5 rc5
  repeat (go_big_quiet_step (first | (go_at_call 27; with_reducible apply keep_call HC5 HG5 (bwithin_is _ _ _ _ _ _ _ _ _ H4 _)) | (go_at_call 27; with_reducible apply keep_call HC5 HG5 (bwithin_is _ _ _ _ _ _ _ _ _ H5 _)) | (go_at_call 27; with_reducible apply keep_call HC5 HG5 (bwithin_is _ _ _ _ _ _ _ _ _ H6 _)) | (go_at_call 28; with_reducible apply keep_call HC5 HG5 (lives4_any _))))
  refine wpQuiet_nil ?_
  intro w5 hw5
  obtain ⟨x5, rfl⟩ := hw5
  have HK5 := Lib.hid (HG5.out x5)
  have kc5 := rc5 x5
  go_wp2_with fail
  go_ret
  refine ⟨rfl, Keep.below ?_⟩
  (repeat (first | exact Keep.refl _ _ | (with_reducible refine Keep.trans ?_ HK1.out) | (with_reducible refine Keep.trans ?_ HK2.out) | (with_reducible refine Keep.trans ?_ HK3.out) | (with_reducible refine Keep.trans ?_ HK4.out) | (with_reducible refine Keep.trans ?_ HK5.out) | (with_reducible refine Keep.setCell ?_ (by simp <;> omega) _) | (with_reducible refine Keep.alloc ?_ _) | (with_reducible refine Keep.drew ?_) | (with_reducible refine Keep.drewN ?_ _)))

set_option maxHeartbeats 2000000 in
theorem boxMeets_cf (x1 x2 y1 y2 u1 u2 v1 v2 m1 m2 m3 m4 i x y : Int) (w : World) (hx : m1 ≤ m2) (hy : m3 ≤ m4) (he : eqB m1 m2 m3 m4 x1 x2 y1 y2 = false)
    (H : Hid (someB x1 x2 y1 y2 = true ∧ someB u1 u2 v1 v2 = true ∧ someB m1 m2 m3 m4 = true ∧ m1 = maxI x1 u1 ∧ m2 = minI x2 u2 ∧ m3 = maxI y1 v1 ∧ m4 = minI y2 v2))
    (H1 : Hid (hasB x1 x2 y1 y2 x y = true)) (H2 : Hid (hasB u1 u2 v1 v2 x y = true)) (H3 : Hid (hasB m1 m2 m3 m4 x y = true)) (H4 : Hid (withinB x1 x2 y1 y2 u1 u2 v1 v2 = false)) (H5 : Hid (withinB m1 m2 m3 m4 x1 x2 y1 y2 = true)) (H6 : Hid (withinB m1 m2 m3 m4 u1 u2 v1 v2 = true)) :
    Calls Try.prog 8 #[.agg #[.int .i64 x1, .int .i64 x2, .int .i64 y1, .int .i64 y2], .agg #[.int .i64 u1, .int .i64 u2, .int .i64 v1, .int .i64 v2], .agg #[.int .i64 i, .int .i64 x, .int .i64 y]] w fun e w' => e = .returned (.bool true) ∧ Below w.heap.size w w' := by
  go_enter Try.func8, Try.ntmps8
  go_wp2_with fail
  refine (meet_is _ _ _ _ _ _ _ _ m1 m2 m3 m4 H _).mono ?_; rintro e w1 ⟨rfl, hk1⟩
  obtain ⟨ka1, kb1, kc1⟩ := hk1.rules
  have HK1 := Lib.hid hk1
  clear hk1
  try simp only [World.size_alloc, World.size_setCell, World.size_drew] at ka1 kb1 kc1
  try have ke1_1 := Nat.lt_of_succ_le kc1
  try have ke1_2 := Nat.lt_of_succ_lt ke1_1
  try have ke1_3 := Nat.lt_of_succ_lt ke1_2
  try have ke1_4 := Nat.lt_of_succ_lt ke1_3
  try have ke1_5 := Nat.lt_of_succ_lt ke1_4
  go_wp2_with fail
  refine (rhas_is _ _ _ _ _ _ _ H1 _).mono ?_; rintro e w2 ⟨rfl, hk2⟩
  obtain ⟨ka2, kb2, kc2⟩ := hk2.rules
  obtain ⟨ka2_1, kb2_1⟩ := hk2.rule_at (Nat.le_trans kc1 (by (try simp only [World.size_alloc, World.size_setCell, World.size_drew]) <;> omega))
  have kc2_1 := Nat.le_trans kc1 (Nat.le_trans (by (try simp only [World.size_alloc, World.size_setCell, World.size_drew]) <;> omega) hk2.size)
  have HK2 := Lib.hid hk2
  clear hk2
  try simp only [World.size_alloc, World.size_setCell, World.size_drew] at ka2 kb2 kc2
  try have ke2_1 := Nat.lt_of_succ_le kc2
  try have ke2_2 := Nat.lt_of_succ_lt ke2_1
  try have ke2_3 := Nat.lt_of_succ_lt ke2_2
  try have ke2_4 := Nat.lt_of_succ_lt ke2_3
  try have ke2_5 := Nat.lt_of_succ_lt ke2_4
  try have ke2_1_1 := Nat.lt_of_succ_le kc2_1
  try have ke2_1_2 := Nat.lt_of_succ_lt ke2_1_1
  try have ke2_1_3 := Nat.lt_of_succ_lt ke2_1_2
  try have ke2_1_4 := Nat.lt_of_succ_lt ke2_1_3
  try have ke2_1_5 := Nat.lt_of_succ_lt ke2_1_4
  go_wp2_with fail
  refine (rhas_is _ _ _ _ _ _ _ H2 _).mono ?_; rintro e w3 ⟨rfl, hk3⟩
  obtain ⟨ka3, kb3, kc3⟩ := hk3.rules
  obtain ⟨ka3_1, kb3_1⟩ := hk3.rule_at (Nat.le_trans kc1 (by (try simp only [World.size_alloc, World.size_setCell, World.size_drew]) <;> omega))
  obtain ⟨ka3_2, kb3_2⟩ := hk3.rule_at (Nat.le_trans kc2 (by (try simp only [World.size_alloc, World.size_setCell, World.size_drew]) <;> omega))
  have kc3_1 := Nat.le_trans kc1 (Nat.le_trans (by (try simp only [World.size_alloc, World.size_setCell, World.size_drew]) <;> omega) hk3.size)
  have kc3_2 := Nat.le_trans kc2 (Nat.le_trans (by (try simp only [World.size_alloc, World.size_setCell, World.size_drew]) <;> omega) hk3.size)
  have HK3 := Lib.hid hk3
  clear hk3
  try simp only [World.size_alloc, World.size_setCell, World.size_drew] at ka3 kb3 kc3
  try have ke3_1 := Nat.lt_of_succ_le kc3
  try have ke3_2 := Nat.lt_of_succ_lt ke3_1
  try have ke3_3 := Nat.lt_of_succ_lt ke3_2
  try have ke3_4 := Nat.lt_of_succ_lt ke3_3
  try have ke3_5 := Nat.lt_of_succ_lt ke3_4
  try have ke3_1_1 := Nat.lt_of_succ_le kc3_1
  try have ke3_1_2 := Nat.lt_of_succ_lt ke3_1_1
  try have ke3_1_3 := Nat.lt_of_succ_lt ke3_1_2
  try have ke3_1_4 := Nat.lt_of_succ_lt ke3_1_3
  try have ke3_1_5 := Nat.lt_of_succ_lt ke3_1_4
  try have ke3_2_1 := Nat.lt_of_succ_le kc3_2
  try have ke3_2_2 := Nat.lt_of_succ_lt ke3_2_1
  try have ke3_2_3 := Nat.lt_of_succ_lt ke3_2_2
  try have ke3_2_4 := Nat.lt_of_succ_lt ke3_2_3
  try have ke3_2_5 := Nat.lt_of_succ_lt ke3_2_4
  go_wp2_with fail
  refine (rhas_is _ _ _ _ _ _ _ H3 _).mono ?_; rintro e w4 ⟨rfl, hk4⟩
  obtain ⟨ka4, kb4, kc4⟩ := hk4.rules
  obtain ⟨ka4_1, kb4_1⟩ := hk4.rule_at (Nat.le_trans kc1 (by (try simp only [World.size_alloc, World.size_setCell, World.size_drew]) <;> omega))
  obtain ⟨ka4_2, kb4_2⟩ := hk4.rule_at (Nat.le_trans kc2 (by (try simp only [World.size_alloc, World.size_setCell, World.size_drew]) <;> omega))
  obtain ⟨ka4_3, kb4_3⟩ := hk4.rule_at (Nat.le_trans kc3 (by (try simp only [World.size_alloc, World.size_setCell, World.size_drew]) <;> omega))
  have kc4_1 := Nat.le_trans kc1 (Nat.le_trans (by (try simp only [World.size_alloc, World.size_setCell, World.size_drew]) <;> omega) hk4.size)
  have kc4_2 := Nat.le_trans kc2 (Nat.le_trans (by (try simp only [World.size_alloc, World.size_setCell, World.size_drew]) <;> omega) hk4.size)
  have kc4_3 := Nat.le_trans kc3 (Nat.le_trans (by (try simp only [World.size_alloc, World.size_setCell, World.size_drew]) <;> omega) hk4.size)
  have HK4 := Lib.hid hk4
  clear hk4
  try simp only [World.size_alloc, World.size_setCell, World.size_drew] at ka4 kb4 kc4
  try have ke4_1 := Nat.lt_of_succ_le kc4
  try have ke4_2 := Nat.lt_of_succ_lt ke4_1
  try have ke4_3 := Nat.lt_of_succ_lt ke4_2
  try have ke4_4 := Nat.lt_of_succ_lt ke4_3
  try have ke4_5 := Nat.lt_of_succ_lt ke4_4
  try have ke4_1_1 := Nat.lt_of_succ_le kc4_1
  try have ke4_1_2 := Nat.lt_of_succ_lt ke4_1_1
  try have ke4_1_3 := Nat.lt_of_succ_lt ke4_1_2
  try have ke4_1_4 := Nat.lt_of_succ_lt ke4_1_3
  try have ke4_1_5 := Nat.lt_of_succ_lt ke4_1_4
  try have ke4_2_1 := Nat.lt_of_succ_le kc4_2
  try have ke4_2_2 := Nat.lt_of_succ_lt ke4_2_1
  try have ke4_2_3 := Nat.lt_of_succ_lt ke4_2_2
  try have ke4_2_4 := Nat.lt_of_succ_lt ke4_2_3
  try have ke4_2_5 := Nat.lt_of_succ_lt ke4_2_4
  try have ke4_3_1 := Nat.lt_of_succ_le kc4_3
  try have ke4_3_2 := Nat.lt_of_succ_lt ke4_3_1
  try have ke4_3_3 := Nat.lt_of_succ_lt ke4_3_2
  try have ke4_3_4 := Nat.lt_of_succ_lt ke4_3_3
  try have ke4_3_5 := Nat.lt_of_succ_lt ke4_3_4
  go_wp2_with fail
  refine wp_region_keep (by kernel_rfl) (by kernel_rfl) (fun T5 hT5 WW5 hg5 HC5 => ?_)
  obtain ⟨ra5, rb5, rc5⟩ := keep_rules_at hg5 (Nat.le_refl _)
  obtain ⟨ra5_1, rb5_1, rc5_1⟩ := keep_rules_at hg5 (Nat.le_trans kc1 (by (try simp only [World.size_alloc, World.size_setCell, World.size_drew]) <;> omega))
  obtain ⟨ra5_2, rb5_2, rc5_2⟩ := keep_rules_at hg5 (Nat.le_trans kc2 (by (try simp only [World.size_alloc, World.size_setCell, World.size_drew]) <;> omega))
  obtain ⟨ra5_3, rb5_3, rc5_3⟩ := keep_rules_at hg5 (Nat.le_trans kc3 (by (try simp only [World.size_alloc, World.size_setCell, World.size_drew]) <;> omega))
  obtain ⟨ra5_4, rb5_4, rc5_4⟩ := keep_rules_at hg5 (Nat.le_trans kc4 (by (try simp only [World.size_alloc, World.size_setCell, World.size_drew]) <;> omega))
  have HG5 := Lib.hid hg5
  clear hg5
  try simp only [World.size_alloc, World.size_setCell, World.size_drew] at ra5 rb5 rc5
  repeat (go_big_quiet_step (first | (go_at_call 27; with_reducible apply keep_call HC5 HG5 (bwithin_is _ _ _ _ _ _ _ _ _ H4 _)) | (go_at_call 27; with_reducible apply keep_call HC5 HG5 (bwithin_is _ _ _ _ _ _ _ _ _ H5 _)) | (go_at_call 27; with_reducible apply keep_call HC5 HG5 (bwithin_is _ _ _ _ _ _ _ _ _ H6 _)) | (go_at_call 28; with_reducible apply keep_call HC5 HG5 (lives4_any _))))
  refine wpQuiet_nil ?_
  intro w5 hw5
  obtain ⟨x5, rfl⟩ := hw5
  have HK5 := Lib.hid (HG5.out x5)
  have kc5 := rc5 x5
  go_wp2_with fail
  go_ret
  refine ⟨rfl, Keep.below ?_⟩
  (repeat (first | exact Keep.refl _ _ | (with_reducible refine Keep.trans ?_ HK1.out) | (with_reducible refine Keep.trans ?_ HK2.out) | (with_reducible refine Keep.trans ?_ HK3.out) | (with_reducible refine Keep.trans ?_ HK4.out) | (with_reducible refine Keep.trans ?_ HK5.out) | (with_reducible refine Keep.setCell ?_ (by simp <;> omega) _) | (with_reducible refine Keep.alloc ?_ _) | (with_reducible refine Keep.drew ?_) | (with_reducible refine Keep.drewN ?_ _)))

set_option maxHeartbeats 2000000 in
theorem boxMeets_ct (x1 x2 y1 y2 u1 u2 v1 v2 m1 m2 m3 m4 i x y : Int) (w : World) (hx : m1 ≤ m2) (hy : m3 ≤ m4) (he : eqB m1 m2 m3 m4 x1 x2 y1 y2 = true)
    (H : Hid (someB x1 x2 y1 y2 = true ∧ someB u1 u2 v1 v2 = true ∧ someB m1 m2 m3 m4 = true ∧ m1 = maxI x1 u1 ∧ m2 = minI x2 u2 ∧ m3 = maxI y1 v1 ∧ m4 = minI y2 v2))
    (H1 : Hid (hasB x1 x2 y1 y2 x y = true)) (H2 : Hid (hasB u1 u2 v1 v2 x y = true)) (H3 : Hid (hasB m1 m2 m3 m4 x y = true)) (H4 : Hid (withinB x1 x2 y1 y2 u1 u2 v1 v2 = true)) (H5 : Hid (withinB m1 m2 m3 m4 x1 x2 y1 y2 = true)) (H6 : Hid (withinB m1 m2 m3 m4 u1 u2 v1 v2 = true)) :
    Calls Try.prog 8 #[.agg #[.int .i64 x1, .int .i64 x2, .int .i64 y1, .int .i64 y2], .agg #[.int .i64 u1, .int .i64 u2, .int .i64 v1, .int .i64 v2], .agg #[.int .i64 i, .int .i64 x, .int .i64 y]] w fun e w' => e = .returned (.bool true) ∧ Below w.heap.size w w' := by
  go_enter Try.func8, Try.ntmps8
  go_wp2_with fail
  refine (meet_is _ _ _ _ _ _ _ _ m1 m2 m3 m4 H _).mono ?_; rintro e w1 ⟨rfl, hk1⟩
  obtain ⟨ka1, kb1, kc1⟩ := hk1.rules
  have HK1 := Lib.hid hk1
  clear hk1
  try simp only [World.size_alloc, World.size_setCell, World.size_drew] at ka1 kb1 kc1
  try have ke1_1 := Nat.lt_of_succ_le kc1
  try have ke1_2 := Nat.lt_of_succ_lt ke1_1
  try have ke1_3 := Nat.lt_of_succ_lt ke1_2
  try have ke1_4 := Nat.lt_of_succ_lt ke1_3
  try have ke1_5 := Nat.lt_of_succ_lt ke1_4
  go_wp2_with fail
  refine (rhas_is _ _ _ _ _ _ _ H1 _).mono ?_; rintro e w2 ⟨rfl, hk2⟩
  obtain ⟨ka2, kb2, kc2⟩ := hk2.rules
  obtain ⟨ka2_1, kb2_1⟩ := hk2.rule_at (Nat.le_trans kc1 (by (try simp only [World.size_alloc, World.size_setCell, World.size_drew]) <;> omega))
  have kc2_1 := Nat.le_trans kc1 (Nat.le_trans (by (try simp only [World.size_alloc, World.size_setCell, World.size_drew]) <;> omega) hk2.size)
  have HK2 := Lib.hid hk2
  clear hk2
  try simp only [World.size_alloc, World.size_setCell, World.size_drew] at ka2 kb2 kc2
  try have ke2_1 := Nat.lt_of_succ_le kc2
  try have ke2_2 := Nat.lt_of_succ_lt ke2_1
  try have ke2_3 := Nat.lt_of_succ_lt ke2_2
  try have ke2_4 := Nat.lt_of_succ_lt ke2_3
  try have ke2_5 := Nat.lt_of_succ_lt ke2_4
  try have ke2_1_1 := Nat.lt_of_succ_le kc2_1
  try have ke2_1_2 := Nat.lt_of_succ_lt ke2_1_1
  try have ke2_1_3 := Nat.lt_of_succ_lt ke2_1_2
  try have ke2_1_4 := Nat.lt_of_succ_lt ke2_1_3
  try have ke2_1_5 := Nat.lt_of_succ_lt ke2_1_4
  go_wp2_with fail
  refine (rhas_is _ _ _ _ _ _ _ H2 _).mono ?_; rintro e w3 ⟨rfl, hk3⟩
  obtain ⟨ka3, kb3, kc3⟩ := hk3.rules
  obtain ⟨ka3_1, kb3_1⟩ := hk3.rule_at (Nat.le_trans kc1 (by (try simp only [World.size_alloc, World.size_setCell, World.size_drew]) <;> omega))
  obtain ⟨ka3_2, kb3_2⟩ := hk3.rule_at (Nat.le_trans kc2 (by (try simp only [World.size_alloc, World.size_setCell, World.size_drew]) <;> omega))
  have kc3_1 := Nat.le_trans kc1 (Nat.le_trans (by (try simp only [World.size_alloc, World.size_setCell, World.size_drew]) <;> omega) hk3.size)
  have kc3_2 := Nat.le_trans kc2 (Nat.le_trans (by (try simp only [World.size_alloc, World.size_setCell, World.size_drew]) <;> omega) hk3.size)
  have HK3 := Lib.hid hk3
  clear hk3
  try simp only [World.size_alloc, World.size_setCell, World.size_drew] at ka3 kb3 kc3
  try have ke3_1 := Nat.lt_of_succ_le kc3
  try have ke3_2 := Nat.lt_of_succ_lt ke3_1
  try have ke3_3 := Nat.lt_of_succ_lt ke3_2
  try have ke3_4 := Nat.lt_of_succ_lt ke3_3
  try have ke3_5 := Nat.lt_of_succ_lt ke3_4
  try have ke3_1_1 := Nat.lt_of_succ_le kc3_1
  try have ke3_1_2 := Nat.lt_of_succ_lt ke3_1_1
  try have ke3_1_3 := Nat.lt_of_succ_lt ke3_1_2
  try have ke3_1_4 := Nat.lt_of_succ_lt ke3_1_3
  try have ke3_1_5 := Nat.lt_of_succ_lt ke3_1_4
  try have ke3_2_1 := Nat.lt_of_succ_le kc3_2
  try have ke3_2_2 := Nat.lt_of_succ_lt ke3_2_1
  try have ke3_2_3 := Nat.lt_of_succ_lt ke3_2_2
  try have ke3_2_4 := Nat.lt_of_succ_lt ke3_2_3
  try have ke3_2_5 := Nat.lt_of_succ_lt ke3_2_4
  go_wp2_with fail
  refine (rhas_is _ _ _ _ _ _ _ H3 _).mono ?_; rintro e w4 ⟨rfl, hk4⟩
  obtain ⟨ka4, kb4, kc4⟩ := hk4.rules
  obtain ⟨ka4_1, kb4_1⟩ := hk4.rule_at (Nat.le_trans kc1 (by (try simp only [World.size_alloc, World.size_setCell, World.size_drew]) <;> omega))
  obtain ⟨ka4_2, kb4_2⟩ := hk4.rule_at (Nat.le_trans kc2 (by (try simp only [World.size_alloc, World.size_setCell, World.size_drew]) <;> omega))
  obtain ⟨ka4_3, kb4_3⟩ := hk4.rule_at (Nat.le_trans kc3 (by (try simp only [World.size_alloc, World.size_setCell, World.size_drew]) <;> omega))
  have kc4_1 := Nat.le_trans kc1 (Nat.le_trans (by (try simp only [World.size_alloc, World.size_setCell, World.size_drew]) <;> omega) hk4.size)
  have kc4_2 := Nat.le_trans kc2 (Nat.le_trans (by (try simp only [World.size_alloc, World.size_setCell, World.size_drew]) <;> omega) hk4.size)
  have kc4_3 := Nat.le_trans kc3 (Nat.le_trans (by (try simp only [World.size_alloc, World.size_setCell, World.size_drew]) <;> omega) hk4.size)
  have HK4 := Lib.hid hk4
  clear hk4
  try simp only [World.size_alloc, World.size_setCell, World.size_drew] at ka4 kb4 kc4
  try have ke4_1 := Nat.lt_of_succ_le kc4
  try have ke4_2 := Nat.lt_of_succ_lt ke4_1
  try have ke4_3 := Nat.lt_of_succ_lt ke4_2
  try have ke4_4 := Nat.lt_of_succ_lt ke4_3
  try have ke4_5 := Nat.lt_of_succ_lt ke4_4
  try have ke4_1_1 := Nat.lt_of_succ_le kc4_1
  try have ke4_1_2 := Nat.lt_of_succ_lt ke4_1_1
  try have ke4_1_3 := Nat.lt_of_succ_lt ke4_1_2
  try have ke4_1_4 := Nat.lt_of_succ_lt ke4_1_3
  try have ke4_1_5 := Nat.lt_of_succ_lt ke4_1_4
  try have ke4_2_1 := Nat.lt_of_succ_le kc4_2
  try have ke4_2_2 := Nat.lt_of_succ_lt ke4_2_1
  try have ke4_2_3 := Nat.lt_of_succ_lt ke4_2_2
  try have ke4_2_4 := Nat.lt_of_succ_lt ke4_2_3
  try have ke4_2_5 := Nat.lt_of_succ_lt ke4_2_4
  try have ke4_3_1 := Nat.lt_of_succ_le kc4_3
  try have ke4_3_2 := Nat.lt_of_succ_lt ke4_3_1
  try have ke4_3_3 := Nat.lt_of_succ_lt ke4_3_2
  try have ke4_3_4 := Nat.lt_of_succ_lt ke4_3_3
  try have ke4_3_5 := Nat.lt_of_succ_lt ke4_3_4
  go_wp2_with fail
  refine wp_region_keep (by kernel_rfl) (by kernel_rfl) (fun T5 hT5 WW5 hg5 HC5 => ?_)
  obtain ⟨ra5, rb5, rc5⟩ := keep_rules_at hg5 (Nat.le_refl _)
  obtain ⟨ra5_1, rb5_1, rc5_1⟩ := keep_rules_at hg5 (Nat.le_trans kc1 (by (try simp only [World.size_alloc, World.size_setCell, World.size_drew]) <;> omega))
  obtain ⟨ra5_2, rb5_2, rc5_2⟩ := keep_rules_at hg5 (Nat.le_trans kc2 (by (try simp only [World.size_alloc, World.size_setCell, World.size_drew]) <;> omega))
  obtain ⟨ra5_3, rb5_3, rc5_3⟩ := keep_rules_at hg5 (Nat.le_trans kc3 (by (try simp only [World.size_alloc, World.size_setCell, World.size_drew]) <;> omega))
  obtain ⟨ra5_4, rb5_4, rc5_4⟩ := keep_rules_at hg5 (Nat.le_trans kc4 (by (try simp only [World.size_alloc, World.size_setCell, World.size_drew]) <;> omega))
  have HG5 := Lib.hid hg5
  clear hg5
  try simp only [World.size_alloc, World.size_setCell, World.size_drew] at ra5 rb5 rc5
  repeat (go_big_quiet_step (first | (go_at_call 27; with_reducible apply keep_call HC5 HG5 (bwithin_is _ _ _ _ _ _ _ _ _ H4 _)) | (go_at_call 27; with_reducible apply keep_call HC5 HG5 (bwithin_is _ _ _ _ _ _ _ _ _ H5 _)) | (go_at_call 27; with_reducible apply keep_call HC5 HG5 (bwithin_is _ _ _ _ _ _ _ _ _ H6 _)) | (go_at_call 28; with_reducible apply keep_call HC5 HG5 (lives4_any _))))
  refine wpQuiet_nil ?_
  intro w5 hw5
  obtain ⟨x5, rfl⟩ := hw5
  have HK5 := Lib.hid (HG5.out x5)
  have kc5 := rc5 x5
  go_wp2_with fail
  go_ret
  refine ⟨rfl, Keep.below ?_⟩
  (repeat (first | exact Keep.refl _ _ | (with_reducible refine Keep.trans ?_ HK1.out) | (with_reducible refine Keep.trans ?_ HK2.out) | (with_reducible refine Keep.trans ?_ HK3.out) | (with_reducible refine Keep.trans ?_ HK4.out) | (with_reducible refine Keep.trans ?_ HK5.out) | (with_reducible refine Keep.setCell ?_ (by simp <;> omega) _) | (with_reducible refine Keep.alloc ?_ _) | (with_reducible refine Keep.drew ?_) | (with_reducible refine Keep.drewN ?_ _)))

theorem boxMeets_walk (x1 x2 y1 y2 u1 u2 v1 v2 i x y : Int) (w : World) :
    Calls Try.prog 8 #[.agg #[.int .i64 x1, .int .i64 x2, .int .i64 y1, .int .i64 y2], .agg #[.int .i64 u1, .int .i64 u2, .int .i64 v1, .int .i64 v2], .agg #[.int .i64 i, .int .i64 x, .int .i64 y]] w fun e w' => e = .returned (.bool true) ∧ Below w.heap.size w w' := by
  rcases ho : (someB x1 x2 y1 y2 && (someB u1 u2 v1 v2 && someB (maxI x1 u1) (minI x2 u2) (maxI y1 v1) (minI y2 v2))) with _ | _
  · refine boxMeets_no x1 x2 y1 y2 u1 u2 v1 v2 i x y w (hasB x1 x2 y1 y2 x y) ho rfl ?_ ?_
    · intro h1
      rw [← Bool.not_eq_true]
      intro h2
      rw [← Bool.not_eq_true] at ho
      apply ho
      simp [hasB, inB, someB, maxI_eq, minI_eq] at h1 h2 ⊢
      omega
    · show _ = false
      rw [← Bool.not_eq_true]
      intro h2
      rw [← Bool.not_eq_true] at ho
      apply ho
      simp [withinB, someB, maxI_eq, minI_eq] at h2 ⊢
      omega
  · simp only [Bool.and_eq_true] at ho
    obtain ⟨o1, o2, o3⟩ := ho
    obtain ⟨m1, e1⟩ : ∃ m, m = maxI x1 u1 := ⟨_, rfl⟩
    obtain ⟨m2, e2⟩ : ∃ m, m = minI x2 u2 := ⟨_, rfl⟩
    obtain ⟨m3, e3⟩ : ∃ m, m = maxI y1 v1 := ⟨_, rfl⟩
    obtain ⟨m4, e4⟩ : ∃ m, m = minI y2 v2 := ⟨_, rfl⟩
    rw [← e1, ← e2, ← e3, ← e4] at o3
    have f1 := e1.trans (maxI_eq _ _)
    have f2 := e2.trans (minI_eq _ _)
    have f3 := e3.trans (maxI_eq _ _)
    have f4 := e4.trans (minI_eq _ _)
    have hm : m1 ≤ m2 ∧ m3 ≤ m4 := by simpa [someB] using o3
    have H : Hid (someB x1 x2 y1 y2 = true ∧ someB u1 u2 v1 v2 = true ∧ someB m1 m2 m3 m4 = true ∧ m1 = maxI x1 u1 ∧ m2 = minI x2 u2 ∧ m3 = maxI y1 v1 ∧ m4 = minI y2 v2) := ⟨o1, o2, o3, e1, e2, e3, e4⟩
    have H5 : withinB m1 m2 m3 m4 x1 x2 y1 y2 = true := by simp [withinB, someB]; omega
    have H6 : withinB m1 m2 m3 m4 u1 u2 v1 v2 = true := by simp [withinB, someB]; omega
    have H4 : withinB x1 x2 y1 y2 u1 u2 v1 v2 = eqB m1 m2 m3 m4 x1 x2 y1 y2 := by
      rw [Bool.eq_iff_iff]
      simp [withinB, eqB, someB] at o1 ⊢
      omega
    have H3 : hasB m1 m2 m3 m4 x y = (hasB x1 x2 y1 y2 x y && hasB u1 u2 v1 v2 x y) := by
      rw [Bool.eq_iff_iff]
      simp [hasB, inB]
      omega
    clear e1 e2 e3 e4 f1 f2 f3 f4 o1 o2 o3
    rcases he : eqB m1 m2 m3 m4 x1 x2 y1 y2 with _ | _
    · rw [he] at H4
      rcases h1 : hasB x1 x2 y1 y2 x y with _ | _
      · exact boxMeets_af x1 x2 y1 y2 u1 u2 v1 v2 m1 m2 m3 m4 i x y w hm.1 hm.2 he H h1 (by show _ = false; rw [H3, h1]; rfl) H4 H5 H6
      · rcases h2 : hasB u1 u2 v1 v2 x y with _ | _
        · exact boxMeets_bf x1 x2 y1 y2 u1 u2 v1 v2 m1 m2 m3 m4 i x y w hm.1 hm.2 he H h1 h2 (by show _ = false; rw [H3, h1, h2]; rfl) H4 H5 H6
        · exact boxMeets_cf x1 x2 y1 y2 u1 u2 v1 v2 m1 m2 m3 m4 i x y w hm.1 hm.2 he H h1 h2 (by show _ = true; rw [H3, h1, h2]; rfl) H4 H5 H6
    · rw [he] at H4
      rcases h1 : hasB x1 x2 y1 y2 x y with _ | _
      · exact boxMeets_at x1 x2 y1 y2 u1 u2 v1 v2 m1 m2 m3 m4 i x y w hm.1 hm.2 he H h1 (by show _ = false; rw [H3, h1]; rfl) H4 H5 H6
      · rcases h2 : hasB u1 u2 v1 v2 x y with _ | _
        · exact boxMeets_bt x1 x2 y1 y2 u1 u2 v1 v2 m1 m2 m3 m4 i x y w hm.1 hm.2 he H h1 h2 (by show _ = false; rw [H3, h1, h2]; rfl) H4 H5 H6
        · exact boxMeets_ct x1 x2 y1 y2 u1 u2 v1 v2 m1 m2 m3 m4 i x y w hm.1 hm.2 he H h1 h2 (by show _ = true; rw [H3, h1, h2]; rfl) H4 H5 H6
end Go.Proofs.Ytlkhnhahepehkaa
