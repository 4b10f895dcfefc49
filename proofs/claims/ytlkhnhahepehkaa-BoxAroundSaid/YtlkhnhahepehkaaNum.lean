/- The contracts of package num and of its reference, by walks: each returns what plain integers say, where it fits in an int. -/
import Derived.Test.YtlkhnhahepehkaaProg
import Derived.WalkKit
import Derived.Lib.Hide
namespace Go.Proofs.Ytlkhnhahepehkaa
open Go.RowKit
def fits (n : Int) : Bool := decide (-9223372036854775808 ≤ n ∧ n ≤ 9223372036854775807)
theorem fits_out {n : Int} (h : fits n = true) : -9223372036854775808 ≤ n ∧ n ≤ 9223372036854775807 := by simpa [fits] using h
theorem fits_mk {n : Int} (h : -9223372036854775808 ≤ n ∧ n ≤ 9223372036854775807) : fits n = true := by simpa [fits] using h
theorem fits_not {n : Int} (h : fits n = false) : n < -9223372036854775808 ∨ 9223372036854775807 < n := by
  simp [fits] at h; omega
theorem fits_no {n : Int} (h : n < -9223372036854775808 ∨ 9223372036854775807 < n) : fits n = false := by
  simp [fits]; omega
/-- A number that fits, or that there is none. -/
def resN (n : Int) : Int := if fits n then n else 0
def resV (n : Int) : Value := .tuple #[.int .i64 (resN n), .bool (fits n)]
theorem resV_yes {n : Int} (h : -9223372036854775808 ≤ n ∧ n ≤ 9223372036854775807) : resV n = .tuple #[.int .i64 n, .bool true] := by simp [resV, resN, fits_mk h]
theorem resV_no {n : Int} (h : n < -9223372036854775808 ∨ 9223372036854775807 < n) : resV n = .tuple #[.int .i64 0, .bool false] := by simp [resV, resN, fits_no h]

set_option maxHeartbeats 400000 in
theorem add0_any (a b : Int) (ha : -9223372036854775808 ≤ a ∧ a ≤ 9223372036854775807) (hb : -9223372036854775808 ≤ b ∧ b ≤ 9223372036854775807) (w : World) :
    Calls Try.prog 41 #[.int .i64 a, .int .i64 b] w fun e w' => e = .returned (resV (a + b)) ∧ w = w' := by
  obtain ⟨a1, a2⟩ := ha
  obtain ⟨b1, b2⟩ := hb
  by_cases hf : -9223372036854775808 ≤ a + b ∧ a + b ≤ 9223372036854775807
  · rw [resV_yes hf]
    obtain ⟨c1, c2⟩ := hf
    by_cases h1 : 0 < b
    · have h2 : ¬ b < 0 := by omega
      go_enter Try.func41, Try.ntmps41
      go_wp2
      go_ret2
      exact ⟨rfl, rfl⟩
    · by_cases h2 : b < 0
      · go_enter Try.func41, Try.ntmps41
        go_wp2
        go_ret2
        exact ⟨rfl, rfl⟩
      · go_enter Try.func41, Try.ntmps41
        go_wp2
        go_ret2
        exact ⟨rfl, rfl⟩
  · have c : a + b < -9223372036854775808 ∨ 9223372036854775807 < a + b := by omega
    rw [resV_no c]; clear hf
    by_cases h1 : 0 < b
    · have h2 : ¬ b < 0 := by omega
      have c' : 9223372036854775807 - b < a := by omega
      go_enter Try.func41, Try.ntmps41
      go_wp2
      go_ret2
      exact ⟨rfl, rfl⟩
    · have h2 : b < 0 := by omega
      have c' : a < -9223372036854775808 - b := by omega
      go_enter Try.func41, Try.ntmps41
      go_wp2
      go_ret2
      exact ⟨rfl, rfl⟩

set_option maxHeartbeats 400000 in
theorem add_any (a b : Int) (ha : -9223372036854775808 ≤ a ∧ a ≤ 9223372036854775807) (hb : -9223372036854775808 ≤ b ∧ b ≤ 9223372036854775807) (w : World) :
    Calls Try.prog 12 #[.int .i64 a, .int .i64 b] w fun e w' => e = .returned (resV (a + b)) ∧ w = w' := by
  go_enter Try.func12, Try.ntmps12
  go_wp2_with (go_at_call 41; refine (add0_any _ _ ha hb _).mono ?_; rintro e w' ⟨rfl, rfl⟩; unfold resV)
  go_ret2
  exact ⟨rfl, rfl⟩

set_option maxHeartbeats 400000 in
theorem sub_any (a b : Int) (ha : -9223372036854775808 ≤ a ∧ a ≤ 9223372036854775807) (hb : -9223372036854775808 ≤ b ∧ b ≤ 9223372036854775807) (w : World) :
    Calls Try.prog 14 #[.int .i64 a, .int .i64 b] w fun e w' => e = .returned (resV (a - b)) ∧ w = w' := by
  obtain ⟨a1, a2⟩ := ha
  obtain ⟨b1, b2⟩ := hb
  by_cases hf : -9223372036854775808 ≤ a - b ∧ a - b ≤ 9223372036854775807
  · rw [resV_yes hf]
    obtain ⟨c1, c2⟩ := hf
    by_cases h1 : 0 < b
    · have h2 : ¬ b < 0 := by omega
      go_enter Try.func14, Try.ntmps14
      go_wp2
      go_ret2
      exact ⟨rfl, rfl⟩
    · by_cases h2 : b < 0
      · go_enter Try.func14, Try.ntmps14
        go_wp2
        go_ret2
        exact ⟨rfl, rfl⟩
      · go_enter Try.func14, Try.ntmps14
        go_wp2
        go_ret2
        exact ⟨rfl, rfl⟩
  · have c : a - b < -9223372036854775808 ∨ 9223372036854775807 < a - b := by omega
    rw [resV_no c]; clear hf
    by_cases h1 : 0 < b
    · have h2 : ¬ b < 0 := by omega
      have c' : a < -9223372036854775808 + b := by omega
      go_enter Try.func14, Try.ntmps14
      go_wp2
      go_ret2
      exact ⟨rfl, rfl⟩
    · have h2 : b < 0 := by omega
      have c' : 9223372036854775807 + b < a := by omega
      go_enter Try.func14, Try.ntmps14
      go_wp2
      go_ret2
      exact ⟨rfl, rfl⟩

theorem resV_eq {a b : Int} (h : a = b) : Ending.returned (.tuple #[.int .i64 (resN a), .bool (fits a)]) = .returned (resV b) := by rw [h]; rfl
theorem ret_int {k : IntKind} {a b : Int} (h : a = b) : Ending.returned (.int k a) = .returned (.int k b) := by rw [h]
theorem ret_bool {a b : Bool} (h : a = b) : Ending.returned (.bool a) = .returned (.bool b) := by rw [h]
theorem resV_cong {a b : Int} (h : a = b) : resV a = resV b := by rw [h]
theorem and_one_i64 (a : Int) : bits BinOp.and IntKind.i64 a 1 = a % 2 := by
  have e : (BitVec.ofInt 64 a &&& BitVec.ofInt 64 1).toNat = (a % 18446744073709551616).toNat % 2 := by
    rw [BitVec.toNat_and]
    rw [show (BitVec.ofInt 64 1).toNat = 1 from rfl, Nat.and_one_is_mod, BitVec.toNat_ofInt]
    rfl
  show IntKind.i64.wrap ((BitVec.ofInt 64 a &&& BitVec.ofInt 64 1).toNat : Int) = _
  rw [e, IntWalk.i64_in _ (by omega)]
  omega
theorem and_bits_i64 (a b : Int) : bits BinOp.and IntKind.i64 (a % 2) (b % 2) = (a % 2) * (b % 2) := by
  rcases Int.emod_two_eq a with ha | ha <;> rcases Int.emod_two_eq b with hb | hb <;> rw [ha, hb] <;> rfl

theorem mid_ref {a b : Int} (a1 : -9223372036854775808 ≤ a) (a2 : a ≤ 9223372036854775807) (b1 : -9223372036854775808 ≤ b) (b2 : b ≤ 9223372036854775807) (h : a ≤ b) :
    wrap64 (IntKind.u64.wrap (IntKind.u64.wrap a + IntKind.u64.wrap ((IntKind.u64.wrap (IntKind.u64.wrap b - IntKind.u64.wrap a)).tdiv 2))) = (a + b) / 2 := by
  have e1 : IntKind.u64.wrap (IntKind.u64.wrap b - IntKind.u64.wrap a) = b - a := by simp only [IntKind.wrap_u64]; omega
  rw [e1, Int.tdiv_eq_ediv_of_nonneg (by omega)]
  simp only [IntKind.wrap_u64, wrap64]
  omega

/-! The reference. -/
set_option maxHeartbeats 400000 in
theorem long_neg (a : Int) (h0 : a < 0) (h1 : -9223372036854775808 ≤ a) (w : World) :
    Calls Try.prog 42 #[.int .i64 a] w fun e w' => e = .returned (.tuple #[.bool true, .int .u64 (-a)]) ∧ w = w' := by
  go_enter Try.func42, Try.ntmps42
  go_wp2
  go_ret2
  exact ⟨by congr 3; simp; omega, rfl⟩

set_option maxHeartbeats 400000 in
theorem long_pos (a : Int) (h0 : 0 ≤ a) (h1 : a ≤ 9223372036854775807) (w : World) :
    Calls Try.prog 42 #[.int .i64 a] w fun e w' => e = .returned (.tuple #[.bool false, .int .u64 a]) ∧ w = w' := by
  go_enter Try.func42, Try.ntmps42
  go_wp2
  go_ret2
  exact ⟨rfl, rfl⟩

set_option maxHeartbeats 400000 in
theorem of_neg (n : Int) (h0 : 0 < n) (h1 : n ≤ 18446744073709551615) (w : World) :
    Calls Try.prog 50 #[.bool true, .int .u64 n] w fun e w' => e = .returned (resV (-n)) ∧ w = w' := by
  by_cases h : n ≤ 9223372036854775808
  · rw [resV_yes (by omega)]
    go_enter Try.func50, Try.ntmps50
    go_wp2
    go_ret2
    exact ⟨by congr 3; simp; omega, rfl⟩
  · rw [resV_no (by omega)]
    go_enter Try.func50, Try.ntmps50
    go_wp2
    go_ret2
    exact ⟨rfl, rfl⟩

set_option maxHeartbeats 400000 in
theorem of_pos (n : Int) (h0 : 0 < n) (h1 : n ≤ 18446744073709551615) (w : World) :
    Calls Try.prog 50 #[.bool false, .int .u64 n] w fun e w' => e = .returned (resV n) ∧ w = w' := by
  by_cases h : n ≤ 9223372036854775807
  · rw [resV_yes (by omega)]
    go_enter Try.func50, Try.ntmps50
    go_wp2
    go_ret2
    exact ⟨rfl, rfl⟩
  · rw [resV_no (by omega)]
    go_enter Try.func50, Try.ntmps50
    go_wp2
    go_ret2
    exact ⟨rfl, rfl⟩

/-- A number of a sign and a size. -/
def signed (neg : Bool) (n : Int) : Int := if neg then -n else n
set_option maxHeartbeats 400000 in
theorem made_any (neg : Bool) (n : Int) (h0 : 0 ≤ n) (h1 : n ≤ 18446744073709551615) (w : World) :
    Calls Try.prog 43 #[.bool neg, .int .u64 n] w fun e w' => e = .returned (resV (signed neg n)) ∧ w = w' := by
  by_cases hz : n = 0
  · subst hz
    have e : resV (signed neg 0) = .tuple #[.int .i64 0, .bool true] := by cases neg <;> exact resV_yes (by simp [signed])
    rw [e]; clear e
    go_enter Try.func43, Try.ntmps43
    go_wp2
    go_ret2
    exact ⟨rfl, rfl⟩
  · have hz' : ((n : Int) == 0) = false := by simpa using hz
    have hp : 0 < n := by omega
    clear hz
    cases neg
    · go_enter Try.func43, Try.ntmps43
      go_wp2_with (go_at_call 50; refine (of_pos _ hp h1 _).mono ?_; rintro e w' ⟨rfl, rfl⟩; unfold resV)
      go_ret2
      exact ⟨rfl, rfl⟩
    · go_enter Try.func43, Try.ntmps43
      go_wp2_with (go_at_call 50; refine (of_neg _ hp h1 _).mono ?_; rintro e w' ⟨rfl, rfl⟩; unfold resV)
      go_ret2
      exact ⟨rfl, rfl⟩

set_option maxHeartbeats 400000 in
theorem refadd_any (a b : Int) (ha : -9223372036854775808 ≤ a ∧ a ≤ 9223372036854775807) (hb : -9223372036854775808 ≤ b ∧ b ≤ 9223372036854775807) (w : World) :
    Calls Try.prog 13 #[.int .i64 a, .int .i64 b] w fun e w' => e = .returned (resV (a + b)) ∧ w = w' := by
  obtain ⟨a1, a2⟩ := ha
  obtain ⟨b1, b2⟩ := hb
  by_cases ha : a < 0
  · by_cases hb : b < 0
    · by_cases hs : -a + -b ≤ 18446744073709551615
      · have e : resV (a + b) = resV (signed true (-a + -b)) := resV_cong (by simp [signed] <;> omega)
        rw [e]; clear e
        go_enter Try.func13, Try.ntmps13
        go_wp2_with fail
        refine (long_neg a ha a1 _).mono ?_; rintro e w' ⟨rfl, rfl⟩
        go_wp2_with fail
        refine (long_neg b hb b1 _).mono ?_; rintro e w' ⟨rfl, rfl⟩
        go_wp2_with fail
        refine (made_any true _ (by omega) (by omega) _).mono ?_; rintro e w' ⟨rfl, rfl⟩; unfold resV
        go_wp2_with fail
        go_ret2
        exact ⟨resV_eq (by simp [signed] <;> omega), rfl⟩
      · have ea : a = -9223372036854775808 := by omega
        have eb : b = -9223372036854775808 := by omega
        subst ea eb
        rw [resV_no (by omega)]
        go_enter Try.func13, Try.ntmps13
        go_wp2_with fail
        refine (long_neg _ (by omega) (by omega) _).mono ?_; rintro e w' ⟨rfl, rfl⟩
        go_wp2_with fail
        refine (long_neg _ (by omega) (by omega) _).mono ?_; rintro e w' ⟨rfl, rfl⟩
        go_wp2_with fail
        go_ret2
        exact ⟨rfl, rfl⟩
    · have hp : 0 ≤ b := by omega
      clear hb
      by_cases hs : b ≤ -a
      · have e : resV (a + b) = resV (signed true (-a - b)) := resV_cong (by simp [signed] <;> omega)
        rw [e]; clear e
        go_enter Try.func13, Try.ntmps13
        go_wp2_with fail
        refine (long_neg _ (by omega) (by omega) _).mono ?_; rintro e w' ⟨rfl, rfl⟩
        go_wp2_with fail
        refine (long_pos _ (by omega) (by omega) _).mono ?_; rintro e w' ⟨rfl, rfl⟩
        go_wp2_with fail
        refine (made_any true _ (by omega) (by omega) _).mono ?_; rintro e w' ⟨rfl, rfl⟩; unfold resV
        go_wp2_with fail
        go_ret2
        exact ⟨resV_eq (by simp [signed] <;> omega), rfl⟩
      · have e : resV (a + b) = resV (signed false (b - -a)) := resV_cong (by simp [signed] <;> omega)
        rw [e]; clear e
        have hs' : -a < b := by omega
        clear hs
        go_enter Try.func13, Try.ntmps13
        go_wp2_with fail
        refine (long_neg _ (by omega) (by omega) _).mono ?_; rintro e w' ⟨rfl, rfl⟩
        go_wp2_with fail
        refine (long_pos _ (by omega) (by omega) _).mono ?_; rintro e w' ⟨rfl, rfl⟩
        go_wp2_with fail
        refine (made_any false _ (by omega) (by omega) _).mono ?_; rintro e w' ⟨rfl, rfl⟩; unfold resV
        go_wp2_with fail
        go_ret2
        exact ⟨resV_eq (by simp [signed] <;> omega), rfl⟩
  · have hpa : 0 ≤ a := by omega
    clear ha
    by_cases hb : b < 0
    · by_cases hs : -b ≤ a
      · have e : resV (a + b) = resV (signed false (a - -b)) := resV_cong (by simp [signed] <;> omega)
        rw [e]; clear e
        go_enter Try.func13, Try.ntmps13
        go_wp2_with fail
        refine (long_pos _ (by omega) (by omega) _).mono ?_; rintro e w' ⟨rfl, rfl⟩
        go_wp2_with fail
        refine (long_neg _ (by omega) (by omega) _).mono ?_; rintro e w' ⟨rfl, rfl⟩
        go_wp2_with fail
        refine (made_any false _ (by omega) (by omega) _).mono ?_; rintro e w' ⟨rfl, rfl⟩; unfold resV
        go_wp2_with fail
        go_ret2
        exact ⟨resV_eq (by simp [signed] <;> omega), rfl⟩
      · have e : resV (a + b) = resV (signed true (-b - a)) := resV_cong (by simp [signed] <;> omega)
        rw [e]; clear e
        have hs' : a < -b := by omega
        clear hs
        go_enter Try.func13, Try.ntmps13
        go_wp2_with fail
        refine (long_pos _ (by omega) (by omega) _).mono ?_; rintro e w' ⟨rfl, rfl⟩
        go_wp2_with fail
        refine (long_neg _ (by omega) (by omega) _).mono ?_; rintro e w' ⟨rfl, rfl⟩
        go_wp2_with fail
        refine (made_any true _ (by omega) (by omega) _).mono ?_; rintro e w' ⟨rfl, rfl⟩; unfold resV
        go_wp2_with fail
        go_ret2
        exact ⟨resV_eq (by simp [signed] <;> omega), rfl⟩
    · have hpb : 0 ≤ b := by omega
      clear hb
      have e : resV (a + b) = resV (signed false (a + b)) := by simp [signed]
      rw [e]; clear e
      go_enter Try.func13, Try.ntmps13
      go_wp2_with fail
      refine (long_pos _ (by omega) (by omega) _).mono ?_; rintro e w' ⟨rfl, rfl⟩
      go_wp2_with fail
      refine (long_pos _ (by omega) (by omega) _).mono ?_; rintro e w' ⟨rfl, rfl⟩
      go_wp2_with fail
      refine (made_any false _ (by omega) (by omega) _).mono ?_; rintro e w' ⟨rfl, rfl⟩; unfold resV
      go_wp2_with fail
      go_ret2
      exact ⟨resV_eq (by simp [signed] <;> omega), rfl⟩

set_option maxHeartbeats 400000 in
theorem refsub_any (a b : Int) (ha : -9223372036854775808 ≤ a ∧ a ≤ 9223372036854775807) (hb : -9223372036854775808 ≤ b ∧ b ≤ 9223372036854775807) (w : World) :
    Calls Try.prog 15 #[.int .i64 a, .int .i64 b] w fun e w' => e = .returned (resV (a - b)) ∧ w = w' := by
  obtain ⟨a1, a2⟩ := ha
  obtain ⟨b1, b2⟩ := hb
  by_cases ha : a < 0
  · by_cases hb : b < 0
    · by_cases hs : -b ≤ -a
      · have e : resV (a - b) = resV (signed true (-a - -b)) := resV_cong (by simp [signed] <;> omega)
        rw [e]; clear e
        go_enter Try.func15, Try.ntmps15
        go_wp2_with fail
        refine (long_neg _ (by omega) (by omega) _).mono ?_; rintro e w' ⟨rfl, rfl⟩
        go_wp2_with fail
        refine (long_neg _ (by omega) (by omega) _).mono ?_; rintro e w' ⟨rfl, rfl⟩
        go_wp2_with fail
        refine (made_any true _ (by omega) (by omega) _).mono ?_; rintro e w' ⟨rfl, rfl⟩; unfold resV
        go_wp2_with fail
        go_ret2
        exact ⟨resV_eq (by simp [signed] <;> omega), rfl⟩
      · have e : resV (a - b) = resV (signed false (-b - -a)) := resV_cong (by simp [signed] <;> omega)
        rw [e]; clear e
        have hs' : -a < -b := by omega
        clear hs
        go_enter Try.func15, Try.ntmps15
        go_wp2_with fail
        refine (long_neg _ (by omega) (by omega) _).mono ?_; rintro e w' ⟨rfl, rfl⟩
        go_wp2_with fail
        refine (long_neg _ (by omega) (by omega) _).mono ?_; rintro e w' ⟨rfl, rfl⟩
        go_wp2_with fail
        refine (made_any false _ (by omega) (by omega) _).mono ?_; rintro e w' ⟨rfl, rfl⟩; unfold resV
        go_wp2_with fail
        go_ret2
        exact ⟨resV_eq (by simp [signed] <;> omega), rfl⟩
    · have hp : 0 ≤ b := by omega
      clear hb
      have e : resV (a - b) = resV (signed true (-a + b)) := resV_cong (by simp [signed] <;> omega)
      rw [e]; clear e
      go_enter Try.func15, Try.ntmps15
      go_wp2_with fail
      refine (long_neg _ (by omega) (by omega) _).mono ?_; rintro e w' ⟨rfl, rfl⟩
      go_wp2_with fail
      refine (long_pos _ (by omega) (by omega) _).mono ?_; rintro e w' ⟨rfl, rfl⟩
      go_wp2_with fail
      refine (made_any true _ (by omega) (by omega) _).mono ?_; rintro e w' ⟨rfl, rfl⟩; unfold resV
      go_wp2_with fail
      go_ret2
      exact ⟨resV_eq (by simp [signed] <;> omega), rfl⟩
  · have hpa : 0 ≤ a := by omega
    clear ha
    by_cases hb : b < 0
    · have e : resV (a - b) = resV (signed false (a + -b)) := resV_cong (by simp [signed, Int.sub_eq_add_neg])
      rw [e]; clear e
      go_enter Try.func15, Try.ntmps15
      go_wp2_with fail
      refine (long_pos _ (by omega) (by omega) _).mono ?_; rintro e w' ⟨rfl, rfl⟩
      go_wp2_with fail
      refine (long_neg _ (by omega) (by omega) _).mono ?_; rintro e w' ⟨rfl, rfl⟩
      go_wp2_with fail
      refine (made_any false _ (by omega) (by omega) _).mono ?_; rintro e w' ⟨rfl, rfl⟩; unfold resV
      go_wp2_with fail
      go_ret2
      exact ⟨resV_eq (by simp [signed] <;> omega), rfl⟩
    · have hpb : 0 ≤ b := by omega
      clear hb
      by_cases hs : b ≤ a
      · have e : resV (a - b) = resV (signed false (a - b)) := by simp [signed]
        rw [e]; clear e
        go_enter Try.func15, Try.ntmps15
        go_wp2_with fail
        refine (long_pos _ (by omega) (by omega) _).mono ?_; rintro e w' ⟨rfl, rfl⟩
        go_wp2_with fail
        refine (long_pos _ (by omega) (by omega) _).mono ?_; rintro e w' ⟨rfl, rfl⟩
        go_wp2_with fail
        refine (made_any false _ (by omega) (by omega) _).mono ?_; rintro e w' ⟨rfl, rfl⟩; unfold resV
        go_wp2_with fail
        go_ret2
        exact ⟨resV_eq (by simp [signed] <;> omega), rfl⟩
      · have e : resV (a - b) = resV (signed true (b - a)) := resV_cong (by simp [signed]; omega)
        rw [e]; clear e
        have hs' : a < b := by omega
        clear hs
        go_enter Try.func15, Try.ntmps15
        go_wp2_with fail
        refine (long_pos _ (by omega) (by omega) _).mono ?_; rintro e w' ⟨rfl, rfl⟩
        go_wp2_with fail
        refine (long_pos _ (by omega) (by omega) _).mono ?_; rintro e w' ⟨rfl, rfl⟩
        go_wp2_with fail
        refine (made_any true _ (by omega) (by omega) _).mono ?_; rintro e w' ⟨rfl, rfl⟩; unfold resV
        go_wp2_with fail
        go_ret2
        exact ⟨resV_eq (by simp [signed] <;> omega), rfl⟩

set_option maxHeartbeats 400000 in
theorem neg_any (a : Int) (ha : -9223372036854775808 ≤ a ∧ a ≤ 9223372036854775807) (w : World) :
    Calls Try.prog 24 #[.int .i64 a] w fun e w' => e = .returned (resV (0 - a)) ∧ w = w' := by
  obtain ⟨a1, a2⟩ := ha
  by_cases hz : a = -9223372036854775808
  · subst hz
    rw [resV_no (by omega)]
    go_enter Try.func24, Try.ntmps24
    go_wp2
    go_ret2
    exact ⟨rfl, rfl⟩
  · have hz' : ((a : Int) == -9223372036854775808) = false := by simpa using hz
    have e : resV (0 - a) = .tuple #[.int .i64 (-a), .bool true] := by rw [resV_yes (by omega), Int.zero_sub]
    rw [e]; clear e
    have c : -9223372036854775808 < a := by omega
    clear hz
    go_enter Try.func24, Try.ntmps24
    go_wp2
    go_ret2
    exact ⟨rfl, rfl⟩

set_option maxHeartbeats 400000 in
theorem mid_any (a b : Int) (ha : -9223372036854775808 ≤ a ∧ a ≤ 9223372036854775807) (hb : -9223372036854775808 ≤ b ∧ b ≤ 9223372036854775807) (w : World) :
    Calls Try.prog 17 #[.int .i64 a, .int .i64 b] w fun e w' => e = .returned (.int .i64 ((a + b) / 2)) ∧ w = w' := by
  obtain ⟨a1, a2⟩ := ha
  obtain ⟨b1, b2⟩ := hb
  go_enter Try.func17, Try.ntmps17
  go_wp2
  go_ret
  refine ⟨ret_int ?_, rfl⟩
  rw [and_one_i64, and_one_i64, and_bits_i64]
  rcases Int.emod_two_eq a with ha | ha <;> rcases Int.emod_two_eq b with hb | hb <;> rw [ha, hb, IntWalk.wrap64_in _ (by omega)] <;> omega

set_option maxHeartbeats 400000 in
theorem refmid_any (a b : Int) (ha : -9223372036854775808 ≤ a ∧ a ≤ 9223372036854775807) (hb : -9223372036854775808 ≤ b ∧ b ≤ 9223372036854775807) (w : World) :
    Calls Try.prog 18 #[.int .i64 a, .int .i64 b] w fun e w' => e = .returned (.int .i64 ((a + b) / 2)) ∧ w = w' := by
  obtain ⟨a1, a2⟩ := ha
  obtain ⟨b1, b2⟩ := hb
  by_cases h : b < a
  · go_enter Try.func18, Try.ntmps18
    go_wp2
    go_ret
    exact ⟨ret_int ((mid_ref b1 b2 a1 a2 (by omega)).trans (by rw [Int.add_comm])), rfl⟩
  · go_enter Try.func18, Try.ntmps18
    go_wp2
    go_ret
    exact ⟨ret_int (mid_ref a1 a2 b1 b2 (by omega)), rfl⟩

set_option maxHeartbeats 400000 in
theorem good_any (a : Int) (w : World) :
    Calls Try.prog 20 #[.int .i64 a] w fun e w' => e = .returned (.bool (decide (-1099511627776 ≤ a ∧ a ≤ 1099511627776))) ∧ w = w' := by
  by_cases h1 : -1099511627776 ≤ a
  · by_cases h2 : a ≤ 1099511627776
    · go_enter Try.func20, Try.ntmps20
      go_wp2
      go_ret
      exact ⟨ret_bool (by simp; omega), rfl⟩
    · go_enter Try.func20, Try.ntmps20
      go_wp2
      go_ret
      exact ⟨ret_bool (by simp; omega), rfl⟩
  · go_enter Try.func20, Try.ntmps20
    go_wp2
    go_ret
    exact ⟨ret_bool (by simp; omega), rfl⟩

def signOf (a : Int) : Int := if a < 0 then -1 else if 0 < a then 1 else 0
set_option maxHeartbeats 400000 in
theorem sign_any (a : Int) (w : World) :
    Calls Try.prog 19 #[.int .i64 a] w fun e w' => e = .returned (.int .i64 (signOf a)) ∧ w = w' := by
  by_cases h1 : a < 0
  · have e : signOf a = -1 := by simp [signOf, h1]
    rw [e]; clear e
    go_enter Try.func19, Try.ntmps19
    go_wp2
    go_ret
    exact ⟨rfl, rfl⟩
  · by_cases h2 : 0 < a
    · have e : signOf a = 1 := by simp [signOf, h1, h2]
      rw [e]; clear e
      go_enter Try.func19, Try.ntmps19
      go_wp2
      go_ret
      exact ⟨rfl, rfl⟩
    · have e : signOf a = 0 := by simp [signOf, h1, h2]
      rw [e]; clear e
      go_enter Try.func19, Try.ntmps19
      go_wp2
      go_ret
      exact ⟨rfl, rfl⟩

/-! Products. -/
theorem mul_back {a b : Int} (hb : b ≠ 0) (b1 : -9223372036854775808 ≤ b) (b2 : b ≤ 9223372036854775807) (h : (wrap64 (a * b)).tdiv b = a) : wrap64 (a * b) = a * b := by
  have e := Int.mul_tdiv_add_tmod (wrap64 (a * b)) b
  have r1 : ((wrap64 (a * b)).tmod b).natAbs < b.natAbs := by
    rw [Int.natAbs_tmod]; exact Nat.mod_lt _ (by omega)
  rw [h, Int.mul_comm b a] at e
  generalize hm : a * b = m at *
  unfold wrap64 at *
  omega
set_option maxHeartbeats 400000 in
theorem mul_any (a b : Int) (ha : -9223372036854775808 ≤ a ∧ a ≤ 9223372036854775807) (hb : -9223372036854775808 ≤ b ∧ b ≤ 9223372036854775807) (w : World) :
    Calls Try.prog 22 #[.int .i64 a, .int .i64 b] w fun e w' => e = .returned (resV (a * b)) ∧ w = w' := by
  obtain ⟨a1, a2⟩ := ha
  obtain ⟨b1, b2⟩ := hb
  by_cases za : a = 0
  · subst za
    rw [Int.zero_mul, resV_yes (by omega)]
    go_enter Try.func22, Try.ntmps22
    go_wp2
    go_ret2
    exact ⟨rfl, rfl⟩
  · have za' : ((a : Int) == 0) = false := by simpa using za
    by_cases zb : b = 0
    · subst zb
      rw [Int.mul_zero, resV_yes (by omega)]
      go_enter Try.func22, Try.ntmps22
      go_wp2
      go_ret2
      exact ⟨rfl, rfl⟩
    · have zb' : ((b : Int) == 0) = false := by simpa using zb
      by_cases hs : a = -1 ∧ b = -9223372036854775808
      · obtain ⟨rfl, rfl⟩ := hs
        rw [resV_no (by omega)]
        go_enter Try.func22, Try.ntmps22
        go_wp2
        go_ret2
        exact ⟨rfl, rfl⟩
      · by_cases ht : b = -1 ∧ a = -9223372036854775808
        · obtain ⟨rfl, rfl⟩ := ht
          rw [resV_no (by omega)]
          go_enter Try.func22, Try.ntmps22
          go_wp2
          go_ret2
          exact ⟨rfl, rfl⟩
        · by_cases q : b = -1
          · subst q
            have q' : ¬ a = -9223372036854775808 := fun e => ht ⟨rfl, e⟩
            have q2 : ((a : Int) == -9223372036854775808) = false := by simpa using q'
            have q3 : -9223372036854775808 < a := by omega
            clear hs ht
            rw [show a * -1 = -a by omega, resV_yes (by omega)]
            by_cases p : a = -1
            · subst p
              go_enter Try.func22, Try.ntmps22
              go_wp2
              go_ret2
              exact ⟨rfl, rfl⟩
            · have p' : ((a : Int) == -1) = false := by simpa using p
              clear p za q'
              go_enter Try.func22, Try.ntmps22
              go_wp2
              go_ret2
              exact ⟨rfl, rfl⟩
          · have q1 : ((b : Int) == -1) = false := by simpa using q
            by_cases hf : -9223372036854775808 ≤ a * b ∧ a * b ≤ 9223372036854775807
            · have c : ((a * b).tdiv b == a) = true := by rw [Int.mul_tdiv_cancel _ zb]; simp
              have c' : (wrap64 ((a * b).tdiv b) == a) = true := by rw [Int.mul_tdiv_cancel _ zb, IntWalk.wrap64_in _ ⟨a1, a2⟩]; simp
              rw [resV_yes hf]
              obtain ⟨f1, f2⟩ := hf
              by_cases p : a = -1
              · have p' : ((a : Int) == -1) = true := by simpa using p
                have q2 : ((b : Int) == -9223372036854775808) = false := by simpa using (fun e => hs ⟨p, e⟩)
                clear hs ht p
                go_enter Try.func22, Try.ntmps22
                go_wp2
                go_ret2
                exact ⟨rfl, rfl⟩
              · have p' : ((a : Int) == -1) = false := by simpa using p
                clear hs ht p
                go_enter Try.func22, Try.ntmps22
                go_wp2
                go_ret2
                exact ⟨rfl, rfl⟩
            · have hn : a * b < -9223372036854775808 ∨ 9223372036854775807 < a * b := by omega
              have hd : wrap64 ((wrap64 (a * b)).tdiv b) = (wrap64 (a * b)).tdiv b := by
                have hw : -9223372036854775808 ≤ wrap64 (a * b) ∧ wrap64 (a * b) ≤ 9223372036854775807 := by unfold wrap64; omega
                refine IntWalk.wrap64_in _ ?_
                have h3 := Int.natAbs_tdiv_le_natAbs (wrap64 (a * b)) b
                have h4 : wrap64 (a * b) = -9223372036854775808 → (wrap64 (a * b)).tdiv b ≠ 9223372036854775808 := by
                  intro h5 h6
                  rw [h5] at h6
                  have e := Int.mul_tdiv_add_tmod (-9223372036854775808) b
                  have r1 : ((-9223372036854775808 : Int).tmod b).natAbs < b.natAbs := by
                    rw [Int.natAbs_tmod]; exact Nat.mod_lt _ (by omega)
                  rw [h6] at e
                  omega
                omega
              have c : (wrap64 ((wrap64 (a * b)).tdiv b) == a) = false := by
                rw [hd]
                have : ¬ (wrap64 (a * b)).tdiv b = a := fun e => by
                  have e2 := mul_back zb b1 b2 e
                  unfold wrap64 at e2
                  omega
                simpa using this
              rw [resV_no hn]
              by_cases p : a = -1
              · exfalso; subst p; omega
              · have p' : ((a : Int) == -1) = false := by simpa using p
                clear hs ht p hn hd hf
                go_enter Try.func22, Try.ntmps22
                go_wp2
                go_ret2
                exact ⟨rfl, rfl⟩

theorem long_neg2 (a x : Int) (hx : Hid (x = -a)) (h0 : a < 0) (h1 : -9223372036854775808 ≤ a) (w : World) :
    Calls Try.prog 42 #[.int .i64 a] w fun e w' => e = .returned (.tuple #[.bool true, .int .u64 x]) ∧ w = w' := by
  rw [hx.out]; exact long_neg a h0 h1 w
theorem long_pos2 (a x : Int) (hx : Hid (x = a)) (h0 : 0 ≤ a) (h1 : a ≤ 9223372036854775807) (w : World) :
    Calls Try.prog 42 #[.int .i64 a] w fun e w' => e = .returned (.tuple #[.bool false, .int .u64 x]) ∧ w = w' := by
  rw [hx.out]; exact long_pos a h0 h1 w
theorem mul_over {x y : Int} (hy : 0 < y) (h : 18446744073709551615 / y < x) : 18446744073709551615 < x * y := (Int.ediv_lt_iff_lt_mul hy).1 h
theorem mul_under {x y : Int} (hy : 0 < y) (h : x ≤ 18446744073709551615 / y) : x * y ≤ 18446744073709551615 := (Int.le_ediv_iff_mul_le hy).1 h
set_option maxHeartbeats 400000 in
theorem refmul_any (a b : Int) (ha : -9223372036854775808 ≤ a ∧ a ≤ 9223372036854775807) (hb : -9223372036854775808 ≤ b ∧ b ≤ 9223372036854775807) (w : World) :
    Calls Try.prog 23 #[.int .i64 a, .int .i64 b] w fun e w' => e = .returned (resV (a * b)) ∧ w = w' := by
  obtain ⟨a1, a2⟩ := ha
  obtain ⟨b1, b2⟩ := hb
  by_cases za : a = 0
  · subst za
    rw [Int.zero_mul, resV_yes (by omega)]
    by_cases zb : b < 0
    · go_enter Try.func23, Try.ntmps23
      go_wp2_with fail
      refine (long_pos _ (by omega) (by omega) _).mono ?_; rintro e w' ⟨rfl, rfl⟩
      go_wp2_with fail
      refine (long_neg _ (by omega) (by omega) _).mono ?_; rintro e w' ⟨rfl, rfl⟩
      go_wp2_with fail
      go_ret2
      exact ⟨rfl, rfl⟩
    · go_enter Try.func23, Try.ntmps23
      go_wp2_with fail
      refine (long_pos _ (by omega) (by omega) _).mono ?_; rintro e w' ⟨rfl, rfl⟩
      go_wp2_with fail
      refine (long_pos _ (by omega) (by omega) _).mono ?_; rintro e w' ⟨rfl, rfl⟩
      go_wp2_with fail
      go_ret2
      exact ⟨rfl, rfl⟩
  by_cases zb : b = 0
  · subst zb
    rw [Int.mul_zero, resV_yes (by omega)]
    by_cases zc : a < 0
    · clear za
      go_enter Try.func23, Try.ntmps23
      go_wp2_with fail
      refine (long_neg _ (by omega) (by omega) _).mono ?_; rintro e w' ⟨rfl, rfl⟩
      go_wp2_with fail
      refine (long_pos _ (by omega) (by omega) _).mono ?_; rintro e w' ⟨rfl, rfl⟩
      go_wp2_with fail
      go_ret2
      exact ⟨rfl, rfl⟩
    · have zd : 0 < a := by omega
      clear za zc
      go_enter Try.func23, Try.ntmps23
      go_wp2_with fail
      refine (long_pos _ (by omega) (by omega) _).mono ?_; rintro e w' ⟨rfl, rfl⟩
      go_wp2_with fail
      refine (long_pos _ (by omega) (by omega) _).mono ?_; rintro e w' ⟨rfl, rfl⟩
      go_wp2_with fail
      go_ret2
      exact ⟨rfl, rfl⟩
  by_cases sa : a < 0 <;> by_cases sb : b < 0
  · obtain ⟨x, ex⟩ : ∃ x : Int, x = -a := ⟨_, rfl⟩
    obtain ⟨y, ey⟩ : ∃ y : Int, y = -b := ⟨_, rfl⟩
    have e : a * b = signed false (x * y) := by simp [signed, ex, ey, Int.neg_mul_neg]
    have hx : 0 < x := by omega
    have hy : 0 < y := by omega
    have hx2 : ((x : Int) == 0) = false := by rw [beq_eq_false_iff_ne]; omega
    have hy2 : ((y : Int) == 0) = false := by rw [beq_eq_false_iff_ne]; omega
    have Hx := Lib.hid ex
    have Hy := Lib.hid ey
    rw [e]
    clear za zb e ex ey
    by_cases ho : 18446744073709551615 / y < x
    · have m := mul_over hy ho
      rw [resV_no (by simp [signed]; omega)]
      clear m
      go_enter Try.func23, Try.ntmps23
      go_wp2_with fail
      refine (long_neg2 a x Hx (by omega) (by omega) _).mono ?_; rintro e w' ⟨rfl, rfl⟩
      go_wp2_with fail
      refine (long_neg2 b y Hy (by omega) (by omega) _).mono ?_; rintro e w' ⟨rfl, rfl⟩
      go_wp2_with fail
      go_ret2
      exact ⟨rfl, rfl⟩
    · have m := mul_under hy (by omega : x ≤ 18446744073709551615 / y)
      have m0 : 0 < x * y := Int.mul_pos hx hy
      go_enter Try.func23, Try.ntmps23
      go_wp2_with fail
      refine (long_neg2 a x Hx (by omega) (by omega) _).mono ?_; rintro e w' ⟨rfl, rfl⟩
      go_wp2_with fail
      refine (long_neg2 b y Hy (by omega) (by omega) _).mono ?_; rintro e w' ⟨rfl, rfl⟩
      go_wp2_with fail
      refine (made_any false _ (by omega) (by omega) _).mono ?_; rintro e w' ⟨rfl, rfl⟩; unfold resV
      go_wp2_with fail
      go_ret2
      exact ⟨resV_eq rfl, rfl⟩
  · obtain ⟨x, ex⟩ : ∃ x : Int, x = -a := ⟨_, rfl⟩
    obtain ⟨y, ey⟩ : ∃ y : Int, y = b := ⟨_, rfl⟩
    have e : a * b = signed true (x * y) := by simp [signed, ex, ey, Int.neg_mul]
    have hx : 0 < x := by omega
    have hy : 0 < y := by omega
    have hx2 : ((x : Int) == 0) = false := by rw [beq_eq_false_iff_ne]; omega
    have hy2 : ((y : Int) == 0) = false := by rw [beq_eq_false_iff_ne]; omega
    have Hx := Lib.hid ex
    have Hy := Lib.hid ey
    rw [e]
    clear za zb e ex ey
    by_cases ho : 18446744073709551615 / y < x
    · have m := mul_over hy ho
      rw [resV_no (by simp [signed]; omega)]
      clear m
      go_enter Try.func23, Try.ntmps23
      go_wp2_with fail
      refine (long_neg2 a x Hx (by omega) (by omega) _).mono ?_; rintro e w' ⟨rfl, rfl⟩
      go_wp2_with fail
      refine (long_pos2 b y Hy (by omega) (by omega) _).mono ?_; rintro e w' ⟨rfl, rfl⟩
      go_wp2_with fail
      go_ret2
      exact ⟨rfl, rfl⟩
    · have m := mul_under hy (by omega : x ≤ 18446744073709551615 / y)
      have m0 : 0 < x * y := Int.mul_pos hx hy
      go_enter Try.func23, Try.ntmps23
      go_wp2_with fail
      refine (long_neg2 a x Hx (by omega) (by omega) _).mono ?_; rintro e w' ⟨rfl, rfl⟩
      go_wp2_with fail
      refine (long_pos2 b y Hy (by omega) (by omega) _).mono ?_; rintro e w' ⟨rfl, rfl⟩
      go_wp2_with fail
      refine (made_any true _ (by omega) (by omega) _).mono ?_; rintro e w' ⟨rfl, rfl⟩; unfold resV
      go_wp2_with fail
      go_ret2
      exact ⟨resV_eq rfl, rfl⟩
  · obtain ⟨x, ex⟩ : ∃ x : Int, x = a := ⟨_, rfl⟩
    obtain ⟨y, ey⟩ : ∃ y : Int, y = -b := ⟨_, rfl⟩
    have e : a * b = signed true (x * y) := by simp [signed, ex, ey, Int.mul_neg]
    have hx : 0 < x := by omega
    have hy : 0 < y := by omega
    have hx2 : ((x : Int) == 0) = false := by rw [beq_eq_false_iff_ne]; omega
    have hy2 : ((y : Int) == 0) = false := by rw [beq_eq_false_iff_ne]; omega
    have Hx := Lib.hid ex
    have Hy := Lib.hid ey
    rw [e]
    clear za zb e ex ey
    by_cases ho : 18446744073709551615 / y < x
    · have m := mul_over hy ho
      rw [resV_no (by simp [signed]; omega)]
      clear m
      go_enter Try.func23, Try.ntmps23
      go_wp2_with fail
      refine (long_pos2 a x Hx (by omega) (by omega) _).mono ?_; rintro e w' ⟨rfl, rfl⟩
      go_wp2_with fail
      refine (long_neg2 b y Hy (by omega) (by omega) _).mono ?_; rintro e w' ⟨rfl, rfl⟩
      go_wp2_with fail
      go_ret2
      exact ⟨rfl, rfl⟩
    · have m := mul_under hy (by omega : x ≤ 18446744073709551615 / y)
      have m0 : 0 < x * y := Int.mul_pos hx hy
      go_enter Try.func23, Try.ntmps23
      go_wp2_with fail
      refine (long_pos2 a x Hx (by omega) (by omega) _).mono ?_; rintro e w' ⟨rfl, rfl⟩
      go_wp2_with fail
      refine (long_neg2 b y Hy (by omega) (by omega) _).mono ?_; rintro e w' ⟨rfl, rfl⟩
      go_wp2_with fail
      refine (made_any true _ (by omega) (by omega) _).mono ?_; rintro e w' ⟨rfl, rfl⟩; unfold resV
      go_wp2_with fail
      go_ret2
      exact ⟨resV_eq rfl, rfl⟩
  · obtain ⟨x, ex⟩ : ∃ x : Int, x = a := ⟨_, rfl⟩
    obtain ⟨y, ey⟩ : ∃ y : Int, y = b := ⟨_, rfl⟩
    have e : a * b = signed false (x * y) := by simp [signed, ex, ey]
    have hx : 0 < x := by omega
    have hy : 0 < y := by omega
    have hx2 : ((x : Int) == 0) = false := by rw [beq_eq_false_iff_ne]; omega
    have hy2 : ((y : Int) == 0) = false := by rw [beq_eq_false_iff_ne]; omega
    have Hx := Lib.hid ex
    have Hy := Lib.hid ey
    rw [e]
    clear za zb e ex ey
    by_cases ho : 18446744073709551615 / y < x
    · have m := mul_over hy ho
      rw [resV_no (by simp [signed]; omega)]
      clear m
      go_enter Try.func23, Try.ntmps23
      go_wp2_with fail
      refine (long_pos2 a x Hx (by omega) (by omega) _).mono ?_; rintro e w' ⟨rfl, rfl⟩
      go_wp2_with fail
      refine (long_pos2 b y Hy (by omega) (by omega) _).mono ?_; rintro e w' ⟨rfl, rfl⟩
      go_wp2_with fail
      go_ret2
      exact ⟨rfl, rfl⟩
    · have m := mul_under hy (by omega : x ≤ 18446744073709551615 / y)
      have m0 : 0 < x * y := Int.mul_pos hx hy
      go_enter Try.func23, Try.ntmps23
      go_wp2_with fail
      refine (long_pos2 a x Hx (by omega) (by omega) _).mono ?_; rintro e w' ⟨rfl, rfl⟩
      go_wp2_with fail
      refine (long_pos2 b y Hy (by omega) (by omega) _).mono ?_; rintro e w' ⟨rfl, rfl⟩
      go_wp2_with fail
      refine (made_any false _ (by omega) (by omega) _).mono ?_; rintro e w' ⟨rfl, rfl⟩; unfold resV
      go_wp2_with fail
      go_ret2
      exact ⟨resV_eq rfl, rfl⟩
end Go.Proofs.Ytlkhnhahepehkaa
