/- num.Mid, by a walk. -/
import Derived.Test.YtioamnghkmcbbaaGreatProg
import Derived.WalkKit
import Derived.Lib.Hide
namespace Go.Proofs.YtioamnghkmcbbaaGreat
open Go.RowKit
theorem ret_intM {k : IntKind} {a b : Int} (h : a = b) : Ending.returned (.int k a) = .returned (.int k b) := by rw [h]
theorem and_one_i64 (a : Int) : bits BinOp.and IntKind.i64 a 1 = a % 2 := by
  have e : (BitVec.ofInt 64 a &&& BitVec.ofInt 64 1).toNat = (a % 18446744073709551616).toNat % 2 := by
    rw [BitVec.toNat_and]
    rw [show (BitVec.ofInt 64 1).toNat = 1 from rfl, Nat.and_one_is_mod, BitVec.toNat_ofInt]
    rfl
  show IntKind.i64.wrap ((BitVec.ofInt 64 a &&& BitVec.ofInt 64 1).toNat : Int) = _
  rw [e, IntWalk.i64_in _ (by omega)]
  omega
theorem and_bits_i64 (a b : Int) : bits BinOp.and IntKind.i64 (a % 2) (b % 2) = (a % 2) * (b % 2) := by
  rcases Int.emod_two_eq a with ha | ha <;> rcases Int.emod_two_eq b with hb | hb <;> rw [ha, hb] <;> rfl
set_option maxHeartbeats 400000 in
theorem mid_any (a b : Int) (ha : -9223372036854775808 ≤ a ∧ a ≤ 9223372036854775807) (hb : -9223372036854775808 ≤ b ∧ b ≤ 9223372036854775807) (w : World) :
    Calls Tryz.prog 458 #[.int .i64 a, .int .i64 b] w fun e w' => e = .returned (.int .i64 ((a + b) / 2)) ∧ w = w' := by
  obtain ⟨a1, a2⟩ := ha
  obtain ⟨b1, b2⟩ := hb
  go_enter Tryz.func458, Tryz.ntmps458
  go_wp2
  go_ret
  refine ⟨ret_intM ?_, rfl⟩
  rw [and_one_i64, and_one_i64, and_bits_i64]
  rcases Int.emod_two_eq a with ha | ha <;> rcases Int.emod_two_eq b with hb | hb <;> rw [ha, hb, IntWalk.wrap64_in _ (by omega)] <;> omega
end Go.Proofs.YtioamnghkmcbbaaGreat
