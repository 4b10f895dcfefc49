/-
  The law PlanOnly: for every input the Go function returns true and leaves its input as it was. No condition is laid on the input.
-/
import Derived.Test.YtcdafmmfcjbodaaFrG
import Derived.Test.YtcdafmmfcjbodaaPm
namespace Go.Proofs.Ytcdafmmfcjbodaa.planOnly
open Go.ChangeShapes Go.WideShapes Go.ChangeAt Go.RowKit
set_option linter.unusedVariables false

theorem own : ownKnob Try.prog.godebug = none := by kernel_rfl
theorem laidOut : laidOutB Try.prog = true := by kernel_rfl
theorem flat0 : flatInts Try.prog 8 37 = true := by kernel_rfl
theorem cells0 : Try.prog.cellsOf 37 = 10 := by kernel_rfl
theorem take10 (l : List Int) (h : l.length = 10) : ∃ x0_0 x0_1 x0_2 x0_3 x0_4 x0_5 x0_6 x0_7 x0_8 x0_9 : Int, l = [x0_0, x0_1, x0_2, x0_3, x0_4, x0_5, x0_6, x0_7, x0_8, x0_9] := by
  match l, h with
  | [x0_0, x0_1, x0_2, x0_3, x0_4, x0_5, x0_6, x0_7, x0_8, x0_9], _ => exact ⟨_, _, _, _, _, _, _, _, _, _, rfl⟩
theorem flat1 : flatInts Try.prog 8 37 = true := by kernel_rfl
theorem cells1 : Try.prog.cellsOf 37 = 10 := by kernel_rfl

set_option maxRecDepth 100000 in
theorem lifted (os : Os) (started : os.Started) (H : Type) (enc : TypeId × Value → H) :
    ReturnsInHanded {} Try.checked os 6 .any (Rows.planOnlySpec.pre6 enc Try.prog Try.f6 Rows.planOnlyRow.domain false) (Rows.planOnlySpec.post enc Try.prog Try.f6 false true false false) := by
  refine returnsInHanded_of_change (C := Try.checked) own started (by kernel_rfl) Try.func6
    (ChangeSpec.witness6 (enc := enc) (C := Try.checked) false ⟨#[], #[.agg #[.int .i64 0, .int .i64 0, .int .i64 0, .int .i64 0, .int .i64 0, .int .i64 0, .int .i64 0, .int .i64 0, .int .i64 0, .int .i64 0], .agg #[.int .i64 0, .int .i64 0, .int .i64 0, .int .i64 0, .int .i64 0, .int .i64 0, .int .i64 0, .int .i64 0, .int .i64 0, .int .i64 0], .agg #[.slice none 0 0, .slice none 0 0]], []⟩ 8 (by kernel_rfl) (by kernel_rfl) (by kernel_rfl) (by kernel_rfl)) ?_
  intro W base args ds gs before hval0 hW hcnd _
  have hval : ∀ (j : Nat) t v, Try.f6.params[j]? = some t → args[j]? = some v → Value.okWide Try.prog W .any base t v := hval0
  have hW' := hW
  obtain ⟨p, q, hA0, hV, rfl, hfz, hnd⟩ := hW
  have hA : DataW.TrodAll enc Try.prog W 0 (fun _ => true) true Try.f6.params.toList args.toList ds p := hA0
  rw [Try.params6] at hA hval
  obtain ⟨v0, vs0, d0, ds0, p0, q0, hargs, rfl, rfl, h0, r0⟩ := trodAll_cons hA
  obtain ⟨v1, vs1, d1, ds1, p1, q1, rfl, rfl, rfl, h1, r1⟩ := trodAll_cons r0
  obtain ⟨v2, vs2, d2, ds2, p2, q2, rfl, rfl, rfl, h2, r2⟩ := trodAll_cons r1
  obtain ⟨rfl, rfl, rfl⟩ := trodAll_nil r2
  obtain rfl : args = #[v0, v1, v2] := by cases args; simp_all
  obtain ⟨rfl, rfl⟩ := trodVars_none hV
  obtain ⟨n0, rfl, l0, b0⟩ := open_flat Try.underlying37 flat0 (hval 0 37 v0 rfl rfl) h0
  rw [cells0] at l0
  obtain ⟨x0_0, x0_1, x0_2, x0_3, x0_4, x0_5, x0_6, x0_7, x0_8, x0_9, rfl⟩ := take10 n0 l0
  obtain ⟨n1, rfl, l1, b1⟩ := open_flat Try.underlying37 flat1 (hval 1 37 v1 rfl rfl) h1
  rw [cells1] at l1
  obtain ⟨x1_0, x1_1, x1_2, x1_3, x1_4, x1_5, x1_6, x1_7, x1_8, x1_9, rfl⟩ := take10 n1 l1
  obtain ⟨A2, len2, cap2, ns2, B2, lenb2, capb2, nsb2, rfl, hl2, hm2, hr2, hlb2, hmb2, hrb2⟩ := open_two_slices Try.underlying54 ⟨rfl, rfl, by kernel_rfl, Try.underlying22, by kernel_rfl, of_decide_eq_true (by kernel_rfl)⟩ ⟨rfl, rfl, by kernel_rfl, Try.underlying38, by kernel_rfl, of_decide_eq_true (by kernel_rfl)⟩ (by kernel_rfl) (hval 2 54 v2 rfl rfl) h2
  clear hA0 hval0
  refine (planOnly_walk x0_0 x0_1 x0_2 x0_3 x0_4 x0_5 x0_6 x0_7 x0_8 x0_9 x1_0 x1_1 x1_2 x1_3 x1_4 x1_5 x1_6 x1_7 x1_8 x1_9 A2 B2 len2 cap2 lenb2 capb2 ns2 nsb2 W hl2 hm2 hlb2 hmb2 hr2 hrb2).mono fun e W' ⟨he, hb⟩ => ?_
  subst he
  exact ⟨_, rfl, law_post laidOut rfl rfl Try.underlying4 (by kernel_rfl) hW' rfl hb⟩

theorem over : Rows.planOnlyRow.holds Try.pinned (OpenSpec.ofChange Rows.planOnlySpec) :=
  OpenClaim.holds_of_wide 6 Try.f6 rfl rfl rfl rfl rfl rfl rfl ⟨rfl, rfl, rfl, rfl, rfl⟩ rfl rfl rfl rfl rfl (by kernel_rfl) Try.func6 (by kernel_rfl)
    (of_decide_eq_true (by kernel_rfl)) (by unfold Func.isWrapper; first | (rw [if_pos (by decide +kernel)]; kernel_rfl) | (rw [if_neg (by decide +kernel)]; exact ⟨rfl, rfl⟩))
    (fun os started H enc _ => lifted os started H enc)

theorem proved : Rows.PlanOnlySaid := over
#print axioms proved
end Go.Proofs.Ytcdafmmfcjbodaa.planOnly
