/-
  The law KdBack: for every input the Go function returns true and leaves its input as it was. No condition is laid on the input.
-/
import Derived.Test.YtjgdhkilnalejaaKdBackM1
import Derived.Test.YtjgdhkilnalejaaKdBackM4
namespace Go.Proofs.Ytjgdhkilnalejaa.kdBack
open Go.ChangeShapes Go.WideShapes Go.ChangeAt Go.RowKit
set_option linter.unusedVariables false

theorem own : ownKnob Try.prog.godebug = none := by kernel_rfl
theorem laidOut : laidOutB Try.prog = true := by kernel_rfl
theorem flat0 : flatInts Try.prog 8 45 = true := by kernel_rfl
theorem pos0 : 0 < Try.prog.cellsOf 45 := of_decide_eq_true (by kernel_rfl)
theorem flat1 : flatInts Try.prog 8 27 = true := by kernel_rfl
theorem cells1 : Try.prog.cellsOf 27 = 3 := by kernel_rfl
theorem take3 (l : List Int) (h : l.length = 3) : ∃ x1_0 x1_1 x1_2 : Int, l = [x1_0, x1_1, x1_2] := by
  match l, h with
  | [x1_0, x1_1, x1_2], _ => exact ⟨_, _, _, rfl⟩
theorem flat2 : flatInts Try.prog 8 32 = true := by kernel_rfl
theorem cells2 : Try.prog.cellsOf 32 = 4 := by kernel_rfl
theorem take4 (l : List Int) (h : l.length = 4) : ∃ x2_0 x2_1 x2_2 x2_3 : Int, l = [x2_0, x2_1, x2_2, x2_3] := by
  match l, h with
  | [x2_0, x2_1, x2_2, x2_3], _ => exact ⟨_, _, _, _, rfl⟩

set_option maxRecDepth 100000 in
theorem lifted (os : Os) (started : os.Started) (H : Type) (enc : TypeId × Value → H) :
    ReturnsInHanded {} Try.checked os 4 .any (Rows.kdBackSpec.pre6 enc Try.prog Try.f4 Rows.kdBackRow.domain false) (Rows.kdBackSpec.post enc Try.prog Try.f4 false true false false) := by
  refine returnsInHanded_of_change (C := Try.checked) own started (by kernel_rfl) Try.func4
    (ChangeSpec.witness6 (enc := enc) (C := Try.checked) false ⟨#[], #[.slice none 0 0, .agg #[.int .i64 0, .int .i64 0, .int .i64 0], .agg #[.int .i64 0, .int .i64 0, .int .i64 0, .int .i64 0]], []⟩ 8 (by kernel_rfl) (by kernel_rfl) (by kernel_rfl) (by kernel_rfl)) ?_
  intro W base args ds gs before hval0 hW hcnd _
  have hval : ∀ (j : Nat) t v, Try.f4.params[j]? = some t → args[j]? = some v → Value.okWide Try.prog W .any base t v := hval0
  have hW' := hW
  obtain ⟨p, q, hA0, hV, rfl, hfz, hnd⟩ := hW
  have hA : DataW.TrodAll enc Try.prog W 0 (fun _ => true) true Try.f4.params.toList args.toList ds p := hA0
  rw [Try.params4] at hA hval
  obtain ⟨v0, vs0, d0, ds0, p0, q0, hargs, rfl, rfl, h0, r0⟩ := trodAll_cons hA
  obtain ⟨v1, vs1, d1, ds1, p1, q1, rfl, rfl, rfl, h1, r1⟩ := trodAll_cons r0
  obtain ⟨v2, vs2, d2, ds2, p2, q2, rfl, rfl, rfl, h2, r2⟩ := trodAll_cons r1
  obtain ⟨rfl, rfl, rfl⟩ := trodAll_nil r2
  obtain rfl : args = #[v0, v1, v2] := by cases args; simp_all
  obtain ⟨rfl, rfl⟩ := trodVars_none hV
  obtain ⟨A0, len0, cap0, ns0, rfl, hl0, hm0, hn0, hr0⟩ := open_flat_slice Try.underlying38 flat0 pos0 (hval 0 38 v0 rfl rfl) h0
  obtain ⟨n1, rfl, l1, b1⟩ := open_flat Try.underlying27 flat1 (hval 1 27 v1 rfl rfl) h1
  rw [cells1] at l1
  obtain ⟨x1_0, x1_1, x1_2, rfl⟩ := take3 n1 l1
  obtain ⟨n2, rfl, l2, b2⟩ := open_flat Try.underlying32 flat2 (hval 2 32 v2 rfl rfl) h2
  rw [cells2] at l2
  obtain ⟨x2_0, x2_1, x2_2, x2_3, rfl⟩ := take4 n2 l2
  clear hA0 hval0
  refine (kdBack_walk A0 len0 cap0 ns0 x1_0 x1_1 x1_2 x2_0 x2_1 x2_2 x2_3 W hl0 hm0 hn0 hr0 (b1 _ (by simp)).2).mono fun e W' ⟨he, hb⟩ => ?_
  subst he
  exact ⟨_, rfl, law_post laidOut rfl rfl Try.underlying4 (by kernel_rfl) hW' rfl hb⟩

theorem over : Rows.kdBackRow.holds Try.pinned (OpenSpec.ofChange Rows.kdBackSpec) :=
  OpenClaim.holds_of_wide 4 Try.f4 rfl rfl rfl rfl rfl rfl rfl ⟨rfl, rfl, rfl, rfl, rfl⟩ rfl rfl rfl rfl rfl (by kernel_rfl) Try.func4 (by kernel_rfl)
    (of_decide_eq_true (by kernel_rfl)) (by unfold Func.isWrapper; first | (rw [if_pos (by decide +kernel)]; kernel_rfl) | (rw [if_neg (by decide +kernel)]; exact ⟨rfl, rfl⟩))
    (fun os started H enc _ => lifted os started H enc)

theorem proved : Rows.KdBackSaid := over
#print axioms proved
end Go.Proofs.Ytjgdhkilnalejaa.kdBack
