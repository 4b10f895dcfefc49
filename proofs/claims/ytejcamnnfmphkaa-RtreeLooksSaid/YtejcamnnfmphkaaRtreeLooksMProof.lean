/-
  The law RtreeLooks: for every input the Go function returns true and leaves its input as it was. No condition is laid on the input.
-/
import Derived.Test.YtejcamnnfmphkaaRtreeLooksM1
import Derived.Test.YtejcamnnfmphkaaRtreeLooksM4
namespace Go.Proofs.Ytejcamnnfmphkaa.rtreeLooks
open Go.ChangeShapes Go.WideShapes Go.ChangeAt Go.RowKit
set_option linter.unusedVariables false

theorem own : ownKnob Try.prog.godebug = none := by kernel_rfl
theorem laidOut : laidOutB Try.prog = true := by kernel_rfl
theorem flat0 : flatInts Try.prog 8 37 = true := by kernel_rfl
theorem pos0 : 0 < Try.prog.cellsOf 37 := of_decide_eq_true (by kernel_rfl)
theorem flat1 : flatInts Try.prog 8 24 = true := by kernel_rfl
theorem cells1 : Try.prog.cellsOf 24 = 4 := by kernel_rfl
theorem take4 (l : List Int) (h : l.length = 4) : ∃ x1_0 x1_1 x1_2 x1_3 : Int, l = [x1_0, x1_1, x1_2, x1_3] := by
  match l, h with
  | [x1_0, x1_1, x1_2, x1_3], _ => exact ⟨_, _, _, _, rfl⟩

set_option maxRecDepth 100000 in
theorem lifted (os : Os) (started : os.Started) (H : Type) (enc : TypeId × Value → H) :
    ReturnsInHanded {} Try.checked os 3 .any (Rows.rtreeLooksSpec.pre6 enc Try.prog Try.f3 Rows.rtreeLooksRow.domain false) (Rows.rtreeLooksSpec.post enc Try.prog Try.f3 false true false false) := by
  refine returnsInHanded_of_change (C := Try.checked) own started (by kernel_rfl) Try.func3
    (ChangeSpec.witness6 (enc := enc) (C := Try.checked) false ⟨#[], #[.slice none 0 0, .agg #[.int .i64 0, .int .i64 0, .int .i64 0, .int .i64 0]], []⟩ 8 (by kernel_rfl) (by kernel_rfl) (by kernel_rfl) (by kernel_rfl)) ?_
  intro W base args ds gs before hval0 hW hcnd _
  have hval : ∀ (j : Nat) t v, Try.f3.params[j]? = some t → args[j]? = some v → Value.okWide Try.prog W .any base t v := hval0
  have hW' := hW
  obtain ⟨p, q, hA0, hV, rfl, hfz, hnd⟩ := hW
  have hA : DataW.TrodAll enc Try.prog W 0 (fun _ => true) true Try.f3.params.toList args.toList ds p := hA0
  rw [Try.params3] at hA hval
  obtain ⟨v0, vs0, d0, ds0, p0, q0, hargs, rfl, rfl, h0, r0⟩ := trodAll_cons hA
  obtain ⟨v1, vs1, d1, ds1, p1, q1, rfl, rfl, rfl, h1, r1⟩ := trodAll_cons r0
  obtain ⟨rfl, rfl, rfl⟩ := trodAll_nil r1
  obtain rfl : args = #[v0, v1] := by cases args; simp_all
  obtain ⟨rfl, rfl⟩ := trodVars_none hV
  obtain ⟨A0, len0, cap0, ns0, rfl, hl0, hm0, hn0, hr0⟩ := open_flat_slice Try.underlying22 flat0 pos0 (hval 0 22 v0 rfl rfl) h0
  obtain ⟨n1, rfl, l1, b1⟩ := open_flat Try.underlying24 flat1 (hval 1 24 v1 rfl rfl) h1
  rw [cells1] at l1
  obtain ⟨x1_0, x1_1, x1_2, x1_3, rfl⟩ := take4 n1 l1
  clear hA0 hval0
  refine (rtreeLooks_walk A0 len0 cap0 ns0 x1_0 x1_1 x1_2 x1_3 W hl0 hm0 hr0).mono fun e W' ⟨he, hb⟩ => ?_
  subst he
  exact ⟨_, rfl, law_post laidOut rfl rfl Try.underlying4 (by kernel_rfl) hW' rfl hb⟩

theorem over : Rows.rtreeLooksRow.holds Try.pinned (OpenSpec.ofChange Rows.rtreeLooksSpec) :=
  OpenClaim.holds_of_wide 3 Try.f3 rfl rfl rfl rfl rfl rfl rfl ⟨rfl, rfl, rfl, rfl, rfl⟩ rfl rfl rfl rfl rfl (by kernel_rfl) Try.func3 (by kernel_rfl)
    (of_decide_eq_true (by kernel_rfl)) (by unfold Func.isWrapper; first | (rw [if_pos (by decide +kernel)]; kernel_rfl) | (rw [if_neg (by decide +kernel)]; exact ⟨rfl, rfl⟩))
    (fun os started H enc _ => lifted os started H enc)

theorem proved : Rows.RtreeLooksSaid := over
#print axioms proved
end Go.Proofs.Ytejcamnnfmphkaa.rtreeLooks
