/-
  The law KdcurNone: for every input the Go function returns true and leaves its input as it was. No condition is laid on the input.
-/
import Derived.Test.YtjgdhkilnalejaaGreatKdcurNoneM1
import Derived.Test.YtjgdhkilnalejaaGreatKdcurNoneM4
namespace Go.Proofs.YtjgdhkilnalejaaGreat.kdcurNone
open Go.ChangeShapes Go.WideShapes Go.ChangeAt Go.RowKit
set_option linter.unusedVariables false

theorem own : ownKnob Tryz.prog.godebug = none := by kernel_rfl
theorem laidOut : laidOutB Tryz.prog = true := by kernel_rfl
theorem flat0 : flatInts Tryz.prog 8 43 = true := by kernel_rfl
theorem cells0 : Tryz.prog.cellsOf 43 = 4 := by kernel_rfl
theorem take4 (l : List Int) (h : l.length = 4) : ∃ x0_0 x0_1 x0_2 x0_3 : Int, l = [x0_0, x0_1, x0_2, x0_3] := by
  match l, h with
  | [x0_0, x0_1, x0_2, x0_3], _ => exact ⟨_, _, _, _, rfl⟩

set_option maxRecDepth 100000 in
theorem lifted (os : Os) (started : os.Started) (H : Type) (enc : TypeId × Value → H) :
    ReturnsInHanded {} Tryz.checked os 4 .any (Rows.kdcurNoneSpec.pre6 enc Tryz.prog Tryz.f4 Rows.kdcurNoneRow.domain false) (Rows.kdcurNoneSpec.post enc Tryz.prog Tryz.f4 false true false false) := by
  refine returnsInHanded_of_change (C := Tryz.checked) own started (by kernel_rfl) Tryz.func4
    (ChangeSpec.witness6 (enc := enc) (C := Tryz.checked) false ⟨#[], #[.agg #[.int .i64 0, .int .i64 0, .int .i64 0, .int .i64 0], .int .i64 0], []⟩ 8 (by kernel_rfl) (by kernel_rfl) (by kernel_rfl) (by kernel_rfl)) ?_
  intro W base args ds gs before hval0 hW hcnd _
  have hval : ∀ (j : Nat) t v, Tryz.f4.params[j]? = some t → args[j]? = some v → Value.okWide Tryz.prog W .any base t v := hval0
  have hW' := hW
  obtain ⟨p, q, hA0, hV, rfl, hfz, hnd⟩ := hW
  have hA : DataW.TrodAll enc Tryz.prog W 0 (fun _ => true) true Tryz.f4.params.toList args.toList ds p := hA0
  rw [Tryz.params4] at hA hval
  obtain ⟨v0, vs0, d0, ds0, p0, q0, hargs, rfl, rfl, h0, r0⟩ := trodAll_cons hA
  obtain ⟨v1, vs1, d1, ds1, p1, q1, rfl, rfl, rfl, h1, r1⟩ := trodAll_cons r0
  obtain ⟨rfl, rfl, rfl⟩ := trodAll_nil r1
  obtain rfl : args = #[v0, v1] := by cases args; simp_all
  obtain ⟨rfl, rfl⟩ := trodVars_none hV
  obtain ⟨n0, rfl, l0, b0⟩ := open_flat Tryz.underlying43 flat0 (hval 0 43 v0 rfl rfl) h0
  rw [cells0] at l0
  obtain ⟨x0_0, x0_1, x0_2, x0_3, rfl⟩ := take4 n0 l0
  obtain ⟨a1, rfl, rfl, rfl, w1⟩ := open_int Tryz.underlying3 (hval 1 3 v1 rfl rfl) h1
  clear hA0 hval0
  refine (kdcurNone_walk x0_0 x0_1 x0_2 x0_3 a1 W).mono fun e W' ⟨he, hb⟩ => ?_
  subst he
  exact ⟨_, rfl, law_post laidOut rfl rfl Tryz.underlying4 (by kernel_rfl) hW' rfl hb⟩

theorem over : Rows.kdcurNoneRow.holds Tryz.pinned (OpenSpec.ofChange Rows.kdcurNoneSpec) :=
  OpenClaim.holds_of_wide 4 Tryz.f4 rfl rfl rfl rfl rfl rfl rfl ⟨rfl, rfl, rfl, rfl, rfl⟩ rfl rfl rfl rfl rfl (by kernel_rfl) Tryz.func4 (by kernel_rfl)
    (of_decide_eq_true (by kernel_rfl)) (by unfold Func.isWrapper; first | (rw [if_pos (by decide +kernel)]; kernel_rfl) | (rw [if_neg (by decide +kernel)]; exact ⟨rfl, rfl⟩))
    (fun os started H enc _ => lifted os started H enc)

theorem proved : Rows.KdcurNoneSaid := over
#print axioms proved
end Go.Proofs.YtjgdhkilnalejaaGreat.kdcurNone
