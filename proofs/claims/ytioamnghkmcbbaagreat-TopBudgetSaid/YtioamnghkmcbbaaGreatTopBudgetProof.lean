/-
  The law TopBudget: for every input the Go function returns true and leaves its input as it was. No condition is laid on the input.
-/
import Derived.Test.YtioamnghkmcbbaaGreatFrame
import Derived.Test.YtioamnghkmcbbaaGreatFx
namespace Go.Proofs.YtioamnghkmcbbaaGreat.topBudget
open Go.ChangeShapes Go.WideShapes Go.ChangeAt Go.RowKit
set_option linter.unusedVariables false

theorem own : ownKnob Tryz.prog.godebug = none := by kernel_rfl
theorem flat1 : flatInts Tryz.prog 8 27 = true := by kernel_rfl
theorem cells1 : Tryz.prog.cellsOf 27 = 10 := by kernel_rfl
theorem take10 (l : List Int) (h : l.length = 10) : ∃ x1_0 x1_1 x1_2 x1_3 x1_4 x1_5 x1_6 x1_7 x1_8 x1_9 : Int, l = [x1_0, x1_1, x1_2, x1_3, x1_4, x1_5, x1_6, x1_7, x1_8, x1_9] := by
  match l, h with
  | [x1_0, x1_1, x1_2, x1_3, x1_4, x1_5, x1_6, x1_7, x1_8, x1_9], _ => exact ⟨_, _, _, _, _, _, _, _, _, _, rfl⟩
theorem flat2 : flatInts Tryz.prog 8 47 = true := by kernel_rfl
theorem pos2 : 0 < Tryz.prog.cellsOf 47 := of_decide_eq_true (by kernel_rfl)

set_option maxRecDepth 100000 in
theorem lifted (os : Os) (started : os.Started) (H : Type) (enc : TypeId × Value → H) :
    ReturnsInHanded {} Tryz.checked os 3 .any (Rows.topBudgetSpec.pre6 enc Tryz.prog Tryz.f3 Rows.topBudgetRow.domain false) (Rows.topBudgetSpec.post enc Tryz.prog Tryz.f3 false true false false) := by
  refine returnsInHanded_of_change (C := Tryz.checked) own started (by kernel_rfl) Tryz.func3
    (ChangeSpec.witness6 (enc := enc) (C := Tryz.checked) false ⟨#[], #[.int .u8 0, .agg #[.int .i64 0, .int .i64 0, .int .i64 0, .int .i64 0, .int .i64 0, .int .i64 0, .int .i64 0, .int .i64 0, .int .i64 0, .int .i64 0], .slice none 0 0], []⟩ 8 (by kernel_rfl) (by kernel_rfl) (by kernel_rfl) (by kernel_rfl)) ?_
  intro W base args ds gs before hval0 hW hcnd _
  have hval : ∀ (j : Nat) t v, Tryz.f3.params[j]? = some t → args[j]? = some v → Value.okWide Tryz.prog W .any base t v := hval0
  have hW' := hW
  obtain ⟨p, q, hA0, hV, rfl, hfz, hnd⟩ := hW
  have hA : DataW.TrodAll enc Tryz.prog W 0 (fun _ => true) true Tryz.f3.params.toList args.toList ds p := hA0
  rw [Tryz.params3] at hA hval
  obtain ⟨v0, vs0, d0, ds0, p0, q0, hargs, rfl, rfl, h0, r0⟩ := trodAll_cons hA
  obtain ⟨v1, vs1, d1, ds1, p1, q1, rfl, rfl, rfl, h1, r1⟩ := trodAll_cons r0
  obtain ⟨v2, vs2, d2, ds2, p2, q2, rfl, rfl, rfl, h2, r2⟩ := trodAll_cons r1
  obtain ⟨rfl, rfl, rfl⟩ := trodAll_nil r2
  obtain rfl : args = #[v0, v1, v2] := by cases args; simp_all
  obtain ⟨rfl, rfl⟩ := trodVars_none hV
  obtain ⟨a0, rfl, rfl, rfl, w0⟩ := open_int Tryz.underlying5 (hval 0 5 v0 rfl rfl) h0
  obtain ⟨n1, rfl, l1, b1⟩ := open_flat Tryz.underlying27 flat1 (hval 1 27 v1 rfl rfl) h1
  rw [cells1] at l1
  obtain ⟨x1_0, x1_1, x1_2, x1_3, x1_4, x1_5, x1_6, x1_7, x1_8, x1_9, rfl⟩ := take10 n1 l1
  obtain ⟨A2, len2, cap2, ns2, rfl, hl2, hm2, hn2, hr2⟩ := open_flat_slice Tryz.underlying28 flat2 pos2 (hval 2 28 v2 rfl rfl) h2
  clear hA0 hval0
  refine (abi a0 x1_0 x1_1 x1_2 x1_3 x1_4 x1_5 x1_6 x1_7 x1_8 x1_9 A2 len2 cap2 ns2 W w0 hl2 hm2 hr2).mono fun e W' ⟨he, hb⟩ => ?_
  subst he
  exact ⟨_, rfl, law_post laidF rfl rfl Tryz.underlying4 (by kernel_rfl) hW' rfl hb⟩

theorem over : Rows.topBudgetRow.holds Tryz.pinned (OpenSpec.ofChange Rows.topBudgetSpec) :=
  OpenClaim.holds_of_wide 3 Tryz.f3 rfl rfl rfl rfl rfl rfl rfl ⟨rfl, rfl, rfl, rfl, rfl⟩ rfl rfl rfl rfl rfl (by kernel_rfl) Tryz.func3 factsF
    (of_decide_eq_true (by kernel_rfl)) (by unfold Func.isWrapper; first | (rw [if_pos (by decide +kernel)]; kernel_rfl) | (rw [if_neg (by decide +kernel)]; exact ⟨rfl, rfl⟩))
    (fun os started H enc _ => lifted os started H enc)

theorem proved : Rows.TopBudgetSaid := over
#print axioms proved
end Go.Proofs.YtioamnghkmcbbaaGreat.topBudget
