/-
  The law LogmPlays: for every input the Go function returns true and leaves its input as it was. No condition is laid on the input.
-/
import Derived.Test.YtkoncepjfgnjlaaGreatLogmPlaysM1
import Derived.Test.YtkoncepjfgnjlaaGreatLogmPlaysM5
namespace Go.Proofs.YtkoncepjfgnjlaaGreat.logmPlays
open Go.ChangeShapes Go.WideShapes Go.ChangeAt Go.RowKit
set_option linter.unusedVariables false

theorem own : ownKnob Tryz.prog.godebug = none := by kernel_rfl
theorem laidOut : laidOutB Tryz.prog = true := by kernel_rfl
theorem flat1 : flatInts Tryz.prog 8 43 = true := by kernel_rfl
theorem pos1 : 0 < Tryz.prog.cellsOf 43 := of_decide_eq_true (by kernel_rfl)
theorem flat2 : flatInts Tryz.prog 8 35 = true := by kernel_rfl
theorem cells2 : Tryz.prog.cellsOf 35 = 4 := by kernel_rfl
theorem take4 (l : List Int) (h : l.length = 4) : ∃ x2_0 x2_1 x2_2 x2_3 : Int, l = [x2_0, x2_1, x2_2, x2_3] := by
  match l, h with
  | [x2_0, x2_1, x2_2, x2_3], _ => exact ⟨_, _, _, _, rfl⟩

set_option maxRecDepth 100000 in
theorem lifted (os : Os) (started : os.Started) (H : Type) (enc : TypeId × Value → H) :
    ReturnsInHanded {} Tryz.checked os 5 .any (Rows.logmPlaysSpec.pre6 enc Tryz.prog Tryz.f5 Rows.logmPlaysRow.domain false) (Rows.logmPlaysSpec.post enc Tryz.prog Tryz.f5 false true false false) := by
  refine returnsInHanded_of_change (C := Tryz.checked) own started (by kernel_rfl) Tryz.func5
    (ChangeSpec.witness6 (enc := enc) (C := Tryz.checked) false ⟨#[], #[.int .i64 0, .slice none 0 0, .agg #[.int .i64 0, .int .i64 0, .int .i64 0, .int .i64 0]], []⟩ 8 (by kernel_rfl) (by kernel_rfl) (by kernel_rfl) (by kernel_rfl)) ?_
  intro W base args ds gs before hval0 hW hcnd _
  have hval : ∀ (j : Nat) t v, Tryz.f5.params[j]? = some t → args[j]? = some v → Value.okWide Tryz.prog W .any base t v := hval0
  have hW' := hW
  obtain ⟨p, q, hA0, hV, rfl, hfz, hnd⟩ := hW
  have hA : DataW.TrodAll enc Tryz.prog W 0 (fun _ => true) true Tryz.f5.params.toList args.toList ds p := hA0
  rw [Tryz.params5] at hA hval
  obtain ⟨v0, vs0, d0, ds0, p0, q0, hargs, rfl, rfl, h0, r0⟩ := trodAll_cons hA
  obtain ⟨v1, vs1, d1, ds1, p1, q1, rfl, rfl, rfl, h1, r1⟩ := trodAll_cons r0
  obtain ⟨v2, vs2, d2, ds2, p2, q2, rfl, rfl, rfl, h2, r2⟩ := trodAll_cons r1
  obtain ⟨rfl, rfl, rfl⟩ := trodAll_nil r2
  obtain rfl : args = #[v0, v1, v2] := by cases args; simp_all
  obtain ⟨rfl, rfl⟩ := trodVars_none hV
  obtain ⟨a0, rfl, rfl, rfl, w0⟩ := open_int Tryz.underlying3 (hval 0 3 v0 rfl rfl) h0
  obtain ⟨A1, len1, cap1, ns1, rfl, hl1, hm1, hn1, hr1⟩ := open_flat_slice Tryz.underlying33 flat1 pos1 (hval 1 33 v1 rfl rfl) h1
  obtain ⟨n2, rfl, l2, b2⟩ := open_flat Tryz.underlying35 flat2 (hval 2 35 v2 rfl rfl) h2
  rw [cells2] at l2
  obtain ⟨x2_0, x2_1, x2_2, x2_3, rfl⟩ := take4 n2 l2
  clear hA0 hval0
  refine (logmPlays_walk a0 A1 len1 cap1 ns1 x2_0 x2_1 x2_2 x2_3 W hl1 hm1 hn1 hr1).mono fun e W' ⟨he, hb⟩ => ?_
  subst he
  exact ⟨_, rfl, law_post laidOut rfl rfl Tryz.underlying4 (by kernel_rfl) hW' rfl hb⟩

theorem over : Rows.logmPlaysRow.holds Tryz.pinned (OpenSpec.ofChange Rows.logmPlaysSpec) :=
  OpenClaim.holds_of_wide 5 Tryz.f5 rfl rfl rfl rfl rfl rfl rfl ⟨rfl, rfl, rfl, rfl, rfl⟩ rfl rfl rfl rfl rfl (by kernel_rfl) Tryz.func5 (by kernel_rfl)
    (of_decide_eq_true (by kernel_rfl)) (by unfold Func.isWrapper; first | (rw [if_pos (by decide +kernel)]; kernel_rfl) | (rw [if_neg (by decide +kernel)]; exact ⟨rfl, rfl⟩))
    (fun os started H enc _ => lifted os started H enc)

theorem proved : Rows.LogmPlaysSaid := over
#print axioms proved
end Go.Proofs.YtkoncepjfgnjlaaGreat.logmPlays
