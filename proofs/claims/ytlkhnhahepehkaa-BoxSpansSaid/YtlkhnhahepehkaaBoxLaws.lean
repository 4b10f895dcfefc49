/- The walks of the laws of layer 4 (box): each returns true, whatever the input. -/
import Derived.Test.YtlkhnhahepehkaaBox3
import Derived.Deep.RegionHeld3
namespace Go.Proofs.Ytlkhnhahepehkaa
open Go.RowKit
set_option linter.unusedSimpArgs false
attribute [local go_sem ↓] run_maxI run_minI

/-- Two intervals' boxes, and that no more has turned. -/
abbrev TwoSpans (W : World) (p q : Nat) (i a b k c d : Int) (w : World) : Prop :=
  w.cell? ⟨p, 0, none⟩ = some (.int .i64 i) ∧ w.cell? ⟨p, 1, none⟩ = some (.int .i64 a) ∧ w.cell? ⟨p, 2, none⟩ = some (.int .i64 b) ∧
  w.cell? ⟨q, 0, none⟩ = some (.int .i64 k) ∧ w.cell? ⟨q, 1, none⟩ = some (.int .i64 c) ∧ w.cell? ⟨q, 2, none⟩ = some (.int .i64 d) ∧ Keep noBlk W w
theorem TwoSpans.step {W : World} {p q : Nat} {i a b k c d : Int} {w w1 : World} (h : TwoSpans W p q i a b k c d w) (hk : Keep noBlk w w1) : TwoSpans W p q i a b k c d w1 :=
  ⟨hk.hold h.1, hk.hold h.2.1, hk.hold h.2.2.1, hk.hold h.2.2.2.1, hk.hold h.2.2.2.2.1, hk.hold h.2.2.2.2.2.1, h.2.2.2.2.2.2.trans hk⟩

theorem stabs_is (i lo hi x : Int) (r : Bool) (h : Hid (inB x lo hi = r)) (w : World) :
    Calls Try.prog 29 #[.agg #[.int .i64 i, .int .i64 lo, .int .i64 hi], .int .i64 x] w fun e w' => e = .returned (.bool r) ∧ Keep noBlk w w' := by
  rw [← h.out]; exact stabs_any i lo hi x w
theorem overlap_is (i a b k c d : Int) (r : Bool) (h : Hid (overB a b c d = r)) (w : World) :
    Calls Try.prog 30 #[.agg #[.int .i64 i, .int .i64 a, .int .i64 b], .agg #[.int .i64 k, .int .i64 c, .int .i64 d]] w fun e w' => e = .returned (.bool r) ∧ Keep noBlk w w' := by
  rw [← h.out]; exact overlap_any i a b k c d w
theorem roverlap_is (i a b k c d : Int) (r : Bool) (h : Hid (overB a b c d = r)) (w : World) :
    Calls Try.prog 31 #[.agg #[.int .i64 i, .int .i64 a, .int .i64 b], .agg #[.int .i64 k, .int .i64 c, .int .i64 d]] w fun e w' => e = .returned (.bool r) ∧ Keep noBlk w w' := by
  rw [← h.out]; exact roverlap_any i a b k c d w
theorem overB_comm (a b c d : Int) : overB c d a b = overB a b c d := by rw [Bool.eq_iff_iff]; simp [overB]; omega

set_option maxHeartbeats 2000000 in
theorem spans_x1_l1_o1 (i a b k c d x : Int) (w : World) (hx1 : a ≤ x) (hx2 : x ≤ b) (hl : a < c) (V : Hid (inB x a b = true)) (O1 : Hid (overB a b c d = true)) (O2 : Hid (overB c d a b = true)) (M1 : Hid (inB c a b = true)) (M2 : Hid (inB c c d = true)) :
    Calls Try.prog 9 #[.agg #[.int .i64 i, .int .i64 a, .int .i64 b], .agg #[.int .i64 k, .int .i64 c, .int .i64 d], .int .i64 x] w fun e w' => e = .returned (.bool true) ∧ Below w.heap.size w w' := by
  go_enter Try.func9, Try.ntmps9
  go_wp2_with fail
  have hg0 : TwoSpans w w.heap.size (w.heap.size + 1) i a b k c d ((w.alloc (.cells #[.int .i64 i, .int .i64 a, .int .i64 b] 43)).alloc (.cells #[.int .i64 k, .int .i64 c, .int .i64 d] 43)).drew := ⟨by simp, by simp, by simp, by simp, by simp, by simp, by (repeat (first | exact Keep.refl _ _ | (with_reducible refine Keep.setCell ?_ (by simp; omega) _) | (with_reducible refine Keep.alloc ?_ _) | (with_reducible refine Keep.drew ?_) | (with_reducible refine Keep.drewN ?_ _)))⟩
  obtain ⟨T, hT, WW, h0, hg, HC⟩ := class_of _ hg0
  have hg1 := fun x => (hg x).1
  have hg2 := fun x => (hg x).2.1
  have hg3 := fun x => (hg x).2.2.1
  have hg4 := fun x => (hg x).2.2.2.1
  have hg5 := fun x => (hg x).2.2.2.2.1
  have hg6 := fun x => (hg x).2.2.2.2.2.1
  have HG := Lib.hid hg
  have HS := Lib.hid (fun (u u1 : World) (h : TwoSpans w w.heap.size (w.heap.size + 1) i a b k c d u) (hk : Keep noBlk u u1) => TwoSpans.step h hk)
  clear hg hg0
  refine wp_region_class WW (by kernel_rfl) (by kernel_rfl) h0 ?_
  repeat (go_big_quiet_step (first | (go_at_call 29; with_reducible apply class_call HC HG HS (stabs_is _ _ _ _ _ V _)) | (go_at_call 29; with_reducible apply class_call HC HG HS (stabs_is _ _ _ _ _ M1 _)) | (go_at_call 29; with_reducible apply class_call HC HG HS (stabs_is _ _ _ _ _ M2 _)) | (go_at_call 30; with_reducible apply class_call HC HG HS (overlap_is _ _ _ _ _ _ _ O1 _)) | (go_at_call 30; with_reducible apply class_call HC HG HS (overlap_is _ _ _ _ _ _ _ O2 _)) | (go_at_call 31; with_reducible apply class_call HC HG HS (roverlap_is _ _ _ _ _ _ _ O1 _)) | (go_at_call 28; with_reducible apply class_call HC HG HS (lives4_any _))))
  refine wpQuiet_nil ?_
  intro _ hw'
  obtain ⟨x9, rfl⟩ := hw'
  go_wp2_with fail
  go_ret
  exact ⟨rfl, (HG.out x9).2.2.2.2.2.2.below⟩

set_option maxHeartbeats 2000000 in
theorem spans_x1_l1_o2 (i a b k c d x : Int) (w : World) (hx1 : a ≤ x) (hx2 : x ≤ b) (hl : a < c) (V : Hid (inB x a b = true)) (O1 : Hid (overB a b c d = false)) (O2 : Hid (overB c d a b = false)) (M1 : Hid (inB c a b = false)) :
    Calls Try.prog 9 #[.agg #[.int .i64 i, .int .i64 a, .int .i64 b], .agg #[.int .i64 k, .int .i64 c, .int .i64 d], .int .i64 x] w fun e w' => e = .returned (.bool true) ∧ Below w.heap.size w w' := by
  go_enter Try.func9, Try.ntmps9
  go_wp2_with fail
  have hg0 : TwoSpans w w.heap.size (w.heap.size + 1) i a b k c d ((w.alloc (.cells #[.int .i64 i, .int .i64 a, .int .i64 b] 43)).alloc (.cells #[.int .i64 k, .int .i64 c, .int .i64 d] 43)).drew := ⟨by simp, by simp, by simp, by simp, by simp, by simp, by (repeat (first | exact Keep.refl _ _ | (with_reducible refine Keep.setCell ?_ (by simp; omega) _) | (with_reducible refine Keep.alloc ?_ _) | (with_reducible refine Keep.drew ?_) | (with_reducible refine Keep.drewN ?_ _)))⟩
  obtain ⟨T, hT, WW, h0, hg, HC⟩ := class_of _ hg0
  have hg1 := fun x => (hg x).1
  have hg2 := fun x => (hg x).2.1
  have hg3 := fun x => (hg x).2.2.1
  have hg4 := fun x => (hg x).2.2.2.1
  have hg5 := fun x => (hg x).2.2.2.2.1
  have hg6 := fun x => (hg x).2.2.2.2.2.1
  have HG := Lib.hid hg
  have HS := Lib.hid (fun (u u1 : World) (h : TwoSpans w w.heap.size (w.heap.size + 1) i a b k c d u) (hk : Keep noBlk u u1) => TwoSpans.step h hk)
  clear hg hg0
  refine wp_region_class WW (by kernel_rfl) (by kernel_rfl) h0 ?_
  repeat (go_big_quiet_step (first | (go_at_call 29; with_reducible apply class_call HC HG HS (stabs_is _ _ _ _ _ V _)) | (go_at_call 29; with_reducible apply class_call HC HG HS (stabs_is _ _ _ _ _ M1 _)) | (go_at_call 30; with_reducible apply class_call HC HG HS (overlap_is _ _ _ _ _ _ _ O1 _)) | (go_at_call 30; with_reducible apply class_call HC HG HS (overlap_is _ _ _ _ _ _ _ O2 _)) | (go_at_call 31; with_reducible apply class_call HC HG HS (roverlap_is _ _ _ _ _ _ _ O1 _)) | (go_at_call 28; with_reducible apply class_call HC HG HS (lives4_any _))))
  refine wpQuiet_nil ?_
  intro _ hw'
  obtain ⟨x9, rfl⟩ := hw'
  go_wp2_with fail
  go_ret
  exact ⟨rfl, (HG.out x9).2.2.2.2.2.2.below⟩

set_option maxHeartbeats 2000000 in
theorem spans_x1_l1_o3 (i a b k c d x : Int) (w : World) (hx1 : a ≤ x) (hx2 : x ≤ b) (hl : a < c) (V : Hid (inB x a b = true)) (O1 : Hid (overB a b c d = false)) (O2 : Hid (overB c d a b = false)) (M1 : Hid (inB c a b = true)) (M2 : Hid (inB c c d = false)) :
    Calls Try.prog 9 #[.agg #[.int .i64 i, .int .i64 a, .int .i64 b], .agg #[.int .i64 k, .int .i64 c, .int .i64 d], .int .i64 x] w fun e w' => e = .returned (.bool true) ∧ Below w.heap.size w w' := by
  go_enter Try.func9, Try.ntmps9
  go_wp2_with fail
  have hg0 : TwoSpans w w.heap.size (w.heap.size + 1) i a b k c d ((w.alloc (.cells #[.int .i64 i, .int .i64 a, .int .i64 b] 43)).alloc (.cells #[.int .i64 k, .int .i64 c, .int .i64 d] 43)).drew := ⟨by simp, by simp, by simp, by simp, by simp, by simp, by (repeat (first | exact Keep.refl _ _ | (with_reducible refine Keep.setCell ?_ (by simp; omega) _) | (with_reducible refine Keep.alloc ?_ _) | (with_reducible refine Keep.drew ?_) | (with_reducible refine Keep.drewN ?_ _)))⟩
  obtain ⟨T, hT, WW, h0, hg, HC⟩ := class_of _ hg0
  have hg1 := fun x => (hg x).1
  have hg2 := fun x => (hg x).2.1
  have hg3 := fun x => (hg x).2.2.1
  have hg4 := fun x => (hg x).2.2.2.1
  have hg5 := fun x => (hg x).2.2.2.2.1
  have hg6 := fun x => (hg x).2.2.2.2.2.1
  have HG := Lib.hid hg
  have HS := Lib.hid (fun (u u1 : World) (h : TwoSpans w w.heap.size (w.heap.size + 1) i a b k c d u) (hk : Keep noBlk u u1) => TwoSpans.step h hk)
  clear hg hg0
  refine wp_region_class WW (by kernel_rfl) (by kernel_rfl) h0 ?_
  repeat (go_big_quiet_step (first | (go_at_call 29; with_reducible apply class_call HC HG HS (stabs_is _ _ _ _ _ V _)) | (go_at_call 29; with_reducible apply class_call HC HG HS (stabs_is _ _ _ _ _ M1 _)) | (go_at_call 29; with_reducible apply class_call HC HG HS (stabs_is _ _ _ _ _ M2 _)) | (go_at_call 30; with_reducible apply class_call HC HG HS (overlap_is _ _ _ _ _ _ _ O1 _)) | (go_at_call 30; with_reducible apply class_call HC HG HS (overlap_is _ _ _ _ _ _ _ O2 _)) | (go_at_call 31; with_reducible apply class_call HC HG HS (roverlap_is _ _ _ _ _ _ _ O1 _)) | (go_at_call 28; with_reducible apply class_call HC HG HS (lives4_any _))))
  refine wpQuiet_nil ?_
  intro _ hw'
  obtain ⟨x9, rfl⟩ := hw'
  go_wp2_with fail
  go_ret
  exact ⟨rfl, (HG.out x9).2.2.2.2.2.2.below⟩

set_option maxHeartbeats 2000000 in
theorem spans_x1_l2_o1 (i a b k c d x : Int) (w : World) (hx1 : a ≤ x) (hx2 : x ≤ b) (hl : c ≤ a) (V : Hid (inB x a b = true)) (O1 : Hid (overB a b c d = true)) (O2 : Hid (overB c d a b = true)) (M1 : Hid (inB a a b = true)) (M2 : Hid (inB a c d = true)) :
    Calls Try.prog 9 #[.agg #[.int .i64 i, .int .i64 a, .int .i64 b], .agg #[.int .i64 k, .int .i64 c, .int .i64 d], .int .i64 x] w fun e w' => e = .returned (.bool true) ∧ Below w.heap.size w w' := by
  go_enter Try.func9, Try.ntmps9
  go_wp2_with fail
  have hg0 : TwoSpans w w.heap.size (w.heap.size + 1) i a b k c d ((w.alloc (.cells #[.int .i64 i, .int .i64 a, .int .i64 b] 43)).alloc (.cells #[.int .i64 k, .int .i64 c, .int .i64 d] 43)).drew := ⟨by simp, by simp, by simp, by simp, by simp, by simp, by (repeat (first | exact Keep.refl _ _ | (with_reducible refine Keep.setCell ?_ (by simp; omega) _) | (with_reducible refine Keep.alloc ?_ _) | (with_reducible refine Keep.drew ?_) | (with_reducible refine Keep.drewN ?_ _)))⟩
  obtain ⟨T, hT, WW, h0, hg, HC⟩ := class_of _ hg0
  have hg1 := fun x => (hg x).1
  have hg2 := fun x => (hg x).2.1
  have hg3 := fun x => (hg x).2.2.1
  have hg4 := fun x => (hg x).2.2.2.1
  have hg5 := fun x => (hg x).2.2.2.2.1
  have hg6 := fun x => (hg x).2.2.2.2.2.1
  have HG := Lib.hid hg
  have HS := Lib.hid (fun (u u1 : World) (h : TwoSpans w w.heap.size (w.heap.size + 1) i a b k c d u) (hk : Keep noBlk u u1) => TwoSpans.step h hk)
  clear hg hg0
  refine wp_region_class WW (by kernel_rfl) (by kernel_rfl) h0 ?_
  repeat (go_big_quiet_step (first | (go_at_call 29; with_reducible apply class_call HC HG HS (stabs_is _ _ _ _ _ V _)) | (go_at_call 29; with_reducible apply class_call HC HG HS (stabs_is _ _ _ _ _ M1 _)) | (go_at_call 29; with_reducible apply class_call HC HG HS (stabs_is _ _ _ _ _ M2 _)) | (go_at_call 30; with_reducible apply class_call HC HG HS (overlap_is _ _ _ _ _ _ _ O1 _)) | (go_at_call 30; with_reducible apply class_call HC HG HS (overlap_is _ _ _ _ _ _ _ O2 _)) | (go_at_call 31; with_reducible apply class_call HC HG HS (roverlap_is _ _ _ _ _ _ _ O1 _)) | (go_at_call 28; with_reducible apply class_call HC HG HS (lives4_any _))))
  refine wpQuiet_nil ?_
  intro _ hw'
  obtain ⟨x9, rfl⟩ := hw'
  go_wp2_with fail
  go_ret
  exact ⟨rfl, (HG.out x9).2.2.2.2.2.2.below⟩

set_option maxHeartbeats 2000000 in
theorem spans_x1_l2_o2 (i a b k c d x : Int) (w : World) (hx1 : a ≤ x) (hx2 : x ≤ b) (hl : c ≤ a) (V : Hid (inB x a b = true)) (O1 : Hid (overB a b c d = false)) (O2 : Hid (overB c d a b = false)) (M1 : Hid (inB a a b = false)) :
    Calls Try.prog 9 #[.agg #[.int .i64 i, .int .i64 a, .int .i64 b], .agg #[.int .i64 k, .int .i64 c, .int .i64 d], .int .i64 x] w fun e w' => e = .returned (.bool true) ∧ Below w.heap.size w w' := by
  go_enter Try.func9, Try.ntmps9
  go_wp2_with fail
  have hg0 : TwoSpans w w.heap.size (w.heap.size + 1) i a b k c d ((w.alloc (.cells #[.int .i64 i, .int .i64 a, .int .i64 b] 43)).alloc (.cells #[.int .i64 k, .int .i64 c, .int .i64 d] 43)).drew := ⟨by simp, by simp, by simp, by simp, by simp, by simp, by (repeat (first | exact Keep.refl _ _ | (with_reducible refine Keep.setCell ?_ (by simp; omega) _) | (with_reducible refine Keep.alloc ?_ _) | (with_reducible refine Keep.drew ?_) | (with_reducible refine Keep.drewN ?_ _)))⟩
  obtain ⟨T, hT, WW, h0, hg, HC⟩ := class_of _ hg0
  have hg1 := fun x => (hg x).1
  have hg2 := fun x => (hg x).2.1
  have hg3 := fun x => (hg x).2.2.1
  have hg4 := fun x => (hg x).2.2.2.1
  have hg5 := fun x => (hg x).2.2.2.2.1
  have hg6 := fun x => (hg x).2.2.2.2.2.1
  have HG := Lib.hid hg
  have HS := Lib.hid (fun (u u1 : World) (h : TwoSpans w w.heap.size (w.heap.size + 1) i a b k c d u) (hk : Keep noBlk u u1) => TwoSpans.step h hk)
  clear hg hg0
  refine wp_region_class WW (by kernel_rfl) (by kernel_rfl) h0 ?_
  repeat (go_big_quiet_step (first | (go_at_call 29; with_reducible apply class_call HC HG HS (stabs_is _ _ _ _ _ V _)) | (go_at_call 29; with_reducible apply class_call HC HG HS (stabs_is _ _ _ _ _ M1 _)) | (go_at_call 30; with_reducible apply class_call HC HG HS (overlap_is _ _ _ _ _ _ _ O1 _)) | (go_at_call 30; with_reducible apply class_call HC HG HS (overlap_is _ _ _ _ _ _ _ O2 _)) | (go_at_call 31; with_reducible apply class_call HC HG HS (roverlap_is _ _ _ _ _ _ _ O1 _)) | (go_at_call 28; with_reducible apply class_call HC HG HS (lives4_any _))))
  refine wpQuiet_nil ?_
  intro _ hw'
  obtain ⟨x9, rfl⟩ := hw'
  go_wp2_with fail
  go_ret
  exact ⟨rfl, (HG.out x9).2.2.2.2.2.2.below⟩

set_option maxHeartbeats 2000000 in
theorem spans_x1_l2_o3 (i a b k c d x : Int) (w : World) (hx1 : a ≤ x) (hx2 : x ≤ b) (hl : c ≤ a) (V : Hid (inB x a b = true)) (O1 : Hid (overB a b c d = false)) (O2 : Hid (overB c d a b = false)) (M1 : Hid (inB a a b = true)) (M2 : Hid (inB a c d = false)) :
    Calls Try.prog 9 #[.agg #[.int .i64 i, .int .i64 a, .int .i64 b], .agg #[.int .i64 k, .int .i64 c, .int .i64 d], .int .i64 x] w fun e w' => e = .returned (.bool true) ∧ Below w.heap.size w w' := by
  go_enter Try.func9, Try.ntmps9
  go_wp2_with fail
  have hg0 : TwoSpans w w.heap.size (w.heap.size + 1) i a b k c d ((w.alloc (.cells #[.int .i64 i, .int .i64 a, .int .i64 b] 43)).alloc (.cells #[.int .i64 k, .int .i64 c, .int .i64 d] 43)).drew := ⟨by simp, by simp, by simp, by simp, by simp, by simp, by (repeat (first | exact Keep.refl _ _ | (with_reducible refine Keep.setCell ?_ (by simp; omega) _) | (with_reducible refine Keep.alloc ?_ _) | (with_reducible refine Keep.drew ?_) | (with_reducible refine Keep.drewN ?_ _)))⟩
  obtain ⟨T, hT, WW, h0, hg, HC⟩ := class_of _ hg0
  have hg1 := fun x => (hg x).1
  have hg2 := fun x => (hg x).2.1
  have hg3 := fun x => (hg x).2.2.1
  have hg4 := fun x => (hg x).2.2.2.1
  have hg5 := fun x => (hg x).2.2.2.2.1
  have hg6 := fun x => (hg x).2.2.2.2.2.1
  have HG := Lib.hid hg
  have HS := Lib.hid (fun (u u1 : World) (h : TwoSpans w w.heap.size (w.heap.size + 1) i a b k c d u) (hk : Keep noBlk u u1) => TwoSpans.step h hk)
  clear hg hg0
  refine wp_region_class WW (by kernel_rfl) (by kernel_rfl) h0 ?_
  repeat (go_big_quiet_step (first | (go_at_call 29; with_reducible apply class_call HC HG HS (stabs_is _ _ _ _ _ V _)) | (go_at_call 29; with_reducible apply class_call HC HG HS (stabs_is _ _ _ _ _ M1 _)) | (go_at_call 29; with_reducible apply class_call HC HG HS (stabs_is _ _ _ _ _ M2 _)) | (go_at_call 30; with_reducible apply class_call HC HG HS (overlap_is _ _ _ _ _ _ _ O1 _)) | (go_at_call 30; with_reducible apply class_call HC HG HS (overlap_is _ _ _ _ _ _ _ O2 _)) | (go_at_call 31; with_reducible apply class_call HC HG HS (roverlap_is _ _ _ _ _ _ _ O1 _)) | (go_at_call 28; with_reducible apply class_call HC HG HS (lives4_any _))))
  refine wpQuiet_nil ?_
  intro _ hw'
  obtain ⟨x9, rfl⟩ := hw'
  go_wp2_with fail
  go_ret
  exact ⟨rfl, (HG.out x9).2.2.2.2.2.2.below⟩

set_option maxHeartbeats 2000000 in
theorem spans_x2_l1_o1 (i a b k c d x : Int) (w : World) (hx1 : a ≤ x) (hx2 : b < x) (hl : a < c) (V : Hid (inB x a b = false)) (O1 : Hid (overB a b c d = true)) (O2 : Hid (overB c d a b = true)) (M1 : Hid (inB c a b = true)) (M2 : Hid (inB c c d = true)) :
    Calls Try.prog 9 #[.agg #[.int .i64 i, .int .i64 a, .int .i64 b], .agg #[.int .i64 k, .int .i64 c, .int .i64 d], .int .i64 x] w fun e w' => e = .returned (.bool true) ∧ Below w.heap.size w w' := by
  have hd : decide (x ≤ b) = false := by simp; omega
  go_enter Try.func9, Try.ntmps9
  go_wp2_with fail
  have hg0 : TwoSpans w w.heap.size (w.heap.size + 1) i a b k c d ((w.alloc (.cells #[.int .i64 i, .int .i64 a, .int .i64 b] 43)).alloc (.cells #[.int .i64 k, .int .i64 c, .int .i64 d] 43)).drew := ⟨by simp, by simp, by simp, by simp, by simp, by simp, by (repeat (first | exact Keep.refl _ _ | (with_reducible refine Keep.setCell ?_ (by simp; omega) _) | (with_reducible refine Keep.alloc ?_ _) | (with_reducible refine Keep.drew ?_) | (with_reducible refine Keep.drewN ?_ _)))⟩
  obtain ⟨T, hT, WW, h0, hg, HC⟩ := class_of _ hg0
  have hg1 := fun x => (hg x).1
  have hg2 := fun x => (hg x).2.1
  have hg3 := fun x => (hg x).2.2.1
  have hg4 := fun x => (hg x).2.2.2.1
  have hg5 := fun x => (hg x).2.2.2.2.1
  have hg6 := fun x => (hg x).2.2.2.2.2.1
  have HG := Lib.hid hg
  have HS := Lib.hid (fun (u u1 : World) (h : TwoSpans w w.heap.size (w.heap.size + 1) i a b k c d u) (hk : Keep noBlk u u1) => TwoSpans.step h hk)
  clear hg hg0
  refine wp_region_class WW (by kernel_rfl) (by kernel_rfl) h0 ?_
  repeat (go_big_quiet_step (first | (go_at_call 29; with_reducible apply class_call HC HG HS (stabs_is _ _ _ _ _ V _)) | (go_at_call 29; with_reducible apply class_call HC HG HS (stabs_is _ _ _ _ _ M1 _)) | (go_at_call 29; with_reducible apply class_call HC HG HS (stabs_is _ _ _ _ _ M2 _)) | (go_at_call 30; with_reducible apply class_call HC HG HS (overlap_is _ _ _ _ _ _ _ O1 _)) | (go_at_call 30; with_reducible apply class_call HC HG HS (overlap_is _ _ _ _ _ _ _ O2 _)) | (go_at_call 31; with_reducible apply class_call HC HG HS (roverlap_is _ _ _ _ _ _ _ O1 _)) | (go_at_call 28; with_reducible apply class_call HC HG HS (lives4_any _))))
  refine wpQuiet_nil ?_
  intro _ hw'
  obtain ⟨x9, rfl⟩ := hw'
  go_wp2_with fail
  go_ret
  exact ⟨rfl, (HG.out x9).2.2.2.2.2.2.below⟩

set_option maxHeartbeats 2000000 in
theorem spans_x2_l1_o2 (i a b k c d x : Int) (w : World) (hx1 : a ≤ x) (hx2 : b < x) (hl : a < c) (V : Hid (inB x a b = false)) (O1 : Hid (overB a b c d = false)) (O2 : Hid (overB c d a b = false)) (M1 : Hid (inB c a b = false)) :
    Calls Try.prog 9 #[.agg #[.int .i64 i, .int .i64 a, .int .i64 b], .agg #[.int .i64 k, .int .i64 c, .int .i64 d], .int .i64 x] w fun e w' => e = .returned (.bool true) ∧ Below w.heap.size w w' := by
  have hd : decide (x ≤ b) = false := by simp; omega
  go_enter Try.func9, Try.ntmps9
  go_wp2_with fail
  have hg0 : TwoSpans w w.heap.size (w.heap.size + 1) i a b k c d ((w.alloc (.cells #[.int .i64 i, .int .i64 a, .int .i64 b] 43)).alloc (.cells #[.int .i64 k, .int .i64 c, .int .i64 d] 43)).drew := ⟨by simp, by simp, by simp, by simp, by simp, by simp, by (repeat (first | exact Keep.refl _ _ | (with_reducible refine Keep.setCell ?_ (by simp; omega) _) | (with_reducible refine Keep.alloc ?_ _) | (with_reducible refine Keep.drew ?_) | (with_reducible refine Keep.drewN ?_ _)))⟩
  obtain ⟨T, hT, WW, h0, hg, HC⟩ := class_of _ hg0
  have hg1 := fun x => (hg x).1
  have hg2 := fun x => (hg x).2.1
  have hg3 := fun x => (hg x).2.2.1
  have hg4 := fun x => (hg x).2.2.2.1
  have hg5 := fun x => (hg x).2.2.2.2.1
  have hg6 := fun x => (hg x).2.2.2.2.2.1
  have HG := Lib.hid hg
  have HS := Lib.hid (fun (u u1 : World) (h : TwoSpans w w.heap.size (w.heap.size + 1) i a b k c d u) (hk : Keep noBlk u u1) => TwoSpans.step h hk)
  clear hg hg0
  refine wp_region_class WW (by kernel_rfl) (by kernel_rfl) h0 ?_
  repeat (go_big_quiet_step (first | (go_at_call 29; with_reducible apply class_call HC HG HS (stabs_is _ _ _ _ _ V _)) | (go_at_call 29; with_reducible apply class_call HC HG HS (stabs_is _ _ _ _ _ M1 _)) | (go_at_call 30; with_reducible apply class_call HC HG HS (overlap_is _ _ _ _ _ _ _ O1 _)) | (go_at_call 30; with_reducible apply class_call HC HG HS (overlap_is _ _ _ _ _ _ _ O2 _)) | (go_at_call 31; with_reducible apply class_call HC HG HS (roverlap_is _ _ _ _ _ _ _ O1 _)) | (go_at_call 28; with_reducible apply class_call HC HG HS (lives4_any _))))
  refine wpQuiet_nil ?_
  intro _ hw'
  obtain ⟨x9, rfl⟩ := hw'
  go_wp2_with fail
  go_ret
  exact ⟨rfl, (HG.out x9).2.2.2.2.2.2.below⟩

set_option maxHeartbeats 2000000 in
theorem spans_x2_l1_o3 (i a b k c d x : Int) (w : World) (hx1 : a ≤ x) (hx2 : b < x) (hl : a < c) (V : Hid (inB x a b = false)) (O1 : Hid (overB a b c d = false)) (O2 : Hid (overB c d a b = false)) (M1 : Hid (inB c a b = true)) (M2 : Hid (inB c c d = false)) :
    Calls Try.prog 9 #[.agg #[.int .i64 i, .int .i64 a, .int .i64 b], .agg #[.int .i64 k, .int .i64 c, .int .i64 d], .int .i64 x] w fun e w' => e = .returned (.bool true) ∧ Below w.heap.size w w' := by
  have hd : decide (x ≤ b) = false := by simp; omega
  go_enter Try.func9, Try.ntmps9
  go_wp2_with fail
  have hg0 : TwoSpans w w.heap.size (w.heap.size + 1) i a b k c d ((w.alloc (.cells #[.int .i64 i, .int .i64 a, .int .i64 b] 43)).alloc (.cells #[.int .i64 k, .int .i64 c, .int .i64 d] 43)).drew := ⟨by simp, by simp, by simp, by simp, by simp, by simp, by (repeat (first | exact Keep.refl _ _ | (with_reducible refine Keep.setCell ?_ (by simp; omega) _) | (with_reducible refine Keep.alloc ?_ _) | (with_reducible refine Keep.drew ?_) | (with_reducible refine Keep.drewN ?_ _)))⟩
  obtain ⟨T, hT, WW, h0, hg, HC⟩ := class_of _ hg0
  have hg1 := fun x => (hg x).1
  have hg2 := fun x => (hg x).2.1
  have hg3 := fun x => (hg x).2.2.1
  have hg4 := fun x => (hg x).2.2.2.1
  have hg5 := fun x => (hg x).2.2.2.2.1
  have hg6 := fun x => (hg x).2.2.2.2.2.1
  have HG := Lib.hid hg
  have HS := Lib.hid (fun (u u1 : World) (h : TwoSpans w w.heap.size (w.heap.size + 1) i a b k c d u) (hk : Keep noBlk u u1) => TwoSpans.step h hk)
  clear hg hg0
  refine wp_region_class WW (by kernel_rfl) (by kernel_rfl) h0 ?_
  repeat (go_big_quiet_step (first | (go_at_call 29; with_reducible apply class_call HC HG HS (stabs_is _ _ _ _ _ V _)) | (go_at_call 29; with_reducible apply class_call HC HG HS (stabs_is _ _ _ _ _ M1 _)) | (go_at_call 29; with_reducible apply class_call HC HG HS (stabs_is _ _ _ _ _ M2 _)) | (go_at_call 30; with_reducible apply class_call HC HG HS (overlap_is _ _ _ _ _ _ _ O1 _)) | (go_at_call 30; with_reducible apply class_call HC HG HS (overlap_is _ _ _ _ _ _ _ O2 _)) | (go_at_call 31; with_reducible apply class_call HC HG HS (roverlap_is _ _ _ _ _ _ _ O1 _)) | (go_at_call 28; with_reducible apply class_call HC HG HS (lives4_any _))))
  refine wpQuiet_nil ?_
  intro _ hw'
  obtain ⟨x9, rfl⟩ := hw'
  go_wp2_with fail
  go_ret
  exact ⟨rfl, (HG.out x9).2.2.2.2.2.2.below⟩

set_option maxHeartbeats 2000000 in
theorem spans_x2_l2_o1 (i a b k c d x : Int) (w : World) (hx1 : a ≤ x) (hx2 : b < x) (hl : c ≤ a) (V : Hid (inB x a b = false)) (O1 : Hid (overB a b c d = true)) (O2 : Hid (overB c d a b = true)) (M1 : Hid (inB a a b = true)) (M2 : Hid (inB a c d = true)) :
    Calls Try.prog 9 #[.agg #[.int .i64 i, .int .i64 a, .int .i64 b], .agg #[.int .i64 k, .int .i64 c, .int .i64 d], .int .i64 x] w fun e w' => e = .returned (.bool true) ∧ Below w.heap.size w w' := by
  have hd : decide (x ≤ b) = false := by simp; omega
  go_enter Try.func9, Try.ntmps9
  go_wp2_with fail
  have hg0 : TwoSpans w w.heap.size (w.heap.size + 1) i a b k c d ((w.alloc (.cells #[.int .i64 i, .int .i64 a, .int .i64 b] 43)).alloc (.cells #[.int .i64 k, .int .i64 c, .int .i64 d] 43)).drew := ⟨by simp, by simp, by simp, by simp, by simp, by simp, by (repeat (first | exact Keep.refl _ _ | (with_reducible refine Keep.setCell ?_ (by simp; omega) _) | (with_reducible refine Keep.alloc ?_ _) | (with_reducible refine Keep.drew ?_) | (with_reducible refine Keep.drewN ?_ _)))⟩
  obtain ⟨T, hT, WW, h0, hg, HC⟩ := class_of _ hg0
  have hg1 := fun x => (hg x).1
  have hg2 := fun x => (hg x).2.1
  have hg3 := fun x => (hg x).2.2.1
  have hg4 := fun x => (hg x).2.2.2.1
  have hg5 := fun x => (hg x).2.2.2.2.1
  have hg6 := fun x => (hg x).2.2.2.2.2.1
  have HG := Lib.hid hg
  have HS := Lib.hid (fun (u u1 : World) (h : TwoSpans w w.heap.size (w.heap.size + 1) i a b k c d u) (hk : Keep noBlk u u1) => TwoSpans.step h hk)
  clear hg hg0
  refine wp_region_class WW (by kernel_rfl) (by kernel_rfl) h0 ?_
  repeat (go_big_quiet_step (first | (go_at_call 29; with_reducible apply class_call HC HG HS (stabs_is _ _ _ _ _ V _)) | (go_at_call 29; with_reducible apply class_call HC HG HS (stabs_is _ _ _ _ _ M1 _)) | (go_at_call 29; with_reducible apply class_call HC HG HS (stabs_is _ _ _ _ _ M2 _)) | (go_at_call 30; with_reducible apply class_call HC HG HS (overlap_is _ _ _ _ _ _ _ O1 _)) | (go_at_call 30; with_reducible apply class_call HC HG HS (overlap_is _ _ _ _ _ _ _ O2 _)) | (go_at_call 31; with_reducible apply class_call HC HG HS (roverlap_is _ _ _ _ _ _ _ O1 _)) | (go_at_call 28; with_reducible apply class_call HC HG HS (lives4_any _))))
  refine wpQuiet_nil ?_
  intro _ hw'
  obtain ⟨x9, rfl⟩ := hw'
  go_wp2_with fail
  go_ret
  exact ⟨rfl, (HG.out x9).2.2.2.2.2.2.below⟩

set_option maxHeartbeats 2000000 in
theorem spans_x2_l2_o2 (i a b k c d x : Int) (w : World) (hx1 : a ≤ x) (hx2 : b < x) (hl : c ≤ a) (V : Hid (inB x a b = false)) (O1 : Hid (overB a b c d = false)) (O2 : Hid (overB c d a b = false)) (M1 : Hid (inB a a b = false)) :
    Calls Try.prog 9 #[.agg #[.int .i64 i, .int .i64 a, .int .i64 b], .agg #[.int .i64 k, .int .i64 c, .int .i64 d], .int .i64 x] w fun e w' => e = .returned (.bool true) ∧ Below w.heap.size w w' := by
  have hd : decide (x ≤ b) = false := by simp; omega
  go_enter Try.func9, Try.ntmps9
  go_wp2_with fail
  have hg0 : TwoSpans w w.heap.size (w.heap.size + 1) i a b k c d ((w.alloc (.cells #[.int .i64 i, .int .i64 a, .int .i64 b] 43)).alloc (.cells #[.int .i64 k, .int .i64 c, .int .i64 d] 43)).drew := ⟨by simp, by simp, by simp, by simp, by simp, by simp, by (repeat (first | exact Keep.refl _ _ | (with_reducible refine Keep.setCell ?_ (by simp; omega) _) | (with_reducible refine Keep.alloc ?_ _) | (with_reducible refine Keep.drew ?_) | (with_reducible refine Keep.drewN ?_ _)))⟩
  obtain ⟨T, hT, WW, h0, hg, HC⟩ := class_of _ hg0
  have hg1 := fun x => (hg x).1
  have hg2 := fun x => (hg x).2.1
  have hg3 := fun x => (hg x).2.2.1
  have hg4 := fun x => (hg x).2.2.2.1
  have hg5 := fun x => (hg x).2.2.2.2.1
  have hg6 := fun x => (hg x).2.2.2.2.2.1
  have HG := Lib.hid hg
  have HS := Lib.hid (fun (u u1 : World) (h : TwoSpans w w.heap.size (w.heap.size + 1) i a b k c d u) (hk : Keep noBlk u u1) => TwoSpans.step h hk)
  clear hg hg0
  refine wp_region_class WW (by kernel_rfl) (by kernel_rfl) h0 ?_
  repeat (go_big_quiet_step (first | (go_at_call 29; with_reducible apply class_call HC HG HS (stabs_is _ _ _ _ _ V _)) | (go_at_call 29; with_reducible apply class_call HC HG HS (stabs_is _ _ _ _ _ M1 _)) | (go_at_call 30; with_reducible apply class_call HC HG HS (overlap_is _ _ _ _ _ _ _ O1 _)) | (go_at_call 30; with_reducible apply class_call HC HG HS (overlap_is _ _ _ _ _ _ _ O2 _)) | (go_at_call 31; with_reducible apply class_call HC HG HS (roverlap_is _ _ _ _ _ _ _ O1 _)) | (go_at_call 28; with_reducible apply class_call HC HG HS (lives4_any _))))
  refine wpQuiet_nil ?_
  intro _ hw'
  obtain ⟨x9, rfl⟩ := hw'
  go_wp2_with fail
  go_ret
  exact ⟨rfl, (HG.out x9).2.2.2.2.2.2.below⟩

set_option maxHeartbeats 2000000 in
theorem spans_x2_l2_o3 (i a b k c d x : Int) (w : World) (hx1 : a ≤ x) (hx2 : b < x) (hl : c ≤ a) (V : Hid (inB x a b = false)) (O1 : Hid (overB a b c d = false)) (O2 : Hid (overB c d a b = false)) (M1 : Hid (inB a a b = true)) (M2 : Hid (inB a c d = false)) :
    Calls Try.prog 9 #[.agg #[.int .i64 i, .int .i64 a, .int .i64 b], .agg #[.int .i64 k, .int .i64 c, .int .i64 d], .int .i64 x] w fun e w' => e = .returned (.bool true) ∧ Below w.heap.size w w' := by
  have hd : decide (x ≤ b) = false := by simp; omega
  go_enter Try.func9, Try.ntmps9
  go_wp2_with fail
  have hg0 : TwoSpans w w.heap.size (w.heap.size + 1) i a b k c d ((w.alloc (.cells #[.int .i64 i, .int .i64 a, .int .i64 b] 43)).alloc (.cells #[.int .i64 k, .int .i64 c, .int .i64 d] 43)).drew := ⟨by simp, by simp, by simp, by simp, by simp, by simp, by (repeat (first | exact Keep.refl _ _ | (with_reducible refine Keep.setCell ?_ (by simp; omega) _) | (with_reducible refine Keep.alloc ?_ _) | (with_reducible refine Keep.drew ?_) | (with_reducible refine Keep.drewN ?_ _)))⟩
  obtain ⟨T, hT, WW, h0, hg, HC⟩ := class_of _ hg0
  have hg1 := fun x => (hg x).1
  have hg2 := fun x => (hg x).2.1
  have hg3 := fun x => (hg x).2.2.1
  have hg4 := fun x => (hg x).2.2.2.1
  have hg5 := fun x => (hg x).2.2.2.2.1
  have hg6 := fun x => (hg x).2.2.2.2.2.1
  have HG := Lib.hid hg
  have HS := Lib.hid (fun (u u1 : World) (h : TwoSpans w w.heap.size (w.heap.size + 1) i a b k c d u) (hk : Keep noBlk u u1) => TwoSpans.step h hk)
  clear hg hg0
  refine wp_region_class WW (by kernel_rfl) (by kernel_rfl) h0 ?_
  repeat (go_big_quiet_step (first | (go_at_call 29; with_reducible apply class_call HC HG HS (stabs_is _ _ _ _ _ V _)) | (go_at_call 29; with_reducible apply class_call HC HG HS (stabs_is _ _ _ _ _ M1 _)) | (go_at_call 29; with_reducible apply class_call HC HG HS (stabs_is _ _ _ _ _ M2 _)) | (go_at_call 30; with_reducible apply class_call HC HG HS (overlap_is _ _ _ _ _ _ _ O1 _)) | (go_at_call 30; with_reducible apply class_call HC HG HS (overlap_is _ _ _ _ _ _ _ O2 _)) | (go_at_call 31; with_reducible apply class_call HC HG HS (roverlap_is _ _ _ _ _ _ _ O1 _)) | (go_at_call 28; with_reducible apply class_call HC HG HS (lives4_any _))))
  refine wpQuiet_nil ?_
  intro _ hw'
  obtain ⟨x9, rfl⟩ := hw'
  go_wp2_with fail
  go_ret
  exact ⟨rfl, (HG.out x9).2.2.2.2.2.2.below⟩

set_option maxHeartbeats 2000000 in
theorem spans_x3_l1_o1 (i a b k c d x : Int) (w : World) (hx1 : x < a) (hl : a < c) (V : Hid (inB x a b = false)) (O1 : Hid (overB a b c d = true)) (O2 : Hid (overB c d a b = true)) (M1 : Hid (inB c a b = true)) (M2 : Hid (inB c c d = true)) :
    Calls Try.prog 9 #[.agg #[.int .i64 i, .int .i64 a, .int .i64 b], .agg #[.int .i64 k, .int .i64 c, .int .i64 d], .int .i64 x] w fun e w' => e = .returned (.bool true) ∧ Below w.heap.size w w' := by
  have hd : decide (a ≤ x) = false := by simp; omega
  go_enter Try.func9, Try.ntmps9
  go_wp2_with fail
  have hg0 : TwoSpans w w.heap.size (w.heap.size + 1) i a b k c d ((w.alloc (.cells #[.int .i64 i, .int .i64 a, .int .i64 b] 43)).alloc (.cells #[.int .i64 k, .int .i64 c, .int .i64 d] 43)).drew := ⟨by simp, by simp, by simp, by simp, by simp, by simp, by (repeat (first | exact Keep.refl _ _ | (with_reducible refine Keep.setCell ?_ (by simp; omega) _) | (with_reducible refine Keep.alloc ?_ _) | (with_reducible refine Keep.drew ?_) | (with_reducible refine Keep.drewN ?_ _)))⟩
  obtain ⟨T, hT, WW, h0, hg, HC⟩ := class_of _ hg0
  have hg1 := fun x => (hg x).1
  have hg2 := fun x => (hg x).2.1
  have hg3 := fun x => (hg x).2.2.1
  have hg4 := fun x => (hg x).2.2.2.1
  have hg5 := fun x => (hg x).2.2.2.2.1
  have hg6 := fun x => (hg x).2.2.2.2.2.1
  have HG := Lib.hid hg
  have HS := Lib.hid (fun (u u1 : World) (h : TwoSpans w w.heap.size (w.heap.size + 1) i a b k c d u) (hk : Keep noBlk u u1) => TwoSpans.step h hk)
  clear hg hg0
  refine wp_region_class WW (by kernel_rfl) (by kernel_rfl) h0 ?_
  repeat (go_big_quiet_step (first | (go_at_call 29; with_reducible apply class_call HC HG HS (stabs_is _ _ _ _ _ V _)) | (go_at_call 29; with_reducible apply class_call HC HG HS (stabs_is _ _ _ _ _ M1 _)) | (go_at_call 29; with_reducible apply class_call HC HG HS (stabs_is _ _ _ _ _ M2 _)) | (go_at_call 30; with_reducible apply class_call HC HG HS (overlap_is _ _ _ _ _ _ _ O1 _)) | (go_at_call 30; with_reducible apply class_call HC HG HS (overlap_is _ _ _ _ _ _ _ O2 _)) | (go_at_call 31; with_reducible apply class_call HC HG HS (roverlap_is _ _ _ _ _ _ _ O1 _)) | (go_at_call 28; with_reducible apply class_call HC HG HS (lives4_any _))))
  refine wpQuiet_nil ?_
  intro _ hw'
  obtain ⟨x9, rfl⟩ := hw'
  go_wp2_with fail
  go_ret
  exact ⟨rfl, (HG.out x9).2.2.2.2.2.2.below⟩

set_option maxHeartbeats 2000000 in
theorem spans_x3_l1_o2 (i a b k c d x : Int) (w : World) (hx1 : x < a) (hl : a < c) (V : Hid (inB x a b = false)) (O1 : Hid (overB a b c d = false)) (O2 : Hid (overB c d a b = false)) (M1 : Hid (inB c a b = false)) :
    Calls Try.prog 9 #[.agg #[.int .i64 i, .int .i64 a, .int .i64 b], .agg #[.int .i64 k, .int .i64 c, .int .i64 d], .int .i64 x] w fun e w' => e = .returned (.bool true) ∧ Below w.heap.size w w' := by
  have hd : decide (a ≤ x) = false := by simp; omega
  go_enter Try.func9, Try.ntmps9
  go_wp2_with fail
  have hg0 : TwoSpans w w.heap.size (w.heap.size + 1) i a b k c d ((w.alloc (.cells #[.int .i64 i, .int .i64 a, .int .i64 b] 43)).alloc (.cells #[.int .i64 k, .int .i64 c, .int .i64 d] 43)).drew := ⟨by simp, by simp, by simp, by simp, by simp, by simp, by (repeat (first | exact Keep.refl _ _ | (with_reducible refine Keep.setCell ?_ (by simp; omega) _) | (with_reducible refine Keep.alloc ?_ _) | (with_reducible refine Keep.drew ?_) | (with_reducible refine Keep.drewN ?_ _)))⟩
  obtain ⟨T, hT, WW, h0, hg, HC⟩ := class_of _ hg0
  have hg1 := fun x => (hg x).1
  have hg2 := fun x => (hg x).2.1
  have hg3 := fun x => (hg x).2.2.1
  have hg4 := fun x => (hg x).2.2.2.1
  have hg5 := fun x => (hg x).2.2.2.2.1
  have hg6 := fun x => (hg x).2.2.2.2.2.1
  have HG := Lib.hid hg
  have HS := Lib.hid (fun (u u1 : World) (h : TwoSpans w w.heap.size (w.heap.size + 1) i a b k c d u) (hk : Keep noBlk u u1) => TwoSpans.step h hk)
  clear hg hg0
  refine wp_region_class WW (by kernel_rfl) (by kernel_rfl) h0 ?_
  repeat (go_big_quiet_step (first | (go_at_call 29; with_reducible apply class_call HC HG HS (stabs_is _ _ _ _ _ V _)) | (go_at_call 29; with_reducible apply class_call HC HG HS (stabs_is _ _ _ _ _ M1 _)) | (go_at_call 30; with_reducible apply class_call HC HG HS (overlap_is _ _ _ _ _ _ _ O1 _)) | (go_at_call 30; with_reducible apply class_call HC HG HS (overlap_is _ _ _ _ _ _ _ O2 _)) | (go_at_call 31; with_reducible apply class_call HC HG HS (roverlap_is _ _ _ _ _ _ _ O1 _)) | (go_at_call 28; with_reducible apply class_call HC HG HS (lives4_any _))))
  refine wpQuiet_nil ?_
  intro _ hw'
  obtain ⟨x9, rfl⟩ := hw'
  go_wp2_with fail
  go_ret
  exact ⟨rfl, (HG.out x9).2.2.2.2.2.2.below⟩

set_option maxHeartbeats 2000000 in
theorem spans_x3_l1_o3 (i a b k c d x : Int) (w : World) (hx1 : x < a) (hl : a < c) (V : Hid (inB x a b = false)) (O1 : Hid (overB a b c d = false)) (O2 : Hid (overB c d a b = false)) (M1 : Hid (inB c a b = true)) (M2 : Hid (inB c c d = false)) :
    Calls Try.prog 9 #[.agg #[.int .i64 i, .int .i64 a, .int .i64 b], .agg #[.int .i64 k, .int .i64 c, .int .i64 d], .int .i64 x] w fun e w' => e = .returned (.bool true) ∧ Below w.heap.size w w' := by
  have hd : decide (a ≤ x) = false := by simp; omega
  go_enter Try.func9, Try.ntmps9
  go_wp2_with fail
  have hg0 : TwoSpans w w.heap.size (w.heap.size + 1) i a b k c d ((w.alloc (.cells #[.int .i64 i, .int .i64 a, .int .i64 b] 43)).alloc (.cells #[.int .i64 k, .int .i64 c, .int .i64 d] 43)).drew := ⟨by simp, by simp, by simp, by simp, by simp, by simp, by (repeat (first | exact Keep.refl _ _ | (with_reducible refine Keep.setCell ?_ (by simp; omega) _) | (with_reducible refine Keep.alloc ?_ _) | (with_reducible refine Keep.drew ?_) | (with_reducible refine Keep.drewN ?_ _)))⟩
  obtain ⟨T, hT, WW, h0, hg, HC⟩ := class_of _ hg0
  have hg1 := fun x => (hg x).1
  have hg2 := fun x => (hg x).2.1
  have hg3 := fun x => (hg x).2.2.1
  have hg4 := fun x => (hg x).2.2.2.1
  have hg5 := fun x => (hg x).2.2.2.2.1
  have hg6 := fun x => (hg x).2.2.2.2.2.1
  have HG := Lib.hid hg
  have HS := Lib.hid (fun (u u1 : World) (h : TwoSpans w w.heap.size (w.heap.size + 1) i a b k c d u) (hk : Keep noBlk u u1) => TwoSpans.step h hk)
  clear hg hg0
  refine wp_region_class WW (by kernel_rfl) (by kernel_rfl) h0 ?_
  repeat (go_big_quiet_step (first | (go_at_call 29; with_reducible apply class_call HC HG HS (stabs_is _ _ _ _ _ V _)) | (go_at_call 29; with_reducible apply class_call HC HG HS (stabs_is _ _ _ _ _ M1 _)) | (go_at_call 29; with_reducible apply class_call HC HG HS (stabs_is _ _ _ _ _ M2 _)) | (go_at_call 30; with_reducible apply class_call HC HG HS (overlap_is _ _ _ _ _ _ _ O1 _)) | (go_at_call 30; with_reducible apply class_call HC HG HS (overlap_is _ _ _ _ _ _ _ O2 _)) | (go_at_call 31; with_reducible apply class_call HC HG HS (roverlap_is _ _ _ _ _ _ _ O1 _)) | (go_at_call 28; with_reducible apply class_call HC HG HS (lives4_any _))))
  refine wpQuiet_nil ?_
  intro _ hw'
  obtain ⟨x9, rfl⟩ := hw'
  go_wp2_with fail
  go_ret
  exact ⟨rfl, (HG.out x9).2.2.2.2.2.2.below⟩

set_option maxHeartbeats 2000000 in
theorem spans_x3_l2_o1 (i a b k c d x : Int) (w : World) (hx1 : x < a) (hl : c ≤ a) (V : Hid (inB x a b = false)) (O1 : Hid (overB a b c d = true)) (O2 : Hid (overB c d a b = true)) (M1 : Hid (inB a a b = true)) (M2 : Hid (inB a c d = true)) :
    Calls Try.prog 9 #[.agg #[.int .i64 i, .int .i64 a, .int .i64 b], .agg #[.int .i64 k, .int .i64 c, .int .i64 d], .int .i64 x] w fun e w' => e = .returned (.bool true) ∧ Below w.heap.size w w' := by
  have hd : decide (a ≤ x) = false := by simp; omega
  go_enter Try.func9, Try.ntmps9
  go_wp2_with fail
  have hg0 : TwoSpans w w.heap.size (w.heap.size + 1) i a b k c d ((w.alloc (.cells #[.int .i64 i, .int .i64 a, .int .i64 b] 43)).alloc (.cells #[.int .i64 k, .int .i64 c, .int .i64 d] 43)).drew := ⟨by simp, by simp, by simp, by simp, by simp, by simp, by (repeat (first | exact Keep.refl _ _ | (with_reducible refine Keep.setCell ?_ (by simp; omega) _) | (with_reducible refine Keep.alloc ?_ _) | (with_reducible refine Keep.drew ?_) | (with_reducible refine Keep.drewN ?_ _)))⟩
  obtain ⟨T, hT, WW, h0, hg, HC⟩ := class_of _ hg0
  have hg1 := fun x => (hg x).1
  have hg2 := fun x => (hg x).2.1
  have hg3 := fun x => (hg x).2.2.1
  have hg4 := fun x => (hg x).2.2.2.1
  have hg5 := fun x => (hg x).2.2.2.2.1
  have hg6 := fun x => (hg x).2.2.2.2.2.1
  have HG := Lib.hid hg
  have HS := Lib.hid (fun (u u1 : World) (h : TwoSpans w w.heap.size (w.heap.size + 1) i a b k c d u) (hk : Keep noBlk u u1) => TwoSpans.step h hk)
  clear hg hg0
  refine wp_region_class WW (by kernel_rfl) (by kernel_rfl) h0 ?_
  repeat (go_big_quiet_step (first | (go_at_call 29; with_reducible apply class_call HC HG HS (stabs_is _ _ _ _ _ V _)) | (go_at_call 29; with_reducible apply class_call HC HG HS (stabs_is _ _ _ _ _ M1 _)) | (go_at_call 29; with_reducible apply class_call HC HG HS (stabs_is _ _ _ _ _ M2 _)) | (go_at_call 30; with_reducible apply class_call HC HG HS (overlap_is _ _ _ _ _ _ _ O1 _)) | (go_at_call 30; with_reducible apply class_call HC HG HS (overlap_is _ _ _ _ _ _ _ O2 _)) | (go_at_call 31; with_reducible apply class_call HC HG HS (roverlap_is _ _ _ _ _ _ _ O1 _)) | (go_at_call 28; with_reducible apply class_call HC HG HS (lives4_any _))))
  refine wpQuiet_nil ?_
  intro _ hw'
  obtain ⟨x9, rfl⟩ := hw'
  go_wp2_with fail
  go_ret
  exact ⟨rfl, (HG.out x9).2.2.2.2.2.2.below⟩

set_option maxHeartbeats 2000000 in
theorem spans_x3_l2_o2 (i a b k c d x : Int) (w : World) (hx1 : x < a) (hl : c ≤ a) (V : Hid (inB x a b = false)) (O1 : Hid (overB a b c d = false)) (O2 : Hid (overB c d a b = false)) (M1 : Hid (inB a a b = false)) :
    Calls Try.prog 9 #[.agg #[.int .i64 i, .int .i64 a, .int .i64 b], .agg #[.int .i64 k, .int .i64 c, .int .i64 d], .int .i64 x] w fun e w' => e = .returned (.bool true) ∧ Below w.heap.size w w' := by
  have hd : decide (a ≤ x) = false := by simp; omega
  go_enter Try.func9, Try.ntmps9
  go_wp2_with fail
  have hg0 : TwoSpans w w.heap.size (w.heap.size + 1) i a b k c d ((w.alloc (.cells #[.int .i64 i, .int .i64 a, .int .i64 b] 43)).alloc (.cells #[.int .i64 k, .int .i64 c, .int .i64 d] 43)).drew := ⟨by simp, by simp, by simp, by simp, by simp, by simp, by (repeat (first | exact Keep.refl _ _ | (with_reducible refine Keep.setCell ?_ (by simp; omega) _) | (with_reducible refine Keep.alloc ?_ _) | (with_reducible refine Keep.drew ?_) | (with_reducible refine Keep.drewN ?_ _)))⟩
  obtain ⟨T, hT, WW, h0, hg, HC⟩ := class_of _ hg0
  have hg1 := fun x => (hg x).1
  have hg2 := fun x => (hg x).2.1
  have hg3 := fun x => (hg x).2.2.1
  have hg4 := fun x => (hg x).2.2.2.1
  have hg5 := fun x => (hg x).2.2.2.2.1
  have hg6 := fun x => (hg x).2.2.2.2.2.1
  have HG := Lib.hid hg
  have HS := Lib.hid (fun (u u1 : World) (h : TwoSpans w w.heap.size (w.heap.size + 1) i a b k c d u) (hk : Keep noBlk u u1) => TwoSpans.step h hk)
  clear hg hg0
  refine wp_region_class WW (by kernel_rfl) (by kernel_rfl) h0 ?_
  repeat (go_big_quiet_step (first | (go_at_call 29; with_reducible apply class_call HC HG HS (stabs_is _ _ _ _ _ V _)) | (go_at_call 29; with_reducible apply class_call HC HG HS (stabs_is _ _ _ _ _ M1 _)) | (go_at_call 30; with_reducible apply class_call HC HG HS (overlap_is _ _ _ _ _ _ _ O1 _)) | (go_at_call 30; with_reducible apply class_call HC HG HS (overlap_is _ _ _ _ _ _ _ O2 _)) | (go_at_call 31; with_reducible apply class_call HC HG HS (roverlap_is _ _ _ _ _ _ _ O1 _)) | (go_at_call 28; with_reducible apply class_call HC HG HS (lives4_any _))))
  refine wpQuiet_nil ?_
  intro _ hw'
  obtain ⟨x9, rfl⟩ := hw'
  go_wp2_with fail
  go_ret
  exact ⟨rfl, (HG.out x9).2.2.2.2.2.2.below⟩

set_option maxHeartbeats 2000000 in
theorem spans_x3_l2_o3 (i a b k c d x : Int) (w : World) (hx1 : x < a) (hl : c ≤ a) (V : Hid (inB x a b = false)) (O1 : Hid (overB a b c d = false)) (O2 : Hid (overB c d a b = false)) (M1 : Hid (inB a a b = true)) (M2 : Hid (inB a c d = false)) :
    Calls Try.prog 9 #[.agg #[.int .i64 i, .int .i64 a, .int .i64 b], .agg #[.int .i64 k, .int .i64 c, .int .i64 d], .int .i64 x] w fun e w' => e = .returned (.bool true) ∧ Below w.heap.size w w' := by
  have hd : decide (a ≤ x) = false := by simp; omega
  go_enter Try.func9, Try.ntmps9
  go_wp2_with fail
  have hg0 : TwoSpans w w.heap.size (w.heap.size + 1) i a b k c d ((w.alloc (.cells #[.int .i64 i, .int .i64 a, .int .i64 b] 43)).alloc (.cells #[.int .i64 k, .int .i64 c, .int .i64 d] 43)).drew := ⟨by simp, by simp, by simp, by simp, by simp, by simp, by (repeat (first | exact Keep.refl _ _ | (with_reducible refine Keep.setCell ?_ (by simp; omega) _) | (with_reducible refine Keep.alloc ?_ _) | (with_reducible refine Keep.drew ?_) | (with_reducible refine Keep.drewN ?_ _)))⟩
  obtain ⟨T, hT, WW, h0, hg, HC⟩ := class_of _ hg0
  have hg1 := fun x => (hg x).1
  have hg2 := fun x => (hg x).2.1
  have hg3 := fun x => (hg x).2.2.1
  have hg4 := fun x => (hg x).2.2.2.1
  have hg5 := fun x => (hg x).2.2.2.2.1
  have hg6 := fun x => (hg x).2.2.2.2.2.1
  have HG := Lib.hid hg
  have HS := Lib.hid (fun (u u1 : World) (h : TwoSpans w w.heap.size (w.heap.size + 1) i a b k c d u) (hk : Keep noBlk u u1) => TwoSpans.step h hk)
  clear hg hg0
  refine wp_region_class WW (by kernel_rfl) (by kernel_rfl) h0 ?_
  repeat (go_big_quiet_step (first | (go_at_call 29; with_reducible apply class_call HC HG HS (stabs_is _ _ _ _ _ V _)) | (go_at_call 29; with_reducible apply class_call HC HG HS (stabs_is _ _ _ _ _ M1 _)) | (go_at_call 29; with_reducible apply class_call HC HG HS (stabs_is _ _ _ _ _ M2 _)) | (go_at_call 30; with_reducible apply class_call HC HG HS (overlap_is _ _ _ _ _ _ _ O1 _)) | (go_at_call 30; with_reducible apply class_call HC HG HS (overlap_is _ _ _ _ _ _ _ O2 _)) | (go_at_call 31; with_reducible apply class_call HC HG HS (roverlap_is _ _ _ _ _ _ _ O1 _)) | (go_at_call 28; with_reducible apply class_call HC HG HS (lives4_any _))))
  refine wpQuiet_nil ?_
  intro _ hw'
  obtain ⟨x9, rfl⟩ := hw'
  go_wp2_with fail
  go_ret
  exact ⟨rfl, (HG.out x9).2.2.2.2.2.2.below⟩

theorem boxSpans_walk (i a b k c d x : Int) (w : World) :
    Calls Try.prog 9 #[.agg #[.int .i64 i, .int .i64 a, .int .i64 b], .agg #[.int .i64 k, .int .i64 c, .int .i64 d], .int .i64 x] w fun e w' => e = .returned (.bool true) ∧ Below w.heap.size w w' := by
  have key : ∀ (v : Bool), inB x a b = v → ∀ o : Bool, overB a b c d = o → ∀ m : Int, m = max a c → ∀ m1 m2 : Bool, inB m a b = m1 → inB m c d = m2 → overB c d a b = o ∧ (o = true → m1 = true ∧ m2 = true) ∧ (o = false → m1 = true → m2 = false) := by
    intro v hv o ho m hm m1 m2 h1 h2
    refine ⟨by rw [overB_comm]; exact ho, ?_, ?_⟩
    · rintro rfl
      simp [overB] at ho
      subst h1 h2
      simp [inB]; omega
    · rintro rfl rfl
      rw [← Bool.not_eq_true]
      intro h3
      subst h3
      simp [inB] at h1 h2
      have : overB a b c d = true := by simp [overB]; omega
      rw [this] at ho
      cases ho
  obtain ⟨v, hv⟩ : ∃ v, inB x a b = v := ⟨_, rfl⟩
  obtain ⟨o, ho⟩ : ∃ o, overB a b c d = o := ⟨_, rfl⟩
  obtain ⟨m, hm⟩ : ∃ m : Int, m = max a c := ⟨_, rfl⟩
  obtain ⟨m1, h1⟩ : ∃ v, inB m a b = v := ⟨_, rfl⟩
  obtain ⟨m2, h2⟩ : ∃ v, inB m c d = v := ⟨_, rfl⟩
  obtain ⟨O2, k1, k2⟩ := key v hv o ho m hm m1 m2 h1 h2
  clear key
  have hxs : (a ≤ x ∧ x ≤ b ∧ v = true) ∨ (a ≤ x ∧ b < x ∧ v = false) ∨ (x < a ∧ v = false) := by
    subst hv
    by_cases p1 : a ≤ x
    · by_cases p2 : x ≤ b
      · exact .inl ⟨p1, p2, by simp [inB, p1, p2]⟩
      · exact .inr (.inl ⟨p1, by omega, by simp [inB]; omega⟩)
    · exact .inr (.inr ⟨by omega, by simp [inB]; omega⟩)
  have hms : (a < c ∧ m = c) ∨ (c ≤ a ∧ m = a) := by omega
  have hos : (o = true ∧ m1 = true ∧ m2 = true) ∨ (o = false ∧ m1 = false) ∨ (o = false ∧ m1 = true ∧ m2 = false) := by
    cases o
    · cases m1
      · exact .inr (.inl ⟨rfl, rfl⟩)
      · exact .inr (.inr ⟨rfl, rfl, k2 rfl rfl⟩)
    · exact .inl ⟨rfl, (k1 rfl).1, (k1 rfl).2⟩
  clear hm k1 k2
  rcases hxs with ⟨hx1, hx2, rfl⟩ | ⟨hx1, hx2, rfl⟩ | ⟨hx1, rfl⟩
  · rcases hms with ⟨hl, rfl⟩ | ⟨hl, rfl⟩
    · rcases hos with ⟨rfl, rfl, rfl⟩ | ⟨rfl, rfl⟩ | ⟨rfl, rfl, rfl⟩
      · exact spans_x1_l1_o1 _ _ _ _ _ _ _ w hx1 hx2 hl hv ho O2 h1 h2
      · exact spans_x1_l1_o2 _ _ _ _ _ _ _ w hx1 hx2 hl hv ho O2 h1
      · exact spans_x1_l1_o3 _ _ _ _ _ _ _ w hx1 hx2 hl hv ho O2 h1 h2
    · rcases hos with ⟨rfl, rfl, rfl⟩ | ⟨rfl, rfl⟩ | ⟨rfl, rfl, rfl⟩
      · exact spans_x1_l2_o1 _ _ _ _ _ _ _ w hx1 hx2 hl hv ho O2 h1 h2
      · exact spans_x1_l2_o2 _ _ _ _ _ _ _ w hx1 hx2 hl hv ho O2 h1
      · exact spans_x1_l2_o3 _ _ _ _ _ _ _ w hx1 hx2 hl hv ho O2 h1 h2
  · rcases hms with ⟨hl, rfl⟩ | ⟨hl, rfl⟩
    · rcases hos with ⟨rfl, rfl, rfl⟩ | ⟨rfl, rfl⟩ | ⟨rfl, rfl, rfl⟩
      · exact spans_x2_l1_o1 _ _ _ _ _ _ _ w hx1 hx2 hl hv ho O2 h1 h2
      · exact spans_x2_l1_o2 _ _ _ _ _ _ _ w hx1 hx2 hl hv ho O2 h1
      · exact spans_x2_l1_o3 _ _ _ _ _ _ _ w hx1 hx2 hl hv ho O2 h1 h2
    · rcases hos with ⟨rfl, rfl, rfl⟩ | ⟨rfl, rfl⟩ | ⟨rfl, rfl, rfl⟩
      · exact spans_x2_l2_o1 _ _ _ _ _ _ _ w hx1 hx2 hl hv ho O2 h1 h2
      · exact spans_x2_l2_o2 _ _ _ _ _ _ _ w hx1 hx2 hl hv ho O2 h1
      · exact spans_x2_l2_o3 _ _ _ _ _ _ _ w hx1 hx2 hl hv ho O2 h1 h2
  · rcases hms with ⟨hl, rfl⟩ | ⟨hl, rfl⟩
    · rcases hos with ⟨rfl, rfl, rfl⟩ | ⟨rfl, rfl⟩ | ⟨rfl, rfl, rfl⟩
      · exact spans_x3_l1_o1 _ _ _ _ _ _ _ w hx1 hl hv ho O2 h1 h2
      · exact spans_x3_l1_o2 _ _ _ _ _ _ _ w hx1 hl hv ho O2 h1
      · exact spans_x3_l1_o3 _ _ _ _ _ _ _ w hx1 hl hv ho O2 h1 h2
    · rcases hos with ⟨rfl, rfl, rfl⟩ | ⟨rfl, rfl⟩ | ⟨rfl, rfl, rfl⟩
      · exact spans_x3_l2_o1 _ _ _ _ _ _ _ w hx1 hl hv ho O2 h1 h2
      · exact spans_x3_l2_o2 _ _ _ _ _ _ _ w hx1 hl hv ho O2 h1
      · exact spans_x3_l2_o3 _ _ _ _ _ _ _ w hx1 hl hv ho O2 h1 h2
end Go.Proofs.Ytlkhnhahepehkaa
