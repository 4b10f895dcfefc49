/- box.grow and box.Around. -/
import Derived.Test.YtlkhnhahepehkaaBox3
import Derived.BigRegion
namespace Go.Proofs.Ytlkhnhahepehkaa
open Go.RowKit
set_option linter.unusedSimpArgs false
set_option linter.unusedVariables false
attribute [local go_sem ↓] run_maxI run_minI

set_option maxHeartbeats 1000000 in
theorem grow_any (x1 x2 y1 y2 i x y : Int) (w : World) :
    Calls Try.prog 49 #[.agg #[.int .i64 x1, .int .i64 x2, .int .i64 y1, .int .i64 y2], .agg #[.int .i64 i, .int .i64 x, .int .i64 y]] w fun e w' =>
      e = .returned (.agg #[.int .i64 (minI x1 x), .int .i64 (maxI x2 x), .int .i64 (minI y1 y), .int .i64 (maxI y2 y)]) ∧ Keep noBlk w w' := by
  go_enter Try.func49, Try.ntmps49
  go_wp2_with fail
  refine bodyPost_ret (v := .agg #[.int .i64 (minI x1 x), .int .i64 (maxI x2 x), .int .i64 (minI y1 y), .int .i64 (maxI y2 y)]) (by simp only [results, Try.results49]; go_simp) rfl ?_
  refine ⟨rfl, ?_⟩
  (repeat (first | exact Keep.refl _ _ | (with_reducible refine Keep.setCell ?_ (by simp <;> omega) _) | (with_reducible refine Keep.alloc ?_ _) | (with_reducible refine Keep.drew ?_) | (with_reducible refine Keep.drewN ?_ _)))

/-- The least box about a box and points, laid number by number. -/
def aroundF : List Int → Int × Int × Int × Int → Int × Int × Int × Int
  | _ :: x :: y :: l, (x1, x2, y1, y2) => aroundF l (minI x1 x, maxI x2 x, minI y1 y, maxI y2 y)
  | _, b => b

/-- A block that is known whole. -/
def Blk (w : World) (g : Nat) (t : TypeId) (cs : Array Value) : Prop := w.heap[g]? = some (.cells cs t (0, 0))
theorem Blk.cell {w : World} {g : Nat} {t : TypeId} {cs : Array Value} (h : Blk w g t cs) (i : Nat) : w.cell? ⟨g, i, none⟩ = cs[i]? := by unfold Blk at h; simp [World.cell?, h]
theorem Blk.frozen {w : World} {g : Nat} {t : TypeId} {cs : Array Value} (h : Blk w g t cs) (i : Nat) : w.frozen? ⟨g, i, none⟩ = false := by unfold Blk at h; simp [World.frozen?, h]
theorem Blk.lt {w : World} {g : Nat} {t : TypeId} {cs : Array Value} (h : Blk w g t cs) : g < w.heap.size := by
  rcases Nat.lt_or_ge g w.heap.size with hlt | hge
  · exact hlt
  · unfold Blk at h; rw [Array.getElem?_eq_none hge] at h; cases h
theorem Blk.keep {S : Nat → Prop} {w w' : World} {g : Nat} {t : TypeId} {cs : Array Value} (h : Blk w g t cs) (k : Keep S w w') (hs : ¬ S g) : Blk w' g t cs := (k.block g h.lt hs).trans h
theorem Blk.kept {w w' : World} {g : Nat} {t : TypeId} {cs : Array Value} (h : Blk w g t cs) (k : Keep noBlk w w') : Blk w' g t cs := h.keep k id
theorem Blk.set_ {w : World} {g : Nat} {t : TypeId} {cs : Array Value} (h : Blk w g t cs) (i : Nat) (u : Value) : Blk (w.setCell ⟨g, i, none⟩ u) g t (cs.setIfInBounds i u) := by
  unfold Blk at h ⊢
  simp [World.setCell, Array.getElem?_modify, h]
theorem Blk.far {w : World} {g : Nat} {t : TypeId} {cs : Array Value} (h : Blk w g t cs) {p : Addr} (hp : g ≠ p.block) (u : Value) : Blk (w.setCell p u) g t cs := (Below.heap_setCell w p u g hp).trans h
theorem Blk.new_ (w : World) (t : TypeId) (cs : Array Value) : Blk (w.alloc (.cells cs t)) w.heap.size t cs := heap_alloc_new w _
theorem Blk.new_at {w : World} {t : TypeId} {cs : Array Value} {g : Nat} (hg : g = w.heap.size) : Blk (w.alloc (.cells cs t)) g t cs := by subst hg; exact heap_alloc_new w _
theorem Blk.drew {w : World} {g : Nat} {t : TypeId} {cs : Array Value} (h : Blk w g t cs) : Blk w.drew g t cs := h

set_option maxHeartbeats 1000000 in
theorem around_none (A : Option Addr) (c : Nat) (w : World) :
    Calls Try.prog 40 #[.slice A 0 c] w fun e w' => e = .returned (.tuple #[.agg #[.int .i64 0, .int .i64 0, .int .i64 0, .int .i64 0], .bool false]) ∧ Keep noBlk w w' := by
  go_enter Try.func40, Try.ntmps40
  go_wp2_with fail
  refine bodyPost_ret (v := .tuple #[.agg #[.int .i64 0, .int .i64 0, .int .i64 0, .int .i64 0], .bool false]) (by simp only [results, Try.results40]; go_simp) rfl ?_
  refine ⟨rfl, ?_⟩
  (repeat (first | exact Keep.refl _ _ | (with_reducible refine Keep.setCell ?_ (by simp <;> omega) _) | (with_reducible refine Keep.alloc ?_ _) | (with_reducible refine Keep.drew ?_) | (with_reducible refine Keep.drewN ?_ _)))

set_option maxHeartbeats 1000000 in
theorem around_some (b off n c : Nat) (ns : List Int) (w : World) (hn : Ints ns) (hpos : 0 < n) (hc : n ≤ c) (hm : c ≤ 9223372036854775807) (hr : Reads w 3 (some ⟨b, off, none⟩) n (ints ns)) (i0 x0 y0 : Int) (rest : List Int) (hns : ns = i0 :: x0 :: y0 :: rest)
    (f1 f2 f3 f4 : Int) (hf : aroundF rest (x0, x0, y0, y0) = (f1, f2, f3, f4)) :
    Calls Try.prog 40 #[.slice (some ⟨b, off, none⟩) n c] w fun e w' => e = .returned (.tuple #[.agg #[.int .i64 f1, .int .i64 f2, .int .i64 f3, .int .i64 f4], .bool true]) ∧ Keep noBlk w w' := by
  obtain ⟨b', off', hb', hb, hcell⟩ := hr.2 (by omega)
  obtain ⟨rfl, rfl⟩ : b = b' ∧ off = off' := by injection hb' with h; injection h with h1 h2; exact ⟨h1, h2⟩
  have c1 : w.cell? ⟨b, off + 1, none⟩ = some (.int .i64 x0) := by simpa [ints, hns] using hcell 1 (by simp [ints, hns])
  have c2 : w.cell? ⟨b, off + 2, none⟩ = some (.int .i64 y0) := by simpa [ints, hns] using hcell 2 (by simp [ints, hns])
  have hz : ((n : Int) == 0) = false := by rw [beq_eq_false_iff_ne]; omega
  have HC := Lib.hid hcell
  have HR := Lib.hid hr
  have HN := Lib.hid hns
  have HF := Lib.hid hf
  clear hcell hr hns hf hb'
  by_cases h1 : c = 1
  · have hn1 : n = 1 := by omega
    subst h1
    have e : (f1, f2, f3, f4) = (x0, x0, y0, y0) := by
      have hl : rest = [] := by
        have h9 := HR.out.1
        rw [HN.out, hn1] at h9
        simp [ints] at h9
        exact h9
      have h8 := HF.out
      rw [hl] at h8
      exact h8.symm
    obtain ⟨e1, e2, e3, e4⟩ : x0 = f1 ∧ x0 = f2 ∧ y0 = f3 ∧ y0 = f4 := by simpa using e.symm
    subst e1 e2 e3 e4 hn1
    clear e
    go_enter Try.func40, Try.ntmps40
    go_wp2_with fail
    go_region
    go_wp2_with fail
    go_loopw [31] (fun i wr => i = .int .i64 0 ∧ Keep noBlk w wr ∧ Blk wr w.heap.size 34 #[.int .i64 0, .int .i64 0, .int .i64 0, .int .i64 0] ∧ Blk wr (w.heap.size + 1) 34 #[.int .i64 x0, .int .i64 x0, .int .i64 y0, .int .i64 y0]) (fun _ _ => 0)
    case atStart => exact ⟨rfl, by (repeat (first | exact Keep.refl _ _ | (with_reducible refine Keep.setCell ?_ (by simp <;> omega) _) | (with_reducible refine Keep.alloc ?_ _) | (with_reducible refine Keep.drew ?_) | (with_reducible refine Keep.drewN ?_ _))), ((Blk.new_at rfl).kept ((Keep.refl _ _).alloc _)).drew, (Blk.new_at (by simp)).drew⟩
    case round =>
      obtain ⟨rfl, hk, hb1, hb2⟩ := hrel
      have q1 := hb1.cell
      have q2 := hb2.cell
      have q3 := hb1.frozen
      have q4 := hb2.frozen
      have HK1 := Lib.hid hk
      clear hb1 hb2 hk
      go_wp2_with fail
      refine bodyPost_ret (v := .tuple #[.agg #[.int .i64 x0, .int .i64 x0, .int .i64 y0, .int .i64 y0], .bool true]) (by simp only [results, Try.results40]; go_simp) rfl ?_
      refine ⟨rfl, ?_⟩
      (repeat (first | exact Keep.refl _ _ | (with_reducible refine Keep.trans ?_ HK1.out) | (with_reducible refine Keep.setCell ?_ (by simp <;> omega) _) | (with_reducible refine Keep.alloc ?_ _) | (with_reducible refine Keep.drew ?_) | (with_reducible refine Keep.drewN ?_ _)))
  · have hc1 : 1 < c := by omega
    go_enter Try.func40, Try.ntmps40
    go_wp2_with fail
    go_region
    go_wp2_with fail
    go_loopw [31] (fun i wr => ∃ (k : Nat) (x1 x2 y1 y2 : Int), k ≤ n - 1 ∧ i = .int .i64 k ∧ Hid (aroundF (rest.drop (k * 3)) (x1, x2, y1, y2) = (f1, f2, f3, f4)) ∧ Keep noBlk w wr ∧ Blk wr w.heap.size 34 #[.int .i64 0, .int .i64 0, .int .i64 0, .int .i64 0] ∧ Blk wr (w.heap.size + 1) 34 #[.int .i64 x1, .int .i64 x2, .int .i64 y1, .int .i64 y2]) (fun i _ => n - 1 - (intOf i).toNat)
    case atStart => exact ⟨0, x0, x0, y0, y0, Nat.zero_le _, rfl, by simpa using HF, by (repeat (first | exact Keep.refl _ _ | (with_reducible refine Keep.setCell ?_ (by simp <;> omega) _) | (with_reducible refine Keep.alloc ?_ _) | (with_reducible refine Keep.drew ?_) | (with_reducible refine Keep.drewN ?_ _))), ((Blk.new_at rfl).kept ((Keep.refl _ _).alloc _)).drew, (Blk.new_at (by simp)).drew⟩
    case round =>
      obtain ⟨k, x1, x2, y1, y2, hkn, rfl, Hs, hk, hb1, hb2⟩ := hrel
      by_cases hlt : k < n - 1
      · obtain ⟨i1, u, v, hd⟩ : ∃ i1 u v, rest.drop (k * 3) = i1 :: u :: v :: rest.drop ((k + 1) * 3) ∧ wr.cell? ⟨b, off + 3 + k * 3, none⟩ = some (.int .i64 i1) ∧ wr.cell? ⟨b, off + 3 + k * 3 + 1, none⟩ = some (.int .i64 u) ∧ wr.cell? ⟨b, off + 3 + k * 3 + 2, none⟩ = some (.int .i64 v) := by
          have h9 := HR.out.1
          rw [HN.out] at h9
          simp [ints] at h9
          have g0 : k * 3 < rest.length := by omega
          have g1 : k * 3 + 1 < rest.length := by omega
          have g2 : k * 3 + 2 < rest.length := by omega
          have cell : ∀ j (hj : j < rest.length), wr.cell? ⟨b, off + 3 + j, none⟩ = some (.int .i64 rest[j]) := by
            intro j hj
            have := HC.out (3 + j) (by rw [HN.out]; simp [ints]; omega)
            rw [hk.cell (p := ⟨b, off + 3 + j, none⟩) hb id, Nat.add_assoc, this]
            simp only [HN.out, ints, List.getElem_map]
            congr 2
            simp [show 3 + j = j + 1 + 1 + 1 by omega]
          refine ⟨rest[k * 3], rest[k * 3 + 1], rest[k * 3 + 2], ?_, cell _ g0, ?_, ?_⟩
          · rw [List.drop_eq_getElem_cons g0, List.drop_eq_getElem_cons g1, List.drop_eq_getElem_cons g2, show k * 3 + 1 + 1 + 1 = (k + 1) * 3 by omega]
          · exact cell _ g1
          · exact cell _ g2
        obtain ⟨hd, d1, d2, d3⟩ := hd
        have Hs2 : Hid (aroundF (rest.drop ((k + 1) * 3)) (minI x1 u, maxI x2 u, minI y1 v, maxI y2 v) = (f1, f2, f3, f4)) := by
          have := Hs.out
          rw [hd] at this
          exact this
        clear hd Hs
        have q1 := hb1.cell
        have q2 := hb2.cell
        have q3 := hb1.frozen
        have q4 := hb2.frozen
        have hsz := hb2.lt
        have hsz2 : w.heap.size < wr.heap.size := by omega
        have HK1 := Lib.hid hk
        have HB1 := Lib.hid hb1
        have HB2 := Lib.hid hb2
        clear hb1 hb2 hk
        go_wp2_with fail
        refine (grow_any _ _ _ _ _ _ _ _).mono ?_; rintro e w2 ⟨rfl, hk2⟩
        obtain ⟨ka2, kb2, kc2⟩ := hk2.rules
        have HK2 := Lib.hid hk2
        clear hk2
        try simp only [World.size_alloc, World.size_setCell, World.size_drew] at ka2 kb2 kc2
        try have ke2_1 := Nat.lt_of_succ_le kc2
        try have ke2_2 := Nat.lt_of_succ_lt ke2_1
        try have ke2_3 := Nat.lt_of_succ_lt ke2_2
        try have ke2_4 := Nat.lt_of_succ_lt ke2_3
        try have ke2_5 := Nat.lt_of_succ_lt ke2_4
        go_wp2_with fail
        go_roundw
        case rel =>
          have hk2 : Keep noBlk wr w2 := ((Keep.refl noBlk wr).alloc _).trans HK2.out
          refine ⟨k + 1, _, _, _, _, by omega, by go_num, Hs2, ?_, ?_, ?_⟩
          · (repeat (first | exact Keep.refl _ _ | (with_reducible refine Keep.trans ?_ HK1.out) | (with_reducible refine Keep.trans ?_ HK2.out) | (with_reducible refine Keep.setCell ?_ (by simp <;> omega) _) | (with_reducible refine Keep.alloc ?_ _) | (with_reducible refine Keep.drew ?_) | (with_reducible refine Keep.drewN ?_ _)))
          · exact ((((HB1.out.kept hk2).far (by simp) _).far (by simp) _).far (by simp) _).far (by simp) _
          · exact ((((HB2.out.kept hk2).set_ 0 _).set_ 1 _).set_ 2 _).set_ 3 _
        case measure => simp [intOf]; omega
      · have hs : (x1, x2, y1, y2) = (f1, f2, f3, f4) := by
          have h9 := HR.out.1
          rw [HN.out] at h9
          simp [ints] at h9
          have := Hs.out
          rw [List.drop_of_length_le (by omega)] at this
          exact this
        obtain ⟨rfl, rfl, rfl, rfl⟩ : x1 = f1 ∧ x2 = f2 ∧ y1 = f3 ∧ y2 = f4 := by simpa using hs
        have q1 := hb1.cell
        have q2 := hb2.cell
        have q3 := hb1.frozen
        have q4 := hb2.frozen
        have HK1 := Lib.hid hk
        clear hb1 hb2 hk hs
        go_wp2_with fail
        refine bodyPost_ret (v := .tuple #[.agg #[.int .i64 x1, .int .i64 x2, .int .i64 y1, .int .i64 y2], .bool true]) (by simp only [results, Try.results40]; go_simp) rfl ?_
        refine ⟨rfl, ?_⟩
        (repeat (first | exact Keep.refl _ _ | (with_reducible refine Keep.trans ?_ HK1.out) | (with_reducible refine Keep.setCell ?_ (by simp <;> omega) _) | (with_reducible refine Keep.alloc ?_ _) | (with_reducible refine Keep.drew ?_) | (with_reducible refine Keep.drewN ?_ _)))
end Go.Proofs.Ytlkhnhahepehkaa
