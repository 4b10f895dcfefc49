/- box.checked and what leans on it. -/
import Derived.Test.YtlkhnhahepehkaaBox
import Derived.Deep.QuietTactic
import Derived.BigQuiet
namespace Go.Proofs.Ytlkhnhahepehkaa
open Go.RowKit
set_option linter.unusedSimpArgs false
attribute [local go_sem ↓] run_maxI run_minI

/-- Whether a number is a coordinate. -/
def coordB (a : Int) : Bool := decide (-1099511627776 ≤ a) && decide (a ≤ 1099511627776)
theorem good_coord (a : Int) (w : World) : Calls Try.prog 20 #[.int .i64 a] w fun e w' => e = .returned (.bool (coordB a)) ∧ w = w' := by
  have h : decide (-1099511627776 ≤ a ∧ a ≤ 1099511627776) = coordB a := by simp [coordB]
  rw [← h]; exact good_any a w

set_option maxHeartbeats 400000 in
theorem odd_any (a : Int) (w : World) : Calls Try.prog 52 #[.int .i64 a] w fun e w' => e = .returned (.bool (!coordB a)) ∧ w = w' := by
  go_enter Try.func52, Try.ntmps52
  go_wp2_with fail
  refine (good_coord a _).mono ?_; rintro e w' ⟨rfl, rfl⟩
  go_wp2_with fail
  go_ret
  exact ⟨rfl, rfl⟩

/-- Where the first number stands that is no coordinate, counted from k on. -/
def oddAt : List Int → Nat → Int
  | [], _ => -1
  | a :: l, k => if coordB a then oddAt l (k + 1) else (k : Int)
theorem oddAt_drop (ns : List Int) (k : Nat) (hk : k < ns.length) : oddAt (ns.drop k) k = if coordB ns[k] then oddAt (ns.drop (k + 1)) (k + 1) else (k : Int) := by
  rw [List.drop_eq_getElem_cons hk]; rfl
theorem oddAt_any (ns : List Int) : ∀ k, (0 ≤ oddAt ns k) = (ns.any (fun a => !coordB a) = true) := by
  induction ns with
  | nil => intro k; simp [oddAt]
  | cons a l ih => intro k; cases h : coordB a <;> simp [oddAt, h, ih]

set_option maxHeartbeats 400000 in
theorem index_odd (A : Option Addr) (n c : Nat) (ns : List Int) (w : World) (hm : n ≤ 9223372036854775807) (hr : Reads w 1 A n (ints ns)) :
    Calls Try.prog 53 #[.slice A n c, .func (Fn.func 52) #[] #[]] w fun e w' => e = .returned (.int .i64 (oddAt ns 0)) ∧ w = w' := by
  have en : n = ns.length := by simpa [ints] using hr.1.symm
  obtain ⟨s, es⟩ : ∃ s : Int, s = oddAt ns 0 := ⟨_, rfl⟩
  rw [← es]
  have En := Lib.hid en
  have Es := Lib.hid es
  clear en es
  go_enter Try.func53, Try.ntmps53
  go_wp2_with fail
  go_loop [8] (fun i => ∃ k : Nat, k ≤ n ∧ i = .int .i64 k ∧ Hid (oddAt (ns.drop k) k = s)) (fun i => n - (intOf i).toNat)
  case atStart => exact ⟨0, Nat.zero_le _, rfl, Es.out.symm⟩
  case round =>
    obtain ⟨k, hk, rfl, Hs⟩ := hrel
    by_cases hlt : k < n
    · have hx : k < ns.length := by have := En.out; omega
      obtain ⟨b, off, rfl, hb, hx', hc⟩ := hr.at_ hlt
      have hc2 : w.cell? ⟨b, off + k, none⟩ = some (.int .i64 ns[k]) := by simpa [ints] using hc
      obtain ⟨v, ev⟩ : ∃ v : Int, v = ns[k] := ⟨_, rfl⟩
      rw [← ev] at hc2
      have Hs' : Hid ((if coordB v then oddAt (ns.drop (k + 1)) (k + 1) else (k : Int)) = s) := by rw [ev]; exact (oddAt_drop ns k hx).symm.trans Hs.out
      clear hc hx' ev Hs hr
      rcases hf : coordB v with _ | _
      · have hs : s = (k : Int) := by have h9 := Hs'.out; rw [hf] at h9; simpa using h9.symm
        have Hf := Lib.hid hf
        subst hs
        clear hf
        go_wp2_with fail
        refine (odd_any v _).mono ?_; rintro e w' ⟨rfl, rfl⟩
        rw [Hf.out]
        go_wp2_with fail
        go_ret
        exact ⟨rfl, rfl⟩
      · have Hs2 : Hid (oddAt (ns.drop (k + 1)) (k + 1) = s) := by have h9 := Hs'.out; rw [hf] at h9; show oddAt _ _ = s; simpa using h9
        have Hf := Lib.hid hf
        clear hf Hs'
        go_wp2_with fail
        refine (odd_any v _).mono ?_; rintro e w' ⟨rfl, rfl⟩
        rw [Hf.out]
        go_wp2_with fail
        go_round
        case rel => exact ⟨k + 1, by omega, by go_num, Hs2⟩
        case measure => simp [intOf]; omega
    · have hkn : k = ns.length := by have := En.out; omega
      have hs : s = -1 := by have := Hs.out; rw [hkn, List.drop_length] at this; exact this.symm
      subst hs
      clear hkn hr Hs
      go_wp2_with fail
      go_ret
      exact ⟨rfl, rfl⟩

set_option maxHeartbeats 400000 in
theorem contains_odd (A : Option Addr) (n c : Nat) (ns : List Int) (w : World) (hm : n ≤ 9223372036854775807) (hr : Reads w 1 A n (ints ns)) :
    Calls Try.prog 51 #[.slice A n c, .func (Fn.func 52) #[] #[]] w fun e w' => e = .returned (.bool (ns.any fun a => !coordB a)) ∧ w = w' := by
  go_enter Try.func51, Try.ntmps51
  go_wp2_with fail
  refine (index_odd A n c ns _ hm hr).mono ?_; rintro e w' ⟨rfl, rfl⟩
  go_wp2_with fail
  go_ret
  exact ⟨ret_bool (by rw [Bool.eq_iff_iff, decide_eq_true_iff, oddAt_any]), rfl⟩

/-- What a box's sides are judged: no coordinate 2, out of order 3, else 0. -/
def judge (x1 x2 y1 y2 : Int) : Int := if coordB x1 && coordB x2 && coordB y1 && coordB y2 then (if x1 ≤ x2 ∧ y1 ≤ y2 then 0 else 3) else 2

theorem reads4 {w : World} {b : Nat} {x1 x2 y1 y2 : Int} (h0 : w.cell? ⟨b, 0, none⟩ = some (.int .i64 x1)) (h1 : w.cell? ⟨b, 1, none⟩ = some (.int .i64 x2)) (h2 : w.cell? ⟨b, 2, none⟩ = some (.int .i64 y1)) (h3 : w.cell? ⟨b, 3, none⟩ = some (.int .i64 y2)) :
    Reads w 1 (some ⟨b, 0, none⟩) 4 (ints [x1, x2, y1, y2]) := by
  refine ⟨rfl, fun _ => ⟨b, 0, rfl, cell_lt h0, fun j hj => ?_⟩⟩
  match j, hj with
  | 0, _ => exact h0
  | 1, _ => exact h1
  | 2, _ => exact h2
  | 3, _ => exact h3

set_option maxHeartbeats 1000000 in
theorem checked_any (b c : Nat) (x1 x2 y1 y2 : Int) (w : World) (h0 : w.cell? ⟨b, 0, none⟩ = some (.int .i64 x1)) (h1 : w.cell? ⟨b, 1, none⟩ = some (.int .i64 x2)) (h2 : w.cell? ⟨b, 2, none⟩ = some (.int .i64 y1)) (h3 : w.cell? ⟨b, 3, none⟩ = some (.int .i64 y2)) :
    Calls Try.prog 47 #[.slice (some ⟨b, 0, none⟩) 4 c] w fun e w' => e = .returned (.int .i64 (judge x1 x2 y1 y2)) ∧ Keep noBlk w w' := by
  have hr := reads4 h0 h1 h2 h3
  rcases hg : [x1, x2, y1, y2].any (fun a => !coordB a) with _ | _
  · have hj : judge x1 x2 y1 y2 = if x1 ≤ x2 ∧ y1 ≤ y2 then 0 else 3 := by simp at hg; simp [judge, hg]
    rw [hj]
    have Hg := Lib.hid hg
    have Hr := Lib.hid hr
    clear hg hj hr
    by_cases hx : x1 ≤ x2
    · by_cases hy : y1 ≤ y2
      · rw [if_pos ⟨hx, hy⟩]
        go_enter Try.func47, Try.ntmps47
        go_wp2_with fail
        refine (contains_odd _ 4 c _ _ (by omega) Hr.out).mono ?_; rintro e w' ⟨rfl, rfl⟩
        rw [Hg.out]
        go_wp2_with fail
        go_loopw [3] (fun i wr => ∃ (k : Nat) (nq : Nat), (k = 0 ∨ k = 2 ∨ k = 4) ∧ i = .int .i64 (k : Int) ∧ wr = w.drewN nq) (fun i _ => 4 - (intOf i).toNat)
        case atStart => exact ⟨0, 0, .inl rfl, rfl, rfl⟩
        case round =>
          obtain ⟨k, nq, hk, rfl, rfl⟩ := hrel
          rcases hk with rfl | rfl | rfl
          · go_wp2
            go_quiet (fail)
            go_wp2
            go_roundw
            case rel => exact ⟨2, _, .inr (.inl rfl), rfl, rfl⟩
            case measure => simp [intOf]
          · go_wp2
            go_quiet (fail)
            go_wp2
            go_roundw
            case rel => exact ⟨4, _, .inr (.inr rfl), rfl, rfl⟩
            case measure => simp [intOf]
          · go_wp2
            go_ret
            exact ⟨rfl, (Keep.refl _ _).drewN _⟩
      · rw [if_neg (fun h => hy h.2)]
        go_enter Try.func47, Try.ntmps47
        go_wp2_with fail
        refine (contains_odd _ 4 c _ _ (by omega) Hr.out).mono ?_; rintro e w' ⟨rfl, rfl⟩
        rw [Hg.out]
        go_wp2_with fail
        go_loopw [3] (fun i wr => ∃ (k : Nat) (nq : Nat), (k = 0 ∨ k = 2) ∧ i = .int .i64 (k : Int) ∧ wr = w.drewN nq) (fun i _ => 4 - (intOf i).toNat)
        case atStart => exact ⟨0, 0, .inl rfl, rfl, rfl⟩
        case round =>
          obtain ⟨k, nq, hk, rfl, rfl⟩ := hrel
          rcases hk with rfl | rfl
          · go_wp2
            go_quiet (fail)
            go_wp2
            go_roundw
            case rel => exact ⟨2, _, .inr rfl, rfl, rfl⟩
            case measure => simp [intOf]
          · go_wp2
            go_quiet (fail)
            go_wp2
            go_ret
            exact ⟨rfl, ((Keep.refl _ _).drewN _).drewN _⟩
    · rw [if_neg (fun h => hx h.1)]
      go_enter Try.func47, Try.ntmps47
      go_wp2_with fail
      refine (contains_odd _ 4 c _ _ (by omega) Hr.out).mono ?_; rintro e w' ⟨rfl, rfl⟩
      rw [Hg.out]
      go_wp2_with fail
      go_loopw [3] (fun i wr => ∃ (k : Nat) (nq : Nat), (k = 0) ∧ i = .int .i64 (k : Int) ∧ wr = w.drewN nq) (fun i _ => 4 - (intOf i).toNat)
      case atStart => exact ⟨0, 0, rfl, rfl, rfl⟩
      case round =>
        obtain ⟨k, nq, hk, rfl, rfl⟩ := hrel
        subst hk
        go_wp2
        go_quiet (fail)
        go_wp2
        go_ret
        exact ⟨rfl, ((Keep.refl _ _).drewN _).drewN _⟩
  · have hj : judge x1 x2 y1 y2 = 2 := by
      have : (coordB x1 && coordB x2 && coordB y1 && coordB y2) = false := by
        rw [← Bool.not_eq_true]; intro h; simp at h; simp [h] at hg
      simp [judge, this]
    rw [hj]
    have Hg := Lib.hid hg
    have Hr := Lib.hid hr
    clear hg hj hr
    go_enter Try.func47, Try.ntmps47
    go_wp2_with fail
    refine (contains_odd _ 4 c _ _ (by omega) Hr.out).mono ?_; rintro e w' ⟨rfl, rfl⟩
    rw [Hg.out]
    go_wp2_with fail
    go_ret
    exact ⟨rfl, Keep.refl _ _⟩

set_option maxHeartbeats 400000 in
theorem check_any (x1 x2 y1 y2 : Int) (w : World) :
    Calls Try.prog 34 #[.agg #[.int .i64 x1, .int .i64 x2, .int .i64 y1, .int .i64 y2]] w fun e w' => e = .returned (.int .i64 (judge x1 x2 y1 y2)) ∧ Keep noBlk w w' := by
  go_enter Try.func34, Try.ntmps34
  go_wp2_with fail
  refine (checked_any _ _ x1 x2 y1 y2 _ (by simp) (by simp) (by simp) (by simp)).mono ?_; rintro e w1 ⟨rfl, hk1⟩
  obtain ⟨ka1, kb1, kc1⟩ := hk1.rules
  have HK1 := Lib.hid hk1
  clear hk1
  try simp only [World.size_alloc, World.size_setCell, World.size_drew] at ka1 kb1 kc1
  try have ke1_1 := Nat.lt_of_succ_le kc1
  try have ke1_2 := Nat.lt_of_succ_lt ke1_1
  try have ke1_3 := Nat.lt_of_succ_lt ke1_2
  try have ke1_4 := Nat.lt_of_succ_lt ke1_3
  try have ke1_5 := Nat.lt_of_succ_lt ke1_4
  go_wp2_with fail
  go_ret
  refine ⟨rfl, ?_⟩
  (repeat (first | exact Keep.refl _ _ | (with_reducible refine Keep.trans ?_ HK1.out) | (with_reducible refine Keep.setCell ?_ (by simp <;> omega) _) | (with_reducible refine Keep.alloc ?_ _) | (with_reducible refine Keep.drew ?_) | (with_reducible refine Keep.drewN ?_ _)))

set_option maxHeartbeats 1000000 in
theorem rcoord_any (a : Int) (w : World) : Calls Try.prog 48 #[.int .i64 a] w fun e w' => e = .returned (.bool (coordB a)) ∧ w = w' := by
  by_cases h : -1099511627776 ≤ a
  · go_enter Try.func48, Try.ntmps48
    go_wp2
    go_ret
    exact ⟨ret_bool (by first | (simp [coordB] <;> omega) | (rw [Bool.eq_iff_iff]; simp [coordB] <;> omega)), rfl⟩
  · go_enter Try.func48, Try.ntmps48
    go_wp2
    go_ret
    exact ⟨ret_bool (by first | (simp [coordB] <;> omega) | (rw [Bool.eq_iff_iff]; simp [coordB] <;> omega)), rfl⟩

set_option maxHeartbeats 2000000 in
theorem rcheck_any (x1 x2 y1 y2 : Int) (w : World) :
    Calls Try.prog 35 #[.agg #[.int .i64 x1, .int .i64 x2, .int .i64 y1, .int .i64 y2]] w fun e w' => e = .returned (.int .i64 (judge x1 x2 y1 y2)) ∧ Keep noBlk w w' := by
  rcases g1 : coordB x1 with _ | _
  · have e : judge x1 x2 y1 y2 = 2 := by simp [judge, g1]
    have G1 := Lib.hid g1
    rw [e]; clear e g1
    go_enter Try.func35, Try.ntmps35
    go_wp2_with fail
    refine (rcoord_any _ _).mono ?_; rintro e w' ⟨rfl, rfl⟩
    rw [G1.out]
    go_wp2_with fail
    go_ret
    exact ⟨rfl, (Keep.refl _ _).alloc _⟩
  rcases g2 : coordB x2 with _ | _
  · have e : judge x1 x2 y1 y2 = 2 := by simp [judge, g2]
    have G1 := Lib.hid g1
    have G2 := Lib.hid g2
    rw [e]; clear e g1 g2
    go_enter Try.func35, Try.ntmps35
    go_wp2_with fail
    refine (rcoord_any _ _).mono ?_; rintro e w' ⟨rfl, rfl⟩
    rw [G1.out]
    go_wp2_with fail
    refine (rcoord_any _ _).mono ?_; rintro e w' ⟨rfl, rfl⟩
    rw [G2.out]
    go_wp2_with fail
    go_ret
    exact ⟨rfl, (Keep.refl _ _).alloc _⟩
  rcases g3 : coordB y1 with _ | _
  · have e : judge x1 x2 y1 y2 = 2 := by simp [judge, g3]
    have G1 := Lib.hid g1
    have G2 := Lib.hid g2
    have G3 := Lib.hid g3
    rw [e]; clear e g1 g2 g3
    go_enter Try.func35, Try.ntmps35
    go_wp2_with fail
    refine (rcoord_any _ _).mono ?_; rintro e w' ⟨rfl, rfl⟩
    rw [G1.out]
    go_wp2_with fail
    refine (rcoord_any _ _).mono ?_; rintro e w' ⟨rfl, rfl⟩
    rw [G2.out]
    go_wp2_with fail
    refine (rcoord_any _ _).mono ?_; rintro e w' ⟨rfl, rfl⟩
    rw [G3.out]
    go_wp2_with fail
    go_ret
    exact ⟨rfl, (Keep.refl _ _).alloc _⟩
  rcases g4 : coordB y2 with _ | _
  · have e : judge x1 x2 y1 y2 = 2 := by simp [judge, g4]
    have G1 := Lib.hid g1
    have G2 := Lib.hid g2
    have G3 := Lib.hid g3
    have G4 := Lib.hid g4
    rw [e]; clear e g1 g2 g3 g4
    go_enter Try.func35, Try.ntmps35
    go_wp2_with fail
    refine (rcoord_any _ _).mono ?_; rintro e w' ⟨rfl, rfl⟩
    rw [G1.out]
    go_wp2_with fail
    refine (rcoord_any _ _).mono ?_; rintro e w' ⟨rfl, rfl⟩
    rw [G2.out]
    go_wp2_with fail
    refine (rcoord_any _ _).mono ?_; rintro e w' ⟨rfl, rfl⟩
    rw [G3.out]
    go_wp2_with fail
    refine (rcoord_any _ _).mono ?_; rintro e w' ⟨rfl, rfl⟩
    rw [G4.out]
    go_wp2_with fail
    go_ret
    exact ⟨rfl, (Keep.refl _ _).alloc _⟩
  have e : judge x1 x2 y1 y2 = if x1 ≤ x2 ∧ y1 ≤ y2 then 0 else 3 := by simp [judge, g1, g2, g3, g4]
  rw [e]
  have G1 := Lib.hid g1
  have G2 := Lib.hid g2
  have G3 := Lib.hid g3
  have G4 := Lib.hid g4
  clear e g1 g2 g3 g4
  by_cases hx : x1 ≤ x2
  · by_cases hy : y1 ≤ y2
    · rw [if_pos ⟨hx, hy⟩]
      go_enter Try.func35, Try.ntmps35
      go_wp2_with fail
      refine (rcoord_any _ _).mono ?_; rintro e w' ⟨rfl, rfl⟩
      rw [G1.out]
      go_wp2_with fail
      refine (rcoord_any _ _).mono ?_; rintro e w' ⟨rfl, rfl⟩
      rw [G2.out]
      go_wp2_with fail
      refine (rcoord_any _ _).mono ?_; rintro e w' ⟨rfl, rfl⟩
      rw [G3.out]
      go_wp2_with fail
      refine (rcoord_any _ _).mono ?_; rintro e w' ⟨rfl, rfl⟩
      rw [G4.out]
      go_wp2_with fail
      go_ret
      exact ⟨rfl, (Keep.refl _ _).alloc _⟩
    · rw [if_neg (fun h => hy h.2)]
      go_enter Try.func35, Try.ntmps35
      go_wp2_with fail
      refine (rcoord_any _ _).mono ?_; rintro e w' ⟨rfl, rfl⟩
      rw [G1.out]
      go_wp2_with fail
      refine (rcoord_any _ _).mono ?_; rintro e w' ⟨rfl, rfl⟩
      rw [G2.out]
      go_wp2_with fail
      refine (rcoord_any _ _).mono ?_; rintro e w' ⟨rfl, rfl⟩
      rw [G3.out]
      go_wp2_with fail
      refine (rcoord_any _ _).mono ?_; rintro e w' ⟨rfl, rfl⟩
      rw [G4.out]
      go_wp2_with fail
      go_ret
      exact ⟨rfl, (Keep.refl _ _).alloc _⟩
  · rw [if_neg (fun h => hx h.1)]
    go_enter Try.func35, Try.ntmps35
    go_wp2_with fail
    refine (rcoord_any _ _).mono ?_; rintro e w' ⟨rfl, rfl⟩
    rw [G1.out]
    go_wp2_with fail
    refine (rcoord_any _ _).mono ?_; rintro e w' ⟨rfl, rfl⟩
    rw [G2.out]
    go_wp2_with fail
    refine (rcoord_any _ _).mono ?_; rintro e w' ⟨rfl, rfl⟩
    rw [G3.out]
    go_wp2_with fail
    refine (rcoord_any _ _).mono ?_; rintro e w' ⟨rfl, rfl⟩
    rw [G4.out]
    go_wp2_with fail
    go_ret
    exact ⟨rfl, (Keep.refl _ _).alloc _⟩

set_option maxHeartbeats 400000 in
theorem rwin_any (x1 x2 y : Int) (w : World) :
    Calls Try.prog 39 #[.agg #[.int .i64 x1, .int .i64 x2, .int .i64 y]] w fun e w' => e = .returned (.int .i64 (judge x1 x2 y 1099511627776)) ∧ Keep noBlk w w' := by
  go_enter Try.func39, Try.ntmps39
  go_wp2_with fail
  refine (rcheck_any _ _ _ _ _).mono ?_; rintro e w1 ⟨rfl, hk1⟩
  obtain ⟨ka1, kb1, kc1⟩ := hk1.rules
  have HK1 := Lib.hid hk1
  clear hk1
  try simp only [World.size_alloc, World.size_setCell, World.size_drew] at ka1 kb1 kc1
  try have ke1_1 := Nat.lt_of_succ_le kc1
  try have ke1_2 := Nat.lt_of_succ_lt ke1_1
  try have ke1_3 := Nat.lt_of_succ_lt ke1_2
  try have ke1_4 := Nat.lt_of_succ_lt ke1_3
  try have ke1_5 := Nat.lt_of_succ_lt ke1_4
  go_wp2_with fail
  go_ret
  refine ⟨rfl, ?_⟩
  (repeat (first | exact Keep.refl _ _ | (with_reducible refine Keep.trans ?_ HK1.out) | (with_reducible refine Keep.setCell ?_ (by simp <;> omega) _) | (with_reducible refine Keep.alloc ?_ _) | (with_reducible refine Keep.drew ?_) | (with_reducible refine Keep.drewN ?_ _)))

set_option maxHeartbeats 1000000 in
theorem open_yes (x1 x2 y : Int) (w : World) (h : judge x1 x2 y 1099511627776 = 0) :
    Calls Try.prog 32 #[.agg #[.int .i64 x1, .int .i64 x2, .int .i64 y]] w fun e w' => e = .returned (.tuple #[.agg #[.int .i64 x1, .int .i64 x2, .int .i64 y, .int .i64 1099511627776], .int .i64 0]) ∧ Keep noBlk w w' := by
  have H := Lib.hid h
  clear h
  go_enter Try.func32, Try.ntmps32
  go_wp2_with fail
  refine (checked_any (w.heap.size + 1 + 1) _ x1 x2 y 1099511627776 _ (by exact World.cell?_alloc_at _ _ _ _ (by simp)) (by exact World.cell?_alloc_at _ _ _ _ (by simp)) (by exact World.cell?_alloc_at _ _ _ _ (by simp)) (by exact World.cell?_alloc_at _ _ _ _ (by simp))).mono ?_; rintro e w1 ⟨rfl, hk1⟩
  obtain ⟨ka1, kb1, kc1⟩ := hk1.rules
  have HK1 := Lib.hid hk1
  clear hk1
  try simp only [World.size_alloc, World.size_setCell, World.size_drew] at ka1 kb1 kc1
  try have ke1_1 := Nat.lt_of_succ_le kc1
  try have ke1_2 := Nat.lt_of_succ_lt ke1_1
  try have ke1_3 := Nat.lt_of_succ_lt ke1_2
  try have ke1_4 := Nat.lt_of_succ_lt ke1_3
  try have ke1_5 := Nat.lt_of_succ_lt ke1_4
  rw [H.out]
  go_wp2_with fail
  refine bodyPost_ret (v := .tuple #[.agg #[.int .i64 x1, .int .i64 x2, .int .i64 y, .int .i64 1099511627776], .int .i64 0]) (by simp only [results, Try.results32]; go_simp) rfl ?_
  refine ⟨rfl, ?_⟩
  (repeat (first | exact Keep.refl _ _ | (with_reducible refine Keep.trans ?_ HK1.out) | (with_reducible refine Keep.setCell ?_ (by simp <;> omega) _) | (with_reducible refine Keep.alloc ?_ _) | (with_reducible refine Keep.drew ?_) | (with_reducible refine Keep.drewN ?_ _)))

set_option maxHeartbeats 1000000 in
theorem open_no (x1 x2 y j : Int) (w : World) (h : judge x1 x2 y 1099511627776 = j) (hj : (j == 0) = false) :
    Calls Try.prog 32 #[.agg #[.int .i64 x1, .int .i64 x2, .int .i64 y]] w fun e w' => e = .returned (.tuple #[.agg #[.int .i64 0, .int .i64 0, .int .i64 0, .int .i64 0], .int .i64 j]) ∧ Keep noBlk w w' := by
  have H := Lib.hid h
  clear h
  go_enter Try.func32, Try.ntmps32
  go_wp2_with fail
  refine (checked_any (w.heap.size + 1 + 1) _ x1 x2 y 1099511627776 _ (by exact World.cell?_alloc_at _ _ _ _ (by simp)) (by exact World.cell?_alloc_at _ _ _ _ (by simp)) (by exact World.cell?_alloc_at _ _ _ _ (by simp)) (by exact World.cell?_alloc_at _ _ _ _ (by simp))).mono ?_; rintro e w1 ⟨rfl, hk1⟩
  obtain ⟨ka1, kb1, kc1⟩ := hk1.rules
  have HK1 := Lib.hid hk1
  clear hk1
  try simp only [World.size_alloc, World.size_setCell, World.size_drew] at ka1 kb1 kc1
  try have ke1_1 := Nat.lt_of_succ_le kc1
  try have ke1_2 := Nat.lt_of_succ_lt ke1_1
  try have ke1_3 := Nat.lt_of_succ_lt ke1_2
  try have ke1_4 := Nat.lt_of_succ_lt ke1_3
  try have ke1_5 := Nat.lt_of_succ_lt ke1_4
  rw [H.out]
  go_wp2_with fail
  refine bodyPost_ret (v := .tuple #[.agg #[.int .i64 0, .int .i64 0, .int .i64 0, .int .i64 0], .int .i64 j]) (by simp only [results, Try.results32]; go_simp) rfl ?_
  refine ⟨rfl, ?_⟩
  (repeat (first | exact Keep.refl _ _ | (with_reducible refine Keep.trans ?_ HK1.out) | (with_reducible refine Keep.setCell ?_ (by simp <;> omega) _) | (with_reducible refine Keep.alloc ?_ _) | (with_reducible refine Keep.drew ?_) | (with_reducible refine Keep.drewN ?_ _)))

set_option maxHeartbeats 400000 in
theorem all_any (w : World) :
    Calls Try.prog 33 #[] w fun e w' => e = .returned (.agg #[.int .i64 (-1099511627776), .int .i64 1099511627776, .int .i64 (-1099511627776), .int .i64 1099511627776]) ∧ Keep noBlk w w' := by
  go_enter Try.func33, Try.ntmps33
  go_wp2_with fail
  refine bodyPost_ret (v := .agg #[.int .i64 (-1099511627776), .int .i64 1099511627776, .int .i64 (-1099511627776), .int .i64 1099511627776]) (by simp only [results, Try.results33]; go_simp) rfl ?_
  refine ⟨rfl, ?_⟩
  (repeat (first | exact Keep.refl _ _ | (with_reducible refine Keep.setCell ?_ (by simp <;> omega) _) | (with_reducible refine Keep.alloc ?_ _) | (with_reducible refine Keep.drew ?_) | (with_reducible refine Keep.drewN ?_ _)))

def seesB (x1 x2 y0 x y : Int) : Bool := inB x x1 x2 && decide (y0 ≤ y)
set_option maxHeartbeats 400000 in
theorem sees_any (x1 x2 y0 i x y : Int) (w : World) :
    Calls Try.prog 37 #[.agg #[.int .i64 x1, .int .i64 x2, .int .i64 y0], .agg #[.int .i64 i, .int .i64 x, .int .i64 y]] w fun e w' => e = .returned (.bool (seesB x1 x2 y0 x y)) ∧ Keep noBlk w w' := by
  rcases h : inB x x1 x2 with _ | _
  all_goals
    have H := Lib.hid h
    clear h
    go_enter Try.func37, Try.ntmps37
    go_wp2_with fail
    refine (within_any _ _ _ _).mono ?_; rintro e w' ⟨rfl, rfl⟩
    rw [H.out]
    go_wp2_with fail
    go_ret
    exact ⟨ret_bool (by simp [seesB, H.out]), ((Keep.refl _ _).alloc _).alloc _⟩

set_option maxHeartbeats 400000 in
theorem rsees_any (x1 x2 y0 x y : Int) (w : World) :
    Calls Try.prog 38 #[.agg #[.int .i64 x1, .int .i64 x2, .int .i64 y0], .int .i64 x, .int .i64 y] w fun e w' => e = .returned (.bool (seesB x1 x2 y0 x y)) ∧ Keep noBlk w w' := by
  by_cases h1 : x1 ≤ x
  · by_cases h2 : x ≤ x2
    all_goals
      go_enter Try.func38, Try.ntmps38
      go_wp2
      go_ret
      exact ⟨ret_bool (by first | (simp [seesB, inB] <;> omega) | (rw [Bool.eq_iff_iff]; simp [seesB, inB] <;> omega)), (Keep.refl _ _).alloc _⟩
  · go_enter Try.func38, Try.ntmps38
    go_wp2
    go_ret
    exact ⟨ret_bool (by first | (simp [seesB, inB] <;> omega) | (rw [Bool.eq_iff_iff]; simp [seesB, inB] <;> omega)), (Keep.refl _ _).alloc _⟩

set_option maxHeartbeats 400000 in
theorem stabs_any (i lo hi x : Int) (w : World) :
    Calls Try.prog 29 #[.agg #[.int .i64 i, .int .i64 lo, .int .i64 hi], .int .i64 x] w fun e w' => e = .returned (.bool (inB x lo hi)) ∧ Keep noBlk w w' := by
  go_enter Try.func29, Try.ntmps29
  go_wp2_with fail
  refine (within_any _ _ _ _).mono ?_; rintro e w' ⟨rfl, rfl⟩
  go_wp2_with fail
  go_ret
  exact ⟨rfl, (Keep.refl _ _).alloc _⟩

def overB (a b c d : Int) : Bool := decide (a ≤ b ∧ c ≤ d ∧ a ≤ d ∧ c ≤ b)
set_option maxHeartbeats 1000000 in
theorem overlap_any (i a b k c d : Int) (w : World) :
    Calls Try.prog 30 #[.agg #[.int .i64 i, .int .i64 a, .int .i64 b], .agg #[.int .i64 k, .int .i64 c, .int .i64 d]] w fun e w' => e = .returned (.bool (overB a b c d)) ∧ Keep noBlk w w' := by
  by_cases h1 : a ≤ b
  · by_cases h2 : c ≤ d
    · by_cases h3 : a ≤ d
      all_goals
        go_enter Try.func30, Try.ntmps30
        go_wp2
        go_ret
        exact ⟨ret_bool (by rw [Bool.eq_iff_iff]; simp [overB] <;> omega), ((Keep.refl _ _).alloc _).alloc _⟩
    · go_enter Try.func30, Try.ntmps30
      go_wp2
      go_ret
      exact ⟨ret_bool (by rw [Bool.eq_iff_iff]; simp [overB] <;> omega), ((Keep.refl _ _).alloc _).alloc _⟩
  · go_enter Try.func30, Try.ntmps30
    go_wp2
    go_ret
    exact ⟨ret_bool (by rw [Bool.eq_iff_iff]; simp [overB] <;> omega), ((Keep.refl _ _).alloc _).alloc _⟩

set_option maxHeartbeats 1000000 in
theorem roverlap_any (i a b k c d : Int) (w : World) :
    Calls Try.prog 31 #[.agg #[.int .i64 i, .int .i64 a, .int .i64 b], .agg #[.int .i64 k, .int .i64 c, .int .i64 d]] w fun e w' => e = .returned (.bool (overB a b c d)) ∧ Keep noBlk w w' := by
  by_cases h1 : a < c
  all_goals by_cases h2 : d < b
  all_goals
    go_enter Try.func31, Try.ntmps31
    go_wp2
    go_quiet (fail)
    go_wp2
    go_ret
    refine ⟨ret_bool (by rw [Bool.eq_iff_iff]; simp [overB] <;> omega), ?_⟩
    (repeat (first | exact Keep.refl _ _ | (with_reducible refine Keep.setCell ?_ (by simp <;> omega) _) | (with_reducible refine Keep.alloc ?_ _) | (with_reducible refine Keep.drew ?_) | (with_reducible refine Keep.drewN ?_ _)))
end Go.Proofs.Ytlkhnhahepehkaa
