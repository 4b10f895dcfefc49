/- The law BoxAround's walk. -/
import Derived.Test.YtlkhnhahepehkaaBoxAp
import Derived.Deep.DeepCutAuto
import Derived.BigRegion
namespace Go.Proofs.Ytlkhnhahepehkaa
open Go.RowKit
set_option linter.unusedSimpArgs false
set_option linter.unusedVariables false
attribute [local go_sem ↓] run_maxI run_minI run_eql_box

theorem point_info : (Try.prog.info? 36).map (fun i => (i.zero, i.size, i.bytes)) = some (some (.agg #[.int .i64 0, .int .i64 0, .int .i64 0]), 3, 24) := by kernel_rfl

theorem own_slice {w : World} {base : Nat} {e : TypeId} {size n : Nat} {v : Value} {xs : List Value} (h : w.ownsRow base e size v n xs) : ∃ A c, v = .slice A n c ∧ n ≤ c ∧ c ≤ maxLen ∧ Reads w size A n xs := by
  have h0 := h
  rcases h.2 with ⟨rfl, rfl⟩ | ⟨g, cap, cur, rfl, _, _, h1, h2, _⟩
  · exact ⟨_, _, rfl, Nat.le_refl _, Nat.zero_le _, Reads.of_own h0⟩
  · exact ⟨_, _, rfl, h1, h2, Reads.of_own h0⟩

set_option maxRecDepth 100000 in
set_option maxHeartbeats 16000000 in
theorem boxAround_some (A : Option Addr) (n cap : Nat) (ns : List Int) (w : World) (hlc : n ≤ cap) (hcm : cap ≤ 9223372036854775807) (hpos : 0 < n) (h40 : n ≤ 40) (hn : Ints ns) (hr : Reads w 3 A n (ints ns)) :
    Calls Try.prog 11 #[.slice A n cap] w fun e w' => e = .returned (.bool true) ∧ Below w.heap.size w w' := by
  obtain ⟨i0, hi0, hz0, hz1, hz2⟩ := info_of point_info
  go_enter Try.func11, Try.ntmps11
  go_wp2_with (at_builtin; refine wpList_append_reads rfl (.tmp 13) (.tmp 14) _ rfl w.heap.size 36 i0 _ 3 24 Try.underlying59 hi0 hz0 hz1 hz2 rfl (by omega) (.slice (some ⟨w.heap.size, 0, none⟩) 0 0) 0 [] rfl (World.ownsRow_lit w #[] 0 (Nat.le_refl _) (Nat.zero_le _) rfl) A n cap (ints ns) rfl (hr.kept ((Keep.refl _ _).alloc _)) (ints_one _) (by simp only [maxLen]; omega) (by omega) (by simp) ?_; intro v1 wa hown1 hg1 hx1 hat1; have hk1 : Keep noBlk w wa := ((Keep.refl _ _).alloc _).grown hg1 (by simp [Value.ownBlock]))
  obtain ⟨A1, c1, rfl, hc1, hc2, hr1⟩ := own_slice hown1
  rw [Nat.zero_add] at hr1 hc1
  rw [Nat.zero_add]
  rw [List.nil_append] at hr1
  obtain ⟨b1, off1, rfl, hb1, _⟩ := hr1.2 (by omega)
  obtain ⟨p0, x0, y0, rest, hns⟩ : ∃ p0 x0 y0 rest, ns = p0 :: x0 :: y0 :: rest := by
    have h9 := hr.1
    simp [ints] at h9
    match ns, h9 with
    | [], h9 => simp at h9; omega
    | [_], h9 => simp at h9; omega
    | [_, _], h9 => simp at h9; omega
    | a :: b :: c :: l, _ => exact ⟨a, b, c, l, rfl⟩
  obtain ⟨f1, f2, f3, f4, hf⟩ : ∃ f1 f2 f3 f4, aroundF rest (x0, x0, y0, y0) = (f1, f2, f3, f4) := ⟨_, _, _, _, rfl⟩
  have hc2' : c1 ≤ 9223372036854775807 := by simpa [maxLen] using hc2
  have HR1 := Lib.hid hr1
  have HR := Lib.hid hr
  have HK0 := Lib.hid hk1
  have HF := Lib.hid hf
  have HN := Lib.hid hns
  clear hown1 hg1 hat1 hx1 hr1 hr hk1 hf hns hc2
  go_wp2_with fail
  refine (around_some b1 off1 n c1 ns _ hn hpos hc1 hc2' HR1.out p0 x0 y0 rest HN.out f1 f2 f3 f4 HF.out).mono ?_; rintro e w1 ⟨rfl, hk1⟩
  obtain ⟨ka1, kb1, kc1⟩ := hk1.rules
  have HK1 := Lib.hid hk1
  clear hk1
  try simp only [World.size_alloc, World.size_setCell, World.size_drew] at ka1 kb1 kc1
  try have ke1_1 := Nat.lt_of_succ_le kc1
  try have ke1_2 := Nat.lt_of_succ_lt ke1_1
  try have ke1_3 := Nat.lt_of_succ_lt ke1_2
  try have ke1_4 := Nat.lt_of_succ_lt ke1_3
  try have ke1_5 := Nat.lt_of_succ_lt ke1_4
  go_wp2_with fail
  have Hg := around_all (n := n) HN.out (by simpa [ints] using HR.out.1) HF.out
  have HG0 := Lib.hid Hg
  clear Hg
  obtain ⟨B, hB⟩ : ∃ B : Nat, B = w1.heap.size := ⟨_, rfl⟩
  have hBw : w.heap.size ≤ B := by have := HK0.out.size; have := HK1.out.size; omega
  have HBw := Lib.hid hB
  go_loopw [6] (fun i wr => ∃ (k : Nat) (s0 s1 s2 s3 : Bool), k ≤ n ∧ i = .int .i64 k ∧ Hid (s0 = seen ns 1 f1 k ∧ s1 = seen ns 1 f2 k ∧ s2 = seen ns 2 f3 k ∧ s3 = seen ns 2 f4 k) ∧ Keep noBlk w wr ∧ Blk wr w1.heap.size 34 #[.int .i64 f1, .int .i64 f2, .int .i64 f3, .int .i64 f4] ∧ Blk wr (w1.heap.size + 1) 61 #[.bool s0, .bool s1, .bool s2, .bool s3]) (fun i _ => n - (intOf i).toNat)
  case atStart => exact ⟨0, false, false, false, false, Nat.zero_le _, rfl, ⟨rfl, rfl, rfl, rfl⟩, ((HK0.out.trans HK1.out).alloc _).alloc _, (Blk.new_at rfl).kept ((Keep.refl _ _).alloc _), Blk.new_at (by simp)⟩
  case round =>
    obtain ⟨k, s0, s1, s2, s3, hkn, rfl, Hs, hk, hb1, hb2⟩ := hrel
    by_cases hlt : k < n
    · obtain ⟨b, off, rfl, hbl, hcl⟩ := HR.out.2 (by omega)
      have hlen : ns.length = n * 3 := by simpa [ints] using HR.out.1
      obtain ⟨u, v, eu, ev, hD⟩ : ∃ u v : Int, u = ns.getD (k * 3 + 1) 0 ∧ v = ns.getD (k * 3 + 2) 0 ∧ ∀ wy, Keep noBlk w wy → wy.cell? ⟨b, off + k * 3 + 1, none⟩ = some (.int .i64 u) ∧ wy.cell? ⟨b, off + k * 3 + 2, none⟩ = some (.int .i64 v) := by
        have cell : ∀ wy, Keep noBlk w wy → ∀ j (hj : j < ns.length), wy.cell? ⟨b, off + j, none⟩ = some (.int .i64 (ns.getD j 0)) := by
          intro wy hky j hj
          have := hcl j (by simpa [ints] using hj)
          rw [hky.cell (p := ⟨b, off + j, none⟩) hbl id, this]
          simp [ints, hj]
        exact ⟨_, _, rfl, rfl, fun wy hky => ⟨by rw [Nat.add_assoc]; exact cell wy hky _ (by omega), by rw [Nat.add_assoc]; exact cell wy hky _ (by omega)⟩⟩
      obtain ⟨d1, d2⟩ := hD _ hk
      have HD := Lib.hid hD
      clear hD
      have HH : Hid (hasB f1 f2 f3 f4 u v = true) := by
        rw [eu, ev]
        exact HG0.out.1 k hlt
      have hsz := hb2.lt
      have q1 := hb1.cell
      have q2 := hb2.cell
      have HKr := Lib.hid hk
      have hbase : w.heap.size ≤ w1.heap.size := by have := HK0.out.size; have := HK1.out.size; omega
      have HB1 := Lib.hid hb1
      have HB2 := Lib.hid hb2
      have EU := Lib.hid eu
      have EV := Lib.hid ev
      have hbl2 : b < wr.heap.size := Nat.lt_of_lt_of_le hbl hk.size
      have hsz2 : w1.heap.size < wr.heap.size := by omega
      clear hb1 hb2 hk eu ev hcl hlen hB
      go_wp2_with fail
      refine wp_region_keep (by kernel_rfl) (by kernel_rfl) (fun T2 hT2 WW2 hg2 HC2 => ?_)
      obtain ⟨ra2, rb2, rc2⟩ := keep_rules_at hg2 (Nat.le_refl _)
      obtain ⟨ra2_1, rb2_1, rc2_1⟩ := keep_rules_at hg2 (Nat.le_trans kc1 (by (try simp only [World.size_alloc, World.size_setCell, World.size_drew]) <;> omega))
      have HG2 := Lib.hid hg2
      clear hg2
      try simp only [World.size_alloc, World.size_setCell, World.size_drew] at ra2 rb2 rc2
      repeat (go_big_quiet_step (first | (go_at_call 26; with_reducible apply keep_call HC2 HG2 (rhas_is _ _ _ _ _ _ _ HH _))))
      refine wpQuiet_nil ?_
      intro w2 hw2
      obtain ⟨x2, rfl⟩ := hw2
      have HK2 := Lib.hid (HG2.out x2)
      have kc2 := rc2 x2
      have hkx : Keep noBlk wr (WW2 x2) := HG2.out x2
      have hsx : wr.heap.size ≤ (WW2 x2).heap.size := hkx.size
      have hbx1 := HB1.out.kept hkx
      have hbx2 := HB2.out.kept hkx
      have d1x := hkx.hold d1
      have d2x := hkx.hold d2
      have HKx := Lib.hid (HKr.out.trans hkx)
      clear hkx ra2 rb2 rc2 q1 q2 d1 d2 kc2 HK2 HB1 HB2 HG2 HC2 HKr
      go_upto_region 12 with (fail)
      go_cut [] (fun wx => ∃ t0 t1 : Bool, Hid (t0 = (s0 || u == f1) ∧ t1 = (s1 || u == f2)) ∧ Keep noBlk w wx ∧ Blk wx w1.heap.size 34 #[.int .i64 f1, .int .i64 f2, .int .i64 f3, .int .i64 f4] ∧ Blk wx (w1.heap.size + 1) 61 #[.bool t0, .bool t1, .bool s2, .bool s3])
      case first =>
        have q1 := hbx1.cell
        have q2 := hbx2.cell
        have q3 := hbx2.frozen
        have HX1 := Lib.hid hbx1
        have HX2 := Lib.hid hbx2
        clear hbx1 hbx2
        cases s0
        all_goals cases s1
        all_goals go_region
        all_goals go_wp2_with fail
        all_goals go_meet
        all_goals exact ⟨_, _, ⟨by simp, by simp⟩, ((HKx.out.drew).setCell (fun h => by simp at h; omega) _).setCell (fun h => by simp at h; omega) _, ((HX1.out.drew).far (by simp) _).far (by simp) _, ((HX2.out.drew).set_ 0 _).set_ 1 _⟩
      case rest =>
        obtain ⟨t0, t1, ht, hkc, hbc1, hbc2⟩ := hcut
        obtain ⟨d1y, d2y⟩ := HD.out _ hkc
        have HKc := Lib.hid hkc
        clear hbx1 hbx2 d1x d2x hkc
        go_upto_region 13 with (fail)
        have q1 := hbc1.cell
        have q2 := hbc2.cell
        have q3 := hbc2.frozen
        have HX1 := Lib.hid hbc1
        have HX2 := Lib.hid hbc2
        clear hbc1 hbc2
        cases s2
        all_goals cases s3
        all_goals
          go_region
          go_wp2_with fail
          go_roundw
          case rel => exact ⟨k + 1, _, _, _, _, by omega, by go_num, ⟨by rw [seen_succ, ← Hs.out.1, ← EU.out]; exact ht.out.1, by rw [seen_succ, ← Hs.out.2.1, ← EU.out]; exact ht.out.2, by rw [seen_succ, ← Hs.out.2.2.1, ← EV.out]; simp, by rw [seen_succ, ← Hs.out.2.2.2, ← EV.out]; simp⟩, ((HKc.out.setCell (fun h => by simp at h; omega) _).setCell (fun h => by simp at h; omega) _).drew, ((HX1.out.far (by simp) _).far (by simp) _).drew, ((HX2.out.set_ 2 _).set_ 3 _).drew⟩
          case measure => simp [intOf]; omega
    · have hkn' : k = n := by omega
      subst hkn'
      obtain ⟨_, g1, g2, g3, g4⟩ := HG0.out
      obtain ⟨s5, s6, s7, s8⟩ := Hs.out
      rw [g1] at s5
      rw [g2] at s6
      rw [g3] at s7
      rw [g4] at s8
      subst s5 s6 s7 s8
      have q2 := hb2.cell
      have HKr := Lib.hid hk
      have HB2 := Lib.hid hb2
      clear hb1 hb2 hk g1 g2 g3 g4 Hs
      go_wp2_with fail
      refine (lives4_any _).mono ?_; rintro e w3 ⟨rfl, hk3⟩
      have HK3 := Lib.hid hk3
      clear hk3
      go_wp2_with fail
      go_ret
      exact ⟨rfl, (HKr.out.trans HK3.out).below⟩
end Go.Proofs.Ytlkhnhahepehkaa
