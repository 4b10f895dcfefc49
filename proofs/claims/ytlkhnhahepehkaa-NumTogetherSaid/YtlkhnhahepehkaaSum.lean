/- num.Sum, and the law NumTogether's walk. -/
import Derived.Test.YtlkhnhahepehkaaNumLaws
import Derived.Test.YtlkhnhahepehkaaFrame
namespace Go.Proofs.Ytlkhnhahepehkaa
open Go.RowKit

/-- Numbers together, from one on: none, as soon as a sum has none. -/
def sumF : List Int → Int → Int × Bool
  | [], n => (n, true)
  | a :: l, n => if fits (n + a) then sumF l (n + a) else (0, false)
theorem sumF_drop (ns : List Int) (k : Nat) (n : Int) (hk : k < ns.length) : sumF (ns.drop k) n = if fits (n + ns[k]) then sumF (ns.drop (k + 1)) (n + ns[k]) else (0, false) := by
  rw [List.drop_eq_getElem_cons hk]; rfl

set_option maxHeartbeats 400000 in
theorem sum_any (A : Option Addr) (n c : Nat) (ns : List Int) (w : World) (hn : Ints ns) (hm : n ≤ 9223372036854775807) (hr : Reads w 1 A n (ints ns)) :
    Calls Try.prog 21 #[.slice A n c] w fun e w' => e = .returned (.tuple #[.int .i64 (sumF ns 0).1, .bool (sumF ns 0).2]) ∧ w = w' := by
  have en : n = ns.length := by simpa [ints] using hr.1.symm
  obtain ⟨s, es⟩ : ∃ s : Int × Bool, s = sumF ns 0 := ⟨_, rfl⟩
  rw [← es]
  have En := Lib.hid en
  have Es := Lib.hid es
  clear en es
  go_enter Try.func21, Try.ntmps21
  go_wp2_with fail
  go_loop [4, 10] (fun m i => ∃ (k : Nat) (q : Int), k ≤ n ∧ i = .int .i64 k ∧ m = .int .i64 q ∧ -9223372036854775808 ≤ q ∧ q ≤ 9223372036854775807 ∧ Hid (sumF (ns.drop k) q = s)) (fun _ i => n - (intOf i).toNat)
  case atStart => exact ⟨0, 0, Nat.zero_le _, rfl, rfl, by omega, by omega, Es.out.symm⟩
  case round =>
    obtain ⟨k, q, hk, rfl, rfl, q1, q2, Hs⟩ := hrel
    by_cases hlt : k < n
    · have hx : k < ns.length := by have := En.out; omega
      obtain ⟨b, off, rfl, hb, hx', hc⟩ := hr.at_ hlt
      have hc2 : w.cell? ⟨b, off + k, none⟩ = some (.int .i64 ns[k]) := by simpa [ints] using hc
      have hv := hn ns[k] (List.getElem_mem hx)
      obtain ⟨v, ev⟩ : ∃ v : Int, v = ns[k] := ⟨_, rfl⟩
      rw [← ev] at hc2 hv
      have Hs' : Hid ((if fits (q + v) then sumF (ns.drop (k + 1)) (q + v) else (0, false)) = s) := by rw [ev]; exact (sumF_drop ns k q hx).symm.trans Hs.out
      obtain ⟨v1, v2⟩ := hv
      clear hc hx' ev Hs hr
      rcases hf : fits (q + v) with _ | _
      · have e1 : resV (q + v) = .tuple #[.int .i64 0, .bool false] := by simp [resV, resN, hf]
        have hs : s = (0, false) := by have := Hs'.out; simpa [hf] using this.symm
        have E1 := Lib.hid e1
        subst hs
        clear e1 hf
        go_wp2_with fail
        refine (add0_any q v ⟨q1, q2⟩ ⟨v1, v2⟩ _).mono ?_; rintro e w' ⟨rfl, rfl⟩; rw [E1.out]
        go_wp2_with fail
        go_ret2
        exact ⟨rfl, rfl⟩
      · have e1 : resV (q + v) = .tuple #[.int .i64 (q + v), .bool true] := by simp [resV, resN, hf]
        have Hs2 : Hid (sumF (ns.drop (k + 1)) (q + v) = s) := by have h9 := Hs'.out; rw [hf] at h9; show sumF _ _ = s; simpa using h9
        obtain ⟨f1, f2⟩ := fits_out hf
        have E1 := Lib.hid e1
        clear e1 hf Hs'
        go_wp2_with fail
        refine (add0_any q v ⟨q1, q2⟩ ⟨v1, v2⟩ _).mono ?_; rintro e w' ⟨rfl, rfl⟩; rw [E1.out]
        go_wp2_with fail
        go_round
        case rel => exact ⟨k + 1, _, by omega, by go_num, rfl, f1, f2, Hs2⟩
        case measure => simp [intOf]; omega
    · have hkn : k = ns.length := by have := En.out; omega
      have hs : s = (q, true) := by have := Hs.out; rw [hkn, List.drop_length] at this; exact this.symm
      subst hs
      clear hkn hr Hs
      go_wp2_with fail
      go_ret2
      exact ⟨rfl, rfl⟩

theorem int_info : (Try.prog.info? 3).map (fun i => (i.zero, i.size, i.bytes)) = some (some (.int .i64 0), 1, 8) := by kernel_rfl

theorem own_reads {w : World} {base : Nat} {e : TypeId} {size n : Nat} {v : Value} {xs : List Value} (h : w.ownsRow base e size v n xs) : ∃ A c, v = .slice A n c ∧ Reads w size A n xs := by
  have h0 := h
  rcases h.2 with ⟨rfl, rfl⟩ | ⟨g, cap, cur, rfl, _⟩
  · exact ⟨_, _, rfl, Reads.of_own h0⟩
  · exact ⟨_, _, rfl, Reads.of_own h0⟩

theorem resV_def (n : Int) : resV n = .tuple #[.int .i64 (resN n), .bool (fits n)] := rfl
theorem resN_in (a : Int) : -9223372036854775808 ≤ resN a ∧ resN a ≤ 9223372036854775807 := by
  unfold resN
  cases h : fits a
  · simp
  · simpa using fits_out h

/-- Where the reference's loop stands: what is still to be added to q comes to s, or there was none. -/
def Together (rest : List Int) (q : Int) (o : Bool) (s : Int × Bool) : Prop := o = true ∧ sumF rest q = s ∨ o = false ∧ q = 0 ∧ s = (0, false)
theorem Together.step {rest : List Int} {q v : Int} {s : Int × Bool} (h : Hid ((if fits (q + v) then sumF rest (q + v) else (0, false)) = s)) : Together rest (resN (q + v)) (fits (q + v)) s := by
  have h := h.out
  cases hf : fits (q + v)
  · rw [hf] at h
    exact .inr ⟨rfl, by simp [resN, hf], by simpa using h.symm⟩
  · rw [hf] at h
    exact .inl ⟨rfl, by simpa [resN, hf] using h⟩

set_option maxHeartbeats 1000000 in
theorem numTogether_walk (A : Option Addr) (len cap : Nat) (ns0 : List Int) (w : World) (hlc : len ≤ cap) (hcm : cap ≤ 9223372036854775807) (hn0 : Ints ns0) (hr0 : Reads w 1 A len (ints ns0)) :
    Calls Try.prog 6 #[.slice A len cap] w fun e w' => e = .returned (.bool true) ∧ Below w.heap.size w w' := by
  obtain ⟨i0, hi0, hz0, hz1, hz2⟩ := info_of int_info
  by_cases h60 : 60 < len
  · obtain ⟨ns, ens⟩ : ∃ ns : List Int, ns = ns0.take 60 := ⟨_, rfl⟩
    have hr : Reads w 1 A 60 (ints ns) := by
      have := hr0.take (k := 60) (by omega)
      rwa [ens, show ints (ns0.take 60) = (ints ns0).take (60 * 1) by simp [ints, List.map_take]]
    have hn : Ints ns := fun n h => hn0 n (List.mem_of_mem_take (ens ▸ h))
    have en : 60 = ns.length := by simpa [ints] using hr.1.symm
    have En := Lib.hid en
    clear hr0 hn0 ens en
    go_enter Try.func6, Try.ntmps6
    go_wp2_with (at_builtin
                 refine wpList_append_reads rfl (.tmp 14) (.tmp 15) _ rfl w.heap.size 3 i0 _ 1 8 Try.underlying29 hi0 hz0 hz1 hz2 rfl (by omega) (.slice (some ⟨w.heap.size, 0, none⟩) 0 0) 0 [] rfl
                   (World.ownsRow_lit w #[] 0 (Nat.le_refl _) (Nat.zero_le _) rfl) A 60 cap (ints ns) rfl (hr.kept ((Keep.refl _ _).alloc _)) (ints_one _) (by simp only [maxLen]; omega) (by omega) (by simp) ?_
                 intro v1 w1 hown1 hg1 hx1 hat1
                 have hk1 : Keep noBlk w w1 := ((Keep.refl _ _).alloc _).grown hg1 (by simp [Value.ownBlock]))
    obtain ⟨A1, c1, rfl, hr1⟩ := own_reads hown1
    rw [show 0 + 60 = 60 from Nat.zero_add _] at hr1
    rw [show 0 + 60 = 60 from Nat.zero_add _]
    rw [List.nil_append] at hr1
    clear hown1 hg1 hat1 hx1
    go_wp2_with fail
    refine (sum_any A1 60 c1 ns w1 hn (by omega) hr1).mono ?_; rintro e w' ⟨rfl, rfl⟩
    have hr2 := hr.kept hk1
    clear hr hr1
    obtain ⟨s, es⟩ : ∃ s : Int × Bool, s = sumF ns 0 := ⟨_, rfl⟩
    have Es := Lib.hid es
    rw [← es]
    clear es
    go_wp2_with fail
    go_loop [5, 6, 7] (fun x b i => ∃ (k : Nat) (q : Int) (o : Bool), k ≤ 60 ∧ i = .int .i64 k ∧ x = .int .i64 q ∧ b = .bool o ∧ -9223372036854775808 ≤ q ∧ q ≤ 9223372036854775807 ∧ Together (ns.drop k) q o s) (fun _ _ i => 60 - (intOf i).toNat)
    case atStart => exact ⟨0, 0, true, Nat.zero_le _, rfl, rfl, rfl, by omega, by omega, .inl ⟨rfl, Es.out.symm⟩⟩
    case round =>
      obtain ⟨k, q, o, hk, rfl, rfl, rfl, q1, q2, Hs⟩ := hrel
      rcases Hs with ⟨rfl, Hs⟩ | ⟨rfl, rfl, Hs⟩
      · by_cases hlt : k < 60
        · have hx : k < ns.length := by have := En.out; omega
          obtain ⟨b, off, rfl, hb, hx', hc⟩ := hr2.at_ hlt
          have hc2 : w1.cell? ⟨b, off + k, none⟩ = some (.int .i64 ns[k]) := by simpa [ints] using hc
          have hv := hn ns[k] (List.getElem_mem hx)
          obtain ⟨v, ev⟩ : ∃ v : Int, v = ns[k] := ⟨_, rfl⟩
          rw [← ev] at hc2 hv
          have Hs' : Hid ((if fits (q + v) then sumF (ns.drop (k + 1)) (q + v) else (0, false)) = s) := by rw [ev]; exact (sumF_drop ns k q hx).symm.trans Hs
          obtain ⟨v1, v2⟩ := hv
          have hlt2 : k < 60 := hlt
          clear hc hx' ev Hs hr2
          have hst : Together (ns.drop (k + 1)) (resN (q + v)) (fits (q + v)) s := Together.step Hs'
          have hb1 : -9223372036854775808 ≤ resN (q + v) ∧ resN (q + v) ≤ 9223372036854775807 := resN_in _
          obtain ⟨hb1, hb2⟩ := hb1
          go_wp2_with fail
          refine (refadd_any q v ⟨q1, q2⟩ ⟨v1, v2⟩ _).mono ?_; rintro e w' ⟨rfl, rfl⟩; rw [resV_def]
          go_wp2_with fail
          go_round
          case rel => exact ⟨k + 1, _, _, by omega, by go_num, rfl, rfl, hb1, hb2, hst⟩
          case measure => simp [intOf]; omega
        · have hs : s = (q, true) := by
            have hkn : k = ns.length := by have := En.out; omega
            rw [hkn, List.drop_length] at Hs; exact Hs.symm
          subst hs
          clear Hs hr2
          go_wp2_with fail
          refine (lives1_any _).mono ?_; rintro e w' ⟨rfl, rfl⟩
          go_wp2_with fail
          go_ret
          exact ⟨rfl, hk1.below⟩
      · subst Hs
        clear hr2
        by_cases hlt : k < 60
        all_goals
          go_wp2_with fail
          refine (lives1_any _).mono ?_; rintro e w' ⟨rfl, rfl⟩
          go_wp2_with fail
          go_ret
          exact ⟨rfl, hk1.below⟩
  · obtain ⟨ns, ens⟩ : ∃ ns : List Int, ns = ns0 := ⟨_, rfl⟩
    subst ens
    have hr := hr0
    have hn := hn0
    have en : len = ns.length := by simpa [ints] using hr.1.symm
    have En := Lib.hid en
    clear hr0 hn0 en
    go_enter Try.func6, Try.ntmps6
    go_wp2_with (at_builtin
                 refine wpList_append_reads rfl (.tmp 14) (.tmp 15) _ rfl w.heap.size 3 i0 _ 1 8 Try.underlying29 hi0 hz0 hz1 hz2 rfl (by omega) (.slice (some ⟨w.heap.size, 0, none⟩) 0 0) 0 [] rfl
                   (World.ownsRow_lit w #[] 0 (Nat.le_refl _) (Nat.zero_le _) rfl) A len cap (ints ns) rfl (hr.kept ((Keep.refl _ _).alloc _)) (ints_one _) (by simp only [maxLen]; omega) (by omega) (by simp) ?_
                 intro v1 w1 hown1 hg1 hx1 hat1
                 have hk1 : Keep noBlk w w1 := ((Keep.refl _ _).alloc _).grown hg1 (by simp [Value.ownBlock]))
    obtain ⟨A1, c1, rfl, hr1⟩ := own_reads hown1
    rw [show 0 + len = len from Nat.zero_add _] at hr1
    rw [show 0 + len = len from Nat.zero_add _]
    rw [List.nil_append] at hr1
    clear hown1 hg1 hat1 hx1
    go_wp2_with fail
    refine (sum_any A1 len c1 ns w1 hn (by omega) hr1).mono ?_; rintro e w' ⟨rfl, rfl⟩
    have hr2 := hr.kept hk1
    clear hr hr1
    obtain ⟨s, es⟩ : ∃ s : Int × Bool, s = sumF ns 0 := ⟨_, rfl⟩
    have Es := Lib.hid es
    rw [← es]
    clear es
    go_wp2_with fail
    go_loop [5, 6, 7] (fun x b i => ∃ (k : Nat) (q : Int) (o : Bool), k ≤ len ∧ i = .int .i64 k ∧ x = .int .i64 q ∧ b = .bool o ∧ -9223372036854775808 ≤ q ∧ q ≤ 9223372036854775807 ∧ Together (ns.drop k) q o s) (fun _ _ i => len - (intOf i).toNat)
    case atStart => exact ⟨0, 0, true, Nat.zero_le _, rfl, rfl, rfl, by omega, by omega, .inl ⟨rfl, Es.out.symm⟩⟩
    case round =>
      obtain ⟨k, q, o, hk, rfl, rfl, rfl, q1, q2, Hs⟩ := hrel
      rcases Hs with ⟨rfl, Hs⟩ | ⟨rfl, rfl, Hs⟩
      · by_cases hlt : k < len
        · have hx : k < ns.length := by have := En.out; omega
          obtain ⟨b, off, rfl, hb, hx', hc⟩ := hr2.at_ hlt
          have hc2 : w1.cell? ⟨b, off + k, none⟩ = some (.int .i64 ns[k]) := by simpa [ints] using hc
          have hv := hn ns[k] (List.getElem_mem hx)
          obtain ⟨v, ev⟩ : ∃ v : Int, v = ns[k] := ⟨_, rfl⟩
          rw [← ev] at hc2 hv
          have Hs' : Hid ((if fits (q + v) then sumF (ns.drop (k + 1)) (q + v) else (0, false)) = s) := by rw [ev]; exact (sumF_drop ns k q hx).symm.trans Hs
          obtain ⟨v1, v2⟩ := hv
          have hlt2 : k < len := hlt
          clear hc hx' ev Hs hr2
          have hst : Together (ns.drop (k + 1)) (resN (q + v)) (fits (q + v)) s := Together.step Hs'
          have hb1 : -9223372036854775808 ≤ resN (q + v) ∧ resN (q + v) ≤ 9223372036854775807 := resN_in _
          obtain ⟨hb1, hb2⟩ := hb1
          go_wp2_with fail
          refine (refadd_any q v ⟨q1, q2⟩ ⟨v1, v2⟩ _).mono ?_; rintro e w' ⟨rfl, rfl⟩; rw [resV_def]
          go_wp2_with fail
          go_round
          case rel => exact ⟨k + 1, _, _, by omega, by go_num, rfl, rfl, hb1, hb2, hst⟩
          case measure => simp [intOf]; omega
        · have hs : s = (q, true) := by
            have hkn : k = ns.length := by have := En.out; omega
            rw [hkn, List.drop_length] at Hs; exact Hs.symm
          subst hs
          clear Hs hr2
          go_wp2_with fail
          refine (lives1_any _).mono ?_; rintro e w' ⟨rfl, rfl⟩
          go_wp2_with fail
          go_ret
          exact ⟨rfl, hk1.below⟩
      · subst Hs
        clear hr2
        by_cases hlt : k < len
        all_goals
          go_wp2_with fail
          refine (lives1_any _).mono ?_; rintro e w' ⟨rfl, rfl⟩
          go_wp2_with fail
          go_ret
          exact ⟨rfl, hk1.below⟩
end Go.Proofs.Ytlkhnhahepehkaa
