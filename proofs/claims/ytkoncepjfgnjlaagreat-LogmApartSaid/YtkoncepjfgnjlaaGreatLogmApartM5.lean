/- Texts of the law LogmApart, one behind the other. -/
import Derived.Test.YtkoncepjfgnjlaaGreatLogmApartM4
import Derived.Test.YtkoncepjfgnjlaaGreatLogmApartM1
import Derived.Test.YtkoncepjfgnjlaaGreatLogmApartM2
import Derived.Test.YtkoncepjfgnjlaaGreatLogmApartM3
import Derived.ChangeKeysEq
/- Points in several trees: put (under way). -/
namespace Go.Proofs.YtkoncepjfgnjlaaGreat
attribute [local irreducible] sat
open Go.RowKit
set_option linter.unusedVariables false
set_option linter.unusedSimpArgs false
set_option maxRecDepth 100000

/-- What has been gathered of the first trees. -/
def gth (p : Pt) (ts : List (Option RTr)) : List Pt := srtO Pt.less (p :: ts.flatMap opts)
theorem gth_nil (p : Pt) : gth p [] = [p] := by simp [gth, srtO]
theorem gth_srt (p : Pt) (ts : List (Option RTr)) : SrtO Pt.less (gth p ts) := srtO_sorted sto_less _
theorem gth_snoc (p : Pt) (ts : List (Option RTr)) (o : Option RTr) (h : SrtO Pt.less (opts o)) : gth p (ts ++ [o]) = srtO Pt.less (gth p ts ++ opts o) := by
  have e : opts o = srtO Pt.less (opts o) := srtO_eq sto_less h (.refl _)
  unfold gth
  conv => rhs; rw [e]
  rw [srtO_append sto_less]
  simp
theorem gth_len (p : Pt) (ts : List (Option RTr)) : (gth p ts).length = (ts.flatMap opts).length + 1 := by unfold gth; rw [srtO_length, List.length_cons]
theorem flat_setO (u : Option RTr) : ∀ (l : List (Option RTr)) (i : Nat), (flat l : List Value).set i (.pointer (oaddr u)) = flat (l.set i u)
  | [], _ => rfl
  | x :: l, 0 => rfl
  | x :: l, i + 1 => by
    have := flat_setO u l i
    rw [List.set_cons_succ, flat_cons, flat_cons]
    show Value.pointer (oaddr x) :: (flat l).set i _ = _
    rw [this]; rfl
theorem opts_srt {L : List HP} {o : Option RTr} (h : oat L o) : SrtO Pt.less (opts o) := by
  cases o with
  | none => exact .nil
  | some x =>
    exact (h x rfl).a.srt sto_less
/-- A new tree, the list's part and all that was made for it being one part. -/
theorem RNewP_ctr (Y : HP) (A : Option Addr) (n c : Nat) (l : List Pt) (L : List HP) (hl : ∀ X, Rd (Y :: X) A n l) (hn : n ≤ 100000) (hc : n ≤ c) (h0 : newC l = 0) :
    Ctr Tryz.prog 65 #[.slice A n c] (Y :: L) fun v L' => ∃ (x : RTr) (N : List HP), v = .tuple #[.pointer (some ⟨x.t, 0, none⟩), .int .i64 0] ∧ (x.l = srtO Pt.less l ∧ TR N x.t x.T x.A x.c x.l) ∧ L' = pk N :: L := by
  have h1 := RNew_ctr A n c l [Y] (hl []) hn hc h0
  refine (Ctr.frame L h1 (fun h s => s.perm (List.perm_append_comm (l₁ := [Y]) (l₂ := L)))).post' ?_
  rintro v L' hm ⟨L1, ⟨t, T, A', c', N, rfl, rfl, hT⟩, rfl⟩ s
  exact ⟨_, ⟨⟨t, T, A', c', srtO Pt.less l⟩, N ++ [Y], rfl, ⟨rfl, hT⟩, rfl⟩, sat.join (s.perm (List.perm_append_comm (l₁ := L) (l₂ := N ++ [Y])))⟩
/-- What put leaves of the trees. -/
structure PutT (p : Pt) (ts : List (Option RTr)) (k : Nat) (x : RTr) (N : List HP) : Prop where
  le : k ≤ ts.length
  full : ∀ j o, j < k → ts[j]? = some o → 0 < (opts o).length
  end_ : k = ts.length ∨ ∃ o, ts[k]? = some o ∧ opts o = []
  l : x.l = gth p (ts.take k)
  t : TR N x.t x.T x.A x.c x.l
def putT (ts : List (Option RTr)) (k : Nat) (x : RTr) : List (Option RTr) := List.replicate k none ++ some x :: ts.drop (k + 1)
theorem putT_len {ts : List (Option RTr)} {k : Nat} {x : RTr} : (putT ts k x).length = k + 1 + (ts.length - (k + 1)) := by simp [putT]; omega
theorem gth_srtd (p : Pt) (ts : List (Option RTr)) : srtO Pt.less (gth p ts) = gth p ts := (srtO_eq sto_less (gth_srt p ts) (.refl _)).symm
theorem lgput_ctr (s b n c : Nat) (A : Option Addr) (most built : Int) (gone : Nat) (p : Pt) (ts : List (Option RTr)) (M : List (Pt × Bool)) (L : List HP) (hA : 0 < n → ∃ b, A = some ⟨b, 0, none⟩) (hlen : ts.length = n) (ht : ∀ o ∈ ts, oat L o) (hn : n ≤ 60) (hsz : (ts.flatMap opts).length ≤ 50000) (hcap : n ≤ c) (hcap2 : c ≤ maxLen) (hnw : ∀ k, newC (gth p (ts.take k)) = 0) (hbt : 0 ≤ built ∧ built ≤ 1000000000000) :
    Ctr Tryz.prog 37 #[.pointer (some ⟨s, 0, none⟩), p.v] (blk s 69 (lsC A n c b (gone : Nat) most built) :: mpH b M :: own 63 1 A n c (flat ts) :: L) fun v L' => ∃ (A' : Option Addr) (c' k : Nat) (x : RTr) (N : List HP), v = .tuple #[] ∧ PutT p ts k x N ∧ (∃ b, A' = some ⟨b, 0, none⟩) ∧ L' = blk s 69 (lsC A' (putT ts k x).length c' b (gone : Nat) most (built + x.l.length)) :: mpH b (putM p false M) :: own 63 1 A' (putT ts k x).length c' (flat (putT ts k x)) :: pk N :: L := by
  refine Ctr_of (fn := Tryz.f37) (n := 85) Tryz.func37 rfl rfl rfl ?_
  intro g F
  refine GN ?_
  refine G_region ?_
  refine GE (eff_box rfl) ?_; rintro _ _ ⟨b3, rfl, rfl⟩
  refine GO_nil ?_
  refine GN ?_
  refine G_region ?_
  refine GQ (ev_loadN rfl LnA) ?_
  refine GE (eff_buildSlice1 (by rfl) rfl rfl) ?_; rintro _ _ ⟨b7, rfl, rfl⟩
  refine GQ (ev_assign rfl) ?_
  refine GO_nil ?_
  refine GN ?_
  refine G_region ?_
  refine GQ (ev_assign rfl) ?_
  refine GO_nil ?_
  (repeat first | refine G_seq ?_ | refine G_skip ?_ | refine G_endblk ?_)
  refine G_cut (ι := Nat × HP × Option Addr × Nat) (fun y => [(0, .pointer (some ⟨s, 0, none⟩)), (3, .pointer (some ⟨b3, 0, none⟩)), (4, .slice y.2.2.1 (gth p (ts.take y.1)).length y.2.2.2), (5, .int .i64 (y.1 : Nat))]) (fun y => blk s 69 (lsC A n c b (gone : Nat) most built) :: mpH b M :: own 63 1 A n c (flat (List.replicate y.1 none ++ ts.drop y.1)) :: y.2.1 :: blk b3 28 [.int .i64 p.id, .int .i64 p.x, .int .i64 p.y] :: F :: L)
    (fun y => (y.1 ≤ n ∧ (gth p (ts.take y.1)).length ≤ y.2.2.2 ∧ y.2.2.2 ≤ maxLen ∧ (∀ X, Rd (y.2.1 :: X) y.2.2.1 (gth p (ts.take y.1)).length (gth p (ts.take y.1))) ∧ ∀ j o, j < y.1 → ts[j]? = some o → 0 < (opts o).length) ∧ (y.1 = n ∨ ∃ o, ts[y.1]? = some o ∧ opts o = [])) ?_ ?_
  · refine GN ?_
    refine G_loop (ι := Nat × HP × Option Addr × Nat) (fun y => [(0, .pointer (some ⟨s, 0, none⟩)), (3, .pointer (some ⟨b3, 0, none⟩)), (4, .slice y.2.2.1 (gth p (ts.take y.1)).length y.2.2.2), (5, .int .i64 (y.1 : Nat))]) (fun y => blk s 69 (lsC A n c b (gone : Nat) most built) :: mpH b M :: own 63 1 A n c (flat (List.replicate y.1 none ++ ts.drop y.1)) :: y.2.1 :: blk b3 28 [.int .i64 p.id, .int .i64 p.x, .int .i64 p.y] :: F :: L)
      (fun y => y.1 ≤ n ∧ (gth p (ts.take y.1)).length ≤ y.2.2.2 ∧ y.2.2.2 ≤ maxLen ∧ (∀ X, Rd (y.2.1 :: X) y.2.2.1 (gth p (ts.take y.1)).length (gth p (ts.take y.1))) ∧ ∀ j o, j < y.1 → ts[j]? = some o → 0 < (opts o).length) (fun y => n - y.1) (0, blk b7 28 [.int .i64 p.id, .int .i64 p.x, .int .i64 p.y], some ⟨b7, 0, none⟩, 1) ⟨Nat.zero_le _, by simp [gth, srtO], by show 1 ≤ maxLen; decide, fun X => by
        show Rd _ _ (gth p (ts.take 0)).length (gth p (ts.take 0))
        rw [List.take_zero, gth_nil]; exact Rc.blk rfl, fun j o h => absurd h (Nat.not_lt_zero _)⟩ ⟨rfl, rfl, by simp only [List.take_zero, gth_nil]; rfl, rfl, trivial⟩ EpA ?_
    rintro ⟨k, Y, B, d⟩ ⟨f1, f2, f3, f4, f5⟩
    simp only at f1 f2 f3 f4 f5
    dsimp only
    have hpl : (List.replicate k none ++ ts.drop k : List (Option RTr)).length = n := by simp; omega
    by_cases c1 : k < n
    · have g1 : ts[k]? = some ts[k] := List.getElem?_eq_getElem (by omega)
      have s1 : ts.take (k + 1) = ts.take k ++ [ts[k]] := List.take_succ_eq_append_getElem (by omega)
      have d1 : ts.drop k = ts[k] :: ts.drop (k + 1) := (List.getElem_cons_drop (by omega)).symm
      have o1 := ht ts[k] (List.getElem_mem _)
      have hsz2 : (opts ts[k]).length + ((ts.take k).flatMap opts).length ≤ (ts.flatMap opts).length := by
        conv => rhs; rw [← List.take_append_drop k ts, d1]
        rw [List.flatMap_append, List.length_append, List.flatMap_cons, List.length_append]; omega
      obtain ⟨ab, rfl⟩ := hA (by omega)
      have f6 : 0 < (opts ts[k]).length → ∀ j o, j < k + 1 → ts[j]? = some o → 0 < (opts o).length := fun h0 j o hj ho => by
        rcases Nat.lt_or_ge j k with h | h
        · exact f5 j o h ho
        · have : j = k := by omega
          subst this
          rw [g1] at ho; cases ho; exact h0
      generalize ts[k] = o at *
      rw [d1] at hpl ⊢
      have gk : (List.replicate k none ++ o :: ts.drop (k + 1) : List (Option RTr))[k]? = some o := by
        rw [List.getElem?_append_right (by simp)]; simp
      have z1 : ∀ X, Ld (own 63 1 (some ⟨ab, 0, none⟩) n c (flat (List.replicate k none ++ o :: ts.drop (k + 1))) :: X) ⟨ab, 0 + k * 1, none⟩ (.pointer (oaddr o)) := fun X => by
        have hr : Rd (own 63 1 (some ⟨ab, 0, none⟩) n c (flat (List.replicate k none ++ o :: ts.drop (k + 1))) :: X) (some ⟨ab, 0, none⟩) n (List.replicate k none ++ o :: ts.drop (k + 1)) := Rc.own (by rw [flat_length, hpl]; rfl) (fun _ => ⟨ab, rfl⟩)
        obtain ⟨_, _, e9, hx⟩ := hr.at_ (by omega)
        cases e9
        exact (hx _ _ gk).at_ (i := 0) rfl
      have hL := fun X hX => oLen_ctr o X hX
      refine GN ?_
      refine G_region ?_
      refine GQ (ev_move rfl) ?_
      refine GQ (ev_move rfl) ?_
      (first | refine GQ (ev_nilCheck rfl) ?_ | refine GQ (ev_nilCheckF (by simp) rfl) ?_)
      refine GQ (ev_fieldAddr rfl) ?_
      refine GQ (ev_load rfl LdA) ?_
      refine GQ (ev_len rfl) ?_
      (first | refine GQ (ev_lssN rfl rfl) ?_ | refine GQ (ev_lss rfl rfl) ?_)
      refine GQ (ev_move rfl) ?_
      refine GO_yes rfl rfl rfl (decide_eq_true (by omega)) ?_
      refine GQ (ev_move rfl) ?_
      refine GO_yes rfl rfl rfl (decide_eq_true (by omega)) ?_
      (first | refine GQ (ev_nilCheck rfl) ?_ | refine GQ (ev_nilCheckF (by simp) rfl) ?_)
      refine GO_yes rfl rfl rfl (decide_eq_true (by omega)) ?_
      refine GQ (ev_fieldAddr rfl) ?_
      refine GO_yes rfl rfl rfl (decide_eq_true (by omega)) ?_
      refine GQ (ev_load rfl LdA) ?_
      refine GO_yes rfl rfl rfl (decide_eq_true (by omega)) ?_
      refine GQ (ev_move rfl) ?_
      refine GO_yes rfl rfl rfl (decide_eq_true (by omega)) ?_
      (first | refine GQ (ev_indexAddrN rfl rfl NgA) ?_ | refine GQ (ev_indexAddr rfl rfl NgA NgA) ?_)
      refine GO_yes rfl rfl rfl (decide_eq_true (by omega)) ?_
      refine GQ (ev_load rfl (by repeat' first | exact z1 _ | apply Ld.skip)) ?_
      refine GO_yes rfl rfl rfl (decide_eq_true (by omega)) ?_
      refine GE (eff_call rfl (hL _ (by repeat' first | exact o1 | apply oat.skip))) ?_; rintro _ _ ⟨rfl, rfl⟩
      refine GO_yes rfl rfl rfl (decide_eq_true (by omega)) ?_
      refine GQ (ev_gtr rfl rfl) ?_
      refine GQ (ev_pick_t rfl (decide_eq_true (by omega)) rfl) ?_
      refine GO_nil ?_
      by_cases hp : 0 < (opts o).length
      · cases o with
        | none => exact absurd hp (Nat.lt_irrefl 0)
        | some x =>
          replace f6 := f6 hp
          have x1 : TR L x.t x.T x.A x.c x.l := o1 x rfl
          have hxl : x.l.length ≤ 50000 := by simp only [opts] at hsz2; omega
          have hgl := gth_len p (ts.take k)
          have hpts := fun X (hX : TR X x.t x.T x.A x.c x.l) => (tPoints_ctr hX (by omega)).made
          have hmg := fun X Bp cp h1 h2 h3 => (MergeO_ctr sto_less less_ls B Bp (gth p (ts.take k)).length x.l.length d cp (gth p (ts.take k)) x.l X h1 h2 (by omega) (by omega) f2 h3 (gth_srt p _) (opts_srt o1)).made
          have eg : srtO Pt.less (gth p (ts.take k) ++ x.l) = gth p (ts.take (k + 1)) := by rw [s1]; exact (gth_snoc p _ (some x) (opts_srt o1)).symm
          rw [eg] at hmg
          refine GN ?_
          refine G_cond_t rfl (decide_eq_true (by omega)) ?_
          refine GN ?_
          refine G_region ?_
          refine GQ (ev_move rfl) ?_
          refine GQ (ev_move rfl) ?_
          (first | refine GQ (ev_nilCheck rfl) ?_ | refine GQ (ev_nilCheckF (by simp) rfl) ?_)
          refine GQ (ev_fieldAddr rfl) ?_
          refine GQ (ev_load rfl LdA) ?_
          refine GQ (ev_move rfl) ?_
          (first | refine GQ (ev_indexAddrN rfl rfl NgA) ?_ | refine GQ (ev_indexAddr rfl rfl NgA NgA) ?_)
          refine GQ (ev_load rfl (by repeat' first | exact z1 _ | apply Ld.skip)) ?_
          refine GE (eff_call rfl (hpts _ (by repeat' first | exact x1 | apply TR.skip))) ?_; rintro _ _ ⟨Bp, cp, rfl, hBp, hcp, hcp2, rfl⟩
          refine GE (eff_call rfl (hmg _ Bp cp (by repeat' first | exact f4 _ | apply Rd.skip) (by repeat' first | exact Rc.own (flat_length _) hBp | apply Rd.skip) hcp)) ?_; rintro _ _ ⟨B2, d2, rfl, hB2, hd2, hd3, rfl⟩
          refine GQ (ev_assign rfl) ?_
          refine GO_nil ?_
          refine GN ?_
          refine G_region ?_
          refine GQ (ev_move rfl) ?_
          (first | refine GQ (ev_nilCheck rfl) ?_ | refine GQ (ev_nilCheckF (by simp) rfl) ?_)
          refine GQ (ev_fieldAddr rfl) ?_
          refine GQ (ev_load rfl LdA) ?_
          refine GQ (ev_move rfl) ?_
          (first | refine GQ (ev_indexAddrN rfl rfl NgA) ?_ | refine GQ (ev_indexAddr rfl rfl NgA NgA) ?_)
          refine GE (eff_storeO rfl rfl rfl PkA (by omega)) ?_; rintro _ _ ⟨rfl, rfl⟩
          refine GO_nil ?_
          refine GN ?_
          refine G_region ?_
          refine GQ (ev_move rfl) ?_
          (first | refine GQ (ev_addN (q := 1) rfl rfl NgA) ?_ | refine GQ (ev_add rfl rfl NgA) ?_)
          refine GQ (ev_assign rfl) ?_
          refine GO_nil ?_
          refine GN ?_
          have es : (flat (List.replicate k none ++ some x :: ts.drop (k + 1)) : List Value).set (0 + k * 1) (.pointer none) = flat (List.replicate (k + 1) none ++ ts.drop (k + 1)) := by
            rw [show 0 + k * 1 = k by omega]
            refine (flat_setO none _ k).trans ?_
            congr 1
            rw [List.set_append_right _ _ (by simp), List.replicate_succ']
            simp
          rw [es]
          exact G_round (k + 1, own 28 3 B2 (gth p (ts.take (k + 1))).length d2 (flat (gth p (ts.take (k + 1)))), B2, d2) ⟨by show k + 1 ≤ n; omega, hd2, hd3, fun X => Rc.own (flat_length _) hB2, f6⟩ (by show n - (k + 1) < n - k; omega) ⟨rfl, rfl, rfl, rfl, trivial⟩ EpA
      · refine GN ?_
        refine G_cond_f rfl (decide_eq_false (by omega)) ?_
        refine GN ?_
        rw [← d1]
        exact G_inv (k, Y, B, d) ⟨⟨f1, f2, f3, f4, f5⟩, .inr ⟨o, g1, List.eq_nil_of_length_eq_zero (by omega)⟩⟩ ⟨rfl, rfl, rfl, rfl, trivial⟩ EnA
    · have e : k = n := by omega
      subst e
      refine GN ?_
      refine G_region ?_
      refine GQ (ev_move rfl) ?_
      refine GQ (ev_move rfl) ?_
      (first | refine GQ (ev_nilCheck rfl) ?_ | refine GQ (ev_nilCheckF (by simp) rfl) ?_)
      refine GQ (ev_fieldAddr rfl) ?_
      refine GQ (ev_load rfl LdA) ?_
      refine GQ (ev_len rfl) ?_
      (first | refine GQ (ev_lssN rfl rfl) ?_ | refine GQ (ev_lss rfl rfl) ?_)
      refine GQ (ev_move rfl) ?_
      refine GO_no rfl rfl rfl (decide_eq_false (by omega)) ?_
      refine GO_no rfl rfl rfl (decide_eq_false (by omega)) ?_
      refine GO_no rfl rfl rfl (decide_eq_false (by omega)) ?_
      refine GO_no rfl rfl rfl (decide_eq_false (by omega)) ?_
      refine GO_no rfl rfl rfl (decide_eq_false (by omega)) ?_
      refine GO_no rfl rfl rfl (decide_eq_false (by omega)) ?_
      refine GO_no rfl rfl rfl (decide_eq_false (by omega)) ?_
      refine GO_no rfl rfl rfl (decide_eq_false (by omega)) ?_
      refine GO_no rfl rfl rfl (decide_eq_false (by omega)) ?_
      refine GQ (ev_pick_f rfl (decide_eq_false (by omega)) rfl) ?_
      refine GO_nil ?_
      refine GN ?_
      refine G_cond_f rfl rfl ?_
      refine GN ?_
      exact G_inv (k, Y, B, d) ⟨⟨f1, f2, f3, f4, f5⟩, .inl rfl⟩ ⟨rfl, rfl, rfl, rfl, trivial⟩ EnA
  · rintro ⟨k, Y, B, d⟩ ⟨⟨f1, f2, f3, f4, f5⟩, hend⟩
    simp only at f1 f2 f3 f4 f5 hend
    dsimp only
    have hgl := gth_len p (ts.take k)
    have hgs : ((ts.take k).flatMap opts).length ≤ (ts.flatMap opts).length := by
      conv => rhs; rw [← List.take_append_drop k ts]
      rw [List.flatMap_append, List.length_append]; omega
    have hnew := fun X => RNewP_ctr Y B (gth p (ts.take k)).length d (gth p (ts.take k)) X f4 (by omega) f2 (hnw k)
    rw [gth_srtd] at hnew
    have hpt : ∀ x N, x.l = gth p (ts.take k) → TR N x.t x.T x.A x.c x.l → PutT p ts k x N := fun x N h1 h2 => ⟨by omega, f5, hlen ▸ hend, h1, h2⟩
    have hxl : ∀ x : RTr, x.l = gth p (ts.take k) → x.l.length = (gth p (ts.take k)).length := fun x h => by rw [h]
    generalize gth p (ts.take k) = all at *
    by_cases c1 : k = n
    · subst c1
      have e0 : ts.drop k = [] := List.drop_eq_nil_of_le (by omega)
      have e1 : ts.drop (k + 1) = [] := List.drop_eq_nil_of_le (by omega)
      rw [e0, List.append_nil]
      refine GN ?_
      refine G_region ?_
      refine GQ (ev_move rfl) ?_
      refine GQ (ev_move rfl) ?_
      (first | refine GQ (ev_nilCheck rfl) ?_ | refine GQ (ev_nilCheckF (by simp) rfl) ?_)
      refine GQ (ev_fieldAddr rfl) ?_
      refine GQ (ev_load rfl LdA) ?_
      refine GQ (ev_len rfl) ?_
      refine GQ (ev_eql rfl rfl) ?_
      refine GO_nil ?_
      refine GN ?_
      refine G_cond_t rfl (decide_eq_true (by omega)) ?_
      refine GN ?_
      refine G_region ?_
      refine GQ (ev_move rfl) ?_
      refine GQ (ev_move rfl) ?_
      (first | refine GQ (ev_nilCheck rfl) ?_ | refine GQ (ev_nilCheckF (by simp) rfl) ?_)
      refine GQ (ev_fieldAddr rfl) ?_
      refine GQ (ev_load rfl LdA) ?_
      refine GE (eff_buildSlice1 (by rfl) rfl rfl) ?_; rintro _ _ ⟨b56, rfl, rfl⟩
      refine GE (eff_append rfl rfl PkA (by repeat' first | exact Rc.blk rfl | assumption | apply Rc.skip) (one_all rfl) (by rfl) (by decide) NgA NgA) ?_; rintro _ _ ⟨A57, c57, rfl, hc57, hm57, hn57, rfl⟩
      (first | refine GQ (ev_nilCheck rfl) ?_ | refine GQ (ev_nilCheckF (by simp) rfl) ?_)
      refine GQ (ev_fieldAddr rfl) ?_
      refine GE (eff_store rfl rfl rfl UpA) ?_; rintro _ _ ⟨rfl, rfl⟩
      refine GO_nil ?_
      obtain ⟨ab, rfl⟩ := hn57 (by omega)
      refine G_heap (L' := blk s 69 (lsC (some ⟨ab, 0, none⟩) (k + 1) c57 b (gone : Nat) most built) :: mpH b M :: own 63 1 (some ⟨ab, 0, none⟩) (k + 1) c57 (flat (List.replicate k none ++ [none] : List (Option RTr))) :: Y :: blk b3 28 [.int .i64 p.id, .int .i64 p.x, .int .i64 p.y] :: F :: L) (by rw [flat_append]; exact EpA) ?_
      refine GN ?_
      refine G_drawE 3 (.q 0 (.q 1 (.q 2 (.q 3 (.q 4 (.q 5 (.e 6 (.q 7 (.q 8 (.q 9 (.q 10 (.e 11 .nil)))))))))))) (by kernel_rfl) (by kernel_rfl) ?_
      refine RM rfl (ev_move rfl) ?_
      (first | refine RM rfl (ev_nilCheck rfl) ?_ | refine RM rfl (ev_nilCheckF (by simp) rfl) ?_)
      refine RM rfl (ev_fieldAddr rfl) ?_
      refine RQ rfl (ev_load rfl LdA) ?_
      refine RM rfl (ev_move rfl) ?_
      refine RM rfl (ev_move rfl) ?_
      refine RS_e (RE_eff rfl rfl rfl (eff_call rfl (Ctr.pick PkA (hnew _))) ?_); rintro _ _ ⟨x, N, rfl, ⟨hx, hT⟩, rfl⟩; refine ⟨_, ExA, fun _ s => s, ?_⟩
      refine RM rfl (ev_move rfl) ?_
      refine RM rfl (ev_extract rfl rfl) ?_
      refine RM rfl (ev_extract rfl rfl) ?_
      (first | refine RM rfl (ev_indexAddrN rfl rfl NgA) ?_ | refine RM rfl (ev_indexAddr rfl rfl NgA NgA) ?_)
      refine RS_e (RE_last (by kernel_rfl) rfl rfl rfl (eff_storeO rfl rfl rfl PkA (by omega)) ?_); rintro _ _ ⟨rfl, rfl⟩
      have hl9 := hxl x hx
      have hts : (flat (List.replicate k none ++ [none] : List (Option RTr)) : List Value).set (0 + k * 1) (.pointer (some ⟨x.t, 0, none⟩)) = flat (putT ts k x) := by
        rw [show 0 + k * 1 = k by omega]
        refine (flat_setO (some x) _ k).trans ?_
        congr 1
        unfold putT
        rw [e1, List.set_append_right _ _ (by simp)]; simp
      have hpl : (putT ts k x).length = k + 1 := by rw [putT_len]; omega
      rw [hts]
      refine G_heap (L' := blk s 69 (lsC (some ⟨ab, 0, none⟩) (k + 1) c57 b (gone : Nat) most built) :: mpH b M :: own 63 1 (some ⟨ab, 0, none⟩) (k + 1) c57 (flat (putT ts k x)) :: pk N :: blk b3 28 [.int .i64 p.id, .int .i64 p.x, .int .i64 p.y] :: F :: L) EpA ?_
      refine GN ?_
      refine G_draw (.q 0 (.q 1 (.q 2 (.q 3 (.q 4 (.e 5 .nil)))))) (by kernel_rfl) (by kernel_rfl) ?_
      refine RM rfl (ev_move rfl) ?_
      (first | refine RM rfl (ev_nilCheck rfl) ?_ | refine RM rfl (ev_nilCheckF (by simp) rfl) ?_)
      refine RM rfl (ev_fieldAddr rfl) ?_
      refine RQ rfl (ev_load rfl LdA) ?_
      refine RQ rfl (ev_loadN rfl LnA) ?_
      refine RS_e (RE_last (by kernel_rfl) rfl rfl rfl (eff_mapUpdate rfl rfl rfl PkA) ?_); rintro _ _ ⟨rfl, rfl⟩
      refine GN ?_
      refine G_region ?_
      refine GQ (ev_move rfl) ?_
      (first | refine GQ (ev_nilCheck rfl) ?_ | refine GQ (ev_nilCheckF (by simp) rfl) ?_)
      refine GQ (ev_fieldAddr rfl) ?_
      refine GQ (ev_load rfl LdA) ?_
      refine GQ (ev_move rfl) ?_
      refine GQ (ev_len rfl) ?_
      (first | refine GQ (ev_addN rfl rfl NgA) ?_ | refine GQ (ev_add rfl rfl NgA) ?_)
      (first | refine GQ (ev_nilCheck rfl) ?_ | refine GQ (ev_nilCheckF (by simp) rfl) ?_)
      refine GQ (ev_fieldAddr rfl) ?_
      refine GE (eff_store rfl rfl rfl UpA) ?_; rintro _ _ ⟨rfl, rfl⟩
      refine GO_nil ?_
      refine GN ?_
      exact G_end (rs := []) (vs := []) (L' := blk s 69 (lsC (some ⟨ab, 0, none⟩) (k + 1) c57 b (gone : Nat) most (built + (all.length : Nat))) :: mpH b (putM p false M) :: own 63 1 (some ⟨ab, 0, none⟩) (k + 1) c57 (flat (putT ts k x)) :: pk N :: L) rfl .nil EpA ⟨some ⟨ab, 0, none⟩, c57, k, x, N, rfl, hpt x N hx hT, ⟨ab, rfl⟩, by rw [hpl, hl9]⟩
    · obtain ⟨ab, rfl⟩ := hA (by omega)
      refine GN ?_
      refine G_region ?_
      refine GQ (ev_move rfl) ?_
      refine GQ (ev_move rfl) ?_
      (first | refine GQ (ev_nilCheck rfl) ?_ | refine GQ (ev_nilCheckF (by simp) rfl) ?_)
      refine GQ (ev_fieldAddr rfl) ?_
      refine GQ (ev_load rfl LdA) ?_
      refine GQ (ev_len rfl) ?_
      refine GQ (ev_eql rfl rfl) ?_
      refine GO_nil ?_
      refine GN ?_
      refine G_cond_f rfl (decide_eq_false (by omega)) ?_
      refine GN ?_
      refine GN ?_
      refine G_drawE 3 (.q 0 (.q 1 (.q 2 (.q 3 (.q 4 (.q 5 (.e 6 (.q 7 (.q 8 (.q 9 (.q 10 (.e 11 .nil)))))))))))) (by kernel_rfl) (by kernel_rfl) ?_
      refine RM rfl (ev_move rfl) ?_
      (first | refine RM rfl (ev_nilCheck rfl) ?_ | refine RM rfl (ev_nilCheckF (by simp) rfl) ?_)
      refine RM rfl (ev_fieldAddr rfl) ?_
      refine RQ rfl (ev_load rfl LdA) ?_
      refine RM rfl (ev_move rfl) ?_
      refine RM rfl (ev_move rfl) ?_
      refine RS_e (RE_eff rfl rfl rfl (eff_call rfl (Ctr.pick PkA (hnew _))) ?_); rintro _ _ ⟨x, N, rfl, ⟨hx, hT⟩, rfl⟩; refine ⟨_, ExA, fun _ s => s, ?_⟩
      refine RM rfl (ev_move rfl) ?_
      refine RM rfl (ev_extract rfl rfl) ?_
      refine RM rfl (ev_extract rfl rfl) ?_
      (first | refine RM rfl (ev_indexAddrN rfl rfl NgA) ?_ | refine RM rfl (ev_indexAddr rfl rfl NgA NgA) ?_)
      refine RS_e (RE_last (by kernel_rfl) rfl rfl rfl (eff_storeO rfl rfl rfl PkA (by omega)) ?_); rintro _ _ ⟨rfl, rfl⟩
      have hl9 := hxl x hx
      have hts : (flat (List.replicate k none ++ ts.drop k : List (Option RTr)) : List Value).set (0 + k * 1) (.pointer (some ⟨x.t, 0, none⟩)) = flat (putT ts k x) := by
        rw [show 0 + k * 1 = k by omega]
        refine (flat_setO (some x) _ k).trans ?_
        congr 1
        unfold putT
        rw [List.set_append_right _ _ (by simp), List.length_replicate, Nat.sub_self, ← List.getElem_cons_drop (show k < ts.length by omega), List.set_cons_zero]
      have hpl : (putT ts k x).length = n := by rw [putT_len]; omega
      rw [hts]
      refine G_heap (L' := blk s 69 (lsC (some ⟨ab, 0, none⟩) (n) c b (gone : Nat) most built) :: mpH b M :: own 63 1 (some ⟨ab, 0, none⟩) (n) c (flat (putT ts k x)) :: pk N :: blk b3 28 [.int .i64 p.id, .int .i64 p.x, .int .i64 p.y] :: F :: L) EpA ?_
      refine GN ?_
      refine G_draw (.q 0 (.q 1 (.q 2 (.q 3 (.q 4 (.e 5 .nil)))))) (by kernel_rfl) (by kernel_rfl) ?_
      refine RM rfl (ev_move rfl) ?_
      (first | refine RM rfl (ev_nilCheck rfl) ?_ | refine RM rfl (ev_nilCheckF (by simp) rfl) ?_)
      refine RM rfl (ev_fieldAddr rfl) ?_
      refine RQ rfl (ev_load rfl LdA) ?_
      refine RQ rfl (ev_loadN rfl LnA) ?_
      refine RS_e (RE_last (by kernel_rfl) rfl rfl rfl (eff_mapUpdate rfl rfl rfl PkA) ?_); rintro _ _ ⟨rfl, rfl⟩
      refine GN ?_
      refine G_region ?_
      refine GQ (ev_move rfl) ?_
      (first | refine GQ (ev_nilCheck rfl) ?_ | refine GQ (ev_nilCheckF (by simp) rfl) ?_)
      refine GQ (ev_fieldAddr rfl) ?_
      refine GQ (ev_load rfl LdA) ?_
      refine GQ (ev_move rfl) ?_
      refine GQ (ev_len rfl) ?_
      (first | refine GQ (ev_addN rfl rfl NgA) ?_ | refine GQ (ev_add rfl rfl NgA) ?_)
      (first | refine GQ (ev_nilCheck rfl) ?_ | refine GQ (ev_nilCheckF (by simp) rfl) ?_)
      refine GQ (ev_fieldAddr rfl) ?_
      refine GE (eff_store rfl rfl rfl UpA) ?_; rintro _ _ ⟨rfl, rfl⟩
      refine GO_nil ?_
      refine GN ?_
      exact G_end (rs := []) (vs := []) (L' := blk s 69 (lsC (some ⟨ab, 0, none⟩) (n) c b (gone : Nat) most (built + (all.length : Nat))) :: mpH b (putM p false M) :: own 63 1 (some ⟨ab, 0, none⟩) (n) c (flat (putT ts k x)) :: pk N :: L) rfl .nil EpA ⟨some ⟨ab, 0, none⟩, c, k, x, N, rfl, hpt x N hx hT, ⟨ab, rfl⟩, by rw [hpl, hl9]⟩
end Go.Proofs.YtkoncepjfgnjlaaGreat
/- Points in several trees: the map's entries; what is reported, told plainly. -/
namespace Go.Proofs.YtkoncepjfgnjlaaGreat
set_option linter.unusedVariables false
set_option linter.unusedSimpArgs false

def keyM (M : List (Pt × Bool)) : List Pt := M.map (·.1)
/-- Those that are dead. -/
def dds (M : List (Pt × Bool)) : List Pt := (M.filter (·.2)).map (·.1)
theorem keyM_app (M N : List (Pt × Bool)) : keyM (M ++ N) = keyM M ++ keyM N := by simp [keyM]
theorem dds_app (M N : List (Pt × Bool)) : dds (M ++ N) = dds M ++ dds N := by simp [dds]
theorem dds_cons (p : Pt) (b : Bool) (M : List (Pt × Bool)) : dds ((p, b) :: M) = (if b then [p] else []) ++ dds M := by
  cases b <;> simp [dds]
theorem getM_none {p : Pt} : ∀ {M : List (Pt × Bool)}, getM p M = none ↔ p ∉ keyM M
  | [] => by simp [getM, keyM]
  | x :: M => by
    unfold getM
    by_cases h : p = x.1
    · simp [h, keyM]
    · have := getM_none (p := p) (M := M)
      simp [h, this, keyM]
theorem putM_new {p : Pt} {v : Bool} : ∀ {M : List (Pt × Bool)}, p ∉ keyM M → putM p v M = M ++ [(p, v)]
  | [], _ => rfl
  | x :: M, h => by
    have h1 : p ≠ x.1 := fun e => h (by simp [keyM, e])
    have h2 : p ∉ keyM M := fun e => h (by simp [keyM] at e ⊢; exact .inr e)
    simp [putM, h1, putM_new h2]
theorem putM_old {p : Pt} : ∀ {M : List (Pt × Bool)}, p ∈ keyM M → ∃ A b C, M = A ++ (p, b) :: C ∧ p ∉ keyM A ∧ getM p M = some b ∧ ∀ v, putM p v M = A ++ (p, v) :: C
  | [], h => by simp [keyM] at h
  | x :: M, h => by
    by_cases h1 : p = x.1
    · exact ⟨[], x.2, M, by rw [h1]; rfl, by simp [keyM], by simp [getM, h1], fun v => by simp [putM, h1]⟩
    · have h2 : p ∈ keyM M := by
        simp only [keyM, List.map_cons, List.mem_cons] at h
        exact h.resolve_left h1
      obtain ⟨A, b, C, e, hA, hg, hp⟩ := putM_old h2
      refine ⟨x :: A, b, C, by rw [e]; rfl, fun hm => ?_, by simp [getM, h1, hg], fun v => by simp [putM, h1, hp]⟩
      simp only [keyM, List.map_cons, List.mem_cons] at hm
      exact hm.elim h1 hA
theorem mem_dds {p : Pt} {M : List (Pt × Bool)} : p ∈ dds M ↔ (p, true) ∈ M := by
  simp [dds]
theorem mem_alv {p : Pt} {M : List (Pt × Bool)} : p ∈ alv M ↔ (p, false) ∈ M := by
  simp [alv]
theorem alv_sub (M : List (Pt × Bool)) : (alv M).Sublist (keyM M) := List.filter_sublist.map _
theorem getM_iff {p : Pt} {b : Bool} : ∀ {M : List (Pt × Bool)}, (keyM M).Nodup → (getM p M = some b ↔ (p, b) ∈ M)
  | [], _ => by simp [getM]
  | x :: M, h => by
    have h0 := List.nodup_cons.1 (show (x.1 :: keyM M).Nodup from h)
    have ih := getM_iff (p := p) (b := b) h0.2
    obtain ⟨xp, xb⟩ := x
    unfold getM
    by_cases h1 : p = xp
    · subst h1
      have h2 : ∀ b, (p, b) ∉ M := fun b hm => h0.1 (List.mem_map.2 ⟨_, hm, rfl⟩)
      simp [h2, eq_comm]
    · simp [h1, ih]
theorem alv_perm {M : List (Pt × Bool)} (nd : (keyM M).Nodup) : (alv M).Perm ((keyM M).filter fun p => !decide (p ∈ dds M)) := by
  rw [List.perm_ext_iff_of_nodup ((alv_sub M).nodup nd) (nd.filter _)]
  intro p
  rw [mem_alv, List.mem_filter]
  simp only [Bool.not_eq_true', decide_eq_false_iff_not, mem_dds]
  rw [← getM_iff nd, ← getM_iff nd]
  constructor
  · intro h
    refine ⟨Classical.not_not.1 fun hn => ?_, by rw [h]; simp⟩
    rw [getM_none.2 hn] at h; cases h
  · rintro ⟨h1, h2⟩
    cases hg : getM p M with
    | none => exact absurd h1 (getM_none.1 hg)
    | some b => cases b with
      | false => rfl
      | true => exact absurd hg h2
/-- What is known of the map. -/
structure MpR (M : List (Pt × Bool)) (f d : List Pt) : Prop where
  k : (keyM M).Perm f
  d : (dds M).Perm d
theorem MpR.len {M : List (Pt × Bool)} {f d : List Pt} (h : MpR M f d) : M.length = f.length := by
  have := h.k.length_eq; simpa [keyM] using this
theorem MpR.get_false {M : List (Pt × Bool)} {f d : List Pt} (h : MpR M f d) (nd : f.Nodup) {p : Pt} : getM p M = some false ↔ p ∈ f ∧ p ∉ d := by
  have nk := h.k.nodup_iff.2 nd
  rw [← h.k.mem_iff, ← h.d.mem_iff]
  rw [getM_iff nk, ← mem_alv, (alv_perm nk).mem_iff, List.mem_filter]
  simp
theorem MpR.get_true {M : List (Pt × Bool)} {f d : List Pt} (h : MpR M f d) (nd : f.Nodup) {p : Pt} : getM p M = some true ↔ p ∈ d := by
  have nk := h.k.nodup_iff.2 nd
  rw [← h.d.mem_iff, getM_iff nk, mem_dds]
theorem MpR.get_some {M : List (Pt × Bool)} {f d : List Pt} (h : MpR M f d) {p : Pt} : (getM p M).isSome = true ↔ p ∈ f := by
  rw [← h.k.mem_iff]
  cases hg : getM p M with
  | none => simp [getM_none.1 hg]
  | some b =>
    simp only [Option.isSome_some, true_iff]
    exact Classical.not_not.1 fun hn => by rw [getM_none.2 hn] at hg; cases hg
theorem MpR.new {M : List (Pt × Bool)} {f d : List Pt} (h : MpR M f d) {p : Pt} (hp : p ∉ f) {g : List Pt} (hg : g.Perm (p :: f)) : MpR (putM p false M) g d := by
  have hk : p ∉ keyM M := fun hm => hp (h.k.mem_iff.1 hm)
  rw [putM_new hk]
  refine ⟨?_, ?_⟩
  · rw [keyM_app]
    exact (List.perm_append_singleton p (keyM M)).trans ((h.k.cons p).trans hg.symm)
  · rw [dds_app]; simpa [dds] using h.d
theorem MpR.mark {M : List (Pt × Bool)} {f d : List Pt} (h : MpR M f d) {p : Pt} (hp : getM p M = some false) : MpR (putM p true M) f (d ++ [p]) := by
  have hk : p ∈ keyM M := Classical.not_not.1 fun hn => by rw [getM_none.2 hn] at hp; cases hp
  obtain ⟨A, b, C, e, hA, hg, hput⟩ := putM_old hk
  rw [hp] at hg
  have hb : b = false := (Option.some.inj hg).symm
  subst hb
  rw [hput]
  have h1 := h.k
  have h2 := h.d
  rw [e] at h1 h2
  refine ⟨?_, ?_⟩
  · rw [keyM_app] at h1 ⊢
    exact h1
  · rw [dds_app, dds_cons] at h2 ⊢
    simp only [Bool.false_eq_true, if_false, if_true, List.nil_append, List.singleton_append] at h2 ⊢
    exact List.perm_middle.trans ((h2.cons p).trans (List.perm_append_singleton p d).symm)
theorem MpR.back {M : List (Pt × Bool)} {f d : List Pt} (h : MpR M f d) {p : Pt} (hp : getM p M = some true) : MpR (putM p false M) f (d.erase p) := by
  have hk : p ∈ keyM M := Classical.not_not.1 fun hn => by rw [getM_none.2 hn] at hp; cases hp
  obtain ⟨A, b, C, e, hA, hg, hput⟩ := putM_old hk
  rw [hp] at hg
  have hb : b = true := (Option.some.inj hg).symm
  subst hb
  rw [hput]
  have h1 := h.k
  have h2 := h.d
  rw [e] at h1 h2
  refine ⟨?_, ?_⟩
  · rw [keyM_app] at h1 ⊢
    exact h1
  · rw [dds_app, dds_cons] at h2 ⊢
    simp only [Bool.false_eq_true, if_false, if_true, List.nil_append, List.singleton_append] at h2 ⊢
    have h3 := h2.erase p
    have h4 : (dds A ++ p :: dds C).Perm (p :: (dds A ++ dds C)) := List.perm_middle
    have h5 := h4.erase p
    rw [List.erase_cons_head] at h5
    exact h5.symm.trans h3
theorem MpR.alv {M : List (Pt × Bool)} {f d : List Pt} (h : MpR M f d) (nd : f.Nodup) : (alv M).Perm (f.filter fun p => !decide (p ∈ d)) := by
  have nk := h.k.nodup_iff.2 nd
  refine (alv_perm nk).trans ?_
  have e : (fun p => !decide (p ∈ dds M)) = fun p => !decide (p ∈ d) := by
    funext p
    have := h.d.mem_iff (a := p)
    simp [this]
  rw [e]
  exact h.k.filter _
theorem ded_dds (w : Bx) (M : List (Pt × Bool)) : ded w M = ((dds M).filter (inB w)).map (·.id) := by
  unfold ded dds
  rw [List.filter_map, List.map_map, List.filter_filter]
  congr 1
  apply List.filter_congr
  intro x _
  simp [inB, Bool.and_comm]
/-! What is told without some. -/
theorem lessI_perm (m : List Int) : ∀ {l k : List Int}, l.Perm k → (lessI l m).Perm (lessI k m) := by
  induction m with
  | nil => exact fun h => h
  | cons a m ih => exact fun h => ih (h.erase a)
theorem lessI_app (m x : List Int) : lessI (m ++ x) m = x := by
  induction m with
  | nil => rfl
  | cons a m ih =>
    show lessI ((a :: (m ++ x)).erase a) m = x
    rw [List.erase_cons_head]; exact ih
theorem lessI_srt {a d x : List Int} (h : a.Perm (d ++ x)) : lessI (srt a) (srt d) = srt x := by
  have h1 : (lessI (srt a) (srt d)).Perm x := by
    have := lessI_perm (srt d) ((srt_perm a).trans (h.trans ((srt_perm d).symm.append_right x)))
    rwa [lessI_app] at this
  have h2 := lessI_sorted (srt d) (srt_sorted a)
  exact eq_of_sorted _ _ (h1.trans (srt_perm x).symm) h2 (srt_sorted x)
theorem chnOneL {T : RT} {l : List Pt} (o : T.of l) (a : AscO Pt.less l) : ∃ m, Chn m [T] := by
  cases l with
  | nil => exact ⟨0, [], 0, o, a, Int.le_refl _, by simp, trivial⟩
  | cons p q =>
    obtain ⟨z, hz⟩ : ∃ z, (p :: q)[(p :: q).length - 1]? = some z := ⟨_, List.getElem?_eq_getElem (by simp)⟩
    refine ⟨p.x, p :: q, z.x, o, a, asc_x a (Nat.zero_le _) rfl hz, fun r hr => ?_, trivial⟩
    obtain ⟨i, hi, rfl⟩ := List.mem_iff_getElem.1 hr
    exact ⟨asc_x a (Nat.zero_le i) rfl (List.getElem?_eq_getElem hi), asc_x a (by omega) (List.getElem?_eq_getElem hi) hz⟩
theorem begR_lkL {b : Bx} {T : RT} {l : List Pt} (o : T.of l) (a : AscO Pt.less l) : (begR b T).lk b ≤ 4 * T.lv + 1 := by
  unfold begR
  split
  · obtain ⟨m, h⟩ := chnOneL o a
    have := h.lk b T.lv (by simp)
    simp [lkR] at this; omega
  · simp only [RT.lk]; omega
theorem begR_permL {b : Bx} {T : RT} {l : List Pt} (o : T.of l) (a : AscO Pt.less l) : ((begR b T).fnd b).Perm ((l.filter (inB b)).map (·.id)) :=
  (srt_perm _).symm.trans ((List.Perm.of_eq (begR_fnd o a)).trans (srt_perm _))
theorem begs_lk (b : Bx) {N : List HP} : ∀ (xs : List RTr), (∀ x ∈ xs, x.at_ N) → (∀ x ∈ xs, x.l.length ≤ 512) → lkR b (begs b xs) ≤ 41 * xs.length
  | [], _, _ => Nat.le_refl _
  | x :: xs, h, h2 => by
    have ih := begs_lk b xs (fun y hy => h y (List.mem_cons_of_mem _ hy)) (fun y hy => h2 y (List.mem_cons_of_mem _ hy))
    have hx : TR N x.t x.T x.A x.c x.l := h x List.mem_cons_self
    have h3 := begR_lkL (b := b) hx.o hx.a
    have h4 := hx.o.lv 9 (h2 x List.mem_cons_self)
    show (begR b x.T).lk b + lkR b (begs b xs) ≤ 41 * (xs.length + 1)
    omega
theorem begs_perm (b : Bx) {N : List HP} : ∀ (xs : List RTr), (∀ x ∈ xs, x.at_ N) → (fndR b (begs b xs)).Perm (((xs.flatMap (·.l)).filter (inB b)).map (·.id))
  | [], _ => .refl _
  | x :: xs, h => by
    have ih := begs_perm b xs (fun y hy => h y (List.mem_cons_of_mem _ hy))
    have hx : TR N x.t x.T x.A x.c x.l := h x List.mem_cons_self
    have h3 := begR_permL (b := b) hx.o hx.a
    rw [List.flatMap_cons, List.filter_append, List.map_append]
    exact h3.append ih
theorem liv_cons (o : Option RTr) (ts : List (Option RTr)) : liv (o :: ts) = (match o with | none => [] | some x => if 0 < x.l.length then [x] else []) ++ liv ts := by
  unfold liv
  cases o with
  | none => rfl
  | some x =>
    simp only [List.filterMap_cons, id, List.filter_cons, decide_eq_true_eq]
    split <;> simp
theorem liv_flat (ts : List (Option RTr)) : (liv ts).flatMap (·.l) = ts.flatMap opts := by
  induction ts with
  | nil => rfl
  | cons o ts ih =>
    rw [liv_cons, List.flatMap_append, List.flatMap_cons, ih]
    congr 1
    cases o with
    | none => rfl
    | some x =>
      simp only [opts]
      split
      · simp
      · rename_i h
        have : x.l = [] := List.eq_nil_of_length_eq_zero (by omega)
        simp [this]
theorem liv_len (ts : List (Option RTr)) : (liv ts).length ≤ ts.length := by
  unfold liv
  have h1 := List.length_filter_le (fun x : RTr => decide (0 < x.l.length)) (ts.filterMap id)
  have h2 := List.length_filterMap_le id ts
  omega
theorem liv_mem {ts : List (Option RTr)} {x : RTr} (h : x ∈ liv ts) : some x ∈ ts := by
  have := (List.mem_filter.1 h).1
  obtain ⟨o, ho, e⟩ := List.mem_filterMap.1 this
  exact (show o = some x from e) ▸ ho
theorem cntB_len (w : Bx) : ∀ (xs : List RTr), cntB w xs = (((xs.flatMap (·.l)).filter (inB w)).map (·.id)).length
  | [] => rfl
  | x :: xs => by
    have ih := cntB_len w xs
    rw [List.flatMap_cons, List.filter_append, List.map_append, List.length_append, ← ih]
    show (idsB w x.l).length + cntB w xs = _
    rw [idsB, (srt_perm _).length_eq]
end Go.Proofs.YtkoncepjfgnjlaaGreat
/- Points in several trees: a whole set, in the heap. -/
namespace Go.Proofs.YtkoncepjfgnjlaaGreat
open Go.RowKit
set_option linter.unusedVariables false
set_option linter.unusedSimpArgs false
set_option maxRecDepth 100000

/-- The trees hold just these lists, in order. -/
def Cor (ts : List (Option RTr)) (ls : List (List Pt)) : Prop := ts.map opts = ls.map (srtO Pt.less)
theorem Cor.len {ts : List (Option RTr)} {ls : List (List Pt)} (h : Cor ts ls) : ts.length = ls.length := by
  have := congrArg List.length h; simpa using this
theorem Cor.flat : ∀ {ts : List (Option RTr)} {ls : List (List Pt)}, Cor ts ls → (ts.flatMap opts).Perm ls.flatten
  | [], [], _ => .refl _
  | [], _ :: _, h => by cases h.len
  | _ :: _, [], h => by cases h.len
  | o :: ts, l :: ls, h => by
    have h1 : opts o = srtO Pt.less l := (List.cons.inj h).1
    have h2 : Cor ts ls := (List.cons.inj h).2
    rw [List.flatMap_cons, List.flatten_cons, h1]
    exact (srtO_perm l).append h2.flat
theorem Cor.take {ts : List (Option RTr)} {ls : List (List Pt)} (h : Cor ts ls) (k : Nat) : Cor (ts.take k) (ls.take k) := by
  unfold Cor at *
  rw [List.map_take, List.map_take, h]
theorem Cor.at_ {ts : List (Option RTr)} {ls : List (List Pt)} (h : Cor ts ls) {k : Nat} {o : Option RTr} (e : ts[k]? = some o) : ∃ l, ls[k]? = some l ∧ opts o = srtO Pt.less l := by
  have h1 : (ts.map opts)[k]? = some (opts o) := by simp [e]
  rw [show ts.map opts = ls.map (srtO Pt.less) from h, List.getElem?_map] at h1
  cases hl : ls[k]? with
  | none => rw [hl] at h1; cases h1
  | some l => rw [hl] at h1; exact ⟨l, rfl, by simpa using h1.symm⟩
theorem srtO_emp : srtO Pt.less [] = [] := by simp [srtO]
theorem Cor.put {p : Pt} {ts : List (Option RTr)} {ls : List (List Pt)} {k : Nat} {x : RTr} {N : List HP} (h : Cor ts ls) (hp : PutT p ts k x N) : Cor (putT ts k x) (putR [p] ls) ∧ putN [p] ls = x.l.length := by
  have hlen := h.len
  obtain ⟨e1, e2⟩ := putR_at k ls [p] (fun j hj => by
    have hj' : j < ts.length := Nat.lt_of_lt_of_le hj hp.le
    have g : ts[j]? = some ts[j] := List.getElem?_eq_getElem hj'
    obtain ⟨l, hl, e⟩ := h.at_ g
    have := hp.full j _ hj g
    rw [e, srtO_length] at this
    exact ⟨l, hl, this⟩) (by
    rcases hp.end_ with e | ⟨o, e, e0⟩
    · left; omega
    · right
      obtain ⟨l, hl, e⟩ := h.at_ e
      have h9 := congrArg List.length e
      rw [e0, srtO_length] at h9
      exact ⟨l, hl, h9.symm⟩)
  have hf : ([p] ++ (ls.take k).flatten).Perm (p :: (ts.take k).flatMap opts) := ((h.take k).flat.symm.cons p)
  have hx : x.l = srtO Pt.less ([p] ++ (ls.take k).flatten) := by
    rw [hp.l, gth]
    exact srtO_eq sto_less (srtO_sorted sto_less _) ((srtO_perm _).trans hf.symm)
  constructor
  · unfold Cor
    rw [e1, putT]
    simp only [List.map_append, List.map_replicate, List.map_cons, List.map_drop]
    rw [show ts.map opts = ls.map (srtO Pt.less) from h, srtO_emp]
    show List.replicate k [] ++ x.l :: _ = _
    rw [hx]
  · rw [e2, hx, srtO_length]

/-- All that a set keeps. -/
structure LgX where
  A : Option Addr
  c : Nat
  b : Nat
  ts : List (Option RTr)
  M : List (Pt × Bool)
  N : List HP
structure LgI (x : LgX) (S : LgS) : Prop where
  cor : Cor x.ts S.ls
  at_ : ∀ o ∈ x.ts, oat x.N o
  mp : MpR x.M S.ls.flatten S.d
  A : 0 < x.ts.length → ∃ b, x.A = some ⟨b, 0, none⟩
def lgL (s : Nat) (most : Int) (x : LgX) (S : LgS) : List HP := [blk s 69 (lsC x.A x.ts.length x.c x.b (S.d.length : Nat) most (S.bu : Nat)), mpH x.b x.M, own 63 1 x.A x.ts.length x.c (flat x.ts), pk x.N]
def lgF (s : Nat) (most : Int) (S : LgS) : HP := fun h => ∃ x : LgX, LgI x S ∧ sat (lgL s most x S) h
structure LgJ (x : LgX) (S : LgS) : Prop extends LgI x S where
  c1 : x.ts.length ≤ x.c
  c2 : x.c ≤ maxLen
theorem lgF_open {s : Nat} {most : Int} {S : LgS} {h : Hm} (q : lgF s most S h) : ∃ x : LgX, LgJ x S ∧ sat (lgL s most x S) h := by
  obtain ⟨x, g, q⟩ := q
  have q0 := own.facts (L := [pk x.N]) (sat.tail (sat.tail q))
  exact ⟨x, ⟨g, q0.2.1, q0.2.2.1⟩, q⟩
theorem Ctr.lg {P : Program} {f : FuncId} {args : Array Value} {L : List HP} {s : Nat} {most : Int} {S : LgS} {post : Value → List HP → Prop} (C : ∀ x, LgJ x S → Ctr P f args (blk s 69 (lsC x.A x.ts.length x.c x.b (S.d.length : Nat) most (S.bu : Nat)) :: mpH x.b x.M :: own 63 1 x.A x.ts.length x.c (flat x.ts) :: pk x.N :: L) post) : Ctr P f args (lgF s most S :: L) post :=
  Ctr.open (ι := LgX) (Fa := fun x => LgJ x S) (N := fun x => lgL s most x S) (fun _ h => lgF_open h) fun x hx => C x hx
theorem G_lg {P : Program} {B : Exit → Act → World → Prop} {gl : Glob} {n : Nat} {K : List Kt} {σ : Env} {L : List HP} {s : Nat} {most : Int} {S : LgS} (h : ∀ x, LgJ x S → G P B gl n K σ (blk s 69 (lsC x.A x.ts.length x.c x.b (S.d.length : Nat) most (S.bu : Nat)) :: mpH x.b x.M :: own 63 1 x.A x.ts.length x.c (flat x.ts) :: pk x.N :: L)) : G P B gl n K σ (lgF s most S :: L) :=
  G_open (ι := LgX) (F := fun x => LgJ x S) (N := fun x => lgL s most x S) (fun _ h => lgF_open h) fun x hx => h x hx
theorem en_lg {L M : List HP} {s : Nat} {most : Int} {S : LgS} {n : Nat} {gone built : Int} {ts : List Value} (x : LgX) (hn : x.ts.length = n) (hg : (S.d.length : Nat) = gone) (hb : (S.bu : Nat) = built) (hts : flat x.ts = ts) (g : LgI x S) (f : ∀ h, sat L h → sat (blk s 69 (lsC x.A n x.c x.b gone most built) :: mpH x.b x.M :: own 63 1 x.A n x.c ts :: pk x.N :: M) h) : ∀ h, sat L h → sat (lgF s most S :: M) h := fun h t => by
  subst hn hg hb hts
  exact sat.fold (N := lgL s most x S) (fun h q => ⟨x, g, q⟩) (f h t)
theorem oat.mono {L M : List HP} (f : ∀ h, sat M h → sat L h) {o : Option RTr} (h : oat L o) : oat M o := fun x hx => TR.mono f (h x hx)
theorem oat.pk {N : List HP} {L : List HP} {o : Option RTr} (h : oat N o) : oat (pk N :: L) o := h.mono fun _ s => by
  obtain ⟨h1, h2, d, s1, s2, a, l⟩ := s
  exact sat.up a s1
theorem LgI.ats {x : LgX} {S : LgS} (h : LgI x S) {L : List HP} : ∀ o ∈ x.ts, oat (pk x.N :: L) o := fun o ho => (h.at_ o ho).pk
theorem LgI.oLen {x : LgX} {S : LgS} (h : LgI x S) {m : Nat} (hm : S.ls.flatten.length ≤ m) : ∀ o ∈ x.ts, (opts o).length ≤ m := fun o ho => by
  have h1 := h.cor.flat.length_eq
  have h2 : (opts o).Sublist (x.ts.flatMap opts) := List.sublist_flatten_of_mem (List.mem_map.2 ⟨o, ho, rfl⟩) |> fun h => by rwa [List.flatMap_def]
  have := h2.length_le
  omega
theorem LgI.liv {x : LgX} {S : LgS} (h : LgI x S) {L : List HP} : ∀ r ∈ liv x.ts, r.at_ (pk x.N :: L) := liv_at h.ats
theorem LgI.fnd {x : LgX} {S : LgS} (h : LgI x S) (nd : S.ls.flatten.Nodup) (w : Bx) : (fndR w (begs w (Proofs.YtkoncepjfgnjlaaGreat.liv x.ts))).Perm (ded w x.M ++ ((S.live).filter (inB w)).map (·.id)) := by
  have h1 := begs_perm w (N := pk x.N :: []) (Proofs.YtkoncepjfgnjlaaGreat.liv x.ts) h.liv
  rw [liv_flat] at h1
  refine h1.trans ?_
  rw [ded_dds, ← List.map_append, ← List.filter_append]
  refine List.Perm.map _ (List.Perm.filter _ ?_)
  refine h.cor.flat.trans ?_
  have h2 : S.live.Perm (S.ls.flatten.filter fun p => !decide (p ∈ S.d)) := srtO_perm _
  have h3 := (alv_perm (h.mp.k.nodup_iff.2 nd)).symm
  have h4 : (dds x.M ++ alv x.M).Perm (keyM x.M) := by
    unfold dds alv keyM
    rw [← List.map_append]
    exact List.Perm.map _ (List.filter_append_perm (fun y : Pt × Bool => y.2) x.M)
  exact h.mp.k.symm.trans (h4.symm.trans ((h.mp.alv nd).trans h2.symm |>.append_left _))
theorem LgI.lk {x : LgX} {S : LgS} (h : LgI x S) {m : Nat} (hm : S.ls.flatten.length ≤ 512) (hl : S.ls.length ≤ 100) (w : Bx) : lkR w (begs w (Proofs.YtkoncepjfgnjlaaGreat.liv x.ts)) ≤ 4100 := by
  have h1 := begs_lk w (N := pk x.N :: []) (Proofs.YtkoncepjfgnjlaaGreat.liv x.ts) h.liv (fun r hr => h.oLen hm _ (liv_mem hr))
  have h2 := liv_len x.ts
  have h3 := h.cor.len
  omega
theorem LgI.report {x : LgX} {S : LgS} (h : LgI x S) (nd : S.ls.flatten.Nodup) (w : Bx) : lessI (srt (kp true (fndR w (begs w (Proofs.YtkoncepjfgnjlaaGreat.liv x.ts))))) (srt (ded w x.M)) = idsB w S.live := lessI_srt (h.fnd nd w)
theorem LgI.count {x : LgX} {S : LgS} (h : LgI x S) (nd : S.ls.flatten.Nodup) (w : Bx) : ((cntB w (Proofs.YtkoncepjfgnjlaaGreat.liv x.ts) : Nat) : Int) - ((srt (ded w x.M)).length : Nat) = ((idsB w S.live).length : Nat) := by
  have h1 := (h.fnd nd w).length_eq
  have h2 := (begs_perm w (N := pk x.N :: []) (Proofs.YtkoncepjfgnjlaaGreat.liv x.ts) h.liv).length_eq
  rw [← cntB_len] at h2
  rw [List.length_append] at h1
  rw [(srt_perm _).length_eq, idsB, (srt_perm _).length_eq]
  omega
theorem LgI.dead {x : LgX} {S : LgS} (h : LgI x S) (w : Bx) : srt (ded w x.M) = idsB w S.d := by
  rw [ded_dds]
  exact srt_congr ((h.mp.d.filter _).map _)
end Go.Proofs.YtkoncepjfgnjlaaGreat
/- Points in several trees: the reference as a whole; its Insert, Delete and Sizes. -/
namespace Go.Proofs.YtkoncepjfgnjlaaGreat
attribute [local irreducible] sat
open Go.RowKit
set_option linter.unusedVariables false
set_option linter.unusedSectionVars false
set_option linter.unusedSimpArgs false
set_option maxRecDepth 100000

structure RfX where
  A : Option Addr
  c : Nat
  qs : List QS
  D : Option Addr
  e : Nat
  N : List HP
structure RfI (x : RfX) (S : LgS) : Prop where
  qs : x.qs.map (·.l) = S.ls
  at_ : ∀ q ∈ x.qs, q.at_ x.N
  dd : Rd x.N x.D S.d.length S.d
  c1 : S.d.length ≤ x.e
  c2 : x.e ≤ maxLen
  A : 0 < x.qs.length → ∃ b, x.A = some ⟨b, 0, none⟩
theorem RfI.len {x : RfX} {S : LgS} (h : RfI x S) : x.qs.length = S.ls.length := by rw [← h.qs, List.length_map]
def rfL (r : Nat) (most : Int) (x : RfX) (S : LgS) : List HP := [blk r 40 (rfC x.A x.qs.length x.c x.D S.d.length x.e most (S.bu : Nat)), own 38 1 x.A x.qs.length x.c (flat x.qs), pk x.N]
def rfF (r : Nat) (most : Int) (S : LgS) : HP := fun h => ∃ x : RfX, RfI x S ∧ sat (rfL r most x S) h
theorem Ctr.rf {P : Program} {f : FuncId} {args : Array Value} {L : List HP} {r : Nat} {most : Int} {S : LgS} {post : Value → List HP → Prop} (C : ∀ x, RfI x S → Ctr P f args (blk r 40 (rfC x.A x.qs.length x.c x.D S.d.length x.e most (S.bu : Nat)) :: own 38 1 x.A x.qs.length x.c (flat x.qs) :: pk x.N :: L) post) : Ctr P f args (rfF r most S :: L) post :=
  Ctr.open (ι := RfX) (Fa := fun x => RfI x S) (N := fun x => rfL r most x S) (fun _ h => h) fun x hx => C x hx
theorem G_rf {P : Program} {B : Exit → Act → World → Prop} {gl : Glob} {n : Nat} {K : List Kt} {σ : Env} {L : List HP} {r : Nat} {most : Int} {S : LgS} (h : ∀ x, RfI x S → G P B gl n K σ (blk r 40 (rfC x.A x.qs.length x.c x.D S.d.length x.e most (S.bu : Nat)) :: own 38 1 x.A x.qs.length x.c (flat x.qs) :: pk x.N :: L)) : G P B gl n K σ (rfF r most S :: L) :=
  G_open (ι := RfX) (F := fun x => RfI x S) (N := fun x => rfL r most x S) (fun _ h => h) fun x hx => h x hx
theorem en_rf {L M : List HP} {r : Nat} {most : Int} {S : LgS} {n m : Nat} {bu : Int} {qs : List Value} (x : RfX) (hn : x.qs.length = n) (hm : S.d.length = m) (hb : (S.bu : Nat) = bu) (hqs : flat x.qs = qs) (g : RfI x S) (f : ∀ h, sat L h → sat (blk r 40 (rfC x.A n x.c x.D m x.e most bu) :: own 38 1 x.A n x.c qs :: pk x.N :: M) h) : ∀ h, sat L h → sat (rfF r most S :: M) h := fun h t => by
  subst hn hm hb hqs
  exact sat.fold (N := rfL r most x S) (fun h q => ⟨x, g, q⟩) (f h t)
theorem QS.at_.mono {L M : List HP} (f : ∀ h, sat M h → sat L h) {q : QS} (h : q.at_ L) : q.at_ M := Rd.mono f h
theorem sat_l {N M : List HP} {h : Hm} (s : sat (N ++ M) h) : sat N h := by
  obtain ⟨h1, h2, d, s1, s2, n, l⟩ := s.split
  exact n.up s1
theorem QS.at_.pk {N L : List HP} {q : QS} (h : q.at_ N) : q.at_ (pk N :: L) := h.mono fun _ s => sat_l (sat.part s)
theorem Rd.pk {α : Type} [Enc α] {N L : List HP} {A : Option Addr} {n : Nat} {l : List α} (h : Rd N A n l) : Rd (pk N :: L) A n l := Rd.mono (fun _ s => sat_l (sat.part s)) h
theorem lv_le9 {n m : Nat} (h : n = 0 ∨ 2 ^ (n - 1) ≤ m) (hm : m ≤ 600) : n ≤ 10 := by
  rcases h with h | h
  · omega
  · rcases Nat.lt_or_ge n 11 with h1 | h1
    · omega
    · have : 2 ^ 10 ≤ 2 ^ (n - 1) := Nat.pow_le_pow_right (by decide) (by omega)
      omega
section
variable {x : RfX} {S : LgS} {r : Nat} {most : Int} {L : List HP} (hx : RfI x S) (h : LdN L r 0 4 (rfC x.A x.qs.length x.c x.D S.d.length x.e most (S.bu : Nat))) (hq : Rd L x.A x.qs.length x.qs) (hin : ∀ q ∈ x.qs, q.at_ L) (hd : Rd L x.D S.d.length S.d)
include hx h hq hin hd
theorem KLive_ctr (nd : S.ls.flatten.Nodup) (hl : S.ls.length ≤ 1000) (ht : S.ls.flatten.length ≤ 1000) (hdl : S.d.length ≤ 1000) : Ctr Tryz.prog 20 #[.pointer (some ⟨r, 0, none⟩)] L fun v L' => ∃ b c', v = .slice (some ⟨b, 0, none⟩) S.live.length c' ∧ S.live.length ≤ c' ∧ c' ≤ maxLen ∧ L' = own 28 3 (some ⟨b, 0, none⟩) S.live.length c' (flat S.live) :: L := by
  have h1 := hx.len
  have := rLive_ctr r x.A x.qs.length x.c x.qs x.D S.d.length x.e S.d most S.bu L h hq hin hd (by omega) hdl (by rw [hx.qs]; exact ht)
  rwa [hx.qs, show sortX (S.ls.flatten.filter fun p => !decide (p ∈ S.d)) = S.live from sortX_eq (nd.filter _)] at this
end
theorem en_2 {N M L : List HP} {h : Hm} (s : sat (pk N :: pk M :: L) h) : sat (pk (N ++ M) :: L) h := by
  have h1 : sat (N ++ (pk M :: L)) h := sat.part s
  have h2 : sat (pk M :: (N ++ L)) h := h1.perm List.perm_middle
  have h3 : sat (M ++ (N ++ L)) h := sat.part h2
  have h4 : sat ((N ++ M) ++ L) h := h3.perm (by
    rw [← List.append_assoc]
    exact (List.perm_append_comm).append_right L)
  exact sat.join h4
/-- One part more. -/
theorem en_pk1 {X : HP} {N L M : List HP} (f : ∀ h, sat L h → sat (X :: pk N :: M) h) : ∀ h, sat L h → sat (pk (X :: N) :: M) h := fun h s => by
  have h1 : sat (pk [X] :: pk N :: M) h := sat.join (N := [X]) (f h s)
  exact en_2 h1
theorem rPut_ctr (r : Nat) (most : Int) (S : LgS) (p : Pt) (L : List HP) (hl : S.ls.length ≤ 50) (ht : S.ls.flatten.length ≤ 1000) (hb : S.bu ≤ 1000000000) :
    Ctr Tryz.prog 72 #[.pointer (some ⟨r, 0, none⟩), p.v] (rfF r most S :: L) fun v L' => v = .tuple #[] ∧ L' = rfF r most (S.put p) :: L := by
  refine Ctr.rf fun x hx => ?_
  have h1 := hx.len
  refine (rput_ctr r x.A x.qs.length x.c x.qs x.D S.d.length x.e most S.bu p (pk x.N :: L) hx.A rfl (fun q hq => (hx.at_ q hq).pk) (by omega) (by rw [hx.qs]; exact ht) hb).post' ?_
  rintro v L' hm ⟨A', c', k, es, q, N, rfl, hp, hA', rfl⟩ hs
  obtain ⟨e1, e2⟩ := hp.cor
  rw [hx.qs] at e1 e2
  refine ⟨_, ⟨rfl, rfl⟩, ?_⟩
  have hI : RfI ⟨A', c', putQ es x.qs k q, x.D, x.e, N ++ x.N⟩ (S.put p) := ⟨e1, fun u hu => ?_, Rd.mono (fun _ s => sat_l (s.perm List.perm_append_comm)) hx.dd, hx.c1, hx.c2, fun _ => hA'⟩
  · refine en_rf ⟨A', c', putQ es x.qs k q, x.D, x.e, N ++ x.N⟩ rfl rfl (bu := ((S.bu + q.l.length : Nat) : Int)) ?_ rfl hI (fun h s => ?_) hm hs
    · show ((S.bu + putN [p] S.ls : Nat) : Int) = _
      rw [e2]
    · exact sat.cons_mono (fun _ s => sat.cons_mono (fun _ s => en_2 s) s) s
  · rcases List.mem_append.1 (show u ∈ es ++ q :: x.qs.drop (k + 1) from hu) with h | h
    · have := hp.e0 u h
      show Rd _ _ u.l.length u.l
      rw [this]
      exact Rd.nil _ _
    · rcases List.mem_cons.1 h with rfl | h
      · exact hp.t.mono fun _ s => sat_l s
      · exact (hx.at_ u (List.mem_of_mem_drop h)).mono (fun _ s => sat_l (s.perm List.perm_append_comm))
theorem rInsert_ctr (r : Nat) (most : Int) (S : LgS) (p : Pt) (m : Nat) (L : List HP) (ok : LgOk S m) (hm : m ≤ 300) :
    Ctr Tryz.prog 44 #[.pointer (some ⟨r, 0, none⟩), p.v] (rfF r most S :: L) fun v L' => v = .int .i64 (insC most S.live p) ∧ L' = rfF r most (S.ins most p) :: L := by
  refine Ctr.rf fun x hx => ?_
  have hll := ok.live_len
  have htot := ok.tot
  have hbt := ok.bt
  have hl10 : S.ls.length ≤ 10 := lv_le9 ok.lv (by omega)
  have hlen := hx.len
  have hql : ∀ X, Rd (own 38 1 x.A x.qs.length x.c (flat x.qs) :: X) x.A x.qs.length x.qs := fun X => Rc.own (flat_length _) hx.A
  have hin : ∀ X, ∀ q ∈ x.qs, q.at_ (pk x.N :: X) := fun X q hq => (hx.at_ q hq).pk
  have hdd : ∀ X, Rd (pk x.N :: X) x.D S.d.length S.d := fun X => Rd.pk hx.dd
  have hlive := fun M h1 h2 h3 h4 => KLive_ctr (r := r) (most := most) (L := M) hx h1 h2 h3 h4 ok.nd (by omega) (by omega) (by omega)
  have hins := fun b M => RInsert_ctr b most S.live p M (by omega)
  refine Ctr_of (fn := Tryz.f44) (n := 62) Tryz.func44 rfl rfl rfl ?_
  intro g F
  refine GN ?_
  refine G_region ?_
  refine GE (eff_box rfl) ?_; rintro _ _ ⟨b3, rfl, rfl⟩
  refine GQ (ev_assign rfl) ?_
  refine GO_nil ?_
  refine GN ?_
  refine G_draw (.q 0 (.q 2 (.q 3 (.q 4 (.q 5 (.e 1 (.q 6 (.e 7 (.q 8 .nil))))))))) (by kernel_rfl) (by kernel_rfl) ?_
  refine RM rfl (ev_move rfl) ?_
  refine RM rfl (ev_move rfl) ?_
  (first | refine RM rfl (ev_nilCheck rfl) ?_ | refine RM rfl (ev_nilCheckF (by simp) rfl) ?_)
  refine RM rfl (ev_fieldAddr rfl) ?_
  refine RQ rfl (ev_load rfl LdA) ?_
  refine RS_e (RE_eff rfl rfl rfl (eff_call rfl (hlive _ (by repeat' first | exact LdN.blk rfl | apply LdN.skip) (by repeat' first | exact hql _ | apply Rd.skip) (fun q hq => by repeat' first | exact hin _ q hq | apply QS.at_.skip) (by repeat' first | exact hdd _ | apply Rd.skip))) ?_); rintro _ _ ⟨bl, cl, rfl, k1, k2, rfl⟩; refine ⟨_, fun _ s => s, ExA, ?_⟩
  refine RM rfl (ev_build rfl rfl) ?_
  refine RS_e (RE_eff rfl rfl rfl (eff_box rfl) ?_); rintro _ _ ⟨b15, rfl, rfl⟩; refine ⟨_, fun _ s => s, ExA, ?_⟩
  refine RM rfl (ev_assign rfl) ?_
  refine RS_nil ?_
  refine G_heap (L' := setS b15 most S.live :: blk r 40 (rfC x.A x.qs.length x.c x.D S.d.length x.e most (S.bu : Nat)) :: own 38 1 x.A x.qs.length x.c (flat x.qs) :: pk x.N :: blk b3 28 [.int .i64 p.id, .int .i64 p.x, .int .i64 p.y] :: F :: L) (by (repeat first | exact en_refl | apply en_set (A := some ⟨bl, 0, none⟩) (c := cl) (fun _ => ⟨bl, rfl⟩) | (apply en_blk; focus ((repeat' first | exact Pick.here | apply Pick.skip | apply Pick.app); done); focus rfl) | (apply en_own; focus ((repeat' first | exact Pick.here | apply Pick.skip | apply Pick.app); done); focus rfl) | (apply en_pick; focus ((repeat' first | exact Pick.here | apply Pick.skip | apply Pick.app); done)) | apply en_drop | apply en_app) <;> fail) ?_
  refine GN ?_
  refine G_region ?_
  refine GQ (ev_move rfl) ?_
  refine GQ (ev_loadN rfl LnA) ?_
  refine GE (eff_call rfl (hins b15 _)) ?_; rintro _ _ ⟨rfl, rfl⟩
  refine GQ (ev_assign rfl) ?_
  refine GO_nil ?_
  refine G_heap (L' := blk r 40 (rfC x.A x.qs.length x.c x.D S.d.length x.e most (S.bu : Nat)) :: own 38 1 x.A x.qs.length x.c (flat x.qs) :: pk x.N :: blk b3 28 [.int .i64 p.id, .int .i64 p.x, .int .i64 p.y] :: F :: L) EpA ?_
  refine GN ?_
  refine G_region ?_
  refine GQ (ev_move rfl) ?_
  refine GQ (ev_neq rfl rfl) ?_
  refine GO_nil ?_
  unfold LgS.ins
  generalize hcd : insC most S.live p = cd at *
  by_cases h0 : cd = 0
  · rw [if_pos h0]
    refine GN ?_
    refine G_cond_f rfl (decide_eq_false (by simp [h0])) ?_
    refine GN ?_
    refine G_region ?_
    refine GQ (ev_assign rfl) ?_
    refine GO_nil ?_
    (repeat first | refine G_seq ?_ | refine G_skip ?_ | refine G_endblk ?_)
    by_cases hd : p ∈ S.d
    · rw [if_pos hd]
      have e4 : S.d.idxOf p < S.d.length := List.idxOf_lt_length_iff.2 hd
      have e2 := erase_idx p S.d hd
      have e5 : S.d[S.d.idxOf p]? = some p := by
        rw [List.getElem?_eq_getElem e4, List.getElem_idxOf]
      rw [← e2]
      have e6 : ∀ j, j < S.d.idxOf p → ∀ u, S.d[j]? = some u → u ≠ p := fun j hj u hu e => by
        subst e
        have := List.not_of_lt_findIdx (p := (· == u)) (xs := S.d) (i := j) hj
        have hj2 : j < S.d.length := by omega
        rw [List.getElem?_eq_getElem hj2] at hu
        simp at this
        exact this (Option.some.inj hu)
      generalize S.d.idxOf p = j at *
      refine GN ?_
      refine G_loop (ι := Nat) (fun i => [(0, .pointer (some ⟨r, 0, none⟩)), (3, .pointer (some ⟨b3, 0, none⟩)), (7, .int .i64 (i : Nat))]) (fun _ => blk r 40 (rfC x.A x.qs.length x.c x.D S.d.length x.e most (S.bu : Nat)) :: own 38 1 x.A x.qs.length x.c (flat x.qs) :: pk x.N :: blk b3 28 [.int .i64 p.id, .int .i64 p.x, .int .i64 p.y] :: F :: L) (fun i => i ≤ j) (fun i => j - i) 0 (Nat.zero_le _) ⟨rfl, rfl, rfl, trivial⟩ EnA ?_
      intro i f1
      have f1 : i ≤ j := f1
      obtain ⟨db, dof, eD, hxx⟩ := (hdd []).at_ (by omega)
      have g1 : S.d[i]? = some S.d[i] := List.getElem?_eq_getElem (by omega)
      have y1 : ∀ X, LdN (pk x.N :: X) db (dof + i * 3) 3 [.int .i64 S.d[i].id, .int .i64 S.d[i].x, .int .i64 S.d[i].y] := fun X => by
        obtain ⟨_, _, e9, hxx⟩ := (hdd X).at_ (by omega)
        rw [eD] at e9
        cases e9
        exact hxx _ _ g1
      have c2 : i < j ∨ i = j := by omega
      have n1 : i < j → S.d[i] ≠ p := fun h => e6 i h _ g1
      have n2 : i = j → S.d[i] = p := fun h => by subst h; rw [g1] at e5; exact Option.some.inj e5
      generalize S.d[i] = u at *
      have m1 : ∀ X, Rc (pk x.N :: X) 3 (some ⟨db, dof, none⟩) j (flat (S.d.take j)) := fun X => by have := (hdd X).take (k := j) (by omega); rw [eD] at this; exact this
      have m2 : ∀ X, Rc (pk x.N :: X) 3 (some ⟨db, (if x.e = j + 1 then dof else dof + (j + 1) * 3), none⟩) (S.d.length - (j + 1)) (flat (S.d.drop (j + 1))) := fun X => by have := hdd X; rw [eD] at this; exact this.drop (by omega) hx.c1
      have xc1 := hx.c1
      have xc2 := hx.c2
      unfold maxLen at xc2
      rw [eD]
      refine GN ?_
      refine G_region ?_
      refine GQ (ev_move rfl) ?_
      refine GQ (ev_move rfl) ?_
      (first | refine GQ (ev_nilCheck rfl) ?_ | refine GQ (ev_nilCheckF (by simp) rfl) ?_)
      refine GQ (ev_fieldAddr rfl) ?_
      refine GQ (ev_load rfl LdA) ?_
      refine GQ (ev_len rfl) ?_
      (first | refine GQ (ev_lssN rfl rfl) ?_ | refine GQ (ev_lss rfl rfl) ?_)
      refine GO_nil ?_
      refine GN ?_
      refine G_cond_t rfl (decide_eq_true (by omega)) ?_
      refine GN ?_
      refine G_draw (.q 0 (.q 1 (.q 2 (.q 3 (.q 4 (.q 5 (.q 6 (.q 7 (.q 8 .nil))))))))) (by kernel_rfl) (by kernel_rfl) ?_
      refine RM rfl (ev_move rfl) ?_
      (first | refine RM rfl (ev_nilCheck rfl) ?_ | refine RM rfl (ev_nilCheckF (by simp) rfl) ?_)
      refine RM rfl (ev_fieldAddr rfl) ?_
      refine RQ rfl (ev_load rfl LdA) ?_
      refine RM rfl (ev_move rfl) ?_
      (first | refine RM rfl (ev_indexAddrN rfl rfl NgA) ?_ | refine RM rfl (ev_indexAddr rfl rfl NgA NgA) ?_)
      refine RQ rfl (ev_loadN rfl (by repeat' first | exact y1 _ | apply LdN.skip)) ?_
      refine RQ rfl (ev_loadN rfl LnA) ?_
      refine RM rfl (ev_eqlS rfl rfl rfl rfl rfl rfl) ?_
      refine RS_nil ?_
      rcases c2 with c2 | c2
      · have n1 := n1 c2
        refine GN ?_
        refine G_cond_f rfl (decide_eq_false (fun h => n1 ((pt_list u p).1 h))) ?_
        refine GN ?_
        refine GN ?_
        refine G_region ?_
        refine GQ (ev_move rfl) ?_
        (first | refine GQ (ev_addN (q := 1) rfl rfl NgA) ?_ | refine GQ (ev_add rfl rfl NgA) ?_)
        refine GQ (ev_assign rfl) ?_
        refine GO_nil ?_
        refine GN ?_
        rw [← eD]
        exact G_round (i + 1) (by omega) (by omega) ⟨rfl, rfl, rfl, trivial⟩ EpA
      · have n3 := n2 c2
        clear n1 n2
        subst c2
        subst n3
        refine GN ?_
        refine G_cond_t rfl (decide_eq_true rfl) ?_
        refine GN ?_
        refine G_draw (.q 0 (.q 2 (.q 3 (.q 4 (.q 5 (.q 6 (.q 7 (.q 9 (.q 10 (.q 11 (.q 12 (.q 13 (.q 14 (.q 15 (.e 1 (.e 8 (.e 16 (.q 17 (.q 18 (.e 19 .nil)))))))))))))))))))) (by kernel_rfl) (by kernel_rfl) ?_
        refine RM rfl (ev_move rfl) ?_
        refine RM rfl (ev_move rfl) ?_
        (first | refine RM rfl (ev_nilCheck rfl) ?_ | refine RM rfl (ev_nilCheckF (by simp) rfl) ?_)
        refine RM rfl (ev_fieldAddr rfl) ?_
        refine RQ rfl (ev_load rfl LdA) ?_
        refine RM rfl (ev_move rfl) ?_
        refine RQ rfl (ev_sliceH rfl rfl NgA) ?_
        refine RM rfl (ev_move rfl) ?_
        (first | refine RM rfl (ev_nilCheck rfl) ?_ | refine RM rfl (ev_nilCheckF (by simp) rfl) ?_)
        refine RM rfl (ev_fieldAddr rfl) ?_
        refine RQ rfl (ev_load rfl LdA) ?_
        refine RM rfl (ev_move rfl) ?_
        (first | refine RM rfl (ev_addN (q := 1) rfl rfl NgA) ?_ | refine RM rfl (ev_add rfl rfl NgA) ?_)
        refine RQ rfl (ev_sliceL rfl rfl NgA NgA) ?_
        refine RS_e (RE_eff rfl rfl rfl eff_buildSlice0 ?_); rintro _ _ ⟨b41, rfl, rfl⟩; refine ⟨_, ExA, fun _ s => s, ?_⟩
        refine RS_e (RE_eff rfl rfl rfl (eff_append rfl rfl PkA ((by repeat' first | exact m1 _ | apply Rc.skip)) ((flat_one _)) (by rfl) (by decide) NgA NgA) ?_); rintro _ _ ⟨A48, c48, rfl, hc48, hm48, hn48, rfl⟩; refine ⟨_, ExA, fun _ s => s, ?_⟩
        refine RS_e (RE_eff rfl rfl rfl (eff_append rfl rfl PkA ((by repeat' first | exact m2 _ | apply Rc.skip)) ((flat_one _)) (by rfl) (by decide) NgA NgA) ?_); rintro _ _ ⟨A56, c56, rfl, hc56, hm56, hn56, rfl⟩; refine ⟨_, ExA, fun _ s => s, ?_⟩
        (first | refine RM rfl (ev_nilCheck rfl) ?_ | refine RM rfl (ev_nilCheckF (by simp) rfl) ?_)
        refine RM rfl (ev_fieldAddr rfl) ?_
        refine RS_e (RE_last (by kernel_rfl) rfl rfl rfl (eff_store rfl rfl rfl UpA) ?_); rintro _ _ ⟨rfl, rfl⟩
        all_goals
          have nn : 0 + i + (S.d.length - (i + 1)) = (S.d.take i ++ S.d.drop (i + 1)).length := by simp; omega
          rw [nn] at hc56 hn56
          rw [nn]
          have hI : RfI ⟨x.A, x.c, x.qs, A56, c56, own 28 3 A56 (S.d.take i ++ S.d.drop (i + 1)).length c56 (flat (S.d.take i ++ S.d.drop (i + 1))) :: x.N⟩ ⟨S.ls, S.d.take i ++ S.d.drop (i + 1), S.bu⟩ := ⟨hx.qs, fun q hq => (hx.at_ q hq).skip, Rc.own (flat_length _) hn56, hc56, hm56, hx.A⟩
          refine GN ?_
          refine G_region ?_
          refine GQ (ev_assign rfl) ?_
          refine GO_nil ?_
          refine GN ?_
          refine G_ret (L' := rfF r most ⟨S.ls, S.d.take i ++ S.d.drop (i + 1), S.bu⟩ :: L) rfl (.tmp rfl .nil) ?_ ⟨by rw [h0]; rfl, rfl⟩
          apply en_pick
          focus ((repeat' first | exact Pick.here | apply Pick.skip | apply Pick.app); done)
          refine en_rf ⟨x.A, x.c, x.qs, A56, c56, own 28 3 A56 (S.d.take i ++ S.d.drop (i + 1)).length c56 (flat (S.d.take i ++ S.d.drop (i + 1))) :: x.N⟩ rfl rfl rfl rfl hI ?_
          refine en_blk PkA rfl (en_pick PkA (en_pk1 (en_own PkA (by rw [flat_append]; rfl) EpA)))
    · rw [if_neg hd]
      have hput := fun M => rPut_ctr r most S p M (by omega) (by omega) (by omega)
      refine GN ?_
      refine G_loop (ι := Nat) (fun i => [(0, .pointer (some ⟨r, 0, none⟩)), (3, .pointer (some ⟨b3, 0, none⟩)), (7, .int .i64 (i : Nat))]) (fun _ => blk r 40 (rfC x.A x.qs.length x.c x.D S.d.length x.e most (S.bu : Nat)) :: own 38 1 x.A x.qs.length x.c (flat x.qs) :: pk x.N :: blk b3 28 [.int .i64 p.id, .int .i64 p.x, .int .i64 p.y] :: F :: L) (fun i => i ≤ S.d.length) (fun i => S.d.length - i) 0 (Nat.zero_le _) ⟨rfl, rfl, rfl, trivial⟩ EnA ?_
      intro i f1
      have f1 : i ≤ S.d.length := f1
      by_cases c2 : i < S.d.length
      · obtain ⟨db, dof, eD, hxx⟩ := (hdd []).at_ (by omega)
        have g1 : S.d[i]? = some S.d[i] := List.getElem?_eq_getElem (by omega)
        have y1 : ∀ X, LdN (pk x.N :: X) db (dof + i * 3) 3 [.int .i64 S.d[i].id, .int .i64 S.d[i].x, .int .i64 S.d[i].y] := fun X => by
          obtain ⟨_, _, e9, hxx⟩ := (hdd X).at_ (by omega)
          rw [eD] at e9
          cases e9
          exact hxx _ _ g1
        have n1 : S.d[i] ≠ p := fun h => hd (h ▸ List.getElem_mem _)
        generalize S.d[i] = u at *
        rw [eD]
        refine GN ?_
        refine G_region ?_
        refine GQ (ev_move rfl) ?_
        refine GQ (ev_move rfl) ?_
        (first | refine GQ (ev_nilCheck rfl) ?_ | refine GQ (ev_nilCheckF (by simp) rfl) ?_)
        refine GQ (ev_fieldAddr rfl) ?_
        refine GQ (ev_load rfl LdA) ?_
        refine GQ (ev_len rfl) ?_
        (first | refine GQ (ev_lssN rfl rfl) ?_ | refine GQ (ev_lss rfl rfl) ?_)
        refine GO_nil ?_
        refine GN ?_
        refine G_cond_t rfl (decide_eq_true (by omega)) ?_
        refine GN ?_
        refine G_draw (.q 0 (.q 1 (.q 2 (.q 3 (.q 4 (.q 5 (.q 6 (.q 7 (.q 8 .nil))))))))) (by kernel_rfl) (by kernel_rfl) ?_
        refine RM rfl (ev_move rfl) ?_
        (first | refine RM rfl (ev_nilCheck rfl) ?_ | refine RM rfl (ev_nilCheckF (by simp) rfl) ?_)
        refine RM rfl (ev_fieldAddr rfl) ?_
        refine RQ rfl (ev_load rfl LdA) ?_
        refine RM rfl (ev_move rfl) ?_
        (first | refine RM rfl (ev_indexAddrN rfl rfl NgA) ?_ | refine RM rfl (ev_indexAddr rfl rfl NgA NgA) ?_)
        refine RQ rfl (ev_loadN rfl (by repeat' first | exact y1 _ | apply LdN.skip)) ?_
        refine RQ rfl (ev_loadN rfl LnA) ?_
        refine RM rfl (ev_eqlS rfl rfl rfl rfl rfl rfl) ?_
        refine RS_nil ?_
        refine GN ?_
        refine G_cond_f rfl (decide_eq_false (fun h => n1 ((pt_list u p).1 h))) ?_
        refine GN ?_
        refine GN ?_
        refine G_region ?_
        refine GQ (ev_move rfl) ?_
        (first | refine GQ (ev_addN (q := 1) rfl rfl NgA) ?_ | refine GQ (ev_add rfl rfl NgA) ?_)
        refine GQ (ev_assign rfl) ?_
        refine GO_nil ?_
        refine GN ?_
        rw [← eD]
        exact G_round (i + 1) (by omega) (by omega) ⟨rfl, rfl, rfl, trivial⟩ EpA
      · refine GN ?_
        refine G_region ?_
        refine GQ (ev_move rfl) ?_
        refine GQ (ev_move rfl) ?_
        (first | refine GQ (ev_nilCheck rfl) ?_ | refine GQ (ev_nilCheckF (by simp) rfl) ?_)
        refine GQ (ev_fieldAddr rfl) ?_
        refine GQ (ev_load rfl LdA) ?_
        refine GQ (ev_len rfl) ?_
        (first | refine GQ (ev_lssN rfl rfl) ?_ | refine GQ (ev_lss rfl rfl) ?_)
        refine GO_nil ?_
        refine GN ?_
        refine G_cond_f rfl (decide_eq_false (by omega)) ?_
        refine G_heap (L' := rfF r most S :: blk b3 28 [.int .i64 p.id, .int .i64 p.x, .int .i64 p.y] :: F :: L) (by (repeat first | exact en_refl | refine en_rf x rfl rfl rfl rfl hx ?_ | (apply en_blk; focus ((repeat' first | exact Pick.here | apply Pick.skip | apply Pick.app); done); focus rfl) | (apply en_own; focus ((repeat' first | exact Pick.here | apply Pick.skip | apply Pick.app); done); focus rfl) | (apply en_pick; focus ((repeat' first | exact Pick.here | apply Pick.skip | apply Pick.app); done)) | apply en_drop | apply en_app) <;> fail) ?_
        refine GN ?_
        refine G_region ?_
        refine GQ (ev_move rfl) ?_
        refine GQ (ev_loadN rfl LnA) ?_
        refine GE (eff_call rfl (hput _)) ?_; rintro _ _ ⟨rfl, rfl⟩
        refine GO_nil ?_
        refine GN ?_
        refine G_region ?_
        refine GQ (ev_assign rfl) ?_
        refine GO_nil ?_
        refine GN ?_
        exact G_ret (L' := rfF r most (S.put p) :: L) rfl (.tmp rfl .nil) EpA ⟨by rw [h0]; rfl, rfl⟩
  · rw [if_neg h0]
    refine GN ?_
    refine G_cond_t rfl (decide_eq_true h0) ?_
    refine GN ?_
    refine G_region ?_
    refine GQ (ev_move rfl) ?_
    refine GQ (ev_assign rfl) ?_
    refine GO_nil ?_
    refine GN ?_
    exact G_ret (L' := rfF r most S :: L) rfl (.tmp rfl .nil) (by (repeat first | exact en_refl | refine en_rf x rfl rfl rfl rfl hx ?_ | (apply en_blk; focus ((repeat' first | exact Pick.here | apply Pick.skip | apply Pick.app); done); focus rfl) | (apply en_own; focus ((repeat' first | exact Pick.here | apply Pick.skip | apply Pick.app); done); focus rfl) | (apply en_pick; focus ((repeat' first | exact Pick.here | apply Pick.skip | apply Pick.app); done)) | apply en_drop | apply en_app) <;> fail) ⟨rfl, rfl⟩
theorem rDelete_ctr (r : Nat) (most : Int) (S : LgS) (p : Pt) (m : Nat) (L : List HP) (ok : LgOk S m) (hm : m ≤ 300) :
    Ctr Tryz.prog 43 #[.pointer (some ⟨r, 0, none⟩), p.v] (rfF r most S :: L) fun v L' => v = .int .i64 (delC S.live p) ∧ L' = rfF r most (S.del p) :: L := by
  refine Ctr.rf fun x hx => ?_
  have hll := ok.live_len
  have htot := ok.tot
  have hbt := ok.bt
  have hl10 : S.ls.length ≤ 10 := lv_le9 ok.lv (by omega)
  have hlen := hx.len
  have hql : ∀ X, Rd (own 38 1 x.A x.qs.length x.c (flat x.qs) :: X) x.A x.qs.length x.qs := fun X => Rc.own (flat_length _) hx.A
  have hin : ∀ X, ∀ q ∈ x.qs, q.at_ (pk x.N :: X) := fun X q hq => (hx.at_ q hq).pk
  have hdd : ∀ X, Rd (pk x.N :: X) x.D S.d.length S.d := fun X => Rd.pk hx.dd
  have hlive := fun M h1 h2 h3 h4 => KLive_ctr (r := r) (most := most) (L := M) hx h1 h2 h3 h4 ok.nd (by omega) (by omega) (by omega)
  have xc1 := hx.c1
  have xc2 := hx.c2
  unfold maxLen at xc2
  unfold LgS.del delC
  refine Ctr_of (fn := Tryz.f43) (n := 56) Tryz.func43 rfl rfl rfl ?_
  intro g F
  refine GN ?_
  refine G_region ?_
  refine GE (eff_box rfl) ?_; rintro _ _ ⟨b3, rfl, rfl⟩
  refine GQ (ev_assign rfl) ?_
  refine GO_nil ?_
  refine GN ?_
  refine G_region ?_
  refine GQ (ev_move rfl) ?_
  refine GE (eff_call rfl (hlive _ (by repeat' first | exact LdN.blk rfl | apply LdN.skip) (by repeat' first | exact hql _ | apply Rd.skip) (fun q hq => by repeat' first | exact hin _ q hq | apply QS.at_.skip) (by repeat' first | exact hdd _ | apply Rd.skip))) ?_; rintro _ _ ⟨bl, cl, rfl, k1, k2, rfl⟩
  refine GQ (ev_assign rfl) ?_
  refine GO_nil ?_
  have hIn := fun M h => rIn_ctr (some ⟨bl, 0, none⟩) S.live.length cl S.live p M h (by omega)
  refine GN ?_
  refine G_region ?_
  refine GQ (ev_move rfl) ?_
  refine GQ (ev_loadN rfl LnA) ?_
  refine GE (eff_call rfl (hIn _ (by repeat' first | exact Rc.own (flat_length _) (fun _ ↦ ⟨bl, rfl⟩) | apply Rd.skip))) ?_; rintro _ _ ⟨rfl, rfl⟩
  refine GQ (ev_not rfl) ?_
  refine GO_nil ?_
  by_cases hp : p ∈ S.live
  · rw [if_pos hp, if_pos hp]
    have hpos := List.length_pos_of_mem hp
    have h1 := LgS.mem_live.1 hp
    have hml : (S.mark p).live.length + (S.mark p).d.length = (S.mark p).ls.flatten.length := by
      refine live_len (S := S.mark p) ok.nd ?_ ?_
      · show (S.d ++ [p]).Nodup
        rw [(List.perm_append_singleton p S.d).nodup_iff]
        exact List.nodup_cons.2 ⟨h1.2, ok.dn⟩
      · intro q hq
        rcases List.mem_append.1 (show q ∈ S.d ++ [p] from hq) with h2 | h2
        · exact ok.ds q h2
        · have : q = p := by simpa using h2
          rw [this]; exact h1.1
    have hmd : (S.mark p).d.length = S.d.length + 1 := by show (S.d ++ [p]).length = _; simp
    have hmf : (S.mark p).ls.flatten.length = S.ls.flatten.length := rfl
    refine GN ?_
    refine G_cond_f rfl (by simp [hp]) ?_
    refine GN ?_
    refine GN ?_
    refine G_draw (.q 0 (.q 2 (.q 3 (.q 4 (.q 5 (.q 7 (.br 1 (.br 6 (.e 8 (.e 9 (.q 10 (.q 11 (.e 12 .nil))))) 8 (.e 6 (.e 9 (.q 10 (.q 11 (.e 12 .nil)))))) 8 (.e 1 (.e 6 (.e 9 (.q 10 (.q 11 (.e 12 .nil))))))))))))) (by kernel_rfl) (by kernel_rfl) ?_
    refine RM rfl (ev_move rfl) ?_
    refine RM rfl (ev_move rfl) ?_
    (first | refine RM rfl (ev_nilCheck rfl) ?_ | refine RM rfl (ev_nilCheckF (by simp) rfl) ?_)
    refine RM rfl (ev_fieldAddr rfl) ?_
    refine RQ rfl (ev_load rfl LdA) ?_
    refine RQ rfl (ev_loadN rfl LnA) ?_
    refine RS_br ?x85_0 ?x85_1
    case' x85_1 =>
      refine RE_eff rfl rfl rfl (eff_buildSlice1 (by rfl) rfl rfl) ?_; rintro _ _ ⟨b21, rfl, rfl⟩; refine ⟨_, ExA, fun _ s => s, ?_⟩
      refine RS_e (RE_eff rfl rfl rfl eff_buildSlice0 ?_); rintro _ _ ⟨b14, rfl, rfl⟩; refine ⟨_, ExA, fun _ s => s, ?_⟩
      refine RS_e (RE_eff rfl rfl rfl (eff_append rfl rfl PkA ((by repeat' first | exact hdd _ | apply Rc.skip)) ((flat_one _)) (by rfl) (by decide) NgA NgA) ?_); rintro _ _ ⟨A19, c19, rfl, hc19, hm19, hn19, rfl⟩; refine ⟨_, ExA, fun _ s => s, ?_⟩
      refine RS_e (RE_eff rfl rfl rfl (eff_append rfl rfl PkA (by repeat' first | exact Rc.blk rfl | assumption | apply Rc.skip) (one_all rfl) (by rfl) (by decide) NgA NgA) ?_); rintro _ _ ⟨A22, c22, rfl, hc22, hm22, hn22, rfl⟩; refine ⟨_, ExA, fun _ s => s, ?_⟩
      (first | refine RM rfl (ev_nilCheck rfl) ?_ | refine RM rfl (ev_nilCheckF (by simp) rfl) ?_)
      refine RM rfl (ev_fieldAddr rfl) ?_
      refine RS_e (RE_cmp (by kernel_rfl) rfl rfl rfl (eff_store rfl rfl rfl UpA) ?_); rintro _ _ ⟨rfl, rfl⟩
      refine RS_nil ?_
    case' x85_0 =>
      refine RE_eff rfl rfl rfl eff_buildSlice0 ?_; rintro _ _ ⟨b14, rfl, rfl⟩; refine ⟨_, ExA, fun _ s => s, ?_⟩
      refine RS_br ?x86_0 ?x86_1
      case' x86_1 =>
        refine RE_eff rfl rfl rfl (eff_buildSlice1 (by rfl) rfl rfl) ?_; rintro _ _ ⟨b21, rfl, rfl⟩; refine ⟨_, ExA, fun _ s => s, ?_⟩
        refine RS_e (RE_eff rfl rfl rfl (eff_append rfl rfl PkA ((by repeat' first | exact hdd _ | apply Rc.skip)) ((flat_one _)) (by rfl) (by decide) NgA NgA) ?_); rintro _ _ ⟨A19, c19, rfl, hc19, hm19, hn19, rfl⟩; refine ⟨_, ExA, fun _ s => s, ?_⟩
        refine RS_e (RE_eff rfl rfl rfl (eff_append rfl rfl PkA (by repeat' first | exact Rc.blk rfl | assumption | apply Rc.skip) (one_all rfl) (by rfl) (by decide) NgA NgA) ?_); rintro _ _ ⟨A22, c22, rfl, hc22, hm22, hn22, rfl⟩; refine ⟨_, ExA, fun _ s => s, ?_⟩
        (first | refine RM rfl (ev_nilCheck rfl) ?_ | refine RM rfl (ev_nilCheckF (by simp) rfl) ?_)
        refine RM rfl (ev_fieldAddr rfl) ?_
        refine RS_e (RE_cmp (by kernel_rfl) rfl rfl rfl (eff_store rfl rfl rfl UpA) ?_); rintro _ _ ⟨rfl, rfl⟩
        refine RS_nil ?_
      case' x86_0 =>
        refine RE_eff rfl rfl rfl (eff_append rfl rfl PkA ((by repeat' first | exact hdd _ | apply Rc.skip)) ((flat_one _)) (by rfl) (by decide) NgA NgA) ?_; rintro _ _ ⟨A19, c19, rfl, hc19, hm19, hn19, rfl⟩; refine ⟨_, ExA, fun _ s => s, ?_⟩
        refine RS_e (RE_eff rfl rfl rfl (eff_buildSlice1 (by rfl) rfl rfl) ?_); rintro _ _ ⟨b21, rfl, rfl⟩; refine ⟨_, ExA, fun _ s => s, ?_⟩
        refine RS_e (RE_eff rfl rfl rfl (eff_append rfl rfl PkA (by repeat' first | exact Rc.blk rfl | assumption | apply Rc.skip) (one_all rfl) (by rfl) (by decide) NgA NgA) ?_); rintro _ _ ⟨A22, c22, rfl, hc22, hm22, hn22, rfl⟩; refine ⟨_, ExA, fun _ s => s, ?_⟩
        (first | refine RM rfl (ev_nilCheck rfl) ?_ | refine RM rfl (ev_nilCheckF (by simp) rfl) ?_)
        refine RM rfl (ev_fieldAddr rfl) ?_
        refine RS_e (RE_cmp (by kernel_rfl) rfl rfl rfl (eff_store rfl rfl rfl UpA) ?_); rintro _ _ ⟨rfl, rfl⟩
        refine RS_nil ?_
    all_goals
      have nn : 0 + S.d.length + 1 = (S.d ++ [p]).length := by simp
      rw [nn] at hc22 hn22
      rw [nn]
      have hI : RfI ⟨x.A, x.c, x.qs, A22, c22, own 28 3 A22 (S.d ++ [p]).length c22 (flat (S.d ++ [p])) :: x.N⟩ (S.mark p) := ⟨hx.qs, fun q hq => (hx.at_ q hq).skip, Rc.own (flat_length _) hn22, hc22, hm22, hx.A⟩
      refine G_heap (L' := blk r 40 (rfC x.A x.qs.length x.c A22 (S.mark p).d.length c22 most (S.mark p).bu) :: own 38 1 x.A x.qs.length x.c (flat x.qs) :: pk (own 28 3 A22 (S.d ++ [p]).length c22 (flat (S.d ++ [p])) :: x.N) :: own 28 3 (some ⟨bl, 0, none⟩) S.live.length cl (flat S.live) :: blk b3 28 [.int .i64 p.id, .int .i64 p.x, .int .i64 p.y] :: F :: L) (en_blk PkA rfl (en_pick PkA (en_pk1 (en_own PkA (by rw [flat_append]; rfl) EpA)))) ?_
      generalize own 28 3 A22 (S.d ++ [p]).length c22 (flat (S.d ++ [p])) :: x.N = N2 at *
      have hin2 : ∀ X, ∀ q ∈ x.qs, q.at_ (pk N2 :: X) := fun X q hq => (hI.at_ q hq).pk
      have hdd2 : ∀ X, Rd (pk N2 :: X) A22 (S.mark p).d.length (S.mark p).d := fun X => Rd.pk hI.dd
      have hlive2 := fun M h1 h2 h3 h4 => KLive_ctr (r := r) (most := most) (L := M) hI h1 h2 h3 h4 ok.nd (by show S.ls.length ≤ _; omega) (by show S.ls.flatten.length ≤ _; omega) (by omega)
      have hbm : (S.mark p).bu = S.bu := rfl
      by_cases hc : (S.mark p).d.length ≤ S.live.length - 1
      · rw [if_pos hc]
        refine GN ?_
        refine G_region ?_
        refine GQ (ev_move rfl) ?_
        (first | refine GQ (ev_nilCheck rfl) ?_ | refine GQ (ev_nilCheckF (by simp) rfl) ?_)
        refine GQ (ev_fieldAddr rfl) ?_
        refine GQ (ev_load rfl LdA) ?_
        refine GQ (ev_len rfl) ?_
        refine GQ (ev_move rfl) ?_
        refine GQ (ev_len rfl) ?_
        (first | refine GQ (ev_subN (q := 1) rfl rfl NgA) ?_ | refine GQ (ev_sub rfl rfl NgA) ?_)
        refine GQ (ev_leq rfl rfl) ?_
        refine GO_nil ?_
        refine GN ?_
        refine G_cond_t rfl (decide_eq_true (by omega)) ?_
        refine GN ?_
        refine G_region ?_
        refine GQ (ev_assign rfl) ?_
        refine GO_nil ?_
        refine GN ?_
        exact G_ret (L' := rfF r most (S.mark p) :: L) rfl (.tmp rfl .nil) (by (repeat first | exact en_refl | refine en_rf ⟨x.A, x.c, x.qs, A22, c22, N2⟩ rfl rfl rfl rfl hI ?_ | (apply en_blk; focus ((repeat' first | exact Pick.here | apply Pick.skip | apply Pick.app); done); focus rfl) | (apply en_own; focus ((repeat' first | exact Pick.here | apply Pick.skip | apply Pick.app); done); focus rfl) | (apply en_pick; focus ((repeat' first | exact Pick.here | apply Pick.skip | apply Pick.app); done)) | apply en_drop | apply en_app) <;> fail) ⟨rfl, rfl⟩
      · rw [if_neg hc]
        unfold LgS.anew
        have hln : (S.mark p).live.Nodup := (srtO_perm _).nodup_iff.2 (ok.nd.filter _)
        have hlg : ∀ q ∈ (S.mark p).live, goodP q = true := fun q hq => ok.gd q (LgS.mem_live.1 hq).1
        have hll2 : (S.mark p).live.length ≤ m := by omega
        generalize (S.mark p).live = l at *
        refine GN ?_
        refine G_region ?_
        refine GQ (ev_move rfl) ?_
        (first | refine GQ (ev_nilCheck rfl) ?_ | refine GQ (ev_nilCheckF (by simp) rfl) ?_)
        refine GQ (ev_fieldAddr rfl) ?_
        refine GQ (ev_load rfl LdA) ?_
        refine GQ (ev_len rfl) ?_
        refine GQ (ev_move rfl) ?_
        refine GQ (ev_len rfl) ?_
        (first | refine GQ (ev_subN (q := 1) rfl rfl NgA) ?_ | refine GQ (ev_sub rfl rfl NgA) ?_)
        refine GQ (ev_leq rfl rfl) ?_
        refine GO_nil ?_
        refine GN ?_
        refine G_cond_f rfl (decide_eq_false (by omega)) ?_
        refine GN ?_
        refine GN ?_
        refine G_region ?_
        refine GQ (ev_move rfl) ?_
        refine GE (eff_call rfl (hlive2 _ (by repeat' first | exact LdN.blk rfl | apply LdN.skip) (by repeat' first | exact hql _ | apply Rd.skip) (fun q hq ↦ by repeat' first | exact hin2 _ q hq | apply QS.at_.skip) (by repeat' first | exact hdd2 _ | apply Rd.skip))) ?_; rintro _ _ ⟨bm, cm, rfl, k3, k4, rfl⟩
        refine GQ (ev_assign rfl) ?_
        refine GO_nil ?_
        rw [hbm]
        refine GN ?_
        refine G_region ?_
        refine GQ (ev_move rfl) ?_
        refine GQ (ev_move rfl) ?_
        refine GE eff_buildSlice0 ?_; rintro _ _ ⟨b38, rfl, rfl⟩
        refine GE eff_buildSlice0 ?_; rintro _ _ ⟨b39, rfl, rfl⟩
        (first | refine GQ (ev_nilCheck rfl) ?_ | refine GQ (ev_nilCheckF (by simp) rfl) ?_)
        refine GQ (ev_fieldAddr rfl) ?_
        refine GE (eff_store rfl rfl rfl UpA) ?_; rintro _ _ ⟨rfl, rfl⟩
        (first | refine GQ (ev_nilCheck rfl) ?_ | refine GQ (ev_nilCheckF (by simp) rfl) ?_)
        refine GQ (ev_fieldAddr rfl) ?_
        refine GE (eff_store rfl rfl rfl UpA) ?_; rintro _ _ ⟨rfl, rfl⟩
        refine GO_nil ?_
        have hz : RfI ⟨some ⟨b38, 0, none⟩, 0, [], some ⟨b39, 0, none⟩, 0, []⟩ ⟨[], [], S.bu⟩ := ⟨rfl, by simp, Rd.nil _ _, Nat.le_refl _, Nat.zero_le _, fun h => absurd h (Nat.lt_irrefl 0)⟩
        refine G_heap (L' := rfF r most ⟨[], [], S.bu⟩ :: own 28 3 (some ⟨bm, 0, none⟩) l.length cm (flat l) :: blk b3 28 [.int .i64 p.id, .int .i64 p.x, .int .i64 p.y] :: F :: L) (by (repeat first | exact en_refl | refine en_rf ⟨some ⟨b38, 0, none⟩, 0, [], some ⟨b39, 0, none⟩, 0, []⟩ rfl rfl rfl rfl hz ?_ | apply en_pack (K := []) | (apply en_blk; focus ((repeat' first | exact Pick.here | apply Pick.skip | apply Pick.app); done); focus rfl) | (apply en_own; focus ((repeat' first | exact Pick.here | apply Pick.skip | apply Pick.app); done); focus rfl) | (apply en_pick; focus ((repeat' first | exact Pick.here | apply Pick.skip | apply Pick.app); done)) | apply en_drop | apply en_app) <;> fail) ?_
        refine GN ?_
        refine G_region ?_
        refine GQ (ev_assign rfl) ?_
        refine GO_nil ?_
        refine GN ?_
        refine G_loop (ι := Nat) (fun i => [(0, .pointer (some ⟨r, 0, none⟩)), (3, .pointer (some ⟨b3, 0, none⟩)), (5, .slice (some ⟨bm, 0, none⟩) l.length cm), (6, .int .i64 (i : Nat))]) (fun i => rfF r most ((l.take i).foldl LgS.put ⟨[], [], S.bu⟩) :: own 28 3 (some ⟨bm, 0, none⟩) l.length cm (flat l) :: blk b3 28 [.int .i64 p.id, .int .i64 p.x, .int .i64 p.y] :: F :: L) (fun i => i ≤ l.length) (fun i => l.length - i) 0 (Nat.zero_le _) ⟨rfl, rfl, rfl, rfl, trivial⟩ EnA ?_
        intro i hi
        have hi : i ≤ l.length := hi
        by_cases d1 : i < l.length
        · have g1 : l[i]? = some l[i] := List.getElem?_eq_getElem d1
          have s1 : l.take (i + 1) = l.take i ++ [l[i]] := List.take_succ_eq_append_getElem d1
          have z1 : ∀ X, LdN (own 28 3 (some ⟨bm, 0, none⟩) l.length cm (flat l) :: X) bm (0 + i * 3) 3 [.int .i64 l[i].id, .int .i64 l[i].x, .int .i64 l[i].y] := fun X => ld_ownP rfl g1 X
          have htk : (l.take i).Sublist l := List.take_sublist _ _
          have hf := fold_put (l.take i) ⟨[], [], S.bu⟩ m trivial (by simpa using htk.nodup hln) (fun q h => hlg q (htk.subset (by simpa using h))) rfl (by simp; omega) (.inl rfl)
          have sf : (l.take (i + 1)).foldl LgS.put ⟨[], [], S.bu⟩ = ((l.take i).foldl LgS.put ⟨[], [], S.bu⟩).put l[i] := by rw [s1, List.foldl_append]; rfl
          have htl : (l.take i).length = i := by rw [List.length_take]; omega
          rw [htl] at hf
          generalize (l.take i).foldl LgS.put ⟨[], [], S.bu⟩ = S1 at *
          obtain ⟨q1, q2, q3, q4, q5⟩ := hf
          simp only [List.flatten_nil, List.nil_append] at q2
          have q6 := q2.length_eq
          have q7 := lv_le9 q4 (by omega)
          have q8 : m * i ≤ 300 * 300 := Nat.mul_le_mul hm (by omega)
          generalize l[i] = u at *
          have hput := fun M => rPut_ctr r most S1 u M (by omega) (by omega) (by simp only at q5; omega)
          refine GN ?_
          refine G_region ?_
          refine GQ (ev_move rfl) ?_
          refine GQ (ev_move rfl) ?_
          refine GQ (ev_len rfl) ?_
          (first | refine GQ (ev_lssN rfl rfl) ?_ | refine GQ (ev_lss rfl rfl) ?_)
          refine GO_nil ?_
          refine GN ?_
          refine G_cond_t rfl (decide_eq_true (by omega)) ?_
          refine GN ?_
          refine G_region ?_
          refine GQ (ev_move rfl) ?_
          refine GQ (ev_move rfl) ?_
          refine GQ (ev_move rfl) ?_
          (first | refine GQ (ev_indexAddrN rfl rfl NgA) ?_ | refine GQ (ev_indexAddr rfl rfl NgA NgA) ?_)
          refine GQ (ev_loadN rfl (by repeat' first | exact z1 _ | apply LdN.skip)) ?_
          refine GE (eff_call rfl (Ctr.pick PkA (hput _))) ?_; rintro _ _ ⟨rfl, rfl⟩
          refine GO_nil ?_
          refine GN ?_
          refine G_region ?_
          refine GQ (ev_move rfl) ?_
          (first | refine GQ (ev_addN (q := 1) rfl rfl NgA) ?_ | refine GQ (ev_add rfl rfl NgA) ?_)
          refine GQ (ev_assign rfl) ?_
          refine GO_nil ?_
          refine GN ?_
          refine G_round (i + 1) (by omega) (by omega) ⟨rfl, rfl, rfl, rfl, trivial⟩ ?_
          rw [sf]
          exact EpA
        · have e : i = l.length := by omega
          subst e
          rw [List.take_length]
          refine GN ?_
          refine G_region ?_
          refine GQ (ev_move rfl) ?_
          refine GQ (ev_move rfl) ?_
          refine GQ (ev_len rfl) ?_
          (first | refine GQ (ev_lssN rfl rfl) ?_ | refine GQ (ev_lss rfl rfl) ?_)
          refine GO_nil ?_
          refine GN ?_
          refine G_cond_f rfl (decide_eq_false (by omega)) ?_
          refine GN ?_
          refine GN ?_
          refine G_region ?_
          refine GQ (ev_assign rfl) ?_
          refine GO_nil ?_
          refine GN ?_
          exact G_ret (L' := rfF r most (l.foldl LgS.put ⟨[], [], S.bu⟩) :: L) rfl (.tmp rfl .nil) EpA ⟨rfl, rfl⟩
  · rw [if_neg hp, if_neg hp]
    refine GN ?_
    refine G_cond_t rfl (by simp [hp]) ?_
    refine GN ?_
    refine G_region ?_
    refine GQ (ev_assign rfl) ?_
    refine GO_nil ?_
    refine GN ?_
    exact G_ret (L' := rfF r most S :: L) rfl (.tmp rfl .nil) (by (repeat first | exact en_refl | refine en_rf x rfl rfl rfl rfl hx ?_ | (apply en_blk; focus ((repeat' first | exact Pick.here | apply Pick.skip | apply Pick.app); done); focus rfl) | (apply en_own; focus ((repeat' first | exact Pick.here | apply Pick.skip | apply Pick.app); done); focus rfl) | (apply en_pick; focus ((repeat' first | exact Pick.here | apply Pick.skip | apply Pick.app); done)) | apply en_drop | apply en_app) <;> fail) ⟨rfl, rfl⟩
end Go.Proofs.YtkoncepjfgnjlaaGreat
/- Points in several trees: put, Insert, anew, Delete of a whole set. -/
namespace Go.Proofs.YtkoncepjfgnjlaaGreat
attribute [local irreducible] sat
open Go.RowKit
set_option linter.unusedVariables false
set_option linter.unusedSimpArgs false
set_option maxRecDepth 100000

theorem lv_le {n m : Nat} (h : n = 0 ∨ 2 ^ (n - 1) ≤ m) (hm : m ≤ 600) : n ≤ 10 := by
  rcases h with h | h
  · omega
  · rcases Nat.lt_or_ge n 11 with h1 | h1
    · omega
    · have : 2 ^ 10 ≤ 2 ^ (n - 1) := Nat.pow_le_pow_right (by decide) (by omega)
      omega
theorem sat_left {N M : List HP} {h : Hm} (s : sat (N ++ M) h) : sat N h := by
  obtain ⟨h1, h2, d, s1, s2, n, l⟩ := s.split
  exact n.up s1
theorem en_two {N M L : List HP} {h : Hm} (s : sat (pk N :: pk M :: L) h) : sat (pk (N ++ M) :: L) h := by
  have h1 : sat (N ++ (pk M :: L)) h := sat.part s
  have h2 : sat (pk M :: (N ++ L)) h := h1.perm List.perm_middle
  have h3 : sat (M ++ (N ++ L)) h := sat.part h2
  have h4 : sat ((N ++ M) ++ L) h := h3.perm (by
    rw [← List.append_assoc]
    exact (List.perm_append_comm).append_right L)
  exact sat.join h4
theorem en_pk0 {L M : List HP} (f : ∀ h, sat L h → sat M h) : ∀ h, sat L h → sat (pk [] :: M) h := en_pack (K := []) f
theorem oat_none {L : List HP} : oat L none := fun x h => by cases h
theorem newC_ok {p : Pt} {S : LgS} {ts : List (Option RTr)} (hc : Cor ts S.ls) (hf : p ∉ S.ls.flatten) (hg : goodP p = true) (nd : S.ls.flatten.Nodup) (gd : ∀ q ∈ S.ls.flatten, goodP q = true) (k : Nat) : newC (gth p (ts.take k)) = 0 := by
  have h1 : ((ts.take k).flatMap opts).Sublist (ts.flatMap opts) := by
    conv => rhs; rw [← List.take_append_drop k ts]
    rw [List.flatMap_append]; exact List.sublist_append_left _ _
  have h2 := hc.flat
  have nd2 : (p :: (ts.take k).flatMap opts).Nodup := List.nodup_cons.2 ⟨fun h => hf (h2.mem_iff.1 (h1.subset h)), h1.nodup (h2.nodup_iff.2 nd)⟩
  have hp : (gth p (ts.take k)).Perm (p :: (ts.take k).flatMap opts) := srtO_perm _
  unfold newC
  rw [if_pos, if_pos (hp.nodup_iff.2 nd2)]
  intro q hq
  rcases List.mem_cons.1 (hp.mem_iff.1 hq) with rfl | h
  · exact hg
  · exact gd q (h2.mem_iff.1 (h1.subset h))
theorem lgPut_ctr (s : Nat) (most : Int) (S : LgS) (p : Pt) (L : List HP) (hf : p ∉ S.ls.flatten) (hg : goodP p = true) (nd : S.ls.flatten.Nodup) (gd : ∀ q ∈ S.ls.flatten, goodP q = true) (hl : S.ls.length ≤ 50) (ht : S.ls.flatten.length ≤ 1000) (hb : S.bu ≤ 1000000000) :
    Ctr Tryz.prog 37 #[.pointer (some ⟨s, 0, none⟩), p.v] (lgF s most S :: L) fun v L' => v = .tuple #[] ∧ L' = lgF s most (S.put p) :: L := by
  refine Ctr.lg fun x hx => ?_
  have h1 := hx.cor.len
  have h2 := hx.cor.flat.length_eq
  refine (lgput_ctr s x.b x.ts.length x.c x.A most S.bu S.d.length p x.ts x.M (pk x.N :: L) hx.A rfl hx.ats (by omega) (by omega) hx.c1 hx.c2 (newC_ok hx.cor hf hg nd gd) ⟨by omega, by omega⟩).post' ?_
  rintro v L' hm ⟨A', c', k, r, N, rfl, hp, hA', rfl⟩ hs
  obtain ⟨e1, e2⟩ := hx.cor.put hp
  refine ⟨_, ⟨rfl, rfl⟩, ?_⟩
  have hI : LgI ⟨A', c', x.b, putT x.ts k r, putM p false x.M, N ++ x.N⟩ (S.put p) := ⟨e1, fun o ho => ?_, ?_, fun _ => hA'⟩
  · refine en_lg ⟨A', c', x.b, putT x.ts k r, putM p false x.M, N ++ x.N⟩ rfl rfl (built := (S.bu : Int) + (r.l.length : Nat)) ?_ rfl hI (fun h s => ?_) hm hs
    · show ((S.bu + putN [p] S.ls : Nat) : Int) = _
      rw [e2]; omega
    · exact sat.cons_mono (fun _ s => sat.cons_mono (fun _ s => sat.cons_mono (fun _ s => en_two s) s) s) s
  · rcases List.mem_append.1 (show o ∈ List.replicate k none ++ some r :: x.ts.drop (k + 1) from ho) with h | h
    · rw [List.eq_of_mem_replicate h]; exact oat_none
    · rcases List.mem_cons.1 h with rfl | h
      · intro y hy
        cases hy
        exact TR.mono (fun _ s => sat_left s) hp.t
      · exact (hx.at_ o (List.mem_of_mem_drop h)).mono (fun _ s => sat_left (s.perm List.perm_append_comm))
  · exact hx.mp.new hf (putR_flat [p] S.ls)
section
variable {x : LgX} {S : LgS} {s : Nat} {most : Int} {L : List HP} (hx : LgJ x S) (h : LdN L s 0 5 (lsC x.A x.ts.length x.c x.b (S.d.length : Nat) most (S.bu : Nat))) (hM : Mp L x.b x.M)
include hx h hM
theorem JLive_ctr (hl : S.live.length + S.d.length = S.ls.flatten.length) (hb : S.ls.flatten.length ≤ 100000) : Ctr Tryz.prog 35 #[.pointer (some ⟨s, 0, none⟩)] L fun v L' => v = .int .i64 (S.live.length : Nat) ∧ L' = L := by
  have e := hx.mp.len
  have := lgLive_ctr h hM (by omega) (by omega)
  rwa [show x.M.length - S.d.length = S.live.length by omega] at this
theorem JHas_ctr (p : Pt) (nd : S.ls.flatten.Nodup) : Ctr Tryz.prog 34 #[.pointer (some ⟨s, 0, none⟩), p.v] L fun v L' => v = .bool (decide (p ∈ S.live)) ∧ L' = L := by
  have := lghas_ctr p h hM
  rwa [show decide (getM p x.M = some false) = decide (p ∈ S.live) from decide_eq_decide.2 ((hx.mp.get_false nd).trans LgS.mem_live.symm)] at this
theorem JKnown_ctr (p : Pt) (nd : S.ls.flatten.Nodup) : Ctr Tryz.prog 36 #[.pointer (some ⟨s, 0, none⟩), p.v] L fun v L' => v = .tuple #[.bool (decide (p ∈ S.d)), .bool (decide (p ∈ S.ls.flatten))] ∧ L' = L := by
  have := lgKnown_ctr p h hM
  have e1 : (getM p x.M).getD false = decide (p ∈ S.d) := by
    have h1 := hx.mp.get_true nd (p := p)
    cases hg : getM p x.M with
    | none =>
      have : p ∉ S.d := fun h => by have := h1.2 h; rw [hg] at this; cases this
      simp [this]
    | some b => cases b with
      | false =>
        have : p ∉ S.d := fun h => by have := h1.2 h; rw [hg] at this; cases this
        simp [this]
      | true => simp [h1.1 hg]
  have e2 : (getM p x.M).isSome = decide (p ∈ S.ls.flatten) := by
    have h1 := hx.mp.get_some (p := p)
    by_cases h2 : p ∈ S.ls.flatten
    · rw [decide_eq_true h2]; exact h1.2 h2
    · rw [decide_eq_false h2]
      cases hg : (getM p x.M).isSome with
      | false => rfl
      | true => exact absurd (h1.1 hg) h2
  rwa [e1, e2] at this
end
theorem LgOk.ll {S : LgS} {m : Nat} (h : LgOk S m) (hm : m ≤ 600) : S.ls.length ≤ 10 := lv_le h.lv hm
theorem LgInsert_ctr (s : Nat) (most : Int) (S : LgS) (p : Pt) (m : Nat) (L : List HP) (ok : LgOk S m) (hm : m ≤ 300) :
    Ctr Tryz.prog 9 #[.pointer (some ⟨s, 0, none⟩), p.v] (lgF s most S :: L) fun v L' => v = .int .i64 (insC most S.live p) ∧ L' = lgF s most (S.ins most p) :: L := by
  refine Ctr.lg fun x hx => ?_
  have k0 := KGood_ctr p
  have hll := ok.live_len
  have htot := ok.tot
  have hbt := ok.bt
  have hl10 := ok.ll (by omega)
  have hlive := fun M h1 h2 => JLive_ctr (s := s) (most := most) (L := M) hx h1 h2 hll (by omega)
  have hhas := fun M h1 h2 => JHas_ctr (s := s) (most := most) (L := M) hx h1 h2 p ok.nd
  have hkn := fun M h1 h2 => JKnown_ctr (s := s) (most := most) (L := M) hx h1 h2 p ok.nd
  have hpl : p ∈ S.live ↔ p ∈ S.ls.flatten ∧ p ∉ S.d := LgS.mem_live
  unfold LgS.ins insC
  cases hg : goodP p with
  | false =>
    rw [hg] at k0
    rw [if_pos rfl, if_neg (by decide)]
    refine Ctr_of (fn := Tryz.f9) (n := 49) Tryz.func9 rfl rfl rfl ?_
    intro g F
    refine GN ?_
    refine G_region ?_
    refine GE (eff_box rfl) ?_; rintro _ _ ⟨b3, rfl, rfl⟩
    refine GQ (ev_assign rfl) ?_
    refine GO_nil ?_
    refine GN ?_
    refine GN ?_
    refine G_region ?_
    refine GQ (ev_move rfl) ?_
    (first | refine GQ (ev_eqlNil rfl rfl) ?_ | refine GQ (ev_eqlPtr rfl rfl) ?_)
    refine GQ (ev_move rfl) ?_
    refine GO_yes rfl rfl rfl rfl ?_
    refine GQ (ev_loadN rfl LnA) ?_
    refine GO_yes rfl rfl rfl rfl ?_
    refine GE (eff_call rfl (k0 _)) ?_; rintro _ _ ⟨rfl, rfl⟩
    refine GO_yes rfl rfl rfl rfl ?_
    refine GQ (ev_not rfl) ?_
    refine GQ (ev_pick_f rfl rfl rfl) ?_
    refine GQ (ev_assign rfl) ?_
    refine GO_nil ?_
    refine GN ?_
    refine G_cond_t rfl rfl ?_
    refine GN ?_
    refine G_region ?_
    refine GQ (ev_assign rfl) ?_
    refine GO_nil ?_
    refine GN ?_
    exact G_ret (L' := lgF s most S :: L) rfl (.tmp rfl .nil) (by (repeat first | exact en_refl | refine en_lg x rfl rfl rfl rfl hx.toLgI ?_ | (apply en_blk; focus ((repeat' first | exact Pick.here | apply Pick.skip | apply Pick.app); done); focus rfl) | (apply en_own; focus ((repeat' first | exact Pick.here | apply Pick.skip | apply Pick.app); done); focus rfl) | (apply en_pick; focus ((repeat' first | exact Pick.here | apply Pick.skip | apply Pick.app); done)) | apply en_drop | apply en_app) <;> fail) ⟨rfl, rfl⟩
  | true =>
    rw [hg] at k0
    rw [if_neg (by decide)]
    by_cases hp : p ∈ S.live
    · rw [decide_eq_true hp] at hhas
      rw [if_pos hp, if_neg (by decide)]
      refine Ctr_of (fn := Tryz.f9) (n := 49) Tryz.func9 rfl rfl rfl ?_
      intro g F
      refine GN ?_
      refine G_region ?_
      refine GE (eff_box rfl) ?_; rintro _ _ ⟨b3, rfl, rfl⟩
      refine GQ (ev_assign rfl) ?_
      refine GO_nil ?_
      refine GN ?_
      refine GN ?_
      refine G_region ?_
      refine GQ (ev_move rfl) ?_
      (first | refine GQ (ev_eqlNil rfl rfl) ?_ | refine GQ (ev_eqlPtr rfl rfl) ?_)
      refine GQ (ev_move rfl) ?_
      refine GO_yes rfl rfl rfl rfl ?_
      refine GQ (ev_loadN rfl LnA) ?_
      refine GO_yes rfl rfl rfl rfl ?_
      refine GE (eff_call rfl (k0 _)) ?_; rintro _ _ ⟨rfl, rfl⟩
      refine GO_yes rfl rfl rfl rfl ?_
      refine GQ (ev_not rfl) ?_
      refine GQ (ev_pick_f rfl rfl rfl) ?_
      refine GQ (ev_assign rfl) ?_
      refine GO_nil ?_
      refine GN ?_
      refine G_cond_f rfl rfl ?_
      refine GN ?_
      refine G_region ?_
      refine GQ (ev_move rfl) ?_
      refine GQ (ev_loadN rfl LnA) ?_
      refine GE (eff_call rfl (hhas _ LnA (by repeat' first | exact Mp.here | apply Mp.skip))) ?_; rintro _ _ ⟨rfl, rfl⟩
      refine GQ (ev_assign rfl) ?_
      refine GO_nil ?_
      refine GN ?_
      refine G_cond_t rfl rfl ?_
      refine GN ?_
      refine G_region ?_
      refine GQ (ev_assign rfl) ?_
      refine GO_nil ?_
      refine GN ?_
      exact G_ret (L' := lgF s most S :: L) rfl (.tmp rfl .nil) (by (repeat first | exact en_refl | refine en_lg x rfl rfl rfl rfl hx.toLgI ?_ | (apply en_blk; focus ((repeat' first | exact Pick.here | apply Pick.skip | apply Pick.app); done); focus rfl) | (apply en_own; focus ((repeat' first | exact Pick.here | apply Pick.skip | apply Pick.app); done); focus rfl) | (apply en_pick; focus ((repeat' first | exact Pick.here | apply Pick.skip | apply Pick.app); done)) | apply en_drop | apply en_app) <;> fail) ⟨rfl, rfl⟩
    · rw [decide_eq_false hp] at hhas
      rw [if_neg hp]
      by_cases hf : most ≤ S.live.length
      · rw [if_pos hf, if_neg (by decide)]
        refine Ctr_of (fn := Tryz.f9) (n := 49) Tryz.func9 rfl rfl rfl ?_
        intro g F
        refine GN ?_
        refine G_region ?_
        refine GE (eff_box rfl) ?_; rintro _ _ ⟨b3, rfl, rfl⟩
        refine GQ (ev_assign rfl) ?_
        refine GO_nil ?_
        refine GN ?_
        refine GN ?_
        refine G_region ?_
        refine GQ (ev_move rfl) ?_
        (first | refine GQ (ev_eqlNil rfl rfl) ?_ | refine GQ (ev_eqlPtr rfl rfl) ?_)
        refine GQ (ev_move rfl) ?_
        refine GO_yes rfl rfl rfl rfl ?_
        refine GQ (ev_loadN rfl LnA) ?_
        refine GO_yes rfl rfl rfl rfl ?_
        refine GE (eff_call rfl (k0 _)) ?_; rintro _ _ ⟨rfl, rfl⟩
        refine GO_yes rfl rfl rfl rfl ?_
        refine GQ (ev_not rfl) ?_
        refine GQ (ev_pick_f rfl rfl rfl) ?_
        refine GQ (ev_assign rfl) ?_
        refine GO_nil ?_
        refine GN ?_
        refine G_cond_f rfl rfl ?_
        refine GN ?_
        refine G_region ?_
        refine GQ (ev_move rfl) ?_
        refine GQ (ev_loadN rfl LnA) ?_
        refine GE (eff_call rfl (hhas _ LnA (by repeat' first | exact Mp.here | apply Mp.skip))) ?_; rintro _ _ ⟨rfl, rfl⟩
        refine GQ (ev_assign rfl) ?_
        refine GO_nil ?_
        refine GN ?_
        refine G_cond_f rfl rfl ?_
        refine GN ?_
        refine G_draw (.q 0 (.q 2 (.q 3 (.q 4 (.q 5 (.e 1 (.q 6 (.q 7 .nil)))))))) (by kernel_rfl) (by kernel_rfl) ?_
        refine RM rfl (ev_move rfl) ?_
        refine RM rfl (ev_move rfl) ?_
        (first | refine RM rfl (ev_nilCheck rfl) ?_ | refine RM rfl (ev_nilCheckF (by simp) rfl) ?_)
        refine RM rfl (ev_fieldAddr rfl) ?_
        refine RQ rfl (ev_load rfl LdA) ?_
        refine RS_e (RE_eff rfl rfl rfl (eff_call rfl (hlive _ LnA (by repeat' first | exact Mp.here | apply Mp.skip))) ?_); rintro _ _ ⟨rfl, rfl⟩; refine ⟨_, fun _ s => s, ExA, ?_⟩
        refine RM rfl (ev_geq rfl rfl) ?_
        refine RM rfl (ev_assign rfl) ?_
        refine RS_nil ?_
        refine GN ?_
        refine G_cond_t rfl (decide_eq_true hf) ?_
        refine GN ?_
        refine G_region ?_
        refine GQ (ev_assign rfl) ?_
        refine GO_nil ?_
        refine GN ?_
        exact G_ret (L' := lgF s most S :: L) rfl (.tmp rfl .nil) (by (repeat first | exact en_refl | refine en_lg x rfl rfl rfl rfl hx.toLgI ?_ | (apply en_blk; focus ((repeat' first | exact Pick.here | apply Pick.skip | apply Pick.app); done); focus rfl) | (apply en_own; focus ((repeat' first | exact Pick.here | apply Pick.skip | apply Pick.app); done); focus rfl) | (apply en_pick; focus ((repeat' first | exact Pick.here | apply Pick.skip | apply Pick.app); done)) | apply en_drop | apply en_app) <;> fail) ⟨rfl, rfl⟩
      · rw [if_neg hf, if_pos rfl]
        by_cases hd : p ∈ S.d
        · rw [if_pos hd]
          rw [decide_eq_true hd] at hkn
          have hback := hx.mp.back ((hx.mp.get_true ok.nd).2 hd)
          have hpos := List.length_pos_of_mem hd
          have hdl := List.length_erase_of_mem hd
          refine Ctr_of (fn := Tryz.f9) (n := 49) Tryz.func9 rfl rfl rfl ?_
          intro g F
          refine GN ?_
          refine G_region ?_
          refine GE (eff_box rfl) ?_; rintro _ _ ⟨b3, rfl, rfl⟩
          refine GQ (ev_assign rfl) ?_
          refine GO_nil ?_
          refine GN ?_
          refine GN ?_
          refine G_region ?_
          refine GQ (ev_move rfl) ?_
          (first | refine GQ (ev_eqlNil rfl rfl) ?_ | refine GQ (ev_eqlPtr rfl rfl) ?_)
          refine GQ (ev_move rfl) ?_
          refine GO_yes rfl rfl rfl rfl ?_
          refine GQ (ev_loadN rfl LnA) ?_
          refine GO_yes rfl rfl rfl rfl ?_
          refine GE (eff_call rfl (k0 _)) ?_; rintro _ _ ⟨rfl, rfl⟩
          refine GO_yes rfl rfl rfl rfl ?_
          refine GQ (ev_not rfl) ?_
          refine GQ (ev_pick_f rfl rfl rfl) ?_
          refine GQ (ev_assign rfl) ?_
          refine GO_nil ?_
          refine GN ?_
          refine G_cond_f rfl rfl ?_
          refine GN ?_
          refine G_region ?_
          refine GQ (ev_move rfl) ?_
          refine GQ (ev_loadN rfl LnA) ?_
          refine GE (eff_call rfl (hhas _ LnA (by repeat' first | exact Mp.here | apply Mp.skip))) ?_; rintro _ _ ⟨rfl, rfl⟩
          refine GQ (ev_assign rfl) ?_
          refine GO_nil ?_
          refine GN ?_
          refine G_cond_f rfl rfl ?_
          refine GN ?_
          refine G_draw (.q 0 (.q 2 (.q 3 (.q 4 (.q 5 (.e 1 (.q 6 (.q 7 .nil)))))))) (by kernel_rfl) (by kernel_rfl) ?_
          refine RM rfl (ev_move rfl) ?_
          refine RM rfl (ev_move rfl) ?_
          (first | refine RM rfl (ev_nilCheck rfl) ?_ | refine RM rfl (ev_nilCheckF (by simp) rfl) ?_)
          refine RM rfl (ev_fieldAddr rfl) ?_
          refine RQ rfl (ev_load rfl LdA) ?_
          refine RS_e (RE_eff rfl rfl rfl (eff_call rfl (hlive _ LnA (by repeat' first | exact Mp.here | apply Mp.skip))) ?_); rintro _ _ ⟨rfl, rfl⟩; refine ⟨_, fun _ s => s, ExA, ?_⟩
          refine RM rfl (ev_geq rfl rfl) ?_
          refine RM rfl (ev_assign rfl) ?_
          refine RS_nil ?_
          refine GN ?_
          refine G_cond_f rfl (decide_eq_false hf) ?_
          refine GN ?_
          refine GN ?_
          refine G_region ?_
          refine GQ (ev_move rfl) ?_
          refine GQ (ev_loadN rfl LnA) ?_
          refine GE (eff_call rfl (hkn _ LnA (by repeat' first | exact Mp.here | apply Mp.skip))) ?_; rintro _ _ ⟨rfl, rfl⟩
          refine GQ (ev_move rfl) ?_
          refine GQ (ev_extract rfl rfl) ?_
          refine GQ (ev_extract rfl rfl) ?_
          refine GQ (ev_assign rfl) ?_
          refine GQ (ev_assign rfl) ?_
          refine GO_nil ?_
          refine GN ?_
          refine G_region ?_
          refine GQ (ev_move rfl) ?_
          refine GO_nil ?_
          refine GN ?_
          refine G_cond_t rfl rfl ?_
          refine GN ?_
          refine G_draw (.q 0 (.q 1 (.q 2 (.q 3 (.q 4 (.e 5 .nil)))))) (by kernel_rfl) (by kernel_rfl) ?_
          refine RM rfl (ev_move rfl) ?_
          (first | refine RM rfl (ev_nilCheck rfl) ?_ | refine RM rfl (ev_nilCheckF (by simp) rfl) ?_)
          refine RM rfl (ev_fieldAddr rfl) ?_
          refine RQ rfl (ev_load rfl LdA) ?_
          refine RQ rfl (ev_loadN rfl LnA) ?_
          refine RS_e (RE_last (by kernel_rfl) rfl rfl rfl (eff_mapUpdate rfl rfl rfl PkA) ?_); rintro _ _ ⟨rfl, rfl⟩
          refine GN ?_
          refine G_region ?_
          refine GQ (ev_move rfl) ?_
          (first | refine GQ (ev_nilCheck rfl) ?_ | refine GQ (ev_nilCheckF (by simp) rfl) ?_)
          refine GQ (ev_fieldAddr rfl) ?_
          refine GQ (ev_load rfl LdA) ?_
          (first | refine GQ (ev_subN (q := 1) rfl rfl NgA) ?_ | refine GQ (ev_sub rfl rfl NgA) ?_)
          (first | refine GQ (ev_nilCheck rfl) ?_ | refine GQ (ev_nilCheckF (by simp) rfl) ?_)
          refine GQ (ev_fieldAddr rfl) ?_
          refine GE (eff_store rfl rfl rfl UpA) ?_; rintro _ _ ⟨rfl, rfl⟩
          refine GO_nil ?_
          refine GN ?_
          refine G_region ?_
          refine GQ (ev_assign rfl) ?_
          refine GO_nil ?_
          refine GN ?_
          have hI : LgI ⟨x.A, x.c, x.b, x.ts, putM p false x.M, x.N⟩ ⟨S.ls, S.d.erase p, S.bu⟩ := ⟨hx.cor, hx.at_, hback, hx.A⟩
          exact G_ret (L' := lgF s most ⟨S.ls, S.d.erase p, S.bu⟩ :: L) rfl (.tmp rfl .nil) (by (repeat first | exact en_refl | refine en_lg ⟨x.A, x.c, x.b, x.ts, putM p false x.M, x.N⟩ rfl (gone := ((S.d.length - 1 : Nat) : Int)) (by show ((S.d.erase p).length : Int) = _; omega) rfl rfl hI ?_ | (apply en_blk; focus ((repeat' first | exact Pick.here | apply Pick.skip | apply Pick.app); done); focus rfl) | (apply en_own; focus ((repeat' first | exact Pick.here | apply Pick.skip | apply Pick.app); done); focus rfl) | (apply en_pick; focus ((repeat' first | exact Pick.here | apply Pick.skip | apply Pick.app); done)) | apply en_drop | apply en_app) <;> fail) ⟨rfl, rfl⟩
        · rw [if_neg hd]
          rw [decide_eq_false hd] at hkn
          have hput := fun M => lgPut_ctr s most S p M (fun h => hp (hpl.2 ⟨h, hd⟩)) hg ok.nd ok.gd (by omega) (by omega) (by omega)
          refine Ctr_of (fn := Tryz.f9) (n := 49) Tryz.func9 rfl rfl rfl ?_
          intro g F
          refine GN ?_
          refine G_region ?_
          refine GE (eff_box rfl) ?_; rintro _ _ ⟨b3, rfl, rfl⟩
          refine GQ (ev_assign rfl) ?_
          refine GO_nil ?_
          refine GN ?_
          refine GN ?_
          refine G_region ?_
          refine GQ (ev_move rfl) ?_
          (first | refine GQ (ev_eqlNil rfl rfl) ?_ | refine GQ (ev_eqlPtr rfl rfl) ?_)
          refine GQ (ev_move rfl) ?_
          refine GO_yes rfl rfl rfl rfl ?_
          refine GQ (ev_loadN rfl LnA) ?_
          refine GO_yes rfl rfl rfl rfl ?_
          refine GE (eff_call rfl (k0 _)) ?_; rintro _ _ ⟨rfl, rfl⟩
          refine GO_yes rfl rfl rfl rfl ?_
          refine GQ (ev_not rfl) ?_
          refine GQ (ev_pick_f rfl rfl rfl) ?_
          refine GQ (ev_assign rfl) ?_
          refine GO_nil ?_
          refine GN ?_
          refine G_cond_f rfl rfl ?_
          refine GN ?_
          refine G_region ?_
          refine GQ (ev_move rfl) ?_
          refine GQ (ev_loadN rfl LnA) ?_
          refine GE (eff_call rfl (hhas _ LnA (by repeat' first | exact Mp.here | apply Mp.skip))) ?_; rintro _ _ ⟨rfl, rfl⟩
          refine GQ (ev_assign rfl) ?_
          refine GO_nil ?_
          refine GN ?_
          refine G_cond_f rfl rfl ?_
          refine GN ?_
          refine G_draw (.q 0 (.q 2 (.q 3 (.q 4 (.q 5 (.e 1 (.q 6 (.q 7 .nil)))))))) (by kernel_rfl) (by kernel_rfl) ?_
          refine RM rfl (ev_move rfl) ?_
          refine RM rfl (ev_move rfl) ?_
          (first | refine RM rfl (ev_nilCheck rfl) ?_ | refine RM rfl (ev_nilCheckF (by simp) rfl) ?_)
          refine RM rfl (ev_fieldAddr rfl) ?_
          refine RQ rfl (ev_load rfl LdA) ?_
          refine RS_e (RE_eff rfl rfl rfl (eff_call rfl (hlive _ LnA (by repeat' first | exact Mp.here | apply Mp.skip))) ?_); rintro _ _ ⟨rfl, rfl⟩; refine ⟨_, fun _ s => s, ExA, ?_⟩
          refine RM rfl (ev_geq rfl rfl) ?_
          refine RM rfl (ev_assign rfl) ?_
          refine RS_nil ?_
          refine GN ?_
          refine G_cond_f rfl (decide_eq_false hf) ?_
          refine GN ?_
          refine GN ?_
          refine G_region ?_
          refine GQ (ev_move rfl) ?_
          refine GQ (ev_loadN rfl LnA) ?_
          refine GE (eff_call rfl (hkn _ LnA (by repeat' first | exact Mp.here | apply Mp.skip))) ?_; rintro _ _ ⟨rfl, rfl⟩
          refine GQ (ev_move rfl) ?_
          refine GQ (ev_extract rfl rfl) ?_
          refine GQ (ev_extract rfl rfl) ?_
          refine GQ (ev_assign rfl) ?_
          refine GQ (ev_assign rfl) ?_
          refine GO_nil ?_
          refine GN ?_
          refine G_region ?_
          refine GQ (ev_move rfl) ?_
          refine GO_nil ?_
          refine GN ?_
          refine G_cond_f rfl rfl ?_
          refine G_heap (L' := lgF s most S :: blk b3 28 [.int .i64 p.id, .int .i64 p.x, .int .i64 p.y] :: F :: L) (by (repeat first | exact en_refl | refine en_lg x rfl rfl rfl rfl hx.toLgI ?_ | (apply en_blk; focus ((repeat' first | exact Pick.here | apply Pick.skip | apply Pick.app); done); focus rfl) | (apply en_own; focus ((repeat' first | exact Pick.here | apply Pick.skip | apply Pick.app); done); focus rfl) | (apply en_pick; focus ((repeat' first | exact Pick.here | apply Pick.skip | apply Pick.app); done)) | apply en_drop | apply en_app) <;> fail) ?_
          refine GN ?_
          refine G_region ?_
          refine GQ (ev_move rfl) ?_
          refine GQ (ev_loadN rfl LnA) ?_
          refine GE (eff_call rfl (hput _)) ?_; rintro _ _ ⟨rfl, rfl⟩
          refine GO_nil ?_
          refine GN ?_
          refine G_region ?_
          refine GQ (ev_assign rfl) ?_
          refine GO_nil ?_
          refine GN ?_
          exact G_ret (L' := lgF s most (S.put p) :: L) rfl (.tmp rfl .nil) EpA ⟨rfl, rfl⟩
theorem lganew_ctr (s : Nat) (most : Int) (S : LgS) (m : Nat) (L : List HP) (nd : S.ls.flatten.Nodup) (gd : ∀ q ∈ S.ls.flatten, goodP q = true) (ht : S.ls.flatten.length ≤ m) (hm : m ≤ 300) (hb : S.bu ≤ 100000000) :
    Ctr Tryz.prog 60 #[.pointer (some ⟨s, 0, none⟩)] (lgF s most S :: L) fun v L' => v = .tuple #[] ∧ L' = lgF s most S.anew :: L := by
  refine Ctr.lg fun x hx => ?_
  have hml := hx.mp.len
  have hal := fun M h => lgAll_ctr s x.b x.ts.length x.c x.A most S.bu S.d.length x.M M h (by omega)
  have e0 : srtO Pt.less (alv x.M) = S.live := srtO_eq sto_less (srtO_sorted sto_less _) ((srtO_perm _).trans (hx.mp.alv nd))
  rw [e0] at hal
  have hln : S.live.Nodup := (srtO_perm _).nodup_iff.2 (nd.filter _)
  have hll : S.live.length ≤ m := by
    have : S.live.length ≤ S.ls.flatten.length := by unfold LgS.live; rw [srtO_length]; exact List.length_filter_le ..
    omega
  have hlg : ∀ q ∈ S.live, goodP q = true := fun q hq => gd q (LgS.mem_live.1 hq).1
  unfold LgS.anew
  generalize S.live = l at *
  refine Ctr_of (fn := Tryz.f60) (n := 27) Tryz.func60 rfl rfl rfl ?_
  intro g F
  refine GN ?_
  refine G_region ?_
  refine GQ (ev_move rfl) ?_
  refine GE (eff_call rfl (Ctr.pick PkA (hal _ LnA))) ?_; rintro _ _ ⟨A1, d1, rfl, hA1, rfl⟩
  refine GQ (ev_assign rfl) ?_
  refine GO_nil ?_
  refine GN ?_
  refine G_region ?_
  refine GQ (ev_move rfl) ?_
  refine GQ (ev_move rfl) ?_
  (first | refine GQ (ev_nilCheck rfl) ?_ | refine GQ (ev_nilCheckF (by simp) rfl) ?_)
  refine GQ (ev_fieldAddr rfl) ?_
  refine GE (eff_store rfl rfl rfl UpA) ?_; rintro _ _ ⟨rfl, rfl⟩
  (first | refine GQ (ev_nilCheck rfl) ?_ | refine GQ (ev_nilCheckF (by simp) rfl) ?_)
  refine GQ (ev_fieldAddr rfl) ?_
  refine GE (eff_store rfl rfl rfl UpA) ?_; rintro _ _ ⟨rfl, rfl⟩
  refine GO_nil ?_
  refine GN ?_
  refine G_region ?_
  refine GQ (ev_move rfl) ?_
  (first | refine GQ (ev_nilCheck rfl) ?_ | refine GQ (ev_nilCheckF (by simp) rfl) ?_)
  refine GQ (ev_fieldAddr rfl) ?_
  refine GQ (ev_load rfl LdA) ?_
  refine GE (eff_clearM rfl PkA) ?_; rintro _ _ ⟨rfl, rfl⟩
  refine GO_nil ?_
  refine GN ?_
  refine G_region ?_
  refine GQ (ev_move rfl) ?_
  refine GQ (ev_len rfl) ?_
  refine GQ (ev_move rfl) ?_
  refine GO_nil ?_
  refine GN ?_
  have hz : LgI ⟨none, 0, x.b, [], [], []⟩ ⟨[], [], S.bu⟩ := ⟨rfl, by simp, ⟨.refl _, .refl _⟩, fun h => absurd h (Nat.lt_irrefl 0)⟩
  refine G_heap (own.nil_ 63 1) ?_
  refine G_loop (ι := Nat) (fun i => [(0, .pointer (some ⟨s, 0, none⟩)), (17, .slice A1 l.length d1), (18, .int .i64 (l.length : Nat)), (19, .int .i64 (i : Nat))]) (fun i => lgF s most ((l.take i).foldl LgS.put ⟨[], [], S.bu⟩) :: own 28 3 A1 l.length d1 (flat l) :: F :: L) (fun i => i ≤ l.length) (fun i => l.length - i) 0 (Nat.zero_le _) ⟨rfl, rfl, rfl, rfl, trivial⟩ (by (repeat first | exact en_refl | refine en_lg ⟨none, 0, x.b, [], [], []⟩ rfl (gone := 0) rfl rfl rfl hz ?_ | apply en_pk0 | (apply en_blk; focus ((repeat' first | exact Pick.here | apply Pick.skip | apply Pick.app); done); focus rfl) | (apply en_own; focus ((repeat' first | exact Pick.here | apply Pick.skip | apply Pick.app); done); focus rfl) | (apply en_pick; focus ((repeat' first | exact Pick.here | apply Pick.skip | apply Pick.app); done)) | apply en_drop | apply en_app) <;> fail) ?_
  rintro i hi
  refine GN ?_
  refine G_region ?_
  (first | refine GQ (ev_lssN rfl rfl) ?_ | refine GQ (ev_lss rfl rfl) ?_)
  refine GO_nil ?_
  refine GN ?_
  refine G_cond rfl (fun c1 => ?_) (fun c1 => ?_)
  · obtain ⟨ab, rfl⟩ := hA1 (by omega)
    have g1 : l[i]? = some l[i] := List.getElem?_eq_getElem (by omega)
    have s1 : l.take (i + 1) = l.take i ++ [l[i]] := List.take_succ_eq_append_getElem (by omega)
    have hq : ∀ X, Rd (own 28 3 (some ⟨ab, 0, none⟩) l.length d1 (flat l) :: X) (some ⟨ab, 0, none⟩) l.length l := fun X => Rc.own (flat_length _) (fun _ => ⟨ab, rfl⟩)
    have z1 : ∀ X, LdN (own 28 3 (some ⟨ab, 0, none⟩) l.length d1 (flat l) :: X) ab (0 + i * 3) 3 [.int .i64 l[i].id, .int .i64 l[i].x, .int .i64 l[i].y] := fun X => ld_ownP rfl g1 X
    have htk : (l.take i).Sublist l := List.take_sublist _ _
    have hf := fold_put (l.take i) ⟨[], [], S.bu⟩ m trivial (by simpa using htk.nodup hln) (fun q h => hlg q (htk.subset (by simpa using h))) rfl (by simp; omega) (.inl rfl)
    have hnew : l[i] ∉ l.take i := fun h => by
      have := hln
      rw [← List.take_append_drop i l, List.nodup_append] at this
      exact this.2.2 _ h l[i] (by rw [← List.getElem_cons_drop (show i < l.length by omega)]; exact List.mem_cons_self) rfl
    have hgi := hlg l[i] (List.getElem_mem _)
    have htl : (l.take i).length = i := by rw [List.length_take]; omega
    have sf : (l.take (i + 1)).foldl LgS.put ⟨[], [], S.bu⟩ = ((l.take i).foldl LgS.put ⟨[], [], S.bu⟩).put l[i] := by rw [s1, List.foldl_append]; rfl
    rw [htl] at hf
    have htn := htk.nodup hln
    have htg : ∀ q ∈ l.take i, goodP q = true := fun q h => hlg q (htk.subset h)
    generalize (l.take i).foldl LgS.put ⟨[], [], S.bu⟩ = S1 at *
    obtain ⟨q1, q2, q3, q4, q5⟩ := hf
    simp only [List.flatten_nil, List.nil_append] at q2
    have q6 := q2.length_eq
    have q7 := lv_le q4 (by omega)
    have q8 : m * i ≤ 300 * 300 := Nat.mul_le_mul hm (by omega)
    generalize l[i] = p at *
    have hput := fun M => lgPut_ctr s most S1 p M (fun h => hnew (q2.mem_iff.1 h)) hgi (q2.nodup_iff.2 htn) (fun q h => htg q (q2.mem_iff.1 h)) (by omega) (by omega) (by simp only at q5; omega)
    refine GN ?_
    refine G_region ?_
    (first | refine GQ (ev_indexAddrN rfl rfl NgA) ?_ | refine GQ (ev_indexAddr rfl rfl NgA NgA) ?_)
    refine GQ (ev_loadN rfl (by repeat' first | exact z1 _ | apply LdN.skip)) ?_
    refine GE eff_alloc ?_; rintro _ _ ⟨b4, rfl, rfl⟩
    refine GE (eff_storeN rfl rfl rfl rfl UpA) ?_; rintro _ _ ⟨rfl, rfl⟩
    refine GO_nil ?_
    refine GN ?_
    refine G_region ?_
    refine GQ (ev_move rfl) ?_
    refine GQ (ev_loadN rfl LnA) ?_
    refine GE (eff_call rfl (Ctr.pick PkA (hput _))) ?_; rintro _ _ ⟨rfl, rfl⟩
    refine GO_nil ?_
    refine GN ?_
    refine G_region ?_
    (first | refine GQ (ev_addN (q := 1) rfl rfl NgA) ?_ | refine GQ (ev_add rfl rfl NgA) ?_)
    refine GQ (ev_move rfl) ?_
    refine GO_nil ?_
    refine GN ?_
    refine G_round (i + 1) (by omega) (by omega) ⟨rfl, rfl, rfl, rfl, trivial⟩ ?_
    rw [sf]
    exact EpA
  · have e : i = l.length := by omega
    subst e
    rw [List.take_length]
    refine GN ?_
    exact G_end (rs := []) (vs := []) (L' := lgF s most (l.foldl LgS.put ⟨[], [], S.bu⟩) :: L) rfl .nil EpA ⟨rfl, rfl⟩
theorem LgOk.mark_len {S : LgS} {m : Nat} {p : Pt} (h : LgOk S m) (hp : p ∈ S.live) : (S.mark p).live.length + (S.mark p).d.length = (S.mark p).ls.flatten.length := by
  have h1 := LgS.mem_live.1 hp
  refine Proofs.YtkoncepjfgnjlaaGreat.live_len (S := S.mark p) h.nd ?_ ?_
  · show (S.d ++ [p]).Nodup
    rw [(List.perm_append_singleton p S.d).nodup_iff]
    exact List.nodup_cons.2 ⟨h1.2, h.dn⟩
  · intro q hq
    rcases List.mem_append.1 (show q ∈ S.d ++ [p] from hq) with h2 | h2
    · exact h.ds q h2
    · have : q = p := by simpa using h2
      rw [this]; exact h1.1
theorem LgDelete_ctr (s : Nat) (most : Int) (S : LgS) (p : Pt) (m : Nat) (L : List HP) (ok : LgOk S m) (hm : m ≤ 300) :
    Ctr Tryz.prog 32 #[.pointer (some ⟨s, 0, none⟩), p.v] (lgF s most S :: L) fun v L' => v = .int .i64 (delC S.live p) ∧ L' = lgF s most (S.del p) :: L := by
  refine Ctr.lg fun x hx => ?_
  have hll := ok.live_len
  have htot := ok.tot
  have hbt := ok.bt
  have hl10 := ok.ll (by omega)
  have hhas := fun M h1 h2 => JHas_ctr (s := s) (most := most) (L := M) hx h1 h2 p ok.nd
  unfold LgS.del delC
  by_cases hp : p ∈ S.live
  · rw [decide_eq_true hp] at hhas
    rw [if_pos hp, if_pos hp]
    have hml := ok.mark_len hp
    have hmd : (S.mark p).d.length = S.d.length + 1 := by show (S.d ++ [p]).length = _; simp
    have hmk := hx.mp.mark ((hx.mp.get_false ok.nd).2 (LgS.mem_live.1 hp))
    have hI : LgI ⟨x.A, x.c, x.b, x.ts, putM p true x.M, x.N⟩ (S.mark p) := ⟨hx.cor, hx.at_, hmk, hx.A⟩
    have hJ : LgJ ⟨x.A, x.c, x.b, x.ts, putM p true x.M, x.N⟩ (S.mark p) := ⟨hI, hx.c1, hx.c2⟩
    have hlive := fun M h1 h2 => JLive_ctr (s := s) (most := most) (L := M) hJ h1 h2 hml (by show S.ls.flatten.length ≤ _; omega)
    rw [hmd] at hlive
    have hmf : (S.mark p).ls.flatten.length = S.ls.flatten.length := rfl
    have han := fun M => lganew_ctr s most (S.mark p) m M ok.nd ok.gd ok.tot hm (by show S.bu ≤ _; omega)
    have hpos := List.length_pos_of_mem hp
    by_cases hc : (S.mark p).d.length ≤ S.live.length - 1
    · rw [if_pos hc]
      refine Ctr_of (fn := Tryz.f32) (n := 34) Tryz.func32 rfl rfl rfl ?_
      intro g F
      refine GN ?_
      refine G_region ?_
      refine GE (eff_box rfl) ?_; rintro _ _ ⟨b3, rfl, rfl⟩
      refine GQ (ev_assign rfl) ?_
      refine GO_nil ?_
      refine GN ?_
      refine GN ?_
      refine G_region ?_
      refine GQ (ev_move rfl) ?_
      (first | refine GQ (ev_eqlNil rfl rfl) ?_ | refine GQ (ev_eqlPtr rfl rfl) ?_)
      refine GQ (ev_assign rfl) ?_
      refine GO_nil ?_
      refine GN ?_
      refine G_cond_f rfl rfl ?_
      refine GN ?_
      refine G_region ?_
      refine GQ (ev_move rfl) ?_
      refine GQ (ev_loadN rfl LnA) ?_
      refine GE (eff_call rfl (hhas _ LnA (by repeat' first | exact Mp.here | apply Mp.skip))) ?_; rintro _ _ ⟨rfl, rfl⟩
      refine GQ (ev_not rfl) ?_
      refine GQ (ev_assign rfl) ?_
      refine GO_nil ?_
      refine GN ?_
      refine G_cond_f rfl rfl ?_
      refine GN ?_
      refine G_draw (.q 0 (.q 1 (.q 2 (.q 3 (.q 4 (.e 5 .nil)))))) (by kernel_rfl) (by kernel_rfl) ?_
      refine RM rfl (ev_move rfl) ?_
      (first | refine RM rfl (ev_nilCheck rfl) ?_ | refine RM rfl (ev_nilCheckF (by simp) rfl) ?_)
      refine RM rfl (ev_fieldAddr rfl) ?_
      refine RQ rfl (ev_load rfl LdA) ?_
      refine RQ rfl (ev_loadN rfl LnA) ?_
      refine RS_e (RE_last (by kernel_rfl) rfl rfl rfl (eff_mapUpdate rfl rfl rfl PkA) ?_); rintro _ _ ⟨rfl, rfl⟩
      refine GN ?_
      refine G_region ?_
      refine GQ (ev_move rfl) ?_
      (first | refine GQ (ev_nilCheck rfl) ?_ | refine GQ (ev_nilCheckF (by simp) rfl) ?_)
      refine GQ (ev_fieldAddr rfl) ?_
      refine GQ (ev_load rfl LdA) ?_
      (first | refine GQ (ev_addN (q := 1) rfl rfl NgA) ?_ | refine GQ (ev_add rfl rfl NgA) ?_)
      (first | refine GQ (ev_nilCheck rfl) ?_ | refine GQ (ev_nilCheckF (by simp) rfl) ?_)
      refine GQ (ev_fieldAddr rfl) ?_
      refine GE (eff_store rfl rfl rfl UpA) ?_; rintro _ _ ⟨rfl, rfl⟩
      refine GO_nil ?_
      refine GN ?_
      refine G_draw (.q 0 (.q 1 (.q 2 (.q 3 (.q 4 (.e 5 (.q 6 .nil))))))) (by kernel_rfl) (by kernel_rfl) ?_
      refine RM rfl (ev_move rfl) ?_
      (first | refine RM rfl (ev_nilCheck rfl) ?_ | refine RM rfl (ev_nilCheckF (by simp) rfl) ?_)
      refine RM rfl (ev_fieldAddr rfl) ?_
      refine RQ rfl (ev_load rfl LdA) ?_
      refine RM rfl (ev_move rfl) ?_
      refine RS_e (RE_eff rfl rfl rfl (eff_call rfl (hlive _ LnA (by repeat' first | exact Mp.here | apply Mp.skip))) ?_); rintro _ _ ⟨rfl, rfl⟩; refine ⟨_, fun _ s => s, ExA, ?_⟩
      refine RM rfl (ev_gtr rfl rfl) ?_
      refine RS_nil ?_
      refine GN ?_
      refine G_cond_f rfl (decide_eq_false (by omega)) ?_
      refine GN ?_
      refine GN ?_
      refine G_region ?_
      refine GQ (ev_assign rfl) ?_
      refine GO_nil ?_
      refine GN ?_
      exact G_ret (L' := lgF s most (S.mark p) :: L) rfl (.tmp rfl .nil) (by (repeat first | exact en_refl | refine en_lg ⟨x.A, x.c, x.b, x.ts, putM p true x.M, x.N⟩ rfl (gone := ((S.d.length + 1 : Nat) : Int)) (by rw [hmd]) rfl rfl hI ?_ | (apply en_blk; focus ((repeat' first | exact Pick.here | apply Pick.skip | apply Pick.app); done); focus rfl) | (apply en_own; focus ((repeat' first | exact Pick.here | apply Pick.skip | apply Pick.app); done); focus rfl) | (apply en_pick; focus ((repeat' first | exact Pick.here | apply Pick.skip | apply Pick.app); done)) | apply en_drop | apply en_app) <;> fail) ⟨rfl, rfl⟩
    · rw [if_neg hc]
      refine Ctr_of (fn := Tryz.f32) (n := 34) Tryz.func32 rfl rfl rfl ?_
      intro g F
      refine GN ?_
      refine G_region ?_
      refine GE (eff_box rfl) ?_; rintro _ _ ⟨b3, rfl, rfl⟩
      refine GQ (ev_assign rfl) ?_
      refine GO_nil ?_
      refine GN ?_
      refine GN ?_
      refine G_region ?_
      refine GQ (ev_move rfl) ?_
      (first | refine GQ (ev_eqlNil rfl rfl) ?_ | refine GQ (ev_eqlPtr rfl rfl) ?_)
      refine GQ (ev_assign rfl) ?_
      refine GO_nil ?_
      refine GN ?_
      refine G_cond_f rfl rfl ?_
      refine GN ?_
      refine G_region ?_
      refine GQ (ev_move rfl) ?_
      refine GQ (ev_loadN rfl LnA) ?_
      refine GE (eff_call rfl (hhas _ LnA (by repeat' first | exact Mp.here | apply Mp.skip))) ?_; rintro _ _ ⟨rfl, rfl⟩
      refine GQ (ev_not rfl) ?_
      refine GQ (ev_assign rfl) ?_
      refine GO_nil ?_
      refine GN ?_
      refine G_cond_f rfl rfl ?_
      refine GN ?_
      refine G_draw (.q 0 (.q 1 (.q 2 (.q 3 (.q 4 (.e 5 .nil)))))) (by kernel_rfl) (by kernel_rfl) ?_
      refine RM rfl (ev_move rfl) ?_
      (first | refine RM rfl (ev_nilCheck rfl) ?_ | refine RM rfl (ev_nilCheckF (by simp) rfl) ?_)
      refine RM rfl (ev_fieldAddr rfl) ?_
      refine RQ rfl (ev_load rfl LdA) ?_
      refine RQ rfl (ev_loadN rfl LnA) ?_
      refine RS_e (RE_last (by kernel_rfl) rfl rfl rfl (eff_mapUpdate rfl rfl rfl PkA) ?_); rintro _ _ ⟨rfl, rfl⟩
      refine GN ?_
      refine G_region ?_
      refine GQ (ev_move rfl) ?_
      (first | refine GQ (ev_nilCheck rfl) ?_ | refine GQ (ev_nilCheckF (by simp) rfl) ?_)
      refine GQ (ev_fieldAddr rfl) ?_
      refine GQ (ev_load rfl LdA) ?_
      (first | refine GQ (ev_addN (q := 1) rfl rfl NgA) ?_ | refine GQ (ev_add rfl rfl NgA) ?_)
      (first | refine GQ (ev_nilCheck rfl) ?_ | refine GQ (ev_nilCheckF (by simp) rfl) ?_)
      refine GQ (ev_fieldAddr rfl) ?_
      refine GE (eff_store rfl rfl rfl UpA) ?_; rintro _ _ ⟨rfl, rfl⟩
      refine GO_nil ?_
      refine GN ?_
      refine G_draw (.q 0 (.q 1 (.q 2 (.q 3 (.q 4 (.e 5 (.q 6 .nil))))))) (by kernel_rfl) (by kernel_rfl) ?_
      refine RM rfl (ev_move rfl) ?_
      (first | refine RM rfl (ev_nilCheck rfl) ?_ | refine RM rfl (ev_nilCheckF (by simp) rfl) ?_)
      refine RM rfl (ev_fieldAddr rfl) ?_
      refine RQ rfl (ev_load rfl LdA) ?_
      refine RM rfl (ev_move rfl) ?_
      refine RS_e (RE_eff rfl rfl rfl (eff_call rfl (hlive _ LnA (by repeat' first | exact Mp.here | apply Mp.skip))) ?_); rintro _ _ ⟨rfl, rfl⟩; refine ⟨_, fun _ s => s, ExA, ?_⟩
      refine RM rfl (ev_gtr rfl rfl) ?_
      refine RS_nil ?_
      refine GN ?_
      refine G_cond_t rfl (decide_eq_true (by omega)) ?_
      refine G_heap (L' := lgF s most (S.mark p) :: blk b3 28 [.int .i64 p.id, .int .i64 p.x, .int .i64 p.y] :: F :: L) (by (repeat first | exact en_refl | refine en_lg ⟨x.A, x.c, x.b, x.ts, putM p true x.M, x.N⟩ rfl (gone := ((S.d.length + 1 : Nat) : Int)) (by rw [hmd]) rfl rfl hI ?_ | (apply en_blk; focus ((repeat' first | exact Pick.here | apply Pick.skip | apply Pick.app); done); focus rfl) | (apply en_own; focus ((repeat' first | exact Pick.here | apply Pick.skip | apply Pick.app); done); focus rfl) | (apply en_pick; focus ((repeat' first | exact Pick.here | apply Pick.skip | apply Pick.app); done)) | apply en_drop | apply en_app) <;> fail) ?_
      refine GN ?_
      refine G_region ?_
      refine GQ (ev_move rfl) ?_
      refine GE (eff_call rfl (han _)) ?_; rintro _ _ ⟨rfl, rfl⟩
      refine GO_nil ?_
      refine GN ?_
      refine G_region ?_
      refine GQ (ev_assign rfl) ?_
      refine GO_nil ?_
      refine GN ?_
      exact G_ret (L' := lgF s most (S.mark p).anew :: L) rfl (.tmp rfl .nil) EpA ⟨rfl, rfl⟩
  · rw [decide_eq_false hp] at hhas
    rw [if_neg hp, if_neg hp]
    refine Ctr_of (fn := Tryz.f32) (n := 34) Tryz.func32 rfl rfl rfl ?_
    intro g F
    refine GN ?_
    refine G_region ?_
    refine GE (eff_box rfl) ?_; rintro _ _ ⟨b3, rfl, rfl⟩
    refine GQ (ev_assign rfl) ?_
    refine GO_nil ?_
    refine GN ?_
    refine GN ?_
    refine G_region ?_
    refine GQ (ev_move rfl) ?_
    (first | refine GQ (ev_eqlNil rfl rfl) ?_ | refine GQ (ev_eqlPtr rfl rfl) ?_)
    refine GQ (ev_assign rfl) ?_
    refine GO_nil ?_
    refine GN ?_
    refine G_cond_f rfl rfl ?_
    refine GN ?_
    refine G_region ?_
    refine GQ (ev_move rfl) ?_
    refine GQ (ev_loadN rfl LnA) ?_
    refine GE (eff_call rfl (hhas _ LnA (by repeat' first | exact Mp.here | apply Mp.skip))) ?_; rintro _ _ ⟨rfl, rfl⟩
    refine GQ (ev_not rfl) ?_
    refine GQ (ev_assign rfl) ?_
    refine GO_nil ?_
    refine GN ?_
    refine G_cond_t rfl rfl ?_
    refine GN ?_
    refine G_region ?_
    refine GQ (ev_assign rfl) ?_
    refine GO_nil ?_
    refine GN ?_
    exact G_ret (L' := lgF s most S :: L) rfl (.tmp rfl .nil) (by (repeat first | exact en_refl | refine en_lg x rfl rfl rfl rfl hx.toLgI ?_ | (apply en_blk; focus ((repeat' first | exact Pick.here | apply Pick.skip | apply Pick.app); done); focus rfl) | (apply en_own; focus ((repeat' first | exact Pick.here | apply Pick.skip | apply Pick.app); done); focus rfl) | (apply en_pick; focus ((repeat' first | exact Pick.here | apply Pick.skip | apply Pick.app); done)) | apply en_drop | apply en_app) <;> fail) ⟨rfl, rfl⟩
end Go.Proofs.YtkoncepjfgnjlaaGreat
/- Points in several trees: what an open set tells. -/
namespace Go.Proofs.YtkoncepjfgnjlaaGreat
attribute [local irreducible] sat
open Go.RowKit
set_option linter.unusedVariables false
set_option linter.unusedSectionVars false
set_option linter.unusedSimpArgs false
set_option maxRecDepth 100000

/-- Without the last ones that are nothing. -/
def trimZ (l : List Int) : List Int := (l.reverse.dropWhile (· == 0)).reverse
theorem trimZ_zero (l : List Int) : trimZ (l ++ [0]) = trimZ l := by simp [trimZ]
theorem trimZ_some (l : List Int) {v : Int} (h : v ≠ 0) : trimZ (l ++ [v]) = l ++ [v] := by simp [trimZ, h]
def szL (ls : List (List Pt)) : List Int := ls.map fun l => ((l.length : Nat) : Int)
section
variable {x : LgX} {S : LgS} {s : Nat} {most : Int} {L : List HP} (hx : LgJ x S) (h : LdN L s 0 5 (lsC x.A x.ts.length x.c x.b (S.d.length : Nat) most (S.bu : Nat)))
include hx h
theorem JTrees_ctr (hr : Rd L x.A x.ts.length x.ts) (ht : ∀ o ∈ x.ts, oat L o) (hn : x.ts.length ≤ 1000) : Ctr Tryz.prog 25 #[.pointer (some ⟨s, 0, none⟩)] L fun v L' => Made 63 (liv x.ts) L v L' := by
  have htr := fun X h1 h2 h3 => lgtrees_ctr s x.b x.ts.length x.c x.A most S.bu S.d.length x.ts X h1 h2 h3 (by omega)
  generalize liv x.ts = xs at *
  refine Ctr_of (fn := Tryz.f25) (n := 5) Tryz.func25 rfl rfl rfl ?_
  intro g F
  refine GN ?_
  refine G_region ?_
  refine GQ (ev_assign rfl) ?_
  refine GO_nil ?_
  refine GN ?_
  refine G_region ?_
  refine GQ (ev_move rfl) ?_
  refine GE (eff_call rfl (htr _ (by repeat' first | exact h | apply LdN.skip) (by repeat' first | exact hr | apply Rd.skip) (fun o ho => by repeat' first | exact ht o ho | apply oat.skip))) ?_; rintro _ _ ⟨A2, c2, rfl, hA2, rfl⟩
  refine GQ (ev_assign rfl) ?_
  refine GO_nil ?_
  refine GN ?_
  exact G_ret (L' := own 63 1 A2 xs.length c2 (flat xs) :: L) rfl (.tmp rfl .nil) EpA ⟨A2, c2, rfl, hA2, rfl⟩
theorem JSizes_ctr (hr : Rd L x.A x.ts.length x.ts) (ht : ∀ o ∈ x.ts, oat L o) (hn : x.ts.length ≤ 1000) (hl : ∀ o ∈ x.ts, (opts o).length ≤ 1000000) : Ctr Tryz.prog 16 #[.pointer (some ⟨s, 0, none⟩)] L fun v L' => MadeY (trimZ (szL S.ls)) L v L' := by
  have h0 : Ld L ⟨s, 0 + 0, none⟩ (.slice x.A x.ts.length x.c) := h.at_ (i := 0) rfl
  have hsz : szL S.ls = x.ts.map fun o => (((opts o).length : Nat) : Int) := by
    have e : (x.ts.map opts).map (fun l : List Pt => ((l.length : Nat) : Int)) = (S.ls.map (srtO Pt.less)).map fun l => ((l.length : Nat) : Int) := by rw [show x.ts.map opts = _ from hx.cor]
    rw [List.map_map, List.map_map] at e
    unfold szL
    rw [show (fun o => (((opts o).length : Nat) : Int)) = (fun l : List Pt => ((l.length : Nat) : Int)) ∘ opts from rfl, e]
    apply List.map_congr_left
    intro l _
    simp [srtO_length]
  rw [hsz]
  clear hsz
  generalize hts : x.ts = ts at *
  generalize hA : x.A = A at *
  generalize hc : x.c = c at *
  obtain ⟨n, hn'⟩ : ∃ n, ts.length = n := ⟨_, rfl⟩
  rw [hn'] at hr hn h h0
  refine Ctr_of (fn := Tryz.f16) (n := 41) Tryz.func16 rfl rfl rfl ?_
  intro g F
  refine GN ?_
  refine G_region ?_
  refine GQ (ev_assign rfl) ?_
  refine GO_nil ?_
  refine GN ?_
  refine G_region ?_
  refine GQ (ev_assign rfl) ?_
  refine GO_nil ?_
  refine GN ?_
  refine G_region ?_
  refine GQ (ev_move rfl) ?_
  (first | refine GQ (ev_eqlNil rfl rfl) ?_ | refine GQ (ev_eqlPtr rfl rfl) ?_)
  refine GO_nil ?_
  refine GN ?_
  refine G_cond_f rfl rfl ?_
  refine GN ?_
  refine G_region ?_
  refine GQ (ev_move rfl) ?_
  (first | refine GQ (ev_nilCheck rfl) ?_ | refine GQ (ev_nilCheckF (by simp) rfl) ?_)
  refine GQ (ev_fieldAddr rfl) ?_
  refine GQ (ev_load rfl LdA) ?_
  refine GQ (ev_len rfl) ?_
  refine GQ (ev_move rfl) ?_
  refine GO_nil ?_
  (repeat first | refine G_seq ?_ | refine G_skip ?_ | refine G_endblk ?_)
  refine G_heap (own.nil_ 3 1) ?_
  refine G_cut (ι := Option Addr × Nat) (fun y => [(3, .slice y.1 n y.2)]) (fun y => own 3 1 y.1 n y.2 (flat (ts.map fun o => (((opts o).length : Nat) : Int))) :: F :: L) (fun y => 0 < n → ∃ b, y.1 = some ⟨b, 0, none⟩) ?_ ?_
  · refine GN ?_
    refine G_loop (ι := Nat × Option Addr × Nat) (fun y => [(3, .slice y.2.1 y.1 y.2.2), (11, .slice A n c), (12, .int .i64 (n : Nat)), (13, .int .i64 (y.1 : Nat))]) (fun y => own 3 1 y.2.1 y.1 y.2.2 (flat ((ts.take y.1).map fun o => (((opts o).length : Nat) : Int))) :: F :: L)
      (fun y => y.1 ≤ n ∧ (0 < y.1 → ∃ b, y.2.1 = some ⟨b, 0, none⟩) ∧ y.1 ≤ y.2.2 ∧ y.2.2 ≤ maxLen) (fun y => n - y.1) (0, none, 0) ⟨Nat.zero_le _, (fun h => absurd h (Nat.lt_irrefl 0)), Nat.le_refl _, Nat.zero_le _⟩ ⟨rfl, rfl, rfl, rfl, trivial⟩ EpA ?_
    rintro ⟨k, B, d⟩ ⟨f1, f2, f3, f4⟩
    simp only at f1 f2 f3 f4
    dsimp only
    refine GN ?_
    refine G_region ?_
    (first | refine GQ (ev_lssN rfl rfl) ?_ | refine GQ (ev_lss rfl rfl) ?_)
    refine GO_nil ?_
    refine GN ?_
    refine G_cond rfl (fun c1 => ?_) (fun c1 => ?_)
    · obtain ⟨lb, lo, rfl, hxx⟩ := hr.at_ (by omega)
      have g1 : ts[k]? = some ts[k] := List.getElem?_eq_getElem (by omega)
      have y1 := (hxx _ _ g1).at_ (i := 0) rfl
      have s1 : (ts.take (k + 1)).map (fun o => (((opts o).length : Nat) : Int)) = (ts.take k).map (fun o => (((opts o).length : Nat) : Int)) ++ [(((opts ts[k]).length : Nat) : Int)] := by
        rw [List.take_succ_eq_append_getElem (by omega), List.map_append]; rfl
      have o1 := ht ts[k] (List.getElem_mem _)
      have o2 := hl ts[k] (List.getElem_mem _)
      rw [show ((ts.take k).map fun o => (((opts o).length : Nat) : Int)) = (ts.take k).map (fun o => (((opts o).length : Nat) : Int)) from rfl]
      generalize ts[k] = o at *
      have z1 : Ld L ⟨lb, lo + k * 1, none⟩ (.pointer (oaddr o)) := y1
      have hL := fun M hM => oLen_ctr o M hM
      refine GN ?_
      refine G_region ?_
      (first | refine GQ (ev_indexAddrN rfl rfl NgA) ?_ | refine GQ (ev_indexAddr rfl rfl NgA NgA) ?_)
      refine GQ (ev_load rfl LdA) ?_
      refine GQ (ev_assign rfl) ?_
      refine GO_nil ?_
      refine GN ?_
      refine G_region ?_
      refine GQ (ev_move rfl) ?_
      refine GQ (ev_move rfl) ?_
      refine GE (eff_call rfl (hL _ (by repeat' first | exact o1 | apply oat.skip))) ?_; rintro _ _ ⟨rfl, rfl⟩
      refine GE (eff_buildSlice1 (by rfl) rfl rfl) ?_; rintro _ _ ⟨b20, rfl, rfl⟩
      refine GE (eff_append rfl rfl PkA (by repeat' first | exact Rc.blk rfl | assumption | apply Rc.skip) (one_all rfl) (by rfl) (by decide) NgA NgA) ?_; rintro _ _ ⟨A21, c21, rfl, hc21, hm21, hn21, rfl⟩
      refine GQ (ev_assign rfl) ?_
      refine GO_nil ?_
      refine GN ?_
      refine G_region ?_
      (first | refine GQ (ev_addN (q := 1) rfl rfl NgA) ?_ | refine GQ (ev_add rfl rfl NgA) ?_)
      refine GQ (ev_move rfl) ?_
      refine GO_nil ?_
      refine GN ?_
      refine G_round (k + 1, A21, c21) ⟨by simp only; omega, hn21, hc21, hm21⟩ (by simp only; omega) ⟨rfl, rfl, rfl, rfl, trivial⟩ ?_
      simp only
      rw [s1, ← flat_snoc]
      exact EpA
    · have e : k = n := by omega
      subst e
      rw [show ts.take k = ts from List.take_of_length_le (by omega)]
      refine GN ?_
      exact G_inv (B, d) f2 ⟨rfl, trivial⟩ EnA
  · rintro ⟨B, d⟩ fB
    simp only at fB
    dsimp only
    refine G_pure (fun h s => own.facts s) ?_
    rintro ⟨_, fd, f4, _⟩
    have hal : (ts.map fun o => (((opts o).length : Nat) : Int)).length = n := by simp [hn']
    have hab : ∀ v ∈ (ts.map fun o => (((opts o).length : Nat) : Int)), 0 ≤ v ∧ v ≤ 1000000 := fun v hv => by
      obtain ⟨o, ho, rfl⟩ := List.mem_map.1 hv
      have := hl o ho
      omega
    generalize (ts.map fun o => (((opts o).length : Nat) : Int)) = q at *
    have hq : ∀ X, Rd (own 3 1 B n d (flat q) :: X) B n q := fun X => Rc.own (by rw [flat_length, hal]; rfl) fB
    (repeat first | refine G_seq ?_ | refine G_skip ?_ | refine G_endblk ?_)
    refine G_cut (ι := Unit) (fun _ => [(3, .slice B (trimZ q).length d)]) (fun _ => own 3 1 B n d (flat q) :: F :: L) (fun _ => (trimZ q).length ≤ n ∧ trimZ q = q.take (trimZ q).length) ?_ ?_
    · refine GN ?_
      refine G_loop (ι := Nat) (fun k => [(3, .slice B k d)]) (fun _ => own 3 1 B n d (flat q) :: F :: L) (fun k => k ≤ n ∧ trimZ (q.take k) = trimZ q) (fun k => k) n ⟨Nat.le_refl _, by rw [List.take_of_length_le (by omega)]⟩ ⟨rfl, trivial⟩ EnA ?_
      rintro k ⟨f1, f2⟩
      rcases Nat.eq_zero_or_pos k with h0 | h0
      · subst h0
        have e0 : trimZ q = [] := by rw [← f2]; rfl
        refine GN ?_
        refine G_region ?_
        refine GQ (ev_move rfl) ?_
        refine GQ (ev_len rfl) ?_
        refine GQ (ev_gtr rfl rfl) ?_
        refine GQ (ev_move rfl) ?_
        refine GO_no rfl rfl rfl (decide_eq_false (by omega)) ?_
        refine GO_no rfl rfl rfl (decide_eq_false (by omega)) ?_
        refine GO_no rfl rfl rfl (decide_eq_false (by omega)) ?_
        refine GO_no rfl rfl rfl (decide_eq_false (by omega)) ?_
        refine GO_no rfl rfl rfl (decide_eq_false (by omega)) ?_
        refine GO_no rfl rfl rfl (decide_eq_false (by omega)) ?_
        refine GO_no rfl rfl rfl (decide_eq_false (by omega)) ?_
        refine GQ (ev_pick_f rfl (decide_eq_false (by omega)) rfl) ?_
        refine GO_nil ?_
        refine GN ?_
        refine G_cond_f rfl rfl ?_
        refine GN ?_
        exact G_inv () ⟨by rw [e0]; exact Nat.zero_le _, by rw [e0]; rfl⟩ ⟨by rw [e0]; rfl, trivial⟩ EnA
      · obtain ⟨bb, rfl⟩ := fB (by omega)
        obtain ⟨j, rfl⟩ : ∃ j, k = j + 1 := ⟨k - 1, by omega⟩
        have g1 : q[j]? = some q[j] := List.getElem?_eq_getElem (by omega)
        have s1 : q.take (j + 1) = q.take j ++ [q[j]] := List.take_succ_eq_append_getElem (by omega)
        have y1 : ∀ X, Ld (own 3 1 (some ⟨bb, 0, none⟩) n d (flat q) :: X) ⟨bb, 0 + j * 1, none⟩ (.int .i64 q[j]) := fun X => by
          obtain ⟨_, _, e9, hxx⟩ := (hq X).at_ (by omega)
          cases e9
          exact (hxx _ _ g1).at_ (i := 0) rfl
        generalize q[j] = v at *
        rw [s1] at f2
        by_cases hz : v = 0
        · subst hz
          rw [trimZ_zero] at f2
          refine GN ?_
          refine G_region ?_
          refine GQ (ev_move rfl) ?_
          refine GQ (ev_len rfl) ?_
          refine GQ (ev_gtr rfl rfl) ?_
          refine GQ (ev_move rfl) ?_
          refine GO_yes rfl rfl rfl (decide_eq_true (by omega)) ?_
          refine GQ (ev_move rfl) ?_
          refine GO_yes rfl rfl rfl (decide_eq_true (by omega)) ?_
          refine GQ (ev_move rfl) ?_
          refine GO_yes rfl rfl rfl (decide_eq_true (by omega)) ?_
          refine GQ (ev_len rfl) ?_
          refine GO_yes rfl rfl rfl (decide_eq_true (by omega)) ?_
          refine GQ (ev_subN (q := 1) rfl rfl (by omega)) ?_
          refine GO_yes rfl rfl rfl (decide_eq_true (by omega)) ?_
          refine GQ (ev_indexAddrN rfl rfl (by omega)) ?_
          refine GO_yes rfl rfl rfl (decide_eq_true (by omega)) ?_
          refine GQ (ev_load rfl (by repeat' first | exact y1 _ | apply Ld.skip)) ?_
          refine GO_yes rfl rfl rfl (decide_eq_true (by omega)) ?_
          refine GQ (ev_eql rfl rfl) ?_
          refine GQ (ev_pick_t rfl (decide_eq_true (by omega)) rfl) ?_
          refine GO_nil ?_
          refine GN ?_
          refine G_cond_t rfl rfl ?_
          refine GN ?_
          refine G_region ?_
          refine GQ (ev_move rfl) ?_
          refine GQ (ev_move rfl) ?_
          refine GQ (ev_len rfl) ?_
          refine GQ (ev_subN (q := 1) rfl rfl (by omega)) ?_
          refine GQ (ev_sliceH rfl rfl NgA) ?_
          refine GQ (ev_assign rfl) ?_
          refine GO_nil ?_
          refine GN ?_
          exact G_round j ⟨by omega, f2⟩ (by omega) ⟨rfl, trivial⟩ EnA
        · rw [trimZ_some _ hz, ← s1] at f2
          refine GN ?_
          refine G_region ?_
          refine GQ (ev_move rfl) ?_
          refine GQ (ev_len rfl) ?_
          refine GQ (ev_gtr rfl rfl) ?_
          refine GQ (ev_move rfl) ?_
          refine GO_yes rfl rfl rfl (decide_eq_true (by omega)) ?_
          refine GQ (ev_move rfl) ?_
          refine GO_yes rfl rfl rfl (decide_eq_true (by omega)) ?_
          refine GQ (ev_move rfl) ?_
          refine GO_yes rfl rfl rfl (decide_eq_true (by omega)) ?_
          refine GQ (ev_len rfl) ?_
          refine GO_yes rfl rfl rfl (decide_eq_true (by omega)) ?_
          refine GQ (ev_subN (q := 1) rfl rfl (by omega)) ?_
          refine GO_yes rfl rfl rfl (decide_eq_true (by omega)) ?_
          refine GQ (ev_indexAddrN rfl rfl (by omega)) ?_
          refine GO_yes rfl rfl rfl (decide_eq_true (by omega)) ?_
          refine GQ (ev_load rfl (by repeat' first | exact y1 _ | apply Ld.skip)) ?_
          refine GO_yes rfl rfl rfl (decide_eq_true (by omega)) ?_
          refine GQ (ev_eql rfl rfl) ?_
          refine GQ (ev_pick_t rfl (decide_eq_true (by omega)) rfl) ?_
          refine GO_nil ?_
          refine GN ?_
          refine G_cond_f rfl (decide_eq_false hz) ?_
          refine GN ?_
          have e2 : (trimZ q).length = j + 1 := by rw [← f2, List.length_take]; omega
          exact G_inv () ⟨by omega, by rw [e2]; exact f2.symm⟩ ⟨by rw [e2]; rfl, trivial⟩ EnA
    · rintro _ ⟨f1, f2⟩
      have hq2 : ∀ X, Rd (own 3 1 B n d (flat q) :: X) B (trimZ q).length (trimZ q) := fun X => by
        have := (hq X).take (k := (trimZ q).length) (by omega)
        rwa [← f2] at this
      refine GN ?_
      refine G_region ?_
      refine GQ (ev_move rfl) ?_
      refine GQ (ev_assign rfl) ?_
      refine GO_nil ?_
      refine GN ?_
      exact G_ret (L' := own 3 1 B n d (flat q) :: L) rfl (.tmp rfl .nil) EpA ⟨_, B, d, rfl, by omega, f4, hq2, rfl⟩
end
end Go.Proofs.YtkoncepjfgnjlaaGreat
/- Slices over iterators: Values, AppendSeq, Collect, Sorted of numbers. -/
namespace Go.Proofs.YtkoncepjfgnjlaaGreat
open Go.RowKit
set_option linter.unusedVariables false
set_option linter.unusedSimpArgs false
set_option maxRecDepth 100000

end Go.Proofs.YtkoncepjfgnjlaaGreat
/- Points in several trees: all dead points, over an iterator. -/
namespace Go.Proofs.YtkoncepjfgnjlaaGreat
attribute [local irreducible] sat
open Go.RowKit
set_option linter.unusedVariables false
set_option linter.unusedSimpArgs false
set_option maxRecDepth 100000

theorem dds_mid (A C : List (Pt × Bool)) (u : Pt × Bool) : ((if u.2 then [u.1] else []) ++ dds (A ++ C)).Perm (dds (A ++ u :: C)) := by
  obtain ⟨p, d⟩ := u
  rw [dds_app, dds_app, dds_cons, ← List.append_assoc, ← List.append_assoc]
  exact (List.perm_append_comm).append_right _
theorem chk1_ctr {Z : Type} (l b1 s0 b n c : Nat) (A : Option Addr) (gone most built : Int) (M : List (Pt × Bool)) (L : List Pt → Z → List HP) (Inv : List Pt → Z → Prop)
    (h1 : ∀ o z, Ld (L o z) ⟨b1, 0, none⟩ (.pointer (some ⟨s0, 0, none⟩))) (h2 : ∀ o z, LdN (L o z) s0 0 5 (lsC A n c b gone most built))
    (hy : ∀ o z p, o.length < M.length → Inv o z → Yld Tryz.prog l [p.v] (L o z) fun q L' => q = true ∧ ∃ z', Inv (o ++ [p]) z' ∧ L' = L (o ++ [p]) z') (z0 : Z) (h0 : Inv [] z0) :
    Ctr Tryz.prog 41 #[Value.func (.yield l) #[] #[], .pointer (some ⟨b1, 0, none⟩)] (mpH b M :: L [] z0) fun v L' => v = .tuple #[] ∧ ∃ o z', o.Perm (dds M) ∧ Inv o z' ∧ L' = mpH b M :: L o z' := by
  have h3 : ∀ o z, Ld (L o z) ⟨s0, 0 + 1, none⟩ (.map (some b)) := fun o z => (h2 o z).at_ (i := 1) rfl
  refine Ctr_of (fn := Tryz.f41) (n := 22) Tryz.func41 rfl rfl rfl ?_
  intro g F
  refine GN ?_
  refine G_region ?_
  refine GQ (ev_load rfl (by repeat' first | exact h1 _ _ | apply Ld.skip)) ?_
  (first | refine GQ (ev_nilCheck rfl) ?_ | refine GQ (ev_nilCheckF (by simp) rfl) ?_)
  refine GQ (ev_fieldAddr rfl) ?_
  refine GQ (ev_load rfl (by repeat' first | exact h3 _ _ | apply Ld.skip)) ?_
  refine GE (eff_range rfl PkA) ?_; rintro _ _ ⟨b9, rfl, rfl⟩
  refine GO_nil ?_
  refine GN ?_
  refine G_loop (ι := List (Pt × Bool) × Option (Pt × Bool) × List Pt × Z) (fun y => [(0, Value.func (.yield l) #[] #[]), (9, .pointer (some ⟨b9, 0, none⟩))]) (fun y => rgH b9 b M y.1 y.2.1 :: F :: L y.2.2.1 y.2.2.2)
    (fun y => (y.2.2.1 ++ dds y.1).Perm (dds M) ∧ y.2.2.1.length + y.1.length ≤ M.length ∧ Inv y.2.2.1 y.2.2.2) (fun y => y.1.length) (M, none, [], z0) ⟨.refl _, by simp, h0⟩ ⟨rfl, rfl, trivial⟩ EpA ?_
  rintro ⟨R, q, o, z⟩ ⟨f1, f2, f3⟩
  simp only at f1 f2 f3
  dsimp only
  cases R with
  | nil =>
    refine GN ?_
    refine G_region ?_
    refine GE (eff_nextN rfl PkA) ?_; rintro _ _ ⟨rfl, rfl⟩
    refine GQ (ev_extract rfl rfl) ?_
    refine GO_nil ?_
    refine GN ?_
    refine G_cond_f rfl rfl ?_
    refine GN ?_
    exact G_end (rs := []) (vs := []) (L' := mpH b M :: L o z) rfl .nil (by (repeat first | exact en_refl | apply en_rg | (apply en_blk; focus ((repeat' first | exact Pick.here | apply Pick.skip | apply Pick.app); done); focus rfl) | (apply en_own; focus ((repeat' first | exact Pick.here | apply Pick.skip | apply Pick.app); done); focus rfl) | (apply en_pick; focus ((repeat' first | exact Pick.here | apply Pick.skip | apply Pick.app); done)) | apply en_drop | apply en_app) <;> fail) ⟨rfl, o, z, by simpa [dds] using f1, f3, rfl⟩
  | cons u0 R =>
    refine GN ?_
    refine G_region ?_
    refine GE (eff_nextC rfl PkA) ?_; rintro _ _ ⟨R1, u, R2, eR, rfl, rfl⟩
    refine GQ (ev_extract rfl rfl) ?_
    refine GO_nil ?_
    refine GN ?_
    refine G_cond_t rfl rfl ?_
    have hl : R.length + 1 = R1.length + (R2.length + 1) := by
      have := congrArg List.length eR
      simpa using this
    have hpm := dds_mid R1 R2 u
    rw [← eR] at hpm
    obtain ⟨up, ud⟩ := u
    simp only [List.length_cons] at f2
    refine GN ?_
    refine G_region ?_
    refine GQ (ev_entry rfl (by repeat' first | exact Rg.here | apply Rg.skip)) ?_
    refine GQ (ev_extract rfl rfl) ?_
    refine GQ (ev_extract rfl rfl) ?_
    refine GE eff_alloc ?_; rintro _ _ ⟨b3, rfl, rfl⟩
    refine GE (eff_storeN rfl rfl rfl rfl UpA) ?_; rintro _ _ ⟨rfl, rfl⟩
    refine GQ (ev_assign rfl) ?_
    refine GO_nil ?_
    cases ud with
    | false =>
      refine GN ?_
      refine G_region ?_
      refine GQ (ev_move rfl) ?_
      refine GQ (ev_move rfl) ?_
      refine GO_no rfl rfl rfl rfl ?_
      refine GO_no rfl rfl rfl rfl ?_
      refine GO_no rfl rfl rfl rfl ?_
      refine GO_no rfl rfl rfl rfl ?_
      refine GQ (ev_pick_f rfl rfl rfl) ?_
      refine GO_nil ?_
      refine GN ?_
      refine G_cond_f rfl rfl ?_
      refine GN ?_
      exact G_round (R1 ++ R2, some (up, false), o, z) ⟨(hpm.append_left o).trans f1, by simp; omega, f3⟩ (by simp; omega) ⟨rfl, rfl, trivial⟩ EpA
    | true =>
      have hyk := hy o z up (by omega) f3
      refine GN ?_
      refine G_region ?_
      refine GQ (ev_move rfl) ?_
      refine GQ (ev_move rfl) ?_
      refine GO_yes rfl rfl rfl rfl ?_
      refine GQ (ev_move rfl) ?_
      refine GO_yes rfl rfl rfl rfl ?_
      refine GQ (ev_loadN rfl LnA) ?_
      refine GO_yes rfl rfl rfl rfl ?_
      refine GO_yield rfl rfl rfl (Yld.frame [_, _, F] hyk EpA) ?_
      rintro q2 L' ⟨L1, ⟨rfl, z', hz', rfl⟩, rfl⟩
      refine GO_yes rfl rfl rfl rfl ?_
      refine GQ (ev_not rfl) ?_
      refine GQ (ev_pick_t rfl rfl rfl) ?_
      refine GO_nil ?_
      refine GN ?_
      refine G_cond_f rfl rfl ?_
      refine GN ?_
      refine G_round (R1 ++ R2, some (up, true), o ++ [up], z') ⟨?_, by simp; omega, hz'⟩ (by simp; omega) ⟨rfl, rfl, trivial⟩ EpA
      show ((o ++ [up]) ++ dds (R1 ++ R2)).Perm (dds M)
      rw [List.append_assoc]
      exact (hpm.append_left o).trans f1
theorem appDead_ctr (b1 s0 b n c : Nat) (A : Option Addr) (gone most built : Int) (M : List (Pt × Bool)) (L : List HP) (h1 : Ld L ⟨b1, 0, none⟩ (.pointer (some ⟨s0, 0, none⟩))) (h2 : LdN L s0 0 5 (lsC A n c b gone most built)) (hM : M.length ≤ 100000) :
    Ctr Tryz.prog 70 #[.slice none 0 0, .func (.func 41) #[] #[.pointer (some ⟨b1, 0, none⟩)]] (mpH b M :: L) fun v L' => ∃ (o : List Pt) (B : Option Addr) (e : Nat), v = .slice B o.length e ∧ o.Perm (dds M) ∧ L' = own 28 3 B o.length e (flat o) :: mpH b M :: L := by
  refine Ctr_ofM (fn := Tryz.f70) (n := 13) Tryz.func70 rfl rfl rfl ?_
  intro g F hgb
  refine GN ?_
  refine G_region ?_
  refine GE (eff_box rfl) ?_; rintro _ _ ⟨b2, rfl, rfl⟩
  refine GQ (ev_assign rfl) ?_
  refine GO_nil ?_
  refine GN ?_
  refine G_region ?_
  refine GQ (ev_move rfl) ?_
  refine GO_nil ?_
  refine GN ?_
  refine G_heap (own.nil_ 28 3) ?_
  refine G_range1 (f := 41) (c1 := []) (c2 := [.pointer (some ⟨b1, 0, none⟩)]) (post := fun p L1 => p = none ∧ ∃ (o : List Pt) (z : Option Addr × Nat), o.Perm (dds M) ∧ L1 = own 28 3 z.1 o.length z.2 (flat o) :: blk b2 38 [.slice z.1 o.length z.2] :: F :: mpH b M :: L) (by rw [← hgb]; rfl) rfl rfl ?_ ?_ ?_
  · intro l d R hR
    have hv := chk1_ctr (Z := Option Addr × Nat) l b1 s0 b n c A gone most built M
      (fun o z => obj l (R .ready none) :: obj d (.deferred (some [])) :: own 28 3 z.1 o.length z.2 (flat o) :: blk b2 38 [.slice z.1 o.length z.2] :: F :: L)
      (fun o z => (0 < o.length → ∃ b, z.1 = some ⟨b, 0, none⟩) ∧ o.length ≤ z.2 ∧ z.2 ≤ maxLen)
      (fun o z => h1.skip.skip.skip.skip.skip) (fun o z => h2.skip.skip.skip.skip.skip) ?_ (none, 0) ⟨fun h => absurd h (Nat.lt_irrefl 0), Nat.le_refl _, Nat.zero_le _⟩
    · refine (Ctr.pre EpA hv).post' ?_
      rintro v L' hm ⟨rfl, o, z, ho, hz, rfl⟩ hsat
      refine ⟨_, ⟨.ready, none, _, (by decide), ⟨rfl, o, z, ho, rfl⟩, rfl⟩, ?_⟩
      revert hm
      exact EpA
    · intro o z p hk ⟨i1, i2, i3⟩
      refine hR (ι := Nat) (τ := fun b5 => [(2, .pointer (some ⟨b2, 0, none⟩)), (5, .pointer (some ⟨b5, 0, none⟩))]) (M := fun b5 => blk b5 28 [.int .i64 p.id, .int .i64 p.x, .int .i64 p.y] :: obj d (.deferred (some [])) :: own 28 3 z.1 o.length z.2 (flat o) :: blk b2 38 [.slice z.1 o.length z.2] :: F :: L) (Fy := fun _ => True) ?_ ?_
      · intro g F' _ _
        refine GN ?_
        refine G_region ?_
        refine GE eff_alloc ?_; rintro _ _ ⟨b5, rfl, rfl⟩
        refine GE (eff_storeN rfl rfl rfl rfl UpA) ?_; rintro _ _ ⟨rfl, rfl⟩
        refine GO_nil ?_
        exact G_rndStart b5 trivial ⟨rfl, rfl, trivial⟩ EpA
      · intro g F' b5 _ _ _
        refine GN ?_
        refine GN ?_
        refine G_region ?_
        refine GQ (ev_load rfl LdA) ?_
        refine GQ (ev_loadN rfl LnA) ?_
        refine GE (eff_buildSlice1 (by rfl) rfl rfl) ?_; rintro _ _ ⟨b10, rfl, rfl⟩
        refine GE (eff_append rfl rfl PkA (by repeat' first | exact Rc.blk rfl | assumption | apply Rc.skip) (one_all rfl) (by rfl) (by decide) NgA NgA) ?_; rintro _ _ ⟨A11, c11, rfl, hc11, hm11, hn11, rfl⟩
        refine GE (eff_store rfl rfl rfl UpA) ?_; rintro _ _ ⟨rfl, rfl⟩
        refine GO_nil ?_
        refine GN ?_
        have e3 : flat (o ++ [p]) = flat o ++ [.int .i64 p.id, .int .i64 p.x, .int .i64 p.y] := by rw [← flat_snoc]; rfl
        exact G_rndEnd (obj d (.deferred (some [])) :: own 28 3 A11 (o ++ [p]).length c11 (flat (o ++ [p])) :: blk b2 38 [.slice A11 (o ++ [p]).length c11] :: F :: L) ⟨rfl, (A11, c11), ⟨by simpa using hn11, by simpa using hc11, hm11⟩, rfl⟩ (by
          rw [e3]
          simp only [List.length_append, List.length_singleton]
          exact EpA)
  · rintro d L1 ⟨-, o, ⟨B, e⟩, ho, rfl⟩
    dsimp only
    refine GN ?_
    refine G_region ?_
    refine GQ (ev_load rfl LdA) ?_
    refine GQ (ev_assign rfl) ?_
    refine GO_nil ?_
    refine GN ?_
    exact G_retM [d] rfl (by rw [← hgb]; rfl) rfl (.tmp rfl .nil) (M := own 28 3 B o.length e (flat o) :: blk b2 38 [.slice B o.length e] :: F :: mpH b M :: L) (L' := own 28 3 B o.length e (flat o) :: mpH b M :: L) EpA EpA ⟨o, B, e, rfl, ho, rfl⟩
  · rintro d e L1 ⟨h, _⟩
    cases h
theorem colDead_ctr (b1 s0 b n c : Nat) (A : Option Addr) (gone most built : Int) (M : List (Pt × Bool)) (L : List HP) (h1 : Ld L ⟨b1, 0, none⟩ (.pointer (some ⟨s0, 0, none⟩))) (h2 : LdN L s0 0 5 (lsC A n c b gone most built)) (hM : M.length ≤ 100000) :
    Ctr Tryz.prog 40 #[.func (.func 41) #[] #[.pointer (some ⟨b1, 0, none⟩)]] (mpH b M :: L) fun v L' => ∃ (o : List Pt) (B : Option Addr) (e : Nat), v = .slice B o.length e ∧ o.Perm (dds M) ∧ L' = own 28 3 B o.length e (flat o) :: mpH b M :: L := by
  refine Ctr_of (fn := Tryz.f40) (n := 5) Tryz.func40 rfl rfl rfl ?_
  intro g F
  refine GN ?_
  refine G_region ?_
  refine GQ (ev_assign rfl) ?_
  refine GO_nil ?_
  refine GN ?_
  refine G_region ?_
  refine GQ (ev_move rfl) ?_
  refine GE (eff_call rfl (Ctr.pick PkA (appDead_ctr b1 s0 b n c A gone most built M _ h1.skip h2.skip hM))) ?_; rintro _ _ ⟨o, B, e, rfl, ho, rfl⟩
  refine GQ (ev_assign rfl) ?_
  refine GO_nil ?_
  refine GN ?_
  exact G_ret (L' := own 28 3 B o.length e (flat o) :: mpH b M :: L) rfl (.tmp rfl .nil) EpA ⟨o, B, e, rfl, ho, rfl⟩
theorem oPoints_ctr (o : Option RTr) (L : List HP) (h : oat L o) (hn : (opts o).length ≤ 1000000) : Ctr Tryz.prog 39 #[.pointer (oaddr o)] L fun v L' => Made 28 (opts o) L v L' := by
  cases o with
  | some x => exact tPoints_ctr (h x rfl) hn
  | none =>
    refine Ctr_of (fn := Tryz.f39) (n := 6) Tryz.func39 rfl rfl rfl ?_
    intro g F
    refine GN ?_
    refine G_region ?_
    refine GQ (ev_assign rfl) ?_
    refine GO_nil ?_
    refine GN ?_
    refine G_region ?_
    refine GQ (ev_move rfl) ?_
    refine GE (eff_call rfl (zpoints_ctr _)) ?_; rintro _ _ ⟨rfl, rfl⟩
    refine GE (eff_call rfl (Clone_ctr none 0 0 ([] : List Pt) _ (Rd.nil (α := Pt) _ _) (by omega))) ?_; rintro _ _ ⟨B, e, rfl, hB, rfl⟩
    refine GQ (ev_assign rfl) ?_
    refine GO_nil ?_
    refine GN ?_
    exact G_ret (L' := own 28 3 B ([] : List Pt).length e (flat ([] : List Pt)) :: L) rfl (.tmp rfl .nil) EpA ⟨B, e, rfl, hB, rfl⟩
section
variable {P : Program} {L : List HP} {σ : Env} {d : Option Nat} {ty T T' : TypeId} {pos : String} {aft : Array Edge} {gd : Option (Nat × Bool)} {x y : Operand}
theorem ev_shlN {yk : IntKind} {p q : Nat} (hx : ev σ x = some (.int .i64 (p : Int))) (hy : ev σ y = some (.int yk (q : Int))) (hq : q ≤ 64) (hb : p * 2 ^ q ≤ 9223372036854775807) : Ev P L σ ⟨d, .binOp .shl T x y T', ty, pos, aft, gd⟩ (.int .i64 ((p * 2 ^ q : Nat) : Int)) :=
  bin_run' .shl _ _ _ (fun w => rfl) hx hy fun w => by
    have e : ((p : Int) * 2 ^ (Int.toNat (q : Int))) = ((p * 2 ^ q : Nat) : Int) := by simp
    rw [binOp_shl, shift_shl .i64 yk (p : Int) (q : Int) (by omega) (by show (q : Int) ≤ 64; omega), e, IntWalk.i64_in _ (by omega)]
    rfl
end
end Go.Proofs.YtkoncepjfgnjlaaGreat
/- Points in order. -/
namespace Go.Proofs.YtkoncepjfgnjlaaGreat
set_option linter.unusedVariables false
set_option linter.unusedSimpArgs false
def leP (p q : Pt) : Prop := p.y < q.y ∨ (p.y = q.y ∧ (p.x < q.x ∨ (p.x = q.x ∧ p.id ≤ q.id)))
theorem up_leP (p q : Pt) : up p q ≤ 0 ↔ leP p q := by
  rw [← three_up]
  unfold three leP
  by_cases h1 : p.y < q.y
  · simp [h1]
  · by_cases h2 : q.y < p.y
    · simp [h1, h2] <;> omega
    · by_cases h3 : p.x < q.x
      · simp [h1, h2, h3] <;> omega
      · by_cases h4 : q.x < p.x
        · simp [h1, h2, h3, h4] <;> omega
        · by_cases h5 : p.id < q.id
          · simp [h1, h2, h3, h4, h5] <;> omega
          · by_cases h6 : q.id < p.id
            · simp [h1, h2, h3, h4, h5, h6] <;> omega
            · simp [h1, h2, h3, h4, h5, h6] <;> omega
theorem leP_trans {p q r : Pt} (h1 : leP p q) (h2 : leP q r) : leP p r := by unfold leP at *; omega
theorem leP_anti {p q : Pt} (h1 : leP p q) (h2 : leP q p) : p = q := by
  obtain ⟨a, b, c⟩ := p
  obtain ⟨d, e, f⟩ := q
  unfold leP at *
  simp only at *
  simp only [Pt.mk.injEq]
  omega
theorem leP_total (p q : Pt) : leP p q ∨ leP q p := by unfold leP; omega
theorem mrg_perm : ∀ (i k : Int) (l m : List Pt), ((mrg i k l m).map (·.p)).Perm (l ++ m)
  | _, _, [], [] => by simp [mrg]
  | i, k, a :: l, [] => by rw [mrg, List.map_cons]; exact (mrg_perm _ _ _ _).cons a
  | i, k, [], b :: m => by rw [mrg, List.map_cons]; exact (mrg_perm _ _ _ _).cons b
  | i, k, a :: l, b :: m => by
    rw [mrg]
    split
    · rw [List.map_cons]; exact (mrg_perm _ _ _ _).cons a
    · rw [List.map_cons]
      exact ((mrg_perm i (k + 1) (a :: l) m).cons b).trans List.perm_middle.symm
  termination_by _ _ l m => l.length + m.length
theorem mrg_sorted : ∀ (i k : Int) (l m : List Pt), l.Pairwise leP → m.Pairwise leP → ((mrg i k l m).map (·.p)).Pairwise leP
  | _, _, [], [], _, _ => by simp [mrg]
  | i, k, a :: l, [], h1, h2 => by
    rw [List.pairwise_cons] at h1
    rw [mrg, List.map_cons, List.pairwise_cons]
    refine ⟨fun b hb => ?_, mrg_sorted _ _ _ _ h1.2 h2⟩
    have := (mrg_perm _ _ _ _).subset hb
    exact h1.1 _ (by simpa using this)
  | i, k, [], b :: m, h1, h2 => by
    rw [List.pairwise_cons] at h2
    rw [mrg, List.map_cons, List.pairwise_cons]
    refine ⟨fun c hc => ?_, mrg_sorted _ _ _ _ h1 h2.2⟩
    have := (mrg_perm _ _ _ _).subset hc
    exact h2.1 _ (by simpa using this)
  | i, k, a :: l, b :: m, h1, h2 => by
    have h1' := List.pairwise_cons.1 h1
    have h2' := List.pairwise_cons.1 h2
    rw [mrg]
    split
    · rename_i hu
      have hu' := (up_leP _ _).1 hu
      rw [List.map_cons, List.pairwise_cons]
      refine ⟨fun c hc => ?_, mrg_sorted _ _ _ _ h1'.2 h2⟩
      rcases List.mem_append.1 ((mrg_perm _ _ _ _).subset hc) with h | h
      · exact h1'.1 _ h
      · rcases List.mem_cons.1 h with h | h
        · rw [h]; exact hu'
        · exact leP_trans hu' (h2'.1 _ h)
    · rename_i hu
      have hu' : leP b a := (leP_total b a).resolve_right fun h9 => hu ((up_leP _ _).2 h9)
      rw [List.map_cons, List.pairwise_cons]
      refine ⟨fun c hc => ?_, mrg_sorted _ _ _ _ h1 h2'.2⟩
      rcases List.mem_append.1 ((mrg_perm _ _ _ _).subset hc) with h | h
      · rcases List.mem_cons.1 h with h | h
        · rw [h]; exact hu'
        · exact leP_trans hu' (h1'.1 _ h)
      · exact h2'.1 _ h
  termination_by _ _ l m => l.length + m.length
end Go.Proofs.YtkoncepjfgnjlaaGreat
/- Two arrays together: what stands at each place (the plain part). -/
namespace Go.Proofs.YtkoncepjfgnjlaaGreat
set_option linter.unusedVariables false
set_option linter.unusedSimpArgs false

theorem leP_refl (p : Pt) : leP p p := .inr ⟨rfl, .inr ⟨rfl, Int.le_refl _⟩⟩
/-- What an entry says. -/
def MA (i k : Int) (l m : List Pt) (j : Nat) (e : Ent) : Prop := ∃ u l' v m', l = u ++ l' ∧ m = v ++ m' ∧ u.length + v.length = j ∧ e.low = i + u.length ∧ e.high = k + v.length ∧ (∀ x ∈ u, leP x e.p) ∧ (∀ x ∈ v, leP x e.p) ∧ (∀ x ∈ l', leP e.p x) ∧ ∀ x ∈ m', leP e.p x
theorem mrg_inE {i k : Int} {l m : List Pt} {j : Nat} {e : Ent} (h : (mrg i k l m)[j]? = some e) : e.p ∈ l ++ m :=
  (mrg_perm i k l m).subset (List.mem_map.2 ⟨e, List.mem_of_getElem? h, rfl⟩)
theorem MA.left {i k : Int} {a : Pt} {l m : List Pt} (hl : ∀ x ∈ l, leP a x) (hm : ∀ x ∈ m, leP a x) (ih : ∀ j e, (mrg (i + 1) k l m)[j]? = some e → MA (i + 1) k l m j e) :
    ∀ j e, ((⟨a, i, k⟩ : Ent) :: mrg (i + 1) k l m)[j]? = some e → MA i k (a :: l) m j e
  | 0, e, h => by
    simp at h; subst h
    exact ⟨[], a :: l, [], m, rfl, rfl, rfl, by simp, by simp, by simp, by simp, fun x hx => (List.mem_cons.1 hx).elim (fun h => h ▸ leP_refl _) (hl x), hm⟩
  | j + 1, e, h => by
    have h : (mrg (i + 1) k l m)[j]? = some e := by simpa using h
    obtain ⟨u, l', v, m', rfl, rfl, h3, h4, h5, h6, h7, h8, h9⟩ := ih j e h
    refine ⟨a :: u, l', v, m', rfl, rfl, by simp; omega, by rw [h4]; simp; omega, h5, fun x hx => ?_, h7, h8, h9⟩
    rcases List.mem_cons.1 hx with rfl | hx
    · exact (List.mem_append.1 (mrg_inE h)).elim (hl _) (hm _)
    · exact h6 x hx
theorem MA.right {i k : Int} {b : Pt} {l m : List Pt} (hl : ∀ x ∈ l, leP b x) (hm : ∀ x ∈ m, leP b x) (ih : ∀ j e, (mrg i (k + 1) l m)[j]? = some e → MA i (k + 1) l m j e) :
    ∀ j e, ((⟨b, i, k⟩ : Ent) :: mrg i (k + 1) l m)[j]? = some e → MA i k l (b :: m) j e
  | 0, e, h => by
    simp at h; subst h
    exact ⟨[], l, [], b :: m, rfl, rfl, rfl, by simp, by simp, by simp, by simp, hl, fun x hx => (List.mem_cons.1 hx).elim (fun h => h ▸ leP_refl _) (hm x)⟩
  | j + 1, e, h => by
    have h : (mrg i (k + 1) l m)[j]? = some e := by simpa using h
    obtain ⟨u, l', v, m', rfl, rfl, h3, h4, h5, h6, h7, h8, h9⟩ := ih j e h
    refine ⟨u, l', b :: v, m', rfl, rfl, by simp; omega, h4, by rw [h5]; simp; omega, h6, fun x hx => ?_, h8, h9⟩
    rcases List.mem_cons.1 hx with rfl | hx
    · exact (List.mem_append.1 (mrg_inE h)).elim (hl _) (hm _)
    · exact h7 x hx
theorem mrg_at : ∀ (i k : Int) (l m : List Pt), l.Pairwise leP → m.Pairwise leP → ∀ j e, (mrg i k l m)[j]? = some e → MA i k l m j e
  | _, _, [], [], _, _, j, e, h => by simp [mrg] at h
  | i, k, a :: l, [], h1, h2, j, e, h => by
    have h1' := List.pairwise_cons.1 h1
    rw [mrg] at h
    exact MA.left h1'.1 (by simp) (mrg_at (i + 1) k l [] h1'.2 h2) j e h
  | i, k, [], b :: m, h1, h2, j, e, h => by
    have h2' := List.pairwise_cons.1 h2
    rw [mrg] at h
    exact MA.right (by simp) h2'.1 (mrg_at i (k + 1) [] m h1 h2'.2) j e h
  | i, k, a :: l, b :: m, h1, h2, j, e, h => by
    have h1' := List.pairwise_cons.1 h1
    have h2' := List.pairwise_cons.1 h2
    rw [mrg] at h
    split at h
    · rename_i hu
      have hu' := (up_leP _ _).1 hu
      exact MA.left h1'.1 (fun x hx => (List.mem_cons.1 hx).elim (fun h => h ▸ hu') (fun h => leP_trans hu' (h2'.1 x h))) (mrg_at (i + 1) k l (b :: m) h1'.2 h2) j e h
    · rename_i hu
      have hu' : leP b a := (leP_total b a).resolve_right fun h9 => hu ((up_leP _ _).2 h9)
      exact MA.right (fun x hx => (List.mem_cons.1 hx).elim (fun h => h ▸ hu') (fun h => leP_trans hu' (h1'.1 x h))) h2'.1 (mrg_at i (k + 1) (a :: l) m h1 h2'.2) j e h
  termination_by _ _ l m => l.length + m.length
theorem up_self (p : Pt) : up p p = 0 := by simp [up, Pt.cmp]
theorem aheadF_true {p q : Pt} (h : leP q p) : aheadF p true q = true := by
  have := (up_leP _ _).2 h
  unfold aheadF; simp; omega
theorem aheadF_false {p q : Pt} (h : leP p q) : aheadF p false q = false := by
  unfold aheadF
  simp only [Bool.and_false, Bool.or_false, decide_eq_false_iff_not]
  intro h9
  have := leP_anti h ((up_leP _ _).1 (by omega))
  subst this
  rw [up_self] at h9; omega
theorem MA.sides {l m : List Pt} {j : Nat} {e : Ent} (h : MA 0 0 l m j e) : 0 ≤ e.low ∧ 0 ≤ e.high ∧ e.low + e.high = j ∧ e.low ≤ l.length ∧ e.high ≤ m.length ∧ e.low ≤ l.countP (aheadF e.p true) ∧ e.high ≤ m.countP (aheadF e.p true) ∧ l.countP (aheadF e.p false) ≤ e.low ∧ m.countP (aheadF e.p false) ≤ e.high := by
  obtain ⟨u, l', v, m', rfl, rfl, h3, h4, h5, h6, h7, h8, h9⟩ := h
  have a1 : u.countP (aheadF e.p true) = u.length := List.countP_eq_length.2 fun x hx => aheadF_true (h6 x hx)
  have a2 : v.countP (aheadF e.p true) = v.length := List.countP_eq_length.2 fun x hx => aheadF_true (h7 x hx)
  have a3 : l'.countP (aheadF e.p false) = 0 := List.countP_eq_zero.2 fun x hx => by rw [aheadF_false (h8 x hx)]; simp
  have a4 : m'.countP (aheadF e.p false) = 0 := List.countP_eq_zero.2 fun x hx => by rw [aheadF_false (h9 x hx)]; simp
  have a5 := List.countP_le_length (p := aheadF e.p false) (l := u)
  have a6 := List.countP_le_length (p := aheadF e.p false) (l := v)
  rw [List.length_append, List.length_append, List.countP_append, List.countP_append, List.countP_append, List.countP_append]
  omega
theorem RT.of.srt : ∀ {T : RT} {l : List Pt}, T.of l → T.arr.pts.Pairwise leP
  | .nil, l, _ => .nil
  | .node b q a u v lo hi, l, ⟨_, _, h⟩ => by
    rcases h with ⟨p, rfl, _, _, rfl⟩ | ⟨h1, h2, h3, rfl⟩
    · exact List.pairwise_singleton _ _
    · show (join lo.arr hi.arr).pts.Pairwise leP
      unfold Arr.pts
      rw [join_es]
      exact mrg_sorted _ _ _ _ h2.srt h3.srt
theorem pairwise_next {α : Type} {R : α → α → Prop} {l : List α} (h : l.Pairwise R) {k : Nat} {a b : α} (ha : l[k]? = some a) (hb : l[k + 1]? = some b) : R a b := by
  obtain ⟨h1, rfl⟩ := List.getElem?_eq_some_iff.1 ha
  obtain ⟨h2, rfl⟩ := List.getElem?_eq_some_iff.1 hb
  exact List.pairwise_iff_getElem.1 h k (k + 1) h1 h2 (by omega)
end Go.Proofs.YtkoncepjfgnjlaaGreat
/- A struct is equal to itself, whatever numbers, Bools and pointers it holds. No program stands in this text. -/
namespace Go.Proofs.YtkoncepjfgnjlaaGreat
open Go.RowKit
set_option linter.unusedSimpArgs false
set_option linter.unusedVariables false
inductive Ck where
  | i
  | b
  | p
def ckB : Value → Ck → Bool
  | .int .i64 _, .i => true
  | .bool _, .b => true
  | .pointer _, .p => true
  | _, _ => false
def tyB : List Value → List Ck → Bool
  | [], [] => true
  | v :: vs, c :: cs => ckB v c && tyB vs cs
  | _, _ => false
theorem tyB_len : ∀ {vs : List Value} {cs : List Ck}, tyB vs cs = true → vs.length = cs.length
  | [], [], _ => rfl
  | [], _ :: _, h => by cases h
  | _ :: _, [], h => by cases h
  | v :: vs, c :: cs, h => by
    simp only [tyB, Bool.and_eq_true] at h
    simp [tyB_len h.2]
theorem tyB_drop : ∀ (k : Nat) {vs : List Value} {cs : List Ck}, tyB vs cs = true → tyB (vs.drop k) (cs.drop k) = true
  | 0, _, _, h => h
  | k + 1, [], [], _ => rfl
  | k + 1, [], _ :: _, h => by cases h
  | k + 1, _ :: _, [], h => by cases h
  | k + 1, v :: vs, c :: cs, h => by
    simp only [tyB, Bool.and_eq_true] at h
    exact tyB_drop k h.2
theorem tyB_take : ∀ (k : Nat) {vs : List Value} {cs : List Ck}, tyB vs cs = true → tyB (vs.take k) (cs.take k) = true
  | 0, _, _, _ => by simp [tyB]
  | k + 1, [], [], _ => by simp [tyB]
  | k + 1, [], _ :: _, h => by cases h
  | k + 1, _ :: _, [], h => by cases h
  | k + 1, v :: vs, c :: cs, h => by
    simp only [tyB, Bool.and_eq_true] at h
    simp only [List.take_succ_cons, tyB, h.1, tyB_take k h.2, Bool.and_self]
def oneCk : List Ck → Ck → Bool
  | [.i], .i => true
  | [.b], .b => true
  | [.p], .p => true
  | _, _ => false
theorem oneCk_len {ks : List Ck} {c : Ck} (h : oneCk ks c = true) : ks.length = 1 := by
  unfold oneCk at h
  split at h <;> first | rfl | cases h
theorem oneCk_eq {ks : List Ck} {c : Ck} (h : oneCk ks c = true) : ks = [c] := by
  unfold oneCk at h
  split at h <;> first | rfl | cases h
theorem tyB_one {vs : List Value} {c : Ck} (h : tyB vs [c] = true) : ∃ v, vs = [v] ∧ ckB v c = true := by
  match vs, h with
  | [], h => cases h
  | [v], h => exact ⟨v, rfl, by simpa [tyB] using h⟩
  | _ :: _ :: _, h => simp [tyB] at h
theorem ckB_i {v : Value} (h : ckB v .i = true) : ∃ n, v = .int .i64 n := by
  unfold ckB at h
  split at h <;> first | exact ⟨_, rfl⟩ | (rename_i e; cases e; done) | (cases h; done)
theorem ckB_b {v : Value} (h : ckB v .b = true) : ∃ n, v = .bool n := by
  unfold ckB at h
  split at h <;> first | exact ⟨_, rfl⟩ | (rename_i e; cases e; done) | (cases h; done)
theorem ckB_p {v : Value} (h : ckB v .p = true) : ∃ n, v = .pointer n := by
  unfold ckB at h
  split at h <;> first | exact ⟨_, rfl⟩ | (rename_i e; cases e; done) | (cases h; done)
/-- What a type's cells hold. -/
def reflT (P : Program) : Nat → TypeId → List Ck → Bool
  | 0, _, _ => false
  | k + 1, T, ks => match P.underlying T with
    | some (.int _) => oneB P T && oneCk ks .i
    | some .bool => oneB P T && oneCk ks .b
    | some (.pointer e) => oneB P T && oneCk ks .p && (P.info? e).isSome && !Nat.beq (P.cellsOf e) 0
    | some (.struct fs) => aggB P T ks.length && !P.stoodInHeld T && fs.toList.all fun f => Nat.ble (f.offset + P.cellsOf f.type) ks.length && reflT P k f.type ((ks.drop f.offset).take (P.cellsOf f.type))
    | some (.array n e) => aggB P T ks.length && (P.info? e).isSome && (List.range n).all fun j => Nat.ble (j * P.cellsOf e + P.cellsOf e) ks.length && reflT P k e ((ks.drop (j * P.cellsOf e)).take (P.cellsOf e))
    | _ => false
def aggT (P : Program) (T : TypeId) : Bool := match P.underlying T with
  | some (.struct _) => true
  | some (.array _ _) => true
  | _ => false
def valR (P : Program) (T : TypeId) (vs : List Value) : Value := if aggT P T then .agg vs.toArray else vs.headD undef
section
variable {P : Program}
theorem part_refl {k : Nat} {T : TypeId} {ks : List Ck} (h : reflT P k T ks = true) (vs : List Value) (off : Nat) (hx : off + ks.length ≤ vs.length) (w : World) :
    (part T vs.toArray off).run P w = .ok (valR P T ((vs.drop off).take ks.length)) w := by
  cases k with
  | zero => cases h
  | succ k =>
    unfold reflT at h
    unfold valR aggT
    have one : oneB P T = true → ks.length = 1 → (part T vs.toArray off).run P w = .ok (((vs.drop off).take ks.length).headD undef) w := fun h1 h2 => by
      rw [h2] at hx ⊢
      have hlt : off < vs.length := by omega
      have e3 : ((vs.drop off).take 1).headD undef = vs[off] := by rw [List.drop_eq_getElem_cons hlt]; rfl
      rw [e3]
      simp [part, (OneT.run ⟨h1⟩ w).1, hlt]
    have agg : aggB P T ks.length = true → (part T vs.toArray off).run P w = .ok (.agg ((vs.drop off).take ks.length).toArray) w := fun h1 => by
      obtain ⟨e1, e2⟩ := AggT.run (P := P) ⟨h1⟩ w
      simp only [part, Sem.run_bind, e1, Result.andThen_ok, if_true, e2, Sem.run_pure]
      congr 2
      rw [List.extract_toArray, List.extract_eq_take_drop, Nat.add_sub_cancel_left]
    cases hu : P.underlying T with
    | none => rw [hu] at h; cases h
    | some dd =>
      rw [hu] at h
      cases dd <;> first | (cases h; done) | skip
      all_goals simp only [Bool.and_eq_true] at h
      case bool => exact one h.1 (oneCk_len h.2)
      case int => exact one h.1 (oneCk_len h.2)
      case pointer => exact one h.1.1.1 (oneCk_len h.1.1.2)
      case struct => exact agg h.1.1
      case array => exact agg h.1.1
theorem refl_run : ∀ (k : Nat) (T : TypeId) (ks : List Ck), reflT P k T ks = true → ∀ (d : Nat), k ≤ d → ∀ (vs : List Value) (w : World), tyB vs ks = true → (Op.equalIn d T (valR P T vs) (valR P T vs)).run P w = .ok true w
  | 0, _, _, h, _, _, _, _, _ => by cases h
  | k + 1, T, ks, h, d, hd, vs, w, ht => by
    obtain ⟨d, rfl⟩ : ∃ e, d = e + 1 := ⟨d - 1, by omega⟩
    have hl := tyB_len ht
    unfold reflT at h
    unfold valR aggT
    cases hu : P.underlying T with
    | none => rw [hu] at h; cases h
    | some dd =>
      rw [hu] at h
      cases dd <;> first | (cases h; done) | skip
      all_goals simp only [Bool.and_eq_true] at h
      case bool =>
        have ek := oneCk_eq h.2
        subst ek
        obtain ⟨v, rfl, hv⟩ := tyB_one ht
        obtain ⟨b, rfl⟩ := ckB_b hv
        simpa using run_equalIn_bool w d T b b hu
      case int kk =>
        have ek := oneCk_eq h.2
        subst ek
        obtain ⟨v, rfl, hv⟩ := tyB_one ht
        obtain ⟨a, rfl⟩ := ckB_i hv
        simpa using run_equalIn_int w d T .i64 kk a a hu
      case pointer e =>
        obtain ⟨⟨⟨h1, h2⟩, h3⟩, h4⟩ := h
        obtain ⟨i, hi⟩ := Option.isSome_iff_exists.1 h3
        have hz : P.cellsOf e ≠ 0 := fun h0 => by rw [h0] at h4; cases h4
        have ek := oneCk_eq h2
        subst ek
        obtain ⟨v, rfl, hv⟩ := tyB_one ht
        obtain ⟨q, rfl⟩ := ckB_p hv
        · cases q with
          | none => simp [Op.equalIn, Sem.run_bind, run_underlying hu]
          | some a => simp [Op.equalIn, Sem.run_bind, run_underlying hu, run_sizeOf w hi, hz, sameAddr]
      case struct fs =>
        obtain ⟨⟨h1, h2⟩, h3⟩ := h
        simp only [Bool.not_eq_true'] at h2
        have hf : P.fieldsOf T = fs := by simp [Program.fieldsOf, hu]
        simp only [if_true]
        rw [run_equalIn_struct w _ T _ _ (by rw [hf]; exact hu) h2, hf]
        rw [List.all_eq_true] at h3
        generalize fs.toList = fl at h3
        induction fl with
        | nil => simp [Op.eqFields]
        | cons f fl ih =>
          have hh := h3 f (List.mem_cons_self ..)
          simp only [Bool.and_eq_true] at hh
          have hle := Nat.le_of_ble_eq_true hh.1
          have hlen : ((ks.drop f.offset).take (P.cellsOf f.type)).length = P.cellsOf f.type := by rw [List.length_take, List.length_drop]; omega
          have hp := part_refl hh.2 vs f.offset (by rw [hlen, hl]; exact hle) w
          rw [hlen] at hp
          have hr := refl_run k f.type _ hh.2 d (by omega) ((vs.drop f.offset).take (P.cellsOf f.type)) w (tyB_take _ (tyB_drop _ ht))
          unfold Op.eqFields
          split
          · simp only [Sem.run_bind, hp, Result.andThen_ok, hr, Bool.not_true, Bool.false_eq_true, if_false]
            exact ih fun g hg => h3 g (List.mem_cons_of_mem _ hg)
          · exact ih fun g hg => h3 g (List.mem_cons_of_mem _ hg)
      case array n e =>
        obtain ⟨⟨h1, h2⟩, h3⟩ := h
        obtain ⟨i, hi⟩ := Option.isSome_iff_exists.1 h2
        simp only [if_true]
        rw [run_equalIn_array w d vs.toArray vs.toArray hu hi]
        rw [List.all_eq_true] at h3
        generalize List.range n = fl at h3
        induction fl with
        | nil => simp [Op.eqItems]
        | cons j fl ih =>
          have hh := h3 j (List.mem_cons_self ..)
          simp only [Bool.and_eq_true] at hh
          have hle := Nat.le_of_ble_eq_true hh.1
          have hlen : ((ks.drop (j * P.cellsOf e)).take (P.cellsOf e)).length = P.cellsOf e := by rw [List.length_take, List.length_drop]; omega
          have hp := part_refl hh.2 vs (j * P.cellsOf e) (by rw [hlen, hl]; exact hle) w
          rw [hlen] at hp
          have hr := refl_run k e _ hh.2 d (by omega) ((vs.drop (j * P.cellsOf e)).take (P.cellsOf e)) w (tyB_take _ (tyB_drop _ ht))
          unfold Op.eqItems
          simp only [Sem.run_bind, hp, Result.andThen_ok, hr, Bool.not_true, Bool.false_eq_true, if_false]
          exact ih fun g hg => h3 g (List.mem_cons_of_mem _ hg)
def reflB (P : Program) (T : TypeId) (ks : List Ck) : Bool := aggT P T && reflT P 8 T ks && !P.eqGuardType P.depth T
class ReflT (P : Program) (T : TypeId) (ks : outParam (List Ck)) : Prop where
  h : reflB P T ks = true
variable {L : List HP} {σ : Env} {d : Option Nat} {ty T T' : TypeId} {pos : String} {aft : Array Edge} {gd : Option (Nat × Bool)} {x y : Operand}
theorem ev_eqlR {ks : List Ck} {cs : List Value} [H : ReflT P T ks] (hx : ev σ x = some (.agg cs.toArray)) (hy : ev σ y = some (.agg cs.toArray)) (h1 : tyB cs ks = true) : Ev P L σ ⟨d, .binOp .eql T x y T', ty, pos, aft, gd⟩ (.bool true) := by
  have h := H.h
  unfold reflB at h
  simp only [Bool.and_eq_true, Bool.not_eq_true'] at h
  obtain ⟨⟨h2, h3⟩, h4⟩ := h
  refine bin_run' _ _ _ _ (fun w => run_eqGuard_agg w _ _ _ _ _ _ h4) hx hy fun w => ?_
  show ((do pure (.bool (← Op.equal T (.agg cs.toArray) (.agg cs.toArray))) : Sem Value)).run P w = _
  have key := refl_run 8 T ks h3 Op.maxDepth (by decide) cs w h1
  unfold valR at key
  rw [if_pos h2] at key
  have key2 : (Op.equal T (.agg cs.toArray) (.agg cs.toArray)).run P w = .ok true w := key
  simp only [Sem.run_bind, key2, Result.andThen_ok, Sem.run_pure]
end
end Go.Proofs.YtkoncepjfgnjlaaGreat
/- A tree of lists that lead into one another: Check tells true. -/
namespace Go.Proofs.YtkoncepjfgnjlaaGreat
attribute [local irreducible] sat
set_option linter.unusedVariables false
set_option linter.unusedSimpArgs false
set_option maxRecDepth 100000

theorem join_node {a b : Arr} (h : 0 < a.es.length) : join a b = .node (mrg 0 0 a.pts b.pts) a b := by
  cases a with
  | nil => simp [Arr.es] at h
  | node => rfl
theorem asound_ctr : ∀ (T : RT) (l : List Pt) (L : List HP) (q : Option Addr), T.of l → l.length ≤ 100000 → ArrIn L q T.arr → Ctr Tryz.prog 101 #[.pointer q] L fun v L' => v = .bool true ∧ L' = L
  | .nil, l, L, q, _, _, h => by
    have e : q = none := h
    subst e
    exact sound_nil L
  | .node b p a u v lo hi, l, L, q, ho, hn, h => by
    have hlen : a.es.length = l.length := ho.len
    obtain ⟨_, _, hh⟩ := ho
    rcases hh with ⟨p, rfl, rfl, rfl, rfl⟩ | ⟨g1, g2, g3, rfl⟩
    · refine sound_leaf q _ L h (by simp) (fun k e f h1 h2 => ?_) (fun k e h1 => ?_)
      · simp at h2
      · match k with
        | 0 => simp at h1; subst h1; exact ⟨Int.le_refl _, Int.le_refl _⟩
        | k + 1 => simp at h1
    · have n1 : lo.arr.es.length = (l.take ((l.length + 1) / 2)).length := g2.len
      have n2 : hi.arr.es.length = (l.drop ((l.length + 1) / 2)).length := g3.len
      rw [List.length_take] at n1
      rw [List.length_drop] at n2
      have hp : 0 < lo.arr.es.length := by omega
      have ih1 := fun M q => asound_ctr lo _ M q g2 (by rw [List.length_take]; omega)
      have ih2 := fun M q => asound_ctr hi _ M q g3 (by rw [List.length_drop]; omega)
      have s1 := g2.srt
      have s2 := g3.srt
      have e1 : lo.arr.pts.length = lo.arr.es.length := List.length_map _
      have e2 : hi.arr.pts.length = hi.arr.es.length := List.length_map _
      have hm := mrg_length 0 0 lo.arr.pts hi.arr.pts
      have h' : ArrIn L q (join lo.arr hi.arr) := h
      rw [join_node hp] at h'
      refine sound_join q _ _ _ L h' (fun e => by rw [e] at hp; simp [Arr.es] at hp) (by omega) (by omega) (by omega) (fun k e f h1 h2 => ?_) (fun k e h1 => ?_) (by omega) ih1 ih2
      · refine (up_leP _ _).2 (pairwise_next (mrg_sorted 0 0 _ _ s1 s2) (k := k) ?_ ?_)
        · rw [List.getElem?_map, h1]; rfl
        · rw [List.getElem?_map, h2]; rfl
      · have := (mrg_at 0 0 _ _ s1 s2 k e h1).sides
        rw [e1, e2] at this
        exact this
instance : ReflT Tryz.prog 102 [.p, .p] := ⟨by kernel_rfl⟩
theorem rsound_ctr : ∀ (T : RT) (l : List Pt) (A : Option Addr) (n c : Nat) (L : List HP), RIn L T → T.of l → n ≤ 100000 → Rd L A n l → n ≤ c → c ≤ maxLen →
    Ctr Tryz.prog 67 #[.pointer T.addr, .slice A n c] L fun v L' => v = .bool true ∧ L' = L
  | .nil, l, A, n, c, L, h, ho, hn, hl, hc, hc2 => by
    have h1 : l.length = n := hl.len (by decide)
    have e : l = [] := ho
    subst e
    simp at h1
    subst h1
    refine Ctr_of (fn := Tryz.f67) (n := 77) Tryz.func67 rfl rfl rfl ?_
    intro g F
    refine GN ?_
    refine G_region ?_
    refine GQ (ev_assign rfl) ?_
    refine GO_nil ?_
    refine GN ?_
    refine G_region ?_
    refine GQ (ev_move rfl) ?_
    (first | refine GQ (ev_eqlNil rfl rfl) ?_ | refine GQ (ev_eqlPtr rfl rfl) ?_)
    refine GO_nil ?_
    refine GN ?_
    refine G_cond_t rfl rfl ?_
    refine GN ?_
    refine G_region ?_
    refine GQ (ev_move rfl) ?_
    refine GQ (ev_len rfl) ?_
    refine GQ (ev_eql rfl rfl) ?_
    refine GQ (ev_assign rfl) ?_
    refine GO_nil ?_
    refine GN ?_
    refine G_ret rfl (.tmp rfl .nil) EnA ⟨rfl, rfl⟩
  | .node b q a u v lo hi, l, A, n, c, L, h, ho, hn, hl, hc, hc2 => by
    have h1 : l.length = n := hl.len (by decide)
    have hlen : a.es.length = l.length := ho.len
    obtain ⟨⟨pf, g0, eu⟩, ⟨pg, g1, ev⟩, hh⟩ := ho
    have hpos : 0 < n := by have := (List.getElem?_eq_some_iff.1 g0).1; omega
    obtain ⟨z, ha, i1, i2⟩ := h
    have w0 : Ld L ⟨b, 0 + 0, none⟩ (.pointer q) := z.at_ (i := 0) rfl
    have w1 : Ld L ⟨b, 0 + 1, none⟩ (.int .i64 u) := z.at_ (i := 1) rfl
    have w2 : Ld L ⟨b, 0 + 2, none⟩ (.int .i64 v) := z.at_ (i := 2) rfl
    have w3 : Ld L ⟨b, 0 + 3 + 0 * 1, none⟩ (.pointer lo.addr) := z.at_ (i := 3) rfl
    have w4 : Ld L ⟨b, 0 + 3 + 1 * 1, none⟩ (.pointer hi.addr) := z.at_ (i := 4) rfl
    obtain ⟨bb, o, rfl, hx⟩ := hl.at_ hpos
    rw [h1] at g1
    have y0 : LdN L bb (o + 0 * 3) 3 [.int .i64 pf.id, .int .i64 pf.x, .int .i64 pf.y] := hx _ _ g0
    have y1 : LdN L bb (o + (n - 1) * 3) 3 [.int .i64 pg.id, .int .i64 pg.x, .int .i64 pg.y] := hx _ _ g1
    have x0 : Ld L ⟨bb, o + 0 * 3 + 1, none⟩ (.int .i64 pf.x) := y0.at_ (i := 1) rfl
    have x1 : Ld L ⟨bb, o + (n - 1) * 3 + 1, none⟩ (.int .i64 pg.x) := y1.at_ (i := 1) rfl
    have hL := fun M (h : ArrIn M q a) => Len_ctr q a M h
    rw [hlen, h1] at hL
    subst eu ev
    rcases hh with ⟨p, rfl, rfl, rfl, rfl⟩ | ⟨k1, k2, k3, k4⟩
    · simp at h1
      subst h1
      simp at g0 g1
      subst g0 g1
      have w5 : LdN L b (0 + 3) 2 [.pointer none, .pointer none] := ⟨rfl, fun j v hj => by
        match j with
        | 0 => simp at hj; subst hj; exact w3
        | 1 => simp at hj; subst hj; exact w4
        | j + 2 => simp at hj⟩
      refine Ctr_of (fn := Tryz.f67) (n := 77) Tryz.func67 rfl rfl rfl ?_
      intro g F
      refine GN ?_
      refine G_region ?_
      refine GQ (ev_assign rfl) ?_
      refine GO_nil ?_
      refine GN ?_
      refine G_region ?_
      refine GQ (ev_move rfl) ?_
      (first | refine GQ (ev_eqlNil rfl rfl) ?_ | refine GQ (ev_eqlPtr rfl rfl) ?_)
      refine GO_nil ?_
      refine GN ?_
      refine G_cond_f rfl rfl ?_
      refine GN ?_
      refine G_draw (.q 0 (.q 1 (.q 2 (.q 3 (.q 5 (.q 6 (.e 4 (.q 7 (.q 8 (.q 9 (.q 10 (.q 11 (.q 12 (.q 13 (.q 14 (.q 15 (.q 16 (.q 17 (.q 18 (.q 19 (.q 20 (.q 21 (.q 22 (.q 23 (.q 24 (.q 25 (.q 26 (.q 27 (.q 28 (.q 29 (.q 30 (.q 31 (.q 32 .nil))))))))))))))))))))))))))))))))) (by kernel_rfl) (by kernel_rfl) ?_
      refine RM rfl (ev_move rfl) ?_
      (first | refine RM rfl (ev_nilCheck rfl) ?_ | refine RM rfl (ev_nilCheckF (by simp) rfl) ?_)
      refine RM rfl (ev_fieldAddr rfl) ?_
      refine RQ rfl (ev_load rfl LdA) ?_
      refine RM rfl (ev_move rfl) ?_
      refine RQ rfl (ev_len rfl) ?_
      refine RS_e (RE_eff rfl rfl rfl (eff_call rfl (hL _ ha.skip)) ?_); rintro _ _ ⟨rfl, rfl⟩; refine ⟨_, fun _ s => s, ExA, ?_⟩
      refine RM rfl (ev_neq rfl rfl) ?_
      refine RM rfl (ev_move rfl) ?_
      refine RS_m_yes retB_noPanic rfl rfl rfl rfl ⟨_, rfl, (by simp)⟩ rfl (ev_move rfl) ?_
      (first | refine RS_m_yes retB_noPanic rfl rfl rfl rfl ⟨_, rfl, (by simp)⟩ rfl (ev_nilCheck rfl) ?_ | refine RS_m_yes retB_noPanic rfl rfl rfl rfl ⟨_, rfl, (by simp)⟩ rfl (ev_nilCheckF (by simp) rfl) ?_)
      refine RS_m_yes retB_noPanic rfl rfl rfl rfl ⟨_, rfl, (by simp)⟩ rfl (ev_fieldAddr rfl) ?_
      refine RS_q_yes retB_noPanic rfl rfl rfl rfl ⟨_, rfl, (by simp)⟩ rfl (ev_load rfl LdA) ?_
      refine RS_m_yes retB_noPanic rfl rfl rfl rfl ⟨_, rfl, (by simp)⟩ rfl (ev_move rfl) ?_
      (first | refine RS_m_yes retB_noPanic rfl rfl rfl rfl ⟨_, rfl, (by simp)⟩ rfl (ev_indexAddrN rfl rfl NgA) ?_ | refine RS_m_yes retB_noPanic rfl rfl rfl rfl ⟨_, rfl, (by simp)⟩ rfl (ev_indexAddr rfl rfl NgA NgA) ?_)
      refine RS_m_yes retB_noPanic rfl rfl rfl rfl ⟨_, rfl, (by simp)⟩ rfl (ev_fieldAddr rfl) ?_
      refine RS_q_yes retB_noPanic rfl rfl rfl rfl ⟨_, rfl, (by simp)⟩ rfl (ev_load rfl LdA) ?_
      refine RS_m_yes retB_noPanic rfl rfl rfl rfl ⟨_, rfl, (by simp)⟩ rfl (ev_neq rfl rfl) ?_
      refine RM rfl (ev_pick_f rfl (by simp) rfl) ?_
      refine RM rfl (ev_move rfl) ?_
      refine RS_m_yes retB_noPanic rfl rfl rfl rfl ⟨_, rfl, (by simp)⟩ rfl (ev_move rfl) ?_
      (first | refine RS_m_yes retB_noPanic rfl rfl rfl rfl ⟨_, rfl, (by simp)⟩ rfl (ev_nilCheck rfl) ?_ | refine RS_m_yes retB_noPanic rfl rfl rfl rfl ⟨_, rfl, (by simp)⟩ rfl (ev_nilCheckF (by simp) rfl) ?_)
      refine RS_m_yes retB_noPanic rfl rfl rfl rfl ⟨_, rfl, (by simp)⟩ rfl (ev_fieldAddr rfl) ?_
      refine RS_q_yes retB_noPanic rfl rfl rfl rfl ⟨_, rfl, (by simp)⟩ rfl (ev_load rfl LdA) ?_
      refine RS_m_yes retB_noPanic rfl rfl rfl rfl ⟨_, rfl, (by simp)⟩ rfl (ev_move rfl) ?_
      refine RS_m_yes retB_noPanic rfl rfl rfl rfl ⟨_, rfl, (by simp)⟩ rfl (ev_move rfl) ?_
      refine RS_q_yes retB_noPanic rfl rfl rfl rfl ⟨_, rfl, (by simp)⟩ rfl (ev_len rfl) ?_
      (first | refine RS_m_yes retB_noPanic rfl rfl rfl rfl ⟨_, rfl, (by simp)⟩ rfl (ev_subN (q := 1) rfl rfl NgA) ?_ | refine RS_m_yes retB_noPanic rfl rfl rfl rfl ⟨_, rfl, (by simp)⟩ rfl (ev_sub rfl rfl NgA) ?_)
      (first | refine RS_m_yes retB_noPanic rfl rfl rfl rfl ⟨_, rfl, (by simp)⟩ rfl (ev_indexAddrN rfl rfl NgA) ?_ | refine RS_m_yes retB_noPanic rfl rfl rfl rfl ⟨_, rfl, (by simp)⟩ rfl (ev_indexAddr rfl rfl NgA NgA) ?_)
      refine RS_m_yes retB_noPanic rfl rfl rfl rfl ⟨_, rfl, (by simp)⟩ rfl (ev_fieldAddr rfl) ?_
      refine RS_q_yes retB_noPanic rfl rfl rfl rfl ⟨_, rfl, (by simp)⟩ rfl (ev_load rfl LdA) ?_
      refine RS_m_yes retB_noPanic rfl rfl rfl rfl ⟨_, rfl, (by simp)⟩ rfl (ev_neq rfl rfl) ?_
      refine RM rfl (ev_pick_f rfl (by simp) rfl) ?_
      refine RS_nil ?_
      refine GN ?_
      refine G_cond_f rfl (by simp) ?_
      refine GN ?_
      refine G_region ?_
      refine GQ (ev_move rfl) ?_
      refine GQ (ev_len rfl) ?_
      refine GQ (ev_eql rfl rfl) ?_
      refine GO_nil ?_
      refine GN ?_
      refine G_cond_t rfl rfl ?_
      refine GN ?_
      refine G_region ?_
      refine GQ (ev_move rfl) ?_
      (first | refine GQ (ev_nilCheck rfl) ?_ | refine GQ (ev_nilCheckF (by simp) rfl) ?_)
      refine GQ (ev_fieldAddr rfl) ?_
      refine GQ (ev_loadN rfl LnA) ?_
      refine GQ (ev_buildA rfl rfl) ?_
      refine GQ (ev_eqlR rfl rfl rfl) ?_
      refine GQ (ev_assign rfl) ?_
      refine GO_nil ?_
      refine GN ?_
      refine G_ret rfl (.tmp rfl .nil) EnA ⟨rfl, rfl⟩
    · have m1 := hl.take (k := (n + 1) / 2) (by omega)
      have m2 := hl.drop (k := (n + 1) / 2) (c := c) (by omega) hc
      rw [h1] at k2 k3
      have s1 := fun M (h : RIn M lo) (h' : Rd M (some ⟨bb, o, none⟩) ((n + 1) / 2) (l.take ((n + 1) / 2))) => rsound_ctr lo _ _ ((n + 1) / 2) c M h k2 (by omega) h' (by omega) hc2
      have s2 := fun M (h : RIn M hi) (h' : Rd M (some ⟨bb, if c = (n + 1) / 2 then o else o + (n + 1) / 2 * Enc.sz Pt, none⟩) (n - (n + 1) / 2) (l.drop ((n + 1) / 2))) => rsound_ctr hi _ _ (n - (n + 1) / 2) (c - (n + 1) / 2) M h k3 (by omega) h' (by omega) (by omega)
      generalize hmid : (n + 1) / 2 = mid at *
      unfold maxLen at hc2
      refine Ctr_of (fn := Tryz.f67) (n := 77) Tryz.func67 rfl rfl rfl ?_
      intro g F
      refine GN ?_
      refine G_region ?_
      refine GQ (ev_assign rfl) ?_
      refine GO_nil ?_
      refine GN ?_
      refine G_region ?_
      refine GQ (ev_move rfl) ?_
      (first | refine GQ (ev_eqlNil rfl rfl) ?_ | refine GQ (ev_eqlPtr rfl rfl) ?_)
      refine GO_nil ?_
      refine GN ?_
      refine G_cond_f rfl rfl ?_
      refine GN ?_
      refine G_draw (.q 0 (.q 1 (.q 2 (.q 3 (.q 5 (.q 6 (.e 4 (.q 7 (.q 8 (.q 9 (.q 10 (.q 11 (.q 12 (.q 13 (.q 14 (.q 15 (.q 16 (.q 17 (.q 18 (.q 19 (.q 20 (.q 21 (.q 22 (.q 23 (.q 24 (.q 25 (.q 26 (.q 27 (.q 28 (.q 29 (.q 30 (.q 31 (.q 32 .nil))))))))))))))))))))))))))))))))) (by kernel_rfl) (by kernel_rfl) ?_
      refine RM rfl (ev_move rfl) ?_
      (first | refine RM rfl (ev_nilCheck rfl) ?_ | refine RM rfl (ev_nilCheckF (by simp) rfl) ?_)
      refine RM rfl (ev_fieldAddr rfl) ?_
      refine RQ rfl (ev_load rfl LdA) ?_
      refine RM rfl (ev_move rfl) ?_
      refine RQ rfl (ev_len rfl) ?_
      refine RS_e (RE_eff rfl rfl rfl (eff_call rfl (hL _ ha.skip)) ?_); rintro _ _ ⟨rfl, rfl⟩; refine ⟨_, fun _ s => s, ExA, ?_⟩
      refine RM rfl (ev_neq rfl rfl) ?_
      refine RM rfl (ev_move rfl) ?_
      refine RS_m_yes retB_noPanic rfl rfl rfl rfl ⟨_, rfl, (by simp)⟩ rfl (ev_move rfl) ?_
      (first | refine RS_m_yes retB_noPanic rfl rfl rfl rfl ⟨_, rfl, (by simp)⟩ rfl (ev_nilCheck rfl) ?_ | refine RS_m_yes retB_noPanic rfl rfl rfl rfl ⟨_, rfl, (by simp)⟩ rfl (ev_nilCheckF (by simp) rfl) ?_)
      refine RS_m_yes retB_noPanic rfl rfl rfl rfl ⟨_, rfl, (by simp)⟩ rfl (ev_fieldAddr rfl) ?_
      refine RS_q_yes retB_noPanic rfl rfl rfl rfl ⟨_, rfl, (by simp)⟩ rfl (ev_load rfl LdA) ?_
      refine RS_m_yes retB_noPanic rfl rfl rfl rfl ⟨_, rfl, (by simp)⟩ rfl (ev_move rfl) ?_
      (first | refine RS_m_yes retB_noPanic rfl rfl rfl rfl ⟨_, rfl, (by simp)⟩ rfl (ev_indexAddrN rfl rfl NgA) ?_ | refine RS_m_yes retB_noPanic rfl rfl rfl rfl ⟨_, rfl, (by simp)⟩ rfl (ev_indexAddr rfl rfl NgA NgA) ?_)
      refine RS_m_yes retB_noPanic rfl rfl rfl rfl ⟨_, rfl, (by simp)⟩ rfl (ev_fieldAddr rfl) ?_
      refine RS_q_yes retB_noPanic rfl rfl rfl rfl ⟨_, rfl, (by simp)⟩ rfl (ev_load rfl LdA) ?_
      refine RS_m_yes retB_noPanic rfl rfl rfl rfl ⟨_, rfl, (by simp)⟩ rfl (ev_neq rfl rfl) ?_
      refine RM rfl (ev_pick_f rfl (by simp) rfl) ?_
      refine RM rfl (ev_move rfl) ?_
      refine RS_m_yes retB_noPanic rfl rfl rfl rfl ⟨_, rfl, (by simp)⟩ rfl (ev_move rfl) ?_
      (first | refine RS_m_yes retB_noPanic rfl rfl rfl rfl ⟨_, rfl, (by simp)⟩ rfl (ev_nilCheck rfl) ?_ | refine RS_m_yes retB_noPanic rfl rfl rfl rfl ⟨_, rfl, (by simp)⟩ rfl (ev_nilCheckF (by simp) rfl) ?_)
      refine RS_m_yes retB_noPanic rfl rfl rfl rfl ⟨_, rfl, (by simp)⟩ rfl (ev_fieldAddr rfl) ?_
      refine RS_q_yes retB_noPanic rfl rfl rfl rfl ⟨_, rfl, (by simp)⟩ rfl (ev_load rfl LdA) ?_
      refine RS_m_yes retB_noPanic rfl rfl rfl rfl ⟨_, rfl, (by simp)⟩ rfl (ev_move rfl) ?_
      refine RS_m_yes retB_noPanic rfl rfl rfl rfl ⟨_, rfl, (by simp)⟩ rfl (ev_move rfl) ?_
      refine RS_q_yes retB_noPanic rfl rfl rfl rfl ⟨_, rfl, (by simp)⟩ rfl (ev_len rfl) ?_
      (first | refine RS_m_yes retB_noPanic rfl rfl rfl rfl ⟨_, rfl, (by simp)⟩ rfl (ev_subN (q := 1) rfl rfl NgA) ?_ | refine RS_m_yes retB_noPanic rfl rfl rfl rfl ⟨_, rfl, (by simp)⟩ rfl (ev_sub rfl rfl NgA) ?_)
      (first | refine RS_m_yes retB_noPanic rfl rfl rfl rfl ⟨_, rfl, (by simp)⟩ rfl (ev_indexAddrN rfl rfl NgA) ?_ | refine RS_m_yes retB_noPanic rfl rfl rfl rfl ⟨_, rfl, (by simp)⟩ rfl (ev_indexAddr rfl rfl NgA NgA) ?_)
      refine RS_m_yes retB_noPanic rfl rfl rfl rfl ⟨_, rfl, (by simp)⟩ rfl (ev_fieldAddr rfl) ?_
      refine RS_q_yes retB_noPanic rfl rfl rfl rfl ⟨_, rfl, (by simp)⟩ rfl (ev_load rfl LdA) ?_
      refine RS_m_yes retB_noPanic rfl rfl rfl rfl ⟨_, rfl, (by simp)⟩ rfl (ev_neq rfl rfl) ?_
      refine RM rfl (ev_pick_f rfl (by simp) rfl) ?_
      refine RS_nil ?_
      refine GN ?_
      refine G_cond_f rfl (by simp) ?_
      refine GN ?_
      refine G_region ?_
      refine GQ (ev_move rfl) ?_
      refine GQ (ev_len rfl) ?_
      refine GQ (ev_eql rfl rfl) ?_
      refine GO_nil ?_
      refine GN ?_
      refine G_cond_f rfl (decide_eq_false (by omega)) ?_
      refine GN ?_
      refine G_region ?_
      refine GQ (ev_move rfl) ?_
      refine GQ (ev_len rfl) ?_
      (first | refine GQ (ev_addN (q := 1) rfl rfl NgA) ?_ | refine GQ (ev_add rfl rfl NgA) ?_)
      refine GQ (ev_quoN (q := 2) rfl rfl (by omega) (by omega)) ?_
      rw [hmid]
      refine GQ (ev_assign rfl) ?_
      refine GO_nil ?_
      refine GN ?_
      refine G_draw (.q 0 (.q 1 (.q 2 (.q 3 (.q 4 (.q 5 (.q 6 (.q 7 (.e 8 (.q 9 (.q 10 (.q 11 (.q 12 (.q 13 (.q 14 (.q 15 (.q 16 (.q 17 (.e 18 (.q 19 (.q 20 .nil))))))))))))))))))))) (by kernel_rfl) (by kernel_rfl) ?_
      refine RM rfl (ev_move rfl) ?_
      (first | refine RM rfl (ev_nilCheck rfl) ?_ | refine RM rfl (ev_nilCheckF (by simp) rfl) ?_)
      refine RM rfl (ev_fieldAddr rfl) ?_
      refine RM rfl (ev_indexAddrA rfl rfl NgA NgA) ?_
      refine RQ rfl (ev_load rfl LdA) ?_
      refine RM rfl (ev_move rfl) ?_
      refine RM rfl (ev_move rfl) ?_
      refine RQ rfl (ev_sliceH rfl rfl NgA) ?_
      refine RS_e (RE_eff rfl rfl rfl (eff_call rfl (s1 _ i1.skip m1.skip)) ?_); rintro _ _ ⟨rfl, rfl⟩; refine ⟨_, fun _ s => s, ExA, ?_⟩
      refine RM rfl (ev_move rfl) ?_
      refine RS_m_yes retB_noPanic rfl rfl rfl rfl ⟨_, rfl, rfl⟩ rfl (ev_move rfl) ?_
      (first | refine RS_m_yes retB_noPanic rfl rfl rfl rfl ⟨_, rfl, rfl⟩ rfl (ev_nilCheck rfl) ?_ | refine RS_m_yes retB_noPanic rfl rfl rfl rfl ⟨_, rfl, rfl⟩ rfl (ev_nilCheckF (by simp) rfl) ?_)
      refine RS_m_yes retB_noPanic rfl rfl rfl rfl ⟨_, rfl, rfl⟩ rfl (ev_fieldAddr rfl) ?_
      refine RS_m_yes retB_noPanic rfl rfl rfl rfl ⟨_, rfl, rfl⟩ rfl (ev_indexAddrA rfl rfl NgA NgA) ?_
      refine RS_q_yes retB_noPanic rfl rfl rfl rfl ⟨_, rfl, rfl⟩ rfl (ev_load rfl LdA) ?_
      refine RS_m_yes retB_noPanic rfl rfl rfl rfl ⟨_, rfl, rfl⟩ rfl (ev_move rfl) ?_
      refine RS_m_yes retB_noPanic rfl rfl rfl rfl ⟨_, rfl, rfl⟩ rfl (ev_move rfl) ?_
      refine RS_q_yes retB_noPanic rfl rfl rfl rfl ⟨_, rfl, rfl⟩ rfl (ev_sliceL rfl rfl NgA NgA) ?_
      refine RS_e (RE_eff_yes rfl rfl rfl ⟨_, rfl, rfl⟩ rfl (eff_call rfl (s2 _ i2.skip m2.skip)) ?_); rintro _ _ ⟨rfl, rfl⟩; refine ⟨_, fun _ s => s, ExA, ?_⟩
      refine RM rfl (ev_pick_t rfl rfl rfl) ?_
      refine RM rfl (ev_assign rfl) ?_
      refine RS_nil ?_
      refine GN ?_
      refine G_ret rfl (.tmp rfl .nil) EnA ⟨rfl, rfl⟩
theorem tCheck_ctr {t : Nat} {T : RT} {A : Option Addr} {c : Nat} {l : List Pt} {L : List HP} (h : TR L t T A c l) (hn : l.length ≤ 100000) : Ctr Tryz.prog 38 #[.pointer (some ⟨t, 0, none⟩)] L fun v L' => v = .bool true ∧ L' = L := by
  have z0 : Ld L ⟨t, 0 + 0, none⟩ (.pointer T.addr) := h.z.at_ (i := 0) rfl
  have z1 : Ld L ⟨t, 0 + 1, none⟩ (.slice A l.length c) := h.z.at_ (i := 1) rfl
  have hin := h.i
  have ho := h.o
  have hs := fun M (hi : RIn M T) (hr : Rd M A l.length l) => rsound_ctr T l A l.length c M hi ho hn hr h.c1 h.c2
  have hI := fun M (hr : Rd M A l.length l) => IsO_ctr less_ls A l.length c l M hr (by omega) (h.a.srt sto_less)
  cases hT : T with
  | nil =>
    subst hT
    refine Ctr_of (fn := Tryz.f38) (n := 40) Tryz.func38 rfl rfl rfl ?_
    intro g F
    refine GN ?_
    refine G_region ?_
    refine GQ (ev_assign rfl) ?_
    refine GO_nil ?_
    refine GN ?_
    refine G_draw (.q 0 (.q 1 (.q 2 (.q 3 (.q 4 (.q 5 (.q 6 (.e 7 (.q 8 (.q 9 (.q 10 (.q 11 (.q 12 (.q 13 (.q 14 (.q 15 (.q 16 (.q 17 (.q 18 (.e 19 (.q 20 (.q 21 .nil)))))))))))))))))))))) (by kernel_rfl) (by kernel_rfl) ?_
    refine RM rfl (ev_move rfl) ?_
    (first | refine RM rfl (ev_eqlNil rfl rfl) ?_ | refine RM rfl (ev_eqlPtr rfl rfl) ?_)
    refine RM rfl (ev_move rfl) ?_
    refine RS_m_yes retB_noPanic rfl rfl rfl rfl ⟨_, rfl, rfl⟩ rfl (ev_move rfl) ?_
    (first | refine RS_m_yes retB_noPanic rfl rfl rfl rfl ⟨_, rfl, rfl⟩ rfl (ev_nilCheck rfl) ?_ | refine RS_m_yes retB_noPanic rfl rfl rfl rfl ⟨_, rfl, rfl⟩ rfl (ev_nilCheckF (by simp) rfl) ?_)
    refine RS_m_yes retB_noPanic rfl rfl rfl rfl ⟨_, rfl, rfl⟩ rfl (ev_fieldAddr rfl) ?_
    refine RS_q_yes retB_noPanic rfl rfl rfl rfl ⟨_, rfl, rfl⟩ rfl (ev_load rfl LdA) ?_
    refine RS_e (RE_eff_yes rfl rfl rfl ⟨_, rfl, rfl⟩ rfl (eff_call rfl (hI _ h.r.skip)) ?_); rintro _ _ ⟨rfl, rfl⟩; refine ⟨_, fun _ s => s, ExA, ?_⟩
    refine RS_m_yes retB_noPanic rfl rfl rfl rfl ⟨_, rfl, rfl⟩ rfl (ev_not rfl) ?_
    refine RM rfl (ev_pick_f rfl rfl rfl) ?_
    refine RM rfl (ev_move rfl) ?_
    refine RS_m_yes retB_noPanic rfl rfl rfl rfl ⟨_, rfl, rfl⟩ rfl (ev_move rfl) ?_
    (first | refine RS_m_yes retB_noPanic rfl rfl rfl rfl ⟨_, rfl, rfl⟩ rfl (ev_nilCheck rfl) ?_ | refine RS_m_yes retB_noPanic rfl rfl rfl rfl ⟨_, rfl, rfl⟩ rfl (ev_nilCheckF (by simp) rfl) ?_)
    refine RS_m_yes retB_noPanic rfl rfl rfl rfl ⟨_, rfl, rfl⟩ rfl (ev_fieldAddr rfl) ?_
    refine RS_q_yes retB_noPanic rfl rfl rfl rfl ⟨_, rfl, rfl⟩ rfl (ev_load rfl LdA) ?_
    refine RS_m_yes retB_noPanic rfl rfl rfl rfl ⟨_, rfl, rfl⟩ rfl (ev_move rfl) ?_
    (first | refine RS_m_yes retB_noPanic rfl rfl rfl rfl ⟨_, rfl, rfl⟩ rfl (ev_nilCheck rfl) ?_ | refine RS_m_yes retB_noPanic rfl rfl rfl rfl ⟨_, rfl, rfl⟩ rfl (ev_nilCheckF (by simp) rfl) ?_)
    refine RS_m_yes retB_noPanic rfl rfl rfl rfl ⟨_, rfl, rfl⟩ rfl (ev_fieldAddr rfl) ?_
    refine RS_q_yes retB_noPanic rfl rfl rfl rfl ⟨_, rfl, rfl⟩ rfl (ev_load rfl LdA) ?_
    refine RS_e (RE_eff_yes rfl rfl rfl ⟨_, rfl, rfl⟩ rfl (eff_call rfl (hs _ trivial h.r.skip)) ?_); rintro _ _ ⟨rfl, rfl⟩; refine ⟨_, fun _ s => s, ExA, ?_⟩
    refine RS_m_yes retB_noPanic rfl rfl rfl rfl ⟨_, rfl, rfl⟩ rfl (ev_not rfl) ?_
    refine RM rfl (ev_pick_f rfl rfl rfl) ?_
    refine RS_nil ?_
    refine GN ?_
    refine G_cond_f rfl rfl ?_
    refine GN ?_
    refine G_region ?_
    refine GQ (ev_move rfl) ?_
    (first | refine GQ (ev_nilCheck rfl) ?_ | refine GQ (ev_nilCheckF (by simp) rfl) ?_)
    refine GQ (ev_fieldAddr rfl) ?_
    refine GQ (ev_load rfl LdA) ?_
    (first | refine GQ (ev_eqlNil rfl rfl) ?_ | refine GQ (ev_eqlPtr rfl rfl) ?_)
    refine GQ (ev_move rfl) ?_
    refine GO_no rfl rfl rfl rfl ?_
    refine GO_no rfl rfl rfl rfl ?_
    refine GO_no rfl rfl rfl rfl ?_
    refine GO_no rfl rfl rfl rfl ?_
    refine GO_no rfl rfl rfl rfl ?_
    refine GO_no rfl rfl rfl rfl ?_
    refine GO_no rfl rfl rfl rfl ?_
    refine GO_no rfl rfl rfl rfl ?_
    refine GQ (ev_pick_t rfl rfl rfl) ?_
    refine GQ (ev_assign rfl) ?_
    refine GO_nil ?_
    refine GN ?_
    refine G_ret rfl (.tmp rfl .nil) EnA ⟨rfl, rfl⟩
  | node d q a u v lo hi' =>
    subst hT
    have z5 : Ld L ⟨t, 0 + 0, none⟩ (.pointer (some ⟨d, 0, none⟩)) := z0
    have z6 : Ld L ⟨d, 0 + 0, none⟩ (.pointer q) := hin.1.at_ (i := 0) rfl
    have ha : ArrIn L q a := hin.2.1
    have hsa := fun X => asound_ctr (RT.node d q a u v lo hi') l (X :: L) q ho hn (show ArrIn (X :: L) q a from ha.skip)
    cases hq : q with
    | none =>
      subst hq
      exfalso
      have hl := ho.len
      have hpos : 0 < l.length := by obtain ⟨⟨pf, g0, _⟩, _⟩ := ho; have := (List.getElem?_eq_some_iff.1 g0).1; omega
      cases a with
      | nil => have : (0 : Nat) = l.length := hl; omega
      | node => simp [ArrIn] at ha
    | some qa =>
      subst hq
      have hC := fun X => Check_ctr qa (X :: L) (fun Y => (asound_ctr (RT.node d (some qa) a u v lo hi') l (Y :: X :: L) (some qa) ho hn (show ArrIn (Y :: X :: L) (some qa) a from ha.skip.skip)))
      refine Ctr_of (fn := Tryz.f38) (n := 40) Tryz.func38 rfl rfl rfl ?_
      intro g F
      refine GN ?_
      refine G_region ?_
      refine GQ (ev_assign rfl) ?_
      refine GO_nil ?_
      refine GN ?_
      refine G_draw (.q 0 (.q 1 (.q 2 (.q 3 (.q 4 (.q 5 (.q 6 (.e 7 (.q 8 (.q 9 (.q 10 (.q 11 (.q 12 (.q 13 (.q 14 (.q 15 (.q 16 (.q 17 (.q 18 (.e 19 (.q 20 (.q 21 .nil)))))))))))))))))))))) (by kernel_rfl) (by kernel_rfl) ?_
      refine RM rfl (ev_move rfl) ?_
      (first | refine RM rfl (ev_eqlNil rfl rfl) ?_ | refine RM rfl (ev_eqlPtr rfl rfl) ?_)
      refine RM rfl (ev_move rfl) ?_
      refine RS_m_yes retB_noPanic rfl rfl rfl rfl ⟨_, rfl, rfl⟩ rfl (ev_move rfl) ?_
      (first | refine RS_m_yes retB_noPanic rfl rfl rfl rfl ⟨_, rfl, rfl⟩ rfl (ev_nilCheck rfl) ?_ | refine RS_m_yes retB_noPanic rfl rfl rfl rfl ⟨_, rfl, rfl⟩ rfl (ev_nilCheckF (by simp) rfl) ?_)
      refine RS_m_yes retB_noPanic rfl rfl rfl rfl ⟨_, rfl, rfl⟩ rfl (ev_fieldAddr rfl) ?_
      refine RS_q_yes retB_noPanic rfl rfl rfl rfl ⟨_, rfl, rfl⟩ rfl (ev_load rfl LdA) ?_
      refine RS_e (RE_eff_yes rfl rfl rfl ⟨_, rfl, rfl⟩ rfl (eff_call rfl (hI _ h.r.skip)) ?_); rintro _ _ ⟨rfl, rfl⟩; refine ⟨_, fun _ s => s, ExA, ?_⟩
      refine RS_m_yes retB_noPanic rfl rfl rfl rfl ⟨_, rfl, rfl⟩ rfl (ev_not rfl) ?_
      refine RM rfl (ev_pick_f rfl rfl rfl) ?_
      refine RM rfl (ev_move rfl) ?_
      refine RS_m_yes retB_noPanic rfl rfl rfl rfl ⟨_, rfl, rfl⟩ rfl (ev_move rfl) ?_
      (first | refine RS_m_yes retB_noPanic rfl rfl rfl rfl ⟨_, rfl, rfl⟩ rfl (ev_nilCheck rfl) ?_ | refine RS_m_yes retB_noPanic rfl rfl rfl rfl ⟨_, rfl, rfl⟩ rfl (ev_nilCheckF (by simp) rfl) ?_)
      refine RS_m_yes retB_noPanic rfl rfl rfl rfl ⟨_, rfl, rfl⟩ rfl (ev_fieldAddr rfl) ?_
      refine RS_q_yes retB_noPanic rfl rfl rfl rfl ⟨_, rfl, rfl⟩ rfl (ev_load rfl LdA) ?_
      refine RS_m_yes retB_noPanic rfl rfl rfl rfl ⟨_, rfl, rfl⟩ rfl (ev_move rfl) ?_
      (first | refine RS_m_yes retB_noPanic rfl rfl rfl rfl ⟨_, rfl, rfl⟩ rfl (ev_nilCheck rfl) ?_ | refine RS_m_yes retB_noPanic rfl rfl rfl rfl ⟨_, rfl, rfl⟩ rfl (ev_nilCheckF (by simp) rfl) ?_)
      refine RS_m_yes retB_noPanic rfl rfl rfl rfl ⟨_, rfl, rfl⟩ rfl (ev_fieldAddr rfl) ?_
      refine RS_q_yes retB_noPanic rfl rfl rfl rfl ⟨_, rfl, rfl⟩ rfl (ev_load rfl LdA) ?_
      refine RS_e (RE_eff_yes rfl rfl rfl ⟨_, rfl, rfl⟩ rfl (eff_call rfl (hs _ hin.skip h.r.skip)) ?_); rintro _ _ ⟨rfl, rfl⟩; refine ⟨_, fun _ s => s, ExA, ?_⟩
      refine RS_m_yes retB_noPanic rfl rfl rfl rfl ⟨_, rfl, rfl⟩ rfl (ev_not rfl) ?_
      refine RM rfl (ev_pick_f rfl rfl rfl) ?_
      refine RS_nil ?_
      refine GN ?_
      refine G_cond_f rfl rfl ?_
      refine GN ?_
      refine G_region ?_
      refine GQ (ev_move rfl) ?_
      (first | refine GQ (ev_nilCheck rfl) ?_ | refine GQ (ev_nilCheckF (by simp) rfl) ?_)
      refine GQ (ev_fieldAddr rfl) ?_
      refine GQ (ev_load rfl LdA) ?_
      (first | refine GQ (ev_eqlNil rfl rfl) ?_ | refine GQ (ev_eqlPtr rfl rfl) ?_)
      refine GQ (ev_move rfl) ?_
      refine GO_yes rfl rfl rfl rfl ?_
      refine GQ (ev_move rfl) ?_
      refine GO_yes rfl rfl rfl rfl ?_
      (first | refine GQ (ev_nilCheck rfl) ?_ | refine GQ (ev_nilCheckF (by simp) rfl) ?_)
      refine GO_yes rfl rfl rfl rfl ?_
      refine GQ (ev_fieldAddr rfl) ?_
      refine GO_yes rfl rfl rfl rfl ?_
      refine GQ (ev_load rfl LdA) ?_
      refine GO_yes rfl rfl rfl rfl ?_
      (first | refine GQ (ev_nilCheck rfl) ?_ | refine GQ (ev_nilCheckF (by simp) rfl) ?_)
      refine GO_yes rfl rfl rfl rfl ?_
      refine GQ (ev_fieldAddr rfl) ?_
      refine GO_yes rfl rfl rfl rfl ?_
      refine GQ (ev_load rfl LdA) ?_
      refine GO_yes rfl rfl rfl rfl ?_
      refine GE (eff_call rfl (hC F)) ?_; rintro _ _ ⟨rfl, rfl⟩
      refine GQ (ev_pick_f rfl rfl rfl) ?_
      refine GQ (ev_assign rfl) ?_
      refine GO_nil ?_
      refine GN ?_
      refine G_ret rfl (.tmp rfl .nil) EnA ⟨rfl, rfl⟩
end Go.Proofs.YtkoncepjfgnjlaaGreat
/- Points in several trees: Check. -/
namespace Go.Proofs.YtkoncepjfgnjlaaGreat
attribute [local irreducible] sat
open Go.RowKit
set_option linter.unusedVariables false
set_option linter.unusedSimpArgs false
set_option maxRecDepth 100000

theorem oCheck_ctr (o : Option RTr) (L : List HP) (h : oat L o) (hn : (opts o).length ≤ 100000) (h0 : (opts o).length ≠ 0) : Ctr Tryz.prog 38 #[.pointer (oaddr o)] L fun v L' => v = .bool true ∧ L' = L := by
  cases o with
  | none => exact absurd rfl h0
  | some x => exact tCheck_ctr (h x rfl) hn
theorem JCheck_ctr {x : LgX} {S : LgS} {s m : Nat} {most : Int} {L : List HP} (hx : LgJ x S) (ok : LgOk S m) (hm : m ≤ 300) (h : LdN L s 0 5 (lsC x.A x.ts.length x.c x.b (S.d.length : Nat) most (S.bu : Nat))) (hr : Rd L x.A x.ts.length x.ts) (ht : ∀ o ∈ x.ts, oat L o) :
    Ctr Tryz.prog 11 #[.pointer (some ⟨s, 0, none⟩)] (mpH x.b x.M :: L) fun v L' => v = .bool true ∧ L' = mpH x.b x.M :: L := by
  have hll := ok.live_len
  have htot := ok.tot
  have hfew := ok.few
  have hn10 := ok.ll (by omega)
  have hlen := hx.cor.len
  have hml := hx.mp.len
  have hol := hx.toLgI.oLen ok.tot
  have hfp := hx.cor.flat
  have hnd : (x.ts.flatMap opts).Nodup := hfp.nodup_iff.2 ok.nd
  have hlive := fun M h1 h2 => JLive_ctr (s := s) (most := most) (L := M) hx h1 h2 hll (by omega)
  have hkn := fun M h1 h2 p => JKnown_ctr (s := s) (most := most) (L := M) hx h1 h2 p ok.nd
  have hsz : ∀ k o, x.ts[k]? = some o → (opts o).length = 0 ∨ (opts o).length = 1 * 2 ^ k := fun k o e => by
    obtain ⟨l, e1, e2⟩ := hx.cor.at_ e
    have := ok.sz.at_ e1
    rw [Nat.zero_add] at this
    rw [e2, srtO_length]; omega
  have hdd : (dds x.M).length = S.d.length := hx.mp.d.length_eq
  have hcol := fun b1 L h1 h2 => colDead_ctr b1 s x.b x.ts.length x.c x.A (S.d.length : Nat) most (S.bu : Nat) x.M L h1 h2 (by omega)
  have l0 : Ld L ⟨s, 0 + 0, none⟩ (.slice x.A x.ts.length x.c) := h.at_ (i := 0) rfl
  have l1 : Ld L ⟨s, 0 + 1, none⟩ (.map (some x.b)) := h.at_ (i := 1) rfl
  have l2 : Ld L ⟨s, 0 + 2, none⟩ (.int .i64 (S.d.length : Nat)) := h.at_ (i := 2) rfl
  have hmem : ∀ p, p ∈ S.ls.flatten ↔ p ∈ x.ts.flatMap opts := fun p => hfp.mem_iff.symm
  have hfl : (x.ts.flatMap opts).length = S.ls.flatten.length := hfp.length_eq
  clear hfp
  generalize hts : x.ts = ts at *
  obtain ⟨n, hn⟩ : ∃ n, ts.length = n := ⟨_, rfl⟩
  rw [hn] at h hr l0 hlive hkn hcol hlen
  refine Ctr_of (fn := Tryz.f11) (n := 92) Tryz.func11 rfl rfl rfl ?_
  intro g F
  refine GN ?_
  refine G_region ?_
  refine GE (eff_box rfl) ?_; rintro _ _ ⟨b1, rfl, rfl⟩
  refine GQ (ev_assign rfl) ?_
  refine GO_nil ?_
  refine GN ?_
  refine G_draw (.q 0 (.q 1 (.q 2 (.q 3 (.q 4 (.q 5 (.q 6 (.q 7 (.e 8 (.q 9 (.q 10 .nil))))))))))) (by kernel_rfl) (by kernel_rfl) ?_
  refine RQ rfl (ev_load rfl LdA) ?_
  (first | refine RM rfl (ev_eqlNil rfl rfl) ?_ | refine RM rfl (ev_eqlPtr rfl rfl) ?_)
  refine RM rfl (ev_move rfl) ?_
  refine RS_q_yes retB_noPanic rfl rfl rfl rfl ⟨_, rfl, rfl⟩ rfl (ev_load rfl LdA) ?_
  (first | refine RS_m_yes retB_noPanic rfl rfl rfl rfl ⟨_, rfl, rfl⟩ rfl (ev_nilCheck rfl) ?_ | refine RS_m_yes retB_noPanic rfl rfl rfl rfl ⟨_, rfl, rfl⟩ rfl (ev_nilCheckF (by simp) rfl) ?_)
  refine RS_m_yes retB_noPanic rfl rfl rfl rfl ⟨_, rfl, rfl⟩ rfl (ev_fieldAddr rfl) ?_
  refine RS_q_yes retB_noPanic rfl rfl rfl rfl ⟨_, rfl, rfl⟩ rfl (ev_load rfl LdA) ?_
  refine RS_q_yes retB_noPanic rfl rfl rfl rfl ⟨_, rfl, rfl⟩ rfl (ev_load rfl LdA) ?_
  refine RS_e (RE_eff_yes rfl rfl rfl ⟨_, rfl, rfl⟩ rfl (eff_call rfl (hlive _ LnA (by repeat' first | exact Mp.here | apply Mp.skip))) ?_); rintro _ _ ⟨rfl, rfl⟩; refine ⟨_, fun _ s => s, ExA, ?_⟩
  refine RS_m_yes retB_noPanic rfl rfl rfl rfl ⟨_, rfl, rfl⟩ rfl (ev_gtr rfl rfl) ?_
  refine RM rfl (ev_pick_f rfl rfl rfl) ?_
  refine RS_nil ?_
  refine GN ?_
  refine G_cond_f rfl (decide_eq_false (by omega)) ?_
  refine GN ?_
  refine GN ?_
  refine G_region ?_
  refine GE eff_makeMap ?_; rintro _ _ ⟨b23, rfl, rfl⟩
  refine GQ (ev_assign rfl) ?_
  refine GO_nil ?_
  refine GN ?_
  refine G_region ?_
  refine GQ (ev_load rfl LdA) ?_
  (first | refine GQ (ev_nilCheck rfl) ?_ | refine GQ (ev_nilCheckF (by simp) rfl) ?_)
  refine GQ (ev_fieldAddr rfl) ?_
  refine GQ (ev_load rfl LdA) ?_
  refine GQ (ev_len rfl) ?_
  refine GQ (ev_move rfl) ?_
  refine GO_nil ?_
  refine GN ?_
  refine G_loop (ι := Nat × List (Pt × Bool)) (fun y => [(1, .pointer (some ⟨b1, 0, none⟩)), (3, .map (some b23)), (27, .slice x.A n x.c), (28, .int .i64 (n : Nat)), (29, .int .i64 (y.1 : Nat))]) (fun y => mpH b23 y.2 :: mpH x.b x.M :: blk b1 22 [.pointer (some ⟨s, 0, none⟩)] :: F :: L)
    (fun y => y.1 ≤ n ∧ (keyM y.2).Perm ((ts.take y.1).flatMap opts)) (fun y => n - y.1) (0, []) ⟨Nat.zero_le _, .refl _⟩ ⟨rfl, rfl, rfl, rfl, rfl, trivial⟩ EpA ?_
  rintro ⟨k, M9⟩ ⟨f1, f2⟩
  simp only at f1 f2
  dsimp only
  refine GN ?_
  refine G_region ?_
  (first | refine GQ (ev_lssN rfl rfl) ?_ | refine GQ (ev_lss rfl rfl) ?_)
  refine GO_nil ?_
  refine GN ?_
  refine G_cond rfl (fun c1 => ?_) (fun c1 => ?_)
  · obtain ⟨lb, lo, eA, hxx⟩ := hr.at_ (by omega)
    rw [eA]
    have g1 : ts[k]? = some ts[k] := List.getElem?_eq_getElem (by omega)
    have y1 := (hxx _ _ g1).at_ (i := 0) rfl
    have s1 : (ts.take (k + 1)).flatMap opts = (ts.take k).flatMap opts ++ opts ts[k] := by
      rw [List.take_succ_eq_append_getElem (by omega), List.flatMap_append, List.flatMap_cons, List.flatMap_nil, List.append_nil]
    have o1 := ht ts[k] (List.getElem_mem _)
    have o2 := hol ts[k] (List.getElem_mem _)
    have o3 := hsz k _ g1
    have o4 : ((ts.take k).flatMap opts ++ opts ts[k]).Sublist (ts.flatMap opts) := by
      rw [← s1]
      conv => rhs; rw [← List.take_append_drop (k + 1) ts]
      rw [List.flatMap_append]; exact List.sublist_append_left _ _
    generalize ts[k] = o at *
    have z1 : Ld L ⟨lb, lo + k * 1, none⟩ (.pointer (oaddr o)) := y1
    have hL := fun M hM => oLen_ctr o M hM
    have hP := fun M hM => oPoints_ctr o M hM (by omega)
    refine GN ?_
    refine G_region ?_
    refine GQ (ev_move rfl) ?_
    (first | refine GQ (ev_indexAddrN rfl rfl NgA) ?_ | refine GQ (ev_indexAddr rfl rfl NgA NgA) ?_)
    refine GQ (ev_load rfl LdA) ?_
    refine GQ (ev_assign rfl) ?_
    refine GQ (ev_assign rfl) ?_
    refine GO_nil ?_
    refine GN ?_
    refine G_region ?_
    refine GQ (ev_move rfl) ?_
    refine GE (eff_call rfl (hL _ (by repeat' first | exact o1 | apply oat.skip))) ?_; rintro _ _ ⟨rfl, rfl⟩
    refine GQ (ev_assign rfl) ?_
    refine GO_nil ?_
    have hC := fun M hM => oCheck_ctr o M hM (by omega)
    by_cases c2 : (opts o).length = 0
    case' pos =>
      refine GN ?_
      refine G_region ?_
      refine GQ (ev_move rfl) ?_
      refine GQ (ev_neq rfl rfl) ?_
      refine GQ (ev_move rfl) ?_
      refine GO_no rfl rfl rfl (by simp [c2]) ?_
      refine GO_no rfl rfl rfl (by simp [c2]) ?_
      refine GO_no rfl rfl rfl (by simp [c2]) ?_
      refine GO_no rfl rfl rfl (by simp [c2]) ?_
      refine GO_no rfl rfl rfl (by simp [c2]) ?_
      refine GO_undef rfl rfl rfl ?_
      refine GO_undef rfl rfl rfl ?_
      refine GO_undef rfl rfl rfl ?_
      refine GO_no rfl rfl rfl (by simp [c2]) ?_
      refine GQ (ev_pick_f rfl (by simp [c2]) rfl) ?_
      refine GO_nil ?_
      refine GN ?_
      refine G_cond_f rfl rfl ?_
    case' neg =>
      have o5 : (opts o).length = 1 * 2 ^ k := by omega
      replace hC := fun M (hM : oat M o) => hC M hM c2
      refine GN ?_
      refine G_region ?_
      refine GQ (ev_move rfl) ?_
      refine GQ (ev_neq rfl rfl) ?_
      refine GQ (ev_move rfl) ?_
      refine GO_yes rfl rfl rfl (decide_eq_true (by omega)) ?_
      refine GQ (ev_move rfl) ?_
      refine GO_yes rfl rfl rfl (decide_eq_true (by omega)) ?_
      refine GQ (ev_move rfl) ?_
      refine GO_yes rfl rfl rfl (decide_eq_true (by omega)) ?_
      refine GQ (ev_shlN (p := 1) rfl rfl (by omega) (by omega)) ?_
      refine GO_yes rfl rfl rfl (decide_eq_true (by omega)) ?_
      refine GQ (ev_neq rfl rfl) ?_
      refine GO_yes rfl rfl rfl (decide_eq_true (by omega)) ?_
      refine GQ (ev_move rfl) ?_
      refine GO_yes rfl rfl rfl (by simp [o5]) ?_
      refine GQ (ev_move rfl) ?_
      refine GO_yes rfl rfl rfl (by simp [o5]) ?_
      refine GE (eff_call rfl (hC _ (by repeat' first | exact o1 | apply oat.skip))) ?_; rintro _ _ ⟨rfl, rfl⟩
      refine GO_yes rfl rfl rfl (by simp [o5]) ?_
      refine GQ (ev_not rfl) ?_
      refine GO_yes rfl rfl rfl (decide_eq_true (by omega)) ?_
      refine GQ (ev_pick_f rfl (by simp [o5]) rfl) ?_
      refine GQ (ev_pick_t rfl (decide_eq_true (by omega)) rfl) ?_
      refine GO_nil ?_
      refine GN ?_
      refine G_cond_f rfl rfl ?_
    all_goals
      clear hC
      refine GN ?_
      refine G_region ?_
      refine GQ (ev_move rfl) ?_
      refine GE (eff_call rfl (hP _ (by repeat' first | exact o1 | apply oat.skip))) ?_; rintro _ _ ⟨Q, qc, rfl, hQ, rfl⟩
      refine GQ (ev_len rfl) ?_
      refine GQ (ev_move rfl) ?_
      refine GO_nil ?_
      refine GN ?_
      refine G_loop (ι := Nat × List (Pt × Bool)) (fun y => [(1, .pointer (some ⟨b1, 0, none⟩)), (3, .map (some b23)), (27, .slice (some ⟨lb, lo, none⟩) n x.c), (28, .int .i64 (n : Nat)), (29, .int .i64 (k : Nat)), (50, .slice Q (opts o).length qc), (51, .int .i64 ((opts o).length : Nat)), (52, .int .i64 (y.1 : Nat))]) (fun y => mpH b23 y.2 :: mpH x.b x.M :: own 28 3 Q (opts o).length qc (flat (opts o)) :: blk b1 22 [.pointer (some ⟨s, 0, none⟩)] :: F :: L)
        (fun y => y.1 ≤ (opts o).length ∧ (keyM y.2).Perm ((ts.take k).flatMap opts ++ (opts o).take y.1)) (fun y => (opts o).length - y.1) (0, M9) ⟨Nat.zero_le _, by simpa using f2⟩ ⟨rfl, rfl, rfl, rfl, rfl, rfl, rfl, rfl, trivial⟩ EpA ?_
      rintro ⟨j, M8⟩ ⟨i1, i2⟩
      simp only at i1 i2
      dsimp only
      refine GN ?_
      refine G_region ?_
      (first | refine GQ (ev_lssN rfl rfl) ?_ | refine GQ (ev_lss rfl rfl) ?_)
      refine GO_nil ?_
      refine GN ?_
      refine G_cond rfl (fun c3 => ?_) (fun c3 => ?_)
      · obtain ⟨qb, rfl⟩ := hQ (by omega)
        have j1 : (opts o)[j]? = some (opts o)[j] := List.getElem?_eq_getElem (by omega)
        have j2 : (opts o).take (j + 1) = (opts o).take j ++ [(opts o)[j]] := List.take_succ_eq_append_getElem (by omega)
        have w1 : ∀ X, LdN (own 28 3 (some ⟨qb, 0, none⟩) (opts o).length qc (flat (opts o)) :: X) qb (0 + j * 3) 3 [.int .i64 (opts o)[j].id, .int .i64 (opts o)[j].x, .int .i64 (opts o)[j].y] := fun X => ld_ownP rfl j1 X
        have j3 : ((ts.take k).flatMap opts ++ (opts o).take j ++ [(opts o)[j]]).Sublist (ts.flatMap opts) := by
          rw [List.append_assoc, ← j2]
          exact ((List.Sublist.refl _).append (List.take_sublist _ _)).trans o4
        generalize (opts o)[j] = p at *
        have hpf : p ∈ S.ls.flatten := (hmem p).2 (j3.subset (by simp))
        have hpn : p ∉ keyM M8 := fun hm => by
          have := j3.nodup hnd
          rw [List.nodup_append] at this
          exact this.2.2 p (i2.mem_iff.1 hm) p (by simp) rfl
        have hg0 : (getM p M8).getD false = false := by rw [getM_none.2 hpn]; rfl
        have hkp := fun M h1 h2 => hkn M h1 h2 p
        rw [decide_eq_true hpf] at hkp
        refine GN ?_
        refine G_region ?_
        (first | refine GQ (ev_indexAddrN rfl rfl NgA) ?_ | refine GQ (ev_indexAddr rfl rfl NgA NgA) ?_)
        refine GQ (ev_loadN rfl (by repeat' first | exact w1 _ | apply LdN.skip)) ?_
        refine GE eff_alloc ?_; rintro _ _ ⟨b8, rfl, rfl⟩
        refine GE (eff_storeN rfl rfl rfl rfl UpA) ?_; rintro _ _ ⟨rfl, rfl⟩
        refine GO_nil ?_
        refine GN ?_
        refine G_region ?_
        refine GQ (ev_load rfl LdA) ?_
        refine GQ (ev_loadN rfl LnA) ?_
        refine GE (eff_call rfl (hkp _ (by repeat' first | exact LdN.blk rfl | assumption | apply LdN.skip) (by repeat' first | exact Mp.here | apply Mp.skip))) ?_; rintro _ _ ⟨rfl, rfl⟩
        refine GQ (ev_move rfl) ?_
        refine GQ (ev_extract rfl rfl) ?_
        refine GQ (ev_extract rfl rfl) ?_
        refine GQ (ev_assign rfl) ?_
        refine GQ (ev_assign rfl) ?_
        refine GO_nil ?_
        refine GN ?_
        refine G_region ?_
        refine GQ (ev_move rfl) ?_
        refine GQ (ev_not rfl) ?_
        refine GQ (ev_move rfl) ?_
        refine GO_yes rfl rfl rfl rfl ?_
        refine GQ (ev_move rfl) ?_
        refine GO_yes rfl rfl rfl rfl ?_
        refine GQ (ev_loadN rfl LnA) ?_
        refine GO_yes rfl rfl rfl rfl ?_
        refine GQ (ev_lookup1 (p := p) rfl rfl (by repeat' first | exact Mp.here | apply Mp.skip)) ?_
        refine GQ (ev_pick_f rfl rfl rfl) ?_
        refine GO_nil ?_
        rw [hg0]
        refine GN ?_
        refine G_cond_f rfl rfl ?_
        refine GN ?_
        refine G_region ?_
        refine GQ (ev_move rfl) ?_
        refine GQ (ev_loadN rfl LnA) ?_
        refine GE (eff_mapUpdate rfl rfl rfl PkA) ?_; rintro _ _ ⟨rfl, rfl⟩
        refine GO_nil ?_
        refine GN ?_
        refine G_region ?_
        (first | refine GQ (ev_addN (q := 1) rfl rfl NgA) ?_ | refine GQ (ev_add rfl rfl NgA) ?_)
        refine GQ (ev_move rfl) ?_
        refine GO_nil ?_
        refine GN ?_
        refine G_round (j + 1, putM p true M8) ⟨by simp only; omega, ?_⟩ (by simp only; omega) ⟨rfl, rfl, rfl, rfl, rfl, rfl, rfl, rfl, trivial⟩ EpA
        simp only
        rw [putM_new hpn, keyM_app, j2, ← List.append_assoc]
        exact i2.append_right _
      · have e : j = (opts o).length := by omega
        subst e
        rw [List.take_length, ← s1] at i2
        refine GN ?_
        refine G_region ?_
        (first | refine GQ (ev_addN (q := 1) rfl rfl NgA) ?_ | refine GQ (ev_add rfl rfl NgA) ?_)
        refine GQ (ev_move rfl) ?_
        refine GO_nil ?_
        refine GN ?_
        exact G_round (k + 1, M8) ⟨by simp only; omega, i2⟩ (by simp only; omega) ⟨rfl, rfl, rfl, rfl, rfl, trivial⟩ EpA
  · have e : k = n := by omega
    subst e
    rw [List.take_of_length_le (by omega)] at f2
    have hk9 : M9.length = x.M.length := by
      have := f2.length_eq
      rw [keyM, List.length_map] at this
      omega
    refine GN ?_
    refine G_region ?_
    refine GQ (ev_makeFunc rfl rfl) ?_
    refine GE (eff_call rfl (Ctr.pick PkA (hcol b1 _ LdA (by repeat' first | exact h | apply LdN.skip)))) ?_; rintro _ _ ⟨o, B, e, rfl, ho, rfl⟩
    refine GQ (ev_assign rfl) ?_
    refine GO_nil ?_
    have hol : o.length = S.d.length := ho.length_eq.trans hdd
    refine GN ?_
    refine G_draw (.q 0 (.q 1 (.q 2 (.q 3 (.q 4 (.q 5 (.q 6 (.q 7 (.q 8 (.q 9 (.q 10 (.q 11 (.q 12 (.q 13 (.q 14 (.q 15 (.q 16 (.q 17 .nil)))))))))))))))))) (by kernel_rfl) (by kernel_rfl) ?_
    refine RM rfl (ev_move rfl) ?_
    refine RQ rfl (ev_lenM rfl (by repeat' first | exact Mp.here | exact Mp.rg | apply Mp.skip)) ?_
    refine RQ rfl (ev_load rfl LdA) ?_
    (first | refine RM rfl (ev_nilCheck rfl) ?_ | refine RM rfl (ev_nilCheckF (by simp) rfl) ?_)
    refine RM rfl (ev_fieldAddr rfl) ?_
    refine RQ rfl (ev_load rfl LdA) ?_
    refine RQ rfl (ev_lenM rfl (by repeat' first | exact Mp.here | exact Mp.rg | apply Mp.skip)) ?_
    refine RM rfl (ev_eql rfl rfl) ?_
    refine RM rfl (ev_move rfl) ?_
    refine RS_m_yes retB_noPanic rfl rfl rfl rfl ⟨_, rfl, (decide_eq_true (by rw [hk9]))⟩ rfl (ev_move rfl) ?_
    refine RS_q_yes retB_noPanic rfl rfl rfl rfl ⟨_, rfl, (decide_eq_true (by rw [hk9]))⟩ rfl (ev_len rfl) ?_
    refine RS_q_yes retB_noPanic rfl rfl rfl rfl ⟨_, rfl, (decide_eq_true (by rw [hk9]))⟩ rfl (ev_load rfl LdA) ?_
    (first | refine RS_m_yes retB_noPanic rfl rfl rfl rfl ⟨_, rfl, (decide_eq_true (by rw [hk9]))⟩ rfl (ev_nilCheck rfl) ?_ | refine RS_m_yes retB_noPanic rfl rfl rfl rfl ⟨_, rfl, (decide_eq_true (by rw [hk9]))⟩ rfl (ev_nilCheckF (by simp) rfl) ?_)
    refine RS_m_yes retB_noPanic rfl rfl rfl rfl ⟨_, rfl, (decide_eq_true (by rw [hk9]))⟩ rfl (ev_fieldAddr rfl) ?_
    refine RS_q_yes retB_noPanic rfl rfl rfl rfl ⟨_, rfl, (decide_eq_true (by rw [hk9]))⟩ rfl (ev_load rfl LdA) ?_
    refine RS_m_yes retB_noPanic rfl rfl rfl rfl ⟨_, rfl, (decide_eq_true (by rw [hk9]))⟩ rfl (ev_eql rfl rfl) ?_
    refine RM rfl (ev_pick_t rfl (decide_eq_true (by rw [hk9])) rfl) ?_
    refine RM rfl (ev_assign rfl) ?_
    refine RS_nil ?_
    refine GN ?_
    refine G_ret (L' := mpH x.b x.M :: L) rfl (.tmp rfl .nil) EpA ⟨?_, rfl⟩
    simp [retv, hol]
end Go.Proofs.YtkoncepjfgnjlaaGreat
/- Points in several trees: what an open set tells of a box; a new one; that three points live in two trees. -/
namespace Go.Proofs.YtkoncepjfgnjlaaGreat
attribute [local irreducible] sat
open Go.RowKit
set_option linter.unusedVariables false
set_option linter.unusedSectionVars false
set_option linter.unusedSimpArgs false
set_option maxRecDepth 100000

theorem idsB_len (w : Bx) (l : List Pt) : (idsB w l).length = (l.filter (inB w)).length := by
  rw [idsB, (srt_perm _).length_eq, List.length_map]
section
variable {x : LgX} {S : LgS} {s m : Nat} {most : Int} {L : List HP} (hx : LgJ x S) (ok : LgOk S m) (hm : m ≤ 300) (h : LdN L s 0 5 (lsC x.A x.ts.length x.c x.b (S.d.length : Nat) most (S.bu : Nat)))
include hx ok hm h
theorem JDead_ctr (w : Bx) : Ctr Tryz.prog 18 #[.pointer (some ⟨s, 0, none⟩), w.v] (mpH x.b x.M :: L) fun v L' => Made 3 (idsB w S.d) (mpH x.b x.M :: L) v L' := by
  have htot := ok.tot
  have hml := hx.mp.len
  have := lgDead_ctr s x.b x.ts.length x.c x.A most S.bu S.d.length w x.M L h (by omega)
  rwa [hx.dead w] at this
variable (hr : Rd L x.A x.ts.length x.ts) (ht : ∀ o ∈ x.ts, oat L o)
include hr ht
theorem JCount_ctr (w : Bx) : Ctr Tryz.prog 24 #[.pointer (some ⟨s, 0, none⟩), w.v] (mpH x.b x.M :: L) fun v L' => v = .int .i64 ((idsB w S.live).length : Nat) ∧ L' = mpH x.b x.M :: L := by
  have htot := ok.tot
  have hml := hx.mp.len
  have hl := ok.ll (by omega)
  have hlen := hx.cor.len
  have hol := hx.toLgI.oLen ok.tot
  have := lgCount_ctr s x.b x.ts.length x.c x.A most S.bu S.d.length w x.ts x.M L h hr ht (by omega) (by omega) (fun o ho => by have := hol o ho; omega)
  rwa [hx.toLgI.count ok.nd w] at this
theorem JReport_ctr (w : Bx) : Ctr Tryz.prog 23 #[.pointer (some ⟨s, 0, none⟩), w.v] (mpH x.b x.M :: L) fun v L' => Made 3 (idsB w S.live) (mpH x.b x.M :: L) v L' := by
  have htot := ok.tot
  have hml := hx.mp.len
  have hl := ok.ll (by omega)
  have hlen := hx.cor.len
  have hol := hx.toLgI.oLen ok.tot
  have hlk := hx.toLgI.lk (m := m) (by omega) (by omega) w
  have hfl := (hx.toLgI.fnd ok.nd w).length_eq
  have hll := ok.live_len
  have hdl : (ded w x.M).length ≤ x.M.length := by unfold ded; rw [List.length_map]; exact List.length_filter_le ..
  have hvl : ((S.live.filter (inB w)).map (·.id)).length ≤ S.live.length := by rw [List.length_map]; exact List.length_filter_le ..
  rw [List.length_append] at hfl
  have rep := fun M h1 h2 h3 => lgreport_ctr s x.b x.ts.length x.c x.A most S.bu S.d.length w x.ts x.M M h1 h2 h3 (by omega) (by omega) (fun r hr => by have := hol _ (liv_mem hr); simp only [opts] at this; omega) (by omega) (by omega)
  rw [hx.toLgI.report ok.nd w] at rep
  generalize idsB w S.live = ids at *
  refine Ctr_of (fn := Tryz.f23) (n := 8) Tryz.func23 rfl rfl rfl ?_
  intro g F
  refine GN ?_
  refine G_region ?_
  refine GE (eff_box rfl) ?_; rintro _ _ ⟨b3, rfl, rfl⟩
  refine GQ (ev_assign rfl) ?_
  refine GO_nil ?_
  refine GN ?_
  refine G_region ?_
  refine GQ (ev_move rfl) ?_
  refine GQ (ev_loadN rfl LnA) ?_
  refine GE (eff_call rfl (Ctr.pick PkA (rep _ (by repeat' first | exact h | apply LdN.skip) (by repeat' first | exact hr | apply Rd.skip) (fun o ho => by repeat' first | exact ht o ho | apply oat.skip)))) ?_; rintro _ _ ⟨B, e, rfl, hB, rfl⟩
  refine GQ (ev_assign rfl) ?_
  refine GO_nil ?_
  refine GN ?_
  exact G_ret (L' := own 3 1 B ids.length e (flat ids) :: mpH x.b x.M :: L) rfl (.tmp rfl .nil) EpA ⟨B, e, rfl, hB, rfl⟩
end
theorem lgNewF_ctr (most : Int) (L : List HP) (h1 : 1 ≤ most) (h2 : most ≤ 1048576) : Ctr Tryz.prog 8 #[.int .i64 most] L fun v L' => ∃ s, v = .tuple #[.pointer (some ⟨s, 0, none⟩), .int .i64 0] ∧ L' = lgF s most ⟨[], [], 0⟩ :: L :=
  (lgNew_ctr most L h1 h2).post' fun v L' hm ⟨s, b, e1, e2⟩ hs => by
    subst e2
    refine ⟨_, ⟨s, e1, rfl⟩, ?_⟩
    have hz : LgI ⟨none, 0, b, [], [], []⟩ ⟨[], [], 0⟩ := ⟨rfl, by simp, ⟨.refl _, .refl _⟩, fun h => absurd h (Nat.lt_irrefl 0)⟩
    refine en_lg ⟨none, 0, b, [], [], []⟩ rfl (gone := 0) (built := 0) rfl rfl rfl hz (fun h s => ?_) hm hs
    exact sat.cons_mono (fun _ s => sat.cons_mono (fun _ s => own.nil_ 63 1 _ (en_pk0 en_refl _ s)) s) s
theorem ins_put {S : LgS} {m : Nat} {most : Int} {p : Pt} (ok : LgOk S m) (h1 : goodP p = true) (h2 : p ∉ S.ls.flatten) (h3 : ((S.ls.flatten.length - S.d.length : Nat) : Int) < most) : insC most S.live p = 0 ∧ S.ins most p = S.put p := by
  have hl := ok.live_len
  have h4 : p ∉ S.live := fun h => h2 (LgS.mem_live.1 h).1
  have h5 : p ∉ S.d := fun h => h2 (ok.ds p h)
  have e : insC most S.live p = 0 := by
    unfold insC
    rw [if_neg (by rw [h1]; decide), if_neg h4, if_neg (by omega)]
  exact ⟨e, by unfold LgS.ins; rw [if_pos e, if_neg h5]⟩
theorem LgOk.insP {S : LgS} {m : Nat} {p : Pt} (ok : LgOk S m) (hm : m ≤ 300) (h1 : goodP p = true) (h2 : p ∉ S.ls.flatten) : LgOk (S.put p) (m + 1) := ok.put h2 h1 hm
def lv0 : LgS := ⟨[], [], 0⟩
def lv1 : LgS := ⟨[[⟨1, 0, 0⟩]], [], 1⟩
def lv2 : LgS := ⟨[[], [⟨2, 3, 0⟩, ⟨1, 0, 0⟩]], [], 3⟩
def lv3 : LgS := ⟨[[⟨3, 5, 0⟩], [⟨2, 3, 0⟩, ⟨1, 0, 0⟩]], [], 4⟩
theorem lv3_ids : (idsB ⟨0, 3, 0, 0⟩ lv3.live).length = 2 := by
  have h : lv3.live.Perm (lv3.ls.flatten.filter fun p => !decide (p ∈ lv3.d)) := srtO_perm _
  rw [idsB_len, (h.filter _).length_eq]
  decide
theorem lv3_sz : trimZ (szL lv3.ls) = [1, 2] := by decide
theorem lives19_ctr (L : List HP) : Ctr Tryz.prog 13 #[] L fun v L' => v = .bool true ∧ ∃ X, L' = X ++ L := by
  have k0 : LgOk lv0 0 := LgOk.zero
  have k1 : LgOk lv1 1 := k0.insP (p := ⟨1, 0, 0⟩) (by decide) (by decide) (by decide)
  have k2 : LgOk lv2 2 := k1.insP (p := ⟨2, 3, 0⟩) (by decide) (by decide) (by decide)
  have k3 : LgOk lv3 3 := k2.insP (p := ⟨3, 5, 0⟩) (by decide) (by decide) (by decide)
  have i1 := fun s M => LgInsert_ctr s 5 lv0 ⟨1, 0, 0⟩ 0 M k0 (by decide)
  have i2 := fun s M => LgInsert_ctr s 5 lv1 ⟨2, 3, 0⟩ 1 M k1 (by decide)
  have i3 := fun s M => LgInsert_ctr s 5 lv2 ⟨3, 5, 0⟩ 2 M k2 (by decide)
  obtain ⟨a1, b1⟩ := ins_put (most := 5) (p := ⟨1, 0, 0⟩) k0 (by decide) (by decide) (by decide)
  obtain ⟨a2, b2⟩ := ins_put (most := 5) (p := ⟨2, 3, 0⟩) k1 (by decide) (by decide) (by decide)
  obtain ⟨a3, b3⟩ := ins_put (most := 5) (p := ⟨3, 5, 0⟩) k2 (by decide) (by decide) (by decide)
  rw [show lv0.put ⟨1, 0, 0⟩ = lv1 from rfl] at b1
  rw [show lv1.put ⟨2, 3, 0⟩ = lv2 from rfl] at b2
  rw [show lv2.put ⟨3, 5, 0⟩ = lv3 from rfl] at b3
  rw [a1, b1] at i1
  rw [a2, b2] at i2
  rw [a3, b3] at i3
  refine Ctr_of (fn := Tryz.f13) (n := 63) Tryz.func13 rfl rfl rfl ?_
  intro g F
  refine GN ?_
  refine G_region ?_
  refine GQ (ev_assign rfl) ?_
  refine GO_nil ?_
  refine GN ?_
  refine G_region ?_
  refine GE (eff_call rfl (lgNewF_ctr 5 _ (by decide) (by decide))) ?_; rintro _ _ ⟨s, rfl, rfl⟩
  refine GQ (ev_move rfl) ?_
  refine GQ (ev_extract rfl rfl) ?_
  refine GQ (ev_extract rfl rfl) ?_
  refine GQ (ev_assign rfl) ?_
  refine GQ (ev_assign rfl) ?_
  refine GO_nil ?_
  refine GN ?_
  refine G_region ?_
  refine GQ (ev_move rfl) ?_
  refine GQ (ev_build rfl rfl) ?_
  refine GE (eff_call rfl (Ctr.pick PkA (i1 s _))) ?_; rintro _ _ ⟨rfl, rfl⟩
  refine GQ (ev_assign rfl) ?_
  refine GO_nil ?_
  refine GN ?_
  refine G_region ?_
  refine GQ (ev_move rfl) ?_
  refine GQ (ev_build rfl rfl) ?_
  refine GE (eff_call rfl (Ctr.pick PkA (i2 s _))) ?_; rintro _ _ ⟨rfl, rfl⟩
  refine GQ (ev_assign rfl) ?_
  refine GO_nil ?_
  refine GN ?_
  refine G_region ?_
  refine GQ (ev_move rfl) ?_
  refine GQ (ev_build rfl rfl) ?_
  refine GE (eff_call rfl (Ctr.pick PkA (i3 s _))) ?_; rintro _ _ ⟨rfl, rfl⟩
  refine GQ (ev_assign rfl) ?_
  refine GO_nil ?_
  refine G_lg fun x hx => ?_
  have hlen := hx.cor.len
  have hl2 : x.ts.length = 2 := hlen
  have hsz := fun M h hr ht => JSizes_ctr (s := s) (most := 5) (L := M) hx h hr ht (by omega) (fun o ho => by have := hx.toLgI.oLen k3.tot o ho; omega)
  have hco := fun M h hr ht => JCount_ctr (s := s) (most := 5) (L := M) hx k3 (by decide) h hr ht ⟨0, 3, 0, 0⟩
  have hck := fun M h hr ht => JCheck_ctr (s := s) (most := 5) (L := M) hx k3 (by decide) h hr ht
  rw [lv3_sz] at hsz
  rw [lv3_ids] at hco
  refine GN ?_
  refine G_region ?_
  refine GQ (ev_move rfl) ?_
  refine GE (eff_call rfl (hsz _ (by repeat' first | exact LdN.blk rfl | apply LdN.skip) (by repeat' first | exact Rc.own (flat_length _) hx.A | apply Rd.skip) (fun o ho => by repeat' first | exact hx.ats o ho | apply oat.skip))) ?_; rintro _ _ ⟨Y, A, c, rfl, q1, q2, q3, rfl⟩
  refine GQ (ev_assign rfl) ?_
  refine GO_nil ?_
  have q4 : ∀ X, Rd (Y :: X) A 2 [(1 : Int), 2] := q3
  obtain ⟨lb, lo, rfl, hxx⟩ := (q4 []).at_ (by decide)
  have y0 : ∀ X, Ld (Y :: X) ⟨lb, lo + 0 * 1, none⟩ (.int .i64 1) := fun X => by
    obtain ⟨_, _, e9, hxx⟩ := (q4 X).at_ (by decide)
    cases e9
    exact (hxx 0 1 rfl).at_ (i := 0) rfl
  have y1 : ∀ X, Ld (Y :: X) ⟨lb, lo + 1 * 1, none⟩ (.int .i64 2) := fun X => by
    obtain ⟨_, _, e9, hxx⟩ := (q4 X).at_ (by decide)
    cases e9
    exact (hxx 1 2 rfl).at_ (i := 0) rfl
  refine GN ?_
  refine G_region ?_
  refine GQ (ev_move rfl) ?_
  refine GQ (ev_eql rfl rfl) ?_
  refine GQ (ev_move rfl) ?_
  refine GO_yes rfl rfl rfl rfl ?_
  refine GQ (ev_move rfl) ?_
  refine GO_yes rfl rfl rfl rfl ?_
  refine GQ (ev_eql rfl rfl) ?_
  refine GQ (ev_pick_t rfl rfl rfl) ?_
  refine GQ (ev_move rfl) ?_
  refine GO_yes rfl rfl rfl rfl ?_
  refine GQ (ev_move rfl) ?_
  refine GO_yes rfl rfl rfl rfl ?_
  refine GQ (ev_eql rfl rfl) ?_
  refine GQ (ev_pick_t rfl rfl rfl) ?_
  refine GQ (ev_move rfl) ?_
  refine GO_yes rfl rfl rfl rfl ?_
  refine GQ (ev_move rfl) ?_
  refine GO_yes rfl rfl rfl rfl ?_
  refine GQ (ev_eql rfl rfl) ?_
  refine GQ (ev_pick_t rfl rfl rfl) ?_
  refine GQ (ev_move rfl) ?_
  refine GO_yes rfl rfl rfl rfl ?_
  refine GQ (ev_move rfl) ?_
  refine GO_yes rfl rfl rfl rfl ?_
  refine GQ (ev_len rfl) ?_
  refine GO_yes rfl rfl rfl rfl ?_
  refine GQ (ev_eql rfl rfl) ?_
  refine GQ (ev_pick_t rfl rfl rfl) ?_
  refine GQ (ev_move rfl) ?_
  refine GO_yes rfl rfl rfl rfl ?_
  refine GQ (ev_move rfl) ?_
  refine GO_yes rfl rfl rfl rfl ?_
  (first | refine GQ (ev_indexAddrN rfl rfl NgA) ?_ | refine GQ (ev_indexAddr rfl rfl NgA NgA) ?_)
  refine GO_yes rfl rfl rfl rfl ?_
  refine GQ (ev_load rfl (by repeat' first | exact y0 _ | apply Ld.skip)) ?_
  refine GO_yes rfl rfl rfl rfl ?_
  refine GQ (ev_eql rfl rfl) ?_
  refine GQ (ev_pick_t rfl rfl rfl) ?_
  refine GQ (ev_move rfl) ?_
  refine GO_yes rfl rfl rfl rfl ?_
  refine GQ (ev_move rfl) ?_
  refine GO_yes rfl rfl rfl rfl ?_
  (first | refine GQ (ev_indexAddrN rfl rfl NgA) ?_ | refine GQ (ev_indexAddr rfl rfl NgA NgA) ?_)
  refine GO_yes rfl rfl rfl rfl ?_
  refine GQ (ev_load rfl (by repeat' first | exact y1 _ | apply Ld.skip)) ?_
  refine GO_yes rfl rfl rfl rfl ?_
  refine GQ (ev_eql rfl rfl) ?_
  refine GQ (ev_pick_t rfl rfl rfl) ?_
  refine GQ (ev_move rfl) ?_
  refine GO_yes rfl rfl rfl rfl ?_
  refine GQ (ev_move rfl) ?_
  refine GO_yes rfl rfl rfl rfl ?_
  refine GQ (ev_build rfl rfl) ?_
  refine GO_yes rfl rfl rfl rfl ?_
  refine GE (eff_call rfl (Ctr.pick PkA (hco _ (by repeat' first | exact LdN.blk rfl | apply LdN.skip) (by repeat' first | exact Rc.own (flat_length _) hx.A | apply Rd.skip) (fun o ho => by repeat' first | exact hx.ats o ho | apply oat.skip)))) ?_; rintro _ _ ⟨rfl, rfl⟩
  refine GO_yes rfl rfl rfl rfl ?_
  refine GQ (ev_eql rfl rfl) ?_
  refine GQ (ev_pick_t rfl rfl rfl) ?_
  refine GQ (ev_move rfl) ?_
  refine GO_yes rfl rfl rfl rfl ?_
  refine GQ (ev_move rfl) ?_
  refine GO_yes rfl rfl rfl rfl ?_
  refine GE (eff_call rfl (Ctr.pick PkA (hck _ (by repeat' first | exact LdN.blk rfl | apply LdN.skip) (by repeat' first | exact Rc.own (flat_length _) hx.A | apply Rd.skip) (fun o ho => by repeat' first | exact hx.ats o ho | apply oat.skip)))) ?_; rintro _ _ ⟨rfl, rfl⟩
  refine GQ (ev_pick_t rfl rfl rfl) ?_
  refine GQ (ev_assign rfl) ?_
  refine GO_nil ?_
  refine GN ?_
  exact G_ret (L' := [] ++ L) rfl (.tmp rfl .nil) EnA ⟨rfl, [], rfl⟩
end Go.Proofs.YtkoncepjfgnjlaaGreat
/- From a contract to what a law's row asks. -/
namespace Go.Proofs.YtkoncepjfgnjlaaGreat
open Go.RowKit
set_option linter.unusedVariables false

/-- A law that holds by its contract: it returns true, and nothing old has turned. -/
theorem law_of_ctr {P : Program} {f : FuncId} {args : Array Value} {w : World} (h : Ctr P f args [old w.hm] fun v L' => v = .bool true ∧ L' = [old w.hm]) :
    Calls P f args w fun e w' => e = .returned (.bool true) ∧ Below w.heap.size w w' := by
  refine (calls_of h (Hp.start w)).mono fun e w' ⟨v, L', e1, ⟨e2, e3⟩, hw'⟩ => ?_
  subst e2 e3
  exact ⟨e1, hw'.below⟩
/-- What a slice of numbers reads as. -/
theorem rc_of_reads {w : World} {sz : Nat} {A : Option Addr} {n : Nat} {xs : List Value} (hsz : 0 < sz) (h : Reads w sz A n xs) : Rc [old w.hm] sz A n xs := by
  refine ⟨h.1, fun h0 => ?_⟩
  obtain ⟨b, o, rfl, hb, hc⟩ := h.2 (Nat.mul_pos h0 hsz)
  refine ⟨b, o, rfl, fun j v hj => Ld.old ?_⟩
  obtain ⟨h1, rfl⟩ := List.getElem?_eq_some_iff.1 hj
  exact hc j h1
end Go.Proofs.YtkoncepjfgnjlaaGreat
/- The point of an act. -/
namespace Go.Proofs.YtkoncepjfgnjlaaGreat
attribute [local irreducible] sat
open Go.RowKit
set_option linter.unusedVariables false
set_option linter.unusedSectionVars false
set_option linter.unusedSimpArgs false
set_option maxRecDepth 100000

/-- What is done: its two numbers and the point. -/
structure Ac where
  kind : Int
  at_ : Int
  p : Pt
/-- The point of an act. -/
def actP (l : List Pt) (a : Ac) : Pt := if a.kind = 2 ∧ 0 < l.length ∧ 0 ≤ a.at_ then l.getD (a.at_ % (l.length : Nat)).toNat a.p else a.p
section
variable {P : Program} {L : List HP} {σ : Env} {d : Option Nat} {ty T T' : TypeId} {pos : String} {aft : Array Edge} {gd : Option (Nat × Bool)} {x y : Operand}
theorem ev_remE {p q : Int} {j : Nat} (e : p % q = (j : Int)) (hx : ev σ x = some (.int .i64 p)) (hy : ev σ y = some (.int .i64 q)) (hp : 0 ≤ p) (hq : 0 < q) : Ev P L σ ⟨d, .binOp .rem T x y T', ty, pos, aft, gd⟩ (.int .i64 (j : Int)) := e ▸ ev_rem hx hy hp hq
end
theorem Point_ctr0 (b : Nat) (A : Option Addr) (c : Nat) (most : Int) (a : Ac) (l : List Pt) (L : List HP) (h : LdN L b 0 2 [.slice A l.length c, .int .i64 most]) (hl : Rd L A l.length l) (hn : l.length ≤ 100000) (ha : a.at_ ≤ 9223372036854775807) :
    Ctr Tryz.prog 71 #[.pointer (some ⟨b, 0, none⟩), .agg #[.int .i64 a.kind, .int .i64 a.at_, .int .i64 a.p.id, .int .i64 a.p.x, .int .i64 a.p.y]] L fun v L' => v = (actP l a).v ∧ L' = L := by
  have h1 : Ld L ⟨b, 0 + 0, none⟩ (.slice A l.length c) := h.at_ (i := 0) rfl
  refine Ctr_of (fn := Tryz.f71) (n := 37) Tryz.func71 rfl rfl rfl ?_
  intro g F
  refine GN ?_
  refine G_region ?_
  refine GE (eff_box rfl) ?_; rintro _ _ ⟨b3, rfl, rfl⟩
  refine GE eff_alloc ?_; rintro _ _ ⟨b4, rfl, rfl⟩
  refine GO_nil ?_
  by_cases k1 : a.kind = 2
  · skip
    by_cases k2 : 0 < l.length
    · skip
      by_cases k3 : 0 ≤ a.at_
      · have e0 : actP l a = l.getD (a.at_ % (l.length : Nat)).toNat a.p := if_pos ⟨k1, k2, k3⟩
        obtain ⟨j, hj⟩ : ∃ j, j = (a.at_ % (l.length : Nat)).toNat := ⟨_, rfl⟩
        have hj1 : a.at_ % (l.length : Nat) = (j : Int) := by
          have := Int.emod_nonneg a.at_ (b := (l.length : Int)) (by omega)
          omega
        have hj2 : j < l.length := by
          have := Int.emod_lt_of_pos a.at_ (b := (l.length : Int)) (by omega)
          omega
        rw [← hj] at e0
        obtain ⟨lb, lo, rfl, hx⟩ := hl.at_ k2
        have g1 : l[j]? = some l[j] := List.getElem?_eq_getElem hj2
        have y1 := hx _ _ g1
        have e1 : l.getD j a.p = l[j] := by rw [List.getD_eq_getElem?_getD, g1]; rfl
        rw [e0, e1]
        generalize l[j] = u at *
        have z1 : LdN L lb (lo + j * 3) 3 [.int .i64 u.id, .int .i64 u.x, .int .i64 u.y] := y1
        refine GN ?_
        refine G_region ?_
        refine GQ (ev_fieldAddr rfl) ?_
        refine GQ (ev_load rfl LdA) ?_
        refine GQ (ev_eql rfl rfl) ?_
        refine GQ (ev_move rfl) ?_
        refine GO_yes rfl rfl rfl (decide_eq_true k1) ?_
        refine GQ (ev_move rfl) ?_
        refine GO_yes rfl rfl rfl (decide_eq_true k1) ?_
        (first | refine GQ (ev_nilCheck rfl) ?_ | refine GQ (ev_nilCheckF (by simp) rfl) ?_)
        refine GO_yes rfl rfl rfl (decide_eq_true k1) ?_
        refine GQ (ev_fieldAddr rfl) ?_
        refine GO_yes rfl rfl rfl (decide_eq_true k1) ?_
        refine GQ (ev_load rfl LdA) ?_
        refine GO_yes rfl rfl rfl (decide_eq_true k1) ?_
        refine GQ (ev_len rfl) ?_
        refine GO_yes rfl rfl rfl (decide_eq_true k1) ?_
        refine GQ (ev_gtr rfl rfl) ?_
        refine GQ (ev_pick_t rfl (decide_eq_true k1) rfl) ?_
        refine GQ (ev_move rfl) ?_
        refine GO_yes rfl rfl rfl (decide_eq_true (by omega)) ?_
        refine GQ (ev_fieldAddr rfl) ?_
        refine GO_yes rfl rfl rfl (decide_eq_true (by omega)) ?_
        refine GQ (ev_load rfl LdA) ?_
        refine GO_yes rfl rfl rfl (decide_eq_true (by omega)) ?_
        refine GQ (ev_geq rfl rfl) ?_
        refine GQ (ev_pick_t rfl (decide_eq_true (by omega)) rfl) ?_
        refine GO_nil ?_
        refine GN ?_
        refine G_cond_t rfl (decide_eq_true k3) ?_
        refine GN ?_
        refine G_draw (.q 0 (.q 1 (.q 2 (.q 3 (.q 4 (.q 5 (.q 6 (.q 7 (.q 8 (.q 9 (.q 10 (.q 11 (.q 12 (.q 13 (.e 14 .nil))))))))))))))) (by kernel_rfl) (by kernel_rfl) ?_
        refine RM rfl (ev_move rfl) ?_
        (first | refine RM rfl (ev_nilCheck rfl) ?_ | refine RM rfl (ev_nilCheckF (by simp) rfl) ?_)
        refine RM rfl (ev_fieldAddr rfl) ?_
        refine RQ rfl (ev_load rfl LdA) ?_
        refine RM rfl (ev_fieldAddr rfl) ?_
        refine RQ rfl (ev_load rfl LdA) ?_
        refine RM rfl (ev_move rfl) ?_
        (first | refine RM rfl (ev_nilCheck rfl) ?_ | refine RM rfl (ev_nilCheckF (by simp) rfl) ?_)
        refine RM rfl (ev_fieldAddr rfl) ?_
        refine RQ rfl (ev_load rfl LdA) ?_
        refine RQ rfl (ev_len rfl) ?_
        refine RM rfl (ev_remE hj1 rfl rfl k3 (by omega)) ?_
        (first | refine RM rfl (ev_indexAddrN rfl rfl NgA) ?_ | refine RM rfl (ev_indexAddr rfl rfl NgA NgA) ?_)
        refine RQ rfl (ev_loadN rfl LnA) ?_
        refine RS_e (RE_last (by kernel_rfl) rfl rfl rfl (eff_storeN rfl rfl rfl rfl UpA) ?_); rintro _ _ ⟨rfl, rfl⟩
        refine GN ?_
        refine G_ret rfl (.cell rfl (loadN_run LnA) .nil) EnA ⟨rfl, rfl⟩
      · have e0 : actP l a = a.p := if_neg (fun h => k3 h.2.2)
        rw [e0]
        refine GN ?_
        refine G_region ?_
        refine GQ (ev_fieldAddr rfl) ?_
        refine GQ (ev_load rfl LdA) ?_
        refine GQ (ev_eql rfl rfl) ?_
        refine GQ (ev_move rfl) ?_
        refine GO_yes rfl rfl rfl (decide_eq_true k1) ?_
        refine GQ (ev_move rfl) ?_
        refine GO_yes rfl rfl rfl (decide_eq_true k1) ?_
        (first | refine GQ (ev_nilCheck rfl) ?_ | refine GQ (ev_nilCheckF (by simp) rfl) ?_)
        refine GO_yes rfl rfl rfl (decide_eq_true k1) ?_
        refine GQ (ev_fieldAddr rfl) ?_
        refine GO_yes rfl rfl rfl (decide_eq_true k1) ?_
        refine GQ (ev_load rfl LdA) ?_
        refine GO_yes rfl rfl rfl (decide_eq_true k1) ?_
        refine GQ (ev_len rfl) ?_
        refine GO_yes rfl rfl rfl (decide_eq_true k1) ?_
        refine GQ (ev_gtr rfl rfl) ?_
        refine GQ (ev_pick_t rfl (decide_eq_true k1) rfl) ?_
        refine GQ (ev_move rfl) ?_
        refine GO_yes rfl rfl rfl (decide_eq_true (by omega)) ?_
        refine GQ (ev_fieldAddr rfl) ?_
        refine GO_yes rfl rfl rfl (decide_eq_true (by omega)) ?_
        refine GQ (ev_load rfl LdA) ?_
        refine GO_yes rfl rfl rfl (decide_eq_true (by omega)) ?_
        refine GQ (ev_geq rfl rfl) ?_
        refine GQ (ev_pick_t rfl (decide_eq_true (by omega)) rfl) ?_
        refine GO_nil ?_
        refine GN ?_
        refine G_cond_f rfl (decide_eq_false k3) ?_
        refine GN ?_
        refine G_region ?_
        refine GQ (ev_fieldAddr rfl) ?_
        refine GQ (ev_loadN rfl LnA) ?_
        refine GE (eff_storeN rfl rfl rfl rfl UpA) ?_; rintro _ _ ⟨rfl, rfl⟩
        refine GO_nil ?_
        refine GN ?_
        refine G_ret rfl (.cell rfl (loadN_run LnA) .nil) EnA ⟨rfl, rfl⟩
    · have e0 : actP l a = a.p := if_neg (fun h => k2 h.2.1)
      rw [e0]
      refine GN ?_
      refine G_region ?_
      refine GQ (ev_fieldAddr rfl) ?_
      refine GQ (ev_load rfl LdA) ?_
      refine GQ (ev_eql rfl rfl) ?_
      refine GQ (ev_move rfl) ?_
      refine GO_yes rfl rfl rfl (decide_eq_true k1) ?_
      refine GQ (ev_move rfl) ?_
      refine GO_yes rfl rfl rfl (decide_eq_true k1) ?_
      (first | refine GQ (ev_nilCheck rfl) ?_ | refine GQ (ev_nilCheckF (by simp) rfl) ?_)
      refine GO_yes rfl rfl rfl (decide_eq_true k1) ?_
      refine GQ (ev_fieldAddr rfl) ?_
      refine GO_yes rfl rfl rfl (decide_eq_true k1) ?_
      refine GQ (ev_load rfl LdA) ?_
      refine GO_yes rfl rfl rfl (decide_eq_true k1) ?_
      refine GQ (ev_len rfl) ?_
      refine GO_yes rfl rfl rfl (decide_eq_true k1) ?_
      refine GQ (ev_gtr rfl rfl) ?_
      refine GQ (ev_pick_t rfl (decide_eq_true k1) rfl) ?_
      refine GQ (ev_move rfl) ?_
      refine GO_no rfl rfl rfl (decide_eq_false (by omega)) ?_
      refine GO_no rfl rfl rfl (decide_eq_false (by omega)) ?_
      refine GO_no rfl rfl rfl (decide_eq_false (by omega)) ?_
      refine GQ (ev_pick_f rfl (decide_eq_false (by omega)) rfl) ?_
      refine GO_nil ?_
      refine GN ?_
      refine G_cond_f rfl rfl ?_
      refine GN ?_
      refine G_region ?_
      refine GQ (ev_fieldAddr rfl) ?_
      refine GQ (ev_loadN rfl LnA) ?_
      refine GE (eff_storeN rfl rfl rfl rfl UpA) ?_; rintro _ _ ⟨rfl, rfl⟩
      refine GO_nil ?_
      refine GN ?_
      refine G_ret rfl (.cell rfl (loadN_run LnA) .nil) EnA ⟨rfl, rfl⟩
  · have e0 : actP l a = a.p := if_neg (fun h => k1 h.1)
    rw [e0]
    refine GN ?_
    refine G_region ?_
    refine GQ (ev_fieldAddr rfl) ?_
    refine GQ (ev_load rfl LdA) ?_
    refine GQ (ev_eql rfl rfl) ?_
    refine GQ (ev_move rfl) ?_
    refine GO_no rfl rfl rfl (decide_eq_false k1) ?_
    refine GO_no rfl rfl rfl (decide_eq_false k1) ?_
    refine GO_no rfl rfl rfl (decide_eq_false k1) ?_
    refine GO_no rfl rfl rfl (decide_eq_false k1) ?_
    refine GO_no rfl rfl rfl (decide_eq_false k1) ?_
    refine GO_no rfl rfl rfl (decide_eq_false k1) ?_
    refine GQ (ev_pick_f rfl (decide_eq_false k1) rfl) ?_
    refine GQ (ev_move rfl) ?_
    refine GO_no rfl rfl rfl rfl ?_
    refine GO_no rfl rfl rfl rfl ?_
    refine GO_no rfl rfl rfl rfl ?_
    refine GQ (ev_pick_f rfl rfl rfl) ?_
    refine GO_nil ?_
    refine GN ?_
    refine G_cond_f rfl rfl ?_
    refine GN ?_
    refine G_region ?_
    refine GQ (ev_fieldAddr rfl) ?_
    refine GQ (ev_loadN rfl LnA) ?_
    refine GE (eff_storeN rfl rfl rfl rfl UpA) ?_; rintro _ _ ⟨rfl, rfl⟩
    refine GO_nil ?_
    refine GN ?_
    refine G_ret rfl (.cell rfl (loadN_run LnA) .nil) EnA ⟨rfl, rfl⟩
instance : Enc Ac := ⟨5, fun a => [.int .i64 a.kind, .int .i64 a.at_, .int .i64 a.p.id, .int .i64 a.p.x, .int .i64 a.p.y], fun _ => rfl, fun p v h => by
  simp at h
  rcases h with rfl | rfl | rfl | rfl | rfl <;> rfl⟩
theorem acts_of : ∀ (n : Nat) (ns : List Int), ns.length = n * 5 → Ints ns → ∃ l : List Ac, flat l = ints ns ∧ ∀ a ∈ l, a.at_ ≤ 9223372036854775807
  | 0, ns, h, _ => ⟨[], by
    have : ns = [] := List.eq_nil_of_length_eq_zero (by simpa using h)
    subst this; rfl, by simp⟩
  | n + 1, a :: b :: c :: d :: e :: ns, h, hb => by
    obtain ⟨l, hl, hk⟩ := acts_of n ns (by simp at h; omega) (fun x hx => hb x (by simp [hx]))
    refine ⟨⟨a, b, ⟨c, d, e⟩⟩ :: l, by rw [flat_cons, hl]; rfl, fun u hu => ?_⟩
    rcases List.mem_cons.1 hu with rfl | hu
    · exact (hb b (by simp)).2
    · exact hk u hu
  | n + 1, [], h, _ => by simp at h
  | n + 1, [_], h, _ => by simp at h; omega
  | n + 1, [_, _], h, _ => by simp at h; omega
  | n + 1, [_, _, _], h, _ => by simp at h; omega
  | n + 1, [_, _, _, _], h, _ => by simp at h; omega
theorem rd_acts {w : World} {A : Option Addr} {n : Nat} {ns : List Int} (h : Reads w 5 A n (ints ns)) (hb : Ints ns) : ∃ l : List Ac, Rd [old w.hm] A n l ∧ ∀ a ∈ l, a.at_ ≤ 9223372036854775807 := by
  obtain ⟨l, hl, hk⟩ := acts_of n ns (by simpa [ints] using h.1) hb
  refine ⟨l, ?_, hk⟩
  unfold Rd
  rw [hl]
  exact rc_of_reads (by decide) h
end Go.Proofs.YtkoncepjfgnjlaaGreat
/- Points in several trees: the reference's Sizes; one act on both. -/
namespace Go.Proofs.YtkoncepjfgnjlaaGreat
attribute [local irreducible] sat
open Go.RowKit
set_option linter.unusedVariables false
set_option linter.unusedSectionVars false
set_option linter.unusedSimpArgs false
set_option maxRecDepth 100000

section
variable {x : RfX} {S : LgS} {r : Nat} {most : Int} {L : List HP} (hx : RfI x S) (h : LdN L r 0 4 (rfC x.A x.qs.length x.c x.D S.d.length x.e most (S.bu : Nat))) (hq : Rd L x.A x.qs.length x.qs)
include hx h hq
end
theorem point19_ctr (r : Nat) (most : Int) (S : LgS) (a : Ac) (m : Nat) (L : List HP) (ok : LgOk S m) (hm : m ≤ 300) (ha : a.at_ ≤ 9223372036854775807) :
    Ctr Tryz.prog 42 #[.pointer (some ⟨r, 0, none⟩), .agg #[.int .i64 a.kind, .int .i64 a.at_, .int .i64 a.p.id, .int .i64 a.p.x, .int .i64 a.p.y]] (rfF r most S :: L) fun v L' => v = (actP S.live a).v ∧ L' = rfF r most S :: L := by
  refine Ctr.rf fun x hx => ?_
  have hll := ok.live_len
  have htot := ok.tot
  have hl10 : S.ls.length ≤ 10 := lv_le9 ok.lv (by omega)
  have hql : ∀ X, Rd (own 38 1 x.A x.qs.length x.c (flat x.qs) :: X) x.A x.qs.length x.qs := fun X => Rc.own (flat_length _) hx.A
  have hin : ∀ X, ∀ q ∈ x.qs, q.at_ (pk x.N :: X) := fun X q hq => (hx.at_ q hq).pk
  have hdd : ∀ X, Rd (pk x.N :: X) x.D S.d.length S.d := fun X => Rd.pk hx.dd
  have hlive := fun M h1 h2 h3 h4 => KLive_ctr (r := r) (most := most) (L := M) hx h1 h2 h3 h4 ok.nd (by omega) (by omega) (by omega)
  have hP := fun b A c M h1 h2 => Point_ctr0 b A c 0 a S.live M h1 h2 (by omega) ha
  generalize S.live = l at *
  refine Ctr_of (fn := Tryz.f42) (n := 11) Tryz.func42 rfl rfl rfl ?_
  intro g F
  refine GN ?_
  refine G_region ?_
  refine GE (eff_box rfl) ?_; rintro _ _ ⟨b3, rfl, rfl⟩
  refine GE eff_alloc ?_; rintro _ _ ⟨b4, rfl, rfl⟩
  refine GO_nil ?_
  refine GN ?_
  refine G_draw (.q 0 (.q 4 (.e 1 (.q 2 (.e 3 (.e 5 (.e 6 .nil))))))) (by kernel_rfl) (by kernel_rfl) ?_
  refine RM rfl (ev_move rfl) ?_
  refine RQ rfl (ev_loadN rfl LnA) ?_
  refine RS_e (RE_eff rfl rfl rfl (eff_call rfl (hlive _ (by repeat' first | exact LdN.blk rfl | apply LdN.skip) (by repeat' first | exact hql _ | apply Rd.skip) (fun q hq ↦ by repeat' first | exact hin _ q hq | apply QS.at_.skip) (by repeat' first | exact hdd _ | apply Rd.skip))) ?_); rintro _ _ ⟨bl, cl, rfl, k1, k2, rfl⟩; refine ⟨_, fun _ s => s, ExA, ?_⟩
  refine RM rfl (ev_build rfl rfl) ?_
  refine RS_e (RE_eff rfl rfl rfl (eff_box rfl) ?_); rintro _ _ ⟨b8, rfl, rfl⟩; refine ⟨_, fun _ s => s, ExA, ?_⟩
  refine RS_e (RE_eff rfl rfl rfl (eff_call rfl (hP b8 _ cl _ LnA (by repeat' first | exact Rc.own (flat_length _) (fun _ ↦ ⟨bl, rfl⟩) | apply Rd.skip))) ?_); rintro _ _ ⟨rfl, rfl⟩; refine ⟨_, fun _ s => s, ExA, ?_⟩
  refine RS_e (RE_last (by kernel_rfl) rfl rfl rfl (eff_storeN rfl rfl rfl rfl UpA) ?_); rintro _ _ ⟨rfl, rfl⟩
  refine GN ?_
  refine G_ret (L' := rfF r most S :: L) rfl (.cell rfl (loadN_run LnA) .nil) (by (repeat first | exact en_refl | refine en_rf x rfl rfl rfl rfl hx ?_ | (apply en_blk; focus ((repeat' first | exact Pick.here | apply Pick.skip | apply Pick.app); done); focus rfl) | (apply en_own; focus ((repeat' first | exact Pick.here | apply Pick.skip | apply Pick.app); done); focus rfl) | (apply en_pick; focus ((repeat' first | exact Pick.here | apply Pick.skip | apply Pick.app); done)) | apply en_drop | apply en_app) <;> fail) ⟨rfl, rfl⟩
/-- What an act leaves. -/
def LgS.act (most : Int) (S : LgS) (a : Ac) : LgS := if a.kind = 1 ∨ a.kind = 2 then S.del (actP S.live a) else S.ins most (actP S.live a)
theorem LgOk.act {most : Int} {S : LgS} {m : Nat} (ok : LgOk S m) (hm : m ≤ 300) (a : Ac) : LgOk (S.act most a) (m + 1) := by
  unfold LgS.act
  split
  · exact ok.del hm
  · exact ok.ins hm
theorem does19_ctr (t r : Nat) (most : Int) (S : LgS) (a : Ac) (m : Nat) (L : List HP) (ok : LgOk S m) (hm : m ≤ 300) (ha : a.at_ ≤ 9223372036854775807) :
    Ctr Tryz.prog 14 #[.pointer (some ⟨t, 0, none⟩), .pointer (some ⟨r, 0, none⟩), .agg #[.int .i64 a.kind, .int .i64 a.at_, .int .i64 a.p.id, .int .i64 a.p.x, .int .i64 a.p.y]] (lgF t most S :: rfF r most S :: L) fun v L' => v = .bool true ∧ L' = lgF t most (S.act most a) :: rfF r most (S.act most a) :: L := by
  unfold LgS.act
  have hpt := fun M => point19_ctr r most S a m M ok hm ha
  generalize hp : actP S.live a = p at *
  refine Ctr_of (fn := Tryz.f14) (n := 33) Tryz.func14 rfl rfl rfl ?_
  intro g F
  refine GN ?_
  refine G_region ?_
  refine GE (eff_box rfl) ?_; rintro _ _ ⟨b5, rfl, rfl⟩
  refine GQ (ev_assign rfl) ?_
  refine GO_nil ?_
  refine GN ?_
  refine G_region ?_
  refine GQ (ev_move rfl) ?_
  refine GQ (ev_loadN rfl LnA) ?_
  refine GE (eff_call rfl (Ctr.pick PkA (hpt _))) ?_; rintro _ _ ⟨rfl, rfl⟩
  refine GE eff_alloc ?_; rintro _ _ ⟨b7, rfl, rfl⟩
  refine GE (eff_storeN rfl rfl rfl rfl UpA) ?_; rintro _ _ ⟨rfl, rfl⟩
  refine GO_nil ?_
  refine G_heap (L' := lgF t most S :: rfF r most S :: blk b7 28 [.int .i64 p.id, .int .i64 p.x, .int .i64 p.y] :: blk b5 43 [.int .i64 a.kind, .int .i64 a.at_, .int .i64 a.p.id, .int .i64 a.p.x, .int .i64 a.p.y] :: F :: L) EpA ?_
  by_cases hc : a.kind = 1 ∨ a.kind = 2
  · rw [if_pos hc]
    by_cases k1 : a.kind = 1
    case' pos =>
      refine GN ?_
      refine G_region ?_
      refine GQ (ev_fieldAddr rfl) ?_
      refine GQ (ev_load rfl LdA) ?_
      refine GQ (ev_eql rfl rfl) ?_
      refine GQ (ev_move rfl) ?_
      refine GO_no rfl rfl rfl (decide_eq_true k1) ?_
      refine GO_no rfl rfl rfl (decide_eq_true k1) ?_
      refine GO_no rfl rfl rfl (decide_eq_true k1) ?_
      refine GQ (ev_pick_t rfl (decide_eq_true k1) rfl) ?_
      refine GO_nil ?_
      refine GN ?_
      refine G_cond_t rfl rfl ?_
    case' neg =>
      have k2 : a.kind = 2 := by omega
      refine GN ?_
      refine G_region ?_
      refine GQ (ev_fieldAddr rfl) ?_
      refine GQ (ev_load rfl LdA) ?_
      refine GQ (ev_eql rfl rfl) ?_
      refine GQ (ev_move rfl) ?_
      refine GO_yes rfl rfl rfl (decide_eq_false k1) ?_
      refine GQ (ev_fieldAddr rfl) ?_
      refine GO_yes rfl rfl rfl (decide_eq_false k1) ?_
      refine GQ (ev_load rfl LdA) ?_
      refine GO_yes rfl rfl rfl (decide_eq_false k1) ?_
      refine GQ (ev_eql rfl rfl) ?_
      refine GQ (ev_pick_f rfl (decide_eq_false k1) rfl) ?_
      refine GO_nil ?_
      refine GN ?_
      refine G_cond_t rfl (decide_eq_true k2) ?_
    all_goals
      refine GN ?_
      refine G_drawE 0 (.q 0 (.q 1 (.q 3 (.q 4 (.e 2 (.e 5 (.q 6 (.q 7 .nil)))))))) (by kernel_rfl) (by kernel_rfl) ?_
      refine RM rfl (ev_move rfl) ?_
      refine RQ rfl (ev_loadN rfl LnA) ?_
      refine RM rfl (ev_move rfl) ?_
      refine RQ rfl (ev_loadN rfl LnA) ?_
      refine RS_e (RE_eff rfl rfl rfl (eff_call rfl (Ctr.pick PkA (LgDelete_ctr t most S p m _ ok hm))) ?_); rintro _ _ ⟨rfl, rfl⟩; refine ⟨_, ExA, fun _ s => s, ?_⟩
      refine RS_e (RE_cmp (by kernel_rfl) rfl rfl rfl (eff_call rfl (Ctr.pick PkA (rDelete_ctr r most S p m _ ok hm))) ?_); rintro _ _ ⟨rfl, rfl⟩
      refine RM rfl (ev_eql rfl rfl) ?_
      refine RM rfl (ev_assign rfl) ?_
      refine RS_nil ?_
      refine GN ?_
      refine G_ret (L' := lgF t most (S.del p) :: rfF r most (S.del p) :: L) rfl (.tmp rfl .nil) EpA ⟨by simp [retv], rfl⟩
  · rw [if_neg hc]
    have k1 : ¬ a.kind = 1 := fun h => hc (.inl h)
    have k2 : ¬ a.kind = 2 := fun h => hc (.inr h)
    refine GN ?_
    refine G_region ?_
    refine GQ (ev_fieldAddr rfl) ?_
    refine GQ (ev_load rfl LdA) ?_
    refine GQ (ev_eql rfl rfl) ?_
    refine GQ (ev_move rfl) ?_
    refine GO_yes rfl rfl rfl (decide_eq_false k1) ?_
    refine GQ (ev_fieldAddr rfl) ?_
    refine GO_yes rfl rfl rfl (decide_eq_false k1) ?_
    refine GQ (ev_load rfl LdA) ?_
    refine GO_yes rfl rfl rfl (decide_eq_false k1) ?_
    refine GQ (ev_eql rfl rfl) ?_
    refine GQ (ev_pick_f rfl (decide_eq_false k1) rfl) ?_
    refine GO_nil ?_
    refine GN ?_
    refine G_cond_f rfl (decide_eq_false k2) ?_
    refine GN ?_
    refine G_drawE 0 (.q 0 (.q 1 (.q 3 (.q 4 (.e 2 (.e 5 (.q 6 (.q 7 .nil)))))))) (by kernel_rfl) (by kernel_rfl) ?_
    refine RM rfl (ev_move rfl) ?_
    refine RQ rfl (ev_loadN rfl LnA) ?_
    refine RM rfl (ev_move rfl) ?_
    refine RQ rfl (ev_loadN rfl LnA) ?_
    refine RS_e (RE_eff rfl rfl rfl (eff_call rfl (Ctr.pick PkA (LgInsert_ctr t most S p m _ ok hm))) ?_); rintro _ _ ⟨rfl, rfl⟩; refine ⟨_, ExA, fun _ s => s, ?_⟩
    refine RS_e (RE_cmp (by kernel_rfl) rfl rfl rfl (eff_call rfl (Ctr.pick PkA (rInsert_ctr r most S p m _ ok hm))) ?_); rintro _ _ ⟨rfl, rfl⟩
    refine RM rfl (ev_eql rfl rfl) ?_
    refine RM rfl (ev_assign rfl) ?_
    refine RS_nil ?_
    refine GN ?_
    refine G_ret (L' := lgF t most (S.ins most p) :: rfF r most (S.ins most p) :: L) rfl (.tmp rfl .nil) EpA ⟨by simp [retv], rfl⟩
end Go.Proofs.YtkoncepjfgnjlaaGreat
/- The laws LogmTrees and LogmPlays. -/
namespace Go.Proofs.YtkoncepjfgnjlaaGreat
attribute [local irreducible] sat
open Go.RowKit
set_option linter.unusedVariables false
set_option linter.unusedSectionVars false
set_option linter.unusedSimpArgs false
set_option maxRecDepth 100000

def playS (most : Int) (l : List Ac) : LgS := l.foldl (LgS.act most) ⟨[], [], 0⟩
theorem playS_succ (most : Int) (l : List Ac) (k : Nat) (h : k < l.length) : playS most (l.take (k + 1)) = (playS most (l.take k)).act most l[k] := by
  unfold playS; rw [List.take_succ_eq_append_getElem h, List.foldl_append]; rfl
theorem playS_ok (most : Int) (l : List Ac) : ∀ k, k ≤ l.length → k ≤ 300 → LgOk (playS most (l.take k)) k
  | 0, _, _ => by simpa [playS] using LgOk.zero
  | k + 1, h, h2 => by
    rw [playS_succ most l k (by omega)]
    exact (playS_ok most l k (by omega) (by omega)).act (by omega) _
@[reducible] def lgO (t : Nat) (most : Int) (x : LgX) (S : LgS) (M : List HP) : List HP := blk t 69 (lsC x.A x.ts.length x.c x.b (S.d.length : Nat) most (S.bu : Nat)) :: mpH x.b x.M :: own 63 1 x.A x.ts.length x.c (flat x.ts) :: pk x.N :: M
@[reducible] def rfO (r : Nat) (most : Int) (x : RfX) (S : LgS) (M : List HP) : List HP := blk r 40 (rfC x.A x.qs.length x.c x.D S.d.length x.e most (S.bu : Nat)) :: own 38 1 x.A x.qs.length x.c (flat x.qs) :: pk x.N :: M
theorem en_rf0 {L M : List HP} {r : Nat} {most : Int} (f : ∀ h, sat L h → sat (blk r 40 (rfC none 0 0 none 0 0 most 0) :: M) h) : ∀ h, sat L h → sat (rfF r most ⟨[], [], 0⟩ :: M) h := by
  have hz : RfI ⟨none, 0, [], none, 0, []⟩ ⟨[], [], 0⟩ := ⟨rfl, by simp, Rd.nil _ _, Nat.le_refl _, Nat.zero_le _, fun h => absurd h (Nat.lt_irrefl 0)⟩
  refine en_rf ⟨none, 0, [], none, 0, []⟩ rfl rfl (bu := 0) rfl rfl hz (fun h s => ?_)
  exact sat.cons_mono (fun _ s => own.nil_ 38 1 _ (en_pack (K := []) en_refl _ s)) (f h s)
end Go.Proofs.YtkoncepjfgnjlaaGreat
/- The references of a tree of lists: which points may be, how many levels, and that a tree lives. -/
namespace Go.Proofs.YtkoncepjfgnjlaaGreat
set_option linter.unusedVariables false
set_option linter.unusedSimpArgs false
set_option maxRecDepth 100000

end Go.Proofs.YtkoncepjfgnjlaaGreat
/- A cursor over trees of lists: what the laws use. -/
namespace Go.Proofs.YtkoncepjfgnjlaaGreat
attribute [local irreducible] sat
set_option linter.unusedVariables false
set_option linter.unusedSimpArgs false
set_option maxRecDepth 100000

/-- Bytes. -/
structure U8 where
  n : Nat
instance : Enc U8 := ⟨1, fun a => [.int .u8 (a.n : Int)], fun _ => rfl, fun _ v h => by simp at h; subst h; rfl⟩
instance : IntK Tryz.prog 5 .u8 := ⟨by kernel_rfl⟩
instance : IntK Tryz.prog 3 .i64 := ⟨by kernel_rfl⟩
/-- How many levels a reference allows. -/
def LevOk (n k : Nat) : Prop := (n = 0 → k = 0) ∧ (0 < n → ∃ j, k = j + 1 ∧ n ≤ 2 ^ j) ∧ k ≤ 60
theorem RLess18_ctr (A D : Option Addr) (n c m d : Nat) (l ds : List Int) (L : List HP) (hl : Rd L A n l) (hn : n ≤ 100000) (hd : Rd L D m ds) (hm : m ≤ 100000) :
    Ctr Tryz.prog 29 #[.slice A n c, .slice D m d] L fun v L' => MadeC 3 (lessI l ds) L v L' := by
  have h1 : l.length = n := hl.len (by decide)
  have h2 : ds.length = m := hd.len (by decide)
  refine Ctr_of (fn := Tryz.f29) (n := 45) Tryz.func29 rfl rfl rfl ?_
  intro g F
  refine GN ?_
  refine G_region ?_
  refine GQ (ev_assign rfl) ?_
  refine GO_nil ?_
  refine GN ?_
  refine G_region ?_
  refine GE eff_buildSlice0 ?_; rintro _ _ ⟨b8, rfl, rfl⟩
  refine GQ (ev_move rfl) ?_
  refine GE (eff_append rfl rfl PkA ((by repeat' first | exact hl | apply Rc.skip)) ((flat_one _)) (by rfl) (by decide) NgA NgA) ?_; rintro _ _ ⟨A10, c10, rfl, hc10, hm10, hn10, rfl⟩
  refine GQ (ev_assign rfl) ?_
  refine GO_nil ?_
  rw [Nat.zero_add, List.nil_append] at *
  refine GN ?_
  refine G_region ?_
  refine GQ (ev_assign rfl) ?_
  refine GO_nil ?_
  refine GN ?_
  refine G_loop (ι := Nat × Option Addr × Nat) (fun z => [(0, .slice A n c), (1, .slice D m d), (5, .slice z.2.1 (lessI l (ds.take z.1)).length z.2.2), (6, .int .i64 (z.1 : Nat))]) (fun z => own 3 1 z.2.1 (lessI l (ds.take z.1)).length z.2.2 (flat (lessI l (ds.take z.1))) :: F :: L) (fun z => z.1 ≤ m ∧ (0 < (lessI l (ds.take z.1)).length → ∃ b, z.2.1 = some ⟨b, 0, none⟩) ∧ (lessI l (ds.take z.1)).length ≤ z.2.2 ∧ z.2.2 ≤ maxLen) (fun z => m - z.1) (0, A10, c10) ⟨Nat.zero_le _, by show 0 < l.length → _; rw [h1]; exact hn10, by show l.length ≤ _; rw [h1]; exact hc10, hm10⟩ ⟨rfl, rfl, by show some (Value.slice A10 n c10) = some (Value.slice A10 l.length c10); rw [h1], rfl, trivial⟩ (by show ∀ h, _ → sat (own 3 1 A10 l.length c10 (flat l) :: F :: L) h; rw [h1]; exact EpA) ?_
  rintro ⟨j, C, f⟩ ⟨f1, f2, f3, f4⟩
  simp only at f1 f2 f3 f4
  dsimp only
  refine GN ?_
  refine G_region ?_
  refine GQ (ev_move rfl) ?_
  refine GQ (ev_move rfl) ?_
  refine GQ (ev_len rfl) ?_
  (first | refine GQ (ev_lssN rfl rfl) ?_ | refine GQ (ev_lss rfl rfl) ?_)
  refine GO_nil ?_
  refine GN ?_
  refine G_cond rfl (fun h4 => ?_) (fun h4 => ?_)
  · obtain ⟨lb, lo, rfl, hx2⟩ := hd.at_ (by omega)
    have g1 : ds[j]? = some ds[j] := List.getElem?_eq_getElem (by omega)
    have y1 := (hx2 _ _ g1).at_ (i := 0) rfl
    have e9 := lessI_take (l := l) g1
    generalize ds[j] = u at *
    have z1 : Ld L ⟨lb, lo + j * 1, none⟩ (.int .i64 u) := y1
    have hl9 := lessI_len (ds.take j) l
    generalize lessI l (ds.take j) = q at *
    have hrq : ∀ M, Rd (own 3 1 C q.length f (flat q) :: M) C q.length q := fun M => Rc.own (flat_length _) f2
    refine GN ?_
    refine G_region ?_
    refine GQ (ev_assign rfl) ?_
    refine GO_nil ?_
    (repeat first | refine G_seq ?_ | refine G_skip ?_ | refine G_endblk ?_)
    refine G_cut (ι := Option Addr × Nat) (fun z => [(0, .slice A n c), (1, .slice (some ⟨lb, lo, none⟩) m d), (5, .slice z.1 (q.erase u).length z.2), (6, .int .i64 (j : Nat))]) (fun z => own 3 1 z.1 (q.erase u).length z.2 (flat (q.erase u)) :: F :: L) (fun z => (0 < (q.erase u).length → ∃ b, z.1 = some ⟨b, 0, none⟩) ∧ (q.erase u).length ≤ z.2 ∧ z.2 ≤ maxLen) ?_ ?_
    · refine GN ?_
      refine G_loop (ι := Nat × Option Addr × Nat × List Int) (fun z => [(0, .slice A n c), (1, .slice (some ⟨lb, lo, none⟩) m d), (5, .slice z.2.1 z.2.2.2.length z.2.2.1), (6, .int .i64 (j : Nat)), (7, .int .i64 (z.1 : Nat))]) (fun z => own 3 1 z.2.1 z.2.2.2.length z.2.2.1 (flat z.2.2.2) :: F :: L) (fun z => ((z.2.2.2 = q ∧ z.1 ≤ q.length ∧ u ∉ q.take z.1) ∨ (u ∈ q ∧ z.2.2.2 = q.erase u ∧ z.1 = z.2.2.2.length + 1)) ∧ (0 < z.2.2.2.length → ∃ b, z.2.1 = some ⟨b, 0, none⟩) ∧ z.2.2.2.length ≤ z.2.2.1 ∧ z.2.2.1 ≤ maxLen) (fun z => q.length + 2 - z.1) (0, C, f, q) ⟨.inl ⟨rfl, Nat.zero_le _, by simp⟩, f2, f3, f4⟩ ⟨rfl, rfl, rfl, rfl, rfl, trivial⟩ EnA ?_
      rintro ⟨k, C3, f6, r⟩ ⟨p1, p2, p3, p4⟩
      simp only at p1 p2 p3 p4
      dsimp only
      refine GN ?_
      refine G_region ?_
      refine GQ (ev_move rfl) ?_
      refine GQ (ev_move rfl) ?_
      refine GQ (ev_len rfl) ?_
      (first | refine GQ (ev_lssN rfl rfl) ?_ | refine GQ (ev_lss rfl rfl) ?_)
      refine GO_nil ?_
      rcases p1 with ⟨p0, p5, p6⟩ | ⟨p5, p6, p7⟩
      · subst p0
        by_cases hk : k < r.length
        · refine GN ?_
          refine G_cond_t rfl (decide_eq_true (by omega)) ?_
          have hrr : ∀ M, Rd (own 3 1 C3 r.length f6 (flat r) :: M) C3 r.length r := fun M => Rc.own (flat_length _) p2
          obtain ⟨rb, rfl⟩ := p2 (by omega)
          have g2 : r[k]? = some r[k] := List.getElem?_eq_getElem hk
          have s1 : r.take (k + 1) = r.take k ++ [r[k]] := List.take_succ_eq_append_getElem hk
          have hsp : r = r.take k ++ r[k] :: r.drop (k + 1) := by
            conv => lhs; rw [← List.take_append_drop k r, List.drop_eq_getElem_cons hk]
          have y2 : ∀ M, Ld (own 3 1 (some ⟨rb, 0, none⟩) r.length f6 (flat r) :: M) ⟨rb, 0 + k * 1, none⟩ (.int .i64 r[k]) := fun M => ld_ownI rfl g2 M
          generalize r[k] = w at *
          refine GN ?_
          refine G_draw (.q 0 (.q 1 (.q 2 (.q 3 (.q 4 (.q 5 (.q 6 (.q 7 (.q 8 .nil))))))))) (by kernel_rfl) (by kernel_rfl) ?_
          refine RM rfl (ev_move rfl) ?_
          refine RM rfl (ev_move rfl) ?_
          (first | refine RM rfl (ev_indexAddrN rfl rfl NgA) ?_ | refine RM rfl (ev_indexAddr rfl rfl NgA NgA) ?_)
          refine RQ rfl (ev_load rfl (by repeat' first | exact y2 _ | apply Ld.skip)) ?_
          refine RM rfl (ev_move rfl) ?_
          refine RM rfl (ev_move rfl) ?_
          (first | refine RM rfl (ev_indexAddrN rfl rfl NgA) ?_ | refine RM rfl (ev_indexAddr rfl rfl NgA NgA) ?_)
          refine RQ rfl (ev_load rfl LdA) ?_
          refine RM rfl (ev_eql rfl rfl) ?_
          refine RS_nil ?_
          by_cases hw : w = u
          · subst hw
            have her : r.erase w = r.take k ++ r.drop (k + 1) := by
              conv => lhs; rw [hsp]
              rw [List.erase_append_right _ p6]; simp
            have hwm : w ∈ r := List.mem_of_getElem? g2
            have m1 : ∀ M, Rc (own 3 1 (some ⟨rb, 0, none⟩) r.length f6 (flat r) :: M) 1 (some ⟨rb, 0, none⟩) k (flat (r.take k)) := fun M => (hrr M).take (by omega)
            have m2 : ∀ M, Rc (own 3 1 (some ⟨rb, 0, none⟩) r.length f6 (flat r) :: M) 1 (some ⟨rb, (if f6 = k + 1 then 0 else 0 + (k + 1) * 1), none⟩) (r.length - (k + 1)) (flat (r.drop (k + 1))) := fun M => (hrr M).drop (by omega) p3
            have nn : 0 + k + (r.length - (k + 1)) = (r.take k ++ r.drop (k + 1)).length := by rw [List.length_append, List.length_take, List.length_drop]; omega
            have nl : (r.take k ++ r.drop (k + 1)).length + 1 = r.length := by omega
            refine GN ?_
            refine G_cond_t rfl (decide_eq_true rfl) ?_
            refine GN ?_
            refine G_draw (.q 1 (.q 2 (.q 3 (.q 5 (.q 6 (.q 7 (.q 8 (.e 0 (.e 4 (.e 9 (.q 10 .nil))))))))))) (by kernel_rfl) (by kernel_rfl) ?_
            refine RM rfl (ev_move rfl) ?_
            refine RM rfl (ev_move rfl) ?_
            refine RQ rfl (ev_sliceH rfl rfl NgA) ?_
            refine RM rfl (ev_move rfl) ?_
            refine RM rfl (ev_move rfl) ?_
            (first | refine RM rfl (ev_addN (q := 1) rfl rfl NgA) ?_ | refine RM rfl (ev_add rfl rfl NgA) ?_)
            refine RQ rfl (ev_sliceL rfl rfl NgA NgA) ?_
            refine RS_e (RE_eff rfl rfl rfl eff_buildSlice0 ?_); rintro _ _ ⟨b32, rfl, rfl⟩; refine ⟨_, ExA, fun _ s => s, ?_⟩
            refine RS_e (RE_eff rfl rfl rfl (eff_append rfl rfl PkA ((by repeat' first | exact m1 _ | apply Rc.skip)) ((flat_one _)) (by rfl) (by decide) NgA NgA) ?_); rintro _ _ ⟨A36, c36, rfl, hc36, hm36, hn36, rfl⟩; refine ⟨_, ExA, fun _ s => s, ?_⟩
            refine RS_e (RE_eff rfl rfl rfl (eff_append rfl rfl PkA ((by repeat' first | exact m2 _ | apply Rc.skip)) ((flat_one _)) (by rfl) (by decide) NgA NgA) ?_); rintro _ _ ⟨A41, c41, rfl, hc41, hm41, hn41, rfl⟩; refine ⟨_, ExA, fun _ s => s, ?_⟩
            refine RM rfl (ev_assign rfl) ?_
            refine RS_nil ?_
            all_goals
              rw [nn] at hc41 hn41 ⊢
              refine GN ?_
              refine G_region ?_
              refine GQ (ev_move rfl) ?_
              refine GQ (ev_len rfl) ?_
              refine GQ (ev_assign rfl) ?_
              refine GO_nil ?_
              refine GN ?_
              refine G_region ?_
              refine GQ (ev_move rfl) ?_
              (first | refine GQ (ev_addN (q := 1) rfl rfl NgA) ?_ | refine GQ (ev_add rfl rfl NgA) ?_)
              refine GQ (ev_assign rfl) ?_
              refine GO_nil ?_
              refine GN ?_
              refine G_round ((r.take k ++ r.drop (k + 1)).length + 1, A41, c41, r.take k ++ r.drop (k + 1)) ⟨.inr ⟨hwm, her.symm, rfl⟩, hn41, hc41, hm41⟩ (by simp only; omega) ⟨rfl, rfl, rfl, rfl, rfl, trivial⟩ ?_
              dsimp only
              rw [flat_append]
              exact EpA
          · refine GN ?_
            refine G_cond_f rfl (decide_eq_false hw) ?_
            refine GN ?_
            refine G_region ?_
            refine GQ (ev_move rfl) ?_
            (first | refine GQ (ev_addN (q := 1) rfl rfl NgA) ?_ | refine GQ (ev_add rfl rfl NgA) ?_)
            refine GQ (ev_assign rfl) ?_
            refine GO_nil ?_
            refine GN ?_
            exact G_round (k + 1, some ⟨rb, 0, none⟩, f6, r) ⟨.inl ⟨rfl, by omega, by rw [s1]; simp only [List.mem_append, List.mem_singleton, not_or]; exact ⟨p6, fun e => hw e.symm⟩⟩, fun _ => ⟨rb, rfl⟩, p3, p4⟩ (by simp only; omega) ⟨rfl, rfl, rfl, rfl, rfl, trivial⟩ EnA
        · refine GN ?_
          refine G_cond_f rfl (decide_eq_false (by omega)) ?_
          refine GN ?_
          have e1 : r.take k = r := List.take_of_length_le (by omega)
          rw [e1] at p6
          have e2 : r.erase u = r := List.erase_of_not_mem p6
          refine G_inv (C3, f6) ?_ ?_ ?_
          · rw [e2]; exact ⟨p2, p3, p4⟩
          · rw [e2]; exact ⟨rfl, rfl, rfl, rfl, trivial⟩
          · dsimp only
            rw [e2]; exact EnA
      · refine GN ?_
        refine G_cond_f rfl (decide_eq_false (by omega)) ?_
        refine GN ?_
        rw [p6] at p2 p3 ⊢
        exact G_inv (C3, f6) ⟨p2, p3, p4⟩ ⟨rfl, rfl, rfl, rfl, trivial⟩ EnA
    · rintro ⟨C2, f5⟩ ⟨q1, q2, q3⟩
      simp only at q1 q2 q3
      dsimp only
      refine GN ?_
      refine G_region ?_
      refine GQ (ev_move rfl) ?_
      (first | refine GQ (ev_addN (q := 1) rfl rfl NgA) ?_ | refine GQ (ev_add rfl rfl NgA) ?_)
      refine GQ (ev_assign rfl) ?_
      refine GO_nil ?_
      refine GN ?_
      exact G_round (j + 1, C2, f5) ⟨by simp only; omega, by simp only; rw [e9]; exact q1, by simp only; rw [e9]; exact q2, q3⟩ (by simp only; omega) ⟨rfl, rfl, by simp only; rw [e9]; rfl, rfl, trivial⟩ (by dsimp only; rw [e9]; exact EpA)
  · have e0 : ds.take j = ds := List.take_of_length_le (by omega)
    rw [e0] at f2 f3 ⊢
    refine GN ?_
    refine G_region ?_
    refine GQ (ev_move rfl) ?_
    refine GQ (ev_assign rfl) ?_
    refine GO_nil ?_
    refine GN ?_
    exact G_ret (L' := own 3 1 C (lessI l ds).length f (flat (lessI l ds)) :: L) rfl (.tmp rfl .nil) EpA ⟨C, f, rfl, f2, f3, f4, rfl⟩
end Go.Proofs.YtkoncepjfgnjlaaGreat
