/- Texts of the law LogmApart, one behind the other. -/
import Derived.Test.YtkoncepjfgnjlaaGreatLogmApartM2
import Derived.Test.YtkoncepjfgnjlaaGreatLogmApartM1
import Derived.Shelf.Sort.Plain
import Derived.Shelf.Slices.In.SortNone
import Derived.Test.YtkoncepjfgnjlaaGreatProg
import Derived.IntWalk
import Derived.OpenShut
import Derived.Laws.Entries
import Derived.Recover
/- Arrays that lead into one another: joining. -/
namespace Go.Proofs.YtkoncepjfgnjlaaGreat
attribute [local irreducible] sat
set_option linter.unusedVariables false
set_option linter.unusedSimpArgs false
set_option maxRecDepth 100000

/-- Whether the next entry is one of the low array. -/
def takesB (l m : List Ent) (i k : Nat) : Bool :=
  match l[i]?, m[k]? with
  | some a, some b => decide (up a.p b.p ≤ 0)
  | some _, none => true
  | none, _ => false
theorem takes_ctr (jb ab i k c : Nat) (A pl ph : Option Addr) (n : Nat) (lo hi : Arr) (L : List HP) (hj : LdN L jb 0 3 [.pointer (some ⟨ab, 0, none⟩), .int .i64 (i : Nat), .int .i64 (k : Nat)])
    (ha : LdN L ab 0 3 [.slice A n c, .pointer pl, .pointer ph]) (hl : ArrIn L pl lo) (hh : ArrIn L ph hi) :
    Ctr Tryz.prog 151 #[.pointer (some ⟨jb, 0, none⟩)] L fun v L' => v = .bool (takesB lo.es hi.es i k) ∧ L' = L := by
  have j0 := hj.at_ (i := 0) rfl
  have j1 := hj.at_ (i := 1) rfl
  have j2 := hj.at_ (i := 2) rfl
  have a1 := ha.at_ (i := 1) rfl
  have a2 := ha.at_ (i := 2) rfl
  refine Ctr_of (fn := Tryz.f151) (n := 80) Tryz.func151 rfl rfl rfl ?_
  intro g F
  refine G_seq ?_
  refine GN ?_
  refine G_region ?_
  refine GQ (ev_assign rfl) ?_
  refine GO_nil ?_
  refine G_seq ?_
  refine G_seq ?_
  refine GN ?_
  refine G_draw (.q 0 (.q 1 (.q 2 (.q 3 (.q 4 (.q 5 (.q 6 (.q 7 (.q 8 (.q 9 (.q 10 (.e 11 (.q 12 (.q 13 (.q 14 (.q 15 (.q 16 (.q 17 (.q 18 (.q 19 (.q 20 (.q 21 (.q 22 (.q 23 (.q 24 (.e 25 (.q 26 (.q 27 .nil)))))))))))))))))))))))))))) (by kernel_rfl) (by kernel_rfl) ?_
  refine RM rfl (ev_move rfl) ?_
  (first | refine RM rfl (ev_nilCheck rfl) ?_ | refine RM rfl (ev_nilCheckF (by simp) rfl) ?_)
  refine RM rfl (ev_fieldAddr rfl) ?_
  refine RQ rfl (ev_load rfl LdA) ?_
  refine RM rfl (ev_move rfl) ?_
  (first | refine RM rfl (ev_nilCheck rfl) ?_ | refine RM rfl (ev_nilCheckF (by simp) rfl) ?_)
  refine RM rfl (ev_fieldAddr rfl) ?_
  refine RQ rfl (ev_load rfl LdA) ?_
  (first | refine RM rfl (ev_nilCheck rfl) ?_ | refine RM rfl (ev_nilCheckF (by simp) rfl) ?_)
  refine RM rfl (ev_fieldAddr rfl) ?_
  refine RQ rfl (ev_load rfl LdA) ?_
  refine RS_e (RE_eff rfl rfl rfl (eff_call rfl (size_ctr pl lo _ hl.skip)) ?_); rintro _ _ ⟨rfl, rfl⟩; refine ⟨_, fun _ s => s, ExA, ?_⟩
  refine RM rfl (ev_geq rfl rfl) ?_
  refine RM rfl (ev_move rfl) ?_
  refine RS_guard (d := 16) false rfl (fun hq14 => ?y83) (fun hq14 => ?n83)
  case' n83 =>
    have hp14 := hq14
    try simp only [decide_eq_true_eq, decide_eq_false_iff_not, Bool.not_true, Bool.not_false] at hp14
    refine RS_q_no retB_noPanic rfl rfl rfl ⟨_, rfl, hq14⟩ rfl ?_
    refine RS_q_no retB_noPanic rfl rfl rfl ⟨_, rfl, hq14⟩ rfl ?_
    refine RS_q_no retB_noPanic rfl rfl rfl ⟨_, rfl, hq14⟩ rfl ?_
    refine RS_q_no retB_noPanic rfl rfl rfl ⟨_, rfl, hq14⟩ rfl ?_
    refine RS_q_no retB_noPanic rfl rfl rfl ⟨_, rfl, hq14⟩ rfl ?_
    refine RS_q_no retB_noPanic rfl rfl rfl ⟨_, rfl, hq14⟩ rfl ?_
    refine RS_q_no retB_noPanic rfl rfl rfl ⟨_, rfl, hq14⟩ rfl ?_
    refine RS_q_no retB_noPanic rfl rfl rfl ⟨_, rfl, hq14⟩ rfl ?_
    refine RS_q_no retB_noPanic rfl rfl rfl ⟨_, rfl, hq14⟩ rfl ?_
    refine RS_q_no retB_noPanic rfl rfl rfl ⟨_, rfl, hq14⟩ rfl ?_
    refine RS_q_no retB_noPanic rfl rfl rfl ⟨_, rfl, hq14⟩ rfl ?_
    refine RS_e (RE_no rfl rfl rfl ⟨_, rfl, hq14⟩ rfl ?_)
    refine RS_q_no retB_noPanic rfl rfl rfl ⟨_, rfl, hq14⟩ rfl ?_
    refine RM rfl (ev_pick_t rfl hq14 rfl) ?_
    refine RS_nil ?_
  case' y83 =>
    have hp14 := hq14
    try simp only [decide_eq_true_eq, decide_eq_false_iff_not, Bool.not_true, Bool.not_false] at hp14
    refine RS_m_yes retB_noPanic rfl rfl rfl rfl ⟨_, rfl, hq14⟩ rfl (ev_move rfl) ?_
    (first | refine RS_m_yes retB_noPanic rfl rfl rfl rfl ⟨_, rfl, hq14⟩ rfl (ev_nilCheck rfl) ?_ | refine RS_m_yes retB_noPanic rfl rfl rfl rfl ⟨_, rfl, hq14⟩ rfl (ev_nilCheckF (by simp) rfl) ?_)
    refine RS_m_yes retB_noPanic rfl rfl rfl rfl ⟨_, rfl, hq14⟩ rfl (ev_fieldAddr rfl) ?_
    refine RS_q_yes retB_noPanic rfl rfl rfl rfl ⟨_, rfl, hq14⟩ rfl (ev_load rfl LdA) ?_
    refine RS_m_yes retB_noPanic rfl rfl rfl rfl ⟨_, rfl, hq14⟩ rfl (ev_move rfl) ?_
    (first | refine RS_m_yes retB_noPanic rfl rfl rfl rfl ⟨_, rfl, hq14⟩ rfl (ev_nilCheck rfl) ?_ | refine RS_m_yes retB_noPanic rfl rfl rfl rfl ⟨_, rfl, hq14⟩ rfl (ev_nilCheckF (by simp) rfl) ?_)
    refine RS_m_yes retB_noPanic rfl rfl rfl rfl ⟨_, rfl, hq14⟩ rfl (ev_fieldAddr rfl) ?_
    refine RS_q_yes retB_noPanic rfl rfl rfl rfl ⟨_, rfl, hq14⟩ rfl (ev_load rfl LdA) ?_
    (first | refine RS_m_yes retB_noPanic rfl rfl rfl rfl ⟨_, rfl, hq14⟩ rfl (ev_nilCheck rfl) ?_ | refine RS_m_yes retB_noPanic rfl rfl rfl rfl ⟨_, rfl, hq14⟩ rfl (ev_nilCheckF (by simp) rfl) ?_)
    refine RS_m_yes retB_noPanic rfl rfl rfl rfl ⟨_, rfl, hq14⟩ rfl (ev_fieldAddr rfl) ?_
    refine RS_q_yes retB_noPanic rfl rfl rfl rfl ⟨_, rfl, hq14⟩ rfl (ev_load rfl LdA) ?_
    refine RS_e (RE_eff_yes rfl rfl rfl ⟨_, rfl, hq14⟩ rfl (eff_call rfl (size_ctr ph hi _ hh.skip)) ?_); rintro _ _ ⟨rfl, rfl⟩; refine ⟨_, fun _ s => s, ExA, ?_⟩
    refine RS_m_yes retB_noPanic rfl rfl rfl rfl ⟨_, rfl, hq14⟩ rfl (ev_geq rfl rfl) ?_
    refine RM rfl (ev_pick_f rfl hq14 rfl) ?_
    refine RS_nil ?_
  · refine G_condB rfl (fun h2 => ?_) (fun h2 => ?_)
    · refine G_seq ?_
      refine GN ?_
      refine G_draw (.q 0 (.q 1 (.q 2 (.q 3 (.q 4 (.q 5 (.q 6 (.q 7 (.q 8 (.q 9 (.q 10 (.e 11 (.q 12 (.q 13 .nil)))))))))))))) (by kernel_rfl) (by kernel_rfl) ?_
      refine RM rfl (ev_move rfl) ?_
      (first | refine RM rfl (ev_nilCheck rfl) ?_ | refine RM rfl (ev_nilCheckF (by simp) rfl) ?_)
      refine RM rfl (ev_fieldAddr rfl) ?_
      refine RQ rfl (ev_load rfl LdA) ?_
      refine RM rfl (ev_move rfl) ?_
      (first | refine RM rfl (ev_nilCheck rfl) ?_ | refine RM rfl (ev_nilCheckF (by simp) rfl) ?_)
      refine RM rfl (ev_fieldAddr rfl) ?_
      refine RQ rfl (ev_load rfl LdA) ?_
      (first | refine RM rfl (ev_nilCheck rfl) ?_ | refine RM rfl (ev_nilCheckF (by simp) rfl) ?_)
      refine RM rfl (ev_fieldAddr rfl) ?_
      refine RQ rfl (ev_load rfl LdA) ?_
      refine RS_e (RE_eff rfl rfl rfl (eff_call rfl (size_ctr pl lo _ hl.skip)) ?_); rintro _ _ ⟨rfl, rfl⟩; refine ⟨_, fun _ s => s, ExA, ?_⟩
      (first | refine RM rfl (ev_lssN rfl rfl) ?_ | refine RM rfl (ev_lss rfl rfl) ?_)
      refine RM rfl (ev_assign rfl) ?_
      refine RS_nil ?_
      refine G_ret rfl (.tmp rfl .nil) EnA ⟨?_, rfl⟩
      simp at h2
      simp only [retv, takesB, List.getElem?_eq_getElem (show i < lo.es.length by omega), List.getElem?_eq_none (show hi.es.length ≤ k by omega)]
      simp; omega
    · simp at h2
      have hi1 : i < lo.es.length := by omega
      have hk1 : k < hi.es.length := by omega
      refine G_skip ?_
      refine G_seq ?_
      cases lo with
      | nil => simp [Arr.es] at hi1
      | node es l1 l2 =>
        cases hi with
        | nil => simp [Arr.es] at hk1
        | node fs m1 m2 =>
          simp only [Arr.es] at hi1 hk1 ⊢
          obtain ⟨lb, lA, lc, _, _, rfl, x1, x2, x3, x4, _⟩ := hl
          obtain ⟨hb, hA, hc, _, _, rfl, y1, y2, y3, y4, _⟩ := hh
          have x5 := x1.at_ (i := 0) rfl
          have y5 := y1.at_ (i := 0) rfl
          obtain ⟨lbb, lo', rfl, x6⟩ := x2.at_ (by omega)
          obtain ⟨hbb, ho', rfl, y6⟩ := y2.at_ (by omega)
          have gi : es[i]? = some es[i] := List.getElem?_eq_getElem hi1
          have gk : fs[k]? = some fs[k] := List.getElem?_eq_getElem hk1
          have x7 := x6 _ _ gi
          have y7 := y6 _ _ gk
          generalize es[i] = e at *
          generalize fs[k] = f at *
          have x8 : LdN L lbb (lo' + i * 5) 3 [.int .i64 e.p.id, .int .i64 e.p.x, .int .i64 e.p.y] := x7.part 3 rfl
          have y8 : LdN L hbb (ho' + k * 5) 3 [.int .i64 f.p.id, .int .i64 f.p.x, .int .i64 f.p.y] := y7.part 3 rfl
          refine GN ?_
          refine G_draw (.q 0 (.q 1 (.q 2 (.q 3 (.q 4 (.q 5 (.q 6 (.q 7 (.q 8 (.q 9 (.q 10 (.q 11 (.q 12 (.q 13 (.q 14 (.q 15 (.q 16 (.q 17 (.q 18 (.q 19 (.q 20 (.q 21 (.q 22 (.q 23 (.q 24 (.q 25 (.q 26 (.q 27 (.q 28 (.q 29 (.q 30 (.q 31 (.q 32 (.q 33 (.e 34 (.q 35 (.q 36 .nil))))))))))))))))))))))))))))))))))))) (by kernel_rfl) (by kernel_rfl) ?_
          refine RM rfl (ev_move rfl) ?_
          (first | refine RM rfl (ev_nilCheck rfl) ?_ | refine RM rfl (ev_nilCheckF (by simp) rfl) ?_)
          refine RM rfl (ev_fieldAddr rfl) ?_
          refine RQ rfl (ev_load rfl LdA) ?_
          (first | refine RM rfl (ev_nilCheck rfl) ?_ | refine RM rfl (ev_nilCheckF (by simp) rfl) ?_)
          refine RM rfl (ev_fieldAddr rfl) ?_
          refine RQ rfl (ev_load rfl LdA) ?_
          (first | refine RM rfl (ev_nilCheck rfl) ?_ | refine RM rfl (ev_nilCheckF (by simp) rfl) ?_)
          refine RM rfl (ev_fieldAddr rfl) ?_
          refine RQ rfl (ev_load rfl LdA) ?_
          refine RM rfl (ev_move rfl) ?_
          (first | refine RM rfl (ev_nilCheck rfl) ?_ | refine RM rfl (ev_nilCheckF (by simp) rfl) ?_)
          refine RM rfl (ev_fieldAddr rfl) ?_
          refine RQ rfl (ev_load rfl LdA) ?_
          (first | refine RM rfl (ev_indexAddrN rfl rfl NgA) ?_ | refine RM rfl (ev_indexAddr rfl rfl NgA NgA) ?_)
          refine RM rfl (ev_fieldAddr rfl) ?_
          refine RQ rfl (ev_loadN rfl LnA) ?_
          refine RM rfl (ev_move rfl) ?_
          (first | refine RM rfl (ev_nilCheck rfl) ?_ | refine RM rfl (ev_nilCheckF (by simp) rfl) ?_)
          refine RM rfl (ev_fieldAddr rfl) ?_
          refine RQ rfl (ev_load rfl LdA) ?_
          (first | refine RM rfl (ev_nilCheck rfl) ?_ | refine RM rfl (ev_nilCheckF (by simp) rfl) ?_)
          refine RM rfl (ev_fieldAddr rfl) ?_
          refine RQ rfl (ev_load rfl LdA) ?_
          (first | refine RM rfl (ev_nilCheck rfl) ?_ | refine RM rfl (ev_nilCheckF (by simp) rfl) ?_)
          refine RM rfl (ev_fieldAddr rfl) ?_
          refine RQ rfl (ev_load rfl LdA) ?_
          refine RM rfl (ev_move rfl) ?_
          (first | refine RM rfl (ev_nilCheck rfl) ?_ | refine RM rfl (ev_nilCheckF (by simp) rfl) ?_)
          refine RM rfl (ev_fieldAddr rfl) ?_
          refine RQ rfl (ev_load rfl LdA) ?_
          (first | refine RM rfl (ev_indexAddrN rfl rfl NgA) ?_ | refine RM rfl (ev_indexAddr rfl rfl NgA NgA) ?_)
          refine RM rfl (ev_fieldAddr rfl) ?_
          refine RQ rfl (ev_loadN rfl LnA) ?_
          refine RS_e (RE_eff rfl rfl rfl (eff_call rfl (up_ctr e.p f.p _)) ?_); rintro _ _ ⟨rfl, rfl⟩; refine ⟨_, fun _ s => s, ExA, ?_⟩
          refine RM rfl (ev_leq rfl rfl) ?_
          refine RM rfl (ev_assign rfl) ?_
          refine RS_nil ?_
          refine G_ret rfl (.tmp rfl .nil) EnA ⟨?_, rfl⟩
          simp [retv, takesB, gi, gk]
  · refine G_cond_t rfl rfl ?_
    refine G_seq ?_
    refine GN ?_
    refine G_draw (.q 0 (.q 1 (.q 2 (.q 3 (.q 4 (.q 5 (.q 6 (.q 7 (.q 8 (.q 9 (.q 10 (.e 11 (.q 12 (.q 13 .nil)))))))))))))) (by kernel_rfl) (by kernel_rfl) ?_
    refine RM rfl (ev_move rfl) ?_
    (first | refine RM rfl (ev_nilCheck rfl) ?_ | refine RM rfl (ev_nilCheckF (by simp) rfl) ?_)
    refine RM rfl (ev_fieldAddr rfl) ?_
    refine RQ rfl (ev_load rfl LdA) ?_
    refine RM rfl (ev_move rfl) ?_
    (first | refine RM rfl (ev_nilCheck rfl) ?_ | refine RM rfl (ev_nilCheckF (by simp) rfl) ?_)
    refine RM rfl (ev_fieldAddr rfl) ?_
    refine RQ rfl (ev_load rfl LdA) ?_
    (first | refine RM rfl (ev_nilCheck rfl) ?_ | refine RM rfl (ev_nilCheckF (by simp) rfl) ?_)
    refine RM rfl (ev_fieldAddr rfl) ?_
    refine RQ rfl (ev_load rfl LdA) ?_
    refine RS_e (RE_eff rfl rfl rfl (eff_call rfl (size_ctr pl lo _ hl.skip)) ?_); rintro _ _ ⟨rfl, rfl⟩; refine ⟨_, fun _ s => s, ExA, ?_⟩
    (first | refine RM rfl (ev_lssN rfl rfl) ?_ | refine RM rfl (ev_lss rfl rfl) ?_)
    refine RM rfl (ev_assign rfl) ?_
    refine RS_nil ?_
    refine G_ret rfl (.tmp rfl .nil) EnA ⟨?_, rfl⟩
    simp at hp14
    simp only [retv, takesB, List.getElem?_eq_none (show lo.es.length ≤ i by omega)]
    simp; omega

theorem mrg_step_left {i k : Nat} {l m : List Ent} {a : Ent} (hi : l[i]? = some a) (ht : takesB l m i k = true) :
    mrg i k ((l.map (·.p)).drop i) ((m.map (·.p)).drop k) = ⟨a.p, i, k⟩ :: mrg ((i + 1 : Nat) : Int) k ((l.map (·.p)).drop (i + 1)) ((m.map (·.p)).drop k) := by
  obtain ⟨h1, rfl⟩ := List.getElem?_eq_some_iff.1 hi
  rw [List.drop_eq_getElem_cons (show i < (l.map (·.p)).length by simpa using h1)]
  rw [mrg_left, List.getElem_map, Int.natCast_add]; rfl
  intro b m' hb
  have h2 : ((m.map (·.p)).drop k)[0]? = some b := by rw [hb]; rfl
  simp at h2
  obtain ⟨x, hx, rfl⟩ := h2
  unfold takesB at ht
  rw [hi, hx] at ht
  rw [List.getElem_map]
  simpa using ht
theorem mrg_step_right {i k : Nat} {l m : List Ent} {b : Ent} (hk : m[k]? = some b) (ht : takesB l m i k = false) :
    mrg i k ((l.map (·.p)).drop i) ((m.map (·.p)).drop k) = ⟨b.p, i, k⟩ :: mrg i ((k + 1 : Nat) : Int) ((l.map (·.p)).drop i) ((m.map (·.p)).drop (k + 1)) := by
  obtain ⟨h1, rfl⟩ := List.getElem?_eq_some_iff.1 hk
  rw [List.drop_eq_getElem_cons (l := m.map (·.p)) (show k < (m.map (·.p)).length by simpa using h1)]
  rw [mrg_right, List.getElem_map, Int.natCast_add]; rfl
  intro a l' ha
  have h2 : ((l.map (·.p)).drop i)[0]? = some a := by rw [ha]; rfl
  simp at h2
  obtain ⟨x, hx, rfl⟩ := h2
  unfold takesB at ht
  rw [hk, hx] at ht
  rw [List.getElem_map]
  simpa using ht
/-- One entry, or none. -/
theorem step_ctr (jb ab i k c : Nat) (A pl ph : Option Addr) (n : Nat) (lo hi : Arr) (ds : List Ent) (L : List HP) (hl : ArrIn L pl lo) (hh : ArrIn L ph hi) (hn : n ≤ 1000000) (hi1 : i ≤ lo.es.length) (hk1 : k ≤ hi.es.length) (hz1 : lo.es.length ≤ 1000000) (hz2 : hi.es.length ≤ 1000000) :
    Ctr Tryz.prog 142 #[.pointer (some ⟨jb, 0, none⟩)]
      (blk jb 169 [.pointer (some ⟨ab, 0, none⟩), .int .i64 (i : Nat), .int .i64 (k : Nat)] :: blk ab 152 [.slice A n c, .pointer pl, .pointer ph] :: own 154 5 A n c (flat ds) :: L) fun v L' =>
      (i = lo.es.length ∧ k = hi.es.length ∧ v = .bool false ∧ L' = (blk jb 169 [.pointer (some ⟨ab, 0, none⟩), .int .i64 (i : Nat), .int .i64 (k : Nat)] :: blk ab 152 [.slice A n c, .pointer pl, .pointer ph] :: own 154 5 A n c (flat ds) :: L)) ∨
      ∃ e i' k' A' c', v = .bool true ∧ i' + k' = i + k + 1 ∧ i' ≤ lo.es.length ∧ k' ≤ hi.es.length ∧ n + 1 ≤ c' ∧ c' ≤ maxLen ∧ (0 < n + 1 → ∃ b, A' = some ⟨b, 0, none⟩) ∧ mrg i k (lo.pts.drop i) (hi.pts.drop k) = e :: mrg (i' : Nat) (k' : Nat) (lo.pts.drop i') (hi.pts.drop k') ∧
        L' = (blk jb 169 [.pointer (some ⟨ab, 0, none⟩), .int .i64 (i' : Nat), .int .i64 (k' : Nat)] :: blk ab 152 [.slice A' (n + 1) c', .pointer pl, .pointer ph] :: own 154 5 A' (n + 1) c' (flat (ds ++ [e])) :: L) := by
  refine Ctr_of (fn := Tryz.f142) (n := 96) Tryz.func142 rfl rfl rfl ?_
  intro g F
  refine GN ?_
  refine G_region ?_
  refine GQ (ev_assign rfl) ?_
  refine GO_nil ?_
  refine GN ?_
  refine G_draw (.q 0 (.q 1 (.q 2 (.q 3 (.q 4 (.q 5 (.q 6 (.q 7 (.q 8 (.e 9 (.e 10 .nil))))))))))) (by kernel_rfl) (by kernel_rfl) ?_
  refine RM rfl (ev_move rfl) ?_
  (first | refine RM rfl (ev_nilCheck rfl) ?_ | refine RM rfl (ev_nilCheckF (by simp) rfl) ?_)
  refine RM rfl (ev_fieldAddr rfl) ?_
  refine RQ rfl (ev_load rfl LdA) ?_
  refine RM rfl (ev_move rfl) ?_
  (first | refine RM rfl (ev_nilCheck rfl) ?_ | refine RM rfl (ev_nilCheckF (by simp) rfl) ?_)
  refine RM rfl (ev_fieldAddr rfl) ?_
  refine RQ rfl (ev_load rfl LdA) ?_
  refine RM rfl (ev_build rfl rfl) ?_
  refine RS_e (RE_eff rfl rfl rfl eff_alloc ?_); rintro _ _ ⟨b3, rfl, rfl⟩; refine ⟨_, fun _ s => s, ExA, ?_⟩
  refine RS_e (RE_last (by kernel_rfl) rfl rfl rfl (eff_storeN rfl rfl rfl rfl UpA) ?_); rintro _ _ ⟨rfl, rfl⟩
  refine GN ?_
  refine G_region ?_
  refine GQ (ev_move rfl) ?_
  refine GE (eff_call rfl (takes_ctr jb ab i k c A pl ph n lo hi _ LnA LnA (by repeat' first | assumption | apply ArrIn.skip) (by repeat' first | assumption | apply ArrIn.skip))) ?_; rintro _ _ ⟨rfl, rfl⟩
  refine GQ (ev_assign rfl) ?_
  refine GO_nil ?_
  refine GN ?_
  refine G_condB rfl (fun h1 => ?_) (fun h1 => ?_)
  · -- one of the low array
    have hlt : i < lo.es.length := by
      rcases Nat.lt_or_ge i lo.es.length with h | h
      · exact h
      · rw [takesB, List.getElem?_eq_none h] at h1; cases h1
    cases lo with
    | nil => simp [Arr.es] at hlt
    | node es l1 l2 =>
      have hl' := hl
      obtain ⟨lb, lA, lc, pl1, pl2, rfl, x1, x2, x3, x4, _⟩ := hl
      simp only [Arr.es] at hlt
      have x5 := x1.at_ (i := 0) rfl
      obtain ⟨lbb, lo', rfl, x6⟩ := x2.at_ (by omega)
      have gi : es[i]? = some es[i] := List.getElem?_eq_getElem hlt
      have hstep := mrg_step_left gi h1
      have x7 := x6 _ _ gi
      generalize es[i] = e at *
      have x8 : LdN L lbb (lo' + i * 5) 3 [.int .i64 e.p.id, .int .i64 e.p.x, .int .i64 e.p.y] := x7.part 3 rfl
      refine GN ?_
      refine G_draw (.q 0 (.q 1 (.q 2 (.q 3 (.q 4 (.q 5 (.q 6 (.q 7 (.q 8 (.q 9 (.q 10 (.q 11 (.q 12 (.q 13 (.q 14 (.q 15 (.q 16 (.q 17 (.e 18 .nil))))))))))))))))))) (by kernel_rfl) (by kernel_rfl) ?_
      refine RM rfl (ev_move rfl) ?_
      (first | refine RM rfl (ev_nilCheck rfl) ?_ | refine RM rfl (ev_nilCheckF (by simp) rfl) ?_)
      refine RM rfl (ev_fieldAddr rfl) ?_
      refine RQ rfl (ev_load rfl LdA) ?_
      (first | refine RM rfl (ev_nilCheck rfl) ?_ | refine RM rfl (ev_nilCheckF (by simp) rfl) ?_)
      refine RM rfl (ev_fieldAddr rfl) ?_
      refine RQ rfl (ev_load rfl LdA) ?_
      (first | refine RM rfl (ev_nilCheck rfl) ?_ | refine RM rfl (ev_nilCheckF (by simp) rfl) ?_)
      refine RM rfl (ev_fieldAddr rfl) ?_
      refine RQ rfl (ev_load rfl LdA) ?_
      refine RM rfl (ev_move rfl) ?_
      (first | refine RM rfl (ev_nilCheck rfl) ?_ | refine RM rfl (ev_nilCheckF (by simp) rfl) ?_)
      refine RM rfl (ev_fieldAddr rfl) ?_
      refine RQ rfl (ev_load rfl LdA) ?_
      (first | refine RM rfl (ev_indexAddrN rfl rfl NgA) ?_ | refine RM rfl (ev_indexAddr rfl rfl NgA NgA) ?_)
      refine RM rfl (ev_fieldAddr rfl) ?_
      refine RQ rfl (ev_loadN rfl LnA) ?_
      refine RM rfl (ev_fieldAddr rfl) ?_
      refine RS_e (RE_last (by kernel_rfl) rfl rfl rfl (eff_storeN rfl rfl rfl rfl UpA) ?_); rintro _ _ ⟨rfl, rfl⟩
      refine GN ?_
      refine G_region ?_
      refine GQ (ev_move rfl) ?_
      (first | refine GQ (ev_nilCheck rfl) ?_ | refine GQ (ev_nilCheckF (by simp) rfl) ?_)
      refine GQ (ev_fieldAddr rfl) ?_
      refine GQ (ev_load rfl LdA) ?_
      (first | refine GQ (ev_addN (q := 1) rfl rfl NgA) ?_ | refine GQ (ev_add rfl rfl NgA) ?_)
      (first | refine GQ (ev_nilCheck rfl) ?_ | refine GQ (ev_nilCheckF (by simp) rfl) ?_)
      refine GQ (ev_fieldAddr rfl) ?_
      refine GE (eff_store rfl rfl rfl UpA) ?_; rintro _ _ ⟨rfl, rfl⟩
      refine GO_nil ?_
      refine GN ?_
      refine G_drawE 4 (.q 0 (.q 1 (.q 2 (.q 3 (.q 4 (.q 5 (.q 6 (.q 7 (.q 8 (.q 9 (.q 10 (.q 11 (.e 12 (.e 13 (.q 14 (.q 15 (.e 16 .nil))))))))))))))))) (by kernel_rfl) (by kernel_rfl) ?_
      refine RM rfl (ev_move rfl) ?_
      (first | refine RM rfl (ev_nilCheck rfl) ?_ | refine RM rfl (ev_nilCheckF (by simp) rfl) ?_)
      refine RM rfl (ev_fieldAddr rfl) ?_
      refine RQ rfl (ev_load rfl LdA) ?_
      refine RM rfl (ev_move rfl) ?_
      (first | refine RM rfl (ev_nilCheck rfl) ?_ | refine RM rfl (ev_nilCheckF (by simp) rfl) ?_)
      refine RM rfl (ev_fieldAddr rfl) ?_
      refine RQ rfl (ev_load rfl LdA) ?_
      (first | refine RM rfl (ev_nilCheck rfl) ?_ | refine RM rfl (ev_nilCheckF (by simp) rfl) ?_)
      refine RM rfl (ev_fieldAddr rfl) ?_
      refine RQ rfl (ev_load rfl LdA) ?_
      refine RQ rfl (ev_loadN rfl LnA) ?_
      refine RS_e (RE_eff rfl rfl rfl (eff_buildSlice1 (by rfl) rfl rfl) ?_); rintro _ _ ⟨b92, rfl, rfl⟩; refine ⟨_, ExA, fun _ s => s, ?_⟩
      refine RS_e (RE_eff rfl rfl rfl (eff_append rfl rfl PkA (by repeat' first | exact Rc.blk rfl | assumption | apply Rc.skip) (one_all rfl) (by rfl) (by decide) NgA NgA) ?_); rintro _ _ ⟨A93, c93, rfl, hc93, hm93, hn93, rfl⟩; refine ⟨_, ExA, fun _ s => s, ?_⟩
      (first | refine RM rfl (ev_nilCheck rfl) ?_ | refine RM rfl (ev_nilCheckF (by simp) rfl) ?_)
      refine RM rfl (ev_fieldAddr rfl) ?_
      refine RS_e (RE_last (by kernel_rfl) rfl rfl rfl (eff_store rfl rfl rfl UpA) ?_); rintro _ _ ⟨rfl, rfl⟩
      refine GN ?_
      refine G_region ?_
      refine GQ (ev_assign rfl) ?_
      refine GO_nil ?_
      refine GN ?_
      refine G_ret (L' := blk jb 169 [.pointer (some ⟨ab, 0, none⟩), .int .i64 ((i + 1 : Nat) : Int), .int .i64 (k : Nat)] :: blk ab 152 [.slice A93 (n + 1) c93, .pointer (some ⟨lb, 0, none⟩), .pointer ph] :: own 154 5 A93 (n + 1) c93 (flat (ds ++ [⟨e.p, i, k⟩])) :: L) rfl (.tmp rfl .nil) ?_ (.inr ⟨⟨e.p, i, k⟩, i + 1, k, A93, c93, rfl, by omega, hlt, hk1, hc93, hm93, hn93, hstep, rfl⟩)
      rw [← flat_snoc]
      refine en_pick (.skip (.skip (.skip (.here)))) ?_
      refine en_pick (.skip (.skip (.skip (.here)))) ?_
      refine en_pick (.skip (.skip (.skip (.here)))) ?_
      refine en_pick (.here) ?_
      exact EnA
  · rcases Nat.lt_or_ge k hi.es.length with hlt | hge
    · cases hi with
      | nil => simp [Arr.es] at hlt
      | node es l1 l2 =>
        have hh' := hh
        obtain ⟨lb, lA, lc, pl1, pl2, rfl, x1, x2, x3, x4, _⟩ := hh
        simp only [Arr.es] at hlt
        have x5 := x1.at_ (i := 0) rfl
        obtain ⟨lbb, lo', rfl, x6⟩ := x2.at_ (by omega)
        have gi : es[k]? = some es[k] := List.getElem?_eq_getElem hlt
        have hstep := mrg_step_right gi h1
        have x7 := x6 _ _ gi
        have hc : k < (Arr.node es l1 l2).es.length := hlt
        generalize es[k] = e at *
        have x8 : LdN L lbb (lo' + k * 5) 3 [.int .i64 e.p.id, .int .i64 e.p.x, .int .i64 e.p.y] := x7.part 3 rfl
        refine GN ?_
        refine G_draw (.q 0 (.q 1 (.q 2 (.q 3 (.q 4 (.q 5 (.q 6 (.q 7 (.q 8 (.q 9 (.q 10 (.e 11 (.q 12 (.q 13 .nil)))))))))))))) (by kernel_rfl) (by kernel_rfl) ?_
        refine RM rfl (ev_move rfl) ?_
        (first | refine RM rfl (ev_nilCheck rfl) ?_ | refine RM rfl (ev_nilCheckF (by simp) rfl) ?_)
        refine RM rfl (ev_fieldAddr rfl) ?_
        refine RQ rfl (ev_load rfl LdA) ?_
        refine RM rfl (ev_move rfl) ?_
        (first | refine RM rfl (ev_nilCheck rfl) ?_ | refine RM rfl (ev_nilCheckF (by simp) rfl) ?_)
        refine RM rfl (ev_fieldAddr rfl) ?_
        refine RQ rfl (ev_load rfl LdA) ?_
        (first | refine RM rfl (ev_nilCheck rfl) ?_ | refine RM rfl (ev_nilCheckF (by simp) rfl) ?_)
        refine RM rfl (ev_fieldAddr rfl) ?_
        refine RQ rfl (ev_load rfl LdA) ?_
        refine RS_e (RE_eff rfl rfl rfl (eff_call rfl (size_ctr (some ⟨lb, 0, none⟩) (.node es l1 l2) _ (by repeat' first | assumption | apply ArrIn.skip))) ?_); rintro _ _ ⟨rfl, rfl⟩; refine ⟨_, fun _ s => s, ExA, ?_⟩
        (first | refine RM rfl (ev_lssN rfl rfl) ?_ | refine RM rfl (ev_lss rfl rfl) ?_)
        refine RM rfl (ev_assign rfl) ?_
        refine RS_nil ?_
        refine GN ?_
        refine G_cond_t rfl (decide_eq_true hc) ?_
        refine GN ?_
        refine G_draw (.q 0 (.q 1 (.q 2 (.q 3 (.q 4 (.q 5 (.q 6 (.q 7 (.q 8 (.q 9 (.q 10 (.q 11 (.q 12 (.q 13 (.q 14 (.q 15 (.q 16 (.q 17 (.e 18 .nil))))))))))))))))))) (by kernel_rfl) (by kernel_rfl) ?_
        refine RM rfl (ev_move rfl) ?_
        (first | refine RM rfl (ev_nilCheck rfl) ?_ | refine RM rfl (ev_nilCheckF (by simp) rfl) ?_)
        refine RM rfl (ev_fieldAddr rfl) ?_
        refine RQ rfl (ev_load rfl LdA) ?_
        (first | refine RM rfl (ev_nilCheck rfl) ?_ | refine RM rfl (ev_nilCheckF (by simp) rfl) ?_)
        refine RM rfl (ev_fieldAddr rfl) ?_
        refine RQ rfl (ev_load rfl LdA) ?_
        (first | refine RM rfl (ev_nilCheck rfl) ?_ | refine RM rfl (ev_nilCheckF (by simp) rfl) ?_)
        refine RM rfl (ev_fieldAddr rfl) ?_
        refine RQ rfl (ev_load rfl LdA) ?_
        refine RM rfl (ev_move rfl) ?_
        (first | refine RM rfl (ev_nilCheck rfl) ?_ | refine RM rfl (ev_nilCheckF (by simp) rfl) ?_)
        refine RM rfl (ev_fieldAddr rfl) ?_
        refine RQ rfl (ev_load rfl LdA) ?_
        (first | refine RM rfl (ev_indexAddrN rfl rfl NgA) ?_ | refine RM rfl (ev_indexAddr rfl rfl NgA NgA) ?_)
        refine RM rfl (ev_fieldAddr rfl) ?_
        refine RQ rfl (ev_loadN rfl LnA) ?_
        refine RM rfl (ev_fieldAddr rfl) ?_
        refine RS_e (RE_last (by kernel_rfl) rfl rfl rfl (eff_storeN rfl rfl rfl rfl UpA) ?_); rintro _ _ ⟨rfl, rfl⟩
        refine GN ?_
        refine G_region ?_
        refine GQ (ev_move rfl) ?_
        (first | refine GQ (ev_nilCheck rfl) ?_ | refine GQ (ev_nilCheckF (by simp) rfl) ?_)
        refine GQ (ev_fieldAddr rfl) ?_
        refine GQ (ev_load rfl LdA) ?_
        (first | refine GQ (ev_addN (q := 1) rfl rfl NgA) ?_ | refine GQ (ev_add rfl rfl NgA) ?_)
        (first | refine GQ (ev_nilCheck rfl) ?_ | refine GQ (ev_nilCheckF (by simp) rfl) ?_)
        refine GQ (ev_fieldAddr rfl) ?_
        refine GE (eff_store rfl rfl rfl UpA) ?_; rintro _ _ ⟨rfl, rfl⟩
        refine GO_nil ?_
        refine GN ?_
        refine G_drawE 4 (.q 0 (.q 1 (.q 2 (.q 3 (.q 4 (.q 5 (.q 6 (.q 7 (.q 8 (.q 9 (.q 10 (.q 11 (.e 12 (.e 13 (.q 14 (.q 15 (.e 16 .nil))))))))))))))))) (by kernel_rfl) (by kernel_rfl) ?_
        refine RM rfl (ev_move rfl) ?_
        (first | refine RM rfl (ev_nilCheck rfl) ?_ | refine RM rfl (ev_nilCheckF (by simp) rfl) ?_)
        refine RM rfl (ev_fieldAddr rfl) ?_
        refine RQ rfl (ev_load rfl LdA) ?_
        refine RM rfl (ev_move rfl) ?_
        (first | refine RM rfl (ev_nilCheck rfl) ?_ | refine RM rfl (ev_nilCheckF (by simp) rfl) ?_)
        refine RM rfl (ev_fieldAddr rfl) ?_
        refine RQ rfl (ev_load rfl LdA) ?_
        (first | refine RM rfl (ev_nilCheck rfl) ?_ | refine RM rfl (ev_nilCheckF (by simp) rfl) ?_)
        refine RM rfl (ev_fieldAddr rfl) ?_
        refine RQ rfl (ev_load rfl LdA) ?_
        refine RQ rfl (ev_loadN rfl LnA) ?_
        refine RS_e (RE_eff rfl rfl rfl (eff_buildSlice1 (by rfl) rfl rfl) ?_); rintro _ _ ⟨b92, rfl, rfl⟩; refine ⟨_, ExA, fun _ s => s, ?_⟩
        refine RS_e (RE_eff rfl rfl rfl (eff_append rfl rfl PkA (by repeat' first | exact Rc.blk rfl | assumption | apply Rc.skip) (one_all rfl) (by rfl) (by decide) NgA NgA) ?_); rintro _ _ ⟨A93, c93, rfl, hc93, hm93, hn93, rfl⟩; refine ⟨_, ExA, fun _ s => s, ?_⟩
        (first | refine RM rfl (ev_nilCheck rfl) ?_ | refine RM rfl (ev_nilCheckF (by simp) rfl) ?_)
        refine RM rfl (ev_fieldAddr rfl) ?_
        refine RS_e (RE_last (by kernel_rfl) rfl rfl rfl (eff_store rfl rfl rfl UpA) ?_); rintro _ _ ⟨rfl, rfl⟩
        refine GN ?_
        refine G_region ?_
        refine GQ (ev_assign rfl) ?_
        refine GO_nil ?_
        refine GN ?_
        refine G_ret (L' := blk jb 169 [.pointer (some ⟨ab, 0, none⟩), .int .i64 (i : Nat), .int .i64 ((k + 1 : Nat) : Int)] :: blk ab 152 [.slice A93 (n + 1) c93, .pointer pl, .pointer (some ⟨lb, 0, none⟩)] :: own 154 5 A93 (n + 1) c93 (flat (ds ++ [⟨e.p, i, k⟩])) :: L) rfl (.tmp rfl .nil) ?_ (.inr ⟨⟨e.p, i, k⟩, i, k + 1, A93, c93, rfl, by omega, hi1, hlt, hc93, hm93, hn93, hstep, rfl⟩)
        rw [← flat_snoc]
        refine en_pick (.skip (.skip (.skip (.here)))) ?_
        refine en_pick (.skip (.skip (.skip (.here)))) ?_
        refine en_pick (.skip (.skip (.skip (.here)))) ?_
        refine en_pick (.here) ?_
        exact EnA
    · have e1 : i = lo.es.length := by
        rcases Nat.lt_or_ge i lo.es.length with h | h
        · rw [takesB, List.getElem?_eq_getElem h, List.getElem?_eq_none hge] at h1; cases h1
        · omega
      have e2 : k = hi.es.length := by omega
      have hc : ¬ k < hi.es.length := by omega
      refine GN ?_
      refine G_draw (.q 0 (.q 1 (.q 2 (.q 3 (.q 4 (.q 5 (.q 6 (.q 7 (.q 8 (.q 9 (.q 10 (.e 11 (.q 12 (.q 13 .nil)))))))))))))) (by kernel_rfl) (by kernel_rfl) ?_
      refine RM rfl (ev_move rfl) ?_
      (first | refine RM rfl (ev_nilCheck rfl) ?_ | refine RM rfl (ev_nilCheckF (by simp) rfl) ?_)
      refine RM rfl (ev_fieldAddr rfl) ?_
      refine RQ rfl (ev_load rfl LdA) ?_
      refine RM rfl (ev_move rfl) ?_
      (first | refine RM rfl (ev_nilCheck rfl) ?_ | refine RM rfl (ev_nilCheckF (by simp) rfl) ?_)
      refine RM rfl (ev_fieldAddr rfl) ?_
      refine RQ rfl (ev_load rfl LdA) ?_
      (first | refine RM rfl (ev_nilCheck rfl) ?_ | refine RM rfl (ev_nilCheckF (by simp) rfl) ?_)
      refine RM rfl (ev_fieldAddr rfl) ?_
      refine RQ rfl (ev_load rfl LdA) ?_
      refine RS_e (RE_eff rfl rfl rfl (eff_call rfl (size_ctr ph hi _ (by repeat' first | assumption | apply ArrIn.skip))) ?_); rintro _ _ ⟨rfl, rfl⟩; refine ⟨_, fun _ s => s, ExA, ?_⟩
      (first | refine RM rfl (ev_lssN rfl rfl) ?_ | refine RM rfl (ev_lss rfl rfl) ?_)
      refine RM rfl (ev_assign rfl) ?_
      refine RS_nil ?_
      refine GN ?_
      refine G_cond_f rfl (decide_eq_false hc) ?_
      refine GN ?_
      refine G_region ?_
      refine GQ (ev_assign rfl) ?_
      refine GO_nil ?_
      refine GN ?_
      refine G_ret rfl (.tmp rfl .nil) EnA (.inl ⟨e1, e2, rfl, rfl⟩)
end Go.Proofs.YtkoncepjfgnjlaaGreat
/- Arrays that lead into one another: making them. -/
namespace Go.Proofs.YtkoncepjfgnjlaaGreat
attribute [local irreducible] sat
set_option linter.unusedVariables false
set_option linter.unusedSimpArgs false
set_option maxRecDepth 100000

theorem Leaf_ctr (p : Pt) (L : List HP) : Ctr Tryz.prog 119 #[.agg #[.int .i64 p.id, .int .i64 p.x, .int .i64 p.y]] L fun v L' => ∃ q N, v = .pointer q ∧ L' = N ++ L ∧ ArrIn (N ++ L) q (leaf p) := by
  refine Ctr_of (fn := Tryz.f119) (n := 8) Tryz.func119 rfl rfl rfl ?_
  intro g F
  refine GN ?_
  refine G_region ?_
  refine GE (eff_box rfl) ?_; rintro _ _ ⟨b1, rfl, rfl⟩
  refine GQ (ev_assign rfl) ?_
  refine GO_nil ?_
  refine GN ?_
  refine G_region ?_
  refine GQ (ev_loadN rfl LnA) ?_
  refine GQ (ev_build rfl rfl) ?_
  refine GE (eff_buildSlice1 (by rfl) rfl rfl) ?_; rintro _ _ ⟨b5, rfl, rfl⟩
  refine GQ (ev_build rfl rfl) ?_
  refine GE (eff_box rfl) ?_; rintro _ _ ⟨b7, rfl, rfl⟩
  refine GQ (ev_assign rfl) ?_
  refine GO_nil ?_
  refine GN ?_
  refine G_ret (L' := [blk b7 152 [.slice (some ⟨b5, 0, none⟩) 1 1, .pointer none, .pointer none], blk b5 154 (Enc.enc (⟨p, 0, 0⟩ : Ent))] ++ L) rfl (.tmp rfl .nil) ?_ ⟨_, _, rfl, rfl, ?_⟩
  · refine en_pick (.skip (.skip (.skip (.here)))) ?_
    refine en_pick (.here) ?_
    refine en_pick (.here) ?_
    exact EnA
  · refine ⟨b7, some ⟨b5, 0, none⟩, 1, none, none, rfl, LdN.blk rfl, ?_, Nat.le_refl _, by simp [maxLen], rfl, rfl⟩
    refine Rc.skip (Rc.blk rfl)
theorem Join_ctr (pl ph : Option Addr) (lo hi : Arr) (L : List HP) (hl : ArrIn L pl lo) (hh : ArrIn L ph hi) (h1 : lo.es.length ≤ 100000) (h2 : hi.es.length ≤ 100000) : Ctr Tryz.prog 120 #[.pointer pl, .pointer ph] L fun v L' => ∃ q N, v = .pointer q ∧ L' = N ++ L ∧ ArrIn (N ++ L) q (join lo hi) := by
  by_cases hn : lo = .nil ∧ hi = .nil
  · obtain ⟨rfl, rfl⟩ := hn
    cases hl
    cases hh
    refine Ctr_of (fn := Tryz.f120) (n := 24) Tryz.func120 rfl rfl rfl ?_
    intro g F
    refine GN ?_
    refine G_region ?_
    refine GQ (ev_assign rfl) ?_
    refine GO_nil ?_
    refine GN ?_
    refine G_region ?_
    refine GQ (ev_move rfl) ?_
    (first | refine GQ (ev_eqlNil rfl rfl) ?_ | refine GQ (ev_eqlPtr rfl rfl) ?_)
    refine GQ (ev_move rfl) ?_
    refine GO_yes rfl rfl rfl rfl ?_
    refine GQ (ev_move rfl) ?_
    refine GO_yes rfl rfl rfl rfl ?_
    (first | refine GQ (ev_eqlNil rfl rfl) ?_ | refine GQ (ev_eqlPtr rfl rfl) ?_)
    refine GQ (ev_pick_t rfl rfl rfl) ?_
    refine GO_nil ?_
    refine GN ?_
    refine G_cond_t rfl rfl ?_
    refine GN ?_
    refine G_region ?_
    refine GQ (ev_assign rfl) ?_
    refine GO_nil ?_
    refine GN ?_
    refine G_ret (L' := [] ++ L) rfl (.tmp rfl .nil) EnA ⟨_, _, rfl, rfl, rfl⟩
  · have hj : join lo hi = .node (mrg 0 0 lo.pts hi.pts) lo hi := by cases lo <;> cases hi <;> first | rfl | exact absurd ⟨rfl, rfl⟩ hn
    have hp : (pl.isNone && ph.isNone) = false := by
      cases lo with
      | node es l1 l2 => obtain ⟨b, A, c, q1, q2, rfl, _⟩ := hl; rfl
      | nil =>
        cases hi with
        | node es l1 l2 => obtain ⟨b, A, c, q1, q2, rfl, _⟩ := hh; cases pl <;> rfl
        | nil => exact absurd ⟨rfl, rfl⟩ hn
    have l1 : lo.pts.length = lo.es.length := List.length_map ..
    have l2 : hi.pts.length = hi.es.length := List.length_map ..
    refine Ctr_of (fn := Tryz.f120) (n := 24) Tryz.func120 rfl rfl rfl ?_
    intro g F
    refine GN ?_
    refine G_region ?_
    refine GQ (ev_assign rfl) ?_
    refine GO_nil ?_
    refine GN ?_
    refine G_region ?_
    refine GQ (ev_move rfl) ?_
    (first | refine GQ (ev_eqlNil rfl rfl) ?_ | refine GQ (ev_eqlPtr rfl rfl) ?_)
    refine GQ (ev_move rfl) ?_
    refine GO_guard rfl rfl rfl (fun hq3 => ?y84) (fun hq3 => ?n84)
    case' n84 =>
      have hp3 := hq3
      try simp only [decide_eq_true_eq, decide_eq_false_iff_not, Bool.not_true, Bool.not_false] at hp3
      refine GO_no rfl rfl rfl hq3 ?_
      refine GQ (ev_pick_f rfl hq3 rfl) ?_
      refine GO_nil ?_
    case' y84 =>
      have hp3 := hq3
      try simp only [decide_eq_true_eq, decide_eq_false_iff_not, Bool.not_true, Bool.not_false] at hp3
      refine GQ (ev_move rfl) ?_
      refine GO_yes rfl rfl rfl hq3 ?_
      (first | refine GQ (ev_eqlNil rfl rfl) ?_ | refine GQ (ev_eqlPtr rfl rfl) ?_)
      refine GQ (ev_pick_t rfl hq3 rfl) ?_
      refine GO_nil ?_
    refine GN ?_
    refine G_cond_f rfl (by simpa [hq3] using hp) ?_
    rotate_left
    refine GN ?_
    refine G_cond_f rfl rfl ?_
    all_goals
      refine GN ?_
      refine G_region ?_
      refine GQ (ev_move rfl) ?_
      refine GQ (ev_move rfl) ?_
      refine GQ (ev_build rfl rfl) ?_
      refine GE (eff_box rfl) ?_; rintro _ _ ⟨b15, rfl, rfl⟩
      refine GQ (ev_build rfl rfl) ?_
      refine GE (eff_box rfl) ?_; rintro _ _ ⟨b17, rfl, rfl⟩
      refine GQ (ev_assign rfl) ?_
      refine GO_nil ?_
      refine GN ?_
      refine G_heap (own.nil_ 154 5) ?_
      refine G_loop (ι := Nat × Nat × Option Addr × Nat × List Ent) (fun x => [(5, .pointer (some ⟨b17, 0, none⟩))]) (fun x => blk b17 169 [.pointer (some ⟨b15, 0, none⟩), .int .i64 (x.1 : Nat), .int .i64 (x.2.1 : Nat)] :: blk b15 152 [.slice x.2.2.1 x.2.2.2.2.length x.2.2.2.1, .pointer pl, .pointer ph] :: own 154 5 x.2.2.1 x.2.2.2.2.length x.2.2.2.1 (flat x.2.2.2.2) :: F :: L)
        (fun x => x.1 ≤ lo.es.length ∧ x.2.1 ≤ hi.es.length ∧ x.1 + x.2.1 = x.2.2.2.2.length ∧ x.2.2.2.2.length ≤ x.2.2.2.1 ∧ x.2.2.2.1 ≤ maxLen ∧ (0 < x.2.2.2.2.length → ∃ b, x.2.2.1 = some ⟨b, 0, none⟩) ∧ x.2.2.2.2 ++ mrg x.1 x.2.1 (lo.pts.drop x.1) (hi.pts.drop x.2.1) = mrg 0 0 lo.pts hi.pts) (fun x => lo.es.length + hi.es.length - (x.1 + x.2.1)) (0, 0, none, 0, []) ⟨Nat.zero_le _, Nat.zero_le _, rfl, Nat.le_refl _, Nat.zero_le _, fun h => absurd h (Nat.lt_irrefl 0), rfl⟩ ⟨rfl, trivial⟩ ?_ ?_
      · refine en_pick (.skip (.here)) ?_
        refine en_pick (.skip (.here)) ?_
        refine en_pick (.here) ?_
        refine en_pick (.here) ?_
        exact EnA
      · rintro ⟨i, k, A, c, ds⟩ ⟨f1, f2, f3, f4, f5, f6, f7⟩
        simp only at f1 f2 f3 f4 f5 f6 f7
        refine GN ?_
        refine G_region ?_
        refine GQ (ev_move rfl) ?_
        refine GE (eff_call rfl (Ctr.frame [F] (step_ctr b17 b15 i k c A pl ph ds.length lo hi ds L hl hh (by omega) f1 f2 (by omega) (by omega)) (en_pick (.skip (.skip (.skip .here))) en_refl))) ?_; rintro _ _ ⟨L1, hs, rfl⟩
        refine GO_nil ?_
        rcases hs with ⟨e1, e2, rfl, rfl⟩ | ⟨e, i', k', A', c', rfl, g1, g2, g3, g4, g5, g6, g7, rfl⟩
        · refine GN ?_
          refine G_cond_f rfl rfl ?_
          have hds : ds = mrg 0 0 lo.pts hi.pts := by
            rw [← f7, e1, e2, ← l1, ← l2, List.drop_length, List.drop_length, mrg, List.append_nil]
          refine GN ?_
          refine G_region ?_
          refine GQ (ev_move rfl) ?_
          (first | refine GQ (ev_nilCheck rfl) ?_ | refine GQ (ev_nilCheckF (by simp) rfl) ?_)
          refine GQ (ev_fieldAddr rfl) ?_
          refine GQ (ev_load rfl LdA) ?_
          refine GQ (ev_assign rfl) ?_
          refine GO_nil ?_
          refine GN ?_
          refine G_ret (L' := [blk b15 152 [.slice A ds.length c, .pointer pl, .pointer ph], own 154 5 A ds.length c (flat ds)] ++ L) rfl (.tmp rfl .nil) ?_ ⟨_, _, rfl, rfl, ?_⟩
          · refine en_pick (.here) ?_
            refine en_pick (.skip (.here)) ?_
            refine en_pick (.skip (.here)) ?_
            exact EnA
          · rw [hj, ← hds]
            refine ⟨b15, A, c, pl, ph, rfl, LdN.blk rfl, ?_, f4, f5, hl.skip.skip, hh.skip.skip⟩
            exact Rc.skip (Rc.own (flat_length ds) f6)
        · refine GN ?_
          refine G_cond_t rfl rfl ?_
          refine GN ?_
          exact G_round (i', k', A', c', ds ++ [e]) ⟨g2, g3, by simp; omega, by simp; omega, g5, fun _ => g6 (by omega), by simp only; rw [← f7, g7, List.append_assoc]; rfl⟩ (by simp only; omega) ⟨rfl, trivial⟩ (by
            simp only [List.length_append, List.length_singleton]
            refine en_pick (.skip (.here)) ?_
            refine en_pick (.skip (.here)) ?_
            refine en_pick (.skip (.here)) ?_
            refine en_pick (.here) ?_
            exact EnA
            )

end Go.Proofs.YtkoncepjfgnjlaaGreat
/- Arrays that lead into one another: where a place leads; the reference's counts. -/
namespace Go.Proofs.YtkoncepjfgnjlaaGreat
attribute [local irreducible] sat
set_option linter.unusedVariables false
set_option linter.unusedSimpArgs false
set_option maxRecDepth 100000

theorem lead_ctr (p : Option Addr) (t : Arr) (i : Int) (high : Bool) (L : List HP) (h : ArrIn L p t) (hm : t.es.length ≤ 100000) (hi1 : -9223372036854775808 ≤ i ∧ i ≤ 9223372036854775807) :
    Ctr Tryz.prog 155 #[.pointer p, .int .i64 i, .bool high] L fun v L' => v = .int .i64 (lead t i high) ∧ L' = L := by
  have hm2 : t.es.length ≤ maxLen := by unfold maxLen; omega
  by_cases hin : 0 ≤ i ∧ i < t.es.length
  · obtain ⟨k, rfl⟩ := Int.eq_ofNat_of_zero_le hin.1
    have hk : k < t.es.length := by omega
    have hg : t.es[k]? = some t.es[k] := List.getElem?_eq_getElem hk
    have hle : lead t (k : Nat) high = if high then t.es[k].high else t.es[k].low := by
      cases t with
      | nil => simp [Arr.es] at hk
      | node es lo hi =>
        simp only [Arr.es] at hk hg ⊢
        simp only [lead]
        rw [if_pos (by omega), Int.toNat_natCast, hg]
    rw [hle]
    generalize t.es[k] = e at *
    refine Ctr_of (fn := Tryz.f155) (n := 47) Tryz.func155 rfl rfl rfl ?_
    intro g F
    refine GN ?_
    refine G_region ?_
    refine GQ (ev_assign rfl) ?_
    refine GO_nil ?_
    refine GN ?_
    refine G_region ?_
    refine GQ (ev_move rfl) ?_
    refine GQ (ev_move rfl) ?_
    refine GE (eff_call rfl (at_ctr p t (k : Nat) _ (by repeat' first | assumption | apply ArrIn.skip) hm2)) ?_; rintro _ _ ⟨hv, _, rfl⟩; have hv1 := hv e (by omega) (by simpa using hg); subst hv1
    refine GQ (ev_move rfl) ?_
    refine GQ (ev_extract rfl rfl) ?_
    refine GQ (ev_extract rfl rfl) ?_
    refine GE eff_alloc ?_; rintro _ _ ⟨b7, rfl, rfl⟩
    refine GE (eff_storeN rfl rfl rfl rfl UpA) ?_; rintro _ _ ⟨rfl, rfl⟩
    refine GQ (ev_assign rfl) ?_
    refine GO_nil ?_
    cases high with
    | true =>
      refine GN ?_
      refine G_region ?_
      refine GQ (ev_move rfl) ?_
      refine GQ (ev_move rfl) ?_
      refine GO_yes rfl rfl rfl rfl ?_
      refine GQ (ev_move rfl) ?_
      refine GQ (ev_pick_t rfl rfl rfl) ?_
      refine GQ (ev_assign rfl) ?_
      refine GO_nil ?_
      refine GN ?_
      refine G_cond_t rfl rfl ?_
      refine GN ?_
      refine G_region ?_
      refine GQ (ev_fieldAddr rfl) ?_
      refine GQ (ev_load rfl LdA) ?_
      refine GQ (ev_assign rfl) ?_
      refine GO_nil ?_
      refine GN ?_
      refine G_ret rfl (.tmp rfl .nil) EnA ⟨rfl, rfl⟩
    | false =>
      refine GN ?_
      refine G_region ?_
      refine GQ (ev_move rfl) ?_
      refine GQ (ev_move rfl) ?_
      refine GO_yes rfl rfl rfl rfl ?_
      refine GQ (ev_move rfl) ?_
      refine GQ (ev_pick_t rfl rfl rfl) ?_
      refine GQ (ev_assign rfl) ?_
      refine GO_nil ?_
      refine GN ?_
      refine G_cond_f rfl rfl ?_
      refine GN ?_
      refine G_region ?_
      refine GQ (ev_move rfl) ?_
      refine GQ (ev_assign rfl) ?_
      refine GO_nil ?_
      refine GN ?_
      refine G_cond_t rfl rfl ?_
      refine GN ?_
      refine G_region ?_
      refine GQ (ev_fieldAddr rfl) ?_
      refine GQ (ev_load rfl LdA) ?_
      refine GQ (ev_assign rfl) ?_
      refine GO_nil ?_
      refine GN ?_
      refine G_ret rfl (.tmp rfl .nil) EnA ⟨rfl, rfl⟩
  · have hle : lead t i high = if i = t.es.length then (match t with
        | .nil => 0
        | .node _ lo hi => if high then (hi.es.length : Int) else lo.es.length) else 0 := by
      cases t with
      | nil => simp [lead]
      | node es lo hi =>
        have hin' : ¬ (0 ≤ i ∧ i < es.length) := hin
        simp only [lead]
        rw [if_neg hin']
        show _ = if i = es.length then _ else _
        by_cases h9 : i = es.length
        · rw [if_neg (by simpa using h9), if_pos h9]
        · rw [if_pos h9, if_neg h9]
    rw [hle]
    refine Ctr_of (fn := Tryz.f155) (n := 47) Tryz.func155 rfl rfl rfl ?_
    intro g F
    refine GN ?_
    refine G_region ?_
    refine GQ (ev_assign rfl) ?_
    refine GO_nil ?_
    refine GN ?_
    refine G_region ?_
    refine GQ (ev_move rfl) ?_
    refine GQ (ev_move rfl) ?_
    refine GE (eff_call rfl (at_ctr p t i _ (by repeat' first | assumption | apply ArrIn.skip) hm2)) ?_; rintro _ _ ⟨_, hv, rfl⟩; have hv1 := hv (by omega); subst hv1
    refine GQ (ev_move rfl) ?_
    refine GQ (ev_extract rfl rfl) ?_
    refine GQ (ev_extract rfl rfl) ?_
    refine GE eff_alloc ?_; rintro _ _ ⟨b7, rfl, rfl⟩
    refine GE (eff_storeN rfl rfl rfl rfl UpA) ?_; rintro _ _ ⟨rfl, rfl⟩
    refine GQ (ev_assign rfl) ?_
    refine GO_nil ?_
    refine GN ?_
    refine G_region ?_
    refine GQ (ev_move rfl) ?_
    refine GQ (ev_move rfl) ?_
    refine GO_no rfl rfl rfl rfl ?_
    refine GQ (ev_pick_f rfl rfl rfl) ?_
    refine GQ (ev_assign rfl) ?_
    refine GO_nil ?_
    refine GN ?_
    refine G_cond_f rfl rfl ?_
    refine GN ?_
    refine G_region ?_
    refine GQ (ev_move rfl) ?_
    refine GQ (ev_assign rfl) ?_
    refine GO_nil ?_
    refine GN ?_
    refine G_cond_f rfl rfl ?_
    by_cases h1 : i = t.es.length
    · cases t with
      | nil =>
        cases h
        subst h1
        refine GN ?_
        refine G_region ?_
        refine GQ (ev_move rfl) ?_
        refine GQ (ev_move rfl) ?_
        refine GE (eff_call rfl (size_ctr none .nil _ rfl)) ?_; rintro _ _ ⟨rfl, rfl⟩
        refine GQ (ev_neq rfl rfl) ?_
        refine GQ (ev_move rfl) ?_
        refine GO_yes rfl rfl rfl rfl ?_
        refine GQ (ev_move rfl) ?_
        refine GO_yes rfl rfl rfl rfl ?_
        (first | refine GQ (ev_eqlNil rfl rfl) ?_ | refine GQ (ev_eqlPtr rfl rfl) ?_)
        refine GQ (ev_pick_f rfl rfl rfl) ?_
        refine GQ (ev_assign rfl) ?_
        refine GO_nil ?_
        refine GN ?_
        refine G_cond_t rfl rfl ?_
        refine GN ?_
        refine G_region ?_
        refine GQ (ev_assign rfl) ?_
        refine GO_nil ?_
        refine GN ?_
        refine G_ret rfl (.tmp rfl .nil) EnA ⟨by simp [retv], rfl⟩
      | node es lo hi =>
        have h0 := h
        obtain ⟨b, A, c, pl, ph, rfl, x1, x2, x3, x4, x5, x6⟩ := h
        have y1 := x1.at_ (i := 1) rfl
        have y2 := x1.at_ (i := 2) rfl
        have hd : ¬ (i ≠ ((Arr.node es lo hi).es.length : Int)) := fun h => h h1
        refine GN ?_
        refine G_region ?_
        refine GQ (ev_move rfl) ?_
        refine GQ (ev_move rfl) ?_
        refine GE (eff_call rfl (size_ctr (some ⟨b, 0, none⟩) (.node es lo hi) _ h0.skip.skip)) ?_; rintro _ _ ⟨rfl, rfl⟩
        refine GQ (ev_neq rfl rfl) ?_
        refine GQ (ev_move rfl) ?_
        refine GO_yes rfl rfl rfl (decide_eq_false hd) ?_
        refine GQ (ev_move rfl) ?_
        refine GO_yes rfl rfl rfl (decide_eq_false hd) ?_
        (first | refine GQ (ev_eqlNil rfl rfl) ?_ | refine GQ (ev_eqlPtr rfl rfl) ?_)
        refine GQ (ev_pick_f rfl (decide_eq_false hd) rfl) ?_
        refine GQ (ev_assign rfl) ?_
        refine GO_nil ?_
        refine GN ?_
        refine G_cond_f rfl rfl ?_
        refine GN ?_
        refine G_region ?_
        refine GQ (ev_move rfl) ?_
        refine GQ (ev_assign rfl) ?_
        refine GO_nil ?_
        cases high with
        | true =>
          refine GN ?_
          refine G_cond_t rfl rfl ?_
          refine GN ?_
          refine G_region ?_
          refine GQ (ev_move rfl) ?_
          (first | refine GQ (ev_nilCheck rfl) ?_ | refine GQ (ev_nilCheckF (by simp) rfl) ?_)
          refine GQ (ev_fieldAddr rfl) ?_
          refine GQ (ev_load rfl LdA) ?_
          refine GE (eff_call rfl (size_ctr ph hi _ (by repeat' first | assumption | apply ArrIn.skip))) ?_; rintro _ _ ⟨rfl, rfl⟩
          refine GQ (ev_assign rfl) ?_
          refine GO_nil ?_
          refine GN ?_
          refine G_ret rfl (.tmp rfl .nil) EnA ⟨by simp [retv, h1], rfl⟩
        | false =>
          refine GN ?_
          refine G_cond_f rfl rfl ?_
          refine GN ?_
          refine G_region ?_
          refine GQ (ev_move rfl) ?_
          (first | refine GQ (ev_nilCheck rfl) ?_ | refine GQ (ev_nilCheckF (by simp) rfl) ?_)
          refine GQ (ev_fieldAddr rfl) ?_
          refine GQ (ev_load rfl LdA) ?_
          refine GE (eff_call rfl (size_ctr pl lo _ (by repeat' first | assumption | apply ArrIn.skip))) ?_; rintro _ _ ⟨rfl, rfl⟩
          refine GQ (ev_assign rfl) ?_
          refine GO_nil ?_
          refine GN ?_
          refine G_ret rfl (.tmp rfl .nil) EnA ⟨by simp [retv, h1], rfl⟩
    · refine GN ?_
      refine G_region ?_
      refine GQ (ev_move rfl) ?_
      refine GQ (ev_move rfl) ?_
      refine GE (eff_call rfl (size_ctr p t _ (by repeat' first | assumption | apply ArrIn.skip))) ?_; rintro _ _ ⟨rfl, rfl⟩
      refine GQ (ev_neq rfl rfl) ?_
      refine GQ (ev_move rfl) ?_
      refine GO_no rfl rfl rfl (decide_eq_true h1) ?_
      refine GO_no rfl rfl rfl (decide_eq_true h1) ?_
      refine GQ (ev_pick_t rfl (decide_eq_true h1) rfl) ?_
      refine GQ (ev_assign rfl) ?_
      refine GO_nil ?_
      refine GN ?_
      refine G_cond_t rfl rfl ?_
      refine GN ?_
      refine G_region ?_
      refine GQ (ev_assign rfl) ?_
      refine GO_nil ?_
      refine GN ?_
      refine G_ret rfl (.tmp rfl .nil) EnA ⟨by simp [retv, h1], rfl⟩
theorem Lead_ctr (p : Option Addr) (t : Arr) (i : Int) (high : Bool) (L : List HP) (h : ArrIn L p t) (hm : t.es.length ≤ 100000) (hi1 : -9223372036854775808 ≤ i ∧ i ≤ 9223372036854775807) :
    Ctr Tryz.prog 147 #[.pointer p, .int .i64 i, .bool high] L fun v L' => v = .int .i64 (lead t i high) ∧ L' = L := by
  refine Ctr_of (fn := Tryz.f147) (n := 11) Tryz.func147 rfl rfl rfl ?_
  intro g F
  refine GN ?_
  refine G_region ?_
  refine GQ (ev_assign rfl) ?_
  refine GO_nil ?_
  refine GN ?_
  refine G_region ?_
  refine GQ (ev_move rfl) ?_
  refine GQ (ev_move rfl) ?_
  refine GQ (ev_move rfl) ?_
  refine GE (eff_call rfl (lead_ctr p t i high _ (by repeat' first | assumption | apply ArrIn.skip) hm hi1)) ?_; rintro _ _ ⟨rfl, rfl⟩
  refine GQ (ev_assign rfl) ?_
  refine GO_nil ?_
  refine GN ?_
  refine G_ret rfl (.tmp rfl .nil) EnA ⟨rfl, rfl⟩
theorem take_countP_succ (f : Pt → Bool) (l : List Pt) (k : Nat) (p : Pt) (h : l[k]? = some p) : (l.take (k + 1)).countP f = (l.take k).countP f + if f p then 1 else 0 := by
  obtain ⟨h1, rfl⟩ := List.getElem?_eq_some_iff.1 h
  rw [List.take_succ_eq_append_getElem h1, List.countP_append, List.countP_cons, List.countP_nil, Nat.zero_add]
end Go.Proofs.YtkoncepjfgnjlaaGreat
/-
  DERIVED: THE SHELF's CONTRACTS AT THIS DUMP, IN PLAIN WORDS (tools/lay-plain.mjs out of 'TryzShelf.lean', which tools/lay-shelf.mjs wrote): THE SAME DECLARATIONS UNDER THE SAME NAMES: 'import', 'namespace', 'open', 'def', 'theorem' AND NOTHING ELSE: no command of the shelf's: FOR A HAND-IN. Each laying: the table of numbers ('.._ren') and one theorem, a field a fact of the dump's own or the kernel's comparison; each contract: ONE APPLICATION.
-/
namespace Go.Proofs
open Go.Shelf
def Tryz.lays189_ren : Go.Shelf.Ren := ⟨fun | 189 => 146 | 125 => 154 | 257 => 153 | 128 => 167 | 129 => 168 | 294 => 159 | 295 => 160 | 296 => 161 | 297 => 162 | 298 => 163 | 299 => 164 | 216 => 59 | 300 => 165 | 301 => 166 | 328 => 170 | 329 => 171 | 330 => 172 | 331 => 173 | 332 => 174 | 215 => 91 | 343 => 175 | n => n, fun | 28 => 45 | 3 => 3 | 46 => 29 | 0 => 0 | 51 => 185 | 53 => 187 | 4 => 4 | 183 => 179 | 182 => 178 | 131 => 61 | 5 => 5 | 9 => 9 | 218 => 190 | 222 => 194 | 228 => 196 | 229 => 197 | n => n, fun | n => n⟩
theorem Tryz.lays189 : Go.Proofs.Lays.n189 Tryz.prog Tryz.lays189_ren := {
  mixed := by kernel_rfl
  f125 := Tryz.func154.trans (congrArg some (by kernel_rfl))
  f128 := Tryz.func167.trans (congrArg some (by kernel_rfl))
  f129 := Tryz.func168.trans (congrArg some (by kernel_rfl))
  f189 := Tryz.func146.trans (congrArg some (by kernel_rfl))
  f215 := Tryz.func91.trans (congrArg some (by kernel_rfl))
  f216 := Tryz.func59.trans (congrArg some (by kernel_rfl))
  f257 := Tryz.func153.trans (congrArg some (by kernel_rfl))
  f294 := Tryz.func159.trans (congrArg some (by kernel_rfl))
  f295 := Tryz.func160.trans (congrArg some (by kernel_rfl))
  f296 := Tryz.func161.trans (congrArg some (by kernel_rfl))
  f297 := Tryz.func162.trans (congrArg some (by kernel_rfl))
  f298 := Tryz.func163.trans (congrArg some (by kernel_rfl))
  f299 := Tryz.func164.trans (congrArg some (by kernel_rfl))
  f300 := Tryz.func165.trans (congrArg some (by kernel_rfl))
  f301 := Tryz.func166.trans (congrArg some (by kernel_rfl))
  f328 := Tryz.func170.trans (congrArg some (by kernel_rfl))
  f329 := Tryz.func171.trans (congrArg some (by kernel_rfl))
  f330 := Tryz.func172.trans (congrArg some (by kernel_rfl))
  f331 := Tryz.func173.trans (congrArg some (by kernel_rfl))
  f332 := Tryz.func174.trans (congrArg some (by kernel_rfl))
  f343 := Tryz.func175.trans (congrArg some (by kernel_rfl))
  t0 := Tryz.underlying0
  a0 := Tryz.isAgg0
  z0 := Tryz.sizeOf0
  v0 := Tryz.zeroValue0
  t3 := Tryz.underlying3
  a3 := Tryz.isAgg3
  z3 := Tryz.sizeOf3
  v3 := Tryz.zeroValue3
  t4 := Tryz.underlying4
  a4 := Tryz.isAgg4
  z4 := Tryz.sizeOf4
  v4 := Tryz.zeroValue4
  t5 := Tryz.underlying5
  a5 := Tryz.isAgg5
  z5 := Tryz.sizeOf5
  v5 := Tryz.zeroValue5
  t9 := Tryz.underlying9
  a9 := Tryz.isAgg9
  z9 := Tryz.sizeOf9
  v9 := Tryz.zeroValue9
  t28 := Tryz.underlying45
  a28 := Tryz.isAgg45
  z28 := Tryz.sizeOf45
  v28 := Tryz.zeroValue45
  t46 := Tryz.underlying29
  a46 := Tryz.isAgg29
  z46 := Tryz.sizeOf29
  v46 := Tryz.zeroValue29
  t51 := Tryz.underlying185
  a51 := Tryz.isAgg185
  z51 := Tryz.sizeOf185
  v51 := Tryz.zeroValue185
  t53 := Tryz.underlying187
  a53 := Tryz.isAgg187
  z53 := Tryz.sizeOf187
  v53 := Tryz.zeroValue187
  t131 := Tryz.underlying61
  a131 := Tryz.isAgg61
  z131 := Tryz.sizeOf61
  v131 := Tryz.zeroValue61
  t182 := Tryz.underlying178
  a182 := Tryz.isAgg178
  z182 := Tryz.sizeOf178
  v182 := Tryz.zeroValue178
  t183 := Tryz.underlying179
  a183 := Tryz.isAgg179
  z183 := Tryz.sizeOf179
  v183 := Tryz.zeroValue179
  t218 := Tryz.underlying190
  a218 := Tryz.isAgg190
  z218 := Tryz.sizeOf190
  v218 := Tryz.zeroValue190
  t222 := Tryz.underlying194
  a222 := Tryz.isAgg194
  z222 := Tryz.sizeOf194
  v222 := Tryz.zeroValue194
  t228 := Tryz.underlying196
  a228 := Tryz.isAgg196
  z228 := Tryz.sizeOf196
  v228 := Tryz.zeroValue196
  t229 := Tryz.underlying197
  a229 := Tryz.isAgg197
  z229 := Tryz.sizeOf197
  v229 := Tryz.zeroValue197 }
open Go.Sort Go.RowKit in
theorem Tryz.slices_Sort_int (blk off cap : Nat) (zs : List Int) (w : World) (hH : Holds (Value.int .i64) w blk off zs.toArray) (hblk : blk < w.heap.size) (hsz : zs.length < 4611686018427387904) :
    Calls Tryz.prog 146 #[.slice (some ⟨blk, off, none⟩) zs.length cap] w fun e w' =>
      e = .returned (.tuple #[]) ∧ ∃ n os, w' = grow (putRow (Value.int .i64) (Sort.ahead w n) blk off (zs.mergeSort fun x y => decide (x ≤ y)).toArray) os := Any.slices_Sort_int Tryz.lays189 blk off cap zs w hH hblk hsz
open Go.RowKit Go.Sort in
/-- .. and plain. (LAID: no walk: one application.) -/
theorem Tryz.slices_Sort_int_none (p : Option Addr) (cap : Nat) (w : World) :
    Calls Tryz.prog 146 #[.slice p 0 cap] w fun e w' => e = .returned (.tuple #[]) ∧ w' = w := Any.slices_Sort_int_none Tryz.lays189 p cap w
end Go.Proofs
/- slices.Sort of this program. -/
namespace Go.Proofs.YtkoncepjfgnjlaaGreat
theorem sort_ctr (A : Option Addr) (n c : Nat) (zs : List Int) (L : List HP) (hA : 0 < n → ∃ b, A = some ⟨b, 0, none⟩) (hn : zs.length = n) (hbig : n ≤ 1000000) :
    Ctr Tryz.prog 146 #[.slice A n c] (own 3 1 A n c (flat zs) :: L) fun v L' => v = .tuple #[] ∧ L' = own 3 1 A n c (flat (srt zs)) :: L := by
  rcases Nat.eq_zero_or_pos n with h0 | h0
  · subst h0
    have hz : zs = [] := List.eq_nil_of_length_eq_zero hn
    subst hz
    intro g F w hw
    refine (Tryz.slices_Sort_int_none A c w).mono fun e w' ⟨h1, h2⟩ => ?_
    subst h2
    exact ⟨_, _, h1, ⟨rfl, rfl⟩, by rw [show srt [] = [] by simp [srt]]; exact hw⟩
  · intro g F w hw
    obtain ⟨b, rfl⟩ := hA h0
    exact sort_of_shelf b n c zs L hn h0 (fun w hH hb => Tryz.slices_Sort_int b 0 c zs w hH hb (by omega)) g F w hw
end Go.Proofs.YtkoncepjfgnjlaaGreat
/- Arrays that lead into one another: ids. -/
namespace Go.Proofs.YtkoncepjfgnjlaaGreat
attribute [local irreducible] sat
set_option linter.unusedVariables false
set_option linter.unusedSimpArgs false
set_option maxRecDepth 100000

def clampN (i : Int) (n : Nat) : Nat := (min (max i 0) n).toNat
theorem clampN_eq (i : Int) (n : Nat) : min (max i 0) (n : Int) = (clampN i n : Nat) := by unfold clampN; omega
theorem clampN_le (i : Int) (n : Nat) : clampN i n ≤ n := by unfold clampN; omega
def idsOf (l : List Pt) (f t : Nat) : List Int := ((l.drop f).take (t - f)).map (·.id)
theorem idsOf_succ (l : List Pt) (f t : Nat) (p : Pt) (h : f ≤ t) (hp : l[t]? = some p) : idsOf l f (t + 1) = idsOf l f t ++ [p.id] := by
  unfold idsOf
  have : (l.drop f)[t - f]? = some p := by rw [List.getElem?_drop, Nat.add_sub_cancel' h]; exact hp
  obtain ⟨h1, h2⟩ := List.getElem?_eq_some_iff.1 this
  rw [show t + 1 - f = (t - f) + 1 by omega, List.take_succ_eq_append_getElem h1, h2, List.map_append]; rfl
theorem IDs_ctr (p : Option Addr) (t : Arr) (i j : Int) (L : List HP) (h : ArrIn L p t) (hm : t.es.length ≤ 100000) :
    Ctr Tryz.prog 129 #[.pointer p, .int .i64 i, .int .i64 j] L fun v L' => ∃ A c N, v = .slice A (idsOf t.pts (clampN i t.es.length) (clampN j t.es.length)).length c ∧ (idsOf t.pts (clampN i t.es.length) (clampN j t.es.length)).length ≤ c ∧ c ≤ maxLen ∧ L' = N ++ L ∧
      Rd (N ++ L) A (idsOf t.pts (clampN i t.es.length) (clampN j t.es.length)).length (srt (idsOf t.pts (clampN i t.es.length) (clampN j t.es.length))) := by
  have c1 := clampN_eq i t.es.length
  have c2 := clampN_eq j t.es.length
  have c3 := clampN_le i t.es.length
  have c4 := clampN_le j t.es.length
  generalize clampN i t.es.length = f at *
  generalize clampN j t.es.length = u at *
  refine Ctr_of (fn := Tryz.f129) (n := 40) Tryz.func129 rfl rfl rfl ?_
  intro g F
  refine GN ?_
  refine G_region ?_
  refine GQ (ev_assign rfl) ?_
  refine GO_nil ?_
  refine GN ?_
  refine G_region ?_
  refine GQ (ev_move rfl) ?_
  refine GQ (ev_max rfl rfl) ?_
  refine GQ (ev_move rfl) ?_
  refine GE (eff_call rfl (size_ctr p t _ (by repeat' first | assumption | apply ArrIn.skip))) ?_; rintro _ _ ⟨rfl, rfl⟩
  refine GQ (ev_min rfl rfl) ?_
  refine GQ (ev_move rfl) ?_
  refine GQ (ev_max rfl rfl) ?_
  refine GQ (ev_move rfl) ?_
  refine GE (eff_call rfl (size_ctr p t _ (by repeat' first | assumption | apply ArrIn.skip))) ?_; rintro _ _ ⟨rfl, rfl⟩
  refine GQ (ev_min rfl rfl) ?_
  refine GQ (ev_assign rfl) ?_
  refine GQ (ev_assign rfl) ?_
  refine GO_nil ?_
  rw [c1, c2]
  refine GN ?_
  refine G_region ?_
  refine GQ (ev_assign rfl) ?_
  refine GO_nil ?_
  refine GN ?_
  refine G_region ?_
  refine GQ (ev_move rfl) ?_
  refine GQ (ev_assign rfl) ?_
  refine GO_nil ?_
  refine GN ?_
  refine G_heap (own.nil_ 3 1) ?_
  refine G_loop (ι := Nat × Option Addr × Nat × List Int) (fun x => [(0, .pointer p), (2, .int .i64 (u : Nat)), (7, .slice x.2.1 x.2.2.2.length x.2.2.1), (8, .int .i64 (x.1 : Nat))]) (fun x => own 3 1 x.2.1 x.2.2.2.length x.2.2.1 (flat x.2.2.2) :: F :: L)
    (fun x => f ≤ x.1 ∧ (x.1 ≤ u ∨ x.1 = f) ∧ x.2.2.2 = idsOf t.pts f x.1 ∧ x.2.2.2.length ≤ x.2.2.1 ∧ x.2.2.1 ≤ maxLen ∧ (0 < x.2.2.2.length → ∃ b, x.2.1 = some ⟨b, 0, none⟩) ∧ x.2.2.2.length ≤ x.1) (fun x => u - x.1) (f, none, 0, []) ⟨Nat.le_refl _, .inr rfl, by simp [idsOf], Nat.le_refl _, Nat.zero_le _, fun h => absurd h (Nat.lt_irrefl 0), Nat.zero_le _⟩ ⟨rfl, rfl, rfl, rfl, trivial⟩ (fun _ s => s) ?_
  rintro ⟨k, A, c, zs⟩ ⟨f1, f2, f3, f4, f5, f6, f7⟩
  simp only at f1 f2 f3 f4 f5 f6 f7
  dsimp only
  refine GN ?_
  refine G_region ?_
  refine GQ (ev_move rfl) ?_
  refine GQ (ev_move rfl) ?_
  (first | refine GQ (ev_lssN rfl rfl) ?_ | refine GQ (ev_lss rfl rfl) ?_)
  refine GO_nil ?_
  refine GN ?_
  refine G_cond rfl (fun h1 => ?_) (fun h1 => ?_)
  · cases t with
    | nil => simp [Arr.es] at c4; omega
    | node es lo hi =>
      have h0 := h
      obtain ⟨b, B, d, pl, ph, rfl, x1, x2, x3, x4, _⟩ := h
      have hk : k < es.length := by simp only [Arr.es] at c4; omega
      have y0 := x1.at_ (i := 0) rfl
      obtain ⟨bb, o, rfl, hx⟩ := x2.at_ (by omega)
      have hg : es[k]? = some es[k] := List.getElem?_eq_getElem hk
      have y1 := (hx _ _ hg).at_ (i := 0) rfl
      have hs := idsOf_succ (Arr.node es lo hi).pts f k es[k].p f1 (by simp [Arr.pts, Arr.es, hg])
      have hm' : es.length ≤ 100000 := hm
      generalize es[k] = e at *
      refine GN ?_
      refine G_region ?_
      refine GQ (ev_move rfl) ?_
      refine GQ (ev_move rfl) ?_
      (first | refine GQ (ev_nilCheck rfl) ?_ | refine GQ (ev_nilCheckF (by simp) rfl) ?_)
      refine GQ (ev_fieldAddr rfl) ?_
      refine GQ (ev_load rfl LdA) ?_
      refine GQ (ev_move rfl) ?_
      (first | refine GQ (ev_indexAddrN rfl rfl NgA) ?_ | refine GQ (ev_indexAddr rfl rfl NgA NgA) ?_)
      refine GQ (ev_fieldAddr rfl) ?_
      refine GQ (ev_fieldAddr rfl) ?_
      refine GQ (ev_load rfl LdA) ?_
      refine GE (eff_buildSlice1 (by rfl) rfl rfl) ?_; rintro _ _ ⟨b35, rfl, rfl⟩
      refine GE (eff_append rfl rfl PkA (by repeat' first | exact Rc.blk rfl | assumption | apply Rc.skip) (one_all rfl) (by rfl) (by decide) NgA NgA) ?_; rintro _ _ ⟨A36, c36, rfl, hc36, hm36, hn36, rfl⟩
      refine GQ (ev_assign rfl) ?_
      refine GO_nil ?_
      refine GN ?_
      refine G_region ?_
      refine GQ (ev_move rfl) ?_
      (first | refine GQ (ev_addN (q := 1) rfl rfl NgA) ?_ | refine GQ (ev_add rfl rfl NgA) ?_)
      refine GQ (ev_assign rfl) ?_
      refine GO_nil ?_
      refine GN ?_
      exact G_round (k + 1, A36, c36, zs ++ [e.p.id]) ⟨by simp only; omega, .inl (by simp only; omega), by rw [hs, f3], by simp; omega, hm36, fun _ => hn36 (by omega), by simp; omega⟩ (by simp only; omega) ⟨rfl, rfl, by simp only [List.length_append, List.length_singleton]; rfl, rfl, trivial⟩ (by
        simp only [List.length_append, List.length_singleton]
        rw [← flat_snoc]
        exact EnA)
  · have hz : zs = idsOf t.pts f u := by
      rcases f2 with f2 | f2
      · have : k = u := by omega
        rw [f3, this]
      · rw [f3, f2]
        unfold idsOf
        rw [show f - f = 0 by omega, show u - f = 0 by omega]
    rw [← hz]
    refine GN ?_
    refine G_region ?_
    refine GQ (ev_move rfl) ?_
    refine GE (eff_call rfl (Ctr.frame [F] (sort_ctr A zs.length c zs L f6 rfl (by omega)) (fun _ s => s.swap))) ?_; rintro _ _ ⟨_, ⟨rfl, rfl⟩, rfl⟩
    refine GO_nil ?_
    refine GN ?_
    refine G_region ?_
    refine GQ (ev_move rfl) ?_
    refine GQ (ev_assign rfl) ?_
    refine GO_nil ?_
    refine GN ?_
    refine G_ret (L' := [own 3 1 A zs.length c (flat (srt zs))] ++ L) rfl (.tmp rfl .nil) EnA ⟨A, c, [own 3 1 A zs.length c (flat (srt zs))], rfl, f4, f5, rfl, ?_⟩
    have hsl : (srt zs).length = zs.length := by rw [srt, List.length_mergeSort]
    exact Rc.own (by rw [flat_length, hsl]; rfl) f6
end Go.Proofs.YtkoncepjfgnjlaaGreat
/- A tree of lists that lead into one another: the plain part. -/
namespace Go.Proofs.YtkoncepjfgnjlaaGreat
set_option linter.unusedVariables false
set_option linter.unusedSimpArgs false

inductive RT where
  | nil
  | node (b : Nat) (q : Option Addr) (a : Arr) (u v : Int) (lo hi : RT)
def RT.arr : RT → Arr
  | .nil => .nil
  | .node _ _ a _ _ _ _ => a
def RT.addr : RT → Option Addr
  | .nil => none
  | .node b _ _ _ _ _ _ => some ⟨b, 0, none⟩
/-- What a tree of points in order is. -/
def RT.of : RT → List Pt → Prop
  | .nil, l => l = []
  | .node _ _ a u v lo hi, l => (∃ p, l[0]? = some p ∧ u = p.x) ∧ (∃ p, l[l.length - 1]? = some p ∧ v = p.x) ∧ ((∃ p, l = [p] ∧ lo = .nil ∧ hi = .nil ∧ a = leaf p) ∨ (1 < l.length ∧ lo.of (l.take ((l.length + 1) / 2)) ∧ hi.of (l.drop ((l.length + 1) / 2)) ∧ a = join lo.arr hi.arr))
theorem RT.of.ok : ∀ {T : RT} {l : List Pt}, T.of l → Ord T.arr.pts ∧ ∀ g : Pt → Bool, T.arr.pts.countP g = l.countP g
  | .nil, l, h => by
    have h : l = [] := h
    subst h
    exact ⟨trivial, fun _ => rfl⟩
  | .node b q a u v lo hi, l, ⟨_, _, h⟩ => by
    rcases h with ⟨p, rfl, _, _, rfl⟩ | ⟨h1, h2, h3, rfl⟩
    · exact ⟨⟨fun _ h => (by cases h), trivial⟩, fun _ => rfl⟩
    · obtain ⟨a1, a2⟩ := h2.ok
      obtain ⟨b1, b2⟩ := h3.ok
      show Ord (join lo.arr hi.arr).pts ∧ ∀ g : Pt → Bool, (join lo.arr hi.arr).pts.countP g = _
      unfold Arr.pts
      rw [join_es]
      refine ⟨mrg_ord _ _ _ _ a1 b1, fun g => ?_⟩
      rw [mrg_count, a2, b2, ← List.countP_append, List.take_append_drop]
theorem RT.of.perm {T : RT} {l : List Pt} (h : T.of l) : T.arr.pts.Perm l := List.perm_iff_count.2 fun a => h.ok.2 (· == a)
theorem RT.of.len {T : RT} {l : List Pt} (h : T.of l) : T.arr.es.length = l.length := by
  have := h.perm.length_eq
  rwa [Arr.pts, List.length_map] at this
/-- In order: the X of the first one and of the last one. -/
theorem asc_x {l : List Pt} (h : AscO Pt.less l) {i j : Nat} {p q : Pt} (hij : i ≤ j) (hp : l[i]? = some p) (hq : l[j]? = some q) : p.x ≤ q.x := by
  rcases Nat.lt_or_ge i j with hlt | hge
  · obtain ⟨h1, rfl⟩ := List.getElem?_eq_some_iff.1 hp
    obtain ⟨h2, rfl⟩ := List.getElem?_eq_some_iff.1 hq
    have := List.pairwise_iff_getElem.1 h i j h1 h2 hlt
    unfold Pt.less at this
    by_cases hx : (l[i]).x = (l[j]).x
    · omega
    · simp [hx] at this; omega
  · have : i = j := by omega
    subst this
    rw [hp] at hq; cases hq; omega
theorem RT.of.range {b : Nat} {q : Option Addr} {a : Arr} {u v : Int} {lo hi : RT} {l : List Pt} (h : (RT.node b q a u v lo hi).of l) (ha : AscO Pt.less l) : ∀ p ∈ l, u ≤ p.x ∧ p.x ≤ v := fun p hp => by
  obtain ⟨⟨f, hf, rfl⟩, ⟨g, hg, rfl⟩, _⟩ := h
  obtain ⟨i, hi, rfl⟩ := List.mem_iff_getElem.1 hp
  exact ⟨asc_x ha (Nat.zero_le i) hf (List.getElem?_eq_getElem hi), asc_x ha (by omega) (List.getElem?_eq_getElem hi) hg⟩
/-- A part that is to be looked at: where it begins and where it ends. -/
structure PR where
  T : RT
  f : Nat
  t : Nat
def prOf (b : Bx) (T : RT) : PR := ⟨T, T.arr.pts.countP (belowF b.y1), T.arr.pts.countP (upToF b.y2)⟩
/-- Nothing of it is in a box; or all. -/
def RT.out (b : Bx) (T : RT) : Bool := match T with
  | .nil => true
  | .node _ _ a u v _ _ => decide (a.pts.countP (upToF b.y2) ≤ a.pts.countP (belowF b.y1) ∨ b.x2 < b.x1 ∨ v < b.x1 ∨ b.x2 < u)
def RT.ins (b : Bx) (T : RT) : Bool := match T with
  | .nil => false
  | .node _ _ a u v _ _ => decide (b.x1 ≤ u ∧ v ≤ b.x2)
def RT.ids (b : Bx) (T : RT) : List Int := if T.out b then [] else if T.ins b then srt (idsOf T.arr.pts (T.arr.pts.countP (belowF b.y1)) (T.arr.pts.countP (upToF b.y2))) else []
def RT.nxt (b : Bx) (T : RT) : List RT := if T.out b then [] else if T.ins b then [] else match T with
  | .nil => []
  | .node _ _ _ _ _ lo hi => [lo, hi]
def RT.fnd (b : Bx) : RT → List Int
  | .nil => []
  | .node c q a u v lo hi => if (RT.node c q a u v lo hi).out b then [] else if (RT.node c q a u v lo hi).ins b then (RT.node c q a u v lo hi).ids b else lo.fnd b ++ hi.fnd b
def fndR (b : Bx) (xs : List RT) : List Int := xs.flatMap (RT.fnd b)
theorem RT.fnd_eq (b : Bx) (T : RT) : T.fnd b = T.ids b ++ fndR b (T.nxt b) := by
  cases T with
  | nil => rfl
  | node c q a u v lo hi =>
    unfold RT.fnd RT.nxt
    by_cases h1 : (RT.node c q a u v lo hi).out b = true
    · simp [h1, RT.ids, fndR]
    · by_cases h2 : (RT.node c q a u v lo hi).ins b = true
      · simp [h1, h2, fndR]
      · simp [h1, h2, fndR, RT.ids]
theorem ord_pair : ∀ {l : List Pt}, Ord l → l.Pairwise fun a b => a.y ≤ b.y
  | [], _ => .nil
  | a :: l, h => List.pairwise_cons.2 ⟨h.1, ord_pair h.2⟩
/-- Those between two heights. -/
theorem ord_mid {l : List Pt} (h : Ord l) {y1 y2 : Int} (hy : y1 ≤ y2) : (l.drop (l.countP (belowF y1))).take (l.countP (upToF y2) - l.countP (belowF y1)) = l.filter fun p => decide (y1 ≤ p.y ∧ p.y ≤ y2) := by
  have hp := ord_pair h
  have e1 := fall_take (upToF y2) l (hp.imp fun hab hb => by simp [upToF] at *; omega)
  have e2 := fall_drop (belowF y1) (l.filter (upToF y2)) ((hp.filter _).imp fun hab hb => by simp [belowF] at *; omega)
  have e3 : (l.filter (upToF y2)).countP (belowF y1) = l.countP (belowF y1) := by
    rw [List.countP_filter]
    refine List.countP_congr fun p _ => ?_
    simp [belowF, upToF]; omega
  rw [e3] at e2
  rw [← List.drop_take, e1, e2, List.filter_filter]
  refine List.filter_congr fun p _ => ?_
  simp [belowF, upToF]
  by_cases h1 : p.y < y1 <;> by_cases h2 : p.y ≤ y2 <;> simp [h1, h2] <;> omega
def inB (b : Bx) (p : Pt) : Bool := b.has p.x p.y
theorem out_none {b : Bx} {T : RT} {l : List Pt} (h : T.of l) (ha : AscO Pt.less l) (hy : b.y1 ≤ b.y2) (ho : T.out b = true) : l.filter (inB b) = [] := by
  rw [List.filter_eq_nil_iff]
  intro p hp
  cases T with
  | nil => have h : l = [] := h; subst h; cases hp
  | node c q a u v lo hi =>
    have hr := h.range ha p hp
    have hpa : p ∈ a.pts := h.perm.mem_iff.2 hp
    have hok := h.ok.1
    have hmid := ord_mid hok hy
    simp only [RT.out, decide_eq_true_eq] at ho
    unfold inB Bx.has wthn
    rcases ho with ho | ho | ho | ho
    · have e0 : (a.pts.countP (upToF b.y2)) - (a.pts.countP (belowF b.y1)) = 0 := by omega
      change (a.pts.drop (a.pts.countP (belowF b.y1))).take (a.pts.countP (upToF b.y2) - a.pts.countP (belowF b.y1)) = _ at hmid
      rw [e0, List.take_zero] at hmid
      have := List.filter_eq_nil_iff.1 hmid.symm p hpa
      simp at this ⊢; omega
    · simp; omega
    · simp; omega
    · simp; omega
theorem RT.of.fnd_perm {b : Bx} (hy : b.y1 ≤ b.y2) : ∀ {T : RT} {l : List Pt}, T.of l → AscO Pt.less l → (T.fnd b).Perm ((l.filter (inB b)).map (·.id))
  | .nil, l, h, _ => by have h : l = [] := h; subst h; exact .refl _
  | .node c q a u v lo hi, l, h, ha => by
    unfold RT.fnd
    by_cases h1 : (RT.node c q a u v lo hi).out b = true
    · rw [if_pos h1, out_none h ha hy h1]; exact .refl _
    · rw [if_neg h1]
      by_cases h2 : (RT.node c q a u v lo hi).ins b = true
      · rw [if_pos h2]
        unfold RT.ids
        rw [if_neg h1, if_pos h2]
        refine (srt_perm _).trans ?_
        unfold idsOf
        refine List.Perm.map _ ?_
        show ((a.pts.drop (a.pts.countP (belowF b.y1))).take (a.pts.countP (upToF b.y2) - a.pts.countP (belowF b.y1))).Perm _
        have hok : Ord a.pts := h.ok.1
        rw [ord_mid hok hy]
        refine (h.perm.filter _).trans (.of_eq (List.filter_congr fun p hp => ?_))
        have hr := h.range ha p hp
        simp only [RT.ins, decide_eq_true_eq] at h2
        unfold inB Bx.has wthn
        rw [decide_eq_true (by omega : b.x1 ≤ p.x ∧ p.x ≤ b.x2), Bool.true_and]
      · rw [if_neg h2]
        have hr := h.range ha
        obtain ⟨⟨pf, hf, e1⟩, ⟨pg, hg, e2⟩, h3⟩ := h
        rcases h3 with ⟨p, rfl, rfl, rfl, rfl⟩ | ⟨h4, h5, h6, rfl⟩
        · exfalso
          simp only [RT.out, RT.ins, decide_eq_true_eq] at h1 h2
          simp at hf hg
          subst hf hg
          omega
        · have p1 := h5.fnd_perm hy (ha.sub (List.take_sublist _ _))
          have p2 := h6.fnd_perm hy (ha.sub (List.drop_sublist _ _))
          have := p1.append p2
          rwa [← List.map_append, ← List.filter_append, List.take_append_drop] at this
theorem RT.of.fnd_len {b : Bx} (hy : b.y1 ≤ b.y2) {T : RT} {l : List Pt} (h : T.of l) (ha : AscO Pt.less l) : (T.fnd b).length ≤ l.length := by
  rw [(h.fnd_perm hy ha).length_eq, List.length_map]; exact List.length_filter_le _ _
end Go.Proofs.YtkoncepjfgnjlaaGreat
/- A tree of lists that lead into one another: building it. -/
namespace Go.Proofs.YtkoncepjfgnjlaaGreat
attribute [local irreducible] sat
set_option linter.unusedVariables false
set_option linter.unusedSimpArgs false
set_option maxRecDepth 100000

/-- A tree as it lies in memory. -/
def RIn (L : List HP) : RT → Prop
  | .nil => True
  | .node b q a u v lo hi => LdN L b 0 5 [.pointer q, .int .i64 u, .int .i64 v, .pointer lo.addr, .pointer hi.addr] ∧ ArrIn L q a ∧ RIn L lo ∧ RIn L hi
theorem RIn.skip {X : HP} {L : List HP} : ∀ {T : RT}, RIn L T → RIn (X :: L) T
  | .nil, _ => trivial
  | .node b q a u v lo hi, ⟨h1, h2, h3, h4⟩ => ⟨h1.skip, h2.skip, h3.skip, h4.skip⟩
theorem RIn.app {N L : List HP} {T : RT} (h : RIn L T) : RIn (N ++ L) T := by
  induction N with
  | nil => exact h
  | cons X N ih => exact ih.skip
theorem less_ls : LsT 64 Pt.less := ⟨fun p q L => less_ctr p q L⟩
/-- Those of a list in order, each once. -/
theorem UniqueO_ctr {f : FuncId} {ls : Pt → Pt → Bool} [CalT Tryz.prog f] (hf : LsT f ls) (o : STO ls) (A : Option Addr) (n c : Nat) (l : List Pt) (L : List HP) (hl : Rd L A n l) (hn : n ≤ 1000000) :
    Ctr Tryz.prog 98 #[.slice A n c, .func (.func f) #[] #[]] L fun v L' => ∃ m : List Pt, (AscO ls l ∧ m = l ∨ ¬ AscO ls l ∧ m.length < n) ∧ Made 28 m L v L' := by
  have h1 : l.length = n := hl.len (by decide)
  refine Ctr_of (fn := Tryz.f98) (n := 35) Tryz.func98 rfl rfl rfl ?_
  intro g F
  refine G_heap (own.nil_ 28 3) ?_
  refine GN ?_
  refine G_region ?_
  refine GQ (ev_assign rfl) ?_
  refine GO_nil ?_
  refine GN ?_
  refine G_region ?_
  refine GQ (ev_assign rfl) ?_
  refine GO_nil ?_
  refine GN ?_
  refine G_region ?_
  refine GQ (ev_move rfl) ?_
  refine GQ (ev_len rfl) ?_
  refine GQ (ev_move rfl) ?_
  refine GO_nil ?_
  refine GN ?_
  refine G_loop (ι := Nat × Option Addr × Nat × List Pt) (fun z => [(1, .func (.func f) #[] #[]), (5, .slice z.2.1 z.2.2.2.length z.2.2.1), (9, .slice A n c), (10, .int .i64 (n : Nat)), (11, .int .i64 (z.1 : Nat))]) (fun z => own 28 3 z.2.1 z.2.2.2.length z.2.2.1 (flat z.2.2.2) :: F :: L) (fun z => z.1 ≤ n ∧ (AscO ls (l.take z.1) ∧ z.2.2.2 = l.take z.1 ∨ ¬ AscO ls (l.take z.1) ∧ z.2.2.2.length < z.1) ∧ (0 < z.2.2.2.length → ∃ b, z.2.1 = some ⟨b, 0, none⟩)) (fun z => n - z.1) (0, none, 0, []) ⟨Nat.zero_le _, .inl ⟨by simp [AscO], rfl⟩, fun h => absurd h (Nat.lt_irrefl 0)⟩ ⟨rfl, rfl, rfl, rfl, rfl, trivial⟩ (fun _ s => s) ?_
  rintro ⟨i, O, e, q⟩ ⟨f1, f2, f3⟩
  simp only at f1 f2 f3
  dsimp only
  have ho : q.length ≤ i := by
    rcases f2 with ⟨_, h⟩ | ⟨_, h⟩
    · rw [h, List.length_take]; omega
    · omega
  refine GN ?_
  refine G_region ?_
  (first | refine GQ (ev_lssN rfl rfl) ?_ | refine GQ (ev_lss rfl rfl) ?_)
  refine GO_nil ?_
  refine GN ?_
  refine G_cond rfl (fun c1 => ?_) (fun c1 => ?_)
  · obtain ⟨b1, o1, rfl, x1⟩ := hl.at_ (by omega)
    have g1 : l[i]? = some l[i] := List.getElem?_eq_getElem (by omega)
    have s1 : l.take (i + 1) = l.take i ++ [l[i]] := List.take_succ_eq_append_getElem (by omega)
    have y1 := x1 _ _ g1
    have hsub : AscO ls (l.take (i + 1)) → AscO ls (l.take i) := fun h => h.sub (by rw [s1]; exact List.sublist_append_left _ _)
    generalize l[i] = v at *
    have z1 : LdN L b1 (o1 + i * 3) 3 [.int .i64 v.id, .int .i64 v.x, .int .i64 v.y] := y1
    refine GN ?_
    refine G_region ?_
    (first | refine GQ (ev_indexAddrN rfl rfl NgA) ?_ | refine GQ (ev_indexAddr rfl rfl NgA NgA) ?_)
    refine GQ (ev_loadN rfl LnA) ?_
    refine GE eff_alloc ?_; rintro _ _ ⟨b7, rfl, rfl⟩
    refine GE (eff_storeN rfl rfl rfl rfl UpA) ?_; rintro _ _ ⟨rfl, rfl⟩
    refine GO_nil ?_
    rcases Nat.eq_zero_or_pos q.length with h0 | h0
    · have hnil : q = [] := List.eq_nil_of_length_eq_zero h0
      subst hnil
      have hi0 : AscO ls (l.take i) ∧ [] = l.take i ∨ ¬ AscO ls (l.take i) ∧ 0 < i := f2
      have hnx : AscO ls (l.take (i + 1)) ∧ [v] = l.take (i + 1) ∨ ¬ AscO ls (l.take (i + 1)) ∧ 1 < i + 1 := by
        rcases hi0 with ⟨a, b⟩ | ⟨a, b⟩
        · left; rw [s1, ← b]; exact ⟨by simp [AscO], rfl⟩
        · right; exact ⟨fun h => a (hsub h), by omega⟩
      refine GN ?_
      refine G_region ?_
      refine GQ (ev_move rfl) ?_
      refine GQ (ev_len rfl) ?_
      (first | refine GQ (ev_subN (q := 1) rfl rfl NgA) ?_ | refine GQ (ev_sub rfl rfl NgA) ?_)
      refine GQ (ev_assign rfl) ?_
      refine GO_nil ?_
      refine GN ?_
      refine G_draw (.q 0 (.q 1 (.q 2 (.q 3 (.q 4 (.q 5 (.q 6 (.q 7 (.q 8 (.e 9 (.q 10 .nil))))))))))) (by kernel_rfl) (by kernel_rfl) ?_
      refine RM rfl (ev_move rfl) ?_
      (first | refine RM rfl (ev_lssN (q := 0) rfl rfl) ?_ | refine RM rfl (ev_lss rfl rfl) ?_)
      refine RM rfl (ev_move rfl) ?_
      refine RS_q_no retB_noPanic rfl rfl rfl ⟨_, rfl, rfl⟩ rfl ?_
      refine RS_q_no retB_noPanic rfl rfl rfl ⟨_, rfl, rfl⟩ rfl ?_
      refine RS_q_no retB_noPanic rfl rfl rfl ⟨_, rfl, rfl⟩ rfl ?_
      refine RS_q_no retB_noPanic rfl rfl rfl ⟨_, rfl, rfl⟩ rfl ?_
      refine RS_q_no retB_noPanic rfl rfl rfl ⟨_, rfl, rfl⟩ rfl ?_
      refine RS_q_no retB_noPanic rfl rfl rfl ⟨_, rfl, rfl⟩ rfl ?_
      refine RS_e (RE_no rfl rfl rfl ⟨_, rfl, rfl⟩ rfl ?_)
      refine RM rfl (ev_pick_t rfl rfl rfl) ?_
      refine RS_nil ?_
      refine GN ?_
      refine G_cond_t rfl rfl ?_
      refine GN ?_
      refine G_region ?_
      refine GQ (ev_move rfl) ?_
      refine GQ (ev_loadN rfl LnA) ?_
      refine GE (eff_buildSlice1 (by rfl) rfl rfl) ?_; rintro _ _ ⟨b31, rfl, rfl⟩
      refine GE (eff_append rfl rfl PkA (by repeat' first | exact Rc.blk rfl | assumption | apply Rc.skip) (one_all rfl) (by rfl) (by decide) NgA NgA) ?_; rintro _ _ ⟨A32, c32, rfl, hc32, hm32, hn32, rfl⟩
      refine GQ (ev_assign rfl) ?_
      refine GO_nil ?_
      refine GN ?_
      refine G_region ?_
      (first | refine GQ (ev_addN (q := 1) rfl rfl NgA) ?_ | refine GQ (ev_add rfl rfl NgA) ?_)
      refine GQ (ev_move rfl) ?_
      refine GO_nil ?_
      refine GN ?_
      refine G_round (i + 1, A32, c32, [v]) ⟨by simp only; omega, hnx, fun _ => hn32 (by simp)⟩ (by simp only; omega) ⟨rfl, rfl, rfl, rfl, rfl, trivial⟩ EpA
    · obtain ⟨q', z, rfl⟩ : ∃ q' z, q = q' ++ [z] := by
        rcases List.eq_nil_or_concat q with h | ⟨a, b, h⟩
        · subst h; simp at h0
        · exact ⟨a, b, by simpa using h⟩
      have hlo : (q' ++ [z]).length = q'.length + 1 := by simp
      obtain ⟨ob, rfl⟩ := f3 h0
      have hg : (q' ++ [z])[q'.length]? = some z := by simp
      have hz0 : LdN (own 28 3 (some ⟨ob, 0, none⟩) (q'.length + 1) e (flat (q' ++ [z])) :: F :: L) ob (0 + q'.length * 3) 3 [.int .i64 z.id, .int .i64 z.x, .int .i64 z.y] := ld_ownP hlo hg _
      rw [hlo]
      refine GN ?_
      refine G_region ?_
      refine GQ (ev_move rfl) ?_
      refine GQ (ev_len rfl) ?_
      (first | refine GQ (ev_subN (q := 1) rfl rfl NgA) ?_ | refine GQ (ev_sub rfl rfl NgA) ?_)
      refine GQ (ev_assign rfl) ?_
      refine GO_nil ?_
      refine GN ?_
      refine G_draw (.q 0 (.q 1 (.q 2 (.q 3 (.q 4 (.q 5 (.q 6 (.q 7 (.q 8 (.e 9 (.q 10 .nil))))))))))) (by kernel_rfl) (by kernel_rfl) ?_
      refine RM rfl (ev_move rfl) ?_
      (first | refine RM rfl (ev_lssN (q := 0) rfl rfl) ?_ | refine RM rfl (ev_lss rfl rfl) ?_)
      refine RM rfl (ev_move rfl) ?_
      refine RS_m_yes retB_noPanic rfl rfl rfl rfl ⟨_, rfl, (decide_eq_false (by omega))⟩ rfl (ev_move rfl) ?_
      refine RS_m_yes retB_noPanic rfl rfl rfl rfl ⟨_, rfl, (decide_eq_false (by omega))⟩ rfl (ev_move rfl) ?_
      refine RS_m_yes retB_noPanic rfl rfl rfl rfl ⟨_, rfl, (decide_eq_false (by omega))⟩ rfl (ev_move rfl) ?_
      (first | refine RS_m_yes retB_noPanic rfl rfl rfl rfl ⟨_, rfl, (decide_eq_false (by omega))⟩ rfl (ev_indexAddrN rfl rfl NgA) ?_ | refine RS_m_yes retB_noPanic rfl rfl rfl rfl ⟨_, rfl, (decide_eq_false (by omega))⟩ rfl (ev_indexAddr rfl rfl NgA NgA) ?_)
      refine RS_q_yes retB_noPanic rfl rfl rfl rfl ⟨_, rfl, (decide_eq_false (by omega))⟩ rfl (ev_loadN rfl (by repeat' first | exact hz0 | apply LdN.skip)) ?_
      refine RS_q_yes retB_noPanic rfl rfl rfl rfl ⟨_, rfl, (decide_eq_false (by omega))⟩ rfl (ev_loadN rfl LnA) ?_
      refine RS_e (RE_eff_yes rfl rfl rfl ⟨_, rfl, (decide_eq_false (by omega))⟩ rfl (eff_callv rfl rfl (hf.ctr z v _)) ?_); rintro _ _ ⟨rfl, rfl⟩; refine ⟨_, fun _ s => s, ExA, ?_⟩
      refine RM rfl (ev_pick_f rfl (decide_eq_false (by omega)) rfl) ?_
      refine RS_nil ?_
      by_cases c2 : ls z v = true
      · have hnx : AscO ls (l.take (i + 1)) ∧ q' ++ [z] ++ [v] = l.take (i + 1) ∨ ¬ AscO ls (l.take (i + 1)) ∧ (q' ++ [z] ++ [v]).length < i + 1 := by
          rcases f2 with ⟨a, b⟩ | ⟨a, b⟩
          · left
            rw [s1, ← b]
            refine ⟨?_, rfl⟩
            rw [← b] at a
            unfold AscO at a ⊢
            rw [List.pairwise_append]
            refine ⟨a, by simp, fun x hx y hy => ?_⟩
            simp at hy; subst hy
            rcases List.mem_append.1 hx with hx | hx
            · rw [List.pairwise_append] at a
              exact o.tr (a.2.2 x hx z (by simp)) c2
            · simp at hx; subst hx; exact c2
          · right; refine ⟨fun h => a (hsub h), ?_⟩; rw [List.length_append]; simp only [List.length_singleton]; omega
        refine GN ?_
        refine G_cond_t rfl c2 ?_
        refine GN ?_
        refine G_region ?_
        refine GQ (ev_move rfl) ?_
        refine GQ (ev_loadN rfl LnA) ?_
        refine GE (eff_buildSlice1 (by rfl) rfl rfl) ?_; rintro _ _ ⟨b31, rfl, rfl⟩
        refine GE (eff_append rfl rfl PkA (by repeat' first | exact Rc.blk rfl | assumption | apply Rc.skip) (one_all rfl) (by rfl) (by decide) NgA NgA) ?_; rintro _ _ ⟨A32, c32, rfl, hc32, hm32, hn32, rfl⟩
        refine GQ (ev_assign rfl) ?_
        refine GO_nil ?_
        refine GN ?_
        refine G_region ?_
        (first | refine GQ (ev_addN (q := 1) rfl rfl NgA) ?_ | refine GQ (ev_add rfl rfl NgA) ?_)
        refine GQ (ev_move rfl) ?_
        refine GO_nil ?_
        refine GN ?_
        exact G_round (i + 1, A32, c32, q' ++ [z] ++ [v]) ⟨by simp only; omega, hnx, fun _ => hn32 (by omega)⟩ (by simp only; omega) ⟨rfl, by simp only [List.length_append, List.length_singleton]; rfl, rfl, rfl, rfl, trivial⟩ (by
          simp only [List.length_append, List.length_singleton]
          rw [flat_append (q' ++ [z]) [v]]
          exact EpA)
      · have hnx : AscO ls (l.take (i + 1)) ∧ q' ++ [z] = l.take (i + 1) ∨ ¬ AscO ls (l.take (i + 1)) ∧ (q' ++ [z]).length < i + 1 := by
          right
          rcases f2 with ⟨a, b⟩ | ⟨a, b⟩
          · refine ⟨fun h => c2 ?_, by omega⟩
            rw [s1, ← b] at h
            unfold AscO at h
            rw [List.pairwise_append] at h
            exact h.2.2 z (by simp) v (by simp)
          · exact ⟨fun h => a (hsub h), by omega⟩
        have c3 : ls z v = false := by simpa using c2
        refine GN ?_
        refine G_cond_f rfl c3 ?_
        refine GN ?_
        refine GN ?_
        refine G_region ?_
        (first | refine GQ (ev_addN (q := 1) rfl rfl NgA) ?_ | refine GQ (ev_add rfl rfl NgA) ?_)
        refine GQ (ev_move rfl) ?_
        refine GO_nil ?_
        refine GN ?_
        exact G_round (i + 1, some ⟨ob, 0, none⟩, e, q' ++ [z]) ⟨by simp only; omega, hnx, fun _ => ⟨ob, rfl⟩⟩ (by simp only; omega) ⟨rfl, by simp only [List.length_append, List.length_singleton]; rfl, rfl, rfl, rfl, trivial⟩ (by
          simp only [List.length_append, List.length_singleton]
          exact EpA)
  · have e0 : i = n := by omega
    subst e0
    rw [List.take_of_length_le (by omega)] at f2
    refine GN ?_
    refine G_region ?_
    refine GQ (ev_move rfl) ?_
    refine GQ (ev_assign rfl) ?_
    refine GO_nil ?_
    refine GN ?_
    exact G_ret (L' := own 28 3 O q.length e (flat q) :: L) rfl (.tmp rfl .nil) EpA ⟨q, f2, O, e, rfl, f3, rfl⟩
theorem build_ctr : ∀ (N : Nat) (A : Option Addr) (n c : Nat) (l : List Pt) (L : List HP) (_ : n ≤ N) (_ : Rd L A n l) (_ : n ≤ 100000) (_ : n ≤ c) (_ : c ≤ maxLen),
    Ctr Tryz.prog 99 #[.slice A n c] L fun v L' => ∃ T N', v = .pointer T.addr ∧ T.of l ∧ L' = N' ++ L ∧ RIn (N' ++ L) T := by
  intro N
  induction N using Nat.strongRecOn with
  | _ N ih =>
  intro A n c l L hN hl hn hc hc2
  have h1 : l.length = n := hl.len (by decide)
  rcases Nat.eq_zero_or_pos n with h0 | h0
  · subst h0
    have e0 : l = [] := List.eq_nil_of_length_eq_zero h1
    subst e0
    refine Ctr_of (fn := Tryz.f99) (n := 69) Tryz.func99 rfl rfl rfl ?_
    intro g F
    refine GN ?_
    refine G_region ?_
    refine GQ (ev_assign rfl) ?_
    refine GO_nil ?_
    refine GN ?_
    refine G_region ?_
    refine GQ (ev_move rfl) ?_
    refine GQ (ev_len rfl) ?_
    refine GQ (ev_eql rfl rfl) ?_
    refine GO_nil ?_
    refine GN ?_
    refine G_cond_t rfl rfl ?_
    refine GN ?_
    refine G_region ?_
    refine GQ (ev_assign rfl) ?_
    refine GO_nil ?_
    refine GN ?_
    exact G_ret (L' := [] ++ L) rfl (.tmp rfl .nil) EnA ⟨.nil, [], rfl, rfl, rfl, trivial⟩
  · obtain ⟨bb, o, rfl, hx⟩ := hl.at_ h0
    have g0 : l[0]? = some l[0] := List.getElem?_eq_getElem (by omega)
    have g1 : l[n - 1]? = some l[n - 1] := List.getElem?_eq_getElem (by omega)
    have g1' : l[l.length - 1]? = some l[n - 1] := (congrArg (fun k => l[k - 1]?) h1).trans g1
    have y0 := hx _ _ g0
    have y1 := hx _ _ g1
    have m1 := hl.take (k := (n + 1) / 2) (by omega)
    have m2 := hl.drop (k := (n + 1) / 2) (c := c) (by omega) hc
    by_cases h2 : n = 1
    · obtain ⟨p, rfl⟩ : ∃ p, l = [p] := by
        match l, h1 with
        | [p], _ => exact ⟨p, rfl⟩
        | [], h => simp at h; omega
        | _ :: _ :: _, h => simp at h; omega
      subst h2
      simp only [List.getElem_singleton] at *
      have z0 : LdN L bb (o + 0 * 3) 3 [.int .i64 p.id, .int .i64 p.x, .int .i64 p.y] := y0
      have z1 : Ld L ⟨bb, o + 0 * 3 + 1, none⟩ (.int .i64 p.x) := z0.at_ (i := 1) rfl
      have z2 : Ld L ⟨bb, o + (1 - 1) * 3 + 1, none⟩ (.int .i64 p.x) := z1
      refine Ctr_of (fn := Tryz.f99) (n := 69) Tryz.func99 rfl rfl rfl ?_
      intro g F
      refine GN ?_
      refine G_region ?_
      refine GQ (ev_assign rfl) ?_
      refine GO_nil ?_
      refine GN ?_
      refine G_region ?_
      refine GQ (ev_move rfl) ?_
      refine GQ (ev_len rfl) ?_
      refine GQ (ev_eql rfl rfl) ?_
      refine GO_nil ?_
      refine GN ?_
      refine G_cond_f rfl rfl ?_
      refine GN ?_
      refine G_draw (.q 0 (.q 1 (.q 2 (.q 3 (.q 4 (.q 5 (.q 6 (.q 7 (.q 8 (.q 9 (.q 10 (.q 11 (.e 12 (.q 13 .nil)))))))))))))) (by kernel_rfl) (by kernel_rfl) ?_
      refine RM rfl (ev_move rfl) ?_
      (first | refine RM rfl (ev_indexAddrN rfl rfl NgA) ?_ | refine RM rfl (ev_indexAddr rfl rfl NgA NgA) ?_)
      refine RM rfl (ev_fieldAddr rfl) ?_
      refine RQ rfl (ev_load rfl LdA) ?_
      refine RM rfl (ev_move rfl) ?_
      refine RM rfl (ev_move rfl) ?_
      refine RQ rfl (ev_len rfl) ?_
      (first | refine RM rfl (ev_subN (q := 1) rfl rfl NgA) ?_ | refine RM rfl (ev_sub rfl rfl NgA) ?_)
      (first | refine RM rfl (ev_indexAddrN rfl rfl NgA) ?_ | refine RM rfl (ev_indexAddr rfl rfl NgA NgA) ?_)
      refine RM rfl (ev_fieldAddr rfl) ?_
      refine RQ rfl (ev_load rfl LdA) ?_
      refine RM rfl (ev_build rfl rfl) ?_
      refine RS_e (RE_eff rfl rfl rfl (eff_box rfl) ?_); rintro _ _ ⟨b20, rfl, rfl⟩; refine ⟨_, fun _ s => s, ExA, ?_⟩
      refine RM rfl (ev_assign rfl) ?_
      refine RS_nil ?_
      refine GN ?_
      refine G_region ?_
      refine GQ (ev_move rfl) ?_
      refine GQ (ev_len rfl) ?_
      refine GQ (ev_eql rfl rfl) ?_
      refine GO_nil ?_
      refine GN ?_
      refine G_cond_t rfl rfl ?_
      refine GN ?_
      refine G_region ?_
      refine GQ (ev_move rfl) ?_
      refine GQ (ev_move rfl) ?_
      (first | refine GQ (ev_indexAddrN rfl rfl NgA) ?_ | refine GQ (ev_indexAddr rfl rfl NgA NgA) ?_)
      refine GQ (ev_loadN rfl LnA) ?_
      refine GE (eff_call rfl (Ctr.frame [blk b20 104 [.pointer none, .int .i64 p.x, .int .i64 p.x, .pointer none, .pointer none], F] (Leaf_ctr p L) (fun _ s => s))) ?_; rintro _ _ ⟨L1, ⟨q, N1, rfl, rfl, hq⟩, rfl⟩
      (first | refine GQ (ev_nilCheck rfl) ?_ | refine GQ (ev_nilCheckF (by simp) rfl) ?_)
      refine GQ (ev_fieldAddr rfl) ?_
      refine GE (eff_store rfl rfl rfl UpA) ?_; rintro _ _ ⟨rfl, rfl⟩
      refine GO_nil ?_
      refine GN ?_
      refine G_region ?_
      refine GQ (ev_move rfl) ?_
      refine GQ (ev_assign rfl) ?_
      refine GO_nil ?_
      refine GN ?_
      refine G_ret (L' := (blk b20 104 [.pointer q, .int .i64 p.x, .int .i64 p.x, .pointer none, .pointer none] :: N1) ++ L) rfl (.tmp rfl .nil) (fun _ s => s.swap) ⟨.node b20 q (leaf p) p.x p.x .nil .nil, _, rfl, ⟨⟨p, rfl, rfl⟩, ⟨p, rfl, rfl⟩, .inl ⟨p, rfl, rfl, rfl, rfl⟩⟩, rfl, LdN.blk rfl, hq.skip, trivial, trivial⟩
    · have i1 := ih ((n + 1) / 2) (by omega) _ ((n + 1) / 2) c _ L (Nat.le_refl _) m1 (by omega) (by omega) hc2
      have i2 := fun M => ih (n - (n + 1) / 2) (by omega) _ (n - (n + 1) / 2) (c - (n + 1) / 2) _ (M ++ L) (Nat.le_refl _) (m2.app (N := M)) (by omega) (by omega) (by omega)
      have k1 : (l.take ((n + 1) / 2)).length = (n + 1) / 2 := by rw [List.length_take]; omega
      have k2 : (l.drop ((n + 1) / 2)).length = n - (n + 1) / 2 := by rw [List.length_drop]; omega
      have hof : ∀ b q a lo hi, lo.of (l.take ((n + 1) / 2)) → hi.of (l.drop ((n + 1) / 2)) → a = join lo.arr hi.arr → (RT.node b q a l[0].x l[n - 1].x lo hi).of l := fun b q a lo hi hh1 hh2 hh3 => ⟨⟨_, g0, rfl⟩, ⟨_, g1', rfl⟩, .inr ⟨by omega, by rw [h1]; exact hh1, by rw [h1]; exact hh2, hh3⟩⟩
      generalize l[0] = pf at *
      generalize l[n - 1] = pg at *
      have z0 : LdN L bb (o + 0 * 3) 3 [.int .i64 pf.id, .int .i64 pf.x, .int .i64 pf.y] := y0
      have z1 : Ld L ⟨bb, o + 0 * 3 + 1, none⟩ (.int .i64 pf.x) := z0.at_ (i := 1) rfl
      have z3 : LdN L bb (o + (n - 1) * 3) 3 [.int .i64 pg.id, .int .i64 pg.x, .int .i64 pg.y] := y1
      have z2 : Ld L ⟨bb, o + (n - 1) * 3 + 1, none⟩ (.int .i64 pg.x) := z3.at_ (i := 1) rfl
      generalize l.take ((n + 1) / 2) = la at *
      generalize l.drop ((n + 1) / 2) = lb at *
      generalize hmid : (n + 1) / 2 = mid at *
      unfold maxLen at hc2
      refine Ctr_of (fn := Tryz.f99) (n := 69) Tryz.func99 rfl rfl rfl ?_
      intro g F
      refine GN ?_
      refine G_region ?_
      refine GQ (ev_assign rfl) ?_
      refine GO_nil ?_
      refine GN ?_
      refine G_region ?_
      refine GQ (ev_move rfl) ?_
      refine GQ (ev_len rfl) ?_
      refine GQ (ev_eql rfl rfl) ?_
      refine GO_nil ?_
      refine GN ?_
      refine G_cond_f rfl (decide_eq_false (by omega)) ?_
      refine GN ?_
      refine G_draw (.q 0 (.q 1 (.q 2 (.q 3 (.q 4 (.q 5 (.q 6 (.q 7 (.q 8 (.q 9 (.q 10 (.q 11 (.e 12 (.q 13 .nil)))))))))))))) (by kernel_rfl) (by kernel_rfl) ?_
      refine RM rfl (ev_move rfl) ?_
      (first | refine RM rfl (ev_indexAddrN rfl rfl NgA) ?_ | refine RM rfl (ev_indexAddr rfl rfl NgA NgA) ?_)
      refine RM rfl (ev_fieldAddr rfl) ?_
      refine RQ rfl (ev_load rfl LdA) ?_
      refine RM rfl (ev_move rfl) ?_
      refine RM rfl (ev_move rfl) ?_
      refine RQ rfl (ev_len rfl) ?_
      (first | refine RM rfl (ev_subN (q := 1) rfl rfl NgA) ?_ | refine RM rfl (ev_sub rfl rfl NgA) ?_)
      (first | refine RM rfl (ev_indexAddrN rfl rfl NgA) ?_ | refine RM rfl (ev_indexAddr rfl rfl NgA NgA) ?_)
      refine RM rfl (ev_fieldAddr rfl) ?_
      refine RQ rfl (ev_load rfl LdA) ?_
      refine RM rfl (ev_build rfl rfl) ?_
      refine RS_e (RE_eff rfl rfl rfl (eff_box rfl) ?_); rintro _ _ ⟨b20, rfl, rfl⟩; refine ⟨_, fun _ s => s, ExA, ?_⟩
      refine RM rfl (ev_assign rfl) ?_
      refine RS_nil ?_
      refine GN ?_
      refine G_region ?_
      refine GQ (ev_move rfl) ?_
      refine GQ (ev_len rfl) ?_
      refine GQ (ev_eql rfl rfl) ?_
      refine GO_nil ?_
      refine GN ?_
      refine G_cond_f rfl (decide_eq_false (by omega)) ?_
      refine GN ?_
      refine G_region ?_
      refine GQ (ev_move rfl) ?_
      refine GQ (ev_len rfl) ?_
      (first | refine GQ (ev_addN (q := 1) rfl rfl NgA) ?_ | refine GQ (ev_add rfl rfl NgA) ?_)
      refine GQ (ev_quoN (q := 2) rfl rfl (by omega) (by omega)) ?_
      rw [hmid]
      refine GQ (ev_assign rfl) ?_
      refine GO_nil ?_
      refine GN ?_
      refine G_draw (.q 0 (.q 1 (.q 2 (.q 3 (.q 5 (.q 6 (.q 7 (.e 4 (.e 8 (.q 9 (.q 10 (.q 11 (.e 12 .nil))))))))))))) (by kernel_rfl) (by kernel_rfl) ?_
      refine RM rfl (ev_move rfl) ?_
      refine RM rfl (ev_move rfl) ?_
      refine RM rfl (ev_move rfl) ?_
      refine RQ rfl (ev_sliceH rfl rfl NgA) ?_
      refine RM rfl (ev_move rfl) ?_
      refine RM rfl (ev_move rfl) ?_
      refine RQ rfl (ev_sliceL rfl rfl NgA NgA) ?_
      refine RS_e (RE_eff rfl rfl rfl (eff_call rfl (Ctr.frame [blk b20 104 [.pointer none, .int .i64 pf.x, .int .i64 pg.x, .pointer none, .pointer none], F] i1 (fun _ s => s))) ?_); rintro _ _ ⟨L1, ⟨T0, N0, rfl, o0, rfl, r0⟩, rfl⟩; refine ⟨_, fun _ s => s, ExA, ?_⟩
      refine RS_e (RE_eff rfl rfl rfl (eff_call rfl (Ctr.frame [blk b20 104 [.pointer none, .int .i64 pf.x, .int .i64 pg.x, .pointer none, .pointer none], F] (i2 N0) (fun _ s => s))) ?_); rintro _ _ ⟨L2, ⟨T1, N1, rfl, o1, rfl, r1⟩, rfl⟩; refine ⟨_, fun _ s => s, ExA, ?_⟩
      refine RM rfl (ev_buildA rfl rfl) ?_
      (first | refine RM rfl (ev_nilCheck rfl) ?_ | refine RM rfl (ev_nilCheckF (by simp) rfl) ?_)
      refine RM rfl (ev_fieldAddr rfl) ?_
      refine RS_e (RE_last (by kernel_rfl) rfl rfl rfl (eff_storeN rfl rfl rfl rfl UpA) ?_); rintro _ _ ⟨rfl, rfl⟩
      cases T0 with
      | nil =>
        have e9 : la = [] := o0
        subst e9
        simp at k1; omega
      | node b0 q0 a0 u0 v0 lo0 hi0 =>
        cases T1 with
        | nil =>
          have e9 : lb = [] := o1
          subst e9
          simp at k2; omega
        | node b1 q1 a1 u1 v1 lo1 hi1 =>
          have w0 : Ld (N1 ++ (N0 ++ L)) ⟨b0, 0 + 0, none⟩ (.pointer q0) := (r0.1.at_ (i := 0) rfl).app
          have w1 : Ld (N1 ++ (N0 ++ L)) ⟨b1, 0 + 0, none⟩ (.pointer q1) := r1.1.at_ (i := 0) rfl
          have l0 : a0.es.length ≤ 100000 := by have : a0.es.length = la.length := o0.len; omega
          have l1 : a1.es.length ≤ 100000 := by have : a1.es.length = lb.length := o1.len; omega
          have hj := Join_ctr q0 q1 a0 a1 (N1 ++ (N0 ++ L)) r0.2.1.app r1.2.1 l0 l1
          refine GN ?_
          refine G_draw (.q 0 (.q 1 (.q 2 (.q 3 (.q 4 (.q 5 (.q 6 (.q 7 (.q 8 (.q 9 (.q 10 (.q 11 (.q 12 (.q 13 (.q 14 (.q 15 (.q 16 (.e 17 (.q 18 (.q 19 (.e 20 .nil))))))))))))))))))))) (by kernel_rfl) (by kernel_rfl) ?_
          refine RM rfl (ev_move rfl) ?_
          refine RM rfl (ev_move rfl) ?_
          (first | refine RM rfl (ev_nilCheck rfl) ?_ | refine RM rfl (ev_nilCheckF (by simp) rfl) ?_)
          refine RM rfl (ev_fieldAddr rfl) ?_
          refine RM rfl (ev_indexAddrA rfl rfl NgA NgA) ?_
          refine RQ rfl (ev_load rfl LdA) ?_
          (first | refine RM rfl (ev_nilCheck rfl) ?_ | refine RM rfl (ev_nilCheckF (by simp) rfl) ?_)
          refine RM rfl (ev_fieldAddr rfl) ?_
          refine RQ rfl (ev_load rfl LdA) ?_
          refine RM rfl (ev_move rfl) ?_
          (first | refine RM rfl (ev_nilCheck rfl) ?_ | refine RM rfl (ev_nilCheckF (by simp) rfl) ?_)
          refine RM rfl (ev_fieldAddr rfl) ?_
          refine RM rfl (ev_indexAddrA rfl rfl NgA NgA) ?_
          refine RQ rfl (ev_load rfl LdA) ?_
          (first | refine RM rfl (ev_nilCheck rfl) ?_ | refine RM rfl (ev_nilCheckF (by simp) rfl) ?_)
          refine RM rfl (ev_fieldAddr rfl) ?_
          refine RQ rfl (ev_load rfl LdA) ?_
          refine RS_e (RE_eff rfl rfl rfl (eff_call rfl (Ctr.frame [blk b20 104 [.pointer none, .int .i64 pf.x, .int .i64 pg.x, .pointer (some ⟨b0, 0, none⟩), .pointer (some ⟨b1, 0, none⟩)], F] hj (fun _ s => s))) ?_); rintro _ _ ⟨L3, ⟨q, N2, rfl, rfl, hq⟩, rfl⟩; refine ⟨_, fun _ s => s, ExA, ?_⟩
          (first | refine RM rfl (ev_nilCheck rfl) ?_ | refine RM rfl (ev_nilCheckF (by simp) rfl) ?_)
          refine RM rfl (ev_fieldAddr rfl) ?_
          refine RS_e (RE_last (by kernel_rfl) rfl rfl rfl (eff_store rfl rfl rfl UpA) ?_); rintro _ _ ⟨rfl, rfl⟩
          refine GN ?_
          refine G_region ?_
          refine GQ (ev_move rfl) ?_
          refine GQ (ev_assign rfl) ?_
          refine GO_nil ?_
          refine GN ?_
          have e8 : (blk b20 104 [.pointer q, .int .i64 pf.x, .int .i64 pg.x, .pointer (some ⟨b0, 0, none⟩), .pointer (some ⟨b1, 0, none⟩)] :: (N2 ++ (N1 ++ N0))) ++ L = blk b20 104 [.pointer q, .int .i64 pf.x, .int .i64 pg.x, .pointer (some ⟨b0, 0, none⟩), .pointer (some ⟨b1, 0, none⟩)] :: (N2 ++ (N1 ++ (N0 ++ L))) := by simp
          refine G_ret (L' := (blk b20 104 [.pointer q, .int .i64 pf.x, .int .i64 pg.x, .pointer (some ⟨b0, 0, none⟩), .pointer (some ⟨b1, 0, none⟩)] :: (N2 ++ (N1 ++ N0))) ++ L) rfl (.tmp rfl .nil) (by rw [e8]; exact fun _ s => s.swap) ⟨.node b20 q (join a0 a1) pf.x pg.x (.node b0 q0 a0 u0 v0 lo0 hi0) (.node b1 q1 a1 u1 v1 lo1 hi1), _, rfl, hof _ _ _ _ _ o0 o1 rfl, rfl, ?_⟩
          rw [e8]
          exact ⟨LdN.blk rfl, hq.skip, r0.app.app.skip, r1.app.skip⟩
end Go.Proofs.YtkoncepjfgnjlaaGreat
/- Points in several trees: what is known of them. -/
namespace Go.Proofs.YtkoncepjfgnjlaaGreat
attribute [local irreducible] sat
open Go.RowKit
set_option linter.unusedVariables false
set_option linter.unusedSimpArgs false
set_option maxRecDepth 100000

instance : MapT Tryz.prog 67 (28, 4) := ⟨by kernel_rfl⟩
instance : KeyPt Tryz.prog 28 := ⟨by kernel_rfl⟩
instance : ZeroF Tryz.prog 4 := ⟨by kernel_rfl⟩
@[reducible] def Bx.v (b : Bx) : Value := .agg #[.int .i64 b.x1, .int .i64 b.x2, .int .i64 b.y1, .int .i64 b.y2]
@[reducible] def lsC (A : Option Addr) (n c b : Nat) (gone most built : Int) : List Value := [.slice A n c, .map (some b), .int .i64 gone, .int .i64 most, .int .i64 built]
section
variable {s b n c : Nat} {A : Option Addr} {most built : Int} {gone : Nat} {M : List (Pt × Bool)} {L : List HP}
theorem lgLive_ctr (h : LdN L s 0 5 (lsC A n c b (gone : Nat) most built)) (hm : Mp L b M) (hg : gone ≤ M.length) (hb : M.length ≤ 1000000) : Ctr Tryz.prog 35 #[.pointer (some ⟨s, 0, none⟩)] L fun v L' => v = .int .i64 (M.length - gone : Nat) ∧ L' = L := by
  have h1 : Ld L ⟨s, 0 + 1, none⟩ (.map (some b)) := h.at_ (i := 1) rfl
  have h2 : Ld L ⟨s, 0 + 2, none⟩ (.int .i64 (gone : Nat)) := h.at_ (i := 2) rfl
  have hm1 : ∀ X, Mp (X :: L) b M := fun X => hm.skip
  refine Ctr_of (fn := Tryz.f35) (n := 15) Tryz.func35 rfl rfl rfl ?_
  intro g F
  refine GN ?_
  refine G_region ?_
  refine GQ (ev_assign rfl) ?_
  refine GO_nil ?_
  refine GN ?_
  refine G_region ?_
  refine GQ (ev_move rfl) ?_
  (first | refine GQ (ev_eqlNil rfl rfl) ?_ | refine GQ (ev_eqlPtr rfl rfl) ?_)
  refine GO_nil ?_
  refine GN ?_
  refine G_cond_f rfl rfl ?_
  refine GN ?_
  refine G_draw (.q 0 (.q 1 (.q 2 (.q 3 (.q 4 (.q 5 (.q 6 (.q 7 (.q 8 (.q 9 (.q 10 .nil))))))))))) (by kernel_rfl) (by kernel_rfl) ?_
  refine RM rfl (ev_move rfl) ?_
  (first | refine RM rfl (ev_nilCheck rfl) ?_ | refine RM rfl (ev_nilCheckF (by simp) rfl) ?_)
  refine RM rfl (ev_fieldAddr rfl) ?_
  refine RQ rfl (ev_load rfl LdA) ?_
  refine RQ rfl (ev_lenM rfl (hm1 _)) ?_
  refine RM rfl (ev_move rfl) ?_
  (first | refine RM rfl (ev_nilCheck rfl) ?_ | refine RM rfl (ev_nilCheckF (by simp) rfl) ?_)
  refine RM rfl (ev_fieldAddr rfl) ?_
  refine RQ rfl (ev_load rfl LdA) ?_
  refine RM rfl (ev_subN rfl rfl (by omega)) ?_
  refine RM rfl (ev_assign rfl) ?_
  refine RS_nil ?_
  all_goals
    refine GN ?_
    refine G_ret rfl (.tmp rfl .nil) EnA ⟨rfl, rfl⟩
theorem lgKnown_ctr (p : Pt) (h : LdN L s 0 5 (lsC A n c b (gone : Nat) most built)) (hm : Mp L b M) : Ctr Tryz.prog 36 #[.pointer (some ⟨s, 0, none⟩), p.v] L fun v L' => v = .tuple #[.bool ((getM p M).getD false), .bool (getM p M).isSome] ∧ L' = L := by
  have h1 : Ld L ⟨s, 0 + 1, none⟩ (.map (some b)) := h.at_ (i := 1) rfl
  have hm2 : ∀ X Y, Mp (X :: Y :: L) b M := fun X Y => hm.skip.skip
  refine Ctr_of (fn := Tryz.f36) (n := 19) Tryz.func36 rfl rfl rfl ?_
  intro g F
  refine GN ?_
  refine G_region ?_
  refine GE (eff_box rfl) ?_; rintro _ _ ⟨b3, rfl, rfl⟩
  refine GQ (ev_assign rfl) ?_
  refine GQ (ev_assign rfl) ?_
  refine GO_nil ?_
  refine GN ?_
  refine G_region ?_
  refine GQ (ev_move rfl) ?_
  (first | refine GQ (ev_eqlNil rfl rfl) ?_ | refine GQ (ev_eqlPtr rfl rfl) ?_)
  refine GO_nil ?_
  refine GN ?_
  refine G_cond_f rfl rfl ?_
  refine GN ?_
  refine G_draw (.q 0 (.q 1 (.q 2 (.q 3 (.q 4 (.q 5 (.q 6 (.q 7 (.q 8 (.q 9 (.q 10 .nil))))))))))) (by kernel_rfl) (by kernel_rfl) ?_
  refine RM rfl (ev_move rfl) ?_
  (first | refine RM rfl (ev_nilCheck rfl) ?_ | refine RM rfl (ev_nilCheckF (by simp) rfl) ?_)
  refine RM rfl (ev_fieldAddr rfl) ?_
  refine RQ rfl (ev_load rfl LdA) ?_
  refine RQ rfl (ev_loadN rfl LnA) ?_
  refine RQ rfl (ev_lookup (p := p) rfl rfl (hm2 _ _)) ?_
  refine RM rfl (ev_move rfl) ?_
  refine RM rfl (ev_extract rfl rfl) ?_
  refine RM rfl (ev_extract rfl rfl) ?_
  refine RM rfl (ev_assign rfl) ?_
  refine RM rfl (ev_assign rfl) ?_
  refine RS_nil ?_
  all_goals
    refine GN ?_
    refine G_region ?_
    refine GQ (ev_move rfl) ?_
    refine GQ (ev_move rfl) ?_
    refine GQ (ev_assign rfl) ?_
    refine GQ (ev_assign rfl) ?_
    refine GO_nil ?_
    refine GN ?_
    refine G_ret rfl (.tmp rfl (.tmp rfl .nil)) EnA ⟨rfl, rfl⟩
theorem lghas_ctr (p : Pt) (h : LdN L s 0 5 (lsC A n c b (gone : Nat) most built)) (hm : Mp L b M) : Ctr Tryz.prog 34 #[.pointer (some ⟨s, 0, none⟩), p.v] L fun v L' => v = .bool (decide (getM p M = some false)) ∧ L' = L := by
  have hk := fun X Y => lgKnown_ctr (L := X :: Y :: L) p h.skip.skip hm.skip.skip
  generalize getM p M = q at *
  refine Ctr_of (fn := Tryz.f34) (n := 18) Tryz.func34 rfl rfl rfl ?_
  intro g F
  refine GN ?_
  refine G_region ?_
  refine GE (eff_box rfl) ?_; rintro _ _ ⟨b3, rfl, rfl⟩
  refine GQ (ev_assign rfl) ?_
  refine GO_nil ?_
  refine GN ?_
  refine G_region ?_
  refine GQ (ev_move rfl) ?_
  refine GQ (ev_loadN rfl LnA) ?_
  refine GE (eff_call rfl (hk _ _)) ?_; rintro _ _ ⟨rfl, rfl⟩
  refine GQ (ev_move rfl) ?_
  refine GQ (ev_extract rfl rfl) ?_
  refine GQ (ev_extract rfl rfl) ?_
  refine GQ (ev_assign rfl) ?_
  refine GQ (ev_assign rfl) ?_
  refine GO_nil ?_
  rcases q with _ | (_ | _)
  · refine GN ?_
    refine G_region ?_
    refine GQ (ev_move rfl) ?_
    refine GQ (ev_move rfl) ?_
    refine GO_no rfl rfl rfl rfl ?_
    refine GO_no rfl rfl rfl rfl ?_
    refine GQ (ev_pick_f rfl rfl rfl) ?_
    refine GQ (ev_assign rfl) ?_
    refine GO_nil ?_
    refine GN ?_
    refine G_ret rfl (.tmp rfl .nil) EnA ⟨rfl, rfl⟩
  · refine GN ?_
    refine G_region ?_
    refine GQ (ev_move rfl) ?_
    refine GQ (ev_move rfl) ?_
    refine GO_yes rfl rfl rfl rfl ?_
    refine GQ (ev_move rfl) ?_
    refine GO_yes rfl rfl rfl rfl ?_
    (first | refine GQ (ev_notP rfl) ?_ | refine GQ (ev_not rfl) ?_)
    refine GQ (ev_pick_t rfl rfl rfl) ?_
    refine GQ (ev_assign rfl) ?_
    refine GO_nil ?_
    refine GN ?_
    refine G_ret rfl (.tmp rfl .nil) EnA ⟨rfl, rfl⟩
  · refine GN ?_
    refine G_region ?_
    refine GQ (ev_move rfl) ?_
    refine GQ (ev_move rfl) ?_
    refine GO_yes rfl rfl rfl rfl ?_
    refine GQ (ev_move rfl) ?_
    refine GO_yes rfl rfl rfl rfl ?_
    (first | refine GQ (ev_notP rfl) ?_ | refine GQ (ev_not rfl) ?_)
    refine GQ (ev_pick_t rfl rfl rfl) ?_
    refine GQ (ev_assign rfl) ?_
    refine GO_nil ?_
    refine GN ?_
    refine G_ret rfl (.tmp rfl .nil) EnA ⟨rfl, rfl⟩
end
/-- Those that are not dead. -/
def alv (M : List (Pt × Bool)) : List Pt := (M.filter fun x => !x.2).map (·.1)
theorem alv_cons (x : Pt × Bool) (M : List (Pt × Bool)) : alv (x :: M) = (if x.2 then [] else [x.1]) ++ alv M := by
  unfold alv; rw [List.filter_cons]; cases x.2 <;> simp
theorem alv_app (M N : List (Pt × Bool)) : alv (M ++ N) = alv M ++ alv N := by simp [alv]
theorem alv_mid (A C : List (Pt × Bool)) (u : Pt × Bool) : ((if u.2 then [] else [u.1]) ++ alv (A ++ C)).Perm (alv (A ++ u :: C)) := by
  rw [alv_app, alv_app, alv_cons, ← List.append_assoc, ← List.append_assoc]
  exact (List.perm_append_comm).append_right _
theorem lgAll_ctr (s b n c : Nat) (A : Option Addr) (most built : Int) (gone : Nat) (M : List (Pt × Bool)) (L : List HP) (h : LdN L s 0 5 (lsC A n c b (gone : Nat) most built)) (hn : M.length ≤ 100000) :
    Ctr Tryz.prog 92 #[.pointer (some ⟨s, 0, none⟩)] (mpH b M :: L) fun v L' => Made 28 (srtO Pt.less (alv M)) (mpH b M :: L) v L' := by
  have h1 : Ld L ⟨s, 0 + 1, none⟩ (.map (some b)) := h.at_ (i := 1) rfl
  refine Ctr_of (fn := Tryz.f92) (n := 24) Tryz.func92 rfl rfl rfl ?_
  intro g F
  refine GN ?_
  refine G_region ?_
  refine GQ (ev_assign rfl) ?_
  refine GO_nil ?_
  refine GN ?_
  refine G_region ?_
  refine GQ (ev_assign rfl) ?_
  refine GO_nil ?_
  refine GN ?_
  refine G_region ?_
  refine GQ (ev_move rfl) ?_
  (first | refine GQ (ev_nilCheck rfl) ?_ | refine GQ (ev_nilCheckF (by simp) rfl) ?_)
  refine GQ (ev_fieldAddr rfl) ?_
  refine GQ (ev_load rfl LdA) ?_
  refine GE (eff_range rfl PkA) ?_; rintro _ _ ⟨b10, rfl, rfl⟩
  refine GO_nil ?_
  refine GN ?_
  refine G_heap (own.nil_ 28 3) ?_
  refine G_loop (ι := List (Pt × Bool) × Option (Pt × Bool) × Option Addr × Nat × List Pt) (fun y => [(3, .slice y.2.2.1 y.2.2.2.2.length y.2.2.2.1), (10, .pointer (some ⟨b10, 0, none⟩))]) (fun y => own 28 3 y.2.2.1 y.2.2.2.2.length y.2.2.2.1 (flat y.2.2.2.2) :: rgH b10 b M y.1 y.2.1 :: F :: L)
    (fun y => (y.2.2.2.2 ++ alv y.1).Perm (alv M) ∧ y.2.2.2.2.length + y.1.length ≤ M.length ∧ (0 < y.2.2.2.2.length → ∃ b, y.2.2.1 = some ⟨b, 0, none⟩) ∧ y.2.2.2.2.length ≤ y.2.2.2.1 ∧ y.2.2.2.1 ≤ maxLen) (fun y => y.1.length) (M, none, none, 0, []) ⟨.refl _, by simp, (fun h => absurd h (Nat.lt_irrefl 0)), Nat.le_refl _, Nat.zero_le _⟩ ⟨rfl, rfl, trivial⟩ EpA ?_
  rintro ⟨R, q, B, d, out⟩ ⟨f1, f2, f3, f4, f5⟩
  simp only at f1 f2 f3 f4 f5
  dsimp only
  cases R with
  | nil =>
    refine GN ?_
    refine G_region ?_
    refine GE (eff_nextN rfl PkA) ?_; rintro _ _ ⟨rfl, rfl⟩
    refine GQ (ev_extract rfl rfl) ?_
    refine GO_nil ?_
    refine GN ?_
    refine G_cond_f rfl rfl ?_
    have hp : out.Perm (alv M) := by simpa [alv] using f1
    have e : srtO Pt.less out = srtO Pt.less (alv M) := srtO_eq sto_less (srtO_sorted sto_less out) ((srtO_perm out).trans hp)
    have hs := fun X hX => SortO_ctr sto_less less_ls B out.length d out X hX (by simp at f2; omega) f4
    rw [e] at hs
    refine GN ?_
    refine G_region ?_
    refine GQ (ev_move rfl) ?_
    refine GE (eff_call rfl (hs _ (by repeat' first | exact Rc.own (flat_length _) f3 | apply Rd.skip))) ?_; rintro _ _ ⟨A9, c9, rfl, hA9, rfl⟩
    refine GQ (ev_assign rfl) ?_
    refine GO_nil ?_
    refine GN ?_
    exact G_ret (L' := own 28 3 A9 (srtO Pt.less (alv M)).length c9 (flat (srtO Pt.less (alv M))) :: mpH b M :: L) rfl (.tmp rfl .nil) (by (repeat first | exact en_refl | apply en_rg | (apply en_blk; focus ((repeat' first | exact Pick.here | apply Pick.skip | apply Pick.app); done); focus rfl) | (apply en_own; focus ((repeat' first | exact Pick.here | apply Pick.skip | apply Pick.app); done); focus rfl) | (apply en_pick; focus ((repeat' first | exact Pick.here | apply Pick.skip | apply Pick.app); done)) | apply en_drop | apply en_app) <;> fail) ⟨A9, c9, rfl, hA9, rfl⟩
  | cons u0 R =>
    refine GN ?_
    refine G_region ?_
    refine GE (eff_nextC rfl PkA) ?_; rintro _ _ ⟨R1, u, R2, eR, rfl, rfl⟩
    refine GQ (ev_extract rfl rfl) ?_
    refine GO_nil ?_
    refine GN ?_
    refine G_cond_t rfl rfl ?_
    have hl : R.length + 1 = R1.length + (R2.length + 1) := by
      have := congrArg List.length eR
      simpa using this
    have hpm := alv_mid R1 R2 u
    rw [← eR] at hpm
    obtain ⟨up, ud⟩ := u
    simp only [List.length_cons] at f2
    refine GN ?_
    refine G_region ?_
    refine GQ (ev_entry rfl (by repeat' first | exact Rg.here | apply Rg.skip)) ?_
    refine GQ (ev_extract rfl rfl) ?_
    refine GQ (ev_extract rfl rfl) ?_
    refine GE eff_alloc ?_; rintro _ _ ⟨b4, rfl, rfl⟩
    refine GE (eff_storeN rfl rfl rfl rfl UpA) ?_; rintro _ _ ⟨rfl, rfl⟩
    refine GQ (ev_assign rfl) ?_
    refine GO_nil ?_
    refine GN ?_
    refine G_region ?_
    refine GQ (ev_move rfl) ?_
    refine GQ (ev_not rfl) ?_
    refine GO_nil ?_
    cases ud with
    | true =>
      refine GN ?_
      refine G_cond_f rfl rfl ?_
      refine GN ?_
      exact G_round (R1 ++ R2, some (up, true), B, d, out) ⟨(hpm.append_left out).trans f1, by simp; omega, f3, f4, f5⟩ (by simp; omega) ⟨rfl, rfl, trivial⟩ EpA
    | false =>
      refine GN ?_
      refine G_cond_t rfl rfl ?_
      refine GN ?_
      refine G_region ?_
      refine GQ (ev_move rfl) ?_
      refine GQ (ev_loadN rfl LnA) ?_
      refine GE (eff_buildSlice1 (by rfl) rfl rfl) ?_; rintro _ _ ⟨b20, rfl, rfl⟩
      refine GE (eff_append rfl rfl PkA (by repeat' first | exact Rc.blk rfl | assumption | apply Rc.skip) (one_all rfl) (by rfl) (by decide) NgA NgA) ?_; rintro _ _ ⟨A21, c21, rfl, hc21, hm21, hn21, rfl⟩
      refine GQ (ev_assign rfl) ?_
      refine GO_nil ?_
      refine GN ?_
      refine G_round (R1 ++ R2, some (up, false), A21, c21, out ++ [up]) ⟨?_, by simp; omega, by simpa using hn21, by simpa using hc21, hm21⟩ (by simp; omega) ⟨by simp only [List.length_append, List.length_singleton]; rfl, rfl, trivial⟩ ?_
      · show ((out ++ [up]) ++ alv (R1 ++ R2)).Perm (alv M)
        rw [List.append_assoc]
        exact (hpm.append_left out).trans f1
      · simp only [List.length_append, List.length_singleton]
        rw [← flat_snoc]
        exact EpA
end Go.Proofs.YtkoncepjfgnjlaaGreat
/- Cells, and a tree of cells at whose nodes lie intervals: the plain part. An interval is told as a point is: id, lo, hi. -/
namespace Go.Proofs.YtkoncepjfgnjlaaGreat
set_option linter.unusedVariables false
set_option linter.unusedSimpArgs false

/-- Numbers, each once, rising. -/
def Up (R : List Int) : Prop := R.Pairwise (· < ·)
def hasR (R : List Int) (v : Int) : Bool := decide (v ∈ R)
/-- How many are below. -/
def low (R : List Int) (x : Int) : Nat := R.countP (fun y => decide (y < x))
def cellR (R : List Int) (x : Int) : Nat := if x ∈ R then 2 * low R x + 1 else 2 * low R x
/-- A tree of cells, and where it lies. -/
inductive SA where
  | nil
  | node (b : Nat) (f t : Nat) (A : Option Addr) (c : Nat) (l : List Pt) (lo hi : SA)
def inn (q : Pt → Nat × Nat) (s : Pt) (f t : Nat) : Bool := decide ((q s).1 ≤ f) && decide (t ≤ (q s).2)
/-- A tree of cells f .. t that has some intervals, but for those that lie further up. -/
def SgOk (q : Pt → Nat × Nat) (l : List Pt) : SA → Nat → Nat → (Pt → Bool) → Prop
  | .nil, _, _, _ => False
  | .node _ f' t' _ _ m lo hi, f, t, o => f' = f ∧ t' = t ∧ m = l.filter (fun s => inn q s f t && !o s) ∧
    (f < t ∧ SgOk q l lo f (f + (t - f) / 2) (fun s => inn q s f t) ∧ SgOk q l hi (f + (t - f) / 2 + 1) t (fun s => inn q s f t) ∨ f = t ∧ lo = .nil ∧ hi = .nil)
theorem SgOk.le {q : Pt → Nat × Nat} {l : List Pt} {X : SA} {f t : Nat} {o : Pt → Bool} (h : SgOk q l X f t o) : f ≤ t := by
  cases X with
  | nil => cases h
  | node b f' t' A c m lo hi => obtain ⟨_, _, _, h | h⟩ := h <;> omega
/-- The nodes at which what goes from one cell to another one lies. -/
def SA.at_ (x y : Nat) (g : Nat → Nat → List Pt → Nat) : SA → Nat
  | .nil => 0
  | .node _ f t _ _ l lo hi => if y < f ∨ t < x then 0 else if x ≤ f ∧ t ≤ y then g f t l else lo.at_ x y g + hi.at_ x y g
def SA.addr : SA → Option Addr
  | .nil => none
  | .node b _ _ _ _ _ _ _ => some ⟨b, 0, none⟩
/-- What is true at all nodes. -/
def SA.each (P : Nat → Nat → Option Addr → Nat → List Pt → Prop) : SA → Prop
  | .nil => True
  | .node _ f t A c l lo hi => P f t A c l ∧ lo.each P ∧ hi.each P
theorem SA.each.mono {P Q : Nat → Nat → Option Addr → Nat → List Pt → Prop} (h : ∀ f t A c l, P f t A c l → Q f t A c l) : ∀ {X : SA}, X.each P → X.each Q
  | .nil, _ => trivial
  | .node _ _ _ _ _ _ _ _, ⟨a, b, c⟩ => ⟨h _ _ _ _ _ a, b.mono h, c.mono h⟩
theorem SA.each.and {P Q : Nat → Nat → Option Addr → Nat → List Pt → Prop} : ∀ {X : SA}, X.each P → X.each Q → X.each fun f t A c l => P f t A c l ∧ Q f t A c l
  | .nil, _, _ => trivial
  | .node _ _ _ _ _ _ _ _, ⟨a, b, c⟩, ⟨a', b', c'⟩ => ⟨⟨a, a'⟩, b.and b', c.and c'⟩
/-- What becomes of a tree, where the lists of those nodes are changed. -/
def Laid (x y : Nat) (G : Option Addr → Nat → List Pt → Option Addr → Nat → List Pt → Prop) : SA → SA → Prop
  | .nil, Y => Y = .nil
  | .node b f t A c l lo hi, Y => if y < f ∨ t < x then Y = .node b f t A c l lo hi else if x ≤ f ∧ t ≤ y then ∃ A' c' l', G A c l A' c' l' ∧ Y = .node b f t A' c' l' lo hi
    else ∃ lo' hi', Laid x y G lo lo' ∧ Laid x y G hi hi' ∧ Y = .node b f t A c l lo' hi'
theorem Laid.addr {x y : Nat} {G : Option Addr → Nat → List Pt → Option Addr → Nat → List Pt → Prop} {X Y : SA} (h : Laid x y G X Y) : Y.addr = X.addr := by
  cases X with
  | nil => cases h; rfl
  | node b f t A c l lo hi =>
    unfold Laid at h
    split at h
    · subst h; rfl
    · split at h
      · obtain ⟨_, _, _, _, rfl⟩ := h; rfl
      · obtain ⟨_, _, _, _, rfl⟩ := h; rfl
theorem Laid.each {x y : Nat} {G : Option Addr → Nat → List Pt → Option Addr → Nat → List Pt → Prop} {P : Nat → Nat → Option Addr → Nat → List Pt → Prop} (hG : ∀ f t A c l A' c' l', P f t A c l → G A c l A' c' l' → P f t A' c' l') : ∀ {X Y : SA}, Laid x y G X Y → X.each P → Y.each P
  | .nil, _, h, _ => by cases h; trivial
  | .node b f t A c l lo hi, Y, h, ⟨a1, a2, a3⟩ => by
    unfold Laid at h
    split at h
    · subst h; exact ⟨a1, a2, a3⟩
    · split at h
      · obtain ⟨_, _, _, g, rfl⟩ := h; exact ⟨hG _ _ _ _ _ _ _ _ a1 g, a2, a3⟩
      · obtain ⟨_, _, h1, h2, rfl⟩ := h; exact ⟨a1, h1.each hG a2, h2.each hG a3⟩
/-- Two lists that differ in one interval, which does not lie here. -/
theorem SgOk.away {q : Pt → Nat × Nat} {l m : List Pt} {s : Pt} (hm : ∀ p : Pt → Bool, p s = false → m.filter p = l.filter p) (hs : (q s).1 ≤ (q s).2) : ∀ {X : SA} {f t : Nat} {o : Pt → Bool}, SgOk q l X f t o →
    (((q s).2 < f ∨ t < (q s).1) ∨ o s = true ∧ inn q s f t = true) → SgOk q m X f t o
  | .nil, _, _, _, h, _ => h
  | .node b f' t' A c k lo hi, f, t, o, ⟨h1, h2, h3, h4⟩, ha => by
    have hle : f ≤ t := by rcases h4 with h | h <;> omega
    have hz : (inn q s f t && !o s) = false := by
      rcases ha with h | ⟨h, _⟩
      · have : inn q s f t = false := by
          unfold inn
          rcases h with h | h
          · by_cases h5 : t ≤ (q s).2
            · omega
            · simp [h5]
          · by_cases h5 : (q s).1 ≤ f
            · omega
            · simp [h5]
        simp [this]
      · simp [h]
    refine ⟨h1, h2, by rw [h3, hm _ hz], ?_⟩
    rcases h4 with ⟨h4, h5, h6⟩ | h4
    · refine .inl ⟨h4, h5.away hm hs ?_, h6.away hm hs ?_⟩
      · rcases ha with h | ⟨_, h⟩
        · left; omega
        · right; refine ⟨h, ?_⟩; unfold inn at h ⊢; simp at h ⊢; omega
      · rcases ha with h | ⟨_, h⟩
        · left; omega
        · right; refine ⟨h, ?_⟩; unfold inn at h ⊢; simp at h ⊢; omega
    · exact .inr h4
theorem SgOk.laid {q : Pt → Nat × Nat} {l m : List Pt} {s : Pt} {g : List Pt → List Pt} {G : Option Addr → Nat → List Pt → Option Addr → Nat → List Pt → Prop} (hG : ∀ A c l A' c' l', G A c l A' c' l' → l' = g l) (hm : ∀ p : Pt → Bool, p s = false → m.filter p = l.filter p) (hp : ∀ p : Pt → Bool, p s = true → m.filter p = g (l.filter p)) (hs : (q s).1 ≤ (q s).2) : ∀ {X Y : SA} {f t : Nat} {o : Pt → Bool}, SgOk q l X f t o →
    o s = false → Laid (q s).1 (q s).2 G X Y → SgOk q m Y f t o
  | .nil, _, _, _, _, h, _, _ => by cases h
  | .node b f' t' A c k lo hi, Y, f, t, o, ⟨h1, h2, h3, h4⟩, ho, hl => by
    subst h1 h2
    unfold Laid at hl
    split at hl
    · rename_i hd
      subst hl
      exact SgOk.away hm hs ⟨rfl, rfl, h3, h4⟩ (.inl hd)
    · rename_i hd
      split at hl
      · rename_i hi
        obtain ⟨A', c', l', hg, rfl⟩ := hl
        have hg := hG _ _ _ _ _ _ hg
        subst hg
        have hi' : inn q s f' t' = true := by unfold inn; simp [hi]
        refine ⟨rfl, rfl, by rw [hp _ (by simp [hi', ho]), h3], ?_⟩
        rcases h4 with ⟨h4, h5, h6⟩ | h4
        · refine .inl ⟨h4, h5.away hm hs (.inr ⟨hi', ?_⟩), h6.away hm hs (.inr ⟨hi', ?_⟩)⟩
          · unfold inn; simp; omega
          · unfold inn; simp; omega
        · exact .inr h4
      · rename_i hi
        have hi' : inn q s f' t' = false := by
          cases hb : inn q s f' t' with
          | false => rfl
          | true => unfold inn at hb; simp at hb; exact absurd hb hi
        obtain ⟨lo', hi2, hl1, hl2, rfl⟩ := hl
        refine ⟨rfl, rfl, by rw [hm _ (by simp [hi']), h3], ?_⟩
        rcases h4 with ⟨h4, h5, h6⟩ | ⟨h4, h5, h6⟩
        · exact .inl ⟨h4, h5.laid hG hm hp hs hi' hl1, h6.laid hG hm hp hs hi' hl2⟩
        · subst h5 h6
          exact .inr ⟨h4, hl1, hl2⟩
/-- What lies on the way to a cell. -/
def SA.way (c : Nat) : SA → List Pt
  | .nil => []
  | .node _ f t _ _ l lo hi => if f ≤ c ∧ c ≤ t then l ++ (lo.way c ++ hi.way c) else []
theorem perm_split {α : Type} (p r : α → Bool) : ∀ (l : List α), (∀ s ∈ l, p s = true → r s = true → False) → (l.filter p ++ l.filter r).Perm (l.filter fun s => p s || r s)
  | [], _ => .nil
  | a :: l, h => by
    have ih := perm_split p r l fun s hs => h s (by simp [hs])
    have ha := h a (by simp)
    cases h1 : p a <;> cases h2 : r a
    · simpa [h1, h2] using ih
    · simp only [List.filter_cons, h1, h2, Bool.false_eq_true, if_false, if_true, Bool.or_true]
      exact List.perm_middle.trans (ih.cons a)
    · simp only [List.filter_cons, h1, h2, Bool.false_eq_true, if_false, if_true, Bool.true_or, List.cons_append]
      exact ih.cons a
    · exact absurd (ha h1 h2) id
theorem way_off {q : Pt → Nat × Nat} {l : List Pt} {X : SA} {f t c : Nat} {o : Pt → Bool} (h : SgOk q l X f t o) (hc : c < f ∨ t < c) : X.way c = [] := by
  cases X with
  | nil => rfl
  | node b f' t' A d k lo hi =>
    obtain ⟨h1, h2, _⟩ := h
    subst h1 h2
    unfold SA.way
    rw [if_neg (by omega)]
theorem SgOk.way {q : Pt → Nat × Nat} {l : List Pt} {c : Nat} : ∀ {X : SA} {f t : Nat} {o : Pt → Bool}, SgOk q l X f t o → (∀ s ∈ l, o s = true → inn q s f t = true) → f ≤ c → c ≤ t →
    (X.way c).Perm (l.filter fun s => inn q s c c && !o s)
  | .nil, _, _, _, h, _, _, _ => by cases h
  | .node b f' t' A d k lo hi, f, t, o, ⟨h1, h2, h3, h4⟩, ho, hc1, hc2 => by
    subst h1 h2
    unfold SA.way
    rw [if_pos ⟨hc1, hc2⟩]
    have key : (lo.way c ++ hi.way c).Perm (l.filter fun s => inn q s c c && !inn q s f' t') := by
      rcases h4 with ⟨h4, h5, h6⟩ | ⟨h4, h5, h6⟩
      · rcases Nat.lt_or_ge (f' + (t' - f') / 2) c with hm | hm
        · rw [way_off h5 (.inr hm), List.nil_append]
          exact h6.way (fun s _ h => by unfold inn at h ⊢; simp at h ⊢; omega) (by omega) hc2
        · rw [way_off h6 (.inl (by omega)), List.append_nil]
          exact h5.way (fun s _ h => by unfold inn at h ⊢; simp at h ⊢; omega) hc1 hm
      · subst h5 h6
        have : c = f' := by omega
        subst this
        subst h4
        have : (l.filter fun s => inn q s c c && !inn q s c c) = [] := by
          rw [List.filter_eq_nil_iff]; intro a _; simp
        rw [this]; exact .nil
    rw [h3]
    refine (List.Perm.append_left _ key).trans ?_
    refine (perm_split _ _ l fun s _ h h' => by simp at h h'; rw [h.1] at h'; cases h'.2).trans ?_
    refine .of_eq (List.filter_congr fun s hs => ?_)
    have h0 := ho s hs
    have h1 : inn q s f' t' = true → inn q s c c = true := fun h => by unfold inn at h ⊢; simp at h ⊢; omega
    cases h2 : o s <;> cases h3 : inn q s f' t' <;> cases h4 : inn q s c c <;> simp [h2, h3, h4] at h0 h1 ⊢
/-- How many cells the nodes have at which an interval lies. -/
theorem SgOk.cells {q : Pt → Nat × Nat} {l : List Pt} {x y : Nat} (hxy : x ≤ y) : ∀ {X : SA} {f t : Nat} {o : Pt → Bool}, SgOk q l X f t o → X.at_ x y (fun f t _ => t - f + 1) = min y t + 1 - max x f
  | .nil, _, _, _, h => by cases h
  | .node b f' t' A d k lo hi, f, t, o, h => by
    have hle := h.le
    obtain ⟨h1, h2, h3, h4⟩ := h
    subst h1 h2
    unfold SA.at_
    split
    · omega
    · split
      · omega
      · rcases h4 with ⟨h4, h5, h6⟩ | ⟨h4, h5, h6⟩
        · rw [h5.cells hxy, h6.cells hxy]; omega
        · omega
/-- At each of those the interval is. -/
theorem SgOk.right {q : Pt → Nat × Nat} {l : List Pt} {s : Pt} (hs : s ∈ l) : ∀ {X : SA} {f t : Nat} {o : Pt → Bool}, SgOk q l X f t o → o s = false → X.at_ (q s).1 (q s).2 (fun _ _ m => if s ∈ m then 0 else 1) = 0
  | .nil, _, _, _, h, _ => by cases h
  | .node b f' t' A d k lo hi, f, t, o, ⟨h1, h2, h3, h4⟩, ho => by
    subst h1 h2
    unfold SA.at_
    split
    · rfl
    · split
      · rename_i hd hi
        rw [if_pos]
        rw [h3, List.mem_filter]
        refine ⟨hs, ?_⟩
        unfold inn; simp [hi, ho]
      · rename_i hd hi
        have hi' : inn q s f' t' = false := by
          cases hb : inn q s f' t' with
          | false => rfl
          | true => unfold inn at hb; simp at hb; exact absurd hb hi
        rcases h4 with ⟨h4, h5, h6⟩ | ⟨h4, h5, h6⟩
        · rw [h5.right hs hi', h6.right hs hi']
        · subst h5 h6; rfl
/-- What is told of the nodes, one by one. -/
def SA.run {S : Type} (x y : Nat) (step : S → Nat → Nat → List Pt → S) : SA → S → S
  | .nil, s => s
  | .node _ f t _ _ l lo hi, s => if y < f ∨ t < x then s else if x ≤ f ∧ t ≤ y then step s f t l else hi.run x y step (lo.run x y step s)
/-- All lists of nodes are parts of the one of all. -/
theorem SgOk.sub {q : Pt → Nat × Nat} {l : List Pt} : ∀ {X : SA} {f t : Nat} {o : Pt → Bool}, SgOk q l X f t o → X.each fun f' t' _ _ m => m.Sublist l ∧ f' ≤ t' ∧ t' ≤ t
  | .nil, _, _, _, h => by cases h
  | .node b f' t' A d k lo hi, f, t, o, h => by
    have hle := h.le
    obtain ⟨h1, h2, h3, h4⟩ := h
    subst h1 h2
    refine ⟨⟨h3 ▸ List.filter_sublist, hle, Nat.le_refl _⟩, ?_⟩
    rcases h4 with ⟨h4, h5, h6⟩ | ⟨h4, h5, h6⟩
    · exact ⟨h5.sub.mono fun _ _ _ _ _ h => ⟨h.1, h.2.1, by omega⟩, h6.sub.mono fun _ _ _ _ _ h => ⟨h.1, h.2.1, by omega⟩⟩
    · subst h5 h6; exact ⟨trivial, trivial⟩
/-- How many intervals lie at nodes. -/
def SA.all : SA → Nat
  | .nil => 0
  | .node _ _ _ _ _ l lo hi => l.length + lo.all + hi.all
def SA.vis (x y : Nat) (X : SA) : Nat := X.at_ x y (fun _ _ _ => 1)
theorem sum_add {α : Type} (a b : α → Nat) : ∀ (l : List α), (l.map fun s => a s + b s).sum = (l.map a).sum + (l.map b).sum
  | [] => rfl
  | s :: l => by simp only [List.map_cons, List.sum_cons, sum_add a b l]; omega
theorem filter_sum {α : Type} (p : α → Bool) : ∀ (l : List α), (l.filter p).length = (l.map fun s => if p s then 1 else 0).sum
  | [] => rfl
  | s :: l => by
    rw [List.filter_cons, List.map_cons, List.sum_cons, ← filter_sum p l]
    cases p s <;> simp; omega
theorem SgOk.off {q : Pt → Nat × Nat} {l : List Pt} {x y : Nat} : ∀ {X : SA} {f t : Nat} {o : Pt → Bool}, SgOk q l X f t o → y < f ∨ t < x → X.vis x y = 0 := fun {X f t o} h hd => by
  cases X with
  | nil => rfl
  | node b f' t' A d k lo hi =>
    obtain ⟨h1, h2, _⟩ := h
    subst h1 h2
    unfold SA.vis SA.at_
    rw [if_pos hd]
theorem SgOk.all {q : Pt → Nat × Nat} {l : List Pt} (hq : ∀ s ∈ l, (q s).1 ≤ (q s).2) : ∀ {X : SA} {f t : Nat} {o : Pt → Bool}, SgOk q l X f t o → (∀ s ∈ l, o s = true → inn q s f t = true) → X.all = (l.map fun s => if o s then 0 else X.vis (q s).1 (q s).2).sum
  | .nil, _, _, _, h, _ => by cases h
  | .node b f' t' A d k lo hi, f, t, o, h, ho => by
    have hle := h.le
    obtain ⟨h1, h2, h3, h4⟩ := h
    subst h1 h2
    have e1 : ∀ s ∈ l, (if inn q s f' t' && !o s then 1 else 0) + ((if inn q s f' t' then 0 else lo.vis (q s).1 (q s).2) + (if inn q s f' t' then 0 else hi.vis (q s).1 (q s).2)) = if o s then 0 else (SA.node b f' t' A d k lo hi).vis (q s).1 (q s).2 := fun s hs => by
      have h0 := ho s hs
      have hqs := hq s hs
      cases hos : o s with
      | true => simp [h0 hos]
      | false =>
        have ev : (SA.node b f' t' A d k lo hi).vis (q s).1 (q s).2 = if (q s).2 < f' ∨ t' < (q s).1 then 0 else if (q s).1 ≤ f' ∧ t' ≤ (q s).2 then 1 else lo.vis (q s).1 (q s).2 + hi.vis (q s).1 (q s).2 := rfl
        rw [ev]
        simp only [Bool.not_false, Bool.and_true, Bool.false_eq_true, if_false]
        cases hin : inn q s f' t' with
        | true =>
          unfold inn at hin; simp at hin
          rw [if_neg (show ¬ ((q s).2 < f' ∨ t' < (q s).1) by omega), if_pos hin]
          simp
        | false =>
          unfold inn at hin; simp at hin
          simp only [Bool.false_eq_true, if_false, Nat.zero_add]
          split
          · rename_i hd
            rcases h4 with ⟨h4, h5, h6⟩ | ⟨h4, h5, h6⟩
            · rw [h5.off (by omega), h6.off (by omega)]
            · subst h5 h6; rfl
          · rw [if_neg (by omega)]
    rw [← List.map_congr_left e1, sum_add, sum_add]
    have e2 : SA.all (.node b f' t' A d k lo hi) = k.length + (lo.all + hi.all) := by simp only [SA.all]; omega
    rw [e2, h3, filter_sum]
    congr 1
    rcases h4 with ⟨h4, h5, h6⟩ | ⟨h4, h5, h6⟩
    · rw [h5.all hq fun s _ h => by unfold inn at h ⊢; simp at h ⊢; omega, h6.all hq fun s _ h => by unfold inn at h ⊢; simp at h ⊢; omega]
    · subst h5 h6
      have z : ∀ (l : List Pt), (l.map fun s => if inn q s f' t' then 0 else SA.nil.vis (q s).1 (q s).2).sum = 0 := fun l => by
        induction l with
        | nil => rfl
        | cons s l ih =>
          rw [List.map_cons, List.sum_cons, ih]
          split <;> rfl
      rw [z]; rfl
end Go.Proofs.YtkoncepjfgnjlaaGreat
/- Lists of numbers in order: sorted at int, by cmp.Less. -/
namespace Go.Proofs.YtkoncepjfgnjlaaGreat
attribute [local irreducible] sat
set_option linter.unusedVariables false
set_option linter.unusedSimpArgs false
set_option maxRecDepth 100000

theorem isNaN_ctr (a : Int) (L : List HP) : Ctr Tryz.prog 91 #[.int .i64 a] L fun v L' => v = .bool false ∧ L' = L := by
  refine Ctr_of (fn := Tryz.f91) (n := 6) Tryz.func91 rfl rfl rfl ?_
  intro g F
  refine GN ?_
  refine G_region ?_
  refine GQ (ev_assign rfl) ?_
  refine GO_nil ?_
  refine GN ?_
  refine G_region ?_
  refine GQ (ev_move rfl) ?_
  refine GQ (ev_move rfl) ?_
  refine GQ (ev_neq rfl rfl) ?_
  refine GQ (ev_assign rfl) ?_
  refine GO_nil ?_
  refine GN ?_
  refine G_ret rfl (.tmp rfl .nil) EnA ⟨by simp [retv], rfl⟩
theorem cless_ctr (a b : Int) (L : List HP) : Ctr Tryz.prog 59 #[.int .i64 a, .int .i64 b] L fun v L' => v = .bool (decide (a < b)) ∧ L' = L := by
  refine Ctr_of (fn := Tryz.f59) (n := 17) Tryz.func59 rfl rfl rfl ?_
  intro g F
  refine GN ?_
  refine G_region ?_
  refine GQ (ev_assign rfl) ?_
  refine GO_nil ?_
  refine GN ?_
  refine G_region ?_
  refine GQ (ev_move rfl) ?_
  refine GE (eff_call rfl (isNaN_ctr a _)) ?_; rintro _ _ ⟨rfl, rfl⟩
  refine GQ (ev_move rfl) ?_
  refine GO_no rfl rfl rfl rfl ?_
  refine GO_no rfl rfl rfl rfl ?_
  refine GO_no rfl rfl rfl rfl ?_
  refine GQ (ev_pick_f rfl rfl rfl) ?_
  refine GQ (ev_move rfl) ?_
  refine GO_yes rfl rfl rfl rfl ?_
  refine GQ (ev_move rfl) ?_
  refine GO_yes rfl rfl rfl rfl ?_
  refine GQ (ev_move rfl) ?_
  refine GO_yes rfl rfl rfl rfl ?_
  (first | refine GQ (ev_lssN rfl rfl) ?_ | refine GQ (ev_lss rfl rfl) ?_)
  refine GQ (ev_pick_f rfl rfl rfl) ?_
  refine GQ (ev_assign rfl) ?_
  refine GO_nil ?_
  refine GN ?_
  refine G_ret rfl (.tmp rfl .nil) EnA ⟨rfl, rfl⟩
theorem CloneI_ctr (A : Option Addr) (n c : Nat) (l : List Int) (L : List HP) (hl : Rd L A n l) (hn : n ≤ 1000000) :
    Ctr Tryz.prog 89 #[.slice A n c] L fun v L' => Made 3 l L v L' := by
  have h1 : l.length = n := hl.len (by decide)
  refine Ctr_of (fn := Tryz.f89) (n := 8) Tryz.func89 rfl rfl rfl ?_
  intro g F
  refine GN ?_
  refine G_region ?_
  refine GQ (ev_assign rfl) ?_
  refine GO_nil ?_
  refine GN ?_
  refine G_region ?_
  refine GQ (ev_move rfl) ?_
  refine GQ (ev_eqlNilS rfl rfl) ?_
  refine GO_nil ?_
  refine GN ?_
  refine G_condB rfl (fun h2 => ?_) (fun h2 => ?_)
  · have e : A = none := by simpa using h2
    subst e
    have h3 : n = 0 := by
      rcases Nat.eq_zero_or_pos n with h | h
      · exact h
      · obtain ⟨b, o, e, _⟩ := hl.at_ h; cases e
    subst h3
    have : l = [] := List.eq_nil_of_length_eq_zero h1
    subst this
    refine GN ?_
    refine G_region ?_
    refine GQ (ev_assign rfl) ?_
    refine GO_nil ?_
    refine GN ?_
    refine G_ret (L' := own 3 1 none 0 0 [] :: L) rfl (.tmp rfl .nil) ?_ ⟨none, 0, rfl, fun h => absurd h (Nat.lt_irrefl 0), rfl⟩
    exact fun h s => (own.nil_ 3 1 h s).swap
  · refine GN ?_
    refine G_region ?_
    refine GE eff_buildSlice0 ?_; rintro _ _ ⟨b5, rfl, rfl⟩
    refine GQ (ev_move rfl) ?_
    refine GE (eff_append rfl rfl PkA (Rc.skip (Rc.skip hl)) ((flat_one _)) (by rfl) (by decide) NgA NgA) ?_; rintro _ _ ⟨A7, c7, rfl, hc7, hm7, hn7, rfl⟩
    refine GQ (ev_assign rfl) ?_
    refine GO_nil ?_
    rw [Nat.zero_add] at hc7 hn7
    refine GN ?_
    refine G_ret (L' := own 3 1 A7 l.length c7 (flat l) :: L) rfl (.tmp rfl .nil) ?_ ⟨A7, c7, by rw [h1]; simp [retv], by rw [h1]; exact hn7, rfl⟩
    rw [h1, Nat.zero_add, List.nil_append]
    refine en_pick (.skip (.here)) ?_
    refine en_pick (.here) ?_
    exact EnA
theorem seekI_ctr (f : FuncId) [CalT Tryz.prog f] (c1 c2 : List Value) (p : Int → Bool) (A : Option Addr) (n c k : Nat) (l : List Int) (L : List HP) (hl : Rd L A n l) (hn : n ≤ 1000000) (hk : k ≤ n) (hp : ∀ (j : Nat) (a : Int), l[j]? = some a → (p a = true ↔ k ≤ j))
    (hf : ∀ a : Int, Ctr Tryz.prog f (c1 ++ [Value.int .i64 a] ++ c2).toArray L fun v L' => v = .bool (p a) ∧ L' = L) :
    Ctr Tryz.prog 139 #[.slice A n c, .func (.func f) c1.toArray c2.toArray] L fun v L' => v = .int .i64 (k : Nat) ∧ L' = L := by
  have h1 : l.length = n := hl.len (by decide)
  refine Ctr_of (fn := Tryz.f139) (n := 29) Tryz.func139 rfl rfl rfl ?_
  intro g F
  refine GN ?_
  refine G_region ?_
  refine GQ (ev_assign rfl) ?_
  refine GO_nil ?_
  refine GN ?_
  refine G_region ?_
  refine GQ (ev_move rfl) ?_
  refine GQ (ev_len rfl) ?_
  refine GQ (ev_assign rfl) ?_
  refine GQ (ev_assign rfl) ?_
  refine GO_nil ?_
  refine GN ?_
  refine G_loop (ι := Nat × Nat) (fun x => [(0, .slice A n c), (1, .func (.func f) c1.toArray c2.toArray), (5, .int .i64 (x.1 : Nat)), (6, .int .i64 (x.2 : Nat))]) (fun _ => F :: L) (fun x => x.1 ≤ k ∧ k ≤ x.2 ∧ x.2 ≤ n) (fun x => x.2 - x.1) (0, n) ⟨Nat.zero_le _, hk, Nat.le_refl _⟩ ⟨rfl, rfl, rfl, rfl, trivial⟩ EnA ?_
  rintro ⟨lo, hi⟩ ⟨f1, f2, f3⟩
  simp only at f1 f2 f3
  dsimp only
  refine GN ?_
  refine G_region ?_
  refine GQ (ev_move rfl) ?_
  refine GQ (ev_move rfl) ?_
  (first | refine GQ (ev_lssN rfl rfl) ?_ | refine GQ (ev_lss rfl rfl) ?_)
  refine GO_nil ?_
  refine GN ?_
  refine G_cond rfl (fun h4 => ?_) (fun h4 => ?_)
  · obtain ⟨b1, o1, rfl, x1⟩ := hl.at_ (by omega)
    have hmid : lo + (hi - lo) / 2 < hi := by omega
    have g1 : l[lo + (hi - lo) / 2]? = some l[lo + (hi - lo) / 2] := List.getElem?_eq_getElem (by omega)
    have y1 := x1 _ _ g1
    have hpu := hp _ _ g1
    generalize l[lo + (hi - lo) / 2] = u at *
    refine GN ?_
    refine G_region ?_
    refine GQ (ev_move rfl) ?_
    refine GQ (ev_move rfl) ?_
    refine GQ (ev_move rfl) ?_
    (first | refine GQ (ev_subN rfl rfl NgA) ?_ | refine GQ (ev_sub rfl rfl NgA) ?_)
    (first | refine GQ (ev_quoN (q := 2) rfl rfl NgA NgA) ?_ | refine GQ (ev_quo rfl rfl NgA NgA NgA) ?_)
    (first | refine GQ (ev_addN rfl rfl NgA) ?_ | refine GQ (ev_add rfl rfl NgA) ?_)
    refine GQ (ev_assign rfl) ?_
    refine GO_nil ?_
    obtain ⟨m, hm⟩ : ∃ m, lo + (hi - lo) / 2 = m := ⟨_, rfl⟩
    have hlm : lo ≤ m := by omega
    rw [hm] at hmid y1 hpu
    rw [hm]
    have z0 : LdN L b1 (o1 + m * 1) 1 [.int .i64 u] := y1
    have z1 : Ld L ⟨b1, o1 + m * 1, none⟩ (.int .i64 u) := z0.at_ (i := 0) rfl
    refine GN ?_
    refine G_region ?_
    refine GQ (ev_move rfl) ?_
    refine GQ (ev_move rfl) ?_
    refine GQ (ev_move rfl) ?_
    (first | refine GQ (ev_indexAddrN rfl rfl NgA) ?_ | refine GQ (ev_indexAddr rfl rfl NgA NgA) ?_)
    refine GQ (ev_load rfl LdA) ?_
    refine GE (eff_callv rfl rfl (Ctr.frame [F] (hf u) en_refl)) ?_; rintro _ _ ⟨_, ⟨rfl, rfl⟩, rfl⟩
    refine GO_nil ?_
    refine GN ?_
    refine G_condB rfl (fun h5 => ?_) (fun h5 => ?_)
    · have := hpu.1 h5
      refine GN ?_
      refine G_region ?_
      refine GQ (ev_move rfl) ?_
      refine GQ (ev_assign rfl) ?_
      refine GO_nil ?_
      refine GN ?_
      exact G_round (lo, m) ⟨f1, this, by simp only; omega⟩ (by simp only; omega) ⟨rfl, rfl, rfl, rfl, trivial⟩ EnA
    · have : ¬ k ≤ m := fun h => by rw [hpu.2 h] at h5; cases h5
      refine GN ?_
      refine G_region ?_
      refine GQ (ev_move rfl) ?_
      (first | refine GQ (ev_addN (q := 1) rfl rfl NgA) ?_ | refine GQ (ev_add rfl rfl NgA) ?_)
      refine GQ (ev_assign rfl) ?_
      refine GO_nil ?_
      refine GN ?_
      exact G_round (m + 1, hi) ⟨by simp only; omega, f2, f3⟩ (by simp only; omega) ⟨rfl, rfl, rfl, rfl, trivial⟩ EnA
  · have e : lo = k := by omega
    subst e
    refine GN ?_
    refine G_region ?_
    refine GQ (ev_move rfl) ?_
    refine GQ (ev_assign rfl) ?_
    refine GO_nil ?_
    refine GN ?_
    refine G_ret rfl (.tmp rfl .nil) EnA ⟨rfl, rfl⟩
theorem first1I_ctr (a v : Int) (b4 b5 : Nat) (L : List HP) (h4 : Ld L ⟨b4, 0, none⟩ (.int .i64 v)) (h5 : Ld L ⟨b5, 0, none⟩ (.func (.func 59) #[] #[])) :
    Ctr Tryz.prog 140 #[.int .i64 a, .pointer (some ⟨b5, 0, none⟩), .pointer (some ⟨b4, 0, none⟩)] L fun r L' => r = .bool (!decide (a < v)) ∧ L' = L := by
  refine Ctr_of (fn := Tryz.f140) (n := 10) Tryz.func140 rfl rfl rfl ?_
  intro g F
  refine GN ?_
  refine G_region ?_
  refine GQ (ev_assign rfl) ?_
  refine GO_nil ?_
  refine GN ?_
  refine G_region ?_
  refine GQ (ev_load rfl LdA) ?_
  refine GQ (ev_move rfl) ?_
  refine GQ (ev_load rfl LdA) ?_
  refine GE (eff_callv rfl rfl (cless_ctr a v _)) ?_; rintro _ _ ⟨rfl, rfl⟩
  refine GQ (ev_not rfl) ?_
  refine GQ (ev_assign rfl) ?_
  refine GO_nil ?_
  refine GN ?_
  refine G_ret rfl (.tmp rfl .nil) EnA ⟨rfl, rfl⟩
theorem flat_int : ∀ l : List Int, flat l = l.map (Value.int .i64)
  | [] => rfl
  | a :: l => by rw [flat_cons, flat_int l]; rfl
theorem flat_int_set (l : List Int) (i : Nat) (x : Int) : (flat l).set (0 + i * 1) (.int .i64 x) = flat (l.set i x) := by
  rw [Nat.zero_add, Nat.mul_one, flat_int, flat_int, List.map_set]
theorem ld_ownI {b n c i : Nat} {l : List Int} {x : Int} (hn : l.length = n) (h : l[i]? = some x) (L : List HP) : Ld (own 3 1 (some ⟨b, 0, none⟩) n c (flat l) :: L) ⟨b, 0 + i * 1, none⟩ (.int .i64 x) := by
  have hlt : i < l.length := (List.getElem?_eq_some_iff.1 h).1
  have r : Rd (own 3 1 (some ⟨b, 0, none⟩) n c (flat l) :: L) (some ⟨b, 0, none⟩) n l := Rc.own (by rw [flat_length, hn]; rfl) (fun _ => ⟨b, rfl⟩)
  obtain ⟨_, _, e, hx⟩ := r.at_ (by omega)
  cases e
  exact (hx i x h).at_ (i := 0) rfl
theorem by_swap {A R : List Int} {x p : Int} {k : Nat} (hk : k = A.length + 1) : ((A ++ p :: x :: R).set k p).set (k - 1) x = A ++ x :: p :: R ∧ (A ++ p :: x :: R)[k]? = some x ∧ (A ++ p :: x :: R)[k - 1]? = some p := by
  subst hk
  refine ⟨?_, ?_, ?_⟩
  · simp [List.set_append]
  · simp [List.getElem?_append]
  · simp
theorem byI_ctr (A : Option Addr) (n c : Nat) (l : List Int) (L : List HP) (hl : Rd L A n l) (hn : n ≤ 1000000) :
    Ctr Tryz.prog 126 #[.slice A n c, .func (.func 59) #[] #[]] L fun v L' => Made 3 (srt l) L v L' := by
  have h1 : l.length = n := hl.len (by decide)
  refine Ctr_of (fn := Tryz.f126) (n := 51) Tryz.func126 rfl rfl rfl ?_
  intro g F
  refine GN ?_
  refine G_region ?_
  refine GQ (ev_assign rfl) ?_
  refine GO_nil ?_
  refine GN ?_
  refine G_region ?_
  refine GQ (ev_move rfl) ?_
  refine GE (eff_call rfl (CloneI_ctr A n c l _ RdA hn)) ?_; rintro _ _ ⟨B, e, rfl, hB, rfl⟩
  refine GQ (ev_assign rfl) ?_
  refine GO_nil ?_
  refine GN ?_
  refine G_region ?_
  refine GQ (ev_move rfl) ?_
  refine GQ (ev_len rfl) ?_
  refine GQ (ev_move rfl) ?_
  refine GO_nil ?_
  refine GN ?_
  refine G_loop (ι := Nat × List Int) (fun z => [(1, .func (.func 59) #[] #[]), (5, .slice B n e), (11, .int .i64 (n : Nat)), (12, .int .i64 (z.1 : Nat))]) (fun z => own 3 1 B n e (flat z.2) :: F :: L) (fun z => z.1 ≤ n ∧ z.2.Perm l ∧ (z.2.take z.1).Pairwise (· ≤ ·)) (fun z => n - z.1) (0, l) ⟨Nat.zero_le _, .refl _, by simp⟩ ⟨rfl, by rw [← h1]; rfl, by rw [← h1]; rfl, rfl, trivial⟩ (by rw [← h1]; exact EpA) ?_
  rintro ⟨i, m⟩ ⟨f1, f2, f3⟩
  simp only at f1 f2 f3
  dsimp only
  have hm : m.length = n := by rw [f2.length_eq, h1]
  refine GN ?_
  refine G_region ?_
  (first | refine GQ (ev_lssN rfl rfl) ?_ | refine GQ (ev_lss rfl rfl) ?_)
  refine GO_nil ?_
  refine GN ?_
  refine G_cond rfl (fun c1 => ?_) (fun c1 => ?_)
  · refine GN ?_
    refine G_region ?_
    refine GQ (ev_move rfl) ?_
    refine GQ (ev_assign rfl) ?_
    refine GO_nil ?_
    refine GN ?_
    refine G_region ?_
    refine GQ (ev_move rfl) ?_
    refine GQ (ev_assign rfl) ?_
    refine GO_nil ?_
    have hxi : m[i]? = some m[i] := List.getElem?_eq_getElem (by omega)
    have hsp : m = m.take i ++ m[i] :: m.drop (i + 1) := by
      conv => lhs; rw [← List.take_append_drop i m, List.drop_eq_getElem_cons (by omega)]
    have hPl : (m.take i).length = i := by rw [List.length_take]; omega
    obtain ⟨b, rfl⟩ := hB (by omega)
    generalize m[i] = x at *
    generalize m.take i = P at *
    generalize m.drop (i + 1) = D at *
    refine GN ?_
    refine G_loop (ι := Nat) (fun k => [(1, .func (.func 59) #[] #[]), (5, .slice (some ⟨b, 0, none⟩) n e), (11, .int .i64 (n : Nat)), (12, .int .i64 (i : Nat)), (7, .int .i64 (k : Nat))]) (fun k => own 3 1 (some ⟨b, 0, none⟩) n e (flat (P.take k ++ x :: (P.drop k ++ D))) :: F :: L) (fun k => k ≤ i ∧ ∀ y ∈ P.drop k, x < y) (fun k => k) i ⟨Nat.le_refl _, by rw [List.drop_of_length_le (by omega)]; simp⟩ ⟨rfl, rfl, rfl, rfl, rfl, trivial⟩ (by rw [List.take_of_length_le (by omega), List.drop_of_length_le (by omega), List.nil_append, ← hsp]; exact fun _ s => s) ?_
    rintro k ⟨q1, q2⟩
    by_cases c2 : 0 < k
    · have hg : P[k - 1]? = some P[k - 1] := List.getElem?_eq_getElem (by omega)
      have e1 : P.take k = P.take (k - 1) ++ [P[k - 1]] := by
        have := List.take_succ_eq_append_getElem (l := P) (i := k - 1) (by omega)
        rwa [show k - 1 + 1 = k by omega] at this
      have e2 : P.drop (k - 1) = P[k - 1] :: P.drop k := by
        have := List.drop_eq_getElem_cons (l := P) (i := k - 1) (by omega)
        rwa [show k - 1 + 1 = k by omega] at this
      have hAl : (P.take (k - 1)).length = k - 1 := by rw [List.length_take]; omega
      have hlen : (P.take k ++ x :: (P.drop k ++ D)).length = n := by
        rw [← hm, hsp]; simp; omega
      generalize P[k - 1] = p at *
      obtain ⟨s1, s2, s3⟩ := by_swap (A := P.take (k - 1)) (R := P.drop k ++ D) (x := x) (p := p) (k := k) (by omega)
      have e3 : P.take k ++ x :: (P.drop k ++ D) = P.take (k - 1) ++ p :: x :: (P.drop k ++ D) := by rw [e1]; simp
      have e4 : P.take (k - 1) ++ x :: (P.drop (k - 1) ++ D) = P.take (k - 1) ++ x :: p :: (P.drop k ++ D) := by rw [e2]; simp
      rw [← e3] at s1 s2 s3
      by_cases c3 : x < p
      · refine GN ?_
        refine G_draw (.q 0 (.q 1 (.q 2 (.q 3 (.q 4 (.q 5 (.q 6 (.q 7 (.q 8 (.q 9 (.q 10 (.q 11 (.q 12 (.e 13 (.q 14 .nil))))))))))))))) (by kernel_rfl) (by kernel_rfl) ?_
        refine RM rfl (ev_move rfl) ?_
        refine RM rfl (ev_gtr rfl rfl) ?_
        refine RM rfl (ev_move rfl) ?_
        refine RS_m_yes retB_noPanic rfl rfl rfl rfl ⟨_, rfl, (decide_eq_true (by omega))⟩ rfl (ev_move rfl) ?_
        refine RS_m_yes retB_noPanic rfl rfl rfl rfl ⟨_, rfl, (decide_eq_true (by omega))⟩ rfl (ev_move rfl) ?_
        refine RS_m_yes retB_noPanic rfl rfl rfl rfl ⟨_, rfl, (decide_eq_true (by omega))⟩ rfl (ev_move rfl) ?_
        (first | refine RS_m_yes retB_noPanic rfl rfl rfl rfl ⟨_, rfl, (decide_eq_true (by omega))⟩ rfl (ev_indexAddrN rfl rfl NgA) ?_ | refine RS_m_yes retB_noPanic rfl rfl rfl rfl ⟨_, rfl, (decide_eq_true (by omega))⟩ rfl (ev_indexAddr rfl rfl NgA NgA) ?_)
        refine RS_q_yes retB_noPanic rfl rfl rfl rfl ⟨_, rfl, (decide_eq_true (by omega))⟩ rfl (ev_load rfl (by repeat' first | exact ld_ownI hlen s2 _ | apply Ld.skip)) ?_
        refine RS_m_yes retB_noPanic rfl rfl rfl rfl ⟨_, rfl, (decide_eq_true (by omega))⟩ rfl (ev_move rfl) ?_
        refine RS_m_yes retB_noPanic rfl rfl rfl rfl ⟨_, rfl, (decide_eq_true (by omega))⟩ rfl (ev_move rfl) ?_
        (first | refine RS_m_yes retB_noPanic rfl rfl rfl rfl ⟨_, rfl, (decide_eq_true (by omega))⟩ rfl (ev_subN (q := 1) rfl rfl NgA) ?_ | refine RS_m_yes retB_noPanic rfl rfl rfl rfl ⟨_, rfl, (decide_eq_true (by omega))⟩ rfl (ev_sub rfl rfl NgA) ?_)
        (first | refine RS_m_yes retB_noPanic rfl rfl rfl rfl ⟨_, rfl, (decide_eq_true (by omega))⟩ rfl (ev_indexAddrN rfl rfl NgA) ?_ | refine RS_m_yes retB_noPanic rfl rfl rfl rfl ⟨_, rfl, (decide_eq_true (by omega))⟩ rfl (ev_indexAddr rfl rfl NgA NgA) ?_)
        refine RS_q_yes retB_noPanic rfl rfl rfl rfl ⟨_, rfl, (decide_eq_true (by omega))⟩ rfl (ev_load rfl (by repeat' first | exact ld_ownI hlen s3 _ | apply Ld.skip)) ?_
        refine RS_e (RE_eff_yes rfl rfl rfl ⟨_, rfl, (decide_eq_true (by omega))⟩ rfl (eff_callv rfl rfl (cless_ctr x p _)) ?_); rintro _ _ ⟨rfl, rfl⟩; refine ⟨_, fun _ s => s, ExA, ?_⟩
        refine RM rfl (ev_pick_t rfl (decide_eq_true (by omega)) rfl) ?_
        refine RS_nil ?_
        refine GN ?_
        refine G_cond_t rfl (decide_eq_true c3) ?_
        refine GN ?_
        refine G_draw (.q 0 (.q 1 (.q 2 (.q 3 (.q 4 (.q 5 (.q 6 (.q 7 (.q 8 (.q 9 (.q 10 (.q 11 (.q 12 (.q 13 (.q 14 (.e 15 (.q 16 (.e 17 .nil)))))))))))))))))) (by kernel_rfl) (by kernel_rfl) ?_
        refine RM rfl (ev_move rfl) ?_
        refine RM rfl (ev_move rfl) ?_
        refine RM rfl (ev_move rfl) ?_
        refine RM rfl (ev_move rfl) ?_
        (first | refine RM rfl (ev_subN (q := 1) rfl rfl NgA) ?_ | refine RM rfl (ev_sub rfl rfl NgA) ?_)
        refine RM rfl (ev_move rfl) ?_
        refine RM rfl (ev_move rfl) ?_
        (first | refine RM rfl (ev_subN (q := 1) rfl rfl NgA) ?_ | refine RM rfl (ev_sub rfl rfl NgA) ?_)
        (first | refine RM rfl (ev_indexAddrN rfl rfl NgA) ?_ | refine RM rfl (ev_indexAddr rfl rfl NgA NgA) ?_)
        refine RQ rfl (ev_load rfl (by repeat' first | exact ld_ownI hlen s3 _ | apply Ld.skip)) ?_
        refine RM rfl (ev_move rfl) ?_
        refine RM rfl (ev_move rfl) ?_
        (first | refine RM rfl (ev_indexAddrN rfl rfl NgA) ?_ | refine RM rfl (ev_indexAddr rfl rfl NgA NgA) ?_)
        refine RQ rfl (ev_load rfl (by repeat' first | exact ld_ownI hlen s2 _ | apply Ld.skip)) ?_
        (first | refine RM rfl (ev_indexAddrN rfl rfl NgA) ?_ | refine RM rfl (ev_indexAddr rfl rfl NgA NgA) ?_)
        refine RS_e (RE_cmp (by kernel_rfl) rfl rfl rfl (eff_storeO rfl rfl rfl PkA (by omega)) ?_); rintro _ _ ⟨rfl, rfl⟩
        (first | refine RM rfl (ev_indexAddrN rfl rfl NgA) ?_ | refine RM rfl (ev_indexAddr rfl rfl NgA NgA) ?_)
        refine RS_e (RE_last (by kernel_rfl) rfl rfl rfl (eff_storeO rfl rfl rfl PkA (by omega)) ?_); rintro _ _ ⟨rfl, rfl⟩
        rw [flat_int_set, flat_int_set, s1, ← e4]
        refine GN ?_
        refine G_region ?_
        refine GQ (ev_move rfl) ?_
        (first | refine GQ (ev_subN (q := 1) rfl rfl NgA) ?_ | refine GQ (ev_sub rfl rfl NgA) ?_)
        refine GQ (ev_assign rfl) ?_
        refine GO_nil ?_
        refine GN ?_
        exact G_round (k - 1) ⟨by omega, by rw [e2]; exact fun y hy => (List.mem_cons.1 hy).elim (fun h => h ▸ c3) (q2 y)⟩ (by omega) ⟨rfl, rfl, rfl, rfl, rfl, trivial⟩ (fun _ s => s)
      · refine GN ?_
        refine G_draw (.q 0 (.q 1 (.q 2 (.q 3 (.q 4 (.q 5 (.q 6 (.q 7 (.q 8 (.q 9 (.q 10 (.q 11 (.q 12 (.e 13 (.q 14 .nil))))))))))))))) (by kernel_rfl) (by kernel_rfl) ?_
        refine RM rfl (ev_move rfl) ?_
        refine RM rfl (ev_gtr rfl rfl) ?_
        refine RM rfl (ev_move rfl) ?_
        refine RS_m_yes retB_noPanic rfl rfl rfl rfl ⟨_, rfl, (decide_eq_true (by omega))⟩ rfl (ev_move rfl) ?_
        refine RS_m_yes retB_noPanic rfl rfl rfl rfl ⟨_, rfl, (decide_eq_true (by omega))⟩ rfl (ev_move rfl) ?_
        refine RS_m_yes retB_noPanic rfl rfl rfl rfl ⟨_, rfl, (decide_eq_true (by omega))⟩ rfl (ev_move rfl) ?_
        (first | refine RS_m_yes retB_noPanic rfl rfl rfl rfl ⟨_, rfl, (decide_eq_true (by omega))⟩ rfl (ev_indexAddrN rfl rfl NgA) ?_ | refine RS_m_yes retB_noPanic rfl rfl rfl rfl ⟨_, rfl, (decide_eq_true (by omega))⟩ rfl (ev_indexAddr rfl rfl NgA NgA) ?_)
        refine RS_q_yes retB_noPanic rfl rfl rfl rfl ⟨_, rfl, (decide_eq_true (by omega))⟩ rfl (ev_load rfl (by repeat' first | exact ld_ownI hlen s2 _ | apply Ld.skip)) ?_
        refine RS_m_yes retB_noPanic rfl rfl rfl rfl ⟨_, rfl, (decide_eq_true (by omega))⟩ rfl (ev_move rfl) ?_
        refine RS_m_yes retB_noPanic rfl rfl rfl rfl ⟨_, rfl, (decide_eq_true (by omega))⟩ rfl (ev_move rfl) ?_
        (first | refine RS_m_yes retB_noPanic rfl rfl rfl rfl ⟨_, rfl, (decide_eq_true (by omega))⟩ rfl (ev_subN (q := 1) rfl rfl NgA) ?_ | refine RS_m_yes retB_noPanic rfl rfl rfl rfl ⟨_, rfl, (decide_eq_true (by omega))⟩ rfl (ev_sub rfl rfl NgA) ?_)
        (first | refine RS_m_yes retB_noPanic rfl rfl rfl rfl ⟨_, rfl, (decide_eq_true (by omega))⟩ rfl (ev_indexAddrN rfl rfl NgA) ?_ | refine RS_m_yes retB_noPanic rfl rfl rfl rfl ⟨_, rfl, (decide_eq_true (by omega))⟩ rfl (ev_indexAddr rfl rfl NgA NgA) ?_)
        refine RS_q_yes retB_noPanic rfl rfl rfl rfl ⟨_, rfl, (decide_eq_true (by omega))⟩ rfl (ev_load rfl (by repeat' first | exact ld_ownI hlen s3 _ | apply Ld.skip)) ?_
        refine RS_e (RE_eff_yes rfl rfl rfl ⟨_, rfl, (decide_eq_true (by omega))⟩ rfl (eff_callv rfl rfl (cless_ctr x p _)) ?_); rintro _ _ ⟨rfl, rfl⟩; refine ⟨_, fun _ s => s, ExA, ?_⟩
        refine RM rfl (ev_pick_t rfl (decide_eq_true (by omega)) rfl) ?_
        refine RS_nil ?_
        refine GN ?_
        refine G_cond_f rfl (decide_eq_false c3) ?_
        refine GN ?_
        refine G_region ?_
        (first | refine GQ (ev_addN (q := 1) rfl rfl NgA) ?_ | refine GQ (ev_add rfl rfl NgA) ?_)
        refine GQ (ev_move rfl) ?_
        refine GO_nil ?_
        refine GN ?_
        refine G_round (i + 1, P.take k ++ x :: (P.drop k ++ D)) ⟨by simp only; omega, ?_, ?_⟩ (by simp only; omega) ⟨rfl, rfl, rfl, rfl, trivial⟩ (fun _ s => s)
        · refine List.Perm.trans ?_ f2
          rw [hsp]
          simp only
          refine (List.perm_middle).trans (List.Perm.trans ?_ (List.perm_middle).symm)
          rw [← List.append_assoc, List.take_append_drop]
        · simp only
          have e5 : (P.take k ++ x :: (P.drop k ++ D)).take (i + 1) = P.take k ++ x :: P.drop k := by
            have : P.take k ++ x :: (P.drop k ++ D) = (P.take k ++ x :: P.drop k) ++ D := by simp
            rw [this, List.take_append_of_le_length (by simp; omega), List.take_of_length_le (by simp; omega)]
          rw [e5]
          rw [← List.take_append_drop k P, List.pairwise_append] at f3
          rw [List.pairwise_append]
          refine ⟨f3.1, List.pairwise_cons.2 ⟨fun y hy => Int.le_of_lt (q2 y hy), f3.2.1⟩, ?_⟩
          have hpx : ∀ a ∈ P.take k, a ≤ x := by
            rw [e1]
            intro a ha
            rcases List.mem_append.1 ha with ha | ha
            · have h9 := f3.1
              rw [e1, List.pairwise_append] at h9
              have := h9.2.2 a ha p (by simp)
              omega
            · simp at ha; omega
          intro a ha y hy
          rcases List.mem_cons.1 hy with rfl | hy
          · exact hpx a ha
          · exact f3.2.2 a ha y hy
    · have e0 : k = 0 := by omega
      subst e0
      refine GN ?_
      refine G_draw (.q 0 (.q 1 (.q 2 (.q 3 (.q 4 (.q 5 (.q 6 (.q 7 (.q 8 (.q 9 (.q 10 (.q 11 (.q 12 (.e 13 (.q 14 .nil))))))))))))))) (by kernel_rfl) (by kernel_rfl) ?_
      refine RM rfl (ev_move rfl) ?_
      refine RM rfl (ev_gtr rfl rfl) ?_
      refine RM rfl (ev_move rfl) ?_
      refine RS_q_no retB_noPanic rfl rfl rfl ⟨_, rfl, (decide_eq_false (by omega))⟩ rfl ?_
      refine RS_q_no retB_noPanic rfl rfl rfl ⟨_, rfl, (decide_eq_false (by omega))⟩ rfl ?_
      refine RS_q_no retB_noPanic rfl rfl rfl ⟨_, rfl, (decide_eq_false (by omega))⟩ rfl ?_
      refine RS_q_no retB_noPanic rfl rfl rfl ⟨_, rfl, (decide_eq_false (by omega))⟩ rfl ?_
      refine RS_q_no retB_noPanic rfl rfl rfl ⟨_, rfl, (decide_eq_false (by omega))⟩ rfl ?_
      refine RS_q_no retB_noPanic rfl rfl rfl ⟨_, rfl, (decide_eq_false (by omega))⟩ rfl ?_
      refine RS_q_no retB_noPanic rfl rfl rfl ⟨_, rfl, (decide_eq_false (by omega))⟩ rfl ?_
      refine RS_q_no retB_noPanic rfl rfl rfl ⟨_, rfl, (decide_eq_false (by omega))⟩ rfl ?_
      refine RS_q_no retB_noPanic rfl rfl rfl ⟨_, rfl, (decide_eq_false (by omega))⟩ rfl ?_
      refine RS_q_no retB_noPanic rfl rfl rfl ⟨_, rfl, (decide_eq_false (by omega))⟩ rfl ?_
      refine RS_e (RE_no rfl rfl rfl ⟨_, rfl, (decide_eq_false (by omega))⟩ rfl ?_)
      refine RM rfl (ev_pick_f rfl (decide_eq_false (by omega)) rfl) ?_
      refine RS_nil ?_
      refine GN ?_
      refine G_cond_f rfl rfl ?_
      refine GN ?_
      refine G_region ?_
      (first | refine GQ (ev_addN (q := 1) rfl rfl NgA) ?_ | refine GQ (ev_add rfl rfl NgA) ?_)
      refine GQ (ev_move rfl) ?_
      refine GO_nil ?_
      refine GN ?_
      refine G_round (i + 1, x :: (P ++ D)) ⟨by simp only; omega, ?_, ?_⟩ (by simp only; omega) ⟨rfl, rfl, rfl, rfl, trivial⟩ (fun _ s => s)
      · refine List.Perm.trans ?_ f2
        rw [hsp]
        exact (List.perm_middle).symm
      · simp only
        rw [List.take_succ_cons, List.take_append_of_le_length (by omega), List.take_of_length_le (by omega)]
        exact List.pairwise_cons.2 ⟨fun y hy => Int.le_of_lt (q2 y (by simpa using hy)), f3⟩
  · have e9 : i = n := by omega
    subst e9
    have : m = srt l := eq_of_sorted _ _ (f2.trans (srt_perm l).symm) (by rwa [List.take_of_length_le (by omega)] at f3) (srt_sorted l)
    subst this
    refine GN ?_
    refine G_region ?_
    refine GQ (ev_move rfl) ?_
    refine GQ (ev_assign rfl) ?_
    refine GO_nil ?_
    refine GN ?_
    refine G_ret (L' := own 3 1 B (srt l).length e (flat (srt l)) :: L) rfl (.tmp rfl .nil) ?_ ⟨B, e, by rw [hm]; rfl, by rw [hm]; exact fun h => hB (by omega), rfl⟩
    rw [hm]
    exact EpA
theorem mergeI_ctr (A B : Option Addr) (n m c d : Nat) (l q : List Int) (L : List HP) (hl : Rd L A n l) (hq : Rd L B m q) (hn : n ≤ 1000000) (hm : m ≤ 1000000) (hc : n ≤ c) (hd : m ≤ d) (sl : l.Pairwise (· ≤ ·)) (sq : q.Pairwise (· ≤ ·)) :
    Ctr Tryz.prog 127 #[.slice A n c, .slice B m d, .func (.func 59) #[] #[]] L fun v L' => Made 3 (srt (l ++ q)) L v L' := by
  have h1 : l.length = n := hl.len (by decide)
  have h2 : q.length = m := hq.len (by decide)
  refine Ctr_of (fn := Tryz.f127) (n := 51) Tryz.func127 rfl rfl rfl ?_
  intro g F
  refine GN ?_
  refine G_region ?_
  refine GQ (ev_assign rfl) ?_
  refine GO_nil ?_
  refine GN ?_
  refine G_region ?_
  refine GQ (ev_move rfl) ?_
  refine GQ (ev_len rfl) ?_
  refine GQ (ev_move rfl) ?_
  refine GQ (ev_len rfl) ?_
  (first | refine GQ (ev_addN rfl rfl NgA) ?_ | refine GQ (ev_add rfl rfl NgA) ?_)
  refine GE (eff_make0 rfl rfl (by omega) (by omega)) ?_; rintro _ _ ⟨b13, rfl, rfl⟩
  refine GQ (ev_assign rfl) ?_
  refine GO_nil ?_
  refine GN ?_
  refine G_loop (ι := (Option Addr × Nat × List Int) × (Option Addr × Nat × List Int) × (Option Addr × Nat × List Int)) (fun z => [(2, .func (.func 59) #[] #[]), (0, .slice z.1.1 z.1.2.2.length z.1.2.1), (1, .slice z.2.1.1 z.2.1.2.2.length z.2.1.2.1), (7, .slice z.2.2.1 z.2.2.2.2.length z.2.2.2.1)]) (fun z => own 3 1 z.2.2.1 z.2.2.2.2.length z.2.2.2.1 (flat z.2.2.2.2) :: F :: L)
    (fun z => (Rd L z.1.1 z.1.2.2.length z.1.2.2 ∧ z.1.2.2.length ≤ z.1.2.1 ∧ z.1.2.2.Pairwise (· ≤ ·)) ∧ (Rd L z.2.1.1 z.2.1.2.2.length z.2.1.2.2 ∧ z.2.1.2.2.length ≤ z.2.1.2.1 ∧ z.2.1.2.2.Pairwise (· ≤ ·)) ∧ (z.2.2.2.2 ++ (z.1.2.2 ++ z.2.1.2.2)).Perm (l ++ q) ∧ z.2.2.2.2.Pairwise (· ≤ ·) ∧ (∀ o ∈ z.2.2.2.2, ∀ x ∈ z.1.2.2 ++ z.2.1.2.2, o ≤ x) ∧ (0 < z.2.2.2.2.length → ∃ b, z.2.2.1 = some ⟨b, 0, none⟩)) (fun z => z.1.2.2.length + z.2.1.2.2.length) ((A, c, l), (B, d, q), (some ⟨b13, 0, none⟩, n + m, [])) ⟨⟨by rw [h1]; exact hl, by simp only; omega, sl⟩, ⟨by rw [h2]; exact hq, by simp only; omega, sq⟩, .refl _, .nil, by simp, fun _ => ⟨b13, rfl⟩⟩ ⟨rfl, by rw [← h1]; rfl, by rw [← h2]; rfl, rfl, trivial⟩ EpA ?_
  rintro ⟨⟨A1, c1, l1⟩, ⟨B1, d1, q1⟩, ⟨O, e, o⟩⟩ ⟨⟨f1, f2, f3⟩, ⟨k1, k2, k3⟩, hp, so, hle, hO⟩
  simp only at f1 f2 f3 k1 k2 k3 hp so hle hO
  dsimp only
  have hlen : o.length + (l1.length + q1.length) = n + m := by
    have := hp.length_eq
    simpa [h1, h2] using this
  refine G_pure (fun h s => own.facts (s)) ?_
  rintro ⟨w1, w2, w3, w4⟩
  unfold maxLen at w3
  by_cases hz : 0 < l1.length ∧ 0 < q1.length
  · obtain ⟨ab, ao, rfl, ax⟩ := f1.at_ hz.1
    obtain ⟨bb, bo, rfl, bx⟩ := k1.at_ hz.2
    obtain ⟨x, l2, rfl⟩ : ∃ x l2, l1 = x :: l2 := by cases l1 with
      | nil => simp at hz
      | cons x l2 => exact ⟨x, l2, rfl⟩
    obtain ⟨y, q2, rfl⟩ : ∃ y q2, q1 = y :: q2 := by cases q1 with
      | nil => simp at hz
      | cons y q2 => exact ⟨y, q2, rfl⟩
    have x1 : Ld L ⟨ab, ao + 0 * 1, none⟩ (.int .i64 x) := (ax 0 x rfl).at_ (i := 0) rfl
    have y1 : Ld L ⟨bb, bo + 0 * 1, none⟩ (.int .i64 y) := (bx 0 y rfl).at_ (i := 0) rfl
    rw [List.pairwise_cons] at f3 k3
    simp only [List.length_cons] at *
    refine GN ?_
    refine G_region ?_
    refine GQ (ev_move rfl) ?_
    refine GQ (ev_len rfl) ?_
    refine GQ (ev_gtr rfl rfl) ?_
    refine GQ (ev_move rfl) ?_
    refine GO_yes rfl rfl rfl (decide_eq_true (by omega)) ?_
    refine GQ (ev_move rfl) ?_
    refine GO_yes rfl rfl rfl (decide_eq_true (by omega)) ?_
    refine GQ (ev_len rfl) ?_
    refine GO_yes rfl rfl rfl (decide_eq_true (by omega)) ?_
    refine GQ (ev_gtr rfl rfl) ?_
    refine GQ (ev_pick_t rfl (decide_eq_true (by omega)) rfl) ?_
    refine GO_nil ?_
    refine GN ?_
    refine G_cond_t rfl (decide_eq_true (by omega)) ?_
    refine GN ?_
    refine G_draw (.q 0 (.q 1 (.q 2 (.q 3 (.q 4 (.q 5 (.q 6 (.e 7 .nil)))))))) (by kernel_rfl) (by kernel_rfl) ?_
    refine RM rfl (ev_move rfl) ?_
    refine RM rfl (ev_move rfl) ?_
    (first | refine RM rfl (ev_indexAddrN rfl rfl NgA) ?_ | refine RM rfl (ev_indexAddr rfl rfl NgA NgA) ?_)
    refine RQ rfl (ev_load rfl LdA) ?_
    refine RM rfl (ev_move rfl) ?_
    (first | refine RM rfl (ev_indexAddrN rfl rfl NgA) ?_ | refine RM rfl (ev_indexAddr rfl rfl NgA NgA) ?_)
    refine RQ rfl (ev_load rfl LdA) ?_
    refine RS_e (RE_last (by kernel_rfl) rfl rfl rfl (eff_callv rfl rfl (cless_ctr y x _)) ?_); rintro _ _ ⟨rfl, rfl⟩
    by_cases hyx : y < x
    · refine GN ?_
      refine G_cond_t rfl (decide_eq_true hyx) ?_
      refine GN ?_
      refine G_drawE 0 (.q 0 (.q 1 (.q 2 (.q 3 (.q 6 (.q 7 (.e 4 (.e 5 (.q 8 (.q 9 .nil)))))))))) (by kernel_rfl) (by kernel_rfl) ?_
      refine RM rfl (ev_move rfl) ?_
      refine RM rfl (ev_move rfl) ?_
      (first | refine RM rfl (ev_indexAddrN rfl rfl NgA) ?_ | refine RM rfl (ev_indexAddr rfl rfl NgA NgA) ?_)
      refine RQ rfl (ev_load rfl LdA) ?_
      refine RM rfl (ev_move rfl) ?_
      refine RQ rfl (ev_sliceL rfl rfl NgA NgA) ?_
      refine RS_e (RE_eff rfl rfl rfl (eff_buildSlice1 (by rfl) rfl rfl) ?_); rintro _ _ ⟨b34, rfl, rfl⟩; refine ⟨_, ExA, fun _ s => s, ?_⟩
      refine RS_e (RE_eff rfl rfl rfl (eff_append rfl rfl PkA (by repeat' first | exact Rc.blk rfl | assumption | apply Rc.skip) (one_all rfl) (by rfl) (by decide) NgA NgA) ?_); rintro _ _ ⟨A35, c35, rfl, hc35, hm35, hn35, rfl⟩; refine ⟨_, ExA, fun _ s => s, ?_⟩
      refine RM rfl (ev_assign rfl) ?_
      refine RM rfl (ev_assign rfl) ?_
      refine RS_nil ?_
      refine GN ?_
      exact G_round ((some ⟨ab, ao, none⟩, c1, x :: l2), (some ⟨bb, (if d1 = 1 then bo else bo + 1 * 1), none⟩, d1 - 1, q2), (A35, c35, o ++ [y])) ⟨⟨f1, f2, List.pairwise_cons.2 f3⟩, ⟨k1.drop (k := 1) (c := d1) (by omega) k2, by simp only; omega, k3.2⟩, by
          refine List.Perm.trans ?_ hp
          simp only [List.append_assoc]
          refine List.Perm.append_left o ?_
          exact (List.perm_middle (l₁ := x :: l2)).symm, by
          simp only
          rw [List.pairwise_append]
          exact ⟨so, by simp, fun a ha b hb => by simp at hb; subst hb; exact hle a ha _ (by simp)⟩, by
          simp only
          intro a ha b hb
          rcases List.mem_append.1 ha with ha | ha
          · exact hle a ha b (by simp at hb ⊢; rcases hb with h | h | h <;> simp [h])
          · simp at ha; subst ha
            rcases List.mem_append.1 hb with hb | hb
            · rcases List.mem_cons.1 hb with rfl | hb
              · omega
              · have := f3.1 b hb; omega
            · exact k3.1 b hb, fun _ => hn35 (by omega)⟩ (by simp only [List.length_cons]; omega) ⟨rfl, rfl, rfl, by rw [List.length_append]; rfl, trivial⟩ (by
          have e5 : flat (o ++ [y]) = flat o ++ [Value.int .i64 y] := (flat_snoc o y).symm
          simp only [List.length_append, List.length_singleton, e5]
          exact EpA)
    · refine GN ?_
      refine G_cond_f rfl (decide_eq_false hyx) ?_
      refine GN ?_
      refine G_drawE 0 (.q 0 (.q 1 (.q 2 (.q 3 (.q 6 (.q 7 (.e 4 (.e 5 (.q 8 (.q 9 .nil)))))))))) (by kernel_rfl) (by kernel_rfl) ?_
      refine RM rfl (ev_move rfl) ?_
      refine RM rfl (ev_move rfl) ?_
      (first | refine RM rfl (ev_indexAddrN rfl rfl NgA) ?_ | refine RM rfl (ev_indexAddr rfl rfl NgA NgA) ?_)
      refine RQ rfl (ev_load rfl LdA) ?_
      refine RM rfl (ev_move rfl) ?_
      refine RQ rfl (ev_sliceL rfl rfl NgA NgA) ?_
      refine RS_e (RE_eff rfl rfl rfl (eff_buildSlice1 (by rfl) rfl rfl) ?_); rintro _ _ ⟨b42, rfl, rfl⟩; refine ⟨_, ExA, fun _ s => s, ?_⟩
      refine RS_e (RE_eff rfl rfl rfl (eff_append rfl rfl PkA (by repeat' first | exact Rc.blk rfl | assumption | apply Rc.skip) (one_all rfl) (by rfl) (by decide) NgA NgA) ?_); rintro _ _ ⟨A43, c43, rfl, hc43, hm43, hn43, rfl⟩; refine ⟨_, ExA, fun _ s => s, ?_⟩
      refine RM rfl (ev_assign rfl) ?_
      refine RM rfl (ev_assign rfl) ?_
      refine RS_nil ?_
      refine GN ?_
      exact G_round ((some ⟨ab, (if c1 = 1 then ao else ao + 1 * 1), none⟩, c1 - 1, l2), (some ⟨bb, bo, none⟩, d1, y :: q2), (A43, c43, o ++ [x])) ⟨⟨f1.drop (k := 1) (c := c1) (by omega) f2, by simp only; omega, f3.2⟩, ⟨k1, k2, List.pairwise_cons.2 k3⟩, by
          refine List.Perm.trans ?_ hp
          simp only [List.append_assoc]
          exact .refl _, by
          simp only
          rw [List.pairwise_append]
          exact ⟨so, by simp, fun a ha b hb => by simp at hb; subst hb; exact hle a ha _ (by simp)⟩, by
          simp only
          intro a ha b hb
          rcases List.mem_append.1 ha with ha | ha
          · exact hle a ha b (by simp at hb ⊢; rcases hb with h | h | h <;> simp [h])
          · simp at ha; subst ha
            rcases List.mem_append.1 hb with hb | hb
            · exact f3.1 b hb
            · rcases List.mem_cons.1 hb with rfl | hb
              · omega
              · have := k3.1 b hb; omega, fun _ => hn43 (by omega)⟩ (by simp only [List.length_cons]; omega) ⟨rfl, rfl, rfl, by rw [List.length_append]; rfl, trivial⟩ (by
          have e5 : flat (o ++ [x]) = flat o ++ [Value.int .i64 x] := (flat_snoc o x).symm
          simp only [List.length_append, List.length_singleton, e5]
          exact EpA)
  · have key : o ++ l1 ++ q1 = srt (l ++ q) := by
      rw [List.append_assoc]
      refine eq_of_sorted _ _ (hp.trans (srt_perm _).symm) (List.pairwise_append.2 ⟨so, ?_, hle⟩) (srt_sorted _)
      rcases Nat.eq_zero_or_pos l1.length with h0 | h0
      · rw [List.eq_nil_of_length_eq_zero h0]; exact k3
      · rw [List.eq_nil_of_length_eq_zero (by omega : q1.length = 0), List.append_nil]; exact f3
    have klen : (srt (l ++ q)).length = o.length + l1.length + q1.length := by rw [← key]; simp; omega
    have kfl : flat (srt (l ++ q)) = flat o ++ flat l1 ++ flat q1 := by rw [← key]; simp [flat_append]
    rcases Nat.eq_zero_or_pos l1.length with h0 | h0
    · refine GN ?_
      refine G_region ?_
      refine GQ (ev_move rfl) ?_
      refine GQ (ev_len rfl) ?_
      refine GQ (ev_gtr rfl rfl) ?_
      refine GQ (ev_move rfl) ?_
      refine GO_no rfl rfl rfl (decide_eq_false (by omega)) ?_
      refine GO_no rfl rfl rfl (decide_eq_false (by omega)) ?_
      refine GO_no rfl rfl rfl (decide_eq_false (by omega)) ?_
      refine GQ (ev_pick_f rfl (decide_eq_false (by omega)) rfl) ?_
      refine GO_nil ?_
      refine GN ?_
      refine G_cond_f rfl rfl ?_
      refine GN ?_
      refine G_region ?_
      refine GQ (ev_move rfl) ?_
      refine GQ (ev_move rfl) ?_
      refine GE (eff_append rfl rfl PkA ((by repeat' first | assumption | apply Rc.skip)) ((flat_one _)) (by rfl) (by decide) NgA NgA) ?_; rintro _ _ ⟨A48, c48, rfl, hc48, hm48, hn48, rfl⟩
      refine GQ (ev_move rfl) ?_
      refine GE (eff_append rfl rfl PkA ((by repeat' first | assumption | apply Rc.skip)) ((flat_one _)) (by rfl) (by decide) NgA NgA) ?_; rintro _ _ ⟨A50, c50, rfl, hc50, hm50, hn50, rfl⟩
      refine GQ (ev_assign rfl) ?_
      refine GO_nil ?_
      refine GN ?_
      refine G_ret (L' := own 3 1 A50 (srt (l ++ q)).length c50 (flat (srt (l ++ q))) :: L) rfl (.tmp rfl .nil) ?_ ⟨A50, c50, by rw [klen]; rfl, by rw [klen]; exact hn50, rfl⟩
      rw [klen, kfl]
      exact EpA
    · refine GN ?_
      refine G_region ?_
      refine GQ (ev_move rfl) ?_
      refine GQ (ev_len rfl) ?_
      refine GQ (ev_gtr rfl rfl) ?_
      refine GQ (ev_move rfl) ?_
      refine GO_yes rfl rfl rfl (decide_eq_true (by omega)) ?_
      refine GQ (ev_move rfl) ?_
      refine GO_yes rfl rfl rfl (decide_eq_true (by omega)) ?_
      refine GQ (ev_len rfl) ?_
      refine GO_yes rfl rfl rfl (decide_eq_true (by omega)) ?_
      refine GQ (ev_gtr rfl rfl) ?_
      refine GQ (ev_pick_t rfl (decide_eq_true (by omega)) rfl) ?_
      refine GO_nil ?_
      refine GN ?_
      refine G_cond_f rfl (decide_eq_false (by omega)) ?_
      refine GN ?_
      refine G_region ?_
      refine GQ (ev_move rfl) ?_
      refine GQ (ev_move rfl) ?_
      refine GE (eff_append rfl rfl PkA ((by repeat' first | assumption | apply Rc.skip)) ((flat_one _)) (by rfl) (by decide) NgA NgA) ?_; rintro _ _ ⟨A48, c48, rfl, hc48, hm48, hn48, rfl⟩
      refine GQ (ev_move rfl) ?_
      refine GE (eff_append rfl rfl PkA ((by repeat' first | assumption | apply Rc.skip)) ((flat_one _)) (by rfl) (by decide) NgA NgA) ?_; rintro _ _ ⟨A50, c50, rfl, hc50, hm50, hn50, rfl⟩
      refine GQ (ev_assign rfl) ?_
      refine GO_nil ?_
      refine GN ?_
      refine G_ret (L' := own 3 1 A50 (srt (l ++ q)).length c50 (flat (srt (l ++ q))) :: L) rfl (.tmp rfl .nil) ?_ ⟨A50, c50, by rw [klen]; rfl, by rw [klen]; exact hn50, rfl⟩
      rw [klen, kfl]
      exact EpA
theorem srt_append (l q : List Int) : srt (srt l ++ srt q) = srt (l ++ q) :=
  eq_of_sorted _ _ ((srt_perm _).trans (((srt_perm l).append (srt_perm q)).trans (srt_perm _).symm)) (srt_sorted _) (srt_sorted _)
theorem srt_length (l : List Int) : (srt l).length = l.length := (srt_perm l).length_eq
theorem sortI_ctr : ∀ (N : Nat) (A : Option Addr) (n c : Nat) (l : List Int) (L : List HP) (_ : n ≤ N) (_ : Rd L A n l) (_ : n ≤ 1000000) (_ : n ≤ c),
    Ctr Tryz.prog 105 #[.slice A n c, .func (.func 59) #[] #[]] L fun v L' => Made 3 (srt l) L v L' := by
  intro N
  induction N with
  | zero =>
    intro A n c l L h0 hl hn hc
    refine Ctr_of (fn := Tryz.f105) (n := 27) Tryz.func105 rfl rfl rfl ?_
    intro g F
    refine GN ?_
    refine G_region ?_
    refine GQ (ev_assign rfl) ?_
    refine GO_nil ?_
    refine GN ?_
    refine G_region ?_
    refine GQ (ev_move rfl) ?_
    refine GQ (ev_len rfl) ?_
    refine GQ (ev_leq rfl rfl) ?_
    refine GO_nil ?_
    refine GN ?_
    refine G_cond_t rfl (decide_eq_true (by omega)) ?_
    refine GN ?_
    refine G_region ?_
    refine GQ (ev_move rfl) ?_
    refine GQ (ev_move rfl) ?_
    refine GE (eff_call rfl (byI_ctr A n c l _ RdA hn)) ?_; rintro _ _ ⟨A9, c9, rfl, h9, rfl⟩
    refine GQ (ev_assign rfl) ?_
    refine GO_nil ?_
    refine GN ?_
    exact G_ret (L' := own 3 1 A9 (srt l).length c9 (flat (srt l)) :: L) rfl (.tmp rfl .nil) EpA ⟨A9, c9, rfl, h9, rfl⟩
  | succ N ih =>
    intro A n c l L h0 hl hn hc
    have h1 : l.length = n := hl.len (by decide)
    refine Ctr_of (fn := Tryz.f105) (n := 27) Tryz.func105 rfl rfl rfl ?_
    intro g F
    refine GN ?_
    refine G_region ?_
    refine GQ (ev_assign rfl) ?_
    refine GO_nil ?_
    refine GN ?_
    refine G_region ?_
    refine GQ (ev_move rfl) ?_
    refine GQ (ev_len rfl) ?_
    refine GQ (ev_leq rfl rfl) ?_
    refine GO_nil ?_
    refine GN ?_
    refine G_cond rfl (fun c1 => ?_) (fun c1 => ?_)
    · refine GN ?_
      refine G_region ?_
      refine GQ (ev_move rfl) ?_
      refine GQ (ev_move rfl) ?_
      refine GE (eff_call rfl (byI_ctr A n c l _ RdA hn)) ?_; rintro _ _ ⟨A9, c9, rfl, h9, rfl⟩
      refine GQ (ev_assign rfl) ?_
      refine GO_nil ?_
      refine GN ?_
      exact G_ret (L' := own 3 1 A9 (srt l).length c9 (flat (srt l)) :: L) rfl (.tmp rfl .nil) EpA ⟨A9, c9, rfl, h9, rfl⟩
    · obtain ⟨b, o, rfl, _⟩ := hl.at_ (by omega)
      have e2 : srt (srt (l.take (n / 2)) ++ srt (l.drop (n / 2))) = srt l := by rw [srt_append, List.take_append_drop]
      have hT : ∀ X, Rd (X ++ L) (some ⟨b, o, none⟩) (n / 2) (l.take (n / 2)) := fun X => Rd.app (hl.take (by omega))
      have hD : ∀ X, Rd (X ++ L) (some ⟨b, (if c = n / 2 then o else o + (n / 2) * 1), none⟩) (n - n / 2) (l.drop (n / 2)) := fun X => Rd.app (hl.drop (k := n / 2) (c := c) (by omega) hc)
      refine GN ?_
      refine G_region ?_
      refine GQ (ev_move rfl) ?_
      refine GQ (ev_len rfl) ?_
      (first | refine GQ (ev_quoN (q := 2) rfl rfl NgA NgA) ?_ | refine GQ (ev_quo rfl rfl NgA NgA NgA) ?_)
      refine GQ (ev_assign rfl) ?_
      refine GO_nil ?_
      refine GN ?_
      refine G_draw (.q 0 (.q 1 (.q 2 (.q 3 (.q 5 (.q 6 (.q 7 (.q 8 (.q 10 (.e 4 (.e 9 (.e 11 (.q 12 .nil))))))))))))) (by kernel_rfl) (by kernel_rfl) ?_
      refine RM rfl (ev_move rfl) ?_
      refine RM rfl (ev_move rfl) ?_
      refine RQ rfl (ev_sliceH rfl rfl NgA) ?_
      refine RM rfl (ev_move rfl) ?_
      refine RM rfl (ev_move rfl) ?_
      refine RM rfl (ev_move rfl) ?_
      refine RQ rfl (ev_sliceL rfl rfl NgA NgA) ?_
      refine RM rfl (ev_move rfl) ?_
      refine RM rfl (ev_move rfl) ?_
      refine RS_e (RE_eff rfl rfl rfl (eff_call rfl ((ih (some ⟨b, o, none⟩) (n / 2) c (l.take (n / 2)) _ (by omega) (hT [F]) (by omega) (by omega)).made)) ?_); rintro _ _ ⟨A1, c1', rfl, u1, v1, x1, rfl⟩; refine ⟨_, fun _ s => s, ExA, ?_⟩
      refine RS_e (RE_eff rfl rfl rfl (eff_call rfl ((ih (some ⟨b, (if c = n / 2 then o else o + (n / 2) * 1), none⟩) (n - n / 2) (c - n / 2) (l.drop (n / 2)) _ (by omega) (hD [own 3 1 A1 (srt (l.take (n / 2))).length c1' (flat (srt (l.take (n / 2)))), F]) (by omega) (by omega)).made)) ?_); rintro _ _ ⟨A2, c2', rfl, u2, v2, x2, rfl⟩; refine ⟨_, fun _ s => s, ExA, ?_⟩
      refine RS_e (RE_eff rfl rfl rfl (eff_call rfl (mergeI_ctr A1 A2 _ _ c1' c2' (srt (l.take (n / 2))) (srt (l.drop (n / 2))) _ (Rd.skip (Rc.own (flat_length _) u1)) (Rc.own (flat_length _) u2) (by rw [srt_length, List.length_take]; omega) (by rw [srt_length, List.length_drop]; omega) v1 v2 (srt_sorted _) (srt_sorted _))) ?_); rintro _ _ ⟨A3, c3', rfl, u3, rfl⟩; refine ⟨_, fun _ s => s, ExA, ?_⟩
      refine RM rfl (ev_assign rfl) ?_
      refine RS_nil ?_
      rw [e2] at u3
      rw [e2]
      refine GN ?_
      exact G_ret (L' := own 3 1 A3 (srt l).length c3' (flat (srt l)) :: L) rfl (.tmp rfl .nil) EpA ⟨A3, c3', rfl, u3, rfl⟩
theorem SortI_ctr (A : Option Addr) (n c : Nat) (l : List Int) (L : List HP) (hl : Rd L A n l) (hn : n ≤ 1000000) (hc : n ≤ c) :
    Ctr Tryz.prog 75 #[.slice A n c, .func (.func 59) #[] #[]] L fun v L' => Made 3 (srt l) L v L' := by
  refine Ctr_of (fn := Tryz.f75) (n := 8) Tryz.func75 rfl rfl rfl ?_
  intro g F
  refine GN ?_
  refine G_region ?_
  refine GQ (ev_assign rfl) ?_
  refine GO_nil ?_
  refine GN ?_
  refine G_region ?_
  refine GQ (ev_move rfl) ?_
  refine GQ (ev_move rfl) ?_
  refine GE (eff_call rfl (sortI_ctr n A n c l _ (Nat.le_refl _) RdA hn hc)) ?_; rintro _ _ ⟨A9, c9, rfl, h9, rfl⟩
  refine GQ (ev_assign rfl) ?_
  refine GO_nil ?_
  refine GN ?_
  exact G_ret (L' := own 3 1 A9 (srt l).length c9 (flat (srt l)) :: L) rfl (.tmp rfl .nil) EpA ⟨A9, c9, rfl, h9, rfl⟩
/-- Each once. -/
def uqs (o : List Int) (v : Int) : List Int := match o.getLast? with
  | none => o ++ [v]
  | some z => if z < v then o ++ [v] else o
def uq (l : List Int) : List Int := l.foldl uqs []
/-- Numbers, each once, rising. -/
def ofL (l : List Int) : List Int := uq (srt l)
end Go.Proofs.YtkoncepjfgnjlaaGreat
/- Points in several trees: which are dead; a new set. -/
namespace Go.Proofs.YtkoncepjfgnjlaaGreat
attribute [local irreducible] sat
open Go.RowKit
set_option linter.unusedVariables false
set_option linter.unusedSimpArgs false
set_option maxRecDepth 100000

/-- The ids of those that are dead, in a box. -/
def ded (w : Bx) (M : List (Pt × Bool)) : List Int := (M.filter fun x => x.2 && w.has x.1.x x.1.y).map (·.1.id)
theorem ded_cons (w : Bx) (x : Pt × Bool) (M : List (Pt × Bool)) : ded w (x :: M) = (if x.2 && w.has x.1.x x.1.y then [x.1.id] else []) ++ ded w M := by
  unfold ded; rw [List.filter_cons]; split <;> simp
theorem ded_app (w : Bx) (M N : List (Pt × Bool)) : ded w (M ++ N) = ded w M ++ ded w N := by simp [ded]
theorem ded_mid (w : Bx) (A C : List (Pt × Bool)) (u : Pt × Bool) : ((if u.2 && w.has u.1.x u.1.y then [u.1.id] else []) ++ ded w (A ++ C)).Perm (ded w (A ++ u :: C)) := by
  rw [ded_app, ded_app, ded_cons, ← List.append_assoc, ← List.append_assoc]
  exact (List.perm_append_comm).append_right _
theorem lgLost_ctr (s b n c : Nat) (A : Option Addr) (most built : Int) (gone : Nat) (w : Bx) (M : List (Pt × Bool)) (L : List HP) (h : LdN L s 0 5 (lsC A n c b (gone : Nat) most built)) (hn : M.length ≤ 100000) :
    Ctr Tryz.prog 45 #[.pointer (some ⟨s, 0, none⟩), w.v] (mpH b M :: L) fun v L' => Made 3 (srt (ded w M)) (mpH b M :: L) v L' := by
  have h1 : Ld L ⟨s, 0 + 1, none⟩ (.map (some b)) := h.at_ (i := 1) rfl
  refine Ctr_of (fn := Tryz.f45) (n := 33) Tryz.func45 rfl rfl rfl ?_
  intro g F
  refine GN ?_
  refine G_region ?_
  refine GE (eff_box rfl) ?_; rintro _ _ ⟨b3, rfl, rfl⟩
  refine GQ (ev_assign rfl) ?_
  refine GO_nil ?_
  refine GN ?_
  refine G_region ?_
  refine GQ (ev_assign rfl) ?_
  refine GO_nil ?_
  refine GN ?_
  refine G_region ?_
  refine GQ (ev_move rfl) ?_
  (first | refine GQ (ev_eqlNil rfl rfl) ?_ | refine GQ (ev_eqlPtr rfl rfl) ?_)
  refine GO_nil ?_
  refine GN ?_
  refine G_cond_f rfl rfl ?_
  refine GN ?_
  refine G_region ?_
  refine GQ (ev_move rfl) ?_
  (first | refine GQ (ev_nilCheck rfl) ?_ | refine GQ (ev_nilCheckF (by simp) rfl) ?_)
  refine GQ (ev_fieldAddr rfl) ?_
  refine GQ (ev_load rfl LdA) ?_
  refine GE (eff_range rfl PkA) ?_; rintro _ _ ⟨b14, rfl, rfl⟩
  refine GO_nil ?_
  refine GN ?_
  refine G_heap (own.nil_ 3 1) ?_
  refine G_loop (ι := List (Pt × Bool) × Option (Pt × Bool) × Option Addr × Nat × List Int) (fun y => [(3, .pointer (some ⟨b3, 0, none⟩)), (5, .slice y.2.2.1 y.2.2.2.2.length y.2.2.2.1), (14, .pointer (some ⟨b14, 0, none⟩))]) (fun y => own 3 1 y.2.2.1 y.2.2.2.2.length y.2.2.2.1 (flat y.2.2.2.2) :: rgH b14 b M y.1 y.2.1 :: blk b3 35 [.int .i64 w.x1, .int .i64 w.x2, .int .i64 w.y1, .int .i64 w.y2] :: F :: L)
    (fun y => (y.2.2.2.2 ++ ded w y.1).Perm (ded w M) ∧ y.2.2.2.2.length + y.1.length ≤ M.length ∧ (0 < y.2.2.2.2.length → ∃ b, y.2.2.1 = some ⟨b, 0, none⟩) ∧ y.2.2.2.2.length ≤ y.2.2.2.1 ∧ y.2.2.2.1 ≤ maxLen) (fun y => y.1.length) (M, none, none, 0, []) ⟨.refl _, by simp, (fun h => absurd h (Nat.lt_irrefl 0)), Nat.le_refl _, Nat.zero_le _⟩ ⟨rfl, rfl, rfl, trivial⟩ EpA ?_
  rintro ⟨R, q, B, d, out⟩ ⟨f1, f2, f3, f4, f5⟩
  simp only at f1 f2 f3 f4 f5
  dsimp only
  cases R with
  | nil =>
    refine GN ?_
    refine G_region ?_
    refine GE (eff_nextN rfl PkA) ?_; rintro _ _ ⟨rfl, rfl⟩
    refine GQ (ev_extract rfl rfl) ?_
    refine GO_nil ?_
    refine GN ?_
    refine G_cond_f rfl rfl ?_
    have hp : out.Perm (ded w M) := by simpa [ded] using f1
    have e : srt out = srt (ded w M) := srt_congr hp
    have hs := fun X hX => SortI_ctr B out.length d out X hX (by simp at f2; omega) f4
    rw [e] at hs
    refine GN ?_
    refine G_region ?_
    refine GQ (ev_move rfl) ?_
    refine GE (eff_call rfl (hs _ (by repeat' first | exact Rc.own (flat_length _) f3 | apply Rd.skip))) ?_; rintro _ _ ⟨A9, c9, rfl, hA9, rfl⟩
    refine GQ (ev_assign rfl) ?_
    refine GO_nil ?_
    refine GN ?_
    exact G_ret (L' := own 3 1 A9 (srt (ded w M)).length c9 (flat (srt (ded w M))) :: mpH b M :: L) rfl (.tmp rfl .nil) (by (repeat first | exact en_refl | apply en_rg | (apply en_blk; focus ((repeat' first | exact Pick.here | apply Pick.skip | apply Pick.app); done); focus rfl) | (apply en_own; focus ((repeat' first | exact Pick.here | apply Pick.skip | apply Pick.app); done); focus rfl) | (apply en_pick; focus ((repeat' first | exact Pick.here | apply Pick.skip | apply Pick.app); done)) | apply en_drop | apply en_app) <;> fail) ⟨A9, c9, rfl, hA9, rfl⟩
  | cons u0 R =>
    refine GN ?_
    refine G_region ?_
    refine GE (eff_nextC rfl PkA) ?_; rintro _ _ ⟨R1, u, R2, eR, rfl, rfl⟩
    refine GQ (ev_extract rfl rfl) ?_
    refine GO_nil ?_
    refine GN ?_
    refine G_cond_t rfl rfl ?_
    have hl : R.length + 1 = R1.length + (R2.length + 1) := by
      have := congrArg List.length eR
      simpa using this
    have hpm := ded_mid w R1 R2 u
    rw [← eR] at hpm
    obtain ⟨up, ud⟩ := u
    simp only [List.length_cons] at f2
    have hh := Has_ctr w up
    simp only at hpm
    generalize w.has up.x up.y = hb at *
    refine GN ?_
    refine G_region ?_
    refine GQ (ev_entry rfl (by repeat' first | exact Rg.here | apply Rg.skip)) ?_
    refine GQ (ev_extract rfl rfl) ?_
    refine GQ (ev_extract rfl rfl) ?_
    refine GE eff_alloc ?_; rintro _ _ ⟨b6, rfl, rfl⟩
    refine GE (eff_storeN rfl rfl rfl rfl UpA) ?_; rintro _ _ ⟨rfl, rfl⟩
    refine GQ (ev_assign rfl) ?_
    refine GO_nil ?_
    cases ud with
    | false =>
      refine GN ?_
      refine G_region ?_
      refine GQ (ev_move rfl) ?_
      refine GQ (ev_move rfl) ?_
      refine GO_no rfl rfl rfl rfl ?_
      refine GO_no rfl rfl rfl rfl ?_
      refine GO_no rfl rfl rfl rfl ?_
      refine GQ (ev_pick_f rfl rfl rfl) ?_
      refine GO_nil ?_
      refine GN ?_
      refine G_cond_f rfl rfl ?_
      refine GN ?_
      exact G_round (R1 ++ R2, some (up, false), B, d, out) ⟨(hpm.append_left out).trans f1, by simp; omega, f3, f4, f5⟩ (by simp; omega) ⟨rfl, rfl, rfl, trivial⟩ EpA
    | true =>
      cases hb with
      | false =>
        refine GN ?_
        refine G_region ?_
        refine GQ (ev_move rfl) ?_
        refine GQ (ev_move rfl) ?_
        refine GO_yes rfl rfl rfl rfl ?_
        refine GQ (ev_loadN rfl LnA) ?_
        refine GO_yes rfl rfl rfl rfl ?_
        refine GQ (ev_loadN rfl LnA) ?_
        refine GO_yes rfl rfl rfl rfl ?_
        refine GE (eff_call rfl (hh _)) ?_; rintro _ _ ⟨rfl, rfl⟩
        refine GQ (ev_pick_t rfl rfl rfl) ?_
        refine GO_nil ?_
        refine GN ?_
        refine G_cond_f rfl rfl ?_
        refine GN ?_
        exact G_round (R1 ++ R2, some (up, true), B, d, out) ⟨(hpm.append_left out).trans f1, by simp; omega, f3, f4, f5⟩ (by simp; omega) ⟨rfl, rfl, rfl, trivial⟩ EpA
      | true =>
        refine GN ?_
        refine G_region ?_
        refine GQ (ev_move rfl) ?_
        refine GQ (ev_move rfl) ?_
        refine GO_yes rfl rfl rfl rfl ?_
        refine GQ (ev_loadN rfl LnA) ?_
        refine GO_yes rfl rfl rfl rfl ?_
        refine GQ (ev_loadN rfl LnA) ?_
        refine GO_yes rfl rfl rfl rfl ?_
        refine GE (eff_call rfl (hh _)) ?_; rintro _ _ ⟨rfl, rfl⟩
        refine GQ (ev_pick_t rfl rfl rfl) ?_
        refine GO_nil ?_
        refine GN ?_
        refine G_cond_t rfl rfl ?_
        refine GN ?_
        refine G_region ?_
        refine GQ (ev_move rfl) ?_
        refine GQ (ev_fieldAddr rfl) ?_
        refine GQ (ev_load rfl LdA) ?_
        refine GE (eff_buildSlice1 (by rfl) rfl rfl) ?_; rintro _ _ ⟨b29, rfl, rfl⟩
        refine GE (eff_append rfl rfl PkA (by repeat' first | exact Rc.blk rfl | assumption | apply Rc.skip) (one_all rfl) (by rfl) (by decide) NgA NgA) ?_; rintro _ _ ⟨A30, c30, rfl, hc30, hm30, hn30, rfl⟩
        refine GQ (ev_assign rfl) ?_
        refine GO_nil ?_
        refine GN ?_
        refine G_round (R1 ++ R2, some (up, true), A30, c30, out ++ [up.id]) ⟨?_, by simp; omega, by simpa using hn30, by simpa using hc30, hm30⟩ (by simp; omega) ⟨rfl, by simp only [List.length_append, List.length_singleton]; rfl, rfl, trivial⟩ ?_
        · show ((out ++ [up.id]) ++ ded w (R1 ++ R2)).Perm (ded w M)
          rw [List.append_assoc]
          exact (hpm.append_left out).trans f1
        · simp only [List.length_append, List.length_singleton]
          rw [← flat_snoc]
          exact EpA
theorem lgDead_ctr (s b n c : Nat) (A : Option Addr) (most built : Int) (gone : Nat) (w : Bx) (M : List (Pt × Bool)) (L : List HP) (h : LdN L s 0 5 (lsC A n c b (gone : Nat) most built)) (hn : M.length ≤ 100000) :
    Ctr Tryz.prog 18 #[.pointer (some ⟨s, 0, none⟩), w.v] (mpH b M :: L) fun v L' => Made 3 (srt (ded w M)) (mpH b M :: L) v L' := by
  refine Ctr_of (fn := Tryz.f18) (n := 8) Tryz.func18 rfl rfl rfl ?_
  intro g F
  refine GN ?_
  refine G_region ?_
  refine GE (eff_box rfl) ?_; rintro _ _ ⟨b3, rfl, rfl⟩
  refine GQ (ev_assign rfl) ?_
  refine GO_nil ?_
  refine GN ?_
  refine G_region ?_
  refine GQ (ev_move rfl) ?_
  refine GQ (ev_loadN rfl LnA) ?_
  refine GE (eff_call rfl (Ctr.pick PkA (lgLost_ctr s b n c A most built gone w M _ (by repeat' first | exact h | apply LdN.skip) hn))) ?_; rintro _ _ ⟨A9, c9, rfl, hA9, rfl⟩
  refine GQ (ev_assign rfl) ?_
  refine GO_nil ?_
  refine GN ?_
  exact G_ret (L' := own 3 1 A9 (srt (ded w M)).length c9 (flat (srt (ded w M))) :: mpH b M :: L) rfl (.tmp rfl .nil) EpA ⟨A9, c9, rfl, hA9, rfl⟩
theorem lgNew_ctr (most : Int) (L : List HP) (h1 : 1 ≤ most) (h2 : most ≤ 1048576) : Ctr Tryz.prog 8 #[.int .i64 most] L fun v L' => ∃ s b, v = .tuple #[.pointer (some ⟨s, 0, none⟩), .int .i64 0] ∧ L' = blk s 69 (lsC none 0 0 b 0 most 0) :: mpH b [] :: L := by
  refine Ctr_of (fn := Tryz.f8) (n := 14) Tryz.func8 rfl rfl rfl ?_
  intro g F
  refine GN ?_
  refine G_region ?_
  refine GQ (ev_assign rfl) ?_
  refine GQ (ev_assign rfl) ?_
  refine GO_nil ?_
  refine GN ?_
  refine G_region ?_
  refine GQ (ev_move rfl) ?_
  (first | refine GQ (ev_lssN (q := 1) rfl rfl) ?_ | refine GQ (ev_lss rfl rfl) ?_)
  refine GQ (ev_move rfl) ?_
  refine GO_yes rfl rfl rfl (decide_eq_false (by omega)) ?_
  refine GQ (ev_move rfl) ?_
  refine GO_yes rfl rfl rfl (decide_eq_false (by omega)) ?_
  refine GQ (ev_gtr rfl rfl) ?_
  refine GQ (ev_pick_f rfl (decide_eq_false (by omega)) rfl) ?_
  refine GO_nil ?_
  refine GN ?_
  refine G_cond_f rfl (decide_eq_false (by omega)) ?_
  refine GN ?_
  refine G_region ?_
  refine GE eff_makeMap ?_; rintro _ _ ⟨b10, rfl, rfl⟩
  refine GQ (ev_move rfl) ?_
  refine GQ (ev_build rfl rfl) ?_
  refine GE (eff_box rfl) ?_; rintro _ _ ⟨b13, rfl, rfl⟩
  refine GQ (ev_assign rfl) ?_
  refine GQ (ev_assign rfl) ?_
  refine GO_nil ?_
  refine GN ?_
  exact G_ret (L' := blk b13 69 (lsC none 0 0 b10 0 most 0) :: mpH b10 [] :: L) rfl (.tmp rfl (.tmp rfl .nil)) EpA ⟨b13, b10, rfl, rfl⟩
end Go.Proofs.YtkoncepjfgnjlaaGreat
/- Further rules by operation: numbers of other kinds, parts of arrays. No program stands in this text. -/
namespace Go.Proofs.YtkoncepjfgnjlaaGreat
open Go.RowKit
set_option linter.unusedSimpArgs false
set_option linter.unusedSectionVars false
class IntK (P : Program) (T : TypeId) (k : outParam IntKind) : Prop where
  h : P.underlying T = some (.int k)
section
variable {P : Program} {L : List HP} {σ : Env} {d : Option Nat} {ty T T' : TypeId} {pos : String} {aft : Array Edge} {gd : Option (Nat × Bool)} {x y z : Operand} {v u : Value}
end
end Go.Proofs.YtkoncepjfgnjlaaGreat
/- What is thrown, and caught: of what throws nothing. -/
namespace Go.Proofs.YtkoncepjfgnjlaaGreat
attribute [local irreducible] sat
open Go.RowKit
set_option linter.unusedVariables false
set_option linter.unusedSimpArgs false
set_option maxRecDepth 100000

def ifaceB (P : Program) (T : TypeId) : Bool := match P.underlying T with
  | some (.interface _) => true
  | _ => false
class IfaceT (P : Program) (T : TypeId) : Prop where
  h : ifaceB P T = true
theorem IfaceT.spec {P : Program} {T : TypeId} (H : IfaceT P T) : ∃ e, P.underlying T = some (.interface e) := by
  have h := H.h
  unfold ifaceB at h
  split at h
  · exact ⟨_, by assumption⟩
  · cases h
section
variable {P : Program} {L : List HP} {σ : Env} {d : Option Nat} {ty T T' : TypeId} {pos : String} {aft : Array Edge} {gd : Option (Nat × Bool)} {x : Operand}
theorem ev_eqlIface [H : IfaceT P T] (hx : ev σ x = some .nilIface) : Ev P L σ ⟨d, .binOp .eql T x (.const .nilIface) T', ty, pos, aft, gd⟩ (.bool true) :=
  bin_run' _ _ _ _ (fun w => by unfold eqGuard; simp) hx rfl fun w => by
    obtain ⟨e, he⟩ := H.spec
    have h2 : (Op.equal T .nilIface .nilIface).run P w = .ok true w := by
      unfold Op.equal
      rw [show Op.maxDepth = 9999 + 1 from rfl]
      unfold Op.equalIn
      simp only [Sem.run_bind, run_underlying he, Result.andThen_ok]
      rfl
    show ((do pure (.bool (← Op.equal T .nilIface .nilIface)) : Sem Value)).run P w = _
    simp only [Sem.run_bind, h2, Result.andThen_ok, Sem.run_pure]
end
instance : IfaceT Tryz.prog 20 := ⟨by kernel_rfl⟩
theorem caught_ctr (L : List HP) : Ctr Tryz.prog 137 #[.nilIface] L fun v L' => v = .tuple #[.agg #[.int .i64 0, .int .i64 0], .bool false] ∧ L' = L := by
  refine Ctr_of (fn := Tryz.f137) (n := 14) Tryz.func137 rfl rfl rfl ?_
  intro g F
  refine GN ?_
  refine G_region ?_
  refine GE eff_alloc ?_; rintro _ _ ⟨b2, rfl, rfl⟩
  refine GQ (ev_assign rfl) ?_
  refine GO_nil ?_
  refine GN ?_
  refine G_region ?_
  refine GQ (ev_move rfl) ?_
  refine GO_nil ?_
  refine GN ?_
  refine G_region ?_
  refine GQ (ev_eqlIface rfl) ?_
  refine GO_nil ?_
  refine GN ?_
  refine G_cond_t rfl rfl ?_
  refine GN ?_
  refine G_region ?_
  refine GQ (ev_assign rfl) ?_
  refine GO_nil ?_
  refine GN ?_
  refine G_region ?_
  refine GQ (ev_build rfl rfl) ?_
  refine GE (eff_storeN rfl rfl rfl rfl UpA) ?_; rintro _ _ ⟨rfl, rfl⟩
  refine GQ (ev_assign rfl) ?_
  refine GO_nil ?_
  refine GN ?_
  refine G_ret rfl (.cell rfl (loadN_run LnA) (.tmp rfl .nil)) EnA ⟨rfl, rfl⟩

section
variable {P : Program} {ops : Array Oper} {Q : Exit → Act → List Frame → World → Prop} {i n : Nat} {rest : List Nat} {a : Act} {cs : List Frame} {w : World} {o : Oper} {σ : Env} {L : List HP} {g : Glob}
theorem wpOpsS_step (ho : ops[i]? = some o) (hg : o.guard = none) (h : o.wp P a w (fun a' w' => wpOpsS P ops Q rest a' cs w') (fun e a' w' => Q e a' cs w')) : wpOpsS P ops Q (i :: rest) a cs w := by
  unfold wpOpsS
  simp only [ho, Region.wanted, hg, if_true]
  unfold Oper.wp at h
  split
  · rename_i w' hr
    rw [hr] at h
    exact h.elim
  · exact h
theorem wpOpsS_recover (ho : ops[i]? = some o) (hg : o.guard = none) (hc : (execOp a.eval o).run P w = .ok .recover w) (hcs : recoverD cs = none) (h : wpOpsS P ops Q rest (a.put o.dst .nilIface) cs w) : wpOpsS P ops Q (i :: rest) a cs w := by
  unfold wpOpsS
  simp only [ho, Region.wanted, hg, if_true, hc, hcs]
  exact h
theorem S_eff {post : Value → List HP → Prop} (hs : Sat g n σ a) (hw : Hp g L w) (ho : ops[i]? = some o) (hg : o.guard = none) (hd : dstOk n o.dst = true) (he : Eff P g L σ o post)
    (h : ∀ v L' a' w', post v L' → Sat g n (putE σ o.dst v) a' → Hp g L' w' → wpOpsS P ops Q rest a' cs w') : wpOpsS P ops Q (i :: rest) a cs w :=
  wpOpsS_step ho hg (he a w hs.e hw _ _ fun v w' L' hp hw' => h v L' _ w' hp (hs.put' v hd) hw')
theorem sat_args (g : Glob) (hg : g.dfs = []) (args : List Value) (n : Nat) (hlen : args.length ≤ n) : Sat g n (argsE args 0) { tmps := args.toArray ++ Array.replicate (n - args.toArray.size) undef, defers := [] } :=
  ⟨by simp; omega, hg.symm, fun t v e => by
    obtain ⟨j, rfl, hj⟩ := argsE_get args 0 t v e
    have hlt : j < args.length := (List.getElem?_eq_some_iff.1 hj).1
    show (args.toArray ++ _)[0 + j]? = _
    rw [Nat.zero_add, Array.getElem?_append_left (by simpa using hlt)]
    simpa using hj⟩
end
theorem results_run {P : Program} {fn : Func} {σ : Env} {L : List HP} {rs : List ResultVar} {vs : List Value} (hr : fn.results = rs.toArray) (h : Res P σ L rs vs) {a : Act} {w : World} (hs : SatE σ a) (hw : sat L w.hm) : (results fn a.tmps).run P w = .ok (retv vs) w := by
  unfold results
  rw [hr]
  simp only [List.mapM_toArray, Sem.run_bind, Sem.run_map]
  have e := h.run hs hw
  generalize hm : List.mapM (m := Sem) _ rs = m
  have e' : m.run P w = .ok vs w := by rw [← hm]; exact e
  rw [e']
  simp only [Result.andThen_ok, Sem.run_pure]
  cases vs with
  | nil => rfl
  | cons v l => cases l <;> simp [retv]
theorem SatE.of_tmps {σ : Env} {a a' : Act} (h : SatE σ a) (e : a'.tmps = a.tmps) : SatE σ a' := fun t v hs => by rw [e]; exact h t v hs
theorem wpl_eff {P : Program} {ops : Array Oper} {Q : Exit → Act → World → Prop} {rest : List Oper} {a : Act} {w : World} {o : Oper} {σ : Env} {L : List HP} {g : Glob} {post : Value → List HP → Prop} (hg : o.guard = none) (he : Eff P g L σ o post) (hs : SatE σ a) (hw : Hp g L w)
    (h : ∀ v L' w', post v L' → Hp g L' w' → wpList P ops Q rest (a.put o.dst v) w') : wpList P ops Q (o :: rest) a w := wpList_plain hg fun Kx hK => he a w hs hw Kx _ fun v w' L' hp hw' => hK _ _ (h v L' w' hp hw')
/-- What is run at the end, when nothing was thrown. -/
theorem after_ctr (b2 b3 : Nat) (g : Glob) (M : List HP) (w : World) (hw' : Hp g (blk b2 125 [.int .i64 0, .int .i64 0] :: blk b3 4 [.bool false] :: M) w) :
    CallsD Tryz.prog 136 #[.pointer (some ⟨b2, 0, none⟩), .pointer (some ⟨b3, 0, none⟩)] .returning w fun e u' w' => u' = .returning ∧ e = .returned (.tuple #[]) ∧ Hp g (blk b2 125 [.int .i64 0, .int .i64 0] :: blk b3 4 [.bool false] :: M) w' := by
  have hw := hw'.base
  refine callsD_of_wpS (fn := Tryz.f136) Tryz.func136 rfl fun c₀ cs hu => ?_
  refine wpS_region ?_
  have hs := sat_args g.base rfl [.pointer (some ⟨b2, 0, none⟩), .pointer (some ⟨b3, 0, none⟩)] 7 (by simp)
  refine wpOpsS_recover (i := 0) (rest := [1, 2, 3, 4, 5, 6]) rfl rfl rfl (by simp [recoverD, hu]) ?_
  refine S_eff (hs.put' .nilIface (d := some 3) rfl) hw rfl rfl rfl (eff_call rfl (caught_ctr _)) ?_
  rintro _ _ a1 w1 ⟨rfl, rfl⟩ s1 hw1
  refine S_eff s1 hw1 rfl rfl rfl (Ev.eff (ev_move rfl)) ?_
  rintro _ _ a2 w2 ⟨rfl, rfl⟩ s2 hw2
  refine S_eff s2 hw2 rfl rfl rfl (Ev.eff (ev_extract rfl rfl)) ?_
  rintro _ _ a3 w3 ⟨rfl, rfl⟩ s3 hw3
  refine S_eff s3 hw3 rfl rfl rfl (Ev.eff (ev_extract rfl rfl)) ?_
  rintro _ _ a4 w4 ⟨rfl, rfl⟩ s4 hw4
  refine S_eff s4 hw4 rfl rfl rfl (eff_storeN rfl rfl rfl rfl (Upd.here rfl)) ?_
  rintro _ _ a5 w5 ⟨rfl, rfl⟩ s5 hw5
  refine S_eff s5 hw5 rfl rfl rfl (eff_store rfl rfl rfl (Upd.skip (Upd.here rfl))) ?_
  rintro _ _ a6 w6 ⟨rfl, rfl⟩ s6 hw6
  refine ⟨s6.defers, .returning, ?_, .tuple #[], results_run (rs := []) (vs := []) rfl .nil s6.e hw6.s, rfl, rfl, hw6.of_base⟩
  obtain ⟨⟩ := c₀
  simp only at hu
  subst hu
  rfl
theorem catch_ctr {fid : FuncId} {c1 c2 : List Value} {L : List HP} {post : List HP → Prop} [H : CalT Tryz.prog fid] (h : Ctr Tryz.prog fid (c1 ++ [] ++ c2).toArray L fun v L' => post L') :
    Ctr Tryz.prog 112 #[.func (.func fid) c1.toArray c2.toArray] L fun v L' => v = .tuple #[.agg #[.int .i64 0, .int .i64 0], .bool false] ∧ post L' := fun g F w hw => by
  refine calls_of_wp_defers (fn := Tryz.f112) Tryz.func112 rfl ?_
  have hs := sat_args g.base rfl [.func (.func fid) c1.toArray c2.toArray] 7 (by simp)
  suffices main : ∀ B, B = bodyPostD Tryz.prog Tryz.f112 (fun e w' => ∃ v L', e = .returned v ∧ (v = .tuple #[.agg #[.int .i64 0, .int .i64 0], .bool false] ∧ post L') ∧ Hp g (F :: L') w') →
      G Tryz.prog B g.base 7 [.code (Tryz.f112.body.get rfl)] (argsE [.func (.func fid) c1.toArray c2.toArray] 0) (F :: L) from Code.wp_mono (fun e a w h => by cases e <;> first | exact h | exact h.elim) (wpIn_wide.1 (main _ rfl _ _ hs hw.base))
  intro B hB
  refine G_seq ?_
  refine GN ?_
  refine G_region ?_
  refine GE eff_alloc ?_; rintro _ _ ⟨b2, rfl, rfl⟩
  refine GE eff_alloc ?_; rintro _ _ ⟨b3, rfl, rfl⟩
  refine GO_nil ?_
  refine GN ?_
  refine G_region ?_
  refine GQ (ev_makeFunc rfl rfl) ?_
  intro a w1 hs1 hw1
  refine wpListIn_plain rfl fun Kx hK => ?_
  refine ⟨fun _ _ => trivial, ?_⟩
  have e4 : a.eval (.tmp 4) = .func (.func 136) #[] #[.pointer (some ⟨b2, 0, none⟩), .pointer (some ⟨b3, 0, none⟩)] := hs1.e.eval rfl
  have ed : ∀ (ty : TypeId) (ps : String) (af : Array Edge), (execOp a.eval ⟨none, .defer ⟨.value (.tmp 4), #[], #[]⟩, ty, ps, af, none⟩).run Tryz.prog w1 = .ok (.defer ⟨.fn (.func 136) #[.pointer (some ⟨b2, 0, none⟩), .pointer (some ⟨b3, 0, none⟩)], #[]⟩) w1 := fun _ _ _ => by
    simp [execOp, resolve, e4, Deferred.ofValue]
  rw [show ∀ (ty : TypeId) (ps : String) (af : Array Edge), Oper.semAt (fnc g.base.rnd).round a.eval ⟨none, .defer ⟨.value (.tmp 4), #[], #[]⟩, ty, ps, af, none⟩ = execOp a.eval ⟨none, .defer ⟨.value (.tmp 4), #[], #[]⟩, ty, ps, af, none⟩ from fun _ _ _ => rfl, ed]
  refine hK _ _ ?_
  clear hK Kx ed e4
  show (Code.seq _ _).wpIn Fence.wide 0 _ _ _ _
  refine wpIn_wide.2 ?_
  have hE := hs1.e
  have hZ := hs1.size
  have hD := hs1.defers
  refine wp_seq (wp_region_lit ?_)
  have hE1 := SatE.of_tmps (a' := { a with defers := ⟨.fn (.func 136) #[.pointer (some ⟨b2, 0, none⟩), .pointer (some ⟨b3, 0, none⟩)], #[]⟩ :: a.defers }) hE rfl
  refine wpl_eff rfl (Ev.eff (ev_move rfl)) hE1 hw1 ?_
  rintro v L2 w2 ⟨rfl, rfl⟩ hw2
  have hE2 := SatE.put hE1 (t := 5) (.func (.func fid) c1.toArray c2.toArray) (by show 5 < a.tmps.size; omega)
  refine wpl_eff rfl (eff_callv (c1 := c1) (c2 := c2) rfl rfl (Ctr.frame [blk b3 4 [.bool false], blk b2 125 [.int .i64 0, .int .i64 0], F] h (fun _ s => s))) hE2 hw2 ?_
  rintro v L3 w3 ⟨L1, hp, rfl⟩ hw3
  have hE3 := hE2.put (t := 6) v (by simp [Act.put]; omega)
  refine wp_ret ?_
  subst hB
  show Leaves _ _ _ _ (_ :: a.defers) .returning w3
  rw [hD]
  refine leaves_cons (by simp) (f := 136) (args := #[.pointer (some ⟨b2, 0, none⟩), .pointer (some ⟨b3, 0, none⟩)]) ?_ ?_
  · have := (inferInstance : CalT Tryz.prog 136).run #[.pointer (some ⟨b2, 0, none⟩), .pointer (some ⟨b3, 0, none⟩)] w3
    exact this
  · refine (after_ctr b2 b3 g.base _ w3 (hw3.mono fun _ s => s.swap)).mono fun e u' w' ⟨h1, h2, h3⟩ => ?_
    subst h1 h2
    show Leaves _ _ _ _ [] .returning w'
    refine ⟨_, results_run (rs := [.cell 2 125, .cell 3 4]) (vs := [.agg #[.int .i64 0, .int .i64 0], .bool false]) rfl (.cell rfl (loadN_run (LdN.blk rfl)) (.cell rfl (load_run (Ld.skip (Ld.blk rfl))) .nil)) hE3 h3.s, _, L1, rfl, ⟨rfl, hp⟩, (h3.mono fun _ s => s.tail.tail).of_base⟩
end Go.Proofs.YtkoncepjfgnjlaaGreat
/- A tree of lists that lead into one another: levels, and what is looked at level by level (the plain part). -/
namespace Go.Proofs.YtkoncepjfgnjlaaGreat
set_option linter.unusedVariables false
set_option linter.unusedSimpArgs false

def RT.lv : RT → Nat
  | .nil => 0
  | .node _ _ _ _ _ lo hi => max lo.lv hi.lv + 1
theorem RT.of.lv : ∀ {T : RT} {l : List Pt} (k : Nat), T.of l → l.length ≤ 2 ^ k → T.lv ≤ k + 1
  | .nil, _, k, _, _ => by simp only [RT.lv]; omega
  | .node _ _ _ _ _ lo hi, l, k, ⟨_, _, h⟩, hk => by
    rcases h with ⟨p, rfl, rfl, rfl, _⟩ | ⟨h1, h2, h3, _⟩
    · simp only [RT.lv]; omega
    · cases k with
      | zero => simp at hk; omega
      | succ k =>
        have e : 2 ^ (k + 1) = 2 ^ k + 2 ^ k := by rw [Nat.pow_succ]; omega
        have a := h2.lv k (by rw [List.length_take]; omega)
        have b := h3.lv k (by rw [List.length_drop]; omega)
        simp only [RT.lv]; omega
/-- Nodes from left to right, from some X on. -/
def Chn : Int → List RT → Prop
  | _, [] => True
  | m, x :: xs => ∃ l m', x.of l ∧ AscO Pt.less l ∧ m ≤ m' ∧ (∀ p ∈ l, m ≤ p.x ∧ p.x ≤ m') ∧ Chn m' xs
theorem Chn.mono : ∀ {xs : List RT} {m n : Int}, Chn m xs → n ≤ m → Chn n xs
  | [], _, _, _, _ => trivial
  | x :: xs, m, n, ⟨l, m', h1, h2, h3, h4, h5⟩, h => ⟨l, m', h1, h2, by omega, fun p hp => ⟨by have := (h4 p hp).1; omega, (h4 p hp).2⟩, h5⟩
theorem Chn.app : ∀ {xs ys : List RT} {m : Int}, Chn m xs → (∀ k, m ≤ k → ∃ n, k ≤ n) → (∀ n, m ≤ n → (∀ x ∈ xs, ∀ l, x.of l → ∀ p ∈ l, p.x ≤ n) → Chn n ys) → Chn m (xs ++ ys)
  | [], ys, m, _, _, h => h m (Int.le_refl _) (by simp)
  | x :: xs, ys, m, ⟨l, m', h1, h2, h3, h4, h5⟩, hk, h => by
    refine ⟨l, m', h1, h2, h3, h4, h5.app (fun k _ => ⟨k, Int.le_refl _⟩) fun n hn hx => h n (by omega) fun y hy l' hl' p hp => ?_⟩
    rcases List.mem_cons.1 hy with rfl | hy
    · have hp' : p ∈ l := (h1.perm.symm.trans hl'.perm).mem_iff.2 hp
      have := (h4 p hp').2
      omega
    · exact hx y hy l' hl' p hp
def nxtR (b : Bx) (xs : List RT) : List RT := xs.flatMap (RT.nxt b)
def idsR (b : Bx) (xs : List RT) : List Int := xs.flatMap (RT.ids b)
/-- Neither all nor nothing. -/
def RT.mid (b : Bx) (x : RT) : Bool := !x.out b && !x.ins b
def RT.m1 (b : Bx) : RT → Bool
  | .nil => false
  | .node _ _ _ u v _ _ => decide (u < b.x1 ∧ b.x1 ≤ v)
def RT.m2 (b : Bx) : RT → Bool
  | .nil => false
  | .node _ _ _ u v _ _ => decide (u ≤ b.x2 ∧ b.x2 < v)
theorem RT.mid_or (b : Bx) (x : RT) (h : x.mid b = true) : x.m1 b = true ∨ x.m2 b = true := by
  cases x with
  | nil => simp [RT.mid, RT.out] at h
  | node c q a u v lo hi =>
    simp only [RT.mid, RT.out, RT.ins, RT.m1, RT.m2, Bool.and_eq_true, Bool.not_eq_true', decide_eq_false_iff_not, decide_eq_true_eq] at *
    omega
theorem RT.nxt_len (b : Bx) (x : RT) : (x.nxt b).length = if x.mid b then 2 else 0 := by
  cases x with
  | nil => simp [RT.nxt, RT.mid, RT.out]
  | node c q a u v lo hi =>
    unfold RT.nxt RT.mid
    by_cases h1 : (RT.node c q a u v lo hi).out b = true
    · simp [h1]
    · by_cases h2 : (RT.node c q a u v lo hi).ins b = true
      · simp [h1, h2]
      · simp [h1, h2]
theorem nxtR_len (b : Bx) : ∀ xs : List RT, (nxtR b xs).length = 2 * xs.countP (RT.mid b)
  | [] => rfl
  | x :: xs => by
    have := nxtR_len b xs
    unfold nxtR at *
    rw [List.flatMap_cons, List.length_append, this, x.nxt_len, List.countP_cons]
    split <;> omega
theorem RT.of.ends {c : Nat} {q : Option Addr} {a : Arr} {u v : Int} {lo hi : RT} {l : List Pt} (h : (RT.node c q a u v lo hi).of l) : (∃ p ∈ l, u = p.x) ∧ ∃ p ∈ l, v = p.x := by
  obtain ⟨⟨f, hf, e1⟩, ⟨g, hg, e2⟩, _⟩ := h
  exact ⟨⟨f, List.mem_of_getElem? hf, e1⟩, ⟨g, List.mem_of_getElem? hg, e2⟩⟩
theorem Chn.m1 (b : Bx) : ∀ {xs : List RT} {m : Int}, Chn m xs → xs.countP (RT.m1 b) ≤ 1 ∧ (b.x1 ≤ m → xs.countP (RT.m1 b) = 0)
  | [], _, _ => ⟨by simp, fun _ => rfl⟩
  | x :: xs, m, ⟨l, m', h1, h2, h3, h4, h5⟩ => by
    obtain ⟨i1, i2⟩ := h5.m1 b
    rw [List.countP_cons]
    cases x with
    | nil => simp only [RT.m1]; exact ⟨by simpa using i1, fun h => by simpa using i2 (by omega)⟩
    | node c q a u v lo hi =>
      obtain ⟨⟨pu, hu, eu⟩, ⟨pv, hv, ev⟩⟩ := h1.ends
      have a1 := h4 pu hu
      have a2 := h4 pv hv
      by_cases hm : (RT.node c q a u v lo hi).m1 b = true
      · rw [if_pos hm]
        simp only [RT.m1, decide_eq_true_eq] at hm
        have := i2 (by omega)
        exact ⟨by omega, fun h => by omega⟩
      · rw [if_neg hm]
        exact ⟨by omega, fun h => by have := i2 (by omega); omega⟩
theorem Chn.m2 (b : Bx) : ∀ {xs : List RT} {m : Int}, Chn m xs → xs.countP (RT.m2 b) ≤ 1 ∧ (b.x2 < m → xs.countP (RT.m2 b) = 0)
  | [], _, _ => ⟨by simp, fun _ => rfl⟩
  | x :: xs, m, ⟨l, m', h1, h2, h3, h4, h5⟩ => by
    obtain ⟨i1, i2⟩ := h5.m2 b
    rw [List.countP_cons]
    cases x with
    | nil => simp only [RT.m2]; exact ⟨by simpa using i1, fun h => by simpa using i2 (by omega)⟩
    | node c q a u v lo hi =>
      obtain ⟨⟨pu, hu, eu⟩, ⟨pv, hv, ev⟩⟩ := h1.ends
      have a1 := h4 pu hu
      have a2 := h4 pv hv
      by_cases hm : (RT.node c q a u v lo hi).m2 b = true
      · rw [if_pos hm]
        simp only [RT.m2, decide_eq_true_eq] at hm
        have := i2 (by omega)
        exact ⟨by omega, fun h => by omega⟩
      · rw [if_neg hm]
        exact ⟨by omega, fun h => by have := i2 (by omega); omega⟩
theorem countP_or {α : Type} (p q r : α → Bool) (h : ∀ x, p x = true → q x = true ∨ r x = true) : ∀ l : List α, l.countP p ≤ l.countP q + l.countP r
  | [] => by simp
  | x :: l => by
    have := countP_or p q r h l
    rw [List.countP_cons, List.countP_cons, List.countP_cons]
    have := h x
    by_cases h1 : p x = true
    · rcases this h1 with h2 | h2
      · simp only [h1, h2, if_true]; split <;> omega
      · simp only [h1, h2, if_true]; split <;> omega
    · simp only [h1]; split <;> split <;> simp_all <;> omega
theorem Chn.four {b : Bx} {xs : List RT} {m : Int} (h : Chn m xs) : (nxtR b xs).length ≤ 4 := by
  rw [nxtR_len]
  have := countP_or _ _ _ (RT.mid_or b) xs
  have := (h.m1 b).1
  have := (h.m2 b).1
  omega
theorem Chn.nxt (b : Bx) : ∀ {xs : List RT} {m : Int}, Chn m xs → Chn m (nxtR b xs)
  | [], _, _ => trivial
  | x :: xs, m, ⟨l, m', h1, h2, h3, h4, h5⟩ => by
    have ih := h5.nxt b
    show Chn m ((x :: xs).flatMap (RT.nxt b))
    rw [List.flatMap_cons]
    cases x with
    | nil => rw [show RT.nxt b RT.nil = [] by simp [RT.nxt, RT.out]]; exact ih.mono h3
    | node c q a u v lo hi =>
      by_cases c1 : (RT.node c q a u v lo hi).out b = true
      · rw [show RT.nxt b (RT.node c q a u v lo hi) = [] by simp [RT.nxt, c1]]; exact ih.mono h3
      by_cases c2 : (RT.node c q a u v lo hi).ins b = true
      · rw [show RT.nxt b (RT.node c q a u v lo hi) = [] by simp [RT.nxt, c2]]; exact ih.mono h3
      rw [show RT.nxt b (RT.node c q a u v lo hi) = [lo, hi] by simp [RT.nxt, c1, c2]]
      obtain ⟨⟨pf, hf, e1⟩, ⟨pg, hg, e2⟩, hh⟩ := h1
      rcases hh with ⟨p, rfl, rfl, rfl, rfl⟩ | ⟨g1, g2, g3, rfl⟩
      · exfalso
        simp only [RT.out, RT.ins, decide_eq_true_eq] at c1 c2
        simp at hf hg
        subst hf hg
        omega
      · have hk : (l.length + 1) / 2 - 1 < l.length := by omega
        have hgk : l[(l.length + 1) / 2 - 1]? = some l[(l.length + 1) / 2 - 1] := List.getElem?_eq_getElem hk
        have hmk := h4 _ (List.getElem_mem hk)
        generalize l[(l.length + 1) / 2 - 1] = pk at *
        show Chn m (lo :: hi :: nxtR b xs)
        refine ⟨_, pk.x, g2, h2.sub (List.take_sublist _ _), hmk.1, fun p hp => ⟨(h4 p (List.mem_of_mem_take hp)).1, ?_⟩, _, m', g3, h2.sub (List.drop_sublist _ _), hmk.2, fun p hp => ⟨?_, (h4 p (List.mem_of_mem_drop hp)).2⟩, ih⟩
        · obtain ⟨i, hi', rfl⟩ := List.mem_iff_getElem.1 hp
          rw [List.length_take] at hi'
          rw [List.getElem_take]
          exact asc_x h2 (by omega) (List.getElem?_eq_getElem (by omega)) hgk
        · obtain ⟨i, hi', rfl⟩ := List.mem_iff_getElem.1 hp
          rw [List.length_drop] at hi'
          rw [List.getElem_drop]
          exact asc_x h2 (by omega) hgk (List.getElem?_eq_getElem (by omega))
theorem RT.nxt_lv (b : Bx) (x : RT) (k : Nat) (h : x.lv ≤ k + 1) : ∀ y ∈ x.nxt b, y.lv ≤ k := fun y hy => by
  cases x with
  | nil => simp [RT.nxt, RT.out] at hy
  | node c q a u v lo hi =>
    simp only [RT.lv] at h
    unfold RT.nxt at hy
    split at hy
    · cases hy
    · split at hy
      · cases hy
      · simp at hy
        rcases hy with rfl | rfl <;> omega
theorem nxtR_lv (b : Bx) (xs : List RT) (k : Nat) (h : ∀ x ∈ xs, x.lv ≤ k + 1) : ∀ y ∈ nxtR b xs, y.lv ≤ k := fun y hy => by
  obtain ⟨x, hx, hy⟩ := List.mem_flatMap.1 hy
  exact x.nxt_lv b k (h x hx) y hy
theorem nxtR_zero (b : Bx) (xs : List RT) (h : ∀ x ∈ xs, x.lv ≤ 0) : nxtR b xs = [] := by
  refine List.eq_nil_iff_forall_not_mem.2 fun y hy => ?_
  obtain ⟨x, hx, hy⟩ := List.mem_flatMap.1 hy
  have := h x hx
  cases x with
  | nil => simp [RT.nxt, RT.out] at hy
  | node => simp only [RT.lv] at this; omega
/-- What is found level by level. -/
def lvl (b : Bx) : Nat → List RT → List Int
  | 0, _ => []
  | k + 1, xs => idsR b xs ++ lvl b k (nxtR b xs)
end Go.Proofs.YtkoncepjfgnjlaaGreat
/- A tree of lists that lead into one another: parts, and looking at them. -/
namespace Go.Proofs.YtkoncepjfgnjlaaGreat
attribute [local irreducible] sat
set_option linter.unusedVariables false
set_option linter.unusedSimpArgs false
set_option maxRecDepth 100000

instance encPR : Enc PR := ⟨3, fun x => [.pointer x.T.addr, .int .i64 (x.f : Nat), .int .i64 (x.t : Nat)], fun _ => rfl, fun _ v h => by simp at h; rcases h with rfl | rfl | rfl <;> rfl⟩
theorem psize_ctr (p : Option Addr) (f t : Nat) (L : List HP) (h1 : f ≤ 1000000) (h2 : t ≤ 1000000) : Ctr Tryz.prog 128 #[.agg #[.pointer p, .int .i64 (f : Nat), .int .i64 (t : Nat)]] L fun v L' => v = .int .i64 ((t - f : Nat) : Int) ∧ L' = L := by
  refine Ctr_of (fn := Tryz.f128) (n := 9) Tryz.func128 rfl rfl rfl ?_
  intro g F
  refine GN ?_
  refine G_region ?_
  refine GE (eff_box rfl) ?_; rintro _ _ ⟨b1, rfl, rfl⟩
  refine GQ (ev_assign rfl) ?_
  refine GO_nil ?_
  refine GN ?_
  refine G_region ?_
  refine GQ (ev_fieldAddr rfl) ?_
  refine GQ (ev_load rfl LdA) ?_
  refine GQ (ev_fieldAddr rfl) ?_
  refine GQ (ev_load rfl LdA) ?_
  (first | refine GQ (ev_subN rfl rfl NgA) ?_ | refine GQ (ev_sub rfl rfl NgA) ?_)
  refine GQ (ev_max rfl rfl) ?_
  refine GQ (ev_assign rfl) ?_
  refine GO_nil ?_
  refine GN ?_
  refine G_ret rfl (.tmp rfl .nil) EnA ⟨congrArg (Value.int .i64) (by omega), rfl⟩
theorem half_ctr (b : Nat) (q : Option Addr) (a : Arr) (u v : Int) (lo hi : RT) (f t : Nat) (high : Bool) (L : List HP) (h : RIn L (.node b q a u v lo hi)) (hm : a.es.length ≤ 100000) (h1 : f ≤ 1000000) (h2 : t ≤ 1000000) :
    Ctr Tryz.prog 130 #[.agg #[.pointer (some ⟨b, 0, none⟩), .int .i64 (f : Nat), .int .i64 (t : Nat)], .bool high] L fun r L' => r = .agg #[.pointer (if high then hi.addr else lo.addr), .int .i64 (lead a f high), .int .i64 (lead a t high)] ∧ L' = L := by
  obtain ⟨z, ha, _, _⟩ := h
  have z0 : Ld L ⟨b, 0 + 0, none⟩ (.pointer q) := z.at_ (i := 0) rfl
  cases high with
  | true =>
    have z4 : Ld L ⟨b, 0 + 3 + 1 * 1, none⟩ (.pointer hi.addr) := z.at_ (i := 4) rfl
    refine Ctr_of (fn := Tryz.f130) (n := 33) Tryz.func130 rfl rfl rfl ?_
    intro g F
    refine GN ?_
    refine G_region ?_
    refine GE (eff_box rfl) ?_; rintro _ _ ⟨b2, rfl, rfl⟩
    refine GE eff_alloc ?_; rintro _ _ ⟨b4, rfl, rfl⟩
    refine GO_nil ?_
    refine GN ?_
    refine G_region ?_
    refine GQ (ev_assign rfl) ?_
    refine GO_nil ?_
    refine GN ?_
    refine G_region ?_
    refine GQ (ev_move rfl) ?_
    refine GO_nil ?_
    refine GN ?_
    refine G_cond_t rfl rfl ?_
    refine GN ?_
    refine G_region ?_
    refine GQ (ev_assign rfl) ?_
    refine GO_nil ?_
    refine GN ?_
    refine G_draw (.q 0 (.q 1 (.q 2 (.q 3 (.q 4 (.q 5 (.q 6 (.q 7 (.q 8 (.q 9 (.q 10 (.q 11 (.q 12 (.q 13 (.q 14 (.q 16 (.q 17 (.q 18 (.q 19 (.q 20 (.q 21 (.q 22 (.q 23 (.e 15 (.e 24 (.q 25 (.e 26 .nil))))))))))))))))))))))))))) (by kernel_rfl) (by kernel_rfl) ?_
    refine RM rfl (ev_fieldAddr rfl) ?_
    refine RQ rfl (ev_load rfl LdA) ?_
    refine RM rfl (ev_move rfl) ?_
    (first | refine RM rfl (ev_nilCheck rfl) ?_ | refine RM rfl (ev_nilCheckF (by simp) rfl) ?_)
    refine RM rfl (ev_fieldAddr rfl) ?_
    refine RM rfl (ev_indexAddrA rfl rfl NgA NgA) ?_
    refine RQ rfl (ev_load rfl LdA) ?_
    refine RM rfl (ev_fieldAddr rfl) ?_
    refine RQ rfl (ev_load rfl LdA) ?_
    (first | refine RM rfl (ev_nilCheck rfl) ?_ | refine RM rfl (ev_nilCheckF (by simp) rfl) ?_)
    refine RM rfl (ev_fieldAddr rfl) ?_
    refine RQ rfl (ev_load rfl LdA) ?_
    refine RM rfl (ev_fieldAddr rfl) ?_
    refine RQ rfl (ev_load rfl LdA) ?_
    refine RM rfl (ev_move rfl) ?_
    refine RM rfl (ev_fieldAddr rfl) ?_
    refine RQ rfl (ev_load rfl LdA) ?_
    (first | refine RM rfl (ev_nilCheck rfl) ?_ | refine RM rfl (ev_nilCheckF (by simp) rfl) ?_)
    refine RM rfl (ev_fieldAddr rfl) ?_
    refine RQ rfl (ev_load rfl LdA) ?_
    refine RM rfl (ev_fieldAddr rfl) ?_
    refine RQ rfl (ev_load rfl LdA) ?_
    refine RM rfl (ev_move rfl) ?_
    refine RS_e (RE_eff rfl rfl rfl (eff_call rfl (Lead_ctr q a f true _ (by repeat' first | exact ha | apply ArrIn.skip) hm (by omega))) ?_); rintro _ _ ⟨rfl, rfl⟩; refine ⟨_, fun _ s => s, ExA, ?_⟩
    refine RS_e (RE_eff rfl rfl rfl (eff_call rfl (Lead_ctr q a t true _ (by repeat' first | exact ha | apply ArrIn.skip) hm (by omega))) ?_); rintro _ _ ⟨rfl, rfl⟩; refine ⟨_, fun _ s => s, ExA, ?_⟩
    refine RM rfl (ev_build rfl rfl) ?_
    refine RS_e (RE_last (by kernel_rfl) rfl rfl rfl (eff_storeN rfl rfl rfl rfl UpA) ?_); rintro _ _ ⟨rfl, rfl⟩
    refine GN ?_
    refine G_ret rfl (.cell rfl (loadN_run LnA) .nil) EnA ⟨rfl, rfl⟩
  | false =>
    have z4 : Ld L ⟨b, 0 + 3 + 0 * 1, none⟩ (.pointer lo.addr) := z.at_ (i := 3) rfl
    refine Ctr_of (fn := Tryz.f130) (n := 33) Tryz.func130 rfl rfl rfl ?_
    intro g F
    refine GN ?_
    refine G_region ?_
    refine GE (eff_box rfl) ?_; rintro _ _ ⟨b2, rfl, rfl⟩
    refine GE eff_alloc ?_; rintro _ _ ⟨b4, rfl, rfl⟩
    refine GO_nil ?_
    refine GN ?_
    refine G_region ?_
    refine GQ (ev_assign rfl) ?_
    refine GO_nil ?_
    refine GN ?_
    refine G_region ?_
    refine GQ (ev_move rfl) ?_
    refine GO_nil ?_
    refine GN ?_
    refine G_cond_f rfl rfl ?_
    refine GN ?_
    refine G_draw (.q 0 (.q 1 (.q 2 (.q 3 (.q 4 (.q 5 (.q 6 (.q 7 (.q 8 (.q 9 (.q 10 (.q 11 (.q 12 (.q 13 (.q 14 (.q 16 (.q 17 (.q 18 (.q 19 (.q 20 (.q 21 (.q 22 (.q 23 (.e 15 (.e 24 (.q 25 (.e 26 .nil))))))))))))))))))))))))))) (by kernel_rfl) (by kernel_rfl) ?_
    refine RM rfl (ev_fieldAddr rfl) ?_
    refine RQ rfl (ev_load rfl LdA) ?_
    refine RM rfl (ev_move rfl) ?_
    (first | refine RM rfl (ev_nilCheck rfl) ?_ | refine RM rfl (ev_nilCheckF (by simp) rfl) ?_)
    refine RM rfl (ev_fieldAddr rfl) ?_
    refine RM rfl (ev_indexAddrA rfl rfl NgA NgA) ?_
    refine RQ rfl (ev_load rfl LdA) ?_
    refine RM rfl (ev_fieldAddr rfl) ?_
    refine RQ rfl (ev_load rfl LdA) ?_
    (first | refine RM rfl (ev_nilCheck rfl) ?_ | refine RM rfl (ev_nilCheckF (by simp) rfl) ?_)
    refine RM rfl (ev_fieldAddr rfl) ?_
    refine RQ rfl (ev_load rfl LdA) ?_
    refine RM rfl (ev_fieldAddr rfl) ?_
    refine RQ rfl (ev_load rfl LdA) ?_
    refine RM rfl (ev_move rfl) ?_
    refine RM rfl (ev_fieldAddr rfl) ?_
    refine RQ rfl (ev_load rfl LdA) ?_
    (first | refine RM rfl (ev_nilCheck rfl) ?_ | refine RM rfl (ev_nilCheckF (by simp) rfl) ?_)
    refine RM rfl (ev_fieldAddr rfl) ?_
    refine RQ rfl (ev_load rfl LdA) ?_
    refine RM rfl (ev_fieldAddr rfl) ?_
    refine RQ rfl (ev_load rfl LdA) ?_
    refine RM rfl (ev_move rfl) ?_
    refine RS_e (RE_eff rfl rfl rfl (eff_call rfl (Lead_ctr q a f false _ (by repeat' first | exact ha | apply ArrIn.skip) hm (by omega))) ?_); rintro _ _ ⟨rfl, rfl⟩; refine ⟨_, fun _ s => s, ExA, ?_⟩
    refine RS_e (RE_eff rfl rfl rfl (eff_call rfl (Lead_ctr q a t false _ (by repeat' first | exact ha | apply ArrIn.skip) hm (by omega))) ?_); rintro _ _ ⟨rfl, rfl⟩; refine ⟨_, fun _ s => s, ExA, ?_⟩
    refine RM rfl (ev_build rfl rfl) ?_
    refine RS_e (RE_last (by kernel_rfl) rfl rfl rfl (eff_storeN rfl rfl rfl rfl UpA) ?_); rintro _ _ ⟨rfl, rfl⟩
    refine GN ?_
    refine G_ret rfl (.cell rfl (loadN_run LnA) .nil) EnA ⟨rfl, rfl⟩
end Go.Proofs.YtkoncepjfgnjlaaGreat
/- A tree of lists that lead into one another: Look. -/
namespace Go.Proofs.YtkoncepjfgnjlaaGreat
attribute [local irreducible] sat
set_option linter.unusedVariables false
set_option linter.unusedSimpArgs false
set_option maxRecDepth 100000

def partsR (b : Bx) (xs : List RT) : List PR := xs.map (prOf b)
/-- What a look leaves. -/
def LkR (b : Bx) (T : RT) (L : List HP) (r : Value) (L' : List HP) : Prop := ∃ A1 c1 A2 c2 N, r = .tuple #[.slice A1 (T.ids b).length c1, .int .i64 ((T.ids b).length : Nat), .slice A2 (T.nxt b).length c2] ∧
  L' = N ++ L ∧ Rd (N ++ L) A1 (T.ids b).length (T.ids b) ∧ Rd (N ++ L) A2 (T.nxt b).length (partsR b (T.nxt b)) ∧ (T.ids b).length ≤ c1 ∧ c1 ≤ maxLen ∧ (T.nxt b).length ≤ c2
theorem idsOf_len (l : List Pt) {f t : Nat} (h : t ≤ l.length) : (idsOf l f t).length = t - f := by
  unfold idsOf; rw [List.length_map, List.length_take, List.length_drop]; omega
theorem clampN_of {k n : Nat} (h : k ≤ n) : clampN (k : Int) n = k := by unfold clampN; omega
theorem RT.nxt_join {b : Bx} {c : Nat} {q : Option Addr} {a : Arr} {u v : Int} {lo hi : RT} {l : List Pt} (h : (RT.node c q a u v lo hi).of l) (h1 : (RT.node c q a u v lo hi).out b = false) (h2 : (RT.node c q a u v lo hi).ins b = false) :
    lo.of (l.take ((l.length + 1) / 2)) ∧ hi.of (l.drop ((l.length + 1) / 2)) ∧ a = join lo.arr hi.arr := by
  obtain ⟨⟨pf, hf, e1⟩, ⟨pg, hg, e2⟩, hh⟩ := h
  rcases hh with ⟨p, rfl, rfl, rfl, rfl⟩ | ⟨g1, g2, g3, rfl⟩
  · exfalso
    simp only [RT.out, RT.ins, decide_eq_false_iff_not] at h1 h2
    simp at hf hg
    subst hf hg
    omega
  · exact ⟨g2, g3, rfl⟩
theorem srtI_len (l : List Int) : (srt l).length = l.length := (srt_perm l).length_eq
theorem plook_ctr (T : RT) (b : Bx) (l : List Pt) (L : List HP) (h : RIn L T) (ho : T.of l) (hn : l.length ≤ 100000) :
    Ctr Tryz.prog 106 #[.agg #[.pointer T.addr, .int .i64 (T.arr.pts.countP (belowF b.y1) : Nat), .int .i64 (T.arr.pts.countP (upToF b.y2) : Nat)], .agg #[.int .i64 b.x1, .int .i64 b.x2, .int .i64 b.y1, .int .i64 b.y2]] L fun r L' => LkR b T L r L' := by
  cases hT : T with
  | nil =>
    have e1 : RT.nil.ids b = [] := rfl
    have e2 : RT.nil.nxt b = [] := rfl
    unfold LkR
    rw [e1, e2]
    refine Ctr_of (fn := Tryz.f106) (n := 79) Tryz.func106 rfl rfl rfl ?_
    intro g F
    refine GN ?_
    refine G_region ?_
    refine GE (eff_box rfl) ?_; rintro _ _ ⟨b2, rfl, rfl⟩
    refine GE (eff_box rfl) ?_; rintro _ _ ⟨b3, rfl, rfl⟩
    refine GQ (ev_assign rfl) ?_
    refine GQ (ev_assign rfl) ?_
    refine GQ (ev_assign rfl) ?_
    refine GO_nil ?_
    refine GN ?_
    refine G_draw (.q 0 (.q 1 (.q 2 (.q 3 (.q 4 (.e 5 (.q 6 (.q 7 (.q 8 (.q 9 (.q 10 (.q 11 (.q 12 (.q 13 (.q 14 (.q 15 (.q 16 (.q 17 (.q 18 (.q 19 (.q 20 (.q 21 (.q 22 (.q 23 (.q 24 (.q 25 (.q 26 (.q 27 (.q 28 (.q 29 (.q 30 (.q 31 (.q 32 (.q 33 (.q 34 (.q 35 .nil)))))))))))))))))))))))))))))))))))) (by kernel_rfl) (by kernel_rfl) ?_
    refine RM rfl (ev_fieldAddr rfl) ?_
    refine RQ rfl (ev_load rfl LdA) ?_
    (first | refine RM rfl (ev_eqlNil rfl rfl) ?_ | refine RM rfl (ev_eqlPtr rfl rfl) ?_)
    refine RM rfl (ev_move rfl) ?_
    refine RS_q_no retB_noPanic rfl rfl rfl ⟨_, rfl, rfl⟩ rfl ?_
    refine RS_e (RE_no rfl rfl rfl ⟨_, rfl, rfl⟩ rfl ?_)
    refine RS_q_no retB_noPanic rfl rfl rfl ⟨_, rfl, rfl⟩ rfl ?_
    refine RM rfl (ev_pick_t rfl rfl rfl) ?_
    refine RM rfl (ev_move rfl) ?_
    refine RS_q_no retB_noPanic rfl rfl rfl ⟨_, rfl, rfl⟩ rfl ?_
    refine RS_q_no retB_noPanic rfl rfl rfl ⟨_, rfl, rfl⟩ rfl ?_
    refine RS_q_no retB_noPanic rfl rfl rfl ⟨_, rfl, rfl⟩ rfl ?_
    refine RS_q_no retB_noPanic rfl rfl rfl ⟨_, rfl, rfl⟩ rfl ?_
    refine RS_q_no retB_noPanic rfl rfl rfl ⟨_, rfl, rfl⟩ rfl ?_
    refine RM rfl (ev_pick_t rfl rfl rfl) ?_
    refine RM rfl (ev_move rfl) ?_
    refine RS_q_no retB_noPanic rfl rfl rfl ⟨_, rfl, rfl⟩ rfl ?_
    refine RS_q_no retB_noPanic rfl rfl rfl ⟨_, rfl, rfl⟩ rfl ?_
    refine RS_q_no retB_noPanic rfl rfl rfl ⟨_, rfl, rfl⟩ rfl ?_
    refine RS_q_no retB_noPanic rfl rfl rfl ⟨_, rfl, rfl⟩ rfl ?_
    refine RS_q_no retB_noPanic rfl rfl rfl ⟨_, rfl, rfl⟩ rfl ?_
    refine RS_q_no retB_noPanic rfl rfl rfl ⟨_, rfl, rfl⟩ rfl ?_
    refine RS_q_no retB_noPanic rfl rfl rfl ⟨_, rfl, rfl⟩ rfl ?_
    refine RS_q_no retB_noPanic rfl rfl rfl ⟨_, rfl, rfl⟩ rfl ?_
    refine RM rfl (ev_pick_t rfl rfl rfl) ?_
    refine RM rfl (ev_move rfl) ?_
    refine RS_q_no retB_noPanic rfl rfl rfl ⟨_, rfl, rfl⟩ rfl ?_
    refine RS_q_no retB_noPanic rfl rfl rfl ⟨_, rfl, rfl⟩ rfl ?_
    refine RS_q_no retB_noPanic rfl rfl rfl ⟨_, rfl, rfl⟩ rfl ?_
    refine RS_q_no retB_noPanic rfl rfl rfl ⟨_, rfl, rfl⟩ rfl ?_
    refine RS_q_no retB_noPanic rfl rfl rfl ⟨_, rfl, rfl⟩ rfl ?_
    refine RS_q_no retB_noPanic rfl rfl rfl ⟨_, rfl, rfl⟩ rfl ?_
    refine RS_q_no retB_noPanic rfl rfl rfl ⟨_, rfl, rfl⟩ rfl ?_
    refine RS_q_no retB_noPanic rfl rfl rfl ⟨_, rfl, rfl⟩ rfl ?_
    refine RM rfl (ev_pick_t rfl rfl rfl) ?_
    refine RM rfl (ev_assign rfl) ?_
    refine RS_nil ?_
    refine GN ?_
    refine G_cond_t rfl rfl ?_
    refine GN ?_
    refine G_region ?_
    refine GQ (ev_assign rfl) ?_
    refine GQ (ev_assign rfl) ?_
    refine GQ (ev_assign rfl) ?_
    refine GO_nil ?_
    refine GN ?_
    exact G_ret (L' := [] ++ L) rfl (.tmp rfl (.tmp rfl (.tmp rfl .nil))) EnA ⟨none, 0, none, 0, [], rfl, rfl, Rd.nil _ _, Rd.nil _ _, Nat.le_refl _, Nat.zero_le _, Nat.le_refl _⟩
  | node c q a u v lo hi =>
    subst hT
    have hal : a.es.length ≤ 100000 := by have : a.es.length = l.length := ho.len; omega
    have hpl : a.pts.length = a.es.length := List.length_map _
    have k1 : a.pts.countP (belowF b.y1) ≤ a.es.length := by rw [← hpl]; exact List.countP_le_length
    have k2 : a.pts.countP (upToF b.y2) ≤ a.es.length := by rw [← hpl]; exact List.countP_le_length
    have hj := fun h1 h2 => RT.nxt_join (b := b) ho h1 h2
    obtain ⟨z, ha, i1, i2⟩ := id h
    have z0 : Ld L ⟨c, 0 + 0, none⟩ (.pointer q) := z.at_ (i := 0) rfl
    have z1 : Ld L ⟨c, 0 + 1, none⟩ (.int .i64 u) := z.at_ (i := 1) rfl
    have z2 : Ld L ⟨c, 0 + 2, none⟩ (.int .i64 v) := z.at_ (i := 2) rfl
    have hids := fun M (h9 : ArrIn M q a) => IDs_ctr q a (a.pts.countP (belowF b.y1) : Nat) (a.pts.countP (upToF b.y2) : Nat) M h9 hal
    rw [clampN_of k1, clampN_of k2] at hids
    have hil : (idsOf a.pts (a.pts.countP (belowF b.y1)) (a.pts.countP (upToF b.y2))).length = a.pts.countP (upToF b.y2) - a.pts.countP (belowF b.y1) := idsOf_len _ (by rw [hpl]; exact k2)
    rw [hil] at hids
    have hsz := fun M => psize_ctr (some ⟨c, 0, none⟩) (a.pts.countP (belowF b.y1)) (a.pts.countP (upToF b.y2)) M (by omega) (by omega)
    have hh := fun high M (h9 : RIn M (.node c q a u v lo hi)) => half_ctr c q a u v lo hi (a.pts.countP (belowF b.y1)) (a.pts.countP (upToF b.y2)) high M h9 hal (by omega) (by omega)
    show Ctr Tryz.prog 106 #[.agg #[.pointer (some ⟨c, 0, none⟩), .int .i64 (a.pts.countP (belowF b.y1) : Nat), .int .i64 (a.pts.countP (upToF b.y2) : Nat)], .agg #[.int .i64 b.x1, .int .i64 b.x2, .int .i64 b.y1, .int .i64 b.y2]] L _
    by_cases co : (RT.node c q a u v lo hi).out b = true
    · have e1 : (RT.node c q a u v lo hi).ids b = [] := if_pos co
      have e2 : (RT.node c q a u v lo hi).nxt b = [] := if_pos co
      unfold LkR
      rw [e1, e2]
      simp only [RT.out, decide_eq_true_eq] at co
      generalize a.pts.countP (belowF b.y1) = f at *
      generalize a.pts.countP (upToF b.y2) = t at *
      by_cases c1 : t ≤ f
      · skip
        refine Ctr_of (fn := Tryz.f106) (n := 79) Tryz.func106 rfl rfl rfl ?_
        intro g F
        refine GN ?_
        refine G_region ?_
        refine GE (eff_box rfl) ?_; rintro _ _ ⟨b2, rfl, rfl⟩
        refine GE (eff_box rfl) ?_; rintro _ _ ⟨b3, rfl, rfl⟩
        refine GQ (ev_assign rfl) ?_
        refine GQ (ev_assign rfl) ?_
        refine GQ (ev_assign rfl) ?_
        refine GO_nil ?_
        refine GN ?_
        refine G_draw (.q 0 (.q 1 (.q 2 (.q 3 (.q 4 (.e 5 (.q 6 (.q 7 (.q 8 (.q 9 (.q 10 (.q 11 (.q 12 (.q 13 (.q 14 (.q 15 (.q 16 (.q 17 (.q 18 (.q 19 (.q 20 (.q 21 (.q 22 (.q 23 (.q 24 (.q 25 (.q 26 (.q 27 (.q 28 (.q 29 (.q 30 (.q 31 (.q 32 (.q 33 (.q 34 (.q 35 .nil)))))))))))))))))))))))))))))))))))) (by kernel_rfl) (by kernel_rfl) ?_
        refine RM rfl (ev_fieldAddr rfl) ?_
        refine RQ rfl (ev_load rfl LdA) ?_
        (first | refine RM rfl (ev_eqlNil rfl rfl) ?_ | refine RM rfl (ev_eqlPtr rfl rfl) ?_)
        refine RM rfl (ev_move rfl) ?_
        refine RS_q_yes retB_noPanic rfl rfl rfl rfl ⟨_, rfl, rfl⟩ rfl (ev_loadN rfl LnA) ?_
        refine RS_e (RE_eff_yes rfl rfl rfl ⟨_, rfl, rfl⟩ rfl (eff_call rfl (hsz _)) ?_); rintro _ _ ⟨rfl, rfl⟩; refine ⟨_, fun _ s => s, ExA, ?_⟩
        refine RS_m_yes retB_noPanic rfl rfl rfl rfl ⟨_, rfl, rfl⟩ rfl (ev_eql rfl rfl) ?_
        refine RM rfl (ev_pick_f rfl rfl rfl) ?_
        refine RM rfl (ev_move rfl) ?_
        refine RS_q_no retB_noPanic rfl rfl rfl ⟨_, rfl, (decide_eq_true (by omega))⟩ rfl ?_
        refine RS_q_no retB_noPanic rfl rfl rfl ⟨_, rfl, (decide_eq_true (by omega))⟩ rfl ?_
        refine RS_q_no retB_noPanic rfl rfl rfl ⟨_, rfl, (decide_eq_true (by omega))⟩ rfl ?_
        refine RS_q_no retB_noPanic rfl rfl rfl ⟨_, rfl, (decide_eq_true (by omega))⟩ rfl ?_
        refine RS_q_no retB_noPanic rfl rfl rfl ⟨_, rfl, (decide_eq_true (by omega))⟩ rfl ?_
        refine RM rfl (ev_pick_t rfl (decide_eq_true (by omega)) rfl) ?_
        refine RM rfl (ev_move rfl) ?_
        refine RS_q_no retB_noPanic rfl rfl rfl ⟨_, rfl, rfl⟩ rfl ?_
        refine RS_q_no retB_noPanic rfl rfl rfl ⟨_, rfl, rfl⟩ rfl ?_
        refine RS_q_no retB_noPanic rfl rfl rfl ⟨_, rfl, rfl⟩ rfl ?_
        refine RS_q_no retB_noPanic rfl rfl rfl ⟨_, rfl, rfl⟩ rfl ?_
        refine RS_q_no retB_noPanic rfl rfl rfl ⟨_, rfl, rfl⟩ rfl ?_
        refine RS_q_no retB_noPanic rfl rfl rfl ⟨_, rfl, rfl⟩ rfl ?_
        refine RS_q_no retB_noPanic rfl rfl rfl ⟨_, rfl, rfl⟩ rfl ?_
        refine RS_q_no retB_noPanic rfl rfl rfl ⟨_, rfl, rfl⟩ rfl ?_
        refine RM rfl (ev_pick_t rfl rfl rfl) ?_
        refine RM rfl (ev_move rfl) ?_
        refine RS_q_no retB_noPanic rfl rfl rfl ⟨_, rfl, rfl⟩ rfl ?_
        refine RS_q_no retB_noPanic rfl rfl rfl ⟨_, rfl, rfl⟩ rfl ?_
        refine RS_q_no retB_noPanic rfl rfl rfl ⟨_, rfl, rfl⟩ rfl ?_
        refine RS_q_no retB_noPanic rfl rfl rfl ⟨_, rfl, rfl⟩ rfl ?_
        refine RS_q_no retB_noPanic rfl rfl rfl ⟨_, rfl, rfl⟩ rfl ?_
        refine RS_q_no retB_noPanic rfl rfl rfl ⟨_, rfl, rfl⟩ rfl ?_
        refine RS_q_no retB_noPanic rfl rfl rfl ⟨_, rfl, rfl⟩ rfl ?_
        refine RS_q_no retB_noPanic rfl rfl rfl ⟨_, rfl, rfl⟩ rfl ?_
        refine RM rfl (ev_pick_t rfl rfl rfl) ?_
        refine RM rfl (ev_assign rfl) ?_
        refine RS_nil ?_
        refine GN ?_
        refine G_cond_t rfl rfl ?_
        refine GN ?_
        refine G_region ?_
        refine GQ (ev_assign rfl) ?_
        refine GQ (ev_assign rfl) ?_
        refine GQ (ev_assign rfl) ?_
        refine GO_nil ?_
        refine GN ?_
        exact G_ret (L' := [] ++ L) rfl (.tmp rfl (.tmp rfl (.tmp rfl .nil))) EnA ⟨none, 0, none, 0, [], rfl, rfl, Rd.nil _ _, Rd.nil _ _, Nat.le_refl _, Nat.zero_le _, Nat.le_refl _⟩
      · by_cases c2 : b.x2 < b.x1
        · skip
          refine Ctr_of (fn := Tryz.f106) (n := 79) Tryz.func106 rfl rfl rfl ?_
          intro g F
          refine GN ?_
          refine G_region ?_
          refine GE (eff_box rfl) ?_; rintro _ _ ⟨b2, rfl, rfl⟩
          refine GE (eff_box rfl) ?_; rintro _ _ ⟨b3, rfl, rfl⟩
          refine GQ (ev_assign rfl) ?_
          refine GQ (ev_assign rfl) ?_
          refine GQ (ev_assign rfl) ?_
          refine GO_nil ?_
          refine GN ?_
          refine G_draw (.q 0 (.q 1 (.q 2 (.q 3 (.q 4 (.e 5 (.q 6 (.q 7 (.q 8 (.q 9 (.q 10 (.q 11 (.q 12 (.q 13 (.q 14 (.q 15 (.q 16 (.q 17 (.q 18 (.q 19 (.q 20 (.q 21 (.q 22 (.q 23 (.q 24 (.q 25 (.q 26 (.q 27 (.q 28 (.q 29 (.q 30 (.q 31 (.q 32 (.q 33 (.q 34 (.q 35 .nil)))))))))))))))))))))))))))))))))))) (by kernel_rfl) (by kernel_rfl) ?_
          refine RM rfl (ev_fieldAddr rfl) ?_
          refine RQ rfl (ev_load rfl LdA) ?_
          (first | refine RM rfl (ev_eqlNil rfl rfl) ?_ | refine RM rfl (ev_eqlPtr rfl rfl) ?_)
          refine RM rfl (ev_move rfl) ?_
          refine RS_q_yes retB_noPanic rfl rfl rfl rfl ⟨_, rfl, rfl⟩ rfl (ev_loadN rfl LnA) ?_
          refine RS_e (RE_eff_yes rfl rfl rfl ⟨_, rfl, rfl⟩ rfl (eff_call rfl (hsz _)) ?_); rintro _ _ ⟨rfl, rfl⟩; refine ⟨_, fun _ s => s, ExA, ?_⟩
          refine RS_m_yes retB_noPanic rfl rfl rfl rfl ⟨_, rfl, rfl⟩ rfl (ev_eql rfl rfl) ?_
          refine RM rfl (ev_pick_f rfl rfl rfl) ?_
          refine RM rfl (ev_move rfl) ?_
          refine RS_m_yes retB_noPanic rfl rfl rfl rfl ⟨_, rfl, (decide_eq_false (by omega))⟩ rfl (ev_fieldAddr rfl) ?_
          refine RS_q_yes retB_noPanic rfl rfl rfl rfl ⟨_, rfl, (decide_eq_false (by omega))⟩ rfl (ev_load rfl LdA) ?_
          refine RS_m_yes retB_noPanic rfl rfl rfl rfl ⟨_, rfl, (decide_eq_false (by omega))⟩ rfl (ev_fieldAddr rfl) ?_
          refine RS_q_yes retB_noPanic rfl rfl rfl rfl ⟨_, rfl, (decide_eq_false (by omega))⟩ rfl (ev_load rfl LdA) ?_
          refine RS_m_yes retB_noPanic rfl rfl rfl rfl ⟨_, rfl, (decide_eq_false (by omega))⟩ rfl (ev_gtr rfl rfl) ?_
          refine RM rfl (ev_pick_f rfl (decide_eq_false (by omega)) rfl) ?_
          refine RM rfl (ev_move rfl) ?_
          refine RS_q_no retB_noPanic rfl rfl rfl ⟨_, rfl, (decide_eq_true c2)⟩ rfl ?_
          refine RS_q_no retB_noPanic rfl rfl rfl ⟨_, rfl, (decide_eq_true c2)⟩ rfl ?_
          refine RS_q_no retB_noPanic rfl rfl rfl ⟨_, rfl, (decide_eq_true c2)⟩ rfl ?_
          refine RS_q_no retB_noPanic rfl rfl rfl ⟨_, rfl, (decide_eq_true c2)⟩ rfl ?_
          refine RS_q_no retB_noPanic rfl rfl rfl ⟨_, rfl, (decide_eq_true c2)⟩ rfl ?_
          refine RS_q_no retB_noPanic rfl rfl rfl ⟨_, rfl, (decide_eq_true c2)⟩ rfl ?_
          refine RS_q_no retB_noPanic rfl rfl rfl ⟨_, rfl, (decide_eq_true c2)⟩ rfl ?_
          refine RS_q_no retB_noPanic rfl rfl rfl ⟨_, rfl, (decide_eq_true c2)⟩ rfl ?_
          refine RM rfl (ev_pick_t rfl (decide_eq_true c2) rfl) ?_
          refine RM rfl (ev_move rfl) ?_
          refine RS_q_no retB_noPanic rfl rfl rfl ⟨_, rfl, rfl⟩ rfl ?_
          refine RS_q_no retB_noPanic rfl rfl rfl ⟨_, rfl, rfl⟩ rfl ?_
          refine RS_q_no retB_noPanic rfl rfl rfl ⟨_, rfl, rfl⟩ rfl ?_
          refine RS_q_no retB_noPanic rfl rfl rfl ⟨_, rfl, rfl⟩ rfl ?_
          refine RS_q_no retB_noPanic rfl rfl rfl ⟨_, rfl, rfl⟩ rfl ?_
          refine RS_q_no retB_noPanic rfl rfl rfl ⟨_, rfl, rfl⟩ rfl ?_
          refine RS_q_no retB_noPanic rfl rfl rfl ⟨_, rfl, rfl⟩ rfl ?_
          refine RS_q_no retB_noPanic rfl rfl rfl ⟨_, rfl, rfl⟩ rfl ?_
          refine RM rfl (ev_pick_t rfl rfl rfl) ?_
          refine RM rfl (ev_assign rfl) ?_
          refine RS_nil ?_
          refine GN ?_
          refine G_cond_t rfl rfl ?_
          refine GN ?_
          refine G_region ?_
          refine GQ (ev_assign rfl) ?_
          refine GQ (ev_assign rfl) ?_
          refine GQ (ev_assign rfl) ?_
          refine GO_nil ?_
          refine GN ?_
          exact G_ret (L' := [] ++ L) rfl (.tmp rfl (.tmp rfl (.tmp rfl .nil))) EnA ⟨none, 0, none, 0, [], rfl, rfl, Rd.nil _ _, Rd.nil _ _, Nat.le_refl _, Nat.zero_le _, Nat.le_refl _⟩
        · by_cases c3 : v < b.x1
          · skip
            refine Ctr_of (fn := Tryz.f106) (n := 79) Tryz.func106 rfl rfl rfl ?_
            intro g F
            refine GN ?_
            refine G_region ?_
            refine GE (eff_box rfl) ?_; rintro _ _ ⟨b2, rfl, rfl⟩
            refine GE (eff_box rfl) ?_; rintro _ _ ⟨b3, rfl, rfl⟩
            refine GQ (ev_assign rfl) ?_
            refine GQ (ev_assign rfl) ?_
            refine GQ (ev_assign rfl) ?_
            refine GO_nil ?_
            refine GN ?_
            refine G_draw (.q 0 (.q 1 (.q 2 (.q 3 (.q 4 (.e 5 (.q 6 (.q 7 (.q 8 (.q 9 (.q 10 (.q 11 (.q 12 (.q 13 (.q 14 (.q 15 (.q 16 (.q 17 (.q 18 (.q 19 (.q 20 (.q 21 (.q 22 (.q 23 (.q 24 (.q 25 (.q 26 (.q 27 (.q 28 (.q 29 (.q 30 (.q 31 (.q 32 (.q 33 (.q 34 (.q 35 .nil)))))))))))))))))))))))))))))))))))) (by kernel_rfl) (by kernel_rfl) ?_
            refine RM rfl (ev_fieldAddr rfl) ?_
            refine RQ rfl (ev_load rfl LdA) ?_
            (first | refine RM rfl (ev_eqlNil rfl rfl) ?_ | refine RM rfl (ev_eqlPtr rfl rfl) ?_)
            refine RM rfl (ev_move rfl) ?_
            refine RS_q_yes retB_noPanic rfl rfl rfl rfl ⟨_, rfl, rfl⟩ rfl (ev_loadN rfl LnA) ?_
            refine RS_e (RE_eff_yes rfl rfl rfl ⟨_, rfl, rfl⟩ rfl (eff_call rfl (hsz _)) ?_); rintro _ _ ⟨rfl, rfl⟩; refine ⟨_, fun _ s => s, ExA, ?_⟩
            refine RS_m_yes retB_noPanic rfl rfl rfl rfl ⟨_, rfl, rfl⟩ rfl (ev_eql rfl rfl) ?_
            refine RM rfl (ev_pick_f rfl rfl rfl) ?_
            refine RM rfl (ev_move rfl) ?_
            refine RS_m_yes retB_noPanic rfl rfl rfl rfl ⟨_, rfl, (decide_eq_false (by omega))⟩ rfl (ev_fieldAddr rfl) ?_
            refine RS_q_yes retB_noPanic rfl rfl rfl rfl ⟨_, rfl, (decide_eq_false (by omega))⟩ rfl (ev_load rfl LdA) ?_
            refine RS_m_yes retB_noPanic rfl rfl rfl rfl ⟨_, rfl, (decide_eq_false (by omega))⟩ rfl (ev_fieldAddr rfl) ?_
            refine RS_q_yes retB_noPanic rfl rfl rfl rfl ⟨_, rfl, (decide_eq_false (by omega))⟩ rfl (ev_load rfl LdA) ?_
            refine RS_m_yes retB_noPanic rfl rfl rfl rfl ⟨_, rfl, (decide_eq_false (by omega))⟩ rfl (ev_gtr rfl rfl) ?_
            refine RM rfl (ev_pick_f rfl (decide_eq_false (by omega)) rfl) ?_
            refine RM rfl (ev_move rfl) ?_
            refine RS_m_yes retB_noPanic rfl rfl rfl rfl ⟨_, rfl, (decide_eq_false c2)⟩ rfl (ev_fieldAddr rfl) ?_
            refine RS_q_yes retB_noPanic rfl rfl rfl rfl ⟨_, rfl, (decide_eq_false c2)⟩ rfl (ev_load rfl LdA) ?_
            (first | refine RS_m_yes retB_noPanic rfl rfl rfl rfl ⟨_, rfl, (decide_eq_false c2)⟩ rfl (ev_nilCheck rfl) ?_ | refine RS_m_yes retB_noPanic rfl rfl rfl rfl ⟨_, rfl, (decide_eq_false c2)⟩ rfl (ev_nilCheckF (by simp) rfl) ?_)
            refine RS_m_yes retB_noPanic rfl rfl rfl rfl ⟨_, rfl, (decide_eq_false c2)⟩ rfl (ev_fieldAddr rfl) ?_
            refine RS_q_yes retB_noPanic rfl rfl rfl rfl ⟨_, rfl, (decide_eq_false c2)⟩ rfl (ev_load rfl LdA) ?_
            refine RS_m_yes retB_noPanic rfl rfl rfl rfl ⟨_, rfl, (decide_eq_false c2)⟩ rfl (ev_fieldAddr rfl) ?_
            refine RS_q_yes retB_noPanic rfl rfl rfl rfl ⟨_, rfl, (decide_eq_false c2)⟩ rfl (ev_load rfl LdA) ?_
            (first | refine RS_m_yes retB_noPanic rfl rfl rfl rfl ⟨_, rfl, (decide_eq_false c2)⟩ rfl (ev_lssN rfl rfl) ?_ | refine RS_m_yes retB_noPanic rfl rfl rfl rfl ⟨_, rfl, (decide_eq_false c2)⟩ rfl (ev_lss rfl rfl) ?_)
            refine RM rfl (ev_pick_f rfl (decide_eq_false c2) rfl) ?_
            refine RM rfl (ev_move rfl) ?_
            refine RS_q_no retB_noPanic rfl rfl rfl ⟨_, rfl, (decide_eq_true c3)⟩ rfl ?_
            refine RS_q_no retB_noPanic rfl rfl rfl ⟨_, rfl, (decide_eq_true c3)⟩ rfl ?_
            refine RS_q_no retB_noPanic rfl rfl rfl ⟨_, rfl, (decide_eq_true c3)⟩ rfl ?_
            refine RS_q_no retB_noPanic rfl rfl rfl ⟨_, rfl, (decide_eq_true c3)⟩ rfl ?_
            refine RS_q_no retB_noPanic rfl rfl rfl ⟨_, rfl, (decide_eq_true c3)⟩ rfl ?_
            refine RS_q_no retB_noPanic rfl rfl rfl ⟨_, rfl, (decide_eq_true c3)⟩ rfl ?_
            refine RS_q_no retB_noPanic rfl rfl rfl ⟨_, rfl, (decide_eq_true c3)⟩ rfl ?_
            refine RS_q_no retB_noPanic rfl rfl rfl ⟨_, rfl, (decide_eq_true c3)⟩ rfl ?_
            refine RM rfl (ev_pick_t rfl (decide_eq_true c3) rfl) ?_
            refine RM rfl (ev_assign rfl) ?_
            refine RS_nil ?_
            refine GN ?_
            refine G_cond_t rfl rfl ?_
            refine GN ?_
            refine G_region ?_
            refine GQ (ev_assign rfl) ?_
            refine GQ (ev_assign rfl) ?_
            refine GQ (ev_assign rfl) ?_
            refine GO_nil ?_
            refine GN ?_
            exact G_ret (L' := [] ++ L) rfl (.tmp rfl (.tmp rfl (.tmp rfl .nil))) EnA ⟨none, 0, none, 0, [], rfl, rfl, Rd.nil _ _, Rd.nil _ _, Nat.le_refl _, Nat.zero_le _, Nat.le_refl _⟩
          · skip
            refine Ctr_of (fn := Tryz.f106) (n := 79) Tryz.func106 rfl rfl rfl ?_
            intro g F
            refine GN ?_
            refine G_region ?_
            refine GE (eff_box rfl) ?_; rintro _ _ ⟨b2, rfl, rfl⟩
            refine GE (eff_box rfl) ?_; rintro _ _ ⟨b3, rfl, rfl⟩
            refine GQ (ev_assign rfl) ?_
            refine GQ (ev_assign rfl) ?_
            refine GQ (ev_assign rfl) ?_
            refine GO_nil ?_
            refine GN ?_
            refine G_draw (.q 0 (.q 1 (.q 2 (.q 3 (.q 4 (.e 5 (.q 6 (.q 7 (.q 8 (.q 9 (.q 10 (.q 11 (.q 12 (.q 13 (.q 14 (.q 15 (.q 16 (.q 17 (.q 18 (.q 19 (.q 20 (.q 21 (.q 22 (.q 23 (.q 24 (.q 25 (.q 26 (.q 27 (.q 28 (.q 29 (.q 30 (.q 31 (.q 32 (.q 33 (.q 34 (.q 35 .nil)))))))))))))))))))))))))))))))))))) (by kernel_rfl) (by kernel_rfl) ?_
            refine RM rfl (ev_fieldAddr rfl) ?_
            refine RQ rfl (ev_load rfl LdA) ?_
            (first | refine RM rfl (ev_eqlNil rfl rfl) ?_ | refine RM rfl (ev_eqlPtr rfl rfl) ?_)
            refine RM rfl (ev_move rfl) ?_
            refine RS_q_yes retB_noPanic rfl rfl rfl rfl ⟨_, rfl, rfl⟩ rfl (ev_loadN rfl LnA) ?_
            refine RS_e (RE_eff_yes rfl rfl rfl ⟨_, rfl, rfl⟩ rfl (eff_call rfl (hsz _)) ?_); rintro _ _ ⟨rfl, rfl⟩; refine ⟨_, fun _ s => s, ExA, ?_⟩
            refine RS_m_yes retB_noPanic rfl rfl rfl rfl ⟨_, rfl, rfl⟩ rfl (ev_eql rfl rfl) ?_
            refine RM rfl (ev_pick_f rfl rfl rfl) ?_
            refine RM rfl (ev_move rfl) ?_
            refine RS_m_yes retB_noPanic rfl rfl rfl rfl ⟨_, rfl, (decide_eq_false (by omega))⟩ rfl (ev_fieldAddr rfl) ?_
            refine RS_q_yes retB_noPanic rfl rfl rfl rfl ⟨_, rfl, (decide_eq_false (by omega))⟩ rfl (ev_load rfl LdA) ?_
            refine RS_m_yes retB_noPanic rfl rfl rfl rfl ⟨_, rfl, (decide_eq_false (by omega))⟩ rfl (ev_fieldAddr rfl) ?_
            refine RS_q_yes retB_noPanic rfl rfl rfl rfl ⟨_, rfl, (decide_eq_false (by omega))⟩ rfl (ev_load rfl LdA) ?_
            refine RS_m_yes retB_noPanic rfl rfl rfl rfl ⟨_, rfl, (decide_eq_false (by omega))⟩ rfl (ev_gtr rfl rfl) ?_
            refine RM rfl (ev_pick_f rfl (decide_eq_false (by omega)) rfl) ?_
            refine RM rfl (ev_move rfl) ?_
            refine RS_m_yes retB_noPanic rfl rfl rfl rfl ⟨_, rfl, (decide_eq_false c2)⟩ rfl (ev_fieldAddr rfl) ?_
            refine RS_q_yes retB_noPanic rfl rfl rfl rfl ⟨_, rfl, (decide_eq_false c2)⟩ rfl (ev_load rfl LdA) ?_
            (first | refine RS_m_yes retB_noPanic rfl rfl rfl rfl ⟨_, rfl, (decide_eq_false c2)⟩ rfl (ev_nilCheck rfl) ?_ | refine RS_m_yes retB_noPanic rfl rfl rfl rfl ⟨_, rfl, (decide_eq_false c2)⟩ rfl (ev_nilCheckF (by simp) rfl) ?_)
            refine RS_m_yes retB_noPanic rfl rfl rfl rfl ⟨_, rfl, (decide_eq_false c2)⟩ rfl (ev_fieldAddr rfl) ?_
            refine RS_q_yes retB_noPanic rfl rfl rfl rfl ⟨_, rfl, (decide_eq_false c2)⟩ rfl (ev_load rfl LdA) ?_
            refine RS_m_yes retB_noPanic rfl rfl rfl rfl ⟨_, rfl, (decide_eq_false c2)⟩ rfl (ev_fieldAddr rfl) ?_
            refine RS_q_yes retB_noPanic rfl rfl rfl rfl ⟨_, rfl, (decide_eq_false c2)⟩ rfl (ev_load rfl LdA) ?_
            (first | refine RS_m_yes retB_noPanic rfl rfl rfl rfl ⟨_, rfl, (decide_eq_false c2)⟩ rfl (ev_lssN rfl rfl) ?_ | refine RS_m_yes retB_noPanic rfl rfl rfl rfl ⟨_, rfl, (decide_eq_false c2)⟩ rfl (ev_lss rfl rfl) ?_)
            refine RM rfl (ev_pick_f rfl (decide_eq_false c2) rfl) ?_
            refine RM rfl (ev_move rfl) ?_
            refine RS_m_yes retB_noPanic rfl rfl rfl rfl ⟨_, rfl, (decide_eq_false c3)⟩ rfl (ev_fieldAddr rfl) ?_
            refine RS_q_yes retB_noPanic rfl rfl rfl rfl ⟨_, rfl, (decide_eq_false c3)⟩ rfl (ev_load rfl LdA) ?_
            (first | refine RS_m_yes retB_noPanic rfl rfl rfl rfl ⟨_, rfl, (decide_eq_false c3)⟩ rfl (ev_nilCheck rfl) ?_ | refine RS_m_yes retB_noPanic rfl rfl rfl rfl ⟨_, rfl, (decide_eq_false c3)⟩ rfl (ev_nilCheckF (by simp) rfl) ?_)
            refine RS_m_yes retB_noPanic rfl rfl rfl rfl ⟨_, rfl, (decide_eq_false c3)⟩ rfl (ev_fieldAddr rfl) ?_
            refine RS_q_yes retB_noPanic rfl rfl rfl rfl ⟨_, rfl, (decide_eq_false c3)⟩ rfl (ev_load rfl LdA) ?_
            refine RS_m_yes retB_noPanic rfl rfl rfl rfl ⟨_, rfl, (decide_eq_false c3)⟩ rfl (ev_fieldAddr rfl) ?_
            refine RS_q_yes retB_noPanic rfl rfl rfl rfl ⟨_, rfl, (decide_eq_false c3)⟩ rfl (ev_load rfl LdA) ?_
            refine RS_m_yes retB_noPanic rfl rfl rfl rfl ⟨_, rfl, (decide_eq_false c3)⟩ rfl (ev_gtr rfl rfl) ?_
            refine RM rfl (ev_pick_f rfl (decide_eq_false c3) rfl) ?_
            refine RM rfl (ev_assign rfl) ?_
            refine RS_nil ?_
            refine GN ?_
            refine G_cond_t rfl (decide_eq_true (by omega)) ?_
            refine GN ?_
            refine G_region ?_
            refine GQ (ev_assign rfl) ?_
            refine GQ (ev_assign rfl) ?_
            refine GQ (ev_assign rfl) ?_
            refine GO_nil ?_
            refine GN ?_
            exact G_ret (L' := [] ++ L) rfl (.tmp rfl (.tmp rfl (.tmp rfl .nil))) EnA ⟨none, 0, none, 0, [], rfl, rfl, Rd.nil _ _, Rd.nil _ _, Nat.le_refl _, Nat.zero_le _, Nat.le_refl _⟩
    · have co' : (RT.node c q a u v lo hi).out b = false := by simpa using co
      have e1 : (RT.node c q a u v lo hi).ids b = if (RT.node c q a u v lo hi).ins b then srt (idsOf a.pts (a.pts.countP (belowF b.y1)) (a.pts.countP (upToF b.y2))) else [] := if_neg co
      have e2 : (RT.node c q a u v lo hi).nxt b = if (RT.node c q a u v lo hi).ins b then [] else [lo, hi] := if_neg co
      have co2 := co
      simp only [RT.out, decide_eq_true_eq] at co
      unfold LkR
      rw [e1, e2]
      by_cases ci : (RT.node c q a u v lo hi).ins b = true
      · rw [if_pos ci, if_pos ci, srtI_len, hil]
        have ci2 := ci
        simp only [RT.ins, decide_eq_true_eq] at ci
        generalize a.pts.countP (belowF b.y1) = f at *
        generalize a.pts.countP (upToF b.y2) = t at *
        refine Ctr_of (fn := Tryz.f106) (n := 79) Tryz.func106 rfl rfl rfl ?_
        intro g F
        refine GN ?_
        refine G_region ?_
        refine GE (eff_box rfl) ?_; rintro _ _ ⟨b2, rfl, rfl⟩
        refine GE (eff_box rfl) ?_; rintro _ _ ⟨b3, rfl, rfl⟩
        refine GQ (ev_assign rfl) ?_
        refine GQ (ev_assign rfl) ?_
        refine GQ (ev_assign rfl) ?_
        refine GO_nil ?_
        refine GN ?_
        refine G_draw (.q 0 (.q 1 (.q 2 (.q 3 (.q 4 (.e 5 (.q 6 (.q 7 (.q 8 (.q 9 (.q 10 (.q 11 (.q 12 (.q 13 (.q 14 (.q 15 (.q 16 (.q 17 (.q 18 (.q 19 (.q 20 (.q 21 (.q 22 (.q 23 (.q 24 (.q 25 (.q 26 (.q 27 (.q 28 (.q 29 (.q 30 (.q 31 (.q 32 (.q 33 (.q 34 (.q 35 .nil)))))))))))))))))))))))))))))))))))) (by kernel_rfl) (by kernel_rfl) ?_
        refine RM rfl (ev_fieldAddr rfl) ?_
        refine RQ rfl (ev_load rfl LdA) ?_
        (first | refine RM rfl (ev_eqlNil rfl rfl) ?_ | refine RM rfl (ev_eqlPtr rfl rfl) ?_)
        refine RM rfl (ev_move rfl) ?_
        refine RS_q_yes retB_noPanic rfl rfl rfl rfl ⟨_, rfl, rfl⟩ rfl (ev_loadN rfl LnA) ?_
        refine RS_e (RE_eff_yes rfl rfl rfl ⟨_, rfl, rfl⟩ rfl (eff_call rfl (hsz _)) ?_); rintro _ _ ⟨rfl, rfl⟩; refine ⟨_, fun _ s => s, ExA, ?_⟩
        refine RS_m_yes retB_noPanic rfl rfl rfl rfl ⟨_, rfl, rfl⟩ rfl (ev_eql rfl rfl) ?_
        refine RM rfl (ev_pick_f rfl rfl rfl) ?_
        refine RM rfl (ev_move rfl) ?_
        refine RS_m_yes retB_noPanic rfl rfl rfl rfl ⟨_, rfl, (decide_eq_false (by omega))⟩ rfl (ev_fieldAddr rfl) ?_
        refine RS_q_yes retB_noPanic rfl rfl rfl rfl ⟨_, rfl, (decide_eq_false (by omega))⟩ rfl (ev_load rfl LdA) ?_
        refine RS_m_yes retB_noPanic rfl rfl rfl rfl ⟨_, rfl, (decide_eq_false (by omega))⟩ rfl (ev_fieldAddr rfl) ?_
        refine RS_q_yes retB_noPanic rfl rfl rfl rfl ⟨_, rfl, (decide_eq_false (by omega))⟩ rfl (ev_load rfl LdA) ?_
        refine RS_m_yes retB_noPanic rfl rfl rfl rfl ⟨_, rfl, (decide_eq_false (by omega))⟩ rfl (ev_gtr rfl rfl) ?_
        refine RM rfl (ev_pick_f rfl (decide_eq_false (by omega)) rfl) ?_
        refine RM rfl (ev_move rfl) ?_
        refine RS_m_yes retB_noPanic rfl rfl rfl rfl ⟨_, rfl, (decide_eq_false (by omega))⟩ rfl (ev_fieldAddr rfl) ?_
        refine RS_q_yes retB_noPanic rfl rfl rfl rfl ⟨_, rfl, (decide_eq_false (by omega))⟩ rfl (ev_load rfl LdA) ?_
        (first | refine RS_m_yes retB_noPanic rfl rfl rfl rfl ⟨_, rfl, (decide_eq_false (by omega))⟩ rfl (ev_nilCheck rfl) ?_ | refine RS_m_yes retB_noPanic rfl rfl rfl rfl ⟨_, rfl, (decide_eq_false (by omega))⟩ rfl (ev_nilCheckF (by simp) rfl) ?_)
        refine RS_m_yes retB_noPanic rfl rfl rfl rfl ⟨_, rfl, (decide_eq_false (by omega))⟩ rfl (ev_fieldAddr rfl) ?_
        refine RS_q_yes retB_noPanic rfl rfl rfl rfl ⟨_, rfl, (decide_eq_false (by omega))⟩ rfl (ev_load rfl LdA) ?_
        refine RS_m_yes retB_noPanic rfl rfl rfl rfl ⟨_, rfl, (decide_eq_false (by omega))⟩ rfl (ev_fieldAddr rfl) ?_
        refine RS_q_yes retB_noPanic rfl rfl rfl rfl ⟨_, rfl, (decide_eq_false (by omega))⟩ rfl (ev_load rfl LdA) ?_
        (first | refine RS_m_yes retB_noPanic rfl rfl rfl rfl ⟨_, rfl, (decide_eq_false (by omega))⟩ rfl (ev_lssN rfl rfl) ?_ | refine RS_m_yes retB_noPanic rfl rfl rfl rfl ⟨_, rfl, (decide_eq_false (by omega))⟩ rfl (ev_lss rfl rfl) ?_)
        refine RM rfl (ev_pick_f rfl (decide_eq_false (by omega)) rfl) ?_
        refine RM rfl (ev_move rfl) ?_
        refine RS_m_yes retB_noPanic rfl rfl rfl rfl ⟨_, rfl, (decide_eq_false (by omega))⟩ rfl (ev_fieldAddr rfl) ?_
        refine RS_q_yes retB_noPanic rfl rfl rfl rfl ⟨_, rfl, (decide_eq_false (by omega))⟩ rfl (ev_load rfl LdA) ?_
        (first | refine RS_m_yes retB_noPanic rfl rfl rfl rfl ⟨_, rfl, (decide_eq_false (by omega))⟩ rfl (ev_nilCheck rfl) ?_ | refine RS_m_yes retB_noPanic rfl rfl rfl rfl ⟨_, rfl, (decide_eq_false (by omega))⟩ rfl (ev_nilCheckF (by simp) rfl) ?_)
        refine RS_m_yes retB_noPanic rfl rfl rfl rfl ⟨_, rfl, (decide_eq_false (by omega))⟩ rfl (ev_fieldAddr rfl) ?_
        refine RS_q_yes retB_noPanic rfl rfl rfl rfl ⟨_, rfl, (decide_eq_false (by omega))⟩ rfl (ev_load rfl LdA) ?_
        refine RS_m_yes retB_noPanic rfl rfl rfl rfl ⟨_, rfl, (decide_eq_false (by omega))⟩ rfl (ev_fieldAddr rfl) ?_
        refine RS_q_yes retB_noPanic rfl rfl rfl rfl ⟨_, rfl, (decide_eq_false (by omega))⟩ rfl (ev_load rfl LdA) ?_
        refine RS_m_yes retB_noPanic rfl rfl rfl rfl ⟨_, rfl, (decide_eq_false (by omega))⟩ rfl (ev_gtr rfl rfl) ?_
        refine RM rfl (ev_pick_f rfl (decide_eq_false (by omega)) rfl) ?_
        refine RM rfl (ev_assign rfl) ?_
        refine RS_nil ?_
        refine GN ?_
        refine G_cond_f rfl (decide_eq_false (by omega)) ?_
        refine GN ?_
        refine G_draw (.q 0 (.q 1 (.q 2 (.q 3 (.q 4 (.q 5 (.q 6 (.q 7 (.q 8 (.q 9 (.q 10 (.q 11 (.q 12 (.q 13 (.q 14 (.q 15 (.q 16 (.q 17 (.q 18 .nil))))))))))))))))))) (by kernel_rfl) (by kernel_rfl) ?_
        refine RM rfl (ev_fieldAddr rfl) ?_
        refine RQ rfl (ev_load rfl LdA) ?_
        refine RM rfl (ev_fieldAddr rfl) ?_
        refine RQ rfl (ev_load rfl LdA) ?_
        (first | refine RM rfl (ev_nilCheck rfl) ?_ | refine RM rfl (ev_nilCheckF (by simp) rfl) ?_)
        refine RM rfl (ev_fieldAddr rfl) ?_
        refine RQ rfl (ev_load rfl LdA) ?_
        refine RM rfl (ev_leq rfl rfl) ?_
        refine RM rfl (ev_move rfl) ?_
        refine RS_m_yes retB_noPanic rfl rfl rfl rfl ⟨_, rfl, (decide_eq_true ci.1)⟩ rfl (ev_fieldAddr rfl) ?_
        refine RS_q_yes retB_noPanic rfl rfl rfl rfl ⟨_, rfl, (decide_eq_true ci.1)⟩ rfl (ev_load rfl LdA) ?_
        (first | refine RS_m_yes retB_noPanic rfl rfl rfl rfl ⟨_, rfl, (decide_eq_true ci.1)⟩ rfl (ev_nilCheck rfl) ?_ | refine RS_m_yes retB_noPanic rfl rfl rfl rfl ⟨_, rfl, (decide_eq_true ci.1)⟩ rfl (ev_nilCheckF (by simp) rfl) ?_)
        refine RS_m_yes retB_noPanic rfl rfl rfl rfl ⟨_, rfl, (decide_eq_true ci.1)⟩ rfl (ev_fieldAddr rfl) ?_
        refine RS_q_yes retB_noPanic rfl rfl rfl rfl ⟨_, rfl, (decide_eq_true ci.1)⟩ rfl (ev_load rfl LdA) ?_
        refine RS_m_yes retB_noPanic rfl rfl rfl rfl ⟨_, rfl, (decide_eq_true ci.1)⟩ rfl (ev_fieldAddr rfl) ?_
        refine RS_q_yes retB_noPanic rfl rfl rfl rfl ⟨_, rfl, (decide_eq_true ci.1)⟩ rfl (ev_load rfl LdA) ?_
        refine RS_m_yes retB_noPanic rfl rfl rfl rfl ⟨_, rfl, (decide_eq_true ci.1)⟩ rfl (ev_leq rfl rfl) ?_
        refine RM rfl (ev_pick_t rfl (decide_eq_true ci.1) rfl) ?_
        refine RM rfl (ev_assign rfl) ?_
        refine RS_nil ?_
        refine GN ?_
        refine G_cond_t rfl (decide_eq_true ci.2) ?_
        refine GN ?_
        refine G_draw (.q 0 (.q 1 (.q 2 (.q 3 (.q 4 (.q 5 (.q 6 (.q 7 (.q 8 (.q 10 (.e 9 (.e 11 (.q 12 (.q 13 (.q 14 .nil))))))))))))))) (by kernel_rfl) (by kernel_rfl) ?_
        refine RM rfl (ev_fieldAddr rfl) ?_
        refine RQ rfl (ev_load rfl LdA) ?_
        (first | refine RM rfl (ev_nilCheck rfl) ?_ | refine RM rfl (ev_nilCheckF (by simp) rfl) ?_)
        refine RM rfl (ev_fieldAddr rfl) ?_
        refine RQ rfl (ev_load rfl LdA) ?_
        refine RM rfl (ev_fieldAddr rfl) ?_
        refine RQ rfl (ev_load rfl LdA) ?_
        refine RM rfl (ev_fieldAddr rfl) ?_
        refine RQ rfl (ev_load rfl LdA) ?_
        refine RQ rfl (ev_loadN rfl LnA) ?_
        refine RS_e (RE_eff rfl rfl rfl (eff_call rfl (Ctr.frame [_, _, _] (hids L ha) (fun _ s => s))) ?_); rintro _ _ ⟨L1, ⟨A1, c1, N1, rfl, m1, m2, rfl, m3⟩, rfl⟩; refine ⟨_, fun _ s => s, ExA, ?_⟩
        refine RS_e (RE_eff rfl rfl rfl (eff_call rfl (hsz _)) ?_); rintro _ _ ⟨rfl, rfl⟩; refine ⟨_, fun _ s => s, ExA, ?_⟩
        refine RM rfl (ev_assign rfl) ?_
        refine RM rfl (ev_assign rfl) ?_
        refine RM rfl (ev_assign rfl) ?_
        refine RS_nil ?_
        refine GN ?_
        exact G_ret (L' := N1 ++ L) rfl (.tmp rfl (.tmp rfl (.tmp rfl .nil))) EnA ⟨A1, c1, none, 0, N1, rfl, rfl, m3, Rd.nil _ _, m1, m2, Nat.le_refl _⟩
      · rw [if_neg ci, if_neg ci]
        have ci2 : (RT.node c q a u v lo hi).ins b = false := by simpa using ci
        obtain ⟨j1, j2, j3⟩ := hj co' ci2
        have o1 := j1.ok.1
        have o2 := j2.ok.1
        have d1 := fun high => lead_join (belowF_falls b.y1) lo.arr hi.arr o1 o2 high
        have d2 := fun high => lead_join (upToF_falls b.y2) lo.arr hi.arr o1 o2 high
        rw [← j3] at d1 d2
        simp only [RT.ins, decide_eq_true_eq] at ci
        have hf1 := hh true
        have hf2 := hh false
        rw [d1, d2] at hf1 hf2
        generalize a.pts.countP (belowF b.y1) = f at *
        generalize a.pts.countP (upToF b.y2) = t at *
        have hrd : ∀ (X : Nat) (M : List HP), Rd (blk X 84 [.pointer lo.addr, .int .i64 (lo.arr.pts.countP (belowF b.y1) : Nat), .int .i64 (lo.arr.pts.countP (upToF b.y2) : Nat), .pointer hi.addr, .int .i64 (hi.arr.pts.countP (belowF b.y1) : Nat), .int .i64 (hi.arr.pts.countP (upToF b.y2) : Nat)] :: M) (some ⟨X, 0, none⟩) 2 (partsR b [lo, hi]) := fun X M => Rc.blk rfl
        refine Ctr_of (fn := Tryz.f106) (n := 79) Tryz.func106 rfl rfl rfl ?_
        intro g F
        refine GN ?_
        refine G_region ?_
        refine GE (eff_box rfl) ?_; rintro _ _ ⟨b2, rfl, rfl⟩
        refine GE (eff_box rfl) ?_; rintro _ _ ⟨b3, rfl, rfl⟩
        refine GQ (ev_assign rfl) ?_
        refine GQ (ev_assign rfl) ?_
        refine GQ (ev_assign rfl) ?_
        refine GO_nil ?_
        refine GN ?_
        refine G_draw (.q 0 (.q 1 (.q 2 (.q 3 (.q 4 (.e 5 (.q 6 (.q 7 (.q 8 (.q 9 (.q 10 (.q 11 (.q 12 (.q 13 (.q 14 (.q 15 (.q 16 (.q 17 (.q 18 (.q 19 (.q 20 (.q 21 (.q 22 (.q 23 (.q 24 (.q 25 (.q 26 (.q 27 (.q 28 (.q 29 (.q 30 (.q 31 (.q 32 (.q 33 (.q 34 (.q 35 .nil)))))))))))))))))))))))))))))))))))) (by kernel_rfl) (by kernel_rfl) ?_
        refine RM rfl (ev_fieldAddr rfl) ?_
        refine RQ rfl (ev_load rfl LdA) ?_
        (first | refine RM rfl (ev_eqlNil rfl rfl) ?_ | refine RM rfl (ev_eqlPtr rfl rfl) ?_)
        refine RM rfl (ev_move rfl) ?_
        refine RS_q_yes retB_noPanic rfl rfl rfl rfl ⟨_, rfl, rfl⟩ rfl (ev_loadN rfl LnA) ?_
        refine RS_e (RE_eff_yes rfl rfl rfl ⟨_, rfl, rfl⟩ rfl (eff_call rfl (hsz _)) ?_); rintro _ _ ⟨rfl, rfl⟩; refine ⟨_, fun _ s => s, ExA, ?_⟩
        refine RS_m_yes retB_noPanic rfl rfl rfl rfl ⟨_, rfl, rfl⟩ rfl (ev_eql rfl rfl) ?_
        refine RM rfl (ev_pick_f rfl rfl rfl) ?_
        refine RM rfl (ev_move rfl) ?_
        refine RS_m_yes retB_noPanic rfl rfl rfl rfl ⟨_, rfl, (decide_eq_false (by omega))⟩ rfl (ev_fieldAddr rfl) ?_
        refine RS_q_yes retB_noPanic rfl rfl rfl rfl ⟨_, rfl, (decide_eq_false (by omega))⟩ rfl (ev_load rfl LdA) ?_
        refine RS_m_yes retB_noPanic rfl rfl rfl rfl ⟨_, rfl, (decide_eq_false (by omega))⟩ rfl (ev_fieldAddr rfl) ?_
        refine RS_q_yes retB_noPanic rfl rfl rfl rfl ⟨_, rfl, (decide_eq_false (by omega))⟩ rfl (ev_load rfl LdA) ?_
        refine RS_m_yes retB_noPanic rfl rfl rfl rfl ⟨_, rfl, (decide_eq_false (by omega))⟩ rfl (ev_gtr rfl rfl) ?_
        refine RM rfl (ev_pick_f rfl (decide_eq_false (by omega)) rfl) ?_
        refine RM rfl (ev_move rfl) ?_
        refine RS_m_yes retB_noPanic rfl rfl rfl rfl ⟨_, rfl, (decide_eq_false (by omega))⟩ rfl (ev_fieldAddr rfl) ?_
        refine RS_q_yes retB_noPanic rfl rfl rfl rfl ⟨_, rfl, (decide_eq_false (by omega))⟩ rfl (ev_load rfl LdA) ?_
        (first | refine RS_m_yes retB_noPanic rfl rfl rfl rfl ⟨_, rfl, (decide_eq_false (by omega))⟩ rfl (ev_nilCheck rfl) ?_ | refine RS_m_yes retB_noPanic rfl rfl rfl rfl ⟨_, rfl, (decide_eq_false (by omega))⟩ rfl (ev_nilCheckF (by simp) rfl) ?_)
        refine RS_m_yes retB_noPanic rfl rfl rfl rfl ⟨_, rfl, (decide_eq_false (by omega))⟩ rfl (ev_fieldAddr rfl) ?_
        refine RS_q_yes retB_noPanic rfl rfl rfl rfl ⟨_, rfl, (decide_eq_false (by omega))⟩ rfl (ev_load rfl LdA) ?_
        refine RS_m_yes retB_noPanic rfl rfl rfl rfl ⟨_, rfl, (decide_eq_false (by omega))⟩ rfl (ev_fieldAddr rfl) ?_
        refine RS_q_yes retB_noPanic rfl rfl rfl rfl ⟨_, rfl, (decide_eq_false (by omega))⟩ rfl (ev_load rfl LdA) ?_
        (first | refine RS_m_yes retB_noPanic rfl rfl rfl rfl ⟨_, rfl, (decide_eq_false (by omega))⟩ rfl (ev_lssN rfl rfl) ?_ | refine RS_m_yes retB_noPanic rfl rfl rfl rfl ⟨_, rfl, (decide_eq_false (by omega))⟩ rfl (ev_lss rfl rfl) ?_)
        refine RM rfl (ev_pick_f rfl (decide_eq_false (by omega)) rfl) ?_
        refine RM rfl (ev_move rfl) ?_
        refine RS_m_yes retB_noPanic rfl rfl rfl rfl ⟨_, rfl, (decide_eq_false (by omega))⟩ rfl (ev_fieldAddr rfl) ?_
        refine RS_q_yes retB_noPanic rfl rfl rfl rfl ⟨_, rfl, (decide_eq_false (by omega))⟩ rfl (ev_load rfl LdA) ?_
        (first | refine RS_m_yes retB_noPanic rfl rfl rfl rfl ⟨_, rfl, (decide_eq_false (by omega))⟩ rfl (ev_nilCheck rfl) ?_ | refine RS_m_yes retB_noPanic rfl rfl rfl rfl ⟨_, rfl, (decide_eq_false (by omega))⟩ rfl (ev_nilCheckF (by simp) rfl) ?_)
        refine RS_m_yes retB_noPanic rfl rfl rfl rfl ⟨_, rfl, (decide_eq_false (by omega))⟩ rfl (ev_fieldAddr rfl) ?_
        refine RS_q_yes retB_noPanic rfl rfl rfl rfl ⟨_, rfl, (decide_eq_false (by omega))⟩ rfl (ev_load rfl LdA) ?_
        refine RS_m_yes retB_noPanic rfl rfl rfl rfl ⟨_, rfl, (decide_eq_false (by omega))⟩ rfl (ev_fieldAddr rfl) ?_
        refine RS_q_yes retB_noPanic rfl rfl rfl rfl ⟨_, rfl, (decide_eq_false (by omega))⟩ rfl (ev_load rfl LdA) ?_
        refine RS_m_yes retB_noPanic rfl rfl rfl rfl ⟨_, rfl, (decide_eq_false (by omega))⟩ rfl (ev_gtr rfl rfl) ?_
        refine RM rfl (ev_pick_f rfl (decide_eq_false (by omega)) rfl) ?_
        refine RM rfl (ev_assign rfl) ?_
        refine RS_nil ?_
        refine GN ?_
        refine G_cond_f rfl (decide_eq_false (by omega)) ?_
        by_cases c4 : b.x1 ≤ u
        · refine GN ?_
          refine G_draw (.q 0 (.q 1 (.q 2 (.q 3 (.q 4 (.q 5 (.q 6 (.q 7 (.q 8 (.q 9 (.q 10 (.q 11 (.q 12 (.q 13 (.q 14 (.q 15 (.q 16 (.q 17 (.q 18 .nil))))))))))))))))))) (by kernel_rfl) (by kernel_rfl) ?_
          refine RM rfl (ev_fieldAddr rfl) ?_
          refine RQ rfl (ev_load rfl LdA) ?_
          refine RM rfl (ev_fieldAddr rfl) ?_
          refine RQ rfl (ev_load rfl LdA) ?_
          (first | refine RM rfl (ev_nilCheck rfl) ?_ | refine RM rfl (ev_nilCheckF (by simp) rfl) ?_)
          refine RM rfl (ev_fieldAddr rfl) ?_
          refine RQ rfl (ev_load rfl LdA) ?_
          refine RM rfl (ev_leq rfl rfl) ?_
          refine RM rfl (ev_move rfl) ?_
          refine RS_m_yes retB_noPanic rfl rfl rfl rfl ⟨_, rfl, (decide_eq_true c4)⟩ rfl (ev_fieldAddr rfl) ?_
          refine RS_q_yes retB_noPanic rfl rfl rfl rfl ⟨_, rfl, (decide_eq_true c4)⟩ rfl (ev_load rfl LdA) ?_
          (first | refine RS_m_yes retB_noPanic rfl rfl rfl rfl ⟨_, rfl, (decide_eq_true c4)⟩ rfl (ev_nilCheck rfl) ?_ | refine RS_m_yes retB_noPanic rfl rfl rfl rfl ⟨_, rfl, (decide_eq_true c4)⟩ rfl (ev_nilCheckF (by simp) rfl) ?_)
          refine RS_m_yes retB_noPanic rfl rfl rfl rfl ⟨_, rfl, (decide_eq_true c4)⟩ rfl (ev_fieldAddr rfl) ?_
          refine RS_q_yes retB_noPanic rfl rfl rfl rfl ⟨_, rfl, (decide_eq_true c4)⟩ rfl (ev_load rfl LdA) ?_
          refine RS_m_yes retB_noPanic rfl rfl rfl rfl ⟨_, rfl, (decide_eq_true c4)⟩ rfl (ev_fieldAddr rfl) ?_
          refine RS_q_yes retB_noPanic rfl rfl rfl rfl ⟨_, rfl, (decide_eq_true c4)⟩ rfl (ev_load rfl LdA) ?_
          refine RS_m_yes retB_noPanic rfl rfl rfl rfl ⟨_, rfl, (decide_eq_true c4)⟩ rfl (ev_leq rfl rfl) ?_
          refine RM rfl (ev_pick_t rfl (decide_eq_true c4) rfl) ?_
          refine RM rfl (ev_assign rfl) ?_
          refine RS_nil ?_
          refine GN ?_
          refine G_cond_f rfl (decide_eq_false (by omega)) ?_
          refine GN ?_
          refine G_draw (.q 0 (.q 2 (.e 1 (.e 3 (.q 5 (.q 6 (.e 4 (.q 7 .nil)))))))) (by kernel_rfl) (by kernel_rfl) ?_
          refine RQ rfl (ev_loadN rfl LnA) ?_
          refine RQ rfl (ev_loadN rfl LnA) ?_
          refine RS_e (RE_eff rfl rfl rfl (eff_call rfl (hf2 _ (by repeat' first | exact h | apply RIn.skip))) ?_); rintro _ _ ⟨rfl, rfl⟩; refine ⟨_, fun _ s => s, ExA, ?_⟩
          refine RS_e (RE_eff rfl rfl rfl (eff_call rfl (hf1 _ (by repeat' first | exact h | apply RIn.skip))) ?_); rintro _ _ ⟨rfl, rfl⟩; refine ⟨_, fun _ s => s, ExA, ?_⟩
          refine RM rfl (ev_assign rfl) ?_
          refine RM rfl (ev_assign rfl) ?_
          refine RS_e (RE_eff rfl rfl rfl (eff_buildSliceN (by rfl) rfl rfl) ?_); rintro _ _ ⟨b78, rfl, rfl⟩; refine ⟨_, fun _ s => s, ExA, ?_⟩
          refine RM rfl (ev_assign rfl) ?_
          refine RS_nil ?_
          refine GN ?_
          exact G_ret (L' := blk b78 84 [.pointer lo.addr, .int .i64 (lo.arr.pts.countP (belowF b.y1) : Nat), .int .i64 (lo.arr.pts.countP (upToF b.y2) : Nat), .pointer hi.addr, .int .i64 (hi.arr.pts.countP (belowF b.y1) : Nat), .int .i64 (hi.arr.pts.countP (upToF b.y2) : Nat)] :: L) rfl (.tmp rfl (.tmp rfl (.tmp rfl .nil))) EpA ⟨none, 0, some ⟨b78, 0, none⟩, 2, [blk b78 84 [.pointer lo.addr, .int .i64 (lo.arr.pts.countP (belowF b.y1) : Nat), .int .i64 (lo.arr.pts.countP (upToF b.y2) : Nat), .pointer hi.addr, .int .i64 (hi.arr.pts.countP (belowF b.y1) : Nat), .int .i64 (hi.arr.pts.countP (upToF b.y2) : Nat)]], rfl, rfl, Rd.nil _ _, hrd _ _, Nat.le_refl _, Nat.zero_le _, Nat.le_refl _⟩
        · refine GN ?_
          refine G_draw (.q 0 (.q 1 (.q 2 (.q 3 (.q 4 (.q 5 (.q 6 (.q 7 (.q 8 (.q 9 (.q 10 (.q 11 (.q 12 (.q 13 (.q 14 (.q 15 (.q 16 (.q 17 (.q 18 .nil))))))))))))))))))) (by kernel_rfl) (by kernel_rfl) ?_
          refine RM rfl (ev_fieldAddr rfl) ?_
          refine RQ rfl (ev_load rfl LdA) ?_
          refine RM rfl (ev_fieldAddr rfl) ?_
          refine RQ rfl (ev_load rfl LdA) ?_
          (first | refine RM rfl (ev_nilCheck rfl) ?_ | refine RM rfl (ev_nilCheckF (by simp) rfl) ?_)
          refine RM rfl (ev_fieldAddr rfl) ?_
          refine RQ rfl (ev_load rfl LdA) ?_
          refine RM rfl (ev_leq rfl rfl) ?_
          refine RM rfl (ev_move rfl) ?_
          refine RS_q_no retB_noPanic rfl rfl rfl ⟨_, rfl, (decide_eq_false c4)⟩ rfl ?_
          refine RS_q_no retB_noPanic rfl rfl rfl ⟨_, rfl, (decide_eq_false c4)⟩ rfl ?_
          refine RS_q_no retB_noPanic rfl rfl rfl ⟨_, rfl, (decide_eq_false c4)⟩ rfl ?_
          refine RS_q_no retB_noPanic rfl rfl rfl ⟨_, rfl, (decide_eq_false c4)⟩ rfl ?_
          refine RS_q_no retB_noPanic rfl rfl rfl ⟨_, rfl, (decide_eq_false c4)⟩ rfl ?_
          refine RS_q_no retB_noPanic rfl rfl rfl ⟨_, rfl, (decide_eq_false c4)⟩ rfl ?_
          refine RS_q_no retB_noPanic rfl rfl rfl ⟨_, rfl, (decide_eq_false c4)⟩ rfl ?_
          refine RS_q_no retB_noPanic rfl rfl rfl ⟨_, rfl, (decide_eq_false c4)⟩ rfl ?_
          refine RM rfl (ev_pick_f rfl (decide_eq_false c4) rfl) ?_
          refine RM rfl (ev_assign rfl) ?_
          refine RS_nil ?_
          refine GN ?_
          refine G_cond_f rfl rfl ?_
          refine GN ?_
          refine G_draw (.q 0 (.q 2 (.e 1 (.e 3 (.q 5 (.q 6 (.e 4 (.q 7 .nil)))))))) (by kernel_rfl) (by kernel_rfl) ?_
          refine RQ rfl (ev_loadN rfl LnA) ?_
          refine RQ rfl (ev_loadN rfl LnA) ?_
          refine RS_e (RE_eff rfl rfl rfl (eff_call rfl (hf2 _ (by repeat' first | exact h | apply RIn.skip))) ?_); rintro _ _ ⟨rfl, rfl⟩; refine ⟨_, fun _ s => s, ExA, ?_⟩
          refine RS_e (RE_eff rfl rfl rfl (eff_call rfl (hf1 _ (by repeat' first | exact h | apply RIn.skip))) ?_); rintro _ _ ⟨rfl, rfl⟩; refine ⟨_, fun _ s => s, ExA, ?_⟩
          refine RM rfl (ev_assign rfl) ?_
          refine RM rfl (ev_assign rfl) ?_
          refine RS_e (RE_eff rfl rfl rfl (eff_buildSliceN (by rfl) rfl rfl) ?_); rintro _ _ ⟨b78, rfl, rfl⟩; refine ⟨_, fun _ s => s, ExA, ?_⟩
          refine RM rfl (ev_assign rfl) ?_
          refine RS_nil ?_
          refine GN ?_
          exact G_ret (L' := blk b78 84 [.pointer lo.addr, .int .i64 (lo.arr.pts.countP (belowF b.y1) : Nat), .int .i64 (lo.arr.pts.countP (upToF b.y2) : Nat), .pointer hi.addr, .int .i64 (hi.arr.pts.countP (belowF b.y1) : Nat), .int .i64 (hi.arr.pts.countP (upToF b.y2) : Nat)] :: L) rfl (.tmp rfl (.tmp rfl (.tmp rfl .nil))) EpA ⟨none, 0, some ⟨b78, 0, none⟩, 2, [blk b78 84 [.pointer lo.addr, .int .i64 (lo.arr.pts.countP (belowF b.y1) : Nat), .int .i64 (lo.arr.pts.countP (upToF b.y2) : Nat), .pointer hi.addr, .int .i64 (hi.arr.pts.countP (belowF b.y1) : Nat), .int .i64 (hi.arr.pts.countP (upToF b.y2) : Nat)]], rfl, rfl, Rd.nil _ _, hrd _ _, Nat.le_refl _, Nat.zero_le _, Nat.le_refl _⟩
theorem pLook_ctr (T : RT) (b : Bx) (l : List Pt) (L : List HP) (h : RIn L T) (ho : T.of l) (hn : l.length ≤ 100000) :
    Ctr Tryz.prog 87 #[.agg #[.pointer T.addr, .int .i64 (T.arr.pts.countP (belowF b.y1) : Nat), .int .i64 (T.arr.pts.countP (upToF b.y2) : Nat)], .agg #[.int .i64 b.x1, .int .i64 b.x2, .int .i64 b.y1, .int .i64 b.y2]] L fun r L' => LkR b T L r L' := by
  refine Ctr_of (fn := Tryz.f87) (n := 13) Tryz.func87 rfl rfl rfl ?_
  intro g F
  refine GN ?_
  refine G_region ?_
  refine GE (eff_box rfl) ?_; rintro _ _ ⟨b2, rfl, rfl⟩
  refine GE (eff_box rfl) ?_; rintro _ _ ⟨b3, rfl, rfl⟩
  refine GQ (ev_assign rfl) ?_
  refine GQ (ev_assign rfl) ?_
  refine GQ (ev_assign rfl) ?_
  refine GO_nil ?_
  refine GN ?_
  refine G_region ?_
  refine GQ (ev_loadN rfl LnA) ?_
  refine GQ (ev_loadN rfl LnA) ?_
  refine GE (eff_call rfl (Ctr.frame [_, _, _] (plook_ctr T b l L h ho hn) (fun _ s => s))) ?_; rintro _ _ ⟨L1, ⟨A1, c1, A2, c2, N, rfl, rfl, m1, m2, m3, m4, m5⟩, rfl⟩
  refine GQ (ev_extract rfl rfl) ?_
  refine GQ (ev_extract rfl rfl) ?_
  refine GQ (ev_extract rfl rfl) ?_
  refine GQ (ev_assign rfl) ?_
  refine GQ (ev_assign rfl) ?_
  refine GQ (ev_assign rfl) ?_
  refine GO_nil ?_
  refine GN ?_
  exact G_ret (L' := N ++ L) rfl (.tmp rfl (.tmp rfl (.tmp rfl .nil))) EnA ⟨A1, c1, A2, c2, N, rfl, rfl, m1, m2, m3, m4, m5⟩
end Go.Proofs.YtkoncepjfgnjlaaGreat
/- A stack of nodes: what lies in memory. -/
namespace Go.Proofs.YtkoncepjfgnjlaaGreat
set_option linter.unusedVariables false
set_option linter.unusedSimpArgs false

/-- A stack at a place. -/
def stkS (b : Nat) (most : Int) (l : List PR) : HP := fun h => ∃ x : Option Addr × Nat, (0 < l.length → ∃ b, x.1 = some ⟨b, 0, none⟩) ∧ sat [blk b 132 [.slice x.1 l.length x.2, .int .i64 most], own 84 3 x.1 l.length x.2 (flat l)] h
theorem stk_open {s : Nat} {most : Int} {l : List PR} {M : List HP} {hm : Hm} (h : sat (stkS s most l :: M) hm) : ∃ A c, (0 < l.length → ∃ b, A = some ⟨b, 0, none⟩) ∧ l.length ≤ c ∧ c ≤ maxLen ∧ sat (blk s 132 [.slice A l.length c, .int .i64 most] :: own 84 3 A l.length c (flat l) :: M) hm := by
  obtain ⟨h1, h2, d, s1, s2, ⟨⟨A, c⟩, hA, q⟩, t⟩ := h
  have q0 := own.facts (L := []) q.tail
  exact ⟨A, c, hA, q0.2.1, q0.2.2.1, sat.head (A := fun h => h = h1) (N := [blk s 132 [.slice A l.length c, .int .i64 most], own 84 3 A l.length c (flat l)]) (fun _ e => e ▸ q) ⟨h1, h2, d, s1, s2, rfl, t⟩⟩
theorem Ctr.stk {P : Program} {f : FuncId} {args : Array Value} {L : List HP} {b : Nat} {most : Int} {l : List PR} {post : Value → List HP → Prop}
    (C : ∀ A c, (0 < l.length → ∃ b, A = some ⟨b, 0, none⟩) → l.length ≤ c → c ≤ maxLen → Ctr P f args (blk b 132 [.slice A l.length c, .int .i64 most] :: own 84 3 A l.length c (flat l) :: L) post) : Ctr P f args (stkS b most l :: L) post := fun g F w hw => by
  obtain ⟨A, c, h1, h2, h3, h4⟩ := stk_open hw.s.swap
  exact C A c h1 h2 h3 g F w ⟨hw.g, h4.perm (List.perm_middle (l₁ := [_, _]))⟩
theorem en_stk {L M : List HP} {b c : Nat} {A : Option Addr} {most : Int} {l : List PR} (hA : 0 < l.length → ∃ b, A = some ⟨b, 0, none⟩) (f : ∀ h, sat L h → sat (blk b 132 [.slice A l.length c, .int .i64 most] :: own 84 3 A l.length c (flat l) :: M) h) : ∀ h, sat L h → sat (stkS b most l :: M) h := fun h s =>
  sat.fold (N := [_, _]) (fun h q => ⟨(A, c), hA, q⟩) (f h s)
theorem own_of3 {L : List HP} {b c : Nat} {T : TypeId} {u1 u2 u3 v1 v2 v3 : Value} {r : List Value} (k1 : (v1 :: v2 :: v3 :: u1 :: u2 :: u3 :: r).length = c * 3) (k2 : 2 ≤ c) (k3 : c ≤ maxLen) : ∀ h, sat (blk b T (u1 :: u2 :: u3 :: v1 :: v2 :: v3 :: r) :: L) h → sat (own T 3 (some ⟨b, 0, none⟩) 2 c [u1, u2, u3, v1, v2, v3] :: L) h := fun h s => by
  obtain ⟨h1, h2, d, s1, s2, q, z⟩ := s
  exact ⟨h1, h2, d, s1, s2, own.cls (n := 2) (c := c) (sz := 3) (cs := u1 :: u2 :: u3 :: v1 :: v2 :: v3 :: r) q k1 k2 k3, z⟩
theorem sw6 (u1 u2 u3 v1 v2 v3 : Value) (r : List Value) : setN (setN (u1 :: u2 :: u3 :: v1 :: v2 :: v3 :: r) (0 + 0 * 3) [v1, v2, v3]) (0 + 1 * 3) [u1, u2, u3] = v1 :: v2 :: v3 :: u1 :: u2 :: u3 :: r := by
  rw [setN_eq (u1 :: u2 :: u3 :: v1 :: v2 :: v3 :: r) _ _ (by simp), setN_eq _ _ _ (by simp)]
  simp
end Go.Proofs.YtkoncepjfgnjlaaGreat
