/- Plan: the plain answer. -/
import Derived.Test.YtcdafmmfcjbodaaPg
import Derived.Test.YtcdafmmfcjbodaaSortC
namespace Go.Proofs.Ytcdafmmfcjbodaa
attribute [local irreducible] sat
set_option linter.unusedVariables false
set_option linter.unusedSimpArgs false
set_option maxRecDepth 100000

instance : Enc Sp := ⟨3, fun s => [.int .i64 s.id, .int .i64 s.lo, .int .i64 s.hi], fun _ => rfl, fun s v h => by
  simp at h
  rcases h with rfl | rfl | rfl <;> rfl⟩
/-- The ids that are asked for. -/
def Qy.pIds (q : Qy) (l : List Pt) : List Int := (l.filter fun p => q.pts && q.hit p).map (·.id)
def Qy.sIds (q : Qy) (l : List Sp) : List Int := (l.filter fun s => !q.pts && q.met s).map (·.id)
theorem Qy.pIds_take (q : Qy) (l : List Pt) (k : Nat) (p : Pt) (h : l[k]? = some p) : q.pIds (l.take (k + 1)) = q.pIds (l.take k) ++ (if q.pts && q.hit p then [p.id] else []) := by
  obtain ⟨h1, h2⟩ := List.getElem?_eq_some_iff.1 h
  unfold Qy.pIds
  rw [List.take_succ_eq_append_getElem h1, h2, List.filter_append, List.map_append]
  congr 1
  cases hc : (q.pts && q.hit p) <;> simp [List.filter, hc]
theorem Qy.sIds_take (q : Qy) (l : List Sp) (k : Nat) (p : Sp) (h : l[k]? = some p) : q.sIds (l.take (k + 1)) = q.sIds (l.take k) ++ (if !q.pts && q.met p then [p.id] else []) := by
  obtain ⟨h1, h2⟩ := List.getElem?_eq_some_iff.1 h
  unfold Qy.sIds
  rw [List.take_succ_eq_append_getElem h1, h2, List.filter_append, List.map_append]
  congr 1
  cases hc : (!q.pts && q.met p) <;> simp [List.filter, hc]
theorem Qy.pIds_len (q : Qy) (l : List Pt) : (q.pIds l).length ≤ l.length := by
  unfold Qy.pIds; rw [List.length_map]; exact List.length_filter_le _ _
theorem Qy.sIds_len (q : Qy) (l : List Sp) : (q.sIds l).length ≤ l.length := by
  unfold Qy.sIds; rw [List.length_map]; exact List.length_filter_le _ _
/-- What is told. -/
def Qy.ids (q : Qy) (l : List Pt) (m : List Sp) : List Int := q.pIds l ++ q.sIds m
def AnsRes (n : Nat) (ids : List Int) (L : List HP) (v : Value) (L' : List HP) : Prop := ∃ A c N, v = .agg #[.int .i64 n, .slice A ids.length c] ∧ ids.length ≤ c ∧ c ≤ maxLen ∧ L' = N ++ L ∧ Rd L' A ids.length ids
theorem AnsRes.nil {L : List HP} {n : Nat} {ids : List Int} (h : ids = []) : AnsRes n ids L (.agg #[.int .i64 n, .slice none 0 0]) L := by
  subst h; exact ⟨none, 0, [], rfl, Nat.le_refl _, Nat.zero_le _, rfl, Rd.nil _ _⟩
def Qy.n (q : Qy) (l : List Pt) (m : List Sp) : Nat := if q.chk ≠ 0 then 0 else (q.ids l m).length
def Qy.out (q : Qy) (l : List Pt) (m : List Sp) : List Int := if q.chk ≠ 0 then [] else if q.cnt then [] else srt (q.ids l m)

theorem Plain_ctr (q : Qy) (A B : Option Addr) (n c m d : Nat) (l : List Pt) (s : List Sp) (L : List HP) (hl : Rd L A n l) (hs : Rd L B m s) (hn : n ≤ 100000) (hm : m ≤ 100000) :
    Ctr Try.prog 20 #[q.v, .slice A n c, .slice B m d] L fun v L' => AnsRes (q.n l s) (q.out l s) L v L' := by
  have h1 : l.length = n := hl.len (by decide)
  have h2 : s.length = m := hs.len (by decide)
  refine Ctr_of (fn := Try.f20) (n := 66) Try.func20 rfl rfl rfl ?_
  intro g F
  (repeat first | refine G_seq ?_ | refine G_skip ?_ | refine G_endblk ?_ | refine G_block ?_ | refine G_exit rfl ?_)
  refine G_region ?_
  refine GO_eff rfl rfl (eff_box rfl) ?_; rintro _ _ ⟨b3, rfl, rfl⟩
  refine GO_eff rfl rfl eff_alloc ?_; rintro _ _ ⟨b6, rfl, rfl⟩
  refine GO_nil ?_
  (repeat first | refine G_seq ?_ | refine G_skip ?_ | refine G_endblk ?_ | refine G_block ?_ | refine G_exit rfl ?_)
  refine G_region ?_
  refine GO_q rfl rfl (ev_assign rfl) ?_
  refine GO_nil ?_
  (repeat first | refine G_seq ?_ | refine G_skip ?_ | refine G_endblk ?_ | refine G_block ?_ | refine G_exit rfl ?_)
  refine G_region ?_
  refine GO_q rfl rfl (ev_loadN rfl (by repeat' first | exact LdN.blk rfl | assumption | apply LdN.skip | apply LdN.app)) ?_
  refine GO_eff rfl rfl (eff_call rfl (pcheck_ctr q _)) ?_; rintro _ _ ⟨rfl, rfl⟩
  refine GO_q rfl rfl (ev_neq rfl rfl) ?_
  refine GO_nil ?_
  (repeat first | refine G_seq ?_ | refine G_skip ?_ | refine G_endblk ?_ | refine G_block ?_ | refine G_exit rfl ?_)
  refine G_cond rfl (fun c1 => ?_) (fun c1 => ?_)
  · have e1 : q.n l s = 0 := by simp [Qy.n, c1]
    have e2 : q.out l s = [] := by simp [Qy.out, c1]
    rw [e1, e2]
    (repeat first | refine G_seq ?_ | refine G_skip ?_ | refine G_endblk ?_ | refine G_block ?_ | refine G_exit rfl ?_)
    refine G_region ?_
    refine GO_q rfl rfl (ev_build rfl rfl) ?_
    refine GO_eff rfl rfl (eff_storeN rfl rfl rfl rfl (by repeat' first | exact Upd.here rfl | apply Upd.skip | apply Upd.app)) ?_; rintro _ _ ⟨rfl, rfl⟩
    refine GO_nil ?_
    (repeat first | refine G_seq ?_ | refine G_skip ?_ | refine G_endblk ?_ | refine G_block ?_ | refine G_exit rfl ?_)
    refine G_ret rfl (.cell rfl (loadN_run (by repeat' first | exact LdN.blk rfl | assumption | apply LdN.skip | apply LdN.app)) .nil) (by (repeat first | exact fun _ s => s | apply en_keep | apply en_drop | apply en_app) <;> fail) (AnsRes.nil rfl)
  · have e1 : q.n l s = (q.ids l s).length := by unfold Qy.n; rw [if_neg c1]
    have e2 : q.out l s = if q.cnt then [] else srt (q.ids l s) := by unfold Qy.out; rw [if_neg c1]
    rw [e1, e2]
    (repeat first | refine G_seq ?_ | refine G_skip ?_ | refine G_endblk ?_ | refine G_block ?_ | refine G_exit rfl ?_)
    refine G_region ?_
    refine GO_q rfl rfl (ev_move rfl) ?_
    refine GO_q rfl rfl (ev_len rfl) ?_
    refine GO_q rfl rfl (ev_move rfl) ?_
    refine GO_nil ?_
    (repeat first | refine G_seq ?_ | refine G_skip ?_ | refine G_endblk ?_)
    refine G_heap (own.nil_ 3 1) ?_
    refine G_cut (ι := Option Addr × Nat × List Int) (fun x => [(2, .slice B m d), (3, .pointer (some ⟨b3, 0, none⟩)), (6, .pointer (some ⟨b6, 0, none⟩)), (7, .slice x.1 x.2.2.length x.2.1)]) (fun x => own 3 1 x.1 x.2.2.length x.2.1 (flat x.2.2) :: blk b6 43 [.int .i64 0, .slice none 0 0] :: blk b3 37 (cellsL q.v) :: F :: L)
      (fun x => x.2.2 = q.pIds l ∧ x.2.2.length ≤ x.2.1 ∧ x.2.1 ≤ maxLen ∧ (0 < x.2.2.length → ∃ b, x.1 = some ⟨b, 0, none⟩)) ?_ ?_
    · (repeat first | refine G_seq ?_ | refine G_skip ?_ | refine G_endblk ?_ | refine G_block ?_ | refine G_exit rfl ?_)
      refine G_loop (ι := Nat × Option Addr × Nat × List Int) (fun x => [(2, .slice B m d), (3, .pointer (some ⟨b3, 0, none⟩)), (6, .pointer (some ⟨b6, 0, none⟩)), (7, .slice x.2.1 x.2.2.2.length x.2.2.1), (16, .slice A n c), (17, .int .i64 (n : Nat)), (18, .int .i64 (x.1 : Nat))]) (fun x => own 3 1 x.2.1 x.2.2.2.length x.2.2.1 (flat x.2.2.2) :: blk b6 43 [.int .i64 0, .slice none 0 0] :: blk b3 37 (cellsL q.v) :: F :: L)
        (fun x => x.1 ≤ n ∧ x.2.2.2 = q.pIds (l.take x.1) ∧ x.2.2.2.length ≤ x.2.2.1 ∧ x.2.2.1 ≤ maxLen ∧ (0 < x.2.2.2.length → ∃ b, x.2.1 = some ⟨b, 0, none⟩)) (fun x => n - x.1) (0, none, 0, []) ⟨Nat.zero_le _, by simp [Qy.pIds], Nat.le_refl _, Nat.zero_le _, fun h => absurd h (Nat.lt_irrefl 0)⟩ ⟨rfl, rfl, rfl, rfl, rfl, rfl, rfl, trivial⟩ (fun _ s => s) ?_
      rintro ⟨k, A1, d1, zs⟩ ⟨f1, f2, f3, f4, f5⟩
      simp only at f1 f2 f3 f4 f5
      dsimp only
      have f6 : zs.length ≤ k := by
        rw [f2]; exact Nat.le_trans (q.pIds_len _) (List.length_take_le _ _)
      (repeat first | refine G_seq ?_ | refine G_skip ?_ | refine G_endblk ?_ | refine G_block ?_ | refine G_exit rfl ?_)
      refine G_region ?_
      (first | refine GO_q rfl rfl (ev_lssN rfl rfl) ?_ | refine GO_q rfl rfl (ev_lss rfl rfl) ?_)
      refine GO_nil ?_
      (repeat first | refine G_seq ?_ | refine G_skip ?_ | refine G_endblk ?_ | refine G_block ?_ | refine G_exit rfl ?_)
      refine G_cond rfl (fun c2 => ?_) (fun c2 => ?_)
      · obtain ⟨lb, lo, rfl, hx⟩ := hl.at_ (by omega)
        have hg : l[k]? = some l[k] := List.getElem?_eq_getElem (by omega)
        have ht := q.pIds_take l k _ hg
        have y1 := hx _ _ hg
        generalize l[k] = p at *
        have z1 : LdN L lb (lo + k * 3) 3 [.int .i64 p.id, .int .i64 p.x, .int .i64 p.y] := y1
        (repeat first | refine G_seq ?_ | refine G_skip ?_ | refine G_endblk ?_ | refine G_block ?_ | refine G_exit rfl ?_)
        refine G_region ?_
        (first | refine GO_q rfl rfl (ev_indexAddrN rfl rfl (by first | omega | (simp; done) | (simp; omega))) ?_ | refine GO_q rfl rfl (ev_indexAddr rfl rfl (by first | omega | (simp; done) | (simp; omega)) (by first | omega | (simp; done) | (simp; omega))) ?_)
        refine GO_q rfl rfl (ev_loadN rfl (by repeat' first | exact LdN.blk rfl | assumption | apply LdN.skip | apply LdN.app)) ?_
        refine GO_eff rfl rfl eff_alloc ?_; rintro _ _ ⟨b9, rfl, rfl⟩
        refine GO_eff rfl rfl (eff_storeN rfl rfl rfl rfl (by repeat' first | exact Upd.here rfl | apply Upd.skip | apply Upd.app)) ?_; rintro _ _ ⟨rfl, rfl⟩
        refine GO_nil ?_
        have bad : ¬ (k + 1 ≤ n ∧ False) := by simp
        (repeat first | refine G_seq ?_ | refine G_skip ?_ | refine G_endblk ?_ | refine G_block ?_ | refine G_exit rfl ?_)
        refine G_region ?_
        refine GO_q rfl rfl (ev_loadN rfl (by repeat' first | exact LdN.blk rfl | assumption | apply LdN.skip | apply LdN.app)) ?_
        refine GO_eff rfl rfl (eff_call rfl (points_ctr q _)) ?_; rintro _ _ ⟨rfl, rfl⟩
        refine GO_q rfl rfl (ev_move rfl) ?_
        refine GO_guard rfl rfl rfl (fun hc262 => ?y262) (fun hc262 => ?n262)
        case' n262 =>
          have hd262 := hc262
          try simp only [decide_eq_true_eq, decide_eq_false_iff_not, Bool.not_true, Bool.not_false, Bool.not_eq_true', Bool.not_eq_false'] at hd262
          refine GO_no rfl rfl rfl hc262 ?_
          refine GO_no rfl rfl rfl hc262 ?_
          refine GO_q rfl rfl (ev_pick_f rfl hc262 rfl) ?_
          refine GO_nil ?_
          (repeat first | refine G_seq ?_ | refine G_skip ?_ | refine G_endblk ?_ | refine G_block ?_ | refine G_exit rfl ?_)
          refine G_cond_f rfl rfl ?_
          (repeat first | refine G_seq ?_ | refine G_skip ?_ | refine G_endblk ?_ | refine G_block ?_ | refine G_exit rfl ?_)
        case' y262 =>
          have hd262 := hc262
          try simp only [decide_eq_true_eq, decide_eq_false_iff_not, Bool.not_true, Bool.not_false, Bool.not_eq_true', Bool.not_eq_false'] at hd262
          refine GO_q rfl rfl (ev_loadN rfl (by repeat' first | exact LdN.blk rfl | assumption | apply LdN.skip | apply LdN.app)) ?_
          refine GO_yes rfl rfl rfl hc262 ?_
          refine GO_q rfl rfl (ev_loadN rfl (by repeat' first | exact LdN.blk rfl | assumption | apply LdN.skip | apply LdN.app)) ?_
          refine GO_yes rfl rfl rfl hc262 ?_
          refine GO_eff rfl rfl (eff_call rfl (hit_ctr q p _)) ?_; rintro _ _ ⟨rfl, rfl⟩
          refine GO_q rfl rfl (ev_pick_t rfl hc262 rfl) ?_
          refine GO_nil ?_
          (repeat first | refine G_seq ?_ | refine G_skip ?_ | refine G_endblk ?_ | refine G_block ?_ | refine G_exit rfl ?_)
          refine G_condB rfl (fun hc266 => ?y266) (fun hc266 => ?n266)
          case' n266 =>
            have hd266 := hc266
            try simp only [decide_eq_true_eq, decide_eq_false_iff_not, Bool.not_true, Bool.not_false, Bool.not_eq_true', Bool.not_eq_false'] at hd266
            (repeat first | refine G_seq ?_ | refine G_skip ?_ | refine G_endblk ?_ | refine G_block ?_ | refine G_exit rfl ?_)
          case' y266 =>
            have hd266 := hc266
            try simp only [decide_eq_true_eq, decide_eq_false_iff_not, Bool.not_true, Bool.not_false, Bool.not_eq_true', Bool.not_eq_false'] at hd266
            (repeat first | refine G_seq ?_ | refine G_skip ?_ | refine G_endblk ?_ | refine G_block ?_ | refine G_exit rfl ?_)
            refine G_region ?_
            refine GO_q rfl rfl (ev_move rfl) ?_
            refine GO_q rfl rfl (ev_fieldAddr rfl) ?_
            refine GO_q rfl rfl (ev_load rfl (by repeat' first | exact Ld.blk rfl | assumption | apply Ld.skip | apply Ld.app)) ?_
            refine GO_eff rfl rfl (eff_buildSlice1 (by rfl) rfl rfl) ?_; rintro _ _ ⟨b32, rfl, rfl⟩
            refine GO_eff rfl rfl (eff_append rfl rfl (by repeat' first | exact Pick.here | apply Pick.skip) (by repeat' first | exact Rc.blk rfl | assumption | apply Rc.skip) (one_all rfl) (by rfl) (by decide) (by omega) (by omega)) ?_; rintro _ _ ⟨A33, c33, rfl, hc33, hm33, hn33, rfl⟩
            refine GO_q rfl rfl (ev_assign rfl) ?_
            refine GO_nil ?_
            (repeat first | refine G_seq ?_ | refine G_skip ?_ | refine G_endblk ?_ | refine G_block ?_ | refine G_exit rfl ?_)
        · have e9 : q.pIds (l.take (k + 1)) = zs ++ [p.id] := by rw [ht, f2]; simp [*]
          (repeat first | refine G_seq ?_ | refine G_skip ?_ | refine G_endblk ?_ | refine G_block ?_ | refine G_exit rfl ?_)
          refine G_region ?_
          (first | refine GO_q rfl rfl (ev_addN (q := 1) rfl rfl (by first | omega | (simp; done) | (simp; omega))) ?_ | refine GO_q rfl rfl (ev_add rfl rfl (by first | omega | (simp; done) | (simp; omega))) ?_)
          refine GO_q rfl rfl (ev_move rfl) ?_
          refine GO_nil ?_
          (repeat first | refine G_seq ?_ | refine G_skip ?_ | refine G_endblk ?_ | refine G_block ?_ | refine G_exit rfl ?_)
          exact G_round (k + 1, A33, c33, zs ++ [p.id]) ⟨by simp only; omega, e9.symm, by simp; omega, hm33, fun _ => hn33 (by omega)⟩ (by simp only; omega) ⟨rfl, rfl, rfl, by simp only [List.length_append, List.length_singleton]; rfl, rfl, rfl, rfl, trivial⟩ (by
            simp only [List.length_append, List.length_singleton]
            rw [← flat_snoc]
            exact (by (repeat first | exact fun _ s => s | apply en_keep | apply en_drop | apply en_app) <;> fail))
        all_goals
          have e9 : q.pIds (l.take (k + 1)) = zs := by rw [ht, f2]; simp [*]
          (repeat first | refine G_seq ?_ | refine G_skip ?_ | refine G_endblk ?_ | refine G_block ?_ | refine G_exit rfl ?_)
          refine G_region ?_
          (first | refine GO_q rfl rfl (ev_addN (q := 1) rfl rfl (by first | omega | (simp; done) | (simp; omega))) ?_ | refine GO_q rfl rfl (ev_add rfl rfl (by first | omega | (simp; done) | (simp; omega))) ?_)
          refine GO_q rfl rfl (ev_move rfl) ?_
          refine GO_nil ?_
          (repeat first | refine G_seq ?_ | refine G_skip ?_ | refine G_endblk ?_ | refine G_block ?_ | refine G_exit rfl ?_)
          exact G_round (k + 1, A1, d1, zs) ⟨by simp only; omega, e9.symm, f3, f4, f5⟩ (by simp only; omega) ⟨rfl, rfl, rfl, rfl, rfl, rfl, rfl, trivial⟩ (by (repeat first | exact fun _ s => s | apply en_keep | apply en_drop | apply en_app) <;> fail)
      · have e : k = n := by omega
        subst e
        rw [← h1, List.take_length] at f2
        (repeat first | refine G_seq ?_ | refine G_skip ?_ | refine G_endblk ?_ | refine G_block ?_ | refine G_exit rfl ?_)
        exact G_inv (A1, d1, zs) ⟨f2, f3, f4, f5⟩ ⟨rfl, rfl, rfl, rfl, trivial⟩ (fun _ s => s)
    · rintro ⟨A1, d1, zs⟩ ⟨f1, f2, f3, f4⟩
      simp only at f1 f2 f3 f4
      dsimp only
      have f5 : zs.length ≤ n := by rw [f1, ← h1]; exact q.pIds_len _
      (repeat first | refine G_seq ?_ | refine G_skip ?_ | refine G_endblk ?_ | refine G_block ?_ | refine G_exit rfl ?_)
      refine G_region ?_
      refine GO_q rfl rfl (ev_move rfl) ?_
      refine GO_q rfl rfl (ev_len rfl) ?_
      refine GO_q rfl rfl (ev_move rfl) ?_
      refine GO_nil ?_
      (repeat first | refine G_seq ?_ | refine G_skip ?_ | refine G_endblk ?_)
      refine G_cut (ι := Option Addr × Nat × List Int) (fun x => [(3, .pointer (some ⟨b3, 0, none⟩)), (6, .pointer (some ⟨b6, 0, none⟩)), (7, .slice x.1 x.2.2.length x.2.1)]) (fun x => own 3 1 x.1 x.2.2.length x.2.1 (flat x.2.2) :: blk b6 43 [.int .i64 0, .slice none 0 0] :: blk b3 37 (cellsL q.v) :: F :: L)
        (fun x => x.2.2 = q.ids l s ∧ x.2.2.length ≤ x.2.1 ∧ x.2.1 ≤ maxLen ∧ (0 < x.2.2.length → ∃ b, x.1 = some ⟨b, 0, none⟩)) ?_ ?_
      · (repeat first | refine G_seq ?_ | refine G_skip ?_ | refine G_endblk ?_ | refine G_block ?_ | refine G_exit rfl ?_)
        refine G_loop (ι := Nat × Option Addr × Nat × List Int) (fun x => [(3, .pointer (some ⟨b3, 0, none⟩)), (6, .pointer (some ⟨b6, 0, none⟩)), (7, .slice x.2.1 x.2.2.2.length x.2.2.1), (35, .slice B m d), (36, .int .i64 (m : Nat)), (37, .int .i64 (x.1 : Nat))]) (fun x => own 3 1 x.2.1 x.2.2.2.length x.2.2.1 (flat x.2.2.2) :: blk b6 43 [.int .i64 0, .slice none 0 0] :: blk b3 37 (cellsL q.v) :: F :: L)
          (fun x => x.1 ≤ m ∧ x.2.2.2 = q.pIds l ++ q.sIds (s.take x.1) ∧ x.2.2.2.length ≤ x.2.2.1 ∧ x.2.2.1 ≤ maxLen ∧ (0 < x.2.2.2.length → ∃ b, x.2.1 = some ⟨b, 0, none⟩)) (fun x => m - x.1) (0, A1, d1, zs) ⟨Nat.zero_le _, by simp [Qy.sIds, f1], f2, f3, f4⟩ ⟨rfl, rfl, rfl, rfl, rfl, rfl, trivial⟩ (fun _ s => s) ?_
        rintro ⟨k, A2, d2, ys⟩ ⟨g1, g2, g3, g4, g5⟩
        simp only at g1 g2 g3 g4 g5
        dsimp only
        have g6 : ys.length ≤ n + k := by
          rw [g2, List.length_append]
          have a1 := q.pIds_len l
          have a2 := Nat.le_trans (q.sIds_len (s.take k)) (List.length_take_le _ _)
          omega
        (repeat first | refine G_seq ?_ | refine G_skip ?_ | refine G_endblk ?_ | refine G_block ?_ | refine G_exit rfl ?_)
        refine G_region ?_
        (first | refine GO_q rfl rfl (ev_lssN rfl rfl) ?_ | refine GO_q rfl rfl (ev_lss rfl rfl) ?_)
        refine GO_nil ?_
        (repeat first | refine G_seq ?_ | refine G_skip ?_ | refine G_endblk ?_ | refine G_block ?_ | refine G_exit rfl ?_)
        refine G_cond rfl (fun c2 => ?_) (fun c2 => ?_)
        · obtain ⟨lb, lo, rfl, hx⟩ := hs.at_ (by omega)
          have hg : s[k]? = some s[k] := List.getElem?_eq_getElem (by omega)
          have ht := q.sIds_take s k _ hg
          have y1 := hx _ _ hg
          generalize s[k] = p at *
          have z1 : LdN L lb (lo + k * 3) 3 [.int .i64 p.id, .int .i64 p.lo, .int .i64 p.hi] := y1
          (repeat first | refine G_seq ?_ | refine G_skip ?_ | refine G_endblk ?_ | refine G_block ?_ | refine G_exit rfl ?_)
          refine G_region ?_
          (first | refine GO_q rfl rfl (ev_indexAddrN rfl rfl (by first | omega | (simp; done) | (simp; omega))) ?_ | refine GO_q rfl rfl (ev_indexAddr rfl rfl (by first | omega | (simp; done) | (simp; omega)) (by first | omega | (simp; done) | (simp; omega))) ?_)
          refine GO_q rfl rfl (ev_loadN rfl (by repeat' first | exact LdN.blk rfl | assumption | apply LdN.skip | apply LdN.app)) ?_
          refine GO_eff rfl rfl eff_alloc ?_; rintro _ _ ⟨b11, rfl, rfl⟩
          refine GO_eff rfl rfl (eff_storeN rfl rfl rfl rfl (by repeat' first | exact Upd.here rfl | apply Upd.skip | apply Upd.app)) ?_; rintro _ _ ⟨rfl, rfl⟩
          refine GO_nil ?_
          (repeat first | refine G_seq ?_ | refine G_skip ?_ | refine G_endblk ?_ | refine G_block ?_ | refine G_exit rfl ?_)
          refine G_region ?_
          refine GO_q rfl rfl (ev_loadN rfl (by repeat' first | exact LdN.blk rfl | assumption | apply LdN.skip | apply LdN.app)) ?_
          refine GO_eff rfl rfl (eff_call rfl (points_ctr q _)) ?_; rintro _ _ ⟨rfl, rfl⟩
          refine GO_q rfl rfl (ev_not rfl) ?_
          refine GO_q rfl rfl (ev_move rfl) ?_
          refine GO_guard rfl rfl rfl (fun hc279 => ?y279) (fun hc279 => ?n279)
          case' n279 =>
            have hd279 := hc279
            try simp only [decide_eq_true_eq, decide_eq_false_iff_not, Bool.not_true, Bool.not_false, Bool.not_eq_true', Bool.not_eq_false'] at hd279
            refine GO_no rfl rfl rfl hc279 ?_
            refine GO_no rfl rfl rfl hc279 ?_
            refine GO_q rfl rfl (ev_pick_f rfl hc279 rfl) ?_
            refine GO_nil ?_
            (repeat first | refine G_seq ?_ | refine G_skip ?_ | refine G_endblk ?_ | refine G_block ?_ | refine G_exit rfl ?_)
            refine G_cond_f rfl rfl ?_
            (repeat first | refine G_seq ?_ | refine G_skip ?_ | refine G_endblk ?_ | refine G_block ?_ | refine G_exit rfl ?_)
          case' y279 =>
            have hd279 := hc279
            try simp only [decide_eq_true_eq, decide_eq_false_iff_not, Bool.not_true, Bool.not_false, Bool.not_eq_true', Bool.not_eq_false'] at hd279
            refine GO_q rfl rfl (ev_loadN rfl (by repeat' first | exact LdN.blk rfl | assumption | apply LdN.skip | apply LdN.app)) ?_
            refine GO_yes rfl rfl rfl hc279 ?_
            refine GO_q rfl rfl (ev_loadN rfl (by repeat' first | exact LdN.blk rfl | assumption | apply LdN.skip | apply LdN.app)) ?_
            refine GO_yes rfl rfl rfl hc279 ?_
            refine GO_eff rfl rfl (eff_call rfl (met_ctr q p _)) ?_; rintro _ _ ⟨rfl, rfl⟩
            refine GO_q rfl rfl (ev_pick_t rfl hc279 rfl) ?_
            refine GO_nil ?_
            (repeat first | refine G_seq ?_ | refine G_skip ?_ | refine G_endblk ?_ | refine G_block ?_ | refine G_exit rfl ?_)
            refine G_condB rfl (fun hc283 => ?y283) (fun hc283 => ?n283)
            case' n283 =>
              have hd283 := hc283
              try simp only [decide_eq_true_eq, decide_eq_false_iff_not, Bool.not_true, Bool.not_false, Bool.not_eq_true', Bool.not_eq_false'] at hd283
              (repeat first | refine G_seq ?_ | refine G_skip ?_ | refine G_endblk ?_ | refine G_block ?_ | refine G_exit rfl ?_)
            case' y283 =>
              have hd283 := hc283
              try simp only [decide_eq_true_eq, decide_eq_false_iff_not, Bool.not_true, Bool.not_false, Bool.not_eq_true', Bool.not_eq_false'] at hd283
              (repeat first | refine G_seq ?_ | refine G_skip ?_ | refine G_endblk ?_ | refine G_block ?_ | refine G_exit rfl ?_)
              refine G_region ?_
              refine GO_q rfl rfl (ev_move rfl) ?_
              refine GO_q rfl rfl (ev_fieldAddr rfl) ?_
              refine GO_q rfl rfl (ev_load rfl (by repeat' first | exact Ld.blk rfl | assumption | apply Ld.skip | apply Ld.app)) ?_
              refine GO_eff rfl rfl (eff_buildSlice1 (by rfl) rfl rfl) ?_; rintro _ _ ⟨b52, rfl, rfl⟩
              refine GO_eff rfl rfl (eff_append rfl rfl (by repeat' first | exact Pick.here | apply Pick.skip) (by repeat' first | exact Rc.blk rfl | assumption | apply Rc.skip) (one_all rfl) (by rfl) (by decide) (by omega) (by omega)) ?_; rintro _ _ ⟨A53, c53, rfl, hc53, hm53, hn53, rfl⟩
              refine GO_q rfl rfl (ev_assign rfl) ?_
              refine GO_nil ?_
              (repeat first | refine G_seq ?_ | refine G_skip ?_ | refine G_endblk ?_ | refine G_block ?_ | refine G_exit rfl ?_)
          · have e9 : q.pIds l ++ q.sIds (s.take (k + 1)) = ys ++ [p.id] := by rw [ht, g2, List.append_assoc]; simp [*]
            (repeat first | refine G_seq ?_ | refine G_skip ?_ | refine G_endblk ?_ | refine G_block ?_ | refine G_exit rfl ?_)
            refine G_region ?_
            (first | refine GO_q rfl rfl (ev_addN (q := 1) rfl rfl (by first | omega | (simp; done) | (simp; omega))) ?_ | refine GO_q rfl rfl (ev_add rfl rfl (by first | omega | (simp; done) | (simp; omega))) ?_)
            refine GO_q rfl rfl (ev_move rfl) ?_
            refine GO_nil ?_
            (repeat first | refine G_seq ?_ | refine G_skip ?_ | refine G_endblk ?_ | refine G_block ?_ | refine G_exit rfl ?_)
            exact G_round (k + 1, A53, c53, ys ++ [p.id]) ⟨by simp only; omega, e9.symm, by simp; omega, hm53, fun _ => hn53 (by omega)⟩ (by simp only; omega) ⟨rfl, rfl, by simp only [List.length_append, List.length_singleton]; rfl, rfl, rfl, rfl, trivial⟩ (by
              simp only [List.length_append, List.length_singleton]
              rw [← flat_snoc]
              exact (by (repeat first | exact fun _ s => s | apply en_keep | apply en_drop | apply en_app) <;> fail))
          all_goals
            have e9 : q.pIds l ++ q.sIds (s.take (k + 1)) = ys := by rw [ht, g2]; simp [*]
            (repeat first | refine G_seq ?_ | refine G_skip ?_ | refine G_endblk ?_ | refine G_block ?_ | refine G_exit rfl ?_)
            refine G_region ?_
            (first | refine GO_q rfl rfl (ev_addN (q := 1) rfl rfl (by first | omega | (simp; done) | (simp; omega))) ?_ | refine GO_q rfl rfl (ev_add rfl rfl (by first | omega | (simp; done) | (simp; omega))) ?_)
            refine GO_q rfl rfl (ev_move rfl) ?_
            refine GO_nil ?_
            (repeat first | refine G_seq ?_ | refine G_skip ?_ | refine G_endblk ?_ | refine G_block ?_ | refine G_exit rfl ?_)
            exact G_round (k + 1, A2, d2, ys) ⟨by simp only; omega, e9.symm, g3, g4, g5⟩ (by simp only; omega) ⟨rfl, rfl, rfl, rfl, rfl, rfl, trivial⟩ (by (repeat first | exact fun _ s => s | apply en_keep | apply en_drop | apply en_app) <;> fail)
        · have e : k = m := by omega
          subst e
          rw [← h2, List.take_length] at g2
          (repeat first | refine G_seq ?_ | refine G_skip ?_ | refine G_endblk ?_ | refine G_block ?_ | refine G_exit rfl ?_)
          exact G_inv (A2, d2, ys) ⟨g2, g3, g4, g5⟩ ⟨rfl, rfl, rfl, trivial⟩ (fun _ s => s)
      · rintro ⟨A2, d2, ys⟩ ⟨g1, g2, g3, g4⟩
        simp only at g1 g2 g3 g4
        dsimp only
        have g5 : ys.length ≤ n + m := by
          rw [g1, Qy.ids, List.length_append]
          have a1 := q.pIds_len l
          have a2 := q.sIds_len s
          omega
        rw [← g1]
        (repeat first | refine G_seq ?_ | refine G_skip ?_ | refine G_endblk ?_ | refine G_block ?_ | refine G_exit rfl ?_)
        refine G_region ?_
        refine GO_q rfl rfl (ev_loadN rfl (by repeat' first | exact LdN.blk rfl | assumption | apply LdN.skip | apply LdN.app)) ?_
        refine GO_eff rfl rfl (eff_call rfl (counts_ctr q _)) ?_; rintro _ _ ⟨rfl, rfl⟩
        refine GO_nil ?_
        (repeat first | refine G_seq ?_ | refine G_skip ?_ | refine G_endblk ?_ | refine G_block ?_ | refine G_exit rfl ?_)
        refine G_condB rfl (fun c3 => ?_) (fun c3 => ?_)
        · rw [c3]
          (repeat first | refine G_seq ?_ | refine G_skip ?_ | refine G_endblk ?_ | refine G_block ?_ | refine G_exit rfl ?_)
          refine G_region ?_
          refine GO_q rfl rfl (ev_move rfl) ?_
          refine GO_q rfl rfl (ev_len rfl) ?_
          refine GO_q rfl rfl (ev_build rfl rfl) ?_
          refine GO_eff rfl rfl (eff_storeN rfl rfl rfl rfl (by repeat' first | exact Upd.here rfl | apply Upd.skip | apply Upd.app)) ?_; rintro _ _ ⟨rfl, rfl⟩
          refine GO_nil ?_
          (repeat first | refine G_seq ?_ | refine G_skip ?_ | refine G_endblk ?_ | refine G_block ?_ | refine G_exit rfl ?_)
          refine G_ret rfl (.cell rfl (loadN_run (by repeat' first | exact LdN.blk rfl | assumption | apply LdN.skip | apply LdN.app)) .nil) (by (repeat first | exact fun _ s => s | apply en_keep | apply en_drop | apply en_app) <;> fail) (AnsRes.nil rfl)
        · rw [c3]
          have hsl : (srt ys).length = ys.length := by rw [srt, List.length_mergeSort]
          (repeat first | refine G_seq ?_ | refine G_skip ?_ | refine G_endblk ?_ | refine G_block ?_ | refine G_exit rfl ?_)
          refine G_region ?_
          refine GO_q rfl rfl (ev_move rfl) ?_
          refine GO_eff rfl rfl (eff_call rfl (Ctr.frame [blk b6 43 [.int .i64 0, .slice none 0 0], blk b3 37 (cellsL q.v), F] (sort_ctr A2 ys.length d2 ys L g4 rfl (by omega)) (en_pick (.skip .here) (en_pick (.skip .here) (en_pick (.skip .here) en_refl))))) ?_; rintro _ _ ⟨_, ⟨rfl, rfl⟩, rfl⟩
          refine GO_nil ?_
          (repeat first | refine G_seq ?_ | refine G_skip ?_ | refine G_endblk ?_ | refine G_block ?_ | refine G_exit rfl ?_)
          refine G_region ?_
          refine GO_q rfl rfl (ev_move rfl) ?_
          refine GO_q rfl rfl (ev_len rfl) ?_
          refine GO_q rfl rfl (ev_move rfl) ?_
          refine GO_q rfl rfl (ev_build rfl rfl) ?_
          refine GO_eff rfl rfl (eff_storeN rfl rfl rfl rfl (by repeat' first | exact Upd.here rfl | apply Upd.skip | apply Upd.app)) ?_; rintro _ _ ⟨rfl, rfl⟩
          refine GO_nil ?_
          (repeat first | refine G_seq ?_ | refine G_skip ?_ | refine G_endblk ?_ | refine G_block ?_ | refine G_exit rfl ?_)
          refine G_ret (L' := [own 3 1 A2 ys.length d2 (flat (srt ys))] ++ L) rfl (.cell rfl (loadN_run (by repeat' first | exact LdN.blk rfl | assumption | apply LdN.skip | apply LdN.app)) .nil) ?_ ⟨A2, d2, [own 3 1 A2 ys.length d2 (flat (srt ys))], by rw [← hsl]; rfl, by rw [if_neg (by simp), hsl]; exact g2, g3, rfl, ?_⟩
          · exact en_drop (en_drop (en_keep (en_keep en_refl)))
          · rw [if_neg (by simp), hsl]
            exact Rc.own (by rw [flat_length, hsl]; rfl) g4
end Go.Proofs.Ytcdafmmfcjbodaa
