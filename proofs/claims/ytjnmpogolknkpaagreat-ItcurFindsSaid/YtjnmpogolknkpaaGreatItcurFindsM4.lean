/- Texts of the law ItcurFinds, one behind the other. -/
import Derived.Test.YtjnmpogolknkpaaGreatItcurFindsM2
import Derived.Test.YtjnmpogolknkpaaGreatItcurFindsM3
import Derived.Test.YtjnmpogolknkpaaGreatItcurFindsM1
import Derived.RangeFuncRecord
import Derived.RangeFuncIn
import Derived.RangeFuncLeaves
import Derived.Test.YtjnmpogolknkpaaGreatProg
import Derived.WalkKit
import Derived.Lib.Hide
/- Trees that are heaps by Y: what lies in memory, and the small functions. -/
namespace Go.Proofs.YtjnmpogolknkpaaGreat
attribute [local irreducible] sat
set_option linter.unusedVariables false
set_option linter.unusedSimpArgs false
set_option maxRecDepth 100000

def goodId (n : Int) : Bool := decide (1 ≤ n) && decide (n ≤ 2147483647)
def goodP (p : Pt) : Bool := goodId p.id && (good p.x && good p.y)
theorem kid_id_ctr (n : Int) (L : List HP) : Ctr Tryz.prog 65 #[.int .i64 n] L fun v L' => v = .bool (goodId n) ∧ L' = L := by
  refine Ctr_of (fn := Tryz.f65) (n := 9) Tryz.func65 rfl rfl rfl ?_
  intro g F
  (repeat first | refine G_seq ?_ | refine G_skip ?_ | refine G_endblk ?_ | refine G_block ?_ | refine G_exit rfl ?_)
  refine G_region ?_
  refine GO_q rfl rfl (ev_assign rfl) ?_
  refine GO_nil ?_
  (repeat first | refine G_seq ?_ | refine G_skip ?_ | refine G_endblk ?_ | refine G_block ?_ | refine G_exit rfl ?_)
  refine G_region ?_
  refine GO_q rfl rfl (ev_move rfl) ?_
  refine GO_q rfl rfl (ev_geq rfl rfl) ?_
  refine GO_q rfl rfl (ev_move rfl) ?_
  refine GO_guard rfl rfl rfl (fun hc15 => ?y15) (fun hc15 => ?n15)
  case' n15 =>
    have hd15 := hc15
    try simp only [decide_eq_true_eq, decide_eq_false_iff_not, Bool.not_true, Bool.not_false, Bool.not_eq_true', Bool.not_eq_false'] at hd15
    refine GO_no rfl rfl rfl hc15 ?_
    refine GO_q rfl rfl (ev_pick_f rfl hc15 rfl) ?_
    refine GO_q rfl rfl (ev_assign rfl) ?_
    refine GO_nil ?_
    (repeat first | refine G_seq ?_ | refine G_skip ?_ | refine G_endblk ?_ | refine G_block ?_ | refine G_exit rfl ?_)
    refine G_ret rfl (.tmp rfl .nil) (by (repeat first | exact fun _ s => s | apply en_keep | apply en_drop | apply en_app) <;> fail) ⟨by simp_all [retv, goodId] <;> (intros; omega), rfl⟩
  case' y15 =>
    have hd15 := hc15
    try simp only [decide_eq_true_eq, decide_eq_false_iff_not, Bool.not_true, Bool.not_false, Bool.not_eq_true', Bool.not_eq_false'] at hd15
    refine GO_q rfl rfl (ev_move rfl) ?_
    refine GO_yes rfl rfl rfl hc15 ?_
    refine GO_q rfl rfl (ev_leq rfl rfl) ?_
    refine GO_q rfl rfl (ev_pick_t rfl hc15 rfl) ?_
    refine GO_q rfl rfl (ev_assign rfl) ?_
    refine GO_nil ?_
    (repeat first | refine G_seq ?_ | refine G_skip ?_ | refine G_endblk ?_ | refine G_block ?_ | refine G_exit rfl ?_)
    refine G_ret rfl (.tmp rfl .nil) (by (repeat first | exact fun _ s => s | apply en_keep | apply en_drop | apply en_app) <;> fail) ⟨by simp_all [retv, goodId] <;> (intros; omega), rfl⟩
/-- Whether a point comes ahead of another one by Y. -/
def und (p q : Pt) : Bool := decide (up p q < 0)
/-- A tree. -/
inductive PT where
  | nil
  | node (p s : Pt) (lo hi : PT)
def PT.size : PT → Nat
  | .nil => 0
  | .node _ _ lo hi => lo.size + 1 + hi.size
/-- A node's cells. -/
@[reducible] def nodeC (p s : Pt) (l h : Option Addr) (n : Nat) : List Value := [.int .i64 p.id, .int .i64 p.x, .int .i64 p.y, .int .i64 s.id, .int .i64 s.x, .int .i64 s.y, .pointer l, .pointer h, .int .i64 (n : Nat)]
end Go.Proofs.YtjnmpogolknkpaaGreat
/- The references' set of intervals (alidaderef20), and what is told of a fair interval. -/
namespace Go.Proofs.YtjnmpogolknkpaaGreat
attribute [local irreducible] sat
set_option linter.unusedVariables false
set_option linter.unusedSimpArgs false
set_option maxRecDepth 100000

def AdOk (A : Option Addr) (c : Nat) (m : List Pt) : Prop := (0 < m.length → ∃ b, A = some ⟨b, 0, none⟩) ∧ m.length ≤ c
def idsOf (l : List Pt) : List Int := l.map (·.id)
def fairP (s : Pt) : Bool := goodId s.id && good s.x && good s.y && decide (s.x ≤ s.y)
theorem KFair_ctr (s : Pt) (L : List HP) : Ctr Tryz.prog 45 #[s.v] L fun v L' => v = .bool (fairP s) ∧ L' = L := by
  refine Ctr_of (fn := Tryz.f45) (n := 23) Tryz.func45 rfl rfl rfl ?_
  intro g F
  (repeat first | refine G_seq ?_ | refine G_skip ?_ | refine G_endblk ?_ | refine G_block ?_ | refine G_exit rfl ?_)
  refine G_region ?_
  refine GO_eff rfl rfl (eff_box rfl) ?_; rintro _ _ ⟨b1, rfl, rfl⟩
  refine GO_q rfl rfl (ev_assign rfl) ?_
  refine GO_nil ?_
  (repeat first | refine G_seq ?_ | refine G_skip ?_ | refine G_endblk ?_ | refine G_block ?_ | refine G_exit rfl ?_)
  refine G_region ?_
  refine GO_q rfl rfl (ev_fieldAddr rfl) ?_
  refine GO_q rfl rfl (ev_load rfl (by repeat' first | exact Ld.blk rfl | assumption | apply Ld.skip | apply Ld.app)) ?_
  refine GO_eff rfl rfl (eff_call rfl (kid_id_ctr _ _)) ?_; rintro _ _ ⟨rfl, rfl⟩
  refine GO_q rfl rfl (ev_move rfl) ?_
  refine GO_guard rfl rfl rfl (fun hc25 => ?y25) (fun hc25 => ?n25)
  case' n25 =>
    have hd25 := hc25
    try simp only [decide_eq_true_eq, decide_eq_false_iff_not, Bool.not_true, Bool.not_false, Bool.not_eq_true', Bool.not_eq_false'] at hd25
    refine GO_no rfl rfl rfl hc25 ?_
    refine GO_no rfl rfl rfl hc25 ?_
    refine GO_q rfl rfl (ev_pick_f rfl hc25 rfl) ?_
    refine GO_q rfl rfl (ev_move rfl) ?_
    refine GO_no rfl rfl rfl rfl ?_
    refine GO_no rfl rfl rfl rfl ?_
    refine GO_no rfl rfl rfl rfl ?_
    refine GO_q rfl rfl (ev_pick_f rfl rfl rfl) ?_
    refine GO_q rfl rfl (ev_move rfl) ?_
    refine GO_no rfl rfl rfl rfl ?_
    refine GO_no rfl rfl rfl rfl ?_
    refine GO_no rfl rfl rfl rfl ?_
    refine GO_no rfl rfl rfl rfl ?_
    refine GO_no rfl rfl rfl rfl ?_
    refine GO_q rfl rfl (ev_pick_f rfl rfl rfl) ?_
    refine GO_q rfl rfl (ev_assign rfl) ?_
    refine GO_nil ?_
    (repeat first | refine G_seq ?_ | refine G_skip ?_ | refine G_endblk ?_ | refine G_block ?_ | refine G_exit rfl ?_)
    refine G_ret rfl (.tmp rfl .nil) (by (repeat first | exact fun _ s => s | apply en_keep | apply en_drop | apply en_app) <;> fail) ⟨by simp_all [retv, fairP], rfl⟩
  case' y25 =>
    have hd25 := hc25
    try simp only [decide_eq_true_eq, decide_eq_false_iff_not, Bool.not_true, Bool.not_false, Bool.not_eq_true', Bool.not_eq_false'] at hd25
    refine GO_q rfl rfl (ev_fieldAddr rfl) ?_
    refine GO_yes rfl rfl rfl hc25 ?_
    refine GO_q rfl rfl (ev_load rfl (by repeat' first | exact Ld.blk rfl | assumption | apply Ld.skip | apply Ld.app)) ?_
    refine GO_yes rfl rfl rfl hc25 ?_
    refine GO_eff rfl rfl (eff_call rfl (Good_ctr _ _)) ?_; rintro _ _ ⟨rfl, rfl⟩
    refine GO_q rfl rfl (ev_pick_t rfl hc25 rfl) ?_
    refine GO_q rfl rfl (ev_move rfl) ?_
    refine GO_guard rfl rfl rfl (fun hc29 => ?y29) (fun hc29 => ?n29)
    case' n29 =>
      have hd29 := hc29
      try simp only [decide_eq_true_eq, decide_eq_false_iff_not, Bool.not_true, Bool.not_false, Bool.not_eq_true', Bool.not_eq_false'] at hd29
      refine GO_no rfl rfl rfl hc29 ?_
      refine GO_no rfl rfl rfl hc29 ?_
      refine GO_q rfl rfl (ev_pick_f rfl hc29 rfl) ?_
      refine GO_q rfl rfl (ev_move rfl) ?_
      refine GO_no rfl rfl rfl rfl ?_
      refine GO_no rfl rfl rfl rfl ?_
      refine GO_no rfl rfl rfl rfl ?_
      refine GO_no rfl rfl rfl rfl ?_
      refine GO_no rfl rfl rfl rfl ?_
      refine GO_q rfl rfl (ev_pick_f rfl rfl rfl) ?_
      refine GO_q rfl rfl (ev_assign rfl) ?_
      refine GO_nil ?_
      (repeat first | refine G_seq ?_ | refine G_skip ?_ | refine G_endblk ?_ | refine G_block ?_ | refine G_exit rfl ?_)
      refine G_ret rfl (.tmp rfl .nil) (by (repeat first | exact fun _ s => s | apply en_keep | apply en_drop | apply en_app) <;> fail) ⟨by simp_all [retv, fairP], rfl⟩
    case' y29 =>
      have hd29 := hc29
      try simp only [decide_eq_true_eq, decide_eq_false_iff_not, Bool.not_true, Bool.not_false, Bool.not_eq_true', Bool.not_eq_false'] at hd29
      refine GO_q rfl rfl (ev_fieldAddr rfl) ?_
      refine GO_yes rfl rfl rfl hc29 ?_
      refine GO_q rfl rfl (ev_load rfl (by repeat' first | exact Ld.blk rfl | assumption | apply Ld.skip | apply Ld.app)) ?_
      refine GO_yes rfl rfl rfl hc29 ?_
      refine GO_eff rfl rfl (eff_call rfl (Good_ctr _ _)) ?_; rintro _ _ ⟨rfl, rfl⟩
      refine GO_q rfl rfl (ev_pick_t rfl hc29 rfl) ?_
      refine GO_q rfl rfl (ev_move rfl) ?_
      refine GO_guard rfl rfl rfl (fun hc33 => ?y33) (fun hc33 => ?n33)
      case' n33 =>
        have hd33 := hc33
        try simp only [decide_eq_true_eq, decide_eq_false_iff_not, Bool.not_true, Bool.not_false, Bool.not_eq_true', Bool.not_eq_false'] at hd33
        refine GO_no rfl rfl rfl hc33 ?_
        refine GO_no rfl rfl rfl hc33 ?_
        refine GO_no rfl rfl rfl hc33 ?_
        refine GO_no rfl rfl rfl hc33 ?_
        refine GO_q rfl rfl (ev_pick_f rfl hc33 rfl) ?_
        refine GO_q rfl rfl (ev_assign rfl) ?_
        refine GO_nil ?_
        (repeat first | refine G_seq ?_ | refine G_skip ?_ | refine G_endblk ?_ | refine G_block ?_ | refine G_exit rfl ?_)
        refine G_ret rfl (.tmp rfl .nil) (by (repeat first | exact fun _ s => s | apply en_keep | apply en_drop | apply en_app) <;> fail) ⟨by simp_all [retv, fairP], rfl⟩
      case' y33 =>
        have hd33 := hc33
        try simp only [decide_eq_true_eq, decide_eq_false_iff_not, Bool.not_true, Bool.not_false, Bool.not_eq_true', Bool.not_eq_false'] at hd33
        refine GO_q rfl rfl (ev_fieldAddr rfl) ?_
        refine GO_yes rfl rfl rfl hc33 ?_
        refine GO_q rfl rfl (ev_load rfl (by repeat' first | exact Ld.blk rfl | assumption | apply Ld.skip | apply Ld.app)) ?_
        refine GO_yes rfl rfl rfl hc33 ?_
        refine GO_q rfl rfl (ev_fieldAddr rfl) ?_
        refine GO_yes rfl rfl rfl hc33 ?_
        refine GO_q rfl rfl (ev_load rfl (by repeat' first | exact Ld.blk rfl | assumption | apply Ld.skip | apply Ld.app)) ?_
        refine GO_yes rfl rfl rfl hc33 ?_
        refine GO_q rfl rfl (ev_leq rfl rfl) ?_
        refine GO_q rfl rfl (ev_pick_t rfl hc33 rfl) ?_
        refine GO_q rfl rfl (ev_assign rfl) ?_
        refine GO_nil ?_
        (repeat first | refine G_seq ?_ | refine G_skip ?_ | refine G_endblk ?_ | refine G_block ?_ | refine G_exit rfl ?_)
        refine G_ret rfl (.tmp rfl .nil) (by (repeat first | exact fun _ s => s | apply en_keep | apply en_drop | apply en_app) <;> fail) ⟨by simp_all [retv, fairP], rfl⟩
/-- What Insert tells. -/
def insE (most : Int) (k : List Pt) (s : Pt) : Int := if fairP s = false then 1 else if s ∈ k then 5 else if most ≤ (k.length : Nat) then 4 else 0
def delE (k : List Pt) (s : Pt) : Int := if s ∈ k then 0 else 6
theorem srt_of_perm {l m : List Int} (h : l.Perm m) : srt l = srt m := eq_of_sorted _ _ ((srt_perm l).trans (h.trans (srt_perm m).symm)) (srt_sorted l) (srt_sorted m)
def overK (k : List Pt) (lo hi : Int) : List Int := srt (idsOf (k.filter fun s => decide (lo ≤ hi ∧ s.x ≤ hi ∧ lo ≤ s.y)))
theorem pt_list' (p q : Pt) : [p.id, p.x, p.y] = [q.id, q.x, q.y] ↔ p = q := by
  obtain ⟨a, b, c⟩ := p
  obtain ⟨d, e, f⟩ := q
  simp
theorem idxOf_take (p : Pt) : ∀ (l : List Pt) (k : Nat), l[k]? = some p → p ∉ l.take k → l.idxOf p = k
  | [], k, h, _ => by simp at h
  | a :: l, 0, h, _ => by simp at h; subst h; simp
  | a :: l, k + 1, h, hn => by
    simp only [List.take_succ_cons, List.mem_cons, not_or] at hn
    have : (a == p) = false := by simpa using Ne.symm hn.1
    rw [List.idxOf_cons, this]
    simp only [cond_false]
    rw [idxOf_take p l k (by simpa using h) hn.2]
theorem erase_at (p : Pt) : ∀ (l : List Pt), p ∈ l → l.take (l.idxOf p) ++ l.drop (l.idxOf p + 1) = l.erase p
  | [], h => by cases h
  | a :: l, h => by
    by_cases e : a = p
    · subst e; simp
    · have : (a == p) = false := by simpa using e
      have e2 : (a :: l).idxOf p = l.idxOf p + 1 := by rw [List.idxOf_cons, this]; rfl
      rw [e2, List.erase_cons_tail (by simpa using e)]
      have := erase_at p l ((List.mem_cons.1 h).resolve_left (fun h' => e h'.symm))
      simp only [List.take_succ_cons, List.drop_succ_cons, List.cons_append, this]
def atS (l : List Pt) (p : Pt) : Int := if p ∈ l then (l.idxOf p : Nat) else -1
theorem sAt_ctr (b : Nat) (A : Option Addr) (c : Nat) (most : Int) (l : List Pt) (p : Pt) (L : List HP) (h : LdN L b 0 2 [.slice A l.length c, .int .i64 most]) (hl : Rd L A l.length l) (hn : l.length ≤ 100000) :
    Ctr Tryz.prog 24 #[.pointer (some ⟨b, 0, none⟩), p.v] L fun v L' => v = .int .i64 (atS l p) ∧ L' = L := by
  have h1 : Ld L ⟨b, 0 + 0, none⟩ (.slice A l.length c) := h.at_ (i := 0) rfl
  refine Ctr_of (fn := Tryz.f24) (n := 25) Tryz.func24 rfl rfl rfl ?_
  intro g F
  (repeat first | refine G_seq ?_ | refine G_skip ?_ | refine G_endblk ?_ | refine G_block ?_ | refine G_exit rfl ?_)
  refine G_region ?_
  refine GO_eff rfl rfl (eff_box rfl) ?_; rintro _ _ ⟨b3, rfl, rfl⟩
  refine GO_q rfl rfl (ev_assign rfl) ?_
  refine GO_nil ?_
  (repeat first | refine G_seq ?_ | refine G_skip ?_ | refine G_endblk ?_ | refine G_block ?_ | refine G_exit rfl ?_)
  refine G_region ?_
  refine GO_q rfl rfl (ev_assign rfl) ?_
  refine GO_nil ?_
  (repeat first | refine G_seq ?_ | refine G_skip ?_ | refine G_endblk ?_ | refine G_block ?_ | refine G_exit rfl ?_)
  refine G_loop (ι := Nat) (fun k => [(0, .pointer (some ⟨b, 0, none⟩)), (3, .pointer (some ⟨b3, 0, none⟩)), (5, .int .i64 (k : Nat))]) (fun _ => blk b3 24 [.int .i64 p.id, .int .i64 p.x, .int .i64 p.y] :: F :: L) (fun k => k ≤ l.length ∧ p ∉ l.take k) (fun k => l.length - k) 0 ⟨Nat.zero_le _, by simp⟩ ⟨rfl, rfl, rfl, trivial⟩ (by (repeat first | exact fun _ s => s | apply en_keep | apply en_drop | apply en_app) <;> fail) ?_
  rintro k ⟨f1, f2⟩
  (repeat first | refine G_seq ?_ | refine G_skip ?_ | refine G_endblk ?_ | refine G_block ?_ | refine G_exit rfl ?_)
  refine G_region ?_
  refine GO_q rfl rfl (ev_move rfl) ?_
  refine GO_q rfl rfl (ev_move rfl) ?_
  (first | refine GO_q rfl rfl (ev_nilCheck rfl) ?_ | refine GO_q rfl rfl (ev_nilCheckF (by simp) rfl) ?_)
  refine GO_q rfl rfl (ev_fieldAddr rfl) ?_
  refine GO_q rfl rfl (ev_load rfl (by repeat' first | exact Ld.blk rfl | assumption | apply Ld.skip | apply Ld.app)) ?_
  refine GO_q rfl rfl (ev_len rfl) ?_
  (first | refine GO_q rfl rfl (ev_lssN rfl rfl) ?_ | refine GO_q rfl rfl (ev_lss rfl rfl) ?_)
  refine GO_nil ?_
  (repeat first | refine G_seq ?_ | refine G_skip ?_ | refine G_endblk ?_ | refine G_block ?_ | refine G_exit rfl ?_)
  refine G_cond rfl (fun h4 => ?_) (fun h4 => ?_)
  · obtain ⟨lb, lo, rfl, hx⟩ := hl.at_ (by omega)
    have g1 : l[k]? = some l[k] := List.getElem?_eq_getElem (by omega)
    have y1 := hx _ _ g1
    have s1 : l.take (k + 1) = l.take k ++ [l[k]] := List.take_succ_eq_append_getElem (by omega)
    have m1 : l[k] ∈ l := List.getElem_mem _
    generalize l[k] = u at *
    have z1 : LdN L lb (lo + k * 3) 3 [.int .i64 u.id, .int .i64 u.x, .int .i64 u.y] := y1
    (repeat first | refine G_seq ?_ | refine G_skip ?_ | refine G_endblk ?_ | refine G_block ?_ | refine G_exit rfl ?_)
    refine G_draw (.q 0 (.q 1 (.q 2 (.q 3 (.q 4 (.q 5 (.q 6 (.q 7 (.q 8 .nil))))))))) (by kernel_rfl) (by kernel_rfl) ?_
    refine RS_m retB_noPanic rfl rfl rfl rfl (ev_move rfl) ?_
    (first | refine RS_m retB_noPanic rfl rfl rfl rfl (ev_nilCheck rfl) ?_ | refine RS_m retB_noPanic rfl rfl rfl rfl (ev_nilCheckF (by simp) rfl) ?_)
    refine RS_m retB_noPanic rfl rfl rfl rfl (ev_fieldAddr rfl) ?_
    refine RS_q retB_noPanic rfl rfl rfl rfl (ev_load rfl (by repeat' first | exact Ld.blk rfl | assumption | apply Ld.skip | apply Ld.app)) ?_
    refine RS_m retB_noPanic rfl rfl rfl rfl (ev_move rfl) ?_
    (first | refine RS_m retB_noPanic rfl rfl rfl rfl (ev_indexAddrN rfl rfl (by first | omega | (simp; done) | (simp; omega))) ?_ | refine RS_m retB_noPanic rfl rfl rfl rfl (ev_indexAddr rfl rfl (by first | omega | (simp; done) | (simp; omega)) (by first | omega | (simp; done) | (simp; omega))) ?_)
    refine RS_q retB_noPanic rfl rfl rfl rfl (ev_loadN rfl (by repeat' first | exact LdN.blk rfl | assumption | apply LdN.skip | apply LdN.app)) ?_
    refine RS_q retB_noPanic rfl rfl rfl rfl (ev_loadN rfl (by repeat' first | exact LdN.blk rfl | assumption | apply LdN.skip | apply LdN.app)) ?_
    refine RS_m retB_noPanic rfl rfl rfl rfl (ev_eqlS rfl rfl rfl rfl rfl rfl) ?_
    refine RS_nil ?_
    (repeat first | refine G_seq ?_ | refine G_skip ?_ | refine G_endblk ?_ | refine G_block ?_ | refine G_exit rfl ?_)
    refine G_cond rfl (fun h5 => ?_) (fun h5 => ?_)
    · have e : u = p := (pt_list' u p).1 h5
      subst e
      (repeat first | refine G_seq ?_ | refine G_skip ?_ | refine G_endblk ?_ | refine G_block ?_ | refine G_exit rfl ?_)
      refine G_region ?_
      refine GO_q rfl rfl (ev_move rfl) ?_
      refine GO_q rfl rfl (ev_assign rfl) ?_
      refine GO_nil ?_
      (repeat first | refine G_seq ?_ | refine G_skip ?_ | refine G_endblk ?_ | refine G_block ?_ | refine G_exit rfl ?_)
      refine G_ret rfl (.tmp rfl .nil) (by (repeat first | exact fun _ s => s | apply en_keep | apply en_drop | apply en_app) <;> fail) ⟨by unfold atS; rw [if_pos m1, idxOf_take u l k g1 f2]; rfl, rfl⟩
    · (repeat first | refine G_seq ?_ | refine G_skip ?_ | refine G_endblk ?_ | refine G_block ?_ | refine G_exit rfl ?_)
      refine G_region ?_
      refine GO_q rfl rfl (ev_move rfl) ?_
      (first | refine GO_q rfl rfl (ev_addN (q := 1) rfl rfl (by first | omega | (simp; done) | (simp; omega))) ?_ | refine GO_q rfl rfl (ev_add rfl rfl (by first | omega | (simp; done) | (simp; omega))) ?_)
      refine GO_q rfl rfl (ev_assign rfl) ?_
      refine GO_nil ?_
      (repeat first | refine G_seq ?_ | refine G_skip ?_ | refine G_endblk ?_ | refine G_block ?_ | refine G_exit rfl ?_)
      exact G_round (k + 1) ⟨by omega, by rw [s1]; simp only [List.mem_append, List.mem_singleton, not_or]; exact ⟨f2, fun e => h5 ((pt_list' u p).2 e.symm)⟩⟩ (by omega) ⟨rfl, rfl, rfl, trivial⟩ (by (repeat first | exact fun _ s => s | apply en_keep | apply en_drop | apply en_app) <;> fail)
  · have e : k = l.length := by omega
    subst e
    rw [List.take_length] at f2
    (repeat first | refine G_seq ?_ | refine G_skip ?_ | refine G_endblk ?_ | refine G_block ?_ | refine G_exit rfl ?_)
    refine G_region ?_
    refine GO_q rfl rfl (ev_assign rfl) ?_
    refine GO_nil ?_
    (repeat first | refine G_seq ?_ | refine G_skip ?_ | refine G_endblk ?_ | refine G_block ?_ | refine G_exit rfl ?_)
    refine G_ret rfl (.tmp rfl .nil) (by (repeat first | exact fun _ s => s | apply en_keep | apply en_drop | apply en_app) <;> fail) ⟨by unfold atS; rw [if_neg f2]; rfl, rfl⟩
theorem sID_ctr (n : Int) (L : List HP) : Ctr Tryz.prog 108 #[.int .i64 n] L fun v L' => v = .bool (goodId n) ∧ L' = L := by
  refine Ctr_of (fn := Tryz.f108) (n := 9) Tryz.func108 rfl rfl rfl ?_
  intro g F
  (repeat first | refine G_seq ?_ | refine G_skip ?_ | refine G_endblk ?_ | refine G_block ?_ | refine G_exit rfl ?_)
  refine G_region ?_
  refine GO_q rfl rfl (ev_assign rfl) ?_
  refine GO_nil ?_
  (repeat first | refine G_seq ?_ | refine G_skip ?_ | refine G_endblk ?_ | refine G_block ?_ | refine G_exit rfl ?_)
  refine G_region ?_
  refine GO_q rfl rfl (ev_move rfl) ?_
  refine GO_q rfl rfl (ev_geq rfl rfl) ?_
  refine GO_q rfl rfl (ev_move rfl) ?_
  refine GO_guard rfl rfl rfl (fun hc72 => ?y72) (fun hc72 => ?n72)
  case' n72 =>
    have hd72 := hc72
    try simp only [decide_eq_true_eq, decide_eq_false_iff_not, Bool.not_true, Bool.not_false, Bool.not_eq_true', Bool.not_eq_false'] at hd72
    refine GO_no rfl rfl rfl hc72 ?_
    refine GO_q rfl rfl (ev_pick_f rfl hc72 rfl) ?_
    refine GO_q rfl rfl (ev_assign rfl) ?_
    refine GO_nil ?_
    (repeat first | refine G_seq ?_ | refine G_skip ?_ | refine G_endblk ?_ | refine G_block ?_ | refine G_exit rfl ?_)
    refine G_ret rfl (.tmp rfl .nil) (by (repeat first | exact fun _ s => s | apply en_keep | apply en_drop | apply en_app) <;> fail) ⟨by simp_all [retv, goodId] <;> (intros; omega), rfl⟩
  case' y72 =>
    have hd72 := hc72
    try simp only [decide_eq_true_eq, decide_eq_false_iff_not, Bool.not_true, Bool.not_false, Bool.not_eq_true', Bool.not_eq_false'] at hd72
    refine GO_q rfl rfl (ev_move rfl) ?_
    refine GO_yes rfl rfl rfl hc72 ?_
    refine GO_q rfl rfl (ev_leq rfl rfl) ?_
    refine GO_q rfl rfl (ev_pick_t rfl hc72 rfl) ?_
    refine GO_q rfl rfl (ev_assign rfl) ?_
    refine GO_nil ?_
    (repeat first | refine G_seq ?_ | refine G_skip ?_ | refine G_endblk ?_ | refine G_block ?_ | refine G_exit rfl ?_)
    refine G_ret rfl (.tmp rfl .nil) (by (repeat first | exact fun _ s => s | apply en_keep | apply en_drop | apply en_app) <;> fail) ⟨by simp_all [retv, goodId] <;> (intros; omega), rfl⟩
theorem sFair_ctr (s : Pt) (L : List HP) : Ctr Tryz.prog 79 #[s.v] L fun v L' => v = .bool (fairP s) ∧ L' = L := by
  refine Ctr_of (fn := Tryz.f79) (n := 23) Tryz.func79 rfl rfl rfl ?_
  intro g F
  (repeat first | refine G_seq ?_ | refine G_skip ?_ | refine G_endblk ?_ | refine G_block ?_ | refine G_exit rfl ?_)
  refine G_region ?_
  refine GO_eff rfl rfl (eff_box rfl) ?_; rintro _ _ ⟨b1, rfl, rfl⟩
  refine GO_q rfl rfl (ev_assign rfl) ?_
  refine GO_nil ?_
  (repeat first | refine G_seq ?_ | refine G_skip ?_ | refine G_endblk ?_ | refine G_block ?_ | refine G_exit rfl ?_)
  refine G_region ?_
  refine GO_q rfl rfl (ev_fieldAddr rfl) ?_
  refine GO_q rfl rfl (ev_load rfl (by repeat' first | exact Ld.blk rfl | assumption | apply Ld.skip | apply Ld.app)) ?_
  refine GO_eff rfl rfl (eff_call rfl (sID_ctr _ _)) ?_; rintro _ _ ⟨rfl, rfl⟩
  refine GO_q rfl rfl (ev_move rfl) ?_
  refine GO_guard rfl rfl rfl (fun hc82 => ?y82) (fun hc82 => ?n82)
  case' n82 =>
    have hd82 := hc82
    try simp only [decide_eq_true_eq, decide_eq_false_iff_not, Bool.not_true, Bool.not_false, Bool.not_eq_true', Bool.not_eq_false'] at hd82
    refine GO_no rfl rfl rfl hc82 ?_
    refine GO_no rfl rfl rfl hc82 ?_
    refine GO_q rfl rfl (ev_pick_f rfl hc82 rfl) ?_
    refine GO_q rfl rfl (ev_move rfl) ?_
    refine GO_no rfl rfl rfl rfl ?_
    refine GO_no rfl rfl rfl rfl ?_
    refine GO_no rfl rfl rfl rfl ?_
    refine GO_q rfl rfl (ev_pick_f rfl rfl rfl) ?_
    refine GO_q rfl rfl (ev_move rfl) ?_
    refine GO_no rfl rfl rfl rfl ?_
    refine GO_no rfl rfl rfl rfl ?_
    refine GO_no rfl rfl rfl rfl ?_
    refine GO_no rfl rfl rfl rfl ?_
    refine GO_no rfl rfl rfl rfl ?_
    refine GO_q rfl rfl (ev_pick_f rfl rfl rfl) ?_
    refine GO_q rfl rfl (ev_assign rfl) ?_
    refine GO_nil ?_
    (repeat first | refine G_seq ?_ | refine G_skip ?_ | refine G_endblk ?_ | refine G_block ?_ | refine G_exit rfl ?_)
    refine G_ret rfl (.tmp rfl .nil) (by (repeat first | exact fun _ s => s | apply en_keep | apply en_drop | apply en_app) <;> fail) ⟨by simp_all [retv, fairP], rfl⟩
  case' y82 =>
    have hd82 := hc82
    try simp only [decide_eq_true_eq, decide_eq_false_iff_not, Bool.not_true, Bool.not_false, Bool.not_eq_true', Bool.not_eq_false'] at hd82
    refine GO_q rfl rfl (ev_fieldAddr rfl) ?_
    refine GO_yes rfl rfl rfl hc82 ?_
    refine GO_q rfl rfl (ev_load rfl (by repeat' first | exact Ld.blk rfl | assumption | apply Ld.skip | apply Ld.app)) ?_
    refine GO_yes rfl rfl rfl hc82 ?_
    refine GO_eff rfl rfl (eff_call rfl (Coord_ctr _ _)) ?_; rintro _ _ ⟨rfl, rfl⟩
    refine GO_q rfl rfl (ev_pick_t rfl hc82 rfl) ?_
    refine GO_q rfl rfl (ev_move rfl) ?_
    refine GO_guard rfl rfl rfl (fun hc86 => ?y86) (fun hc86 => ?n86)
    case' n86 =>
      have hd86 := hc86
      try simp only [decide_eq_true_eq, decide_eq_false_iff_not, Bool.not_true, Bool.not_false, Bool.not_eq_true', Bool.not_eq_false'] at hd86
      refine GO_no rfl rfl rfl hc86 ?_
      refine GO_no rfl rfl rfl hc86 ?_
      refine GO_q rfl rfl (ev_pick_f rfl hc86 rfl) ?_
      refine GO_q rfl rfl (ev_move rfl) ?_
      refine GO_no rfl rfl rfl rfl ?_
      refine GO_no rfl rfl rfl rfl ?_
      refine GO_no rfl rfl rfl rfl ?_
      refine GO_no rfl rfl rfl rfl ?_
      refine GO_no rfl rfl rfl rfl ?_
      refine GO_q rfl rfl (ev_pick_f rfl rfl rfl) ?_
      refine GO_q rfl rfl (ev_assign rfl) ?_
      refine GO_nil ?_
      (repeat first | refine G_seq ?_ | refine G_skip ?_ | refine G_endblk ?_ | refine G_block ?_ | refine G_exit rfl ?_)
      refine G_ret rfl (.tmp rfl .nil) (by (repeat first | exact fun _ s => s | apply en_keep | apply en_drop | apply en_app) <;> fail) ⟨by simp_all [retv, fairP], rfl⟩
    case' y86 =>
      have hd86 := hc86
      try simp only [decide_eq_true_eq, decide_eq_false_iff_not, Bool.not_true, Bool.not_false, Bool.not_eq_true', Bool.not_eq_false'] at hd86
      refine GO_q rfl rfl (ev_fieldAddr rfl) ?_
      refine GO_yes rfl rfl rfl hc86 ?_
      refine GO_q rfl rfl (ev_load rfl (by repeat' first | exact Ld.blk rfl | assumption | apply Ld.skip | apply Ld.app)) ?_
      refine GO_yes rfl rfl rfl hc86 ?_
      refine GO_eff rfl rfl (eff_call rfl (Coord_ctr _ _)) ?_; rintro _ _ ⟨rfl, rfl⟩
      refine GO_q rfl rfl (ev_pick_t rfl hc86 rfl) ?_
      refine GO_q rfl rfl (ev_move rfl) ?_
      refine GO_guard rfl rfl rfl (fun hc90 => ?y90) (fun hc90 => ?n90)
      case' n90 =>
        have hd90 := hc90
        try simp only [decide_eq_true_eq, decide_eq_false_iff_not, Bool.not_true, Bool.not_false, Bool.not_eq_true', Bool.not_eq_false'] at hd90
        refine GO_no rfl rfl rfl hc90 ?_
        refine GO_no rfl rfl rfl hc90 ?_
        refine GO_no rfl rfl rfl hc90 ?_
        refine GO_no rfl rfl rfl hc90 ?_
        refine GO_q rfl rfl (ev_pick_f rfl hc90 rfl) ?_
        refine GO_q rfl rfl (ev_assign rfl) ?_
        refine GO_nil ?_
        (repeat first | refine G_seq ?_ | refine G_skip ?_ | refine G_endblk ?_ | refine G_block ?_ | refine G_exit rfl ?_)
        refine G_ret rfl (.tmp rfl .nil) (by (repeat first | exact fun _ s => s | apply en_keep | apply en_drop | apply en_app) <;> fail) ⟨by simp_all [retv, fairP], rfl⟩
      case' y90 =>
        have hd90 := hc90
        try simp only [decide_eq_true_eq, decide_eq_false_iff_not, Bool.not_true, Bool.not_false, Bool.not_eq_true', Bool.not_eq_false'] at hd90
        refine GO_q rfl rfl (ev_fieldAddr rfl) ?_
        refine GO_yes rfl rfl rfl hc90 ?_
        refine GO_q rfl rfl (ev_load rfl (by repeat' first | exact Ld.blk rfl | assumption | apply Ld.skip | apply Ld.app)) ?_
        refine GO_yes rfl rfl rfl hc90 ?_
        refine GO_q rfl rfl (ev_fieldAddr rfl) ?_
        refine GO_yes rfl rfl rfl hc90 ?_
        refine GO_q rfl rfl (ev_load rfl (by repeat' first | exact Ld.blk rfl | assumption | apply Ld.skip | apply Ld.app)) ?_
        refine GO_yes rfl rfl rfl hc90 ?_
        refine GO_q rfl rfl (ev_leq rfl rfl) ?_
        refine GO_q rfl rfl (ev_pick_t rfl hc90 rfl) ?_
        refine GO_q rfl rfl (ev_assign rfl) ?_
        refine GO_nil ?_
        (repeat first | refine G_seq ?_ | refine G_skip ?_ | refine G_endblk ?_ | refine G_block ?_ | refine G_exit rfl ?_)
        refine G_ret rfl (.tmp rfl .nil) (by (repeat first | exact fun _ s => s | apply en_keep | apply en_drop | apply en_app) <;> fail) ⟨by simp_all [retv, fairP], rfl⟩
theorem atS_nn (l : List Pt) (p : Pt) : 0 ≤ atS l p ↔ p ∈ l := by
  unfold atS; split <;> simp_all
def insK (most : Int) (k : List Pt) (s : Pt) : List Pt := if insE most k s = 0 then k ++ [s] else k
theorem sInsert_ctr (b : Nat) (T : TypeId) (ext : List Value) (A : Option Addr) (c : Nat) (most : Int) (k : List Pt) (p : Pt) (M : List HP) (ha : AdOk A c k) (hn : k.length ≤ 10000) :
    Ctr Tryz.prog 54 #[.pointer (some ⟨b, 0, none⟩), p.v] (blk b T (.slice A k.length c :: .int .i64 most :: ext) :: own 24 3 A k.length c (flat k) :: M) fun v L' => v = .int .i64 (insE most k p) ∧ ∃ A' c', AdOk A' c' (insK most k p) ∧ L' = blk b T (.slice A' (insK most k p).length c' :: .int .i64 most :: ext) :: own 24 3 A' (insK most k p).length c' (flat (insK most k p)) :: M := by
  have hb : ∀ L', LdN (blk b T (.slice A k.length c :: .int .i64 most :: ext) :: L') b 0 2 [.slice A k.length c, .int .i64 most] := fun L' => LdN.blk (by cases ext <;> rfl)
  have hr : ∀ L', Rd (own 24 3 A k.length c (flat k) :: L') A k.length k := fun L' => Rc.own (flat_length k) ha.1
  have hb1 : ∀ L', Ld (blk b T (.slice A k.length c :: .int .i64 most :: ext) :: L') ⟨b, 0 + 0, none⟩ (.slice A k.length c) := fun L' => Ld.blk rfl
  have hb2 : ∀ L', Ld (blk b T (.slice A k.length c :: .int .i64 most :: ext) :: L') ⟨b, 0 + 1, none⟩ (.int .i64 most) := fun L' => Ld.blk rfl
  have hac := ha.2
  have hf := sFair_ctr p
  have hno : insE most k p ≠ 0 → insK most k p = k := fun h => if_neg h
  cases hg : fairP p with
  | false =>
    have e1 : insE most k p = 1 := by unfold insE; rw [if_pos hg]
    rw [hno (by rw [e1]; decide), e1]
    rw [hg] at hf
    refine Ctr_of (fn := Tryz.f54) (n := 34) Tryz.func54 rfl rfl rfl ?_
    intro g F
    (repeat first | refine G_seq ?_ | refine G_skip ?_ | refine G_endblk ?_ | refine G_block ?_ | refine G_exit rfl ?_)
    refine G_region ?_
    refine GO_eff rfl rfl (eff_box rfl) ?_; rintro _ _ ⟨b3, rfl, rfl⟩
    refine GO_q rfl rfl (ev_assign rfl) ?_
    refine GO_nil ?_
    (repeat first | refine G_seq ?_ | refine G_skip ?_ | refine G_endblk ?_ | refine G_block ?_ | refine G_exit rfl ?_)
    refine G_region ?_
    refine GO_q rfl rfl (ev_loadN rfl (by repeat' first | exact LdN.blk rfl | assumption | apply LdN.skip | apply LdN.app)) ?_
    refine GO_eff rfl rfl (eff_call rfl (hf _)) ?_; rintro _ _ ⟨rfl, rfl⟩
    refine GO_q rfl rfl (ev_not rfl) ?_
    refine GO_nil ?_
    (repeat first | refine G_seq ?_ | refine G_skip ?_ | refine G_endblk ?_ | refine G_block ?_ | refine G_exit rfl ?_)
    refine G_cond_t rfl rfl ?_
    (repeat first | refine G_seq ?_ | refine G_skip ?_ | refine G_endblk ?_ | refine G_block ?_ | refine G_exit rfl ?_)
    refine G_region ?_
    refine GO_q rfl rfl (ev_assign rfl) ?_
    refine GO_nil ?_
    (repeat first | refine G_seq ?_ | refine G_skip ?_ | refine G_endblk ?_ | refine G_block ?_ | refine G_exit rfl ?_)
    exact G_ret (L' := blk b T (.slice A k.length c :: .int .i64 most :: ext) :: own 24 3 A k.length c (flat k) :: M) rfl (.tmp rfl .nil) (by (repeat first | exact en_refl | (apply en_blk; focus ((repeat' first | exact Pick.here | apply Pick.skip | apply Pick.app); done); focus rfl) | (apply en_own; focus ((repeat' first | exact Pick.here | apply Pick.skip | apply Pick.app); done); focus rfl) | (apply en_pick; focus ((repeat' first | exact Pick.here | apply Pick.skip | apply Pick.app); done)) | apply en_drop | apply en_app) <;> fail) ⟨rfl, A, c, ha, rfl⟩
  | true =>
    rw [hg] at hf
    have hAt := fun L h h' => sAt_ctr b A c most k p L h h' (by omega)
    by_cases hp : p ∈ k
    · have e1 : insE most k p = 5 := by unfold insE; rw [if_neg (by simp [hg]), if_pos hp]
      have hat := (atS_nn k p).2 hp
      rw [hno (by rw [e1]; decide), e1]
      generalize atS k p = z at *
      refine Ctr_of (fn := Tryz.f54) (n := 34) Tryz.func54 rfl rfl rfl ?_
      intro g F
      (repeat first | refine G_seq ?_ | refine G_skip ?_ | refine G_endblk ?_ | refine G_block ?_ | refine G_exit rfl ?_)
      refine G_region ?_
      refine GO_eff rfl rfl (eff_box rfl) ?_; rintro _ _ ⟨b3, rfl, rfl⟩
      refine GO_q rfl rfl (ev_assign rfl) ?_
      refine GO_nil ?_
      (repeat first | refine G_seq ?_ | refine G_skip ?_ | refine G_endblk ?_ | refine G_block ?_ | refine G_exit rfl ?_)
      refine G_region ?_
      refine GO_q rfl rfl (ev_loadN rfl (by repeat' first | exact LdN.blk rfl | assumption | apply LdN.skip | apply LdN.app)) ?_
      refine GO_eff rfl rfl (eff_call rfl (hf _)) ?_; rintro _ _ ⟨rfl, rfl⟩
      refine GO_q rfl rfl (ev_not rfl) ?_
      refine GO_nil ?_
      (repeat first | refine G_seq ?_ | refine G_skip ?_ | refine G_endblk ?_ | refine G_block ?_ | refine G_exit rfl ?_)
      refine G_cond_f rfl rfl ?_
      (repeat first | refine G_seq ?_ | refine G_skip ?_ | refine G_endblk ?_ | refine G_block ?_ | refine G_exit rfl ?_)
      refine G_region ?_
      refine GO_q rfl rfl (ev_move rfl) ?_
      refine GO_q rfl rfl (ev_loadN rfl (by repeat' first | exact LdN.blk rfl | assumption | apply LdN.skip | apply LdN.app)) ?_
      refine GO_eff rfl rfl (eff_call rfl (hAt _ (by repeat' first | exact hb _ | apply LdN.skip) (by repeat' first | exact hr _ | apply Rd.skip))) ?_; rintro _ _ ⟨rfl, rfl⟩
      refine GO_q rfl rfl (ev_geq rfl rfl) ?_
      refine GO_nil ?_
      (repeat first | refine G_seq ?_ | refine G_skip ?_ | refine G_endblk ?_ | refine G_block ?_ | refine G_exit rfl ?_)
      refine G_cond_t rfl (decide_eq_true hat) ?_
      (repeat first | refine G_seq ?_ | refine G_skip ?_ | refine G_endblk ?_ | refine G_block ?_ | refine G_exit rfl ?_)
      refine G_region ?_
      refine GO_q rfl rfl (ev_assign rfl) ?_
      refine GO_nil ?_
      (repeat first | refine G_seq ?_ | refine G_skip ?_ | refine G_endblk ?_ | refine G_block ?_ | refine G_exit rfl ?_)
      exact G_ret (L' := blk b T (.slice A k.length c :: .int .i64 most :: ext) :: own 24 3 A k.length c (flat k) :: M) rfl (.tmp rfl .nil) (by (repeat first | exact en_refl | (apply en_blk; focus ((repeat' first | exact Pick.here | apply Pick.skip | apply Pick.app); done); focus rfl) | (apply en_own; focus ((repeat' first | exact Pick.here | apply Pick.skip | apply Pick.app); done); focus rfl) | (apply en_pick; focus ((repeat' first | exact Pick.here | apply Pick.skip | apply Pick.app); done)) | apply en_drop | apply en_app) <;> fail) ⟨rfl, A, c, ha, rfl⟩
    · have hat : ¬ 0 ≤ atS k p := fun h => hp ((atS_nn k p).1 h)
      generalize atS k p = z at *
      by_cases hfull : most ≤ k.length
      · have e1 : insE most k p = 4 := by unfold insE; rw [if_neg (by simp [hg]), if_neg hp, if_pos hfull]
        rw [hno (by rw [e1]; decide), e1]
        refine Ctr_of (fn := Tryz.f54) (n := 34) Tryz.func54 rfl rfl rfl ?_
        intro g F
        (repeat first | refine G_seq ?_ | refine G_skip ?_ | refine G_endblk ?_ | refine G_block ?_ | refine G_exit rfl ?_)
        refine G_region ?_
        refine GO_eff rfl rfl (eff_box rfl) ?_; rintro _ _ ⟨b3, rfl, rfl⟩
        refine GO_q rfl rfl (ev_assign rfl) ?_
        refine GO_nil ?_
        (repeat first | refine G_seq ?_ | refine G_skip ?_ | refine G_endblk ?_ | refine G_block ?_ | refine G_exit rfl ?_)
        refine G_region ?_
        refine GO_q rfl rfl (ev_loadN rfl (by repeat' first | exact LdN.blk rfl | assumption | apply LdN.skip | apply LdN.app)) ?_
        refine GO_eff rfl rfl (eff_call rfl (hf _)) ?_; rintro _ _ ⟨rfl, rfl⟩
        refine GO_q rfl rfl (ev_not rfl) ?_
        refine GO_nil ?_
        (repeat first | refine G_seq ?_ | refine G_skip ?_ | refine G_endblk ?_ | refine G_block ?_ | refine G_exit rfl ?_)
        refine G_cond_f rfl rfl ?_
        (repeat first | refine G_seq ?_ | refine G_skip ?_ | refine G_endblk ?_ | refine G_block ?_ | refine G_exit rfl ?_)
        refine G_region ?_
        refine GO_q rfl rfl (ev_move rfl) ?_
        refine GO_q rfl rfl (ev_loadN rfl (by repeat' first | exact LdN.blk rfl | assumption | apply LdN.skip | apply LdN.app)) ?_
        refine GO_eff rfl rfl (eff_call rfl (hAt _ (by repeat' first | exact hb _ | apply LdN.skip) (by repeat' first | exact hr _ | apply Rd.skip))) ?_; rintro _ _ ⟨rfl, rfl⟩
        refine GO_q rfl rfl (ev_geq rfl rfl) ?_
        refine GO_nil ?_
        (repeat first | refine G_seq ?_ | refine G_skip ?_ | refine G_endblk ?_ | refine G_block ?_ | refine G_exit rfl ?_)
        refine G_cond_f rfl (decide_eq_false hat) ?_
        (repeat first | refine G_seq ?_ | refine G_skip ?_ | refine G_endblk ?_ | refine G_block ?_ | refine G_exit rfl ?_)
        refine G_draw (.q 0 (.q 1 (.q 2 (.q 3 (.q 4 (.q 5 (.q 6 (.q 7 (.q 8 (.q 9 .nil)))))))))) (by kernel_rfl) (by kernel_rfl) ?_
        refine RS_m retB_noPanic rfl rfl rfl rfl (ev_move rfl) ?_
        (first | refine RS_m retB_noPanic rfl rfl rfl rfl (ev_nilCheck rfl) ?_ | refine RS_m retB_noPanic rfl rfl rfl rfl (ev_nilCheckF (by simp) rfl) ?_)
        refine RS_m retB_noPanic rfl rfl rfl rfl (ev_fieldAddr rfl) ?_
        refine RS_q retB_noPanic rfl rfl rfl rfl (ev_load rfl (by repeat' first | exact hb1 _ | apply Ld.skip)) ?_
        refine RS_q retB_noPanic rfl rfl rfl rfl (ev_len rfl) ?_
        refine RS_m retB_noPanic rfl rfl rfl rfl (ev_move rfl) ?_
        (first | refine RS_m retB_noPanic rfl rfl rfl rfl (ev_nilCheck rfl) ?_ | refine RS_m retB_noPanic rfl rfl rfl rfl (ev_nilCheckF (by simp) rfl) ?_)
        refine RS_m retB_noPanic rfl rfl rfl rfl (ev_fieldAddr rfl) ?_
        refine RS_q retB_noPanic rfl rfl rfl rfl (ev_load rfl (by repeat' first | exact hb2 _ | apply Ld.skip)) ?_
        refine RS_m retB_noPanic rfl rfl rfl rfl (ev_geq rfl rfl) ?_
        refine RS_nil ?_
        (repeat first | refine G_seq ?_ | refine G_skip ?_ | refine G_endblk ?_ | refine G_block ?_ | refine G_exit rfl ?_)
        refine G_cond_t rfl (decide_eq_true hfull) ?_
        (repeat first | refine G_seq ?_ | refine G_skip ?_ | refine G_endblk ?_ | refine G_block ?_ | refine G_exit rfl ?_)
        refine G_region ?_
        refine GO_q rfl rfl (ev_assign rfl) ?_
        refine GO_nil ?_
        (repeat first | refine G_seq ?_ | refine G_skip ?_ | refine G_endblk ?_ | refine G_block ?_ | refine G_exit rfl ?_)
        exact G_ret (L' := blk b T (.slice A k.length c :: .int .i64 most :: ext) :: own 24 3 A k.length c (flat k) :: M) rfl (.tmp rfl .nil) (by (repeat first | exact en_refl | (apply en_blk; focus ((repeat' first | exact Pick.here | apply Pick.skip | apply Pick.app); done); focus rfl) | (apply en_own; focus ((repeat' first | exact Pick.here | apply Pick.skip | apply Pick.app); done); focus rfl) | (apply en_pick; focus ((repeat' first | exact Pick.here | apply Pick.skip | apply Pick.app); done)) | apply en_drop | apply en_app) <;> fail) ⟨rfl, A, c, ha, rfl⟩
      · have e1 : insE most k p = 0 := by unfold insE; rw [if_neg (by simp [hg]), if_neg hp, if_neg hfull]
        have e2 : insK most k p = k ++ [p] := if_pos e1
        rw [e2, e1]
        refine Ctr_of (fn := Tryz.f54) (n := 34) Tryz.func54 rfl rfl rfl ?_
        intro g F
        (repeat first | refine G_seq ?_ | refine G_skip ?_ | refine G_endblk ?_ | refine G_block ?_ | refine G_exit rfl ?_)
        refine G_region ?_
        refine GO_eff rfl rfl (eff_box rfl) ?_; rintro _ _ ⟨b3, rfl, rfl⟩
        refine GO_q rfl rfl (ev_assign rfl) ?_
        refine GO_nil ?_
        (repeat first | refine G_seq ?_ | refine G_skip ?_ | refine G_endblk ?_ | refine G_block ?_ | refine G_exit rfl ?_)
        refine G_region ?_
        refine GO_q rfl rfl (ev_loadN rfl (by repeat' first | exact LdN.blk rfl | assumption | apply LdN.skip | apply LdN.app)) ?_
        refine GO_eff rfl rfl (eff_call rfl (hf _)) ?_; rintro _ _ ⟨rfl, rfl⟩
        refine GO_q rfl rfl (ev_not rfl) ?_
        refine GO_nil ?_
        (repeat first | refine G_seq ?_ | refine G_skip ?_ | refine G_endblk ?_ | refine G_block ?_ | refine G_exit rfl ?_)
        refine G_cond_f rfl rfl ?_
        (repeat first | refine G_seq ?_ | refine G_skip ?_ | refine G_endblk ?_ | refine G_block ?_ | refine G_exit rfl ?_)
        refine G_region ?_
        refine GO_q rfl rfl (ev_move rfl) ?_
        refine GO_q rfl rfl (ev_loadN rfl (by repeat' first | exact LdN.blk rfl | assumption | apply LdN.skip | apply LdN.app)) ?_
        refine GO_eff rfl rfl (eff_call rfl (hAt _ (by repeat' first | exact hb _ | apply LdN.skip) (by repeat' first | exact hr _ | apply Rd.skip))) ?_; rintro _ _ ⟨rfl, rfl⟩
        refine GO_q rfl rfl (ev_geq rfl rfl) ?_
        refine GO_nil ?_
        (repeat first | refine G_seq ?_ | refine G_skip ?_ | refine G_endblk ?_ | refine G_block ?_ | refine G_exit rfl ?_)
        refine G_cond_f rfl (decide_eq_false hat) ?_
        (repeat first | refine G_seq ?_ | refine G_skip ?_ | refine G_endblk ?_ | refine G_block ?_ | refine G_exit rfl ?_)
        refine G_draw (.q 0 (.q 1 (.q 2 (.q 3 (.q 4 (.q 5 (.q 6 (.q 7 (.q 8 (.q 9 .nil)))))))))) (by kernel_rfl) (by kernel_rfl) ?_
        refine RS_m retB_noPanic rfl rfl rfl rfl (ev_move rfl) ?_
        (first | refine RS_m retB_noPanic rfl rfl rfl rfl (ev_nilCheck rfl) ?_ | refine RS_m retB_noPanic rfl rfl rfl rfl (ev_nilCheckF (by simp) rfl) ?_)
        refine RS_m retB_noPanic rfl rfl rfl rfl (ev_fieldAddr rfl) ?_
        refine RS_q retB_noPanic rfl rfl rfl rfl (ev_load rfl (by repeat' first | exact hb1 _ | apply Ld.skip)) ?_
        refine RS_q retB_noPanic rfl rfl rfl rfl (ev_len rfl) ?_
        refine RS_m retB_noPanic rfl rfl rfl rfl (ev_move rfl) ?_
        (first | refine RS_m retB_noPanic rfl rfl rfl rfl (ev_nilCheck rfl) ?_ | refine RS_m retB_noPanic rfl rfl rfl rfl (ev_nilCheckF (by simp) rfl) ?_)
        refine RS_m retB_noPanic rfl rfl rfl rfl (ev_fieldAddr rfl) ?_
        refine RS_q retB_noPanic rfl rfl rfl rfl (ev_load rfl (by repeat' first | exact hb2 _ | apply Ld.skip)) ?_
        refine RS_m retB_noPanic rfl rfl rfl rfl (ev_geq rfl rfl) ?_
        refine RS_nil ?_
        (repeat first | refine G_seq ?_ | refine G_skip ?_ | refine G_endblk ?_ | refine G_block ?_ | refine G_exit rfl ?_)
        refine G_cond_f rfl (decide_eq_false hfull) ?_
        (repeat first | refine G_seq ?_ | refine G_skip ?_ | refine G_endblk ?_ | refine G_block ?_ | refine G_exit rfl ?_)
        refine G_draw (.q 0 (.q 2 (.q 3 (.q 4 (.q 5 (.q 7 (.br 1 (.br 6 (.e 8 (.e 9 (.q 10 (.q 11 (.e 12 .nil))))) 8 (.e 6 (.e 9 (.q 10 (.q 11 (.e 12 .nil)))))) 8 (.e 1 (.e 6 (.e 9 (.q 10 (.q 11 (.e 12 .nil))))))))))))) (by kernel_rfl) (by kernel_rfl) ?_
        refine RS_m retB_noPanic rfl rfl rfl rfl (ev_move rfl) ?_
        refine RS_m retB_noPanic rfl rfl rfl rfl (ev_move rfl) ?_
        (first | refine RS_m retB_noPanic rfl rfl rfl rfl (ev_nilCheck rfl) ?_ | refine RS_m retB_noPanic rfl rfl rfl rfl (ev_nilCheckF (by simp) rfl) ?_)
        refine RS_m retB_noPanic rfl rfl rfl rfl (ev_fieldAddr rfl) ?_
        refine RS_q retB_noPanic rfl rfl rfl rfl (ev_load rfl (by repeat' first | exact hb1 _ | apply Ld.skip)) ?_
        refine RS_q retB_noPanic rfl rfl rfl rfl (ev_loadN rfl (by repeat' first | exact LdN.blk rfl | assumption | apply LdN.skip | apply LdN.app)) ?_
        refine RS_br ?x126_0 ?x126_1
        case' x126_1 =>
          refine RE_eff rfl rfl rfl (eff_buildSlice1 (by rfl) rfl rfl) ?_; rintro _ _ ⟨b30, rfl, rfl⟩; refine ⟨_, (by first | ((repeat first | exact fun _ s => s | apply en_keep | apply en_drop | apply en_app) <;> fail) | ((repeat first | exact en_refl | (apply en_blk; focus ((repeat' first | exact Pick.here | apply Pick.skip | apply Pick.app); done); focus rfl) | (apply en_own; focus ((repeat' first | exact Pick.here | apply Pick.skip | apply Pick.app); done); focus rfl) | (apply en_pick; focus ((repeat' first | exact Pick.here | apply Pick.skip | apply Pick.app); done)) | apply en_drop | apply en_app) <;> fail)), fun _ s => s, ?_⟩
          refine RS_e (RE_eff rfl rfl rfl eff_buildSlice0 ?_); rintro _ _ ⟨b23, rfl, rfl⟩; refine ⟨_, (by first | ((repeat first | exact fun _ s => s | apply en_keep | apply en_drop | apply en_app) <;> fail) | ((repeat first | exact en_refl | (apply en_blk; focus ((repeat' first | exact Pick.here | apply Pick.skip | apply Pick.app); done); focus rfl) | (apply en_own; focus ((repeat' first | exact Pick.here | apply Pick.skip | apply Pick.app); done); focus rfl) | (apply en_pick; focus ((repeat' first | exact Pick.here | apply Pick.skip | apply Pick.app); done)) | apply en_drop | apply en_app) <;> fail)), fun _ s => s, ?_⟩
          refine RS_e (RE_eff rfl rfl rfl (eff_append rfl rfl (by repeat' first | exact Pick.here | apply Pick.skip) ((by repeat' first | exact hr _ | apply Rc.skip)) ((flat_one _)) (by rfl) (by decide) (by first | omega | (simp; done) | (simp; omega)) (by first | omega | (simp; done) | (simp; omega))) ?_); rintro _ _ ⟨A28, c28, rfl, hc28, hm28, hn28, rfl⟩; refine ⟨_, (by first | ((repeat first | exact fun _ s => s | apply en_keep | apply en_drop | apply en_app) <;> fail) | ((repeat first | exact en_refl | (apply en_blk; focus ((repeat' first | exact Pick.here | apply Pick.skip | apply Pick.app); done); focus rfl) | (apply en_own; focus ((repeat' first | exact Pick.here | apply Pick.skip | apply Pick.app); done); focus rfl) | (apply en_pick; focus ((repeat' first | exact Pick.here | apply Pick.skip | apply Pick.app); done)) | apply en_drop | apply en_app) <;> fail)), fun _ s => s, ?_⟩
          refine RS_e (RE_eff rfl rfl rfl (eff_append rfl rfl (by repeat' first | exact Pick.here | apply Pick.skip) (by repeat' first | exact Rc.blk rfl | assumption | apply Rc.skip) (one_all rfl) (by rfl) (by decide) (by first | omega | (simp; done) | (simp; omega)) (by first | omega | (simp; done) | (simp; omega))) ?_); rintro _ _ ⟨A31, c31, rfl, hc31, hm31, hn31, rfl⟩; refine ⟨_, (by first | ((repeat first | exact fun _ s => s | apply en_keep | apply en_drop | apply en_app) <;> fail) | ((repeat first | exact en_refl | (apply en_blk; focus ((repeat' first | exact Pick.here | apply Pick.skip | apply Pick.app); done); focus rfl) | (apply en_own; focus ((repeat' first | exact Pick.here | apply Pick.skip | apply Pick.app); done); focus rfl) | (apply en_pick; focus ((repeat' first | exact Pick.here | apply Pick.skip | apply Pick.app); done)) | apply en_drop | apply en_app) <;> fail)), fun _ s => s, ?_⟩
          (first | refine RS_m retB_noPanic rfl rfl rfl rfl (ev_nilCheck rfl) ?_ | refine RS_m retB_noPanic rfl rfl rfl rfl (ev_nilCheckF (by simp) rfl) ?_)
          refine RS_m retB_noPanic rfl rfl rfl rfl (ev_fieldAddr rfl) ?_
          refine RS_e (RE_cmp (by kernel_rfl) rfl rfl rfl (eff_store rfl rfl rfl (by repeat' first | exact Upd.here rfl | apply Upd.skip | apply Upd.app)) ?_); rintro _ _ ⟨rfl, rfl⟩
          refine RS_nil ?_
        case' x126_0 =>
          refine RE_eff rfl rfl rfl eff_buildSlice0 ?_; rintro _ _ ⟨b23, rfl, rfl⟩; refine ⟨_, (by first | ((repeat first | exact fun _ s => s | apply en_keep | apply en_drop | apply en_app) <;> fail) | ((repeat first | exact en_refl | (apply en_blk; focus ((repeat' first | exact Pick.here | apply Pick.skip | apply Pick.app); done); focus rfl) | (apply en_own; focus ((repeat' first | exact Pick.here | apply Pick.skip | apply Pick.app); done); focus rfl) | (apply en_pick; focus ((repeat' first | exact Pick.here | apply Pick.skip | apply Pick.app); done)) | apply en_drop | apply en_app) <;> fail)), fun _ s => s, ?_⟩
          refine RS_br ?x127_0 ?x127_1
          case' x127_1 =>
            refine RE_eff rfl rfl rfl (eff_buildSlice1 (by rfl) rfl rfl) ?_; rintro _ _ ⟨b30, rfl, rfl⟩; refine ⟨_, (by first | ((repeat first | exact fun _ s => s | apply en_keep | apply en_drop | apply en_app) <;> fail) | ((repeat first | exact en_refl | (apply en_blk; focus ((repeat' first | exact Pick.here | apply Pick.skip | apply Pick.app); done); focus rfl) | (apply en_own; focus ((repeat' first | exact Pick.here | apply Pick.skip | apply Pick.app); done); focus rfl) | (apply en_pick; focus ((repeat' first | exact Pick.here | apply Pick.skip | apply Pick.app); done)) | apply en_drop | apply en_app) <;> fail)), fun _ s => s, ?_⟩
            refine RS_e (RE_eff rfl rfl rfl (eff_append rfl rfl (by repeat' first | exact Pick.here | apply Pick.skip) ((by repeat' first | exact hr _ | apply Rc.skip)) ((flat_one _)) (by rfl) (by decide) (by first | omega | (simp; done) | (simp; omega)) (by first | omega | (simp; done) | (simp; omega))) ?_); rintro _ _ ⟨A28, c28, rfl, hc28, hm28, hn28, rfl⟩; refine ⟨_, (by first | ((repeat first | exact fun _ s => s | apply en_keep | apply en_drop | apply en_app) <;> fail) | ((repeat first | exact en_refl | (apply en_blk; focus ((repeat' first | exact Pick.here | apply Pick.skip | apply Pick.app); done); focus rfl) | (apply en_own; focus ((repeat' first | exact Pick.here | apply Pick.skip | apply Pick.app); done); focus rfl) | (apply en_pick; focus ((repeat' first | exact Pick.here | apply Pick.skip | apply Pick.app); done)) | apply en_drop | apply en_app) <;> fail)), fun _ s => s, ?_⟩
            refine RS_e (RE_eff rfl rfl rfl (eff_append rfl rfl (by repeat' first | exact Pick.here | apply Pick.skip) (by repeat' first | exact Rc.blk rfl | assumption | apply Rc.skip) (one_all rfl) (by rfl) (by decide) (by first | omega | (simp; done) | (simp; omega)) (by first | omega | (simp; done) | (simp; omega))) ?_); rintro _ _ ⟨A31, c31, rfl, hc31, hm31, hn31, rfl⟩; refine ⟨_, (by first | ((repeat first | exact fun _ s => s | apply en_keep | apply en_drop | apply en_app) <;> fail) | ((repeat first | exact en_refl | (apply en_blk; focus ((repeat' first | exact Pick.here | apply Pick.skip | apply Pick.app); done); focus rfl) | (apply en_own; focus ((repeat' first | exact Pick.here | apply Pick.skip | apply Pick.app); done); focus rfl) | (apply en_pick; focus ((repeat' first | exact Pick.here | apply Pick.skip | apply Pick.app); done)) | apply en_drop | apply en_app) <;> fail)), fun _ s => s, ?_⟩
            (first | refine RS_m retB_noPanic rfl rfl rfl rfl (ev_nilCheck rfl) ?_ | refine RS_m retB_noPanic rfl rfl rfl rfl (ev_nilCheckF (by simp) rfl) ?_)
            refine RS_m retB_noPanic rfl rfl rfl rfl (ev_fieldAddr rfl) ?_
            refine RS_e (RE_cmp (by kernel_rfl) rfl rfl rfl (eff_store rfl rfl rfl (by repeat' first | exact Upd.here rfl | apply Upd.skip | apply Upd.app)) ?_); rintro _ _ ⟨rfl, rfl⟩
            refine RS_nil ?_
          case' x127_0 =>
            refine RE_eff rfl rfl rfl (eff_append rfl rfl (by repeat' first | exact Pick.here | apply Pick.skip) ((by repeat' first | exact hr _ | apply Rc.skip)) ((flat_one _)) (by rfl) (by decide) (by first | omega | (simp; done) | (simp; omega)) (by first | omega | (simp; done) | (simp; omega))) ?_; rintro _ _ ⟨A28, c28, rfl, hc28, hm28, hn28, rfl⟩; refine ⟨_, (by first | ((repeat first | exact fun _ s => s | apply en_keep | apply en_drop | apply en_app) <;> fail) | ((repeat first | exact en_refl | (apply en_blk; focus ((repeat' first | exact Pick.here | apply Pick.skip | apply Pick.app); done); focus rfl) | (apply en_own; focus ((repeat' first | exact Pick.here | apply Pick.skip | apply Pick.app); done); focus rfl) | (apply en_pick; focus ((repeat' first | exact Pick.here | apply Pick.skip | apply Pick.app); done)) | apply en_drop | apply en_app) <;> fail)), fun _ s => s, ?_⟩
            refine RS_e (RE_eff rfl rfl rfl (eff_buildSlice1 (by rfl) rfl rfl) ?_); rintro _ _ ⟨b30, rfl, rfl⟩; refine ⟨_, (by first | ((repeat first | exact fun _ s => s | apply en_keep | apply en_drop | apply en_app) <;> fail) | ((repeat first | exact en_refl | (apply en_blk; focus ((repeat' first | exact Pick.here | apply Pick.skip | apply Pick.app); done); focus rfl) | (apply en_own; focus ((repeat' first | exact Pick.here | apply Pick.skip | apply Pick.app); done); focus rfl) | (apply en_pick; focus ((repeat' first | exact Pick.here | apply Pick.skip | apply Pick.app); done)) | apply en_drop | apply en_app) <;> fail)), fun _ s => s, ?_⟩
            refine RS_e (RE_eff rfl rfl rfl (eff_append rfl rfl (by repeat' first | exact Pick.here | apply Pick.skip) (by repeat' first | exact Rc.blk rfl | assumption | apply Rc.skip) (one_all rfl) (by rfl) (by decide) (by first | omega | (simp; done) | (simp; omega)) (by first | omega | (simp; done) | (simp; omega))) ?_); rintro _ _ ⟨A31, c31, rfl, hc31, hm31, hn31, rfl⟩; refine ⟨_, (by first | ((repeat first | exact fun _ s => s | apply en_keep | apply en_drop | apply en_app) <;> fail) | ((repeat first | exact en_refl | (apply en_blk; focus ((repeat' first | exact Pick.here | apply Pick.skip | apply Pick.app); done); focus rfl) | (apply en_own; focus ((repeat' first | exact Pick.here | apply Pick.skip | apply Pick.app); done); focus rfl) | (apply en_pick; focus ((repeat' first | exact Pick.here | apply Pick.skip | apply Pick.app); done)) | apply en_drop | apply en_app) <;> fail)), fun _ s => s, ?_⟩
            (first | refine RS_m retB_noPanic rfl rfl rfl rfl (ev_nilCheck rfl) ?_ | refine RS_m retB_noPanic rfl rfl rfl rfl (ev_nilCheckF (by simp) rfl) ?_)
            refine RS_m retB_noPanic rfl rfl rfl rfl (ev_fieldAddr rfl) ?_
            refine RS_e (RE_cmp (by kernel_rfl) rfl rfl rfl (eff_store rfl rfl rfl (by repeat' first | exact Upd.here rfl | apply Upd.skip | apply Upd.app)) ?_); rintro _ _ ⟨rfl, rfl⟩
            refine RS_nil ?_
        all_goals
          have nn : 0 + k.length + 1 = (k ++ [p]).length := by simp
          rw [nn] at hc31 hn31
          rw [nn]
          (repeat first | refine G_seq ?_ | refine G_skip ?_ | refine G_endblk ?_ | refine G_block ?_ | refine G_exit rfl ?_)
          refine G_region ?_
          refine GO_q rfl rfl (ev_assign rfl) ?_
          refine GO_nil ?_
          (repeat first | refine G_seq ?_ | refine G_skip ?_ | refine G_endblk ?_ | refine G_block ?_ | refine G_exit rfl ?_)
          refine G_ret (L' := blk b T (.slice A31 (k ++ [p]).length c31 :: .int .i64 most :: ext) :: own 24 3 A31 (k ++ [p]).length c31 (flat (k ++ [p])) :: M) rfl (.tmp rfl .nil) ?_ ⟨rfl, A31, c31, ⟨hn31, hc31⟩, rfl⟩
          apply en_pick
          focus ((repeat' first | exact Pick.here | apply Pick.skip | apply Pick.app); done)
          refine en_blk (by repeat' first | exact Pick.here | apply Pick.skip | apply Pick.app) rfl (en_own (by repeat' first | exact Pick.here | apply Pick.skip | apply Pick.app) (by rw [flat_append]; rfl) (by (repeat first | exact fun _ s => s | apply en_keep | apply en_drop | apply en_app) <;> fail))
theorem sDelete_ctr (b : Nat) (T : TypeId) (ext : List Value) (A : Option Addr) (c : Nat) (most : Int) (k : List Pt) (p : Pt) (M : List HP) (ha : AdOk A c k) (hn : k.length ≤ 10000) :
    Ctr Tryz.prog 53 #[.pointer (some ⟨b, 0, none⟩), p.v] (blk b T (.slice A k.length c :: .int .i64 most :: ext) :: own 24 3 A k.length c (flat k) :: M) fun v L' => v = .int .i64 (delE k p) ∧ ∃ A' c', AdOk A' c' (k.erase p) ∧ L' = blk b T (.slice A' (k.erase p).length c' :: .int .i64 most :: ext) :: own 24 3 A' (k.erase p).length c' (flat (k.erase p)) :: M := by
  have hb : ∀ L', LdN (blk b T (.slice A k.length c :: .int .i64 most :: ext) :: L') b 0 2 [.slice A k.length c, .int .i64 most] := fun L' => LdN.blk (by cases ext <;> rfl)
  have hr : ∀ L', Rd (own 24 3 A k.length c (flat k) :: L') A k.length k := fun L' => Rc.own (flat_length k) ha.1
  have hb1 : ∀ L', Ld (blk b T (.slice A k.length c :: .int .i64 most :: ext) :: L') ⟨b, 0 + 0, none⟩ (.slice A k.length c) := fun L' => Ld.blk rfl
  have hac := ha.2
  have hAt := fun L h h' => sAt_ctr b A c most k p L h h' (by omega)
  by_cases hp : p ∈ k
  · have e1 : delE k p = 0 := if_pos hp
    have e2 := erase_at p k hp
    have e3 : atS k p = (k.idxOf p : Nat) := by unfold atS; rw [if_pos hp]
    have e4 : k.idxOf p < k.length := List.idxOf_lt_length_iff.2 hp
    rw [e1, ← e2]
    rw [e3] at hAt
    generalize k.idxOf p = j at *
    obtain ⟨ab, rfl⟩ := ha.1 (by omega)
    have e5 : j ≤ k.length := by omega
    have e6 : j + 1 ≤ k.length := by omega
    have m1 : ∀ L', Rc (own 24 3 (some ⟨ab, 0, none⟩) k.length c (flat k) :: L') 3 (some ⟨ab, 0, none⟩) j (flat (k.take j)) := fun L' => (hr L').take e5
    have m2 : ∀ L', Rc (own 24 3 (some ⟨ab, 0, none⟩) k.length c (flat k) :: L') 3 (some ⟨ab, (if c = j + 1 then 0 else 0 + (j + 1) * 3), none⟩) (k.length - (j + 1)) (flat (k.drop (j + 1))) := fun L' => (hr L').drop e6 hac
    refine Ctr_of (fn := Tryz.f53) (n := 30) Tryz.func53 rfl rfl rfl ?_
    intro g F
    (repeat first | refine G_seq ?_ | refine G_skip ?_ | refine G_endblk ?_ | refine G_block ?_ | refine G_exit rfl ?_)
    refine G_region ?_
    refine GO_eff rfl rfl (eff_box rfl) ?_; rintro _ _ ⟨b3, rfl, rfl⟩
    refine GO_q rfl rfl (ev_assign rfl) ?_
    refine GO_nil ?_
    (repeat first | refine G_seq ?_ | refine G_skip ?_ | refine G_endblk ?_ | refine G_block ?_ | refine G_exit rfl ?_)
    refine G_region ?_
    refine GO_q rfl rfl (ev_move rfl) ?_
    refine GO_q rfl rfl (ev_loadN rfl (by repeat' first | exact LdN.blk rfl | assumption | apply LdN.skip | apply LdN.app)) ?_
    refine GO_eff rfl rfl (eff_call rfl (hAt _ (by repeat' first | exact hb _ | apply LdN.skip) (by repeat' first | exact hr _ | apply Rd.skip))) ?_; rintro _ _ ⟨rfl, rfl⟩
    refine GO_q rfl rfl (ev_assign rfl) ?_
    refine GO_nil ?_
    (repeat first | refine G_seq ?_ | refine G_skip ?_ | refine G_endblk ?_ | refine G_block ?_ | refine G_exit rfl ?_)
    refine G_region ?_
    refine GO_q rfl rfl (ev_move rfl) ?_
    (first | refine GO_q rfl rfl (ev_lssN (q := 0) rfl rfl) ?_ | refine GO_q rfl rfl (ev_lss rfl rfl) ?_)
    refine GO_nil ?_
    (repeat first | refine G_seq ?_ | refine G_skip ?_ | refine G_endblk ?_ | refine G_block ?_ | refine G_exit rfl ?_)
    refine G_cond_f rfl (decide_eq_false (by omega)) ?_
    (repeat first | refine G_seq ?_ | refine G_skip ?_ | refine G_endblk ?_ | refine G_block ?_ | refine G_exit rfl ?_)
    refine G_draw (.q 0 (.q 2 (.q 3 (.q 4 (.q 5 (.q 6 (.q 7 (.q 9 (.q 10 (.q 11 (.q 12 (.q 13 (.q 14 (.q 15 (.e 1 (.e 8 (.e 16 (.q 17 (.q 18 (.e 19 .nil)))))))))))))))))))) (by kernel_rfl) (by kernel_rfl) ?_
    refine RS_m retB_noPanic rfl rfl rfl rfl (ev_move rfl) ?_
    refine RS_m retB_noPanic rfl rfl rfl rfl (ev_move rfl) ?_
    (first | refine RS_m retB_noPanic rfl rfl rfl rfl (ev_nilCheck rfl) ?_ | refine RS_m retB_noPanic rfl rfl rfl rfl (ev_nilCheckF (by simp) rfl) ?_)
    refine RS_m retB_noPanic rfl rfl rfl rfl (ev_fieldAddr rfl) ?_
    refine RS_q retB_noPanic rfl rfl rfl rfl (ev_load rfl (by repeat' first | exact hb1 _ | apply Ld.skip)) ?_
    refine RS_m retB_noPanic rfl rfl rfl rfl (ev_move rfl) ?_
    refine RS_q retB_noPanic rfl rfl rfl rfl (ev_sliceH rfl rfl (by first | omega | (simp; done) | (simp; omega))) ?_
    refine RS_m retB_noPanic rfl rfl rfl rfl (ev_move rfl) ?_
    (first | refine RS_m retB_noPanic rfl rfl rfl rfl (ev_nilCheck rfl) ?_ | refine RS_m retB_noPanic rfl rfl rfl rfl (ev_nilCheckF (by simp) rfl) ?_)
    refine RS_m retB_noPanic rfl rfl rfl rfl (ev_fieldAddr rfl) ?_
    refine RS_q retB_noPanic rfl rfl rfl rfl (ev_load rfl (by repeat' first | exact hb1 _ | apply Ld.skip)) ?_
    refine RS_m retB_noPanic rfl rfl rfl rfl (ev_move rfl) ?_
    (first | refine RS_m retB_noPanic rfl rfl rfl rfl (ev_addN (q := 1) rfl rfl (by first | omega | (simp; done) | (simp; omega))) ?_ | refine RS_m retB_noPanic rfl rfl rfl rfl (ev_add rfl rfl (by first | omega | (simp; done) | (simp; omega))) ?_)
    refine RS_q retB_noPanic rfl rfl rfl rfl (ev_sliceL rfl rfl (by first | omega | (simp; done) | (simp; omega)) (by first | omega | (simp; done) | (simp; omega))) ?_
    refine RS_e (RE_eff rfl rfl rfl eff_buildSlice0 ?_); rintro _ _ ⟨b12, rfl, rfl⟩; refine ⟨_, (by first | ((repeat first | exact fun _ s => s | apply en_keep | apply en_drop | apply en_app) <;> fail) | ((repeat first | exact en_refl | (apply en_blk; focus ((repeat' first | exact Pick.here | apply Pick.skip | apply Pick.app); done); focus rfl) | (apply en_own; focus ((repeat' first | exact Pick.here | apply Pick.skip | apply Pick.app); done); focus rfl) | (apply en_pick; focus ((repeat' first | exact Pick.here | apply Pick.skip | apply Pick.app); done)) | apply en_drop | apply en_app) <;> fail)), fun _ s => s, ?_⟩
    refine RS_e (RE_eff rfl rfl rfl (eff_append rfl rfl (by repeat' first | exact Pick.here | apply Pick.skip) ((by repeat' first | exact m1 _ | apply Rc.skip)) ((flat_one _)) (by rfl) (by decide) (by first | omega | (simp; done) | (simp; omega)) (by first | omega | (simp; done) | (simp; omega))) ?_); rintro _ _ ⟨A19, c19, rfl, hc19, hm19, hn19, rfl⟩; refine ⟨_, (by first | ((repeat first | exact fun _ s => s | apply en_keep | apply en_drop | apply en_app) <;> fail) | ((repeat first | exact en_refl | (apply en_blk; focus ((repeat' first | exact Pick.here | apply Pick.skip | apply Pick.app); done); focus rfl) | (apply en_own; focus ((repeat' first | exact Pick.here | apply Pick.skip | apply Pick.app); done); focus rfl) | (apply en_pick; focus ((repeat' first | exact Pick.here | apply Pick.skip | apply Pick.app); done)) | apply en_drop | apply en_app) <;> fail)), fun _ s => s, ?_⟩
    refine RS_e (RE_eff rfl rfl rfl (eff_append rfl rfl (by repeat' first | exact Pick.here | apply Pick.skip) ((by repeat' first | exact m2 _ | apply Rc.skip)) ((flat_one _)) (by rfl) (by decide) (by first | omega | (simp; done) | (simp; omega)) (by first | omega | (simp; done) | (simp; omega))) ?_); rintro _ _ ⟨A27, c27, rfl, hc27, hm27, hn27, rfl⟩; refine ⟨_, (by first | ((repeat first | exact fun _ s => s | apply en_keep | apply en_drop | apply en_app) <;> fail) | ((repeat first | exact en_refl | (apply en_blk; focus ((repeat' first | exact Pick.here | apply Pick.skip | apply Pick.app); done); focus rfl) | (apply en_own; focus ((repeat' first | exact Pick.here | apply Pick.skip | apply Pick.app); done); focus rfl) | (apply en_pick; focus ((repeat' first | exact Pick.here | apply Pick.skip | apply Pick.app); done)) | apply en_drop | apply en_app) <;> fail)), fun _ s => s, ?_⟩
    (first | refine RS_m retB_noPanic rfl rfl rfl rfl (ev_nilCheck rfl) ?_ | refine RS_m retB_noPanic rfl rfl rfl rfl (ev_nilCheckF (by simp) rfl) ?_)
    refine RS_m retB_noPanic rfl rfl rfl rfl (ev_fieldAddr rfl) ?_
    refine RS_e (RE_last (by kernel_rfl) rfl rfl rfl (eff_store rfl rfl rfl (by repeat' first | exact Upd.here rfl | apply Upd.skip | apply Upd.app)) ?_); rintro _ _ ⟨rfl, rfl⟩
    all_goals
      have nn : 0 + j + (k.length - (j + 1)) = (k.take j ++ k.drop (j + 1)).length := by simp; omega
      rw [nn] at hc27 hn27
      rw [nn]
      (repeat first | refine G_seq ?_ | refine G_skip ?_ | refine G_endblk ?_ | refine G_block ?_ | refine G_exit rfl ?_)
      refine G_region ?_
      refine GO_q rfl rfl (ev_assign rfl) ?_
      refine GO_nil ?_
      (repeat first | refine G_seq ?_ | refine G_skip ?_ | refine G_endblk ?_ | refine G_block ?_ | refine G_exit rfl ?_)
      refine G_ret (L' := blk b T (.slice A27 (k.take j ++ k.drop (j + 1)).length c27 :: .int .i64 most :: ext) :: own 24 3 A27 (k.take j ++ k.drop (j + 1)).length c27 (flat (k.take j ++ k.drop (j + 1))) :: M) rfl (.tmp rfl .nil) ?_ ⟨rfl, A27, c27, ⟨hn27, hc27⟩, rfl⟩
      apply en_pick
      focus ((repeat' first | exact Pick.here | apply Pick.skip | apply Pick.app); done)
      refine en_blk (by repeat' first | exact Pick.here | apply Pick.skip | apply Pick.app) rfl (en_own (by repeat' first | exact Pick.here | apply Pick.skip | apply Pick.app) (by rw [flat_append]; rfl) (by (repeat first | exact fun _ s => s | apply en_keep | apply en_drop | apply en_app) <;> fail))
  · have e1 : delE k p = 6 := if_neg hp
    have e3 : atS k p = -1 := by unfold atS; rw [if_neg hp]
    rw [e1, List.erase_of_not_mem hp]
    rw [e3] at hAt
    refine Ctr_of (fn := Tryz.f53) (n := 30) Tryz.func53 rfl rfl rfl ?_
    intro g F
    (repeat first | refine G_seq ?_ | refine G_skip ?_ | refine G_endblk ?_ | refine G_block ?_ | refine G_exit rfl ?_)
    refine G_region ?_
    refine GO_eff rfl rfl (eff_box rfl) ?_; rintro _ _ ⟨b3, rfl, rfl⟩
    refine GO_q rfl rfl (ev_assign rfl) ?_
    refine GO_nil ?_
    (repeat first | refine G_seq ?_ | refine G_skip ?_ | refine G_endblk ?_ | refine G_block ?_ | refine G_exit rfl ?_)
    refine G_region ?_
    refine GO_q rfl rfl (ev_move rfl) ?_
    refine GO_q rfl rfl (ev_loadN rfl (by repeat' first | exact LdN.blk rfl | assumption | apply LdN.skip | apply LdN.app)) ?_
    refine GO_eff rfl rfl (eff_call rfl (hAt _ (by repeat' first | exact hb _ | apply LdN.skip) (by repeat' first | exact hr _ | apply Rd.skip))) ?_; rintro _ _ ⟨rfl, rfl⟩
    refine GO_q rfl rfl (ev_assign rfl) ?_
    refine GO_nil ?_
    (repeat first | refine G_seq ?_ | refine G_skip ?_ | refine G_endblk ?_ | refine G_block ?_ | refine G_exit rfl ?_)
    refine G_region ?_
    refine GO_q rfl rfl (ev_move rfl) ?_
    (first | refine GO_q rfl rfl (ev_lssN (q := 0) rfl rfl) ?_ | refine GO_q rfl rfl (ev_lss rfl rfl) ?_)
    refine GO_nil ?_
    (repeat first | refine G_seq ?_ | refine G_skip ?_ | refine G_endblk ?_ | refine G_block ?_ | refine G_exit rfl ?_)
    refine G_cond_t rfl (decide_eq_true (by omega)) ?_
    (repeat first | refine G_seq ?_ | refine G_skip ?_ | refine G_endblk ?_ | refine G_block ?_ | refine G_exit rfl ?_)
    refine G_region ?_
    refine GO_q rfl rfl (ev_assign rfl) ?_
    refine GO_nil ?_
    (repeat first | refine G_seq ?_ | refine G_skip ?_ | refine G_endblk ?_ | refine G_block ?_ | refine G_exit rfl ?_)
    exact G_ret (L' := blk b T (.slice A k.length c :: .int .i64 most :: ext) :: own 24 3 A k.length c (flat k) :: M) rfl (.tmp rfl .nil) (by (repeat first | exact en_refl | (apply en_blk; focus ((repeat' first | exact Pick.here | apply Pick.skip | apply Pick.app); done); focus rfl) | (apply en_own; focus ((repeat' first | exact Pick.here | apply Pick.skip | apply Pick.app); done); focus rfl) | (apply en_pick; focus ((repeat' first | exact Pick.here | apply Pick.skip | apply Pick.app); done)) | apply en_drop | apply en_app) <;> fail) ⟨rfl, A, c, ha, rfl⟩
/-- Something that was made, of which no more is told than how it reads. -/
def MadeQ {α : Type} [E : Enc α] (l : List α) (L : List HP) (v : Value) (L' : List HP) : Prop := ∃ (Y : HP) (A : Option Addr) (c : Nat), v = .slice A l.length c ∧ l.length ≤ c ∧ c ≤ maxLen ∧ (∀ L, Rd (Y :: L) A l.length l) ∧ L' = Y :: L
theorem Ctr.q {P : Program} {f : FuncId} {args : Array Value} {L : List HP} {α : Type} [E : Enc α] {l : List α} (h : Ctr P f args L fun v L' => ∃ A' c' N, v = .slice A' l.length c' ∧ l.length ≤ c' ∧ c' ≤ maxLen ∧ L' = N ++ L ∧ Rd (N ++ []) A' l.length l) : Ctr P f args L fun v L' => MadeQ l L v L' :=
  h.post' fun v L' hm ⟨A, c, X, e1, e2, e3, e4, e5⟩ s => ⟨_, ⟨fun h => sat X h, A, c, e1, e2, e3, fun L => Rc.ofI (fun _ h => by rw [List.append_nil]; exact h) e5, rfl⟩, sat.join (e4 ▸ s)⟩
theorem idsF_succ (f : Pt → Bool) (l : List Pt) (k : Nat) (h : k < l.length) : idsOf ((l.take (k + 1)).filter f) = idsOf ((l.take k).filter f) ++ if f l[k] = true then [l[k].id] else [] := by
  unfold idsOf
  rw [List.take_succ_eq_append_getElem h, List.filter_append, List.map_append]
  split <;> simp_all
/-- Rising, of a list of the call's own. -/
theorem risingQ_ctr (O : Option Addr) (e : Nat) (zs : List Int) (L : List HP) (h : 0 < zs.length → ∃ b, O = some ⟨b, 0, none⟩) (hn : zs.length ≤ 10000) : Ctr Tryz.prog 31 #[.slice O zs.length e] (own 3 1 O zs.length e (flat zs) :: L) fun v L' => ∃ A' c' N, v = .slice A' (srt zs).length c' ∧ (srt zs).length ≤ c' ∧ c' ≤ maxLen ∧ L' = N ++ L ∧ Rd (N ++ []) A' (srt zs).length (srt zs) := by
  have hr := rising_srt zs zs (.refl _)
  have c := Rising_ctr O zs.length e zs [own 3 1 O zs.length e (flat zs)] (Rc.own (flat_length zs) h) (by omega)
  rw [hr] at c
  refine (Ctr.frame L c (fun _ s => s.perm (List.perm_append_comm (l₁ := [_])))).post' fun v L' hm ⟨L1, ⟨A, d, N, e1, e2, e3, e4, e5⟩, e6⟩ s => ?_
  subst e4 e6
  refine ⟨(N ++ [own 3 1 O zs.length e (flat zs)]) ++ L, ⟨A, d, _, e1, e2, e3, rfl, by rw [List.append_nil]; exact e5⟩, ?_⟩
  exact s.perm List.perm_append_comm
theorem sOverlap_ctr (b : Nat) (A : Option Addr) (c : Nat) (k : List Pt) (most : Int) (lo hi : Int) (L : List HP) (h : LdN L b 0 2 [.slice A k.length c, .int .i64 most]) (hl : Rd L A k.length k) (hn : k.length ≤ 1000) :
    Ctr Tryz.prog 17 #[.pointer (some ⟨b, 0, none⟩), .int .i64 lo, .int .i64 hi] L fun v L' => MadeQ (overK k lo hi) L v L' := by
  have h1 : Ld L ⟨b, 0 + 0, none⟩ (.slice A k.length c) := h.at_ (i := 0) rfl
  refine Ctr.q ?_
  unfold overK
  generalize hf : (fun s : Pt => decide (lo ≤ hi ∧ s.x ≤ hi ∧ lo ≤ s.y)) = f
  have hfu : ∀ u : Pt, f u = decide (lo ≤ hi ∧ u.x ≤ hi ∧ lo ≤ u.y) := fun u => by rw [← hf]
  refine Ctr_of (fn := Tryz.f17) (n := 59) Tryz.func17 rfl rfl rfl ?_
  intro g F
  (repeat first | refine G_seq ?_ | refine G_skip ?_ | refine G_endblk ?_ | refine G_block ?_ | refine G_exit rfl ?_)
  refine G_region ?_
  refine GO_q rfl rfl (ev_assign rfl) ?_
  refine GO_nil ?_
  (repeat first | refine G_seq ?_ | refine G_skip ?_ | refine G_endblk ?_ | refine G_block ?_ | refine G_exit rfl ?_)
  refine G_region ?_
  refine GO_eff rfl rfl eff_buildSlice0 ?_; rintro _ _ ⟨b9, rfl, rfl⟩
  refine GO_q rfl rfl (ev_assign rfl) ?_
  refine GO_nil ?_
  (repeat first | refine G_seq ?_ | refine G_skip ?_ | refine G_endblk ?_ | refine G_block ?_ | refine G_exit rfl ?_)
  refine G_region ?_
  refine GO_q rfl rfl (ev_assign rfl) ?_
  refine GO_nil ?_
  (repeat first | refine G_seq ?_ | refine G_skip ?_ | refine G_endblk ?_ | refine G_block ?_ | refine G_exit rfl ?_)
  refine G_loop (ι := Nat × Option Addr × Nat × List Int) (fun y => [(0, .pointer (some ⟨b, 0, none⟩)), (1, .int .i64 lo), (2, .int .i64 hi), (7, .slice y.2.1 y.2.2.2.length y.2.2.1), (8, .int .i64 (y.1 : Nat))]) (fun y => own 3 1 y.2.1 y.2.2.2.length y.2.2.1 (flat y.2.2.2) :: F :: L)
    (fun y => y.1 ≤ k.length ∧ y.2.2.2 = idsOf ((k.take y.1).filter f) ∧ y.2.2.2.length ≤ y.1 ∧ (0 < y.2.2.2.length → ∃ b, y.2.1 = some ⟨b, 0, none⟩)) (fun y => k.length - y.1) (0, some ⟨b9, 0, none⟩, 0, []) ⟨Nat.zero_le _, by simp [idsOf], Nat.le_refl _, fun _ => ⟨_, rfl⟩⟩ ⟨rfl, rfl, rfl, rfl, rfl, trivial⟩ (by (repeat first | exact fun _ s => s | apply en_keep | apply en_drop | apply en_app) <;> fail) ?_
  rintro ⟨i, O, e, zs⟩ ⟨f1, f2, f3, f6⟩
  simp only at f1 f2 f3 f6
  dsimp only
  (repeat first | refine G_seq ?_ | refine G_skip ?_ | refine G_endblk ?_ | refine G_block ?_ | refine G_exit rfl ?_)
  refine G_region ?_
  refine GO_q rfl rfl (ev_move rfl) ?_
  refine GO_q rfl rfl (ev_move rfl) ?_
  (first | refine GO_q rfl rfl (ev_nilCheck rfl) ?_ | refine GO_q rfl rfl (ev_nilCheckF (by simp) rfl) ?_)
  refine GO_q rfl rfl (ev_fieldAddr rfl) ?_
  refine GO_q rfl rfl (ev_load rfl (by repeat' first | exact Ld.blk rfl | assumption | apply Ld.skip | apply Ld.app)) ?_
  refine GO_q rfl rfl (ev_len rfl) ?_
  (first | refine GO_q rfl rfl (ev_lssN rfl rfl) ?_ | refine GO_q rfl rfl (ev_lss rfl rfl) ?_)
  refine GO_nil ?_
  (repeat first | refine G_seq ?_ | refine G_skip ?_ | refine G_endblk ?_ | refine G_block ?_ | refine G_exit rfl ?_)
  refine G_cond rfl (fun h4 => ?_) (fun h4 => ?_)
  · obtain ⟨lb, lo', rfl, hx⟩ := hl.at_ (by omega)
    have g1 : k[i]? = some k[i] := List.getElem?_eq_getElem (by omega)
    have y1 := hx _ _ g1
    have s1 := idsF_succ f k i (by omega)
    have hfk := hfu k[i]
    generalize k[i] = u at *
    have z0 : Ld L ⟨lb, lo' + i * 3 + 0, none⟩ (.int .i64 u.id) := y1.at_ (i := 0) rfl
    have z1 : Ld L ⟨lb, lo' + i * 3 + 1, none⟩ (.int .i64 u.x) := y1.at_ (i := 1) rfl
    have z2 : Ld L ⟨lb, lo' + i * 3 + 2, none⟩ (.int .i64 u.y) := y1.at_ (i := 2) rfl
    have no : f u = false → zs = idsOf ((k.take (i + 1)).filter f) := fun h => by rw [s1, f2, h]; simp
    by_cases k1 : lo ≤ hi
    · by_cases k2 : u.x ≤ hi
      · by_cases k3 : lo ≤ u.y
        · have hv : f u = true := by rw [hfk]; exact decide_eq_true ⟨k1, k2, k3⟩
          rw [if_pos hv] at s1
          (repeat first | refine G_seq ?_ | refine G_skip ?_ | refine G_endblk ?_ | refine G_block ?_ | refine G_exit rfl ?_)
          refine G_region ?_
          refine GO_q rfl rfl (ev_move rfl) ?_
          refine GO_q rfl rfl (ev_move rfl) ?_
          refine GO_q rfl rfl (ev_leq rfl rfl) ?_
          refine GO_q rfl rfl (ev_move rfl) ?_
          refine GO_yes rfl rfl rfl (decide_eq_true k1) ?_
          refine GO_q rfl rfl (ev_move rfl) ?_
          refine GO_yes rfl rfl rfl (decide_eq_true k1) ?_
          (first | refine GO_q rfl rfl (ev_nilCheck rfl) ?_ | refine GO_q rfl rfl (ev_nilCheckF (by simp) rfl) ?_)
          refine GO_yes rfl rfl rfl (decide_eq_true k1) ?_
          refine GO_q rfl rfl (ev_fieldAddr rfl) ?_
          refine GO_yes rfl rfl rfl (decide_eq_true k1) ?_
          refine GO_q rfl rfl (ev_load rfl (by repeat' first | exact Ld.blk rfl | assumption | apply Ld.skip | apply Ld.app)) ?_
          refine GO_yes rfl rfl rfl (decide_eq_true k1) ?_
          refine GO_q rfl rfl (ev_move rfl) ?_
          refine GO_yes rfl rfl rfl (decide_eq_true k1) ?_
          (first | refine GO_q rfl rfl (ev_indexAddrN rfl rfl (by first | omega | (simp; done) | (simp; omega))) ?_ | refine GO_q rfl rfl (ev_indexAddr rfl rfl (by first | omega | (simp; done) | (simp; omega)) (by first | omega | (simp; done) | (simp; omega))) ?_)
          refine GO_yes rfl rfl rfl (decide_eq_true k1) ?_
          refine GO_q rfl rfl (ev_fieldAddr rfl) ?_
          refine GO_yes rfl rfl rfl (decide_eq_true k1) ?_
          refine GO_q rfl rfl (ev_load rfl (by repeat' first | exact Ld.blk rfl | assumption | apply Ld.skip | apply Ld.app)) ?_
          refine GO_yes rfl rfl rfl (decide_eq_true k1) ?_
          refine GO_q rfl rfl (ev_move rfl) ?_
          refine GO_yes rfl rfl rfl (decide_eq_true k1) ?_
          refine GO_q rfl rfl (ev_leq rfl rfl) ?_
          refine GO_q rfl rfl (ev_pick_t rfl (decide_eq_true k1) rfl) ?_
          refine GO_q rfl rfl (ev_move rfl) ?_
          refine GO_yes rfl rfl rfl (decide_eq_true k2) ?_
          refine GO_q rfl rfl (ev_move rfl) ?_
          refine GO_yes rfl rfl rfl (decide_eq_true k2) ?_
          (first | refine GO_q rfl rfl (ev_nilCheck rfl) ?_ | refine GO_q rfl rfl (ev_nilCheckF (by simp) rfl) ?_)
          refine GO_yes rfl rfl rfl (decide_eq_true k2) ?_
          refine GO_q rfl rfl (ev_fieldAddr rfl) ?_
          refine GO_yes rfl rfl rfl (decide_eq_true k2) ?_
          refine GO_q rfl rfl (ev_load rfl (by repeat' first | exact Ld.blk rfl | assumption | apply Ld.skip | apply Ld.app)) ?_
          refine GO_yes rfl rfl rfl (decide_eq_true k2) ?_
          refine GO_q rfl rfl (ev_move rfl) ?_
          refine GO_yes rfl rfl rfl (decide_eq_true k2) ?_
          (first | refine GO_q rfl rfl (ev_indexAddrN rfl rfl (by first | omega | (simp; done) | (simp; omega))) ?_ | refine GO_q rfl rfl (ev_indexAddr rfl rfl (by first | omega | (simp; done) | (simp; omega)) (by first | omega | (simp; done) | (simp; omega))) ?_)
          refine GO_yes rfl rfl rfl (decide_eq_true k2) ?_
          refine GO_q rfl rfl (ev_fieldAddr rfl) ?_
          refine GO_yes rfl rfl rfl (decide_eq_true k2) ?_
          refine GO_q rfl rfl (ev_load rfl (by repeat' first | exact Ld.blk rfl | assumption | apply Ld.skip | apply Ld.app)) ?_
          refine GO_yes rfl rfl rfl (decide_eq_true k2) ?_
          refine GO_q rfl rfl (ev_move rfl) ?_
          refine GO_yes rfl rfl rfl (decide_eq_true k2) ?_
          refine GO_q rfl rfl (ev_geq rfl rfl) ?_
          refine GO_q rfl rfl (ev_pick_t rfl (decide_eq_true k2) rfl) ?_
          refine GO_nil ?_
          (repeat first | refine G_seq ?_ | refine G_skip ?_ | refine G_endblk ?_ | refine G_block ?_ | refine G_exit rfl ?_)
          refine G_cond_t rfl (decide_eq_true k3) ?_
          (repeat first | refine G_seq ?_ | refine G_skip ?_ | refine G_endblk ?_ | refine G_block ?_ | refine G_exit rfl ?_)
          refine G_region ?_
          refine GO_q rfl rfl (ev_move rfl) ?_
          refine GO_q rfl rfl (ev_move rfl) ?_
          (first | refine GO_q rfl rfl (ev_nilCheck rfl) ?_ | refine GO_q rfl rfl (ev_nilCheckF (by simp) rfl) ?_)
          refine GO_q rfl rfl (ev_fieldAddr rfl) ?_
          refine GO_q rfl rfl (ev_load rfl (by repeat' first | exact Ld.blk rfl | assumption | apply Ld.skip | apply Ld.app)) ?_
          refine GO_q rfl rfl (ev_move rfl) ?_
          (first | refine GO_q rfl rfl (ev_indexAddrN rfl rfl (by first | omega | (simp; done) | (simp; omega))) ?_ | refine GO_q rfl rfl (ev_indexAddr rfl rfl (by first | omega | (simp; done) | (simp; omega)) (by first | omega | (simp; done) | (simp; omega))) ?_)
          refine GO_q rfl rfl (ev_fieldAddr rfl) ?_
          refine GO_q rfl rfl (ev_load rfl (by repeat' first | exact Ld.blk rfl | assumption | apply Ld.skip | apply Ld.app)) ?_
          refine GO_eff rfl rfl (eff_buildSlice1 (by rfl) rfl rfl) ?_; rintro _ _ ⟨b55, rfl, rfl⟩
          refine GO_eff rfl rfl (eff_append rfl rfl (by repeat' first | exact Pick.here | apply Pick.skip) (by repeat' first | exact Rc.blk rfl | assumption | apply Rc.skip) (one_all rfl) (by rfl) (by decide) (by first | omega | (simp; done) | (simp; omega)) (by first | omega | (simp; done) | (simp; omega))) ?_; rintro _ _ ⟨A56, c56, rfl, hc56, hm56, hn56, rfl⟩
          refine GO_q rfl rfl (ev_assign rfl) ?_
          refine GO_nil ?_
          (repeat first | refine G_seq ?_ | refine G_skip ?_ | refine G_endblk ?_ | refine G_block ?_ | refine G_exit rfl ?_)
          refine G_region ?_
          refine GO_q rfl rfl (ev_move rfl) ?_
          (first | refine GO_q rfl rfl (ev_addN (q := 1) rfl rfl (by first | omega | (simp; done) | (simp; omega))) ?_ | refine GO_q rfl rfl (ev_add rfl rfl (by first | omega | (simp; done) | (simp; omega))) ?_)
          refine GO_q rfl rfl (ev_assign rfl) ?_
          refine GO_nil ?_
          (repeat first | refine G_seq ?_ | refine G_skip ?_ | refine G_endblk ?_ | refine G_block ?_ | refine G_exit rfl ?_)
          exact G_round (i + 1, A56, c56, zs ++ [u.id]) ⟨by simp only; omega, by rw [s1, f2], by simp; omega, fun _ => hn56 (by omega)⟩ (by simp only; omega) ⟨rfl, rfl, rfl, by simp only [List.length_append, List.length_singleton]; rfl, rfl, trivial⟩ (by
            simp only [List.length_append, List.length_singleton]
            rw [← flat_snoc]
            exact (by (repeat first | exact en_refl | (apply en_blk; focus ((repeat' first | exact Pick.here | apply Pick.skip | apply Pick.app); done); focus rfl) | (apply en_own; focus ((repeat' first | exact Pick.here | apply Pick.skip | apply Pick.app); done); focus rfl) | (apply en_pick; focus ((repeat' first | exact Pick.here | apply Pick.skip | apply Pick.app); done)) | apply en_drop | apply en_app) <;> fail))
        · have hv : f u = false := by rw [hfk]; exact decide_eq_false (fun h => k3 h.2.2)
          (repeat first | refine G_seq ?_ | refine G_skip ?_ | refine G_endblk ?_ | refine G_block ?_ | refine G_exit rfl ?_)
          refine G_region ?_
          refine GO_q rfl rfl (ev_move rfl) ?_
          refine GO_q rfl rfl (ev_move rfl) ?_
          refine GO_q rfl rfl (ev_leq rfl rfl) ?_
          refine GO_q rfl rfl (ev_move rfl) ?_
          refine GO_yes rfl rfl rfl (decide_eq_true k1) ?_
          refine GO_q rfl rfl (ev_move rfl) ?_
          refine GO_yes rfl rfl rfl (decide_eq_true k1) ?_
          (first | refine GO_q rfl rfl (ev_nilCheck rfl) ?_ | refine GO_q rfl rfl (ev_nilCheckF (by simp) rfl) ?_)
          refine GO_yes rfl rfl rfl (decide_eq_true k1) ?_
          refine GO_q rfl rfl (ev_fieldAddr rfl) ?_
          refine GO_yes rfl rfl rfl (decide_eq_true k1) ?_
          refine GO_q rfl rfl (ev_load rfl (by repeat' first | exact Ld.blk rfl | assumption | apply Ld.skip | apply Ld.app)) ?_
          refine GO_yes rfl rfl rfl (decide_eq_true k1) ?_
          refine GO_q rfl rfl (ev_move rfl) ?_
          refine GO_yes rfl rfl rfl (decide_eq_true k1) ?_
          (first | refine GO_q rfl rfl (ev_indexAddrN rfl rfl (by first | omega | (simp; done) | (simp; omega))) ?_ | refine GO_q rfl rfl (ev_indexAddr rfl rfl (by first | omega | (simp; done) | (simp; omega)) (by first | omega | (simp; done) | (simp; omega))) ?_)
          refine GO_yes rfl rfl rfl (decide_eq_true k1) ?_
          refine GO_q rfl rfl (ev_fieldAddr rfl) ?_
          refine GO_yes rfl rfl rfl (decide_eq_true k1) ?_
          refine GO_q rfl rfl (ev_load rfl (by repeat' first | exact Ld.blk rfl | assumption | apply Ld.skip | apply Ld.app)) ?_
          refine GO_yes rfl rfl rfl (decide_eq_true k1) ?_
          refine GO_q rfl rfl (ev_move rfl) ?_
          refine GO_yes rfl rfl rfl (decide_eq_true k1) ?_
          refine GO_q rfl rfl (ev_leq rfl rfl) ?_
          refine GO_q rfl rfl (ev_pick_t rfl (decide_eq_true k1) rfl) ?_
          refine GO_q rfl rfl (ev_move rfl) ?_
          refine GO_yes rfl rfl rfl (decide_eq_true k2) ?_
          refine GO_q rfl rfl (ev_move rfl) ?_
          refine GO_yes rfl rfl rfl (decide_eq_true k2) ?_
          (first | refine GO_q rfl rfl (ev_nilCheck rfl) ?_ | refine GO_q rfl rfl (ev_nilCheckF (by simp) rfl) ?_)
          refine GO_yes rfl rfl rfl (decide_eq_true k2) ?_
          refine GO_q rfl rfl (ev_fieldAddr rfl) ?_
          refine GO_yes rfl rfl rfl (decide_eq_true k2) ?_
          refine GO_q rfl rfl (ev_load rfl (by repeat' first | exact Ld.blk rfl | assumption | apply Ld.skip | apply Ld.app)) ?_
          refine GO_yes rfl rfl rfl (decide_eq_true k2) ?_
          refine GO_q rfl rfl (ev_move rfl) ?_
          refine GO_yes rfl rfl rfl (decide_eq_true k2) ?_
          (first | refine GO_q rfl rfl (ev_indexAddrN rfl rfl (by first | omega | (simp; done) | (simp; omega))) ?_ | refine GO_q rfl rfl (ev_indexAddr rfl rfl (by first | omega | (simp; done) | (simp; omega)) (by first | omega | (simp; done) | (simp; omega))) ?_)
          refine GO_yes rfl rfl rfl (decide_eq_true k2) ?_
          refine GO_q rfl rfl (ev_fieldAddr rfl) ?_
          refine GO_yes rfl rfl rfl (decide_eq_true k2) ?_
          refine GO_q rfl rfl (ev_load rfl (by repeat' first | exact Ld.blk rfl | assumption | apply Ld.skip | apply Ld.app)) ?_
          refine GO_yes rfl rfl rfl (decide_eq_true k2) ?_
          refine GO_q rfl rfl (ev_move rfl) ?_
          refine GO_yes rfl rfl rfl (decide_eq_true k2) ?_
          refine GO_q rfl rfl (ev_geq rfl rfl) ?_
          refine GO_q rfl rfl (ev_pick_t rfl (decide_eq_true k2) rfl) ?_
          refine GO_nil ?_
          (repeat first | refine G_seq ?_ | refine G_skip ?_ | refine G_endblk ?_ | refine G_block ?_ | refine G_exit rfl ?_)
          refine G_cond_f rfl (decide_eq_false k3) ?_
          (repeat first | refine G_seq ?_ | refine G_skip ?_ | refine G_endblk ?_ | refine G_block ?_ | refine G_exit rfl ?_)
          refine G_region ?_
          refine GO_q rfl rfl (ev_move rfl) ?_
          (first | refine GO_q rfl rfl (ev_addN (q := 1) rfl rfl (by first | omega | (simp; done) | (simp; omega))) ?_ | refine GO_q rfl rfl (ev_add rfl rfl (by first | omega | (simp; done) | (simp; omega))) ?_)
          refine GO_q rfl rfl (ev_assign rfl) ?_
          refine GO_nil ?_
          (repeat first | refine G_seq ?_ | refine G_skip ?_ | refine G_endblk ?_ | refine G_block ?_ | refine G_exit rfl ?_)
          exact G_round (i + 1, O, e, zs) ⟨by simp only; omega, no hv, by simp only; omega, f6⟩ (by simp only; omega) ⟨rfl, rfl, rfl, rfl, rfl, trivial⟩ (by (repeat first | exact fun _ s => s | apply en_keep | apply en_drop | apply en_app) <;> fail)
      · have hv : f u = false := by rw [hfk]; exact decide_eq_false (fun h => k2 h.2.1)
        (repeat first | refine G_seq ?_ | refine G_skip ?_ | refine G_endblk ?_ | refine G_block ?_ | refine G_exit rfl ?_)
        refine G_region ?_
        refine GO_q rfl rfl (ev_move rfl) ?_
        refine GO_q rfl rfl (ev_move rfl) ?_
        refine GO_q rfl rfl (ev_leq rfl rfl) ?_
        refine GO_q rfl rfl (ev_move rfl) ?_
        refine GO_yes rfl rfl rfl (decide_eq_true k1) ?_
        refine GO_q rfl rfl (ev_move rfl) ?_
        refine GO_yes rfl rfl rfl (decide_eq_true k1) ?_
        (first | refine GO_q rfl rfl (ev_nilCheck rfl) ?_ | refine GO_q rfl rfl (ev_nilCheckF (by simp) rfl) ?_)
        refine GO_yes rfl rfl rfl (decide_eq_true k1) ?_
        refine GO_q rfl rfl (ev_fieldAddr rfl) ?_
        refine GO_yes rfl rfl rfl (decide_eq_true k1) ?_
        refine GO_q rfl rfl (ev_load rfl (by repeat' first | exact Ld.blk rfl | assumption | apply Ld.skip | apply Ld.app)) ?_
        refine GO_yes rfl rfl rfl (decide_eq_true k1) ?_
        refine GO_q rfl rfl (ev_move rfl) ?_
        refine GO_yes rfl rfl rfl (decide_eq_true k1) ?_
        (first | refine GO_q rfl rfl (ev_indexAddrN rfl rfl (by first | omega | (simp; done) | (simp; omega))) ?_ | refine GO_q rfl rfl (ev_indexAddr rfl rfl (by first | omega | (simp; done) | (simp; omega)) (by first | omega | (simp; done) | (simp; omega))) ?_)
        refine GO_yes rfl rfl rfl (decide_eq_true k1) ?_
        refine GO_q rfl rfl (ev_fieldAddr rfl) ?_
        refine GO_yes rfl rfl rfl (decide_eq_true k1) ?_
        refine GO_q rfl rfl (ev_load rfl (by repeat' first | exact Ld.blk rfl | assumption | apply Ld.skip | apply Ld.app)) ?_
        refine GO_yes rfl rfl rfl (decide_eq_true k1) ?_
        refine GO_q rfl rfl (ev_move rfl) ?_
        refine GO_yes rfl rfl rfl (decide_eq_true k1) ?_
        refine GO_q rfl rfl (ev_leq rfl rfl) ?_
        refine GO_q rfl rfl (ev_pick_t rfl (decide_eq_true k1) rfl) ?_
        refine GO_q rfl rfl (ev_move rfl) ?_
        refine GO_no rfl rfl rfl (decide_eq_false k2) ?_
        refine GO_no rfl rfl rfl (decide_eq_false k2) ?_
        refine GO_no rfl rfl rfl (decide_eq_false k2) ?_
        refine GO_no rfl rfl rfl (decide_eq_false k2) ?_
        refine GO_no rfl rfl rfl (decide_eq_false k2) ?_
        refine GO_no rfl rfl rfl (decide_eq_false k2) ?_
        refine GO_no rfl rfl rfl (decide_eq_false k2) ?_
        refine GO_no rfl rfl rfl (decide_eq_false k2) ?_
        refine GO_no rfl rfl rfl (decide_eq_false k2) ?_
        refine GO_no rfl rfl rfl (decide_eq_false k2) ?_
        refine GO_q rfl rfl (ev_pick_f rfl (decide_eq_false k2) rfl) ?_
        refine GO_nil ?_
        (repeat first | refine G_seq ?_ | refine G_skip ?_ | refine G_endblk ?_ | refine G_block ?_ | refine G_exit rfl ?_)
        refine G_cond_f rfl rfl ?_
        (repeat first | refine G_seq ?_ | refine G_skip ?_ | refine G_endblk ?_ | refine G_block ?_ | refine G_exit rfl ?_)
        refine G_region ?_
        refine GO_q rfl rfl (ev_move rfl) ?_
        (first | refine GO_q rfl rfl (ev_addN (q := 1) rfl rfl (by first | omega | (simp; done) | (simp; omega))) ?_ | refine GO_q rfl rfl (ev_add rfl rfl (by first | omega | (simp; done) | (simp; omega))) ?_)
        refine GO_q rfl rfl (ev_assign rfl) ?_
        refine GO_nil ?_
        (repeat first | refine G_seq ?_ | refine G_skip ?_ | refine G_endblk ?_ | refine G_block ?_ | refine G_exit rfl ?_)
        exact G_round (i + 1, O, e, zs) ⟨by simp only; omega, no hv, by simp only; omega, f6⟩ (by simp only; omega) ⟨rfl, rfl, rfl, rfl, rfl, trivial⟩ (by (repeat first | exact fun _ s => s | apply en_keep | apply en_drop | apply en_app) <;> fail)
    · have hv : f u = false := by rw [hfk]; exact decide_eq_false (fun h => k1 h.1)
      (repeat first | refine G_seq ?_ | refine G_skip ?_ | refine G_endblk ?_ | refine G_block ?_ | refine G_exit rfl ?_)
      refine G_region ?_
      refine GO_q rfl rfl (ev_move rfl) ?_
      refine GO_q rfl rfl (ev_move rfl) ?_
      refine GO_q rfl rfl (ev_leq rfl rfl) ?_
      refine GO_q rfl rfl (ev_move rfl) ?_
      refine GO_no rfl rfl rfl (decide_eq_false k1) ?_
      refine GO_no rfl rfl rfl (decide_eq_false k1) ?_
      refine GO_no rfl rfl rfl (decide_eq_false k1) ?_
      refine GO_no rfl rfl rfl (decide_eq_false k1) ?_
      refine GO_no rfl rfl rfl (decide_eq_false k1) ?_
      refine GO_no rfl rfl rfl (decide_eq_false k1) ?_
      refine GO_no rfl rfl rfl (decide_eq_false k1) ?_
      refine GO_no rfl rfl rfl (decide_eq_false k1) ?_
      refine GO_no rfl rfl rfl (decide_eq_false k1) ?_
      refine GO_no rfl rfl rfl (decide_eq_false k1) ?_
      refine GO_q rfl rfl (ev_pick_f rfl (decide_eq_false k1) rfl) ?_
      refine GO_q rfl rfl (ev_move rfl) ?_
      refine GO_no rfl rfl rfl rfl ?_
      refine GO_no rfl rfl rfl rfl ?_
      refine GO_no rfl rfl rfl rfl ?_
      refine GO_no rfl rfl rfl rfl ?_
      refine GO_no rfl rfl rfl rfl ?_
      refine GO_no rfl rfl rfl rfl ?_
      refine GO_no rfl rfl rfl rfl ?_
      refine GO_no rfl rfl rfl rfl ?_
      refine GO_no rfl rfl rfl rfl ?_
      refine GO_no rfl rfl rfl rfl ?_
      refine GO_q rfl rfl (ev_pick_f rfl rfl rfl) ?_
      refine GO_nil ?_
      (repeat first | refine G_seq ?_ | refine G_skip ?_ | refine G_endblk ?_ | refine G_block ?_ | refine G_exit rfl ?_)
      refine G_cond_f rfl rfl ?_
      (repeat first | refine G_seq ?_ | refine G_skip ?_ | refine G_endblk ?_ | refine G_block ?_ | refine G_exit rfl ?_)
      refine G_region ?_
      refine GO_q rfl rfl (ev_move rfl) ?_
      (first | refine GO_q rfl rfl (ev_addN (q := 1) rfl rfl (by first | omega | (simp; done) | (simp; omega))) ?_ | refine GO_q rfl rfl (ev_add rfl rfl (by first | omega | (simp; done) | (simp; omega))) ?_)
      refine GO_q rfl rfl (ev_assign rfl) ?_
      refine GO_nil ?_
      (repeat first | refine G_seq ?_ | refine G_skip ?_ | refine G_endblk ?_ | refine G_block ?_ | refine G_exit rfl ?_)
      exact G_round (i + 1, O, e, zs) ⟨by simp only; omega, no hv, by simp only; omega, f6⟩ (by simp only; omega) ⟨rfl, rfl, rfl, rfl, rfl, trivial⟩ (by (repeat first | exact fun _ s => s | apply en_keep | apply en_drop | apply en_app) <;> fail)
  · have e0 : i = k.length := by omega
    subst e0
    rw [List.take_length] at f2
    rw [← f2]
    (repeat first | refine G_seq ?_ | refine G_skip ?_ | refine G_endblk ?_ | refine G_block ?_ | refine G_exit rfl ?_)
    refine G_region ?_
    refine GO_q rfl rfl (ev_move rfl) ?_
    refine GO_eff rfl rfl (eff_call rfl (Ctr.pick (by repeat' first | exact Pick.here | apply Pick.skip | apply Pick.app) (risingQ_ctr O e zs _ f6 (by omega)))) ?_; rintro _ _ ⟨A9, c9, N9, rfl, i1, i2, rfl, i3⟩
    refine GO_q rfl rfl (ev_assign rfl) ?_
    refine GO_nil ?_
    (repeat first | refine G_seq ?_ | refine G_skip ?_ | refine G_endblk ?_ | refine G_block ?_ | refine G_exit rfl ?_)
    exact G_ret (L' := N9 ++ L) rfl (.tmp rfl .nil) (fun _ s => s.perm List.perm_middle) ⟨A9, c9, N9, rfl, i1, i2, rfl, i3⟩
/-- What is done: its two numbers and the interval. -/
structure Ac where
  kind : Int
  at_ : Int
  p : Pt
/-- The point of an act. -/
def actP (l : List Pt) (a : Ac) : Pt := if a.kind = 2 ∧ 0 < l.length ∧ 0 ≤ a.at_ then l.getD (a.at_ % (l.length : Nat)).toNat a.p else a.p
section
variable {P : Program} {L : List HP} {σ : Env} {d : Option Nat} {ty T T' : TypeId} {pos : String} {aft : Array Edge} {gd : Option (Nat × Bool)} {x y : Operand}
theorem ev_remE {p q : Int} {j : Nat} (e : p % q = (j : Int)) (hx : ev σ x = some (.int .i64 p)) (hy : ev σ y = some (.int .i64 q)) (hp : 0 ≤ p) (hq : 0 < q) : Ev P L σ ⟨d, .binOp .rem T x y T', ty, pos, aft, gd⟩ (.int .i64 (j : Int)) := e ▸ ev_rem hx hy hp hq
end
theorem gSpan_ctr (b : Nat) (A : Option Addr) (c : Nat) (most : Int) (a : Ac) (l : List Pt) (L : List HP) (h : LdN L b 0 2 [.slice A l.length c, .int .i64 most]) (hl : Rd L A l.length l) (hn : l.length ≤ 100000) (ha : a.at_ ≤ 9223372036854775807) :
    Ctr Tryz.prog 52 #[.pointer (some ⟨b, 0, none⟩), .agg #[.int .i64 a.kind, .int .i64 a.at_, .int .i64 a.p.id, .int .i64 a.p.x, .int .i64 a.p.y]] L fun v L' => v = (actP l a).v ∧ L' = L := by
  have h1 : Ld L ⟨b, 0 + 0, none⟩ (.slice A l.length c) := h.at_ (i := 0) rfl
  refine Ctr_of (fn := Tryz.f52) (n := 37) Tryz.func52 rfl rfl rfl ?_
  intro g F
  (repeat first | refine G_seq ?_ | refine G_skip ?_ | refine G_endblk ?_ | refine G_block ?_ | refine G_exit rfl ?_)
  refine G_region ?_
  refine GO_eff rfl rfl (eff_box rfl) ?_; rintro _ _ ⟨b3, rfl, rfl⟩
  refine GO_eff rfl rfl eff_alloc ?_; rintro _ _ ⟨b4, rfl, rfl⟩
  refine GO_nil ?_
  by_cases k1 : a.kind = 2
  · skip
    by_cases k2 : 0 < l.length
    · skip
      by_cases k3 : 0 ≤ a.at_
      · have e0 : actP l a = l.getD (a.at_ % (l.length : Nat)).toNat a.p := if_pos ⟨k1, k2, k3⟩
        obtain ⟨j, hj⟩ : ∃ j, j = (a.at_ % (l.length : Nat)).toNat := ⟨_, rfl⟩
        have hj1 : a.at_ % (l.length : Nat) = (j : Int) := by
          have := Int.emod_nonneg a.at_ (b := (l.length : Int)) (by omega)
          omega
        have hj2 : j < l.length := by
          have := Int.emod_lt_of_pos a.at_ (b := (l.length : Int)) (by omega)
          omega
        rw [← hj] at e0
        obtain ⟨lb, lo, rfl, hx⟩ := hl.at_ k2
        have g1 : l[j]? = some l[j] := List.getElem?_eq_getElem hj2
        have y1 := hx _ _ g1
        have e1 : l.getD j a.p = l[j] := by rw [List.getD_eq_getElem?_getD, g1]; rfl
        rw [e0, e1]
        generalize l[j] = u at *
        have z1 : LdN L lb (lo + j * 3) 3 [.int .i64 u.id, .int .i64 u.x, .int .i64 u.y] := y1
        (repeat first | refine G_seq ?_ | refine G_skip ?_ | refine G_endblk ?_ | refine G_block ?_ | refine G_exit rfl ?_)
        refine G_region ?_
        refine GO_q rfl rfl (ev_fieldAddr rfl) ?_
        refine GO_q rfl rfl (ev_load rfl (by repeat' first | exact Ld.blk rfl | assumption | apply Ld.skip | apply Ld.app)) ?_
        refine GO_q rfl rfl (ev_eql rfl rfl) ?_
        refine GO_q rfl rfl (ev_move rfl) ?_
        refine GO_yes rfl rfl rfl (decide_eq_true k1) ?_
        refine GO_q rfl rfl (ev_move rfl) ?_
        refine GO_yes rfl rfl rfl (decide_eq_true k1) ?_
        (first | refine GO_q rfl rfl (ev_nilCheck rfl) ?_ | refine GO_q rfl rfl (ev_nilCheckF (by simp) rfl) ?_)
        refine GO_yes rfl rfl rfl (decide_eq_true k1) ?_
        refine GO_q rfl rfl (ev_fieldAddr rfl) ?_
        refine GO_yes rfl rfl rfl (decide_eq_true k1) ?_
        refine GO_q rfl rfl (ev_load rfl (by repeat' first | exact Ld.blk rfl | assumption | apply Ld.skip | apply Ld.app)) ?_
        refine GO_yes rfl rfl rfl (decide_eq_true k1) ?_
        refine GO_q rfl rfl (ev_len rfl) ?_
        refine GO_yes rfl rfl rfl (decide_eq_true k1) ?_
        refine GO_q rfl rfl (ev_gtr rfl rfl) ?_
        refine GO_q rfl rfl (ev_pick_t rfl (decide_eq_true k1) rfl) ?_
        refine GO_q rfl rfl (ev_move rfl) ?_
        refine GO_yes rfl rfl rfl (decide_eq_true (by omega)) ?_
        refine GO_q rfl rfl (ev_fieldAddr rfl) ?_
        refine GO_yes rfl rfl rfl (decide_eq_true (by omega)) ?_
        refine GO_q rfl rfl (ev_load rfl (by repeat' first | exact Ld.blk rfl | assumption | apply Ld.skip | apply Ld.app)) ?_
        refine GO_yes rfl rfl rfl (decide_eq_true (by omega)) ?_
        refine GO_q rfl rfl (ev_geq rfl rfl) ?_
        refine GO_q rfl rfl (ev_pick_t rfl (decide_eq_true (by omega)) rfl) ?_
        refine GO_nil ?_
        (repeat first | refine G_seq ?_ | refine G_skip ?_ | refine G_endblk ?_ | refine G_block ?_ | refine G_exit rfl ?_)
        refine G_cond_t rfl (decide_eq_true k3) ?_
        (repeat first | refine G_seq ?_ | refine G_skip ?_ | refine G_endblk ?_ | refine G_block ?_ | refine G_exit rfl ?_)
        refine G_draw (.q 0 (.q 1 (.q 2 (.q 3 (.q 4 (.q 5 (.q 6 (.q 7 (.q 8 (.q 9 (.q 10 (.q 11 (.q 12 (.q 13 (.e 14 .nil))))))))))))))) (by kernel_rfl) (by kernel_rfl) ?_
        refine RS_m retB_noPanic rfl rfl rfl rfl (ev_move rfl) ?_
        (first | refine RS_m retB_noPanic rfl rfl rfl rfl (ev_nilCheck rfl) ?_ | refine RS_m retB_noPanic rfl rfl rfl rfl (ev_nilCheckF (by simp) rfl) ?_)
        refine RS_m retB_noPanic rfl rfl rfl rfl (ev_fieldAddr rfl) ?_
        refine RS_q retB_noPanic rfl rfl rfl rfl (ev_load rfl (by repeat' first | exact Ld.blk rfl | assumption | apply Ld.skip | apply Ld.app)) ?_
        refine RS_m retB_noPanic rfl rfl rfl rfl (ev_fieldAddr rfl) ?_
        refine RS_q retB_noPanic rfl rfl rfl rfl (ev_load rfl (by repeat' first | exact Ld.blk rfl | assumption | apply Ld.skip | apply Ld.app)) ?_
        refine RS_m retB_noPanic rfl rfl rfl rfl (ev_move rfl) ?_
        (first | refine RS_m retB_noPanic rfl rfl rfl rfl (ev_nilCheck rfl) ?_ | refine RS_m retB_noPanic rfl rfl rfl rfl (ev_nilCheckF (by simp) rfl) ?_)
        refine RS_m retB_noPanic rfl rfl rfl rfl (ev_fieldAddr rfl) ?_
        refine RS_q retB_noPanic rfl rfl rfl rfl (ev_load rfl (by repeat' first | exact Ld.blk rfl | assumption | apply Ld.skip | apply Ld.app)) ?_
        refine RS_q retB_noPanic rfl rfl rfl rfl (ev_len rfl) ?_
        refine RS_m retB_noPanic rfl rfl rfl rfl (ev_remE hj1 rfl rfl k3 (by omega)) ?_
        (first | refine RS_m retB_noPanic rfl rfl rfl rfl (ev_indexAddrN rfl rfl (by first | omega | (simp; done) | (simp; omega))) ?_ | refine RS_m retB_noPanic rfl rfl rfl rfl (ev_indexAddr rfl rfl (by first | omega | (simp; done) | (simp; omega)) (by first | omega | (simp; done) | (simp; omega))) ?_)
        refine RS_q retB_noPanic rfl rfl rfl rfl (ev_loadN rfl (by repeat' first | exact LdN.blk rfl | assumption | apply LdN.skip | apply LdN.app)) ?_
        refine RS_e (RE_last (by kernel_rfl) rfl rfl rfl (eff_storeN rfl rfl rfl rfl (by repeat' first | exact Upd.here rfl | apply Upd.skip | apply Upd.app)) ?_); rintro _ _ ⟨rfl, rfl⟩
        (repeat first | refine G_seq ?_ | refine G_skip ?_ | refine G_endblk ?_ | refine G_block ?_ | refine G_exit rfl ?_)
        refine G_ret rfl (.cell rfl (loadN_run (by repeat' first | exact LdN.blk rfl | assumption | apply LdN.skip | apply LdN.app)) .nil) (by (repeat first | exact fun _ s => s | apply en_keep | apply en_drop | apply en_app) <;> fail) ⟨rfl, rfl⟩
      · have e0 : actP l a = a.p := if_neg (fun h => k3 h.2.2)
        rw [e0]
        (repeat first | refine G_seq ?_ | refine G_skip ?_ | refine G_endblk ?_ | refine G_block ?_ | refine G_exit rfl ?_)
        refine G_region ?_
        refine GO_q rfl rfl (ev_fieldAddr rfl) ?_
        refine GO_q rfl rfl (ev_load rfl (by repeat' first | exact Ld.blk rfl | assumption | apply Ld.skip | apply Ld.app)) ?_
        refine GO_q rfl rfl (ev_eql rfl rfl) ?_
        refine GO_q rfl rfl (ev_move rfl) ?_
        refine GO_yes rfl rfl rfl (decide_eq_true k1) ?_
        refine GO_q rfl rfl (ev_move rfl) ?_
        refine GO_yes rfl rfl rfl (decide_eq_true k1) ?_
        (first | refine GO_q rfl rfl (ev_nilCheck rfl) ?_ | refine GO_q rfl rfl (ev_nilCheckF (by simp) rfl) ?_)
        refine GO_yes rfl rfl rfl (decide_eq_true k1) ?_
        refine GO_q rfl rfl (ev_fieldAddr rfl) ?_
        refine GO_yes rfl rfl rfl (decide_eq_true k1) ?_
        refine GO_q rfl rfl (ev_load rfl (by repeat' first | exact Ld.blk rfl | assumption | apply Ld.skip | apply Ld.app)) ?_
        refine GO_yes rfl rfl rfl (decide_eq_true k1) ?_
        refine GO_q rfl rfl (ev_len rfl) ?_
        refine GO_yes rfl rfl rfl (decide_eq_true k1) ?_
        refine GO_q rfl rfl (ev_gtr rfl rfl) ?_
        refine GO_q rfl rfl (ev_pick_t rfl (decide_eq_true k1) rfl) ?_
        refine GO_q rfl rfl (ev_move rfl) ?_
        refine GO_yes rfl rfl rfl (decide_eq_true (by omega)) ?_
        refine GO_q rfl rfl (ev_fieldAddr rfl) ?_
        refine GO_yes rfl rfl rfl (decide_eq_true (by omega)) ?_
        refine GO_q rfl rfl (ev_load rfl (by repeat' first | exact Ld.blk rfl | assumption | apply Ld.skip | apply Ld.app)) ?_
        refine GO_yes rfl rfl rfl (decide_eq_true (by omega)) ?_
        refine GO_q rfl rfl (ev_geq rfl rfl) ?_
        refine GO_q rfl rfl (ev_pick_t rfl (decide_eq_true (by omega)) rfl) ?_
        refine GO_nil ?_
        (repeat first | refine G_seq ?_ | refine G_skip ?_ | refine G_endblk ?_ | refine G_block ?_ | refine G_exit rfl ?_)
        refine G_cond_f rfl (decide_eq_false k3) ?_
        (repeat first | refine G_seq ?_ | refine G_skip ?_ | refine G_endblk ?_ | refine G_block ?_ | refine G_exit rfl ?_)
        refine G_region ?_
        refine GO_q rfl rfl (ev_fieldAddr rfl) ?_
        refine GO_q rfl rfl (ev_loadN rfl (by repeat' first | exact LdN.blk rfl | assumption | apply LdN.skip | apply LdN.app)) ?_
        refine GO_eff rfl rfl (eff_storeN rfl rfl rfl rfl (by repeat' first | exact Upd.here rfl | apply Upd.skip | apply Upd.app)) ?_; rintro _ _ ⟨rfl, rfl⟩
        refine GO_nil ?_
        (repeat first | refine G_seq ?_ | refine G_skip ?_ | refine G_endblk ?_ | refine G_block ?_ | refine G_exit rfl ?_)
        refine G_ret rfl (.cell rfl (loadN_run (by repeat' first | exact LdN.blk rfl | assumption | apply LdN.skip | apply LdN.app)) .nil) (by (repeat first | exact fun _ s => s | apply en_keep | apply en_drop | apply en_app) <;> fail) ⟨rfl, rfl⟩
    · have e0 : actP l a = a.p := if_neg (fun h => k2 h.2.1)
      rw [e0]
      (repeat first | refine G_seq ?_ | refine G_skip ?_ | refine G_endblk ?_ | refine G_block ?_ | refine G_exit rfl ?_)
      refine G_region ?_
      refine GO_q rfl rfl (ev_fieldAddr rfl) ?_
      refine GO_q rfl rfl (ev_load rfl (by repeat' first | exact Ld.blk rfl | assumption | apply Ld.skip | apply Ld.app)) ?_
      refine GO_q rfl rfl (ev_eql rfl rfl) ?_
      refine GO_q rfl rfl (ev_move rfl) ?_
      refine GO_yes rfl rfl rfl (decide_eq_true k1) ?_
      refine GO_q rfl rfl (ev_move rfl) ?_
      refine GO_yes rfl rfl rfl (decide_eq_true k1) ?_
      (first | refine GO_q rfl rfl (ev_nilCheck rfl) ?_ | refine GO_q rfl rfl (ev_nilCheckF (by simp) rfl) ?_)
      refine GO_yes rfl rfl rfl (decide_eq_true k1) ?_
      refine GO_q rfl rfl (ev_fieldAddr rfl) ?_
      refine GO_yes rfl rfl rfl (decide_eq_true k1) ?_
      refine GO_q rfl rfl (ev_load rfl (by repeat' first | exact Ld.blk rfl | assumption | apply Ld.skip | apply Ld.app)) ?_
      refine GO_yes rfl rfl rfl (decide_eq_true k1) ?_
      refine GO_q rfl rfl (ev_len rfl) ?_
      refine GO_yes rfl rfl rfl (decide_eq_true k1) ?_
      refine GO_q rfl rfl (ev_gtr rfl rfl) ?_
      refine GO_q rfl rfl (ev_pick_t rfl (decide_eq_true k1) rfl) ?_
      refine GO_q rfl rfl (ev_move rfl) ?_
      refine GO_no rfl rfl rfl (decide_eq_false (by omega)) ?_
      refine GO_no rfl rfl rfl (decide_eq_false (by omega)) ?_
      refine GO_no rfl rfl rfl (decide_eq_false (by omega)) ?_
      refine GO_q rfl rfl (ev_pick_f rfl (decide_eq_false (by omega)) rfl) ?_
      refine GO_nil ?_
      (repeat first | refine G_seq ?_ | refine G_skip ?_ | refine G_endblk ?_ | refine G_block ?_ | refine G_exit rfl ?_)
      refine G_cond_f rfl rfl ?_
      (repeat first | refine G_seq ?_ | refine G_skip ?_ | refine G_endblk ?_ | refine G_block ?_ | refine G_exit rfl ?_)
      refine G_region ?_
      refine GO_q rfl rfl (ev_fieldAddr rfl) ?_
      refine GO_q rfl rfl (ev_loadN rfl (by repeat' first | exact LdN.blk rfl | assumption | apply LdN.skip | apply LdN.app)) ?_
      refine GO_eff rfl rfl (eff_storeN rfl rfl rfl rfl (by repeat' first | exact Upd.here rfl | apply Upd.skip | apply Upd.app)) ?_; rintro _ _ ⟨rfl, rfl⟩
      refine GO_nil ?_
      (repeat first | refine G_seq ?_ | refine G_skip ?_ | refine G_endblk ?_ | refine G_block ?_ | refine G_exit rfl ?_)
      refine G_ret rfl (.cell rfl (loadN_run (by repeat' first | exact LdN.blk rfl | assumption | apply LdN.skip | apply LdN.app)) .nil) (by (repeat first | exact fun _ s => s | apply en_keep | apply en_drop | apply en_app) <;> fail) ⟨rfl, rfl⟩
  · have e0 : actP l a = a.p := if_neg (fun h => k1 h.1)
    rw [e0]
    (repeat first | refine G_seq ?_ | refine G_skip ?_ | refine G_endblk ?_ | refine G_block ?_ | refine G_exit rfl ?_)
    refine G_region ?_
    refine GO_q rfl rfl (ev_fieldAddr rfl) ?_
    refine GO_q rfl rfl (ev_load rfl (by repeat' first | exact Ld.blk rfl | assumption | apply Ld.skip | apply Ld.app)) ?_
    refine GO_q rfl rfl (ev_eql rfl rfl) ?_
    refine GO_q rfl rfl (ev_move rfl) ?_
    refine GO_no rfl rfl rfl (decide_eq_false k1) ?_
    refine GO_no rfl rfl rfl (decide_eq_false k1) ?_
    refine GO_no rfl rfl rfl (decide_eq_false k1) ?_
    refine GO_no rfl rfl rfl (decide_eq_false k1) ?_
    refine GO_no rfl rfl rfl (decide_eq_false k1) ?_
    refine GO_no rfl rfl rfl (decide_eq_false k1) ?_
    refine GO_q rfl rfl (ev_pick_f rfl (decide_eq_false k1) rfl) ?_
    refine GO_q rfl rfl (ev_move rfl) ?_
    refine GO_no rfl rfl rfl rfl ?_
    refine GO_no rfl rfl rfl rfl ?_
    refine GO_no rfl rfl rfl rfl ?_
    refine GO_q rfl rfl (ev_pick_f rfl rfl rfl) ?_
    refine GO_nil ?_
    (repeat first | refine G_seq ?_ | refine G_skip ?_ | refine G_endblk ?_ | refine G_block ?_ | refine G_exit rfl ?_)
    refine G_cond_f rfl rfl ?_
    (repeat first | refine G_seq ?_ | refine G_skip ?_ | refine G_endblk ?_ | refine G_block ?_ | refine G_exit rfl ?_)
    refine G_region ?_
    refine GO_q rfl rfl (ev_fieldAddr rfl) ?_
    refine GO_q rfl rfl (ev_loadN rfl (by repeat' first | exact LdN.blk rfl | assumption | apply LdN.skip | apply LdN.app)) ?_
    refine GO_eff rfl rfl (eff_storeN rfl rfl rfl rfl (by repeat' first | exact Upd.here rfl | apply Upd.skip | apply Upd.app)) ?_; rintro _ _ ⟨rfl, rfl⟩
    refine GO_nil ?_
    (repeat first | refine G_seq ?_ | refine G_skip ?_ | refine G_endblk ?_ | refine G_block ?_ | refine G_exit rfl ?_)
    refine G_ret rfl (.cell rfl (loadN_run (by repeat' first | exact LdN.blk rfl | assumption | apply LdN.skip | apply LdN.app)) .nil) (by (repeat first | exact fun _ s => s | apply en_keep | apply en_drop | apply en_app) <;> fail) ⟨rfl, rfl⟩
instance : Enc Ac := ⟨5, fun a => [.int .i64 a.kind, .int .i64 a.at_, .int .i64 a.p.id, .int .i64 a.p.x, .int .i64 a.p.y], fun _ => rfl, fun p v h => by
  simp at h
  rcases h with rfl | rfl | rfl | rfl | rfl <;> rfl⟩
end Go.Proofs.YtjnmpogolknkpaaGreat
/- A tree of middles, and the references' set, each as one part of the heap. -/
namespace Go.Proofs.YtjnmpogolknkpaaGreat
set_option linter.unusedVariables false
set_option linter.unusedSimpArgs false
set_option maxRecDepth 100000

theorem Ctr.readG {P : Program} {f : FuncId} {args : Array Value} {L : List HP} {A : HP} {ι : Type} {φ : ι → Prop} {N : ι → List HP} {R : Value → List HP → Prop} (op : ∀ h, A h → ∃ i, φ i ∧ sat (N i) h) (cl : ∀ i, φ i → ∀ h, sat (N i) h → A h)
    (C : ∀ i, φ i → Ctr P f args (N i ++ L) fun v L' => ∃ X, R v X ∧ L' = X ++ (N i ++ L)) : Ctr P f args (A :: L) fun v L' => ∃ X, R v X ∧ L' = X ++ (A :: L) := fun g F w hw => by
  obtain ⟨h1, h2, d, s1, s2, q, l⟩ := hw.s.swap
  obtain ⟨i, hi, hn⟩ := op _ q
  have hs : sat (N i ++ (F :: L)) w.hm := sat.head (A := fun h => h = h1) (fun _ e => e ▸ hn) ⟨h1, h2, d, s1, s2, rfl, l⟩
  have hs2 : sat (F :: (N i ++ L)) w.hm := hs.perm List.perm_middle
  refine (C i hi g F w ⟨hw.g, hs2⟩).mono fun e w' ⟨v, L', e1, ⟨X, r, e2⟩, hw'⟩ => ?_
  subst e2
  exact ⟨v, _, e1, ⟨X, r, rfl⟩, hw'.mono (en_keep (en_appk fun _ s => sat.fold (cl i hi) s))⟩
def treeZ (t : Nat) (most : Int) (T : IT) : List HP := [blk t 75 [.pointer T.addr, .int .i64 most], itH T]
def treeO (l : List Pt) (T : IT) : Prop := T.ok ∧ T.fit ∧ T.spans.Perm l
def treeI (t : Nat) (most : Int) (l : List Pt) : HP := fun h => ∃ T : IT, treeO l T ∧ sat (treeZ t most T) h
def setZ (b : Nat) (most : Int) (l : List Pt) (z : Option Addr × Nat) : List HP := [blk b 39 [.slice z.1 l.length z.2, .int .i64 most], own 24 3 z.1 l.length z.2 (flat l)]
def setI (b : Nat) (most : Int) (l : List Pt) : HP := fun h => ∃ z : Option Addr × Nat, AdOk z.1 z.2 l ∧ sat (setZ b most l z) h
section
variable {P : Program} {f : FuncId} {args : Array Value} {L : List HP} {t b : Nat} {most : Int} {l : List Pt} {T : TypeId} {α : Type} [E : Enc α] {m : List α}
theorem Ctr.treeT {φ : Value → Prop} {l' : List Pt} (C : ∀ (T : IT), treeO l T → Ctr P f args (blk t 75 [.pointer T.addr, .int .i64 most] :: itH T :: L) fun v L' => φ v ∧ ∃ T', treeO l' T' ∧ L' = blk t 75 [.pointer T'.addr, .int .i64 most] :: itH T' :: L) : Ctr P f args (treeI t most l :: L) fun v L' => φ v ∧ L' = treeI t most l' :: L :=
  (Ctr.open (ι := IT) (N := treeZ t most) (Fa := treeO l) (fun _ h => h) fun T o => C T o).post' fun v L' hm ⟨e1, T', o', e2⟩ q => ⟨_, ⟨e1, rfl⟩, by
    subst e2
    exact sat.fold (N := treeZ t most T') (fun h q => ⟨T', o', q⟩) q⟩
theorem Ctr.setR {R : Value → List HP → Prop} (C : ∀ (A : Option Addr) (c : Nat) (L' : List HP), LdN L' b 0 2 [.slice A l.length c, .int .i64 most] → Rd L' A l.length l → Ctr P f args L' fun v L'' => ∃ N, R v N ∧ L'' = N ++ L') : Ctr P f args (setI b most l :: L) fun v L' => ∃ N, R v N ∧ L' = N ++ (setI b most l :: L) :=
  Ctr.readG (ι := Option Addr × Nat) (φ := fun z => AdOk z.1 z.2 l) (N := setZ b most l) (fun _ h => h) (fun z o _ h => ⟨z, o, h⟩) fun z o => C z.1 z.2 _ (LdN.blk rfl) (Rd.skip (Rc.own (flat_length l) o.1))
theorem Ctr.set0 {R : Value → Prop} (C : ∀ (A : Option Addr) (c : Nat) (L' : List HP), LdN L' b 0 2 [.slice A l.length c, .int .i64 most] → Rd L' A l.length l → Ctr P f args L' fun v L'' => R v ∧ L'' = L') : Ctr P f args (setI b most l :: L) fun v L' => R v ∧ L' = setI b most l :: L :=
  (Ctr.setR (R := fun v X => R v ∧ X = []) fun A c L' h h' => (C A c L' h h').mono fun v L'' ⟨r, e⟩ => ⟨[], ⟨r, rfl⟩, e⟩).mono fun v L' ⟨X, ⟨r, e1⟩, e2⟩ => by subst e1; exact ⟨r, e2⟩
theorem Ctr.setQ' (C : ∀ (A : Option Addr) (c : Nat) (L' : List HP), LdN L' b 0 2 [.slice A l.length c, .int .i64 most] → Rd L' A l.length l → Ctr P f args L' fun v L'' => MadeQ m L' v L'') : Ctr P f args (setI b most l :: L) fun v L' => MadeQ m (setI b most l :: L) v L' :=
  (Ctr.setR (R := fun v X => ∃ (Y : HP) (A : Option Addr) (c : Nat), v = .slice A m.length c ∧ m.length ≤ c ∧ c ≤ maxLen ∧ (∀ L, Rd (Y :: L) A m.length m) ∧ X = [Y]) fun A c L' h h' => (C A c L' h h').mono fun v L'' ⟨Y, A, c, e1, e2, e3, e4, e5⟩ => ⟨_, ⟨Y, A, c, e1, e2, e3, e4, rfl⟩, e5⟩).mono
    fun v L' ⟨X, ⟨Y, A, c, e1, e2, e3, e4, e5⟩, e6⟩ => by subst e5; exact ⟨Y, A, c, e1, e2, e3, e4, e6⟩
theorem Ctr.setT {φ : Value → Prop} {l' : List Pt} (C : ∀ (A : Option Addr) (c : Nat), AdOk A c l → Ctr P f args (blk b 39 [.slice A l.length c, .int .i64 most] :: own 24 3 A l.length c (flat l) :: L) fun v L' => φ v ∧ ∃ A' c', AdOk A' c' l' ∧ L' = blk b 39 [.slice A' l'.length c', .int .i64 most] :: own 24 3 A' l'.length c' (flat l') :: L) : Ctr P f args (setI b most l :: L) fun v L' => φ v ∧ L' = setI b most l' :: L :=
  (Ctr.open (ι := Option Addr × Nat) (N := setZ b most l) (Fa := fun z => AdOk z.1 z.2 l) (fun _ h => h) fun z o => C z.1 z.2 o).post' fun v L' hm ⟨e1, A', c', o', e2⟩ q => ⟨_, ⟨e1, rfl⟩, by
    subst e2
    exact sat.fold (N := setZ b most l' (A', c')) (fun h q => ⟨(A', c'), o', q⟩) q⟩
end
theorem en_setI {L M : List HP} {b c : Nat} {most : Int} {A : Option Addr} {l : List Pt} (o : AdOk A c l) (f : ∀ h, sat L h → sat (blk b 39 [.slice A l.length c, .int .i64 most] :: own 24 3 A l.length c (flat l) :: M) h) : ∀ h, sat L h → sat (setI b most l :: M) h := fun h q =>
  sat.fold (N := setZ b most l (A, c)) (fun h q => ⟨(A, c), o, q⟩) (f h q)
theorem en_treeI {L M : List HP} {t : Nat} {most : Int} {T : IT} {l : List Pt} (o : treeO l T) (f : ∀ h, sat L h → sat (blk t 75 [.pointer T.addr, .int .i64 most] :: itH T :: M) h) : ∀ h, sat L h → sat (treeI t most l :: M) h := fun h q =>
  sat.fold (N := treeZ t most T) (fun h q => ⟨T, o, q⟩) (f h q)
theorem fairP_le {s : Pt} (h : fairP s = true) : s.x ≤ s.y ∧ good s.x = true ∧ good s.y = true := by
  unfold fairP at h
  simp only [Bool.and_eq_true, decide_eq_true_eq] at h
  exact ⟨h.2, h.1.1.2, h.1.2⟩
theorem insE_zero {most : Int} {k : List Pt} {s : Pt} (h : insE most k s = 0) : fairP s = true ∧ s ∉ k ∧ (k.length : Int) < most := by
  unfold insE at h
  split at h
  · exact absurd h (by decide)
  · rename_i h1
    split at h
    · exact absurd h (by decide)
    · rename_i h2
      split at h
      · exact absurd h (by decide)
      · rename_i h3
        exact ⟨by simpa using h1, h2, by omega⟩
theorem IT.has_mem {s : Pt} : ∀ {T : IT}, T.has s = true → s ∈ T.spans
  | .nil, h => by simp [IT.has] at h
  | .node _ mid _ _ p _ _ _ _ lo hi, h => by
    simp only [IT.has] at h
    simp only [IT.spans, List.mem_append]
    split at h
    · exact .inr (.inl (IT.has_mem h))
    · split at h
      · exact .inr (.inr (IT.has_mem h))
      · exact .inl (of_decide_eq_true h)
theorem IT.ok.has_dec {s : Pt} {T : IT} (o : T.ok) : T.has s = decide (s ∈ T.spans) := by
  by_cases h : s ∈ T.spans
  · rw [decide_eq_true h]; exact (o.has (o.fair s h)).2 h
  · rw [decide_eq_false h]
    cases hh : T.has s with
    | false => rfl
    | true => exact absurd (IT.has_mem hh) h
def actK (most : Int) (k : List Pt) (a : Ac) : List Pt := if a.kind = 1 ∨ a.kind = 2 then k.erase (actP k a) else insK most k (actP k a)
def playK (most : Int) (l : List Ac) : List Pt := l.foldl (actK most) []
theorem playK_succ (most : Int) (l : List Ac) (k : Nat) (h : k < l.length) : playK most (l.take (k + 1)) = actK most (playK most (l.take k)) l[k] := by
  unfold playK; rw [List.take_succ_eq_append_getElem h, List.foldl_append]; rfl
theorem insK_most {most : Int} {k : List Pt} {p : Pt} (h : (k.length : Int) ≤ most) : ((insK most k p).length : Int) ≤ most := by
  unfold insK
  split
  · rename_i e
    have := (insE_zero e).2.2
    rw [List.length_append]; simp only [List.length_cons, List.length_nil]; omega
  · exact h
theorem actK_most {most : Int} {k : List Pt} {a : Ac} (h : (k.length : Int) ≤ most) : ((actK most k a).length : Int) ≤ most := by
  unfold actK
  split
  · have : (k.erase (actP k a)).length ≤ k.length := List.length_erase_le
    omega
  · exact insK_most h
theorem overK_length (k : List Pt) (u v : Int) : (overK k u v).length ≤ k.length := by
  unfold overK idsOf; rw [srt_length, List.length_map]; exact List.length_filter_le _ _
theorem over_fnd {T : IT} {l : List Pt} {u v : Int} (o : T.ok) (p : T.spans.Perm l) : srt (T.fnd' u v) = overK l u v :=
  srt_of_perm (o.fnd'_perm.trans ((p.filter _).map _))
end Go.Proofs.YtjnmpogolknkpaaGreat
/- A tree of middles: what building, putting and cutting come to. No program stands in this text. -/
namespace Go.Proofs.YtjnmpogolknkpaaGreat
set_option linter.unusedVariables false
set_option linter.unusedSimpArgs false

def lowL (mid : Int) (l : List Pt) : List Pt := l.filter fun s => decide (s.y < mid)
def highL (mid : Int) (l : List Pt) : List Pt := l.filter fun s => decide (mid < s.x)
def ownL (mid : Int) (l : List Pt) : List Pt := l.filter fun s => decide (s.x ≤ mid ∧ mid ≤ s.y)
theorem parts_perm (mid : Int) : ∀ (l : List Pt) (hf : ∀ s ∈ l, s.x ≤ s.y), (ownL mid l ++ (lowL mid l ++ highL mid l)).Perm l
  | [], _ => .nil
  | a :: l, hf => by
    have ih := parts_perm mid l fun s hs => hf s (List.mem_cons_of_mem _ hs)
    have ha := hf a (by simp)
    unfold ownL lowL highL at *
    simp only [List.filter_cons]
    by_cases c1 : a.y < mid
    · have n1 : ¬ (a.x ≤ mid ∧ mid ≤ a.y) := by omega
      have n2 : ¬ mid < a.x := by omega
      simp only [c1, n1, n2, decide_true, decide_false, if_true, Bool.false_eq_true, if_false]
      exact List.perm_middle.trans (.cons a ih)
    · by_cases c2 : mid < a.x
      · have n1 : ¬ (a.x ≤ mid ∧ mid ≤ a.y) := by omega
        simp only [c1, n1, c2, decide_true, decide_false, if_true, Bool.false_eq_true, if_false]
        rw [← List.append_assoc]
        refine List.perm_middle.trans (.cons a ?_)
        rwa [List.append_assoc]
      · have n1 : a.x ≤ mid ∧ mid ≤ a.y := by omega
        simp only [c1, n1, c2, decide_true, decide_false, if_true, Bool.false_eq_true, if_false, and_self]
        exact .cons a ih
theorem keep_kok {mid : Int} {l lo hi : List Pt} (hnd : l.Nodup) (hm : ∀ s ∈ l, s.x ≤ mid ∧ mid ≤ s.y) (h1 : ∀ s ∈ lo, s.y < mid) (h2 : ∀ s ∈ hi, mid < s.x) : IT.kok mid (srtO Pt.less l) (srtO Pt.ends l) lo hi :=
  ⟨srtO_asc sto_less hnd, srtO_eq sto_ends (srtO_sorted sto_ends l) ((srtO_perm l).trans (srtO_perm l).symm), fun s hs => hm s ((srtO_perm l).subset hs), h1, h2⟩
theorem kok_put {mid : Int} {p q lo hi : List Pt} {s : Pt} (h : IT.kok mid p q lo hi) (hs : s ∉ p) (hm : s.x ≤ mid ∧ mid ≤ s.y) : IT.kok mid (putO Pt.less s p) (putO Pt.ends s q) lo hi := by
  obtain ⟨a1, a2, a3, a4, a5⟩ := h
  have hqp : q.Perm p := a2 ▸ srtO_perm p
  have hq : AscO Pt.ends q := a2 ▸ srtO_asc sto_ends (a1.nodup sto_less)
  have hsq : s ∉ q := fun h => hs (hqp.subset h)
  refine ⟨putO_asc sto_less s p a1 hs, ?_, fun t ht => ?_, a4, a5⟩
  · exact srtO_eq sto_ends ((putO_asc sto_ends s q hq hsq).srt sto_ends) ((putO_perm s q).trans ((List.Perm.cons s hqp).trans (putO_perm s p).symm))
  · rcases List.mem_cons.1 ((putO_perm s p).subset ht) with h | h
    · subst h; exact hm
    · exact a3 t h
theorem kok_asc {mid : Int} {p q lo hi : List Pt} (h : IT.kok mid p q lo hi) : AscO Pt.ends q := h.2.1 ▸ srtO_asc sto_ends (h.1.nodup sto_less)
theorem kok_cut {mid : Int} {p q lo hi : List Pt} {s : Pt} (h : IT.kok mid p q lo hi) : IT.kok mid (p.erase s) (q.erase s) lo hi := by
  have hq := kok_asc h
  obtain ⟨a1, a2, a3, a4, a5⟩ := h
  have hqp : q.Perm p := a2 ▸ srtO_perm p
  refine ⟨a1.sub List.erase_sublist, ?_, fun t ht => a3 t (List.mem_of_mem_erase ht), a4, a5⟩
  exact srtO_eq sto_ends ((hq.sub List.erase_sublist).srt sto_ends) (hqp.erase s)
/-- A node that is built. -/
theorem build_ok {b : Nat} {mid : Int} {A : Option Addr} {c : Nat} {B : Option Addr} {d n : Nat} {lo hi : IT} {l : List Pt} (hf : ∀ s ∈ l, s.x ≤ s.y) (hnd : l.Nodup) (h0 : 0 < l.length) (hm : (srtO ltI (endsOf l))[l.length]? = some mid) (hlo : lo.ok) (hhi : hi.ok) (p1 : lo.spans.Perm (lowL mid l)) (p2 : hi.spans.Perm (highL mid l)) (hn : n = (srtO Pt.less (ownL mid l)).length + lo.size + hi.size) :
    (IT.node b mid A c (srtO Pt.less (ownL mid l)) B d (srtO Pt.ends (ownL mid l)) n lo hi).ok ∧ (IT.node b mid A c (srtO Pt.less (ownL mid l)) B d (srtO Pt.ends (ownL mid l)) n lo hi).spans.Perm l := by
  have hp : ((srtO Pt.less (ownL mid l)) ++ (lo.spans ++ hi.spans)).Perm l := ((srtO_perm _).append (p1.append p2)).trans (parts_perm mid l hf)
  have hl := hp.length_eq
  simp only [List.length_append] at hl
  obtain ⟨m1, m2⟩ := mid_sides hf hm
  have e1 := p1.length_eq
  have e2 := p2.length_eq
  have e3 := hlo.size
  have e4 := hhi.size
  have g1 : (lowL mid l).length = (l.filter fun s => decide (s.y < mid)).length := rfl
  have g2 : (highL mid l).length = (l.filter fun s => decide (mid < s.x)).length := rfl
  refine ⟨⟨keep_kok (hnd.filter _) (fun s hs => ?_) (fun s hs => ?_) (fun s hs => ?_), hn, by omega, by omega, hlo, hhi⟩, hp⟩
  · have := (List.mem_filter.1 hs).2; simpa using this
  · have := (List.mem_filter.1 (p1.subset hs)).2; simpa using this
  · have := (List.mem_filter.1 (p2.subset hs)).2; simpa using this
/-- Where something is put, or cut out. -/
theorem IT.ok.low_mem {b : Nat} {mid : Int} {A : Option Addr} {c : Nat} {p : List Pt} {B : Option Addr} {d : Nat} {q : List Pt} {n : Nat} {lo hi : IT} (h : (IT.node b mid A c p B d q n lo hi).ok) {s : Pt} (hs : s.x ≤ s.y) (hm : s ∈ (IT.node b mid A c p B d q n lo hi).spans) : (s.y < mid → s ∈ lo.spans) ∧ (mid < s.x → s ∈ hi.spans) ∧ (¬ s.y < mid → ¬ mid < s.x → s ∈ p) := by
  obtain ⟨⟨a1, a2, a3, a4, a5⟩, _, _, _, h1, h2⟩ := h
  simp only [IT.spans, List.mem_append] at hm
  refine ⟨fun c1 => ?_, fun c1 => ?_, fun c1 c2 => ?_⟩ <;> rcases hm with h | h | h
  · have := a3 s h; omega
  · exact h
  · have := a5 s h; omega
  · have := a3 s h; omega
  · have := a4 s h; omega
  · exact h
  · exact h
  · have := a4 s h; omega
  · have := a5 s h; omega
end Go.Proofs.YtjnmpogolknkpaaGreat
/- A range over a function, in a walk. No program stands in this text. -/
namespace Go.Proofs.YtjnmpogolknkpaaGreat
open Go.RowKit
set_option linter.unusedVariables false
set_option linter.unusedSimpArgs false

/-- A block that is no cells. -/
structure obj (b : Nat) (o : Obj) (h : Hm) : Prop where
  eq : h b = some o
section
variable {g : Glob} {L : List HP} {w : World}
theorem Hp.obj_heap {b : Nat} {o : Obj} (h : Hp g (obj b o :: L) w) : w.heap[b]? = some o := by
  obtain ⟨h1, h2, d, s1, s2, a, l⟩ := h.s
  exact s1 _ _ a.eq
theorem Hp.allocO (h : Hp g L w) (o : Obj) : Hp g (obj w.heap.size o :: L) (w.alloc o) := by
  refine ⟨h.g, fun k => if k = w.heap.size then some o else none, w.hm, fun k => ?_, fun k o' e => ?_, fun k o' e => ?_, ⟨by simp⟩, h.s⟩
  · by_cases hk : k = w.heap.size
    · right; subst hk; simp [World.hm]
    · left; simp [hk]
  · replace e : (if k = w.heap.size then some o else none) = some o' := e
    by_cases hk : k = w.heap.size
    · subst hk
      rw [if_pos rfl] at e
      show (w.heap.push _)[_]? = _
      simpa using e
    · rw [if_neg hk] at e; cases e
  · have hk : k < w.heap.size := by
      rcases Nat.lt_or_ge k w.heap.size with h' | h'
      · exact h'
      · simp [World.hm, Array.getElem?_eq_none h'] at e
    show (w.heap.push _)[k]? = _
    rw [Array.getElem?_push, if_neg (by omega)]
    exact e
theorem Hp.putO {b : Nat} {o : Obj} (h : Hp g (obj b o :: L) w) (o' : Obj) : Hp g (obj b o' :: L) (w.putObj b o') := by
  have hb := h.obj_heap
  have hlt : b < w.heap.size := (Array.getElem?_eq_some_iff.1 hb).1
  obtain ⟨h1, h2, d, s1, s2, a, l⟩ := h.s
  have a' : h1 b = some o := a.eq
  have hne : ∀ k, k ≠ b → (w.putObj b o').hm k = w.hm k := fun k hk => World.putObj_heap_other hk
  have heq : (w.putObj b o').hm b = some o' := World.putObj_heap_same hlt
  refine ⟨h.g, fun k => if k = b then some o' else none, h2, fun k => ?_, fun k o e => ?_, fun k o e => ?_, ⟨by simp⟩, l⟩
  · by_cases hk : k = b
    · right
      rcases d k with e | e
      · rw [hk, a'] at e; cases e
      · exact e
    · left; simp [hk]
  · replace e : (if k = b then some o' else none) = some o := e
    by_cases hk : k = b
    · subst hk
      rw [if_pos rfl] at e
      rw [heq]; exact e
    · rw [if_neg hk] at e; cases e
  · by_cases hk : k = b
    · rcases d k with e' | e'
      · rw [hk, a'] at e'; cases e'
      · rw [e'] at e; cases e
    · rw [hne k hk]; exact s2 k o e
theorem Hp.true_ (hw : Hp g L w) : Hp g ((fun _ => True) :: L) w := ⟨hw.g, fun _ => none, w.hm, fun _ => .inl rfl, fun _ _ e => (by cases e), hSub.refl _, trivial, hw.s⟩
end

/-! The end of a function that holds such a range. -/
def mk (ds : List Nat) : List Deferred := ds.map fun d => ⟨.collected d, #[]⟩
def mkH (ds : List Nat) : List HP := ds.map fun d => obj d (.deferred (some []))
theorem results_runs {P : Program} {fn : Func} {σ : Env} {L : List HP} {rs : List ResultVar} {vs : List Value} (hr : fn.results = rs.toArray) (h : Res P σ L rs vs) {a : Act} {w : World} (hs : SatE σ a) (hw : sat L w.hm) : (results fn a.tmps).run P w = .ok (retv vs) w := by
  unfold results
  rw [hr]
  simp only [List.mapM_toArray, Sem.run_bind, Sem.run_map]
  have e := h.run hs hw
  generalize hm : List.mapM (m := Sem) _ rs = m
  have e' : m.run P w = .ok vs w := by rw [← hm]; exact e
  rw [e']
  simp only [Result.andThen_ok, Sem.run_pure]
  cases vs with
  | nil => rfl
  | cons v l => cases l <;> simp [retv]
def retM (P : Program) (fn : Func) (g : Glob) (F : HP) (post : Value → List HP → Prop) : Exit → Act → World → Prop
  | .normal, a, w | .ret, a, w => ∃ (ds : List Nat) (M L2 : List HP) (σ : Env) (rs : List ResultVar) (vs : List Value), a.defers = mk ds ∧ SatE σ a ∧ fn.results = rs.toArray ∧ Res P σ M rs vs ∧ (∀ h, sat M h → sat (F :: L2) h) ∧ post (retv vs) L2 ∧ Hp g (mkH ds ++ M) w
  | _, _, _ => False
theorem leaves_mk {P : Program} {fn : Func} {g : Glob} {F : HP} {post : Value → List HP → Prop} {M L2 : List HP} {σ : Env} {rs : List ResultVar} {vs : List Value} {a : Act} (hs : SatE σ a) (hr : fn.results = rs.toArray) (h : Res P σ M rs vs) (hM : ∀ h, sat M h → sat (F :: L2) h) (hp : post (retv vs) L2) :
    ∀ (ds : List Nat) (w : World), Hp g (mkH ds ++ M) w → LeavesInM Fence.wide 0 P fn a.tmps (fun e w' => ∃ v L', e = .returned v ∧ post v L' ∧ Hp g (F :: L') w') (mk ds) .returning w
  | [], w, hw => ⟨retv vs, results_runs hr h hs hw.s, _, L2, rfl, hp, hw.mono hM⟩
  | d :: ds, w, hw => ⟨by simp, .inl ⟨d, w.putObj d (.deferred none), rfl, run_takeDeferred (Hp.obj_heap hw), leaves_mk hs hr h hM hp ds _ ((Hp.putO hw _).mono fun _ s => s.tail)⟩⟩
section
variable {P : Program} {fn : Func} {g : Glob} {n : Nat} {K : List Kt} {σ : Env} {L : List HP} {B : Exit → Act → World → Prop}
theorem Ctr_ofM {f : FuncId} {c : Code} {args : List Value} {post : Value → List HP → Prop} (hf : P.funcs[f]? = some fn) (hb : fn.body = some c) (hn : fn.ntmps = n) (hlen : Nat.ble args.length n = true)
    (h : ∀ g F, g.base = g → G P (retM P fn g F post) g n [.code c] (argsE args 0) (F :: L)) : Ctr P f args.toArray L post := fun g F w hw => by
  refine (callsIn_wide (n := 0)).1 (callsIn_of_wp_marks hf hb trivial ?_)
  have hsz : args.toArray.size ≤ fn.ntmps := by rw [hn]; exact Nat.le_of_ble_eq_true hlen
  have := h g.base F rfl { tmps := args.toArray ++ Array.replicate (fn.ntmps - args.toArray.size) undef, defers := [] } w ⟨by simp at hsz ⊢; omega, rfl, fun t v e => ?_⟩ hw.base
  · refine Code.wpIn_mono (fun e a w h => ?_) this
    cases e with
    | normal =>
      obtain ⟨ds, M, L2, τ, rs, vs, h1, h2, h3, h4, h5, h6, h7⟩ := h
      show LeavesInM _ _ _ _ _ _ a.defers _ _
      rw [h1]
      exact leaves_mk h2 h3 h4 h5 h6 ds w h7.of_base
    | ret =>
      obtain ⟨ds, M, L2, τ, rs, vs, h1, h2, h3, h4, h5, h6, h7⟩ := h
      show LeavesInM _ _ _ _ _ _ a.defers _ _
      rw [h1]
      exact leaves_mk h2 h3 h4 h5 h6 ds w h7.of_base
    | _ => exact h.elim
  · obtain ⟨j, rfl, hj⟩ := argsE_get args 0 t v e
    have hlt : j < args.length := (List.getElem?_eq_some_iff.1 hj).1
    rw [Nat.zero_add, Array.getElem?_append_left (by simpa using hlt)]
    simpa using hj
theorem G_retM {g0 : Glob} {rs : List ResultVar} {vs : List Value} {L' M : List HP} {F : HP} {post : Value → List HP → Prop} (ds : List Nat) (hg : g.base = g0.base) (hd : g.dfs = mk ds) (hr : fn.results = rs.toArray) (h : Res P σ M rs vs) (hL : ∀ h, sat L h → sat (mkH ds ++ M) h) (hM : ∀ h, sat M h → sat (F :: L') h) (hp : post (retv vs) L') :
    G P (retM P fn g0 F post) g n (.code .ret :: K) σ L := fun a w hs hw =>
  wpIn_ret (Kq_ret ⟨ds, M, L', σ, rs, vs, hs.defers.trans hd, hs.e, hr, h, hM, hp, ⟨hw.g.trans hg, hL _ hw.s⟩⟩)

/-! The statement. -/
def Glob.withD (g : Glob) (d : Nat) : Glob := { g with dfs := ⟨.collected d, #[]⟩ :: g.dfs }
theorem G_range {g0 : Operand} {ps : Array Tmp} {assign body : Code} {f : FuncId} {c1 c2 : List Value} {post : Option Code → List HP → Prop} [H : CalT P f] (hr : g.rnd = none) (hq : ev σ g0 = some (.func (.func f) c1.toArray c2.toArray))
    (hc : ∀ (l d : Nat) (fid : FuncId) (tmps : Array Value), tmps.size = n → SatE σ ⟨tmps, []⟩ → Ctr P f (c1 ++ [Value.func (.yield l) #[] #[]] ++ c2).toArray (obj l (.loop ⟨.ready, none, fid, tmps, ps, assign, body, d⟩) :: obj d (.deferred (some [])) :: L)
      fun v L' => ∃ st p L1, st ≠ .busy ∧ post p L1 ∧ L' = obj l (.loop ⟨st, p, fid, tmps, ps, assign, body, d⟩) :: obj d (.deferred (some [])) :: L1)
    (hN : ∀ d L1, post none L1 → G P B (g.withD d) n K σ (obj d (.deferred (some [])) :: L1))
    (hS : ∀ d c L1, post (some c) L1 → G P B (g.withD d) n (.code c :: K) σ (obj d (.deferred (some [])) :: L1)) :
    G P B g n (.code (.rangeFunc g0 ps assign body) :: K) σ L := fun a w hs hw => by
  show (Code.rangeFunc g0 ps assign body).wpIn (fnc g.rnd) 0 P _ a w
  refine wpIn_rangeFunc fun fid _ => ?_
  have h1 := (hw.allocO (.deferred (some []))).allocO (.loop { state := .ready, pending := none, fn := fid, tmps := a.tmps, params := ps, assign, body, defers := w.heap.size })
  have hC := calls_of (hc _ _ fid a.tmps hs.size (fun t v e => hs.e t v e)) h1
  rw [World.size_alloc] at h1 hC
  have hE := run_enterLoop_outer (P := P) (w := w) fid a.tmps ps assign body
  generalize (w.alloc (.deferred (some []))).alloc (.loop { state := .ready, pending := none, fn := fid, tmps := a.tmps, params := ps, assign, body, defers := w.heap.size }) = W at h1 hC hE
  refine ⟨w.heap.size + 1, [⟨.collected w.heap.size, #[]⟩], W, ⟨.fn (.func f) c2.toArray, c1.toArray ++ #[Value.func (.yield (w.heap.size + 1)) #[] #[]]⟩, W, f, (c1 ++ [Value.func (.yield (w.heap.size + 1)) #[] #[]] ++ c2).toArray, W, ?_, ?_, fun _ _ => trivial, ?_, (fun e => by cases e), (callsIn_wide (n := 0)).2 (hC.mono ?_)⟩
  · rw [show (fnc g.rnd).round = none from hr]
    exact hE
  · have ea : a.eval (.const (Value.func (.yield (w.heap.size + 1)) #[] #[])) = Value.func (.yield (w.heap.size + 1)) #[] #[] := rfl
    simp only [resolve, hs.e.eval hq, Deferred.ofValue, Sem.run_bind, Sem.run_pure, Result.andThen_ok, ea, List.map_toArray, List.map_cons, List.map_nil]
  · have := H.run (c1 ++ [Value.func (.yield (w.heap.size + 1)) #[] #[]] ++ c2).toArray W
    simpa [invoke] using this
  · rintro e w' ⟨v, L', rfl, ⟨st, p, L1, hb, hp, rfl⟩, hw'⟩
    refine ⟨p, _, run_endLoop hw'.obj_heap hb, ?_⟩
    have hw2 : Hp g (obj w.heap.size (.deferred (some [])) :: L1) _ := (hw'.putO (.loop ⟨.exhausted, p, fid, a.tmps, ps, assign, body, w.heap.size⟩)).mono fun _ s => s.tail
    have hs2 : Sat (g.withD w.heap.size) n σ { a with defers := [⟨.collected w.heap.size, #[]⟩] ++ a.defers } := ⟨hs.size, by rw [hs.defers]; rfl, fun t v e => hs.e t v e⟩
    cases p with
    | none => exact hN _ _ hp _ _ hs2 ⟨hw2.g, hw2.s⟩
    | some c => exact hS _ c _ hp _ _ hs2 ⟨hw2.g, hw2.s⟩

/-! What a call of yield comes to. -/
def Yld (P : Program) (l : Nat) (args : List Value) (L : List HP) (post : Bool → List HP → Prop) : Prop :=
  ∀ g F w, Hp g (F :: L) w → ∃ fn tmps assign body, (Instr.yield l args.toArray).run P w = .ok (.round l fn tmps assign body) w ∧
    RoundIn Fence.wide 0 P l fn tmps assign body w fun e w' => ∃ b L', e = .returned (.bool b) ∧ post b L' ∧ Hp g (F :: L') w'
theorem Yld.frame {l : Nat} {args : List Value} {L M : List HP} {post : Bool → List HP → Prop} (Fr : List HP) (h : Yld P l args L post) (hL : ∀ h, sat M h → sat (Fr ++ L) h) : Yld P l args M fun b L' => ∃ L1, post b L1 ∧ L' = Fr ++ L1 := by
  intro g F w hw
  have h1 : Hp g ((fun h => sat (F :: Fr) h) :: L) w := hw.mono fun k s => sat.join (N := F :: Fr) (s.cons_mono hL)
  obtain ⟨fn, tmps, assign, body, e, hR⟩ := h g _ w h1
  exact ⟨fn, tmps, assign, body, e, hR.mono fun e w' ⟨b, L1, e1, p, q⟩ => ⟨b, _, e1, ⟨L1, p, rfl⟩, q.mono fun _ s => sat.part (N := F :: Fr) s⟩⟩
theorem Yld.mono {l : Nat} {args : List Value} {L : List HP} {post post' : Bool → List HP → Prop} (h : Yld P l args L post) (f : ∀ b L', post b L' → post' b L') : Yld P l args L post' := fun g F w hw => by
  obtain ⟨fn, tmps, assign, body, e, hR⟩ := h g F w hw
  exact ⟨fn, tmps, assign, body, e, hR.mono fun e w' ⟨b, L1, e1, p, q⟩ => ⟨b, L1, e1, f _ _ p, q⟩⟩
theorem GO_yield {dst : Option Nat} {q : Operand} {xs : List Operand} {ts : Array TypeId} {ty : TypeId} {pos : String} {aft : Array Edge} {ops : Array Oper} {lst : List Oper} {l : Nat} {args : List Value} {post : Bool → List HP → Prop} (hd : dstOk n dst = true)
    (hq : ev σ q = some (.func (.yield l) #[] #[])) (ha : evs σ xs = some args) (hy : Yld P l args L post) (h : ∀ b L', post b L' → GO P B g n ops lst K (putE σ dst (.bool b)) L') :
    GO P B g n ops (⟨dst, .call ⟨.value q, xs.toArray, ts⟩, ty, pos, aft, none⟩ :: lst) K σ L := fun a w hs hw => by
  refine wpListIn_plain rfl fun Kx hK => ⟨fun _ _ => trivial, ?_⟩
  obtain ⟨fid, tmps, assign, body, e1, hR⟩ := hy g _ w hw.true_
  rw [Oper.semAt_eq _ _ _ (fun c e => by cases e)]
  have e : (execOp a.eval ⟨dst, .call ⟨.value q, xs.toArray, ts⟩, ty, pos, aft, none⟩).run P w = .ok (.round l fid tmps assign body) w := by
    simp only [execOp, resolve, hs.e.eval hq, Deferred.ofValue, Sem.run_bind, Sem.run_pure, Result.andThen_ok, invoke, List.map_toArray, evs_map hs.e ha]
    simpa using e1
  rw [e]
  refine ⟨(fun e => by cases e), RoundIn.mono hR fun e w' ⟨b, L', e1, p, q⟩ => ?_⟩
  subst e1
  exact hK _ _ (h b L' p _ _ (hs.put' _ hd) (q.mono fun _ s => s.tail))

/-! A round. -/
def rndB (g : Glob) (F : HP) (l : Nat) (R : LoopState → Option Code → Obj) (post : Bool → List HP → Prop) : Exit → Act → World → Prop
  | .normal, _, w => ∃ L', post true (obj l (R .ready none) :: L') ∧ Hp g (F :: obj l (R .busy none) :: L') w
  | .ret, _, w => ∃ L', post false (obj l (R .done (some .ret)) :: L') ∧ Hp g (F :: obj l (R .busy none) :: L') w
  | .exit id, _, w => ∃ L', post false (obj l (R .done (some (.exit id))) :: L') ∧ Hp g (F :: obj l (R .busy none) :: L') w
  | _, _, _ => False
theorem rndB_noPanic {F : HP} {l : Nat} {R : LoopState → Option Code → Obj} {post : Bool → List HP → Prop} : noPanic (rndB g F l R post) := fun _ _ _ h => h
theorem Yld_of {ι : Type} {τ : ι → Env} {M : ι → List HP} {Fy : ι → Prop} {l d : Nat} {fid : FuncId} {tmps : Array Value} {p : Tmp} {x : Value} {assign body : Code} {τ0 : Env} {post : Bool → List HP → Prop} {R : LoopState → Option Code → Obj} (hR : R = fun st q => .loop ⟨st, q, fid, tmps, #[p], assign, body, d⟩) (hsz : tmps.size = n) (hτ : SatE τ0 ⟨tmps, []⟩) (hp : Nat.blt p n = true)
    (hA : ∀ g F, g.rnd = some l → g.dfs = [] → G P (fun _ _ _ => False) g n [.code assign, .inv (fun a w => ∃ y, Fy y ∧ Sat g n (τ y) a ∧ Hp g (F :: obj l (R .ready none) :: M y) w)] ((p, x) :: τ0) (F :: obj l (R .ready none) :: L))
    (hB : ∀ g F y, Fy y → g.rnd = some l → g.dfs = [] → G P (rndB g F l R post) g n [.code body] (τ y) (F :: obj l (R .busy none) :: M y)) :
    Yld P l [x] (obj l (R .ready none) :: L) post := fun g F w hw => by
  subst hR
  have hw1 := hw.mono fun _ s => s.swap
  have hy := run_yield (P := P) (args := [x].toArray) hw1.obj_heap rfl
  refine ⟨fid, tmps.setIfInBounds p x, assign, body, by simpa using hy, roundIn_of_wpIn trivial ?_⟩
  have hs0 : Sat ⟨g.os, g.tape, g.output, [], some l⟩ n τ0 ⟨tmps, []⟩ := ⟨hsz, rfl, hτ⟩
  have h1 := hA ⟨g.os, g.tape, g.output, [], some l⟩ F rfl rfl _ w (hs0.put x hp) ⟨hw.g, hw.s⟩
  refine Code.wpIn_mono (fun e a1 w1 h => ?_) h1
  cases e with
  | normal =>
    obtain ⟨y, fy, hs1, hw2⟩ := h
    have hw3 := hw2.mono fun _ s => s.swap
    refine ⟨_, run_beginRound hw3.obj_heap rfl, ?_⟩
    have hw4 := (hw3.putO (.loop ⟨.busy, none, fid, tmps, #[p], assign, body, d⟩)).mono fun _ s => s.swap
    have h2 := hB _ F y fy rfl rfl a1 _ hs1 hw4
    refine Code.wpIn_mono (fun e a3 w3 h3 => ?_) h2
    cases e with
    | normal =>
      obtain ⟨L', hp', hw5⟩ := h3
      have hw6 := hw5.mono fun _ s => s.swap
      have hw7 := (hw6.putO (.loop ⟨.ready, none, fid, tmps, #[p], assign, body, d⟩)).mono fun _ s => s.swap
      exact ⟨_, _, run_endRound none hw6.obj_heap, true, _, rfl, hp', ⟨hw7.g, hw7.s⟩⟩
    | ret =>
      obtain ⟨L', hp', hw5⟩ := h3
      have hw6 := hw5.mono fun _ s => s.swap
      have hw7 := (hw6.putO (.loop ⟨.done, some .ret, fid, tmps, #[p], assign, body, d⟩)).mono fun _ s => s.swap
      exact ⟨_, _, run_endRound (some .ret) hw6.obj_heap, false, _, rfl, hp', ⟨hw7.g, hw7.s⟩⟩
    | exit id =>
      obtain ⟨L', hp', hw5⟩ := h3
      have hw6 := hw5.mono fun _ s => s.swap
      have hw7 := (hw6.putO (.loop ⟨.done, some (.exit id), fid, tmps, #[p], assign, body, d⟩)).mono fun _ s => s.swap
      exact ⟨_, _, run_endRound (some (.exit id)) hw6.obj_heap, false, _, rfl, hp', ⟨hw7.g, hw7.s⟩⟩
    | _ => exact h3.elim
  | _ => exact h.elim
/-- What a loop's rounds come to, its record being R. -/
def Rnd (P : Program) (n : Nat) (σ : Env) (l : Nat) (p : Tmp) (assign body : Code) (R : LoopState → Option Code → Obj) : Prop :=
  ∀ {ι : Type} {τ : ι → Env} {M : ι → List HP} {Fy : ι → Prop} {x : Value} {L : List HP} {post : Bool → List HP → Prop},
    (∀ g F, g.rnd = some l → g.dfs = [] → G P (fun _ _ _ => False) g n [.code assign, .inv (fun a w => ∃ y, Fy y ∧ Sat g n (τ y) a ∧ Hp g (F :: obj l (R .ready none) :: M y) w)] ((p, x) :: σ) (F :: obj l (R .ready none) :: L)) →
    (∀ g F y, Fy y → g.rnd = some l → g.dfs = [] → G P (rndB g F l R post) g n [.code body] (τ y) (F :: obj l (R .busy none) :: M y)) →
    Yld P l [x] (obj l (R .ready none) :: L) post
/-- A range with one variable. -/
theorem G_range1 {g0 : Operand} {p : Tmp} {assign body : Code} {f : FuncId} {c1 c2 : List Value} {post : Option Code → List HP → Prop} [H : CalT P f] (hr : g.rnd = none) (hp : Nat.blt p n = true) (hq : ev σ g0 = some (.func (.func f) c1.toArray c2.toArray))
    (hc : ∀ (l d : Nat) (R : LoopState → Option Code → Obj), Rnd P n σ l p assign body R → Ctr P f (c1 ++ [Value.func (.yield l) #[] #[]] ++ c2).toArray (obj l (R .ready none) :: obj d (.deferred (some [])) :: L)
      fun v L' => ∃ st q L1, st ≠ .busy ∧ post q L1 ∧ L' = obj l (R st q) :: obj d (.deferred (some [])) :: L1)
    (hN : ∀ d L1, post none L1 → G P B (g.withD d) n K σ (obj d (.deferred (some [])) :: L1))
    (hS : ∀ d c L1, post (some c) L1 → G P B (g.withD d) n (.code c :: K) σ (obj d (.deferred (some [])) :: L1)) :
    G P B g n (.code (.rangeFunc g0 #[p] assign body) :: K) σ L :=
  G_range hr hq (fun l d fid tmps hsz hσ => hc l d (fun st q => .loop ⟨st, q, fid, tmps, #[p], assign, body, d⟩) fun hA hB => Yld_of rfl hsz hσ hp hA hB) hN hS
/-- The variable has its value; a round's end. -/
theorem G_rndStart {ι : Type} {τ : ι → Env} {M : ι → List HP} {Fy : ι → Prop} {F : HP} {l : Nat} {r : Obj} (y : ι) (hf : Fy y) (hσ : envSub σ (τ y)) (hL : ∀ h, sat L h → sat (F :: obj l r :: M y) h) :
    G P B g n [.inv (fun a w => ∃ y, Fy y ∧ Sat g n (τ y) a ∧ Hp g (F :: obj l r :: M y) w)] σ L := fun _ _ hs hw => ⟨y, hf, hs.sub hσ, hw.mono hL⟩
theorem G_rndEnd {F : HP} {l : Nat} {R : LoopState → Option Code → Obj} {post : Bool → List HP → Prop} (L' : List HP) (hp : post true (obj l (R .ready none) :: L')) (hL : ∀ h, sat L h → sat (F :: obj l (R .busy none) :: L') h) :
    G P (rndB g F l R post) g n [] σ L := fun _ _ _ hw => ⟨L', hp, hw.mono hL⟩
end
end Go.Proofs.YtjnmpogolknkpaaGreat
/- Picking out of numbers, by cmp.Less: the walks. -/
namespace Go.Proofs.YtjnmpogolknkpaaGreat
attribute [local irreducible] sat
set_option linter.unusedVariables false
set_option linter.unusedSimpArgs false
set_option maxRecDepth 100000

theorem clessI_ctr (a b : Int) (L : List HP) : Ctr Tryz.prog 133 #[.int .i64 a, .int .i64 b] L fun v L' => v = .bool (ltI a b) ∧ L' = L := cless_ctr a b L
theorem takeI_snoc {l : List Int} {k : Nat} {x : Int} (h : l[k]? = some x) : l.take (k + 1) = l.take k ++ [x] := by
  rw [List.take_add_one, h]; rfl
theorem lowO_snoc (v x : Int) (l : List Int) : lowO ltI v (l ++ [x]) = lowO ltI v l ++ if ltI x v = true then [x] else [] := by
  unfold lowO; rw [List.filter_append]; congr 1; simp [List.filter_cons]
theorem likeO_snoc (v x : Int) (l : List Int) : likeO v (l ++ [x]) = likeO v l ++ if x = v then [x] else [] := by
  unfold likeO; rw [List.filter_append]; congr 1; simp [List.filter_cons]
theorem highO_snoc (v x : Int) (l : List Int) : highO ltI v (l ++ [x]) = highO ltI v l ++ if ltI v x = true then [x] else [] := by
  unfold highO; rw [List.filter_append]; congr 1; simp [List.filter_cons]
/-- Three slices of a call's own. -/
structure P3 where
  A1 : Option Addr
  c1 : Nat
  A2 : Option Addr
  c2 : Nat
  A3 : Option Addr
  c3 : Nat
structure P3.Ok (s : P3) (n1 n2 n3 : Nat) : Prop where
  h1 : 0 < n1 → ∃ b, s.A1 = some ⟨b, 0, none⟩
  h2 : 0 < n2 → ∃ b, s.A2 = some ⟨b, 0, none⟩
  h3 : 0 < n3 → ∃ b, s.A3 = some ⟨b, 0, none⟩
  k1 : n1 ≤ s.c1
  k2 : n2 ≤ s.c2
  k3 : n3 ≤ s.c3
theorem partsI_ctr (A : Option Addr) (n c : Nat) (l : List Int) (v : Int) (L : List HP) (hl : Rd L A n l) (hn : n ≤ 1000000) :
    Ctr Tryz.prog 163 #[.slice A n c, .int .i64 v, .func (.func 133) #[] #[]] L fun r L' => ∃ s : P3, r = .tuple #[.slice s.A1 (lowO ltI v l).length s.c1, .slice s.A2 (likeO v l).length s.c2, .slice s.A3 (highO ltI v l).length s.c3] ∧ s.Ok (lowO ltI v l).length (likeO v l).length (highO ltI v l).length ∧
      L' = own 3 1 s.A1 (lowO ltI v l).length s.c1 (flat (lowO ltI v l)) :: own 3 1 s.A2 (likeO v l).length s.c2 (flat (likeO v l)) :: own 3 1 s.A3 (highO ltI v l).length s.c3 (flat (highO ltI v l)) :: L := by
  have h1 : l.length = n := hl.len (by decide)
  refine Ctr_of (fn := Tryz.f163) (n := 43) Tryz.func163 rfl rfl rfl ?_
  intro g F
  (repeat first | refine G_seq ?_ | refine G_skip ?_ | refine G_endblk ?_ | refine G_block ?_ | refine G_exit rfl ?_)
  refine G_region ?_
  refine GO_q rfl rfl (ev_assign rfl) ?_
  refine GO_q rfl rfl (ev_assign rfl) ?_
  refine GO_q rfl rfl (ev_assign rfl) ?_
  refine GO_nil ?_
  (repeat first | refine G_seq ?_ | refine G_skip ?_ | refine G_endblk ?_ | refine G_block ?_ | refine G_exit rfl ?_)
  refine G_region ?_
  refine GO_q rfl rfl (ev_move rfl) ?_
  refine GO_q rfl rfl (ev_len rfl) ?_
  refine GO_q rfl rfl (ev_move rfl) ?_
  refine GO_nil ?_
  (repeat first | refine G_seq ?_ | refine G_skip ?_ | refine G_endblk ?_ | refine G_block ?_ | refine G_exit rfl ?_)
  refine G_heap (own.nil_ 3 1) ?_
  refine G_heap (own.nil_ 3 1) ?_
  refine G_heap (own.nil_ 3 1) ?_
  refine G_loop (ι := Nat × P3) (fun z => [(1, .int .i64 v), (2, .func (.func 133) #[] #[]), (6, .slice z.2.A1 (lowO ltI v (l.take z.1)).length z.2.c1), (7, .slice z.2.A2 (likeO v (l.take z.1)).length z.2.c2), (8, .slice z.2.A3 (highO ltI v (l.take z.1)).length z.2.c3), (11, .slice A n c), (12, .int .i64 (n : Nat)), (13, .int .i64 (z.1 : Nat))])
    (fun z => own 3 1 z.2.A1 (lowO ltI v (l.take z.1)).length z.2.c1 (flat (lowO ltI v (l.take z.1))) :: own 3 1 z.2.A2 (likeO v (l.take z.1)).length z.2.c2 (flat (likeO v (l.take z.1))) :: own 3 1 z.2.A3 (highO ltI v (l.take z.1)).length z.2.c3 (flat (highO ltI v (l.take z.1))) :: F :: L)
    (fun z => z.1 ≤ n ∧ z.2.Ok (lowO ltI v (l.take z.1)).length (likeO v (l.take z.1)).length (highO ltI v (l.take z.1)).length) (fun z => n - z.1) (0, ⟨none, 0, none, 0, none, 0⟩) ⟨Nat.zero_le _, ⟨fun h => absurd h (Nat.lt_irrefl 0), fun h => absurd h (Nat.lt_irrefl 0), fun h => absurd h (Nat.lt_irrefl 0), Nat.le_refl _, Nat.le_refl _, Nat.le_refl _⟩⟩ ⟨rfl, rfl, rfl, rfl, rfl, rfl, rfl, rfl, trivial⟩ (by (repeat first | exact fun _ s => s | apply en_keep | apply en_drop | apply en_app) <;> fail) ?_
  rintro ⟨k, s⟩ ⟨f1, f2⟩
  simp only at f1 f2
  dsimp only
  have b1 : (lowO ltI v (l.take k)).length ≤ 1000000 := Nat.le_trans (List.length_filter_le _ _) (by rw [List.length_take]; omega)
  have b2 : (likeO v (l.take k)).length ≤ 1000000 := Nat.le_trans (List.length_filter_le _ _) (by rw [List.length_take]; omega)
  have b3 : (highO ltI v (l.take k)).length ≤ 1000000 := Nat.le_trans (List.length_filter_le _ _) (by rw [List.length_take]; omega)
  (repeat first | refine G_seq ?_ | refine G_skip ?_ | refine G_endblk ?_ | refine G_block ?_ | refine G_exit rfl ?_)
  refine G_region ?_
  (first | refine GO_q rfl rfl (ev_lssN rfl rfl) ?_ | refine GO_q rfl rfl (ev_lss rfl rfl) ?_)
  refine GO_nil ?_
  (repeat first | refine G_seq ?_ | refine G_skip ?_ | refine G_endblk ?_ | refine G_block ?_ | refine G_exit rfl ?_)
  refine G_cond rfl (fun q1 => ?_) (fun q1 => ?_)
  · obtain ⟨ab, ao, rfl, ax⟩ := hl.at_ (by omega)
    have g1 : l[k]? = some l[k] := List.getElem?_eq_getElem (by omega)
    have y1 := (ax _ _ g1).at_ (i := 0) rfl
    have hs := takeI_snoc g1
    generalize l[k] = x at *
    have z1 : Ld L ⟨ab, ao + k * 1, none⟩ (.int .i64 x) := y1
    have t1 := lowO_snoc v x (l.take k)
    have t2 := likeO_snoc v x (l.take k)
    have t3 := highO_snoc v x (l.take k)
    rw [← hs] at t1 t2 t3
    (repeat first | refine G_seq ?_ | refine G_skip ?_ | refine G_endblk ?_ | refine G_block ?_ | refine G_exit rfl ?_)
    refine G_region ?_
    (first | refine GO_q rfl rfl (ev_indexAddrN rfl rfl (by first | omega | (simp; done) | (simp; omega))) ?_ | refine GO_q rfl rfl (ev_indexAddr rfl rfl (by first | omega | (simp; done) | (simp; omega)) (by first | omega | (simp; done) | (simp; omega))) ?_)
    refine GO_q rfl rfl (ev_load rfl (by repeat' first | exact Ld.blk rfl | assumption | apply Ld.skip | apply Ld.app)) ?_
    refine GO_q rfl rfl (ev_assign rfl) ?_
    refine GO_nil ?_
    (repeat first | refine G_seq ?_ | refine G_skip ?_ | refine G_endblk ?_ | refine G_block ?_ | refine G_exit rfl ?_)
    refine G_region ?_
    refine GO_q rfl rfl (ev_move rfl) ?_
    refine GO_q rfl rfl (ev_move rfl) ?_
    refine GO_q rfl rfl (ev_move rfl) ?_
    refine GO_eff rfl rfl (eff_callv rfl rfl (clessI_ctr x v _)) ?_; rintro _ _ ⟨rfl, rfl⟩
    refine GO_q rfl rfl (ev_assign rfl) ?_
    refine GO_nil ?_
    rcases Int.lt_trichotomy x v with q | q | q
    · have e1 : ltI x v = true := by simp [ltI, q]
      have e3 : ltI v x = false := by simp [ltI]; omega
      rw [e1, if_pos rfl] at t1
      rw [if_neg (by omega), List.append_nil] at t2
      rw [e3, if_neg (by simp), List.append_nil] at t3
      (repeat first | refine G_seq ?_ | refine G_skip ?_ | refine G_endblk ?_ | refine G_block ?_ | refine G_exit rfl ?_)
      refine G_cond_t rfl e1 ?_
      (repeat first | refine G_seq ?_ | refine G_skip ?_ | refine G_endblk ?_ | refine G_block ?_ | refine G_exit rfl ?_)
      refine G_region ?_
      refine GO_q rfl rfl (ev_move rfl) ?_
      refine GO_q rfl rfl (ev_move rfl) ?_
      refine GO_eff rfl rfl (eff_buildSlice1 (by rfl) rfl rfl) ?_; rintro _ _ ⟨b28, rfl, rfl⟩
      refine GO_eff rfl rfl (eff_append rfl rfl (by repeat' first | exact Pick.here | apply Pick.skip) (by repeat' first | exact Rc.blk rfl | assumption | apply Rc.skip) (one_all rfl) (by rfl) (by decide) (by first | omega | (simp; done) | (simp; omega)) (by first | omega | (simp; done) | (simp; omega))) ?_; rintro _ _ ⟨A29, c29, rfl, hc29, hm29, hn29, rfl⟩
      refine GO_q rfl rfl (ev_assign rfl) ?_
      refine GO_nil ?_
      (repeat first | refine G_seq ?_ | refine G_skip ?_ | refine G_endblk ?_ | refine G_block ?_ | refine G_exit rfl ?_)
      refine G_region ?_
      (first | refine GO_q rfl rfl (ev_addN (q := 1) rfl rfl (by first | omega | (simp; done) | (simp; omega))) ?_ | refine GO_q rfl rfl (ev_add rfl rfl (by first | omega | (simp; done) | (simp; omega))) ?_)
      refine GO_q rfl rfl (ev_move rfl) ?_
      refine GO_nil ?_
      (repeat first | refine G_seq ?_ | refine G_skip ?_ | refine G_endblk ?_ | refine G_block ?_ | refine G_exit rfl ?_)
      exact G_round (k + 1, { s with A1 := A29, c1 := c29 }) ⟨by simp only; omega, by
        simp only
        rw [t1, t2, t3, List.length_append]
        exact ⟨fun _ => hn29 (by omega), f2.h2, f2.h3, hc29, f2.k2, f2.k3⟩⟩ (by simp only; omega) ⟨rfl, rfl, by simp only; rw [t1, List.length_append]; rfl, by simp only; rw [t2]; rfl, by simp only; rw [t3]; rfl, rfl, rfl, rfl, trivial⟩ (by
        simp only
        rw [t1, t2, t3, List.length_append, ← flat_snoc]
        exact (by (repeat first | exact en_refl | (apply en_blk; focus ((repeat' first | exact Pick.here | apply Pick.skip | apply Pick.app); done); focus rfl) | (apply en_own; focus ((repeat' first | exact Pick.here | apply Pick.skip | apply Pick.app); done); focus rfl) | (apply en_pick; focus ((repeat' first | exact Pick.here | apply Pick.skip | apply Pick.app); done)) | apply en_drop | apply en_app) <;> fail))
    · subst q
      have e1 : ltI x x = false := by simp [ltI]
      rw [e1, if_neg (by simp), List.append_nil] at t1
      rw [if_pos rfl] at t2
      rw [e1, if_neg (by simp), List.append_nil] at t3
      (repeat first | refine G_seq ?_ | refine G_skip ?_ | refine G_endblk ?_ | refine G_block ?_ | refine G_exit rfl ?_)
      refine G_cond_f rfl e1 ?_
      (repeat first | refine G_seq ?_ | refine G_skip ?_ | refine G_endblk ?_ | refine G_block ?_ | refine G_exit rfl ?_)
      refine G_region ?_
      refine GO_q rfl rfl (ev_move rfl) ?_
      refine GO_q rfl rfl (ev_move rfl) ?_
      refine GO_q rfl rfl (ev_move rfl) ?_
      refine GO_eff rfl rfl (eff_callv rfl rfl (clessI_ctr x x _)) ?_; rintro _ _ ⟨rfl, rfl⟩
      refine GO_q rfl rfl (ev_assign rfl) ?_
      refine GO_nil ?_
      (repeat first | refine G_seq ?_ | refine G_skip ?_ | refine G_endblk ?_ | refine G_block ?_ | refine G_exit rfl ?_)
      refine G_cond_f rfl e1 ?_
      (repeat first | refine G_seq ?_ | refine G_skip ?_ | refine G_endblk ?_ | refine G_block ?_ | refine G_exit rfl ?_)
      refine G_region ?_
      refine GO_q rfl rfl (ev_move rfl) ?_
      refine GO_q rfl rfl (ev_move rfl) ?_
      refine GO_eff rfl rfl (eff_buildSlice1 (by rfl) rfl rfl) ?_; rintro _ _ ⟨b19, rfl, rfl⟩
      refine GO_eff rfl rfl (eff_append rfl rfl (by repeat' first | exact Pick.here | apply Pick.skip) (by repeat' first | exact Rc.blk rfl | assumption | apply Rc.skip) (one_all rfl) (by rfl) (by decide) (by first | omega | (simp; done) | (simp; omega)) (by first | omega | (simp; done) | (simp; omega))) ?_; rintro _ _ ⟨A20, c20, rfl, hc20, hm20, hn20, rfl⟩
      refine GO_q rfl rfl (ev_assign rfl) ?_
      refine GO_nil ?_
      (repeat first | refine G_seq ?_ | refine G_skip ?_ | refine G_endblk ?_ | refine G_block ?_ | refine G_exit rfl ?_)
      refine G_region ?_
      (first | refine GO_q rfl rfl (ev_addN (q := 1) rfl rfl (by first | omega | (simp; done) | (simp; omega))) ?_ | refine GO_q rfl rfl (ev_add rfl rfl (by first | omega | (simp; done) | (simp; omega))) ?_)
      refine GO_q rfl rfl (ev_move rfl) ?_
      refine GO_nil ?_
      (repeat first | refine G_seq ?_ | refine G_skip ?_ | refine G_endblk ?_ | refine G_block ?_ | refine G_exit rfl ?_)
      exact G_round (k + 1, { s with A2 := A20, c2 := c20 }) ⟨by simp only; omega, by
        simp only
        rw [t1, t2, t3, List.length_append]
        exact ⟨f2.h1, fun _ => hn20 (by omega), f2.h3, f2.k1, hc20, f2.k3⟩⟩ (by simp only; omega) ⟨rfl, rfl, by simp only; rw [t1]; rfl, by simp only; rw [t2, List.length_append]; rfl, by simp only; rw [t3]; rfl, rfl, rfl, rfl, trivial⟩ (by
        simp only
        rw [t1, t2, t3, List.length_append, ← flat_snoc]
        exact (by (repeat first | exact en_refl | (apply en_blk; focus ((repeat' first | exact Pick.here | apply Pick.skip | apply Pick.app); done); focus rfl) | (apply en_own; focus ((repeat' first | exact Pick.here | apply Pick.skip | apply Pick.app); done); focus rfl) | (apply en_pick; focus ((repeat' first | exact Pick.here | apply Pick.skip | apply Pick.app); done)) | apply en_drop | apply en_app) <;> fail))
    · have e1 : ltI x v = false := by simp [ltI]; omega
      have e3 : ltI v x = true := by simp [ltI]; omega
      rw [e1, if_neg (by simp), List.append_nil] at t1
      rw [if_neg (by omega), List.append_nil] at t2
      rw [e3, if_pos rfl] at t3
      (repeat first | refine G_seq ?_ | refine G_skip ?_ | refine G_endblk ?_ | refine G_block ?_ | refine G_exit rfl ?_)
      refine G_cond_f rfl e1 ?_
      (repeat first | refine G_seq ?_ | refine G_skip ?_ | refine G_endblk ?_ | refine G_block ?_ | refine G_exit rfl ?_)
      refine G_region ?_
      refine GO_q rfl rfl (ev_move rfl) ?_
      refine GO_q rfl rfl (ev_move rfl) ?_
      refine GO_q rfl rfl (ev_move rfl) ?_
      refine GO_eff rfl rfl (eff_callv rfl rfl (clessI_ctr v x _)) ?_; rintro _ _ ⟨rfl, rfl⟩
      refine GO_q rfl rfl (ev_assign rfl) ?_
      refine GO_nil ?_
      (repeat first | refine G_seq ?_ | refine G_skip ?_ | refine G_endblk ?_ | refine G_block ?_ | refine G_exit rfl ?_)
      refine G_cond_t rfl e3 ?_
      (repeat first | refine G_seq ?_ | refine G_skip ?_ | refine G_endblk ?_ | refine G_block ?_ | refine G_exit rfl ?_)
      refine G_region ?_
      refine GO_q rfl rfl (ev_move rfl) ?_
      refine GO_q rfl rfl (ev_move rfl) ?_
      refine GO_eff rfl rfl (eff_buildSlice1 (by rfl) rfl rfl) ?_; rintro _ _ ⟨b37, rfl, rfl⟩
      refine GO_eff rfl rfl (eff_append rfl rfl (by repeat' first | exact Pick.here | apply Pick.skip) (by repeat' first | exact Rc.blk rfl | assumption | apply Rc.skip) (one_all rfl) (by rfl) (by decide) (by first | omega | (simp; done) | (simp; omega)) (by first | omega | (simp; done) | (simp; omega))) ?_; rintro _ _ ⟨A38, c38, rfl, hc38, hm38, hn38, rfl⟩
      refine GO_q rfl rfl (ev_assign rfl) ?_
      refine GO_nil ?_
      (repeat first | refine G_seq ?_ | refine G_skip ?_ | refine G_endblk ?_ | refine G_block ?_ | refine G_exit rfl ?_)
      refine G_region ?_
      (first | refine GO_q rfl rfl (ev_addN (q := 1) rfl rfl (by first | omega | (simp; done) | (simp; omega))) ?_ | refine GO_q rfl rfl (ev_add rfl rfl (by first | omega | (simp; done) | (simp; omega))) ?_)
      refine GO_q rfl rfl (ev_move rfl) ?_
      refine GO_nil ?_
      (repeat first | refine G_seq ?_ | refine G_skip ?_ | refine G_endblk ?_ | refine G_block ?_ | refine G_exit rfl ?_)
      exact G_round (k + 1, { s with A3 := A38, c3 := c38 }) ⟨by simp only; omega, by
        simp only
        rw [t1, t2, t3, List.length_append]
        exact ⟨f2.h1, f2.h2, fun _ => hn38 (by omega), f2.k1, f2.k2, hc38⟩⟩ (by simp only; omega) ⟨rfl, rfl, by simp only; rw [t1]; rfl, by simp only; rw [t2]; rfl, by simp only; rw [t3, List.length_append]; rfl, rfl, rfl, rfl, trivial⟩ (by
        simp only
        rw [t1, t2, t3, List.length_append, ← flat_snoc]
        exact (by (repeat first | exact en_refl | (apply en_blk; focus ((repeat' first | exact Pick.here | apply Pick.skip | apply Pick.app); done); focus rfl) | (apply en_own; focus ((repeat' first | exact Pick.here | apply Pick.skip | apply Pick.app); done); focus rfl) | (apply en_pick; focus ((repeat' first | exact Pick.here | apply Pick.skip | apply Pick.app); done)) | apply en_drop | apply en_app) <;> fail))
  · have e : l.take k = l := List.take_of_length_le (by omega)
    rw [e] at f2 ⊢
    (repeat first | refine G_seq ?_ | refine G_skip ?_ | refine G_endblk ?_ | refine G_block ?_ | refine G_exit rfl ?_)
    refine G_region ?_
    refine GO_q rfl rfl (ev_move rfl) ?_
    refine GO_q rfl rfl (ev_move rfl) ?_
    refine GO_q rfl rfl (ev_move rfl) ?_
    refine GO_q rfl rfl (ev_assign rfl) ?_
    refine GO_q rfl rfl (ev_assign rfl) ?_
    refine GO_q rfl rfl (ev_assign rfl) ?_
    refine GO_nil ?_
    (repeat first | refine G_seq ?_ | refine G_skip ?_ | refine G_endblk ?_ | refine G_block ?_ | refine G_exit rfl ?_)
    exact G_ret (L' := own 3 1 s.A1 (lowO ltI v l).length s.c1 (flat (lowO ltI v l)) :: own 3 1 s.A2 (likeO v l).length s.c2 (flat (likeO v l)) :: own 3 1 s.A3 (highO ltI v l).length s.c3 (flat (highO ltI v l)) :: L) rfl (.tmp rfl (.tmp rfl (.tmp rfl .nil))) (by (repeat first | exact en_refl | (apply en_blk; focus ((repeat' first | exact Pick.here | apply Pick.skip | apply Pick.app); done); focus rfl) | (apply en_own; focus ((repeat' first | exact Pick.here | apply Pick.skip | apply Pick.app); done); focus rfl) | (apply en_pick; focus ((repeat' first | exact Pick.here | apply Pick.skip | apply Pick.app); done)) | apply en_drop | apply en_app) <;> fail) ⟨s, rfl, f2, rfl⟩
/-- slices.Chunk -/
theorem Chunk_ctr (A : Option Addr) (n c : Nat) (L : List HP) : Ctr Tryz.prog 167 #[.slice A n c, .int .i64 5] L fun v L' => ∃ b2 b3, v = .func (.func 169) #[] #[.pointer (some ⟨b2, 0, none⟩), .pointer (some ⟨b3, 0, none⟩)] ∧ L' = blk b2 33 [.slice A n c] :: blk b3 3 [.int .i64 5] :: L := by
  refine Ctr_of (fn := Tryz.f167) (n := 9) Tryz.func167 rfl rfl rfl ?_
  intro g F
  (repeat first | refine G_seq ?_ | refine G_skip ?_ | refine G_endblk ?_ | refine G_block ?_ | refine G_exit rfl ?_)
  refine G_region ?_
  refine GO_eff rfl rfl (eff_box rfl) ?_; rintro _ _ ⟨b2, rfl, rfl⟩
  refine GO_eff rfl rfl (eff_box rfl) ?_; rintro _ _ ⟨b3, rfl, rfl⟩
  refine GO_q rfl rfl (ev_assign rfl) ?_
  refine GO_nil ?_
  (repeat first | refine G_seq ?_ | refine G_skip ?_ | refine G_endblk ?_ | refine G_block ?_ | refine G_exit rfl ?_)
  refine G_region ?_
  refine GO_q rfl rfl (ev_load rfl (by repeat' first | exact Ld.blk rfl | assumption | apply Ld.skip | apply Ld.app)) ?_
  (first | refine GO_q rfl rfl (ev_lssN (q := 1) rfl rfl) ?_ | refine GO_q rfl rfl (ev_lss rfl rfl) ?_)
  refine GO_nil ?_
  (repeat first | refine G_seq ?_ | refine G_skip ?_ | refine G_endblk ?_ | refine G_block ?_ | refine G_exit rfl ?_)
  refine G_cond_f rfl rfl ?_
  (repeat first | refine G_seq ?_ | refine G_skip ?_ | refine G_endblk ?_ | refine G_block ?_ | refine G_exit rfl ?_)
  refine G_region ?_
  refine GO_q rfl rfl (ev_makeFunc rfl rfl) ?_
  refine GO_q rfl rfl (ev_assign rfl) ?_
  refine GO_nil ?_
  (repeat first | refine G_seq ?_ | refine G_skip ?_ | refine G_endblk ?_ | refine G_block ?_ | refine G_exit rfl ?_)
  exact G_ret (L' := blk b2 33 [.slice A n c] :: blk b3 3 [.int .i64 5] :: L) rfl (.tmp rfl .nil) (by (repeat first | exact en_refl | (apply en_blk; focus ((repeat' first | exact Pick.here | apply Pick.skip | apply Pick.app); done); focus rfl) | (apply en_own; focus ((repeat' first | exact Pick.here | apply Pick.skip | apply Pick.app); done); focus rfl) | (apply en_pick; focus ((repeat' first | exact Pick.here | apply Pick.skip | apply Pick.app); done)) | apply en_drop | apply en_app) <;> fail) ⟨b2, b3, rfl, rfl⟩
theorem chunks_ctr {S : Type} (y b2 b3 b o n c : Nat) (xs : List Int) (L : Nat → S → List HP) (Inv : Nat → S → Prop) (hRd : ∀ k s, Inv k s → Rd (L k s) (some ⟨b, o, none⟩) n xs) (hn : n ≤ 1000000) (hc : n ≤ c)
    (hy : ∀ k s, 5 * k < n → Inv k s → Yld Tryz.prog y [.slice (some ⟨b, o + 5 * k, none⟩) (min 5 (n - 5 * k)) (min 5 (n - 5 * k))] (L k s) fun q L' => q = true ∧ ∃ s', Inv (k + 1) s' ∧ L' = L (k + 1) s') (s0 : S) (h0 : Inv 0 s0) :
    Ctr Tryz.prog 169 #[Value.func (.yield y) #[] #[], .pointer (some ⟨b2, 0, none⟩), .pointer (some ⟨b3, 0, none⟩)] (blk b2 33 [.slice (some ⟨b, o, none⟩) n c] :: blk b3 3 [.int .i64 5] :: L 0 s0) fun v L' => v = .tuple #[] ∧ ∃ k s', n ≤ 5 * k ∧ 5 * k < n + 5 ∧ Inv k s' ∧ L' = blk b2 33 [.slice (some ⟨b, o, none⟩) n c] :: blk b3 3 [.int .i64 5] :: L k s' := by
  refine Ctr_of (fn := Tryz.f169) (n := 31) Tryz.func169 rfl rfl rfl ?_
  intro g F
  (repeat first | refine G_seq ?_ | refine G_skip ?_ | refine G_endblk ?_ | refine G_block ?_ | refine G_exit rfl ?_)
  refine G_region ?_
  refine GO_q rfl rfl (ev_assign rfl) ?_
  refine GO_nil ?_
  (repeat first | refine G_seq ?_ | refine G_skip ?_ | refine G_endblk ?_ | refine G_block ?_ | refine G_exit rfl ?_)
  refine G_loop (ι := Nat × S) (fun z => [(0, Value.func (.yield y) #[] #[]), (1, .pointer (some ⟨b2, 0, none⟩)), (2, .pointer (some ⟨b3, 0, none⟩)), (4, .int .i64 ((5 * z.1 : Nat) : Int))]) (fun z => F :: blk b2 33 [.slice (some ⟨b, o, none⟩) n c] :: blk b3 3 [.int .i64 5] :: L z.1 z.2) (fun z => 5 * z.1 < n + 5 ∧ Inv z.1 z.2) (fun z => n + 5 - 5 * z.1) (0, s0) ⟨by simp only; omega, h0⟩ ⟨rfl, rfl, rfl, rfl, trivial⟩ (by (repeat first | exact fun _ s => s | apply en_keep | apply en_drop | apply en_app) <;> fail) ?_
  rintro ⟨k, s⟩ ⟨f1, f2⟩
  simp only at f1 f2
  dsimp only
  (repeat first | refine G_seq ?_ | refine G_skip ?_ | refine G_endblk ?_ | refine G_block ?_ | refine G_exit rfl ?_)
  refine G_region ?_
  refine GO_q rfl rfl (ev_move rfl) ?_
  refine GO_q rfl rfl (ev_load rfl (by repeat' first | exact Ld.blk rfl | assumption | apply Ld.skip | apply Ld.app)) ?_
  refine GO_q rfl rfl (ev_len rfl) ?_
  (first | refine GO_q rfl rfl (ev_lssN rfl rfl) ?_ | refine GO_q rfl rfl (ev_lss rfl rfl) ?_)
  refine GO_nil ?_
  (repeat first | refine G_seq ?_ | refine G_skip ?_ | refine G_endblk ?_ | refine G_block ?_ | refine G_exit rfl ?_)
  refine G_cond rfl (fun q1 => ?_) (fun q1 => ?_)
  · have hyk := hy k s (by omega) f2
    obtain ⟨i, hi⟩ : ∃ i, i = 5 * k := ⟨_, rfl⟩
    obtain ⟨m, hm⟩ : ∃ m, m = min 5 (n - i) := ⟨_, rfl⟩
    have hme : (min (5 : Int) ((n - i : Nat) : Int)) = (m : Int) := by omega
    rw [← hi] at hyk q1 f1 ⊢
    rw [← hm] at hyk
    (repeat first | refine G_seq ?_ | refine G_skip ?_ | refine G_endblk ?_ | refine G_block ?_ | refine G_exit rfl ?_)
    refine G_draw (.q 0 (.q 1 (.q 2 (.q 3 (.q 4 (.q 5 (.q 6 .nil))))))) (by kernel_rfl) (by kernel_rfl) ?_
    refine RS_q retB_noPanic rfl rfl rfl rfl (ev_load rfl (by repeat' first | exact Ld.blk rfl | assumption | apply Ld.skip | apply Ld.app)) ?_
    refine RS_q retB_noPanic rfl rfl rfl rfl (ev_load rfl (by repeat' first | exact Ld.blk rfl | assumption | apply Ld.skip | apply Ld.app)) ?_
    refine RS_m retB_noPanic rfl rfl rfl rfl (ev_move rfl) ?_
    refine RS_q retB_noPanic rfl rfl rfl rfl (ev_sliceL rfl rfl (by omega) (by omega)) ?_
    refine RS_q retB_noPanic rfl rfl rfl rfl (ev_len rfl) ?_
    refine RS_q retB_noPanic rfl rfl rfl rfl (ev_min rfl rfl) ?_
    refine RS_m retB_noPanic rfl rfl rfl rfl (ev_assign rfl) ?_
    refine RS_nil ?_
    rw [hme]
    (repeat first | refine G_seq ?_ | refine G_skip ?_ | refine G_endblk ?_ | refine G_block ?_ | refine G_exit rfl ?_)
    refine G_region ?_
    refine GO_q rfl rfl (ev_move rfl) ?_
    refine GO_q rfl rfl (ev_load rfl (by repeat' first | exact Ld.blk rfl | assumption | apply Ld.skip | apply Ld.app)) ?_
    refine GO_q rfl rfl (ev_move rfl) ?_
    refine GO_q rfl rfl (ev_move rfl) ?_
    refine GO_q rfl rfl (ev_move rfl) ?_
    (first | refine GO_q rfl rfl (ev_addN rfl rfl (by first | omega | (simp; done) | (simp; omega))) ?_ | refine GO_q rfl rfl (ev_add rfl rfl (by first | omega | (simp; done) | (simp; omega))) ?_)
    refine GO_q rfl rfl (ev_move rfl) ?_
    refine GO_q rfl rfl (ev_move rfl) ?_
    (first | refine GO_q rfl rfl (ev_addN rfl rfl (by first | omega | (simp; done) | (simp; omega))) ?_ | refine GO_q rfl rfl (ev_add rfl rfl (by first | omega | (simp; done) | (simp; omega))) ?_)
    refine GO_q rfl rfl (ev_slice3 (l := i) (h := i + m) (m := i + m) rfl rfl rfl rfl (by omega) (by omega) (by omega)) ?_
    rw [show i + m - i = m by omega, if_neg (show ¬ i + m = i by omega), Nat.mul_one]
    refine GO_yield rfl rfl rfl (Yld.frame [F, blk b2 33 [.slice (some ⟨b, o, none⟩) n c], blk b3 3 [.int .i64 5]] hyk (fun _ s => s)) ?_
    rintro q L' ⟨L1, ⟨rfl, s', hs', rfl⟩, rfl⟩
    refine GO_q rfl rfl (ev_not rfl) ?_
    refine GO_nil ?_
    (repeat first | refine G_seq ?_ | refine G_skip ?_ | refine G_endblk ?_ | refine G_block ?_ | refine G_exit rfl ?_)
    refine G_cond_f rfl rfl ?_
    (repeat first | refine G_seq ?_ | refine G_skip ?_ | refine G_endblk ?_ | refine G_block ?_ | refine G_exit rfl ?_)
    refine G_region ?_
    refine GO_q rfl rfl (ev_move rfl) ?_
    refine GO_q rfl rfl (ev_load rfl (by repeat' first | exact Ld.blk rfl | assumption | apply Ld.skip | apply Ld.app)) ?_
    (first | refine GO_q rfl rfl (ev_addN rfl rfl (by first | omega | (simp; done) | (simp; omega))) ?_ | refine GO_q rfl rfl (ev_add rfl rfl (by first | omega | (simp; done) | (simp; omega))) ?_)
    refine GO_q rfl rfl (ev_assign rfl) ?_
    refine GO_nil ?_
    (repeat first | refine G_seq ?_ | refine G_skip ?_ | refine G_endblk ?_ | refine G_block ?_ | refine G_exit rfl ?_)
    exact G_round (k + 1, s') ⟨by simp only; omega, hs'⟩ (by simp only; omega) ⟨rfl, rfl, rfl, by rw [hi]; rfl, trivial⟩ (by (repeat first | exact fun _ s => s | apply en_keep | apply en_drop | apply en_app) <;> fail)
  · (repeat first | refine G_seq ?_ | refine G_skip ?_ | refine G_endblk ?_ | refine G_block ?_ | refine G_exit rfl ?_)
    exact G_end (rs := []) (vs := []) (L' := blk b2 33 [.slice (some ⟨b, o, none⟩) n c] :: blk b3 3 [.int .i64 5] :: L k s) rfl .nil (by (repeat first | exact fun _ s => s | apply en_keep | apply en_drop | apply en_app) <;> fail) ⟨rfl, k, s, by omega, f1, f2, rfl⟩
end Go.Proofs.YtjnmpogolknkpaaGreat
/- Picking out of numbers, by cmp.Less: middles, nth, Median. -/
namespace Go.Proofs.YtjnmpogolknkpaaGreat
attribute [local irreducible] sat
set_option linter.unusedVariables false
set_option linter.unusedSimpArgs false
set_option maxRecDepth 100000

theorem SortOI_ctr (A : Option Addr) (n c : Nat) (l : List Int) (L : List HP) (hl : Rd L A n l) (hn : n ≤ 1000000) (hc : n ≤ c) :
    Ctr Tryz.prog 166 #[.slice A n c, .func (.func 133) #[] #[]] L fun v L' => Made 3 (srtO ltI l) L v L' := by
  rw [srtO_ltI]; exact SortI_ctr A n c l L hl hn hc
theorem middlesI_ctr (A : Option Addr) (n c : Nat) (l : List Int) (L : List HP) (hl : Rd L A n l) (h0 : 0 < n) (hn : n ≤ 1000000) (hc : n ≤ c) :
    Ctr Tryz.prog 165 #[.slice A n c, .func (.func 133) #[] #[]] L fun r L' => ∃ ms : List Int, ((∀ x ∈ ms, x ∈ l) ∧ 5 * ms.length < n + 5 ∧ n ≤ 5 * ms.length) ∧ MadeC 3 ms L r L' := by
  have h1 : l.length = n := hl.len (by decide)
  obtain ⟨b, o, rfl, _⟩ := hl.at_ h0
  refine Ctr_ofM (fn := Tryz.f165) (n := 24) Tryz.func165 rfl rfl rfl ?_
  intro g F hgb
  (repeat first | refine G_seq ?_ | refine G_skip ?_ | refine G_endblk ?_ | refine G_block ?_ | refine G_exit rfl ?_)
  refine G_region ?_
  refine GO_eff rfl rfl (eff_box rfl) ?_; rintro _ _ ⟨b3, rfl, rfl⟩
  refine GO_q rfl rfl (ev_assign rfl) ?_
  refine GO_nil ?_
  (repeat first | refine G_seq ?_ | refine G_skip ?_ | refine G_endblk ?_ | refine G_block ?_ | refine G_exit rfl ?_)
  refine G_region ?_
  refine GO_eff rfl rfl eff_alloc ?_; rintro _ _ ⟨b5, rfl, rfl⟩
  refine GO_nil ?_
  (repeat first | refine G_seq ?_ | refine G_skip ?_ | refine G_endblk ?_ | refine G_block ?_ | refine G_exit rfl ?_)
  refine G_region ?_
  refine GO_q rfl rfl (ev_move rfl) ?_
  refine GO_eff rfl rfl (eff_call rfl (Chunk_ctr (some ⟨b, o, none⟩) n c _)) ?_; rintro _ _ ⟨b8, b9, rfl, rfl⟩
  refine GO_nil ?_
  (repeat first | refine G_seq ?_ | refine G_skip ?_ | refine G_endblk ?_ | refine G_block ?_ | refine G_exit rfl ?_)
  refine G_heap (own.nil_ 3 1) ?_
  refine G_range1 (f := 169) (c1 := []) (c2 := [.pointer (some ⟨b8, 0, none⟩), .pointer (some ⟨b9, 0, none⟩)]) (post := fun p L1 => p = none ∧ ∃ s : Option Addr × Nat × List Int, ((∀ x ∈ s.2.2, x ∈ l) ∧ 5 * s.2.2.length < n + 5 ∧ n ≤ 5 * s.2.2.length) ∧ ((0 < s.2.2.length → ∃ b, s.1 = some ⟨b, 0, none⟩) ∧ s.2.2.length ≤ s.2.1 ∧ s.2.1 ≤ maxLen) ∧ L1 = own 3 1 s.1 s.2.2.length s.2.1 (flat s.2.2) :: blk b5 33 [.slice s.1 s.2.2.length s.2.1] :: F :: L) (by rw [← hgb]; rfl) rfl rfl ?_ ?_ ?_
  · intro y d R hR
    have hv := chunks_ctr (S := Option Addr × Nat × List Int) y b8 b9 b o n c l
      (fun k s => obj y (R .ready none) :: obj d (.deferred (some [])) :: own 3 1 s.1 s.2.2.length s.2.1 (flat s.2.2) :: blk b5 33 [.slice s.1 s.2.2.length s.2.1] :: blk b3 69 [.func (.func 133) #[] #[]] :: F :: L)
      (fun k s => s.2.2.length = k ∧ (∀ x ∈ s.2.2, x ∈ l) ∧ (0 < s.2.2.length → ∃ b, s.1 = some ⟨b, 0, none⟩) ∧ s.2.2.length ≤ s.2.1 ∧ s.2.1 ≤ maxLen)
      (fun k s _ => hl.skip.skip.skip.skip.skip.skip) hn hc ?_ (none, 0, []) ⟨rfl, by simp, fun h => absurd h (Nat.lt_irrefl 0), Nat.le_refl _, Nat.zero_le _⟩
    · refine (Ctr.pre (by (repeat first | exact en_refl | (apply en_blk; focus ((repeat' first | exact Pick.here | apply Pick.skip | apply Pick.app); done); focus rfl) | (apply en_own; focus ((repeat' first | exact Pick.here | apply Pick.skip | apply Pick.app); done); focus rfl) | (apply en_pick; focus ((repeat' first | exact Pick.here | apply Pick.skip | apply Pick.app); done)) | apply en_drop | apply en_app) <;> fail) hv).post' ?_
      rintro v L' hm ⟨rfl, k, s, k1, k2, ⟨hs1, hs2, hs3⟩, rfl⟩ hsat
      refine ⟨_, ⟨.ready, none, _, (by decide), ⟨rfl, s, ⟨hs2, by omega, by omega⟩, hs3, rfl⟩, rfl⟩, ?_⟩
      revert hm
      exact (by (repeat first | exact en_refl | (apply en_blk; focus ((repeat' first | exact Pick.here | apply Pick.skip | apply Pick.app); done); focus rfl) | (apply en_own; focus ((repeat' first | exact Pick.here | apply Pick.skip | apply Pick.app); done); focus rfl) | (apply en_pick; focus ((repeat' first | exact Pick.here | apply Pick.skip | apply Pick.app); done)) | apply en_drop | apply en_app) <;> fail)
    · rintro k ⟨B, e, ms⟩ hk ⟨i1, i2, i3, i4, i5⟩
      simp only at i1 i2 i3 i4 i5
      dsimp only
      obtain ⟨i, hi⟩ : ∃ i, i = 5 * k := ⟨_, rfl⟩
      obtain ⟨m, hm⟩ : ∃ m, m = min 5 (n - i) := ⟨_, rfl⟩
      rw [← hi] at hk ⊢
      rw [← hm]
      have hd0 := hl.drop (k := i) (c := c) (by omega) hc
      rw [if_neg (by omega)] at hd0
      have hg : Rd L (some ⟨b, o + i, none⟩) m ((l.drop i).take m) := by
        have h9 : Rd L (some ⟨b, o + i * 1, none⟩) m ((l.drop i).take m) := hd0.take (k := m) (by omega)
        rwa [Nat.mul_one] at h9
      have hgl : ((l.drop i).take m).length = m := hg.len (by decide)
      have hgm : ∀ x ∈ (l.drop i).take m, x ∈ l := fun x hx => List.mem_of_mem_drop (List.mem_of_mem_take hx)
      generalize (l.drop i).take m = gs at *
      refine hR (ι := Unit) (τ := fun _ => [(3, .pointer (some ⟨b3, 0, none⟩)), (5, .pointer (some ⟨b5, 0, none⟩)), (6, .slice (some ⟨b, o + i, none⟩) m m)]) (M := fun _ => obj d (.deferred (some [])) :: own 3 1 B ms.length e (flat ms) :: blk b5 33 [.slice B ms.length e] :: blk b3 69 [.func (.func 133) #[] #[]] :: F :: L) (Fy := fun _ => True) ?_ ?_
      · intro g F' _ _
        (repeat first | refine G_seq ?_ | refine G_skip ?_ | refine G_endblk ?_ | refine G_block ?_ | refine G_exit rfl ?_)
        refine G_region ?_
        refine GO_q rfl rfl (ev_assign rfl) ?_
        refine GO_nil ?_
        exact G_rndStart () trivial ⟨rfl, rfl, rfl, trivial⟩ (by (repeat first | exact fun _ s => s | apply en_keep | apply en_drop | apply en_app) <;> fail)
      · intro g F' _ _ _ _
        have hsl : (srtO ltI gs).length = m := by rw [srtO_length, hgl]
        have hx : (srtO ltI gs)[m / 2]? = some (srtO ltI gs)[m / 2] := List.getElem?_eq_getElem (by omega)
        have hxm : (srtO ltI gs)[m / 2] ∈ l := hgm _ ((srtO_perm gs).subset (List.getElem_mem _))
        generalize (srtO ltI gs)[m / 2] = x at *
        (repeat first | refine G_seq ?_ | refine G_skip ?_ | refine G_endblk ?_ | refine G_block ?_ | refine G_exit rfl ?_)
        (repeat first | refine G_seq ?_ | refine G_skip ?_ | refine G_endblk ?_ | refine G_block ?_ | refine G_exit rfl ?_)
        refine G_region ?_
        refine GO_q rfl rfl (ev_move rfl) ?_
        refine GO_q rfl rfl (ev_load rfl (by repeat' first | exact Ld.blk rfl | assumption | apply Ld.skip | apply Ld.app)) ?_
        refine GO_eff rfl rfl (eff_call rfl ((SortOI_ctr (some ⟨b, o + i, none⟩) m m gs _ (by repeat' first | exact Rc.blk rfl | assumption | apply Rd.skip | apply Rd.app) (by omega) (Nat.le_refl _)))) ?_; rintro _ _ ⟨C, c2, rfl, hC, rfl⟩
        refine GO_q rfl rfl (ev_assign rfl) ?_
        refine GO_nil ?_
        rw [hsl] at hC ⊢
        obtain ⟨cb, rfl⟩ := hC (by omega)
        have hld : ∀ L', Ld (own 3 1 (some ⟨cb, 0, none⟩) m c2 (flat (srtO ltI gs)) :: L') ⟨cb, 0 + (m / 2) * 1, none⟩ (.int .i64 x) := fun L' => ld_ownI hsl hx L'
        generalize srtO ltI gs = ss at *
        (repeat first | refine G_seq ?_ | refine G_skip ?_ | refine G_endblk ?_ | refine G_block ?_ | refine G_exit rfl ?_)
        refine G_draw (.q 0 (.q 1 (.q 2 (.q 3 (.q 4 (.q 5 (.q 6 (.e 7 (.e 8 (.e 9 .nil)))))))))) (by kernel_rfl) (by kernel_rfl) ?_
        refine RS_q rndB_noPanic rfl rfl rfl rfl (ev_load rfl (by repeat' first | exact Ld.blk rfl | assumption | apply Ld.skip | apply Ld.app)) ?_
        refine RS_m rndB_noPanic rfl rfl rfl rfl (ev_move rfl) ?_
        refine RS_m rndB_noPanic rfl rfl rfl rfl (ev_move rfl) ?_
        refine RS_q rndB_noPanic rfl rfl rfl rfl (ev_len rfl) ?_
        (first | refine RS_m rndB_noPanic rfl rfl rfl rfl (ev_quoN (q := 2) rfl rfl (by first | omega | (simp; done) | (simp; omega)) (by first | omega | (simp; done) | (simp; omega))) ?_ | refine RS_m rndB_noPanic rfl rfl rfl rfl (ev_quo rfl rfl (by first | omega | (simp; done) | (simp; omega)) (by first | omega | (simp; done) | (simp; omega)) (by first | omega | (simp; done) | (simp; omega))) ?_)
        (first | refine RS_m rndB_noPanic rfl rfl rfl rfl (ev_indexAddrN rfl rfl (by first | omega | (simp; done) | (simp; omega))) ?_ | refine RS_m rndB_noPanic rfl rfl rfl rfl (ev_indexAddr rfl rfl (by first | omega | (simp; done) | (simp; omega)) (by first | omega | (simp; done) | (simp; omega))) ?_)
        refine RS_q rndB_noPanic rfl rfl rfl rfl (ev_load rfl (by repeat' first | exact hld _ | apply Ld.skip)) ?_
        refine RS_e (RE_eff rfl rfl rfl (eff_buildSlice1 (by rfl) rfl rfl) ?_); rintro _ _ ⟨b21, rfl, rfl⟩; refine ⟨_, fun _ s => s, (by first | ((repeat first | exact fun _ s => s | apply en_keep | apply en_drop | apply en_app) <;> fail) | ((repeat first | exact en_refl | (apply en_blk; focus ((repeat' first | exact Pick.here | apply Pick.skip | apply Pick.app); done); focus rfl) | (apply en_own; focus ((repeat' first | exact Pick.here | apply Pick.skip | apply Pick.app); done); focus rfl) | (apply en_pick; focus ((repeat' first | exact Pick.here | apply Pick.skip | apply Pick.app); done)) | apply en_drop | apply en_app) <;> fail)), ?_⟩
        refine RS_e (RE_cmp (by kernel_rfl) rfl rfl rfl (eff_append rfl rfl (by repeat' first | exact Pick.here | apply Pick.skip) (by repeat' first | exact Rc.blk rfl | assumption | apply Rc.skip) (one_all rfl) (by rfl) (by decide) (by first | omega | (simp; done) | (simp; omega)) (by first | omega | (simp; done) | (simp; omega))) ?_); rintro _ _ ⟨A22, c22, rfl, hc22, hm22, hn22, rfl⟩
        refine RS_e (RE_last (by kernel_rfl) rfl rfl rfl (eff_store rfl rfl rfl (by repeat' first | exact Upd.here rfl | apply Upd.skip | apply Upd.app)) ?_); rintro _ _ ⟨rfl, rfl⟩
        (repeat first | refine G_seq ?_ | refine G_skip ?_ | refine G_endblk ?_ | refine G_block ?_ | refine G_exit rfl ?_)
        exact G_rndEnd (obj d (.deferred (some [])) :: own 3 1 A22 (ms ++ [x]).length c22 (flat (ms ++ [x])) :: blk b5 33 [.slice A22 (ms ++ [x]).length c22] :: blk b3 69 [.func (.func 133) #[] #[]] :: F :: L) ⟨rfl, (A22, c22, ms ++ [x]), ⟨by simp only [List.length_append, List.length_singleton, i1], fun z hz => (List.mem_append.1 hz).elim (i2 z) (fun h => by simp at h; exact h ▸ hxm), by simp only [List.length_append, List.length_singleton]; exact fun _ => hn22 (by omega), by simp only [List.length_append, List.length_singleton]; exact hc22, hm22⟩, rfl⟩ (by
          rw [List.length_append, ← flat_snoc]
          exact (by (repeat first | exact en_refl | (apply en_blk; focus ((repeat' first | exact Pick.here | apply Pick.skip | apply Pick.app); done); focus rfl) | (apply en_own; focus ((repeat' first | exact Pick.here | apply Pick.skip | apply Pick.app); done); focus rfl) | (apply en_pick; focus ((repeat' first | exact Pick.here | apply Pick.skip | apply Pick.app); done)) | apply en_drop | apply en_app) <;> fail))
  · rintro d L1 ⟨-, ⟨B, e, ms⟩, hms, ⟨i1, i2, i3⟩, rfl⟩
    simp only at hms i1 i2 i3
    dsimp only
    (repeat first | refine G_seq ?_ | refine G_skip ?_ | refine G_endblk ?_ | refine G_block ?_ | refine G_exit rfl ?_)
    refine G_region ?_
    refine GO_q rfl rfl (ev_load rfl (by repeat' first | exact Ld.blk rfl | assumption | apply Ld.skip | apply Ld.app)) ?_
    refine GO_q rfl rfl (ev_assign rfl) ?_
    refine GO_nil ?_
    (repeat first | refine G_seq ?_ | refine G_skip ?_ | refine G_endblk ?_ | refine G_block ?_ | refine G_exit rfl ?_)
    exact G_retM [d] rfl (by rw [← hgb]; rfl) rfl (.tmp rfl .nil) (M := own 3 1 B ms.length e (flat ms) :: blk b5 33 [.slice B ms.length e] :: F :: L) (L' := own 3 1 B ms.length e (flat ms) :: L) (by (repeat first | exact en_refl | (apply en_blk; focus ((repeat' first | exact Pick.here | apply Pick.skip | apply Pick.app); done); focus rfl) | (apply en_own; focus ((repeat' first | exact Pick.here | apply Pick.skip | apply Pick.app); done); focus rfl) | (apply en_pick; focus ((repeat' first | exact Pick.here | apply Pick.skip | apply Pick.app); done)) | apply en_drop | apply en_app) <;> fail) (by (repeat first | exact en_refl | (apply en_blk; focus ((repeat' first | exact Pick.here | apply Pick.skip | apply Pick.app); done); focus rfl) | (apply en_own; focus ((repeat' first | exact Pick.here | apply Pick.skip | apply Pick.app); done); focus rfl) | (apply en_pick; focus ((repeat' first | exact Pick.here | apply Pick.skip | apply Pick.app); done)) | apply en_drop | apply en_app) <;> fail) ⟨ms, hms, B, e, rfl, i1, i2, i3, rfl⟩
  · rintro d e L1 ⟨h, _⟩
    cases h
/-- The one that stands at k. -/
theorem nthI_ctr : ∀ (N : Nat) (A : Option Addr) (n c : Nat) (l : List Int) (k : Nat) (v : Int) (L : List HP) (_ : n ≤ N) (_ : Rd L A n l) (_ : n ≤ 1000000) (_ : n ≤ c) (_ : (srtO ltI l)[k]? = some v),
    Ctr Tryz.prog 162 #[.slice A n c, .int .i64 (k : Nat), .func (.func 133) #[] #[]] L fun r L' => r = .int .i64 v ∧ L' = L := by
  intro N
  induction N using Nat.strongRecOn with
  | _ N ih =>
  intro A n c l k v L hN hl hn hc hv
  have h1 : l.length = n := hl.len (by decide)
  refine Ctr_of (fn := Tryz.f162) (n := 61) Tryz.func162 rfl rfl rfl ?_
  intro g F
  (repeat first | refine G_seq ?_ | refine G_skip ?_ | refine G_endblk ?_ | refine G_block ?_ | refine G_exit rfl ?_)
  refine G_region ?_
  refine GO_q rfl rfl (ev_assign rfl) ?_
  refine GO_nil ?_
  (repeat first | refine G_seq ?_ | refine G_skip ?_ | refine G_endblk ?_)
  refine G_cut (ι := Option Addr × Nat × List Int × Nat × List HP) (fun x => [(0, .slice x.1 x.2.2.1.length x.2.1), (1, .int .i64 (x.2.2.2.1 : Nat)), (2, .func (.func 133) #[] #[])]) (fun x => x.2.2.2.2 ++ F :: L) (fun x => Rd (x.2.2.2.2 ++ F :: L) x.1 x.2.2.1.length x.2.2.1 ∧ x.2.2.1.length ≤ x.2.1 ∧ x.2.2.1.length ≤ n ∧ (srtO ltI x.2.2.1)[x.2.2.2.1]? = some v) ?_ ?_
  · (repeat first | refine G_seq ?_ | refine G_skip ?_ | refine G_endblk ?_ | refine G_block ?_ | refine G_exit rfl ?_)
    refine G_loop (ι := Option Addr × Nat × List Int × Nat × List HP) (fun x => [(0, .slice x.1 x.2.2.1.length x.2.1), (1, .int .i64 (x.2.2.2.1 : Nat)), (2, .func (.func 133) #[] #[])]) (fun x => x.2.2.2.2 ++ F :: L) (fun x => Rd (x.2.2.2.2 ++ F :: L) x.1 x.2.2.1.length x.2.2.1 ∧ x.2.2.1.length ≤ x.2.1 ∧ x.2.2.1.length ≤ n ∧ (srtO ltI x.2.2.1)[x.2.2.2.1]? = some v) (fun x => x.2.2.1.length) (A, c, l, k, []) ⟨by simp only [List.nil_append]; rw [h1]; exact hl.skip, by simp only; omega, by simp only; omega, hv⟩ ⟨by simp only; rw [h1]; rfl, rfl, rfl, trivial⟩ (by (repeat first | exact fun _ s => s | apply en_keep | apply en_drop | apply en_app) <;> fail) ?_
    rintro ⟨A, c, l, k, X⟩ ⟨f1, f2, f3, f4⟩
    simp only at f1 f2 f3 f4
    dsimp only
    clear hl hc hv h1
    have hk : k < l.length := by
      rcases Nat.lt_or_ge k l.length with h | h
      · exact h
      · rw [List.getElem?_eq_none (by rw [srtO_length]; exact h)] at f4; cases f4
    (repeat first | refine G_seq ?_ | refine G_skip ?_ | refine G_endblk ?_ | refine G_block ?_ | refine G_exit rfl ?_)
    refine G_region ?_
    refine GO_q rfl rfl (ev_move rfl) ?_
    refine GO_q rfl rfl (ev_len rfl) ?_
    refine GO_q rfl rfl (ev_gtr rfl rfl) ?_
    refine GO_nil ?_
    (repeat first | refine G_seq ?_ | refine G_skip ?_ | refine G_endblk ?_ | refine G_block ?_ | refine G_exit rfl ?_)
    refine G_cond rfl (fun q1 => ?_) (fun q1 => ?_)
    · (repeat first | refine G_seq ?_ | refine G_skip ?_ | refine G_endblk ?_ | refine G_block ?_ | refine G_exit rfl ?_)
      refine G_region ?_
      refine GO_q rfl rfl (ev_move rfl) ?_
      refine GO_q rfl rfl (ev_move rfl) ?_
      refine GO_eff rfl rfl (eff_call rfl (middlesI_ctr A l.length c l _ (by repeat' first | exact Rc.blk rfl | assumption | apply Rd.skip | apply Rd.app) (by omega) (by omega) f2)) ?_; rintro _ _ ⟨ms, ⟨m1, m2, m3⟩, B, e, rfl, i1, i2, i3, rfl⟩
      refine GO_q rfl rfl (ev_assign rfl) ?_
      refine GO_nil ?_
      have hml : ms.length / 2 < ms.length := by omega
      have hx : (srtO ltI ms)[ms.length / 2]? = some ((srtO ltI ms)[ms.length / 2]'(by rw [srtO_length]; exact hml)) := List.getElem?_eq_getElem _
      generalize (srtO ltI ms)[ms.length / 2]'(by rw [srtO_length]; exact hml) = x at hx
      have hxl : x ∈ l := m1 x (nthO_mem hx)
      have p1 := partsO_length sto_ltI x l
      have p2 := likeO_pos hxl
      (repeat first | refine G_seq ?_ | refine G_skip ?_ | refine G_endblk ?_ | refine G_block ?_ | refine G_exit rfl ?_)
      refine G_region ?_
      refine GO_q rfl rfl (ev_move rfl) ?_
      refine GO_q rfl rfl (ev_move rfl) ?_
      refine GO_q rfl rfl (ev_move rfl) ?_
      refine GO_q rfl rfl (ev_len rfl) ?_
      (first | refine GO_q rfl rfl (ev_quoN (q := 2) rfl rfl (by first | omega | (simp; done) | (simp; omega)) (by first | omega | (simp; done) | (simp; omega))) ?_ | refine GO_q rfl rfl (ev_quo rfl rfl (by first | omega | (simp; done) | (simp; omega)) (by first | omega | (simp; done) | (simp; omega)) (by first | omega | (simp; done) | (simp; omega))) ?_)
      refine GO_q rfl rfl (ev_move rfl) ?_
      refine GO_eff rfl rfl (eff_call rfl (ih ms.length (by omega) B ms.length e ms (ms.length / 2) x _ (Nat.le_refl _) (Rc.own (flat_length _) i1) (by omega) i2 hx)) ?_; rintro _ _ ⟨rfl, rfl⟩
      refine GO_q rfl rfl (ev_move rfl) ?_
      refine GO_eff rfl rfl (eff_call rfl (partsI_ctr A l.length c l x _ (by repeat' first | exact Rc.blk rfl | assumption | apply Rd.skip | apply Rd.app) (by omega))) ?_; rintro _ _ ⟨s, rfl, ok, rfl⟩
      refine GO_q rfl rfl (ev_move rfl) ?_
      refine GO_q rfl rfl (ev_extract rfl rfl) ?_
      refine GO_q rfl rfl (ev_extract rfl rfl) ?_
      refine GO_q rfl rfl (ev_extract rfl rfl) ?_
      refine GO_q rfl rfl (ev_assign rfl) ?_
      refine GO_q rfl rfl (ev_assign rfl) ?_
      refine GO_q rfl rfl (ev_assign rfl) ?_
      refine GO_nil ?_
      have n1 : ∀ h, _ := nthO_low (k := k) sto_ltI x l
      have n2 : ∀ h h', _ := nthO_like (k := k) sto_ltI x l
      have n3 : ∀ h, _ := nthO_high (k := k) sto_ltI x l
      have hli : ∀ z ∈ likeO x l, z = x := fun z hz => likeO_eq hz
      generalize lowO ltI x l = lo at *
      generalize likeO x l = li at *
      generalize highO ltI x l = hi at *
      (repeat first | refine G_seq ?_ | refine G_skip ?_ | refine G_endblk ?_ | refine G_block ?_ | refine G_exit rfl ?_)
      refine G_region ?_
      refine GO_q rfl rfl (ev_move rfl) ?_
      refine GO_q rfl rfl (ev_move rfl) ?_
      refine GO_q rfl rfl (ev_len rfl) ?_
      (first | refine GO_q rfl rfl (ev_lssN rfl rfl) ?_ | refine GO_q rfl rfl (ev_lss rfl rfl) ?_)
      refine GO_q rfl rfl (ev_assign rfl) ?_
      refine GO_nil ?_
      (repeat first | refine G_seq ?_ | refine G_skip ?_ | refine G_endblk ?_ | refine G_block ?_ | refine G_exit rfl ?_)
      refine G_cond rfl (fun q2 => ?_) (fun q2 => ?_)
      · (repeat first | refine G_seq ?_ | refine G_skip ?_ | refine G_endblk ?_ | refine G_block ?_ | refine G_exit rfl ?_)
        refine G_region ?_
        refine GO_q rfl rfl (ev_move rfl) ?_
        refine GO_q rfl rfl (ev_assign rfl) ?_
        refine GO_nil ?_
        (repeat first | refine G_seq ?_ | refine G_skip ?_ | refine G_endblk ?_ | refine G_block ?_ | refine G_exit rfl ?_)
        exact G_round (s.A1, s.c1, lo, k, [own 3 1 s.A1 lo.length s.c1 (flat lo)]) ⟨Rc.own (flat_length _) ok.h1, ok.k1, by simp only; omega, by simp only; rw [← n1 (by omega)]; exact f4⟩ (by simp only; omega) ⟨rfl, rfl, rfl, trivial⟩ (by (repeat first | exact en_refl | (apply en_blk; focus ((repeat' first | exact Pick.here | apply Pick.skip | apply Pick.app); done); focus rfl) | (apply en_own; focus ((repeat' first | exact Pick.here | apply Pick.skip | apply Pick.app); done); focus rfl) | (apply en_pick; focus ((repeat' first | exact Pick.here | apply Pick.skip | apply Pick.app); done)) | apply en_drop | apply en_app) <;> fail)
      · (repeat first | refine G_seq ?_ | refine G_skip ?_ | refine G_endblk ?_ | refine G_block ?_ | refine G_exit rfl ?_)
        refine G_region ?_
        refine GO_q rfl rfl (ev_move rfl) ?_
        refine GO_q rfl rfl (ev_move rfl) ?_
        refine GO_q rfl rfl (ev_len rfl) ?_
        refine GO_q rfl rfl (ev_move rfl) ?_
        refine GO_q rfl rfl (ev_len rfl) ?_
        (first | refine GO_q rfl rfl (ev_addN rfl rfl (by first | omega | (simp; done) | (simp; omega))) ?_ | refine GO_q rfl rfl (ev_add rfl rfl (by first | omega | (simp; done) | (simp; omega))) ?_)
        (first | refine GO_q rfl rfl (ev_lssN rfl rfl) ?_ | refine GO_q rfl rfl (ev_lss rfl rfl) ?_)
        refine GO_q rfl rfl (ev_assign rfl) ?_
        refine GO_nil ?_
        (repeat first | refine G_seq ?_ | refine G_skip ?_ | refine G_endblk ?_ | refine G_block ?_ | refine G_exit rfl ?_)
        refine G_cond rfl (fun q3 => ?_) (fun q3 => ?_)
        · obtain ⟨lb, hb⟩ := ok.h2 p2
          have e9 := n2 (by omega) (by omega)
          rw [f4] at e9
          have g0 : li[0]? = some x := by
            rw [List.getElem?_eq_getElem p2, hli _ (List.getElem_mem p2)]
          cases e9
          obtain ⟨sA1, sc1, sA2, sc2, sA3, sc3⟩ := s
          simp only at hb
          subst hb
          dsimp only
          have hld : ∀ L', Ld (own 3 1 (some ⟨lb, 0, none⟩) li.length sc2 (flat li) :: L') ⟨lb, 0 + 0 * 1, none⟩ (.int .i64 v) := fun L' => ld_ownI rfl g0 L'
          (repeat first | refine G_seq ?_ | refine G_skip ?_ | refine G_endblk ?_ | refine G_block ?_ | refine G_exit rfl ?_)
          refine G_region ?_
          refine GO_q rfl rfl (ev_move rfl) ?_
          (first | refine GO_q rfl rfl (ev_indexAddrN rfl rfl (by first | omega | (simp; done) | (simp; omega))) ?_ | refine GO_q rfl rfl (ev_indexAddr rfl rfl (by first | omega | (simp; done) | (simp; omega)) (by first | omega | (simp; done) | (simp; omega))) ?_)
          refine GO_q rfl rfl (ev_load rfl (by repeat' first | exact hld _ | apply Ld.skip)) ?_
          refine GO_q rfl rfl (ev_assign rfl) ?_
          refine GO_nil ?_
          (repeat first | refine G_seq ?_ | refine G_skip ?_ | refine G_endblk ?_ | refine G_block ?_ | refine G_exit rfl ?_)
          refine G_ret rfl (.tmp rfl .nil) ?_ ⟨rfl, rfl⟩
          exact fun h q => en_app en_refl h q.tail.tail.tail.tail
        · (repeat first | refine G_seq ?_ | refine G_skip ?_ | refine G_endblk ?_ | refine G_block ?_ | refine G_exit rfl ?_)
          refine G_region ?_
          refine GO_q rfl rfl (ev_move rfl) ?_
          refine GO_q rfl rfl (ev_move rfl) ?_
          refine GO_q rfl rfl (ev_move rfl) ?_
          refine GO_q rfl rfl (ev_len rfl) ?_
          (first | refine GO_q rfl rfl (ev_subN rfl rfl (by first | omega | (simp; done) | (simp; omega))) ?_ | refine GO_q rfl rfl (ev_sub rfl rfl (by first | omega | (simp; done) | (simp; omega))) ?_)
          refine GO_q rfl rfl (ev_move rfl) ?_
          refine GO_q rfl rfl (ev_len rfl) ?_
          (first | refine GO_q rfl rfl (ev_subN rfl rfl (by first | omega | (simp; done) | (simp; omega))) ?_ | refine GO_q rfl rfl (ev_sub rfl rfl (by first | omega | (simp; done) | (simp; omega))) ?_)
          refine GO_q rfl rfl (ev_assign rfl) ?_
          refine GO_q rfl rfl (ev_assign rfl) ?_
          refine GO_nil ?_
          (repeat first | refine G_seq ?_ | refine G_skip ?_ | refine G_endblk ?_ | refine G_block ?_ | refine G_exit rfl ?_)
          exact G_round (s.A3, s.c3, hi, k - lo.length - li.length, [own 3 1 s.A3 hi.length s.c3 (flat hi)]) ⟨Rc.own (flat_length _) ok.h3, ok.k3, by simp only; omega, by simp only; rw [← n3 (by omega)]; exact f4⟩ (by simp only; omega) ⟨rfl, by simp only; rw [show ((k - lo.length - li.length : Nat) : Int) = (k : Int) - (lo.length : Int) - (li.length : Int) by omega]; rfl, rfl, trivial⟩ (by (repeat first | exact en_refl | (apply en_blk; focus ((repeat' first | exact Pick.here | apply Pick.skip | apply Pick.app); done); focus rfl) | (apply en_own; focus ((repeat' first | exact Pick.here | apply Pick.skip | apply Pick.app); done); focus rfl) | (apply en_pick; focus ((repeat' first | exact Pick.here | apply Pick.skip | apply Pick.app); done)) | apply en_drop | apply en_app) <;> fail)
    · (repeat first | refine G_seq ?_ | refine G_skip ?_ | refine G_endblk ?_ | refine G_block ?_ | refine G_exit rfl ?_)
      exact G_inv (A, c, l, k, X) ⟨f1, f2, f3, f4⟩ ⟨rfl, rfl, rfl, trivial⟩ (by (repeat first | exact fun _ s => s | apply en_keep | apply en_drop | apply en_app) <;> fail)
  · rintro ⟨A, c, l, k, X⟩ ⟨f1, f2, f3, f4⟩
    simp only at f1 f2 f3 f4
    dsimp only
    clear hl hc hv h1
    have hk : k < l.length := by
      rcases Nat.lt_or_ge k l.length with h | h
      · exact h
      · rw [List.getElem?_eq_none (by rw [srtO_length]; exact h)] at f4; cases f4
    have hsl : (srtO ltI l).length = l.length := srtO_length l
    (repeat first | refine G_seq ?_ | refine G_skip ?_ | refine G_endblk ?_ | refine G_block ?_ | refine G_exit rfl ?_)
    refine G_region ?_
    refine GO_q rfl rfl (ev_move rfl) ?_
    refine GO_q rfl rfl (ev_move rfl) ?_
    refine GO_eff rfl rfl (eff_call rfl (SortOI_ctr A l.length c l _ (by repeat' first | exact Rc.blk rfl | assumption | apply Rd.skip | apply Rd.app) (by omega) f2)) ?_; rintro _ _ ⟨B, e, rfl, hB, rfl⟩
    refine GO_q rfl rfl (ev_move rfl) ?_
    obtain ⟨lb, rfl⟩ := hB (by omega)
    refine GO_q rfl rfl (ev_indexAddrN rfl rfl (by omega)) ?_
    refine GO_q rfl rfl (ev_load rfl (ld_ownI rfl f4 _)) ?_
    refine GO_q rfl rfl (ev_assign rfl) ?_
    refine GO_nil ?_
    (repeat first | refine G_seq ?_ | refine G_skip ?_ | refine G_endblk ?_ | refine G_block ?_ | refine G_exit rfl ?_)
    exact G_ret rfl (.tmp rfl .nil) (fun h q => en_app en_refl h q.tail) ⟨rfl, rfl⟩
/-- The one that stands at k; there is one. -/
theorem pickI_ctr (A : Option Addr) (n c : Nat) (l : List Int) (k : Nat) (v : Int) (L : List HP) (hl : Rd L A n l) (hn : n ≤ 1000000) (hc : n ≤ c) (hv : (srtO ltI l)[k]? = some v) :
    Ctr Tryz.prog 154 #[.slice A n c, .int .i64 (k : Nat), .func (.func 133) #[] #[]] L fun r L' => r = .tuple #[.int .i64 v, .bool true] ∧ L' = L := by
  have h1 : l.length = n := hl.len (by decide)
  have hk : k < n := by
    rcases Nat.lt_or_ge k n with h | h
    · exact h
    · rw [List.getElem?_eq_none (by rw [srtO_length]; omega)] at hv; cases hv
  have p2 := likeO_pos (nthO_mem hv)
  have e1 := midO_low sto_ltI hv
  have e2 := midO_like sto_ltI hv
  have hli : ∀ z ∈ likeO v l, z = v := fun z hz => likeO_eq hz
  have g0 : (likeO v l)[k - (lowO ltI v l).length]? = some v := by
    have h9 : k - (lowO ltI v l).length < (likeO v l).length := by omega
    rw [List.getElem?_eq_getElem h9, hli _ (List.getElem_mem h9)]
  refine Ctr_of (fn := Tryz.f154) (n := 40) Tryz.func154 rfl rfl rfl ?_
  intro g F
  (repeat first | refine G_seq ?_ | refine G_skip ?_ | refine G_endblk ?_ | refine G_block ?_ | refine G_exit rfl ?_)
  refine G_region ?_
  refine GO_q rfl rfl (ev_assign rfl) ?_
  refine GO_q rfl rfl (ev_assign rfl) ?_
  refine GO_nil ?_
  (repeat first | refine G_seq ?_ | refine G_skip ?_ | refine G_endblk ?_ | refine G_block ?_ | refine G_exit rfl ?_)
  refine G_region ?_
  refine GO_q rfl rfl (ev_move rfl) ?_
  (first | refine GO_q rfl rfl (ev_lssN (q := 0) rfl rfl) ?_ | refine GO_q rfl rfl (ev_lss rfl rfl) ?_)
  refine GO_q rfl rfl (ev_move rfl) ?_
  refine GO_yes rfl rfl rfl (decide_eq_false (by omega)) ?_
  refine GO_q rfl rfl (ev_move rfl) ?_
  refine GO_yes rfl rfl rfl (decide_eq_false (by omega)) ?_
  refine GO_q rfl rfl (ev_move rfl) ?_
  refine GO_yes rfl rfl rfl (decide_eq_false (by omega)) ?_
  refine GO_q rfl rfl (ev_len rfl) ?_
  refine GO_yes rfl rfl rfl (decide_eq_false (by omega)) ?_
  refine GO_q rfl rfl (ev_geq rfl rfl) ?_
  refine GO_q rfl rfl (ev_pick_f rfl (decide_eq_false (by omega)) rfl) ?_
  refine GO_nil ?_
  (repeat first | refine G_seq ?_ | refine G_skip ?_ | refine G_endblk ?_ | refine G_block ?_ | refine G_exit rfl ?_)
  refine G_cond_f rfl (decide_eq_false (by omega)) ?_
  (repeat first | refine G_seq ?_ | refine G_skip ?_ | refine G_endblk ?_ | refine G_block ?_ | refine G_exit rfl ?_)
  refine G_region ?_
  refine GO_q rfl rfl (ev_move rfl) ?_
  refine GO_q rfl rfl (ev_move rfl) ?_
  refine GO_q rfl rfl (ev_move rfl) ?_
  refine GO_eff rfl rfl (eff_call rfl (nthI_ctr n A n c l k v _ (Nat.le_refl _) (by repeat' first | exact Rc.blk rfl | assumption | apply Rd.skip | apply Rd.app) hn hc hv)) ?_; rintro _ _ ⟨rfl, rfl⟩
  refine GO_q rfl rfl (ev_assign rfl) ?_
  refine GO_nil ?_
  (repeat first | refine G_seq ?_ | refine G_skip ?_ | refine G_endblk ?_ | refine G_block ?_ | refine G_exit rfl ?_)
  refine G_region ?_
  refine GO_q rfl rfl (ev_move rfl) ?_
  refine GO_q rfl rfl (ev_move rfl) ?_
  refine GO_q rfl rfl (ev_move rfl) ?_
  refine GO_eff rfl rfl (eff_call rfl (partsI_ctr A n c l v _ (by repeat' first | exact Rc.blk rfl | assumption | apply Rd.skip | apply Rd.app) hn)) ?_; rintro _ _ ⟨s, rfl, ok, rfl⟩
  refine GO_q rfl rfl (ev_move rfl) ?_
  refine GO_q rfl rfl (ev_extract rfl rfl) ?_
  refine GO_q rfl rfl (ev_extract rfl rfl) ?_
  refine GO_q rfl rfl (ev_extract rfl rfl) ?_
  refine GO_q rfl rfl (ev_assign rfl) ?_
  refine GO_q rfl rfl (ev_assign rfl) ?_
  refine GO_q rfl rfl (ev_assign rfl) ?_
  refine GO_nil ?_
  generalize lowO ltI v l = lo at *
  generalize likeO v l = li at *
  generalize highO ltI v l = hi at *
  obtain ⟨lb, hb⟩ := ok.h2 p2
  obtain ⟨sA1, sc1, sA2, sc2, sA3, sc3⟩ := s
  simp only at hb
  subst hb
  dsimp only
  obtain ⟨j, hj⟩ : ∃ j, k - lo.length = j := ⟨_, rfl⟩
  rw [hj] at g0
  have hjl : j < li.length := by omega
  have hld : ∀ L', Ld (own 3 1 (some ⟨lb, 0, none⟩) li.length sc2 (flat li) :: L') ⟨lb, 0 + j * 1, none⟩ (.int .i64 v) := fun L' => ld_ownI rfl g0 L'
  (repeat first | refine G_seq ?_ | refine G_skip ?_ | refine G_endblk ?_ | refine G_block ?_ | refine G_exit rfl ?_)
  refine G_region ?_
  refine GO_q rfl rfl (ev_move rfl) ?_
  refine GO_q rfl rfl (ev_move rfl) ?_
  refine GO_q rfl rfl (ev_move rfl) ?_
  refine GO_q rfl rfl (ev_len rfl) ?_
  refine GO_q rfl rfl (ev_subN rfl rfl (by omega)) ?_
  rw [hj]
  refine GO_q rfl rfl (ev_indexAddrN rfl rfl (by omega)) ?_
  refine GO_q rfl rfl (ev_load rfl (by repeat' first | exact hld _ | apply Ld.skip)) ?_
  refine GO_q rfl rfl (ev_assign rfl) ?_
  refine GO_q rfl rfl (ev_assign rfl) ?_
  refine GO_nil ?_
  (repeat first | refine G_seq ?_ | refine G_skip ?_ | refine G_endblk ?_ | refine G_block ?_ | refine G_exit rfl ?_)
  refine G_ret rfl (.tmp rfl (.tmp rfl .nil)) (by (repeat first | exact fun _ s => s | apply en_keep | apply en_drop | apply en_app) <;> fail) ⟨rfl, rfl⟩
theorem pickI0_ctr (A : Option Addr) (c : Nat) (L : List HP) : Ctr Tryz.prog 154 #[.slice A 0 c, .int .i64 0, .func (.func 133) #[] #[]] L fun r L' => r = .tuple #[.int .i64 0, .bool false] ∧ L' = L := by
  refine Ctr_of (fn := Tryz.f154) (n := 40) Tryz.func154 rfl rfl rfl ?_
  intro g F
  (repeat first | refine G_seq ?_ | refine G_skip ?_ | refine G_endblk ?_ | refine G_block ?_ | refine G_exit rfl ?_)
  refine G_region ?_
  refine GO_q rfl rfl (ev_assign rfl) ?_
  refine GO_q rfl rfl (ev_assign rfl) ?_
  refine GO_nil ?_
  (repeat first | refine G_seq ?_ | refine G_skip ?_ | refine G_endblk ?_ | refine G_block ?_ | refine G_exit rfl ?_)
  refine G_region ?_
  refine GO_q rfl rfl (ev_move rfl) ?_
  (first | refine GO_q rfl rfl (ev_lssN (q := 0) rfl rfl) ?_ | refine GO_q rfl rfl (ev_lss rfl rfl) ?_)
  refine GO_q rfl rfl (ev_move rfl) ?_
  refine GO_yes rfl rfl rfl (decide_eq_false (by omega)) ?_
  refine GO_q rfl rfl (ev_move rfl) ?_
  refine GO_yes rfl rfl rfl (decide_eq_false (by omega)) ?_
  refine GO_q rfl rfl (ev_move rfl) ?_
  refine GO_yes rfl rfl rfl (decide_eq_false (by omega)) ?_
  refine GO_q rfl rfl (ev_len rfl) ?_
  refine GO_yes rfl rfl rfl (decide_eq_false (by omega)) ?_
  refine GO_q rfl rfl (ev_geq rfl rfl) ?_
  refine GO_q rfl rfl (ev_pick_f rfl (decide_eq_false (by omega)) rfl) ?_
  refine GO_nil ?_
  (repeat first | refine G_seq ?_ | refine G_skip ?_ | refine G_endblk ?_ | refine G_block ?_ | refine G_exit rfl ?_)
  refine G_cond_t rfl rfl ?_
  (repeat first | refine G_seq ?_ | refine G_skip ?_ | refine G_endblk ?_ | refine G_block ?_ | refine G_exit rfl ?_)
  refine G_region ?_
  refine GO_q rfl rfl (ev_move rfl) ?_
  refine GO_q rfl rfl (ev_assign rfl) ?_
  refine GO_q rfl rfl (ev_assign rfl) ?_
  refine GO_nil ?_
  (repeat first | refine G_seq ?_ | refine G_skip ?_ | refine G_endblk ?_ | refine G_block ?_ | refine G_exit rfl ?_)
  refine G_ret rfl (.tmp rfl (.tmp rfl .nil)) (by (repeat first | exact fun _ s => s | apply en_keep | apply en_drop | apply en_app) <;> fail) ⟨rfl, rfl⟩
/-- pick.Median -/
theorem MedianI_ctr (A : Option Addr) (n c : Nat) (l : List Int) (v : Int) (L : List HP) (hl : Rd L A n l) (hn : n ≤ 1000000) (hc : n ≤ c) (hv : (srtO ltI l)[n / 2]? = some v) :
    Ctr Tryz.prog 132 #[.slice A n c, .func (.func 133) #[] #[]] L fun r L' => r = .tuple #[.int .i64 v, .bool true] ∧ L' = L := by
  refine Ctr_of (fn := Tryz.f132) (n := 14) Tryz.func132 rfl rfl rfl ?_
  intro g F
  (repeat first | refine G_seq ?_ | refine G_skip ?_ | refine G_endblk ?_ | refine G_block ?_ | refine G_exit rfl ?_)
  refine G_region ?_
  refine GO_q rfl rfl (ev_assign rfl) ?_
  refine GO_q rfl rfl (ev_assign rfl) ?_
  refine GO_nil ?_
  (repeat first | refine G_seq ?_ | refine G_skip ?_ | refine G_endblk ?_ | refine G_block ?_ | refine G_exit rfl ?_)
  refine G_region ?_
  refine GO_q rfl rfl (ev_move rfl) ?_
  refine GO_q rfl rfl (ev_move rfl) ?_
  refine GO_q rfl rfl (ev_len rfl) ?_
  (first | refine GO_q rfl rfl (ev_quoN (q := 2) rfl rfl (by first | omega | (simp; done) | (simp; omega)) (by first | omega | (simp; done) | (simp; omega))) ?_ | refine GO_q rfl rfl (ev_quo rfl rfl (by first | omega | (simp; done) | (simp; omega)) (by first | omega | (simp; done) | (simp; omega)) (by first | omega | (simp; done) | (simp; omega))) ?_)
  refine GO_q rfl rfl (ev_move rfl) ?_
  refine GO_eff rfl rfl (eff_call rfl (pickI_ctr A n c l (n / 2) v _ (by repeat' first | exact Rc.blk rfl | assumption | apply Rd.skip | apply Rd.app) hn hc hv)) ?_; rintro _ _ ⟨rfl, rfl⟩
  refine GO_q rfl rfl (ev_extract rfl rfl) ?_
  refine GO_q rfl rfl (ev_extract rfl rfl) ?_
  refine GO_q rfl rfl (ev_assign rfl) ?_
  refine GO_q rfl rfl (ev_assign rfl) ?_
  refine GO_nil ?_
  (repeat first | refine G_seq ?_ | refine G_skip ?_ | refine G_endblk ?_ | refine G_block ?_ | refine G_exit rfl ?_)
  refine G_ret rfl (.tmp rfl (.tmp rfl .nil)) (by (repeat first | exact fun _ s => s | apply en_keep | apply en_drop | apply en_app) <;> fail) ⟨rfl, rfl⟩
theorem MedianI0_ctr (A : Option Addr) (c : Nat) (L : List HP) : Ctr Tryz.prog 132 #[.slice A 0 c, .func (.func 133) #[] #[]] L fun r L' => r = .tuple #[.int .i64 0, .bool false] ∧ L' = L := by
  refine Ctr_of (fn := Tryz.f132) (n := 14) Tryz.func132 rfl rfl rfl ?_
  intro g F
  (repeat first | refine G_seq ?_ | refine G_skip ?_ | refine G_endblk ?_ | refine G_block ?_ | refine G_exit rfl ?_)
  refine G_region ?_
  refine GO_q rfl rfl (ev_assign rfl) ?_
  refine GO_q rfl rfl (ev_assign rfl) ?_
  refine GO_nil ?_
  (repeat first | refine G_seq ?_ | refine G_skip ?_ | refine G_endblk ?_ | refine G_block ?_ | refine G_exit rfl ?_)
  refine G_region ?_
  refine GO_q rfl rfl (ev_move rfl) ?_
  refine GO_q rfl rfl (ev_move rfl) ?_
  refine GO_q rfl rfl (ev_len rfl) ?_
  (first | refine GO_q rfl rfl (ev_quoN (q := 2) rfl rfl (by first | omega | (simp; done) | (simp; omega)) (by first | omega | (simp; done) | (simp; omega))) ?_ | refine GO_q rfl rfl (ev_quo rfl rfl (by first | omega | (simp; done) | (simp; omega)) (by first | omega | (simp; done) | (simp; omega)) (by first | omega | (simp; done) | (simp; omega))) ?_)
  refine GO_q rfl rfl (ev_move rfl) ?_
  refine GO_eff rfl rfl (eff_call rfl (pickI0_ctr A c _)) ?_; rintro _ _ ⟨rfl, rfl⟩
  refine GO_q rfl rfl (ev_extract rfl rfl) ?_
  refine GO_q rfl rfl (ev_extract rfl rfl) ?_
  refine GO_q rfl rfl (ev_assign rfl) ?_
  refine GO_q rfl rfl (ev_assign rfl) ?_
  refine GO_nil ?_
  (repeat first | refine G_seq ?_ | refine G_skip ?_ | refine G_endblk ?_ | refine G_block ?_ | refine G_exit rfl ?_)
  refine G_ret rfl (.tmp rfl (.tmp rfl .nil)) (by (repeat first | exact fun _ s => s | apply en_keep | apply en_drop | apply en_app) <;> fail) ⟨rfl, rfl⟩
end Go.Proofs.YtjnmpogolknkpaaGreat
/- num.Mid, by a walk. -/
namespace Go.Proofs.YtjnmpogolknkpaaGreat
open Go.RowKit
theorem ret_intM {k : IntKind} {a b : Int} (h : a = b) : Ending.returned (.int k a) = .returned (.int k b) := by rw [h]
theorem and_one_i64 (a : Int) : bits BinOp.and IntKind.i64 a 1 = a % 2 := by
  have e : (BitVec.ofInt 64 a &&& BitVec.ofInt 64 1).toNat = (a % 18446744073709551616).toNat % 2 := by
    rw [BitVec.toNat_and]
    rw [show (BitVec.ofInt 64 1).toNat = 1 from rfl, Nat.and_one_is_mod, BitVec.toNat_ofInt]
    rfl
  show IntKind.i64.wrap ((BitVec.ofInt 64 a &&& BitVec.ofInt 64 1).toNat : Int) = _
  rw [e, IntWalk.i64_in _ (by omega)]
  omega
theorem and_bits_i64 (a b : Int) : bits BinOp.and IntKind.i64 (a % 2) (b % 2) = (a % 2) * (b % 2) := by
  rcases Int.emod_two_eq a with ha | ha <;> rcases Int.emod_two_eq b with hb | hb <;> rw [ha, hb] <;> rfl
set_option maxHeartbeats 400000 in
theorem mid_any (a b : Int) (ha : -9223372036854775808 ≤ a ∧ a ≤ 9223372036854775807) (hb : -9223372036854775808 ≤ b ∧ b ≤ 9223372036854775807) (w : World) :
    Calls Tryz.prog 70 #[.int .i64 a, .int .i64 b] w fun e w' => e = .returned (.int .i64 ((a + b) / 2)) ∧ w = w' := by
  obtain ⟨a1, a2⟩ := ha
  obtain ⟨b1, b2⟩ := hb
  go_enter Tryz.func70, Tryz.ntmps70
  go_wp2
  go_ret
  refine ⟨ret_intM ?_, rfl⟩
  rw [and_one_i64, and_one_i64, and_bits_i64]
  rcases Int.emod_two_eq a with ha | ha <;> rcases Int.emod_two_eq b with hb | hb <;> rw [ha, hb, IntWalk.wrap64_in _ (by omega)] <;> omega
end Go.Proofs.YtjnmpogolknkpaaGreat
/- A tree of middles: note, keep. -/
namespace Go.Proofs.YtjnmpogolknkpaaGreat
attribute [local irreducible] sat
set_option linter.unusedVariables false
set_option linter.unusedSimpArgs false
set_option maxRecDepth 100000

/-- A node that lies open. -/
def itM (b : Nat) (mid : Int) (A : Option Addr) (c : Nat) (p : List Pt) (C : Option Addr) (d : Nat) (q : List Pt) (m : Nat) (lo hi : IT) (L : List HP) : List HP := blk b 92 (inC mid A p.length c C q.length d lo.addr hi.addr m) :: own 24 3 A p.length c (flat p) :: own 24 3 C q.length d (flat q) :: itH lo :: itH hi :: L
structure Fit (A : Option Addr) (c : Nat) (p : List Pt) (C : Option Addr) (d : Nat) (q : List Pt) (lo hi : IT) : Prop where
  p : OF A p.length c
  q : OF C q.length d
  lo : lo.fit
  hi : hi.fit
theorem itM_in {A : Option Addr} {c : Nat} {p : List Pt} {C : Option Addr} {d : Nat} {q : List Pt} {lo hi : IT} (f : Fit A c p C d q lo hi) (b : Nat) (mid : Int) (m : Nat) (L : List HP) : IIn (itM b mid A c p C d q m lo hi L) (.node b mid A c p C d q m lo hi) :=
  ⟨⟨f.p, f.q⟩, LdN.blk rfl, Rd.skip (Rc.own (flat_length _) f.p.a), Rd.skip (Rd.skip (Rc.own (flat_length _) f.q.a)), (itH_in lo _ f.lo).skip.skip.skip, (itH_in hi _ f.hi).skip.skip.skip.skip⟩
/-- A part of a tree that was made. -/
def MadeI (l : List Pt) (L : List HP) (v : Value) (L' : List HP) : Prop := ∃ T : IT, (T.ok ∧ T.fit ∧ T.spans.Perm l) ∧ v = .pointer T.addr ∧ L' = itH T :: L
section
variable {A : Option Addr} {c : Nat} {p : List Pt} {C : Option Addr} {d : Nat} {q : List Pt} {lo hi : IT}
theorem note_ctr (f : Fit A c p C d q lo hi) (b : Nat) (mid : Int) (m : Nat) (L : List HP) (h1 : p.length ≤ 100000) (h2 : lo.size ≤ 100000) (h3 : hi.size ≤ 100000) :
    Ctr Tryz.prog 72 #[.pointer (some ⟨b, 0, none⟩)] (itM b mid A c p C d q m lo hi L) fun v L' => v = .pointer (some ⟨b, 0, none⟩) ∧ L' = itM b mid A c p C d q (p.length + lo.size + hi.size) lo hi L := by
  obtain ⟨q1, q2, q3, q4, q5, q6, q7, q8, q9, q10, q11, q12⟩ := (itM_in f b mid m L).f
  unfold itM at *
  refine Ctr_of (fn := Tryz.f72) (n := 26) Tryz.func72 rfl rfl rfl ?_
  intro g F
  (repeat first | refine G_seq ?_ | refine G_skip ?_ | refine G_endblk ?_ | refine G_block ?_ | refine G_exit rfl ?_)
  refine G_region ?_
  refine GO_q rfl rfl (ev_assign rfl) ?_
  refine GO_nil ?_
  (repeat first | refine G_seq ?_ | refine G_skip ?_ | refine G_endblk ?_ | refine G_block ?_ | refine G_exit rfl ?_)
  refine G_draw (.q 0 (.q 1 (.q 2 (.q 3 (.q 4 (.q 5 (.q 6 (.q 7 (.q 8 (.q 9 (.q 10 (.q 13 (.q 14 (.q 15 (.q 16 (.q 17 (.e 11 (.q 12 (.e 18 (.q 19 (.q 20 (.q 21 (.e 22 .nil))))))))))))))))))))))) (by kernel_rfl) (by kernel_rfl) ?_
  refine RS_m retB_noPanic rfl rfl rfl rfl (ev_move rfl) ?_
  refine RS_m retB_noPanic rfl rfl rfl rfl (ev_move rfl) ?_
  (first | refine RS_m retB_noPanic rfl rfl rfl rfl (ev_nilCheck rfl) ?_ | refine RS_m retB_noPanic rfl rfl rfl rfl (ev_nilCheckF (by simp) rfl) ?_)
  refine RS_m retB_noPanic rfl rfl rfl rfl (ev_fieldAddr rfl) ?_
  refine RS_q retB_noPanic rfl rfl rfl rfl (ev_load rfl (by repeat' first | exact Ld.blk rfl | assumption | apply Ld.skip | apply Ld.app)) ?_
  refine RS_q retB_noPanic rfl rfl rfl rfl (ev_len rfl) ?_
  refine RS_m retB_noPanic rfl rfl rfl rfl (ev_move rfl) ?_
  (first | refine RS_m retB_noPanic rfl rfl rfl rfl (ev_nilCheck rfl) ?_ | refine RS_m retB_noPanic rfl rfl rfl rfl (ev_nilCheckF (by simp) rfl) ?_)
  refine RS_m retB_noPanic rfl rfl rfl rfl (ev_fieldAddr rfl) ?_
  refine RS_m retB_noPanic rfl rfl rfl rfl (ev_indexAddrA rfl rfl (by first | omega | (simp; done) | (simp; omega)) (by first | omega | (simp; done) | (simp; omega))) ?_
  refine RS_q retB_noPanic rfl rfl rfl rfl (ev_load rfl (by repeat' first | exact Ld.blk rfl | assumption | apply Ld.skip | apply Ld.app)) ?_
  refine RS_m retB_noPanic rfl rfl rfl rfl (ev_move rfl) ?_
  (first | refine RS_m retB_noPanic rfl rfl rfl rfl (ev_nilCheck rfl) ?_ | refine RS_m retB_noPanic rfl rfl rfl rfl (ev_nilCheckF (by simp) rfl) ?_)
  refine RS_m retB_noPanic rfl rfl rfl rfl (ev_fieldAddr rfl) ?_
  refine RS_m retB_noPanic rfl rfl rfl rfl (ev_indexAddrA rfl rfl (by first | omega | (simp; done) | (simp; omega)) (by first | omega | (simp; done) | (simp; omega))) ?_
  refine RS_q retB_noPanic rfl rfl rfl rfl (ev_load rfl (by repeat' first | exact Ld.blk rfl | assumption | apply Ld.skip | apply Ld.app)) ?_
  refine RS_e (RE_eff rfl rfl rfl (eff_call rfl (isize_ctr lo _ q11.skip)) ?_); rintro _ _ ⟨rfl, rfl⟩; refine ⟨_, fun _ s => s, (by first | ((repeat first | exact fun _ s => s | apply en_keep | apply en_drop | apply en_app) <;> fail) | ((repeat first | exact en_refl | (apply en_blk; focus ((repeat' first | exact Pick.here | apply Pick.skip | apply Pick.app); done); focus rfl) | (apply en_own; focus ((repeat' first | exact Pick.here | apply Pick.skip | apply Pick.app); done); focus rfl) | (apply en_pick; focus ((repeat' first | exact Pick.here | apply Pick.skip | apply Pick.app); done)) | apply en_drop | apply en_app) <;> fail)), ?_⟩
  (first | refine RS_m retB_noPanic rfl rfl rfl rfl (ev_addN rfl rfl (by first | omega | (simp; done) | (simp; omega))) ?_ | refine RS_m retB_noPanic rfl rfl rfl rfl (ev_add rfl rfl (by first | omega | (simp; done) | (simp; omega))) ?_)
  refine RS_e (RE_eff rfl rfl rfl (eff_call rfl (isize_ctr hi _ q12.skip)) ?_); rintro _ _ ⟨rfl, rfl⟩; refine ⟨_, fun _ s => s, (by first | ((repeat first | exact fun _ s => s | apply en_keep | apply en_drop | apply en_app) <;> fail) | ((repeat first | exact en_refl | (apply en_blk; focus ((repeat' first | exact Pick.here | apply Pick.skip | apply Pick.app); done); focus rfl) | (apply en_own; focus ((repeat' first | exact Pick.here | apply Pick.skip | apply Pick.app); done); focus rfl) | (apply en_pick; focus ((repeat' first | exact Pick.here | apply Pick.skip | apply Pick.app); done)) | apply en_drop | apply en_app) <;> fail)), ?_⟩
  (first | refine RS_m retB_noPanic rfl rfl rfl rfl (ev_addN rfl rfl (by first | omega | (simp; done) | (simp; omega))) ?_ | refine RS_m retB_noPanic rfl rfl rfl rfl (ev_add rfl rfl (by first | omega | (simp; done) | (simp; omega))) ?_)
  (first | refine RS_m retB_noPanic rfl rfl rfl rfl (ev_nilCheck rfl) ?_ | refine RS_m retB_noPanic rfl rfl rfl rfl (ev_nilCheckF (by simp) rfl) ?_)
  refine RS_m retB_noPanic rfl rfl rfl rfl (ev_fieldAddr rfl) ?_
  refine RS_e (RE_last (by kernel_rfl) rfl rfl rfl (eff_store rfl rfl rfl (by repeat' first | exact Upd.here rfl | apply Upd.skip | apply Upd.app)) ?_); rintro _ _ ⟨rfl, rfl⟩
  (repeat first | refine G_seq ?_ | refine G_skip ?_ | refine G_endblk ?_ | refine G_block ?_ | refine G_exit rfl ?_)
  refine G_region ?_
  refine GO_q rfl rfl (ev_move rfl) ?_
  refine GO_q rfl rfl (ev_assign rfl) ?_
  refine GO_nil ?_
  (repeat first | refine G_seq ?_ | refine G_skip ?_ | refine G_endblk ?_ | refine G_block ?_ | refine G_exit rfl ?_)
  exact G_ret (L' := blk b 92 (inC mid A p.length c C q.length d lo.addr hi.addr (p.length + lo.size + hi.size)) :: own 24 3 A p.length c (flat p) :: own 24 3 C q.length d (flat q) :: itH lo :: itH hi :: L) rfl (.tmp rfl .nil) (by (repeat first | exact en_refl | (apply en_blk; focus ((repeat' first | exact Pick.here | apply Pick.skip | apply Pick.app); done); focus rfl) | (apply en_own; focus ((repeat' first | exact Pick.here | apply Pick.skip | apply Pick.app); done); focus rfl) | (apply en_pick; focus ((repeat' first | exact Pick.here | apply Pick.skip | apply Pick.app); done)) | apply en_drop | apply en_app) <;> fail) ⟨rfl, rfl⟩
end
theorem keep_ctr (b : Nat) (mid : Int) (A C : Option Addr) (np c nq d : Nat) (al ah : Option Addr) (m : Nat) (O : Option Addr) (n e : Nat) (l : List Pt) (L : List HP) (hl : Rd L O n l) (hn : n ≤ 100000) (he : n ≤ e) :
    Ctr Tryz.prog 71 #[.pointer (some ⟨b, 0, none⟩), .slice O n e] (blk b 92 (inC mid A np c C nq d al ah m) :: L) fun v L' => ∃ A' c' C' d', v = .pointer (some ⟨b, 0, none⟩) ∧ (OF A' (srtO Pt.less l).length c' ∧ OF C' (srtO Pt.ends l).length d') ∧ L' = blk b 92 (inC mid A' (srtO Pt.less l).length c' C' (srtO Pt.ends l).length d' al ah m) :: own 24 3 A' (srtO Pt.less l).length c' (flat (srtO Pt.less l)) :: own 24 3 C' (srtO Pt.ends l).length d' (flat (srtO Pt.ends l)) :: L := by
  have c1 := fun M h => (SortO_ctr sto_less less_ls O n e l M h (by omega) he).made
  have c2 := fun M h => (SortO_ctr sto_ends ends_ls O n e l M h (by omega) he).made
  generalize srtO Pt.less l = p at *
  generalize srtO Pt.ends l = q at *
  refine Ctr_of (fn := Tryz.f71) (n := 16) Tryz.func71 rfl rfl rfl ?_
  intro g F
  (repeat first | refine G_seq ?_ | refine G_skip ?_ | refine G_endblk ?_ | refine G_block ?_ | refine G_exit rfl ?_)
  refine G_region ?_
  refine GO_q rfl rfl (ev_assign rfl) ?_
  refine GO_nil ?_
  (repeat first | refine G_seq ?_ | refine G_skip ?_ | refine G_endblk ?_ | refine G_block ?_ | refine G_exit rfl ?_)
  refine G_region ?_
  refine GO_q rfl rfl (ev_move rfl) ?_
  refine GO_q rfl rfl (ev_move rfl) ?_
  refine GO_q rfl rfl (ev_move rfl) ?_
  refine GO_eff rfl rfl (eff_call rfl (c1 _ (by repeat' first | exact Rc.blk rfl | assumption | apply Rd.skip | apply Rd.app))) ?_; rintro _ _ ⟨A1, c1', rfl, u1, u2, u3, rfl⟩
  refine GO_q rfl rfl (ev_move rfl) ?_
  refine GO_eff rfl rfl (eff_call rfl (c2 _ (by repeat' first | exact Rc.blk rfl | assumption | apply Rd.skip | apply Rd.app))) ?_; rintro _ _ ⟨A2, c2', rfl, v1, v2, v3, rfl⟩
  (first | refine GO_q rfl rfl (ev_nilCheck rfl) ?_ | refine GO_q rfl rfl (ev_nilCheckF (by simp) rfl) ?_)
  refine GO_q rfl rfl (ev_fieldAddr rfl) ?_
  refine GO_eff rfl rfl (eff_store rfl rfl rfl (by repeat' first | exact Upd.here rfl | apply Upd.skip | apply Upd.app)) ?_; rintro _ _ ⟨rfl, rfl⟩
  (first | refine GO_q rfl rfl (ev_nilCheck rfl) ?_ | refine GO_q rfl rfl (ev_nilCheckF (by simp) rfl) ?_)
  refine GO_q rfl rfl (ev_fieldAddr rfl) ?_
  refine GO_eff rfl rfl (eff_store rfl rfl rfl (by repeat' first | exact Upd.here rfl | apply Upd.skip | apply Upd.app)) ?_; rintro _ _ ⟨rfl, rfl⟩
  refine GO_nil ?_
  (repeat first | refine G_seq ?_ | refine G_skip ?_ | refine G_endblk ?_ | refine G_block ?_ | refine G_exit rfl ?_)
  refine G_region ?_
  refine GO_q rfl rfl (ev_move rfl) ?_
  refine GO_q rfl rfl (ev_assign rfl) ?_
  refine GO_nil ?_
  (repeat first | refine G_seq ?_ | refine G_skip ?_ | refine G_endblk ?_ | refine G_block ?_ | refine G_exit rfl ?_)
  exact G_ret (L' := blk b 92 (inC mid A1 p.length c1' A2 q.length c2' al ah m) :: own 24 3 A1 p.length c1' (flat p) :: own 24 3 A2 q.length c2' (flat q) :: L) rfl (.tmp rfl .nil) (by (repeat first | exact en_refl | (apply en_blk; focus ((repeat' first | exact Pick.here | apply Pick.skip | apply Pick.app); done); focus rfl) | (apply en_own; focus ((repeat' first | exact Pick.here | apply Pick.skip | apply Pick.app); done); focus rfl) | (apply en_pick; focus ((repeat' first | exact Pick.here | apply Pick.skip | apply Pick.app); done)) | apply en_drop | apply en_app) <;> fail) ⟨A1, c1', A2, c2', rfl, ⟨⟨u1, u2, u3⟩, ⟨v1, v2, v3⟩⟩, rfl⟩
end Go.Proofs.YtjnmpogolknkpaaGreat
/- A tree of middles: build, even. -/
namespace Go.Proofs.YtjnmpogolknkpaaGreat
attribute [local irreducible] sat
set_option linter.unusedVariables false
set_option linter.unusedSimpArgs false
set_option maxRecDepth 100000

theorem endsOf_succ {l : List Pt} {k : Nat} {a : Pt} (h : l[k]? = some a) : flat (endsOf (l.take (k + 1))) = flat (endsOf (l.take k)) ++ [Value.int .i64 a.x, .int .i64 a.y] := by
  unfold endsOf
  rw [List.take_add_one, h, List.flatMap_append, flat_append]
  rfl
theorem part_succ {f : Pt → Bool} {l : List Pt} {k : Nat} {a : Pt} (h : l[k]? = some a) : (l.take (k + 1)).filter f = (l.take k).filter f ++ (if f a = true then [a] else []) := by
  rw [List.take_add_one, h, List.filter_append]
  simp [List.filter_cons]
theorem low_len (mid : Int) (l : List Pt) : (lowL mid l).length ≤ l.length := List.length_filter_le _ _
theorem high_len (mid : Int) (l : List Pt) : (highL mid l).length ≤ l.length := List.length_filter_le _ _
theorem own_len' (mid : Int) (l : List Pt) : (ownL mid l).length ≤ l.length := List.length_filter_le _ _
theorem build_ctr : ∀ (N : Nat) (A : Option Addr) (n c : Nat) (l : List Pt) (L : List HP) (_ : n ≤ N) (_ : Rd L A n l) (_ : n ≤ 100000) (_ : n ≤ c) (_ : ∀ s ∈ l, s.x ≤ s.y) (_ : l.Nodup),
    Ctr Tryz.prog 104 #[.slice A n c] L fun v L' => MadeI l L v L' := by
  intro N
  induction N using Nat.strongRecOn with
  | _ N ih =>
  intro A n c l L hN hl hn hc hf hnd
  have h1 : l.length = n := hl.len (by decide)
  have hel := endsOf_length l
  refine Ctr_of (fn := Tryz.f104) (n := 76) Tryz.func104 rfl rfl rfl ?_
  intro g F
  (repeat first | refine G_seq ?_ | refine G_skip ?_ | refine G_endblk ?_ | refine G_block ?_ | refine G_exit rfl ?_)
  refine G_region ?_
  refine GO_q rfl rfl (ev_assign rfl) ?_
  refine GO_nil ?_
  (repeat first | refine G_seq ?_ | refine G_skip ?_ | refine G_endblk ?_ | refine G_block ?_ | refine G_exit rfl ?_)
  refine G_region ?_
  refine GO_q rfl rfl (ev_assign rfl) ?_
  refine GO_nil ?_
  (repeat first | refine G_seq ?_ | refine G_skip ?_ | refine G_endblk ?_ | refine G_block ?_ | refine G_exit rfl ?_)
  refine G_region ?_
  refine GO_q rfl rfl (ev_move rfl) ?_
  refine GO_q rfl rfl (ev_len rfl) ?_
  refine GO_q rfl rfl (ev_move rfl) ?_
  refine GO_nil ?_
  (repeat first | refine G_seq ?_ | refine G_skip ?_ | refine G_endblk ?_)
  refine G_cut (ι := Option Addr × Nat) (fun z => [(0, .slice A n c), (3, .slice z.1 (2 * n) z.2)]) (fun z => own 3 1 z.1 (2 * n) z.2 (flat (endsOf l)) :: F :: L) (fun z => (0 < 2 * n → ∃ b, z.1 = some ⟨b, 0, none⟩) ∧ 2 * n ≤ z.2) ?_ ?_
  · (repeat first | refine G_seq ?_ | refine G_skip ?_ | refine G_endblk ?_ | refine G_block ?_ | refine G_exit rfl ?_)
    refine G_heap (own.nil_ 3 1) ?_
    refine G_loop (ι := Nat × Option Addr × Nat) (fun z => [(0, .slice A n c), (3, .slice z.2.1 (2 * z.1) z.2.2), (14, .slice A n c), (15, .int .i64 (n : Nat)), (16, .int .i64 (z.1 : Nat))]) (fun z => own 3 1 z.2.1 (2 * z.1) z.2.2 (flat (endsOf (l.take z.1))) :: F :: L) (fun z => z.1 ≤ n ∧ (0 < 2 * z.1 → ∃ b, z.2.1 = some ⟨b, 0, none⟩) ∧ 2 * z.1 ≤ z.2.2) (fun z => n - z.1) (0, none, 0) ⟨Nat.zero_le _, fun h => absurd h (Nat.lt_irrefl 0), Nat.le_refl _⟩ ⟨rfl, rfl, rfl, rfl, rfl, trivial⟩ (by (repeat first | exact fun _ s => s | apply en_keep | apply en_drop | apply en_app) <;> fail) ?_
    rintro ⟨i, O, e⟩ ⟨f1, f3, f4⟩
    simp only at f1 f3 f4
    dsimp only
    (repeat first | refine G_seq ?_ | refine G_skip ?_ | refine G_endblk ?_ | refine G_block ?_ | refine G_exit rfl ?_)
    refine G_region ?_
    (first | refine GO_q rfl rfl (ev_lssN rfl rfl) ?_ | refine GO_q rfl rfl (ev_lss rfl rfl) ?_)
    refine GO_nil ?_
    (repeat first | refine G_seq ?_ | refine G_skip ?_ | refine G_endblk ?_ | refine G_block ?_ | refine G_exit rfl ?_)
    refine G_cond rfl (fun c1 => ?_) (fun c1 => ?_)
    · obtain ⟨b1, o1, rfl, x1⟩ := hl.at_ (by omega)
      have g1 : l[i]? = some l[i] := List.getElem?_eq_getElem (by omega)
      have y1 := x1 _ _ g1
      have s1 := endsOf_succ g1
      generalize l[i] = u at *
      have z1 : LdN L b1 (o1 + i * 3) 3 [.int .i64 u.id, .int .i64 u.x, .int .i64 u.y] := y1
      (repeat first | refine G_seq ?_ | refine G_skip ?_ | refine G_endblk ?_ | refine G_block ?_ | refine G_exit rfl ?_)
      refine G_region ?_
      (first | refine GO_q rfl rfl (ev_indexAddrN rfl rfl (by first | omega | (simp; done) | (simp; omega))) ?_ | refine GO_q rfl rfl (ev_indexAddr rfl rfl (by first | omega | (simp; done) | (simp; omega)) (by first | omega | (simp; done) | (simp; omega))) ?_)
      refine GO_q rfl rfl (ev_loadN rfl (by repeat' first | exact LdN.blk rfl | assumption | apply LdN.skip | apply LdN.app)) ?_
      refine GO_eff rfl rfl eff_alloc ?_; rintro _ _ ⟨b5, rfl, rfl⟩
      refine GO_eff rfl rfl (eff_storeN rfl rfl rfl rfl (by repeat' first | exact Upd.here rfl | apply Upd.skip | apply Upd.app)) ?_; rintro _ _ ⟨rfl, rfl⟩
      refine GO_nil ?_
      (repeat first | refine G_seq ?_ | refine G_skip ?_ | refine G_endblk ?_ | refine G_block ?_ | refine G_exit rfl ?_)
      refine G_region ?_
      refine GO_q rfl rfl (ev_move rfl) ?_
      refine GO_q rfl rfl (ev_fieldAddr rfl) ?_
      refine GO_q rfl rfl (ev_load rfl (by repeat' first | exact Ld.blk rfl | assumption | apply Ld.skip | apply Ld.app)) ?_
      refine GO_q rfl rfl (ev_fieldAddr rfl) ?_
      refine GO_q rfl rfl (ev_load rfl (by repeat' first | exact Ld.blk rfl | assumption | apply Ld.skip | apply Ld.app)) ?_
      refine GO_eff rfl rfl (eff_buildSliceN (by rfl) rfl rfl) ?_; rintro _ _ ⟨b25, rfl, rfl⟩
      refine GO_eff rfl rfl (eff_append rfl rfl (by repeat' first | exact Pick.here | apply Pick.skip) (by repeat' first | exact Rc.blk rfl | assumption | apply Rc.skip) (one_all rfl) (by rfl) (by decide) (by first | omega | (simp; done) | (simp; omega)) (by first | omega | (simp; done) | (simp; omega))) ?_; rintro _ _ ⟨A26, c26, rfl, hc26, hm26, hn26, rfl⟩
      refine GO_q rfl rfl (ev_assign rfl) ?_
      refine GO_nil ?_
      (repeat first | refine G_seq ?_ | refine G_skip ?_ | refine G_endblk ?_ | refine G_block ?_ | refine G_exit rfl ?_)
      refine G_region ?_
      (first | refine GO_q rfl rfl (ev_addN (q := 1) rfl rfl (by first | omega | (simp; done) | (simp; omega))) ?_ | refine GO_q rfl rfl (ev_add rfl rfl (by first | omega | (simp; done) | (simp; omega))) ?_)
      refine GO_q rfl rfl (ev_move rfl) ?_
      refine GO_nil ?_
      (repeat first | refine G_seq ?_ | refine G_skip ?_ | refine G_endblk ?_ | refine G_block ?_ | refine G_exit rfl ?_)
      refine G_round (i + 1, A26, c26) ⟨by simp only; omega, fun _ => hn26 (by omega), by simp only; omega⟩ (by simp only; omega) ⟨rfl, rfl, rfl, rfl, rfl, trivial⟩ ?_
      simp only [s1]
      exact (by (repeat first | exact en_refl | (apply en_blk; focus ((repeat' first | exact Pick.here | apply Pick.skip | apply Pick.app); done); focus rfl) | (apply en_own; focus ((repeat' first | exact Pick.here | apply Pick.skip | apply Pick.app); done); focus rfl) | (apply en_pick; focus ((repeat' first | exact Pick.here | apply Pick.skip | apply Pick.app); done)) | apply en_drop | apply en_app) <;> fail)
    · have e0 : i = n := by omega
      subst e0
      rw [List.take_of_length_le (by omega)]
      (repeat first | refine G_seq ?_ | refine G_skip ?_ | refine G_endblk ?_ | refine G_block ?_ | refine G_exit rfl ?_)
      exact G_inv (O, e) ⟨f3, f4⟩ ⟨rfl, rfl, trivial⟩ (by (repeat first | exact fun _ s => s | apply en_keep | apply en_drop | apply en_app) <;> fail)
  · rintro ⟨O, e⟩ ⟨f3, f4⟩
    simp only at f3 f4
    dsimp only
    have hrd : Rd (own 3 1 O (2 * n) e (flat (endsOf l)) :: F :: L) O (2 * n) (endsOf l) := Rc.own (by rw [flat_length, hel, h1]; rfl) f3
    rcases Nat.eq_zero_or_pos n with h0 | h0
    · subst h0
      have e0 : l = [] := List.eq_nil_of_length_eq_zero h1
      subst e0
      (repeat first | refine G_seq ?_ | refine G_skip ?_ | refine G_endblk ?_ | refine G_block ?_ | refine G_exit rfl ?_)
      refine G_region ?_
      refine GO_q rfl rfl (ev_move rfl) ?_
      refine GO_eff rfl rfl (eff_call rfl (MedianI0_ctr O e _)) ?_; rintro _ _ ⟨rfl, rfl⟩
      refine GO_q rfl rfl (ev_move rfl) ?_
      refine GO_q rfl rfl (ev_extract rfl rfl) ?_
      refine GO_q rfl rfl (ev_extract rfl rfl) ?_
      refine GO_q rfl rfl (ev_assign rfl) ?_
      refine GO_q rfl rfl (ev_assign rfl) ?_
      refine GO_nil ?_
      (repeat first | refine G_seq ?_ | refine G_skip ?_ | refine G_endblk ?_ | refine G_block ?_ | refine G_exit rfl ?_)
      refine G_region ?_
      refine GO_q rfl rfl (ev_move rfl) ?_
      refine GO_q rfl rfl (ev_not rfl) ?_
      refine GO_nil ?_
      (repeat first | refine G_seq ?_ | refine G_skip ?_ | refine G_endblk ?_ | refine G_block ?_ | refine G_exit rfl ?_)
      refine G_cond_t rfl rfl ?_
      (repeat first | refine G_seq ?_ | refine G_skip ?_ | refine G_endblk ?_ | refine G_block ?_ | refine G_exit rfl ?_)
      refine G_region ?_
      refine GO_q rfl rfl (ev_assign rfl) ?_
      refine GO_nil ?_
      (repeat first | refine G_seq ?_ | refine G_skip ?_ | refine G_endblk ?_ | refine G_block ?_ | refine G_exit rfl ?_)
      exact G_ret (L' := itH .nil :: L) rfl (.tmp rfl .nil) (by (repeat first | exact en_refl | apply en_nil' | (apply en_blk; focus ((repeat' first | exact Pick.here | apply Pick.skip | apply Pick.app); done); focus rfl) | (apply en_own; focus ((repeat' first | exact Pick.here | apply Pick.skip | apply Pick.app); done); focus rfl) | (apply en_pick; focus ((repeat' first | exact Pick.here | apply Pick.skip | apply Pick.app); done)) | apply en_drop | apply en_app) <;> fail) ⟨.nil, ⟨trivial, trivial, .refl _⟩, rfl, rfl⟩
    · obtain ⟨mid, hm⟩ : ∃ mid, (srtO ltI (endsOf l))[2 * n / 2]? = some mid := ⟨_, List.getElem?_eq_getElem (by rw [srtO_length]; omega)⟩
      have hm' : (srtO ltI (endsOf l))[l.length]? = some mid := by rw [← hm]; congr 1; omega
      obtain ⟨k1, k2⟩ := mid_sides hf hm'
      (repeat first | refine G_seq ?_ | refine G_skip ?_ | refine G_endblk ?_ | refine G_block ?_ | refine G_exit rfl ?_)
      refine G_region ?_
      refine GO_q rfl rfl (ev_move rfl) ?_
      refine GO_eff rfl rfl (eff_call rfl (MedianI_ctr O (2 * n) e (endsOf l) mid _ hrd (by omega) f4 hm)) ?_; rintro _ _ ⟨rfl, rfl⟩
      refine GO_q rfl rfl (ev_move rfl) ?_
      refine GO_q rfl rfl (ev_extract rfl rfl) ?_
      refine GO_q rfl rfl (ev_extract rfl rfl) ?_
      refine GO_q rfl rfl (ev_assign rfl) ?_
      refine GO_q rfl rfl (ev_assign rfl) ?_
      refine GO_nil ?_
      (repeat first | refine G_seq ?_ | refine G_skip ?_ | refine G_endblk ?_ | refine G_block ?_ | refine G_exit rfl ?_)
      refine G_region ?_
      refine GO_q rfl rfl (ev_move rfl) ?_
      refine GO_q rfl rfl (ev_not rfl) ?_
      refine GO_nil ?_
      (repeat first | refine G_seq ?_ | refine G_skip ?_ | refine G_endblk ?_ | refine G_block ?_ | refine G_exit rfl ?_)
      refine G_cond_f rfl rfl ?_
      (repeat first | refine G_seq ?_ | refine G_skip ?_ | refine G_endblk ?_ | refine G_block ?_ | refine G_exit rfl ?_)
      refine G_region ?_
      refine GO_q rfl rfl (ev_move rfl) ?_
      refine GO_q rfl rfl (ev_build rfl rfl) ?_
      refine GO_eff rfl rfl (eff_box rfl) ?_; rintro _ _ ⟨b37, rfl, rfl⟩
      refine GO_q rfl rfl (ev_assign rfl) ?_
      refine GO_nil ?_
      (repeat first | refine G_seq ?_ | refine G_skip ?_ | refine G_endblk ?_ | refine G_block ?_ | refine G_exit rfl ?_)
      refine G_region ?_
      refine GO_eff rfl rfl eff_alloc ?_; rintro _ _ ⟨b9, rfl, rfl⟩
      refine GO_nil ?_
      (repeat first | refine G_seq ?_ | refine G_skip ?_ | refine G_endblk ?_ | refine G_block ?_ | refine G_exit rfl ?_)
      refine G_region ?_
      refine GO_q rfl rfl (ev_assign rfl) ?_
      refine GO_nil ?_
      (repeat first | refine G_seq ?_ | refine G_skip ?_ | refine G_endblk ?_ | refine G_block ?_ | refine G_exit rfl ?_)
      refine G_region ?_
      refine GO_q rfl rfl (ev_move rfl) ?_
      refine GO_q rfl rfl (ev_len rfl) ?_
      refine GO_q rfl rfl (ev_move rfl) ?_
      refine GO_nil ?_
      (repeat first | refine G_seq ?_ | refine G_skip ?_ | refine G_endblk ?_ | refine G_block ?_ | refine G_exit rfl ?_)
      refine G_heap (own.nil_ 24 3) ?_
      refine G_heap (own.nil_ 24 3) ?_
      refine G_heap (own.nil_ 24 3) ?_
      refine G_loop (ι := Nat × (Option Addr × Nat) × (Option Addr × Nat) × (Option Addr × Nat)) (fun z => [(8, .pointer (some ⟨b37, 0, none⟩)), (9, .pointer (some ⟨b9, 0, none⟩)), (10, .slice z.2.2.2.1 (ownL mid (l.take z.1)).length z.2.2.2.2), (38, .slice A n c), (39, .int .i64 (n : Nat)), (40, .int .i64 (z.1 : Nat))])
        (fun z => own 24 3 z.2.1.1 (lowL mid (l.take z.1)).length z.2.1.2 (flat (lowL mid (l.take z.1))) :: own 24 3 z.2.2.1.1 (highL mid (l.take z.1)).length z.2.2.1.2 (flat (highL mid (l.take z.1))) :: own 24 3 z.2.2.2.1 (ownL mid (l.take z.1)).length z.2.2.2.2 (flat (ownL mid (l.take z.1)))
          :: blk b9 141 [.slice z.2.1.1 (lowL mid (l.take z.1)).length z.2.1.2, .slice z.2.2.1.1 (highL mid (l.take z.1)).length z.2.2.1.2] :: blk b37 92 (inC mid none 0 0 none 0 0 none none 0) :: F :: L)
        (fun z => z.1 ≤ n ∧ ((0 < (lowL mid (l.take z.1)).length → ∃ b, z.2.1.1 = some ⟨b, 0, none⟩) ∧ (lowL mid (l.take z.1)).length ≤ z.2.1.2) ∧ ((0 < (highL mid (l.take z.1)).length → ∃ b, z.2.2.1.1 = some ⟨b, 0, none⟩) ∧ (highL mid (l.take z.1)).length ≤ z.2.2.1.2) ∧ ((0 < (ownL mid (l.take z.1)).length → ∃ b, z.2.2.2.1 = some ⟨b, 0, none⟩) ∧ (ownL mid (l.take z.1)).length ≤ z.2.2.2.2))
        (fun z => n - z.1) (0, (none, 0), (none, 0), (none, 0)) ⟨Nat.zero_le _, ⟨fun h => absurd h (Nat.lt_irrefl 0), Nat.le_refl _⟩, ⟨fun h => absurd h (Nat.lt_irrefl 0), Nat.le_refl _⟩, ⟨fun h => absurd h (Nat.lt_irrefl 0), Nat.le_refl _⟩⟩ ⟨rfl, rfl, rfl, rfl, rfl, rfl, trivial⟩ (by (repeat first | exact en_refl | (apply en_blk; focus ((repeat' first | exact Pick.here | apply Pick.skip | apply Pick.app); done); focus rfl) | (apply en_own; focus ((repeat' first | exact Pick.here | apply Pick.skip | apply Pick.app); done); focus rfl) | (apply en_pick; focus ((repeat' first | exact Pick.here | apply Pick.skip | apply Pick.app); done)) | apply en_drop | apply en_app) <;> fail) ?_
      rintro ⟨i, ⟨A0, c0⟩, ⟨A1, c1⟩, ⟨A2, c2⟩⟩ ⟨f1, ⟨u1, u2⟩, ⟨v1, v2⟩, ⟨w1, w2⟩⟩
      simp only at f1 u1 u2 v1 v2 w1 w2
      dsimp only
      have t0 := low_len mid (l.take i)
      have t1 := high_len mid (l.take i)
      have t2 := own_len' mid (l.take i)
      rw [List.length_take] at t0 t1 t2
      (repeat first | refine G_seq ?_ | refine G_skip ?_ | refine G_endblk ?_ | refine G_block ?_ | refine G_exit rfl ?_)
      refine G_region ?_
      (first | refine GO_q rfl rfl (ev_lssN rfl rfl) ?_ | refine GO_q rfl rfl (ev_lss rfl rfl) ?_)
      refine GO_nil ?_
      (repeat first | refine G_seq ?_ | refine G_skip ?_ | refine G_endblk ?_ | refine G_block ?_ | refine G_exit rfl ?_)
      refine G_cond rfl (fun g0 => ?_) (fun g0 => ?_)
      · have g1 : l[i]? = some l[i] := List.getElem?_eq_getElem (by omega)
        have s0 : lowL mid (l.take (i + 1)) = _ := part_succ g1
        have s1 : highL mid (l.take (i + 1)) = _ := part_succ g1
        have s2 : ownL mid (l.take (i + 1)) = _ := part_succ g1
        have hfu := hf l[i] (List.getElem_mem _)
        obtain ⟨b1, o1, rfl, x1⟩ := hl.at_ (by omega)
        have y1 := x1 _ _ g1
        generalize l[i] = u at *
        have z1 : LdN L b1 (o1 + i * 3) 3 [.int .i64 u.id, .int .i64 u.x, .int .i64 u.y] := y1
        have hsd := fun L h => side_ctr b37 mid u L h
        change lowL mid (l.take (i + 1)) = lowL mid (l.take i) ++ _ at s0
        change highL mid (l.take (i + 1)) = highL mid (l.take i) ++ _ at s1
        change ownL mid (l.take (i + 1)) = ownL mid (l.take i) ++ _ at s2
        by_cases e1 : u.y < mid
        · have e : sideI mid u = 0 := by unfold sideI; rw [if_pos e1]
          rw [e] at hsd
          rw [if_pos (by simpa using e1)] at s0
          rw [if_neg (by simp; omega), List.append_nil] at s1 s2
          generalize lowL mid (l.take i) = l0 at *
          generalize highL mid (l.take i) = l1 at *
          generalize ownL mid (l.take i) = l2 at *
          (repeat first | refine G_seq ?_ | refine G_skip ?_ | refine G_endblk ?_ | refine G_block ?_ | refine G_exit rfl ?_)
          refine G_region ?_
          (first | refine GO_q rfl rfl (ev_indexAddrN rfl rfl (by first | omega | (simp; done) | (simp; omega))) ?_ | refine GO_q rfl rfl (ev_indexAddr rfl rfl (by first | omega | (simp; done) | (simp; omega)) (by first | omega | (simp; done) | (simp; omega))) ?_)
          refine GO_q rfl rfl (ev_loadN rfl (by repeat' first | exact LdN.blk rfl | assumption | apply LdN.skip | apply LdN.app)) ?_
          refine GO_eff rfl rfl eff_alloc ?_; rintro _ _ ⟨b12, rfl, rfl⟩
          refine GO_eff rfl rfl (eff_storeN rfl rfl rfl rfl (by repeat' first | exact Upd.here rfl | apply Upd.skip | apply Upd.app)) ?_; rintro _ _ ⟨rfl, rfl⟩
          refine GO_nil ?_
          (repeat first | refine G_seq ?_ | refine G_skip ?_ | refine G_endblk ?_ | refine G_block ?_ | refine G_exit rfl ?_)
          refine G_region ?_
          refine GO_q rfl rfl (ev_move rfl) ?_
          refine GO_q rfl rfl (ev_loadN rfl (by repeat' first | exact LdN.blk rfl | assumption | apply LdN.skip | apply LdN.app)) ?_
          refine GO_eff rfl rfl (eff_call rfl (hsd _ (by repeat' first | exact Ld.blk rfl | assumption | apply Ld.skip | apply Ld.app))) ?_; rintro _ _ ⟨rfl, rfl⟩
          refine GO_q rfl rfl (ev_assign rfl) ?_
          refine GO_nil ?_
          (repeat first | refine G_seq ?_ | refine G_skip ?_ | refine G_endblk ?_ | refine G_block ?_ | refine G_exit rfl ?_)
          refine G_region ?_
          refine GO_q rfl rfl (ev_move rfl) ?_
          refine GO_q rfl rfl (ev_geq rfl rfl) ?_
          refine GO_nil ?_
          (repeat first | refine G_seq ?_ | refine G_skip ?_ | refine G_endblk ?_ | refine G_block ?_ | refine G_exit rfl ?_)
          refine G_cond_t rfl rfl ?_
          (repeat first | refine G_seq ?_ | refine G_skip ?_ | refine G_endblk ?_ | refine G_block ?_ | refine G_exit rfl ?_)
          refine G_draw (.q 0 (.q 1 (.q 2 (.q 3 (.q 4 (.e 5 (.e 6 (.q 7 (.e 8 .nil))))))))) (by kernel_rfl) (by kernel_rfl) ?_
          refine RS_m retB_noPanic rfl rfl rfl rfl (ev_move rfl) ?_
          refine RS_m retB_noPanic rfl rfl rfl rfl (ev_move rfl) ?_
          refine RS_m retB_noPanic rfl rfl rfl rfl (ev_indexAddrA rfl rfl (by first | omega | (simp; done) | (simp; omega)) (by first | omega | (simp; done) | (simp; omega))) ?_
          refine RS_q retB_noPanic rfl rfl rfl rfl (ev_load rfl (by repeat' first | exact Ld.blk rfl | assumption | apply Ld.skip | apply Ld.app)) ?_
          refine RS_q retB_noPanic rfl rfl rfl rfl (ev_loadN rfl (by repeat' first | exact LdN.blk rfl | assumption | apply LdN.skip | apply LdN.app)) ?_
          refine RS_e (RE_eff rfl rfl rfl (eff_buildSlice1 (by rfl) rfl rfl) ?_); rintro _ _ ⟨b54, rfl, rfl⟩; refine ⟨_, fun _ s => s, (by first | ((repeat first | exact fun _ s => s | apply en_keep | apply en_drop | apply en_app) <;> fail) | ((repeat first | exact en_refl | (apply en_blk; focus ((repeat' first | exact Pick.here | apply Pick.skip | apply Pick.app); done); focus rfl) | (apply en_own; focus ((repeat' first | exact Pick.here | apply Pick.skip | apply Pick.app); done); focus rfl) | (apply en_pick; focus ((repeat' first | exact Pick.here | apply Pick.skip | apply Pick.app); done)) | apply en_drop | apply en_app) <;> fail)), ?_⟩
          refine RS_e (RE_cmp (by kernel_rfl) rfl rfl rfl (eff_append rfl rfl (by repeat' first | exact Pick.here | apply Pick.skip) (by repeat' first | exact Rc.blk rfl | assumption | apply Rc.skip) (one_all rfl) (by rfl) (by decide) (by first | omega | (simp; done) | (simp; omega)) (by first | omega | (simp; done) | (simp; omega))) ?_); rintro _ _ ⟨A55, c55, rfl, hc55, hm55, hn55, rfl⟩
          refine RS_m retB_noPanic rfl rfl rfl rfl (ev_indexAddrA rfl rfl (by first | omega | (simp; done) | (simp; omega)) (by first | omega | (simp; done) | (simp; omega))) ?_
          refine RS_e (RE_last (by kernel_rfl) rfl rfl rfl (eff_store rfl rfl rfl (by repeat' first | exact Upd.here rfl | apply Upd.skip | apply Upd.app)) ?_); rintro _ _ ⟨rfl, rfl⟩
          all_goals
            (repeat first | refine G_seq ?_ | refine G_skip ?_ | refine G_endblk ?_ | refine G_block ?_ | refine G_exit rfl ?_)
            refine G_region ?_
            (first | refine GO_q rfl rfl (ev_addN (q := 1) rfl rfl (by first | omega | (simp; done) | (simp; omega))) ?_ | refine GO_q rfl rfl (ev_add rfl rfl (by first | omega | (simp; done) | (simp; omega))) ?_)
            refine GO_q rfl rfl (ev_move rfl) ?_
            refine GO_nil ?_
            (repeat first | refine G_seq ?_ | refine G_skip ?_ | refine G_endblk ?_ | refine G_block ?_ | refine G_exit rfl ?_)
            refine G_round (i + 1, (A55, c55), (A1, c1), (A2, c2)) ⟨by simp only; omega, ⟨fun _ => hn55 (by omega), by simp only [s0]; simp only [List.length_append, List.length_singleton]; omega⟩, ⟨by simp only [s1]; exact v1, by simp only [s1]; exact v2⟩, ⟨by simp only [s2]; exact w1, by simp only [s2]; exact w2⟩⟩ (by simp only; omega) ⟨rfl, rfl, by simp only [s2]; rfl, rfl, rfl, rfl, trivial⟩ ?_
            simp only [s0, s1, s2, List.length_append, List.length_singleton]
            rw [← flat_snoc]
            exact (by (repeat first | exact en_refl | (apply en_blk; focus ((repeat' first | exact Pick.here | apply Pick.skip | apply Pick.app); done); focus rfl) | (apply en_own; focus ((repeat' first | exact Pick.here | apply Pick.skip | apply Pick.app); done); focus rfl) | (apply en_pick; focus ((repeat' first | exact Pick.here | apply Pick.skip | apply Pick.app); done)) | apply en_drop | apply en_app) <;> fail)
        · by_cases e2 : mid < u.x
          · have e : sideI mid u = 1 := by unfold sideI; rw [if_neg e1, if_pos e2]
            rw [e] at hsd
            rw [if_pos (by simpa using e2)] at s1
            rw [if_neg (by simp; omega), List.append_nil] at s0 s2
            generalize lowL mid (l.take i) = l0 at *
            generalize highL mid (l.take i) = l1 at *
            generalize ownL mid (l.take i) = l2 at *
            (repeat first | refine G_seq ?_ | refine G_skip ?_ | refine G_endblk ?_ | refine G_block ?_ | refine G_exit rfl ?_)
            refine G_region ?_
            (first | refine GO_q rfl rfl (ev_indexAddrN rfl rfl (by first | omega | (simp; done) | (simp; omega))) ?_ | refine GO_q rfl rfl (ev_indexAddr rfl rfl (by first | omega | (simp; done) | (simp; omega)) (by first | omega | (simp; done) | (simp; omega))) ?_)
            refine GO_q rfl rfl (ev_loadN rfl (by repeat' first | exact LdN.blk rfl | assumption | apply LdN.skip | apply LdN.app)) ?_
            refine GO_eff rfl rfl eff_alloc ?_; rintro _ _ ⟨b12, rfl, rfl⟩
            refine GO_eff rfl rfl (eff_storeN rfl rfl rfl rfl (by repeat' first | exact Upd.here rfl | apply Upd.skip | apply Upd.app)) ?_; rintro _ _ ⟨rfl, rfl⟩
            refine GO_nil ?_
            (repeat first | refine G_seq ?_ | refine G_skip ?_ | refine G_endblk ?_ | refine G_block ?_ | refine G_exit rfl ?_)
            refine G_region ?_
            refine GO_q rfl rfl (ev_move rfl) ?_
            refine GO_q rfl rfl (ev_loadN rfl (by repeat' first | exact LdN.blk rfl | assumption | apply LdN.skip | apply LdN.app)) ?_
            refine GO_eff rfl rfl (eff_call rfl (hsd _ (by repeat' first | exact Ld.blk rfl | assumption | apply Ld.skip | apply Ld.app))) ?_; rintro _ _ ⟨rfl, rfl⟩
            refine GO_q rfl rfl (ev_assign rfl) ?_
            refine GO_nil ?_
            (repeat first | refine G_seq ?_ | refine G_skip ?_ | refine G_endblk ?_ | refine G_block ?_ | refine G_exit rfl ?_)
            refine G_region ?_
            refine GO_q rfl rfl (ev_move rfl) ?_
            refine GO_q rfl rfl (ev_geq rfl rfl) ?_
            refine GO_nil ?_
            (repeat first | refine G_seq ?_ | refine G_skip ?_ | refine G_endblk ?_ | refine G_block ?_ | refine G_exit rfl ?_)
            refine G_cond_t rfl rfl ?_
            (repeat first | refine G_seq ?_ | refine G_skip ?_ | refine G_endblk ?_ | refine G_block ?_ | refine G_exit rfl ?_)
            refine G_draw (.q 0 (.q 1 (.q 2 (.q 3 (.q 4 (.e 5 (.e 6 (.q 7 (.e 8 .nil))))))))) (by kernel_rfl) (by kernel_rfl) ?_
            refine RS_m retB_noPanic rfl rfl rfl rfl (ev_move rfl) ?_
            refine RS_m retB_noPanic rfl rfl rfl rfl (ev_move rfl) ?_
            refine RS_m retB_noPanic rfl rfl rfl rfl (ev_indexAddrA rfl rfl (by first | omega | (simp; done) | (simp; omega)) (by first | omega | (simp; done) | (simp; omega))) ?_
            refine RS_q retB_noPanic rfl rfl rfl rfl (ev_load rfl (by repeat' first | exact Ld.blk rfl | assumption | apply Ld.skip | apply Ld.app)) ?_
            refine RS_q retB_noPanic rfl rfl rfl rfl (ev_loadN rfl (by repeat' first | exact LdN.blk rfl | assumption | apply LdN.skip | apply LdN.app)) ?_
            refine RS_e (RE_eff rfl rfl rfl (eff_buildSlice1 (by rfl) rfl rfl) ?_); rintro _ _ ⟨b54, rfl, rfl⟩; refine ⟨_, fun _ s => s, (by first | ((repeat first | exact fun _ s => s | apply en_keep | apply en_drop | apply en_app) <;> fail) | ((repeat first | exact en_refl | (apply en_blk; focus ((repeat' first | exact Pick.here | apply Pick.skip | apply Pick.app); done); focus rfl) | (apply en_own; focus ((repeat' first | exact Pick.here | apply Pick.skip | apply Pick.app); done); focus rfl) | (apply en_pick; focus ((repeat' first | exact Pick.here | apply Pick.skip | apply Pick.app); done)) | apply en_drop | apply en_app) <;> fail)), ?_⟩
            refine RS_e (RE_cmp (by kernel_rfl) rfl rfl rfl (eff_append rfl rfl (by repeat' first | exact Pick.here | apply Pick.skip) (by repeat' first | exact Rc.blk rfl | assumption | apply Rc.skip) (one_all rfl) (by rfl) (by decide) (by first | omega | (simp; done) | (simp; omega)) (by first | omega | (simp; done) | (simp; omega))) ?_); rintro _ _ ⟨A55, c55, rfl, hc55, hm55, hn55, rfl⟩
            refine RS_m retB_noPanic rfl rfl rfl rfl (ev_indexAddrA rfl rfl (by first | omega | (simp; done) | (simp; omega)) (by first | omega | (simp; done) | (simp; omega))) ?_
            refine RS_e (RE_last (by kernel_rfl) rfl rfl rfl (eff_store rfl rfl rfl (by repeat' first | exact Upd.here rfl | apply Upd.skip | apply Upd.app)) ?_); rintro _ _ ⟨rfl, rfl⟩
            all_goals
              (repeat first | refine G_seq ?_ | refine G_skip ?_ | refine G_endblk ?_ | refine G_block ?_ | refine G_exit rfl ?_)
              refine G_region ?_
              (first | refine GO_q rfl rfl (ev_addN (q := 1) rfl rfl (by first | omega | (simp; done) | (simp; omega))) ?_ | refine GO_q rfl rfl (ev_add rfl rfl (by first | omega | (simp; done) | (simp; omega))) ?_)
              refine GO_q rfl rfl (ev_move rfl) ?_
              refine GO_nil ?_
              (repeat first | refine G_seq ?_ | refine G_skip ?_ | refine G_endblk ?_ | refine G_block ?_ | refine G_exit rfl ?_)
              refine G_round (i + 1, (A0, c0), (A55, c55), (A2, c2)) ⟨by simp only; omega, ⟨by simp only [s0]; exact u1, by simp only [s0]; exact u2⟩, ⟨fun _ => hn55 (by omega), by simp only [s1]; simp only [List.length_append, List.length_singleton]; omega⟩, ⟨by simp only [s2]; exact w1, by simp only [s2]; exact w2⟩⟩ (by simp only; omega) ⟨rfl, rfl, by simp only [s2]; rfl, rfl, rfl, rfl, trivial⟩ ?_
              simp only [s0, s1, s2, List.length_append, List.length_singleton]
              rw [← flat_snoc]
              exact (by (repeat first | exact en_refl | (apply en_blk; focus ((repeat' first | exact Pick.here | apply Pick.skip | apply Pick.app); done); focus rfl) | (apply en_own; focus ((repeat' first | exact Pick.here | apply Pick.skip | apply Pick.app); done); focus rfl) | (apply en_pick; focus ((repeat' first | exact Pick.here | apply Pick.skip | apply Pick.app); done)) | apply en_drop | apply en_app) <;> fail)
          · have e : sideI mid u = -1 := by unfold sideI; rw [if_neg e1, if_neg e2]
            rw [e] at hsd
            rw [if_pos (by simp; omega)] at s2
            rw [if_neg (by simpa using e1), List.append_nil] at s0
            rw [if_neg (by simpa using e2), List.append_nil] at s1
            generalize lowL mid (l.take i) = l0 at *
            generalize highL mid (l.take i) = l1 at *
            generalize ownL mid (l.take i) = l2 at *
            (repeat first | refine G_seq ?_ | refine G_skip ?_ | refine G_endblk ?_ | refine G_block ?_ | refine G_exit rfl ?_)
            refine G_region ?_
            (first | refine GO_q rfl rfl (ev_indexAddrN rfl rfl (by first | omega | (simp; done) | (simp; omega))) ?_ | refine GO_q rfl rfl (ev_indexAddr rfl rfl (by first | omega | (simp; done) | (simp; omega)) (by first | omega | (simp; done) | (simp; omega))) ?_)
            refine GO_q rfl rfl (ev_loadN rfl (by repeat' first | exact LdN.blk rfl | assumption | apply LdN.skip | apply LdN.app)) ?_
            refine GO_eff rfl rfl eff_alloc ?_; rintro _ _ ⟨b12, rfl, rfl⟩
            refine GO_eff rfl rfl (eff_storeN rfl rfl rfl rfl (by repeat' first | exact Upd.here rfl | apply Upd.skip | apply Upd.app)) ?_; rintro _ _ ⟨rfl, rfl⟩
            refine GO_nil ?_
            (repeat first | refine G_seq ?_ | refine G_skip ?_ | refine G_endblk ?_ | refine G_block ?_ | refine G_exit rfl ?_)
            refine G_region ?_
            refine GO_q rfl rfl (ev_move rfl) ?_
            refine GO_q rfl rfl (ev_loadN rfl (by repeat' first | exact LdN.blk rfl | assumption | apply LdN.skip | apply LdN.app)) ?_
            refine GO_eff rfl rfl (eff_call rfl (hsd _ (by repeat' first | exact Ld.blk rfl | assumption | apply Ld.skip | apply Ld.app))) ?_; rintro _ _ ⟨rfl, rfl⟩
            refine GO_q rfl rfl (ev_assign rfl) ?_
            refine GO_nil ?_
            (repeat first | refine G_seq ?_ | refine G_skip ?_ | refine G_endblk ?_ | refine G_block ?_ | refine G_exit rfl ?_)
            refine G_region ?_
            refine GO_q rfl rfl (ev_move rfl) ?_
            refine GO_q rfl rfl (ev_geq rfl rfl) ?_
            refine GO_nil ?_
            (repeat first | refine G_seq ?_ | refine G_skip ?_ | refine G_endblk ?_ | refine G_block ?_ | refine G_exit rfl ?_)
            refine G_cond_f rfl rfl ?_
            (repeat first | refine G_seq ?_ | refine G_skip ?_ | refine G_endblk ?_ | refine G_block ?_ | refine G_exit rfl ?_)
            refine G_region ?_
            refine GO_q rfl rfl (ev_move rfl) ?_
            refine GO_q rfl rfl (ev_loadN rfl (by repeat' first | exact LdN.blk rfl | assumption | apply LdN.skip | apply LdN.app)) ?_
            refine GO_eff rfl rfl (eff_buildSlice1 (by rfl) rfl rfl) ?_; rintro _ _ ⟨b59, rfl, rfl⟩
            refine GO_eff rfl rfl (eff_append rfl rfl (by repeat' first | exact Pick.here | apply Pick.skip) (by repeat' first | exact Rc.blk rfl | assumption | apply Rc.skip) (one_all rfl) (by rfl) (by decide) (by first | omega | (simp; done) | (simp; omega)) (by first | omega | (simp; done) | (simp; omega))) ?_; rintro _ _ ⟨A60, c60, rfl, hc60, hm60, hn60, rfl⟩
            refine GO_q rfl rfl (ev_assign rfl) ?_
            refine GO_nil ?_
            (repeat first | refine G_seq ?_ | refine G_skip ?_ | refine G_endblk ?_ | refine G_block ?_ | refine G_exit rfl ?_)
            refine G_region ?_
            (first | refine GO_q rfl rfl (ev_addN (q := 1) rfl rfl (by first | omega | (simp; done) | (simp; omega))) ?_ | refine GO_q rfl rfl (ev_add rfl rfl (by first | omega | (simp; done) | (simp; omega))) ?_)
            refine GO_q rfl rfl (ev_move rfl) ?_
            refine GO_nil ?_
            (repeat first | refine G_seq ?_ | refine G_skip ?_ | refine G_endblk ?_ | refine G_block ?_ | refine G_exit rfl ?_)
            refine G_round (i + 1, (A0, c0), (A1, c1), (A60, c60)) ⟨by simp only; omega, ⟨by simp only [s0]; exact u1, by simp only [s0]; exact u2⟩, ⟨by simp only [s1]; exact v1, by simp only [s1]; exact v2⟩, ⟨fun _ => hn60 (by omega), by simp only [s2]; simp only [List.length_append, List.length_singleton]; omega⟩⟩ (by simp only; omega) ⟨rfl, rfl, by simp only [s2, List.length_append, List.length_singleton]; rfl, rfl, rfl, rfl, trivial⟩ ?_
            simp only [s0, s1, s2, List.length_append, List.length_singleton]
            rw [← flat_snoc]
            exact (by (repeat first | exact en_refl | (apply en_blk; focus ((repeat' first | exact Pick.here | apply Pick.skip | apply Pick.app); done); focus rfl) | (apply en_own; focus ((repeat' first | exact Pick.here | apply Pick.skip | apply Pick.app); done); focus rfl) | (apply en_pick; focus ((repeat' first | exact Pick.here | apply Pick.skip | apply Pick.app); done)) | apply en_drop | apply en_app) <;> fail)
      · have e0 : i = n := by omega
        subst e0
        rw [List.take_of_length_le (by omega)] at *
        have r0 : ∀ M, Rd (own 24 3 A0 (lowL mid l).length c0 (flat (lowL mid l)) :: M) A0 (lowL mid l).length (lowL mid l) := fun M => Rc.own (flat_length _) u1
        have r1 : ∀ M, Rd (own 24 3 A1 (highL mid l).length c1 (flat (highL mid l)) :: M) A1 (highL mid l).length (highL mid l) := fun M => Rc.own (flat_length _) v1
        have r2 : ∀ M, Rd (own 24 3 A2 (ownL mid l).length c2 (flat (ownL mid l)) :: M) A2 (ownL mid l).length (ownL mid l) := fun M => Rc.own (flat_length _) w1
        have k1' : 2 * (lowL mid l).length ≤ l.length := k1
        have k2' : 2 * (highL mid l).length ≤ l.length := k2
        have x0 := low_len mid l
        have x1 := high_len mid l
        have x2 := own_len' mid l
        have i0 := fun M h => ih (lowL mid l).length (by omega) A0 (lowL mid l).length c0 (lowL mid l) M (Nat.le_refl _) h (by omega) u2 (fun s hs => hf s ((List.mem_filter.1 hs).1)) (hnd.filter _)
        have i1 := fun M h => ih (highL mid l).length (by omega) A1 (highL mid l).length c1 (highL mid l) M (Nat.le_refl _) h (by omega) v2 (fun s hs => hf s ((List.mem_filter.1 hs).1)) (hnd.filter _)
        (repeat first | refine G_seq ?_ | refine G_skip ?_ | refine G_endblk ?_ | refine G_block ?_ | refine G_exit rfl ?_)
        (repeat first | refine G_seq ?_ | refine G_skip ?_ | refine G_endblk ?_ | refine G_block ?_ | refine G_exit rfl ?_)
        refine G_draw (.q 0 (.q 1 (.q 2 (.q 4 (.q 5 (.e 3 (.e 6 (.q 7 (.q 8 (.q 9 (.e 10 .nil))))))))))) (by kernel_rfl) (by kernel_rfl) ?_
        refine RS_m retB_noPanic rfl rfl rfl rfl (ev_move rfl) ?_
        refine RS_m retB_noPanic rfl rfl rfl rfl (ev_indexAddrA rfl rfl (by first | omega | (simp; done) | (simp; omega)) (by first | omega | (simp; done) | (simp; omega))) ?_
        refine RS_q retB_noPanic rfl rfl rfl rfl (ev_load rfl (by repeat' first | exact Ld.blk rfl | assumption | apply Ld.skip | apply Ld.app)) ?_
        refine RS_m retB_noPanic rfl rfl rfl rfl (ev_indexAddrA rfl rfl (by first | omega | (simp; done) | (simp; omega)) (by first | omega | (simp; done) | (simp; omega))) ?_
        refine RS_q retB_noPanic rfl rfl rfl rfl (ev_load rfl (by repeat' first | exact Ld.blk rfl | assumption | apply Ld.skip | apply Ld.app)) ?_
        refine RS_e (RE_eff rfl rfl rfl (eff_call rfl (i0 _ (by repeat' first | exact r0 _ | apply Rd.skip))) ?_); rintro _ _ ⟨T0, ⟨o0, p0, q0⟩, rfl, rfl⟩; refine ⟨_, fun _ s => s, (by first | ((repeat first | exact fun _ s => s | apply en_keep | apply en_drop | apply en_app) <;> fail) | ((repeat first | exact en_refl | (apply en_blk; focus ((repeat' first | exact Pick.here | apply Pick.skip | apply Pick.app); done); focus rfl) | (apply en_own; focus ((repeat' first | exact Pick.here | apply Pick.skip | apply Pick.app); done); focus rfl) | (apply en_pick; focus ((repeat' first | exact Pick.here | apply Pick.skip | apply Pick.app); done)) | apply en_drop | apply en_app) <;> fail)), ?_⟩
        refine RS_e (RE_eff rfl rfl rfl (eff_call rfl (i1 _ (by repeat' first | exact r1 _ | apply Rd.skip))) ?_); rintro _ _ ⟨T1, ⟨o1, p1, q1⟩, rfl, rfl⟩; refine ⟨_, fun _ s => s, (by first | ((repeat first | exact fun _ s => s | apply en_keep | apply en_drop | apply en_app) <;> fail) | ((repeat first | exact en_refl | (apply en_blk; focus ((repeat' first | exact Pick.here | apply Pick.skip | apply Pick.app); done); focus rfl) | (apply en_own; focus ((repeat' first | exact Pick.here | apply Pick.skip | apply Pick.app); done); focus rfl) | (apply en_pick; focus ((repeat' first | exact Pick.here | apply Pick.skip | apply Pick.app); done)) | apply en_drop | apply en_app) <;> fail)), ?_⟩
        refine RS_m retB_noPanic rfl rfl rfl rfl (ev_buildA rfl rfl) ?_
        (first | refine RS_m retB_noPanic rfl rfl rfl rfl (ev_nilCheck rfl) ?_ | refine RS_m retB_noPanic rfl rfl rfl rfl (ev_nilCheckF (by simp) rfl) ?_)
        refine RS_m retB_noPanic rfl rfl rfl rfl (ev_fieldAddr rfl) ?_
        refine RS_e (RE_last (by kernel_rfl) rfl rfl rfl (eff_storeN rfl rfl rfl rfl (by repeat' first | exact Upd.here rfl | apply Upd.skip | apply Upd.app)) ?_); rintro _ _ ⟨rfl, rfl⟩
        have z0 := q0.length_eq
        have z1 := q1.length_eq
        have z3 := o0.size
        have z4 := o1.size
        have z5 : (srtO Pt.less (ownL mid l)).length = (ownL mid l).length := srtO_length _
        (repeat first | refine G_seq ?_ | refine G_skip ?_ | refine G_endblk ?_ | refine G_block ?_ | refine G_exit rfl ?_)
        refine G_region ?_
        refine GO_q rfl rfl (ev_move rfl) ?_
        refine GO_q rfl rfl (ev_move rfl) ?_
        refine GO_eff rfl rfl (eff_call rfl (Ctr.pick (by repeat' first | exact Pick.here | apply Pick.skip | apply Pick.app) (keep_ctr b37 mid none none 0 0 0 0 T0.addr T1.addr 0 A2 (ownL mid l).length c2 (ownL mid l) _ (by repeat' first | exact r2 _ | apply Rd.skip) (by omega) w2))) ?_; rintro _ _ ⟨A', c', C', d', rfl, ⟨y1, y2⟩, rfl⟩
        refine GO_eff rfl rfl (eff_call rfl (Ctr.pre (M := itM b37 mid A' c' (srtO Pt.less (ownL mid l)) C' d' (srtO Pt.ends (ownL mid l)) 0 T0 T1 (F :: L)) (by (repeat first | exact en_refl | (apply en_blk; focus ((repeat' first | exact Pick.here | apply Pick.skip | apply Pick.app); done); focus rfl) | (apply en_own; focus ((repeat' first | exact Pick.here | apply Pick.skip | apply Pick.app); done); focus rfl) | (apply en_pick; focus ((repeat' first | exact Pick.here | apply Pick.skip | apply Pick.app); done)) | apply en_drop | apply en_app) <;> fail) (note_ctr ⟨y1, y2, p0, p1⟩ b37 mid 0 _ (by omega) (by omega) (by omega)))) ?_; rintro _ _ ⟨rfl, rfl⟩
        refine GO_q rfl rfl (ev_assign rfl) ?_
        refine GO_nil ?_
        have hb := build_ok (b := b37) (A := A') (c := c') (B := C') (d := d') hf hnd (by omega) hm' o0 o1 q0 q1 rfl
        (repeat first | refine G_seq ?_ | refine G_skip ?_ | refine G_endblk ?_ | refine G_block ?_ | refine G_exit rfl ?_)
        exact G_ret (L' := itH (.node b37 mid A' c' (srtO Pt.less (ownL mid l)) C' d' (srtO Pt.ends (ownL mid l)) ((srtO Pt.less (ownL mid l)).length + T0.size + T1.size) T0 T1) :: L) rfl (.tmp rfl .nil) (fun h s => (en_it (M := F :: L) (fun _ s => s) h s).swap) ⟨_, ⟨hb.1, ⟨⟨y1, y2⟩, p0, p1⟩, hb.2⟩, rfl, rfl⟩
/-- A node as it should be, or what is built anew in its place. -/
theorem even_ctr {A : Option Addr} {c : Nat} {p : List Pt} {C : Option Addr} {d : Nat} {q : List Pt} {lo hi : IT} (f : Fit A c p C d q lo hi) (b : Nat) (mid : Int) (m : Nat) (L : List HP) (hk : IT.kok mid p q lo.spans hi.spans) (hlo : lo.ok) (hhi : hi.ok) (hn : p.length + lo.spans.length + hi.spans.length ≤ 100000) (l : List Pt) (hl : (p ++ (lo.spans ++ hi.spans)).Perm l) :
    Ctr Tryz.prog 75 #[.pointer (some ⟨b, 0, none⟩)] (itM b mid A c p C d q m lo hi L) fun v L' => MadeI l L v L' := by
  have z3 := hlo.size
  have z4 := hhi.size
  obtain ⟨n, hN⟩ : ∃ n, n = p.length + lo.size + hi.size := ⟨_, rfl⟩
  have hno := fun M => note_ctr f b mid m M (by omega) (by omega) (by omega)
  rw [← hN] at hno
  have hin := fun M => itM_in f b mid n M
  have hql : q.length = p.length := by rw [hk.2.1, srtO_length]
  have hhv := fun M h => heavy_ctr b mid A c p C d q n lo hi M h (by omega)
  have hsp := fun M h => spans_ctr (.node b mid A c p C d q n lo hi) M h (by simp only [IT.spans, List.length_append]; omega)
  have hspp : (IT.node b mid A c p C d q n lo hi).spans = p ++ (lo.spans ++ hi.spans) := rfl
  rw [hspp] at hsp
  have hfair : ∀ s ∈ p ++ (lo.spans ++ hi.spans), s.x ≤ s.y := fun s hs => by
    rcases List.mem_append.1 hs with h | h
    · have := hk.2.2.1 s h; omega
    · rcases List.mem_append.1 h with h | h
      · exact hlo.fair s h
      · exact hhi.fair s h
  have hnd : (p ++ (lo.spans ++ hi.spans)).Nodup := by
    refine List.nodup_append.2 ⟨hk.1.nodup sto_less, List.nodup_append.2 ⟨hlo.nodup, hhi.nodup, fun s hs t ht e => ?_⟩, fun s hs t ht e => ?_⟩
    · subst e
      have := hk.2.2.2.1 s hs; have := hk.2.2.2.2 s ht; have := hlo.fair s hs
      omega
    · subst e
      have := hk.2.2.1 s hs
      rcases List.mem_append.1 ht with ht | ht
      · have := hk.2.2.2.1 s ht; omega
      · have := hk.2.2.2.2 s ht; omega
  have hbl := fun A n c M h1 h2 h3 => build_ctr n A n c (p ++ (lo.spans ++ hi.spans)) M (Nat.le_refl _) h1 h2 h3 hfair hnd
  have hgen : (p ++ (lo.spans ++ hi.spans)).length ≤ 100000 := by simp only [List.length_append]; omega
  by_cases hv : max lo.size hi.size ≤ 3 * n / 4 ∧ 0 < n
  · rw [decide_eq_false (by omega : ¬ 3 * n / 4 < max lo.size hi.size)] at hhv
    have hn9 : Ld (itM b mid A c p C d q n lo hi L) ⟨b, 0 + 5, none⟩ (.int .i64 (n : Nat)) := (itM_in f b mid n L).f.f_n
    have hok : (IT.node b mid A c p C d q n lo hi).ok := ⟨hk, hN, hv.1, hv.2, hlo, hhi⟩
    refine Ctr_of (fn := Tryz.f75) (n := 17) Tryz.func75 rfl rfl rfl ?_
    intro g F
    (repeat first | refine G_seq ?_ | refine G_skip ?_ | refine G_endblk ?_ | refine G_block ?_ | refine G_exit rfl ?_)
    refine G_region ?_
    refine GO_q rfl rfl (ev_assign rfl) ?_
    refine GO_nil ?_
    (repeat first | refine G_seq ?_ | refine G_skip ?_ | refine G_endblk ?_ | refine G_block ?_ | refine G_exit rfl ?_)
    refine G_region ?_
    refine GO_q rfl rfl (ev_move rfl) ?_
    refine GO_eff rfl rfl (eff_call rfl (Ctr.pre (M := itM b mid A c p C d q m lo hi (F :: L)) (by unfold itM; exact (by (repeat first | exact en_refl | (apply en_blk; focus ((repeat' first | exact Pick.here | apply Pick.skip | apply Pick.app); done); focus rfl) | (apply en_own; focus ((repeat' first | exact Pick.here | apply Pick.skip | apply Pick.app); done); focus rfl) | (apply en_pick; focus ((repeat' first | exact Pick.here | apply Pick.skip | apply Pick.app); done)) | apply en_drop | apply en_app) <;> fail)) (hno _))) ?_; rintro _ _ ⟨rfl, rfl⟩
    refine GO_eff rfl rfl (eff_call rfl (hhv _ (hin _))) ?_; rintro _ _ ⟨rfl, rfl⟩
    refine GO_q rfl rfl (ev_move rfl) ?_
    refine GO_yes rfl rfl rfl rfl ?_
    refine GO_q rfl rfl (ev_move rfl) ?_
    refine GO_yes rfl rfl rfl rfl ?_
    (first | refine GO_q rfl rfl (ev_nilCheck rfl) ?_ | refine GO_q rfl rfl (ev_nilCheckF (by simp) rfl) ?_)
    refine GO_yes rfl rfl rfl rfl ?_
    refine GO_q rfl rfl (ev_fieldAddr rfl) ?_
    refine GO_yes rfl rfl rfl rfl ?_
    refine GO_q rfl rfl (ev_load rfl ((itM_in f b mid n (F :: L)).f.f_n)) ?_
    refine GO_yes rfl rfl rfl rfl ?_
    refine GO_q rfl rfl (ev_eql rfl rfl) ?_
    refine GO_q rfl rfl (ev_pick_f rfl rfl rfl) ?_
    refine GO_nil ?_
    (repeat first | refine G_seq ?_ | refine G_skip ?_ | refine G_endblk ?_ | refine G_block ?_ | refine G_exit rfl ?_)
    refine G_cond_f rfl (decide_eq_false (by omega)) ?_
    (repeat first | refine G_seq ?_ | refine G_skip ?_ | refine G_endblk ?_ | refine G_block ?_ | refine G_exit rfl ?_)
    refine G_region ?_
    refine GO_q rfl rfl (ev_move rfl) ?_
    refine GO_q rfl rfl (ev_assign rfl) ?_
    refine GO_nil ?_
    (repeat first | refine G_seq ?_ | refine G_skip ?_ | refine G_endblk ?_ | refine G_block ?_ | refine G_exit rfl ?_)
    exact G_ret (L' := itH (.node b mid A c p C d q n lo hi) :: L) rfl (.tmp rfl .nil) (fun h s => (en_it (M := F :: L) (fun _ s => s) h s).swap) ⟨_, ⟨hok, ⟨⟨f.p, f.q⟩, f.lo, f.hi⟩, hl⟩, rfl, rfl⟩
  · have hsp' := fun M h => (hsp M h).made
    generalize p ++ (lo.spans ++ hi.spans) = k at *
    by_cases hw : max lo.size hi.size ≤ 3 * n / 4
    · rw [decide_eq_false (by omega : ¬ 3 * n / 4 < max lo.size hi.size)] at hhv
      refine Ctr_of (fn := Tryz.f75) (n := 17) Tryz.func75 rfl rfl rfl ?_
      intro g F
      (repeat first | refine G_seq ?_ | refine G_skip ?_ | refine G_endblk ?_ | refine G_block ?_ | refine G_exit rfl ?_)
      refine G_region ?_
      refine GO_q rfl rfl (ev_assign rfl) ?_
      refine GO_nil ?_
      (repeat first | refine G_seq ?_ | refine G_skip ?_ | refine G_endblk ?_ | refine G_block ?_ | refine G_exit rfl ?_)
      refine G_region ?_
      refine GO_q rfl rfl (ev_move rfl) ?_
      refine GO_eff rfl rfl (eff_call rfl (Ctr.pre (M := itM b mid A c p C d q m lo hi (F :: L)) (by unfold itM; exact (by (repeat first | exact en_refl | (apply en_blk; focus ((repeat' first | exact Pick.here | apply Pick.skip | apply Pick.app); done); focus rfl) | (apply en_own; focus ((repeat' first | exact Pick.here | apply Pick.skip | apply Pick.app); done); focus rfl) | (apply en_pick; focus ((repeat' first | exact Pick.here | apply Pick.skip | apply Pick.app); done)) | apply en_drop | apply en_app) <;> fail)) (hno _))) ?_; rintro _ _ ⟨rfl, rfl⟩
      refine GO_eff rfl rfl (eff_call rfl (hhv _ (hin _))) ?_; rintro _ _ ⟨rfl, rfl⟩
      refine GO_q rfl rfl (ev_move rfl) ?_
      refine GO_yes rfl rfl rfl rfl ?_
      refine GO_q rfl rfl (ev_move rfl) ?_
      refine GO_yes rfl rfl rfl rfl ?_
      (first | refine GO_q rfl rfl (ev_nilCheck rfl) ?_ | refine GO_q rfl rfl (ev_nilCheckF (by simp) rfl) ?_)
      refine GO_yes rfl rfl rfl rfl ?_
      refine GO_q rfl rfl (ev_fieldAddr rfl) ?_
      refine GO_yes rfl rfl rfl rfl ?_
      refine GO_q rfl rfl (ev_load rfl ((itM_in f b mid n (F :: L)).f.f_n)) ?_
      refine GO_yes rfl rfl rfl rfl ?_
      refine GO_q rfl rfl (ev_eql rfl rfl) ?_
      refine GO_q rfl rfl (ev_pick_f rfl rfl rfl) ?_
      refine GO_nil ?_
      (repeat first | refine G_seq ?_ | refine G_skip ?_ | refine G_endblk ?_ | refine G_block ?_ | refine G_exit rfl ?_)
      refine G_cond_t rfl (decide_eq_true (by omega)) ?_
      (repeat first | refine G_seq ?_ | refine G_skip ?_ | refine G_endblk ?_ | refine G_block ?_ | refine G_exit rfl ?_)
      refine G_region ?_
      refine GO_q rfl rfl (ev_move rfl) ?_
      refine GO_eff rfl rfl (eff_call rfl (hsp' _ (hin _))) ?_; rintro _ _ ⟨A1, c1, rfl, h1, h2, h3, rfl⟩
      refine GO_eff rfl rfl (eff_call rfl (hbl A1 k.length c1 _ (Rc.own (flat_length _) h1) hgen h2)) ?_; rintro _ _ ⟨T, ⟨o1, o2, o3⟩, rfl, rfl⟩
      refine GO_q rfl rfl (ev_assign rfl) ?_
      refine GO_nil ?_
      (repeat first | refine G_seq ?_ | refine G_skip ?_ | refine G_endblk ?_ | refine G_block ?_ | refine G_exit rfl ?_)
      exact G_ret (L' := itH T :: L) rfl (.tmp rfl .nil) (by unfold itM; exact (by (repeat first | exact en_refl | (apply en_blk; focus ((repeat' first | exact Pick.here | apply Pick.skip | apply Pick.app); done); focus rfl) | (apply en_own; focus ((repeat' first | exact Pick.here | apply Pick.skip | apply Pick.app); done); focus rfl) | (apply en_pick; focus ((repeat' first | exact Pick.here | apply Pick.skip | apply Pick.app); done)) | apply en_drop | apply en_app) <;> fail)) ⟨_, ⟨o1, o2, o3.trans hl⟩, rfl, rfl⟩
    · rw [decide_eq_true (by omega : 3 * n / 4 < max lo.size hi.size)] at hhv
      refine Ctr_of (fn := Tryz.f75) (n := 17) Tryz.func75 rfl rfl rfl ?_
      intro g F
      (repeat first | refine G_seq ?_ | refine G_skip ?_ | refine G_endblk ?_ | refine G_block ?_ | refine G_exit rfl ?_)
      refine G_region ?_
      refine GO_q rfl rfl (ev_assign rfl) ?_
      refine GO_nil ?_
      (repeat first | refine G_seq ?_ | refine G_skip ?_ | refine G_endblk ?_ | refine G_block ?_ | refine G_exit rfl ?_)
      refine G_region ?_
      refine GO_q rfl rfl (ev_move rfl) ?_
      refine GO_eff rfl rfl (eff_call rfl (Ctr.pre (M := itM b mid A c p C d q m lo hi (F :: L)) (by unfold itM; exact (by (repeat first | exact en_refl | (apply en_blk; focus ((repeat' first | exact Pick.here | apply Pick.skip | apply Pick.app); done); focus rfl) | (apply en_own; focus ((repeat' first | exact Pick.here | apply Pick.skip | apply Pick.app); done); focus rfl) | (apply en_pick; focus ((repeat' first | exact Pick.here | apply Pick.skip | apply Pick.app); done)) | apply en_drop | apply en_app) <;> fail)) (hno _))) ?_; rintro _ _ ⟨rfl, rfl⟩
      refine GO_eff rfl rfl (eff_call rfl (hhv _ (hin _))) ?_; rintro _ _ ⟨rfl, rfl⟩
      refine GO_q rfl rfl (ev_move rfl) ?_
      refine GO_no rfl rfl rfl rfl ?_
      refine GO_no rfl rfl rfl rfl ?_
      refine GO_no rfl rfl rfl rfl ?_
      refine GO_no rfl rfl rfl rfl ?_
      refine GO_no rfl rfl rfl rfl ?_
      refine GO_q rfl rfl (ev_pick_t rfl rfl rfl) ?_
      refine GO_nil ?_
      (repeat first | refine G_seq ?_ | refine G_skip ?_ | refine G_endblk ?_ | refine G_block ?_ | refine G_exit rfl ?_)
      refine G_cond_t rfl rfl ?_
      (repeat first | refine G_seq ?_ | refine G_skip ?_ | refine G_endblk ?_ | refine G_block ?_ | refine G_exit rfl ?_)
      refine G_region ?_
      refine GO_q rfl rfl (ev_move rfl) ?_
      refine GO_eff rfl rfl (eff_call rfl (hsp' _ (hin _))) ?_; rintro _ _ ⟨A1, c1, rfl, h1, h2, h3, rfl⟩
      refine GO_eff rfl rfl (eff_call rfl (hbl A1 k.length c1 _ (Rc.own (flat_length _) h1) hgen h2)) ?_; rintro _ _ ⟨T, ⟨o1, o2, o3⟩, rfl, rfl⟩
      refine GO_q rfl rfl (ev_assign rfl) ?_
      refine GO_nil ?_
      (repeat first | refine G_seq ?_ | refine G_skip ?_ | refine G_endblk ?_ | refine G_block ?_ | refine G_exit rfl ?_)
      exact G_ret (L' := itH T :: L) rfl (.tmp rfl .nil) (by unfold itM; exact (by (repeat first | exact en_refl | (apply en_blk; focus ((repeat' first | exact Pick.here | apply Pick.skip | apply Pick.app); done); focus rfl) | (apply en_own; focus ((repeat' first | exact Pick.here | apply Pick.skip | apply Pick.app); done); focus rfl) | (apply en_pick; focus ((repeat' first | exact Pick.here | apply Pick.skip | apply Pick.app); done)) | apply en_drop | apply en_app) <;> fail)) ⟨_, ⟨o1, o2, o3.trans hl⟩, rfl, rfl⟩
end Go.Proofs.YtjnmpogolknkpaaGreat
