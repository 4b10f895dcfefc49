/- Texts of the law LogmApart, one behind the other. -/
import Derived.Test.YtkoncepjfgnjlaaGreatLogmApartM1
import Derived.Laws.MakeOwn
import Derived.RangeFuncRecord
import Derived.RangeFuncIn
import Derived.RangeFuncLeaves
import Derived.Maps.RangeRun
/- The library's functions that take a function, and lists in order, at points. -/
namespace Go.Proofs.YtkoncepjfgnjlaaGreat
attribute [local irreducible] sat
set_option linter.unusedVariables false
set_option linter.unusedSimpArgs false
set_option maxRecDepth 100000

@[reducible] def Pt.v (p : Pt) : Value := .agg #[.int .i64 p.id, .int .i64 p.x, .int .i64 p.y]
/-- .. and how much room there is. -/
def MadeC (T : TypeId) {α : Type} [E : Enc α] (l : List α) (L : List HP) (v : Value) (L' : List HP) : Prop := ∃ A c, v = .slice A l.length c ∧ (0 < l.length → ∃ b, A = some ⟨b, 0, none⟩) ∧ l.length ≤ c ∧ c ≤ maxLen ∧ L' = own T E.sz A l.length c (flat l) :: L
theorem Ctr.made {P : Program} {f : FuncId} {args : Array Value} {L0 L : List HP} {T : TypeId} {α : Type} [E : Enc α] {l : List α} (h : Ctr P f args L0 fun v L' => Made T l L v L') : Ctr P f args L0 fun v L' => MadeC T l L v L' := fun g F w hw =>
  (h g F w hw).mono fun e w' ⟨v, L', e1, ⟨A, c, e2, e3, e4⟩, hw'⟩ => by
    subst e4
    have q := own.facts hw'.s.tail
    exact ⟨v, _, e1, ⟨A, c, e2, e3, q.2.1, q.2.2.1, rfl⟩, hw'⟩
theorem IndexFunc_ctr (f : FuncId) [CalT Tryz.prog f] (c1 c2 : List Value) (p : Pt → Bool) (A : Option Addr) (n c : Nat) (l : List Pt) (L : List HP) (hl : Rd L A n l) (hn : n ≤ 1000000)
    (hf : ∀ a : Pt, Ctr Tryz.prog f (c1 ++ [a.v] ++ c2).toArray L fun v L' => v = .bool (p a) ∧ L' = L) :
    Ctr Tryz.prog 117 #[.slice A n c, .func (.func f) c1.toArray c2.toArray] L fun v L' => (∃ j : Int, v = .int .i64 j ∧ decide (0 ≤ j) = l.any p) ∧ L' = L := by
  have h1 : l.length = n := hl.len (by decide)
  refine Ctr_of (fn := Tryz.f117) (n := 19) Tryz.func117 rfl rfl rfl ?_
  intro g F
  refine GN ?_
  refine G_region ?_
  refine GQ (ev_assign rfl) ?_
  refine GO_nil ?_
  refine GN ?_
  refine G_region ?_
  refine GQ (ev_move rfl) ?_
  refine GQ (ev_len rfl) ?_
  refine GQ (ev_move rfl) ?_
  refine GO_nil ?_
  refine GN ?_
  refine G_loop (ι := Nat) (fun k => [(0, .slice A n c), (1, .func (.func f) c1.toArray c2.toArray), (7, .int .i64 (n : Nat)), (8, .int .i64 (k : Nat))]) (fun _ => F :: L) (fun k => k ≤ n ∧ (l.take k).any p = false) (fun k => n - k) 0 ⟨Nat.zero_le _, by simp⟩ ⟨rfl, rfl, rfl, rfl, trivial⟩ EnA ?_
  rintro k ⟨hk, ht⟩
  refine GN ?_
  refine G_region ?_
  (first | refine GQ (ev_lssN rfl rfl) ?_ | refine GQ (ev_lss rfl rfl) ?_)
  refine GO_nil ?_
  refine GN ?_
  refine G_cond rfl (fun h4 => ?_) (fun h4 => ?_)
  · obtain ⟨b1, o1, rfl, x1⟩ := hl.at_ (by omega)
    have g1 : l[k]? = some l[k] := List.getElem?_eq_getElem (by omega)
    have y1 := x1 _ _ g1
    have s1 : l.take (k + 1) = l.take k ++ [l[k]] := List.take_succ_eq_append_getElem (by omega)
    have m1 : l[k] ∈ l := List.getElem_mem _
    generalize l[k] = u at *
    have z1 : LdN L b1 (o1 + k * 3) 3 [.int .i64 u.id, .int .i64 u.x, .int .i64 u.y] := y1
    refine GN ?_
    refine G_region ?_
    refine GQ (ev_move rfl) ?_
    refine GQ (ev_assign rfl) ?_
    refine GO_nil ?_
    refine GN ?_
    refine G_region ?_
    refine GQ (ev_move rfl) ?_
    refine GQ (ev_move rfl) ?_
    refine GQ (ev_move rfl) ?_
    (first | refine GQ (ev_indexAddrN rfl rfl NgA) ?_ | refine GQ (ev_indexAddr rfl rfl NgA NgA) ?_)
    refine GQ (ev_loadN rfl LnA) ?_
    refine GE (eff_callv rfl rfl (Ctr.frame [F] (hf u) en_refl)) ?_; rintro _ _ ⟨_, ⟨rfl, rfl⟩, rfl⟩
    refine GO_nil ?_
    refine GN ?_
    refine G_condB rfl (fun h5 => ?_) (fun h5 => ?_)
    · refine GN ?_
      refine G_region ?_
      refine GQ (ev_move rfl) ?_
      refine GQ (ev_assign rfl) ?_
      refine GO_nil ?_
      refine GN ?_
      refine G_ret rfl (.tmp rfl .nil) EnA ⟨⟨k, rfl, by rw [decide_eq_true (by omega)]; exact (List.any_eq_true.2 ⟨u, m1, h5⟩).symm⟩, rfl⟩
    · refine GN ?_
      refine G_region ?_
      (first | refine GQ (ev_addN (q := 1) rfl rfl NgA) ?_ | refine GQ (ev_add rfl rfl NgA) ?_)
      refine GQ (ev_move rfl) ?_
      refine GO_nil ?_
      refine GN ?_
      exact G_round (k + 1) ⟨by omega, by rw [s1, List.any_append, ht]; simpa using h5⟩ (by omega) ⟨rfl, rfl, rfl, rfl, trivial⟩ EnA
  · have e : k = n := by omega
    subst e
    rw [← h1, List.take_length] at ht
    refine GN ?_
    refine G_region ?_
    refine GQ (ev_assign rfl) ?_
    refine GO_nil ?_
    refine GN ?_
    refine G_ret rfl (.tmp rfl .nil) EnA ⟨⟨-1, rfl, by rw [ht]; rfl⟩, rfl⟩
theorem ContainsFunc_ctr (f : FuncId) [CalT Tryz.prog f] (c1 c2 : List Value) (p : Pt → Bool) (A : Option Addr) (n c : Nat) (l : List Pt) (L : List HP) (hl : Rd L A n l) (hn : n ≤ 1000000)
    (hf : ∀ a : Pt, Ctr Tryz.prog f (c1 ++ [a.v] ++ c2).toArray L fun v L' => v = .bool (p a) ∧ L' = L) :
    Ctr Tryz.prog 95 #[.slice A n c, .func (.func f) c1.toArray c2.toArray] L fun v L' => v = .bool (l.any p) ∧ L' = L := by
  refine Ctr_of (fn := Tryz.f95) (n := 9) Tryz.func95 rfl rfl rfl ?_
  intro g F
  refine GN ?_
  refine G_region ?_
  refine GQ (ev_assign rfl) ?_
  refine GO_nil ?_
  refine GN ?_
  refine G_region ?_
  refine GQ (ev_move rfl) ?_
  refine GQ (ev_move rfl) ?_
  refine GE (eff_call rfl (Ctr.frame [F] (IndexFunc_ctr f c1 c2 p A n c l L hl hn hf) en_refl)) ?_; rintro _ _ ⟨_, ⟨⟨j, rfl, hj⟩, rfl⟩, rfl⟩
  refine GQ (ev_geq rfl rfl) ?_
  refine GQ (ev_assign rfl) ?_
  refine GO_nil ?_
  refine GN ?_
  refine G_ret rfl (.tmp rfl .nil) EnA ⟨congrArg Value.bool hj, rfl⟩
end Go.Proofs.YtkoncepjfgnjlaaGreat
/- Points in order: the plain part. -/
namespace Go.Proofs.YtkoncepjfgnjlaaGreat
set_option linter.unusedVariables false
set_option linter.unusedSimpArgs false

theorem Pt.less_iff (p q : Pt) : p.less q = true ↔ (p.x < q.x ∨ p.x = q.x ∧ (p.y < q.y ∨ p.y = q.y ∧ p.id < q.id)) := by
  unfold Pt.less
  by_cases h1 : p.x = q.x
  · by_cases h2 : p.y = q.y
    · simp [h1, h2]
    · simp [h1, h2]
  · simp [h1]
theorem Pt.ext_iff' (p q : Pt) : p = q ↔ (p.id = q.id ∧ p.x = q.x ∧ p.y = q.y) := by
  obtain ⟨a, b, c⟩ := p
  obtain ⟨d, e, f⟩ := q
  simp
theorem Pt.less_irrefl (p : Pt) : p.less p = false := by
  cases h : p.less p with
  | false => rfl
  | true => rw [Pt.less_iff] at h; omega
theorem Pt.less_trans {p q r : Pt} (h : p.less q = true) (k : q.less r = true) : p.less r = true := by
  rw [Pt.less_iff] at *; omega
theorem Pt.less_asymm {p q : Pt} (h : p.less q = true) : q.less p = false := by
  cases k : q.less p with
  | false => rfl
  | true => rw [Pt.less_iff] at *; omega
theorem Pt.less_total {p q : Pt} (h : p ≠ q) (k : p.less q = false) : q.less p = true := by
  rw [Pt.less_iff]
  have k2 : ¬ p.less q = true := by rw [k]; simp
  rw [Pt.less_iff] at k2
  rw [ne_eq, Pt.ext_iff'] at h
  omega
/-- In strict order. -/
def Asc (l : List Pt) : Prop := l.Pairwise fun a b => a.less b = true
/-- A point put in. -/
def putP (v : Pt) (l : List Pt) : List Pt := l.takeWhile (fun x => !v.less x) ++ v :: l.dropWhile (fun x => !v.less x)
def putK (v : Pt) (l : List Pt) : Nat := (l.takeWhile (fun x => !v.less x)).length
theorem Asc.nodup {l : List Pt} (h : Asc l) : l.Nodup := h.imp fun {a b} hab e => by subst e; rw [Pt.less_irrefl] at hab; cases hab
/-- Two lists in order of the same points are one. -/
theorem Asc.unique : ∀ {l m : List Pt}, Asc l → Asc m → l.Perm m → l = m
  | [], m, _, _, p => by simpa using p.symm.eq_nil
  | a :: l, [], _, _, p => by simpa using p.eq_nil
  | a :: l, b :: m, h1, h2, p => by
    have h1' := h1
    have h2' := h2
    unfold Asc at h1 h2
    rw [List.pairwise_cons] at h1 h2
    have e : a = b := by
      have ha : a ∈ b :: m := p.subset (by simp)
      have hb : b ∈ a :: l := p.symm.subset (by simp)
      rcases List.mem_cons.1 ha with h | h
      · exact h
      · rcases List.mem_cons.1 hb with h' | h'
        · exact h'.symm
        · have := Pt.less_asymm (h1.1 _ h')
          rw [h2.1 _ h] at this; cases this
    subst e
    rw [Asc.unique h1.2 h2.2 p.cons_inv]
theorem Asc.append {l m : List Pt} (h1 : Asc l) (h2 : Asc m) (h : ∀ a ∈ l, ∀ b ∈ m, a.less b = true) : Asc (l ++ m) := List.pairwise_append.2 ⟨h1, h2, h⟩
theorem Asc.sub {l m : List Pt} (h : Asc m) (s : l.Sublist m) : Asc l := h.sublist s
end Go.Proofs.YtkoncepjfgnjlaaGreat
/- Lists of points in order: the walks. -/
namespace Go.Proofs.YtkoncepjfgnjlaaGreat
set_option linter.unusedVariables false
set_option linter.unusedSimpArgs false
set_option maxRecDepth 100000

end Go.Proofs.YtkoncepjfgnjlaaGreat
/- Boxes, windows and intervals: the walks of the small functions (for the laws of plan). -/
namespace Go.Proofs.YtkoncepjfgnjlaaGreat
attribute [local irreducible] sat
set_option linter.unusedVariables false
set_option linter.unusedSimpArgs false
set_option maxRecDepth 100000

def good (n : Int) : Bool := decide (-1099511627776 ≤ n) && decide (n ≤ 1099511627776)
def wthn (n lo hi : Int) : Bool := decide (lo ≤ n ∧ n ≤ hi)

theorem Good_ctr (n : Int) (L : List HP) : Ctr Tryz.prog 93 #[.int .i64 n] L fun v L' => v = .bool (good n) ∧ L' = L := by
  refine Ctr_of (fn := Tryz.f93) (n := 9) Tryz.func93 rfl rfl rfl ?_
  intro g F
  refine GN ?_
  refine G_region ?_
  refine GQ (ev_assign rfl) ?_
  refine GO_nil ?_
  refine GN ?_
  refine G_region ?_
  refine GQ (ev_move rfl) ?_
  refine GQ (ev_geq rfl rfl) ?_
  refine GQ (ev_move rfl) ?_
  refine GO_guard rfl rfl rfl (fun hq3 => ?y5) (fun hq3 => ?n5)
  case' n5 =>
    have hp3 := hq3
    try simp only [decide_eq_true_eq, decide_eq_false_iff_not, Bool.not_true, Bool.not_false] at hp3
    refine GO_no rfl rfl rfl hq3 ?_
    refine GQ (ev_pick_f rfl hq3 rfl) ?_
    refine GQ (ev_assign rfl) ?_
    refine GO_nil ?_
  case' y5 =>
    have hp3 := hq3
    try simp only [decide_eq_true_eq, decide_eq_false_iff_not, Bool.not_true, Bool.not_false] at hp3
    refine GQ (ev_move rfl) ?_
    refine GO_yes rfl rfl rfl hq3 ?_
    refine GQ (ev_leq rfl rfl) ?_
    refine GQ (ev_pick_t rfl hq3 rfl) ?_
    refine GQ (ev_assign rfl) ?_
    refine GO_nil ?_
  · refine GN ?_
    refine G_ret rfl (.tmp rfl .nil) EnA ⟨by simp [retv, good]; omega, rfl⟩
  · refine GN ?_
    refine G_ret rfl (.tmp rfl .nil) EnA ⟨by simp [retv, good]; omega, rfl⟩
theorem Coord_ctr (n : Int) (L : List HP) : Ctr Tryz.prog 145 #[.int .i64 n] L fun v L' => v = .bool (good n) ∧ L' = L := by
  refine Ctr_of (fn := Tryz.f145) (n := 9) Tryz.func145 rfl rfl rfl ?_
  intro g F
  refine GN ?_
  refine G_region ?_
  refine GQ (ev_assign rfl) ?_
  refine GO_nil ?_
  refine GN ?_
  refine G_region ?_
  refine GQ (ev_move rfl) ?_
  refine GQ (ev_geq rfl rfl) ?_
  refine GQ (ev_move rfl) ?_
  refine GO_guard rfl rfl rfl (fun hq3 => ?y6) (fun hq3 => ?n6)
  case' n6 =>
    have hp3 := hq3
    try simp only [decide_eq_true_eq, decide_eq_false_iff_not, Bool.not_true, Bool.not_false] at hp3
    refine GO_no rfl rfl rfl hq3 ?_
    refine GQ (ev_pick_f rfl hq3 rfl) ?_
    refine GQ (ev_assign rfl) ?_
    refine GO_nil ?_
  case' y6 =>
    have hp3 := hq3
    try simp only [decide_eq_true_eq, decide_eq_false_iff_not, Bool.not_true, Bool.not_false] at hp3
    refine GQ (ev_move rfl) ?_
    refine GO_yes rfl rfl rfl hq3 ?_
    refine GQ (ev_leq rfl rfl) ?_
    refine GQ (ev_pick_t rfl hq3 rfl) ?_
    refine GQ (ev_assign rfl) ?_
    refine GO_nil ?_
  · refine GN ?_
    refine G_ret rfl (.tmp rfl .nil) EnA ⟨by simp [retv, good]; omega, rfl⟩
  · refine GN ?_
    refine G_ret rfl (.tmp rfl .nil) EnA ⟨by simp [retv, good]; omega, rfl⟩
theorem within_ctr (n lo hi : Int) (L : List HP) : Ctr Tryz.prog 104 #[.int .i64 n, .int .i64 lo, .int .i64 hi] L fun v L' => v = .bool (wthn n lo hi) ∧ L' = L := by
  refine Ctr_of (fn := Tryz.f104) (n := 15) Tryz.func104 rfl rfl rfl ?_
  intro g F
  refine GN ?_
  refine G_region ?_
  refine GQ (ev_assign rfl) ?_
  refine GO_nil ?_
  refine GN ?_
  refine G_region ?_
  refine GQ (ev_move rfl) ?_
  refine GQ (ev_move rfl) ?_
  refine GQ (ev_leq rfl rfl) ?_
  refine GQ (ev_move rfl) ?_
  refine GO_guard rfl rfl rfl (fun hq4 => ?y7) (fun hq4 => ?n7)
  case' n7 =>
    have hp4 := hq4
    try simp only [decide_eq_true_eq, decide_eq_false_iff_not, Bool.not_true, Bool.not_false] at hp4
    refine GO_no rfl rfl rfl hq4 ?_
    refine GO_no rfl rfl rfl hq4 ?_
    refine GQ (ev_pick_f rfl hq4 rfl) ?_
    refine GQ (ev_assign rfl) ?_
    refine GO_nil ?_
  case' y7 =>
    have hp4 := hq4
    try simp only [decide_eq_true_eq, decide_eq_false_iff_not, Bool.not_true, Bool.not_false] at hp4
    refine GQ (ev_move rfl) ?_
    refine GO_yes rfl rfl rfl hq4 ?_
    refine GQ (ev_move rfl) ?_
    refine GO_yes rfl rfl rfl hq4 ?_
    refine GQ (ev_leq rfl rfl) ?_
    refine GQ (ev_pick_t rfl hq4 rfl) ?_
    refine GQ (ev_assign rfl) ?_
    refine GO_nil ?_
  · refine GN ?_
    refine G_ret rfl (.tmp rfl .nil) EnA ⟨by simp [retv, wthn]; omega, rfl⟩
  · refine GN ?_
    refine G_ret rfl (.tmp rfl .nil) EnA ⟨by simp [retv, wthn]; omega, rfl⟩
/-- A box: its four numbers. -/
structure Bx where
  x1 : Int
  x2 : Int
  y1 : Int
  y2 : Int
/-- A window: its three. -/
structure Wn where
  x1 : Int
  x2 : Int
  y : Int
/-- An interval with its number. -/
structure Sp where
  id : Int
  lo : Int
  hi : Int
def Bx.has (b : Bx) (x y : Int) : Bool := wthn x b.x1 b.x2 && wthn y b.y1 b.y2
def Wn.sees (w : Wn) (x y : Int) : Bool := wthn x w.x1 w.x2 && decide (w.y ≤ y)
def Sp.over (s t : Sp) : Bool := decide (s.lo ≤ s.hi ∧ t.lo ≤ t.hi ∧ s.lo ≤ t.hi ∧ t.lo ≤ s.hi)

theorem Has_ctr (b : Bx) (p : Pt) (L : List HP) : Ctr Tryz.prog 74 #[.agg #[.int .i64 b.x1, .int .i64 b.x2, .int .i64 b.y1, .int .i64 b.y2], .agg #[.int .i64 p.id, .int .i64 p.x, .int .i64 p.y]] L fun v L' => v = .bool (b.has p.x p.y) ∧ L' = L := by
  refine Ctr_of (fn := Tryz.f74) (n := 21) Tryz.func74 rfl rfl rfl ?_
  intro g F
  refine GN ?_
  refine G_region ?_
  refine GE (eff_box rfl) ?_; rintro _ _ ⟨b2, rfl, rfl⟩
  refine GE (eff_box rfl) ?_; rintro _ _ ⟨b3, rfl, rfl⟩
  refine GQ (ev_assign rfl) ?_
  refine GO_nil ?_
  refine GN ?_
  refine G_region ?_
  refine GQ (ev_fieldAddr rfl) ?_
  refine GQ (ev_load rfl LdA) ?_
  refine GQ (ev_fieldAddr rfl) ?_
  refine GQ (ev_load rfl LdA) ?_
  refine GQ (ev_fieldAddr rfl) ?_
  refine GQ (ev_load rfl LdA) ?_
  refine GE (eff_call rfl (within_ctr p.x b.x1 b.x2 _)) ?_; rintro _ _ ⟨rfl, rfl⟩
  refine GQ (ev_move rfl) ?_
  refine GO_guard rfl rfl rfl (fun hq8 => ?y8) (fun hq8 => ?n8)
  case' n8 =>
    have hp8 := hq8
    try simp only [decide_eq_true_eq, decide_eq_false_iff_not, Bool.not_true, Bool.not_false] at hp8
    refine GO_no rfl rfl rfl hq8 ?_
    refine GO_no rfl rfl rfl hq8 ?_
    refine GO_no rfl rfl rfl hq8 ?_
    refine GO_no rfl rfl rfl hq8 ?_
    refine GO_no rfl rfl rfl hq8 ?_
    refine GO_no rfl rfl rfl hq8 ?_
    refine GQ (ev_pick_f rfl hq8 rfl) ?_
    refine GQ (ev_assign rfl) ?_
    refine GO_nil ?_
  case' y8 =>
    have hp8 := hq8
    try simp only [decide_eq_true_eq, decide_eq_false_iff_not, Bool.not_true, Bool.not_false] at hp8
    refine GQ (ev_fieldAddr rfl) ?_
    refine GO_yes rfl rfl rfl hq8 ?_
    refine GQ (ev_load rfl LdA) ?_
    refine GO_yes rfl rfl rfl hq8 ?_
    refine GQ (ev_fieldAddr rfl) ?_
    refine GO_yes rfl rfl rfl hq8 ?_
    refine GQ (ev_load rfl LdA) ?_
    refine GO_yes rfl rfl rfl hq8 ?_
    refine GQ (ev_fieldAddr rfl) ?_
    refine GO_yes rfl rfl rfl hq8 ?_
    refine GQ (ev_load rfl LdA) ?_
    refine GO_yes rfl rfl rfl hq8 ?_
    refine GE (eff_call rfl (within_ctr p.y b.y1 b.y2 _)) ?_; rintro _ _ ⟨rfl, rfl⟩
    refine GQ (ev_pick_t rfl hq8 rfl) ?_
    refine GQ (ev_assign rfl) ?_
    refine GO_nil ?_
  · refine GN ?_
    refine G_ret rfl (.tmp rfl .nil) EnA ⟨by simp_all [retv, Bx.has, wthn] <;> (try (intros; omega)), rfl⟩
  · refine GN ?_
    refine G_ret rfl (.tmp rfl .nil) EnA ⟨by simp_all [retv, Bx.has, wthn] <;> (try (intros; omega)), rfl⟩
theorem RHas_ctr (b : Bx) (x y : Int) (L : List HP) : Ctr Tryz.prog 46 #[.agg #[.int .i64 b.x1, .int .i64 b.x2, .int .i64 b.y1, .int .i64 b.y2], .int .i64 x, .int .i64 y] L fun v L' => v = .bool (b.has x y) ∧ L' = L := by
  refine Ctr_of (fn := Tryz.f46) (n := 29) Tryz.func46 rfl rfl rfl ?_
  intro g F
  refine GN ?_
  refine G_region ?_
  refine GE (eff_box rfl) ?_; rintro _ _ ⟨b3, rfl, rfl⟩
  refine GQ (ev_assign rfl) ?_
  refine GO_nil ?_
  refine GN ?_
  refine G_region ?_
  refine GQ (ev_move rfl) ?_
  refine GQ (ev_fieldAddr rfl) ?_
  refine GQ (ev_load rfl LdA) ?_
  refine GQ (ev_geq rfl rfl) ?_
  refine GQ (ev_move rfl) ?_
  refine GO_guard rfl rfl rfl (fun hq5 => ?y9) (fun hq5 => ?n9)
  case' n9 =>
    have hp5 := hq5
    try simp only [decide_eq_true_eq, decide_eq_false_iff_not, Bool.not_true, Bool.not_false] at hp5
    refine GO_no rfl rfl rfl hq5 ?_
    refine GO_no rfl rfl rfl hq5 ?_
    refine GO_no rfl rfl rfl hq5 ?_
    refine GQ (ev_pick_f rfl hq5 rfl) ?_
    refine GQ (ev_move rfl) ?_
    refine GO_no rfl rfl rfl rfl ?_
    refine GO_no rfl rfl rfl rfl ?_
    refine GO_no rfl rfl rfl rfl ?_
    refine GO_no rfl rfl rfl rfl ?_
    refine GQ (ev_pick_f rfl rfl rfl) ?_
    refine GQ (ev_move rfl) ?_
    refine GO_no rfl rfl rfl rfl ?_
    refine GO_no rfl rfl rfl rfl ?_
    refine GO_no rfl rfl rfl rfl ?_
    refine GO_no rfl rfl rfl rfl ?_
    refine GQ (ev_pick_f rfl rfl rfl) ?_
    refine GQ (ev_assign rfl) ?_
    refine GO_nil ?_
  case' y9 =>
    have hp5 := hq5
    try simp only [decide_eq_true_eq, decide_eq_false_iff_not, Bool.not_true, Bool.not_false] at hp5
    refine GQ (ev_move rfl) ?_
    refine GO_yes rfl rfl rfl hq5 ?_
    refine GQ (ev_fieldAddr rfl) ?_
    refine GO_yes rfl rfl rfl hq5 ?_
    refine GQ (ev_load rfl LdA) ?_
    refine GO_yes rfl rfl rfl hq5 ?_
    refine GQ (ev_leq rfl rfl) ?_
    refine GQ (ev_pick_t rfl hq5 rfl) ?_
    refine GQ (ev_move rfl) ?_
    refine GO_guard rfl rfl rfl (fun hq11 => ?y10) (fun hq11 => ?n10)
    case' n10 =>
      have hp11 := hq11
      try simp only [decide_eq_true_eq, decide_eq_false_iff_not, Bool.not_true, Bool.not_false] at hp11
      refine GO_no rfl rfl rfl hq11 ?_
      refine GO_no rfl rfl rfl hq11 ?_
      refine GO_no rfl rfl rfl hq11 ?_
      refine GQ (ev_pick_f rfl hq11 rfl) ?_
      refine GQ (ev_move rfl) ?_
      refine GO_no rfl rfl rfl rfl ?_
      refine GO_no rfl rfl rfl rfl ?_
      refine GO_no rfl rfl rfl rfl ?_
      refine GO_no rfl rfl rfl rfl ?_
      refine GQ (ev_pick_f rfl rfl rfl) ?_
      refine GQ (ev_assign rfl) ?_
      refine GO_nil ?_
    case' y10 =>
      have hp11 := hq11
      try simp only [decide_eq_true_eq, decide_eq_false_iff_not, Bool.not_true, Bool.not_false] at hp11
      refine GQ (ev_move rfl) ?_
      refine GO_yes rfl rfl rfl hq11 ?_
      refine GQ (ev_fieldAddr rfl) ?_
      refine GO_yes rfl rfl rfl hq11 ?_
      refine GQ (ev_load rfl LdA) ?_
      refine GO_yes rfl rfl rfl hq11 ?_
      refine GQ (ev_geq rfl rfl) ?_
      refine GQ (ev_pick_t rfl hq11 rfl) ?_
      refine GQ (ev_move rfl) ?_
      refine GO_guard rfl rfl rfl (fun hq17 => ?y11) (fun hq17 => ?n11)
      case' n11 =>
        have hp17 := hq17
        try simp only [decide_eq_true_eq, decide_eq_false_iff_not, Bool.not_true, Bool.not_false] at hp17
        refine GO_no rfl rfl rfl hq17 ?_
        refine GO_no rfl rfl rfl hq17 ?_
        refine GO_no rfl rfl rfl hq17 ?_
        refine GQ (ev_pick_f rfl hq17 rfl) ?_
        refine GQ (ev_assign rfl) ?_
        refine GO_nil ?_
      case' y11 =>
        have hp17 := hq17
        try simp only [decide_eq_true_eq, decide_eq_false_iff_not, Bool.not_true, Bool.not_false] at hp17
        refine GQ (ev_move rfl) ?_
        refine GO_yes rfl rfl rfl hq17 ?_
        refine GQ (ev_fieldAddr rfl) ?_
        refine GO_yes rfl rfl rfl hq17 ?_
        refine GQ (ev_load rfl LdA) ?_
        refine GO_yes rfl rfl rfl hq17 ?_
        refine GQ (ev_leq rfl rfl) ?_
        refine GQ (ev_pick_t rfl hq17 rfl) ?_
        refine GQ (ev_assign rfl) ?_
        refine GO_nil ?_
  all_goals
    refine GN ?_
    refine G_ret rfl (.tmp rfl .nil) EnA ⟨by simp_all [retv, Bx.has, wthn] <;> (try (intros; omega)), rfl⟩
/-- The judgement of a box: 0, 2 (a number that is no coordinate), 3 (out of order). -/
def Bx.chk (b : Bx) : Int :=
  if good b.x1 && good b.x2 && good b.y1 && good b.y2 then (if b.x1 > b.x2 ∨ b.y1 > b.y2 then 3 else 0) else 2
def Wn.bx (w : Wn) : Bx := ⟨w.x1, w.x2, w.y, 1099511627776⟩
end Go.Proofs.YtkoncepjfgnjlaaGreat
/- A store into a slice of the call's own. No program stands in this text. -/
namespace Go.Proofs.YtkoncepjfgnjlaaGreat
open Go.RowKit
section
variable {P : Program} {g : Glob} {L M : List HP} {σ : Env} {d : Option Nat} {ty T T' : TypeId} {pos : String} {aft : Array Edge} {gd : Option (Nat × Bool)} {x y : Operand} {v : Value}
theorem eff_storeO {b o n c sz : Nat} {e : TypeId} {xs : List Value} [H : OneT P T] (hx : ev σ x = some (.pointer (some ⟨b, o, none⟩))) (hy : ev σ y = some v) (hv : oneC v = true) (hp : Pick (own e sz (some ⟨b, 0, none⟩) n c xs) L M) (ho : o < n * sz) :
    Eff P g L σ ⟨d, .store T x y, ty, pos, aft, gd⟩ fun r L' => r = undef ∧ L' = own e sz (some ⟨b, 0, none⟩) n c (xs.set o v) :: M := fun a w hs hw K Q hK => by
  have hw' : Hp g (own e sz (some ⟨b, 0, none⟩) n c xs :: M) w := hw.mono fun _ => sat.perm hp.perm
  obtain ⟨k1, k2, dj, s1, s2, ow, l⟩ := hw'.s
  obtain ⟨cs, hb, hcl, htk⟩ := ow.opn
  have hnc := ow.le
  have hcc := ow.cap
  have hwb : Hp g (blk b e cs :: M) w := ⟨hw'.g, k1, k2, dj, s1, s2, hb, l⟩
  have hm : n * sz ≤ c * sz := Nat.mul_le_mul_right _ hnc
  have hlt : o < cs.length := by omega
  refine (eff_store (P := P) (T := T) (L := blk b e cs :: M) (L' := blk b e (setN cs o [v]) :: M) (g := g) (σ := σ) (d := d) (ty := ty) (pos := pos) (aft := aft) (gd := gd) hx hy hv (Upd.here (by simp; omega))) a w hs hwb K Q fun r w' L' ⟨e1, e2⟩ hw2 => ?_
  subst e2
  refine hK r w' _ ⟨e1, rfl⟩ (hw2.mono fun h s => ?_)
  have e3 : setN cs o [v] = cs.set o v := by
    rw [setN_eq cs o [v] (by simp; omega)]
    simp [List.set_eq_take_append_cons_drop, hlt]
  have e4 : (setN cs o [v]).take (n * sz) = xs.set o v := by rw [e3, List.take_set, htk]
  obtain ⟨h1, h2, dd, t1, t2, q, z⟩ := s
  refine ⟨h1, h2, dd, t1, t2, ?_, z⟩
  rw [← e4]
  exact own.cls q (by rw [setN_length]; exact hcl) hnc hcc
theorem eff_storeNO {b o n c sz m : Nat} {e : TypeId} {xs vs : List Value} [H : AggT P T m] (hx : ev σ x = some (.pointer (some ⟨b, o, none⟩))) (hy : ev σ y = some (.agg vs.toArray)) (hn : Nat.beq vs.length m = true) (hv : allOne vs = true) (hp : Pick (own e sz (some ⟨b, 0, none⟩) n c xs) L M) (ho : o + vs.length ≤ n * sz) :
    Eff P g L σ ⟨d, .store T x y, ty, pos, aft, gd⟩ fun r L' => r = undef ∧ L' = own e sz (some ⟨b, 0, none⟩) n c (setN xs o vs) :: M := fun a w hs hw K Q hK => by
  have hw' : Hp g (own e sz (some ⟨b, 0, none⟩) n c xs :: M) w := hw.mono fun _ => sat.perm hp.perm
  obtain ⟨k1, k2, dj, s1, s2, ow, l⟩ := hw'.s
  obtain ⟨cs, hb, hcl, htk⟩ := ow.opn
  have hnc := ow.le
  have hcc := ow.cap
  have hxl := ow.len
  have hwb : Hp g (blk b e cs :: M) w := ⟨hw'.g, k1, k2, dj, s1, s2, hb, l⟩
  have hm : n * sz ≤ c * sz := Nat.mul_le_mul_right _ hnc
  refine (eff_storeN (P := P) (T := T) (L := blk b e cs :: M) (L' := blk b e (setN cs o vs) :: M) (g := g) (σ := σ) (d := d) (ty := ty) (pos := pos) (aft := aft) (gd := gd) hx hy hn hv (Upd.here (Nat.ble_eq_true_of_le (by omega)))) a w hs hwb K Q fun r w' L' ⟨e1, e2⟩ hw2 => ?_
  subst e2
  refine hK r w' _ ⟨e1, rfl⟩ (hw2.mono fun h s => ?_)
  have e4 : (setN cs o vs).take (n * sz) = setN xs o vs := by
    rw [setN_eq cs o vs (by omega), setN_eq xs o vs (by omega), splice_take cs vs o (n * sz) ho (by omega), htk]
  obtain ⟨h1, h2, dd, t1, t2, q, z⟩ := s
  refine ⟨h1, h2, dd, t1, t2, ?_, z⟩
  rw [← e4]
  exact own.cls q (by rw [setN_length]; exact hcl) hnc hcc
/-- An element of a list, put. -/
theorem flat_setN {α : Type} [E : Enc α] (l : List α) (i : Nat) (a : α) (hi : i < l.length) : setN (flat l) (i * E.sz) (E.enc a) = flat (l.set i a) := by
  rw [setN_eq _ _ _ (by rw [flat_length, Enc.len, ← Nat.succ_mul]; exact Nat.mul_le_mul_right _ hi), List.set_eq_take_append_cons_drop, if_pos hi, flat_append, flat_cons, flat_take, flat_drop, Enc.len, Nat.succ_mul, List.append_assoc]
end
end Go.Proofs.YtkoncepjfgnjlaaGreat
/- What a contract leaves, put otherwise. No program stands in this text. -/
namespace Go.Proofs.YtkoncepjfgnjlaaGreat
theorem Ctr.post' {P : Program} {f : FuncId} {args : Array Value} {L : List HP} {post post' : Value → List HP → Prop} (h : Ctr P f args L post) (hp : ∀ v L' hm, post v L' → sat L' hm → ∃ M, post' v M ∧ sat M hm) : Ctr P f args L post' := fun g F w hw =>
  (h g F w hw).mono fun e w' ⟨v, L', e1, p, q⟩ => by
    obtain ⟨h1, h2, d, s1, s2, a, l⟩ := q.s
    obtain ⟨M, pm, sm⟩ := hp v L' h2 p l
    exact ⟨v, M, e1, pm, q.g, h1, h2, d, s1, s2, a, sm⟩
theorem Ctr.open {P : Program} {f : FuncId} {args : Array Value} {L : List HP} {A : HP} {ι : Type} {N : ι → List HP} {Fa : ι → Prop} {post : Value → List HP → Prop} (op : ∀ h, A h → ∃ x, Fa x ∧ sat (N x) h) (C : ∀ x, Fa x → Ctr P f args (N x ++ L) post) : Ctr P f args (A :: L) post := fun g F w hw => by
  obtain ⟨h1, h2, d, s1, s2, ha, hl⟩ := hw.s.swap
  obtain ⟨x, fx, nx⟩ := op _ ha
  have hs : sat (N x ++ (F :: L)) w.hm := sat.head (A := fun h => h = h1) (fun _ e => e ▸ nx) ⟨h1, h2, d, s1, s2, rfl, hl⟩
  exact C x fx g F w ⟨hw.g, hs.perm List.perm_middle⟩
end Go.Proofs.YtkoncepjfgnjlaaGreat
/- The references' sets of points: what lies in memory (out of the texts on pst, by tools/mkps.sh). -/
namespace Go.Proofs.YtkoncepjfgnjlaaGreat
set_option linter.unusedVariables false
set_option linter.unusedSimpArgs false
set_option maxRecDepth 100000

def goodId (n : Int) : Bool := decide (1 ≤ n) && decide (n ≤ 2147483647)
def goodP (p : Pt) : Bool := goodId p.id && (good p.x && good p.y)
/-- A function that reads alone, by whatever stands for a part. -/
theorem Ctr.read {P : Program} {f : FuncId} {args : Array Value} {L : List HP} {A : HP} {ι : Type} {φ : ι → Prop} {N : ι → List HP} {R : Value → List HP → Prop} (op : ∀ h, A h → ∃ i, φ i ∧ sat (N i) h) (cl : ∀ i, φ i → ∀ h, sat (N i) h → A h)
    (C : ∀ i, φ i → Ctr P f args (N i ++ L) fun v L' => ∃ X, R v X ∧ L' = X ++ (N i ++ L)) : Ctr P f args (A :: L) fun v L' => ∃ X, R v X ∧ L' = X ++ (A :: L) := fun g F w hw => by
  obtain ⟨h1, h2, d, s1, s2, q, l⟩ := hw.s.swap
  obtain ⟨i, hi, hn⟩ := op _ q
  have hs : sat (N i ++ (F :: L)) w.hm := sat.head (A := fun h => h = h1) (fun _ e => e ▸ hn) ⟨h1, h2, d, s1, s2, rfl, l⟩
  have hs2 : sat (F :: (N i ++ L)) w.hm := hs.perm List.perm_middle
  refine (C i hi g F w ⟨hw.g, hs2⟩).mono fun e w' ⟨v, L', e1, ⟨X, r, e2⟩, hw'⟩ => ?_
  subst e2
  exact ⟨v, _, e1, ⟨X, r, rfl⟩, hw'.mono (en_keep (en_appk fun _ s => sat.fold (cl i hi) s))⟩
theorem pt_list (p q : Pt) : [p.id, p.x, p.y] = [q.id, q.x, q.y] ↔ p = q := by
  rw [Pt.ext_iff']; simp
def insC (most : Int) (l : List Pt) (p : Pt) : Int := if goodP p = false then 1 else if p ∈ l then 5 else if most ≤ l.length then 4 else 0
def delC (l : List Pt) (p : Pt) : Int := if p ∈ l then 0 else 6
theorem srt_congr {l m : List Int} (h : l.Perm m) : srt l = srt m := by rw [← rising_srt l l (.refl _), rising_srt l m h]
/-- A set at a place. -/
def setS (b : Nat) (most : Int) (l : List Pt) : HP := fun h => ∃ x : Option Addr × Nat, (0 < l.length → ∃ b, x.1 = some ⟨b, 0, none⟩) ∧ sat [blk b 49 [.slice x.1 l.length x.2, .int .i64 most], own 28 3 x.1 l.length x.2 (flat l)] h
theorem Ctr.set {P : Program} {f : FuncId} {args : Array Value} {L : List HP} {b : Nat} {most : Int} {l : List Pt} {post : Value → List HP → Prop}
    (C : ∀ A c, (0 < l.length → ∃ b, A = some ⟨b, 0, none⟩) → l.length ≤ c → c ≤ maxLen → Ctr P f args (blk b 49 [.slice A l.length c, .int .i64 most] :: own 28 3 A l.length c (flat l) :: L) post) : Ctr P f args (setS b most l :: L) post := fun g F w hw => by
  obtain ⟨h1, h2, d, s1, s2, ⟨⟨A, c⟩, hA, q⟩, t⟩ := hw.s.swap
  have q0 := own.facts (L := []) q.tail
  have hs : sat ([blk b 49 [.slice A l.length c, .int .i64 most], own 28 3 A l.length c (flat l)] ++ (F :: L)) w.hm := sat.head (A := fun h => h = h1) (fun _ e => e ▸ q) ⟨h1, h2, d, s1, s2, rfl, t⟩
  exact C A c hA q0.2.1 q0.2.2.1 g F w ⟨hw.g, hs.perm (List.perm_middle (l₁ := [blk b 49 [.slice A l.length c, .int .i64 most], own 28 3 A l.length c (flat l)]))⟩
theorem en_set {L M : List HP} {b c : Nat} {A : Option Addr} {most : Int} {l : List Pt} (hA : 0 < l.length → ∃ b, A = some ⟨b, 0, none⟩) (f : ∀ h, sat L h → sat (blk b 49 [.slice A l.length c, .int .i64 most] :: own 28 3 A l.length c (flat l) :: M) h) : ∀ h, sat L h → sat (setS b most l :: M) h := fun h s =>
  sat.fold (N := [_, _]) (fun h q => ⟨(A, c), hA, q⟩) (f h s)
theorem idx_ne {a p : Pt} {l : List Pt} (e : a ≠ p) : (a :: l).idxOf p = l.idxOf p + 1 := by
  have : (a == p) = false := by simpa using e
  rw [List.idxOf_cons, this]; rfl
theorem idx_take (p : Pt) : ∀ (l : List Pt) (k : Nat), l[k]? = some p → p ∉ l.take k → l.idxOf p = k
  | [], k, h, _ => by simp at h
  | a :: l, 0, h, _ => by simp at h; subst h; simp
  | a :: l, k + 1, h, hn => by
    simp only [List.take_succ_cons, List.mem_cons, not_or] at hn
    rw [idx_ne (Ne.symm hn.1), idx_take p l k (by simpa using h) hn.2]
theorem erase_idx (p : Pt) : ∀ (l : List Pt), p ∈ l → l.take (l.idxOf p) ++ l.drop (l.idxOf p + 1) = l.erase p
  | [], h => by cases h
  | a :: l, h => by
    by_cases e : a = p
    · subst e; simp
    · rw [idx_ne e, List.erase_cons_tail (by simpa using e)]
      have := erase_idx p l ((List.mem_cons.1 h).resolve_left (fun h' => e h'.symm))
      simp only [List.take_succ_cons, List.drop_succ_cons, List.cons_append, this]
theorem Ld.of {A : HP} {N L : List HP} {a : Addr} {v : Value} (f : ∀ h, A h → sat N h) (l : Ld N a v) : Ld (A :: L) a v := ⟨fun h s => by
  obtain ⟨h1, h2, d, s1, s2, x, t⟩ := s
  exact cellOf.sub (l.1 _ (f _ x)) s1⟩

theorem Ctr.post {P : Program} {f : FuncId} {args : Array Value} {L : List HP} {post post' : Value → List HP → Prop} (h : Ctr P f args L post) (hp : ∀ v L' hm, post v L' → sat L' hm → ∃ M, post' v M ∧ sat M hm) : Ctr P f args L post' := fun g F w hw =>
  (h g F w hw).mono fun e w' ⟨v, L', e1, p, q⟩ => by
    obtain ⟨h1, h2, d, s1, s2, a, l⟩ := q.s
    obtain ⟨M, pm, sm⟩ := hp v L' h2 p l
    exact ⟨v, M, e1, pm, q.g, h1, h2, d, s1, s2, a, sm⟩
/-- Something that was made, of which no more is told than how it reads. -/
def MadeY {α : Type} [E : Enc α] (l : List α) (L : List HP) (v : Value) (L' : List HP) : Prop := ∃ (Y : HP) (A : Option Addr) (c : Nat), v = .slice A l.length c ∧ l.length ≤ c ∧ c ≤ maxLen ∧ (∀ L, Rd (Y :: L) A l.length l) ∧ L' = Y :: L
theorem Rc.of {Y : HP} {N L : List HP} {sz n : Nat} {A : Option Addr} {xs : List Value} (f : ∀ h, Y h → sat N h) (h : Rc N sz A n xs) : Rc (Y :: L) sz A n xs :=
  ⟨h.1, fun hn => let ⟨b, o, e, k⟩ := h.2 hn; ⟨b, o, e, fun j v hj => (k j v hj).of f⟩⟩
theorem Ctr.y {P : Program} {f : FuncId} {args : Array Value} {L : List HP} {α : Type} [E : Enc α] {l : List α} (h : Ctr P f args L fun v L' => ∃ X, (∃ A' c', v = .slice A' l.length c' ∧ l.length ≤ c' ∧ c' ≤ maxLen ∧ Rd X A' l.length l) ∧ L' = X ++ L) : Ctr P f args L fun v L' => MadeY l L v L' :=
  h.post fun v L' hm ⟨X, ⟨A, c, e1, e2, e3, e4⟩, e5⟩ s => ⟨_, ⟨fun h => sat X h, A, c, e1, e2, e3, fun L => Rc.of (fun _ h => h) e4, rfl⟩, sat.join (e5 ▸ s)⟩
end Go.Proofs.YtkoncepjfgnjlaaGreat
/- Triples in order, by any order that has no equal ones. -/
namespace Go.Proofs.YtkoncepjfgnjlaaGreat
set_option linter.unusedVariables false
set_option linter.unusedSimpArgs false
set_option linter.unusedSectionVars false
variable {α : Type} [DecidableEq α]

/-- What is true of the first ones alone. -/
theorem fall_split (p : α → Bool) : ∀ (l : List α), l.Pairwise (fun a b => p b = true → p a = true) → l.filter p ++ l.filter (fun x => !p x) = l
  | [], _ => rfl
  | a :: l, h => by
    rw [List.pairwise_cons] at h
    have ih := fall_split p l h.2
    cases ha : p a with
    | true => rw [List.filter_cons_of_pos (by simpa using ha), List.filter_cons_of_neg (by simp [ha]), List.cons_append, ih]
    | false =>
      have h0 : l.filter p = [] := by
        rw [List.filter_eq_nil_iff]; intro b hb hpb
        have := h.1 b hb hpb
        rw [ha] at this; cases this
      rw [List.filter_cons_of_neg (by simp [ha]), List.filter_cons_of_pos (by simp [ha]), h0, List.nil_append]
      rw [h0, List.nil_append] at ih
      rw [ih]
theorem fall_take (p : α → Bool) (l : List α) (h : l.Pairwise (fun a b => p b = true → p a = true)) : l.take (l.countP p) = l.filter p := by
  have e : l.countP p = (l.filter p).length := List.countP_eq_length_filter
  rw [e]
  have h2 := congrArg (List.take (l.filter p).length) (fall_split p l h)
  rw [List.take_left] at h2
  exact h2.symm
theorem fall_drop (p : α → Bool) (l : List α) (h : l.Pairwise (fun a b => p b = true → p a = true)) : l.drop (l.countP p) = l.filter (fun x => !p x) := by
  have h1 := fall_take p l h
  have h2 := fall_split p l h
  have h3 := List.take_append_drop (l.countP p) l
  rw [h1] at h3
  exact List.append_cancel_left (h3.trans h2.symm)
theorem fall_at (p : α → Bool) (l : List α) (h : l.Pairwise (fun a b => p b = true → p a = true)) (j : Nat) (a : α) (hj : l[j]? = some a) : (!p a) = true ↔ l.countP p ≤ j := by
  rcases Nat.lt_or_ge j (l.countP p) with h1 | h1
  · have : a ∈ l.filter p := by
      rw [← fall_take p l h]
      exact List.mem_of_getElem? (i := j) (by rw [List.getElem?_take_of_lt h1]; exact hj)
    have := (List.mem_filter.1 this).2
    simp [this]; omega
  · have : a ∈ l.filter (fun x => !p x) := by
      rw [← fall_drop p l h]
      exact List.mem_of_getElem? (i := j - l.countP p) (by rw [List.getElem?_drop, show l.countP p + (j - l.countP p) = j by omega]; exact hj)
    have := (List.mem_filter.1 this).2
    simp only [this, true_iff]; exact h1
/-- An order in which none but the same are alike. -/
structure STO {α : Type} (ls : α → α → Bool) : Prop where
  irr : ∀ p, ls p p = false
  tr : ∀ {p q r}, ls p q = true → ls q r = true → ls p r = true
  tot : ∀ {p q}, p ≠ q → ls p q = false → ls q p = true
theorem STO.asym {ls : α → α → Bool} (o : STO ls) {p q : α} (h : ls p q = true) : ls q p = false := by
  cases k : ls q p with
  | false => rfl
  | true => have := o.tr h k; rw [o.irr] at this; cases this
theorem STO.anti {ls : α → α → Bool} (o : STO ls) {p q : α} (h : ls p q = false) (k : ls q p = false) : p = q := by
  rcases Classical.em (p = q) with e | e
  · exact e
  · rw [o.tot e h] at k; cases k
theorem STO.le_tr {ls : α → α → Bool} (o : STO ls) {p q r : α} (h : ls q p = false) (k : ls r q = false) : ls r p = false := by
  cases e : ls r p with
  | false => rfl
  | true =>
    rcases Classical.em (p = q) with e1 | e1
    · subst e1; rw [e] at k; cases k
    · have := o.tr e (o.tot (Ne.symm e1) h)
      rw [this] at k; cases k
theorem sto_less : STO Pt.less := ⟨Pt.less_irrefl, Pt.less_trans, Pt.less_total⟩
/-- Strictly in order. -/
def AscO (ls : α → α → Bool) (l : List α) : Prop := l.Pairwise fun a b => ls a b = true
/-- In order. -/
def SrtO (ls : α → α → Bool) (l : List α) : Prop := l.Pairwise fun a b => ls b a = false
def putO (ls : α → α → Bool) (v : α) (l : List α) : List α := l.takeWhile (fun x => !ls v x) ++ v :: l.dropWhile (fun x => !ls v x)
def putKO (ls : α → α → Bool) (v : α) (l : List α) : Nat := (l.takeWhile (fun x => !ls v x)).length
section
variable {ls : α → α → Bool}
theorem AscO.srt (o : STO ls) {l : List α} (h : AscO ls l) : SrtO ls l := h.imp fun h => o.asym h
theorem SrtO.asc (o : STO ls) : ∀ {l : List α}, SrtO ls l → l.Nodup → AscO ls l
  | [], _, _ => .nil
  | a :: l, h, hn => by
    unfold SrtO at h
    rw [List.pairwise_cons] at h
    rw [List.nodup_cons] at hn
    exact List.pairwise_cons.2 ⟨fun b hb => o.tot (fun e => hn.1 (e ▸ hb)) (h.1 b hb), SrtO.asc o h.2 hn.2⟩
theorem putO_eq (v : α) (l : List α) : putO ls v l = l.take (putKO ls v l) ++ [v] ++ l.drop (putKO ls v l) := by
  have h := List.takeWhile_append_dropWhile (p := fun x => !ls v x) (l := l)
  have key : ∀ (a b : List α), a ++ b = l → l.take a.length = a ∧ l.drop a.length = b := by
    rintro a b rfl
    exact ⟨List.take_left, List.drop_left⟩
  obtain ⟨h1, h2⟩ := key _ _ h
  unfold putKO
  rw [h1, h2]
  simp [putO]
theorem putO_perm (v : α) (l : List α) : (putO ls v l).Perm (v :: l) := by
  unfold putO
  refine List.perm_middle.trans ?_
  rw [List.takeWhile_append_dropWhile]
theorem putO_length (v : α) (l : List α) : (putO ls v l).length = l.length + 1 := by rw [(putO_perm v l).length_eq]; rfl
theorem putO_asc (o : STO ls) (v : α) (l : List α) (ho : AscO ls l) (hv : v ∉ l) : AscO ls (putO ls v l) := by
  induction l with
  | nil => simp [putO, AscO]
  | cons b l ih =>
    have ho' := ho
    unfold AscO at ho
    rw [List.pairwise_cons] at ho
    cases hb : ls v b with
    | true =>
      have e : putO ls v (b :: l) = v :: b :: l := by simp [putO, hb]
      rw [e]
      unfold AscO
      rw [List.pairwise_cons]
      refine ⟨fun a ha => ?_, ho'⟩
      rcases List.mem_cons.1 ha with rfl | ha
      · exact hb
      · exact o.tr hb (ho.1 a ha)
    | false =>
      have e : putO ls v (b :: l) = b :: putO ls v l := by simp [putO, hb]
      rw [e]
      unfold AscO
      rw [List.pairwise_cons]
      refine ⟨fun a ha => ?_, ih ho.2 (fun h => hv (List.mem_cons_of_mem _ h))⟩
      rcases List.mem_cons.1 ((putO_perm v l).subset ha) with rfl | ha
      · exact o.tot (fun h => hv (by rw [h]; simp)) hb
      · exact ho.1 a ha
theorem AscO.nodup (o : STO ls) {l : List α} (h : AscO ls l) : l.Nodup := h.imp fun {a b} hab e => by subst e; rw [o.irr] at hab; cases hab
/-- Two lists in order of the same are one. -/
theorem SrtO.unique (o : STO ls) : ∀ {l m : List α}, SrtO ls l → SrtO ls m → l.Perm m → l = m
  | [], m, _, _, p => by simpa using p.symm.eq_nil
  | a :: l, [], _, _, p => by simpa using p.eq_nil
  | a :: l, b :: m, h1, h2, p => by
    unfold SrtO at h1 h2
    rw [List.pairwise_cons] at h1 h2
    have e : a = b := by
      have ha : a ∈ b :: m := p.subset (by simp)
      have hb : b ∈ a :: l := p.symm.subset (by simp)
      rcases List.mem_cons.1 ha with h | h
      · exact h
      · rcases List.mem_cons.1 hb with h' | h'
        · exact h'.symm
        · exact o.anti (h2.1 _ h) (h1.1 _ h')
    subst e
    rw [SrtO.unique o h1.2 h2.2 p.cons_inv]
theorem AscO.unique (o : STO ls) {l m : List α} (h1 : AscO ls l) (h2 : AscO ls m) (p : l.Perm m) : l = m := (h1.srt o).unique o (h2.srt o) p
theorem AscO.sub {l m : List α} (h : AscO ls m) (s : l.Sublist m) : AscO ls l := h.sublist s
def srtO (ls : α → α → Bool) (l : List α) : List α := l.mergeSort fun x y => !ls y x
theorem srtO_perm (l : List α) : (srtO ls l).Perm l := List.mergeSort_perm l _
theorem srtO_length (l : List α) : (srtO ls l).length = l.length := (srtO_perm l).length_eq
theorem srtO_sorted (o : STO ls) (l : List α) : SrtO ls (srtO ls l) := by
  have := List.pairwise_mergeSort (le := fun x y : α => !ls y x) (fun a b c h1 h2 => by
    simp only [Bool.not_eq_true'] at h1 h2 ⊢
    exact o.le_tr h1 h2) (fun a b => by
    cases h : ls b a with
    | false => simp
    | true => simp [o.asym h]) l
  exact this.imp fun h => by simpa using h
theorem srtO_eq (o : STO ls) {l m : List α} (h : SrtO ls m) (p : m.Perm l) : m = srtO ls l := h.unique o (srtO_sorted o l) (p.trans (srtO_perm l).symm)
theorem srtO_append (o : STO ls) (l q : List α) : srtO ls (srtO ls l ++ srtO ls q) = srtO ls (l ++ q) :=
  (srtO_eq o (srtO_sorted o _) ((srtO_perm _).trans ((srtO_perm l).append (srtO_perm q))))
theorem srtO_asc (o : STO ls) {l : List α} (h : l.Nodup) : AscO ls (srtO ls l) := (srtO_sorted o l).asc o ((srtO_perm l).nodup_iff.2 h)
/-- Where one stands, or would. -/
def loO (ls : α → α → Bool) (v : α) (l : List α) : Nat := l.countP (fun x => ls x v)
end
end Go.Proofs.YtkoncepjfgnjlaaGreat
/- make([]T, 0, n). No program stands in this text. -/
namespace Go.Proofs.YtkoncepjfgnjlaaGreat
open Go.RowKit
section
variable {P : Program} {g : Glob} {L M : List HP} {σ : Env} {d : Option Nat} {ty T T' : TypeId} {pos : String} {aft : Array Edge} {gd : Option (Nat × Bool)} {x y : Operand} {v : Value}
theorem eff_make0 {e sz by_ k : Nat} {kd kc : IntKind} {zs : List Value} [H : SliceT P T (e, sz, by_)] [HZ : ZeroT P e zs] (hx : ev σ x = some (.int kd 0)) (hy : ev σ y = some (.int kc (k : Int)))
    (hb : k * by_ ≤ 140737488355328) (hm : k ≤ 140737488355328) :
    Eff P g L σ ⟨d, .makeSlice T x y, ty, pos, aft, gd⟩ fun r L' => ∃ b', r = .slice (some ⟨b', 0, none⟩) 0 k ∧ L' = own e sz (some ⟨b', 0, none⟩) 0 k [] :: L := fun a w hs hw K Q hK => by
  obtain ⟨ti, zv, hu, hi, hsz, hby, hiz, hzv⟩ := H.zero HZ
  have hb' : (ti.bytes : Int) * (k : Int) ≤ 281474976710656 := by
    rw [hby]
    have h : ((by_ * k : Nat) : Int) ≤ 281474976710656 := by rw [Nat.mul_comm]; omega
    rwa [Int.natCast_mul] at h
  have hrun := run_make (P := P) w T e ti zv hu hi hiz kd kc 0 k (Int.le_refl _) (by omega) hb' (by omega)
  simp only [Int.toNat_zero, Int.toNat_natCast] at hrun
  unfold Oper.wp
  simp only [execOp, hs.eval hx, hs.eval hy]
  simp only [Sem.run_bind, Sem.run_pure, Result.andThen_ok, hrun]
  have hal := hw.alloc e (madeCells zv.cells (k * ti.size)).toList
  rw [Array.toArray_toList] at hal
  refine hK _ _ _ ⟨w.heap.size, rfl, rfl⟩ ?_
  obtain ⟨j1, j2, d2, t1, t2, hb2, l2⟩ := hal.s
  refine ⟨hal.g, j1, j2, d2, t1, t2, ?_, l2⟩
  have h9 := own.cls (sz := sz) (n := 0) (c := k) hb2 (by rw [Array.length_toList, size_madeCells, hsz]) (Nat.zero_le _) (by unfold maxLen; omega)
  simpa using h9
end
end Go.Proofs.YtkoncepjfgnjlaaGreat
/- Lists in order, by any order that has no equal ones: the walks (out of master/so.master). -/
namespace Go.Proofs.YtkoncepjfgnjlaaGreat
attribute [local irreducible] sat
set_option linter.unusedVariables false
set_option linter.unusedSimpArgs false
set_option maxRecDepth 100000

/-- A function that tells of an order. -/
structure LsT (f : FuncId) (ls : Pt → Pt → Bool) : Prop where
  ctr : ∀ (p q : Pt) (L : List HP), Ctr Tryz.prog f #[p.v, q.v] L fun v L' => v = .bool (ls p q) ∧ L' = L
theorem ld_ownP {b n c i : Nat} {T : TypeId} {l : List Pt} {x : Pt} (hn : l.length = n) (h : l[i]? = some x) (L : List HP) : LdN (own T 3 (some ⟨b, 0, none⟩) n c (flat l) :: L) b (0 + i * 3) 3 [.int .i64 x.id, .int .i64 x.x, .int .i64 x.y] := by
  have hlt : i < l.length := (List.getElem?_eq_some_iff.1 h).1
  have r : Rd (own T 3 (some ⟨b, 0, none⟩) n c (flat l) :: L) (some ⟨b, 0, none⟩) n l := Rc.own (by rw [flat_length, hn]; rfl) (fun _ => ⟨b, rfl⟩)
  obtain ⟨_, _, e, hx⟩ := r.at_ (by omega)
  cases e
  exact hx i x h
theorem by_swapP {A R : List Pt} {x p : Pt} {k : Nat} (hk : k = A.length + 1) : ((A ++ p :: x :: R).set k p).set (k - 1) x = A ++ x :: p :: R ∧ (A ++ p :: x :: R)[k]? = some x ∧ (A ++ p :: x :: R)[k - 1]? = some p := by
  subst hk
  refine ⟨?_, ?_, ?_⟩
  · simp [List.set_append]
  · simp [List.getElem?_append]
  · simp
theorem setN_pt (l : List Pt) (i : Nat) (a : Pt) (hi : i < l.length) : setN (flat l) (0 + i * 3) [.int .i64 a.id, .int .i64 a.x, .int .i64 a.y] = flat (l.set i a) := by
  rw [Nat.zero_add]; exact flat_setN l i a hi
section
variable {f : FuncId} [CalT Tryz.prog f] {ls : Pt → Pt → Bool} (o : STO ls) (hf : LsT f ls)
include o hf
theorem byO_ctr (A : Option Addr) (n c : Nat) (l : List Pt) (L : List HP) (hl : Rd L A n l) (hn : n ≤ 1000000) :
    Ctr Tryz.prog 141 #[.slice A n c, .func (.func f) #[] #[]] L fun v L' => Made 28 (srtO ls l) L v L' := by
  have h1 : l.length = n := hl.len (by decide)
  refine Ctr_of (fn := Tryz.f141) (n := 51) Tryz.func141 rfl rfl rfl ?_
  intro g F
  refine GN ?_
  refine G_region ?_
  refine GQ (ev_assign rfl) ?_
  refine GO_nil ?_
  refine GN ?_
  refine G_region ?_
  refine GQ (ev_move rfl) ?_
  refine GE (eff_call rfl (Clone_ctr A n c l _ RdA hn)) ?_; rintro _ _ ⟨B, e, rfl, hB, rfl⟩
  refine GQ (ev_assign rfl) ?_
  refine GO_nil ?_
  refine GN ?_
  refine G_region ?_
  refine GQ (ev_move rfl) ?_
  refine GQ (ev_len rfl) ?_
  refine GQ (ev_move rfl) ?_
  refine GO_nil ?_
  refine GN ?_
  refine G_loop (ι := Nat × List Pt) (fun z => [(1, .func (.func f) #[] #[]), (5, .slice B n e), (11, .int .i64 (n : Nat)), (12, .int .i64 (z.1 : Nat))]) (fun z => own 28 3 B n e (flat z.2) :: F :: L) (fun z => z.1 ≤ n ∧ z.2.Perm l ∧ SrtO ls (z.2.take z.1)) (fun z => n - z.1) (0, l) ⟨Nat.zero_le _, .refl _, by simp [SrtO]⟩ ⟨rfl, by rw [← h1]; rfl, by rw [← h1]; rfl, rfl, trivial⟩ (by rw [← h1]; exact EpA) ?_
  rintro ⟨i, m⟩ ⟨f1, f2, f3⟩
  simp only at f1 f2 f3
  dsimp only
  have hm : m.length = n := by rw [f2.length_eq, h1]
  refine GN ?_
  refine G_region ?_
  (first | refine GQ (ev_lssN rfl rfl) ?_ | refine GQ (ev_lss rfl rfl) ?_)
  refine GO_nil ?_
  refine GN ?_
  refine G_cond rfl (fun c1 => ?_) (fun c1 => ?_)
  · refine GN ?_
    refine G_region ?_
    refine GQ (ev_move rfl) ?_
    refine GQ (ev_assign rfl) ?_
    refine GO_nil ?_
    refine GN ?_
    refine G_region ?_
    refine GQ (ev_move rfl) ?_
    refine GQ (ev_assign rfl) ?_
    refine GO_nil ?_
    have hxi : m[i]? = some m[i] := List.getElem?_eq_getElem (by omega)
    have hsp : m = m.take i ++ m[i] :: m.drop (i + 1) := by
      conv => lhs; rw [← List.take_append_drop i m, List.drop_eq_getElem_cons (by omega)]
    have hPl : (m.take i).length = i := by rw [List.length_take]; omega
    obtain ⟨b, rfl⟩ := hB (by omega)
    generalize m[i] = x at *
    generalize m.take i = P at *
    generalize m.drop (i + 1) = D at *
    refine GN ?_
    refine G_loop (ι := Nat) (fun k => [(1, .func (.func f) #[] #[]), (5, .slice (some ⟨b, 0, none⟩) n e), (11, .int .i64 (n : Nat)), (12, .int .i64 (i : Nat)), (7, .int .i64 (k : Nat))]) (fun k => own 28 3 (some ⟨b, 0, none⟩) n e (flat (P.take k ++ x :: (P.drop k ++ D))) :: F :: L) (fun k => k ≤ i ∧ ∀ y ∈ P.drop k, ls x y = true) (fun k => k) i ⟨Nat.le_refl _, by rw [List.drop_of_length_le (by omega)]; simp⟩ ⟨rfl, rfl, rfl, rfl, rfl, trivial⟩ (by rw [List.take_of_length_le (by omega), List.drop_of_length_le (by omega), List.nil_append, ← hsp]; exact fun _ s => s) ?_
    rintro k ⟨q1, q2⟩
    by_cases c2 : 0 < k
    · have hg : P[k - 1]? = some P[k - 1] := List.getElem?_eq_getElem (by omega)
      have e1 : P.take k = P.take (k - 1) ++ [P[k - 1]] := by
        have := List.take_succ_eq_append_getElem (l := P) (i := k - 1) (by omega)
        rwa [show k - 1 + 1 = k by omega] at this
      have e2 : P.drop (k - 1) = P[k - 1] :: P.drop k := by
        have := List.drop_eq_getElem_cons (l := P) (i := k - 1) (by omega)
        rwa [show k - 1 + 1 = k by omega] at this
      have hAl : (P.take (k - 1)).length = k - 1 := by rw [List.length_take]; omega
      have hlen : (P.take k ++ x :: (P.drop k ++ D)).length = n := by
        rw [← hm, hsp]; simp; omega
      generalize P[k - 1] = p at *
      obtain ⟨s1, s2, s3⟩ := by_swapP (A := P.take (k - 1)) (R := P.drop k ++ D) (x := x) (p := p) (k := k) (by omega)
      have e3 : P.take k ++ x :: (P.drop k ++ D) = P.take (k - 1) ++ p :: x :: (P.drop k ++ D) := by rw [e1]; simp
      have e4 : P.take (k - 1) ++ x :: (P.drop (k - 1) ++ D) = P.take (k - 1) ++ x :: p :: (P.drop k ++ D) := by rw [e2]; simp
      rw [← e3] at s1 s2 s3
      cases c3 : ls x p with
      | true =>
        refine GN ?_
        refine G_draw (.q 0 (.q 1 (.q 2 (.q 3 (.q 4 (.q 5 (.q 6 (.q 7 (.q 8 (.q 9 (.q 10 (.q 11 (.q 12 (.e 13 (.q 14 .nil))))))))))))))) (by kernel_rfl) (by kernel_rfl) ?_
        refine RM rfl (ev_move rfl) ?_
        refine RM rfl (ev_gtr rfl rfl) ?_
        refine RM rfl (ev_move rfl) ?_
        refine RS_m_yes retB_noPanic rfl rfl rfl rfl ⟨_, rfl, (decide_eq_true (by omega))⟩ rfl (ev_move rfl) ?_
        refine RS_m_yes retB_noPanic rfl rfl rfl rfl ⟨_, rfl, (decide_eq_true (by omega))⟩ rfl (ev_move rfl) ?_
        refine RS_m_yes retB_noPanic rfl rfl rfl rfl ⟨_, rfl, (decide_eq_true (by omega))⟩ rfl (ev_move rfl) ?_
        (first | refine RS_m_yes retB_noPanic rfl rfl rfl rfl ⟨_, rfl, (decide_eq_true (by omega))⟩ rfl (ev_indexAddrN rfl rfl NgA) ?_ | refine RS_m_yes retB_noPanic rfl rfl rfl rfl ⟨_, rfl, (decide_eq_true (by omega))⟩ rfl (ev_indexAddr rfl rfl NgA NgA) ?_)
        refine RS_q_yes retB_noPanic rfl rfl rfl rfl ⟨_, rfl, (decide_eq_true (by omega))⟩ rfl (ev_loadN rfl (by repeat' first | exact ld_ownP hlen s2 _ | apply LdN.skip)) ?_
        refine RS_m_yes retB_noPanic rfl rfl rfl rfl ⟨_, rfl, (decide_eq_true (by omega))⟩ rfl (ev_move rfl) ?_
        refine RS_m_yes retB_noPanic rfl rfl rfl rfl ⟨_, rfl, (decide_eq_true (by omega))⟩ rfl (ev_move rfl) ?_
        (first | refine RS_m_yes retB_noPanic rfl rfl rfl rfl ⟨_, rfl, (decide_eq_true (by omega))⟩ rfl (ev_subN (q := 1) rfl rfl NgA) ?_ | refine RS_m_yes retB_noPanic rfl rfl rfl rfl ⟨_, rfl, (decide_eq_true (by omega))⟩ rfl (ev_sub rfl rfl NgA) ?_)
        (first | refine RS_m_yes retB_noPanic rfl rfl rfl rfl ⟨_, rfl, (decide_eq_true (by omega))⟩ rfl (ev_indexAddrN rfl rfl NgA) ?_ | refine RS_m_yes retB_noPanic rfl rfl rfl rfl ⟨_, rfl, (decide_eq_true (by omega))⟩ rfl (ev_indexAddr rfl rfl NgA NgA) ?_)
        refine RS_q_yes retB_noPanic rfl rfl rfl rfl ⟨_, rfl, (decide_eq_true (by omega))⟩ rfl (ev_loadN rfl (by repeat' first | exact ld_ownP hlen s3 _ | apply LdN.skip)) ?_
        refine RS_e (RE_eff_yes rfl rfl rfl ⟨_, rfl, (decide_eq_true (by omega))⟩ rfl (eff_callv rfl rfl (hf.ctr x p _)) ?_); rintro _ _ ⟨rfl, rfl⟩; refine ⟨_, fun _ s => s, ExA, ?_⟩
        refine RM rfl (ev_pick_t rfl (decide_eq_true (by omega)) rfl) ?_
        refine RS_nil ?_
        refine GN ?_
        refine G_cond_t rfl c3 ?_
        refine GN ?_
        refine G_draw (.q 0 (.q 1 (.q 2 (.q 3 (.q 4 (.q 5 (.q 6 (.q 7 (.q 8 (.q 9 (.q 10 (.q 11 (.q 12 (.q 13 (.q 14 (.e 15 (.q 16 (.e 17 .nil)))))))))))))))))) (by kernel_rfl) (by kernel_rfl) ?_
        refine RM rfl (ev_move rfl) ?_
        refine RM rfl (ev_move rfl) ?_
        refine RM rfl (ev_move rfl) ?_
        refine RM rfl (ev_move rfl) ?_
        (first | refine RM rfl (ev_subN (q := 1) rfl rfl NgA) ?_ | refine RM rfl (ev_sub rfl rfl NgA) ?_)
        refine RM rfl (ev_move rfl) ?_
        refine RM rfl (ev_move rfl) ?_
        (first | refine RM rfl (ev_subN (q := 1) rfl rfl NgA) ?_ | refine RM rfl (ev_sub rfl rfl NgA) ?_)
        (first | refine RM rfl (ev_indexAddrN rfl rfl NgA) ?_ | refine RM rfl (ev_indexAddr rfl rfl NgA NgA) ?_)
        refine RQ rfl (ev_loadN rfl (by repeat' first | exact ld_ownP hlen s3 _ | apply LdN.skip)) ?_
        refine RM rfl (ev_move rfl) ?_
        refine RM rfl (ev_move rfl) ?_
        (first | refine RM rfl (ev_indexAddrN rfl rfl NgA) ?_ | refine RM rfl (ev_indexAddr rfl rfl NgA NgA) ?_)
        refine RQ rfl (ev_loadN rfl (by repeat' first | exact ld_ownP hlen s2 _ | apply LdN.skip)) ?_
        (first | refine RM rfl (ev_indexAddrN rfl rfl NgA) ?_ | refine RM rfl (ev_indexAddr rfl rfl NgA NgA) ?_)
        refine RS_e (RE_cmp (by kernel_rfl) rfl rfl rfl ((eff_storeNO (vs := [.int .i64 p.id, .int .i64 p.x, .int .i64 p.y]) rfl rfl rfl rfl PkA (by simp only [List.length_cons, List.length_nil]; omega))) ?_); rintro _ _ ⟨rfl, rfl⟩
        (first | refine RM rfl (ev_indexAddrN rfl rfl NgA) ?_ | refine RM rfl (ev_indexAddr rfl rfl NgA NgA) ?_)
        refine RS_e (RE_last (by kernel_rfl) rfl rfl rfl ((eff_storeNO (vs := [.int .i64 x.id, .int .i64 x.x, .int .i64 x.y]) rfl rfl rfl rfl PkA (by simp only [List.length_cons, List.length_nil]; omega))) ?_); rintro _ _ ⟨rfl, rfl⟩
        rw [setN_pt _ _ _ (by omega), setN_pt _ _ _ (by rw [List.length_set]; omega), s1, ← e4]
        refine GN ?_
        refine G_region ?_
        refine GQ (ev_move rfl) ?_
        (first | refine GQ (ev_subN (q := 1) rfl rfl NgA) ?_ | refine GQ (ev_sub rfl rfl NgA) ?_)
        refine GQ (ev_assign rfl) ?_
        refine GO_nil ?_
        refine GN ?_
        exact G_round (k - 1) ⟨by omega, by rw [e2]; exact fun y hy => (List.mem_cons.1 hy).elim (fun h => h ▸ c3) (q2 y)⟩ (by omega) ⟨rfl, rfl, rfl, rfl, rfl, trivial⟩ (fun _ s => s)
      | false =>
        refine GN ?_
        refine G_draw (.q 0 (.q 1 (.q 2 (.q 3 (.q 4 (.q 5 (.q 6 (.q 7 (.q 8 (.q 9 (.q 10 (.q 11 (.q 12 (.e 13 (.q 14 .nil))))))))))))))) (by kernel_rfl) (by kernel_rfl) ?_
        refine RM rfl (ev_move rfl) ?_
        refine RM rfl (ev_gtr rfl rfl) ?_
        refine RM rfl (ev_move rfl) ?_
        refine RS_m_yes retB_noPanic rfl rfl rfl rfl ⟨_, rfl, (decide_eq_true (by omega))⟩ rfl (ev_move rfl) ?_
        refine RS_m_yes retB_noPanic rfl rfl rfl rfl ⟨_, rfl, (decide_eq_true (by omega))⟩ rfl (ev_move rfl) ?_
        refine RS_m_yes retB_noPanic rfl rfl rfl rfl ⟨_, rfl, (decide_eq_true (by omega))⟩ rfl (ev_move rfl) ?_
        (first | refine RS_m_yes retB_noPanic rfl rfl rfl rfl ⟨_, rfl, (decide_eq_true (by omega))⟩ rfl (ev_indexAddrN rfl rfl NgA) ?_ | refine RS_m_yes retB_noPanic rfl rfl rfl rfl ⟨_, rfl, (decide_eq_true (by omega))⟩ rfl (ev_indexAddr rfl rfl NgA NgA) ?_)
        refine RS_q_yes retB_noPanic rfl rfl rfl rfl ⟨_, rfl, (decide_eq_true (by omega))⟩ rfl (ev_loadN rfl (by repeat' first | exact ld_ownP hlen s2 _ | apply LdN.skip)) ?_
        refine RS_m_yes retB_noPanic rfl rfl rfl rfl ⟨_, rfl, (decide_eq_true (by omega))⟩ rfl (ev_move rfl) ?_
        refine RS_m_yes retB_noPanic rfl rfl rfl rfl ⟨_, rfl, (decide_eq_true (by omega))⟩ rfl (ev_move rfl) ?_
        (first | refine RS_m_yes retB_noPanic rfl rfl rfl rfl ⟨_, rfl, (decide_eq_true (by omega))⟩ rfl (ev_subN (q := 1) rfl rfl NgA) ?_ | refine RS_m_yes retB_noPanic rfl rfl rfl rfl ⟨_, rfl, (decide_eq_true (by omega))⟩ rfl (ev_sub rfl rfl NgA) ?_)
        (first | refine RS_m_yes retB_noPanic rfl rfl rfl rfl ⟨_, rfl, (decide_eq_true (by omega))⟩ rfl (ev_indexAddrN rfl rfl NgA) ?_ | refine RS_m_yes retB_noPanic rfl rfl rfl rfl ⟨_, rfl, (decide_eq_true (by omega))⟩ rfl (ev_indexAddr rfl rfl NgA NgA) ?_)
        refine RS_q_yes retB_noPanic rfl rfl rfl rfl ⟨_, rfl, (decide_eq_true (by omega))⟩ rfl (ev_loadN rfl (by repeat' first | exact ld_ownP hlen s3 _ | apply LdN.skip)) ?_
        refine RS_e (RE_eff_yes rfl rfl rfl ⟨_, rfl, (decide_eq_true (by omega))⟩ rfl (eff_callv rfl rfl (hf.ctr x p _)) ?_); rintro _ _ ⟨rfl, rfl⟩; refine ⟨_, fun _ s => s, ExA, ?_⟩
        refine RM rfl (ev_pick_t rfl (decide_eq_true (by omega)) rfl) ?_
        refine RS_nil ?_
        refine GN ?_
        refine G_cond_f rfl c3 ?_
        refine GN ?_
        refine G_region ?_
        (first | refine GQ (ev_addN (q := 1) rfl rfl NgA) ?_ | refine GQ (ev_add rfl rfl NgA) ?_)
        refine GQ (ev_move rfl) ?_
        refine GO_nil ?_
        refine GN ?_
        refine G_round (i + 1, P.take k ++ x :: (P.drop k ++ D)) ⟨by simp only; omega, ?_, ?_⟩ (by simp only; omega) ⟨rfl, rfl, rfl, rfl, trivial⟩ (fun _ s => s)
        · refine List.Perm.trans ?_ f2
          rw [hsp]
          simp only
          refine (List.perm_middle).trans (List.Perm.trans ?_ (List.perm_middle).symm)
          rw [← List.append_assoc, List.take_append_drop]
        · simp only
          have e5 : (P.take k ++ x :: (P.drop k ++ D)).take (i + 1) = P.take k ++ x :: P.drop k := by
            have : P.take k ++ x :: (P.drop k ++ D) = (P.take k ++ x :: P.drop k) ++ D := by simp
            rw [this, List.take_append_of_le_length (by simp; omega), List.take_of_length_le (by simp; omega)]
          rw [e5]
          unfold SrtO at f3 ⊢
          rw [← List.take_append_drop k P, List.pairwise_append] at f3
          rw [List.pairwise_append]
          refine ⟨f3.1, List.pairwise_cons.2 ⟨fun y hy => o.asym (q2 y hy), f3.2.1⟩, ?_⟩
          have hpx : ∀ a ∈ P.take k, ls x a = false := by
            rw [e1]
            intro a ha
            rcases List.mem_append.1 ha with ha | ha
            · have h9 := f3.1
              rw [e1, List.pairwise_append] at h9
              exact o.le_tr (h9.2.2 a ha p (by simp)) c3
            · simp at ha; subst ha; exact c3
          intro a ha y hy
          rcases List.mem_cons.1 hy with rfl | hy
          · exact hpx a ha
          · exact f3.2.2 a ha y hy
    · have e0 : k = 0 := by omega
      subst e0
      refine GN ?_
      refine G_draw (.q 0 (.q 1 (.q 2 (.q 3 (.q 4 (.q 5 (.q 6 (.q 7 (.q 8 (.q 9 (.q 10 (.q 11 (.q 12 (.e 13 (.q 14 .nil))))))))))))))) (by kernel_rfl) (by kernel_rfl) ?_
      refine RM rfl (ev_move rfl) ?_
      refine RM rfl (ev_gtr rfl rfl) ?_
      refine RM rfl (ev_move rfl) ?_
      refine RS_q_no retB_noPanic rfl rfl rfl ⟨_, rfl, (decide_eq_false (by omega))⟩ rfl ?_
      refine RS_q_no retB_noPanic rfl rfl rfl ⟨_, rfl, (decide_eq_false (by omega))⟩ rfl ?_
      refine RS_q_no retB_noPanic rfl rfl rfl ⟨_, rfl, (decide_eq_false (by omega))⟩ rfl ?_
      refine RS_q_no retB_noPanic rfl rfl rfl ⟨_, rfl, (decide_eq_false (by omega))⟩ rfl ?_
      refine RS_q_no retB_noPanic rfl rfl rfl ⟨_, rfl, (decide_eq_false (by omega))⟩ rfl ?_
      refine RS_q_no retB_noPanic rfl rfl rfl ⟨_, rfl, (decide_eq_false (by omega))⟩ rfl ?_
      refine RS_q_no retB_noPanic rfl rfl rfl ⟨_, rfl, (decide_eq_false (by omega))⟩ rfl ?_
      refine RS_q_no retB_noPanic rfl rfl rfl ⟨_, rfl, (decide_eq_false (by omega))⟩ rfl ?_
      refine RS_q_no retB_noPanic rfl rfl rfl ⟨_, rfl, (decide_eq_false (by omega))⟩ rfl ?_
      refine RS_q_no retB_noPanic rfl rfl rfl ⟨_, rfl, (decide_eq_false (by omega))⟩ rfl ?_
      refine RS_e (RE_no rfl rfl rfl ⟨_, rfl, (decide_eq_false (by omega))⟩ rfl ?_)
      refine RM rfl (ev_pick_f rfl (decide_eq_false (by omega)) rfl) ?_
      refine RS_nil ?_
      refine GN ?_
      refine G_cond_f rfl rfl ?_
      refine GN ?_
      refine G_region ?_
      (first | refine GQ (ev_addN (q := 1) rfl rfl NgA) ?_ | refine GQ (ev_add rfl rfl NgA) ?_)
      refine GQ (ev_move rfl) ?_
      refine GO_nil ?_
      refine GN ?_
      refine G_round (i + 1, x :: (P ++ D)) ⟨by simp only; omega, ?_, ?_⟩ (by simp only; omega) ⟨rfl, rfl, rfl, rfl, trivial⟩ (fun _ s => s)
      · refine List.Perm.trans ?_ f2
        rw [hsp]
        exact (List.perm_middle).symm
      · simp only
        unfold SrtO at f3 ⊢
        rw [List.take_succ_cons, List.take_append_of_le_length (by omega), List.take_of_length_le (by omega)]
        exact List.pairwise_cons.2 ⟨fun y hy => o.asym (q2 y (by simpa using hy)), f3⟩
  · have e9 : i = n := by omega
    subst e9
    have : m = srtO ls l := srtO_eq o (by rwa [List.take_of_length_le (by omega)] at f3) f2
    subst this
    refine GN ?_
    refine G_region ?_
    refine GQ (ev_move rfl) ?_
    refine GQ (ev_assign rfl) ?_
    refine GO_nil ?_
    refine GN ?_
    refine G_ret (L' := own 28 3 B (srtO ls l).length e (flat (srtO ls l)) :: L) rfl (.tmp rfl .nil) ?_ ⟨B, e, by rw [hm]; rfl, by rw [hm]; exact fun h => hB (by omega), rfl⟩
    rw [hm]
    exact EpA
theorem mergeO_ctr (A B : Option Addr) (n m c d : Nat) (l q : List Pt) (L : List HP) (hl : Rd L A n l) (hq : Rd L B m q) (hn : n ≤ 1000000) (hm : m ≤ 1000000) (hc : n ≤ c) (hd : m ≤ d) (sl : SrtO ls l) (sq : SrtO ls q) :
    Ctr Tryz.prog 94 #[.slice A n c, .slice B m d, .func (.func f) #[] #[]] L fun v L' => Made 28 (srtO ls (l ++ q)) L v L' := by
  have h1 : l.length = n := hl.len (by decide)
  have h2 : q.length = m := hq.len (by decide)
  refine Ctr_of (fn := Tryz.f94) (n := 51) Tryz.func94 rfl rfl rfl ?_
  intro g F
  refine GN ?_
  refine G_region ?_
  refine GQ (ev_assign rfl) ?_
  refine GO_nil ?_
  refine GN ?_
  refine G_region ?_
  refine GQ (ev_move rfl) ?_
  refine GQ (ev_len rfl) ?_
  refine GQ (ev_move rfl) ?_
  refine GQ (ev_len rfl) ?_
  (first | refine GQ (ev_addN rfl rfl NgA) ?_ | refine GQ (ev_add rfl rfl NgA) ?_)
  refine GE (eff_make0 rfl rfl (by omega) (by omega)) ?_; rintro _ _ ⟨b13, rfl, rfl⟩
  refine GQ (ev_assign rfl) ?_
  refine GO_nil ?_
  refine GN ?_
  refine G_loop (ι := (Option Addr × Nat × List Pt) × (Option Addr × Nat × List Pt) × (Option Addr × Nat × List Pt)) (fun z => [(2, .func (.func f) #[] #[]), (0, .slice z.1.1 z.1.2.2.length z.1.2.1), (1, .slice z.2.1.1 z.2.1.2.2.length z.2.1.2.1), (7, .slice z.2.2.1 z.2.2.2.2.length z.2.2.2.1)]) (fun z => own 28 3 z.2.2.1 z.2.2.2.2.length z.2.2.2.1 (flat z.2.2.2.2) :: F :: L)
    (fun z => (Rd L z.1.1 z.1.2.2.length z.1.2.2 ∧ z.1.2.2.length ≤ z.1.2.1 ∧ SrtO ls z.1.2.2) ∧ (Rd L z.2.1.1 z.2.1.2.2.length z.2.1.2.2 ∧ z.2.1.2.2.length ≤ z.2.1.2.1 ∧ SrtO ls z.2.1.2.2) ∧ (z.2.2.2.2 ++ (z.1.2.2 ++ z.2.1.2.2)).Perm (l ++ q) ∧ SrtO ls z.2.2.2.2 ∧ (∀ w ∈ z.2.2.2.2, ∀ x ∈ z.1.2.2 ++ z.2.1.2.2, ls x w = false) ∧ (0 < z.2.2.2.2.length → ∃ b, z.2.2.1 = some ⟨b, 0, none⟩)) (fun z => z.1.2.2.length + z.2.1.2.2.length) ((A, c, l), (B, d, q), (some ⟨b13, 0, none⟩, n + m, [])) ⟨⟨by rw [h1]; exact hl, by simp only; omega, sl⟩, ⟨by rw [h2]; exact hq, by simp only; omega, sq⟩, .refl _, .nil, by simp, fun _ => ⟨b13, rfl⟩⟩ ⟨rfl, by rw [← h1]; rfl, by rw [← h2]; rfl, rfl, trivial⟩ EpA ?_
  rintro ⟨⟨A1, c1, l1⟩, ⟨B1, d1, q1⟩, ⟨O, e, w⟩⟩ ⟨⟨f1, f2, f3⟩, ⟨k1, k2, k3⟩, hp, so, hle, hO⟩
  simp only at f1 f2 f3 k1 k2 k3 hp so hle hO
  dsimp only
  have hlen : w.length + (l1.length + q1.length) = n + m := by
    have := hp.length_eq
    simpa [h1, h2] using this
  refine G_pure (fun h s => own.facts (s)) ?_
  rintro ⟨w1, w2, w3, w4⟩
  unfold maxLen at w3
  by_cases hz : 0 < l1.length ∧ 0 < q1.length
  · obtain ⟨ab, ao, rfl, ax⟩ := f1.at_ hz.1
    obtain ⟨bb, bo, rfl, bx⟩ := k1.at_ hz.2
    obtain ⟨x, l2, rfl⟩ : ∃ x l2, l1 = x :: l2 := by cases l1 with
      | nil => simp at hz
      | cons x l2 => exact ⟨x, l2, rfl⟩
    obtain ⟨y, q2, rfl⟩ : ∃ y q2, q1 = y :: q2 := by cases q1 with
      | nil => simp at hz
      | cons y q2 => exact ⟨y, q2, rfl⟩
    have x1 : LdN L ab (ao + 0 * 3) 3 [.int .i64 x.id, .int .i64 x.x, .int .i64 x.y] := ax 0 x rfl
    have y1 : LdN L bb (bo + 0 * 3) 3 [.int .i64 y.id, .int .i64 y.x, .int .i64 y.y] := bx 0 y rfl
    unfold SrtO at f3 k3 so
    rw [List.pairwise_cons] at f3 k3
    simp only [List.length_cons] at *
    refine GN ?_
    refine G_region ?_
    refine GQ (ev_move rfl) ?_
    refine GQ (ev_len rfl) ?_
    refine GQ (ev_gtr rfl rfl) ?_
    refine GQ (ev_move rfl) ?_
    refine GO_yes rfl rfl rfl (decide_eq_true (by omega)) ?_
    refine GQ (ev_move rfl) ?_
    refine GO_yes rfl rfl rfl (decide_eq_true (by omega)) ?_
    refine GQ (ev_len rfl) ?_
    refine GO_yes rfl rfl rfl (decide_eq_true (by omega)) ?_
    refine GQ (ev_gtr rfl rfl) ?_
    refine GQ (ev_pick_t rfl (decide_eq_true (by omega)) rfl) ?_
    refine GO_nil ?_
    refine GN ?_
    refine G_cond_t rfl (decide_eq_true (by omega)) ?_
    refine GN ?_
    refine G_draw (.q 0 (.q 1 (.q 2 (.q 3 (.q 4 (.q 5 (.q 6 (.e 7 .nil)))))))) (by kernel_rfl) (by kernel_rfl) ?_
    refine RM rfl (ev_move rfl) ?_
    refine RM rfl (ev_move rfl) ?_
    (first | refine RM rfl (ev_indexAddrN rfl rfl NgA) ?_ | refine RM rfl (ev_indexAddr rfl rfl NgA NgA) ?_)
    refine RQ rfl (ev_loadN rfl LnA) ?_
    refine RM rfl (ev_move rfl) ?_
    (first | refine RM rfl (ev_indexAddrN rfl rfl NgA) ?_ | refine RM rfl (ev_indexAddr rfl rfl NgA NgA) ?_)
    refine RQ rfl (ev_loadN rfl LnA) ?_
    refine RS_e (RE_last (by kernel_rfl) rfl rfl rfl (eff_callv rfl rfl (hf.ctr y x _)) ?_); rintro _ _ ⟨rfl, rfl⟩
    cases hyx : ls y x with
    | true =>
      refine GN ?_
      refine G_cond_t rfl rfl ?_
      refine GN ?_
      refine G_drawE 0 (.q 0 (.q 1 (.q 2 (.q 3 (.q 6 (.q 7 (.e 4 (.e 5 (.q 8 (.q 9 .nil)))))))))) (by kernel_rfl) (by kernel_rfl) ?_
      refine RM rfl (ev_move rfl) ?_
      refine RM rfl (ev_move rfl) ?_
      (first | refine RM rfl (ev_indexAddrN rfl rfl NgA) ?_ | refine RM rfl (ev_indexAddr rfl rfl NgA NgA) ?_)
      refine RQ rfl (ev_loadN rfl LnA) ?_
      refine RM rfl (ev_move rfl) ?_
      refine RQ rfl (ev_sliceL rfl rfl NgA NgA) ?_
      refine RS_e (RE_eff rfl rfl rfl (eff_buildSlice1 (by rfl) rfl rfl) ?_); rintro _ _ ⟨b34, rfl, rfl⟩; refine ⟨_, ExA, fun _ s => s, ?_⟩
      refine RS_e (RE_eff rfl rfl rfl (eff_append rfl rfl PkA (by repeat' first | exact Rc.blk rfl | assumption | apply Rc.skip) (one_all rfl) (by rfl) (by decide) NgA NgA) ?_); rintro _ _ ⟨A35, c35, rfl, hc35, hm35, hn35, rfl⟩; refine ⟨_, ExA, fun _ s => s, ?_⟩
      refine RM rfl (ev_assign rfl) ?_
      refine RM rfl (ev_assign rfl) ?_
      refine RS_nil ?_
      refine GN ?_
      exact G_round ((some ⟨ab, ao, none⟩, c1, x :: l2), (some ⟨bb, (if d1 = 1 then bo else bo + 1 * 3), none⟩, d1 - 1, q2), (A35, c35, w ++ [y])) ⟨⟨f1, f2, List.pairwise_cons.2 f3⟩, ⟨k1.drop (k := 1) (c := d1) (by omega) k2, by simp only; omega, k3.2⟩, by
          refine List.Perm.trans ?_ hp
          simp only [List.append_assoc]
          refine List.Perm.append_left w ?_
          exact (List.perm_middle (l₁ := x :: l2)).symm, by
          simp only
          unfold SrtO
          rw [List.pairwise_append]
          exact ⟨so, by simp, fun a ha b hb => by simp at hb; subst hb; exact hle a ha _ (by simp)⟩, by
          simp only
          intro a ha b hb
          rcases List.mem_append.1 ha with ha | ha
          · exact hle a ha b (by simp at hb ⊢; rcases hb with h | h | h <;> simp [h])
          · simp at ha; subst ha
            rcases List.mem_append.1 hb with hb | hb
            · rcases List.mem_cons.1 hb with rfl | hb
              · exact o.asym hyx
              · exact o.le_tr (o.asym hyx) (f3.1 b hb)
            · exact k3.1 b hb, fun _ => hn35 (by omega)⟩ (by simp only [List.length_cons]; omega) ⟨rfl, rfl, rfl, by rw [List.length_append]; rfl, trivial⟩ (by
          have e5 : flat (w ++ [y]) = flat w ++ [.int .i64 y.id, .int .i64 y.x, .int .i64 y.y] := (flat_snoc w y).symm
          simp only [List.length_append, List.length_singleton, e5]
          exact EpA)
    | false =>
      refine GN ?_
      refine G_cond_f rfl rfl ?_
      refine GN ?_
      refine G_drawE 0 (.q 0 (.q 1 (.q 2 (.q 3 (.q 6 (.q 7 (.e 4 (.e 5 (.q 8 (.q 9 .nil)))))))))) (by kernel_rfl) (by kernel_rfl) ?_
      refine RM rfl (ev_move rfl) ?_
      refine RM rfl (ev_move rfl) ?_
      (first | refine RM rfl (ev_indexAddrN rfl rfl NgA) ?_ | refine RM rfl (ev_indexAddr rfl rfl NgA NgA) ?_)
      refine RQ rfl (ev_loadN rfl LnA) ?_
      refine RM rfl (ev_move rfl) ?_
      refine RQ rfl (ev_sliceL rfl rfl NgA NgA) ?_
      refine RS_e (RE_eff rfl rfl rfl (eff_buildSlice1 (by rfl) rfl rfl) ?_); rintro _ _ ⟨b42, rfl, rfl⟩; refine ⟨_, ExA, fun _ s => s, ?_⟩
      refine RS_e (RE_eff rfl rfl rfl (eff_append rfl rfl PkA (by repeat' first | exact Rc.blk rfl | assumption | apply Rc.skip) (one_all rfl) (by rfl) (by decide) NgA NgA) ?_); rintro _ _ ⟨A43, c43, rfl, hc43, hm43, hn43, rfl⟩; refine ⟨_, ExA, fun _ s => s, ?_⟩
      refine RM rfl (ev_assign rfl) ?_
      refine RM rfl (ev_assign rfl) ?_
      refine RS_nil ?_
      refine GN ?_
      exact G_round ((some ⟨ab, (if c1 = 1 then ao else ao + 1 * 3), none⟩, c1 - 1, l2), (some ⟨bb, bo, none⟩, d1, y :: q2), (A43, c43, w ++ [x])) ⟨⟨f1.drop (k := 1) (c := c1) (by omega) f2, by simp only; omega, f3.2⟩, ⟨k1, k2, List.pairwise_cons.2 k3⟩, by
          refine List.Perm.trans ?_ hp
          simp only [List.append_assoc]
          exact .refl _, by
          simp only
          unfold SrtO
          rw [List.pairwise_append]
          exact ⟨so, by simp, fun a ha b hb => by simp at hb; subst hb; exact hle a ha _ (by simp)⟩, by
          simp only
          intro a ha b hb
          rcases List.mem_append.1 ha with ha | ha
          · exact hle a ha b (by simp at hb ⊢; rcases hb with h | h | h <;> simp [h])
          · simp at ha; subst ha
            rcases List.mem_append.1 hb with hb | hb
            · exact f3.1 b hb
            · rcases List.mem_cons.1 hb with rfl | hb
              · exact hyx
              · exact o.le_tr hyx (k3.1 b hb), fun _ => hn43 (by omega)⟩ (by simp only [List.length_cons]; omega) ⟨rfl, rfl, rfl, by rw [List.length_append]; rfl, trivial⟩ (by
          have e5 : flat (w ++ [x]) = flat w ++ [.int .i64 x.id, .int .i64 x.x, .int .i64 x.y] := (flat_snoc w x).symm
          simp only [List.length_append, List.length_singleton, e5]
          exact EpA)
  · have key : w ++ l1 ++ q1 = srtO ls (l ++ q) := by
      rw [List.append_assoc]
      refine srtO_eq o (List.pairwise_append.2 ⟨so, ?_, fun a ha b hb => hle a ha b hb⟩) hp
      rcases Nat.eq_zero_or_pos l1.length with h0 | h0
      · rw [List.eq_nil_of_length_eq_zero h0]; exact k3
      · rw [List.eq_nil_of_length_eq_zero (by omega : q1.length = 0), List.append_nil]; exact f3
    have klen : (srtO ls (l ++ q)).length = w.length + l1.length + q1.length := by rw [← key]; simp; omega
    have kfl : flat (srtO ls (l ++ q)) = flat w ++ flat l1 ++ flat q1 := by rw [← key]; simp [flat_append]
    rcases Nat.eq_zero_or_pos l1.length with h0 | h0
    · refine GN ?_
      refine G_region ?_
      refine GQ (ev_move rfl) ?_
      refine GQ (ev_len rfl) ?_
      refine GQ (ev_gtr rfl rfl) ?_
      refine GQ (ev_move rfl) ?_
      refine GO_no rfl rfl rfl (decide_eq_false (by omega)) ?_
      refine GO_no rfl rfl rfl (decide_eq_false (by omega)) ?_
      refine GO_no rfl rfl rfl (decide_eq_false (by omega)) ?_
      refine GQ (ev_pick_f rfl (decide_eq_false (by omega)) rfl) ?_
      refine GO_nil ?_
      refine GN ?_
      refine G_cond_f rfl rfl ?_
      refine GN ?_
      refine G_region ?_
      refine GQ (ev_move rfl) ?_
      refine GQ (ev_move rfl) ?_
      refine GE (eff_append rfl rfl PkA ((by repeat' first | assumption | apply Rc.skip)) ((flat_one _)) (by rfl) (by decide) NgA NgA) ?_; rintro _ _ ⟨A48, c48, rfl, hc48, hm48, hn48, rfl⟩
      refine GQ (ev_move rfl) ?_
      refine GE (eff_append rfl rfl PkA ((by repeat' first | assumption | apply Rc.skip)) ((flat_one _)) (by rfl) (by decide) NgA NgA) ?_; rintro _ _ ⟨A50, c50, rfl, hc50, hm50, hn50, rfl⟩
      refine GQ (ev_assign rfl) ?_
      refine GO_nil ?_
      refine GN ?_
      refine G_ret (L' := own 28 3 A50 (srtO ls (l ++ q)).length c50 (flat (srtO ls (l ++ q))) :: L) rfl (.tmp rfl .nil) ?_ ⟨A50, c50, by rw [klen]; rfl, by rw [klen]; exact hn50, rfl⟩
      rw [klen, kfl]
      exact EpA
    · refine GN ?_
      refine G_region ?_
      refine GQ (ev_move rfl) ?_
      refine GQ (ev_len rfl) ?_
      refine GQ (ev_gtr rfl rfl) ?_
      refine GQ (ev_move rfl) ?_
      refine GO_yes rfl rfl rfl (decide_eq_true (by omega)) ?_
      refine GQ (ev_move rfl) ?_
      refine GO_yes rfl rfl rfl (decide_eq_true (by omega)) ?_
      refine GQ (ev_len rfl) ?_
      refine GO_yes rfl rfl rfl (decide_eq_true (by omega)) ?_
      refine GQ (ev_gtr rfl rfl) ?_
      refine GQ (ev_pick_t rfl (decide_eq_true (by omega)) rfl) ?_
      refine GO_nil ?_
      refine GN ?_
      refine G_cond_f rfl (decide_eq_false (by omega)) ?_
      refine GN ?_
      refine G_region ?_
      refine GQ (ev_move rfl) ?_
      refine GQ (ev_move rfl) ?_
      refine GE (eff_append rfl rfl PkA ((by repeat' first | assumption | apply Rc.skip)) ((flat_one _)) (by rfl) (by decide) NgA NgA) ?_; rintro _ _ ⟨A48, c48, rfl, hc48, hm48, hn48, rfl⟩
      refine GQ (ev_move rfl) ?_
      refine GE (eff_append rfl rfl PkA ((by repeat' first | assumption | apply Rc.skip)) ((flat_one _)) (by rfl) (by decide) NgA NgA) ?_; rintro _ _ ⟨A50, c50, rfl, hc50, hm50, hn50, rfl⟩
      refine GQ (ev_assign rfl) ?_
      refine GO_nil ?_
      refine GN ?_
      refine G_ret (L' := own 28 3 A50 (srtO ls (l ++ q)).length c50 (flat (srtO ls (l ++ q))) :: L) rfl (.tmp rfl .nil) ?_ ⟨A50, c50, by rw [klen]; rfl, by rw [klen]; exact hn50, rfl⟩
      rw [klen, kfl]
      exact EpA
theorem MergeO_ctr (A B : Option Addr) (n m c d : Nat) (l q : List Pt) (L : List HP) (hl : Rd L A n l) (hq : Rd L B m q) (hn : n ≤ 1000000) (hm : m ≤ 1000000) (hc : n ≤ c) (hd : m ≤ d) (sl : SrtO ls l) (sq : SrtO ls q) :
    Ctr Tryz.prog 63 #[.slice A n c, .slice B m d, .func (.func f) #[] #[]] L fun v L' => Made 28 (srtO ls (l ++ q)) L v L' := by
  refine Ctr_of (fn := Tryz.f63) (n := 11) Tryz.func63 rfl rfl rfl ?_
  intro g F
  refine GN ?_
  refine G_region ?_
  refine GQ (ev_assign rfl) ?_
  refine GO_nil ?_
  refine GN ?_
  refine G_region ?_
  refine GQ (ev_move rfl) ?_
  refine GQ (ev_move rfl) ?_
  refine GQ (ev_move rfl) ?_
  refine GE (eff_call rfl (mergeO_ctr o hf A B n m c d l q _ RdA RdA hn hm hc hd sl sq)) ?_; rintro _ _ ⟨A9, c9, rfl, h9, rfl⟩
  refine GQ (ev_assign rfl) ?_
  refine GO_nil ?_
  refine GN ?_
  exact G_ret (L' := own 28 3 A9 (srtO ls (l ++ q)).length c9 (flat (srtO ls (l ++ q))) :: L) rfl (.tmp rfl .nil) EpA ⟨A9, c9, rfl, h9, rfl⟩
theorem sortO_ctr : ∀ (N : Nat) (A : Option Addr) (n c : Nat) (l : List Pt) (L : List HP) (_ : n ≤ N) (_ : Rd L A n l) (_ : n ≤ 1000000) (_ : n ≤ c),
    Ctr Tryz.prog 118 #[.slice A n c, .func (.func f) #[] #[]] L fun v L' => Made 28 (srtO ls l) L v L' := by
  intro N
  induction N with
  | zero =>
    intro A n c l L h0 hl hn hc
    refine Ctr_of (fn := Tryz.f118) (n := 27) Tryz.func118 rfl rfl rfl ?_
    intro g F
    refine GN ?_
    refine G_region ?_
    refine GQ (ev_assign rfl) ?_
    refine GO_nil ?_
    refine GN ?_
    refine G_region ?_
    refine GQ (ev_move rfl) ?_
    refine GQ (ev_len rfl) ?_
    refine GQ (ev_leq rfl rfl) ?_
    refine GO_nil ?_
    refine GN ?_
    refine G_cond_t rfl (decide_eq_true (by omega)) ?_
    refine GN ?_
    refine G_region ?_
    refine GQ (ev_move rfl) ?_
    refine GQ (ev_move rfl) ?_
    refine GE (eff_call rfl (byO_ctr o hf A n c l _ RdA hn)) ?_; rintro _ _ ⟨A9, c9, rfl, h9, rfl⟩
    refine GQ (ev_assign rfl) ?_
    refine GO_nil ?_
    refine GN ?_
    exact G_ret (L' := own 28 3 A9 (srtO ls l).length c9 (flat (srtO ls l)) :: L) rfl (.tmp rfl .nil) EpA ⟨A9, c9, rfl, h9, rfl⟩
  | succ N ih =>
    intro A n c l L h0 hl hn hc
    have h1 : l.length = n := hl.len (by decide)
    refine Ctr_of (fn := Tryz.f118) (n := 27) Tryz.func118 rfl rfl rfl ?_
    intro g F
    refine GN ?_
    refine G_region ?_
    refine GQ (ev_assign rfl) ?_
    refine GO_nil ?_
    refine GN ?_
    refine G_region ?_
    refine GQ (ev_move rfl) ?_
    refine GQ (ev_len rfl) ?_
    refine GQ (ev_leq rfl rfl) ?_
    refine GO_nil ?_
    refine GN ?_
    refine G_cond rfl (fun c1 => ?_) (fun c1 => ?_)
    · refine GN ?_
      refine G_region ?_
      refine GQ (ev_move rfl) ?_
      refine GQ (ev_move rfl) ?_
      refine GE (eff_call rfl (byO_ctr o hf A n c l _ RdA hn)) ?_; rintro _ _ ⟨A9, c9, rfl, h9, rfl⟩
      refine GQ (ev_assign rfl) ?_
      refine GO_nil ?_
      refine GN ?_
      exact G_ret (L' := own 28 3 A9 (srtO ls l).length c9 (flat (srtO ls l)) :: L) rfl (.tmp rfl .nil) EpA ⟨A9, c9, rfl, h9, rfl⟩
    · obtain ⟨b, o', rfl, _⟩ := hl.at_ (by omega)
      have e2 : srtO ls (srtO ls (l.take (n / 2)) ++ srtO ls (l.drop (n / 2))) = srtO ls l := by rw [srtO_append o, List.take_append_drop]
      have hT : ∀ X, Rd (X ++ L) (some ⟨b, o', none⟩) (n / 2) (l.take (n / 2)) := fun X => Rd.app (hl.take (by omega))
      have hD : ∀ X, Rd (X ++ L) (some ⟨b, (if c = n / 2 then o' else o' + (n / 2) * 3), none⟩) (n - n / 2) (l.drop (n / 2)) := fun X => Rd.app (hl.drop (k := n / 2) (c := c) (by omega) hc)
      refine GN ?_
      refine G_region ?_
      refine GQ (ev_move rfl) ?_
      refine GQ (ev_len rfl) ?_
      (first | refine GQ (ev_quoN (q := 2) rfl rfl NgA NgA) ?_ | refine GQ (ev_quo rfl rfl NgA NgA NgA) ?_)
      refine GQ (ev_assign rfl) ?_
      refine GO_nil ?_
      refine GN ?_
      refine G_draw (.q 0 (.q 1 (.q 2 (.q 3 (.q 5 (.q 6 (.q 7 (.q 8 (.q 10 (.e 4 (.e 9 (.e 11 (.q 12 .nil))))))))))))) (by kernel_rfl) (by kernel_rfl) ?_
      refine RM rfl (ev_move rfl) ?_
      refine RM rfl (ev_move rfl) ?_
      refine RQ rfl (ev_sliceH rfl rfl NgA) ?_
      refine RM rfl (ev_move rfl) ?_
      refine RM rfl (ev_move rfl) ?_
      refine RM rfl (ev_move rfl) ?_
      refine RQ rfl (ev_sliceL rfl rfl NgA NgA) ?_
      refine RM rfl (ev_move rfl) ?_
      refine RM rfl (ev_move rfl) ?_
      refine RS_e (RE_eff rfl rfl rfl (eff_call rfl ((ih (some ⟨b, o', none⟩) (n / 2) c (l.take (n / 2)) _ (by omega) (hT [F]) (by omega) (by omega)).made)) ?_); rintro _ _ ⟨A1, c1', rfl, u1, v1, x1, rfl⟩; refine ⟨_, fun _ s => s, ExA, ?_⟩
      refine RS_e (RE_eff rfl rfl rfl (eff_call rfl ((ih (some ⟨b, (if c = n / 2 then o' else o' + (n / 2) * 3), none⟩) (n - n / 2) (c - n / 2) (l.drop (n / 2)) _ (by omega) (hD [own 28 3 A1 (srtO ls (l.take (n / 2))).length c1' (flat (srtO ls (l.take (n / 2)))), F]) (by omega) (by omega)).made)) ?_); rintro _ _ ⟨A2, c2', rfl, u2, v2, x2, rfl⟩; refine ⟨_, fun _ s => s, ExA, ?_⟩
      refine RS_e (RE_eff rfl rfl rfl (eff_call rfl (mergeO_ctr o hf A1 A2 _ _ c1' c2' (srtO ls (l.take (n / 2))) (srtO ls (l.drop (n / 2))) _ (Rd.skip (Rc.own (flat_length _) u1)) (Rc.own (flat_length _) u2) (by rw [srtO_length, List.length_take]; omega) (by rw [srtO_length, List.length_drop]; omega) v1 v2 (srtO_sorted o _) (srtO_sorted o _))) ?_); rintro _ _ ⟨A3, c3', rfl, u3, rfl⟩; refine ⟨_, fun _ s => s, ExA, ?_⟩
      refine RM rfl (ev_assign rfl) ?_
      refine RS_nil ?_
      rw [e2] at u3
      rw [e2]
      refine GN ?_
      exact G_ret (L' := own 28 3 A3 (srtO ls l).length c3' (flat (srtO ls l)) :: L) rfl (.tmp rfl .nil) EpA ⟨A3, c3', rfl, u3, rfl⟩
theorem SortO_ctr (A : Option Addr) (n c : Nat) (l : List Pt) (L : List HP) (hl : Rd L A n l) (hn : n ≤ 1000000) (hc : n ≤ c) :
    Ctr Tryz.prog 97 #[.slice A n c, .func (.func f) #[] #[]] L fun v L' => Made 28 (srtO ls l) L v L' := by
  refine Ctr_of (fn := Tryz.f97) (n := 8) Tryz.func97 rfl rfl rfl ?_
  intro g F
  refine GN ?_
  refine G_region ?_
  refine GQ (ev_assign rfl) ?_
  refine GO_nil ?_
  refine GN ?_
  refine G_region ?_
  refine GQ (ev_move rfl) ?_
  refine GQ (ev_move rfl) ?_
  refine GE (eff_call rfl (sortO_ctr o hf n A n c l _ (Nat.le_refl _) RdA hn hc)) ?_; rintro _ _ ⟨A9, c9, rfl, h9, rfl⟩
  refine GQ (ev_assign rfl) ?_
  refine GO_nil ?_
  refine GN ?_
  exact G_ret (L' := own 28 3 A9 (srtO ls l).length c9 (flat (srtO ls l)) :: L) rfl (.tmp rfl .nil) EpA ⟨A9, c9, rfl, h9, rfl⟩
end
end Go.Proofs.YtkoncepjfgnjlaaGreat
/- Places in lists that are in order: first, behind, has, Put, Cut, Is (out of master/so2.master). -/
namespace Go.Proofs.YtkoncepjfgnjlaaGreat
attribute [local irreducible] sat
set_option linter.unusedVariables false
set_option linter.unusedSimpArgs false
set_option maxRecDepth 100000

section
variable {f : FuncId} [CalT Tryz.prog f] {ls : Pt → Pt → Bool} (hf : LsT f ls)
include hf
theorem IsO_ctr (A : Option Addr) (n c : Nat) (l : List Pt) (L : List HP) (hl : Rd L A n l) (hn : n ≤ 1000000) (ha : SrtO ls l) :
    Ctr Tryz.prog 66 #[.slice A n c, .func (.func f) #[] #[]] L fun r L' => r = .bool true ∧ L' = L := by
  have h1 : l.length = n := hl.len (by decide)
  refine Ctr_of (fn := Tryz.f66) (n := 23) Tryz.func66 rfl rfl rfl ?_
  intro g F
  refine GN ?_
  refine G_region ?_
  refine GQ (ev_assign rfl) ?_
  refine GO_nil ?_
  refine GN ?_
  refine G_region ?_
  refine GQ (ev_assign rfl) ?_
  refine GO_nil ?_
  refine GN ?_
  refine G_loop (ι := Nat) (fun k => [(0, .slice A n c), (1, .func (.func f) #[] #[]), (5, .int .i64 (k : Nat))]) (fun _ => F :: L) (fun k => 1 ≤ k) (fun k => n - k) 1 (Nat.le_refl _) ⟨rfl, rfl, rfl, trivial⟩ EnA ?_
  intro k hk
  refine GN ?_
  refine G_region ?_
  refine GQ (ev_move rfl) ?_
  refine GQ (ev_move rfl) ?_
  refine GQ (ev_len rfl) ?_
  (first | refine GQ (ev_lssN rfl rfl) ?_ | refine GQ (ev_lss rfl rfl) ?_)
  refine GO_nil ?_
  refine GN ?_
  refine G_cond rfl (fun c1 => ?_) (fun c1 => ?_)
  · obtain ⟨b1, o1, rfl, x1⟩ := hl.at_ (by omega)
    have g1 : l[k]? = some l[k] := List.getElem?_eq_getElem (by omega)
    have g2 : l[k - 1]? = some l[k - 1] := List.getElem?_eq_getElem (by omega)
    have e1 : ls l[k] l[k - 1] = false := List.pairwise_iff_getElem.1 ha (k - 1) k (by omega) (by omega) (by omega)
    have y1 := x1 _ _ g1
    have y2 := x1 _ _ g2
    generalize l[k - 1] = p at *
    generalize l[k] = u at *
    have z1 : LdN L b1 (o1 + k * 3) 3 [.int .i64 u.id, .int .i64 u.x, .int .i64 u.y] := y1
    have z2 : LdN L b1 (o1 + (k - 1) * 3) 3 [.int .i64 p.id, .int .i64 p.x, .int .i64 p.y] := y2
    refine GN ?_
    refine G_draw (.q 0 (.q 1 (.q 2 (.q 3 (.q 4 (.q 5 (.q 6 (.q 7 (.q 8 (.q 9 (.e 10 .nil))))))))))) (by kernel_rfl) (by kernel_rfl) ?_
    refine RM rfl (ev_move rfl) ?_
    refine RM rfl (ev_move rfl) ?_
    refine RM rfl (ev_move rfl) ?_
    (first | refine RM rfl (ev_indexAddrN rfl rfl NgA) ?_ | refine RM rfl (ev_indexAddr rfl rfl NgA NgA) ?_)
    refine RQ rfl (ev_loadN rfl LnA) ?_
    refine RM rfl (ev_move rfl) ?_
    refine RM rfl (ev_move rfl) ?_
    (first | refine RM rfl (ev_subN (q := 1) rfl rfl NgA) ?_ | refine RM rfl (ev_sub rfl rfl NgA) ?_)
    (first | refine RM rfl (ev_indexAddrN rfl rfl NgA) ?_ | refine RM rfl (ev_indexAddr rfl rfl NgA NgA) ?_)
    refine RQ rfl (ev_loadN rfl LnA) ?_
    refine RS_e (RE_last (by kernel_rfl) rfl rfl rfl (eff_callv rfl rfl (hf.ctr u p _)) ?_); rintro _ _ ⟨rfl, rfl⟩
    refine GN ?_
    refine G_cond_f rfl e1 ?_
    refine GN ?_
    refine G_region ?_
    refine GQ (ev_move rfl) ?_
    (first | refine GQ (ev_addN (q := 1) rfl rfl NgA) ?_ | refine GQ (ev_add rfl rfl NgA) ?_)
    refine GQ (ev_assign rfl) ?_
    refine GO_nil ?_
    refine GN ?_
    exact G_round (k + 1) (by omega) (by omega) ⟨rfl, rfl, rfl, trivial⟩ EnA
  · refine GN ?_
    refine G_region ?_
    refine GQ (ev_assign rfl) ?_
    refine GO_nil ?_
    refine GN ?_
    refine G_ret rfl (.tmp rfl .nil) EnA ⟨rfl, rfl⟩
end
end Go.Proofs.YtkoncepjfgnjlaaGreat
/- Points in several trees: what is kept, told plainly. No program stands in this text. -/
namespace Go.Proofs.YtkoncepjfgnjlaaGreat
set_option linter.unusedVariables false
set_option linter.unusedSimpArgs false

theorem en_none {L : List HP} : ∀ h, sat L h → sat [] h := fun _ _ => trivial
theorem en_ownB {e sz b n : Nat} {cs : List Value} {L M : List HP} (hl : cs.length = n * sz) (hn : n ≤ maxLen) (f : ∀ h, sat L h → sat (blk b e cs :: M) h) : ∀ h, sat L h → sat (own e sz (some ⟨b, 0, none⟩) n n cs :: M) h := fun h s => by
  obtain ⟨h1, h2, d, s1, s2, a, l⟩ := f h s
  exact ⟨h1, h2, d, s1, s2, own.of_blk hl hn _ a, l⟩
/-- The lists, those that are dead, and how many were ever put. -/
structure LgS where
  ls : List (List Pt)
  d : List Pt
  bu : Nat
def putR : List Pt → List (List Pt) → List (List Pt)
  | acc, [] => [acc]
  | acc, l :: t => if l.length = 0 then acc :: t else [] :: putR (acc ++ l) t
def putN : List Pt → List (List Pt) → Nat
  | acc, [] => acc.length
  | acc, l :: t => if l.length = 0 then acc.length else putN (acc ++ l) t
/-- Where it ends. -/
theorem putR_at : ∀ (k : Nat) (ls : List (List Pt)) (acc : List Pt), (∀ j, j < k → ∃ l, ls[j]? = some l ∧ 0 < l.length) → (k = ls.length ∨ ∃ l, ls[k]? = some l ∧ l.length = 0) →
    putR acc ls = List.replicate k [] ++ (acc ++ (ls.take k).flatten) :: ls.drop (k + 1) ∧ putN acc ls = (acc ++ (ls.take k).flatten).length
  | 0, [], acc, _, _ => by simp [putR, putN]
  | 0, l :: t, acc, _, h => by
    rcases h with h | ⟨l', e, h⟩
    · simp at h
    · have e : l = l' := by simpa using e
      subst e
      simp [putR, putN, h]
  | k + 1, [], acc, h, _ => by
    obtain ⟨l, e, _⟩ := h 0 (by omega)
    simp at e
  | k + 1, l :: t, acc, h, h2 => by
    obtain ⟨l', e, hl⟩ := h 0 (by omega)
    have e : l = l' := by simpa using e
    subst e
    obtain ⟨i1, i2⟩ := putR_at k t (acc ++ l) (fun j hj => by simpa using h (j + 1) (by omega)) (by
      rcases h2 with h2 | h2
      · left; simpa using h2
      · right; simpa using h2)
    unfold putR putN
    rw [if_neg (by omega), if_neg (by omega), i1, i2]
    simp [List.replicate_succ]
theorem putR_flat (acc : List Pt) (ls : List (List Pt)) : (putR acc ls).flatten.Perm (acc ++ ls.flatten) := by
  induction ls generalizing acc with
  | nil => simp [putR]
  | cons l t ih =>
    unfold putR
    split
    · rename_i h
      have : l = [] := List.eq_nil_of_length_eq_zero h
      subst this
      simp
    · simpa using ih (acc ++ l)
theorem putN_le (acc : List Pt) (ls : List (List Pt)) : putN acc ls ≤ acc.length + ls.flatten.length := by
  induction ls generalizing acc with
  | nil => simp [putN]
  | cons l t ih =>
    unfold putN
    split
    · omega
    · have := ih (acc ++ l)
      simp at this ⊢
      omega
/-- How many points each list has. -/
def Szs : Nat → List (List Pt) → Prop
  | _, [] => True
  | j, l :: t => (l.length = 0 ∨ l.length = 2 ^ j) ∧ Szs (j + 1) t
theorem Szs.put : ∀ (ls : List (List Pt)) (j : Nat) (acc : List Pt), acc.length = 2 ^ j → Szs j ls → Szs j (putR acc ls)
  | [], j, acc, h, _ => ⟨.inr h, trivial⟩
  | l :: t, j, acc, h, ⟨h1, h2⟩ => by
    unfold putR
    split
    · exact ⟨.inr h, h2⟩
    · rename_i h0
      have h1 : l.length = 2 ^ j := by omega
      exact ⟨.inl rfl, Szs.put t (j + 1) (acc ++ l) (by rw [List.length_append, h, h1, Nat.pow_succ]; omega) h2⟩
theorem Szs.at_ : ∀ {ls : List (List Pt)} {j k : Nat} {l : List Pt}, Szs j ls → ls[k]? = some l → l.length = 0 ∨ l.length = 2 ^ (j + k)
  | [], _, _, _, _, h => by simp at h
  | l :: t, j, 0, l', ⟨h1, _⟩, e => by
    have e : l = l' := by simpa using e
    subst e; exact h1
  | l :: t, j, k + 1, l', ⟨_, h2⟩, e => by
    have := Szs.at_ h2 (by simpa using e)
    rwa [show j + 1 + k = j + (k + 1) by omega] at this
theorem putR_len : ∀ (ls : List (List Pt)) (j : Nat) (acc : List Pt), acc.length = 2 ^ j → Szs j ls → (putR acc ls).length = ls.length ∨ (putR acc ls).length = ls.length + 1 ∧ 2 ^ (j + ls.length) ≤ acc.length + ls.flatten.length
  | [], j, acc, h, _ => .inr ⟨rfl, by simp [h]⟩
  | l :: t, j, acc, h, ⟨h1, h2⟩ => by
    unfold putR
    split
    · exact .inl rfl
    · have h1 : l.length = 2 ^ j := by omega
      have hl : (acc ++ l).length = 2 ^ (j + 1) := by rw [List.length_append, h, h1, Nat.pow_succ]; omega
      rcases putR_len t (j + 1) (acc ++ l) hl h2 with e | ⟨e, e2⟩
      · left; simp [e]
      · right
        refine ⟨by simp [e], ?_⟩
        rw [show j + (l :: t).length = j + 1 + t.length by simp; omega]
        rw [List.length_append] at e2
        simp only [List.flatten_cons, List.length_append]
        omega
/-- How often all were put. -/
def potR : Nat → List (List Pt) → Nat
  | _, [] => 0
  | j, l :: t => (j + 1) * l.length + potR (j + 1) t
def LgS.live (S : LgS) : List Pt := srtO Pt.less (S.ls.flatten.filter fun p => !decide (p ∈ S.d))
def LgS.put (S : LgS) (p : Pt) : LgS := ⟨putR [p] S.ls, S.d, S.bu + putN [p] S.ls⟩
def LgS.ins (most : Int) (S : LgS) (p : Pt) : LgS := if insC most S.live p = 0 then (if p ∈ S.d then ⟨S.ls, S.d.erase p, S.bu⟩ else S.put p) else S
def LgS.anew (S : LgS) : LgS := S.live.foldl LgS.put ⟨[], [], S.bu⟩
def LgS.mark (S : LgS) (p : Pt) : LgS := ⟨S.ls, S.d ++ [p], S.bu⟩
def LgS.del (S : LgS) (p : Pt) : LgS := if p ∈ S.live then (if (S.mark p).d.length ≤ S.live.length - 1 then S.mark p else (S.mark p).anew) else S
theorem LgS.mem_live {S : LgS} {p : Pt} : p ∈ S.live ↔ p ∈ S.ls.flatten ∧ p ∉ S.d := by
  unfold LgS.live; rw [(srtO_perm _).mem_iff, List.mem_filter]; simp
structure LgOk (S : LgS) (m : Nat) : Prop where
  sz : Szs 0 S.ls
  nd : S.ls.flatten.Nodup
  gd : ∀ p ∈ S.ls.flatten, goodP p = true
  dn : S.d.Nodup
  ds : ∀ p ∈ S.d, p ∈ S.ls.flatten
  few : 2 * S.d.length ≤ S.ls.flatten.length
  tot : S.ls.flatten.length ≤ m
  lv : S.ls.length = 0 ∨ 2 ^ (S.ls.length - 1) ≤ m
  bt : S.bu ≤ 100000 * m
theorem LgOk.zero : LgOk ⟨[], [], 0⟩ 0 := ⟨trivial, by simp, by simp, by simp, by simp, by simp, by simp, .inl rfl, by simp⟩
theorem LgOk.up {S : LgS} {m k : Nat} (h : LgOk S m) (hk : m ≤ k) : LgOk S k :=
  ⟨h.sz, h.nd, h.gd, h.dn, h.ds, h.few, Nat.le_trans h.tot hk, h.lv.imp_right fun h => Nat.le_trans h hk, Nat.le_trans h.bt (Nat.mul_le_mul_left _ hk)⟩
theorem live_len {S : LgS} (nd : S.ls.flatten.Nodup) (dn : S.d.Nodup) (ds : ∀ p ∈ S.d, p ∈ S.ls.flatten) : S.live.length + S.d.length = S.ls.flatten.length := by
  unfold LgS.live
  rw [srtO_length]
  have h1 : (S.ls.flatten.filter fun p => decide (p ∈ S.d)).Perm S.d := by
    rw [List.perm_ext_iff_of_nodup (nd.filter _) dn]
    intro p
    rw [List.mem_filter]
    constructor
    · rintro ⟨_, h⟩; simpa using h
    · intro h; exact ⟨ds p h, by simpa using h⟩
  have h2 := List.filter_append_perm (fun p => decide (p ∈ S.d)) S.ls.flatten
  have h3 := h2.length_eq
  rw [List.length_append, h1.length_eq] at h3
  omega
theorem LgOk.live_len {S : LgS} {m : Nat} (h : LgOk S m) : S.live.length + S.d.length = S.ls.flatten.length := Proofs.YtkoncepjfgnjlaaGreat.live_len h.nd h.dn h.ds
theorem LgOk.put {S : LgS} {m : Nat} {p : Pt} (h : LgOk S m) (hp : p ∉ S.ls.flatten) (hg : goodP p = true) (hm : m ≤ 300) : LgOk (S.put p) (m + 1) := by
  have hf := putR_flat [p] S.ls
  have hl := hf.length_eq
  simp only [List.length_append, List.length_singleton] at hl
  have h9 := h.tot
  refine ⟨h.sz.put _ _ _ rfl, ?_, ?_, h.dn, ?_, ?_, ?_, ?_, ?_⟩
  · show (putR [p] S.ls).flatten.Nodup
    rw [hf.nodup_iff]
    exact List.nodup_cons.2 ⟨hp, h.nd⟩
  · intro q hq
    rcases List.mem_append.1 (hf.mem_iff.1 hq) with h1 | h1
    · have : q = p := by simpa using h1
      rw [this]; exact hg
    · exact h.gd q h1
  · intro q hq
    exact hf.mem_iff.2 (List.mem_append.2 (.inr (h.ds q hq)))
  · have := h.few
    show 2 * S.d.length ≤ (putR [p] S.ls).flatten.length
    omega
  · show (putR [p] S.ls).flatten.length ≤ m + 1
    omega
  · show (putR [p] S.ls).length = 0 ∨ 2 ^ ((putR [p] S.ls).length - 1) ≤ m + 1
    rcases putR_len S.ls 0 [p] rfl h.sz with e | ⟨e, e2⟩
    · rw [e]; exact h.lv.imp_right fun h => by omega
    · right
      rw [e, Nat.add_sub_cancel]
      simp only [List.length_singleton, Nat.zero_add] at e2
      omega
  · have := putN_le [p] S.ls
    have := h.bt
    simp only [List.length_singleton] at *
    show S.bu + putN [p] S.ls ≤ 100000 * (m + 1)
    omega
theorem LgOk.ins {S : LgS} {m : Nat} {most : Int} {p : Pt} (h : LgOk S m) (hm : m ≤ 300) : LgOk (S.ins most p) (m + 1) := by
  unfold LgS.ins
  split
  · rename_i h0
    split
    · rename_i h1
      exact ⟨h.sz, h.nd, h.gd, h.dn.erase _, fun q hq => h.ds q (List.mem_of_mem_erase hq), by have := h.few; have := List.length_erase_of_mem h1; show 2 * (S.d.erase p).length ≤ S.ls.flatten.length; omega, Nat.le_succ_of_le h.tot, h.lv.imp_right fun h => Nat.le_succ_of_le h, by have := h.bt; show S.bu ≤ _; omega⟩
    · rename_i h1
      have hg : goodP p = true := by
        cases hg : goodP p
        · simp [insC, hg] at h0
        · rfl
      refine h.put (fun hp => ?_) hg hm
      have : p ∈ S.live := LgS.mem_live.2 ⟨hp, h1⟩
      simp [insC, hg, this] at h0
  · exact h.up (Nat.le_succ m)
theorem fold_put : ∀ (l : List Pt) (S : LgS) (m : Nat), Szs 0 S.ls → (S.ls.flatten ++ l).Nodup → (∀ p ∈ S.ls.flatten ++ l, goodP p = true) → S.d = [] → S.ls.flatten.length + l.length ≤ m → (S.ls.length = 0 ∨ 2 ^ (S.ls.length - 1) ≤ m) →
    Szs 0 (l.foldl LgS.put S).ls ∧ (l.foldl LgS.put S).ls.flatten.Perm (S.ls.flatten ++ l) ∧ (l.foldl LgS.put S).d = [] ∧ ((l.foldl LgS.put S).ls.length = 0 ∨ 2 ^ ((l.foldl LgS.put S).ls.length - 1) ≤ m) ∧ (l.foldl LgS.put S).bu ≤ S.bu + m * l.length
  | [], S, m, h1, h2, h3, h4, h5, h6 => ⟨h1, by simp, h4, h6, by simp⟩
  | p :: l, S, m, h1, h2, h3, h4, h5, h6 => by
    have hf := putR_flat [p] S.ls
    have hl := hf.length_eq
    simp only [List.length_append, List.length_singleton] at hl
    have hq : ((S.put p).ls.flatten ++ l).Perm (S.ls.flatten ++ p :: l) := (hf.append_right l).trans List.perm_middle.symm
    have hn := putN_le [p] S.ls
    simp only [List.length_singleton] at hn
    simp only [List.length_cons] at h5
    have hpl : (S.put p).ls.flatten.length = 1 + S.ls.flatten.length := hl
    obtain ⟨i1, i2, i3, i4, i5⟩ := fold_put l (S.put p) m (h1.put _ _ _ rfl) (hq.nodup_iff.2 h2) (fun q h => h3 q (hq.mem_iff.1 h)) h4 (by omega) (by
      show (putR [p] S.ls).length = 0 ∨ 2 ^ ((putR [p] S.ls).length - 1) ≤ m
      rcases putR_len S.ls 0 [p] rfl h1 with e | ⟨e, e2⟩
      · rw [e]; exact h6
      · right
        rw [e, Nat.add_sub_cancel]
        simp only [List.length_singleton, Nat.zero_add] at e2
        omega)
    refine ⟨i1, i2.trans hq, i3, i4, Nat.le_trans i5 ?_⟩
    show S.bu + putN [p] S.ls + m * l.length ≤ S.bu + m * (l.length + 1)
    rw [Nat.mul_add]; omega
theorem LgOk.del {S : LgS} {m : Nat} {p : Pt} (h : LgOk S m) (hm : m ≤ 300) : LgOk (S.del p) (m + 1) := by
  have hll := h.live_len
  have ht := h.tot
  have hb := h.bt
  unfold LgS.del
  split
  · rename_i h0
    have h1 := LgS.mem_live.1 h0
    have dn : (S.mark p).d.Nodup := by
      show (S.d ++ [p]).Nodup
      rw [(List.perm_append_singleton p S.d).nodup_iff]
      exact List.nodup_cons.2 ⟨h1.2, h.dn⟩
    have ds : ∀ q ∈ (S.mark p).d, q ∈ S.ls.flatten := fun q hq => by
      rcases List.mem_append.1 (show q ∈ S.d ++ [p] from hq) with h2 | h2
      · exact h.ds q h2
      · have : q = p := by simpa using h2
        rw [this]; exact h1.1
    have hd1 : (S.mark p).d.length = S.d.length + 1 := by show (S.d ++ [p]).length = _; simp
    split
    · rename_i h2
      exact ⟨h.sz, h.nd, h.gd, dn, ds, (by show 2 * (S.mark p).d.length ≤ S.ls.flatten.length; have := List.length_pos_of_mem h0; omega), Nat.le_succ_of_le ht, h.lv.imp_right fun h => Nat.le_succ_of_le h, by show S.bu ≤ _; omega⟩
    · have l1 := Proofs.YtkoncepjfgnjlaaGreat.live_len (S := S.mark p) h.nd dn ds
      have l2 : (S.mark p).ls.flatten.length = S.ls.flatten.length := rfl
      have ln : (S.mark p).live.Nodup := (srtO_perm _).nodup_iff.2 (h.nd.filter _)
      obtain ⟨i1, i2, i3, i4, i5⟩ := fold_put (S.mark p).live ⟨[], [], (S.mark p).bu⟩ m trivial (by simpa using ln) (fun q hq => h.gd q ((LgS.mem_live (S := S.mark p)).1 (by simpa using hq)).1) rfl (by simp; omega) (.inl rfl)
      have i6 := i2.length_eq
      simp only [List.flatten_nil, List.nil_append] at i2 i6
      have hbm : (S.mark p).bu = S.bu := rfl
      refine ⟨i1, i2.nodup_iff.2 ln, fun q hq => h.gd q ((LgS.mem_live (S := S.mark p)).1 (i2.mem_iff.1 hq)).1, ?_, ?_, ?_, ?_, ?_, ?_⟩
      · show ((S.mark p).anew).d.Nodup
        unfold LgS.anew; rw [i3]; simp
      · intro q hq
        have hq : q ∈ ((S.mark p).live.foldl LgS.put ⟨[], [], (S.mark p).bu⟩).d := hq
        rw [i3] at hq; simp at hq
      · show 2 * ((S.mark p).live.foldl LgS.put ⟨[], [], (S.mark p).bu⟩).d.length ≤ _
        rw [i3]; simp
      · show ((S.mark p).live.foldl LgS.put ⟨[], [], (S.mark p).bu⟩).ls.flatten.length ≤ _
        omega
      · exact i4.imp_right fun h => Nat.le_succ_of_le h
      · show ((S.mark p).live.foldl LgS.put ⟨[], [], (S.mark p).bu⟩).bu ≤ _
        have h7 : m * (S.mark p).live.length ≤ 300 * 300 := Nat.mul_le_mul hm (by omega)
        have i5 : _ ≤ (S.mark p).bu + _ := i5
        omega
  · exact h.up (Nat.le_succ m)
end Go.Proofs.YtkoncepjfgnjlaaGreat
/- The reference's order of points. -/
namespace Go.Proofs.YtkoncepjfgnjlaaGreat
attribute [local irreducible] sat
set_option linter.unusedVariables false
set_option linter.unusedSimpArgs false
set_option maxRecDepth 100000

def three (a b c d e f : Int) : Int := if a < d then -1 else if d < a then 1 else if b < e then -1 else if e < b then 1 else if c < f then -1 else if f < c then 1 else 0
theorem three_up (p q : Pt) : three p.y p.x p.id q.y q.x q.id = up p q := by
  obtain ⟨pi, px, py⟩ := p
  obtain ⟨qi, qx, qy⟩ := q
  simp only [three, up, Pt.cmp, Pt.turned, Pt.less]
  by_cases h1 : py = qy
  · by_cases h2 : px = qx
    · by_cases h3 : pi = qi
      · simp [h1, h2, h3]
      · subst h1 h2
        by_cases h4 : pi < qi
        · simp [h3, h4]
        · have h5 : qi < pi := by omega
          simp [h3, h4, h5]
    · subst h1
      by_cases h4 : px < qx
      · simp [h2, h4]
      · have h5 : qx < px := by omega
        simp [h2, h4, h5]
  · by_cases h4 : py < qy
    · simp [h1, h4]
    · have h5 : qy < py := by omega
      simp [h1, h4, h5]
theorem Three_ctr (a b c d e f : Int) (L : List HP) : Ctr Tryz.prog 76 #[.agg #[.int .i64 a, .int .i64 b, .int .i64 c], .agg #[.int .i64 d, .int .i64 e, .int .i64 f]] L fun v L' => v = .int .i64 (three a b c d e f) ∧ L' = L := by
  refine Ctr_of (fn := Tryz.f76) (n := 24) Tryz.func76 rfl rfl rfl ?_
  intro g F
  refine GN ?_
  refine G_region ?_
  refine GE (eff_box rfl) ?_; rintro _ _ ⟨b2, rfl, rfl⟩
  refine GE (eff_box rfl) ?_; rintro _ _ ⟨b3, rfl, rfl⟩
  refine GQ (ev_assign rfl) ?_
  refine GO_nil ?_
  refine GN ?_
  refine G_region ?_
  refine GQ (ev_assign rfl) ?_
  refine GO_nil ?_
  refine GN ?_
  refine G_loop (ι := Nat) (fun k => [(2, .pointer (some ⟨b2, 0, none⟩)), (3, .pointer (some ⟨b3, 0, none⟩)), (5, .int .i64 (k : Nat))]) (fun _ => blk b3 111 [.int .i64 d, .int .i64 e, .int .i64 f] :: blk b2 111 [.int .i64 a, .int .i64 b, .int .i64 c] :: F :: L) (fun k => k ≤ 3 ∧ (0 < k → a = d) ∧ (1 < k → b = e) ∧ (2 < k → c = f)) (fun k => 3 - k) 0 ⟨by omega, by omega, by omega, by omega⟩ ⟨rfl, rfl, rfl, trivial⟩ (fun _ s => s) ?_
  rintro k ⟨f1, f2, f3, f4⟩
  match k with
  | 0 =>
    refine GN ?_
    refine G_region ?_
    refine GQ (ev_move rfl) ?_
    (first | refine GQ (ev_lssN (q := 3) rfl rfl) ?_ | refine GQ (ev_lss rfl rfl) ?_)
    refine GO_nil ?_
    refine GN ?_
    refine G_cond_t rfl rfl ?_
    refine GN ?_
    refine G_draw (.q 0 (.q 1 (.q 2 (.q 3 (.q 4 (.q 5 (.q 6 .nil))))))) (by kernel_rfl) (by kernel_rfl) ?_
    refine RM rfl (ev_move rfl) ?_
    refine RM rfl (ev_indexAddrA rfl rfl NgA NgA) ?_
    refine RQ rfl (ev_load rfl LdA) ?_
    refine RM rfl (ev_move rfl) ?_
    refine RM rfl (ev_indexAddrA rfl rfl NgA NgA) ?_
    refine RQ rfl (ev_load rfl LdA) ?_
    (first | refine RM rfl (ev_lssN rfl rfl) ?_ | refine RM rfl (ev_lss rfl rfl) ?_)
    refine RS_nil ?_
    refine GN ?_
    refine G_cond rfl (fun h1 => ?_) (fun h1 => ?_)
    · refine GN ?_
      refine G_region ?_
      refine GQ (ev_assign rfl) ?_
      refine GO_nil ?_
      refine GN ?_
      refine G_ret rfl (.tmp rfl .nil) EnA ⟨by simp [retv, three, h1], rfl⟩
    · refine GN ?_
      refine G_draw (.q 0 (.q 1 (.q 2 (.q 3 (.q 4 (.q 5 (.q 6 .nil))))))) (by kernel_rfl) (by kernel_rfl) ?_
      refine RM rfl (ev_move rfl) ?_
      refine RM rfl (ev_indexAddrA rfl rfl NgA NgA) ?_
      refine RQ rfl (ev_load rfl LdA) ?_
      refine RM rfl (ev_move rfl) ?_
      refine RM rfl (ev_indexAddrA rfl rfl NgA NgA) ?_
      refine RQ rfl (ev_load rfl LdA) ?_
      refine RM rfl (ev_gtr rfl rfl) ?_
      refine RS_nil ?_
      refine GN ?_
      refine G_cond rfl (fun h2 => ?_) (fun h2 => ?_)
      · refine GN ?_
        refine G_region ?_
        refine GQ (ev_assign rfl) ?_
        refine GO_nil ?_
        refine GN ?_
        refine G_ret rfl (.tmp rfl .nil) EnA ⟨by simp [retv, three, h1, h2], rfl⟩
      · refine GN ?_
        refine G_region ?_
        refine GQ (ev_move rfl) ?_
        (first | refine GQ (ev_addN (q := 1) rfl rfl NgA) ?_ | refine GQ (ev_add rfl rfl NgA) ?_)
        refine GQ (ev_assign rfl) ?_
        refine GO_nil ?_
        refine GN ?_
        exact G_round 1 ⟨by omega, by omega, by omega, by omega⟩ (by omega) ⟨rfl, rfl, rfl, trivial⟩ (fun _ s => s)
  | 1 =>
    have e1 := f2 (by omega)
    subst e1
    refine GN ?_
    refine G_region ?_
    refine GQ (ev_move rfl) ?_
    (first | refine GQ (ev_lssN (q := 3) rfl rfl) ?_ | refine GQ (ev_lss rfl rfl) ?_)
    refine GO_nil ?_
    refine GN ?_
    refine G_cond_t rfl rfl ?_
    refine GN ?_
    refine G_draw (.q 0 (.q 1 (.q 2 (.q 3 (.q 4 (.q 5 (.q 6 .nil))))))) (by kernel_rfl) (by kernel_rfl) ?_
    refine RM rfl (ev_move rfl) ?_
    refine RM rfl (ev_indexAddrA rfl rfl NgA NgA) ?_
    refine RQ rfl (ev_load rfl LdA) ?_
    refine RM rfl (ev_move rfl) ?_
    refine RM rfl (ev_indexAddrA rfl rfl NgA NgA) ?_
    refine RQ rfl (ev_load rfl LdA) ?_
    (first | refine RM rfl (ev_lssN rfl rfl) ?_ | refine RM rfl (ev_lss rfl rfl) ?_)
    refine RS_nil ?_
    refine GN ?_
    refine G_cond rfl (fun h1 => ?_) (fun h1 => ?_)
    · refine GN ?_
      refine G_region ?_
      refine GQ (ev_assign rfl) ?_
      refine GO_nil ?_
      refine GN ?_
      refine G_ret rfl (.tmp rfl .nil) EnA ⟨by simp [retv, three, h1], rfl⟩
    · refine GN ?_
      refine G_draw (.q 0 (.q 1 (.q 2 (.q 3 (.q 4 (.q 5 (.q 6 .nil))))))) (by kernel_rfl) (by kernel_rfl) ?_
      refine RM rfl (ev_move rfl) ?_
      refine RM rfl (ev_indexAddrA rfl rfl NgA NgA) ?_
      refine RQ rfl (ev_load rfl LdA) ?_
      refine RM rfl (ev_move rfl) ?_
      refine RM rfl (ev_indexAddrA rfl rfl NgA NgA) ?_
      refine RQ rfl (ev_load rfl LdA) ?_
      refine RM rfl (ev_gtr rfl rfl) ?_
      refine RS_nil ?_
      refine GN ?_
      refine G_cond rfl (fun h2 => ?_) (fun h2 => ?_)
      · refine GN ?_
        refine G_region ?_
        refine GQ (ev_assign rfl) ?_
        refine GO_nil ?_
        refine GN ?_
        refine G_ret rfl (.tmp rfl .nil) EnA ⟨by simp [retv, three, h1, h2], rfl⟩
      · refine GN ?_
        refine G_region ?_
        refine GQ (ev_move rfl) ?_
        (first | refine GQ (ev_addN (q := 1) rfl rfl NgA) ?_ | refine GQ (ev_add rfl rfl NgA) ?_)
        refine GQ (ev_assign rfl) ?_
        refine GO_nil ?_
        refine GN ?_
        exact G_round 2 ⟨by omega, by omega, by omega, by omega⟩ (by omega) ⟨rfl, rfl, rfl, trivial⟩ (fun _ s => s)
  | 2 =>
    have e1 := f2 (by omega)
    have e2 := f3 (by omega)
    subst e1 e2
    refine GN ?_
    refine G_region ?_
    refine GQ (ev_move rfl) ?_
    (first | refine GQ (ev_lssN (q := 3) rfl rfl) ?_ | refine GQ (ev_lss rfl rfl) ?_)
    refine GO_nil ?_
    refine GN ?_
    refine G_cond_t rfl rfl ?_
    refine GN ?_
    refine G_draw (.q 0 (.q 1 (.q 2 (.q 3 (.q 4 (.q 5 (.q 6 .nil))))))) (by kernel_rfl) (by kernel_rfl) ?_
    refine RM rfl (ev_move rfl) ?_
    refine RM rfl (ev_indexAddrA rfl rfl NgA NgA) ?_
    refine RQ rfl (ev_load rfl LdA) ?_
    refine RM rfl (ev_move rfl) ?_
    refine RM rfl (ev_indexAddrA rfl rfl NgA NgA) ?_
    refine RQ rfl (ev_load rfl LdA) ?_
    (first | refine RM rfl (ev_lssN rfl rfl) ?_ | refine RM rfl (ev_lss rfl rfl) ?_)
    refine RS_nil ?_
    refine GN ?_
    refine G_cond rfl (fun h1 => ?_) (fun h1 => ?_)
    · refine GN ?_
      refine G_region ?_
      refine GQ (ev_assign rfl) ?_
      refine GO_nil ?_
      refine GN ?_
      refine G_ret rfl (.tmp rfl .nil) EnA ⟨by simp [retv, three, h1], rfl⟩
    · refine GN ?_
      refine G_draw (.q 0 (.q 1 (.q 2 (.q 3 (.q 4 (.q 5 (.q 6 .nil))))))) (by kernel_rfl) (by kernel_rfl) ?_
      refine RM rfl (ev_move rfl) ?_
      refine RM rfl (ev_indexAddrA rfl rfl NgA NgA) ?_
      refine RQ rfl (ev_load rfl LdA) ?_
      refine RM rfl (ev_move rfl) ?_
      refine RM rfl (ev_indexAddrA rfl rfl NgA NgA) ?_
      refine RQ rfl (ev_load rfl LdA) ?_
      refine RM rfl (ev_gtr rfl rfl) ?_
      refine RS_nil ?_
      refine GN ?_
      refine G_cond rfl (fun h2 => ?_) (fun h2 => ?_)
      · refine GN ?_
        refine G_region ?_
        refine GQ (ev_assign rfl) ?_
        refine GO_nil ?_
        refine GN ?_
        refine G_ret rfl (.tmp rfl .nil) EnA ⟨by simp [retv, three, h1, h2], rfl⟩
      · refine GN ?_
        refine G_region ?_
        refine GQ (ev_move rfl) ?_
        (first | refine GQ (ev_addN (q := 1) rfl rfl NgA) ?_ | refine GQ (ev_add rfl rfl NgA) ?_)
        refine GQ (ev_assign rfl) ?_
        refine GO_nil ?_
        refine GN ?_
        exact G_round 3 ⟨by omega, by omega, by omega, by omega⟩ (by omega) ⟨rfl, rfl, rfl, trivial⟩ (fun _ s => s)
  | 3 =>
    have e1 := f2 (by omega)
    have e2 := f3 (by omega)
    have e3 := f4 (by omega)
    subst e1 e2 e3
    refine GN ?_
    refine G_region ?_
    refine GQ (ev_move rfl) ?_
    (first | refine GQ (ev_lssN (q := 3) rfl rfl) ?_ | refine GQ (ev_lss rfl rfl) ?_)
    refine GO_nil ?_
    refine GN ?_
    refine G_cond_f rfl rfl ?_
    refine GN ?_
    refine G_region ?_
    refine GQ (ev_assign rfl) ?_
    refine GO_nil ?_
    refine GN ?_
    refine G_ret rfl (.tmp rfl .nil) EnA ⟨by simp [retv, three], rfl⟩
  | k + 4 => omega
end Go.Proofs.YtkoncepjfgnjlaaGreat
/- The reference's points in order. -/
namespace Go.Proofs.YtkoncepjfgnjlaaGreat
set_option linter.unusedVariables false
set_option linter.unusedSimpArgs false
set_option maxRecDepth 100000

/-- A point put in, behind those that do not come behind it. -/
def leU (x y : Pt) : Bool := decide (up y x ≤ 0)
def insP (x : Pt) (l : List Pt) : List Pt := l.takeWhile (leU x) ++ x :: l.dropWhile (leU x)
def sortP (l : List Pt) : List Pt := l.foldl (fun o x => insP x o) []
theorem twP_lt {p : Pt → Bool} : ∀ {l : List Pt} {k : Nat}, k < (l.takeWhile p).length → ∃ v, l[k]? = some v ∧ p v = true
  | [], k, h => by simp at h
  | a :: l, k, h => by
    rw [List.takeWhile_cons] at h
    cases ha : p a with
    | false => rw [ha] at h; simp at h
    | true =>
      rw [ha] at h
      cases k with
      | zero => exact ⟨a, rfl, ha⟩
      | succ k =>
        obtain ⟨v, h1, h2⟩ := twP_lt (l := l) (k := k) (by simpa using h)
        exact ⟨v, by simpa using h1, h2⟩
theorem twP_at {p : Pt → Bool} : ∀ {l : List Pt} {v : Pt}, l[(l.takeWhile p).length]? = some v → p v = false
  | [], v, h => by simp at h
  | a :: l, v, h => by
    cases ha : p a with
    | false =>
      rw [List.takeWhile_cons, ha] at h
      simp at h; subst h; exact ha
    | true =>
      rw [List.takeWhile_cons, ha] at h
      exact twP_at (l := l) (by simpa using h)
end Go.Proofs.YtkoncepjfgnjlaaGreat
/- Another reference's points in order. -/
namespace Go.Proofs.YtkoncepjfgnjlaaGreat
attribute [local irreducible] sat
set_option linter.unusedVariables false
set_option linter.unusedSimpArgs false
set_option maxRecDepth 100000

def leX (x y : Pt) : Bool := !x.less y
def sortX (l : List Pt) : List Pt := l.foldl (fun o x => putO Pt.less x o) []
theorem three_less (u x : Pt) : three u.x u.y u.id x.x x.y x.id ≤ 0 ↔ x.less u = false := by
  unfold three Pt.less
  by_cases h1 : u.x < x.x
  · simp [h1, show x.x ≠ u.x by omega]; omega
  · by_cases h2 : x.x < u.x
    · simp [h1, h2, show x.x ≠ u.x by omega]
    · have e : x.x = u.x := by omega
      by_cases h3 : u.y < x.y
      · simp [h1, h2, h3, e, show x.y ≠ u.y by omega]; omega
      · by_cases h4 : x.y < u.y
        · simp [h1, h2, h3, h4, e, show x.y ≠ u.y by omega]
        · have e2 : x.y = u.y := by omega
          by_cases h5 : u.id < x.id
          · simp [h1, h2, h3, h4, h5, e, e2]; omega
          · by_cases h6 : x.id < u.id
            · simp [h1, h2, h3, h4, h5, h6, e, e2]
            · simp [h1, h2, h3, h4, h5, h6, e, e2]
theorem sortX_fold (l o : List Pt) (ho : AscO Pt.less o) (hd : (o ++ l).Nodup) : AscO Pt.less (l.foldl (fun o x => putO Pt.less x o) o) ∧ (l.foldl (fun o x => putO Pt.less x o) o).Perm (o ++ l) := by
  induction l generalizing o with
  | nil => exact ⟨ho, by simp⟩
  | cons x l ih =>
    have hp := putO_perm (ls := Pt.less) x o
    have hp2 : (putO Pt.less x o ++ l).Perm (o ++ x :: l) := (hp.append_right l).trans List.perm_middle.symm
    have hx : x ∉ o := fun h => by
      rw [List.nodup_append] at hd
      exact hd.2.2 x h x (by simp) rfl
    obtain ⟨a, b⟩ := ih _ (putO_asc sto_less x o ho hx) (hp2.nodup_iff.2 hd)
    exact ⟨a, b.trans hp2⟩
theorem sortX_eq {l : List Pt} (hd : l.Nodup) : sortX l = srtO Pt.less l := by
  obtain ⟨a, b⟩ := sortX_fold l [] .nil (by simpa using hd)
  exact srtO_eq sto_less (a.srt sto_less) b
theorem rSortXo_ctr (A : Option Addr) (n c : Nat) (l : List Pt) (L : List HP) (hl : Rd L A n l) (hn : n ≤ 100000) :
    Ctr Tryz.prog 48 #[.slice A n c] L fun v L' => ∃ b c', v = .slice (some ⟨b, 0, none⟩) (sortX l).length c' ∧ (sortX l).length ≤ c' ∧ c' ≤ maxLen ∧ L' = own 28 3 (some ⟨b, 0, none⟩) (sortX l).length c' (flat (sortX l)) :: L := by
  have h1 : l.length = n := hl.len (by decide)
  refine Ctr_of (fn := Tryz.f48) (n := 71) Tryz.func48 rfl rfl rfl ?_
  intro g F
  refine GN ?_
  refine G_region ?_
  refine GQ (ev_assign rfl) ?_
  refine GO_nil ?_
  refine GN ?_
  refine G_region ?_
  refine GE eff_buildSlice0 ?_; rintro _ _ ⟨b6, rfl, rfl⟩
  refine GQ (ev_assign rfl) ?_
  refine GO_nil ?_
  refine GN ?_
  refine G_region ?_
  refine GQ (ev_assign rfl) ?_
  refine GO_nil ?_
  refine GN ?_
  refine G_loop (ι := Nat × Nat × Nat × List Pt) (fun x => [(0, .slice A n c), (3, .slice (some ⟨x.2.1, 0, none⟩) x.2.2.2.length x.2.2.1), (4, .int .i64 (x.1 : Nat))]) (fun x => own 28 3 (some ⟨x.2.1, 0, none⟩) x.2.2.2.length x.2.2.1 (flat x.2.2.2) :: F :: L)
    (fun x => x.1 ≤ n ∧ x.2.2.2 = sortX (l.take x.1) ∧ x.2.2.2.length = x.1 ∧ x.2.2.2.length ≤ x.2.2.1 ∧ x.2.2.1 ≤ maxLen) (fun x => n - x.1) (0, b6, 0, []) ⟨Nat.zero_le _, by simp [sortX], rfl, Nat.le_refl _, Nat.zero_le _⟩ ⟨rfl, rfl, rfl, trivial⟩ EnA ?_
  rintro ⟨i, b, d, out⟩ ⟨f1, f2, f3, f4, f5⟩
  simp only at f1 f2 f3 f4 f5
  dsimp only
  have f6 := f5
  unfold maxLen at f6
  refine GN ?_
  refine G_region ?_
  refine GQ (ev_move rfl) ?_
  refine GQ (ev_move rfl) ?_
  refine GQ (ev_len rfl) ?_
  (first | refine GQ (ev_lssN rfl rfl) ?_ | refine GQ (ev_lss rfl rfl) ?_)
  refine GO_nil ?_
  refine GN ?_
  refine G_cond rfl (fun c1 => ?_) (fun c1 => ?_)
  · obtain ⟨lb, lo, rfl, hx⟩ := hl.at_ (by omega)
    have hg : l[i]? = some l[i] := List.getElem?_eq_getElem (by omega)
    have hs : sortX (l.take (i + 1)) = putO Pt.less l[i] (sortX (l.take i)) := by
      unfold sortX; rw [List.take_succ_eq_append_getElem (by omega), List.foldl_append]; rfl
    have y1 := hx _ _ hg
    generalize l[i] = x at *
    have y2 : LdN L lb (lo + i * 3) 3 [.int .i64 x.id, .int .i64 x.x, .int .i64 x.y] := y1
    obtain ⟨w, hw⟩ : ∃ w, w = (out.takeWhile (leX x)).length := ⟨_, rfl⟩
    have hwl : w ≤ out.length := by rw [hw]; exact (List.takeWhile_prefix _).length_le
    have hin : putO Pt.less x out = out.take w ++ [x] ++ out.drop w := by rw [hw]; exact putO_eq x out
    have hout : Rd (own 28 3 (some ⟨b, 0, none⟩) out.length d (flat out) :: F :: L) (some ⟨b, 0, none⟩) out.length out := Rc.own (flat_length out) (fun _ => ⟨b, rfl⟩)
    refine GN ?_
    refine G_region ?_
    refine GQ (ev_assign rfl) ?_
    refine GO_nil ?_
    refine GN ?_
    refine G_loop (ι := Nat) (fun k => [(0, .slice (some ⟨lb, lo, none⟩) n c), (3, .slice (some ⟨b, 0, none⟩) out.length d), (4, .int .i64 (i : Nat)), (5, .int .i64 (k : Nat))]) (fun _ => own 28 3 (some ⟨b, 0, none⟩) out.length d (flat out) :: F :: L) (fun k => k ≤ w) (fun k => w - k) 0 (Nat.zero_le _) ⟨rfl, rfl, rfl, rfl, trivial⟩ (fun _ s => s) ?_
    intro k hk
    by_cases hko : k < out.length
    · obtain ⟨_, _, e9, hx2⟩ := hout.at_ (by omega)
      cases e9
      have hg2 : out[k]? = some out[k] := List.getElem?_eq_getElem hko
      have y3 := hx2 _ _ hg2
      have q1 : k < w → x.less out[k] = false := fun h => by
        obtain ⟨v, a1, a2⟩ := twP_lt (l := out) (k := k) (by rw [← hw]; exact h)
        rw [hg2] at a1; cases a1; simpa [leX] using a2
      have q2 : k = w → ¬ x.less out[k] = false := fun h => by
        have := twP_at (p := leX x) (l := out) (v := out[k]) (by rw [← hw, ← h]; exact hg2)
        simpa [leX] using this
      generalize out[k] = u at *
      have y4 : LdN (own 28 3 (some ⟨b, 0, none⟩) out.length d (flat out) :: F :: L) b (0 + k * 3) 3 [.int .i64 u.id, .int .i64 u.x, .int .i64 u.y] := y3
      have y5 : LdN (own 28 3 (some ⟨b, 0, none⟩) out.length d (flat out) :: F :: L) lb (lo + i * 3) 3 [.int .i64 x.id, .int .i64 x.x, .int .i64 x.y] := y2.skip.skip
      have u0 := y4.at_ (i := 0) rfl
      have u1 := y4.at_ (i := 1) rfl
      have u2 := y4.at_ (i := 2) rfl
      have v0 := y5.at_ (i := 0) rfl
      have v1 := y5.at_ (i := 1) rfl
      have v2 := y5.at_ (i := 2) rfl
      refine GN ?_
      refine G_draw (.q 0 (.q 1 (.q 2 (.q 3 (.q 4 (.q 5 (.q 6 (.q 7 (.q 8 (.q 9 (.q 10 (.q 11 (.q 12 (.q 13 (.q 14 (.q 15 (.q 16 (.q 17 (.q 18 (.q 19 (.q 20 (.q 21 (.q 22 (.q 23 (.q 24 (.q 25 (.q 26 (.q 27 (.q 28 (.q 29 (.q 30 (.q 31 (.q 32 (.q 33 (.q 34 (.q 35 (.q 36 (.e 37 (.q 38 (.q 39 .nil)))))))))))))))))))))))))))))))))))))))) (by kernel_rfl) (by kernel_rfl) ?_
      refine RM rfl (ev_move rfl) ?_
      refine RM rfl (ev_move rfl) ?_
      refine RQ rfl (ev_len rfl) ?_
      (first | refine RM rfl (ev_lssN rfl rfl) ?_ | refine RM rfl (ev_lss rfl rfl) ?_)
      refine RM rfl (ev_move rfl) ?_
      refine RS_m_yes retB_noPanic rfl rfl rfl rfl ⟨_, rfl, (decide_eq_true hko)⟩ rfl (ev_move rfl) ?_
      refine RS_m_yes retB_noPanic rfl rfl rfl rfl ⟨_, rfl, (decide_eq_true hko)⟩ rfl (ev_move rfl) ?_
      (first | refine RS_m_yes retB_noPanic rfl rfl rfl rfl ⟨_, rfl, (decide_eq_true hko)⟩ rfl (ev_indexAddrN rfl rfl NgA) ?_ | refine RS_m_yes retB_noPanic rfl rfl rfl rfl ⟨_, rfl, (decide_eq_true hko)⟩ rfl (ev_indexAddr rfl rfl NgA NgA) ?_)
      refine RS_m_yes retB_noPanic rfl rfl rfl rfl ⟨_, rfl, (decide_eq_true hko)⟩ rfl (ev_fieldAddr rfl) ?_
      refine RS_q_yes retB_noPanic rfl rfl rfl rfl ⟨_, rfl, (decide_eq_true hko)⟩ rfl (ev_load rfl LdA) ?_
      refine RS_m_yes retB_noPanic rfl rfl rfl rfl ⟨_, rfl, (decide_eq_true hko)⟩ rfl (ev_move rfl) ?_
      refine RS_m_yes retB_noPanic rfl rfl rfl rfl ⟨_, rfl, (decide_eq_true hko)⟩ rfl (ev_move rfl) ?_
      (first | refine RS_m_yes retB_noPanic rfl rfl rfl rfl ⟨_, rfl, (decide_eq_true hko)⟩ rfl (ev_indexAddrN rfl rfl NgA) ?_ | refine RS_m_yes retB_noPanic rfl rfl rfl rfl ⟨_, rfl, (decide_eq_true hko)⟩ rfl (ev_indexAddr rfl rfl NgA NgA) ?_)
      refine RS_m_yes retB_noPanic rfl rfl rfl rfl ⟨_, rfl, (decide_eq_true hko)⟩ rfl (ev_fieldAddr rfl) ?_
      refine RS_q_yes retB_noPanic rfl rfl rfl rfl ⟨_, rfl, (decide_eq_true hko)⟩ rfl (ev_load rfl LdA) ?_
      refine RS_m_yes retB_noPanic rfl rfl rfl rfl ⟨_, rfl, (decide_eq_true hko)⟩ rfl (ev_move rfl) ?_
      refine RS_m_yes retB_noPanic rfl rfl rfl rfl ⟨_, rfl, (decide_eq_true hko)⟩ rfl (ev_move rfl) ?_
      (first | refine RS_m_yes retB_noPanic rfl rfl rfl rfl ⟨_, rfl, (decide_eq_true hko)⟩ rfl (ev_indexAddrN rfl rfl NgA) ?_ | refine RS_m_yes retB_noPanic rfl rfl rfl rfl ⟨_, rfl, (decide_eq_true hko)⟩ rfl (ev_indexAddr rfl rfl NgA NgA) ?_)
      refine RS_m_yes retB_noPanic rfl rfl rfl rfl ⟨_, rfl, (decide_eq_true hko)⟩ rfl (ev_fieldAddr rfl) ?_
      refine RS_q_yes retB_noPanic rfl rfl rfl rfl ⟨_, rfl, (decide_eq_true hko)⟩ rfl (ev_load rfl LdA) ?_
      refine RS_m_yes retB_noPanic rfl rfl rfl rfl ⟨_, rfl, (decide_eq_true hko)⟩ rfl (ev_buildA rfl rfl) ?_
      refine RS_m_yes retB_noPanic rfl rfl rfl rfl ⟨_, rfl, (decide_eq_true hko)⟩ rfl (ev_move rfl) ?_
      refine RS_m_yes retB_noPanic rfl rfl rfl rfl ⟨_, rfl, (decide_eq_true hko)⟩ rfl (ev_move rfl) ?_
      (first | refine RS_m_yes retB_noPanic rfl rfl rfl rfl ⟨_, rfl, (decide_eq_true hko)⟩ rfl (ev_indexAddrN rfl rfl NgA) ?_ | refine RS_m_yes retB_noPanic rfl rfl rfl rfl ⟨_, rfl, (decide_eq_true hko)⟩ rfl (ev_indexAddr rfl rfl NgA NgA) ?_)
      refine RS_m_yes retB_noPanic rfl rfl rfl rfl ⟨_, rfl, (decide_eq_true hko)⟩ rfl (ev_fieldAddr rfl) ?_
      refine RS_q_yes retB_noPanic rfl rfl rfl rfl ⟨_, rfl, (decide_eq_true hko)⟩ rfl (ev_load rfl LdA) ?_
      refine RS_m_yes retB_noPanic rfl rfl rfl rfl ⟨_, rfl, (decide_eq_true hko)⟩ rfl (ev_move rfl) ?_
      refine RS_m_yes retB_noPanic rfl rfl rfl rfl ⟨_, rfl, (decide_eq_true hko)⟩ rfl (ev_move rfl) ?_
      (first | refine RS_m_yes retB_noPanic rfl rfl rfl rfl ⟨_, rfl, (decide_eq_true hko)⟩ rfl (ev_indexAddrN rfl rfl NgA) ?_ | refine RS_m_yes retB_noPanic rfl rfl rfl rfl ⟨_, rfl, (decide_eq_true hko)⟩ rfl (ev_indexAddr rfl rfl NgA NgA) ?_)
      refine RS_m_yes retB_noPanic rfl rfl rfl rfl ⟨_, rfl, (decide_eq_true hko)⟩ rfl (ev_fieldAddr rfl) ?_
      refine RS_q_yes retB_noPanic rfl rfl rfl rfl ⟨_, rfl, (decide_eq_true hko)⟩ rfl (ev_load rfl LdA) ?_
      refine RS_m_yes retB_noPanic rfl rfl rfl rfl ⟨_, rfl, (decide_eq_true hko)⟩ rfl (ev_move rfl) ?_
      refine RS_m_yes retB_noPanic rfl rfl rfl rfl ⟨_, rfl, (decide_eq_true hko)⟩ rfl (ev_move rfl) ?_
      (first | refine RS_m_yes retB_noPanic rfl rfl rfl rfl ⟨_, rfl, (decide_eq_true hko)⟩ rfl (ev_indexAddrN rfl rfl NgA) ?_ | refine RS_m_yes retB_noPanic rfl rfl rfl rfl ⟨_, rfl, (decide_eq_true hko)⟩ rfl (ev_indexAddr rfl rfl NgA NgA) ?_)
      refine RS_m_yes retB_noPanic rfl rfl rfl rfl ⟨_, rfl, (decide_eq_true hko)⟩ rfl (ev_fieldAddr rfl) ?_
      refine RS_q_yes retB_noPanic rfl rfl rfl rfl ⟨_, rfl, (decide_eq_true hko)⟩ rfl (ev_load rfl LdA) ?_
      refine RS_m_yes retB_noPanic rfl rfl rfl rfl ⟨_, rfl, (decide_eq_true hko)⟩ rfl (ev_buildA rfl rfl) ?_
      refine RS_e (RE_eff_yes rfl rfl rfl ⟨_, rfl, (decide_eq_true hko)⟩ rfl (eff_call rfl (Three_ctr _ _ _ _ _ _ _)) ?_); rintro _ _ ⟨rfl, rfl⟩; refine ⟨_, fun _ s => s, ExA, ?_⟩
      refine RS_m_yes retB_noPanic rfl rfl rfl rfl ⟨_, rfl, (decide_eq_true hko)⟩ rfl (ev_leq rfl rfl) ?_
      refine RM rfl (ev_pick_t rfl (decide_eq_true hko) rfl) ?_
      refine RS_nil ?_
      refine GN ?_
      refine G_cond rfl (fun c2 => ?_) (fun c2 => ?_)
      · refine GN ?_
        refine G_region ?_
        refine GQ (ev_move rfl) ?_
        (first | refine GQ (ev_addN (q := 1) rfl rfl NgA) ?_ | refine GQ (ev_add rfl rfl NgA) ?_)
        refine GQ (ev_assign rfl) ?_
        refine GO_nil ?_
        refine GN ?_
        exact G_round (k + 1) (by
          rcases Nat.lt_or_ge k w with h | h
          · exact h
          · exact absurd ((three_less u x).1 c2) (q2 (by omega))) (by
          rcases Nat.lt_or_ge k w with h | h
          · omega
          · exact absurd ((three_less u x).1 c2) (q2 (by omega))) ⟨rfl, rfl, rfl, rfl, trivial⟩ (fun _ s => s)
      · have e : k = w := by
          rcases Nat.lt_or_ge k w with h | h
          · exact absurd ((three_less u x).2 (q1 h)) c2
          · omega
        subst e
        refine GN ?_
        have m1 : Rc (own 28 3 (some ⟨b, 0, none⟩) out.length d (flat out) :: F :: L) 3 (some ⟨b, 0, none⟩) k (flat (out.take k)) := hout.take hwl
        have m2 : Rc (own 28 3 (some ⟨b, 0, none⟩) out.length d (flat out) :: F :: L) 3 (some ⟨b, (if d = k then 0 else 0 + k * 3), none⟩) (out.length - k) (flat (out.drop k)) := hout.drop hwl f4
        have y6 : LdN (own 28 3 (some ⟨b, 0, none⟩) out.length d (flat out) :: F :: L) lb (lo + i * 3) 3 [.int .i64 x.id, .int .i64 x.x, .int .i64 x.y] := y2.skip.skip
        have nn : 0 + k + 1 + (out.length - k) = (putO Pt.less x out).length := by rw [putO_length]; omega
        have n2 : (putO Pt.less x out).length = i + 1 := by rw [putO_length]; omega
        refine GN ?_
        refine G_draw (.q 1 (.q 2 (.q 3 (.q 5 (.q 6 (.q 7 (.q 8 (.q 11 (.q 12 (.q 13 (.br 0 (.br 4 (.e 9 (.e 10 (.e 14 (.q 15 .nil)))) 9 (.e 4 (.e 10 (.e 14 (.q 15 .nil))))) 9 (.e 0 (.e 4 (.e 10 (.e 14 (.q 15 .nil)))))))))))))))) (by kernel_rfl) (by kernel_rfl) ?_
        refine RM rfl (ev_move rfl) ?_
        refine RM rfl (ev_move rfl) ?_
        refine RQ rfl (ev_sliceH rfl rfl NgA) ?_
        refine RM rfl (ev_move rfl) ?_
        refine RM rfl (ev_move rfl) ?_
        (first | refine RM rfl (ev_indexAddrN rfl rfl NgA) ?_ | refine RM rfl (ev_indexAddr rfl rfl NgA NgA) ?_)
        refine RQ rfl (ev_loadN rfl LnA) ?_
        refine RM rfl (ev_move rfl) ?_
        refine RM rfl (ev_move rfl) ?_
        refine RQ rfl (ev_sliceL rfl rfl NgA NgA) ?_
        refine RS_br ?x12_0 ?x12_1
        case' x12_1 =>
          refine RE_eff rfl rfl rfl (eff_buildSlice1 (by rfl) rfl rfl) ?_; rintro _ _ ⟨b64, rfl, rfl⟩; refine ⟨_, ExA, fun _ s => s, ?_⟩
          refine RS_e (RE_eff rfl rfl rfl eff_buildSlice0 ?_); rintro _ _ ⟨b55, rfl, rfl⟩; refine ⟨_, ExA, fun _ s => s, ?_⟩
          refine RS_e (RE_eff rfl rfl rfl (eff_append rfl rfl PkA ((by repeat' first | assumption | apply Rc.skip)) ((flat_one _)) (by rfl) (by decide) NgA NgA) ?_); rintro _ _ ⟨A59, c59, rfl, hc59, hm59, hn59, rfl⟩; refine ⟨_, ExA, fun _ s => s, ?_⟩
          refine RS_e (RE_eff rfl rfl rfl (eff_append rfl rfl PkA (by repeat' first | exact Rc.blk rfl | assumption | apply Rc.skip) (one_all rfl) (by rfl) (by decide) NgA NgA) ?_); rintro _ _ ⟨A65, c65, rfl, hc65, hm65, hn65, rfl⟩; refine ⟨_, ExA, fun _ s => s, ?_⟩
          refine RS_e (RE_eff rfl rfl rfl (eff_append rfl rfl PkA ((by repeat' first | assumption | apply Rc.skip)) ((flat_one _)) (by rfl) (by decide) NgA NgA) ?_); rintro _ _ ⟨A69, c69, rfl, hc69, hm69, hn69, rfl⟩; refine ⟨_, ExA, fun _ s => s, ?_⟩
          refine RM rfl (ev_assign rfl) ?_
          refine RS_nil ?_
        case' x12_0 =>
          refine RE_eff rfl rfl rfl eff_buildSlice0 ?_; rintro _ _ ⟨b55, rfl, rfl⟩; refine ⟨_, ExA, fun _ s => s, ?_⟩
          refine RS_br ?x13_0 ?x13_1
          case' x13_1 =>
            refine RE_eff rfl rfl rfl (eff_buildSlice1 (by rfl) rfl rfl) ?_; rintro _ _ ⟨b64, rfl, rfl⟩; refine ⟨_, ExA, fun _ s => s, ?_⟩
            refine RS_e (RE_eff rfl rfl rfl (eff_append rfl rfl PkA ((by repeat' first | assumption | apply Rc.skip)) ((flat_one _)) (by rfl) (by decide) NgA NgA) ?_); rintro _ _ ⟨A59, c59, rfl, hc59, hm59, hn59, rfl⟩; refine ⟨_, ExA, fun _ s => s, ?_⟩
            refine RS_e (RE_eff rfl rfl rfl (eff_append rfl rfl PkA (by repeat' first | exact Rc.blk rfl | assumption | apply Rc.skip) (one_all rfl) (by rfl) (by decide) NgA NgA) ?_); rintro _ _ ⟨A65, c65, rfl, hc65, hm65, hn65, rfl⟩; refine ⟨_, ExA, fun _ s => s, ?_⟩
            refine RS_e (RE_eff rfl rfl rfl (eff_append rfl rfl PkA ((by repeat' first | assumption | apply Rc.skip)) ((flat_one _)) (by rfl) (by decide) NgA NgA) ?_); rintro _ _ ⟨A69, c69, rfl, hc69, hm69, hn69, rfl⟩; refine ⟨_, ExA, fun _ s => s, ?_⟩
            refine RM rfl (ev_assign rfl) ?_
            refine RS_nil ?_
          case' x13_0 =>
            refine RE_eff rfl rfl rfl (eff_append rfl rfl PkA ((by repeat' first | assumption | apply Rc.skip)) ((flat_one _)) (by rfl) (by decide) NgA NgA) ?_; rintro _ _ ⟨A59, c59, rfl, hc59, hm59, hn59, rfl⟩; refine ⟨_, ExA, fun _ s => s, ?_⟩
            refine RS_e (RE_eff rfl rfl rfl (eff_buildSlice1 (by rfl) rfl rfl) ?_); rintro _ _ ⟨b64, rfl, rfl⟩; refine ⟨_, ExA, fun _ s => s, ?_⟩
            refine RS_e (RE_eff rfl rfl rfl (eff_append rfl rfl PkA (by repeat' first | exact Rc.blk rfl | assumption | apply Rc.skip) (one_all rfl) (by rfl) (by decide) NgA NgA) ?_); rintro _ _ ⟨A65, c65, rfl, hc65, hm65, hn65, rfl⟩; refine ⟨_, ExA, fun _ s => s, ?_⟩
            refine RS_e (RE_eff rfl rfl rfl (eff_append rfl rfl PkA ((by repeat' first | assumption | apply Rc.skip)) ((flat_one _)) (by rfl) (by decide) NgA NgA) ?_); rintro _ _ ⟨A69, c69, rfl, hc69, hm69, hn69, rfl⟩; refine ⟨_, ExA, fun _ s => s, ?_⟩
            refine RM rfl (ev_assign rfl) ?_
            refine RS_nil ?_
        all_goals
          obtain ⟨b9, rfl⟩ := hn69 (by omega)
          rw [nn]
          rw [nn] at hc69
          refine GN ?_
          refine G_region ?_
          refine GQ (ev_move rfl) ?_
          (first | refine GQ (ev_addN (q := 1) rfl rfl NgA) ?_ | refine GQ (ev_add rfl rfl NgA) ?_)
          refine GQ (ev_assign rfl) ?_
          refine GO_nil ?_
          refine GN ?_
          refine G_round (i + 1, b9, c69, putO Pt.less x out) ⟨by simp only; omega, by simp only; rw [hs, ← f2], n2, hc69, hm69⟩ (by simp only; omega) ⟨rfl, rfl, rfl, trivial⟩ ?_
          refine en_own .here ?_ EnA
          rw [hin, flat_append, flat_append]
          rfl
    · have e : k = w := by omega
      subst e
      have hd9 : ¬ (k < out.length) := hko
      refine GN ?_
      refine G_draw (.q 0 (.q 1 (.q 2 (.q 3 (.q 4 (.q 5 (.q 6 (.q 7 (.q 8 (.q 9 (.q 10 (.q 11 (.q 12 (.q 13 (.q 14 (.q 15 (.q 16 (.q 17 (.q 18 (.q 19 (.q 20 (.q 21 (.q 22 (.q 23 (.q 24 (.q 25 (.q 26 (.q 27 (.q 28 (.q 29 (.q 30 (.q 31 (.q 32 (.q 33 (.q 34 (.q 35 (.q 36 (.e 37 (.q 38 (.q 39 .nil)))))))))))))))))))))))))))))))))))))))) (by kernel_rfl) (by kernel_rfl) ?_
      refine RM rfl (ev_move rfl) ?_
      refine RM rfl (ev_move rfl) ?_
      refine RQ rfl (ev_len rfl) ?_
      (first | refine RM rfl (ev_lssN rfl rfl) ?_ | refine RM rfl (ev_lss rfl rfl) ?_)
      refine RM rfl (ev_move rfl) ?_
      refine RS_q_no retB_noPanic rfl rfl rfl ⟨_, rfl, (decide_eq_false hd9)⟩ rfl ?_
      refine RS_q_no retB_noPanic rfl rfl rfl ⟨_, rfl, (decide_eq_false hd9)⟩ rfl ?_
      refine RS_q_no retB_noPanic rfl rfl rfl ⟨_, rfl, (decide_eq_false hd9)⟩ rfl ?_
      refine RS_q_no retB_noPanic rfl rfl rfl ⟨_, rfl, (decide_eq_false hd9)⟩ rfl ?_
      refine RS_q_no retB_noPanic rfl rfl rfl ⟨_, rfl, (decide_eq_false hd9)⟩ rfl ?_
      refine RS_q_no retB_noPanic rfl rfl rfl ⟨_, rfl, (decide_eq_false hd9)⟩ rfl ?_
      refine RS_q_no retB_noPanic rfl rfl rfl ⟨_, rfl, (decide_eq_false hd9)⟩ rfl ?_
      refine RS_q_no retB_noPanic rfl rfl rfl ⟨_, rfl, (decide_eq_false hd9)⟩ rfl ?_
      refine RS_q_no retB_noPanic rfl rfl rfl ⟨_, rfl, (decide_eq_false hd9)⟩ rfl ?_
      refine RS_q_no retB_noPanic rfl rfl rfl ⟨_, rfl, (decide_eq_false hd9)⟩ rfl ?_
      refine RS_q_no retB_noPanic rfl rfl rfl ⟨_, rfl, (decide_eq_false hd9)⟩ rfl ?_
      refine RS_q_no retB_noPanic rfl rfl rfl ⟨_, rfl, (decide_eq_false hd9)⟩ rfl ?_
      refine RS_q_no retB_noPanic rfl rfl rfl ⟨_, rfl, (decide_eq_false hd9)⟩ rfl ?_
      refine RS_q_no retB_noPanic rfl rfl rfl ⟨_, rfl, (decide_eq_false hd9)⟩ rfl ?_
      refine RS_q_no retB_noPanic rfl rfl rfl ⟨_, rfl, (decide_eq_false hd9)⟩ rfl ?_
      refine RS_q_no retB_noPanic rfl rfl rfl ⟨_, rfl, (decide_eq_false hd9)⟩ rfl ?_
      refine RS_q_no retB_noPanic rfl rfl rfl ⟨_, rfl, (decide_eq_false hd9)⟩ rfl ?_
      refine RS_q_no retB_noPanic rfl rfl rfl ⟨_, rfl, (decide_eq_false hd9)⟩ rfl ?_
      refine RS_q_no retB_noPanic rfl rfl rfl ⟨_, rfl, (decide_eq_false hd9)⟩ rfl ?_
      refine RS_q_no retB_noPanic rfl rfl rfl ⟨_, rfl, (decide_eq_false hd9)⟩ rfl ?_
      refine RS_q_no retB_noPanic rfl rfl rfl ⟨_, rfl, (decide_eq_false hd9)⟩ rfl ?_
      refine RS_q_no retB_noPanic rfl rfl rfl ⟨_, rfl, (decide_eq_false hd9)⟩ rfl ?_
      refine RS_q_no retB_noPanic rfl rfl rfl ⟨_, rfl, (decide_eq_false hd9)⟩ rfl ?_
      refine RS_q_no retB_noPanic rfl rfl rfl ⟨_, rfl, (decide_eq_false hd9)⟩ rfl ?_
      refine RS_q_no retB_noPanic rfl rfl rfl ⟨_, rfl, (decide_eq_false hd9)⟩ rfl ?_
      refine RS_q_no retB_noPanic rfl rfl rfl ⟨_, rfl, (decide_eq_false hd9)⟩ rfl ?_
      refine RS_q_no retB_noPanic rfl rfl rfl ⟨_, rfl, (decide_eq_false hd9)⟩ rfl ?_
      refine RS_q_no retB_noPanic rfl rfl rfl ⟨_, rfl, (decide_eq_false hd9)⟩ rfl ?_
      refine RS_q_no retB_noPanic rfl rfl rfl ⟨_, rfl, (decide_eq_false hd9)⟩ rfl ?_
      refine RS_q_no retB_noPanic rfl rfl rfl ⟨_, rfl, (decide_eq_false hd9)⟩ rfl ?_
      refine RS_q_no retB_noPanic rfl rfl rfl ⟨_, rfl, (decide_eq_false hd9)⟩ rfl ?_
      refine RS_q_no retB_noPanic rfl rfl rfl ⟨_, rfl, (decide_eq_false hd9)⟩ rfl ?_
      refine RS_e (RE_no rfl rfl rfl ⟨_, rfl, (decide_eq_false hd9)⟩ rfl ?_)
      refine RS_q_no retB_noPanic rfl rfl rfl ⟨_, rfl, (decide_eq_false hd9)⟩ rfl ?_
      refine RM rfl (ev_pick_f rfl (decide_eq_false hd9) rfl) ?_
      refine RS_nil ?_
      refine GN ?_
      refine G_cond_f rfl rfl ?_
      have m1 : Rc (own 28 3 (some ⟨b, 0, none⟩) out.length d (flat out) :: F :: L) 3 (some ⟨b, 0, none⟩) k (flat (out.take k)) := hout.take hwl
      have m2 : Rc (own 28 3 (some ⟨b, 0, none⟩) out.length d (flat out) :: F :: L) 3 (some ⟨b, (if d = k then 0 else 0 + k * 3), none⟩) (out.length - k) (flat (out.drop k)) := hout.drop hwl f4
      have y6 : LdN (own 28 3 (some ⟨b, 0, none⟩) out.length d (flat out) :: F :: L) lb (lo + i * 3) 3 [.int .i64 x.id, .int .i64 x.x, .int .i64 x.y] := y2.skip.skip
      have nn : 0 + k + 1 + (out.length - k) = (putO Pt.less x out).length := by rw [putO_length]; omega
      have n2 : (putO Pt.less x out).length = i + 1 := by rw [putO_length]; omega
      refine GN ?_
      refine G_draw (.q 1 (.q 2 (.q 3 (.q 5 (.q 6 (.q 7 (.q 8 (.q 11 (.q 12 (.q 13 (.br 0 (.br 4 (.e 9 (.e 10 (.e 14 (.q 15 .nil)))) 9 (.e 4 (.e 10 (.e 14 (.q 15 .nil))))) 9 (.e 0 (.e 4 (.e 10 (.e 14 (.q 15 .nil)))))))))))))))) (by kernel_rfl) (by kernel_rfl) ?_
      refine RM rfl (ev_move rfl) ?_
      refine RM rfl (ev_move rfl) ?_
      refine RQ rfl (ev_sliceH rfl rfl NgA) ?_
      refine RM rfl (ev_move rfl) ?_
      refine RM rfl (ev_move rfl) ?_
      (first | refine RM rfl (ev_indexAddrN rfl rfl NgA) ?_ | refine RM rfl (ev_indexAddr rfl rfl NgA NgA) ?_)
      refine RQ rfl (ev_loadN rfl LnA) ?_
      refine RM rfl (ev_move rfl) ?_
      refine RM rfl (ev_move rfl) ?_
      refine RQ rfl (ev_sliceL rfl rfl NgA NgA) ?_
      refine RS_br ?x14_0 ?x14_1
      case' x14_1 =>
        refine RE_eff rfl rfl rfl (eff_buildSlice1 (by rfl) rfl rfl) ?_; rintro _ _ ⟨b64, rfl, rfl⟩; refine ⟨_, ExA, fun _ s => s, ?_⟩
        refine RS_e (RE_eff rfl rfl rfl eff_buildSlice0 ?_); rintro _ _ ⟨b55, rfl, rfl⟩; refine ⟨_, ExA, fun _ s => s, ?_⟩
        refine RS_e (RE_eff rfl rfl rfl (eff_append rfl rfl PkA ((by repeat' first | assumption | apply Rc.skip)) ((flat_one _)) (by rfl) (by decide) NgA NgA) ?_); rintro _ _ ⟨A59, c59, rfl, hc59, hm59, hn59, rfl⟩; refine ⟨_, ExA, fun _ s => s, ?_⟩
        refine RS_e (RE_eff rfl rfl rfl (eff_append rfl rfl PkA (by repeat' first | exact Rc.blk rfl | assumption | apply Rc.skip) (one_all rfl) (by rfl) (by decide) NgA NgA) ?_); rintro _ _ ⟨A65, c65, rfl, hc65, hm65, hn65, rfl⟩; refine ⟨_, ExA, fun _ s => s, ?_⟩
        refine RS_e (RE_eff rfl rfl rfl (eff_append rfl rfl PkA ((by repeat' first | assumption | apply Rc.skip)) ((flat_one _)) (by rfl) (by decide) NgA NgA) ?_); rintro _ _ ⟨A69, c69, rfl, hc69, hm69, hn69, rfl⟩; refine ⟨_, ExA, fun _ s => s, ?_⟩
        refine RM rfl (ev_assign rfl) ?_
        refine RS_nil ?_
      case' x14_0 =>
        refine RE_eff rfl rfl rfl eff_buildSlice0 ?_; rintro _ _ ⟨b55, rfl, rfl⟩; refine ⟨_, ExA, fun _ s => s, ?_⟩
        refine RS_br ?x15_0 ?x15_1
        case' x15_1 =>
          refine RE_eff rfl rfl rfl (eff_buildSlice1 (by rfl) rfl rfl) ?_; rintro _ _ ⟨b64, rfl, rfl⟩; refine ⟨_, ExA, fun _ s => s, ?_⟩
          refine RS_e (RE_eff rfl rfl rfl (eff_append rfl rfl PkA ((by repeat' first | assumption | apply Rc.skip)) ((flat_one _)) (by rfl) (by decide) NgA NgA) ?_); rintro _ _ ⟨A59, c59, rfl, hc59, hm59, hn59, rfl⟩; refine ⟨_, ExA, fun _ s => s, ?_⟩
          refine RS_e (RE_eff rfl rfl rfl (eff_append rfl rfl PkA (by repeat' first | exact Rc.blk rfl | assumption | apply Rc.skip) (one_all rfl) (by rfl) (by decide) NgA NgA) ?_); rintro _ _ ⟨A65, c65, rfl, hc65, hm65, hn65, rfl⟩; refine ⟨_, ExA, fun _ s => s, ?_⟩
          refine RS_e (RE_eff rfl rfl rfl (eff_append rfl rfl PkA ((by repeat' first | assumption | apply Rc.skip)) ((flat_one _)) (by rfl) (by decide) NgA NgA) ?_); rintro _ _ ⟨A69, c69, rfl, hc69, hm69, hn69, rfl⟩; refine ⟨_, ExA, fun _ s => s, ?_⟩
          refine RM rfl (ev_assign rfl) ?_
          refine RS_nil ?_
        case' x15_0 =>
          refine RE_eff rfl rfl rfl (eff_append rfl rfl PkA ((by repeat' first | assumption | apply Rc.skip)) ((flat_one _)) (by rfl) (by decide) NgA NgA) ?_; rintro _ _ ⟨A59, c59, rfl, hc59, hm59, hn59, rfl⟩; refine ⟨_, ExA, fun _ s => s, ?_⟩
          refine RS_e (RE_eff rfl rfl rfl (eff_buildSlice1 (by rfl) rfl rfl) ?_); rintro _ _ ⟨b64, rfl, rfl⟩; refine ⟨_, ExA, fun _ s => s, ?_⟩
          refine RS_e (RE_eff rfl rfl rfl (eff_append rfl rfl PkA (by repeat' first | exact Rc.blk rfl | assumption | apply Rc.skip) (one_all rfl) (by rfl) (by decide) NgA NgA) ?_); rintro _ _ ⟨A65, c65, rfl, hc65, hm65, hn65, rfl⟩; refine ⟨_, ExA, fun _ s => s, ?_⟩
          refine RS_e (RE_eff rfl rfl rfl (eff_append rfl rfl PkA ((by repeat' first | assumption | apply Rc.skip)) ((flat_one _)) (by rfl) (by decide) NgA NgA) ?_); rintro _ _ ⟨A69, c69, rfl, hc69, hm69, hn69, rfl⟩; refine ⟨_, ExA, fun _ s => s, ?_⟩
          refine RM rfl (ev_assign rfl) ?_
          refine RS_nil ?_
      all_goals
        obtain ⟨b9, rfl⟩ := hn69 (by omega)
        rw [nn]
        rw [nn] at hc69
        refine GN ?_
        refine G_region ?_
        refine GQ (ev_move rfl) ?_
        (first | refine GQ (ev_addN (q := 1) rfl rfl NgA) ?_ | refine GQ (ev_add rfl rfl NgA) ?_)
        refine GQ (ev_assign rfl) ?_
        refine GO_nil ?_
        refine GN ?_
        refine G_round (i + 1, b9, c69, putO Pt.less x out) ⟨by simp only; omega, by simp only; rw [hs, ← f2], n2, hc69, hm69⟩ (by simp only; omega) ⟨rfl, rfl, rfl, trivial⟩ ?_
        refine en_own .here ?_ EnA
        rw [hin, flat_append, flat_append]
        rfl
  · have e : i = n := by omega
    subst e
    have e2 : out = sortX l := by rw [f2, List.take_of_length_le (by omega)]
    subst e2
    refine GN ?_
    refine G_region ?_
    refine GQ (ev_move rfl) ?_
    refine GQ (ev_assign rfl) ?_
    refine GO_nil ?_
    refine GN ?_
    exact G_ret (L' := own 28 3 (some ⟨b, 0, none⟩) (sortX l).length d (flat (sortX l)) :: L) rfl (.tmp rfl .nil) (fun _ s => s.swap) ⟨b, d, rfl, f4, f5, rfl⟩
end Go.Proofs.YtkoncepjfgnjlaaGreat
/- The references' sets of points: the walks (out of the texts on pst, by tools/mkps.sh). -/
namespace Go.Proofs.YtkoncepjfgnjlaaGreat
attribute [local irreducible] sat
set_option linter.unusedVariables false
set_option linter.unusedSimpArgs false
set_option maxRecDepth 100000

theorem kid_id_ctr (n : Int) (L : List HP) : Ctr Tryz.prog 61 #[.int .i64 n] L fun v L' => v = .bool (goodId n) ∧ L' = L := by
  refine Ctr_of (fn := Tryz.f61) (n := 9) Tryz.func61 rfl rfl rfl ?_
  intro g F
  refine GN ?_
  refine G_region ?_
  refine GQ (ev_assign rfl) ?_
  refine GO_nil ?_
  refine GN ?_
  refine G_region ?_
  refine GQ (ev_move rfl) ?_
  refine GQ (ev_geq rfl rfl) ?_
  refine GQ (ev_move rfl) ?_
  refine GO_guard rfl rfl rfl (fun hc19 => ?y19) (fun hc19 => ?n19)
  case' n19 =>
    have hd19 := hc19
    try simp only [decide_eq_true_eq, decide_eq_false_iff_not, Bool.not_true, Bool.not_false, Bool.not_eq_true', Bool.not_eq_false'] at hd19
    refine GO_no rfl rfl rfl hc19 ?_
    refine GQ (ev_pick_f rfl hc19 rfl) ?_
    refine GQ (ev_assign rfl) ?_
    refine GO_nil ?_
    refine GN ?_
    refine G_ret rfl (.tmp rfl .nil) EnA ⟨by simp_all [retv, goodId] <;> (intros; omega), rfl⟩
  case' y19 =>
    have hd19 := hc19
    try simp only [decide_eq_true_eq, decide_eq_false_iff_not, Bool.not_true, Bool.not_false, Bool.not_eq_true', Bool.not_eq_false'] at hd19
    refine GQ (ev_move rfl) ?_
    refine GO_yes rfl rfl rfl hc19 ?_
    refine GQ (ev_leq rfl rfl) ?_
    refine GQ (ev_pick_t rfl hc19 rfl) ?_
    refine GQ (ev_assign rfl) ?_
    refine GO_nil ?_
    refine GN ?_
    refine G_ret rfl (.tmp rfl .nil) EnA ⟨by simp_all [retv, goodId] <;> (intros; omega), rfl⟩
theorem lies_ctr (p : Pt) (L : List HP) : Ctr Tryz.prog 62 #[p.v] L fun v L' => v = .bool (good p.x && good p.y) ∧ L' = L := by
  refine Ctr_of (fn := Tryz.f62) (n := 11) Tryz.func62 rfl rfl rfl ?_
  intro g F
  refine GN ?_
  refine G_region ?_
  refine GE (eff_box rfl) ?_; rintro _ _ ⟨b1, rfl, rfl⟩
  refine GQ (ev_assign rfl) ?_
  refine GO_nil ?_
  refine GN ?_
  refine G_region ?_
  refine GQ (ev_fieldAddr rfl) ?_
  refine GQ (ev_load rfl LdA) ?_
  refine GE (eff_call rfl (Good_ctr _ _)) ?_; rintro _ _ ⟨rfl, rfl⟩
  refine GQ (ev_move rfl) ?_
  refine GO_guard rfl rfl rfl (fun hc29 => ?y29) (fun hc29 => ?n29)
  case' n29 =>
    have hd29 := hc29
    try simp only [decide_eq_true_eq, decide_eq_false_iff_not, Bool.not_true, Bool.not_false, Bool.not_eq_true', Bool.not_eq_false'] at hd29
    refine GO_no rfl rfl rfl hc29 ?_
    refine GO_no rfl rfl rfl hc29 ?_
    refine GQ (ev_pick_f rfl hc29 rfl) ?_
    refine GQ (ev_assign rfl) ?_
    refine GO_nil ?_
    refine GN ?_
    refine G_ret rfl (.tmp rfl .nil) EnA ⟨by simp_all [retv], rfl⟩
  case' y29 =>
    have hd29 := hc29
    try simp only [decide_eq_true_eq, decide_eq_false_iff_not, Bool.not_true, Bool.not_false, Bool.not_eq_true', Bool.not_eq_false'] at hd29
    refine GQ (ev_fieldAddr rfl) ?_
    refine GO_yes rfl rfl rfl hc29 ?_
    refine GQ (ev_load rfl LdA) ?_
    refine GO_yes rfl rfl rfl hc29 ?_
    refine GE (eff_call rfl (Good_ctr _ _)) ?_; rintro _ _ ⟨rfl, rfl⟩
    refine GQ (ev_pick_t rfl hc29 rfl) ?_
    refine GQ (ev_assign rfl) ?_
    refine GO_nil ?_
    refine GN ?_
    refine G_ret rfl (.tmp rfl .nil) EnA ⟨by simp_all [retv], rfl⟩
theorem KGood_ctr (p : Pt) (L : List HP) : Ctr Tryz.prog 33 #[p.v] L fun v L' => v = .bool (goodP p) ∧ L' = L := by
  refine Ctr_of (fn := Tryz.f33) (n := 10) Tryz.func33 rfl rfl rfl ?_
  intro g F
  refine GN ?_
  refine G_region ?_
  refine GE (eff_box rfl) ?_; rintro _ _ ⟨b1, rfl, rfl⟩
  refine GQ (ev_assign rfl) ?_
  refine GO_nil ?_
  refine GN ?_
  refine G_region ?_
  refine GQ (ev_fieldAddr rfl) ?_
  refine GQ (ev_load rfl LdA) ?_
  refine GE (eff_call rfl (kid_id_ctr _ _)) ?_; rintro _ _ ⟨rfl, rfl⟩
  refine GQ (ev_move rfl) ?_
  refine GO_guard rfl rfl rfl (fun hc42 => ?y42) (fun hc42 => ?n42)
  case' n42 =>
    have hd42 := hc42
    try simp only [decide_eq_true_eq, decide_eq_false_iff_not, Bool.not_true, Bool.not_false, Bool.not_eq_true', Bool.not_eq_false'] at hd42
    refine GO_no rfl rfl rfl hc42 ?_
    refine GQ (ev_pick_f rfl hc42 rfl) ?_
    refine GQ (ev_assign rfl) ?_
    refine GO_nil ?_
    refine GN ?_
    refine G_ret rfl (.tmp rfl .nil) EnA ⟨by simp_all [retv, goodP], rfl⟩
  case' y42 =>
    have hd42 := hc42
    try simp only [decide_eq_true_eq, decide_eq_false_iff_not, Bool.not_true, Bool.not_false, Bool.not_eq_true', Bool.not_eq_false'] at hd42
    refine GQ (ev_loadN rfl LnA) ?_
    refine GO_yes rfl rfl rfl hc42 ?_
    refine GE (eff_call rfl (lies_ctr p _)) ?_; rintro _ _ ⟨rfl, rfl⟩
    refine GQ (ev_pick_t rfl hc42 rfl) ?_
    refine GQ (ev_assign rfl) ?_
    refine GO_nil ?_
    refine GN ?_
    refine G_ret rfl (.tmp rfl .nil) EnA ⟨by simp_all [retv, goodP], rfl⟩

def atI (l : List Pt) (p : Pt) : Int := if p ∈ l then (l.idxOf p : Nat) else -1
theorem At_ctr0 (b : Nat) (A : Option Addr) (c : Nat) (most : Int) (l : List Pt) (p : Pt) (L : List HP) (h : LdN L b 0 2 [.slice A l.length c, .int .i64 most]) (hl : Rd L A l.length l) (hn : l.length ≤ 100000) :
    Ctr Tryz.prog 103 #[.pointer (some ⟨b, 0, none⟩), p.v] L fun v L' => v = .int .i64 (atI l p) ∧ L' = L := by
  have h1 : Ld L ⟨b, 0 + 0, none⟩ (.slice A l.length c) := h.at_ (i := 0) rfl
  refine Ctr_of (fn := Tryz.f103) (n := 25) Tryz.func103 rfl rfl rfl ?_
  intro g F
  refine GN ?_
  refine G_region ?_
  refine GE (eff_box rfl) ?_; rintro _ _ ⟨b3, rfl, rfl⟩
  refine GQ (ev_assign rfl) ?_
  refine GO_nil ?_
  refine GN ?_
  refine G_region ?_
  refine GQ (ev_assign rfl) ?_
  refine GO_nil ?_
  refine GN ?_
  refine G_loop (ι := Nat) (fun k => [(0, .pointer (some ⟨b, 0, none⟩)), (3, .pointer (some ⟨b3, 0, none⟩)), (5, .int .i64 (k : Nat))]) (fun _ => blk b3 28 [.int .i64 p.id, .int .i64 p.x, .int .i64 p.y] :: F :: L) (fun k => k ≤ l.length ∧ p ∉ l.take k) (fun k => l.length - k) 0 ⟨Nat.zero_le _, by simp⟩ ⟨rfl, rfl, rfl, trivial⟩ EnA ?_
  rintro k ⟨f1, f2⟩
  refine GN ?_
  refine G_region ?_
  refine GQ (ev_move rfl) ?_
  refine GQ (ev_move rfl) ?_
  (first | refine GQ (ev_nilCheck rfl) ?_ | refine GQ (ev_nilCheckF (by simp) rfl) ?_)
  refine GQ (ev_fieldAddr rfl) ?_
  refine GQ (ev_load rfl LdA) ?_
  refine GQ (ev_len rfl) ?_
  (first | refine GQ (ev_lssN rfl rfl) ?_ | refine GQ (ev_lss rfl rfl) ?_)
  refine GO_nil ?_
  refine GN ?_
  refine G_cond rfl (fun h4 => ?_) (fun h4 => ?_)
  · obtain ⟨lb, lo, rfl, hx⟩ := hl.at_ (by omega)
    have g1 : l[k]? = some l[k] := List.getElem?_eq_getElem (by omega)
    have y1 := hx _ _ g1
    have s1 : l.take (k + 1) = l.take k ++ [l[k]] := List.take_succ_eq_append_getElem (by omega)
    have m1 : l[k] ∈ l := List.getElem_mem _
    generalize l[k] = u at *
    have z1 : LdN L lb (lo + k * 3) 3 [.int .i64 u.id, .int .i64 u.x, .int .i64 u.y] := y1
    refine GN ?_
    refine G_draw (.q 0 (.q 1 (.q 2 (.q 3 (.q 4 (.q 5 (.q 6 (.q 7 (.q 8 .nil))))))))) (by kernel_rfl) (by kernel_rfl) ?_
    refine RM rfl (ev_move rfl) ?_
    (first | refine RM rfl (ev_nilCheck rfl) ?_ | refine RM rfl (ev_nilCheckF (by simp) rfl) ?_)
    refine RM rfl (ev_fieldAddr rfl) ?_
    refine RQ rfl (ev_load rfl LdA) ?_
    refine RM rfl (ev_move rfl) ?_
    (first | refine RM rfl (ev_indexAddrN rfl rfl NgA) ?_ | refine RM rfl (ev_indexAddr rfl rfl NgA NgA) ?_)
    refine RQ rfl (ev_loadN rfl LnA) ?_
    refine RQ rfl (ev_loadN rfl LnA) ?_
    refine RM rfl (ev_eqlS rfl rfl rfl rfl rfl rfl) ?_
    refine RS_nil ?_
    refine GN ?_
    refine G_cond rfl (fun h5 => ?_) (fun h5 => ?_)
    · have e : u = p := (pt_list u p).1 h5
      subst e
      refine GN ?_
      refine G_region ?_
      refine GQ (ev_move rfl) ?_
      refine GQ (ev_assign rfl) ?_
      refine GO_nil ?_
      refine GN ?_
      refine G_ret rfl (.tmp rfl .nil) EnA ⟨by unfold atI; rw [if_pos m1, idx_take u l k g1 f2]; rfl, rfl⟩
    · refine GN ?_
      refine G_region ?_
      refine GQ (ev_move rfl) ?_
      (first | refine GQ (ev_addN (q := 1) rfl rfl NgA) ?_ | refine GQ (ev_add rfl rfl NgA) ?_)
      refine GQ (ev_assign rfl) ?_
      refine GO_nil ?_
      refine GN ?_
      exact G_round (k + 1) ⟨by omega, by rw [s1]; simp only [List.mem_append, List.mem_singleton, not_or]; exact ⟨f2, fun e => h5 ((pt_list u p).2 e.symm)⟩⟩ (by omega) ⟨rfl, rfl, rfl, trivial⟩ EnA
  · have e : k = l.length := by omega
    subst e
    rw [List.take_length] at f2
    refine GN ?_
    refine G_region ?_
    refine GQ (ev_assign rfl) ?_
    refine GO_nil ?_
    refine GN ?_
    refine G_ret rfl (.tmp rfl .nil) EnA ⟨by unfold atI; rw [if_neg f2]; rfl, rfl⟩
theorem RID_ctr (n : Int) (L : List HP) : Ctr Tryz.prog 124 #[.int .i64 n] L fun v L' => v = .bool (goodId n) ∧ L' = L := by
  refine Ctr_of (fn := Tryz.f124) (n := 9) Tryz.func124 rfl rfl rfl ?_
  intro g F
  refine GN ?_
  refine G_region ?_
  refine GQ (ev_assign rfl) ?_
  refine GO_nil ?_
  refine GN ?_
  refine G_region ?_
  refine GQ (ev_move rfl) ?_
  refine GQ (ev_geq rfl rfl) ?_
  refine GQ (ev_move rfl) ?_
  refine GO_guard rfl rfl rfl (fun hc51 => ?y51) (fun hc51 => ?n51)
  case' n51 =>
    have hd51 := hc51
    try simp only [decide_eq_true_eq, decide_eq_false_iff_not, Bool.not_true, Bool.not_false, Bool.not_eq_true', Bool.not_eq_false'] at hd51
    refine GO_no rfl rfl rfl hc51 ?_
    refine GQ (ev_pick_f rfl hc51 rfl) ?_
    refine GQ (ev_assign rfl) ?_
    refine GO_nil ?_
    refine GN ?_
    refine G_ret rfl (.tmp rfl .nil) EnA ⟨by simp_all [retv, goodId] <;> (intros; omega), rfl⟩
  case' y51 =>
    have hd51 := hc51
    try simp only [decide_eq_true_eq, decide_eq_false_iff_not, Bool.not_true, Bool.not_false, Bool.not_eq_true', Bool.not_eq_false'] at hd51
    refine GQ (ev_move rfl) ?_
    refine GO_yes rfl rfl rfl hc51 ?_
    refine GQ (ev_leq rfl rfl) ?_
    refine GQ (ev_pick_t rfl hc51 rfl) ?_
    refine GQ (ev_assign rfl) ?_
    refine GO_nil ?_
    refine GN ?_
    refine G_ret rfl (.tmp rfl .nil) EnA ⟨by simp_all [retv, goodId] <;> (intros; omega), rfl⟩
theorem RLies_ctr (p : Pt) (L : List HP) : Ctr Tryz.prog 125 #[p.v] L fun v L' => v = .bool (good p.x && good p.y) ∧ L' = L := by
  refine Ctr_of (fn := Tryz.f125) (n := 11) Tryz.func125 rfl rfl rfl ?_
  intro g F
  refine GN ?_
  refine G_region ?_
  refine GE (eff_box rfl) ?_; rintro _ _ ⟨b1, rfl, rfl⟩
  refine GQ (ev_assign rfl) ?_
  refine GO_nil ?_
  refine GN ?_
  refine G_region ?_
  refine GQ (ev_fieldAddr rfl) ?_
  refine GQ (ev_load rfl LdA) ?_
  refine GE (eff_call rfl (Coord_ctr _ _)) ?_; rintro _ _ ⟨rfl, rfl⟩
  refine GQ (ev_move rfl) ?_
  refine GO_guard rfl rfl rfl (fun hc61 => ?y61) (fun hc61 => ?n61)
  case' n61 =>
    have hd61 := hc61
    try simp only [decide_eq_true_eq, decide_eq_false_iff_not, Bool.not_true, Bool.not_false, Bool.not_eq_true', Bool.not_eq_false'] at hd61
    refine GO_no rfl rfl rfl hc61 ?_
    refine GO_no rfl rfl rfl hc61 ?_
    refine GQ (ev_pick_f rfl hc61 rfl) ?_
    refine GQ (ev_assign rfl) ?_
    refine GO_nil ?_
    refine GN ?_
    refine G_ret rfl (.tmp rfl .nil) EnA ⟨by simp_all [retv], rfl⟩
  case' y61 =>
    have hd61 := hc61
    try simp only [decide_eq_true_eq, decide_eq_false_iff_not, Bool.not_true, Bool.not_false, Bool.not_eq_true', Bool.not_eq_false'] at hd61
    refine GQ (ev_fieldAddr rfl) ?_
    refine GO_yes rfl rfl rfl hc61 ?_
    refine GQ (ev_load rfl LdA) ?_
    refine GO_yes rfl rfl rfl hc61 ?_
    refine GE (eff_call rfl (Coord_ctr _ _)) ?_; rintro _ _ ⟨rfl, rfl⟩
    refine GQ (ev_pick_t rfl hc61 rfl) ?_
    refine GQ (ev_assign rfl) ?_
    refine GO_nil ?_
    refine GN ?_
    refine G_ret rfl (.tmp rfl .nil) EnA ⟨by simp_all [retv], rfl⟩
theorem RGood_ctr (p : Pt) (L : List HP) : Ctr Tryz.prog 102 #[p.v] L fun v L' => v = .bool (goodP p) ∧ L' = L := by
  refine Ctr_of (fn := Tryz.f102) (n := 10) Tryz.func102 rfl rfl rfl ?_
  intro g F
  refine GN ?_
  refine G_region ?_
  refine GE (eff_box rfl) ?_; rintro _ _ ⟨b1, rfl, rfl⟩
  refine GQ (ev_assign rfl) ?_
  refine GO_nil ?_
  refine GN ?_
  refine G_region ?_
  refine GQ (ev_fieldAddr rfl) ?_
  refine GQ (ev_load rfl LdA) ?_
  refine GE (eff_call rfl (RID_ctr _ _)) ?_; rintro _ _ ⟨rfl, rfl⟩
  refine GQ (ev_move rfl) ?_
  refine GO_guard rfl rfl rfl (fun hc74 => ?y74) (fun hc74 => ?n74)
  case' n74 =>
    have hd74 := hc74
    try simp only [decide_eq_true_eq, decide_eq_false_iff_not, Bool.not_true, Bool.not_false, Bool.not_eq_true', Bool.not_eq_false'] at hd74
    refine GO_no rfl rfl rfl hc74 ?_
    refine GQ (ev_pick_f rfl hc74 rfl) ?_
    refine GQ (ev_assign rfl) ?_
    refine GO_nil ?_
    refine GN ?_
    refine G_ret rfl (.tmp rfl .nil) EnA ⟨by simp_all [retv, goodP], rfl⟩
  case' y74 =>
    have hd74 := hc74
    try simp only [decide_eq_true_eq, decide_eq_false_iff_not, Bool.not_true, Bool.not_false, Bool.not_eq_true', Bool.not_eq_false'] at hd74
    refine GQ (ev_loadN rfl LnA) ?_
    refine GO_yes rfl rfl rfl hc74 ?_
    refine GE (eff_call rfl (RLies_ctr p _)) ?_; rintro _ _ ⟨rfl, rfl⟩
    refine GQ (ev_pick_t rfl hc74 rfl) ?_
    refine GQ (ev_assign rfl) ?_
    refine GO_nil ?_
    refine GN ?_
    refine G_ret rfl (.tmp rfl .nil) EnA ⟨by simp_all [retv, goodP], rfl⟩
def insR (most : Int) (l : List Pt) (p : Pt) : List Pt := if insC most l p = 0 then l ++ [p] else l
theorem atI_nn (l : List Pt) (p : Pt) : 0 ≤ atI l p ↔ p ∈ l := by
  unfold atI; split <;> simp_all
theorem RInsert_ctr (b : Nat) (most : Int) (l : List Pt) (p : Pt) (L : List HP) (hn : l.length + 1 ≤ 100000) :
    Ctr Tryz.prog 73 #[.pointer (some ⟨b, 0, none⟩), p.v] (setS b most l :: L) fun v L' => v = .int .i64 (insC most l p) ∧ L' = setS b most (insR most l p) :: L := by
  refine Ctr.set fun A c hA hlc hcm => ?_
  have hb : ∀ L', LdN (blk b 49 [.slice A l.length c, .int .i64 most] :: L') b 0 2 [.slice A l.length c, .int .i64 most] := fun L' => LdN.blk rfl
  have hr : ∀ L', Rd (own 28 3 A l.length c (flat l) :: L') A l.length l := fun L' => Rc.own (flat_length l) hA
  have hb1 : ∀ L', Ld (blk b 49 [.slice A l.length c, .int .i64 most] :: L') ⟨b, 0 + 0, none⟩ (.slice A l.length c) := fun L' => Ld.blk rfl
  have hb2 : ∀ L', Ld (blk b 49 [.slice A l.length c, .int .i64 most] :: L') ⟨b, 0 + 1, none⟩ (.int .i64 most) := fun L' => Ld.blk rfl
  unfold maxLen at hcm
  refine Ctr_of (fn := Tryz.f73) (n := 34) Tryz.func73 rfl rfl rfl ?_
  intro g F
  refine GN ?_
  refine G_region ?_
  refine GE (eff_box rfl) ?_; rintro _ _ ⟨b3, rfl, rfl⟩
  refine GQ (ev_assign rfl) ?_
  refine GO_nil ?_
  cases hg : goodP p with
  | false =>
    have e1 : insC most l p = 1 := by unfold insC; rw [if_pos hg]
    have e2 : insR most l p = l := by unfold insR; rw [e1]; rfl
    rw [e1, e2]
    refine GN ?_
    refine G_region ?_
    refine GQ (ev_loadN rfl LnA) ?_
    refine GE (eff_call rfl (RGood_ctr p _)) ?_; rintro _ _ ⟨rfl, rfl⟩
    refine GQ (ev_not rfl) ?_
    refine GO_nil ?_
    refine GN ?_
    refine G_cond_t rfl (by rw [hg]; rfl) ?_
    refine GN ?_
    refine G_region ?_
    refine GQ (ev_assign rfl) ?_
    refine GO_nil ?_
    refine GN ?_
    refine G_ret (L' := setS b most l :: L) rfl (.tmp rfl .nil) ?_ ⟨rfl, rfl⟩
    apply en_pick
    focus ((repeat' first | exact Pick.here | apply Pick.skip | apply Pick.app); done)
    exact en_set hA EpA
  | true =>
    refine GN ?_
    refine G_region ?_
    refine GQ (ev_loadN rfl LnA) ?_
    refine GE (eff_call rfl (RGood_ctr p _)) ?_; rintro _ _ ⟨rfl, rfl⟩
    refine GQ (ev_not rfl) ?_
    refine GO_nil ?_
    refine GN ?_
    refine G_cond_f rfl (by rw [hg]; rfl) ?_
    refine GN ?_
    refine G_region ?_
    refine GQ (ev_move rfl) ?_
    refine GQ (ev_loadN rfl LnA) ?_
    refine GE (eff_call rfl (At_ctr0 b A c most l p _ (by repeat' first | exact hb _ | apply LdN.skip) (by repeat' first | exact hr _ | apply Rd.skip) (by omega))) ?_; rintro _ _ ⟨rfl, rfl⟩
    refine GQ (ev_geq rfl rfl) ?_
    refine GO_nil ?_
    by_cases hp : p ∈ l
    · have e1 : insC most l p = 5 := by unfold insC; rw [if_neg (by simp [hg]), if_pos hp]
      have e2 : insR most l p = l := by unfold insR; rw [e1]; rfl
      rw [e1, e2]
      refine GN ?_
      refine G_cond_t rfl (decide_eq_true ((atI_nn l p).2 hp)) ?_
      refine GN ?_
      refine G_region ?_
      refine GQ (ev_assign rfl) ?_
      refine GO_nil ?_
      refine GN ?_
      refine G_ret (L' := setS b most l :: L) rfl (.tmp rfl .nil) ?_ ⟨rfl, rfl⟩
      apply en_pick
      focus ((repeat' first | exact Pick.here | apply Pick.skip | apply Pick.app); done)
      exact en_set hA EpA
    · skip
      refine GN ?_
      refine G_cond_f rfl (decide_eq_false (fun h => hp ((atI_nn l p).1 h))) ?_
      refine GN ?_
      refine G_draw (.q 0 (.q 1 (.q 2 (.q 3 (.q 4 (.q 5 (.q 6 (.q 7 (.q 8 (.q 9 .nil)))))))))) (by kernel_rfl) (by kernel_rfl) ?_
      refine RM rfl (ev_move rfl) ?_
      (first | refine RM rfl (ev_nilCheck rfl) ?_ | refine RM rfl (ev_nilCheckF (by simp) rfl) ?_)
      refine RM rfl (ev_fieldAddr rfl) ?_
      refine RQ rfl (ev_load rfl LdA) ?_
      refine RQ rfl (ev_len rfl) ?_
      refine RM rfl (ev_move rfl) ?_
      (first | refine RM rfl (ev_nilCheck rfl) ?_ | refine RM rfl (ev_nilCheckF (by simp) rfl) ?_)
      refine RM rfl (ev_fieldAddr rfl) ?_
      refine RQ rfl (ev_load rfl LdA) ?_
      refine RM rfl (ev_geq rfl rfl) ?_
      refine RS_nil ?_
      by_cases hfull : most ≤ l.length
      · have e1 : insC most l p = 4 := by unfold insC; rw [if_neg (by simp [hg]), if_neg hp, if_pos hfull]
        have e2 : insR most l p = l := by unfold insR; rw [e1]; rfl
        rw [e1, e2]
        refine GN ?_
        refine G_cond_t rfl (decide_eq_true hfull) ?_
        refine GN ?_
        refine G_region ?_
        refine GQ (ev_assign rfl) ?_
        refine GO_nil ?_
        refine GN ?_
        refine G_ret (L' := setS b most l :: L) rfl (.tmp rfl .nil) ?_ ⟨rfl, rfl⟩
        apply en_pick
        focus ((repeat' first | exact Pick.here | apply Pick.skip | apply Pick.app); done)
        exact en_set hA EpA
      · have e1 : insC most l p = 0 := by unfold insC; rw [if_neg (by simp [hg]), if_neg hp, if_neg hfull]
        have e2 : insR most l p = l ++ [p] := by unfold insR; rw [e1]; rfl
        rw [e1, e2]
        refine GN ?_
        refine G_cond_f rfl (decide_eq_false hfull) ?_
        refine GN ?_
        refine G_draw (.q 0 (.q 2 (.q 3 (.q 4 (.q 5 (.q 7 (.br 1 (.br 6 (.e 8 (.e 9 (.q 10 (.q 11 (.e 12 .nil))))) 8 (.e 6 (.e 9 (.q 10 (.q 11 (.e 12 .nil)))))) 8 (.e 1 (.e 6 (.e 9 (.q 10 (.q 11 (.e 12 .nil))))))))))))) (by kernel_rfl) (by kernel_rfl) ?_
        refine RM rfl (ev_move rfl) ?_
        refine RM rfl (ev_move rfl) ?_
        (first | refine RM rfl (ev_nilCheck rfl) ?_ | refine RM rfl (ev_nilCheckF (by simp) rfl) ?_)
        refine RM rfl (ev_fieldAddr rfl) ?_
        refine RQ rfl (ev_load rfl LdA) ?_
        refine RQ rfl (ev_loadN rfl LnA) ?_
        refine RS_br ?x80_0 ?x80_1
        case' x80_1 =>
          refine RE_eff rfl rfl rfl (eff_buildSlice1 (by rfl) rfl rfl) ?_; rintro _ _ ⟨b30, rfl, rfl⟩; refine ⟨_, ExA, fun _ s => s, ?_⟩
          refine RS_e (RE_eff rfl rfl rfl eff_buildSlice0 ?_); rintro _ _ ⟨b23, rfl, rfl⟩; refine ⟨_, ExA, fun _ s => s, ?_⟩
          refine RS_e (RE_eff rfl rfl rfl (eff_append rfl rfl PkA ((by repeat' first | exact hr _ | apply Rc.skip)) ((flat_one _)) (by rfl) (by decide) NgA NgA) ?_); rintro _ _ ⟨A28, c28, rfl, hc28, hm28, hn28, rfl⟩; refine ⟨_, ExA, fun _ s => s, ?_⟩
          refine RS_e (RE_eff rfl rfl rfl (eff_append rfl rfl PkA (by repeat' first | exact Rc.blk rfl | assumption | apply Rc.skip) (one_all rfl) (by rfl) (by decide) NgA NgA) ?_); rintro _ _ ⟨A31, c31, rfl, hc31, hm31, hn31, rfl⟩; refine ⟨_, ExA, fun _ s => s, ?_⟩
          (first | refine RM rfl (ev_nilCheck rfl) ?_ | refine RM rfl (ev_nilCheckF (by simp) rfl) ?_)
          refine RM rfl (ev_fieldAddr rfl) ?_
          refine RS_e (RE_cmp (by kernel_rfl) rfl rfl rfl (eff_store rfl rfl rfl UpA) ?_); rintro _ _ ⟨rfl, rfl⟩
          refine RS_nil ?_
        case' x80_0 =>
          refine RE_eff rfl rfl rfl eff_buildSlice0 ?_; rintro _ _ ⟨b23, rfl, rfl⟩; refine ⟨_, ExA, fun _ s => s, ?_⟩
          refine RS_br ?x81_0 ?x81_1
          case' x81_1 =>
            refine RE_eff rfl rfl rfl (eff_buildSlice1 (by rfl) rfl rfl) ?_; rintro _ _ ⟨b30, rfl, rfl⟩; refine ⟨_, ExA, fun _ s => s, ?_⟩
            refine RS_e (RE_eff rfl rfl rfl (eff_append rfl rfl PkA ((by repeat' first | exact hr _ | apply Rc.skip)) ((flat_one _)) (by rfl) (by decide) NgA NgA) ?_); rintro _ _ ⟨A28, c28, rfl, hc28, hm28, hn28, rfl⟩; refine ⟨_, ExA, fun _ s => s, ?_⟩
            refine RS_e (RE_eff rfl rfl rfl (eff_append rfl rfl PkA (by repeat' first | exact Rc.blk rfl | assumption | apply Rc.skip) (one_all rfl) (by rfl) (by decide) NgA NgA) ?_); rintro _ _ ⟨A31, c31, rfl, hc31, hm31, hn31, rfl⟩; refine ⟨_, ExA, fun _ s => s, ?_⟩
            (first | refine RM rfl (ev_nilCheck rfl) ?_ | refine RM rfl (ev_nilCheckF (by simp) rfl) ?_)
            refine RM rfl (ev_fieldAddr rfl) ?_
            refine RS_e (RE_cmp (by kernel_rfl) rfl rfl rfl (eff_store rfl rfl rfl UpA) ?_); rintro _ _ ⟨rfl, rfl⟩
            refine RS_nil ?_
          case' x81_0 =>
            refine RE_eff rfl rfl rfl (eff_append rfl rfl PkA ((by repeat' first | exact hr _ | apply Rc.skip)) ((flat_one _)) (by rfl) (by decide) NgA NgA) ?_; rintro _ _ ⟨A28, c28, rfl, hc28, hm28, hn28, rfl⟩; refine ⟨_, ExA, fun _ s => s, ?_⟩
            refine RS_e (RE_eff rfl rfl rfl (eff_buildSlice1 (by rfl) rfl rfl) ?_); rintro _ _ ⟨b30, rfl, rfl⟩; refine ⟨_, ExA, fun _ s => s, ?_⟩
            refine RS_e (RE_eff rfl rfl rfl (eff_append rfl rfl PkA (by repeat' first | exact Rc.blk rfl | assumption | apply Rc.skip) (one_all rfl) (by rfl) (by decide) NgA NgA) ?_); rintro _ _ ⟨A31, c31, rfl, hc31, hm31, hn31, rfl⟩; refine ⟨_, ExA, fun _ s => s, ?_⟩
            (first | refine RM rfl (ev_nilCheck rfl) ?_ | refine RM rfl (ev_nilCheckF (by simp) rfl) ?_)
            refine RM rfl (ev_fieldAddr rfl) ?_
            refine RS_e (RE_cmp (by kernel_rfl) rfl rfl rfl (eff_store rfl rfl rfl UpA) ?_); rintro _ _ ⟨rfl, rfl⟩
            refine RS_nil ?_
        all_goals
          have nn : 0 + l.length + 1 = (l ++ [p]).length := by simp
          rw [nn] at hc31 hn31
          rw [nn]
          refine GN ?_
          refine G_region ?_
          refine GQ (ev_assign rfl) ?_
          refine GO_nil ?_
          refine GN ?_
          refine G_ret (L' := setS b most (l ++ [p]) :: L) rfl (.tmp rfl .nil) ?_ ⟨rfl, rfl⟩
          apply en_pick
          focus ((repeat' first | exact Pick.here | apply Pick.skip | apply Pick.app); done)
          refine en_set (A := A31) (c := c31) hn31 ?_
          refine en_blk PkA rfl (en_own PkA (by rw [flat_append]; rfl) EnA)
/-- The ids of the points that are meant. -/
def hits (f : Pt → Bool) (l : List Pt) : List Int := (l.filter f).map (·.id)
theorem hits_succ (f : Pt → Bool) (l : List Pt) (k : Nat) (h : k < l.length) : hits f (l.take (k + 1)) = hits f (l.take k) ++ if f l[k] = true then [l[k].id] else [] := by
  unfold hits
  rw [List.take_succ_eq_append_getElem h, List.filter_append, List.map_append]
  split <;> simp_all
theorem RReport_ctr0 (b : Nat) (A : Option Addr) (c : Nat) (most : Int) (x : Bx) (l : List Pt) (L : List HP) (h : LdN L b 0 2 [.slice A l.length c, .int .i64 most]) (hl : Rd L A l.length l) (hn : l.length ≤ 100000) :
    Ctr Tryz.prog 19 #[.pointer (some ⟨b, 0, none⟩), .agg #[.int .i64 x.x1, .int .i64 x.x2, .int .i64 x.y1, .int .i64 x.y2]] L fun v L' => ∃ X, (∃ A' c', v = .slice A' (srt (hits (fun p => x.has p.x p.y) l)).length c' ∧ (srt (hits (fun p => x.has p.x p.y) l)).length ≤ c' ∧ c' ≤ maxLen ∧ Rd X A' (srt (hits (fun p => x.has p.x p.y) l)).length (srt (hits (fun p => x.has p.x p.y) l))) ∧ L' = X ++ L := by
  have h1 : Ld L ⟨b, 0 + 0, none⟩ (.slice A l.length c) := h.at_ (i := 0) rfl
  rw [← rising_srt (hits (fun p => x.has p.x p.y) l) _ (.refl _)]
  refine Ctr_of (fn := Tryz.f19) (n := 48) Tryz.func19 rfl rfl rfl ?_
  intro g F
  refine GN ?_
  refine G_region ?_
  refine GE (eff_box rfl) ?_; rintro _ _ ⟨b3, rfl, rfl⟩
  refine GQ (ev_assign rfl) ?_
  refine GO_nil ?_
  refine GN ?_
  refine G_region ?_
  refine GE eff_buildSlice0 ?_; rintro _ _ ⟨b7, rfl, rfl⟩
  refine GQ (ev_assign rfl) ?_
  refine GO_nil ?_
  refine GN ?_
  refine G_region ?_
  refine GQ (ev_assign rfl) ?_
  refine GO_nil ?_
  refine GN ?_
  refine G_loop (ι := Nat × Option Addr × Nat × List Int) (fun y => [(0, .pointer (some ⟨b, 0, none⟩)), (3, .pointer (some ⟨b3, 0, none⟩)), (5, .slice y.2.1 y.2.2.2.length y.2.2.1), (6, .int .i64 (y.1 : Nat))]) (fun y => own 3 1 y.2.1 y.2.2.2.length y.2.2.1 (flat y.2.2.2) :: blk b3 35 [.int .i64 x.x1, .int .i64 x.x2, .int .i64 x.y1, .int .i64 x.y2] :: F :: L)
    (fun y => y.1 ≤ l.length ∧ y.2.2.2 = hits (fun p => x.has p.x p.y) (l.take y.1) ∧ y.2.2.2.length ≤ y.1 ∧ y.2.2.2.length ≤ y.2.2.1 ∧ y.2.2.1 ≤ maxLen ∧ (0 < y.2.2.2.length → ∃ b, y.2.1 = some ⟨b, 0, none⟩)) (fun y => l.length - y.1) (0, some ⟨b7, 0, none⟩, 0, []) ⟨Nat.zero_le _, by simp [hits], Nat.le_refl _, Nat.le_refl _, Nat.zero_le _, fun _ => ⟨_, rfl⟩⟩ ⟨rfl, rfl, rfl, rfl, trivial⟩ EnA ?_
  rintro ⟨k, A2, d, zs⟩ ⟨f1, f2, f3, f4, f5, f6⟩
  simp only at f1 f2 f3 f4 f5 f6
  dsimp only
  have f7 := f5
  unfold maxLen at f7
  refine GN ?_
  refine G_region ?_
  refine GQ (ev_move rfl) ?_
  refine GQ (ev_move rfl) ?_
  (first | refine GQ (ev_nilCheck rfl) ?_ | refine GQ (ev_nilCheckF (by simp) rfl) ?_)
  refine GQ (ev_fieldAddr rfl) ?_
  refine GQ (ev_load rfl LdA) ?_
  refine GQ (ev_len rfl) ?_
  (first | refine GQ (ev_lssN rfl rfl) ?_ | refine GQ (ev_lss rfl rfl) ?_)
  refine GO_nil ?_
  refine GN ?_
  refine G_cond rfl (fun h4 => ?_) (fun h4 => ?_)
  · obtain ⟨lb, lo, rfl, hx⟩ := hl.at_ (by omega)
    have g1 : l[k]? = some l[k] := List.getElem?_eq_getElem (by omega)
    have y1 := hx _ _ g1
    have s1 := hits_succ (fun p => x.has p.x p.y) l k (by omega)
    generalize l[k] = u at *
    have z0 : Ld L ⟨lb, lo + k * 3 + 0, none⟩ (.int .i64 u.id) := y1.at_ (i := 0) rfl
    have z1 : Ld L ⟨lb, lo + k * 3 + 1, none⟩ (.int .i64 u.x) := y1.at_ (i := 1) rfl
    have z2 : Ld L ⟨lb, lo + k * 3 + 2, none⟩ (.int .i64 u.y) := y1.at_ (i := 2) rfl
    refine GN ?_
    refine G_draw (.q 0 (.q 1 (.q 2 (.q 3 (.q 4 (.q 5 (.q 6 (.q 7 (.q 8 (.q 9 (.q 10 (.q 11 (.q 12 (.q 13 (.q 14 (.q 15 (.q 16 (.e 17 .nil)))))))))))))))))) (by kernel_rfl) (by kernel_rfl) ?_
    refine RQ rfl (ev_loadN rfl LnA) ?_
    refine RM rfl (ev_move rfl) ?_
    (first | refine RM rfl (ev_nilCheck rfl) ?_ | refine RM rfl (ev_nilCheckF (by simp) rfl) ?_)
    refine RM rfl (ev_fieldAddr rfl) ?_
    refine RQ rfl (ev_load rfl LdA) ?_
    refine RM rfl (ev_move rfl) ?_
    (first | refine RM rfl (ev_indexAddrN rfl rfl NgA) ?_ | refine RM rfl (ev_indexAddr rfl rfl NgA NgA) ?_)
    refine RM rfl (ev_fieldAddr rfl) ?_
    refine RQ rfl (ev_load rfl LdA) ?_
    refine RM rfl (ev_move rfl) ?_
    (first | refine RM rfl (ev_nilCheck rfl) ?_ | refine RM rfl (ev_nilCheckF (by simp) rfl) ?_)
    refine RM rfl (ev_fieldAddr rfl) ?_
    refine RQ rfl (ev_load rfl LdA) ?_
    refine RM rfl (ev_move rfl) ?_
    (first | refine RM rfl (ev_indexAddrN rfl rfl NgA) ?_ | refine RM rfl (ev_indexAddr rfl rfl NgA NgA) ?_)
    refine RM rfl (ev_fieldAddr rfl) ?_
    refine RQ rfl (ev_load rfl LdA) ?_
    refine RS_e (RE_last (by kernel_rfl) rfl rfl rfl (eff_call rfl (RHas_ctr x u.x u.y _)) ?_); rintro _ _ ⟨rfl, rfl⟩
    rcases hv : x.has u.x u.y with _ | _
    case' true =>
      refine GN ?_
      refine G_cond_t rfl rfl ?_
      refine GN ?_
      refine G_region ?_
      refine GQ (ev_move rfl) ?_
      refine GQ (ev_move rfl) ?_
      (first | refine GQ (ev_nilCheck rfl) ?_ | refine GQ (ev_nilCheckF (by simp) rfl) ?_)
      refine GQ (ev_fieldAddr rfl) ?_
      refine GQ (ev_load rfl LdA) ?_
      refine GQ (ev_move rfl) ?_
      (first | refine GQ (ev_indexAddrN rfl rfl NgA) ?_ | refine GQ (ev_indexAddr rfl rfl NgA NgA) ?_)
      refine GQ (ev_fieldAddr rfl) ?_
      refine GQ (ev_load rfl LdA) ?_
      refine GE (eff_buildSlice1 (by rfl) rfl rfl) ?_; rintro _ _ ⟨b44, rfl, rfl⟩
      refine GE (eff_append rfl rfl PkA (by repeat' first | exact Rc.blk rfl | assumption | apply Rc.skip) (one_all rfl) (by rfl) (by decide) NgA NgA) ?_; rintro _ _ ⟨A45, c45, rfl, hc45, hm45, hn45, rfl⟩
      refine GQ (ev_assign rfl) ?_
      refine GO_nil ?_
      refine GN ?_
      refine G_region ?_
      refine GQ (ev_move rfl) ?_
      (first | refine GQ (ev_addN (q := 1) rfl rfl NgA) ?_ | refine GQ (ev_add rfl rfl NgA) ?_)
      refine GQ (ev_assign rfl) ?_
      refine GO_nil ?_
      refine GN ?_
      rw [if_pos hv] at s1
      exact G_round (k + 1, A45, c45, zs ++ [u.id]) ⟨by simp only; omega, by rw [s1, f2], by simp; omega, by simpa using hc45, hm45, fun _ => hn45 (by omega)⟩ (by simp only; omega) ⟨rfl, rfl, by simp only [List.length_append, List.length_singleton]; rfl, rfl, trivial⟩ (by
        simp only [List.length_append, List.length_singleton]
        rw [← flat_snoc]
        exact EnA)
    case' false =>
      refine GN ?_
      refine G_cond_f rfl rfl ?_
      refine GN ?_
      refine G_region ?_
      refine GQ (ev_move rfl) ?_
      (first | refine GQ (ev_addN (q := 1) rfl rfl NgA) ?_ | refine GQ (ev_add rfl rfl NgA) ?_)
      refine GQ (ev_assign rfl) ?_
      refine GO_nil ?_
      refine GN ?_
      rw [if_neg (by rw [hv]; simp), List.append_nil] at s1
      exact G_round (k + 1, A2, d, zs) ⟨by simp only; omega, by rw [s1, f2], by simp only; omega, f4, f5, f6⟩ (by simp only; omega) ⟨rfl, rfl, rfl, rfl, trivial⟩ EnA
  · have e : k = l.length := by omega
    subst e
    rw [List.take_length] at f2
    rw [← f2]
    refine GN ?_
    refine G_region ?_
    refine GQ (ev_move rfl) ?_
    refine GE (eff_call rfl (Ctr.frame (blk b3 35 [.int .i64 x.x1, .int .i64 x.x2, .int .i64 x.y1, .int .i64 x.y2] :: F :: L) (Rising_ctr A2 zs.length d zs [own 3 1 A2 zs.length d (flat zs)] (Rc.own (flat_length zs) f6) (by omega)) (fun _ s => s.perm (List.perm_append_singleton _ _).symm))) ?_; rintro _ _ ⟨_, ⟨A9, c9, N9, rfl, i1, i2, rfl, i3⟩, rfl⟩
    refine GQ (ev_assign rfl) ?_
    refine GO_nil ?_
    refine GN ?_
    refine G_ret (L' := (N9 ++ [own 3 1 A2 zs.length d (flat zs)]) ++ L) rfl (.tmp rfl .nil) (fun _ s => s.tail.perm (.cons _ List.perm_append_comm)) ⟨_, ⟨A9, c9, rfl, i1, i2, i3⟩, rfl⟩
end Go.Proofs.YtkoncepjfgnjlaaGreat
/- Points in several trees: the reference, in the heap. -/
namespace Go.Proofs.YtkoncepjfgnjlaaGreat
attribute [local irreducible] sat
open Go.RowKit
set_option linter.unusedVariables false
set_option linter.unusedSectionVars false
set_option linter.unusedSimpArgs false
set_option maxRecDepth 100000

/-- One list, as it lies in a list of lists. -/
structure QS where
  A : Option Addr
  c : Nat
  l : List Pt
instance encQS : Enc QS := ⟨1, fun q => [.slice q.A q.l.length q.c], fun _ => rfl, fun _ v h => by simp at h; subst h; rfl⟩
def QS.at_ (L : List HP) (q : QS) : Prop := Rd L q.A q.l.length q.l
theorem QS.at_.skip {X : HP} {L : List HP} {q : QS} (h : q.at_ L) : q.at_ (X :: L) := Rd.skip h
@[reducible] def rfC (A : Option Addr) (n c : Nat) (D : Option Addr) (m e : Nat) (most bu : Int) : List Value := [.slice A n c, .slice D m e, .int .i64 most, .int .i64 bu]
theorem rIn_ctr (A : Option Addr) (n c : Nat) (l : List Pt) (p : Pt) (L : List HP) (hl : Rd L A n l) (hn : n ≤ 1000000) : Ctr Tryz.prog 22 #[.slice A n c, p.v] L fun v L' => v = .bool (decide (p ∈ l)) ∧ L' = L := by
  have h1 : l.length = n := hl.len (by decide)
  refine Ctr_of (fn := Tryz.f22) (n := 18) Tryz.func22 rfl rfl rfl ?_
  intro g F
  refine GN ?_
  refine G_region ?_
  refine GE (eff_box rfl) ?_; rintro _ _ ⟨b3, rfl, rfl⟩
  refine GQ (ev_assign rfl) ?_
  refine GO_nil ?_
  refine GN ?_
  refine G_region ?_
  refine GQ (ev_assign rfl) ?_
  refine GO_nil ?_
  refine GN ?_
  refine G_loop (ι := Nat) (fun k => [(0, .slice A n c), (3, .pointer (some ⟨b3, 0, none⟩)), (5, .int .i64 (k : Nat))]) (fun _ => blk b3 28 [.int .i64 p.id, .int .i64 p.x, .int .i64 p.y] :: F :: L) (fun k => k ≤ n ∧ p ∉ l.take k) (fun k => n - k) 0 ⟨Nat.zero_le _, by simp⟩ ⟨rfl, rfl, rfl, trivial⟩ EnA ?_
  rintro k ⟨f1, f2⟩
  refine GN ?_
  refine G_region ?_
  refine GQ (ev_move rfl) ?_
  refine GQ (ev_move rfl) ?_
  refine GQ (ev_len rfl) ?_
  (first | refine GQ (ev_lssN rfl rfl) ?_ | refine GQ (ev_lss rfl rfl) ?_)
  refine GO_nil ?_
  refine GN ?_
  refine G_cond rfl (fun h4 => ?_) (fun h4 => ?_)
  · obtain ⟨lb, lo, rfl, hx⟩ := hl.at_ (by omega)
    have g1 : l[k]? = some l[k] := List.getElem?_eq_getElem (by omega)
    have y1 := hx _ _ g1
    have s1 : l.take (k + 1) = l.take k ++ [l[k]] := List.take_succ_eq_append_getElem (by omega)
    have m1 : l[k] ∈ l := List.getElem_mem _
    generalize l[k] = u at *
    have z1 : LdN L lb (lo + k * 3) 3 [.int .i64 u.id, .int .i64 u.x, .int .i64 u.y] := y1
    refine GN ?_
    refine G_draw (.q 0 (.q 1 (.q 2 (.q 3 (.q 4 (.q 5 .nil)))))) (by kernel_rfl) (by kernel_rfl) ?_
    refine RM rfl (ev_move rfl) ?_
    refine RM rfl (ev_move rfl) ?_
    (first | refine RM rfl (ev_indexAddrN rfl rfl NgA) ?_ | refine RM rfl (ev_indexAddr rfl rfl NgA NgA) ?_)
    refine RQ rfl (ev_loadN rfl LnA) ?_
    refine RQ rfl (ev_loadN rfl LnA) ?_
    refine RM rfl (ev_eqlS rfl rfl rfl rfl rfl rfl) ?_
    refine RS_nil ?_
    refine GN ?_
    refine G_cond rfl (fun h5 => ?_) (fun h5 => ?_)
    · have e : u = p := (pt_list u p).1 h5
      subst e
      refine GN ?_
      refine G_region ?_
      refine GQ (ev_assign rfl) ?_
      refine GO_nil ?_
      refine GN ?_
      refine G_ret rfl (.tmp rfl .nil) EnA ⟨by rw [decide_eq_true m1]; rfl, rfl⟩
    · refine GN ?_
      refine G_region ?_
      refine GQ (ev_move rfl) ?_
      (first | refine GQ (ev_addN (q := 1) rfl rfl NgA) ?_ | refine GQ (ev_add rfl rfl NgA) ?_)
      refine GQ (ev_assign rfl) ?_
      refine GO_nil ?_
      refine GN ?_
      exact G_round (k + 1) ⟨by omega, by rw [s1]; simp only [List.mem_append, List.mem_singleton, not_or]; exact ⟨f2, fun e => h5 ((pt_list u p).2 e.symm)⟩⟩ (by omega) ⟨rfl, rfl, rfl, trivial⟩ EnA
  · have e : k = n := by omega
    subst e
    rw [List.take_of_length_le (by omega)] at f2
    refine GN ?_
    refine G_region ?_
    refine GQ (ev_assign rfl) ?_
    refine GO_nil ?_
    refine GN ?_
    refine G_ret rfl (.tmp rfl .nil) EnA ⟨by rw [decide_eq_false f2]; rfl, rfl⟩
theorem flatten_at {ls : List (List Pt)} {k : Nat} {l : List Pt} (h : ls[k]? = some l) : (ls.take (k + 1)).flatten = (ls.take k).flatten ++ l := by
  rw [List.take_add_one, h]; simp
theorem rLive_ctr (r : Nat) (A : Option Addr) (n c : Nat) (qs : List QS) (D : Option Addr) (m e : Nat) (d : List Pt) (most bu : Int) (L : List HP) (h : LdN L r 0 4 (rfC A n c D m e most bu)) (hq : Rd L A n qs) (hin : ∀ q ∈ qs, q.at_ L) (hd : Rd L D m d) (hn : n ≤ 1000) (hm : m ≤ 1000) (ht : (qs.map (·.l)).flatten.length ≤ 1000) :
    Ctr Tryz.prog 20 #[.pointer (some ⟨r, 0, none⟩)] L fun v L' => ∃ b c', v = .slice (some ⟨b, 0, none⟩) (sortX ((qs.map (·.l)).flatten.filter fun p => !decide (p ∈ d))).length c' ∧ (sortX ((qs.map (·.l)).flatten.filter fun p => !decide (p ∈ d))).length ≤ c' ∧ c' ≤ maxLen ∧ L' = own 28 3 (some ⟨b, 0, none⟩) (sortX ((qs.map (·.l)).flatten.filter fun p => !decide (p ∈ d))).length c' (flat (sortX ((qs.map (·.l)).flatten.filter fun p => !decide (p ∈ d)))) :: L := by
  have hlen : qs.length = n := hq.len (by decide)
  have h0 : Ld L ⟨r, 0 + 0, none⟩ (.slice A n c) := h.at_ (i := 0) rfl
  have h1 : Ld L ⟨r, 0 + 1, none⟩ (.slice D m e) := h.at_ (i := 1) rfl
  refine Ctr_of (fn := Tryz.f20) (n := 59) Tryz.func20 rfl rfl rfl ?_
  intro g F
  refine GN ?_
  refine G_region ?_
  refine GQ (ev_assign rfl) ?_
  refine GO_nil ?_
  refine GN ?_
  refine G_region ?_
  refine GE eff_buildSlice0 ?_; rintro _ _ ⟨b6, rfl, rfl⟩
  refine GQ (ev_assign rfl) ?_
  refine GO_nil ?_
  refine GN ?_
  refine G_region ?_
  refine GQ (ev_assign rfl) ?_
  refine GO_nil ?_
  refine GN ?_
  refine G_loop (ι := Nat × Option Addr × Nat × List Pt) (fun y => [(0, .pointer (some ⟨r, 0, none⟩)), (3, .slice y.2.1 y.2.2.2.length y.2.2.1), (4, .int .i64 (y.1 : Nat))]) (fun y => own 28 3 y.2.1 y.2.2.2.length y.2.2.1 (flat y.2.2.2) :: F :: L)
    (fun y => y.1 ≤ n ∧ y.2.2.2 = ((qs.map (·.l)).take y.1).flatten.filter (fun p => !decide (p ∈ d)) ∧ (0 < y.2.2.2.length → ∃ b, y.2.1 = some ⟨b, 0, none⟩)) (fun y => n - y.1) (0, some ⟨b6, 0, none⟩, 0, []) ⟨Nat.zero_le _, by simp, fun _ => ⟨b6, rfl⟩⟩ ⟨rfl, rfl, rfl, trivial⟩ EpA ?_
  rintro ⟨k, B, f, out⟩ ⟨f1, f2, f3⟩
  simp only at f1 f2 f3
  dsimp only
  refine GN ?_
  refine G_region ?_
  refine GQ (ev_move rfl) ?_
  refine GQ (ev_move rfl) ?_
  (first | refine GQ (ev_nilCheck rfl) ?_ | refine GQ (ev_nilCheckF (by simp) rfl) ?_)
  refine GQ (ev_fieldAddr rfl) ?_
  refine GQ (ev_load rfl LdA) ?_
  refine GQ (ev_len rfl) ?_
  (first | refine GQ (ev_lssN rfl rfl) ?_ | refine GQ (ev_lss rfl rfl) ?_)
  refine GO_nil ?_
  refine GN ?_
  refine G_cond rfl (fun c1 => ?_) (fun c1 => ?_)
  · obtain ⟨lb, lo, eA, hx⟩ := hq.at_ (by omega)
    subst eA
    have g1 : qs[k]? = some qs[k] := List.getElem?_eq_getElem (by omega)
    have y1 := (hx _ _ g1).at_ (i := 0) rfl
    have g2 : (qs.map (·.l))[k]? = some qs[k].l := by simp [g1]
    have s1 := flatten_at g2
    have m1 := hin qs[k] (List.getElem_mem _)
    have t1 : ((qs.map (·.l)).take k).flatten.length + qs[k].l.length ≤ 1000 := by
      have e1 : ((qs.map (·.l)).take (k + 1)).flatten.length ≤ (qs.map (·.l)).flatten.length := by
        conv => rhs; rw [← List.take_append_drop (k + 1) (qs.map (·.l))]
        rw [List.flatten_append, List.length_append]; omega
      rw [s1, List.length_append] at e1
      omega
    generalize qs[k] = q at *
    have z1 : Ld L ⟨lb, lo + k * 1, none⟩ (.slice q.A q.l.length q.c) := y1
    refine GN ?_
    refine G_region ?_
    refine GQ (ev_assign rfl) ?_
    refine GO_nil ?_
    refine GN ?_
    refine G_loop (ι := Nat × Option Addr × Nat × List Pt) (fun y => [(0, .pointer (some ⟨r, 0, none⟩)), (3, .slice y.2.1 y.2.2.2.length y.2.2.1), (4, .int .i64 (k : Nat)), (5, .int .i64 (y.1 : Nat))]) (fun y => own 28 3 y.2.1 y.2.2.2.length y.2.2.1 (flat y.2.2.2) :: F :: L)
      (fun y => y.1 ≤ q.l.length ∧ y.2.2.2 = (((qs.map (·.l)).take k).flatten ++ q.l.take y.1).filter (fun p => !decide (p ∈ d)) ∧ (0 < y.2.2.2.length → ∃ b, y.2.1 = some ⟨b, 0, none⟩)) (fun y => q.l.length - y.1) (0, B, f, out) ⟨Nat.zero_le _, by simpa using f2, f3⟩ ⟨rfl, rfl, rfl, rfl, trivial⟩ EpA ?_
    rintro ⟨j, B, f, out⟩ ⟨i1, i2, i3⟩
    simp only at i1 i2 i3
    dsimp only
    have hol : out.length ≤ 1000 := by
      have : out.length ≤ (((qs.map (·.l)).take k).flatten ++ q.l.take j).length := by rw [i2]; exact List.length_filter_le ..
      rw [List.length_append, List.length_take] at this
      omega
    refine GN ?_
    refine G_region ?_
    refine GQ (ev_move rfl) ?_
    refine GQ (ev_move rfl) ?_
    (first | refine GQ (ev_nilCheck rfl) ?_ | refine GQ (ev_nilCheckF (by simp) rfl) ?_)
    refine GQ (ev_fieldAddr rfl) ?_
    refine GQ (ev_load rfl LdA) ?_
    refine GQ (ev_move rfl) ?_
    (first | refine GQ (ev_indexAddrN rfl rfl NgA) ?_ | refine GQ (ev_indexAddr rfl rfl NgA NgA) ?_)
    refine GQ (ev_load rfl LdA) ?_
    refine GQ (ev_len rfl) ?_
    (first | refine GQ (ev_lssN rfl rfl) ?_ | refine GQ (ev_lss rfl rfl) ?_)
    refine GO_nil ?_
    refine GN ?_
    refine G_cond rfl (fun c2 => ?_) (fun c2 => ?_)
    · have m2 : Rd L q.A q.l.length q.l := m1
      obtain ⟨qb, qo, eq1, hy⟩ := m2.at_ (by omega)
      rw [eq1] at z1 m2
      have j1 : q.l[j]? = some q.l[j] := List.getElem?_eq_getElem (by omega)
      have w1 := hy _ _ j1
      have j2 : q.l.take (j + 1) = q.l.take j ++ [q.l[j]] := List.take_succ_eq_append_getElem (by omega)
      generalize q.l[j] = u at *
      have w2 : LdN L qb (qo + j * 3) 3 [.int .i64 u.id, .int .i64 u.x, .int .i64 u.y] := w1
      have hI := fun M h => rIn_ctr D m e d u M h (by omega)
      have s2 : (((qs.map (·.l)).take k).flatten ++ q.l.take (j + 1)).filter (fun p => !decide (p ∈ d)) = out ++ if u ∈ d then [] else [u] := by
        rw [j2, ← List.append_assoc, List.filter_append, ← i2]
        congr 1
        by_cases h9 : u ∈ d <;> simp [h9]
      refine GN ?_
      refine G_draw (.q 0 (.q 1 (.q 2 (.q 3 (.q 4 (.q 5 (.q 6 (.q 7 (.q 8 (.q 9 (.q 10 (.q 11 (.q 12 (.q 13 (.e 14 (.q 15 .nil)))))))))))))))) (by kernel_rfl) (by kernel_rfl) ?_
      refine RM rfl (ev_move rfl) ?_
      (first | refine RM rfl (ev_nilCheck rfl) ?_ | refine RM rfl (ev_nilCheckF (by simp) rfl) ?_)
      refine RM rfl (ev_fieldAddr rfl) ?_
      refine RQ rfl (ev_load rfl LdA) ?_
      refine RM rfl (ev_move rfl) ?_
      (first | refine RM rfl (ev_nilCheck rfl) ?_ | refine RM rfl (ev_nilCheckF (by simp) rfl) ?_)
      refine RM rfl (ev_fieldAddr rfl) ?_
      refine RQ rfl (ev_load rfl LdA) ?_
      refine RM rfl (ev_move rfl) ?_
      (first | refine RM rfl (ev_indexAddrN rfl rfl NgA) ?_ | refine RM rfl (ev_indexAddr rfl rfl NgA NgA) ?_)
      refine RQ rfl (ev_load rfl LdA) ?_
      refine RM rfl (ev_move rfl) ?_
      (first | refine RM rfl (ev_indexAddrN rfl rfl NgA) ?_ | refine RM rfl (ev_indexAddr rfl rfl NgA NgA) ?_)
      refine RQ rfl (ev_loadN rfl LnA) ?_
      refine RS_e (RE_eff rfl rfl rfl (eff_call rfl (hI _ (by repeat' first | exact hd | apply Rd.skip))) ?_); rintro _ _ ⟨rfl, rfl⟩; refine ⟨_, fun _ s => s, ExA, ?_⟩
      refine RM rfl (ev_not rfl) ?_
      refine RS_nil ?_
      by_cases h9 : u ∈ d
      · rw [if_pos h9, List.append_nil] at s2
        refine GN ?_
        refine G_cond_f rfl (by simp [h9]) ?_
        refine GN ?_
        refine GN ?_
        refine G_region ?_
        refine GQ (ev_move rfl) ?_
        (first | refine GQ (ev_addN (q := 1) rfl rfl NgA) ?_ | refine GQ (ev_add rfl rfl NgA) ?_)
        refine GQ (ev_assign rfl) ?_
        refine GO_nil ?_
        refine GN ?_
        exact G_round (j + 1, B, f, out) ⟨by simp only; omega, s2.symm, i3⟩ (by simp only; omega) ⟨rfl, rfl, rfl, rfl, trivial⟩ EpA
      · rw [if_neg h9] at s2
        refine GN ?_
        refine G_cond_t rfl (by simp [h9]) ?_
        refine GN ?_
        refine G_region ?_
        refine GQ (ev_move rfl) ?_
        refine GQ (ev_move rfl) ?_
        (first | refine GQ (ev_nilCheck rfl) ?_ | refine GQ (ev_nilCheckF (by simp) rfl) ?_)
        refine GQ (ev_fieldAddr rfl) ?_
        refine GQ (ev_load rfl LdA) ?_
        refine GQ (ev_move rfl) ?_
        (first | refine GQ (ev_indexAddrN rfl rfl NgA) ?_ | refine GQ (ev_indexAddr rfl rfl NgA NgA) ?_)
        refine GQ (ev_load rfl LdA) ?_
        refine GQ (ev_move rfl) ?_
        (first | refine GQ (ev_indexAddrN rfl rfl NgA) ?_ | refine GQ (ev_indexAddr rfl rfl NgA NgA) ?_)
        refine GQ (ev_loadN rfl LnA) ?_
        refine GE (eff_buildSlice1 (by rfl) rfl rfl) ?_; rintro _ _ ⟨b55, rfl, rfl⟩
        refine GE (eff_append rfl rfl PkA (by repeat' first | exact Rc.blk rfl | assumption | apply Rc.skip) (one_all rfl) (by rfl) (by decide) NgA NgA) ?_; rintro _ _ ⟨A56, c56, rfl, hc56, hm56, hn56, rfl⟩
        refine GQ (ev_assign rfl) ?_
        refine GO_nil ?_
        refine GN ?_
        refine G_region ?_
        refine GQ (ev_move rfl) ?_
        (first | refine GQ (ev_addN (q := 1) rfl rfl NgA) ?_ | refine GQ (ev_add rfl rfl NgA) ?_)
        refine GQ (ev_assign rfl) ?_
        refine GO_nil ?_
        refine GN ?_
        refine G_round (j + 1, A56, c56, out ++ [u]) ⟨by simp only; omega, s2.symm, by simpa using hn56⟩ (by simp only; omega) ⟨rfl, by simp only [List.length_append, List.length_singleton]; rfl, rfl, rfl, trivial⟩ ?_
        simp only [List.length_append, List.length_singleton]
        rw [← flat_snoc]
        exact EpA
    · have e9 : j = q.l.length := by omega
      subst e9
      rw [List.take_length, ← s1] at i2
      refine GN ?_
      refine G_region ?_
      refine GQ (ev_move rfl) ?_
      (first | refine GQ (ev_addN (q := 1) rfl rfl NgA) ?_ | refine GQ (ev_add rfl rfl NgA) ?_)
      refine GQ (ev_assign rfl) ?_
      refine GO_nil ?_
      refine GN ?_
      exact G_round (k + 1, B, f, out) ⟨by simp only; omega, i2, i3⟩ (by simp only; omega) ⟨rfl, rfl, rfl, trivial⟩ EpA
  · have e9 : k = n := by omega
    subst e9
    rw [List.take_of_length_le (by simp; omega)] at f2
    rw [← f2]
    have hol : out.length ≤ 1000 := by
      have : out.length ≤ (qs.map (·.l)).flatten.length := by rw [f2]; exact List.length_filter_le ..
      omega
    have hs := fun M h => rSortXo_ctr B out.length f out M h (by omega)
    generalize sortX out = so at *
    refine GN ?_
    refine G_region ?_
    refine GQ (ev_move rfl) ?_
    refine GE (eff_call rfl (hs _ (by repeat' first | exact Rc.own (flat_length _) f3 | apply Rd.skip))) ?_; rintro _ _ ⟨b, g, rfl, k1, k2, rfl⟩
    refine GQ (ev_assign rfl) ?_
    refine GO_nil ?_
    refine GN ?_
    exact G_ret (L' := own 28 3 (some ⟨b, 0, none⟩) so.length g (flat so) :: L) rfl (.tmp rfl .nil) EpA ⟨b, g, rfl, k1, k2, rfl⟩
end Go.Proofs.YtkoncepjfgnjlaaGreat
/- Where a function ends without a word. No program stands in this text. -/
namespace Go.Proofs.YtkoncepjfgnjlaaGreat
open Go.RowKit
section
variable {P : Program} {fn : Func} {g : Glob} {n : Nat} {σ : Env} {L : List HP}
theorem G_end {rs : List ResultVar} {vs : List Value} {L' : List HP} {F : HP} {post : Value → List HP → Prop} (hr : fn.results = rs.toArray) (h : Res P σ L rs vs) (hL : ∀ h, sat L h → sat (F :: L') h) (hp : post (retv vs) L') : G P (retB P fn g F post) g n [] σ L := fun a w hs hw => by
  refine ⟨hs.defers, retv vs, ?_, L', hp, hw.mono hL⟩
  unfold results
  rw [hr]
  simp only [List.mapM_toArray, Sem.run_bind, Sem.run_map]
  have e := h.run hs.e hw.s
  generalize hm : List.mapM (m := Sem) _ rs = m
  have e' : m.run P w = .ok vs w := by rw [← hm]; exact e
  rw [e']
  simp only [Result.andThen_ok, Sem.run_pure]
  cases vs with
  | nil => rfl
  | cons v l => cases l <;> simp [retv]
end
end Go.Proofs.YtkoncepjfgnjlaaGreat
/- Points in several trees: the reference's put. -/
namespace Go.Proofs.YtkoncepjfgnjlaaGreat
attribute [local irreducible] sat
open Go.RowKit
set_option linter.unusedVariables false
set_option linter.unusedSectionVars false
set_option linter.unusedSimpArgs false
set_option maxRecDepth 100000

theorem flat_setQ (u : QS) : ∀ (l : List QS) (i : Nat), (flat l : List Value).set i (.slice u.A u.l.length u.c) = flat (l.set i u)
  | [], _ => rfl
  | x :: l, 0 => rfl
  | x :: l, i + 1 => by
    have := flat_setQ u l i
    rw [List.set_cons_succ, flat_cons, flat_cons]
    show Value.slice x.A x.l.length x.c :: (flat l).set i _ = _
    rw [this]; rfl
/-- What has been gathered of the first lists. -/
def gthQ (p : Pt) (qs : List QS) : List Pt := [p] ++ (qs.map (·.l)).flatten
theorem gthQ_at {p : Pt} {qs : List QS} {k : Nat} {q : QS} (h : qs[k]? = some q) : gthQ p (qs.take (k + 1)) = gthQ p (qs.take k) ++ q.l := by
  unfold gthQ
  rw [List.take_add_one, h]; simp
structure PutQ (p : Pt) (qs : List QS) (k : Nat) (es : List QS) (q : QS) (N : List HP) : Prop where
  le : k ≤ qs.length
  full : ∀ (j : Nat) (q : QS), j < k → qs[j]? = some q → 0 < q.l.length
  end_ : k = qs.length ∨ ∃ q, qs[k]? = some q ∧ q.l.length = 0
  el : es.length = k
  e0 : ∀ q ∈ es, q.l = []
  l : q.l = gthQ p (qs.take k)
  t : q.at_ N
def putQ (es : List QS) (qs : List QS) (k : Nat) (q : QS) : List QS := es ++ q :: qs.drop (k + 1)
theorem PutQ.cor {p : Pt} {qs es : List QS} {k : Nat} {q : QS} {N : List HP} (h : PutQ p qs k es q N) : (putQ es qs k q).map (·.l) = putR [p] (qs.map (·.l)) ∧ putN [p] (qs.map (·.l)) = q.l.length := by
  have hle := h.le
  obtain ⟨e1, e2⟩ := putR_at k (qs.map (·.l)) [p] (fun j hj => by
    have hj' : j < qs.length := Nat.lt_of_lt_of_le hj hle
    have g : qs[j]? = some (qs[j]'hj') := List.getElem?_eq_getElem hj'
    exact ⟨qs[j].l, by simp [g], h.full j _ hj g⟩) (by
    rcases h.end_ with e | ⟨q, e, e0⟩
    · left; simpa using e
    · right; exact ⟨q.l, by simp [e], e0⟩)
  have e3 : es.map (·.l) = List.replicate k [] := by
    rw [List.eq_replicate_iff]
    refine ⟨by simp [h.el], fun l hl => ?_⟩
    obtain ⟨q, hq, rfl⟩ := List.mem_map.1 hl
    exact h.e0 q hq
  rw [e1, e2, putQ, h.l]
  unfold gthQ
  constructor
  · simp only [List.map_append, List.map_cons, List.map_drop, List.map_take, e3, h.l, gthQ]
  · simp only [List.map_take]
theorem rput_ctr (r : Nat) (A : Option Addr) (n c : Nat) (qs : List QS) (D : Option Addr) (m e : Nat) (most : Int) (bu : Nat) (p : Pt) (L : List HP) (hA : 0 < n → ∃ b, A = some ⟨b, 0, none⟩) (hlen : qs.length = n) (hin : ∀ q ∈ qs, q.at_ L) (hn : n ≤ 1000) (ht : (qs.map (·.l)).flatten.length ≤ 1000) (hb : bu ≤ 1000000000) :
    Ctr Tryz.prog 72 #[.pointer (some ⟨r, 0, none⟩), p.v] (blk r 40 (rfC A n c D m e most bu) :: own 38 1 A n c (flat qs) :: L) fun v L' => ∃ (A' : Option Addr) (c' k : Nat) (es : List QS) (q : QS) (N : List HP), v = .tuple #[] ∧ PutQ p qs k es q N ∧ (∃ b, A' = some ⟨b, 0, none⟩) ∧
      L' = blk r 40 (rfC A' (putQ es qs k q).length c' D m e most (bu + q.l.length : Nat)) :: own 38 1 A' (putQ es qs k q).length c' (flat (putQ es qs k q)) :: pk N :: L := by
  refine Ctr_of (fn := Tryz.f72) (n := 79) Tryz.func72 rfl rfl rfl ?_
  intro g F
  refine GN ?_
  refine G_region ?_
  refine GE (eff_box rfl) ?_; rintro _ _ ⟨b3, rfl, rfl⟩
  refine GO_nil ?_
  refine GN ?_
  refine G_region ?_
  refine GQ (ev_loadN rfl LnA) ?_
  refine GE (eff_buildSlice1 (by rfl) rfl rfl) ?_; rintro _ _ ⟨b7, rfl, rfl⟩
  refine GQ (ev_assign rfl) ?_
  refine GO_nil ?_
  refine GN ?_
  refine G_region ?_
  refine GQ (ev_assign rfl) ?_
  refine GO_nil ?_
  (repeat first | refine G_seq ?_ | refine G_skip ?_ | refine G_endblk ?_)
  refine G_heap (L' := own 28 3 (some ⟨b7, 0, none⟩) 1 1 (flat [p]) :: blk r 40 (rfC A n c D m e most bu) :: own 38 1 A n c (flat qs) :: blk b3 28 [.int .i64 p.id, .int .i64 p.x, .int .i64 p.y] :: F :: L) (en_ownB (n := 1) rfl (by decide) EpA) ?_
  refine G_cut (ι := List QS × Nat × Nat) (fun y => [(0, .pointer (some ⟨r, 0, none⟩)), (3, .pointer (some ⟨b3, 0, none⟩)), (4, .slice (some ⟨y.2.1, 0, none⟩) (gthQ p qs).length y.2.2)]) (fun y => own 28 3 (some ⟨y.2.1, 0, none⟩) (gthQ p qs).length y.2.2 (flat (gthQ p qs)) :: blk r 40 (rfC A n c D m e most bu) :: own 38 1 A n c (flat y.1) :: blk b3 28 [.int .i64 p.id, .int .i64 p.x, .int .i64 p.y] :: F :: L)
    (fun y => y.1.length = n ∧ (∀ q ∈ y.1, q.l = []) ∧ ∀ (j : Nat) (q : QS), j < n → qs[j]? = some q → 0 < q.l.length) ?_ ?_
  · refine GN ?_
    refine G_loop (ι := Nat × List QS × Nat × Nat) (fun y => [(0, .pointer (some ⟨r, 0, none⟩)), (3, .pointer (some ⟨b3, 0, none⟩)), (4, .slice (some ⟨y.2.2.1, 0, none⟩) (gthQ p (qs.take y.1)).length y.2.2.2), (5, .int .i64 (y.1 : Nat))]) (fun y => own 28 3 (some ⟨y.2.2.1, 0, none⟩) (gthQ p (qs.take y.1)).length y.2.2.2 (flat (gthQ p (qs.take y.1))) :: blk r 40 (rfC A n c D m e most bu) :: own 38 1 A n c (flat (y.2.1 ++ qs.drop y.1)) :: blk b3 28 [.int .i64 p.id, .int .i64 p.x, .int .i64 p.y] :: F :: L)
      (fun y => y.1 ≤ n ∧ y.2.1.length = y.1 ∧ (∀ q ∈ y.2.1, q.l = []) ∧ ∀ (j : Nat) (q : QS), j < y.1 → qs[j]? = some q → 0 < q.l.length) (fun y => n - y.1) (0, [], b7, 1) ⟨Nat.zero_le _, rfl, by simp, fun j q h => absurd h (Nat.not_lt_zero _)⟩ ⟨rfl, rfl, rfl, rfl, trivial⟩ en_refl ?_
    rintro ⟨k, es, ba, ca⟩ ⟨f1, f2, f3, f4⟩
    simp only at f1 f2 f3 f4
    dsimp only
    have hxl : (es ++ qs.drop k).length = n := by simp; omega
    have hgl : (gthQ p (qs.take k)).length ≤ 1001 := by
      unfold gthQ
      have e1 : ((qs.take k).map (·.l)).flatten.length ≤ (qs.map (·.l)).flatten.length := by
        conv => rhs; rw [← List.take_append_drop k qs]
        rw [List.map_append, List.flatten_append, List.length_append]; omega
      rw [List.length_append, List.length_singleton]; omega
    by_cases c1 : k < n
    · obtain ⟨ab, rfl⟩ := hA (by omega)
      have g1 : qs[k]? = some qs[k] := List.getElem?_eq_getElem (by omega)
      have d1 : qs.drop k = qs[k] :: qs.drop (k + 1) := (List.getElem_cons_drop (by omega)).symm
      have m1 := hin qs[k] (List.getElem_mem _)
      have a1 := gthQ_at (p := p) g1
      have f5 : 0 < qs[k].l.length → ∀ (j : Nat) (q : QS), j < k + 1 → qs[j]? = some q → 0 < q.l.length := fun h0 j q hj hq => by
        rcases Nat.lt_or_ge j k with h | h
        · exact f4 j q h hq
        · have : j = k := by omega
          subst this
          rw [g1] at hq; cases hq; exact h0
      have hpq : ∀ N, (⟨some ⟨ba, 0, none⟩, ca, gthQ p (qs.take k)⟩ : QS).at_ N → qs[k].l.length = 0 → PutQ p qs k es ⟨some ⟨ba, 0, none⟩, ca, gthQ p (qs.take k)⟩ N := fun N h h0 => ⟨by omega, f4, .inr ⟨_, g1, h0⟩, f2, f3, rfl, h⟩
      have hgl2 : (gthQ p (qs.take (k + 1))).length ≤ 1001 := by
        unfold gthQ
        have e1 : ((qs.take (k + 1)).map (·.l)).flatten.length ≤ (qs.map (·.l)).flatten.length := by
          conv => rhs; rw [← List.take_append_drop (k + 1) qs]
          rw [List.map_append, List.flatten_append, List.length_append]; omega
        rw [List.length_append, List.length_singleton]; omega
      rw [a1, List.length_append] at hgl2
      generalize qs[k] = q at *
      rw [d1] at hxl ⊢
      have gk : (es ++ q :: qs.drop (k + 1))[k]? = some q := by
        rw [List.getElem?_append_right (by omega), f2]; simp
      have z1 : ∀ X, Ld (own 38 1 (some ⟨ab, 0, none⟩) n c (flat (es ++ q :: qs.drop (k + 1))) :: X) ⟨ab, 0 + k * 1, none⟩ (.slice q.A q.l.length q.c) := fun X => by
        have hr : Rd (own 38 1 (some ⟨ab, 0, none⟩) n c (flat (es ++ q :: qs.drop (k + 1))) :: X) (some ⟨ab, 0, none⟩) n (es ++ q :: qs.drop (k + 1)) := Rc.own (by rw [flat_length, hxl]; rfl) (fun _ => ⟨ab, rfl⟩)
        obtain ⟨_, _, e9, hx⟩ := hr.at_ (by omega)
        cases e9
        exact (hx _ _ gk).at_ (i := 0) rfl
      have hst : ∀ u : QS, (flat (es ++ q :: qs.drop (k + 1)) : List Value).set (0 + k * 1) (.slice u.A u.l.length u.c) = flat (es ++ u :: qs.drop (k + 1)) := fun u => by
        rw [show 0 + k * 1 = k by omega, flat_setQ]
        congr 1
        rw [List.set_append_right _ _ (by omega), f2]; simp
      refine GN ?_
      refine G_region ?_
      refine GQ (ev_move rfl) ?_
      refine GQ (ev_move rfl) ?_
      (first | refine GQ (ev_nilCheck rfl) ?_ | refine GQ (ev_nilCheckF (by simp) rfl) ?_)
      refine GQ (ev_fieldAddr rfl) ?_
      refine GQ (ev_load rfl LdA) ?_
      refine GQ (ev_len rfl) ?_
      (first | refine GQ (ev_lssN rfl rfl) ?_ | refine GQ (ev_lss rfl rfl) ?_)
      refine GO_nil ?_
      refine GN ?_
      refine G_cond_t rfl (decide_eq_true (by omega)) ?_
      refine GN ?_
      refine G_region ?_
      refine GQ (ev_move rfl) ?_
      (first | refine GQ (ev_nilCheck rfl) ?_ | refine GQ (ev_nilCheckF (by simp) rfl) ?_)
      refine GQ (ev_fieldAddr rfl) ?_
      refine GQ (ev_load rfl LdA) ?_
      refine GQ (ev_move rfl) ?_
      (first | refine GQ (ev_indexAddrN rfl rfl NgA) ?_ | refine GQ (ev_indexAddr rfl rfl NgA NgA) ?_)
      refine GQ (ev_load rfl (by repeat' first | exact z1 _ | apply Ld.skip)) ?_
      refine GQ (ev_len rfl) ?_
      refine GQ (ev_eql rfl rfl) ?_
      refine GO_nil ?_
      by_cases h0 : q.l.length = 0
      · have hd2 : ∀ X, (⟨some ⟨ba, 0, none⟩, ca, gthQ p (qs.take k)⟩ : QS).at_ (own 28 3 (some ⟨ba, 0, none⟩) (gthQ p (qs.take k)).length ca (flat (gthQ p (qs.take k))) :: X) := fun X => Rc.own (flat_length _) (fun _ => ⟨ba, rfl⟩)
        have hpq2 := hpq _ (hd2 []) h0
        have hln : (putQ es qs k ⟨some ⟨ba, 0, none⟩, ca, gthQ p (qs.take k)⟩).length = n := by
          rw [← hxl]; simp [putQ]
        generalize gthQ p (qs.take k) = all at *
        refine GN ?_
        refine G_cond_t rfl (decide_eq_true (by omega)) ?_
        refine GN ?_
        refine G_region ?_
        refine GQ (ev_move rfl) ?_
        (first | refine GQ (ev_nilCheck rfl) ?_ | refine GQ (ev_nilCheckF (by simp) rfl) ?_)
        refine GQ (ev_fieldAddr rfl) ?_
        refine GQ (ev_load rfl LdA) ?_
        refine GQ (ev_move rfl) ?_
        refine GQ (ev_move rfl) ?_
        (first | refine GQ (ev_indexAddrN rfl rfl NgA) ?_ | refine GQ (ev_indexAddr rfl rfl NgA NgA) ?_)
        refine GE (eff_storeO rfl rfl rfl PkA (by omega)) ?_; rintro _ _ ⟨rfl, rfl⟩
        refine GO_nil ?_
        have hs1 := hst ⟨some ⟨ba, 0, none⟩, ca, all⟩
        simp only at hs1
        rw [hs1]
        refine GN ?_
        refine G_region ?_
        refine GQ (ev_move rfl) ?_
        refine GQ (ev_move rfl) ?_
        (first | refine GQ (ev_nilCheck rfl) ?_ | refine GQ (ev_nilCheckF (by simp) rfl) ?_)
        refine GQ (ev_fieldAddr rfl) ?_
        refine GQ (ev_load rfl LdA) ?_
        refine GQ (ev_move rfl) ?_
        refine GQ (ev_len rfl) ?_
        (first | refine GQ (ev_addN rfl rfl NgA) ?_ | refine GQ (ev_add rfl rfl NgA) ?_)
        (first | refine GQ (ev_nilCheck rfl) ?_ | refine GQ (ev_nilCheckF (by simp) rfl) ?_)
        refine GQ (ev_fieldAddr rfl) ?_
        refine GE (eff_store rfl rfl rfl UpA) ?_; rintro _ _ ⟨rfl, rfl⟩
        refine GO_nil ?_
        refine GN ?_
        refine G_ret (L' := blk r 40 (rfC (some ⟨ab, 0, none⟩) n c D m e most (bu + all.length : Nat)) :: own 38 1 (some ⟨ab, 0, none⟩) n c (flat (es ++ ⟨some ⟨ba, 0, none⟩, ca, all⟩ :: qs.drop (k + 1))) :: pk [own 28 3 (some ⟨ba, 0, none⟩) all.length ca (flat all)] :: L) rfl .nil ?_ ⟨some ⟨ab, 0, none⟩, c, k, es, ⟨some ⟨ba, 0, none⟩, ca, all⟩, _, rfl, hpq2, ⟨ab, rfl⟩, by rw [hln]; rfl⟩
        intro h s
        have s2 : sat (F :: blk r 40 (rfC (some ⟨ab, 0, none⟩) n c D m e most (bu + all.length : Nat)) :: own 38 1 (some ⟨ab, 0, none⟩) n c (flat (es ++ ⟨some ⟨ba, 0, none⟩, ca, all⟩ :: qs.drop (k + 1))) :: own 28 3 (some ⟨ba, 0, none⟩) all.length ca (flat all) :: L) h := by revert s; revert h; exact EpA
        exact sat.cons_mono (fun _ s => sat.cons_mono (fun _ s => sat.cons_mono (fun _ s => sat.join (N := [_]) s) s) s) s2
      · replace f5 := f5 (by omega)
        have m2 : Rd L q.A q.l.length q.l := m1
        refine GN ?_
        refine G_cond_f rfl (decide_eq_false (by omega)) ?_
        refine GN ?_
        refine GN ?_
        refine G_region ?_
        refine GQ (ev_move rfl) ?_
        refine GQ (ev_move rfl) ?_
        (first | refine GQ (ev_nilCheck rfl) ?_ | refine GQ (ev_nilCheckF (by simp) rfl) ?_)
        refine GQ (ev_fieldAddr rfl) ?_
        refine GQ (ev_load rfl LdA) ?_
        refine GQ (ev_move rfl) ?_
        (first | refine GQ (ev_indexAddrN rfl rfl NgA) ?_ | refine GQ (ev_indexAddr rfl rfl NgA NgA) ?_)
        refine GQ (ev_load rfl (by repeat' first | exact z1 _ | apply Ld.skip)) ?_
        refine GE (eff_append rfl rfl PkA ((by repeat' first | exact m2 | apply Rc.skip)) ((flat_one _)) (by rfl) (by decide) NgA NgA) ?_; rintro _ _ ⟨A51, c51, rfl, hc51, hm51, hn51, rfl⟩
        refine GQ (ev_assign rfl) ?_
        refine GO_nil ?_
        obtain ⟨b9, rfl⟩ := hn51 (by omega)
        refine GN ?_
        refine G_region ?_
        refine GQ (ev_move rfl) ?_
        (first | refine GQ (ev_nilCheck rfl) ?_ | refine GQ (ev_nilCheckF (by simp) rfl) ?_)
        refine GQ (ev_fieldAddr rfl) ?_
        refine GQ (ev_load rfl LdA) ?_
        refine GQ (ev_move rfl) ?_
        refine GE eff_buildSlice0 ?_; rintro _ _ ⟨b57, rfl, rfl⟩
        (first | refine GQ (ev_indexAddrN rfl rfl NgA) ?_ | refine GQ (ev_indexAddr rfl rfl NgA NgA) ?_)
        refine GE (eff_storeO rfl rfl rfl PkA (by omega)) ?_; rintro _ _ ⟨rfl, rfl⟩
        refine GO_nil ?_
        have hs1 := hst ⟨some ⟨b57, 0, none⟩, 0, []⟩
        simp only [List.length_nil] at hs1
        rw [hs1]
        refine GN ?_
        refine G_region ?_
        refine GQ (ev_move rfl) ?_
        (first | refine GQ (ev_addN (q := 1) rfl rfl NgA) ?_ | refine GQ (ev_add rfl rfl NgA) ?_)
        refine GQ (ev_assign rfl) ?_
        refine GO_nil ?_
        refine GN ?_
        refine G_round (k + 1, es ++ [⟨some ⟨b57, 0, none⟩, 0, []⟩], b9, c51) ⟨by simp only; omega, by simp [f2], ?_, f5⟩ (by simp only; omega) ⟨rfl, rfl, by simp only; rw [a1, List.length_append]; rfl, rfl, trivial⟩ ?_
        · intro u hu
          rcases List.mem_append.1 hu with hu | hu
          · exact f3 u hu
          · have : u = ⟨some ⟨b57, 0, none⟩, 0, []⟩ := by simpa using hu
            rw [this]
        · simp only
          rw [a1, flat_append (gthQ p (qs.take k)) q.l, List.length_append, List.append_assoc es, List.singleton_append]
          exact EpA
    · have e : k = n := by omega
      subst e
      rw [List.take_of_length_le (by omega), List.drop_eq_nil_of_le (by omega), List.append_nil]
      refine GN ?_
      refine G_region ?_
      refine GQ (ev_move rfl) ?_
      refine GQ (ev_move rfl) ?_
      (first | refine GQ (ev_nilCheck rfl) ?_ | refine GQ (ev_nilCheckF (by simp) rfl) ?_)
      refine GQ (ev_fieldAddr rfl) ?_
      refine GQ (ev_load rfl LdA) ?_
      refine GQ (ev_len rfl) ?_
      (first | refine GQ (ev_lssN rfl rfl) ?_ | refine GQ (ev_lss rfl rfl) ?_)
      refine GO_nil ?_
      refine GN ?_
      refine G_cond_f rfl (decide_eq_false (by omega)) ?_
      refine GN ?_
      exact G_inv (es, ba, ca) ⟨f2, f3, f4⟩ ⟨rfl, rfl, rfl, trivial⟩ EnA
  · rintro ⟨es, ba, ca⟩ ⟨f1, f2, f3⟩
    simp only at f1 f2 f3
    dsimp only
    have hgl : (gthQ p qs).length ≤ 1001 := by
      unfold gthQ
      rw [List.length_append, List.length_singleton]; omega
    have hd2 : ∀ X, (⟨some ⟨ba, 0, none⟩, ca, gthQ p qs⟩ : QS).at_ (own 28 3 (some ⟨ba, 0, none⟩) (gthQ p qs).length ca (flat (gthQ p qs)) :: X) := fun X => Rc.own (flat_length _) (fun _ => ⟨ba, rfl⟩)
    have hpq2 : PutQ p qs n es ⟨some ⟨ba, 0, none⟩, ca, gthQ p qs⟩ [own 28 3 (some ⟨ba, 0, none⟩) (gthQ p qs).length ca (flat (gthQ p qs))] := ⟨by omega, f3, .inl hlen.symm, f1, f2, by rw [List.take_of_length_le (by omega)], hd2 []⟩
    have hdr : qs.drop (n + 1) = [] := List.drop_eq_nil_of_le (by omega)
    have hln : (putQ es qs n ⟨some ⟨ba, 0, none⟩, ca, gthQ p qs⟩).length = n + 1 := by simp [putQ, hdr, f1]
    have hpe : putQ es qs n ⟨some ⟨ba, 0, none⟩, ca, gthQ p qs⟩ = es ++ [⟨some ⟨ba, 0, none⟩, ca, gthQ p qs⟩] := by simp [putQ, hdr]
    rw [hpe] at hln
    generalize gthQ p qs = all at *
    refine GN ?_
    refine G_region ?_
    refine GQ (ev_move rfl) ?_
    refine GQ (ev_move rfl) ?_
    (first | refine GQ (ev_nilCheck rfl) ?_ | refine GQ (ev_nilCheckF (by simp) rfl) ?_)
    refine GQ (ev_fieldAddr rfl) ?_
    refine GQ (ev_load rfl LdA) ?_
    refine GQ (ev_move rfl) ?_
    refine GE (eff_buildSlice1 (by rfl) rfl rfl) ?_; rintro _ _ ⟨b65, rfl, rfl⟩
    refine GE (eff_append rfl rfl PkA (by repeat' first | exact Rc.blk rfl | assumption | apply Rc.skip) (one_all rfl) (by rfl) (by decide) NgA NgA) ?_; rintro _ _ ⟨A66, c66, rfl, hc66, hm66, hn66, rfl⟩
    (first | refine GQ (ev_nilCheck rfl) ?_ | refine GQ (ev_nilCheckF (by simp) rfl) ?_)
    refine GQ (ev_fieldAddr rfl) ?_
    refine GE (eff_store rfl rfl rfl UpA) ?_; rintro _ _ ⟨rfl, rfl⟩
    refine GO_nil ?_
    refine GN ?_
    refine G_region ?_
    refine GQ (ev_move rfl) ?_
    refine GQ (ev_move rfl) ?_
    (first | refine GQ (ev_nilCheck rfl) ?_ | refine GQ (ev_nilCheckF (by simp) rfl) ?_)
    refine GQ (ev_fieldAddr rfl) ?_
    refine GQ (ev_load rfl LdA) ?_
    refine GQ (ev_move rfl) ?_
    refine GQ (ev_len rfl) ?_
    (first | refine GQ (ev_addN rfl rfl NgA) ?_ | refine GQ (ev_add rfl rfl NgA) ?_)
    (first | refine GQ (ev_nilCheck rfl) ?_ | refine GQ (ev_nilCheckF (by simp) rfl) ?_)
    refine GQ (ev_fieldAddr rfl) ?_
    refine GE (eff_store rfl rfl rfl UpA) ?_; rintro _ _ ⟨rfl, rfl⟩
    refine GO_nil ?_
    refine GN ?_
    obtain ⟨b9, rfl⟩ := hn66 (by omega)
    refine G_end (rs := []) (vs := []) (L' := blk r 40 (rfC (some ⟨b9, 0, none⟩) (n + 1) c66 D m e most (bu + all.length : Nat)) :: own 38 1 (some ⟨b9, 0, none⟩) (n + 1) c66 (flat (es ++ [⟨some ⟨ba, 0, none⟩, ca, all⟩])) :: pk [own 28 3 (some ⟨ba, 0, none⟩) all.length ca (flat all)] :: L) rfl .nil ?_ ⟨some ⟨b9, 0, none⟩, c66, n, es, ⟨some ⟨ba, 0, none⟩, ca, all⟩, _, rfl, hpq2, ⟨b9, rfl⟩, by rw [hpe, hln]⟩
    intro h s
    have s2 : sat (F :: blk r 40 (rfC (some ⟨b9, 0, none⟩) (n + 1) c66 D m e most (bu + all.length : Nat)) :: own 38 1 (some ⟨b9, 0, none⟩) (n + 1) c66 (flat (es ++ [⟨some ⟨ba, 0, none⟩, ca, all⟩])) :: own 28 3 (some ⟨ba, 0, none⟩) all.length ca (flat all) :: L) h := by
      rw [flat_append]
      revert s; revert h; exact EpA
    exact sat.cons_mono (fun _ s => sat.cons_mono (fun _ s => sat.cons_mono (fun _ s => sat.join (N := [_]) s) s) s) s2
end Go.Proofs.YtkoncepjfgnjlaaGreat
/- A range over a function, in a walk. No program stands in this text. -/
namespace Go.Proofs.YtkoncepjfgnjlaaGreat
open Go.RowKit
set_option linter.unusedVariables false
set_option linter.unusedSimpArgs false

/-- A block that is no cells. -/
structure obj (b : Nat) (o : Obj) (h : Hm) : Prop where
  eq : h b = some o
section
variable {g : Glob} {L : List HP} {w : World}
theorem Hp.obj_heap {b : Nat} {o : Obj} (h : Hp g (obj b o :: L) w) : w.heap[b]? = some o := by
  obtain ⟨h1, h2, d, s1, s2, a, l⟩ := h.s
  exact s1 _ _ a.eq
theorem Hp.allocO (h : Hp g L w) (o : Obj) : Hp g (obj w.heap.size o :: L) (w.alloc o) := by
  refine ⟨h.g, fun k => if k = w.heap.size then some o else none, w.hm, fun k => ?_, fun k o' e => ?_, fun k o' e => ?_, ⟨by simp⟩, h.s⟩
  · by_cases hk : k = w.heap.size
    · right; subst hk; simp [World.hm]
    · left; simp [hk]
  · replace e : (if k = w.heap.size then some o else none) = some o' := e
    by_cases hk : k = w.heap.size
    · subst hk
      rw [if_pos rfl] at e
      show (w.heap.push _)[_]? = _
      simpa using e
    · rw [if_neg hk] at e; cases e
  · have hk : k < w.heap.size := by
      rcases Nat.lt_or_ge k w.heap.size with h' | h'
      · exact h'
      · simp [World.hm, Array.getElem?_eq_none h'] at e
    show (w.heap.push _)[k]? = _
    rw [Array.getElem?_push, if_neg (by omega)]
    exact e
theorem Hp.putO {b : Nat} {o : Obj} (h : Hp g (obj b o :: L) w) (o' : Obj) : Hp g (obj b o' :: L) (w.putObj b o') := by
  have hb := h.obj_heap
  have hlt : b < w.heap.size := (Array.getElem?_eq_some_iff.1 hb).1
  obtain ⟨h1, h2, d, s1, s2, a, l⟩ := h.s
  have a' : h1 b = some o := a.eq
  have hne : ∀ k, k ≠ b → (w.putObj b o').hm k = w.hm k := fun k hk => World.putObj_heap_other hk
  have heq : (w.putObj b o').hm b = some o' := World.putObj_heap_same hlt
  refine ⟨h.g, fun k => if k = b then some o' else none, h2, fun k => ?_, fun k o e => ?_, fun k o e => ?_, ⟨by simp⟩, l⟩
  · by_cases hk : k = b
    · right
      rcases d k with e | e
      · rw [hk, a'] at e; cases e
      · exact e
    · left; simp [hk]
  · replace e : (if k = b then some o' else none) = some o := e
    by_cases hk : k = b
    · subst hk
      rw [if_pos rfl] at e
      rw [heq]; exact e
    · rw [if_neg hk] at e; cases e
  · by_cases hk : k = b
    · rcases d k with e' | e'
      · rw [hk, a'] at e'; cases e'
      · rw [e'] at e; cases e
    · rw [hne k hk]; exact s2 k o e
theorem Hp.true_ (hw : Hp g L w) : Hp g ((fun _ => True) :: L) w := ⟨hw.g, fun _ => none, w.hm, fun _ => .inl rfl, fun _ _ e => (by cases e), hSub.refl _, trivial, hw.s⟩
end

/-! The end of a function that holds such a range. -/
def mk (ds : List Nat) : List Deferred := ds.map fun d => ⟨.collected d, #[]⟩
def mkH (ds : List Nat) : List HP := ds.map fun d => obj d (.deferred (some []))
theorem results_runs {P : Program} {fn : Func} {σ : Env} {L : List HP} {rs : List ResultVar} {vs : List Value} (hr : fn.results = rs.toArray) (h : Res P σ L rs vs) {a : Act} {w : World} (hs : SatE σ a) (hw : sat L w.hm) : (results fn a.tmps).run P w = .ok (retv vs) w := by
  unfold results
  rw [hr]
  simp only [List.mapM_toArray, Sem.run_bind, Sem.run_map]
  have e := h.run hs hw
  generalize hm : List.mapM (m := Sem) _ rs = m
  have e' : m.run P w = .ok vs w := by rw [← hm]; exact e
  rw [e']
  simp only [Result.andThen_ok, Sem.run_pure]
  cases vs with
  | nil => rfl
  | cons v l => cases l <;> simp [retv]
def retM (P : Program) (fn : Func) (g : Glob) (F : HP) (post : Value → List HP → Prop) : Exit → Act → World → Prop
  | .normal, a, w | .ret, a, w => ∃ (ds : List Nat) (M L2 : List HP) (σ : Env) (rs : List ResultVar) (vs : List Value), a.defers = mk ds ∧ SatE σ a ∧ fn.results = rs.toArray ∧ Res P σ M rs vs ∧ (∀ h, sat M h → sat (F :: L2) h) ∧ post (retv vs) L2 ∧ Hp g (mkH ds ++ M) w
  | _, _, _ => False
theorem leaves_mk {P : Program} {fn : Func} {g : Glob} {F : HP} {post : Value → List HP → Prop} {M L2 : List HP} {σ : Env} {rs : List ResultVar} {vs : List Value} {a : Act} (hs : SatE σ a) (hr : fn.results = rs.toArray) (h : Res P σ M rs vs) (hM : ∀ h, sat M h → sat (F :: L2) h) (hp : post (retv vs) L2) :
    ∀ (ds : List Nat) (w : World), Hp g (mkH ds ++ M) w → LeavesInM Fence.wide 0 P fn a.tmps (fun e w' => ∃ v L', e = .returned v ∧ post v L' ∧ Hp g (F :: L') w') (mk ds) .returning w
  | [], w, hw => ⟨retv vs, results_runs hr h hs hw.s, _, L2, rfl, hp, hw.mono hM⟩
  | d :: ds, w, hw => ⟨by simp, .inl ⟨d, w.putObj d (.deferred none), rfl, run_takeDeferred (Hp.obj_heap hw), leaves_mk hs hr h hM hp ds _ ((Hp.putO hw _).mono fun _ s => s.tail)⟩⟩
section
variable {P : Program} {fn : Func} {g : Glob} {n : Nat} {K : List Kt} {σ : Env} {L : List HP} {B : Exit → Act → World → Prop}
theorem Ctr_ofM {f : FuncId} {c : Code} {args : List Value} {post : Value → List HP → Prop} (hf : P.funcs[f]? = some fn) (hb : fn.body = some c) (hn : fn.ntmps = n) (hlen : Nat.ble args.length n = true)
    (h : ∀ g F, g.base = g → G P (retM P fn g F post) g n [.code c] (argsE args 0) (F :: L)) : Ctr P f args.toArray L post := fun g F w hw => by
  refine (callsIn_wide (n := 0)).1 (callsIn_of_wp_marks hf hb trivial ?_)
  have hsz : args.toArray.size ≤ fn.ntmps := by rw [hn]; exact Nat.le_of_ble_eq_true hlen
  have := h g.base F rfl { tmps := args.toArray ++ Array.replicate (fn.ntmps - args.toArray.size) undef, defers := [] } w ⟨by simp at hsz ⊢; omega, rfl, fun t v e => ?_⟩ hw.base
  · refine Code.wpIn_mono (fun e a w h => ?_) this
    cases e with
    | normal =>
      obtain ⟨ds, M, L2, τ, rs, vs, h1, h2, h3, h4, h5, h6, h7⟩ := h
      show LeavesInM _ _ _ _ _ _ a.defers _ _
      rw [h1]
      exact leaves_mk h2 h3 h4 h5 h6 ds w h7.of_base
    | ret =>
      obtain ⟨ds, M, L2, τ, rs, vs, h1, h2, h3, h4, h5, h6, h7⟩ := h
      show LeavesInM _ _ _ _ _ _ a.defers _ _
      rw [h1]
      exact leaves_mk h2 h3 h4 h5 h6 ds w h7.of_base
    | _ => exact h.elim
  · obtain ⟨j, rfl, hj⟩ := argsE_get args 0 t v e
    have hlt : j < args.length := (List.getElem?_eq_some_iff.1 hj).1
    rw [Nat.zero_add, Array.getElem?_append_left (by simpa using hlt)]
    simpa using hj
theorem G_retM {g0 : Glob} {rs : List ResultVar} {vs : List Value} {L' M : List HP} {F : HP} {post : Value → List HP → Prop} (ds : List Nat) (hg : g.base = g0.base) (hd : g.dfs = mk ds) (hr : fn.results = rs.toArray) (h : Res P σ M rs vs) (hL : ∀ h, sat L h → sat (mkH ds ++ M) h) (hM : ∀ h, sat M h → sat (F :: L') h) (hp : post (retv vs) L') :
    G P (retM P fn g0 F post) g n (.code .ret :: K) σ L := fun a w hs hw =>
  wpIn_ret (Kq_ret ⟨ds, M, L', σ, rs, vs, hs.defers.trans hd, hs.e, hr, h, hM, hp, ⟨hw.g.trans hg, hL _ hw.s⟩⟩)

/-! The statement. -/
def Glob.withD (g : Glob) (d : Nat) : Glob := { g with dfs := ⟨.collected d, #[]⟩ :: g.dfs }
theorem G_range {g0 : Operand} {ps : Array Tmp} {assign body : Code} {f : FuncId} {c1 c2 : List Value} {post : Option Code → List HP → Prop} [H : CalT P f] (hr : g.rnd = none) (hq : ev σ g0 = some (.func (.func f) c1.toArray c2.toArray))
    (hc : ∀ (l d : Nat) (fid : FuncId) (tmps : Array Value), tmps.size = n → SatE σ ⟨tmps, []⟩ → Ctr P f (c1 ++ [Value.func (.yield l) #[] #[]] ++ c2).toArray (obj l (.loop ⟨.ready, none, fid, tmps, ps, assign, body, d⟩) :: obj d (.deferred (some [])) :: L)
      fun v L' => ∃ st p L1, st ≠ .busy ∧ post p L1 ∧ L' = obj l (.loop ⟨st, p, fid, tmps, ps, assign, body, d⟩) :: obj d (.deferred (some [])) :: L1)
    (hN : ∀ d L1, post none L1 → G P B (g.withD d) n K σ (obj d (.deferred (some [])) :: L1))
    (hS : ∀ d c L1, post (some c) L1 → G P B (g.withD d) n (.code c :: K) σ (obj d (.deferred (some [])) :: L1)) :
    G P B g n (.code (.rangeFunc g0 ps assign body) :: K) σ L := fun a w hs hw => by
  show (Code.rangeFunc g0 ps assign body).wpIn (fnc g.rnd) 0 P _ a w
  refine wpIn_rangeFunc fun fid _ => ?_
  have h1 := (hw.allocO (.deferred (some []))).allocO (.loop { state := .ready, pending := none, fn := fid, tmps := a.tmps, params := ps, assign, body, defers := w.heap.size })
  have hC := calls_of (hc _ _ fid a.tmps hs.size (fun t v e => hs.e t v e)) h1
  rw [World.size_alloc] at h1 hC
  have hE := run_enterLoop_outer (P := P) (w := w) fid a.tmps ps assign body
  generalize (w.alloc (.deferred (some []))).alloc (.loop { state := .ready, pending := none, fn := fid, tmps := a.tmps, params := ps, assign, body, defers := w.heap.size }) = W at h1 hC hE
  refine ⟨w.heap.size + 1, [⟨.collected w.heap.size, #[]⟩], W, ⟨.fn (.func f) c2.toArray, c1.toArray ++ #[Value.func (.yield (w.heap.size + 1)) #[] #[]]⟩, W, f, (c1 ++ [Value.func (.yield (w.heap.size + 1)) #[] #[]] ++ c2).toArray, W, ?_, ?_, fun _ _ => trivial, ?_, (fun e => by cases e), (callsIn_wide (n := 0)).2 (hC.mono ?_)⟩
  · rw [show (fnc g.rnd).round = none from hr]
    exact hE
  · have ea : a.eval (.const (Value.func (.yield (w.heap.size + 1)) #[] #[])) = Value.func (.yield (w.heap.size + 1)) #[] #[] := rfl
    simp only [resolve, hs.e.eval hq, Deferred.ofValue, Sem.run_bind, Sem.run_pure, Result.andThen_ok, ea, List.map_toArray, List.map_cons, List.map_nil]
  · have := H.run (c1 ++ [Value.func (.yield (w.heap.size + 1)) #[] #[]] ++ c2).toArray W
    simpa [invoke] using this
  · rintro e w' ⟨v, L', rfl, ⟨st, p, L1, hb, hp, rfl⟩, hw'⟩
    refine ⟨p, _, run_endLoop hw'.obj_heap hb, ?_⟩
    have hw2 : Hp g (obj w.heap.size (.deferred (some [])) :: L1) _ := (hw'.putO (.loop ⟨.exhausted, p, fid, a.tmps, ps, assign, body, w.heap.size⟩)).mono fun _ s => s.tail
    have hs2 : Sat (g.withD w.heap.size) n σ { a with defers := [⟨.collected w.heap.size, #[]⟩] ++ a.defers } := ⟨hs.size, by rw [hs.defers]; rfl, fun t v e => hs.e t v e⟩
    cases p with
    | none => exact hN _ _ hp _ _ hs2 ⟨hw2.g, hw2.s⟩
    | some c => exact hS _ c _ hp _ _ hs2 ⟨hw2.g, hw2.s⟩

/-! What a call of yield comes to. -/
def Yld (P : Program) (l : Nat) (args : List Value) (L : List HP) (post : Bool → List HP → Prop) : Prop :=
  ∀ g F w, Hp g (F :: L) w → ∃ fn tmps assign body, (Instr.yield l args.toArray).run P w = .ok (.round l fn tmps assign body) w ∧
    RoundIn Fence.wide 0 P l fn tmps assign body w fun e w' => ∃ b L', e = .returned (.bool b) ∧ post b L' ∧ Hp g (F :: L') w'
theorem Yld.frame {l : Nat} {args : List Value} {L M : List HP} {post : Bool → List HP → Prop} (Fr : List HP) (h : Yld P l args L post) (hL : ∀ h, sat M h → sat (Fr ++ L) h) : Yld P l args M fun b L' => ∃ L1, post b L1 ∧ L' = Fr ++ L1 := by
  intro g F w hw
  have h1 : Hp g ((fun h => sat (F :: Fr) h) :: L) w := hw.mono fun k s => sat.join (N := F :: Fr) (s.cons_mono hL)
  obtain ⟨fn, tmps, assign, body, e, hR⟩ := h g _ w h1
  exact ⟨fn, tmps, assign, body, e, hR.mono fun e w' ⟨b, L1, e1, p, q⟩ => ⟨b, _, e1, ⟨L1, p, rfl⟩, q.mono fun _ s => sat.part (N := F :: Fr) s⟩⟩
theorem Yld.mono {l : Nat} {args : List Value} {L : List HP} {post post' : Bool → List HP → Prop} (h : Yld P l args L post) (f : ∀ b L', post b L' → post' b L') : Yld P l args L post' := fun g F w hw => by
  obtain ⟨fn, tmps, assign, body, e, hR⟩ := h g F w hw
  exact ⟨fn, tmps, assign, body, e, hR.mono fun e w' ⟨b, L1, e1, p, q⟩ => ⟨b, L1, e1, f _ _ p, q⟩⟩
theorem GO_yield {dst : Option Nat} {q : Operand} {xs : List Operand} {ts : Array TypeId} {ty : TypeId} {pos : String} {aft : Array Edge} {ops : Array Oper} {lst : List Oper} {l : Nat} {args : List Value} {post : Bool → List HP → Prop} (hd : dstOk n dst = true)
    (hq : ev σ q = some (.func (.yield l) #[] #[])) (ha : evs σ xs = some args) (hy : Yld P l args L post) (h : ∀ b L', post b L' → GO P B g n ops lst K (putE σ dst (.bool b)) L') :
    GO P B g n ops (⟨dst, .call ⟨.value q, xs.toArray, ts⟩, ty, pos, aft, none⟩ :: lst) K σ L := fun a w hs hw => by
  refine wpListIn_plain rfl fun Kx hK => ⟨fun _ _ => trivial, ?_⟩
  obtain ⟨fid, tmps, assign, body, e1, hR⟩ := hy g _ w hw.true_
  rw [Oper.semAt_eq _ _ _ (fun c e => by cases e)]
  have e : (execOp a.eval ⟨dst, .call ⟨.value q, xs.toArray, ts⟩, ty, pos, aft, none⟩).run P w = .ok (.round l fid tmps assign body) w := by
    simp only [execOp, resolve, hs.e.eval hq, Deferred.ofValue, Sem.run_bind, Sem.run_pure, Result.andThen_ok, invoke, List.map_toArray, evs_map hs.e ha]
    simpa using e1
  rw [e]
  refine ⟨(fun e => by cases e), RoundIn.mono hR fun e w' ⟨b, L', e1, p, q⟩ => ?_⟩
  subst e1
  exact hK _ _ (h b L' p _ _ (hs.put' _ hd) (q.mono fun _ s => s.tail))

/-! A round. -/
def rndB (g : Glob) (F : HP) (l : Nat) (R : LoopState → Option Code → Obj) (post : Bool → List HP → Prop) : Exit → Act → World → Prop
  | .normal, _, w => ∃ L', post true (obj l (R .ready none) :: L') ∧ Hp g (F :: obj l (R .busy none) :: L') w
  | .ret, _, w => ∃ L', post false (obj l (R .done (some .ret)) :: L') ∧ Hp g (F :: obj l (R .busy none) :: L') w
  | .exit id, _, w => ∃ L', post false (obj l (R .done (some (.exit id))) :: L') ∧ Hp g (F :: obj l (R .busy none) :: L') w
  | _, _, _ => False
theorem rndB_noPanic {F : HP} {l : Nat} {R : LoopState → Option Code → Obj} {post : Bool → List HP → Prop} : noPanic (rndB g F l R post) := fun _ _ _ h => h
theorem Yld_of {ι : Type} {τ : ι → Env} {M : ι → List HP} {Fy : ι → Prop} {l d : Nat} {fid : FuncId} {tmps : Array Value} {p : Tmp} {x : Value} {assign body : Code} {τ0 : Env} {post : Bool → List HP → Prop} {R : LoopState → Option Code → Obj} (hR : R = fun st q => .loop ⟨st, q, fid, tmps, #[p], assign, body, d⟩) (hsz : tmps.size = n) (hτ : SatE τ0 ⟨tmps, []⟩) (hp : Nat.blt p n = true)
    (hA : ∀ g F, g.rnd = some l → g.dfs = [] → G P (fun _ _ _ => False) g n [.code assign, .inv (fun a w => ∃ y, Fy y ∧ Sat g n (τ y) a ∧ Hp g (F :: obj l (R .ready none) :: M y) w)] ((p, x) :: τ0) (F :: obj l (R .ready none) :: L))
    (hB : ∀ g F y, Fy y → g.rnd = some l → g.dfs = [] → G P (rndB g F l R post) g n [.code body] (τ y) (F :: obj l (R .busy none) :: M y)) :
    Yld P l [x] (obj l (R .ready none) :: L) post := fun g F w hw => by
  subst hR
  have hw1 := hw.mono fun _ s => s.swap
  have hy := run_yield (P := P) (args := [x].toArray) hw1.obj_heap rfl
  refine ⟨fid, tmps.setIfInBounds p x, assign, body, by simpa using hy, roundIn_of_wpIn trivial ?_⟩
  have hs0 : Sat ⟨g.os, g.tape, g.output, [], some l⟩ n τ0 ⟨tmps, []⟩ := ⟨hsz, rfl, hτ⟩
  have h1 := hA ⟨g.os, g.tape, g.output, [], some l⟩ F rfl rfl _ w (hs0.put x hp) ⟨hw.g, hw.s⟩
  refine Code.wpIn_mono (fun e a1 w1 h => ?_) h1
  cases e with
  | normal =>
    obtain ⟨y, fy, hs1, hw2⟩ := h
    have hw3 := hw2.mono fun _ s => s.swap
    refine ⟨_, run_beginRound hw3.obj_heap rfl, ?_⟩
    have hw4 := (hw3.putO (.loop ⟨.busy, none, fid, tmps, #[p], assign, body, d⟩)).mono fun _ s => s.swap
    have h2 := hB _ F y fy rfl rfl a1 _ hs1 hw4
    refine Code.wpIn_mono (fun e a3 w3 h3 => ?_) h2
    cases e with
    | normal =>
      obtain ⟨L', hp', hw5⟩ := h3
      have hw6 := hw5.mono fun _ s => s.swap
      have hw7 := (hw6.putO (.loop ⟨.ready, none, fid, tmps, #[p], assign, body, d⟩)).mono fun _ s => s.swap
      exact ⟨_, _, run_endRound none hw6.obj_heap, true, _, rfl, hp', ⟨hw7.g, hw7.s⟩⟩
    | ret =>
      obtain ⟨L', hp', hw5⟩ := h3
      have hw6 := hw5.mono fun _ s => s.swap
      have hw7 := (hw6.putO (.loop ⟨.done, some .ret, fid, tmps, #[p], assign, body, d⟩)).mono fun _ s => s.swap
      exact ⟨_, _, run_endRound (some .ret) hw6.obj_heap, false, _, rfl, hp', ⟨hw7.g, hw7.s⟩⟩
    | exit id =>
      obtain ⟨L', hp', hw5⟩ := h3
      have hw6 := hw5.mono fun _ s => s.swap
      have hw7 := (hw6.putO (.loop ⟨.done, some (.exit id), fid, tmps, #[p], assign, body, d⟩)).mono fun _ s => s.swap
      exact ⟨_, _, run_endRound (some (.exit id)) hw6.obj_heap, false, _, rfl, hp', ⟨hw7.g, hw7.s⟩⟩
    | _ => exact h3.elim
  | _ => exact h.elim
/-- What a loop's rounds come to, its record being R. -/
def Rnd (P : Program) (n : Nat) (σ : Env) (l : Nat) (p : Tmp) (assign body : Code) (R : LoopState → Option Code → Obj) : Prop :=
  ∀ {ι : Type} {τ : ι → Env} {M : ι → List HP} {Fy : ι → Prop} {x : Value} {L : List HP} {post : Bool → List HP → Prop},
    (∀ g F, g.rnd = some l → g.dfs = [] → G P (fun _ _ _ => False) g n [.code assign, .inv (fun a w => ∃ y, Fy y ∧ Sat g n (τ y) a ∧ Hp g (F :: obj l (R .ready none) :: M y) w)] ((p, x) :: σ) (F :: obj l (R .ready none) :: L)) →
    (∀ g F y, Fy y → g.rnd = some l → g.dfs = [] → G P (rndB g F l R post) g n [.code body] (τ y) (F :: obj l (R .busy none) :: M y)) →
    Yld P l [x] (obj l (R .ready none) :: L) post
/-- A range with one variable. -/
theorem G_range1 {g0 : Operand} {p : Tmp} {assign body : Code} {f : FuncId} {c1 c2 : List Value} {post : Option Code → List HP → Prop} [H : CalT P f] (hr : g.rnd = none) (hp : Nat.blt p n = true) (hq : ev σ g0 = some (.func (.func f) c1.toArray c2.toArray))
    (hc : ∀ (l d : Nat) (R : LoopState → Option Code → Obj), Rnd P n σ l p assign body R → Ctr P f (c1 ++ [Value.func (.yield l) #[] #[]] ++ c2).toArray (obj l (R .ready none) :: obj d (.deferred (some [])) :: L)
      fun v L' => ∃ st q L1, st ≠ .busy ∧ post q L1 ∧ L' = obj l (R st q) :: obj d (.deferred (some [])) :: L1)
    (hN : ∀ d L1, post none L1 → G P B (g.withD d) n K σ (obj d (.deferred (some [])) :: L1))
    (hS : ∀ d c L1, post (some c) L1 → G P B (g.withD d) n (.code c :: K) σ (obj d (.deferred (some [])) :: L1)) :
    G P B g n (.code (.rangeFunc g0 #[p] assign body) :: K) σ L :=
  G_range hr hq (fun l d fid tmps hsz hσ => hc l d (fun st q => .loop ⟨st, q, fid, tmps, #[p], assign, body, d⟩) fun hA hB => Yld_of rfl hsz hσ hp hA hB) hN hS
/-- The variable has its value; a round's end. -/
theorem G_rndStart {ι : Type} {τ : ι → Env} {M : ι → List HP} {Fy : ι → Prop} {F : HP} {l : Nat} {r : Obj} (y : ι) (hf : Fy y) (hσ : envSub σ (τ y)) (hL : ∀ h, sat L h → sat (F :: obj l r :: M y) h) :
    G P B g n [.inv (fun a w => ∃ y, Fy y ∧ Sat g n (τ y) a ∧ Hp g (F :: obj l r :: M y) w)] σ L := fun _ _ hs hw => ⟨y, hf, hs.sub hσ, hw.mono hL⟩
theorem G_rndEnd {F : HP} {l : Nat} {R : LoopState → Option Code → Obj} {post : Bool → List HP → Prop} (L' : List HP) (hp : post true (obj l (R .ready none) :: L')) (hL : ∀ h, sat L h → sat (F :: obj l (R .busy none) :: L') h) :
    G P (rndB g F l R post) g n [] σ L := fun _ _ _ hw => ⟨L', hp, hw.mono hL⟩
end
end Go.Proofs.YtkoncepjfgnjlaaGreat
/- A map of points in a walk: made, asked, written, measured, cleared. No program stands in this text. -/
namespace Go.Proofs.YtkoncepjfgnjlaaGreat
open Go.RowKit
set_option linter.unusedVariables false
set_option linter.unusedSimpArgs false
set_option linter.unusedSectionVars false

@[reducible] def Pt.kv (p : Pt) : Value := .agg #[.int .i64 p.id, .int .i64 p.x, .int .i64 p.y]
class MapT (P : Program) (T : TypeId) (r : outParam (TypeId × TypeId)) : Prop where
  h : P.underlying T = some (.map r.1 r.2)
def keyPtB (P : Program) (k : TypeId) : Bool :=
  match P.underlying k with
  | some (.struct fs) => fs.toList.all fun f => decide (f.offset < 3) && (match P.underlying f.type with | some (.int _) => true | _ => false)
  | _ => false
class KeyPt (P : Program) (k : TypeId) : Prop where
  h : keyPtB P k = true
def zeroFB (P : Program) (e : TypeId) : Bool :=
  match P.info? e with
  | some i => (match i.zero with | some (.bool false) => true | _ => false)
  | none => false
class ZeroF (P : Program) (e : TypeId) : Prop where
  h : zeroFB P e = true
section
variable {P : Program} {k e : TypeId}
theorem ZeroF.run (H : ZeroF P e) (w : World) : (zeroValue e).run P w = .ok (.bool false) w := by
  have h := H.h
  unfold zeroFB at h
  split at h
  · rename_i i hi
    split at h
    · rename_i hz
      simp [zeroValue, typeInfo, hi, hz]
    · cases h
  · cases h
theorem kv_at (p : Pt) {o : Nat} (h : o < 3) : ∃ n : Int, (#[Value.int .i64 p.id, Value.int .i64 p.x, Value.int .i64 p.y] : Array Value)[o]? = some (.int .i64 n) := by
  rcases (by omega : o = 0 ∨ o = 1 ∨ o = 2) with rfl | rfl | rfl <;> exact ⟨_, rfl⟩
theorem run_chk [H : KeyPt P k] (w : World) (em : Bool) (p : Pt) : (Instr.checkKey em 10000 k p.kv).run P w = .ok () w := by
  have h := H.h
  unfold keyPtB at h
  split at h
  · rename_i fs hu
    rw [show (10000 : Nat) = 9998 + 1 + 1 from rfl, Instr.checkKey]
    simp only [Sem.run_bind, run_underlying hu, Result.andThen_ok]
    rw [← Array.forIn_toList]
    have h' := List.all_eq_true.1 h
    clear h hu
    generalize fs.toList = l at h'
    induction l with
    | nil => simp
    | cons f l ih =>
      have hf := h' f (by simp)
      simp only [Bool.and_eq_true, decide_eq_true_eq] at hf
      obtain ⟨h1, h2⟩ := hf
      obtain ⟨n, hn⟩ := kv_at p h1
      split at h2
      · rename_i q hq
        have p1 : (part f.type #[.int .i64 p.id, .int .i64 p.x, .int .i64 p.y] f.offset).run P w = .ok (.int .i64 n) w := by
          simp [part, isAgg, run_underlying hq, hn]
        have p2 : (Instr.checkKey em (9998 + 1) f.type (.int .i64 n)).run P w = .ok () w := by
          rw [Instr.checkKey]
          simp [run_underlying hq]
        have ih' := ih (fun y hy => h' y (by simp [hy]))
        rw [List.forIn_cons]
        by_cases hnm : f.name ≠ "_"
        · simp only [hnm, if_true, Sem.run_bind, p1, p2, Result.andThen_ok, Sem.run_pure, ne_eq, not_false_eq_true]
          exact ih'
        · simp only [hnm, if_false, Sem.run_bind, Result.andThen_ok, Sem.run_pure]
          exact ih'
      · cases h2
  · cases h
/-- Where a key stands, and what is told of it. -/
def fndM (p : Pt) : List (Pt × Bool) → Nat → Option (Nat × Value)
  | [], _ => none
  | x :: M, i => if p = x.1 then some (i, .bool x.2) else fndM p M (i + 1)
def encM (x : Pt × Bool) : Value × Value := (x.1.kv, .bool x.2)
def encE (e : MapEntry) : Value × Value := (e.key, e.val)
theorem run_ask [EqT P k 3] (w : World) (p : Pt) : ∀ (es : List MapEntry) (M : List (Pt × Bool)) (i : Nat), es.map encE = M.map encM → (Instr.findAsking k p.kv es i).run P w = .ok (fndM p M i) w
  | [], M, i, h => by
    have : M = [] := by cases M <;> simp at h ⊢
    subst this
    simp [Instr.findAsking, fndM]
  | e :: es, [], i, h => by simp at h
  | e :: es, x :: M, i, h => by
    simp only [List.map_cons, List.cons.injEq, encE, encM, Prod.mk.injEq] at h
    obtain ⟨⟨h1, h2⟩, h3⟩ := h
    have q := (equal_int (P := P) (T := k) (n := 3) (xs := [p.id, p.x, p.y]) (ys := [x.1.id, x.1.x, x.1.y]) rfl rfl w).1
    have q' : (Op.equal k p.kv e.key).run P w = .ok (decide (p = x.1)) w := by
      rw [h1]
      refine Eq.trans q ?_
      congr 1
      refine decide_eq_decide.2 ?_
      constructor
      · intro h
        simp only [List.cons.injEq, and_true] at h
        obtain ⟨y, _⟩ := x
        cases p; cases y
        simp_all
      · intro h; rw [h]
    have ih := run_ask w p es M (i + 1) h3
    unfold Instr.findAsking fndM
    simp only [Sem.run_bind, q', Result.andThen_ok]
    by_cases hp : p = x.1
    · simp [hp, h2]
    · simp only [hp, decide_false, if_false, Bool.false_eq_true]
      exact ih
theorem run_find [EqT P k 3] [H : KeyPt P k] (w : World) (p : Pt) (es : List MapEntry) (M : List (Pt × Bool)) (h : es.map encE = M.map encM) : (Instr.findKey k p.kv es).run P w = .ok (fndM p M 0) w := by
  have hk := H.h
  unfold keyPtB at hk
  split at hk
  · rename_i fs hu
    have q := run_ask (P := P) (k := k) w p es M 0 h
    unfold Instr.findKey
    simp only [Sem.run_bind, run_underlying hu, Result.andThen_ok]
    cases es with
    | nil =>
      have : M = [] := by cases M <;> simp at h ⊢
      subst this
      simp [Instr.findNow, fndM]
    | cons e es => simpa [Instr.findNow, Instr.sameNow] using q
  · cases hk
end
def getM (p : Pt) : List (Pt × Bool) → Option Bool
  | [] => none
  | x :: M => if p = x.1 then some x.2 else getM p M
def putM (p : Pt) (d : Bool) : List (Pt × Bool) → List (Pt × Bool)
  | [] => [(p, d)]
  | x :: M => if p = x.1 then (x.1, d) :: M else x :: putM p d M
theorem fnd_get (p : Pt) : ∀ (M : List (Pt × Bool)) (i : Nat), (fndM p M i = none ∧ getM p M = none ∧ ∀ d, putM p d M = M ++ [(p, d)]) ∨ ∃ j b, fndM p M i = some (i + j, .bool b) ∧ getM p M = some b ∧ M[j]? = some (p, b) ∧ ∀ d, putM p d M = M.set j (p, d)
  | [], i => .inl ⟨rfl, rfl, fun _ => rfl⟩
  | x :: M, i => by
    by_cases h : p = x.1
    · right
      refine ⟨0, x.2, by simp [fndM, h], by simp [getM, h], by simp [h], fun d => by simp [putM, h]⟩
    · rcases fnd_get p M (i + 1) with ⟨h1, h2, h3⟩ | ⟨j, b, h1, h2, h3, h4⟩
      · exact .inl ⟨by simp [fndM, h, h1], by simp [getM, h, h2], fun d => by simp [putM, h, h3]⟩
      · exact .inr ⟨j + 1, b, by simp [fndM, h, h1]; omega, by simp [getM, h, h2], by simpa using h3, fun d => by simp [putM, h, h4]⟩
/-- What a map's block holds. -/
structure MpOk (es : Array MapEntry) (clock : Nat) (M : List (Pt × Bool)) : Prop where
  rd : es.toList.map encE = M.map encM
  old : ∀ e ∈ es.toList, e.born < clock
  nd : (es.toList.map (·.born)).Nodup
def mpH (b : Nat) (M : List (Pt × Bool)) : HP := fun h => ∃ y : Array MapEntry × Nat, MpOk y.1 y.2 M ∧ obj b (.map y.1 y.2) h
theorem MpOk.len {es : Array MapEntry} {clock : Nat} {M : List (Pt × Bool)} (h : MpOk es clock M) : es.size = M.length := by
  have := congrArg List.length h.rd
  simpa using this
section
variable {P : Program} {g : Glob} {L L1 : List HP} {w : World} {b : Nat} {M : List (Pt × Bool)}
theorem mp_open (hw : Hp g (mpH b M :: L) w) : ∃ es clock, MpOk es clock M ∧ Hp g (obj b (.map es clock) :: L) w := by
  obtain ⟨h1, h2, d, s1, s2, ⟨y, ok, o⟩, l⟩ := hw.s
  exact ⟨y.1, y.2, ok, hw.g, h1, h2, d, s1, s2, o, l⟩
theorem mp_close {es : Array MapEntry} {clock : Nat} (ok : MpOk es clock M) (hw : Hp g (obj b (.map es clock) :: L) w) : Hp g (mpH b M :: L) w := by
  obtain ⟨h1, h2, d, s1, s2, o, l⟩ := hw.s
  exact ⟨hw.g, h1, h2, d, s1, s2, ⟨(es, clock), ok, o⟩, l⟩
/-- That such a map is there. -/
structure Mp (L : List HP) (b : Nat) (M : List (Pt × Bool)) : Prop where
  f : ∀ h, sat L h → ∃ es clock, MpOk es clock M ∧ h b = some (.map es clock)
theorem Mp.here : Mp (mpH b M :: L) b M := ⟨fun h s => by
  obtain ⟨h1, h2, d, s1, s2, ⟨y, ok, o⟩, l⟩ := s
  exact ⟨y.1, y.2, ok, s1 _ _ o.eq⟩⟩
theorem Mp.skip {X : HP} (h : Mp L b M) : Mp (X :: L) b M := ⟨fun hm s => h.f hm s.tail⟩
theorem MpOk.put {es : Array MapEntry} {clock : Nat} (ok : MpOk es clock M) (p : Pt) (d : Bool) {j : Nat} {b0 : Bool} (hj : M[j]? = some (p, b0)) : MpOk (es.modify j fun e => { e with key := p.kv, val := .bool d }) clock (M.set j (p, d)) := by
  have hl := ok.len
  have e1 : (es.modify j fun e => { e with key := p.kv, val := .bool d }).toList = es.toList.modify j fun e => { e with key := p.kv, val := .bool d } := Array.toList_modify ..
  refine ⟨?_, ?_, ?_⟩
  · rw [e1]
    apply List.ext_getElem?
    intro i
    have := congrArg (fun l => l[i]?) ok.rd
    simp only [List.getElem?_map, List.getElem?_modify, List.getElem?_set] at this ⊢
    by_cases hi : j = i
    · subst hi
      rw [hj] at this
      have hlt : j < M.length := (List.getElem?_eq_some_iff.1 hj).1
      simp only [if_true, hlt, Option.map_some] at this ⊢
      cases he : es.toList[j]? with
      | none => rw [he] at this; cases this
      | some e => rfl
    · simp only [hi, if_false]
      simpa using this
  · intro e he
    rw [e1] at he
    obtain ⟨i, hi⟩ := List.mem_iff_getElem?.1 he
    rw [List.getElem?_modify] at hi
    cases h9 : es.toList[i]? with
    | none => rw [h9] at hi; cases hi
    | some e9 =>
      rw [h9] at hi
      have := ok.old e9 (List.mem_of_getElem? h9)
      split at hi <;> (cases hi; exact this)
  · rw [e1]
    have : (es.toList.modify j fun e => { e with key := p.kv, val := .bool d }).map (·.born) = es.toList.map (·.born) := by
      apply List.ext_getElem?
      intro i
      simp only [List.getElem?_map, List.getElem?_modify]
      cases es.toList[i]? with
      | none => rfl
      | some e => by_cases hi : j = i <;> simp [hi]
    rw [this]; exact ok.nd
theorem MpOk.push {es : Array MapEntry} {clock : Nat} (ok : MpOk es clock M) (p : Pt) (d : Bool) : MpOk (es.push { key := p.kv, val := .bool d, born := clock }) (clock + 1) (M ++ [(p, d)]) := by
  refine ⟨?_, ?_, ?_⟩
  · rw [Array.toList_push, List.map_append, List.map_append, ok.rd]; rfl
  · intro e he
    rw [Array.toList_push] at he
    rcases List.mem_append.1 he with he | he
    · have := ok.old e he; omega
    · rw [List.mem_singleton.1 he]; exact Nat.lt_succ_self _
  · rw [Array.toList_push, List.map_append]
    refine List.nodup_append.2 ⟨ok.nd, by simp, fun a ha c hc e => ?_⟩
    obtain ⟨e9, h9, rfl⟩ := List.mem_map.1 ha
    have := ok.old e9 h9
    simp at hc
    omega
end
end Go.Proofs.YtkoncepjfgnjlaaGreat
/- A map of points in a walk: the operations. No program stands in this text. -/
namespace Go.Proofs.YtkoncepjfgnjlaaGreat
open Go.RowKit
open Go.ChangeMaps (setBlock)
set_option linter.unusedVariables false
set_option linter.unusedSimpArgs false
set_option linter.unusedSectionVars false

section
variable {P : Program} {g : Glob} {L M1 : List HP} {σ : Env} {d : Option Nat} {ty T T' k e : TypeId} {pos : String} {aft : Array Edge} {gd : Option (Nat × Bool)} {x y z : Operand} {b : Nat} {M : List (Pt × Bool)}
theorem setObj_run {w : World} {b : Nat} {es : Array MapEntry} {c : Nat} (h : w.heap[b]? = some (.map es c)) (o' : Obj) : (setObj b o').run P w = .ok () (w.putObj b o') := by
  simp [setObj, Sem.run, h, World.putObj]
theorem getObj_run {w : World} {b : Nat} {es : Array MapEntry} {c : Nat} (h : w.heap[b]? = some (.map es c)) : (getObj b).run P w = .ok (.map es c) w := by
  simp [getObj, Sem.run, h]
theorem eff_makeMap : Eff P g L σ ⟨d, .makeMap T none, ty, pos, aft, gd⟩ fun r L' => ∃ b, r = .map (some b) ∧ L' = mpH b [] :: L := fun a w hs hw K Q hK => by
  unfold Oper.wp
  have hrun : (Instr.makeMap T none).run P w = .ok (.map (some w.heap.size)) (w.alloc (.map #[] 0)) := by
    simp [Instr.makeMap, newObj, Sem.run]
  simp only [execOp, Option.map_none, Sem.run_bind, hrun, Result.andThen_ok, Sem.run_pure]
  exact hK _ _ _ ⟨_, rfl, rfl⟩ (mp_close ⟨rfl, by simp, by simp⟩ (hw.allocO _))
theorem ev_lookup {p : Pt} [H : MapT P T (k, e)] [KeyPt P k] [EqT P k 3] [Z : ZeroF P e] (hx : ev σ x = some (.map (some b))) (hy : ev σ y = some p.kv) (hm : Mp L b M) :
    Ev P L σ ⟨d, .lookup T x y true, ty, pos, aft, gd⟩ (.tuple #[.bool ((getM p M).getD false), .bool (getM p M).isSome]) := fun a w hs hw => by
  obtain ⟨es, clock, ok, hb⟩ := hm.f _ hw
  have hb : w.heap[b]? = some (.map es clock) := hb
  simp only [execOp, hs.eval hx, hs.eval hy]
  simp only [Instr.lookup, Sem.run_bind, run_underlying H.h, Result.andThen_ok, getObj_run hb, Sem.run_pure, run_chk, run_find w p es.toList M ok.rd]
  rcases fnd_get p M 0 with ⟨h1, h2, h3⟩ | ⟨j, b0, h1, h2, h3, h4⟩
  · simp [h1, h2, Z.run]
  · simp [h1, h2]
theorem eff_mapUpdate {p : Pt} {v : Bool} [H : MapT P T (k, e)] [KeyPt P k] [EqT P k 3] (hx : ev σ x = some (.map (some b))) (hy : ev σ y = some p.kv) (hz : ev σ z = some (.bool v)) (hp : Pick (mpH b M) L M1) :
    Eff P g L σ ⟨d, .mapUpdate T x y z, ty, pos, aft, gd⟩ fun r L' => r = undef ∧ L' = mpH b (putM p v M) :: M1 := fun a w hs hw K Q hK => by
  obtain ⟨es, clock, ok, hw2⟩ := mp_open (hw.mono fun _ => sat.perm hp.perm)
  have hb := hw2.obj_heap
  unfold Oper.wp
  rcases fnd_get p M 0 with ⟨h1, h2, h3⟩ | ⟨j, b0, h1, h2, h3, h4⟩
  · have hrun : (Instr.mapUpdate T (.map (some b)) p.kv (.bool v)).run P w = .ok () (w.putObj b (.map (es.push { key := p.kv, val := .bool v, born := clock }) (clock + 1))) := by
      simp only [Instr.mapUpdate, Sem.run_bind, run_underlying H.h, Result.andThen_ok, getObj_run hb, run_chk, run_find w p es.toList M ok.rd, h1, setObj_run hb]
    simp only [execOp, hs.eval hx, hs.eval hy, hs.eval hz, Sem.run_bind, hrun, Result.andThen_ok, Sem.run_pure]
    exact hK _ _ _ ⟨rfl, rfl⟩ (h3 v ▸ mp_close (ok.push p v) (hw2.putO _))
  · have he : (es[j]?).map (·.key) = some p.kv := by
      have := congrArg (fun l => l[j]?) ok.rd
      simp only [List.getElem?_map, h3, Option.map_some] at this
      rw [← Array.getElem?_toList]
      cases h9 : es.toList[j]? with
      | none => rw [h9] at this; cases this
      | some e9 =>
        rw [h9] at this
        simp only [Option.map_some, Option.some.injEq, encE, encM, Prod.mk.injEq] at this
        simp [this.1]
    have hsame : Instr.sameBits 10000 p.kv p.kv = true := by
      rw [show (10000 : Nat) = 9998 + 1 + 1 from rfl]
      simp [Instr.sameBits]
    have hrun : (Instr.mapUpdate T (.map (some b)) p.kv (.bool v)).run P w = .ok () (w.putObj b (.map (es.modify j fun e => { e with key := p.kv, val := .bool v }) clock)) := by
      simp only [Instr.mapUpdate, Sem.run_bind, run_underlying H.h, Result.andThen_ok, getObj_run hb, run_chk, run_find w p es.toList M ok.rd, h1, Nat.zero_add, he, Option.getD_some, Instr.keyThatStays, hsame, if_true, Sem.run_pure, setObj_run hb]
    simp only [execOp, hs.eval hx, hs.eval hy, hs.eval hz, Sem.run_bind, hrun, Result.andThen_ok, Sem.run_pure]
    exact hK _ _ _ ⟨rfl, rfl⟩ (h4 v ▸ mp_close (ok.put p v h3) (hw2.putO _))
theorem ev_lenM [H : MapT P T (k, e)] (hx : ev σ x = some (.map (some b))) (hm : Mp L b M) : Ev P L σ ⟨d, .call ⟨.builtin .len, #[x], #[T]⟩, ty, pos, aft, gd⟩ (.int .i64 (M.length : Nat)) := fun a w hs hw => by
  obtain ⟨es, clock, ok, hb⟩ := hm.f _ hw
  have hb : w.heap[b]? = some (.map es clock) := hb
  simp only [execOp, resolve, List.map_toArray, List.map_cons, List.map_nil, hs.eval hx]
  simp [invoke, builtin, Builtin.len_, run_underlying H.h, getObj_run hb, goInt, ok.len]
theorem eff_clearM [H : MapT P T (k, e)] (hx : ev σ x = some (.map (some b))) (hp : Pick (mpH b M) L M1) :
    Eff P g L σ ⟨d, .call ⟨.builtin .clear, #[x], #[T]⟩, ty, pos, aft, gd⟩ fun r L' => r = .tuple #[] ∧ L' = mpH b [] :: M1 := fun a w hs hw K Q hK => by
  obtain ⟨es, clock, ok, hw2⟩ := mp_open (hw.mono fun _ => sat.perm hp.perm)
  have hb := hw2.obj_heap
  unfold Oper.wp
  have hrun : (Builtin.clear_ #[T] ty #[.map (some b)]).run P w = .ok (.tuple #[]) (w.putObj b (.map #[] clock)) := by
    simp [Builtin.clear_, run_underlying H.h, getObj_run hb, setObj_run hb]
  simp only [execOp, resolve, List.map_toArray, List.map_cons, List.map_nil, hs.eval hx, Sem.run_bind, Sem.run_pure, Result.andThen_ok, invoke, builtin, hrun]
  exact hK _ _ _ ⟨rfl, rfl⟩ (mp_close ⟨rfl, by simp, by simp⟩ (hw2.putO _))
/-! A range over a map: which ones are still to come; which one came last. -/
structure RgOk (es : Array MapEntry) (clock since : Nat) (seen : Array Nat) (M R : List (Pt × Bool)) (q : Option (Pt × Bool)) : Prop where
  ok : MpOk es clock M
  old : ∀ e ∈ es.toList, e.born < since
  le : since ≤ clock
  left : (leftOf es seen).toList.map encE = R.map encM
  last : ∀ u, q = some u → ∃ e9 ∈ es.toList, encE e9 = encM u ∧ ∃ s0 : Array Nat, seen = s0.push e9.born
def rgH (r b : Nat) (M R : List (Pt × Bool)) (q : Option (Pt × Bool)) : HP := fun h => ∃ y : Array MapEntry × Nat × Nat × Array Nat, RgOk y.1 y.2.1 y.2.2.1 y.2.2.2 M R q ∧ sat [obj r (.mapIter (some b) y.2.2.1 y.2.2.2 y.2.1), obj b (.map y.1 y.2.1)] h
variable {w : World} {r : Nat} {R : List (Pt × Bool)} {q : Option (Pt × Bool)}
theorem rg_open (hw : Hp g (rgH r b M R q :: L) w) : ∃ es clock since seen, RgOk es clock since seen M R q ∧ Hp g (obj r (.mapIter (some b) since seen clock) :: obj b (.map es clock) :: L) w := by
  obtain ⟨h1, h2, d, s1, s2, ⟨y, ok, o⟩, l⟩ := hw.s
  exact ⟨y.1, y.2.1, y.2.2.1, y.2.2.2, ok, hw.g, sat.head (A := fun h => h = h1) (N := [obj r (.mapIter (some b) y.2.2.1 y.2.2.2 y.2.1), obj b (.map y.1 y.2.1)]) (fun _ e => e ▸ o) ⟨h1, h2, d, s1, s2, rfl, l⟩⟩
theorem rg_close {es : Array MapEntry} {clock since : Nat} {seen : Array Nat} (ok : RgOk es clock since seen M R q) (hw : Hp g (obj r (.mapIter (some b) since seen clock) :: obj b (.map es clock) :: L) w) : Hp g (rgH r b M R q :: L) w :=
  ⟨hw.g, sat.fold (N := [_, _]) (fun h n => ⟨(es, clock, since, seen), ok, n⟩) hw.s⟩
theorem rg_mp {h : Hm} (s : sat (rgH r b M R q :: L) h) : sat (mpH b M :: L) h := by
  obtain ⟨h1, h2, d, s1, s2, ⟨y, ok, o⟩, l⟩ := s
  have t := sat.head (A := fun h => h = h1) (N := [obj r (.mapIter (some b) y.2.2.1 y.2.2.2 y.2.1), obj b (.map y.1 y.2.1)]) (fun _ e => e ▸ o) ⟨h1, h2, d, s1, s2, rfl, l⟩
  have t2 : sat ([obj b (.map y.1 y.2.1)] ++ L) h := sat.tail t
  exact sat.fold (N := [obj b (.map y.1 y.2.1)]) (fun h n => by
    obtain ⟨k1, k2, _, t1, _, o9, _⟩ := n
    exact ⟨(y.1, y.2.1), ok.ok, ⟨t1 _ _ o9.eq⟩⟩) t2
theorem en_rg {N : List HP} (f : ∀ h, sat (mpH b M :: L) h → sat N h) : ∀ h, sat (rgH r b M R q :: L) h → sat N h := fun h s => f h (rg_mp s)
/-- Where a range stands. -/
structure Rg (L : List HP) (r : Nat) (u : Pt × Bool) : Prop where
  f : ∀ h, sat L h → ∃ (es : Array MapEntry) (clock since : Nat) (s0 : Array Nat) (e9 : MapEntry) (b9 : Nat), e9 ∈ es.toList ∧ encE e9 = encM u ∧ (es.toList.map (·.born)).Nodup ∧ h b9 = some (.map es clock) ∧ h r = some (.mapIter (some b9) since (s0.push e9.born) clock)
theorem Rg.here {u : Pt × Bool} : Rg (rgH r b M R (some u) :: L) r u := ⟨fun h s => by
  obtain ⟨h1, h2, d, s1, s2, ⟨y, ok, k1, k2, d', t1, t2, o1, z1, z2, d'', v1, v2, o2, _⟩, l⟩ := s
  obtain ⟨e9, m9, e1, s0, e2⟩ := ok.last u rfl
  refine ⟨y.1, y.2.1, y.2.2.1, s0, e9, b, m9, e1, ok.ok.nd, s1 _ _ (t2 _ _ (v1 _ _ o2.eq)), ?_⟩
  rw [← e2]
  exact s1 _ _ (t1 _ _ o1.eq)⟩
theorem Rg.skip {X : HP} {u : Pt × Bool} (h : Rg L r u) : Rg (X :: L) r u := ⟨fun hm s => h.f hm s.tail⟩
theorem Mp.rg : Mp (rgH r b M R q :: L) b M := ⟨fun h s => Mp.here.f h (rg_mp s)⟩
theorem eff_range [H : MapT P T (k, e)] (hx : ev σ x = some (.map (some b))) (hp : Pick (mpH b M) L M1) :
    Eff P g L σ ⟨d, .range T x, ty, pos, aft, gd⟩ fun v L' => ∃ r, v = .pointer (some ⟨r, 0, none⟩) ∧ L' = rgH r b M M none :: M1 := fun a w hs hw K Q hK => by
  obtain ⟨es, clock, ok, hw2⟩ := mp_open (hw.mono fun _ => sat.perm hp.perm)
  unfold Oper.wp
  simp only [execOp, hs.eval hx, Sem.run_bind, run_range_map w T k e b es clock H.h hw2.obj_heap, Result.andThen_ok, Sem.run_pure]
  refine hK _ _ _ ⟨_, rfl, rfl⟩ (rg_close ⟨ok, ok.old, Nat.le_refl _, ?_, (fun _ h => by cases h)⟩ (hw2.allocO _))
  have : (leftOf es #[]) = es := by simp [leftOf]
  rw [this]; exact ok.rd
theorem eff_next (hx : ev σ x = some (.pointer (some ⟨r, 0, none⟩))) (hp : Pick (rgH r b M R q) L M1) :
    Eff P g L σ ⟨d, .next x false, ty, pos, aft, gd⟩ fun v L' => (R = [] ∧ v = .tuple #[.bool false] ∧ L' = rgH r b M R q :: M1) ∨ ∃ A u C, R = A ++ u :: C ∧ v = .tuple #[.bool true, u.1.kv, .bool u.2] ∧ L' = rgH r b M (A ++ C) (some u) :: M1 := fun a w hs hw K Q hK => by
  obtain ⟨es, clock, since, seen, ok, hw2⟩ := rg_open (hw.mono fun _ => sat.perm hp.perm)
  have hr := hw2.obj_heap
  have hb := (hw2.mono fun _ s => s.swap).obj_heap
  unfold Oper.wp
  rcases run_next_at (P := P) w ty r b since clock seen es clock hr hb ok.old ok.le with ⟨h0, hrun⟩ | ⟨e9, he9, w1, hal, hrun⟩
  · simp only [execOp, hs.eval hx, Sem.run_bind, hrun, Result.andThen_ok, Sem.run_pure]
    have hR : R = [] := by
      have := congrArg List.length ok.left
      simp only [List.length_map, Array.length_toList, h0] at this
      exact List.eq_nil_of_length_eq_zero this.symm
    exact hK _ _ _ (.inl ⟨hR, rfl, rfl⟩) (rg_close ok hw2)
  · simp only [execOp, hs.eval hx, Sem.run_bind, hrun, Result.andThen_ok, Sem.run_pure]
    obtain ⟨hem, hes⟩ := mem_left he9
    obtain ⟨A0, C0, eL⟩ := List.append_of_mem he9
    have hl := ok.left
    rw [eL, List.map_append, List.map_cons] at hl
    obtain ⟨A, R1, eR, hA, hR1⟩ := List.map_eq_append_iff.1 hl.symm
    obtain ⟨u, C, eR1, hu, hC⟩ := List.map_eq_cons_iff.1 hR1
    have hw3 : Hp g (obj r (.mapIter (some b) since seen clock) :: obj b (.map es clock) :: M1) w1 := by
      rcases hal with rfl | rfl
      · exact hw2
      · exact hw2.drew
    have hw4 := hw3.putO (.mapIter (some b) since (seen.push e9.born) clock)
    have hset : setBlock w1 r (.mapIter (some b) since (seen.push e9.born) clock) = w1.putObj r (.mapIter (some b) since (seen.push e9.born) clock) := rfl
    rw [hset]
    have eu : e9.key = u.1.kv ∧ e9.val = .bool u.2 := by
      have := hu.symm
      simpa [encE, encM] using this
    rw [eu.1, eu.2]
    refine hK _ _ _ (.inr ⟨A, u, C, by rw [eR, eR1], rfl, rfl⟩) (rg_close ⟨ok.ok, ok.old, ok.le, ?_, fun u' h => ?_⟩ hw4)
    · have e1 : (leftOf es (seen.push e9.born)).toList = (leftOf es seen).toList.filter fun x => !(x.born == e9.born) := by
        unfold leftOf
        rw [Array.toList_filter, Array.toList_filter, List.filter_filter]
        congr 1
        funext x
        by_cases h : x.born = e9.born <;> simp [h, Array.contains_push, Bool.and_comm]
      have nd : ((leftOf es seen).toList.map (·.born)).Nodup := by
        unfold leftOf
        rw [Array.toList_filter]
        exact (List.filter_sublist.map _).nodup ok.ok.nd
      rw [eL, List.map_append, List.map_cons] at nd
      have nd2 := (List.perm_middle.nodup_iff.1 nd)
      have nd3 := (List.nodup_cons.1 nd2).1
      rw [e1, eL, List.filter_append, List.filter_cons]
      have f1 : A0.filter (fun x => !(x.born == e9.born)) = A0 := List.filter_eq_self.2 fun x hx => by
        have : x.born ≠ e9.born := fun h => nd3 (List.mem_append.2 (.inl (h ▸ List.mem_map.2 ⟨x, hx, rfl⟩)))
        simpa using this
      have f2 : C0.filter (fun x => !(x.born == e9.born)) = C0 := List.filter_eq_self.2 fun x hx => by
        have : x.born ≠ e9.born := fun h => nd3 (List.mem_append.2 (.inr (h ▸ List.mem_map.2 ⟨x, hx, rfl⟩)))
        simpa using this
      rw [f1, f2]
      simp [hA, hC]
    · cases h
      exact ⟨e9, hem, hu.symm, seen, rfl⟩
theorem eff_nextN (hx : ev σ x = some (.pointer (some ⟨r, 0, none⟩))) (hp : Pick (rgH r b M [] q) L M1) :
    Eff P g L σ ⟨d, .next x false, ty, pos, aft, gd⟩ fun v L' => v = .tuple #[.bool false] ∧ L' = rgH r b M [] q :: M1 := fun a w hs hw K Q hK =>
  eff_next hx hp a w hs hw K Q fun v w' L' h hw' => by
    rcases h with ⟨_, h1, h2⟩ | ⟨A, u, C, h, _⟩
    · exact hK v w' L' ⟨h1, h2⟩ hw'
    · cases A <;> cases h
theorem eff_nextC {u0 : Pt × Bool} (hx : ev σ x = some (.pointer (some ⟨r, 0, none⟩))) (hp : Pick (rgH r b M (u0 :: R) q) L M1) :
    Eff P g L σ ⟨d, .next x false, ty, pos, aft, gd⟩ fun v L' => ∃ A u C, u0 :: R = A ++ u :: C ∧ v = .tuple #[.bool true, u.1.kv, .bool u.2] ∧ L' = rgH r b M (A ++ C) (some u) :: M1 := fun a w hs hw K Q hK =>
  eff_next hx hp a w hs hw K Q fun v w' L' h hw' => by
    rcases h with ⟨h, _⟩ | h
    · cases h
    · exact hK v w' L' h hw'
theorem ev_lookup1 {p : Pt} [H : MapT P T (k, e)] [KeyPt P k] [EqT P k 3] [Z : ZeroF P e] (hx : ev σ x = some (.map (some b))) (hy : ev σ y = some p.kv) (hm : Mp L b M) :
    Ev P L σ ⟨d, .lookup T x y false, ty, pos, aft, gd⟩ (.bool ((getM p M).getD false)) := fun a w hs hw => by
  obtain ⟨es, clock, ok, hb⟩ := hm.f _ hw
  have hb : w.heap[b]? = some (.map es clock) := hb
  simp only [execOp, hs.eval hx, hs.eval hy]
  simp only [Instr.lookup, Sem.run_bind, run_underlying H.h, Result.andThen_ok, getObj_run hb, Sem.run_pure, run_chk, run_find w p es.toList M ok.rd]
  rcases fnd_get p M 0 with ⟨h1, h2, h3⟩ | ⟨j, b0, h1, h2, h3, h4⟩
  · simp [h1, h2, Z.run]
  · simp [h1, h2]
theorem ev_entry {u : Pt × Bool} (hx : ev σ x = some (.pointer (some ⟨r, 0, none⟩))) (hr : Rg L r u) : Ev P L σ ⟨d, .entry x, ty, pos, aft, gd⟩ (.tuple #[u.1.kv, .bool u.2]) := fun a w hs hw => by
  obtain ⟨es, clock, since, s0, e9, b9, m9, e1, nd, h1, h2⟩ := hr.f _ hw
  have h1 : w.heap[b9]? = some (.map es clock) := h1
  have h2 : w.heap[r]? = some (.mapIter (some b9) since (s0.push e9.born) clock) := h2
  have := run_entry_at (P := P) w r b9 since s0 es clock e9 h2 h1 m9 nd
  simp only [encE, encM, Prod.mk.injEq] at e1
  simp only [execOp, hs.eval hx, Sem.run_bind, this, Result.andThen_ok, Sem.run_pure, e1.1, e1.2]
end
end Go.Proofs.YtkoncepjfgnjlaaGreat
/- Arrays that lead into one another: search. -/
namespace Go.Proofs.YtkoncepjfgnjlaaGreat
attribute [local irreducible] sat
set_option linter.unusedVariables false
set_option linter.unusedSimpArgs false
set_option maxRecDepth 100000

theorem at_ctr (p : Option Addr) (t : Arr) (i : Int) (L : List HP) (h : ArrIn L p t) (hm : t.es.length ≤ maxLen) : Ctr Tryz.prog 169 #[.pointer p, .int .i64 i] L fun v L' =>
    (∀ e, 0 ≤ i → t.es[i.toNat]? = some e → v = .tuple #[.agg #[.int .i64 e.p.id, .int .i64 e.p.x, .int .i64 e.p.y, .int .i64 e.low, .int .i64 e.high], .bool true]) ∧
    (i < 0 ∨ t.es.length ≤ i → v = .tuple #[.agg #[.int .i64 0, .int .i64 0, .int .i64 0, .int .i64 0, .int .i64 0], .bool false]) ∧ L' = L := by
  refine Ctr_of (fn := Tryz.f169) (n := 22) Tryz.func169 rfl rfl rfl ?_
  intro g F
  refine G_seq ?_
  refine GN ?_
  refine G_region ?_
  refine GE eff_alloc ?_; rintro _ _ ⟨b4, rfl, rfl⟩
  refine GQ (ev_assign rfl) ?_
  refine GO_nil ?_
  refine G_seq ?_
  refine G_seq ?_
  refine GN ?_
  refine G_region ?_
  refine GQ (ev_move rfl) ?_
  (first | refine GQ (ev_lssN (q := 0) rfl rfl) ?_ | refine GQ (ev_lss rfl rfl) ?_)
  refine GQ (ev_move rfl) ?_
  refine GO_guard rfl rfl rfl (fun hq3 => ?y82) (fun hq3 => ?n82)
  case' n82 =>
    have hp3 := hq3
    try simp only [decide_eq_true_eq, decide_eq_false_iff_not, Bool.not_true, Bool.not_false] at hp3
    refine GO_no rfl rfl rfl hq3 ?_
    refine GO_no rfl rfl rfl hq3 ?_
    refine GO_no rfl rfl rfl hq3 ?_
    refine GQ (ev_pick_t rfl hq3 rfl) ?_
    refine GO_nil ?_
  case' y82 =>
    have hp3 := hq3
    try simp only [decide_eq_true_eq, decide_eq_false_iff_not, Bool.not_true, Bool.not_false] at hp3
    refine GQ (ev_move rfl) ?_
    refine GO_yes rfl rfl rfl hq3 ?_
    refine GQ (ev_move rfl) ?_
    refine GO_yes rfl rfl rfl hq3 ?_
    refine GE (eff_call rfl (size_ctr p t _ (h.skip.skip))) ?_; rintro _ _ ⟨rfl, rfl⟩
    refine GO_yes rfl rfl rfl hq3 ?_
    refine GQ (ev_geq rfl rfl) ?_
    refine GQ (ev_pick_f rfl hq3 rfl) ?_
    refine GO_nil ?_
  · refine G_condB rfl (fun h2 => ?_) (fun h2 => ?_)
    · refine G_seq ?_
      refine GN ?_
      refine G_region ?_
      refine GQ (ev_build rfl rfl) ?_
      refine GE (eff_storeN rfl rfl rfl rfl UpA) ?_; rintro _ _ ⟨rfl, rfl⟩
      refine GQ (ev_assign rfl) ?_
      refine GO_nil ?_
      simp at h2
      refine G_ret rfl (.cell rfl (loadN_run LnA) (.tmp rfl .nil)) EnA ⟨fun e h1 h3 => ?_, fun _ => rfl, rfl⟩
      have := (List.getElem?_eq_some_iff.1 h3).1
      omega
    · simp at h2
      obtain ⟨k, rfl⟩ := Int.eq_ofNat_of_zero_le (show 0 ≤ i by omega)
      have hk : k < t.es.length := by omega
      cases t with
      | nil => simp [Arr.es] at hk
      | node es lo hi =>
        obtain ⟨b, A, c, pl, ph, rfl, h1, h2, h3, h4, h5, h6⟩ := h
        have h7 := h1.at_ (i := 0) rfl
        obtain ⟨bb, o, rfl, hx⟩ := h2.at_ (by simp [Arr.es] at hk; omega)
        have hg : es[k]? = some es[k] := List.getElem?_eq_getElem hk
        have h8 := hx k _ hg
        have hk2 : k < es.length := by simpa [Arr.es] using hk
        generalize es[k] = e at *
        refine G_skip ?_
        refine G_seq ?_
        refine GN ?_
        refine G_region ?_
        refine GQ (ev_move rfl) ?_
        (first | refine GQ (ev_nilCheck rfl) ?_ | refine GQ (ev_nilCheckF (by simp) rfl) ?_)
        refine GQ (ev_fieldAddr rfl) ?_
        refine GQ (ev_load rfl LdA) ?_
        refine GQ (ev_move rfl) ?_
        (first | refine GQ (ev_indexAddrN rfl rfl NgA) ?_ | refine GQ (ev_indexAddr rfl rfl NgA NgA) ?_)
        refine GQ (ev_loadN rfl LnA) ?_
        refine GE (eff_storeN rfl rfl rfl rfl UpA) ?_; rintro _ _ ⟨rfl, rfl⟩
        refine GQ (ev_assign rfl) ?_
        refine GO_nil ?_
        refine G_ret rfl (.cell rfl (loadN_run LnA) (.tmp rfl .nil)) EnA ⟨fun e' h9 h10 => ?_, fun h9 => ?_, rfl⟩
        · simp [Arr.es, hg] at h10
          subst h10
          rfl
        · simp [Arr.es] at h9 hk; omega
  · refine G_cond_t rfl rfl ?_
    refine G_seq ?_
    refine GN ?_
    refine G_region ?_
    refine GQ (ev_build rfl rfl) ?_
    refine GE (eff_storeN rfl rfl rfl rfl UpA) ?_; rintro _ _ ⟨rfl, rfl⟩
    refine GQ (ev_assign rfl) ?_
    refine GO_nil ?_
    refine G_ret rfl (.cell rfl (loadN_run LnA) (.tmp rfl .nil)) EnA ⟨fun e h1 _ => absurd hp3 (by omega), fun _ => rfl, rfl⟩
theorem lower_ctr (e f : Ent) (L : List HP) : Ctr Tryz.prog 133 #[.agg #[.int .i64 e.p.id, .int .i64 e.p.x, .int .i64 e.p.y, .int .i64 e.low, .int .i64 e.high], .agg #[.int .i64 f.p.id, .int .i64 f.p.x, .int .i64 f.p.y, .int .i64 f.low, .int .i64 f.high]] L fun v L' => v = .bool (decide (e.p.y < f.p.y)) ∧ L' = L := by
  refine Ctr_of (fn := Tryz.f133) (n := 12) Tryz.func133 rfl rfl rfl ?_
  intro g F
  refine G_seq ?_
  refine GN ?_
  refine G_region ?_
  refine GE (eff_box rfl) ?_; rintro _ _ ⟨b2, rfl, rfl⟩
  refine GE (eff_box rfl) ?_; rintro _ _ ⟨b3, rfl, rfl⟩
  refine GQ (ev_assign rfl) ?_
  refine GO_nil ?_
  refine G_seq ?_
  refine GN ?_
  refine G_region ?_
  refine GQ (ev_fieldAddr rfl) ?_
  refine GQ (ev_fieldAddr rfl) ?_
  refine GQ (ev_load rfl LdA) ?_
  refine GQ (ev_fieldAddr rfl) ?_
  refine GQ (ev_fieldAddr rfl) ?_
  refine GQ (ev_load rfl LdA) ?_
  (first | refine GQ (ev_lssN rfl rfl) ?_ | refine GQ (ev_lss rfl rfl) ?_)
  refine GQ (ev_assign rfl) ?_
  refine GO_nil ?_
  refine G_ret rfl (.tmp rfl .nil) EnA ⟨rfl, rfl⟩
/-- Search by halves. -/
theorem seek_ctr (A : Option Addr) (n c F1 m : Nat) (es : List Ent) (caps : List Value) (f : Nat → Bool) (L : List HP) [CalT Tryz.prog F1] (hr : Rd L A n es) (hc : n ≤ c) (hc2 : c ≤ maxLen)
    (hf : ∀ k e, es[k]? = some e → Ctr Tryz.prog F1 (Value.agg #[.int .i64 e.p.id, .int .i64 e.p.x, .int .i64 e.p.y, .int .i64 e.low, .int .i64 e.high] :: caps).toArray L fun v L' => v = .bool (f k) ∧ L' = L)
    (hm : m ≤ n) (hmono : ∀ k, k < n → f k = decide (m ≤ k)) :
    Ctr Tryz.prog 156 #[.slice A n c, .func (.func F1) #[] caps.toArray] L fun v L' => v = .int .i64 m ∧ L' = L := by
  unfold maxLen at hc2
  have hlen : es.length = n := hr.len (by decide)
  refine Ctr_of (fn := Tryz.f156) (n := 29) Tryz.func156 rfl rfl rfl ?_
  intro g F
  refine G_seq ?_
  refine GN ?_
  refine G_region ?_
  refine GQ (ev_assign rfl) ?_
  refine GO_nil ?_
  refine G_seq ?_
  refine GN ?_
  refine G_region ?_
  refine GQ (ev_move rfl) ?_
  refine GQ (ev_len rfl) ?_
  refine GQ (ev_assign rfl) ?_
  refine GQ (ev_assign rfl) ?_
  refine GO_nil ?_
  refine G_seq ?_
  refine G_block ?_
  refine G_loop (ι := Nat × Nat) (fun x => [(0, .slice A n c), (1, .func (.func F1) #[] caps.toArray), (5, .int .i64 (x.1 : Nat)), (6, .int .i64 (x.2 : Nat))]) (fun _ => F :: L) (fun x => x.1 ≤ m ∧ m ≤ x.2 ∧ x.2 ≤ n) (fun x => x.2 - x.1) (0, n) ⟨Nat.zero_le _, hm, Nat.le_refl _⟩ ⟨rfl, rfl, rfl, rfl, trivial⟩ EnA ?_
  rintro ⟨a, b⟩ ⟨h1, h2, h3⟩
  simp only at h1 h2 h3
  refine G_seq ?_
  refine G_seq ?_
  refine GN ?_
  refine G_region ?_
  refine GQ (ev_move rfl) ?_
  refine GQ (ev_move rfl) ?_
  (first | refine GQ (ev_lssN rfl rfl) ?_ | refine GQ (ev_lss rfl rfl) ?_)
  refine GO_nil ?_
  refine G_cond rfl (fun h4 => ?_) (fun h4 => ?_)
  · obtain ⟨bb, o, rfl, hx⟩ := hr.at_ (by omega)
    have hk : a + (b - a) / 2 < es.length := by omega
    have hg : es[a + (b - a) / 2]? = some es[a + (b - a) / 2] := List.getElem?_eq_getElem hk
    have h5 := hx _ _ hg
    have h6 := hf _ _ hg
    have h7 := hmono (a + (b - a) / 2) (by omega)
    generalize es[a + (b - a) / 2] = e at *
    refine G_skip ?_
    refine G_block ?_
    refine G_seq ?_
    refine GN ?_
    refine G_region ?_
    refine GQ (ev_move rfl) ?_
    refine GQ (ev_move rfl) ?_
    refine GQ (ev_move rfl) ?_
    (first | refine GQ (ev_subN rfl rfl NgA) ?_ | refine GQ (ev_sub rfl rfl NgA) ?_)
    (first | refine GQ (ev_quoN (q := 2) rfl rfl NgA NgA) ?_ | refine GQ (ev_quo rfl rfl NgA NgA NgA) ?_)
    (first | refine GQ (ev_addN rfl rfl NgA) ?_ | refine GQ (ev_add rfl rfl NgA) ?_)
    refine GQ (ev_assign rfl) ?_
    refine GO_nil ?_
    refine G_seq ?_
    refine GN ?_
    refine G_region ?_
    refine GQ (ev_move rfl) ?_
    refine GQ (ev_move rfl) ?_
    refine GQ (ev_move rfl) ?_
    (first | refine GQ (ev_indexAddrN rfl rfl NgA) ?_ | refine GQ (ev_indexAddr rfl rfl NgA NgA) ?_)
    refine GQ (ev_loadN rfl LnA) ?_
    refine GE (eff_callv rfl rfl (Ctr.frame [F] h6 (fun _ s => s))) ?_; rintro _ _ ⟨L1, ⟨rfl, rfl⟩, rfl⟩
    refine GO_nil ?_
    refine G_condB rfl (fun h8 => ?_) (fun h8 => ?_)
    · rw [h7] at h8
      simp at h8
      refine GN ?_
      refine G_region ?_
      refine GQ (ev_move rfl) ?_
      refine GQ (ev_assign rfl) ?_
      refine GO_nil ?_
      refine G_endblk ?_
      exact G_round (a, a + (b - a) / 2) ⟨h1, h8, by omega⟩ (by simp only; omega) ⟨rfl, rfl, rfl, rfl, trivial⟩ EnA
    · rw [h7] at h8
      simp at h8
      refine GN ?_
      refine G_region ?_
      refine GQ (ev_move rfl) ?_
      (first | refine GQ (ev_addN (q := 1) rfl rfl NgA) ?_ | refine GQ (ev_add rfl rfl NgA) ?_)
      refine GQ (ev_assign rfl) ?_
      refine GO_nil ?_
      refine G_endblk ?_
      exact G_round (a + (b - a) / 2 + 1, b) ⟨by simp only; omega, h2, h3⟩ (by simp only; omega) ⟨rfl, rfl, rfl, rfl, trivial⟩ EnA
  · have e1 : a = m := by omega
    subst e1
    refine G_exit rfl ?_
    refine G_seq ?_
    refine GN ?_
    refine G_region ?_
    refine GQ (ev_move rfl) ?_
    refine GQ (ev_assign rfl) ?_
    refine GO_nil ?_
    refine G_ret rfl (.tmp rfl .nil) EnA ⟨rfl, rfl⟩
end Go.Proofs.YtkoncepjfgnjlaaGreat
/- Arrays that lead into one another: what is found. -/
namespace Go.Proofs.YtkoncepjfgnjlaaGreat
attribute [local irreducible] sat
set_option linter.unusedVariables false
set_option linter.unusedSimpArgs false
set_option maxRecDepth 100000

theorem first1_ctr (e f : Ent) (b1 b2 : Nat) (L : List HP) (h1 : Ld L ⟨b1, 0, none⟩ (.func (.func 133) #[] #[])) (h2 : LdN L b2 0 5 (Enc.enc f)) :
    Ctr Tryz.prog 157 #[.agg #[.int .i64 e.p.id, .int .i64 e.p.x, .int .i64 e.p.y, .int .i64 e.low, .int .i64 e.high], .pointer (some ⟨b1, 0, none⟩), .pointer (some ⟨b2, 0, none⟩)] L fun v L' => v = .bool (!decide (e.p.y < f.p.y)) ∧ L' = L := by
  refine Ctr_of (fn := Tryz.f157) (n := 10) Tryz.func157 rfl rfl rfl ?_
  intro g F
  refine GN ?_
  refine G_region ?_
  refine GE (eff_box rfl) ?_; rintro _ _ ⟨b3, rfl, rfl⟩
  refine GQ (ev_assign rfl) ?_
  refine GO_nil ?_
  refine GN ?_
  refine G_region ?_
  refine GQ (ev_load rfl LdA) ?_
  refine GQ (ev_loadN rfl LnA) ?_
  refine GQ (ev_loadN rfl LnA) ?_
  refine GE (eff_callv rfl rfl (lower_ctr e f _)) ?_; rintro _ _ ⟨rfl, rfl⟩
  refine GQ (ev_not rfl) ?_
  refine GQ (ev_assign rfl) ?_
  refine GO_nil ?_
  refine GN ?_
  refine G_ret rfl (.tmp rfl .nil) EnA ⟨rfl, rfl⟩
theorem behind1_ctr (e f : Ent) (b1 b2 : Nat) (L : List HP) (h1 : Ld L ⟨b1, 0, none⟩ (.func (.func 133) #[] #[])) (h2 : LdN L b2 0 5 (Enc.enc f)) :
    Ctr Tryz.prog 158 #[.agg #[.int .i64 e.p.id, .int .i64 e.p.x, .int .i64 e.p.y, .int .i64 e.low, .int .i64 e.high], .pointer (some ⟨b1, 0, none⟩), .pointer (some ⟨b2, 0, none⟩)] L fun v L' => v = .bool (decide (f.p.y < e.p.y)) ∧ L' = L := by
  refine Ctr_of (fn := Tryz.f158) (n := 9) Tryz.func158 rfl rfl rfl ?_
  intro g F
  refine GN ?_
  refine G_region ?_
  refine GE (eff_box rfl) ?_; rintro _ _ ⟨b3, rfl, rfl⟩
  refine GQ (ev_assign rfl) ?_
  refine GO_nil ?_
  refine GN ?_
  refine G_region ?_
  refine GQ (ev_load rfl LdA) ?_
  refine GQ (ev_loadN rfl LnA) ?_
  refine GQ (ev_loadN rfl LnA) ?_
  refine GE (eff_callv rfl rfl (lower_ctr f e _)) ?_; rintro _ _ ⟨rfl, rfl⟩
  refine GQ (ev_assign rfl) ?_
  refine GO_nil ?_
  refine GN ?_
  refine G_ret rfl (.tmp rfl .nil) EnA ⟨rfl, rfl⟩
theorem first_ctr (A : Option Addr) (n c m : Nat) (es : List Ent) (f : Ent) (L : List HP) (hr : Rd L A n es) (hc : n ≤ c) (hc2 : c ≤ maxLen) (hm : m ≤ n) (hmono : ∀ k e, es[k]? = some e → (decide (e.p.y < f.p.y) = decide (k < m))) :
    Ctr Tryz.prog 148 #[.slice A n c, .agg #[.int .i64 f.p.id, .int .i64 f.p.x, .int .i64 f.p.y, .int .i64 f.low, .int .i64 f.high], .func (.func 133) #[] #[]] L fun v L' => v = .int .i64 m ∧ L' = L := by
  have hlen : es.length = n := hr.len (by decide)
  refine Ctr_of (fn := Tryz.f148) (n := 10) Tryz.func148 rfl rfl rfl ?_
  intro g F
  refine GN ?_
  refine G_region ?_
  refine GE (eff_box rfl) ?_; rintro _ _ ⟨b4, rfl, rfl⟩
  refine GE (eff_box rfl) ?_; rintro _ _ ⟨b5, rfl, rfl⟩
  refine GQ (ev_assign rfl) ?_
  refine GO_nil ?_
  refine GN ?_
  refine G_region ?_
  refine GQ (ev_move rfl) ?_
  refine GQ (ev_makeFunc rfl rfl) ?_
  refine GE (eff_call rfl (seek_ctr A n c 157 m es [.pointer (some ⟨b5, 0, none⟩), .pointer (some ⟨b4, 0, none⟩)] (fun k => !decide (k < m)) _ hr.skip.skip.skip hc hc2 (fun k e hk => (first1_ctr e f b5 b4 _ LdA LnA).mono (fun v L' h => by rw [hmono k e hk] at h; exact h)) hm (fun k hk => by by_cases h : k < m <;> simp [h] <;> omega))) ?_; rintro _ _ ⟨rfl, rfl⟩
  refine GQ (ev_assign rfl) ?_
  refine GO_nil ?_
  refine GN ?_
  refine G_ret rfl (.tmp rfl .nil) EnA ⟨rfl, rfl⟩
theorem behind_ctr (A : Option Addr) (n c m : Nat) (es : List Ent) (f : Ent) (L : List HP) (hr : Rd L A n es) (hc : n ≤ c) (hc2 : c ≤ maxLen) (hm : m ≤ n) (hmono : ∀ k e, es[k]? = some e → (decide (f.p.y < e.p.y) = decide (m ≤ k))) :
    Ctr Tryz.prog 149 #[.slice A n c, .agg #[.int .i64 f.p.id, .int .i64 f.p.x, .int .i64 f.p.y, .int .i64 f.low, .int .i64 f.high], .func (.func 133) #[] #[]] L fun v L' => v = .int .i64 m ∧ L' = L := by
  have hlen : es.length = n := hr.len (by decide)
  refine Ctr_of (fn := Tryz.f149) (n := 10) Tryz.func149 rfl rfl rfl ?_
  intro g F
  refine GN ?_
  refine G_region ?_
  refine GE (eff_box rfl) ?_; rintro _ _ ⟨b4, rfl, rfl⟩
  refine GE (eff_box rfl) ?_; rintro _ _ ⟨b5, rfl, rfl⟩
  refine GQ (ev_assign rfl) ?_
  refine GO_nil ?_
  refine GN ?_
  refine G_region ?_
  refine GQ (ev_move rfl) ?_
  refine GQ (ev_makeFunc rfl rfl) ?_
  refine GE (eff_call rfl (seek_ctr A n c 158 m es [.pointer (some ⟨b5, 0, none⟩), .pointer (some ⟨b4, 0, none⟩)] (fun k => decide (m ≤ k)) _ hr.skip.skip.skip hc hc2 (fun k e hk => (behind1_ctr e f b5 b4 _ LdA LnA).mono (fun v L' h => by rw [hmono k e hk] at h; exact h)) hm (fun k hk => rfl))) ?_; rintro _ _ ⟨rfl, rfl⟩
  refine GQ (ev_assign rfl) ?_
  refine GO_nil ?_
  refine GN ?_
  refine G_ret rfl (.tmp rfl .nil) EnA ⟨rfl, rfl⟩
theorem First_ctr (A : Option Addr) (n c m : Nat) (es : List Ent) (f : Ent) (L : List HP) (hr : Rd L A n es) (hc : n ≤ c) (hc2 : c ≤ maxLen) (hm : m ≤ n) (hmono : ∀ k e, es[k]? = some e → (decide (e.p.y < f.p.y) = decide (k < m))) :
    Ctr Tryz.prog 131 #[.slice A n c, .agg #[.int .i64 f.p.id, .int .i64 f.p.x, .int .i64 f.p.y, .int .i64 f.low, .int .i64 f.high], .func (.func 133) #[] #[]] L fun v L' => v = .int .i64 m ∧ L' = L := by
  refine Ctr_of (fn := Tryz.f131) (n := 11) Tryz.func131 rfl rfl rfl ?_
  intro g F
  refine GN ?_
  refine G_region ?_
  refine GE (eff_box rfl) ?_; rintro _ _ ⟨b4, rfl, rfl⟩
  refine GQ (ev_assign rfl) ?_
  refine GO_nil ?_
  refine GN ?_
  refine G_region ?_
  refine GQ (ev_move rfl) ?_
  refine GQ (ev_loadN rfl LnA) ?_
  refine GQ (ev_move rfl) ?_
  refine GE (eff_call rfl (first_ctr A n c m es f _ hr.skip.skip hc hc2 hm hmono)) ?_; rintro _ _ ⟨rfl, rfl⟩
  refine GQ (ev_assign rfl) ?_
  refine GO_nil ?_
  refine GN ?_
  refine G_ret rfl (.tmp rfl .nil) EnA ⟨rfl, rfl⟩
theorem Behind_ctr (A : Option Addr) (n c m : Nat) (es : List Ent) (f : Ent) (L : List HP) (hr : Rd L A n es) (hc : n ≤ c) (hc2 : c ≤ maxLen) (hm : m ≤ n) (hmono : ∀ k e, es[k]? = some e → (decide (f.p.y < e.p.y) = decide (m ≤ k))) :
    Ctr Tryz.prog 134 #[.slice A n c, .agg #[.int .i64 f.p.id, .int .i64 f.p.x, .int .i64 f.p.y, .int .i64 f.low, .int .i64 f.high], .func (.func 133) #[] #[]] L fun v L' => v = .int .i64 m ∧ L' = L := by
  refine Ctr_of (fn := Tryz.f134) (n := 11) Tryz.func134 rfl rfl rfl ?_
  intro g F
  refine GN ?_
  refine G_region ?_
  refine GE (eff_box rfl) ?_; rintro _ _ ⟨b4, rfl, rfl⟩
  refine GQ (ev_assign rfl) ?_
  refine GO_nil ?_
  refine GN ?_
  refine G_region ?_
  refine GQ (ev_move rfl) ?_
  refine GQ (ev_loadN rfl LnA) ?_
  refine GQ (ev_move rfl) ?_
  refine GE (eff_call rfl (behind_ctr A n c m es f _ hr.skip.skip hc hc2 hm hmono)) ?_; rintro _ _ ⟨rfl, rfl⟩
  refine GQ (ev_assign rfl) ?_
  refine GO_nil ?_
  refine GN ?_
  refine G_ret rfl (.tmp rfl .nil) EnA ⟨rfl, rfl⟩
def belowF (y : Int) (p : Pt) : Bool := decide (p.y < y)
def upToF (y : Int) (p : Pt) : Bool := decide (p.y ≤ y)
theorem belowF_falls (y : Int) : Falls (belowF y) := fun p q h hq => by simp [belowF] at *; omega
theorem upToF_falls (y : Int) : Falls (upToF y) := fun p q h hq => by simp [upToF] at *; omega
theorem Place_ctr (p : Option Addr) (t : Arr) (y : Int) (L : List HP) (h : ArrIn L p t) (ho : Ord t.pts) :
    Ctr Tryz.prog 107 #[.pointer p, .int .i64 y] L fun v L' => v = .int .i64 (t.pts.countP (belowF y) : Nat) ∧ L' = L := by
  have hle : t.pts.countP (belowF y) ≤ t.es.length := by have := List.countP_le_length (p := belowF y) (l := t.pts); rwa [Arr.pts, List.length_map] at this
  refine Ctr_of (fn := Tryz.f107) (n := 11) Tryz.func107 rfl rfl rfl ?_
  intro g F
  refine GN ?_
  refine G_region ?_
  refine GQ (ev_assign rfl) ?_
  refine GO_nil ?_
  refine GN ?_
  refine G_region ?_
  refine GQ (ev_move rfl) ?_
  refine GE (eff_call rfl (entries_ctr p t _ (by repeat' first | assumption | apply ArrIn.skip))) ?_; rintro _ _ ⟨⟨A, c, rfl, hr, hc, hc2⟩, rfl⟩
  refine GQ (ev_move rfl) ?_
  refine GQ (ev_build rfl rfl) ?_
  refine GQ (ev_build rfl rfl) ?_
  refine GE (eff_call rfl (First_ctr A t.es.length c (t.pts.countP (belowF y)) t.es ⟨⟨0, 0, y⟩, 0, 0⟩ _ hr hc hc2 hle (fun k e hk => by have := ord_first (belowF_falls y) t.pts ho k e.p (by simp [Arr.pts, hk]); by_cases h9 : k < t.pts.countP (belowF y) <;> simp [belowF, h9] at this ⊢ <;> simp [this]))) ?_; rintro _ _ ⟨rfl, rfl⟩
  refine GQ (ev_assign rfl) ?_
  refine GO_nil ?_
  refine GN ?_
  refine G_ret rfl (.tmp rfl .nil) EnA ⟨rfl, rfl⟩
theorem Past_ctr (p : Option Addr) (t : Arr) (y : Int) (L : List HP) (h : ArrIn L p t) (ho : Ord t.pts) :
    Ctr Tryz.prog 108 #[.pointer p, .int .i64 y] L fun v L' => v = .int .i64 (t.pts.countP (upToF y) : Nat) ∧ L' = L := by
  have hle : t.pts.countP (upToF y) ≤ t.es.length := by have := List.countP_le_length (p := upToF y) (l := t.pts); rwa [Arr.pts, List.length_map] at this
  refine Ctr_of (fn := Tryz.f108) (n := 11) Tryz.func108 rfl rfl rfl ?_
  intro g F
  refine GN ?_
  refine G_region ?_
  refine GQ (ev_assign rfl) ?_
  refine GO_nil ?_
  refine GN ?_
  refine G_region ?_
  refine GQ (ev_move rfl) ?_
  refine GE (eff_call rfl (entries_ctr p t _ (by repeat' first | assumption | apply ArrIn.skip))) ?_; rintro _ _ ⟨⟨A, c, rfl, hr, hc, hc2⟩, rfl⟩
  refine GQ (ev_move rfl) ?_
  refine GQ (ev_build rfl rfl) ?_
  refine GQ (ev_build rfl rfl) ?_
  refine GE (eff_call rfl (Behind_ctr A t.es.length c (t.pts.countP (upToF y)) t.es ⟨⟨0, 0, y⟩, 0, 0⟩ _ hr hc hc2 hle (fun k e hk => by have := ord_first (upToF_falls y) t.pts ho k e.p (by simp [Arr.pts, hk]); by_cases h9 : k < t.pts.countP (upToF y) <;> simp [upToF, h9] at this ⊢ <;> omega))) ?_; rintro _ _ ⟨rfl, rfl⟩
  refine GQ (ev_assign rfl) ?_
  refine GO_nil ?_
  refine GN ?_
  refine G_ret rfl (.tmp rfl .nil) EnA ⟨rfl, rfl⟩
end Go.Proofs.YtkoncepjfgnjlaaGreat
