/- Trees that are heaps by Y: looking at nodes, as the law does. -/
import Derived.Test.YtalcanejhniepaaPost
import Derived.Test.YtalcanejhniepaaUp
import Derived.Test.YtalcanejhniepaaBack
namespace Go.Proofs.Ytalcanejhniepaa
attribute [local irreducible] sat
set_option linter.unusedVariables false
set_option linter.unusedSimpArgs false
set_option maxRecDepth 100000

theorem Look_ctr (x : PA) (w : Wn) (L : List HP) (h : PIn L x) : Ctr Try.prog 40 #[.pointer x.addr, .agg #[.int .i64 w.x1, .int .i64 w.x2, .int .i64 w.y]] L fun v L' => LookR (x.hit w) (x.next w) L v L' := by
  refine Ctr_of (fn := Try.f40) (n := 11) Try.func40 rfl rfl rfl ?_
  intro g F
  (repeat first | refine G_seq ?_ | refine G_skip ?_ | refine G_endblk ?_ | refine G_block ?_ | refine G_exit rfl ?_)
  refine G_region ?_
  refine GO_eff rfl rfl (eff_box rfl) ?_; rintro _ _ ⟨b3, rfl, rfl⟩
  refine GO_q rfl rfl (ev_assign rfl) ?_
  refine GO_q rfl rfl (ev_assign rfl) ?_
  refine GO_nil ?_
  (repeat first | refine G_seq ?_ | refine G_skip ?_ | refine G_endblk ?_ | refine G_block ?_ | refine G_exit rfl ?_)
  refine G_region ?_
  refine GO_q rfl rfl (ev_move rfl) ?_
  refine GO_q rfl rfl (ev_loadN rfl (by repeat' first | exact LdN.blk rfl | assumption | apply LdN.skip | apply LdN.app)) ?_
  refine GO_eff rfl rfl (eff_call rfl (look_ctr x w _ h.skip.skip)) ?_; rintro _ _ ⟨A8, c8, rfl, hA8, rfl⟩
  refine GO_q rfl rfl (ev_extract rfl rfl) ?_
  refine GO_q rfl rfl (ev_extract rfl rfl) ?_
  refine GO_q rfl rfl (ev_assign rfl) ?_
  refine GO_q rfl rfl (ev_assign rfl) ?_
  refine GO_nil ?_
  (repeat first | refine G_seq ?_ | refine G_skip ?_ | refine G_endblk ?_ | refine G_block ?_ | refine G_exit rfl ?_)
  exact G_ret (L' := own 67 1 A8 (x.next w).length c8 (flat (addrs (x.next w))) :: L) rfl (.tmp rfl (.tmp rfl .nil)) (by (repeat first | exact en_refl | (apply en_blk; focus ((repeat' first | exact Pick.here | apply Pick.skip | apply Pick.app); done); focus rfl) | (apply en_own; focus ((repeat' first | exact Pick.here | apply Pick.skip | apply Pick.app); done); focus rfl) | (apply en_pick; focus ((repeat' first | exact Pick.here | apply Pick.skip | apply Pick.app); done)) | apply en_drop | apply en_app) <;> fail) ⟨A8, c8, rfl, hA8, rfl⟩
def PA.pt : PA → Pt
  | .nil => ⟨0, 0, 0⟩
  | .node _ p _ _ _ => p
theorem NPoint_ctr (x : PA) (L : List HP) (h : PIn L x) : Ctr Try.prog 41 #[.pointer x.addr] L fun v L' => v = x.pt.v ∧ L' = L := by
  cases x with
  | nil =>
    refine Ctr_of (fn := Try.f41) (n := 10) Try.func41 rfl rfl rfl ?_
    intro g F
    (repeat first | refine G_seq ?_ | refine G_skip ?_ | refine G_endblk ?_ | refine G_block ?_ | refine G_exit rfl ?_)
    refine G_region ?_
    refine GO_eff rfl rfl eff_alloc ?_; rintro _ _ ⟨b2, rfl, rfl⟩
    refine GO_nil ?_
    (repeat first | refine G_seq ?_ | refine G_skip ?_ | refine G_endblk ?_ | refine G_block ?_ | refine G_exit rfl ?_)
    refine G_region ?_
    refine GO_q rfl rfl (ev_move rfl) ?_
    (first | refine GO_q rfl rfl (ev_eqlNil rfl rfl) ?_ | refine GO_q rfl rfl (ev_eqlPtr rfl rfl) ?_)
    refine GO_nil ?_
    (repeat first | refine G_seq ?_ | refine G_skip ?_ | refine G_endblk ?_ | refine G_block ?_ | refine G_exit rfl ?_)
    refine G_cond_t rfl rfl ?_
    (repeat first | refine G_seq ?_ | refine G_skip ?_ | refine G_endblk ?_ | refine G_block ?_ | refine G_exit rfl ?_)
    refine G_region ?_
    refine GO_q rfl rfl (ev_build rfl rfl) ?_
    refine GO_eff rfl rfl (eff_storeN rfl rfl rfl rfl (by repeat' first | exact Upd.here rfl | apply Upd.skip | apply Upd.app)) ?_; rintro _ _ ⟨rfl, rfl⟩
    refine GO_nil ?_
    (repeat first | refine G_seq ?_ | refine G_skip ?_ | refine G_endblk ?_ | refine G_block ?_ | refine G_exit rfl ?_)
    refine G_ret rfl (.cell rfl (loadN_run (by repeat' first | exact LdN.blk rfl | assumption | apply LdN.skip | apply LdN.app)) .nil) (by (repeat first | exact fun _ s => s | apply en_keep | apply en_drop | apply en_app) <;> fail) ⟨rfl, rfl⟩
  | node b p s lo hi =>
    obtain ⟨q1, q2, q3, q4, q5, q6, q7, q8, q9⟩ := h.f
    refine Ctr_of (fn := Try.f41) (n := 10) Try.func41 rfl rfl rfl ?_
    intro g F
    (repeat first | refine G_seq ?_ | refine G_skip ?_ | refine G_endblk ?_ | refine G_block ?_ | refine G_exit rfl ?_)
    refine G_region ?_
    refine GO_eff rfl rfl eff_alloc ?_; rintro _ _ ⟨b2, rfl, rfl⟩
    refine GO_nil ?_
    (repeat first | refine G_seq ?_ | refine G_skip ?_ | refine G_endblk ?_ | refine G_block ?_ | refine G_exit rfl ?_)
    refine G_region ?_
    refine GO_q rfl rfl (ev_move rfl) ?_
    (first | refine GO_q rfl rfl (ev_eqlNil rfl rfl) ?_ | refine GO_q rfl rfl (ev_eqlPtr rfl rfl) ?_)
    refine GO_nil ?_
    (repeat first | refine G_seq ?_ | refine G_skip ?_ | refine G_endblk ?_ | refine G_block ?_ | refine G_exit rfl ?_)
    refine G_cond_f rfl rfl ?_
    (repeat first | refine G_seq ?_ | refine G_skip ?_ | refine G_endblk ?_ | refine G_block ?_ | refine G_exit rfl ?_)
    refine G_region ?_
    refine GO_q rfl rfl (ev_move rfl) ?_
    (first | refine GO_q rfl rfl (ev_nilCheck rfl) ?_ | refine GO_q rfl rfl (ev_nilCheckF (by simp) rfl) ?_)
    refine GO_q rfl rfl (ev_fieldAddr rfl) ?_
    refine GO_q rfl rfl (ev_loadN rfl (by repeat' first | exact LdN.blk rfl | assumption | apply LdN.skip | apply LdN.app)) ?_
    refine GO_eff rfl rfl (eff_storeN rfl rfl rfl rfl (by repeat' first | exact Upd.here rfl | apply Upd.skip | apply Upd.app)) ?_; rintro _ _ ⟨rfl, rfl⟩
    refine GO_nil ?_
    (repeat first | refine G_seq ?_ | refine G_skip ?_ | refine G_endblk ?_ | refine G_block ?_ | refine G_exit rfl ?_)
    refine G_ret rfl (.cell rfl (loadN_run (by repeat' first | exact LdN.blk rfl | assumption | apply LdN.skip | apply LdN.app)) .nil) (by (repeat first | exact fun _ s => s | apply en_keep | apply en_drop | apply en_app) <;> fail) ⟨rfl, rfl⟩
/-- At how many nodes one looks. -/
def PA.cnt (w : Wn) : PA → Nat
  | .nil => 1
  | .node _ p s lo hi => 1 + if p.y < w.y then 0 else (if !lo.isN && decide (w.x1 ≤ s.x) then lo.cnt w else 0) + (if !hi.isN && decide (s.x ≤ w.x2) then hi.cnt w else 0)
def cntL (w : Wn) (l : List PA) : Nat := (l.map (PA.cnt w)).sum
theorem cntL_app (w : Wn) (l m : List PA) : cntL w (l ++ m) = cntL w l + cntL w m := by simp [cntL]
theorem PA.cnt_eq (w : Wn) (x : PA) : x.cnt w = 1 + cntL w (x.next w) := by
  cases x with
  | nil => rfl
  | node b p s lo hi =>
    unfold PA.cnt PA.next
    rw [cntL_app]
    simp only [PA.next1, PA.next2]
    by_cases h : p.y < w.y
    · simp [h, cntL]
    · rw [if_neg h, if_neg h, if_neg h]
      congr 2 <;> split <;> simp [cntL]
theorem PA.cnt_size (w : Wn) : ∀ x : PA, x.isN = false → x.cnt w ≤ x.t.size
  | .nil, h => by cases h
  | .node b p s lo hi, _ => by
    have h1 := PA.cnt_size w lo
    have h2 := PA.cnt_size w hi
    simp only [PA.cnt, PA.t, PT.size]
    split
    · omega
    · have e1 : (if !lo.isN && decide (w.x1 ≤ s.x) then lo.cnt w else 0) ≤ lo.t.size := by
        cases hn : lo.isN with
        | true => simp
        | false => have := h1 hn; split <;> omega
      have e2 : (if !hi.isN && decide (s.x ≤ w.x2) then hi.cnt w else 0) ≤ hi.t.size := by
        cases hn : hi.isN with
        | true => simp
        | false => have := h2 hn; split <;> omega
      omega
theorem seenL_cons (w : Wn) (x : PA) (l : List PA) : seenL w (x :: l) = x.seen w ++ seenL w l := by simp [seenL]
theorem seenL_app (w : Wn) (l m : List PA) : seenL w (l ++ m) = seenL w l ++ seenL w m := by simp [seenL]
structure Kid (x y : PA) : Prop where
  nn : y.isN = false
  ok : x.t.Ok → y.t.Ok
  lt : y.t.size < x.t.size
  dp : y.t.depth + 1 ≤ x.t.depth
  un : x.t.Ok → und y.pt x.pt = true
theorem next_kid (w : Wn) (x : PA) : ∀ y ∈ x.next w, Kid x y := by
  cases x with
  | nil => intro y hy; cases hy
  | node b p s lo hi =>
    intro y hy
    simp only [PA.next, PA.next1, PA.next2, List.mem_append] at hy
    by_cases h : p.y < w.y
    · simp [h] at hy
    · rw [if_neg h, if_neg h] at hy
      rcases hy with hy | hy
      · split at hy
        · rename_i hc
          rw [List.mem_singleton] at hy
          subst hy
          cases y with
          | nil => simp [PA.isN] at hc
          | node b' p' s' lo' hi' =>
            exact ⟨rfl, fun o => o.1, by simp only [PA.t, PT.size]; omega, by simp only [PA.t, PT.depth]; omega, fun o => o.2.2.2.2 p' (List.mem_append.2 (.inl (List.mem_cons_self ..)))⟩
        · cases hy
      · split at hy
        · rename_i hc
          rw [List.mem_singleton] at hy
          subst hy
          cases y with
          | nil => simp [PA.isN] at hc
          | node b' p' s' lo' hi' =>
            exact ⟨rfl, fun o => o.2.1, by simp only [PA.t, PT.size]; omega, by simp only [PA.t, PT.depth]; omega, fun o => o.2.2.2.2 p' (List.mem_append.2 (.inr (List.mem_cons_self ..)))⟩
        · cases hy
theorem next_len (w : Wn) (x : PA) : (x.next w).length ≤ 2 := by
  cases x with
  | nil => simp [PA.next, PA.next1, PA.next2]
  | node b p s lo hi =>
    simp only [PA.next, PA.next1, PA.next2, List.length_append]
    repeat' split
    all_goals simp
def LooksR (l : List Int) (k : Nat) (L : List HP) (v : Value) (L' : List HP) : Prop := ∃ A c, v = .tuple #[.slice A l.length c, .int .i64 (k : Nat), .bool true] ∧ (0 < l.length → ∃ b, A = some ⟨b, 0, none⟩) ∧ L' = own 3 1 A l.length c (flat l) :: L
theorem RLooks_ctr : ∀ (N : Nat) (x : PA) (w : Wn) (deep : Nat) (A : Option Addr) (c : Nat) (out : List Int) (L : List HP), x.t.size = N → x.isN = false → PIn L x → x.t.Ok → deep + x.t.depth ≤ 81 → out.length + (x.seen w).length ≤ 1000 → x.t.size ≤ 1000 → (0 < out.length → ∃ b, A = some ⟨b, 0, none⟩) →
    Ctr Try.prog 35 #[.pointer x.addr, .agg #[.int .i64 w.x1, .int .i64 w.x2, .int .i64 w.y], .int .i64 (deep : Nat), .slice A out.length c] (own 3 1 A out.length c (flat out) :: L) fun v L' => LooksR (out ++ x.seen w) (x.cnt w) L v L' := by
  intro N
  induction N using Nat.strongRecOn with
  | _ N ih =>
    intro x w deep A c out L hN hnn hin hok hdeep hout hsize hA
    cases x with
    | nil => cases hnn
    | node b p s lo hi =>
      have hd1 : 1 ≤ (PA.node b p s lo hi).t.depth := by simp only [PA.t, PT.depth]; omega
      have hkid := next_kid w (PA.node b p s lo hi)
      have hinn := next_in w hin
      have hcnt := PA.cnt_eq w (PA.node b p s lo hi)
      have hcs := PA.cnt_size w (PA.node b p s lo hi) rfl
      have hse := (PA.node b p s lo hi).seen_eq w
      have hsl := (PA.node b p s lo hi).seen_len w
      have hnl := next_len w (PA.node b p s lo hi)
      have hhit : (PA.node b p s lo hi).hit w = w.sees p.x p.y := rfl
      have hxin := hin
      generalize hx : PA.node b p s lo hi = x at *
      have hpt : x.pt = p := by subst hx; rfl
      have hid : x.id = p.id := by subst hx; rfl
      refine Ctr_of (fn := Try.f35) (n := 108) Try.func35 rfl rfl rfl ?_
      intro g F
      (repeat first | refine G_seq ?_ | refine G_skip ?_ | refine G_endblk ?_ | refine G_block ?_ | refine G_exit rfl ?_)
      refine G_region ?_
      refine GO_eff rfl rfl (eff_box rfl) ?_; rintro _ _ ⟨b5, rfl, rfl⟩
      refine GO_q rfl rfl (ev_assign rfl) ?_
      refine GO_q rfl rfl (ev_assign rfl) ?_
      refine GO_q rfl rfl (ev_assign rfl) ?_
      refine GO_nil ?_
      (repeat first | refine G_seq ?_ | refine G_skip ?_ | refine G_endblk ?_ | refine G_block ?_ | refine G_exit rfl ?_)
      refine G_region ?_
      refine GO_q rfl rfl (ev_move rfl) ?_
      refine GO_q rfl rfl (ev_gtr rfl rfl) ?_
      refine GO_nil ?_
      (repeat first | refine G_seq ?_ | refine G_skip ?_ | refine G_endblk ?_ | refine G_block ?_ | refine G_exit rfl ?_)
      refine G_cond_f rfl (decide_eq_false (by omega)) ?_
      (repeat first | refine G_seq ?_ | refine G_skip ?_ | refine G_endblk ?_ | refine G_block ?_ | refine G_exit rfl ?_)
      refine G_region ?_
      refine GO_q rfl rfl (ev_move rfl) ?_
      refine GO_q rfl rfl (ev_loadN rfl (by repeat' first | exact LdN.blk rfl | assumption | apply LdN.skip | apply LdN.app)) ?_
      refine GO_eff rfl rfl (eff_call rfl (Look_ctr x w _ hin.skip.skip.skip)) ?_; rintro _ _ ⟨A25, c25, rfl, hA25, rfl⟩
      refine GO_q rfl rfl (ev_move rfl) ?_
      refine GO_q rfl rfl (ev_extract rfl rfl) ?_
      refine GO_q rfl rfl (ev_extract rfl rfl) ?_
      refine GO_q rfl rfl (ev_assign rfl) ?_
      refine GO_q rfl rfl (ev_assign rfl) ?_
      refine GO_nil ?_
      (repeat first | refine G_seq ?_ | refine G_skip ?_ | refine G_endblk ?_ | refine G_block ?_ | refine G_exit rfl ?_)
      refine G_region ?_
      refine GO_q rfl rfl (ev_move rfl) ?_
      refine GO_eff rfl rfl (eff_call rfl (NPoint_ctr x _ hin.skip.skip.skip.skip)) ?_; rintro _ _ ⟨rfl, rfl⟩
      refine GO_eff rfl rfl eff_alloc ?_; rintro _ _ ⟨b13, rfl, rfl⟩
      refine GO_eff rfl rfl (eff_storeN rfl rfl rfl rfl (by repeat' first | exact Upd.here rfl | apply Upd.skip | apply Upd.app)) ?_; rintro _ _ ⟨rfl, rfl⟩
      refine GO_nil ?_
      rw [hpt]
      generalize hnx : x.next w = nx at *
      (repeat first | refine G_seq ?_ | refine G_skip ?_ | refine G_endblk ?_ | refine G_block ?_ | refine G_exit rfl ?_)
      refine G_region ?_
      refine GO_q rfl rfl (ev_move rfl) ?_
      refine GO_nil ?_
      (repeat first | refine G_seq ?_ | refine G_skip ?_ | refine G_endblk ?_)
      refine G_cut (ι := Option Addr × Nat × List Int) (fun y => [(0, .pointer x.addr), (2, .int .i64 (deep : Nat)), (3, .slice y.1 y.2.2.length y.2.1), (5, .pointer (some ⟨b5, 0, none⟩)), (11, .bool (x.hit w)), (12, .slice A25 nx.length c25), (13, .pointer (some ⟨b13, 0, none⟩))]) (fun y => own 3 1 y.1 y.2.2.length y.2.1 (flat y.2.2) :: own 67 1 A25 nx.length c25 (flat (addrs nx)) :: blk b13 39 [.int .i64 p.id, .int .i64 p.x, .int .i64 p.y] :: blk b5 45 [.int .i64 w.x1, .int .i64 w.x2, .int .i64 w.y] :: F :: L)
        (fun y => y.2.2 = out ++ (if x.hit w then [x.id] else []) ∧ (0 < y.2.2.length → ∃ b, y.1 = some ⟨b, 0, none⟩)) ?_ ?_
      · cases hh : x.hit w with
        | true =>
          (repeat first | refine G_seq ?_ | refine G_skip ?_ | refine G_endblk ?_ | refine G_block ?_ | refine G_exit rfl ?_)
          refine G_cond_t rfl rfl ?_
          (repeat first | refine G_seq ?_ | refine G_skip ?_ | refine G_endblk ?_ | refine G_block ?_ | refine G_exit rfl ?_)
          refine G_region ?_
          refine GO_q rfl rfl (ev_move rfl) ?_
          refine GO_q rfl rfl (ev_fieldAddr rfl) ?_
          refine GO_q rfl rfl (ev_load rfl (by repeat' first | exact Ld.blk rfl | assumption | apply Ld.skip | apply Ld.app)) ?_
          refine GO_eff rfl rfl (eff_buildSlice1 (by rfl) rfl rfl) ?_; rintro _ _ ⟨b34, rfl, rfl⟩
          refine GO_eff rfl rfl (eff_append rfl rfl (by repeat' first | exact Pick.here | apply Pick.skip) (by repeat' first | exact Rc.blk rfl | assumption | apply Rc.skip) (one_all rfl) (by rfl) (by decide) (by first | omega | (simp; done) | (simp; omega)) (by first | omega | (simp; done) | (simp; omega))) ?_; rintro _ _ ⟨A35, c35, rfl, hc35, hm35, hn35, rfl⟩
          refine GO_q rfl rfl (ev_assign rfl) ?_
          refine GO_nil ?_
          (repeat first | refine G_seq ?_ | refine G_skip ?_ | refine G_endblk ?_ | refine G_block ?_ | refine G_exit rfl ?_)
          refine G_inv (A35, c35, out ++ [p.id]) ⟨by simp [hid], fun _ => hn35 (by omega)⟩ ⟨rfl, rfl, by simp only [List.length_append, List.length_singleton]; rfl, rfl, rfl, rfl, rfl, trivial⟩ ?_
          simp only [List.length_append, List.length_singleton]
          rw [← flat_snoc]
          exact (by (repeat first | exact en_refl | (apply en_blk; focus ((repeat' first | exact Pick.here | apply Pick.skip | apply Pick.app); done); focus rfl) | (apply en_own; focus ((repeat' first | exact Pick.here | apply Pick.skip | apply Pick.app); done); focus rfl) | (apply en_pick; focus ((repeat' first | exact Pick.here | apply Pick.skip | apply Pick.app); done)) | apply en_drop | apply en_app) <;> fail)
        | false =>
          (repeat first | refine G_seq ?_ | refine G_skip ?_ | refine G_endblk ?_ | refine G_block ?_ | refine G_exit rfl ?_)
          refine G_cond_f rfl rfl ?_
          (repeat first | refine G_seq ?_ | refine G_skip ?_ | refine G_endblk ?_ | refine G_block ?_ | refine G_exit rfl ?_)
          exact G_inv (A, c, out) ⟨by simp, hA⟩ ⟨rfl, rfl, rfl, rfl, rfl, rfl, rfl, trivial⟩ (by (repeat first | exact en_refl | (apply en_blk; focus ((repeat' first | exact Pick.here | apply Pick.skip | apply Pick.app); done); focus rfl) | (apply en_own; focus ((repeat' first | exact Pick.here | apply Pick.skip | apply Pick.app); done); focus rfl) | (apply en_pick; focus ((repeat' first | exact Pick.here | apply Pick.skip | apply Pick.app); done)) | apply en_drop | apply en_app) <;> fail)
      · rintro ⟨A1, c1, o1⟩ ⟨f1, f2⟩
        simp only at f1 f2
        dsimp only
        have ho1 : o1.length ≤ out.length + 1 := by rw [f1, List.length_append]; split <;> simp
        (repeat first | refine G_seq ?_ | refine G_skip ?_ | refine G_endblk ?_ | refine G_block ?_ | refine G_exit rfl ?_)
        refine G_region ?_
        refine GO_q rfl rfl (ev_assign rfl) ?_
        refine GO_nil ?_
        (repeat first | refine G_seq ?_ | refine G_skip ?_ | refine G_endblk ?_ | refine G_block ?_ | refine G_exit rfl ?_)
        refine G_region ?_
        refine GO_q rfl rfl (ev_assign rfl) ?_
        refine GO_nil ?_
        (repeat first | refine G_seq ?_ | refine G_skip ?_ | refine G_endblk ?_ | refine G_block ?_ | refine G_exit rfl ?_)
        refine G_loop (ι := Nat × Option Addr × Nat × List Int) (fun y => [(0, .pointer x.addr), (2, .int .i64 (deep : Nat)), (3, .slice y.2.1 y.2.2.2.length y.2.2.1), (5, .pointer (some ⟨b5, 0, none⟩)), (11, .bool (x.hit w)), (12, .slice A25 nx.length c25), (13, .pointer (some ⟨b13, 0, none⟩)), (14, .int .i64 ((1 + cntL w (nx.take y.1) : Nat) : Int)), (15, .int .i64 (y.1 : Nat))]) (fun y => own 3 1 y.2.1 y.2.2.2.length y.2.2.1 (flat y.2.2.2) :: own 67 1 A25 nx.length c25 (flat (addrs nx)) :: blk b13 39 [.int .i64 p.id, .int .i64 p.x, .int .i64 p.y] :: blk b5 45 [.int .i64 w.x1, .int .i64 w.x2, .int .i64 w.y] :: F :: L)
          (fun y => y.1 ≤ nx.length ∧ y.2.2.2 = o1 ++ seenL w (nx.take y.1) ∧ (0 < y.2.2.2.length → ∃ b, y.2.1 = some ⟨b, 0, none⟩)) (fun y => nx.length - y.1) (0, A1, c1, o1) ⟨Nat.zero_le _, by simp [seenL], f2⟩ ⟨rfl, rfl, rfl, rfl, rfl, rfl, rfl, rfl, rfl, trivial⟩ (by (repeat first | exact en_refl | (apply en_blk; focus ((repeat' first | exact Pick.here | apply Pick.skip | apply Pick.app); done); focus rfl) | (apply en_own; focus ((repeat' first | exact Pick.here | apply Pick.skip | apply Pick.app); done); focus rfl) | (apply en_pick; focus ((repeat' first | exact Pick.here | apply Pick.skip | apply Pick.app); done)) | apply en_drop | apply en_app) <;> fail) ?_
        rintro ⟨k, A2, c2, o2⟩ ⟨g1, g2, g3⟩
        simp only at g1 g2 g3
        dsimp only
        (repeat first | refine G_seq ?_ | refine G_skip ?_ | refine G_endblk ?_ | refine G_block ?_ | refine G_exit rfl ?_)
        refine G_region ?_
        refine GO_q rfl rfl (ev_move rfl) ?_
        refine GO_q rfl rfl (ev_move rfl) ?_
        refine GO_q rfl rfl (ev_len rfl) ?_
        (first | refine GO_q rfl rfl (ev_lssN rfl rfl) ?_ | refine GO_q rfl rfl (ev_lss rfl rfl) ?_)
        refine GO_nil ?_
        (repeat first | refine G_seq ?_ | refine G_skip ?_ | refine G_endblk ?_ | refine G_block ?_ | refine G_exit rfl ?_)
        refine G_cond rfl (fun h4 => ?_) (fun h4 => ?_)
        · have hr : ∀ L', Rd (own 67 1 A25 nx.length c25 (flat (addrs nx)) :: L') A25 nx.length (addrs nx) := fun L' => Rc.own (by rw [flat_length, addrs_len]; rfl) hA25
          obtain ⟨nb, rfl⟩ := hA25 (by omega)
          have k1 : nx[k]? = some nx[k] := List.getElem?_eq_getElem (by omega)
          have k2 : (addrs nx)[k]? = some nx[k].addr := by simp [addrs, k1]
          have k3 : ∀ L', Ld (own 67 1 (some ⟨nb, 0, none⟩) nx.length c25 (flat (addrs nx)) :: L') ⟨nb, 0 + k * 1, none⟩ (.pointer nx[k].addr) := fun L' => by
            obtain ⟨_, _, e9, hx9⟩ := (hr L').at_ (by omega)
            cases e9
            exact (hx9 _ _ k2).at_ (i := 0) rfl
          have hy := hkid nx[k] (List.getElem_mem _)
          have hyin := hinn nx[k] (List.getElem_mem _)
          have hse2 := seenL_take w nx k _ k1
          have hct : cntL w (nx.take (k + 1)) = cntL w (nx.take k) + nx[k].cnt w := by
            rw [List.take_succ_eq_append_getElem (by omega), cntL_app]; simp [cntL]
          have hle : cntL w (nx.take (k + 1)) ≤ cntL w nx := by
            conv => rhs; rw [← List.take_append_drop (k + 1) nx]
            rw [cntL_app]; omega
          have hsle : (seenL w (nx.take (k + 1))).length ≤ (seenL w nx).length := by
            conv => rhs; rw [← List.take_append_drop (k + 1) nx]
            rw [seenL_app, List.length_append]; omega
          have hsum : o1.length + (seenL w nx).length = out.length + (x.seen w).length := by
            rw [hse, f1, List.length_append, List.length_append]; omega
          have hcy := PA.cnt_size w nx[k] hy.nn
          generalize nx[k] = y at *
          have ho2 : o2.length + (y.seen w).length ≤ out.length + (x.seen w).length := by
            rw [hse2, List.length_append] at hsle
            rw [g2, List.length_append]; omega
          have hylt := hy.lt
          have hyd := hy.dp
          have hun := hy.un hok
          rw [hpt] at hun
          have hth : decide (0 ≤ three y.pt.y y.pt.x y.pt.id p.y p.x p.id) = false := decide_eq_false (by
            rw [three_up]
            unfold und at hun
            have := of_decide_eq_true hun
            omega)
          have hysz : y.t.size ≤ 1000 := by omega
          (repeat first | refine G_seq ?_ | refine G_skip ?_ | refine G_endblk ?_ | refine G_block ?_ | refine G_exit rfl ?_)
          refine G_region ?_
          refine GO_q rfl rfl (ev_move rfl) ?_
          refine GO_q rfl rfl (ev_move rfl) ?_
          (first | refine GO_q rfl rfl (ev_indexAddrN rfl rfl (by first | omega | (simp; done) | (simp; omega))) ?_ | refine GO_q rfl rfl (ev_indexAddr rfl rfl (by first | omega | (simp; done) | (simp; omega)) (by first | omega | (simp; done) | (simp; omega))) ?_)
          refine GO_q rfl rfl (ev_load rfl (by repeat' first | exact k3 _ | apply Ld.skip)) ?_
          refine GO_eff rfl rfl (eff_call rfl (NPoint_ctr y _ (by repeat' first | exact hyin | apply PIn.skip))) ?_; rintro _ _ ⟨rfl, rfl⟩
          refine GO_eff rfl rfl eff_alloc ?_; rintro _ _ ⟨b16, rfl, rfl⟩
          refine GO_eff rfl rfl (eff_storeN rfl rfl rfl rfl (by repeat' first | exact Upd.here rfl | apply Upd.skip | apply Upd.app)) ?_; rintro _ _ ⟨rfl, rfl⟩
          refine GO_nil ?_
          (repeat first | refine G_seq ?_ | refine G_skip ?_ | refine G_endblk ?_ | refine G_block ?_ | refine G_exit rfl ?_)
          refine G_region ?_
          refine GO_q rfl rfl (ev_fieldAddr rfl) ?_
          refine GO_q rfl rfl (ev_load rfl (by repeat' first | exact Ld.blk rfl | assumption | apply Ld.skip | apply Ld.app)) ?_
          refine GO_q rfl rfl (ev_fieldAddr rfl) ?_
          refine GO_q rfl rfl (ev_load rfl (by repeat' first | exact Ld.blk rfl | assumption | apply Ld.skip | apply Ld.app)) ?_
          refine GO_q rfl rfl (ev_fieldAddr rfl) ?_
          refine GO_q rfl rfl (ev_load rfl (by repeat' first | exact Ld.blk rfl | assumption | apply Ld.skip | apply Ld.app)) ?_
          refine GO_q rfl rfl (ev_buildA rfl rfl) ?_
          refine GO_q rfl rfl (ev_fieldAddr rfl) ?_
          refine GO_q rfl rfl (ev_load rfl (by repeat' first | exact Ld.blk rfl | assumption | apply Ld.skip | apply Ld.app)) ?_
          refine GO_q rfl rfl (ev_fieldAddr rfl) ?_
          refine GO_q rfl rfl (ev_load rfl (by repeat' first | exact Ld.blk rfl | assumption | apply Ld.skip | apply Ld.app)) ?_
          refine GO_q rfl rfl (ev_fieldAddr rfl) ?_
          refine GO_q rfl rfl (ev_load rfl (by repeat' first | exact Ld.blk rfl | assumption | apply Ld.skip | apply Ld.app)) ?_
          refine GO_q rfl rfl (ev_buildA rfl rfl) ?_
          refine GO_eff rfl rfl (eff_call rfl (Three_ctr y.pt.y y.pt.x y.pt.id p.y p.x p.id _)) ?_; rintro _ _ ⟨rfl, rfl⟩
          refine GO_q rfl rfl (ev_geq rfl rfl) ?_
          refine GO_q rfl rfl (ev_move rfl) ?_
          refine GO_yes rfl rfl rfl hth ?_
          refine GO_q rfl rfl (ev_move rfl) ?_
          refine GO_yes rfl rfl rfl hth ?_
          refine GO_q rfl rfl (ev_move rfl) ?_
          refine GO_yes rfl rfl rfl hth ?_
          (first | refine GO_q rfl rfl (ev_indexAddrN rfl rfl (by first | omega | (simp; done) | (simp; omega))) ?_ | refine GO_q rfl rfl (ev_indexAddr rfl rfl (by first | omega | (simp; done) | (simp; omega)) (by first | omega | (simp; done) | (simp; omega))) ?_)
          refine GO_yes rfl rfl rfl hth ?_
          refine GO_q rfl rfl (ev_load rfl (by repeat' first | exact k3 _ | apply Ld.skip)) ?_
          refine GO_yes rfl rfl rfl hth ?_
          refine GO_eff rfl rfl (eff_call rfl (Size_ctr y _ (by repeat' first | exact hyin | apply PIn.skip))) ?_; rintro _ _ ⟨rfl, rfl⟩
          refine GO_yes rfl rfl rfl hth ?_
          refine GO_q rfl rfl (ev_move rfl) ?_
          refine GO_yes rfl rfl rfl hth ?_
          refine GO_eff rfl rfl (eff_call rfl (Size_ctr x _ (by repeat' first | exact hxin | apply PIn.skip))) ?_; rintro _ _ ⟨rfl, rfl⟩
          refine GO_yes rfl rfl rfl hth ?_
          refine GO_q rfl rfl (ev_geq rfl rfl) ?_
          refine GO_q rfl rfl (ev_pick_f rfl hth rfl) ?_
          refine GO_nil ?_
          (repeat first | refine G_seq ?_ | refine G_skip ?_ | refine G_endblk ?_ | refine G_block ?_ | refine G_exit rfl ?_)
          refine G_cond_f rfl (decide_eq_false (by omega)) ?_
          (repeat first | refine G_seq ?_ | refine G_skip ?_ | refine G_endblk ?_ | refine G_block ?_ | refine G_exit rfl ?_)
          refine G_region ?_
          refine GO_q rfl rfl (ev_assign rfl) ?_
          refine GO_q rfl rfl (ev_assign rfl) ?_
          refine GO_nil ?_
          (repeat first | refine G_seq ?_ | refine G_skip ?_ | refine G_endblk ?_ | refine G_block ?_ | refine G_exit rfl ?_)
          refine G_drawE 1 (.q 0 (.q 1 (.q 2 (.q 3 (.q 4 (.q 5 (.q 6 (.q 7 (.e 8 (.q 9 (.q 10 (.q 11 (.q 12 (.q 13 (.q 14 (.q 15 .nil)))))))))))))))) (by kernel_rfl) (by kernel_rfl) ?_
          refine RS_q retB_noPanic rfl rfl rfl (ev_move rfl) ?_
          refine RS_q retB_noPanic rfl rfl rfl (ev_move rfl) ?_
          (first | refine RS_q retB_noPanic rfl rfl rfl (ev_indexAddrN rfl rfl (by first | omega | (simp; done) | (simp; omega))) ?_ | refine RS_q retB_noPanic rfl rfl rfl (ev_indexAddr rfl rfl (by first | omega | (simp; done) | (simp; omega)) (by first | omega | (simp; done) | (simp; omega))) ?_)
          refine RS_q retB_noPanic rfl rfl rfl (ev_load rfl (by repeat' first | exact k3 _ | apply Ld.skip)) ?_
          refine RS_q retB_noPanic rfl rfl rfl (ev_loadN rfl (by repeat' first | exact LdN.blk rfl | assumption | apply LdN.skip | apply LdN.app)) ?_
          refine RS_q retB_noPanic rfl rfl rfl (ev_move rfl) ?_
          (first | refine RS_q retB_noPanic rfl rfl rfl (ev_addN (q := 1) rfl rfl (by first | omega | (simp; done) | (simp; omega))) ?_ | refine RS_q retB_noPanic rfl rfl rfl (ev_add rfl rfl (by first | omega | (simp; done) | (simp; omega))) ?_)
          refine RS_q retB_noPanic rfl rfl rfl (ev_move rfl) ?_
          refine RS_e (RE_cmp (by kernel_rfl) rfl rfl rfl (eff_call rfl (Ctr.pick (by repeat' first | exact Pick.here | apply Pick.skip | apply Pick.app) (ih y.t.size (by omega) y w (deep + 1) A2 c2 o2 _ rfl hy.nn (by repeat' first | exact hyin | apply PIn.skip) (hy.ok hok) (by omega) (by omega) hysz g3))) ?_); rintro _ _ ⟨A83, c83, rfl, hA83, rfl⟩
          refine RS_q retB_noPanic rfl rfl rfl (ev_move rfl) ?_
          refine RS_q retB_noPanic rfl rfl rfl (ev_extract rfl rfl) ?_
          refine RS_q retB_noPanic rfl rfl rfl (ev_extract rfl rfl) ?_
          refine RS_q retB_noPanic rfl rfl rfl (ev_extract rfl rfl) ?_
          refine RS_q retB_noPanic rfl rfl rfl (ev_assign rfl) ?_
          refine RS_q retB_noPanic rfl rfl rfl (ev_assign rfl) ?_
          refine RS_q retB_noPanic rfl rfl rfl (ev_assign rfl) ?_
          refine RS_nil ?_
          (repeat first | refine G_seq ?_ | refine G_skip ?_ | refine G_endblk ?_ | refine G_block ?_ | refine G_exit rfl ?_)
          refine G_region ?_
          refine GO_q rfl rfl (ev_move rfl) ?_
          refine GO_q rfl rfl (ev_not rfl) ?_
          refine GO_nil ?_
          (repeat first | refine G_seq ?_ | refine G_skip ?_ | refine G_endblk ?_ | refine G_block ?_ | refine G_exit rfl ?_)
          refine G_cond_f rfl rfl ?_
          (repeat first | refine G_seq ?_ | refine G_skip ?_ | refine G_endblk ?_ | refine G_block ?_ | refine G_exit rfl ?_)
          refine G_region ?_
          refine GO_q rfl rfl (ev_move rfl) ?_
          refine GO_q rfl rfl (ev_move rfl) ?_
          (first | refine GO_q rfl rfl (ev_addN rfl rfl (by first | omega | (simp; done) | (simp; omega))) ?_ | refine GO_q rfl rfl (ev_add rfl rfl (by first | omega | (simp; done) | (simp; omega))) ?_)
          refine GO_q rfl rfl (ev_assign rfl) ?_
          refine GO_nil ?_
          (repeat first | refine G_seq ?_ | refine G_skip ?_ | refine G_endblk ?_ | refine G_block ?_ | refine G_exit rfl ?_)
          refine G_region ?_
          refine GO_q rfl rfl (ev_move rfl) ?_
          (first | refine GO_q rfl rfl (ev_addN (q := 1) rfl rfl (by first | omega | (simp; done) | (simp; omega))) ?_ | refine GO_q rfl rfl (ev_add rfl rfl (by first | omega | (simp; done) | (simp; omega))) ?_)
          refine GO_q rfl rfl (ev_assign rfl) ?_
          refine GO_nil ?_
          (repeat first | refine G_seq ?_ | refine G_skip ?_ | refine G_endblk ?_ | refine G_block ?_ | refine G_exit rfl ?_)
          refine G_round (k + 1, A83, c83, o2 ++ y.seen w) ⟨by simp only; omega, by simp only; rw [g2, hse2, List.append_assoc], hA83⟩ (by simp only; omega) ⟨rfl, rfl, rfl, rfl, rfl, rfl, rfl, ?_, rfl, trivial⟩ (by (repeat first | exact en_refl | (apply en_blk; focus ((repeat' first | exact Pick.here | apply Pick.skip | apply Pick.app); done); focus rfl) | (apply en_own; focus ((repeat' first | exact Pick.here | apply Pick.skip | apply Pick.app); done); focus rfl) | (apply en_pick; focus ((repeat' first | exact Pick.here | apply Pick.skip | apply Pick.app); done)) | apply en_drop | apply en_app) <;> fail)
          rw [hct, ← Nat.add_assoc]
          rfl
        · have e : k = nx.length := by omega
          subst e
          rw [List.take_length] at g2
          rw [List.take_length, ← hcnt]
          have e2 : o2 = out ++ x.seen w := by rw [g2, f1, hse, List.append_assoc]
          (repeat first | refine G_seq ?_ | refine G_skip ?_ | refine G_endblk ?_ | refine G_block ?_ | refine G_exit rfl ?_)
          refine G_region ?_
          refine GO_q rfl rfl (ev_move rfl) ?_
          refine GO_q rfl rfl (ev_move rfl) ?_
          refine GO_q rfl rfl (ev_move rfl) ?_
          refine GO_q rfl rfl (ev_len rfl) ?_
          refine GO_q rfl rfl (ev_leq rfl rfl) ?_
          refine GO_q rfl rfl (ev_move rfl) ?_
          refine GO_yes rfl rfl rfl (decide_eq_true (by omega)) ?_
          refine GO_q rfl rfl (ev_move rfl) ?_
          refine GO_yes rfl rfl rfl (decide_eq_true (by omega)) ?_
          refine GO_q rfl rfl (ev_loadN rfl (by repeat' first | exact LdN.blk rfl | assumption | apply LdN.skip | apply LdN.app)) ?_
          refine GO_yes rfl rfl rfl (decide_eq_true (by omega)) ?_
          refine GO_q rfl rfl (ev_fieldAddr rfl) ?_
          refine GO_yes rfl rfl rfl (decide_eq_true (by omega)) ?_
          refine GO_q rfl rfl (ev_load rfl (by repeat' first | exact Ld.blk rfl | assumption | apply Ld.skip | apply Ld.app)) ?_
          refine GO_yes rfl rfl rfl (decide_eq_true (by omega)) ?_
          refine GO_q rfl rfl (ev_fieldAddr rfl) ?_
          refine GO_yes rfl rfl rfl (decide_eq_true (by omega)) ?_
          refine GO_q rfl rfl (ev_load rfl (by repeat' first | exact Ld.blk rfl | assumption | apply Ld.skip | apply Ld.app)) ?_
          refine GO_yes rfl rfl rfl (decide_eq_true (by omega)) ?_
          refine GO_eff rfl rfl (eff_call rfl (RSees_ctr w p.x p.y _)) ?_; rintro _ _ ⟨rfl, rfl⟩
          refine GO_yes rfl rfl rfl (decide_eq_true (by omega)) ?_
          refine GO_q rfl rfl (ev_eqlB rfl rfl) ?_
          refine GO_q rfl rfl (ev_pick_t rfl (decide_eq_true (by omega)) rfl) ?_
          refine GO_q rfl rfl (ev_assign rfl) ?_
          refine GO_q rfl rfl (ev_assign rfl) ?_
          refine GO_q rfl rfl (ev_assign rfl) ?_
          refine GO_nil ?_
          (repeat first | refine G_seq ?_ | refine G_skip ?_ | refine G_endblk ?_ | refine G_block ?_ | refine G_exit rfl ?_)
          rw [← hhit, e2]
          rw [e2] at g3
          exact G_ret (L' := own 3 1 A2 (out ++ x.seen w).length c2 (flat (out ++ x.seen w)) :: L) rfl (.tmp rfl (.tmp rfl (.tmp rfl .nil))) (by (repeat first | exact en_refl | (apply en_blk; focus ((repeat' first | exact Pick.here | apply Pick.skip | apply Pick.app); done); focus rfl) | (apply en_own; focus ((repeat' first | exact Pick.here | apply Pick.skip | apply Pick.app); done); focus rfl) | (apply en_pick; focus ((repeat' first | exact Pick.here | apply Pick.skip | apply Pick.app); done)) | apply en_drop | apply en_app) <;> fail) ⟨A2, c2, by simp [retv], g3, rfl⟩
end Go.Proofs.Ytalcanejhniepaa
