/- The library's functions that take a function, and lists in order, at points. -/
import Derived.Test.YtalcanejhniepaaStd
namespace Go.Proofs.Ytalcanejhniepaa
attribute [local irreducible] sat
set_option linter.unusedVariables false
set_option linter.unusedSimpArgs false
set_option maxRecDepth 100000

@[reducible] def Pt.v (p : Pt) : Value := .agg #[.int .i64 p.id, .int .i64 p.x, .int .i64 p.y]
/-- .. and how much room there is. -/
def MadeC (T : TypeId) {α : Type} [E : Enc α] (l : List α) (L : List HP) (v : Value) (L' : List HP) : Prop := ∃ A c, v = .slice A l.length c ∧ (0 < l.length → ∃ b, A = some ⟨b, 0, none⟩) ∧ l.length ≤ c ∧ c ≤ maxLen ∧ L' = own T E.sz A l.length c (flat l) :: L
theorem Ctr.made {P : Program} {f : FuncId} {args : Array Value} {L0 L : List HP} {T : TypeId} {α : Type} [E : Enc α] {l : List α} (h : Ctr P f args L0 fun v L' => Made T l L v L') : Ctr P f args L0 fun v L' => MadeC T l L v L' := fun g F w hw =>
  (h g F w hw).mono fun e w' ⟨v, L', e1, ⟨A, c, e2, e3, e4⟩, hw'⟩ => by
    subst e4
    have q := own.facts hw'.s.tail
    exact ⟨v, _, e1, ⟨A, c, e2, e3, q.2.1, q.2.2.1, rfl⟩, hw'⟩
theorem IndexFunc_ctr (f : FuncId) [CalT Try.prog f] (c1 c2 : List Value) (p : Pt → Bool) (A : Option Addr) (n c : Nat) (l : List Pt) (L : List HP) (hl : Rd L A n l) (hn : n ≤ 1000000)
    (hf : ∀ a : Pt, Ctr Try.prog f (c1 ++ [a.v] ++ c2).toArray L fun v L' => v = .bool (p a) ∧ L' = L) :
    Ctr Try.prog 104 #[.slice A n c, .func (.func f) c1.toArray c2.toArray] L fun v L' => (∃ j : Int, v = .int .i64 j ∧ decide (0 ≤ j) = l.any p) ∧ L' = L := by
  have h1 : l.length = n := hl.len (by decide)
  refine Ctr_of (fn := Try.f104) (n := 19) Try.func104 rfl rfl rfl ?_
  intro g F
  (repeat first | refine G_seq ?_ | refine G_skip ?_ | refine G_endblk ?_ | refine G_block ?_ | refine G_exit rfl ?_)
  refine G_region ?_
  refine GO_q rfl rfl (ev_assign rfl) ?_
  refine GO_nil ?_
  (repeat first | refine G_seq ?_ | refine G_skip ?_ | refine G_endblk ?_ | refine G_block ?_ | refine G_exit rfl ?_)
  refine G_region ?_
  refine GO_q rfl rfl (ev_move rfl) ?_
  refine GO_q rfl rfl (ev_len rfl) ?_
  refine GO_q rfl rfl (ev_move rfl) ?_
  refine GO_nil ?_
  (repeat first | refine G_seq ?_ | refine G_skip ?_ | refine G_endblk ?_ | refine G_block ?_ | refine G_exit rfl ?_)
  refine G_loop (ι := Nat) (fun k => [(0, .slice A n c), (1, .func (.func f) c1.toArray c2.toArray), (7, .int .i64 (n : Nat)), (8, .int .i64 (k : Nat))]) (fun _ => F :: L) (fun k => k ≤ n ∧ (l.take k).any p = false) (fun k => n - k) 0 ⟨Nat.zero_le _, by simp⟩ ⟨rfl, rfl, rfl, rfl, trivial⟩ (by (repeat first | exact fun _ s => s | apply en_keep | apply en_drop | apply en_app) <;> fail) ?_
  rintro k ⟨hk, ht⟩
  (repeat first | refine G_seq ?_ | refine G_skip ?_ | refine G_endblk ?_ | refine G_block ?_ | refine G_exit rfl ?_)
  refine G_region ?_
  (first | refine GO_q rfl rfl (ev_lssN rfl rfl) ?_ | refine GO_q rfl rfl (ev_lss rfl rfl) ?_)
  refine GO_nil ?_
  (repeat first | refine G_seq ?_ | refine G_skip ?_ | refine G_endblk ?_ | refine G_block ?_ | refine G_exit rfl ?_)
  refine G_cond rfl (fun h4 => ?_) (fun h4 => ?_)
  · obtain ⟨b1, o1, rfl, x1⟩ := hl.at_ (by omega)
    have g1 : l[k]? = some l[k] := List.getElem?_eq_getElem (by omega)
    have y1 := x1 _ _ g1
    have s1 : l.take (k + 1) = l.take k ++ [l[k]] := List.take_succ_eq_append_getElem (by omega)
    have m1 : l[k] ∈ l := List.getElem_mem _
    generalize l[k] = u at *
    have z1 : LdN L b1 (o1 + k * 3) 3 [.int .i64 u.id, .int .i64 u.x, .int .i64 u.y] := y1
    (repeat first | refine G_seq ?_ | refine G_skip ?_ | refine G_endblk ?_ | refine G_block ?_ | refine G_exit rfl ?_)
    refine G_region ?_
    refine GO_q rfl rfl (ev_move rfl) ?_
    refine GO_q rfl rfl (ev_assign rfl) ?_
    refine GO_nil ?_
    (repeat first | refine G_seq ?_ | refine G_skip ?_ | refine G_endblk ?_ | refine G_block ?_ | refine G_exit rfl ?_)
    refine G_region ?_
    refine GO_q rfl rfl (ev_move rfl) ?_
    refine GO_q rfl rfl (ev_move rfl) ?_
    refine GO_q rfl rfl (ev_move rfl) ?_
    (first | refine GO_q rfl rfl (ev_indexAddrN rfl rfl (by first | omega | (simp; done) | (simp; omega))) ?_ | refine GO_q rfl rfl (ev_indexAddr rfl rfl (by first | omega | (simp; done) | (simp; omega)) (by first | omega | (simp; done) | (simp; omega))) ?_)
    refine GO_q rfl rfl (ev_loadN rfl (by repeat' first | exact LdN.blk rfl | assumption | apply LdN.skip | apply LdN.app)) ?_
    refine GO_eff rfl rfl (eff_callv rfl rfl (Ctr.frame [F] (hf u) en_refl)) ?_; rintro _ _ ⟨_, ⟨rfl, rfl⟩, rfl⟩
    refine GO_nil ?_
    (repeat first | refine G_seq ?_ | refine G_skip ?_ | refine G_endblk ?_ | refine G_block ?_ | refine G_exit rfl ?_)
    refine G_condB rfl (fun h5 => ?_) (fun h5 => ?_)
    · (repeat first | refine G_seq ?_ | refine G_skip ?_ | refine G_endblk ?_ | refine G_block ?_ | refine G_exit rfl ?_)
      refine G_region ?_
      refine GO_q rfl rfl (ev_move rfl) ?_
      refine GO_q rfl rfl (ev_assign rfl) ?_
      refine GO_nil ?_
      (repeat first | refine G_seq ?_ | refine G_skip ?_ | refine G_endblk ?_ | refine G_block ?_ | refine G_exit rfl ?_)
      refine G_ret rfl (.tmp rfl .nil) (by (repeat first | exact fun _ s => s | apply en_keep | apply en_drop | apply en_app) <;> fail) ⟨⟨k, rfl, by rw [decide_eq_true (by omega)]; exact (List.any_eq_true.2 ⟨u, m1, h5⟩).symm⟩, rfl⟩
    · (repeat first | refine G_seq ?_ | refine G_skip ?_ | refine G_endblk ?_ | refine G_block ?_ | refine G_exit rfl ?_)
      refine G_region ?_
      (first | refine GO_q rfl rfl (ev_addN (q := 1) rfl rfl (by first | omega | (simp; done) | (simp; omega))) ?_ | refine GO_q rfl rfl (ev_add rfl rfl (by first | omega | (simp; done) | (simp; omega))) ?_)
      refine GO_q rfl rfl (ev_move rfl) ?_
      refine GO_nil ?_
      (repeat first | refine G_seq ?_ | refine G_skip ?_ | refine G_endblk ?_ | refine G_block ?_ | refine G_exit rfl ?_)
      exact G_round (k + 1) ⟨by omega, by rw [s1, List.any_append, ht]; simpa using h5⟩ (by omega) ⟨rfl, rfl, rfl, rfl, trivial⟩ (by (repeat first | exact fun _ s => s | apply en_keep | apply en_drop | apply en_app) <;> fail)
  · have e : k = n := by omega
    subst e
    rw [← h1, List.take_length] at ht
    (repeat first | refine G_seq ?_ | refine G_skip ?_ | refine G_endblk ?_ | refine G_block ?_ | refine G_exit rfl ?_)
    refine G_region ?_
    refine GO_q rfl rfl (ev_assign rfl) ?_
    refine GO_nil ?_
    (repeat first | refine G_seq ?_ | refine G_skip ?_ | refine G_endblk ?_ | refine G_block ?_ | refine G_exit rfl ?_)
    refine G_ret rfl (.tmp rfl .nil) (by (repeat first | exact fun _ s => s | apply en_keep | apply en_drop | apply en_app) <;> fail) ⟨⟨-1, rfl, by rw [ht]; rfl⟩, rfl⟩
theorem ContainsFunc_ctr (f : FuncId) [CalT Try.prog f] (c1 c2 : List Value) (p : Pt → Bool) (A : Option Addr) (n c : Nat) (l : List Pt) (L : List HP) (hl : Rd L A n l) (hn : n ≤ 1000000)
    (hf : ∀ a : Pt, Ctr Try.prog f (c1 ++ [a.v] ++ c2).toArray L fun v L' => v = .bool (p a) ∧ L' = L) :
    Ctr Try.prog 83 #[.slice A n c, .func (.func f) c1.toArray c2.toArray] L fun v L' => v = .bool (l.any p) ∧ L' = L := by
  refine Ctr_of (fn := Try.f83) (n := 9) Try.func83 rfl rfl rfl ?_
  intro g F
  (repeat first | refine G_seq ?_ | refine G_skip ?_ | refine G_endblk ?_ | refine G_block ?_ | refine G_exit rfl ?_)
  refine G_region ?_
  refine GO_q rfl rfl (ev_assign rfl) ?_
  refine GO_nil ?_
  (repeat first | refine G_seq ?_ | refine G_skip ?_ | refine G_endblk ?_ | refine G_block ?_ | refine G_exit rfl ?_)
  refine G_region ?_
  refine GO_q rfl rfl (ev_move rfl) ?_
  refine GO_q rfl rfl (ev_move rfl) ?_
  refine GO_eff rfl rfl (eff_call rfl (Ctr.frame [F] (IndexFunc_ctr f c1 c2 p A n c l L hl hn hf) en_refl)) ?_; rintro _ _ ⟨_, ⟨⟨j, rfl, hj⟩, rfl⟩, rfl⟩
  refine GO_q rfl rfl (ev_geq rfl rfl) ?_
  refine GO_q rfl rfl (ev_assign rfl) ?_
  refine GO_nil ?_
  (repeat first | refine G_seq ?_ | refine G_skip ?_ | refine G_endblk ?_ | refine G_block ?_ | refine G_exit rfl ?_)
  refine G_ret rfl (.tmp rfl .nil) (by (repeat first | exact fun _ s => s | apply en_keep | apply en_drop | apply en_app) <;> fail) ⟨congrArg Value.bool hj, rfl⟩
theorem seek_ctr (f : FuncId) [CalT Try.prog f] (c1 c2 : List Value) (p : Pt → Bool) (A : Option Addr) (n c k : Nat) (l : List Pt) (L : List HP) (hl : Rd L A n l) (hn : n ≤ 1000000) (hk : k ≤ n) (hp : ∀ (j : Nat) (a : Pt), l[j]? = some a → (p a = true ↔ k ≤ j))
    (hf : ∀ a : Pt, Ctr Try.prog f (c1 ++ [a.v] ++ c2).toArray L fun v L' => v = .bool (p a) ∧ L' = L) :
    Ctr Try.prog 147 #[.slice A n c, .func (.func f) c1.toArray c2.toArray] L fun v L' => v = .int .i64 (k : Nat) ∧ L' = L := by
  have h1 : l.length = n := hl.len (by decide)
  refine Ctr_of (fn := Try.f147) (n := 29) Try.func147 rfl rfl rfl ?_
  intro g F
  (repeat first | refine G_seq ?_ | refine G_skip ?_ | refine G_endblk ?_ | refine G_block ?_ | refine G_exit rfl ?_)
  refine G_region ?_
  refine GO_q rfl rfl (ev_assign rfl) ?_
  refine GO_nil ?_
  (repeat first | refine G_seq ?_ | refine G_skip ?_ | refine G_endblk ?_ | refine G_block ?_ | refine G_exit rfl ?_)
  refine G_region ?_
  refine GO_q rfl rfl (ev_move rfl) ?_
  refine GO_q rfl rfl (ev_len rfl) ?_
  refine GO_q rfl rfl (ev_assign rfl) ?_
  refine GO_q rfl rfl (ev_assign rfl) ?_
  refine GO_nil ?_
  (repeat first | refine G_seq ?_ | refine G_skip ?_ | refine G_endblk ?_ | refine G_block ?_ | refine G_exit rfl ?_)
  refine G_loop (ι := Nat × Nat) (fun x => [(0, .slice A n c), (1, .func (.func f) c1.toArray c2.toArray), (5, .int .i64 (x.1 : Nat)), (6, .int .i64 (x.2 : Nat))]) (fun _ => F :: L) (fun x => x.1 ≤ k ∧ k ≤ x.2 ∧ x.2 ≤ n) (fun x => x.2 - x.1) (0, n) ⟨Nat.zero_le _, hk, Nat.le_refl _⟩ ⟨rfl, rfl, rfl, rfl, trivial⟩ (by (repeat first | exact fun _ s => s | apply en_keep | apply en_drop | apply en_app) <;> fail) ?_
  rintro ⟨lo, hi⟩ ⟨f1, f2, f3⟩
  simp only at f1 f2 f3
  dsimp only
  (repeat first | refine G_seq ?_ | refine G_skip ?_ | refine G_endblk ?_ | refine G_block ?_ | refine G_exit rfl ?_)
  refine G_region ?_
  refine GO_q rfl rfl (ev_move rfl) ?_
  refine GO_q rfl rfl (ev_move rfl) ?_
  (first | refine GO_q rfl rfl (ev_lssN rfl rfl) ?_ | refine GO_q rfl rfl (ev_lss rfl rfl) ?_)
  refine GO_nil ?_
  (repeat first | refine G_seq ?_ | refine G_skip ?_ | refine G_endblk ?_ | refine G_block ?_ | refine G_exit rfl ?_)
  refine G_cond rfl (fun h4 => ?_) (fun h4 => ?_)
  · obtain ⟨b1, o1, rfl, x1⟩ := hl.at_ (by omega)
    have hmid : lo + (hi - lo) / 2 < hi := by omega
    have g1 : l[lo + (hi - lo) / 2]? = some l[lo + (hi - lo) / 2] := List.getElem?_eq_getElem (by omega)
    have y1 := x1 _ _ g1
    have hpu := hp _ _ g1
    generalize l[lo + (hi - lo) / 2] = u at *
    (repeat first | refine G_seq ?_ | refine G_skip ?_ | refine G_endblk ?_ | refine G_block ?_ | refine G_exit rfl ?_)
    refine G_region ?_
    refine GO_q rfl rfl (ev_move rfl) ?_
    refine GO_q rfl rfl (ev_move rfl) ?_
    refine GO_q rfl rfl (ev_move rfl) ?_
    (first | refine GO_q rfl rfl (ev_subN rfl rfl (by first | omega | (simp; done) | (simp; omega))) ?_ | refine GO_q rfl rfl (ev_sub rfl rfl (by first | omega | (simp; done) | (simp; omega))) ?_)
    (first | refine GO_q rfl rfl (ev_quoN (q := 2) rfl rfl (by first | omega | (simp; done) | (simp; omega)) (by first | omega | (simp; done) | (simp; omega))) ?_ | refine GO_q rfl rfl (ev_quo rfl rfl (by first | omega | (simp; done) | (simp; omega)) (by first | omega | (simp; done) | (simp; omega)) (by first | omega | (simp; done) | (simp; omega))) ?_)
    (first | refine GO_q rfl rfl (ev_addN rfl rfl (by first | omega | (simp; done) | (simp; omega))) ?_ | refine GO_q rfl rfl (ev_add rfl rfl (by first | omega | (simp; done) | (simp; omega))) ?_)
    refine GO_q rfl rfl (ev_assign rfl) ?_
    refine GO_nil ?_
    obtain ⟨m, hm⟩ : ∃ m, lo + (hi - lo) / 2 = m := ⟨_, rfl⟩
    have hlm : lo ≤ m := by omega
    rw [hm] at hmid y1 hpu
    rw [hm]
    have z1 : LdN L b1 (o1 + m * 3) 3 [.int .i64 u.id, .int .i64 u.x, .int .i64 u.y] := y1
    (repeat first | refine G_seq ?_ | refine G_skip ?_ | refine G_endblk ?_ | refine G_block ?_ | refine G_exit rfl ?_)
    refine G_region ?_
    refine GO_q rfl rfl (ev_move rfl) ?_
    refine GO_q rfl rfl (ev_move rfl) ?_
    refine GO_q rfl rfl (ev_move rfl) ?_
    (first | refine GO_q rfl rfl (ev_indexAddrN rfl rfl (by first | omega | (simp; done) | (simp; omega))) ?_ | refine GO_q rfl rfl (ev_indexAddr rfl rfl (by first | omega | (simp; done) | (simp; omega)) (by first | omega | (simp; done) | (simp; omega))) ?_)
    refine GO_q rfl rfl (ev_loadN rfl (by repeat' first | exact LdN.blk rfl | assumption | apply LdN.skip | apply LdN.app)) ?_
    refine GO_eff rfl rfl (eff_callv rfl rfl (Ctr.frame [F] (hf u) en_refl)) ?_; rintro _ _ ⟨_, ⟨rfl, rfl⟩, rfl⟩
    refine GO_nil ?_
    (repeat first | refine G_seq ?_ | refine G_skip ?_ | refine G_endblk ?_ | refine G_block ?_ | refine G_exit rfl ?_)
    refine G_condB rfl (fun h5 => ?_) (fun h5 => ?_)
    · have := hpu.1 h5
      (repeat first | refine G_seq ?_ | refine G_skip ?_ | refine G_endblk ?_ | refine G_block ?_ | refine G_exit rfl ?_)
      refine G_region ?_
      refine GO_q rfl rfl (ev_move rfl) ?_
      refine GO_q rfl rfl (ev_assign rfl) ?_
      refine GO_nil ?_
      (repeat first | refine G_seq ?_ | refine G_skip ?_ | refine G_endblk ?_ | refine G_block ?_ | refine G_exit rfl ?_)
      exact G_round (lo, m) ⟨f1, this, by simp only; omega⟩ (by simp only; omega) ⟨rfl, rfl, rfl, rfl, trivial⟩ (by (repeat first | exact fun _ s => s | apply en_keep | apply en_drop | apply en_app) <;> fail)
    · have : ¬ k ≤ m := fun h => by rw [hpu.2 h] at h5; cases h5
      (repeat first | refine G_seq ?_ | refine G_skip ?_ | refine G_endblk ?_ | refine G_block ?_ | refine G_exit rfl ?_)
      refine G_region ?_
      refine GO_q rfl rfl (ev_move rfl) ?_
      (first | refine GO_q rfl rfl (ev_addN (q := 1) rfl rfl (by first | omega | (simp; done) | (simp; omega))) ?_ | refine GO_q rfl rfl (ev_add rfl rfl (by first | omega | (simp; done) | (simp; omega))) ?_)
      refine GO_q rfl rfl (ev_assign rfl) ?_
      refine GO_nil ?_
      (repeat first | refine G_seq ?_ | refine G_skip ?_ | refine G_endblk ?_ | refine G_block ?_ | refine G_exit rfl ?_)
      exact G_round (m + 1, hi) ⟨by simp only; omega, f2, f3⟩ (by simp only; omega) ⟨rfl, rfl, rfl, rfl, trivial⟩ (by (repeat first | exact fun _ s => s | apply en_keep | apply en_drop | apply en_app) <;> fail)
  · have e : lo = k := by omega
    subst e
    (repeat first | refine G_seq ?_ | refine G_skip ?_ | refine G_endblk ?_ | refine G_block ?_ | refine G_exit rfl ?_)
    refine G_region ?_
    refine GO_q rfl rfl (ev_move rfl) ?_
    refine GO_q rfl rfl (ev_assign rfl) ?_
    refine GO_nil ?_
    (repeat first | refine G_seq ?_ | refine G_skip ?_ | refine G_endblk ?_ | refine G_block ?_ | refine G_exit rfl ?_)
    refine G_ret rfl (.tmp rfl .nil) (by (repeat first | exact fun _ s => s | apply en_keep | apply en_drop | apply en_app) <;> fail) ⟨rfl, rfl⟩
end Go.Proofs.Ytalcanejhniepaa
