/- The cursor over cells, where nothing is left for a last step: several steps at once. -/
import Derived.Test.YtmgkmammkmlakaaS7C
namespace Go.Proofs.Ytmgkmammkmlakaa
attribute [local irreducible] sat
open Go.RowKit
set_option linter.unusedVariables false
set_option linter.unusedSimpArgs false
set_option maxRecDepth 100000

def pdN (pd : Option (Nat × Nat × Nat)) : Nat := if pd.isSome then 1 else 0
def pdL (q1 : List Int) (pd : Option (Nat × Nat × Nat)) : List Int := if pd.isSome then q1 else []
/-- What is true of a cursor under way. -/
structure CuI (M : List HP) (q : Pt → Nat × Nat) (l : List Pt) (c : Nat) (z0 : Option (Nat × Nat × Nat)) (q1 tot : List Int) (Y : SA) (pd : Option (Nat × Nat × Nat)) (ids : List Int) (left : Nat) : Prop where
  s : SIn M Y
  g : Leads q l c Y
  p : (ids ++ (idsOf (Y.way c) ++ pdL q1 pd)).Perm tot
  n : Y.wn c + pdN pd = left
  z : pd = none ∨ pd = z0
theorem CuI.done {M : List HP} {q : Pt → Nat × Nat} {l : List Pt} {c : Nat} {z0 : Option (Nat × Nat × Nat)} {q1 tot : List Int} {Y : SA} {pd : Option (Nat × Nat × Nat)} {ids : List Int} {left : Nat} (h : CuI M q l c z0 q1 tot Y pd ids left) : (Y.addr.isNone && pd.isNone) = decide (left = 0) := by
  have hn := h.n
  cases Y with
  | nil =>
    cases pd with
    | none => have : left = 0 := hn.symm; rw [this]; rfl
    | some z =>
      have : left = 1 := hn.symm
      rw [this]; rfl
  | node b f t A d m lo hi =>
    have := h.g.wn
    rw [decide_eq_false (by omega)]; rfl
theorem CuI.len {M : List HP} {q : Pt → Nat × Nat} {l : List Pt} {c : Nat} {z0 : Option (Nat × Nat × Nat)} {q1 tot : List Int} {Y : SA} {pd : Option (Nat × Nat × Nat)} {ids : List Int} {left : Nat} (h : CuI M q l c z0 q1 tot Y pd ids left) : ids.length ≤ tot.length := by
  have := h.p.length_eq
  rw [List.length_append] at this; omega
theorem CuI.end_ {M : List HP} {q : Pt → Nat × Nat} {l : List Pt} {c : Nat} {z0 : Option (Nat × Nat × Nat)} {q1 tot : List Int} {Y : SA} {pd : Option (Nat × Nat × Nat)} {ids : List Int} (h : CuI M q l c z0 q1 tot Y pd ids 0) : ids.Perm tot ∧ Y = .nil ∧ pd = none := by
  have hd := h.done
  cases Y with
  | node b f t A d m lo hi => simp [SA.addr] at hd
  | nil =>
    cases pd with
    | some z => simp at hd
    | none => exact ⟨by simpa [SA.way, idsOf, pdL] using h.p, rfl, rfl⟩
theorem cStep_ctr (cb c : Nat) (nn : Int) (q : Pt → Nat × Nat) (l : List Pt) (q1 tot : List Int) (M : List HP)
    (hq : q1.length ≤ 1000) (hl : l.length ≤ 1000) (ht : tot.length ≤ 1000) (Y : SA) (pd : Option (Nat × Nat × Nat)) (A : Option Addr) (d k left : Nat) (ids : List Int) (hA : 0 < ids.length → ∃ b, A = some ⟨b, 0, none⟩) (hI : CuI M q l c none q1 tot Y pd ids left) (hk : k + left ≤ 10000) :
    Ctr Try.prog 11 #[.pointer (some ⟨cb, 0, none⟩), .int .i64 nn] (blk cb 55 (cuC Y c pd A ids.length d k) :: own 3 1 A ids.length d (flat ids) :: M) fun r L' => r = .tuple #[.int .i64 (min nn.toNat left : Nat), .bool (decide (left - min nn.toNat left = 0))] ∧ ∃ Y' pd' A' d' ids', (CuI M q l c none q1 tot Y' pd' ids' (left - min nn.toNat left) ∧ (0 < ids'.length → ∃ b, A' = some ⟨b, 0, none⟩)) ∧ L' = blk cb 55 (cuC Y' c pd' A' ids'.length d' (k + min nn.toNat left)) :: own 3 1 A' ids'.length d' (flat ids') :: M := by
  refine Ctr_of (fn := Try.f11) (n := 22) Try.func11 rfl rfl rfl ?_
  intro g F
  (repeat first | refine G_seq ?_ | refine G_skip ?_ | refine G_endblk ?_ | refine G_block ?_ | refine G_exit rfl ?_)
  refine G_region ?_
  refine GO_q rfl rfl (ev_assign rfl) ?_
  refine GO_q rfl rfl (ev_assign rfl) ?_
  refine GO_nil ?_
  (repeat first | refine G_seq ?_ | refine G_skip ?_ | refine G_endblk ?_ | refine G_block ?_ | refine G_exit rfl ?_)
  refine G_region ?_
  refine GO_q rfl rfl (ev_assign rfl) ?_
  refine GO_nil ?_
  (repeat first | refine G_seq ?_ | refine G_skip ?_ | refine G_endblk ?_ | refine G_block ?_ | refine G_exit rfl ?_)
  refine G_loop (ι := Nat × SA × Option (Nat × Nat × Nat) × Option Addr × Nat × List Int) (fun z => [(0, .pointer (some ⟨cb, 0, none⟩)), (1, .int .i64 nn), (6, .int .i64 (z.1 : Nat))]) (fun z => blk cb 55 (cuC z.2.1 c z.2.2.1 z.2.2.2.1 z.2.2.2.2.2.length z.2.2.2.2.1 (k + z.1)) :: own 3 1 z.2.2.2.1 z.2.2.2.2.2.length z.2.2.2.2.1 (flat z.2.2.2.2.2) :: F :: M)
    (fun z => z.1 ≤ nn.toNat ∧ z.1 ≤ left ∧ CuI M q l c none q1 tot z.2.1 z.2.2.1 z.2.2.2.2.2 (left - z.1) ∧ (0 < z.2.2.2.2.2.length → ∃ b, z.2.2.2.1 = some ⟨b, 0, none⟩)) (fun z => left - z.1) (0, Y, pd, A, d, ids) ⟨Nat.zero_le _, Nat.zero_le _, hI, hA⟩ ⟨rfl, rfl, rfl, trivial⟩ (by (repeat first | exact en_refl | (apply en_blk; focus ((repeat' first | exact Pick.here | apply Pick.skip | apply Pick.app); done); focus rfl) | (apply en_own; focus ((repeat' first | exact Pick.here | apply Pick.skip | apply Pick.app); done); focus rfl) | (apply en_pick; focus ((repeat' first | exact Pick.here | apply Pick.skip | apply Pick.app); done)) | apply en_drop | apply en_app) <;> fail) ?_
  rintro ⟨j, Y, pd, A, d, ids⟩ ⟨f1, f2, f3, f4⟩
  simp only at f1 f2 f3 f4
  dsimp only
  have hdn := f3.done
  have hil := f3.len
  have cd := fun L h => cdone_ctr (cb := cb) (c := c) (Y := Y) (A := A) (n := ids.length) (d := d) (k := k + j) pd (f3.z.elim id id) L h
  rw [hdn] at cd
  by_cases c1 : (j : Int) < nn
  · by_cases c2 : left - j = 0
    · rw [decide_eq_true c2] at cd
      have e1 : min nn.toNat left = j := by omega
      (repeat first | refine G_seq ?_ | refine G_skip ?_ | refine G_endblk ?_ | refine G_block ?_ | refine G_exit rfl ?_)
      refine G_region ?_
      refine GO_q rfl rfl (ev_move rfl) ?_
      refine GO_q rfl rfl (ev_move rfl) ?_
      (first | refine GO_q rfl rfl (ev_lssN rfl rfl) ?_ | refine GO_q rfl rfl (ev_lss rfl rfl) ?_)
      refine GO_q rfl rfl (ev_move rfl) ?_
      refine GO_yes rfl rfl rfl (decide_eq_true c1) ?_
      refine GO_q rfl rfl (ev_move rfl) ?_
      refine GO_yes rfl rfl rfl (decide_eq_true c1) ?_
      refine GO_eff rfl rfl (eff_call rfl (cd _ (LdN.blk rfl))) ?_; rintro _ _ ⟨rfl, rfl⟩
      refine GO_yes rfl rfl rfl (decide_eq_true c1) ?_
      refine GO_q rfl rfl (ev_not rfl) ?_
      refine GO_q rfl rfl (ev_pick_t rfl (decide_eq_true c1) rfl) ?_
      refine GO_nil ?_
      (repeat first | refine G_seq ?_ | refine G_skip ?_ | refine G_endblk ?_ | refine G_block ?_ | refine G_exit rfl ?_)
      refine G_cond_f rfl rfl ?_
      (repeat first | refine G_seq ?_ | refine G_skip ?_ | refine G_endblk ?_ | refine G_block ?_ | refine G_exit rfl ?_)
      refine G_region ?_
      refine GO_q rfl rfl (ev_move rfl) ?_
      refine GO_q rfl rfl (ev_move rfl) ?_
      refine GO_eff rfl rfl (eff_call rfl (cd _ (LdN.blk rfl))) ?_; rintro _ _ ⟨rfl, rfl⟩
      refine GO_q rfl rfl (ev_assign rfl) ?_
      refine GO_q rfl rfl (ev_assign rfl) ?_
      refine GO_nil ?_
      rw [e1, c2]
      (repeat first | refine G_seq ?_ | refine G_skip ?_ | refine G_endblk ?_ | refine G_block ?_ | refine G_exit rfl ?_)
      exact G_ret (L' := blk cb 55 (cuC Y c pd A ids.length d (k + j)) :: own 3 1 A ids.length d (flat ids) :: M) rfl (.tmp rfl (.tmp rfl .nil)) (by (repeat first | exact en_refl | (apply en_blk; focus ((repeat' first | exact Pick.here | apply Pick.skip | apply Pick.app); done); focus rfl) | (apply en_own; focus ((repeat' first | exact Pick.here | apply Pick.skip | apply Pick.app); done); focus rfl) | (apply en_pick; focus ((repeat' first | exact Pick.here | apply Pick.skip | apply Pick.app); done)) | apply en_drop | apply en_app) <;> fail) ⟨rfl, Y, pd, A, d, ids, ⟨by rw [← c2]; exact f3, f4⟩, rfl⟩
    · rw [decide_eq_false c2] at cd
      (repeat first | refine G_seq ?_ | refine G_skip ?_ | refine G_endblk ?_ | refine G_block ?_ | refine G_exit rfl ?_)
      refine G_region ?_
      refine GO_q rfl rfl (ev_move rfl) ?_
      refine GO_q rfl rfl (ev_move rfl) ?_
      (first | refine GO_q rfl rfl (ev_lssN rfl rfl) ?_ | refine GO_q rfl rfl (ev_lss rfl rfl) ?_)
      refine GO_q rfl rfl (ev_move rfl) ?_
      refine GO_yes rfl rfl rfl (decide_eq_true c1) ?_
      refine GO_q rfl rfl (ev_move rfl) ?_
      refine GO_yes rfl rfl rfl (decide_eq_true c1) ?_
      refine GO_eff rfl rfl (eff_call rfl (cd _ (LdN.blk rfl))) ?_; rintro _ _ ⟨rfl, rfl⟩
      refine GO_yes rfl rfl rfl (decide_eq_true c1) ?_
      refine GO_q rfl rfl (ev_not rfl) ?_
      refine GO_q rfl rfl (ev_pick_t rfl (decide_eq_true c1) rfl) ?_
      refine GO_nil ?_
      (repeat first | refine G_seq ?_ | refine G_skip ?_ | refine G_endblk ?_ | refine G_block ?_ | refine G_exit rfl ?_)
      refine G_cond_t rfl rfl ?_
      cases Y with
      | nil =>
        cases pd with
        | none => simp [SA.addr, c2] at hdn
        | some z => exact absurd (f3.z.elim id id) (by simp)
      | node b f' t' B e m lo hi =>
        obtain ⟨a1, a2, a3, a4, a5⟩ := f3.g.next (lo := lo) (hi := hi)
        have hwn := f3.g.wn
        have hml := a5.length_le
        have hn9 := f3.n
        have hp := f3.p
        rw [a2] at hp
        have co := cone_node cb b f' t' B e m lo hi c pd A d (k + j) ids (F :: M) f4 f3.s.skip a1 (by omega) (by omega) (by omega)
        (repeat first | refine G_seq ?_ | refine G_skip ?_ | refine G_endblk ?_ | refine G_block ?_ | refine G_exit rfl ?_)
        refine G_region ?_
        refine GO_q rfl rfl (ev_move rfl) ?_
        refine GO_eff rfl rfl (eff_call rfl (co)) ?_; rintro _ _ ⟨rfl, A', d', hA', rfl⟩
        refine GO_nil ?_
        (repeat first | refine G_seq ?_ | refine G_skip ?_ | refine G_endblk ?_ | refine G_block ?_ | refine G_exit rfl ?_)
        refine G_region ?_
        refine GO_q rfl rfl (ev_move rfl) ?_
        (first | refine GO_q rfl rfl (ev_addN (q := 1) rfl rfl (by first | omega | (simp; done) | (simp; omega))) ?_ | refine GO_q rfl rfl (ev_add rfl rfl (by first | omega | (simp; done) | (simp; omega))) ?_)
        refine GO_q rfl rfl (ev_assign rfl) ?_
        refine GO_nil ?_
        (repeat first | refine G_seq ?_ | refine G_skip ?_ | refine G_endblk ?_ | refine G_block ?_ | refine G_exit rfl ?_)
        refine G_round (j + 1, SA.nxt c (.node b f' t' B e m lo hi), pd, A', d', ids ++ srt (idsOf m)) ⟨by simp only; omega, by simp only; omega, ⟨f3.s.next, a3, ?_, by simp only; omega, f3.z⟩, hA'⟩ (by simp only; omega) ⟨rfl, rfl, rfl, trivial⟩ (fun _ s => s)
        refine List.Perm.trans ?_ hp
        simp only [List.append_assoc]
        refine List.Perm.append_left ids ?_
        unfold idsOf
        rw [List.map_append, List.append_assoc]
        exact (srt_perm _).append_right _
  · have e1 : min nn.toNat left = j := by omega
    (repeat first | refine G_seq ?_ | refine G_skip ?_ | refine G_endblk ?_ | refine G_block ?_ | refine G_exit rfl ?_)
    refine G_region ?_
    refine GO_q rfl rfl (ev_move rfl) ?_
    refine GO_q rfl rfl (ev_move rfl) ?_
    (first | refine GO_q rfl rfl (ev_lssN rfl rfl) ?_ | refine GO_q rfl rfl (ev_lss rfl rfl) ?_)
    refine GO_q rfl rfl (ev_move rfl) ?_
    refine GO_no rfl rfl rfl (decide_eq_false c1) ?_
    refine GO_no rfl rfl rfl (decide_eq_false c1) ?_
    refine GO_no rfl rfl rfl (decide_eq_false c1) ?_
    refine GO_q rfl rfl (ev_pick_f rfl (decide_eq_false c1) rfl) ?_
    refine GO_nil ?_
    (repeat first | refine G_seq ?_ | refine G_skip ?_ | refine G_endblk ?_ | refine G_block ?_ | refine G_exit rfl ?_)
    refine G_cond_f rfl rfl ?_
    (repeat first | refine G_seq ?_ | refine G_skip ?_ | refine G_endblk ?_ | refine G_block ?_ | refine G_exit rfl ?_)
    refine G_region ?_
    refine GO_q rfl rfl (ev_move rfl) ?_
    refine GO_q rfl rfl (ev_move rfl) ?_
    refine GO_eff rfl rfl (eff_call rfl (cd _ (LdN.blk rfl))) ?_; rintro _ _ ⟨rfl, rfl⟩
    refine GO_q rfl rfl (ev_assign rfl) ?_
    refine GO_q rfl rfl (ev_assign rfl) ?_
    refine GO_nil ?_
    rw [e1]
    (repeat first | refine G_seq ?_ | refine G_skip ?_ | refine G_endblk ?_ | refine G_block ?_ | refine G_exit rfl ?_)
    exact G_ret (L' := blk cb 55 (cuC Y c pd A ids.length d (k + j)) :: own 3 1 A ids.length d (flat ids) :: M) rfl (.tmp rfl (.tmp rfl .nil)) (by (repeat first | exact en_refl | (apply en_blk; focus ((repeat' first | exact Pick.here | apply Pick.skip | apply Pick.app); done); focus rfl) | (apply en_own; focus ((repeat' first | exact Pick.here | apply Pick.skip | apply Pick.app); done); focus rfl) | (apply en_pick; focus ((repeat' first | exact Pick.here | apply Pick.skip | apply Pick.app); done)) | apply en_drop | apply en_app) <;> fail) ⟨rfl, Y, pd, A, d, ids, ⟨f3, f4⟩, rfl⟩
/-- Steps enough. -/
theorem cRun_ctr (cb c : Nat) (nn : Int) (q : Pt → Nat × Nat) (l : List Pt) (q1 tot : List Int) (M : List HP)
    (hq : q1.length ≤ 1000) (hl : l.length ≤ 1000) (ht : tot.length ≤ 1000) (Y : SA) (pd : Option (Nat × Nat × Nat)) (A : Option Addr) (d k left : Nat) (ids : List Int) (hA : 0 < ids.length → ∃ b, A = some ⟨b, 0, none⟩) (hI : CuI M q l c none q1 tot Y pd ids left) (hk : k + left ≤ 10000) (hn : left ≤ nn.toNat) :
    Ctr Try.prog 11 #[.pointer (some ⟨cb, 0, none⟩), .int .i64 nn] (blk cb 55 (cuC Y c pd A ids.length d k) :: own 3 1 A ids.length d (flat ids) :: M) fun r L' => r = .tuple #[.int .i64 (left : Nat), .bool true] ∧ ∃ A' d' ids', (ids'.Perm tot ∧ (0 < ids'.length → ∃ b, A' = some ⟨b, 0, none⟩)) ∧ L' = blk cb 55 (cuC .nil c none A' ids'.length d' (k + left)) :: own 3 1 A' ids'.length d' (flat ids') :: M := by
  refine (cStep_ctr cb c nn q l q1 tot M hq hl ht Y pd A d k left ids hA hI hk).mono ?_
  rintro r L' ⟨e1, Y', pd', A', d', ids', ⟨hI', hA'⟩, e2⟩
  have e3 : min nn.toNat left = left := by omega
  rw [e3] at e1 e2 hI'
  rw [Nat.sub_self] at e1 hI'
  obtain ⟨p1, p2, p3⟩ := hI'.end_
  subst p2 p3
  exact ⟨e1, A', d', ids', ⟨p1, hA'⟩, e2⟩
end Go.Proofs.Ytmgkmammkmlakaa
