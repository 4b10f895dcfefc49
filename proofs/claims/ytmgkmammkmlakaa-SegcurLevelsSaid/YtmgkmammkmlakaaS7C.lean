/- The cursor over cells, where nothing is left for a last step. -/
import Derived.Test.YtmgkmammkmlakaaSgL
import Derived.Test.YtmgkmammkmlakaaSgM
import Derived.Test.YtmgkmammkmlakaaSgQ
import Derived.Test.YtmgkmammkmlakaaFnE
namespace Go.Proofs.Ytmgkmammkmlakaa
attribute [local irreducible] sat
open Go.RowKit
set_option linter.unusedVariables false
set_option linter.unusedSimpArgs false
set_option maxRecDepth 100000

def fnV : Option (Nat × Nat × Nat) → Value
  | none => .nilFunc
  | some _ => .nilFunc
/-- A cursor: what is next, the cell, what is taken at last, what was found. -/
@[reducible] def cuC (Y : SA) (c : Nat) (pd : Option (Nat × Nat × Nat)) (A : Option Addr) (n d k : Nat) : List Value := [.pointer Y.addr, .int .i64 (c : Nat), fnV pd, .slice A n d, .int .i64 (k : Nat)]
/-- What is left to do. -/
def SA.wn (c : Nat) : SA → Nat
  | .nil => 0
  | .node _ f t _ _ _ lo hi => if f ≤ c ∧ c ≤ t then 1 + (lo.wn c + hi.wn c) else 0
theorem wn_off {q : Pt → Nat × Nat} {l : List Pt} {X : SA} {f t c : Nat} {o : Pt → Bool} (h : SgOk q l X f t o) (hc : c < f ∨ t < c) : X.wn c = 0 := by
  cases X with
  | nil => rfl
  | node b f' t' A d k lo hi =>
    obtain ⟨h1, h2, _⟩ := h
    subst h1 h2
    unfold SA.wn
    rw [if_neg (by omega)]
theorem SgOk.wn {q : Pt → Nat × Nat} {l : List Pt} {c : Nat} : ∀ (k : Nat) {X : SA} {f t : Nat} {o : Pt → Bool}, SgOk q l X f t o → f ≤ c → c ≤ t → t - f < 2 ^ k → X.wn c = wy k f t c
  | k, .nil, _, _, _, h, _, _, _ => by cases h
  | k, .node b f' t' A d m lo hi, f, t, o, ⟨h1, h2, h3, h4⟩, hc1, hc2, hk => by
    subst h1 h2
    unfold SA.wn
    rw [if_pos ⟨hc1, hc2⟩]
    rcases h4 with ⟨h4, h5, h6⟩ | ⟨h4, h5, h6⟩
    · cases k with
      | zero => simp at hk; omega
      | succ k =>
        rw [Nat.pow_succ] at hk
        unfold wy
        rw [if_pos h4]
        by_cases hm : c ≤ f' + (t' - f') / 2
        · rw [if_pos hm, h5.wn k hc1 hm (by omega), wn_off h6 (.inl (by omega))]; rfl
        · rw [if_neg hm, h6.wn k (by omega) hc2 (by omega), wn_off h5 (.inr (by omega)), Nat.zero_add]
    · subst h5 h6
      have : ∀ k, wy k f' t' c = 1 := fun k => by
        cases k with
        | zero => rfl
        | succ k => unfold wy; rw [if_neg (by omega)]
      rw [this]; rfl
theorem Leads.wn {q : Pt → Nat × Nat} {l : List Pt} {b f' t' d c : Nat} {A : Option Addr} {m : List Pt} {lo hi : SA} (h : Leads q l c (.node b f' t' A d m lo hi)) : (SA.node b f' t' A d m lo hi).wn c = (SA.nxt c (.node b f' t' A d m lo hi)).wn c + 1 := by
  rcases h with h | ⟨f, t, o, h, h1, h2⟩
  · cases h
  · have hs := h.step h1 h2
    obtain ⟨e1, e2, e3, e4⟩ := h
    subst e1 e2
    obtain ⟨_, _, a3⟩ := hs
    have hw : (SA.node b f' t' A d m lo hi).wn c = 1 + (lo.wn c + hi.wn c) := if_pos ⟨h1, h2⟩
    rw [hw]
    rcases e4 with ⟨h4, h5, h6⟩ | ⟨h4, h5, h6⟩
    · rcases a3 with ⟨k1, e⟩ | ⟨k1, k2, e, k3⟩ | ⟨k1, k2, e, k3⟩
      · omega
      · rw [e, wn_off h6 (.inl (by omega))]; omega
      · rw [e, wn_off h5 (.inr (by omega))]; omega
    · subst h5 h6
      rw [nxt_node]; simp [SA.hasc, SA.wn]
section
variable {cb c : Nat} {Y : SA} {A : Option Addr} {n d k : Nat}
theorem cdone_ctr (pd : Option (Nat × Nat × Nat)) (hpd : pd = none) (L : List HP) (h : LdN L cb 0 5 (cuC Y c pd A n d k)) : Ctr Try.prog 23 #[.pointer (some ⟨cb, 0, none⟩)] L fun v L' => v = .bool (Y.addr.isNone && pd.isNone) ∧ L' = L := by
  subst hpd
  have h0 : Ld L ⟨cb, 0 + 0, none⟩ (.pointer Y.addr) := h.at_ (i := 0) rfl
  have h2 : Ld L ⟨cb, 0 + 2, none⟩ .nilFunc := h.at_ (i := 2) rfl
  cases Y with
  | nil =>
    refine Ctr_of (fn := Try.f23) (n := 19) Try.func23 rfl rfl rfl ?_
    intro g F
    (repeat first | refine G_seq ?_ | refine G_skip ?_ | refine G_endblk ?_ | refine G_block ?_ | refine G_exit rfl ?_)
    refine G_region ?_
    refine GO_q rfl rfl (ev_assign rfl) ?_
    refine GO_nil ?_
    (repeat first | refine G_seq ?_ | refine G_skip ?_ | refine G_endblk ?_ | refine G_block ?_ | refine G_exit rfl ?_)
    refine G_region ?_
    refine GO_q rfl rfl (ev_move rfl) ?_
    (first | refine GO_q rfl rfl (ev_eqlNil rfl rfl) ?_ | refine GO_q rfl rfl (ev_eqlPtr rfl rfl) ?_)
    refine GO_q rfl rfl (ev_move rfl) ?_
    refine GO_yes rfl rfl rfl rfl ?_
    refine GO_q rfl rfl (ev_move rfl) ?_
    refine GO_yes rfl rfl rfl rfl ?_
    (first | refine GO_q rfl rfl (ev_nilCheck rfl) ?_ | refine GO_q rfl rfl (ev_nilCheckF (by simp) rfl) ?_)
    refine GO_yes rfl rfl rfl rfl ?_
    refine GO_q rfl rfl (ev_fieldAddr rfl) ?_
    refine GO_yes rfl rfl rfl rfl ?_
    refine GO_q rfl rfl (ev_load rfl (by repeat' first | exact Ld.blk rfl | assumption | apply Ld.skip | apply Ld.app)) ?_
    refine GO_yes rfl rfl rfl rfl ?_
    (first | refine GO_q rfl rfl (ev_eqlNil rfl rfl) ?_ | refine GO_q rfl rfl (ev_eqlPtr rfl rfl) ?_)
    refine GO_yes rfl rfl rfl rfl ?_
    refine GO_q rfl rfl (ev_move rfl) ?_
    refine GO_yes rfl rfl rfl rfl ?_
    refine GO_q rfl rfl (ev_move rfl) ?_
    refine GO_yes rfl rfl rfl rfl ?_
    (first | refine GO_q rfl rfl (ev_nilCheck rfl) ?_ | refine GO_q rfl rfl (ev_nilCheckF (by simp) rfl) ?_)
    refine GO_yes rfl rfl rfl rfl ?_
    refine GO_q rfl rfl (ev_fieldAddr rfl) ?_
    refine GO_yes rfl rfl rfl rfl ?_
    refine GO_q rfl rfl (ev_load rfl (by repeat' first | exact Ld.blk rfl | assumption | apply Ld.skip | apply Ld.app)) ?_
    refine GO_yes rfl rfl rfl rfl ?_
    refine GO_q rfl rfl (ev_eqlFn1 (by kernel_rfl) rfl rfl) ?_
    refine GO_yes rfl rfl rfl rfl ?_
    refine GO_q rfl rfl (ev_pick_t rfl rfl rfl) ?_
    refine GO_q rfl rfl (ev_pick_f rfl rfl rfl) ?_
    refine GO_q rfl rfl (ev_assign rfl) ?_
    refine GO_nil ?_
    (repeat first | refine G_seq ?_ | refine G_skip ?_ | refine G_endblk ?_ | refine G_block ?_ | refine G_exit rfl ?_)
    refine G_ret rfl (.tmp rfl .nil) (by (repeat first | exact fun _ s => s | apply en_keep | apply en_drop | apply en_app) <;> fail) ⟨rfl, rfl⟩
  | node b f t B e m lo hi =>
    have h0' : Ld L ⟨cb, 0 + 0, none⟩ (.pointer (some ⟨b, 0, none⟩)) := h0
    refine Ctr_of (fn := Try.f23) (n := 19) Try.func23 rfl rfl rfl ?_
    intro g F
    (repeat first | refine G_seq ?_ | refine G_skip ?_ | refine G_endblk ?_ | refine G_block ?_ | refine G_exit rfl ?_)
    refine G_region ?_
    refine GO_q rfl rfl (ev_assign rfl) ?_
    refine GO_nil ?_
    (repeat first | refine G_seq ?_ | refine G_skip ?_ | refine G_endblk ?_ | refine G_block ?_ | refine G_exit rfl ?_)
    refine G_region ?_
    refine GO_q rfl rfl (ev_move rfl) ?_
    (first | refine GO_q rfl rfl (ev_eqlNil rfl rfl) ?_ | refine GO_q rfl rfl (ev_eqlPtr rfl rfl) ?_)
    refine GO_q rfl rfl (ev_move rfl) ?_
    refine GO_yes rfl rfl rfl rfl ?_
    refine GO_q rfl rfl (ev_move rfl) ?_
    refine GO_yes rfl rfl rfl rfl ?_
    (first | refine GO_q rfl rfl (ev_nilCheck rfl) ?_ | refine GO_q rfl rfl (ev_nilCheckF (by simp) rfl) ?_)
    refine GO_yes rfl rfl rfl rfl ?_
    refine GO_q rfl rfl (ev_fieldAddr rfl) ?_
    refine GO_yes rfl rfl rfl rfl ?_
    refine GO_q rfl rfl (ev_load rfl (by repeat' first | exact Ld.blk rfl | assumption | apply Ld.skip | apply Ld.app)) ?_
    refine GO_yes rfl rfl rfl rfl ?_
    (first | refine GO_q rfl rfl (ev_eqlNil rfl rfl) ?_ | refine GO_q rfl rfl (ev_eqlPtr rfl rfl) ?_)
    refine GO_yes rfl rfl rfl rfl ?_
    refine GO_q rfl rfl (ev_move rfl) ?_
    refine GO_no rfl rfl rfl rfl ?_
    refine GO_no rfl rfl rfl rfl ?_
    refine GO_no rfl rfl rfl rfl ?_
    refine GO_no rfl rfl rfl rfl ?_
    refine GO_no rfl rfl rfl rfl ?_
    refine GO_yes rfl rfl rfl rfl ?_
    refine GO_q rfl rfl (ev_pick_f rfl rfl rfl) ?_
    refine GO_q rfl rfl (ev_pick_f rfl rfl rfl) ?_
    refine GO_q rfl rfl (ev_assign rfl) ?_
    refine GO_nil ?_
    (repeat first | refine G_seq ?_ | refine G_skip ?_ | refine G_endblk ?_ | refine G_block ?_ | refine G_exit rfl ?_)
    refine G_ret rfl (.tmp rfl .nil) (by (repeat first | exact fun _ s => s | apply en_keep | apply en_drop | apply en_app) <;> fail) ⟨rfl, rfl⟩
theorem cN_ctr (pd : Option (Nat × Nat × Nat)) (L : List HP) (h : LdN L cb 0 5 (cuC Y c pd A n d k)) : Ctr Try.prog 12 #[.pointer (some ⟨cb, 0, none⟩)] L fun v L' => v = .int .i64 (n : Nat) ∧ L' = L := by
  have h0 : Ld L ⟨cb, 0 + 3, none⟩ (.slice A n d) := h.at_ (i := 3) rfl
  refine Ctr_of (fn := Try.f12) (n := 10) Try.func12 rfl rfl rfl ?_
  intro g F
  (repeat first | refine G_seq ?_ | refine G_skip ?_ | refine G_endblk ?_ | refine G_block ?_ | refine G_exit rfl ?_)
  refine G_region ?_
  refine GO_q rfl rfl (ev_assign rfl) ?_
  refine GO_nil ?_
  (repeat first | refine G_seq ?_ | refine G_skip ?_ | refine G_endblk ?_ | refine G_block ?_ | refine G_exit rfl ?_)
  refine G_region ?_
  refine GO_q rfl rfl (ev_move rfl) ?_
  (first | refine GO_q rfl rfl (ev_eqlNil rfl rfl) ?_ | refine GO_q rfl rfl (ev_eqlPtr rfl rfl) ?_)
  refine GO_nil ?_
  (repeat first | refine G_seq ?_ | refine G_skip ?_ | refine G_endblk ?_ | refine G_block ?_ | refine G_exit rfl ?_)
  refine G_cond_f rfl rfl ?_
  (repeat first | refine G_seq ?_ | refine G_skip ?_ | refine G_endblk ?_ | refine G_block ?_ | refine G_exit rfl ?_)
  refine G_region ?_
  refine GO_q rfl rfl (ev_move rfl) ?_
  (first | refine GO_q rfl rfl (ev_nilCheck rfl) ?_ | refine GO_q rfl rfl (ev_nilCheckF (by simp) rfl) ?_)
  refine GO_q rfl rfl (ev_fieldAddr rfl) ?_
  refine GO_q rfl rfl (ev_load rfl (by repeat' first | exact Ld.blk rfl | assumption | apply Ld.skip | apply Ld.app)) ?_
  refine GO_q rfl rfl (ev_len rfl) ?_
  refine GO_q rfl rfl (ev_assign rfl) ?_
  refine GO_nil ?_
  (repeat first | refine G_seq ?_ | refine G_skip ?_ | refine G_endblk ?_ | refine G_block ?_ | refine G_exit rfl ?_)
  refine G_ret rfl (.tmp rfl .nil) (by (repeat first | exact fun _ s => s | apply en_keep | apply en_drop | apply en_app) <;> fail) ⟨rfl, rfl⟩
end
/-- A step at a node. -/
theorem cone_node (cb b f' t' : Nat) (B : Option Addr) (e : Nat) (m : List Pt) (lo hi : SA) (c : Nat) (pd : Option (Nat × Nat × Nat)) (A : Option Addr) (d k : Nat) (ids : List Int) (M : List HP) (hA : 0 < ids.length → ∃ b, A = some ⟨b, 0, none⟩) (h : SIn M (.node b f' t' B e m lo hi)) (hc : (SA.node b f' t' B e m lo hi).hasc c = true) (hm : m.length ≤ 1000) (hz : ids.length ≤ 100000) (hk : k ≤ 100000) :
    Ctr Try.prog 24 #[.pointer (some ⟨cb, 0, none⟩)] (blk cb 55 (cuC (.node b f' t' B e m lo hi) c pd A ids.length d k) :: own 3 1 A ids.length d (flat ids) :: M) fun v L' => v = .tuple #[] ∧ ∃ A' d', (0 < (ids ++ srt (idsOf m)).length → ∃ b, A' = some ⟨b, 0, none⟩) ∧ L' = blk cb 55 (cuC (SA.nxt c (.node b f' t' B e m lo hi)) c pd A' (ids ++ srt (idsOf m)).length d' (k + 1)) :: own 3 1 A' (ids ++ srt (idsOf m)).length d' (flat (ids ++ srt (idsOf m))) :: M := by
  have hlk := fun M h => Look_yes b f' t' B e m lo hi c M h hc (by omega)
  have hql : (srt (idsOf m)).length ≤ 1000 := by rw [srt_length, idsOf_length]; exact hm
  have ea : (SA.node b f' t' B e m lo hi).addr = some ⟨b, 0, none⟩ := rfl
  generalize hnx : SA.nxt c (.node b f' t' B e m lo hi) = Y2 at *
  generalize srt (idsOf m) = q at *
  refine Ctr_of (fn := Try.f24) (n := 57) Try.func24 rfl rfl rfl ?_
  intro g F
  (repeat first | refine G_seq ?_ | refine G_skip ?_ | refine G_endblk ?_ | refine G_block ?_ | refine G_exit rfl ?_)
  refine G_region ?_
  refine GO_q rfl rfl (ev_move rfl) ?_
  (first | refine GO_q rfl rfl (ev_nilCheck rfl) ?_ | refine GO_q rfl rfl (ev_nilCheckF (by simp) rfl) ?_)
  refine GO_q rfl rfl (ev_fieldAddr rfl) ?_
  refine GO_q rfl rfl (ev_load rfl (by repeat' first | exact Ld.blk rfl | assumption | apply Ld.skip | apply Ld.app)) ?_
  (first | refine GO_q rfl rfl (ev_addN (q := 1) rfl rfl (by first | omega | (simp; done) | (simp; omega))) ?_ | refine GO_q rfl rfl (ev_add rfl rfl (by first | omega | (simp; done) | (simp; omega))) ?_)
  (first | refine GO_q rfl rfl (ev_nilCheck rfl) ?_ | refine GO_q rfl rfl (ev_nilCheckF (by simp) rfl) ?_)
  refine GO_q rfl rfl (ev_fieldAddr rfl) ?_
  refine GO_eff rfl rfl (eff_store rfl rfl rfl (by repeat' first | exact Upd.here rfl | apply Upd.skip | apply Upd.app)) ?_; rintro _ _ ⟨rfl, rfl⟩
  refine GO_nil ?_
  (repeat first | refine G_seq ?_ | refine G_skip ?_ | refine G_endblk ?_ | refine G_block ?_ | refine G_exit rfl ?_)
  refine G_region ?_
  refine GO_q rfl rfl (ev_move rfl) ?_
  (first | refine GO_q rfl rfl (ev_nilCheck rfl) ?_ | refine GO_q rfl rfl (ev_nilCheckF (by simp) rfl) ?_)
  refine GO_q rfl rfl (ev_fieldAddr rfl) ?_
  refine GO_q rfl rfl (ev_load rfl (by repeat' first | exact Ld.blk rfl | assumption | apply Ld.skip | apply Ld.app)) ?_
  (first | refine GO_q rfl rfl (ev_eqlNil rfl rfl) ?_ | refine GO_q rfl rfl (ev_eqlPtr rfl rfl) ?_)
  refine GO_nil ?_
  (repeat first | refine G_seq ?_ | refine G_skip ?_ | refine G_endblk ?_ | refine G_block ?_ | refine G_exit rfl ?_)
  refine G_cond_f rfl rfl ?_
  (repeat first | refine G_seq ?_ | refine G_skip ?_ | refine G_endblk ?_ | refine G_block ?_ | refine G_exit rfl ?_)
  (repeat first | refine G_seq ?_ | refine G_skip ?_ | refine G_endblk ?_ | refine G_block ?_ | refine G_exit rfl ?_)
  refine G_draw (.q 0 (.q 1 (.q 2 (.q 3 (.q 4 (.q 5 (.q 6 (.q 7 (.e 8 (.q 9 (.q 10 (.q 11 (.q 12 (.q 13 .nil)))))))))))))) (by kernel_rfl) (by kernel_rfl) ?_
  refine RS_m retB_noPanic rfl rfl rfl rfl (ev_move rfl) ?_
  (first | refine RS_m retB_noPanic rfl rfl rfl rfl (ev_nilCheck rfl) ?_ | refine RS_m retB_noPanic rfl rfl rfl rfl (ev_nilCheckF (by simp) rfl) ?_)
  refine RS_m retB_noPanic rfl rfl rfl rfl (ev_fieldAddr rfl) ?_
  refine RS_q retB_noPanic rfl rfl rfl rfl (ev_load rfl (by repeat' first | exact Ld.blk rfl | assumption | apply Ld.skip | apply Ld.app)) ?_
  refine RS_m retB_noPanic rfl rfl rfl rfl (ev_move rfl) ?_
  (first | refine RS_m retB_noPanic rfl rfl rfl rfl (ev_nilCheck rfl) ?_ | refine RS_m retB_noPanic rfl rfl rfl rfl (ev_nilCheckF (by simp) rfl) ?_)
  refine RS_m retB_noPanic rfl rfl rfl rfl (ev_fieldAddr rfl) ?_
  refine RS_q retB_noPanic rfl rfl rfl rfl (ev_load rfl (by repeat' first | exact Ld.blk rfl | assumption | apply Ld.skip | apply Ld.app)) ?_
  refine RS_e (RE_eff rfl rfl rfl (eff_call rfl (hlk _ (by repeat' first | exact h | apply SIn.skip))) ?_); rintro _ _ ⟨A1, c1, rfl, ⟨u1, u2, u3⟩, rfl⟩; refine ⟨_, fun _ s => s, (by first | ((repeat first | exact fun _ s => s | apply en_keep | apply en_drop | apply en_app) <;> fail) | ((repeat first | exact en_refl | (apply en_blk; focus ((repeat' first | exact Pick.here | apply Pick.skip | apply Pick.app); done); focus rfl) | (apply en_own; focus ((repeat' first | exact Pick.here | apply Pick.skip | apply Pick.app); done); focus rfl) | (apply en_pick; focus ((repeat' first | exact Pick.here | apply Pick.skip | apply Pick.app); done)) | apply en_drop | apply en_app) <;> fail)), ?_⟩
  refine RS_m retB_noPanic rfl rfl rfl rfl (ev_move rfl) ?_
  refine RS_m retB_noPanic rfl rfl rfl rfl (ev_extract rfl rfl) ?_
  refine RS_m retB_noPanic rfl rfl rfl rfl (ev_extract rfl rfl) ?_
  refine RS_m retB_noPanic rfl rfl rfl rfl (ev_assign rfl) ?_
  refine RS_m retB_noPanic rfl rfl rfl rfl (ev_assign rfl) ?_
  refine RS_nil ?_
  have hri : ∀ M, Rc (own 3 1 A1 q.length c1 (flat q) :: M) 1 A1 q.length (flat q) := fun M => Rc.own (flat_length _) u1
  (repeat first | refine G_seq ?_ | refine G_skip ?_ | refine G_endblk ?_ | refine G_block ?_ | refine G_exit rfl ?_)
  refine G_region ?_
  refine GO_q rfl rfl (ev_move rfl) ?_
  refine GO_q rfl rfl (ev_move rfl) ?_
  refine GO_q rfl rfl (ev_move rfl) ?_
  (first | refine GO_q rfl rfl (ev_nilCheck rfl) ?_ | refine GO_q rfl rfl (ev_nilCheckF (by simp) rfl) ?_)
  refine GO_q rfl rfl (ev_fieldAddr rfl) ?_
  refine GO_q rfl rfl (ev_load rfl (by repeat' first | exact Ld.blk rfl | assumption | apply Ld.skip | apply Ld.app)) ?_
  refine GO_q rfl rfl (ev_move rfl) ?_
  refine GO_eff rfl rfl (eff_append rfl rfl (by repeat' first | exact Pick.here | apply Pick.skip) ((by repeat' first | exact hri _ | apply Rc.skip)) ((flat_one _)) (by rfl) (by decide) (by first | omega | (simp; done) | (simp; omega)) (by first | omega | (simp; done) | (simp; omega))) ?_; rintro _ _ ⟨A51, c51, rfl, hc51, hm51, hn51, rfl⟩
  refine GO_q rfl rfl (ev_move rfl) ?_
  (first | refine GO_q rfl rfl (ev_nilCheck rfl) ?_ | refine GO_q rfl rfl (ev_nilCheckF (by simp) rfl) ?_)
  refine GO_q rfl rfl (ev_fieldAddr rfl) ?_
  refine GO_eff rfl rfl (eff_store rfl rfl rfl (by repeat' first | exact Upd.here rfl | apply Upd.skip | apply Upd.app)) ?_; rintro _ _ ⟨rfl, rfl⟩
  (first | refine GO_q rfl rfl (ev_nilCheck rfl) ?_ | refine GO_q rfl rfl (ev_nilCheckF (by simp) rfl) ?_)
  refine GO_q rfl rfl (ev_fieldAddr rfl) ?_
  refine GO_eff rfl rfl (eff_store rfl rfl rfl (by repeat' first | exact Upd.here rfl | apply Upd.skip | apply Upd.app)) ?_; rintro _ _ ⟨rfl, rfl⟩
  refine GO_nil ?_
  (repeat first | refine G_seq ?_ | refine G_skip ?_ | refine G_endblk ?_ | refine G_block ?_ | refine G_exit rfl ?_)
  have e1 : (ids ++ q).length = ids.length + q.length := List.length_append
  refine G_end (rs := []) (vs := []) (L' := blk cb 55 (cuC Y2 c pd A51 (ids ++ q).length c51 (k + 1)) :: own 3 1 A51 (ids ++ q).length c51 (flat (ids ++ q)) :: M) rfl .nil ?_ ⟨rfl, A51, c51, by rw [e1]; exact hn51, rfl⟩
  rw [e1, flat_append]
  exact (by (repeat first | exact en_refl | (apply en_blk; focus ((repeat' first | exact Pick.here | apply Pick.skip | apply Pick.app); done); focus rfl) | (apply en_own; focus ((repeat' first | exact Pick.here | apply Pick.skip | apply Pick.app); done); focus rfl) | (apply en_pick; focus ((repeat' first | exact Pick.here | apply Pick.skip | apply Pick.app); done)) | apply en_drop | apply en_app) <;> fail)
end Go.Proofs.Ytmgkmammkmlakaa
