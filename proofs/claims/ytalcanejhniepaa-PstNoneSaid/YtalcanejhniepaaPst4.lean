/- Trees that are heaps by Y: what is built anew. -/
import Derived.Test.YtalcanejhniepaaPst3
namespace Go.Proofs.Ytalcanejhniepaa
attribute [local irreducible] sat
set_option linter.unusedVariables false
set_option linter.unusedSimpArgs false
set_option maxRecDepth 100000

/-- No side of a node is too great. -/
def PT.Bal : PT → Prop
  | .nil => True
  | .node p s lo hi => lo.Bal ∧ hi.Bal ∧ max lo.size hi.size ≤ 3 * (lo.size + 1 + hi.size) / 4
/-- A tree of just these points, as it should be. -/
structure PT.Of (t : PT) (l : List Pt) : Prop where
  ok : t.Ok
  bal : t.Bal
  perm : t.els.Perm l
theorem PT.Of.size {t : PT} {l : List Pt} (h : t.Of l) : t.size = l.length := by rw [← t.els_length, h.perm.length_eq]
theorem PT.Of.congr {t : PT} {l m : List Pt} (h : t.Of l) (p : l.Perm m) : t.Of m := ⟨h.ok, h.bal, h.perm.trans p⟩
theorem PT.of_nil : PT.nil.Of [] := ⟨trivial, trivial, .refl _⟩
theorem PT.of_node {p s : Pt} {lo hi : PT} {l m : List Pt} (h1 : lo.Of l) (h2 : hi.Of m) (a : ∀ q ∈ l, beh q s = false) (b : ∀ q ∈ m, beh q s = true) (c : ∀ q ∈ l ++ m, und q p = true) (d : max l.length m.length ≤ 3 * (l.length + 1 + m.length) / 4) :
    (PT.node p s lo hi).Of (p :: (l ++ m)) := by
  refine ⟨⟨h1.ok, h2.ok, fun q hq => a q (h1.perm.subset hq), fun q hq => b q (h2.perm.subset hq), fun q hq => c q ((h1.perm.append h2.perm).subset hq)⟩, ⟨h1.bal, h2.bal, ?_⟩, (h1.perm.append h2.perm).cons p⟩
  rw [h1.size, h2.size]; exact d
/-- What a function leaves that makes a tree. -/
def MadeT (l : List Pt) (L : List HP) (v : Value) (L' : List HP) : Prop := ∃ (a : Option Addr) (t : PT), v = .pointer a ∧ t.Of l ∧ L' = ptH t a :: L
theorem asc_at {l : List Pt} (h : Asc l) {i j : Nat} {a b : Pt} (hi : l[i]? = some a) (hj : l[j]? = some b) (hij : i < j) : a.less b = true := by
  obtain ⟨h1, rfl⟩ := List.getElem?_eq_some_iff.1 hi
  obtain ⟨h2, rfl⟩ := List.getElem?_eq_some_iff.1 hj
  exact List.pairwise_iff_getElem.1 h i j h1 h2 hij
theorem asc_ne {l : List Pt} (h : Asc l) {i j : Nat} {a b : Pt} (hi : l[i]? = some a) (hj : l[j]? = some b) (hij : i ≠ j) : a ≠ b := fun e => by
  subst e
  rcases Nat.lt_or_ge i j with h' | h'
  · have := asc_at h hi hj h'; rw [Pt.less_irrefl] at this; cases this
  · have := asc_at h hj hi (by omega); rw [Pt.less_irrefl] at this; cases this
theorem del_perm {l : List Pt} {i : Nat} {p : Pt} (h : l[i]? = some p) : (p :: (l.take i ++ l.drop (i + 1))).Perm l := by
  obtain ⟨h1, rfl⟩ := List.getElem?_eq_some_iff.1 h
  have e : l = l.take i ++ l[i] :: l.drop (i + 1) := by
    rw [← List.drop_eq_getElem_cons h1, List.take_append_drop]
  conv => rhs; rw [e]
  exact List.perm_middle.symm
theorem del_sub {l : List Pt} {i : Nat} : (l.take i ++ l.drop (i + 1)).Sublist l := by
  have e : (l.take i ++ l.drop i) = l := List.take_append_drop i l
  conv => rhs; rw [← e]
  refine List.Sublist.append (.refl _) ?_
  rw [← List.drop_drop]
  exact List.drop_sublist _ _

theorem build_ctr : ∀ (f : Nat) (A : Option Addr) (n c : Nat) (l : List Pt) (L : List HP), Rd L A n l → n ≤ f → n ≤ 100000 → n ≤ c → c ≤ maxLen → Asc l → Ctr Try.prog 98 #[.slice A n c] L fun v L' => MadeT l L v L' := by
  intro f
  induction f with
  | zero =>
    intro A n c l L hl hf hn hc hc2 ho
    have h1 : l.length = n := hl.len (by decide)
    have h2 : l = [] := List.eq_nil_of_length_eq_zero (by omega)
    obtain rfl : n = 0 := by omega
    subst h2
    refine Ctr_of (fn := Try.f98) (n := 78) Try.func98 rfl rfl rfl ?_
    intro g F
    (repeat first | refine G_seq ?_ | refine G_skip ?_ | refine G_endblk ?_ | refine G_block ?_ | refine G_exit rfl ?_)
    refine G_region ?_
    refine GO_q rfl rfl (ev_assign rfl) ?_
    refine GO_nil ?_
    (repeat first | refine G_seq ?_ | refine G_skip ?_ | refine G_endblk ?_ | refine G_block ?_ | refine G_exit rfl ?_)
    refine G_region ?_
    refine GO_q rfl rfl (ev_move rfl) ?_
    refine GO_q rfl rfl (ev_len rfl) ?_
    refine GO_q rfl rfl (ev_eql rfl rfl) ?_
    refine GO_nil ?_
    (repeat first | refine G_seq ?_ | refine G_skip ?_ | refine G_endblk ?_ | refine G_block ?_ | refine G_exit rfl ?_)
    refine G_cond_t rfl rfl ?_
    (repeat first | refine G_seq ?_ | refine G_skip ?_ | refine G_endblk ?_ | refine G_block ?_ | refine G_exit rfl ?_)
    refine G_region ?_
    refine GO_q rfl rfl (ev_assign rfl) ?_
    refine GO_nil ?_
    (repeat first | refine G_seq ?_ | refine G_skip ?_ | refine G_endblk ?_ | refine G_block ?_ | refine G_exit rfl ?_)
    exact G_ret (L' := ptH .nil none :: L) rfl (.tmp rfl .nil) (en_keep (en_nilI en_refl)) ⟨none, .nil, rfl, PT.of_nil, rfl⟩
  | succ f ih =>
    intro A n c l L hl hf hn hc hc2 ho
    have h1 : l.length = n := hl.len (by decide)
    have hcb : c ≤ 9223372036854775807 := by unfold maxLen at hc2; omega
    refine Ctr_of (fn := Try.f98) (n := 78) Try.func98 rfl rfl rfl ?_
    intro g F
    (repeat first | refine G_seq ?_ | refine G_skip ?_ | refine G_endblk ?_ | refine G_block ?_ | refine G_exit rfl ?_)
    refine G_region ?_
    refine GO_q rfl rfl (ev_assign rfl) ?_
    refine GO_nil ?_
    (repeat first | refine G_seq ?_ | refine G_skip ?_ | refine G_endblk ?_ | refine G_block ?_ | refine G_exit rfl ?_)
    refine G_region ?_
    refine GO_q rfl rfl (ev_move rfl) ?_
    refine GO_q rfl rfl (ev_len rfl) ?_
    refine GO_q rfl rfl (ev_eql rfl rfl) ?_
    refine GO_nil ?_
    (repeat first | refine G_seq ?_ | refine G_skip ?_ | refine G_endblk ?_ | refine G_block ?_ | refine G_exit rfl ?_)
    refine G_cond rfl (fun c1 => ?_) (fun c1 => ?_)
    · have h2 : l = [] := List.eq_nil_of_length_eq_zero (by omega)
      subst h2
      (repeat first | refine G_seq ?_ | refine G_skip ?_ | refine G_endblk ?_ | refine G_block ?_ | refine G_exit rfl ?_)
      refine G_region ?_
      refine GO_q rfl rfl (ev_assign rfl) ?_
      refine GO_nil ?_
      (repeat first | refine G_seq ?_ | refine G_skip ?_ | refine G_endblk ?_ | refine G_block ?_ | refine G_exit rfl ?_)
      exact G_ret (L' := ptH .nil none :: L) rfl (.tmp rfl .nil) (en_keep (en_nilI en_refl)) ⟨none, .nil, rfl, PT.of_nil, rfl⟩
    · (repeat first | refine G_seq ?_ | refine G_skip ?_ | refine G_endblk ?_ | refine G_block ?_ | refine G_exit rfl ?_)
      refine G_region ?_
      refine GO_q rfl rfl (ev_assign rfl) ?_
      refine GO_nil ?_
      (repeat first | refine G_seq ?_ | refine G_skip ?_ | refine G_endblk ?_ | refine G_block ?_ | refine G_exit rfl ?_)
      refine G_region ?_
      refine GO_q rfl rfl (ev_move rfl) ?_
      refine GO_q rfl rfl (ev_len rfl) ?_
      refine GO_q rfl rfl (ev_move rfl) ?_
      refine GO_nil ?_
      (repeat first | refine G_seq ?_ | refine G_skip ?_ | refine G_endblk ?_)
      refine G_cut (ι := Nat) (fun x => [(0, .slice A n c), (3, .int .i64 (x : Nat))]) (fun _ => F :: L) (fun x => x < n ∧ ∀ (j : Nat) (a b : Pt), l[j]? = some a → l[x]? = some b → j = x ∨ und a b = true) ?_ ?_
      · (repeat first | refine G_seq ?_ | refine G_skip ?_ | refine G_endblk ?_ | refine G_block ?_ | refine G_exit rfl ?_)
        refine G_loop (ι := Nat × Nat) (fun x => [(0, .slice A n c), (3, .int .i64 (x.2 : Nat)), (13, .slice A n c), (14, .int .i64 (n : Nat)), (15, .int .i64 (x.1 : Nat))]) (fun _ => F :: L) (fun x => x.1 ≤ n ∧ x.2 < n ∧ ∀ (j : Nat) (a b : Pt), j < x.1 → l[j]? = some a → l[x.2]? = some b → j = x.2 ∨ und a b = true) (fun x => n - x.1) (0, 0) ⟨Nat.zero_le _, by simp only; omega, fun j a b hj => absurd hj (Nat.not_lt_zero _)⟩ ⟨rfl, rfl, rfl, rfl, rfl, trivial⟩ (by (repeat first | exact fun _ s => s | apply en_keep | apply en_drop | apply en_app) <;> fail) ?_
        rintro ⟨k, top⟩ ⟨f1, f2, f3⟩
        simp only at f1 f2 f3
        dsimp only
        (repeat first | refine G_seq ?_ | refine G_skip ?_ | refine G_endblk ?_ | refine G_block ?_ | refine G_exit rfl ?_)
        refine G_region ?_
        (first | refine GO_q rfl rfl (ev_lssN rfl rfl) ?_ | refine GO_q rfl rfl (ev_lss rfl rfl) ?_)
        refine GO_nil ?_
        (repeat first | refine G_seq ?_ | refine G_skip ?_ | refine G_endblk ?_ | refine G_block ?_ | refine G_exit rfl ?_)
        refine G_cond rfl (fun c2 => ?_) (fun c2 => ?_)
        · obtain ⟨lb, lo, rfl, hx⟩ := hl.at_ (by omega)
          have g1 : l[k]? = some l[k] := List.getElem?_eq_getElem (by omega)
          have g2 : l[top]? = some l[top] := List.getElem?_eq_getElem (by omega)
          have y1 := hx _ _ g1
          have y2 := hx _ _ g2
          generalize l[k] = u at *
          generalize l[top] = t at *
          have z1 : LdN L lb (lo + k * 3) 3 [.int .i64 u.id, .int .i64 u.x, .int .i64 u.y] := y1
          have z2 : LdN L lb (lo + top * 3) 3 [.int .i64 t.id, .int .i64 t.x, .int .i64 t.y] := y2
          (repeat first | refine G_seq ?_ | refine G_skip ?_ | refine G_endblk ?_ | refine G_block ?_ | refine G_exit rfl ?_)
          refine G_region ?_
          refine GO_q rfl rfl (ev_move rfl) ?_
          (first | refine GO_q rfl rfl (ev_indexAddrN rfl rfl (by first | omega | (simp; done) | (simp; omega))) ?_ | refine GO_q rfl rfl (ev_indexAddr rfl rfl (by first | omega | (simp; done) | (simp; omega)) (by first | omega | (simp; done) | (simp; omega))) ?_)
          refine GO_q rfl rfl (ev_loadN rfl (by repeat' first | exact LdN.blk rfl | assumption | apply LdN.skip | apply LdN.app)) ?_
          refine GO_eff rfl rfl eff_alloc ?_; rintro _ _ ⟨b5, rfl, rfl⟩
          refine GO_q rfl rfl (ev_assign rfl) ?_
          refine GO_eff rfl rfl (eff_storeN rfl rfl rfl rfl (by repeat' first | exact Upd.here rfl | apply Upd.skip | apply Upd.app)) ?_; rintro _ _ ⟨rfl, rfl⟩
          refine GO_nil ?_
          (repeat first | refine G_seq ?_ | refine G_skip ?_ | refine G_endblk ?_ | refine G_block ?_ | refine G_exit rfl ?_)
          refine G_draw (.q 0 (.q 1 (.q 2 (.q 3 (.q 4 (.e 5 .nil)))))) (by kernel_rfl) (by kernel_rfl) ?_
          refine RS_q retB_noPanic rfl rfl rfl (ev_move rfl) ?_
          refine RS_q retB_noPanic rfl rfl rfl (ev_move rfl) ?_
          (first | refine RS_q retB_noPanic rfl rfl rfl (ev_indexAddrN rfl rfl (by first | omega | (simp; done) | (simp; omega))) ?_ | refine RS_q retB_noPanic rfl rfl rfl (ev_indexAddr rfl rfl (by first | omega | (simp; done) | (simp; omega)) (by first | omega | (simp; done) | (simp; omega))) ?_)
          refine RS_q retB_noPanic rfl rfl rfl (ev_loadN rfl (by repeat' first | exact LdN.blk rfl | assumption | apply LdN.skip | apply LdN.app)) ?_
          refine RS_q retB_noPanic rfl rfl rfl (ev_loadN rfl (by repeat' first | exact LdN.blk rfl | assumption | apply LdN.skip | apply LdN.app)) ?_
          refine RS_e (RE_last (by kernel_rfl) rfl rfl rfl (eff_call rfl (under_ctr t u _)) ?_); rintro _ _ ⟨rfl, rfl⟩
          (repeat first | refine G_seq ?_ | refine G_skip ?_ | refine G_endblk ?_ | refine G_block ?_ | refine G_exit rfl ?_)
          refine G_condB rfl (fun c3 => ?_) (fun c3 => ?_)
          · (repeat first | refine G_seq ?_ | refine G_skip ?_ | refine G_endblk ?_ | refine G_block ?_ | refine G_exit rfl ?_)
            refine G_region ?_
            refine GO_q rfl rfl (ev_move rfl) ?_
            refine GO_q rfl rfl (ev_assign rfl) ?_
            refine GO_nil ?_
            (repeat first | refine G_seq ?_ | refine G_skip ?_ | refine G_endblk ?_ | refine G_block ?_ | refine G_exit rfl ?_)
            refine G_region ?_
            (first | refine GO_q rfl rfl (ev_addN (q := 1) rfl rfl (by first | omega | (simp; done) | (simp; omega))) ?_ | refine GO_q rfl rfl (ev_add rfl rfl (by first | omega | (simp; done) | (simp; omega))) ?_)
            refine GO_q rfl rfl (ev_move rfl) ?_
            refine GO_nil ?_
            (repeat first | refine G_seq ?_ | refine G_skip ?_ | refine G_endblk ?_ | refine G_block ?_ | refine G_exit rfl ?_)
            refine G_round (k + 1, k) ⟨by simp only; omega, by simp only; omega, fun j a b hj ha hb => ?_⟩ (by simp only; omega) ⟨rfl, rfl, rfl, rfl, rfl, trivial⟩ (by (repeat first | exact fun _ s => s | apply en_keep | apply en_drop | apply en_app) <;> fail)
            simp only at hj hb
            rw [g1] at hb; cases hb
            rcases Nat.lt_or_ge j k with h' | h'
            · right
              rcases f3 j a t h' ha g2 with rfl | h9
              · rw [g2] at ha; cases ha; exact c3
              · exact und_trans h9 c3
            · left; omega
          · (repeat first | refine G_seq ?_ | refine G_skip ?_ | refine G_endblk ?_ | refine G_block ?_ | refine G_exit rfl ?_)
            refine G_region ?_
            (first | refine GO_q rfl rfl (ev_addN (q := 1) rfl rfl (by first | omega | (simp; done) | (simp; omega))) ?_ | refine GO_q rfl rfl (ev_add rfl rfl (by first | omega | (simp; done) | (simp; omega))) ?_)
            refine GO_q rfl rfl (ev_move rfl) ?_
            refine GO_nil ?_
            (repeat first | refine G_seq ?_ | refine G_skip ?_ | refine G_endblk ?_ | refine G_block ?_ | refine G_exit rfl ?_)
            refine G_round (k + 1, top) ⟨by simp only; omega, f2, fun j a b hj ha hb => ?_⟩ (by simp only; omega) ⟨rfl, rfl, rfl, rfl, rfl, trivial⟩ (by (repeat first | exact fun _ s => s | apply en_keep | apply en_drop | apply en_app) <;> fail)
            simp only at hj hb
            rw [g2] at hb; cases hb
            rcases Nat.lt_or_ge j k with h' | h'
            · exact f3 j a t h' ha g2
            · have : j = k := by omega
              subst this
              rw [g1] at ha; cases ha
              by_cases e : j = top
              · exact .inl e
              · exact .inr (und_total (asc_ne ho g2 g1 (Ne.symm e)) c3)
        · have e : k = n := by omega
          subst e
          (repeat first | refine G_seq ?_ | refine G_skip ?_ | refine G_endblk ?_ | refine G_block ?_ | refine G_exit rfl ?_)
          exact G_inv top ⟨f2, fun j a b ha hb => f3 j a b (by have := (List.getElem?_eq_some_iff.1 ha).1; omega) ha hb⟩ ⟨rfl, rfl, trivial⟩ (by (repeat first | exact fun _ s => s | apply en_keep | apply en_drop | apply en_app) <;> fail)
      · rintro top ⟨f2, f3⟩
        obtain ⟨lb, lo, rfl, hx⟩ := hl.at_ (by omega)
        have g2 : l[top]? = some l[top] := List.getElem?_eq_getElem (by omega)
        have y2 := hx _ _ g2
        have hperm := del_perm g2
        have hsub := del_sub (l := l) (i := top)
        have hund : ∀ q ∈ l.take top ++ l.drop (top + 1), und q l[top] = true := fun q hq => by
          obtain ⟨j, hj⟩ := List.mem_iff_getElem?.1 (hsub.subset hq)
          rcases f3 j q _ hj g2 with rfl | h9
          · rw [g2] at hj; cases hj
            have hnd := (hperm.nodup_iff.2 ho.nodup)
            rw [List.nodup_cons] at hnd
            exact absurd hq hnd.1
          · exact h9
        have hro := ho.sub hsub
        have hrl : (l.take top ++ l.drop (top + 1)).length = n - 1 := by simp; omega
        generalize l[top] = p at *
        have z2 : LdN L lb (lo + top * 3) 3 [.int .i64 p.id, .int .i64 p.x, .int .i64 p.y] := y2
        (repeat first | refine G_seq ?_ | refine G_skip ?_ | refine G_endblk ?_ | refine G_block ?_ | refine G_exit rfl ?_)
        refine G_draw (.q 0 (.q 1 (.q 2 (.q 3 (.q 4 (.q 5 (.q 6 (.q 7 (.q 8 (.e 9 (.q 10 .nil))))))))))) (by kernel_rfl) (by kernel_rfl) ?_
        refine RS_q retB_noPanic rfl rfl rfl (ev_move rfl) ?_
        refine RS_q retB_noPanic rfl rfl rfl (ev_move rfl) ?_
        (first | refine RS_q retB_noPanic rfl rfl rfl (ev_indexAddrN rfl rfl (by first | omega | (simp; done) | (simp; omega))) ?_ | refine RS_q retB_noPanic rfl rfl rfl (ev_indexAddr rfl rfl (by first | omega | (simp; done) | (simp; omega)) (by first | omega | (simp; done) | (simp; omega))) ?_)
        refine RS_q retB_noPanic rfl rfl rfl (ev_loadN rfl (by repeat' first | exact LdN.blk rfl | assumption | apply LdN.skip | apply LdN.app)) ?_
        refine RS_q retB_noPanic rfl rfl rfl (ev_move rfl) ?_
        refine RS_q retB_noPanic rfl rfl rfl (ev_move rfl) ?_
        (first | refine RS_q retB_noPanic rfl rfl rfl (ev_indexAddrN rfl rfl (by first | omega | (simp; done) | (simp; omega))) ?_ | refine RS_q retB_noPanic rfl rfl rfl (ev_indexAddr rfl rfl (by first | omega | (simp; done) | (simp; omega)) (by first | omega | (simp; done) | (simp; omega))) ?_)
        refine RS_q retB_noPanic rfl rfl rfl (ev_loadN rfl (by repeat' first | exact LdN.blk rfl | assumption | apply LdN.skip | apply LdN.app)) ?_
        refine RS_q retB_noPanic rfl rfl rfl (ev_build rfl rfl) ?_
        refine RS_e (RE_eff rfl rfl rfl (eff_box rfl) ?_); rintro _ _ ⟨b37, rfl, rfl⟩; refine ⟨_, fun _ s => s, (by first | ((repeat first | exact fun _ s => s | apply en_keep | apply en_drop | apply en_app) <;> fail) | ((repeat first | exact en_refl | (apply en_blk; focus ((repeat' first | exact Pick.here | apply Pick.skip | apply Pick.app); done); focus rfl) | (apply en_own; focus ((repeat' first | exact Pick.here | apply Pick.skip | apply Pick.app); done); focus rfl) | (apply en_pick; focus ((repeat' first | exact Pick.here | apply Pick.skip | apply Pick.app); done)) | apply en_drop | apply en_app) <;> fail)), ?_⟩
        refine RS_q retB_noPanic rfl rfl rfl (ev_assign rfl) ?_
        refine RS_nil ?_
        (repeat first | refine G_seq ?_ | refine G_skip ?_ | refine G_endblk ?_ | refine G_block ?_ | refine G_exit rfl ?_)
        refine G_region ?_
        refine GO_q rfl rfl (ev_move rfl) ?_
        refine GO_eff rfl rfl (eff_call rfl (Clone_ctr (some ⟨lb, lo, none⟩) n c l _ (by repeat' first | exact Rc.blk rfl | assumption | apply Rd.skip | apply Rd.app) (by omega))) ?_; rintro _ _ ⟨A39, c39, rfl, hA39, rfl⟩; obtain ⟨b39, rfl⟩ := hA39 (by omega)
        refine GO_q rfl rfl (ev_move rfl) ?_
        refine GO_q rfl rfl (ev_move rfl) ?_
        (first | refine GO_q rfl rfl (ev_addN (q := 1) rfl rfl (by first | omega | (simp; done) | (simp; omega))) ?_ | refine GO_q rfl rfl (ev_add rfl rfl (by first | omega | (simp; done) | (simp; omega))) ?_)
        refine GO_eff rfl rfl (eff_call rfl (Ctr.pick (by repeat' first | exact Pick.here | apply Pick.skip | apply Pick.app) (Ctr.made (Delete_ctr b39 _ c39 top l _ rfl (by omega) (by omega))))) ?_; rintro _ _ ⟨A43, c43, rfl, hA43, q2, q3, rfl⟩
        refine GO_q rfl rfl (ev_assign rfl) ?_
        refine GO_nil ?_
        obtain ⟨rest, hrest⟩ : ∃ r, l.take top ++ l.drop (top + 1) = r := ⟨_, rfl⟩
        rw [hrest] at hperm hund hro hrl hA43 q2
        rw [hrest]
        clear hsub hrest
        (repeat first | refine G_seq ?_ | refine G_skip ?_ | refine G_endblk ?_ | refine G_block ?_ | refine G_exit rfl ?_)
        refine G_region ?_
        refine GO_q rfl rfl (ev_move rfl) ?_
        refine GO_q rfl rfl (ev_len rfl) ?_
        (first | refine GO_q rfl rfl (ev_quoN (q := 2) rfl rfl (by first | omega | (simp; done) | (simp; omega)) (by first | omega | (simp; done) | (simp; omega))) ?_ | refine GO_q rfl rfl (ev_quo rfl rfl (by first | omega | (simp; done) | (simp; omega)) (by first | omega | (simp; done) | (simp; omega)) (by first | omega | (simp; done) | (simp; omega))) ?_)
        refine GO_q rfl rfl (ev_assign rfl) ?_
        refine GO_nil ?_
        (repeat first | refine G_seq ?_ | refine G_skip ?_ | refine G_endblk ?_ | refine G_block ?_ | refine G_exit rfl ?_)
        refine G_region ?_
        refine GO_q rfl rfl (ev_move rfl) ?_
        refine GO_q rfl rfl (ev_len rfl) ?_
        refine GO_q rfl rfl (ev_gtr rfl rfl) ?_
        refine GO_nil ?_
        (repeat first | refine G_seq ?_ | refine G_skip ?_ | refine G_endblk ?_ | refine G_block ?_ | refine G_exit rfl ?_)
        refine G_cond rfl (fun c4 => ?_) (fun c4 => ?_)
        · obtain ⟨b43, rfl⟩ := hA43 (by omega)
          (repeat first | refine G_seq ?_ | refine G_skip ?_ | refine G_endblk ?_ | refine G_block ?_ | refine G_exit rfl ?_)
          refine G_region ?_
          refine GO_q rfl rfl (ev_move rfl) ?_
          (first | refine GO_q rfl rfl (ev_subN (q := 1) rfl rfl (by first | omega | (simp; done) | (simp; omega))) ?_ | refine GO_q rfl rfl (ev_sub rfl rfl (by first | omega | (simp; done) | (simp; omega))) ?_)
          refine GO_q rfl rfl (ev_max rfl rfl) ?_
          refine GO_q rfl rfl (ev_assign rfl) ?_
          refine GO_nil ?_
          obtain ⟨at_, hat⟩ : ∃ k : Nat, max (((rest.length / 2 : Nat) : Int) - 1) 0 = (k : Nat) := ⟨rest.length / 2 - 1, by omega⟩
          rw [hat]
          have hat2 : at_ < rest.length := by omega
          have hat3 : at_ = rest.length / 2 - 1 := by omega
          have hfull : ∀ L', Rd (own 39 3 (some ⟨b43, 0, none⟩) rest.length c43 (flat rest) :: L') (some ⟨b43, 0, none⟩) rest.length rest := fun L' => Rc.own (flat_length _) (fun _ => ⟨b43, rfl⟩)
          have g3 : rest[at_]? = some rest[at_] := List.getElem?_eq_getElem hat2
          have y3 : ∀ L', LdN (own 39 3 (some ⟨b43, 0, none⟩) rest.length c43 (flat rest) :: L') b43 (0 + at_ * 3) 3 [.int .i64 rest[at_].id, .int .i64 rest[at_].x, .int .i64 rest[at_].y] := fun L' => by
            obtain ⟨b9, o9, e9, hx9⟩ := (hfull L').at_ (by omega)
            cases e9
            exact hx9 _ _ g3
          have hlo : ∀ q ∈ rest.take (at_ + 1), beh q rest[at_] = false := fun q hq => by
            obtain ⟨j, hj⟩ := List.mem_iff_getElem?.1 hq
            rw [List.getElem?_take] at hj
            split at hj
            · rw [beh_false]
              rcases Nat.lt_or_ge j at_ with h' | h'
              · exact Pt.less_asymm (asc_at hro hj g3 h')
              · have : j = at_ := by omega
                subst this
                rw [g3] at hj; cases hj
                exact Pt.less_irrefl _
            · cases hj
          have hhi : ∀ q ∈ rest.drop (at_ + 1), beh q rest[at_] = true := fun q hq => by
            obtain ⟨j, hj⟩ := List.mem_iff_getElem?.1 hq
            rw [List.getElem?_drop] at hj
            rw [beh_true]
            exact asc_at hro g3 hj (by omega)
          generalize rest[at_] = s at *
          (repeat first | refine G_seq ?_ | refine G_skip ?_ | refine G_endblk ?_ | refine G_block ?_ | refine G_exit rfl ?_)
          refine G_region ?_
          refine GO_q rfl rfl (ev_move rfl) ?_
          refine GO_q rfl rfl (ev_move rfl) ?_
          refine GO_q rfl rfl (ev_move rfl) ?_
          (first | refine GO_q rfl rfl (ev_indexAddrN rfl rfl (by first | omega | (simp; done) | (simp; omega))) ?_ | refine GO_q rfl rfl (ev_indexAddr rfl rfl (by first | omega | (simp; done) | (simp; omega)) (by first | omega | (simp; done) | (simp; omega))) ?_)
          refine GO_q rfl rfl (ev_loadN rfl (by repeat' first | exact y3 _ | apply LdN.skip)) ?_
          (first | refine GO_q rfl rfl (ev_nilCheck rfl) ?_ | refine GO_q rfl rfl (ev_nilCheckF (by simp) rfl) ?_)
          refine GO_q rfl rfl (ev_fieldAddr rfl) ?_
          refine GO_eff rfl rfl (eff_storeN rfl rfl rfl rfl (by repeat' first | exact Upd.here rfl | apply Upd.skip | apply Upd.app)) ?_; rintro _ _ ⟨rfl, rfl⟩
          refine GO_nil ?_
          have q5 : c43 ≤ 9223372036854775807 := by unfold maxLen at q3; omega
          have tl : (rest.take (at_ + 1)).length = at_ + 1 := by rw [List.length_take]; omega
          have tr : (rest.drop (at_ + 1)).length = rest.length - (at_ + 1) := List.length_drop ..
          have hlo2 : ∀ L', Rd (own 39 3 (some ⟨b43, 0, none⟩) rest.length c43 (flat rest) :: L') (some ⟨b43, 0, none⟩) (at_ + 1) (rest.take (at_ + 1)) := fun L' => (hfull L').take (by omega)
          have hhi2 : ∀ L', Rd (own 39 3 (some ⟨b43, 0, none⟩) rest.length c43 (flat rest) :: L') (some ⟨b43, (if c43 = at_ + 1 then 0 else 0 + (at_ + 1) * 3), none⟩) (rest.length - (at_ + 1)) (rest.drop (at_ + 1)) := fun L' => (hfull L').drop (by omega) q2
          (repeat first | refine G_seq ?_ | refine G_skip ?_ | refine G_endblk ?_ | refine G_block ?_ | refine G_exit rfl ?_)
          refine G_drawE 1 (.q 0 (.q 1 (.q 2 (.q 3 (.q 4 (.q 5 (.q 7 (.q 8 (.q 9 (.q 10 (.e 6 (.e 11 (.q 12 (.q 13 (.e 14 (.q 15 (.q 16 (.e 17 .nil)))))))))))))))))) (by kernel_rfl) (by kernel_rfl) ?_
          refine RS_q retB_noPanic rfl rfl rfl (ev_move rfl) ?_
          refine RS_q retB_noPanic rfl rfl rfl (ev_move rfl) ?_
          refine RS_q retB_noPanic rfl rfl rfl (ev_move rfl) ?_
          refine RS_q retB_noPanic rfl rfl rfl (ev_move rfl) ?_
          (first | refine RS_q retB_noPanic rfl rfl rfl (ev_addN (q := 1) rfl rfl (by first | omega | (simp; done) | (simp; omega))) ?_ | refine RS_q retB_noPanic rfl rfl rfl (ev_add rfl rfl (by first | omega | (simp; done) | (simp; omega))) ?_)
          refine RS_q retB_noPanic rfl rfl rfl (ev_sliceH rfl rfl (by first | omega | (simp; done) | (simp; omega))) ?_
          refine RS_q retB_noPanic rfl rfl rfl (ev_move rfl) ?_
          refine RS_q retB_noPanic rfl rfl rfl (ev_move rfl) ?_
          (first | refine RS_q retB_noPanic rfl rfl rfl (ev_addN (q := 1) rfl rfl (by first | omega | (simp; done) | (simp; omega))) ?_ | refine RS_q retB_noPanic rfl rfl rfl (ev_add rfl rfl (by first | omega | (simp; done) | (simp; omega))) ?_)
          refine RS_q retB_noPanic rfl rfl rfl (ev_sliceL rfl rfl (by first | omega | (simp; done) | (simp; omega)) (by first | omega | (simp; done) | (simp; omega))) ?_
          refine RS_e (RE_eff rfl rfl rfl (eff_call rfl (ih _ (at_ + 1) c43 (rest.take (at_ + 1)) _ (by repeat' first | exact hlo2 _ | apply Rd.skip) (by omega) (by omega) (by omega) q3 (hro.sub (List.take_sublist _ _)))) ?_); rintro _ _ ⟨al, tlo, rfl, ol, rfl⟩; refine ⟨_, (by first | ((repeat first | exact fun _ s => s | apply en_keep | apply en_drop | apply en_app) <;> fail) | ((repeat first | exact en_refl | (apply en_blk; focus ((repeat' first | exact Pick.here | apply Pick.skip | apply Pick.app); done); focus rfl) | (apply en_own; focus ((repeat' first | exact Pick.here | apply Pick.skip | apply Pick.app); done); focus rfl) | (apply en_pick; focus ((repeat' first | exact Pick.here | apply Pick.skip | apply Pick.app); done)) | apply en_drop | apply en_app) <;> fail)), fun _ s => s, ?_⟩
          refine RS_e (RE_eff rfl rfl rfl (eff_call rfl (ih _ (rest.length - (at_ + 1)) (c43 - (at_ + 1)) (rest.drop (at_ + 1)) _ (by repeat' first | exact hhi2 _ | apply Rd.skip) (by omega) (by omega) (by omega) (by omega) (hro.sub (List.drop_sublist _ _)))) ?_); rintro _ _ ⟨ah, thi, rfl, oh, rfl⟩; refine ⟨_, (by first | ((repeat first | exact fun _ s => s | apply en_keep | apply en_drop | apply en_app) <;> fail) | ((repeat first | exact en_refl | (apply en_blk; focus ((repeat' first | exact Pick.here | apply Pick.skip | apply Pick.app); done); focus rfl) | (apply en_own; focus ((repeat' first | exact Pick.here | apply Pick.skip | apply Pick.app); done); focus rfl) | (apply en_pick; focus ((repeat' first | exact Pick.here | apply Pick.skip | apply Pick.app); done)) | apply en_drop | apply en_app) <;> fail)), fun _ s => s, ?_⟩
          (first | refine RS_q retB_noPanic rfl rfl rfl (ev_nilCheck rfl) ?_ | refine RS_q retB_noPanic rfl rfl rfl (ev_nilCheckF (by simp) rfl) ?_)
          refine RS_q retB_noPanic rfl rfl rfl (ev_fieldAddr rfl) ?_
          refine RS_e (RE_eff rfl rfl rfl (eff_store rfl rfl rfl (by repeat' first | exact Upd.here rfl | apply Upd.skip | apply Upd.app)) ?_); rintro _ _ ⟨rfl, rfl⟩; refine ⟨_, (by first | ((repeat first | exact fun _ s => s | apply en_keep | apply en_drop | apply en_app) <;> fail) | ((repeat first | exact en_refl | (apply en_blk; focus ((repeat' first | exact Pick.here | apply Pick.skip | apply Pick.app); done); focus rfl) | (apply en_own; focus ((repeat' first | exact Pick.here | apply Pick.skip | apply Pick.app); done); focus rfl) | (apply en_pick; focus ((repeat' first | exact Pick.here | apply Pick.skip | apply Pick.app); done)) | apply en_drop | apply en_app) <;> fail)), fun _ s => s, ?_⟩
          (first | refine RS_q retB_noPanic rfl rfl rfl (ev_nilCheck rfl) ?_ | refine RS_q retB_noPanic rfl rfl rfl (ev_nilCheckF (by simp) rfl) ?_)
          refine RS_q retB_noPanic rfl rfl rfl (ev_fieldAddr rfl) ?_
          refine RS_e (RE_last (by kernel_rfl) rfl rfl rfl (eff_store rfl rfl rfl (by repeat' first | exact Upd.here rfl | apply Upd.skip | apply Upd.app)) ?_); rintro _ _ ⟨rfl, rfl⟩
          (repeat first | refine G_seq ?_ | refine G_skip ?_ | refine G_endblk ?_ | refine G_block ?_ | refine G_exit rfl ?_)
          refine G_region ?_
          refine GO_q rfl rfl (ev_move rfl) ?_
          refine GO_eff rfl rfl (eff_call rfl (Ctr.pre (M := blk b37 100 (nodeC p s al ah 0) :: ptH tlo al :: ptH thi ah :: F :: L) (by (repeat first | exact en_refl | (apply en_blk; focus ((repeat' first | exact Pick.here | apply Pick.skip | apply Pick.app); done); focus rfl) | (apply en_own; focus ((repeat' first | exact Pick.here | apply Pick.skip | apply Pick.app); done); focus rfl) | (apply en_pick; focus ((repeat' first | exact Pick.here | apply Pick.skip | apply Pick.app); done)) | apply en_drop | apply en_app) <;> fail) (note_ctr p s tlo thi b37 0 al ah _ (by rw [ol.size, oh.size, tl, tr]; omega)))) ?_; rintro _ _ ⟨rfl, rfl⟩
          refine GO_q rfl rfl (ev_assign rfl) ?_
          refine GO_nil ?_
          (repeat first | refine G_seq ?_ | refine G_skip ?_ | refine G_endblk ?_ | refine G_block ?_ | refine G_exit rfl ?_)
          refine G_ret (L' := ptH (.node p s tlo thi) (some ⟨b37, 0, none⟩) :: L) rfl (.tmp rfl .nil) (by (repeat first | exact en_refl | (apply en_blk; focus ((repeat' first | exact Pick.here | apply Pick.skip | apply Pick.app); done); focus rfl) | (apply en_own; focus ((repeat' first | exact Pick.here | apply Pick.skip | apply Pick.app); done); focus rfl) | (apply en_pick; focus ((repeat' first | exact Pick.here | apply Pick.skip | apply Pick.app); done)) | apply en_drop | apply en_app) <;> fail) ⟨_, .node p s tlo thi, rfl, ?_, rfl⟩
          refine (PT.of_node ol oh hlo hhi (fun q hq => hund q (by rwa [List.take_append_drop] at hq)) (by rw [tl, tr]; omega)).congr ?_
          rw [List.take_append_drop]
          exact hperm
        · have hr0 : rest = [] := List.eq_nil_of_length_eq_zero (by omega)
          (repeat first | refine G_seq ?_ | refine G_skip ?_ | refine G_endblk ?_ | refine G_block ?_ | refine G_exit rfl ?_)
          refine G_region ?_
          refine GO_q rfl rfl (ev_move rfl) ?_
          refine GO_eff rfl rfl (eff_call rfl (Ctr.pre (M := blk b37 100 (nodeC p p none none 0) :: ptH .nil none :: ptH .nil none :: F :: L) (by (repeat first | exact en_refl | apply en_nilI | (apply en_blk; focus ((repeat' first | exact Pick.here | apply Pick.skip | apply Pick.app); done); focus rfl) | (apply en_own; focus ((repeat' first | exact Pick.here | apply Pick.skip | apply Pick.app); done); focus rfl) | (apply en_pick; focus ((repeat' first | exact Pick.here | apply Pick.skip | apply Pick.app); done)) | apply en_drop | apply en_app) <;> fail) (note_ctr p p .nil .nil b37 0 none none _ (by decide)))) ?_; rintro _ _ ⟨rfl, rfl⟩
          refine GO_q rfl rfl (ev_assign rfl) ?_
          refine GO_nil ?_
          (repeat first | refine G_seq ?_ | refine G_skip ?_ | refine G_endblk ?_ | refine G_block ?_ | refine G_exit rfl ?_)
          refine G_ret (L' := ptH (.node p p .nil .nil) (some ⟨b37, 0, none⟩) :: L) rfl (.tmp rfl .nil) (by (repeat first | exact en_refl | (apply en_blk; focus ((repeat' first | exact Pick.here | apply Pick.skip | apply Pick.app); done); focus rfl) | (apply en_own; focus ((repeat' first | exact Pick.here | apply Pick.skip | apply Pick.app); done); focus rfl) | (apply en_pick; focus ((repeat' first | exact Pick.here | apply Pick.skip | apply Pick.app); done)) | apply en_drop | apply en_app) <;> fail) ⟨_, .node p p .nil .nil, rfl, ?_, rfl⟩
          refine (PT.of_node PT.of_nil PT.of_nil (fun _ h => by cases h) (fun _ h => by cases h) (fun _ h => by cases h) (by decide)).congr ?_
          rw [hr0] at hperm
          exact hperm
end Go.Proofs.Ytalcanejhniepaa
