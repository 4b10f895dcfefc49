/- Texts of the law PstcurFinds, one behind the other. -/
import Derived.Test.YtalcanejhniepaaGreatPstcurFindsM3
import Derived.Test.YtalcanejhniepaaGreatPstcurFindsM1
import Derived.Test.YtalcanejhniepaaGreatPstcurFindsM2
import Derived.IntWalk
import Derived.OpenShut
import Derived.Laws.Entries
import Derived.Recover
/- What is done to a tree and to the reference's set. -/
namespace Go.Proofs.YtalcanejhniepaaGreat
attribute [local irreducible] sat
set_option linter.unusedVariables false
set_option linter.unusedSimpArgs false
set_option maxRecDepth 100000

/-- What an act leaves. -/
def actL (most : Int) (l : List Pt) (a : Ac) : List Pt := if a.kind = 1 ∨ a.kind = 2 then l.erase (actP l a) else insR most l (actP l a)
theorem insL_perm (most : Int) (l : List Pt) (p : Pt) : (insL most l p).Perm (insR most l p) := by
  unfold insL insR
  split
  · exact (List.perm_append_singleton p l).symm
  · exact .refl _
theorem actL_length (most : Int) (l : List Pt) (a : Ac) : (actL most l a).length ≤ l.length + 1 := by
  unfold actL insR
  split
  · have := List.length_erase_le (a := actP l a) (l := l); omega
  · split <;> simp
theorem does_ctr (b s : Nat) (most : Int) (a : Ac) (l : List Pt) (L : List HP) (hn : l.length + 1 ≤ 100000) (ha : a.at_ ≤ 9223372036854775807) :
    Ctr Tryz.prog 34 #[.pointer (some ⟨b, 0, none⟩), .pointer (some ⟨s, 0, none⟩), .agg #[.int .i64 a.kind, .int .i64 a.at_, .int .i64 a.p.id, .int .i64 a.p.x, .int .i64 a.p.y]] (treeS b most l :: setS s most l :: L) fun v L' => v = .bool true ∧ L' = treeS b most (actL most l a) :: setS s most (actL most l a) :: L := by
  refine Ctr_of (fn := Tryz.f34) (n := 33) Tryz.func34 rfl rfl rfl ?_
  intro g F
  (repeat first | refine G_seq ?_ | refine G_skip ?_ | refine G_endblk ?_ | refine G_block ?_ | refine G_exit rfl ?_)
  refine G_region ?_
  refine GO_eff rfl rfl (eff_box rfl) ?_; rintro _ _ ⟨b5, rfl, rfl⟩
  refine GO_q rfl rfl (ev_assign rfl) ?_
  refine GO_nil ?_
  (repeat first | refine G_seq ?_ | refine G_skip ?_ | refine G_endblk ?_ | refine G_block ?_ | refine G_exit rfl ?_)
  refine G_region ?_
  refine GO_q rfl rfl (ev_move rfl) ?_
  refine GO_q rfl rfl (ev_loadN rfl (by repeat' first | exact LdN.blk rfl | assumption | apply LdN.skip | apply LdN.app)) ?_
  refine GO_eff rfl rfl (eff_call rfl (Ctr.pick (by repeat' first | exact Pick.here | apply Pick.skip | apply Pick.app) (Point_ctr s most a l _ (by omega) ha))) ?_; rintro _ _ ⟨rfl, rfl⟩
  refine GO_eff rfl rfl eff_alloc ?_; rintro _ _ ⟨b7, rfl, rfl⟩
  refine GO_eff rfl rfl (eff_storeN rfl rfl rfl rfl (by repeat' first | exact Upd.here rfl | apply Upd.skip | apply Upd.app)) ?_; rintro _ _ ⟨rfl, rfl⟩
  refine GO_nil ?_
  generalize hp : actP l a = p
  by_cases hk : a.kind = 1 ∨ a.kind = 2
  · have e : actL most l a = l.erase p := by unfold actL; rw [if_pos hk, hp]
    rw [e]
    by_cases k1 : a.kind = 1
    · skip
      (repeat first | refine G_seq ?_ | refine G_skip ?_ | refine G_endblk ?_ | refine G_block ?_ | refine G_exit rfl ?_)
      refine G_region ?_
      refine GO_q rfl rfl (ev_fieldAddr rfl) ?_
      refine GO_q rfl rfl (ev_load rfl (by repeat' first | exact Ld.blk rfl | assumption | apply Ld.skip | apply Ld.app)) ?_
      refine GO_q rfl rfl (ev_eql rfl rfl) ?_
      refine GO_q rfl rfl (ev_move rfl) ?_
      refine GO_no rfl rfl rfl (decide_eq_true k1) ?_
      refine GO_no rfl rfl rfl (decide_eq_true k1) ?_
      refine GO_no rfl rfl rfl (decide_eq_true k1) ?_
      refine GO_q rfl rfl (ev_pick_t rfl (decide_eq_true k1) rfl) ?_
      refine GO_nil ?_
      (repeat first | refine G_seq ?_ | refine G_skip ?_ | refine G_endblk ?_ | refine G_block ?_ | refine G_exit rfl ?_)
      refine G_cond_t rfl rfl ?_
      (repeat first | refine G_seq ?_ | refine G_skip ?_ | refine G_endblk ?_ | refine G_block ?_ | refine G_exit rfl ?_)
      refine G_drawE 4 (.q 0 (.q 1 (.q 3 (.q 4 (.e 2 (.e 5 (.q 6 (.q 7 .nil)))))))) (by kernel_rfl) (by kernel_rfl) ?_
      refine RS_m retB_noPanic rfl rfl rfl rfl (ev_move rfl) ?_
      refine RS_q retB_noPanic rfl rfl rfl rfl (ev_loadN rfl (by repeat' first | exact LdN.blk rfl | assumption | apply LdN.skip | apply LdN.app)) ?_
      refine RS_m retB_noPanic rfl rfl rfl rfl (ev_move rfl) ?_
      refine RS_q retB_noPanic rfl rfl rfl rfl (ev_loadN rfl (by repeat' first | exact LdN.blk rfl | assumption | apply LdN.skip | apply LdN.app)) ?_
      refine RS_e (RE_eff rfl rfl rfl (eff_call rfl (Ctr.pick (by repeat' first | exact Pick.here | apply Pick.skip | apply Pick.app) (PDelete_ctr b most l p _ (by omega)))) ?_); rintro _ _ ⟨rfl, rfl⟩; refine ⟨_, (by first | ((repeat first | exact fun _ s => s | apply en_keep | apply en_drop | apply en_app) <;> fail) | ((repeat first | exact en_refl | (apply en_blk; focus ((repeat' first | exact Pick.here | apply Pick.skip | apply Pick.app); done); focus rfl) | (apply en_own; focus ((repeat' first | exact Pick.here | apply Pick.skip | apply Pick.app); done); focus rfl) | (apply en_pick; focus ((repeat' first | exact Pick.here | apply Pick.skip | apply Pick.app); done)) | apply en_drop | apply en_app) <;> fail)), fun _ s => s, ?_⟩
      refine RS_e (RE_cmp (by kernel_rfl) rfl rfl rfl (eff_call rfl (Ctr.pick (by repeat' first | exact Pick.here | apply Pick.skip | apply Pick.app) (RDelete_ctr s most l p _ (by omega)))) ?_); rintro _ _ ⟨rfl, rfl⟩
      refine RS_m retB_noPanic rfl rfl rfl rfl (ev_eql rfl rfl) ?_
      refine RS_m retB_noPanic rfl rfl rfl rfl (ev_assign rfl) ?_
      refine RS_nil ?_
      (repeat first | refine G_seq ?_ | refine G_skip ?_ | refine G_endblk ?_ | refine G_block ?_ | refine G_exit rfl ?_)
      refine G_ret (L' := treeS b most (l.erase p) :: setS s most (l.erase p) :: L) rfl (.tmp rfl .nil) (by (repeat first | exact en_refl | (apply en_blk; focus ((repeat' first | exact Pick.here | apply Pick.skip | apply Pick.app); done); focus rfl) | (apply en_own; focus ((repeat' first | exact Pick.here | apply Pick.skip | apply Pick.app); done); focus rfl) | (apply en_pick; focus ((repeat' first | exact Pick.here | apply Pick.skip | apply Pick.app); done)) | apply en_drop | apply en_app) <;> fail) ⟨by simp [retv], rfl⟩
    · have k2 : a.kind = 2 := by omega
      (repeat first | refine G_seq ?_ | refine G_skip ?_ | refine G_endblk ?_ | refine G_block ?_ | refine G_exit rfl ?_)
      refine G_region ?_
      refine GO_q rfl rfl (ev_fieldAddr rfl) ?_
      refine GO_q rfl rfl (ev_load rfl (by repeat' first | exact Ld.blk rfl | assumption | apply Ld.skip | apply Ld.app)) ?_
      refine GO_q rfl rfl (ev_eql rfl rfl) ?_
      refine GO_q rfl rfl (ev_move rfl) ?_
      refine GO_yes rfl rfl rfl (decide_eq_false k1) ?_
      refine GO_q rfl rfl (ev_fieldAddr rfl) ?_
      refine GO_yes rfl rfl rfl (decide_eq_false k1) ?_
      refine GO_q rfl rfl (ev_load rfl (by repeat' first | exact Ld.blk rfl | assumption | apply Ld.skip | apply Ld.app)) ?_
      refine GO_yes rfl rfl rfl (decide_eq_false k1) ?_
      refine GO_q rfl rfl (ev_eql rfl rfl) ?_
      refine GO_q rfl rfl (ev_pick_f rfl (decide_eq_false k1) rfl) ?_
      refine GO_nil ?_
      (repeat first | refine G_seq ?_ | refine G_skip ?_ | refine G_endblk ?_ | refine G_block ?_ | refine G_exit rfl ?_)
      refine G_cond_t rfl (decide_eq_true k2) ?_
      (repeat first | refine G_seq ?_ | refine G_skip ?_ | refine G_endblk ?_ | refine G_block ?_ | refine G_exit rfl ?_)
      refine G_drawE 4 (.q 0 (.q 1 (.q 3 (.q 4 (.e 2 (.e 5 (.q 6 (.q 7 .nil)))))))) (by kernel_rfl) (by kernel_rfl) ?_
      refine RS_m retB_noPanic rfl rfl rfl rfl (ev_move rfl) ?_
      refine RS_q retB_noPanic rfl rfl rfl rfl (ev_loadN rfl (by repeat' first | exact LdN.blk rfl | assumption | apply LdN.skip | apply LdN.app)) ?_
      refine RS_m retB_noPanic rfl rfl rfl rfl (ev_move rfl) ?_
      refine RS_q retB_noPanic rfl rfl rfl rfl (ev_loadN rfl (by repeat' first | exact LdN.blk rfl | assumption | apply LdN.skip | apply LdN.app)) ?_
      refine RS_e (RE_eff rfl rfl rfl (eff_call rfl (Ctr.pick (by repeat' first | exact Pick.here | apply Pick.skip | apply Pick.app) (PDelete_ctr b most l p _ (by omega)))) ?_); rintro _ _ ⟨rfl, rfl⟩; refine ⟨_, (by first | ((repeat first | exact fun _ s => s | apply en_keep | apply en_drop | apply en_app) <;> fail) | ((repeat first | exact en_refl | (apply en_blk; focus ((repeat' first | exact Pick.here | apply Pick.skip | apply Pick.app); done); focus rfl) | (apply en_own; focus ((repeat' first | exact Pick.here | apply Pick.skip | apply Pick.app); done); focus rfl) | (apply en_pick; focus ((repeat' first | exact Pick.here | apply Pick.skip | apply Pick.app); done)) | apply en_drop | apply en_app) <;> fail)), fun _ s => s, ?_⟩
      refine RS_e (RE_cmp (by kernel_rfl) rfl rfl rfl (eff_call rfl (Ctr.pick (by repeat' first | exact Pick.here | apply Pick.skip | apply Pick.app) (RDelete_ctr s most l p _ (by omega)))) ?_); rintro _ _ ⟨rfl, rfl⟩
      refine RS_m retB_noPanic rfl rfl rfl rfl (ev_eql rfl rfl) ?_
      refine RS_m retB_noPanic rfl rfl rfl rfl (ev_assign rfl) ?_
      refine RS_nil ?_
      (repeat first | refine G_seq ?_ | refine G_skip ?_ | refine G_endblk ?_ | refine G_block ?_ | refine G_exit rfl ?_)
      refine G_ret (L' := treeS b most (l.erase p) :: setS s most (l.erase p) :: L) rfl (.tmp rfl .nil) (by (repeat first | exact en_refl | (apply en_blk; focus ((repeat' first | exact Pick.here | apply Pick.skip | apply Pick.app); done); focus rfl) | (apply en_own; focus ((repeat' first | exact Pick.here | apply Pick.skip | apply Pick.app); done); focus rfl) | (apply en_pick; focus ((repeat' first | exact Pick.here | apply Pick.skip | apply Pick.app); done)) | apply en_drop | apply en_app) <;> fail) ⟨by simp [retv], rfl⟩
  · have e : actL most l a = insR most l p := by unfold actL; rw [if_neg hk, hp]
    rw [e]
    have k1 : ¬ a.kind = 1 := fun h => hk (.inl h)
    have k2 : ¬ a.kind = 2 := fun h => hk (.inr h)
    (repeat first | refine G_seq ?_ | refine G_skip ?_ | refine G_endblk ?_ | refine G_block ?_ | refine G_exit rfl ?_)
    refine G_region ?_
    refine GO_q rfl rfl (ev_fieldAddr rfl) ?_
    refine GO_q rfl rfl (ev_load rfl (by repeat' first | exact Ld.blk rfl | assumption | apply Ld.skip | apply Ld.app)) ?_
    refine GO_q rfl rfl (ev_eql rfl rfl) ?_
    refine GO_q rfl rfl (ev_move rfl) ?_
    refine GO_yes rfl rfl rfl (decide_eq_false k1) ?_
    refine GO_q rfl rfl (ev_fieldAddr rfl) ?_
    refine GO_yes rfl rfl rfl (decide_eq_false k1) ?_
    refine GO_q rfl rfl (ev_load rfl (by repeat' first | exact Ld.blk rfl | assumption | apply Ld.skip | apply Ld.app)) ?_
    refine GO_yes rfl rfl rfl (decide_eq_false k1) ?_
    refine GO_q rfl rfl (ev_eql rfl rfl) ?_
    refine GO_q rfl rfl (ev_pick_f rfl (decide_eq_false k1) rfl) ?_
    refine GO_nil ?_
    (repeat first | refine G_seq ?_ | refine G_skip ?_ | refine G_endblk ?_ | refine G_block ?_ | refine G_exit rfl ?_)
    refine G_cond_f rfl (decide_eq_false k2) ?_
    (repeat first | refine G_seq ?_ | refine G_skip ?_ | refine G_endblk ?_ | refine G_block ?_ | refine G_exit rfl ?_)
    refine G_drawE 4 (.q 0 (.q 1 (.q 3 (.q 4 (.e 2 (.e 5 (.q 6 (.q 7 .nil)))))))) (by kernel_rfl) (by kernel_rfl) ?_
    refine RS_m retB_noPanic rfl rfl rfl rfl (ev_move rfl) ?_
    refine RS_q retB_noPanic rfl rfl rfl rfl (ev_loadN rfl (by repeat' first | exact LdN.blk rfl | assumption | apply LdN.skip | apply LdN.app)) ?_
    refine RS_m retB_noPanic rfl rfl rfl rfl (ev_move rfl) ?_
    refine RS_q retB_noPanic rfl rfl rfl rfl (ev_loadN rfl (by repeat' first | exact LdN.blk rfl | assumption | apply LdN.skip | apply LdN.app)) ?_
    refine RS_e (RE_eff rfl rfl rfl (eff_call rfl (Ctr.pick (by repeat' first | exact Pick.here | apply Pick.skip | apply Pick.app) (PInsert_ctr b most l p _ (by omega)))) ?_); rintro _ _ ⟨rfl, rfl⟩; refine ⟨_, (by first | ((repeat first | exact fun _ s => s | apply en_keep | apply en_drop | apply en_app) <;> fail) | ((repeat first | exact en_refl | (apply en_blk; focus ((repeat' first | exact Pick.here | apply Pick.skip | apply Pick.app); done); focus rfl) | (apply en_own; focus ((repeat' first | exact Pick.here | apply Pick.skip | apply Pick.app); done); focus rfl) | (apply en_pick; focus ((repeat' first | exact Pick.here | apply Pick.skip | apply Pick.app); done)) | apply en_drop | apply en_app) <;> fail)), fun _ s => s, ?_⟩
    refine RS_e (RE_cmp (by kernel_rfl) rfl rfl rfl (eff_call rfl (Ctr.pick (by repeat' first | exact Pick.here | apply Pick.skip | apply Pick.app) (RInsert_ctr s most l p _ (by omega)))) ?_); rintro _ _ ⟨rfl, rfl⟩
    refine RS_m retB_noPanic rfl rfl rfl rfl (ev_eql rfl rfl) ?_
    refine RS_m retB_noPanic rfl rfl rfl rfl (ev_assign rfl) ?_
    refine RS_nil ?_
    (repeat first | refine G_seq ?_ | refine G_skip ?_ | refine G_endblk ?_ | refine G_block ?_ | refine G_exit rfl ?_)
    refine G_ret (L' := treeS b most (insR most l p) :: setS s most (insR most l p) :: L) rfl (.tmp rfl .nil) ?_ ⟨by simp [retv], rfl⟩
    apply en_pick
    focus ((repeat' first | exact Pick.here | apply Pick.skip | apply Pick.app); done)
    exact treeS_perm (insL_perm most l p) (by (repeat first | exact en_refl | (apply en_blk; focus ((repeat' first | exact Pick.here | apply Pick.skip | apply Pick.app); done); focus rfl) | (apply en_own; focus ((repeat' first | exact Pick.here | apply Pick.skip | apply Pick.app); done); focus rfl) | (apply en_pick; focus ((repeat' first | exact Pick.here | apply Pick.skip | apply Pick.app); done)) | apply en_drop | apply en_app) <;> fail)
end Go.Proofs.YtalcanejhniepaaGreat
/- A tree and its points by changes. -/
namespace Go.Proofs.YtalcanejhniepaaGreat
attribute [local irreducible] sat
set_option linter.unusedVariables false
set_option linter.unusedSimpArgs false
set_option maxRecDepth 100000

instance : Enc Ac := ⟨5, fun a => [.int .i64 a.kind, .int .i64 a.at_, .int .i64 a.p.id, .int .i64 a.p.x, .int .i64 a.p.y], fun _ => rfl, fun p v h => by
  simp at h
  rcases h with rfl | rfl | rfl | rfl | rfl <;> rfl⟩
def playL (most : Int) (l : List Ac) : List Pt := l.foldl (actL most) []
theorem playL_succ (most : Int) (l : List Ac) (k : Nat) (h : k < l.length) : playL most (l.take (k + 1)) = actL most (playL most (l.take k)) l[k] := by
  unfold playL; rw [List.take_succ_eq_append_getElem h, List.foldl_append]; rfl
theorem insC_good {most : Int} {l : List Pt} {p : Pt} (h : insC most l p = 0) : goodP p = true := by
  unfold insC at h
  cases hg : goodP p with
  | true => rfl
  | false => rw [if_pos hg] at h; exact absurd h (by decide)
theorem actL_good {most : Int} {l : List Pt} (a : Ac) (h : ∀ p ∈ l, goodP p = true) : ∀ p ∈ actL most l a, goodP p = true := by
  intro p hp
  unfold actL at hp
  split at hp
  · exact h p (List.mem_of_mem_erase hp)
  · unfold insR at hp
    split at hp
    · rename_i _ h0
      rcases List.mem_append.1 hp with hp | hp
      · exact h p hp
      · rw [List.mem_singleton.1 hp]; exact insC_good h0
    · exact h p hp
theorem playL_good (most : Int) (l : List Ac) : ∀ p ∈ playL most l, goodP p = true := by
  suffices ∀ (o : List Pt), (∀ p ∈ o, goodP p = true) → ∀ p ∈ l.foldl (actL most) o, goodP p = true from this [] (by simp)
  induction l with
  | nil => exact fun o h => h
  | cons a l ih => exact fun o h => ih _ (actL_good a h)
theorem Made_ctr (A : Option Addr) (n c : Nat) (acts : List Ac) (L : List HP) (hl : Rd L A n acts) (hn : n ≤ 9223372036854775807) (ha : ∀ a ∈ acts, a.at_ ≤ 9223372036854775807) :
    Ctr Tryz.prog 17 #[.slice A n c] L fun v L' => ∃ b s l, v = .tuple #[.pointer (some ⟨b, 0, none⟩), .pointer (some ⟨s, 0, none⟩), .bool true] ∧ (l.length ≤ 80 ∧ ∀ p ∈ l, goodP p = true) ∧ L' = treeS b 60 l :: setS s 60 l :: L := by
  have h1 : acts.length = n := hl.len (by decide)
  refine Ctr_of (fn := Tryz.f17) (n := 43) Tryz.func17 rfl rfl rfl ?_
  intro g F
  (repeat first | refine G_seq ?_ | refine G_skip ?_ | refine G_endblk ?_ | refine G_block ?_ | refine G_exit rfl ?_)
  refine G_region ?_
  refine GO_q rfl rfl (ev_assign rfl) ?_
  refine GO_q rfl rfl (ev_assign rfl) ?_
  refine GO_q rfl rfl (ev_assign rfl) ?_
  refine GO_nil ?_
  (repeat first | refine G_seq ?_ | refine G_skip ?_ | refine G_endblk ?_ | refine G_block ?_ | refine G_exit rfl ?_)
  refine G_region ?_
  refine GO_eff rfl rfl (eff_call rfl (PNew_ctr 60 _ (by decide))) ?_; rintro _ _ ⟨t, rfl, rfl⟩
  refine GO_q rfl rfl (ev_move rfl) ?_
  refine GO_q rfl rfl (ev_extract rfl rfl) ?_
  refine GO_q rfl rfl (ev_extract rfl rfl) ?_
  refine GO_q rfl rfl (ev_assign rfl) ?_
  refine GO_q rfl rfl (ev_assign rfl) ?_
  refine GO_nil ?_
  (repeat first | refine G_seq ?_ | refine G_skip ?_ | refine G_endblk ?_ | refine G_block ?_ | refine G_exit rfl ?_)
  refine G_region ?_
  refine GO_q rfl rfl (ev_build rfl rfl) ?_
  refine GO_eff rfl rfl (eff_box rfl) ?_; rintro _ _ ⟨b14, rfl, rfl⟩
  refine GO_q rfl rfl (ev_assign rfl) ?_
  refine GO_nil ?_
  (repeat first | refine G_seq ?_ | refine G_skip ?_ | refine G_endblk ?_ | refine G_block ?_ | refine G_exit rfl ?_)
  refine G_region ?_
  refine GO_q rfl rfl (ev_move rfl) ?_
  (first | refine GO_q rfl rfl (ev_eqlNil rfl rfl) ?_ | refine GO_q rfl rfl (ev_eqlPtr rfl rfl) ?_)
  refine GO_q rfl rfl (ev_move rfl) ?_
  refine GO_yes rfl rfl rfl rfl ?_
  refine GO_q rfl rfl (ev_move rfl) ?_
  refine GO_yes rfl rfl rfl rfl ?_
  refine GO_q rfl rfl (ev_neq rfl rfl) ?_
  refine GO_q rfl rfl (ev_pick_f rfl rfl rfl) ?_
  refine GO_nil ?_
  (repeat first | refine G_seq ?_ | refine G_skip ?_ | refine G_endblk ?_ | refine G_block ?_ | refine G_exit rfl ?_)
  refine G_cond_f rfl rfl ?_
  (repeat first | refine G_seq ?_ | refine G_skip ?_ | refine G_endblk ?_ | refine G_block ?_ | refine G_exit rfl ?_)
  refine G_region ?_
  refine GO_q rfl rfl (ev_assign rfl) ?_
  refine GO_nil ?_
  (repeat first | refine G_seq ?_ | refine G_skip ?_ | refine G_endblk ?_ | refine G_block ?_ | refine G_exit rfl ?_)
  refine G_heap (own.nil_ 29 3) ?_
  refine G_loop (ι := Nat) (fun k => [(0, .slice A n c), (5, .pointer (some ⟨t, 0, none⟩)), (7, .pointer (some ⟨b14, 0, none⟩)), (8, .int .i64 (k : Nat))]) (fun k => treeS t 60 (playL 60 (acts.take k)) :: setS b14 60 (playL 60 (acts.take k)) :: F :: L) (fun k => k ≤ n ∧ k ≤ 80 ∧ (playL 60 (acts.take k)).length ≤ k) (fun k => n - k) 0 ⟨Nat.zero_le _, Nat.zero_le _, Nat.le_refl _⟩ ⟨rfl, rfl, rfl, rfl, trivial⟩ (en_pick (.skip (.skip .here)) (en_set (A := none) (c := 0) (l := []) (fun h => absurd h (Nat.lt_irrefl 0)) (en_blk (.skip .here) rfl (en_own .here rfl en_refl)))) ?_
  rintro k ⟨f1, f2, f3⟩
  by_cases c1 : k < n
  · by_cases c2 : k < 80
    · obtain ⟨lb, lo, rfl, hx⟩ := hl.at_ (by omega)
      have g1 : acts[k]? = some acts[k] := List.getElem?_eq_getElem (by omega)
      have y1 := hx _ _ g1
      have s1 := playL_succ 60 acts k (by omega)
      have m1 := ha acts[k] (List.getElem_mem _)
      have m2 := actL_length 60 (playL 60 (acts.take k)) acts[k]
      rw [← s1] at m2
      generalize acts[k] = u at *
      have z1 : LdN L lb (lo + k * 5) 5 [.int .i64 u.kind, .int .i64 u.at_, .int .i64 u.p.id, .int .i64 u.p.x, .int .i64 u.p.y] := y1
      (repeat first | refine G_seq ?_ | refine G_skip ?_ | refine G_endblk ?_ | refine G_block ?_ | refine G_exit rfl ?_)
      refine G_region ?_
      refine GO_q rfl rfl (ev_move rfl) ?_
      refine GO_q rfl rfl (ev_move rfl) ?_
      refine GO_q rfl rfl (ev_len rfl) ?_
      (first | refine GO_q rfl rfl (ev_lssN rfl rfl) ?_ | refine GO_q rfl rfl (ev_lss rfl rfl) ?_)
      refine GO_q rfl rfl (ev_move rfl) ?_
      refine GO_yes rfl rfl rfl (decide_eq_true (by omega)) ?_
      refine GO_q rfl rfl (ev_move rfl) ?_
      refine GO_yes rfl rfl rfl (decide_eq_true (by omega)) ?_
      (first | refine GO_q rfl rfl (ev_lssN (q := 80) rfl rfl) ?_ | refine GO_q rfl rfl (ev_lss rfl rfl) ?_)
      refine GO_q rfl rfl (ev_pick_t rfl (decide_eq_true (by omega)) rfl) ?_
      refine GO_nil ?_
      (repeat first | refine G_seq ?_ | refine G_skip ?_ | refine G_endblk ?_ | refine G_block ?_ | refine G_exit rfl ?_)
      refine G_cond_t rfl (decide_eq_true (by omega)) ?_
      (repeat first | refine G_seq ?_ | refine G_skip ?_ | refine G_endblk ?_ | refine G_block ?_ | refine G_exit rfl ?_)
      refine G_region ?_
      refine GO_q rfl rfl (ev_move rfl) ?_
      refine GO_q rfl rfl (ev_move rfl) ?_
      refine GO_q rfl rfl (ev_move rfl) ?_
      refine GO_q rfl rfl (ev_move rfl) ?_
      (first | refine GO_q rfl rfl (ev_indexAddrN rfl rfl (by first | omega | (simp; done) | (simp; omega))) ?_ | refine GO_q rfl rfl (ev_indexAddr rfl rfl (by first | omega | (simp; done) | (simp; omega)) (by first | omega | (simp; done) | (simp; omega))) ?_)
      refine GO_q rfl rfl (ev_loadN rfl (by repeat' first | exact LdN.blk rfl | assumption | apply LdN.skip | apply LdN.app)) ?_
      refine GO_eff rfl rfl (eff_call rfl (Ctr.pre (M := treeS t 60 _ :: setS b14 60 _ :: _) (by (repeat first | exact en_refl | (apply en_blk; focus ((repeat' first | exact Pick.here | apply Pick.skip | apply Pick.app); done); focus rfl) | (apply en_own; focus ((repeat' first | exact Pick.here | apply Pick.skip | apply Pick.app); done); focus rfl) | (apply en_pick; focus ((repeat' first | exact Pick.here | apply Pick.skip | apply Pick.app); done)) | apply en_drop | apply en_app) <;> fail) (does_ctr t b14 60 u _ _ (by omega) m1))) ?_; rintro _ _ ⟨rfl, rfl⟩
      refine GO_q rfl rfl (ev_not rfl) ?_
      refine GO_nil ?_
      (repeat first | refine G_seq ?_ | refine G_skip ?_ | refine G_endblk ?_ | refine G_block ?_ | refine G_exit rfl ?_)
      refine G_cond_f rfl rfl ?_
      rw [← s1]
      (repeat first | refine G_seq ?_ | refine G_skip ?_ | refine G_endblk ?_ | refine G_block ?_ | refine G_exit rfl ?_)
      refine G_region ?_
      refine GO_q rfl rfl (ev_move rfl) ?_
      (first | refine GO_q rfl rfl (ev_addN (q := 1) rfl rfl (by first | omega | (simp; done) | (simp; omega))) ?_ | refine GO_q rfl rfl (ev_add rfl rfl (by first | omega | (simp; done) | (simp; omega))) ?_)
      refine GO_q rfl rfl (ev_assign rfl) ?_
      refine GO_nil ?_
      (repeat first | refine G_seq ?_ | refine G_skip ?_ | refine G_endblk ?_ | refine G_block ?_ | refine G_exit rfl ?_)
      exact G_round (k + 1) ⟨by omega, by omega, by omega⟩ (by omega) ⟨rfl, rfl, rfl, rfl, trivial⟩ (by (repeat first | exact fun _ s => s | apply en_keep | apply en_drop | apply en_app) <;> fail)
    · skip
      (repeat first | refine G_seq ?_ | refine G_skip ?_ | refine G_endblk ?_ | refine G_block ?_ | refine G_exit rfl ?_)
      refine G_region ?_
      refine GO_q rfl rfl (ev_move rfl) ?_
      refine GO_q rfl rfl (ev_move rfl) ?_
      refine GO_q rfl rfl (ev_len rfl) ?_
      (first | refine GO_q rfl rfl (ev_lssN rfl rfl) ?_ | refine GO_q rfl rfl (ev_lss rfl rfl) ?_)
      refine GO_q rfl rfl (ev_move rfl) ?_
      refine GO_yes rfl rfl rfl (decide_eq_true (by omega)) ?_
      refine GO_q rfl rfl (ev_move rfl) ?_
      refine GO_yes rfl rfl rfl (decide_eq_true (by omega)) ?_
      (first | refine GO_q rfl rfl (ev_lssN (q := 80) rfl rfl) ?_ | refine GO_q rfl rfl (ev_lss rfl rfl) ?_)
      refine GO_q rfl rfl (ev_pick_t rfl (decide_eq_true (by omega)) rfl) ?_
      refine GO_nil ?_
      (repeat first | refine G_seq ?_ | refine G_skip ?_ | refine G_endblk ?_ | refine G_block ?_ | refine G_exit rfl ?_)
      refine G_cond_f rfl (decide_eq_false (by omega)) ?_
      (repeat first | refine G_seq ?_ | refine G_skip ?_ | refine G_endblk ?_ | refine G_block ?_ | refine G_exit rfl ?_)
      refine G_region ?_
      refine GO_q rfl rfl (ev_move rfl) ?_
      refine GO_q rfl rfl (ev_move rfl) ?_
      refine GO_q rfl rfl (ev_assign rfl) ?_
      refine GO_q rfl rfl (ev_assign rfl) ?_
      refine GO_q rfl rfl (ev_assign rfl) ?_
      refine GO_nil ?_
      (repeat first | refine G_seq ?_ | refine G_skip ?_ | refine G_endblk ?_ | refine G_block ?_ | refine G_exit rfl ?_)
      exact G_ret (L' := treeS t 60 (playL 60 (acts.take k)) :: setS b14 60 (playL 60 (acts.take k)) :: L) rfl (.tmp rfl (.tmp rfl (.tmp rfl .nil))) (by (repeat first | exact en_refl | (apply en_blk; focus ((repeat' first | exact Pick.here | apply Pick.skip | apply Pick.app); done); focus rfl) | (apply en_own; focus ((repeat' first | exact Pick.here | apply Pick.skip | apply Pick.app); done); focus rfl) | (apply en_pick; focus ((repeat' first | exact Pick.here | apply Pick.skip | apply Pick.app); done)) | apply en_drop | apply en_app) <;> fail) ⟨t, b14, _, rfl, ⟨by omega, playL_good _ _⟩, rfl⟩
  · skip
    (repeat first | refine G_seq ?_ | refine G_skip ?_ | refine G_endblk ?_ | refine G_block ?_ | refine G_exit rfl ?_)
    refine G_region ?_
    refine GO_q rfl rfl (ev_move rfl) ?_
    refine GO_q rfl rfl (ev_move rfl) ?_
    refine GO_q rfl rfl (ev_len rfl) ?_
    (first | refine GO_q rfl rfl (ev_lssN rfl rfl) ?_ | refine GO_q rfl rfl (ev_lss rfl rfl) ?_)
    refine GO_q rfl rfl (ev_move rfl) ?_
    refine GO_no rfl rfl rfl (decide_eq_false (by omega)) ?_
    refine GO_no rfl rfl rfl (decide_eq_false (by omega)) ?_
    refine GO_q rfl rfl (ev_pick_f rfl (decide_eq_false (by omega)) rfl) ?_
    refine GO_nil ?_
    (repeat first | refine G_seq ?_ | refine G_skip ?_ | refine G_endblk ?_ | refine G_block ?_ | refine G_exit rfl ?_)
    refine G_cond_f rfl rfl ?_
    (repeat first | refine G_seq ?_ | refine G_skip ?_ | refine G_endblk ?_ | refine G_block ?_ | refine G_exit rfl ?_)
    refine G_region ?_
    refine GO_q rfl rfl (ev_move rfl) ?_
    refine GO_q rfl rfl (ev_move rfl) ?_
    refine GO_q rfl rfl (ev_assign rfl) ?_
    refine GO_q rfl rfl (ev_assign rfl) ?_
    refine GO_q rfl rfl (ev_assign rfl) ?_
    refine GO_nil ?_
    (repeat first | refine G_seq ?_ | refine G_skip ?_ | refine G_endblk ?_ | refine G_block ?_ | refine G_exit rfl ?_)
    exact G_ret (L' := treeS t 60 (playL 60 (acts.take k)) :: setS b14 60 (playL 60 (acts.take k)) :: L) rfl (.tmp rfl (.tmp rfl (.tmp rfl .nil))) (by (repeat first | exact en_refl | (apply en_blk; focus ((repeat' first | exact Pick.here | apply Pick.skip | apply Pick.app); done); focus rfl) | (apply en_own; focus ((repeat' first | exact Pick.here | apply Pick.skip | apply Pick.app); done); focus rfl) | (apply en_pick; focus ((repeat' first | exact Pick.here | apply Pick.skip | apply Pick.app); done)) | apply en_drop | apply en_app) <;> fail) ⟨t, b14, _, rfl, ⟨by omega, playL_good _ _⟩, rfl⟩
end Go.Proofs.YtalcanejhniepaaGreat
/- That a point is seen. -/
namespace Go.Proofs.YtalcanejhniepaaGreat
set_option linter.unusedVariables false
set_option linter.unusedSimpArgs false
set_option maxRecDepth 100000

end Go.Proofs.YtalcanejhniepaaGreat
/- The law PstBack: the walk. -/
namespace Go.Proofs.YtalcanejhniepaaGreat
set_option linter.unusedVariables false
set_option linter.unusedSimpArgs false
set_option maxRecDepth 100000

theorem good_hi {n : Int} (h : good n = true) : n ≤ 1099511627776 := by
  unfold good at h; simp at h; exact h.2
theorem goodP_y {p : Pt} (h : goodP p = true) : p.y ≤ 1099511627776 := by
  unfold goodP at h; simp at h; exact good_hi h.2.2
theorem hits_win (w : Wn) (l : List Pt) (h : ∀ p ∈ l, goodP p = true) : hits (fun p => Bx.has ⟨w.x1, w.x2, w.y, 1099511627776⟩ p.x p.y) l = winIds w l := by
  unfold hits winIds
  congr 1
  refine List.filter_congr fun p hp => ?_
  have := goodP_y (h p hp)
  unfold Bx.has Wn.sees wthn
  simp [this]
end Go.Proofs.YtalcanejhniepaaGreat
/- Trees that are heaps by Y: looking at nodes, as the law does. -/
namespace Go.Proofs.YtalcanejhniepaaGreat
attribute [local irreducible] sat
set_option linter.unusedVariables false
set_option linter.unusedSimpArgs false
set_option maxRecDepth 100000

theorem Look_ctr (x : PA) (w : Wn) (L : List HP) (h : PIn L x) : Ctr Tryz.prog 37 #[.pointer x.addr, .agg #[.int .i64 w.x1, .int .i64 w.x2, .int .i64 w.y]] L fun v L' => LookR (x.hit w) (x.next w) L v L' := by
  refine Ctr_of (fn := Tryz.f37) (n := 11) Tryz.func37 rfl rfl rfl ?_
  intro g F
  (repeat first | refine G_seq ?_ | refine G_skip ?_ | refine G_endblk ?_ | refine G_block ?_ | refine G_exit rfl ?_)
  refine G_region ?_
  refine GO_eff rfl rfl (eff_box rfl) ?_; rintro _ _ ⟨b3, rfl, rfl⟩
  refine GO_q rfl rfl (ev_assign rfl) ?_
  refine GO_q rfl rfl (ev_assign rfl) ?_
  refine GO_nil ?_
  (repeat first | refine G_seq ?_ | refine G_skip ?_ | refine G_endblk ?_ | refine G_block ?_ | refine G_exit rfl ?_)
  refine G_region ?_
  refine GO_q rfl rfl (ev_move rfl) ?_
  refine GO_q rfl rfl (ev_loadN rfl (by repeat' first | exact LdN.blk rfl | assumption | apply LdN.skip | apply LdN.app)) ?_
  refine GO_eff rfl rfl (eff_call rfl (look_ctr x w _ h.skip.skip)) ?_; rintro _ _ ⟨A8, c8, rfl, hA8, rfl⟩
  refine GO_q rfl rfl (ev_extract rfl rfl) ?_
  refine GO_q rfl rfl (ev_extract rfl rfl) ?_
  refine GO_q rfl rfl (ev_assign rfl) ?_
  refine GO_q rfl rfl (ev_assign rfl) ?_
  refine GO_nil ?_
  (repeat first | refine G_seq ?_ | refine G_skip ?_ | refine G_endblk ?_ | refine G_block ?_ | refine G_exit rfl ?_)
  exact G_ret (L' := own 50 1 A8 (x.next w).length c8 (flat (addrs (x.next w))) :: L) rfl (.tmp rfl (.tmp rfl .nil)) (by (repeat first | exact en_refl | (apply en_blk; focus ((repeat' first | exact Pick.here | apply Pick.skip | apply Pick.app); done); focus rfl) | (apply en_own; focus ((repeat' first | exact Pick.here | apply Pick.skip | apply Pick.app); done); focus rfl) | (apply en_pick; focus ((repeat' first | exact Pick.here | apply Pick.skip | apply Pick.app); done)) | apply en_drop | apply en_app) <;> fail) ⟨A8, c8, rfl, hA8, rfl⟩
def PA.pt : PA → Pt
  | .nil => ⟨0, 0, 0⟩
  | .node _ p _ _ _ => p
theorem NPoint_ctr (x : PA) (L : List HP) (h : PIn L x) : Ctr Tryz.prog 42 #[.pointer x.addr] L fun v L' => v = x.pt.v ∧ L' = L := by
  cases x with
  | nil =>
    refine Ctr_of (fn := Tryz.f42) (n := 10) Tryz.func42 rfl rfl rfl ?_
    intro g F
    (repeat first | refine G_seq ?_ | refine G_skip ?_ | refine G_endblk ?_ | refine G_block ?_ | refine G_exit rfl ?_)
    refine G_region ?_
    refine GO_eff rfl rfl eff_alloc ?_; rintro _ _ ⟨b2, rfl, rfl⟩
    refine GO_nil ?_
    (repeat first | refine G_seq ?_ | refine G_skip ?_ | refine G_endblk ?_ | refine G_block ?_ | refine G_exit rfl ?_)
    refine G_region ?_
    refine GO_q rfl rfl (ev_move rfl) ?_
    (first | refine GO_q rfl rfl (ev_eqlNil rfl rfl) ?_ | refine GO_q rfl rfl (ev_eqlPtr rfl rfl) ?_)
    refine GO_nil ?_
    (repeat first | refine G_seq ?_ | refine G_skip ?_ | refine G_endblk ?_ | refine G_block ?_ | refine G_exit rfl ?_)
    refine G_cond_t rfl rfl ?_
    (repeat first | refine G_seq ?_ | refine G_skip ?_ | refine G_endblk ?_ | refine G_block ?_ | refine G_exit rfl ?_)
    refine G_region ?_
    refine GO_q rfl rfl (ev_build rfl rfl) ?_
    refine GO_eff rfl rfl (eff_storeN rfl rfl rfl rfl (by repeat' first | exact Upd.here rfl | apply Upd.skip | apply Upd.app)) ?_; rintro _ _ ⟨rfl, rfl⟩
    refine GO_nil ?_
    (repeat first | refine G_seq ?_ | refine G_skip ?_ | refine G_endblk ?_ | refine G_block ?_ | refine G_exit rfl ?_)
    refine G_ret rfl (.cell rfl (loadN_run (by repeat' first | exact LdN.blk rfl | assumption | apply LdN.skip | apply LdN.app)) .nil) (by (repeat first | exact fun _ s => s | apply en_keep | apply en_drop | apply en_app) <;> fail) ⟨rfl, rfl⟩
  | node b p s lo hi =>
    obtain ⟨q1, q2, q3, q4, q5, q6, q7, q8, q9⟩ := h.f
    refine Ctr_of (fn := Tryz.f42) (n := 10) Tryz.func42 rfl rfl rfl ?_
    intro g F
    (repeat first | refine G_seq ?_ | refine G_skip ?_ | refine G_endblk ?_ | refine G_block ?_ | refine G_exit rfl ?_)
    refine G_region ?_
    refine GO_eff rfl rfl eff_alloc ?_; rintro _ _ ⟨b2, rfl, rfl⟩
    refine GO_nil ?_
    (repeat first | refine G_seq ?_ | refine G_skip ?_ | refine G_endblk ?_ | refine G_block ?_ | refine G_exit rfl ?_)
    refine G_region ?_
    refine GO_q rfl rfl (ev_move rfl) ?_
    (first | refine GO_q rfl rfl (ev_eqlNil rfl rfl) ?_ | refine GO_q rfl rfl (ev_eqlPtr rfl rfl) ?_)
    refine GO_nil ?_
    (repeat first | refine G_seq ?_ | refine G_skip ?_ | refine G_endblk ?_ | refine G_block ?_ | refine G_exit rfl ?_)
    refine G_cond_f rfl rfl ?_
    (repeat first | refine G_seq ?_ | refine G_skip ?_ | refine G_endblk ?_ | refine G_block ?_ | refine G_exit rfl ?_)
    refine G_region ?_
    refine GO_q rfl rfl (ev_move rfl) ?_
    (first | refine GO_q rfl rfl (ev_nilCheck rfl) ?_ | refine GO_q rfl rfl (ev_nilCheckF (by simp) rfl) ?_)
    refine GO_q rfl rfl (ev_fieldAddr rfl) ?_
    refine GO_q rfl rfl (ev_loadN rfl (by repeat' first | exact LdN.blk rfl | assumption | apply LdN.skip | apply LdN.app)) ?_
    refine GO_eff rfl rfl (eff_storeN rfl rfl rfl rfl (by repeat' first | exact Upd.here rfl | apply Upd.skip | apply Upd.app)) ?_; rintro _ _ ⟨rfl, rfl⟩
    refine GO_nil ?_
    (repeat first | refine G_seq ?_ | refine G_skip ?_ | refine G_endblk ?_ | refine G_block ?_ | refine G_exit rfl ?_)
    refine G_ret rfl (.cell rfl (loadN_run (by repeat' first | exact LdN.blk rfl | assumption | apply LdN.skip | apply LdN.app)) .nil) (by (repeat first | exact fun _ s => s | apply en_keep | apply en_drop | apply en_app) <;> fail) ⟨rfl, rfl⟩
/-- At how many nodes one looks. -/
def PA.cnt (w : Wn) : PA → Nat
  | .nil => 1
  | .node _ p s lo hi => 1 + if p.y < w.y then 0 else (if !lo.isN && decide (w.x1 ≤ s.x) then lo.cnt w else 0) + (if !hi.isN && decide (s.x ≤ w.x2) then hi.cnt w else 0)
def cntL (w : Wn) (l : List PA) : Nat := (l.map (PA.cnt w)).sum
theorem cntL_app (w : Wn) (l m : List PA) : cntL w (l ++ m) = cntL w l + cntL w m := by simp [cntL]
theorem PA.cnt_eq (w : Wn) (x : PA) : x.cnt w = 1 + cntL w (x.next w) := by
  cases x with
  | nil => rfl
  | node b p s lo hi =>
    unfold PA.cnt PA.next
    rw [cntL_app]
    simp only [PA.next1, PA.next2]
    by_cases h : p.y < w.y
    · simp [h, cntL]
    · rw [if_neg h, if_neg h, if_neg h]
      congr 2 <;> split <;> simp [cntL]
theorem PA.cnt_size (w : Wn) : ∀ x : PA, x.isN = false → x.cnt w ≤ x.t.size
  | .nil, h => by cases h
  | .node b p s lo hi, _ => by
    have h1 := PA.cnt_size w lo
    have h2 := PA.cnt_size w hi
    simp only [PA.cnt, PA.t, PT.size]
    split
    · omega
    · have e1 : (if !lo.isN && decide (w.x1 ≤ s.x) then lo.cnt w else 0) ≤ lo.t.size := by
        cases hn : lo.isN with
        | true => simp
        | false => have := h1 hn; split <;> omega
      have e2 : (if !hi.isN && decide (s.x ≤ w.x2) then hi.cnt w else 0) ≤ hi.t.size := by
        cases hn : hi.isN with
        | true => simp
        | false => have := h2 hn; split <;> omega
      omega
theorem seenL_cons (w : Wn) (x : PA) (l : List PA) : seenL w (x :: l) = x.seen w ++ seenL w l := by simp [seenL]
theorem seenL_app (w : Wn) (l m : List PA) : seenL w (l ++ m) = seenL w l ++ seenL w m := by simp [seenL]
structure Kid (x y : PA) : Prop where
  nn : y.isN = false
  ok : x.t.Ok → y.t.Ok
  lt : y.t.size < x.t.size
  dp : y.t.depth + 1 ≤ x.t.depth
  un : x.t.Ok → und y.pt x.pt = true
theorem next_kid (w : Wn) (x : PA) : ∀ y ∈ x.next w, Kid x y := by
  cases x with
  | nil => intro y hy; cases hy
  | node b p s lo hi =>
    intro y hy
    simp only [PA.next, PA.next1, PA.next2, List.mem_append] at hy
    by_cases h : p.y < w.y
    · simp [h] at hy
    · rw [if_neg h, if_neg h] at hy
      rcases hy with hy | hy
      · split at hy
        · rename_i hc
          rw [List.mem_singleton] at hy
          subst hy
          cases y with
          | nil => simp [PA.isN] at hc
          | node b' p' s' lo' hi' =>
            exact ⟨rfl, fun o => o.1, by simp only [PA.t, PT.size]; omega, by simp only [PA.t, PT.depth]; omega, fun o => o.2.2.2.2 p' (List.mem_append.2 (.inl (List.mem_cons_self ..)))⟩
        · cases hy
      · split at hy
        · rename_i hc
          rw [List.mem_singleton] at hy
          subst hy
          cases y with
          | nil => simp [PA.isN] at hc
          | node b' p' s' lo' hi' =>
            exact ⟨rfl, fun o => o.2.1, by simp only [PA.t, PT.size]; omega, by simp only [PA.t, PT.depth]; omega, fun o => o.2.2.2.2 p' (List.mem_append.2 (.inr (List.mem_cons_self ..)))⟩
        · cases hy
theorem next_len (w : Wn) (x : PA) : (x.next w).length ≤ 2 := by
  cases x with
  | nil => simp [PA.next, PA.next1, PA.next2]
  | node b p s lo hi =>
    simp only [PA.next, PA.next1, PA.next2, List.length_append]
    repeat' split
    all_goals simp
def LooksR (l : List Int) (k : Nat) (L : List HP) (v : Value) (L' : List HP) : Prop := ∃ A c, v = .tuple #[.slice A l.length c, .int .i64 (k : Nat), .bool true] ∧ (0 < l.length → ∃ b, A = some ⟨b, 0, none⟩) ∧ L' = own 3 1 A l.length c (flat l) :: L
end Go.Proofs.YtalcanejhniepaaGreat
/- Where a function ends without a word. No program stands in this text. -/
namespace Go.Proofs.YtalcanejhniepaaGreat
open Go.RowKit
section
variable {P : Program} {fn : Func} {g : Glob} {n : Nat} {σ : Env} {L : List HP}
theorem G_end {rs : List ResultVar} {vs : List Value} {L' : List HP} {F : HP} {post : Value → List HP → Prop} (hr : fn.results = rs.toArray) (h : Res P σ L rs vs) (hL : ∀ h, sat L h → sat (F :: L') h) (hp : post (retv vs) L') : G P (retB P fn g F post) g n [] σ L := fun a w hs hw => by
  refine ⟨hs.defers, retv vs, ?_, L', hp, hw.mono hL⟩
  unfold results
  rw [hr]
  simp only [List.mapM_toArray, Sem.run_bind, Sem.run_map]
  have e := h.run hs.e hw.s
  generalize hm : List.mapM (m := Sem) _ rs = m
  have e' : m.run P w = .ok vs w := by rw [← hm]; exact e
  rw [e']
  simp only [Result.andThen_ok, Sem.run_pure]
  cases vs with
  | nil => rfl
  | cons v l => cases l <;> simp [retv]
end
end Go.Proofs.YtalcanejhniepaaGreat
/- Trees that are heaps by Y: the highest point between two places. -/
namespace Go.Proofs.YtalcanejhniepaaGreat
set_option linter.unusedVariables false
set_option linter.unusedSimpArgs false
set_option maxRecDepth 100000

def sel (x1 x2 : Int) (p : Pt) : Bool := decide (x1 ≤ p.x) && decide (p.x ≤ x2)
theorem sel_true {x1 x2 : Int} {p : Pt} : sel x1 x2 p = true ↔ x1 ≤ p.x ∧ p.x ≤ x2 := by simp [sel]
/-- From one best point to another one, over some points. -/
structure Top (x1 x2 : Int) (l : List Pt) (f : Bool) (p : Pt) (f' : Bool) (p' : Pt) : Prop where
  fnd : f' = true ↔ (f = true ∨ ∃ q ∈ l, sel x1 x2 q = true)
  non : f' = false → p' = p
  src : f' = true → (f = true ∧ p' = p) ∨ (p' ∈ l ∧ sel x1 x2 p' = true)
  old : f = true → p' = p ∨ und p p' = true
  all : ∀ q ∈ l, sel x1 x2 q = true → q = p' ∨ und q p' = true
theorem Top.out {x1 x2 : Int} {l : List Pt} {f : Bool} {p : Pt} (h : ∀ q ∈ l, sel x1 x2 q = false) : Top x1 x2 l f p f p where
  fnd := ⟨.inl, fun h' => h'.elim id fun ⟨q, hq, hs⟩ => by rw [h q hq] at hs; cases hs⟩
  non := fun _ => rfl
  src := fun e => .inl ⟨e, rfl⟩
  old := fun _ => .inl rfl
  all := fun q hq hs => by rw [h q hq] at hs; cases hs
theorem Top.low {x1 x2 : Int} {l : List Pt} {p : Pt} (h : ∀ q ∈ l, q = p ∨ und q p = true) : Top x1 x2 l true p true p where
  fnd := ⟨fun _ => .inl rfl, fun _ => rfl⟩
  non := fun _ => rfl
  src := fun e => .inl ⟨e, rfl⟩
  old := fun _ => .inl rfl
  all := fun q hq _ => h q hq
theorem Top.new {x1 x2 : Int} {l : List Pt} {f : Bool} {p q : Pt} (hq : q ∈ l) (hs : sel x1 x2 q = true) (h : ∀ r ∈ l, r = q ∨ und r q = true) (ho : f = true → und p q = true) : Top x1 x2 l f p true q where
  fnd := ⟨fun _ => .inr ⟨q, hq, hs⟩, fun _ => rfl⟩
  non := fun e => by cases e
  src := fun _ => .inr ⟨hq, hs⟩
  old := fun e => .inr (ho e)
  all := fun r hr _ => h r hr
theorem und_le {p q r : Pt} (h : p = q ∨ und p q = true) (k : q = r ∨ und q r = true) : p = r ∨ und p r = true := by
  rcases h with rfl | h
  · exact k
  · rcases k with rfl | k
    · exact .inr h
    · exact .inr (und_trans h k)
theorem Top.app {x1 x2 : Int} {l m : List Pt} {f f1 f2 : Bool} {p p1 p2 : Pt} (h1 : Top x1 x2 l f p f1 p1) (h2 : Top x1 x2 m f1 p1 f2 p2) : Top x1 x2 (l ++ m) f p f2 p2 where
  fnd := by
    rw [h2.fnd, h1.fnd]
    simp only [List.mem_append, or_assoc]
    constructor
    · rintro (h | ⟨q, h, k⟩ | ⟨q, h, k⟩)
      · exact .inl h
      · exact .inr ⟨q, .inl h, k⟩
      · exact .inr ⟨q, .inr h, k⟩
    · rintro (h | ⟨q, h | h, k⟩)
      · exact .inl h
      · exact .inr (.inl ⟨q, h, k⟩)
      · exact .inr (.inr ⟨q, h, k⟩)
  non := fun e => by
    have e1 : f1 = false := by
      cases hf : f1 with
      | false => rfl
      | true => have := h2.fnd.2 (.inl hf); rw [e] at this; cases this
    rw [h2.non e, h1.non e1]
  src := fun e => by
    rcases h2.src e with ⟨a, rfl⟩ | ⟨a, b⟩
    · rcases h1.src a with ⟨c, rfl⟩ | ⟨c, d⟩
      · exact .inl ⟨c, rfl⟩
      · exact .inr ⟨List.mem_append.2 (.inl c), d⟩
    · exact .inr ⟨List.mem_append.2 (.inr a), b⟩
  old := fun e => by
    have a : p = p1 ∨ und p p1 = true := (h1.old e).imp Eq.symm id
    have b : p1 = p2 ∨ und p1 p2 = true := (h2.old (h1.fnd.2 (.inl e))).imp Eq.symm id
    exact (und_le a b).imp Eq.symm id
  all := fun q hq hs => by
    rcases List.mem_append.1 hq with hq | hq
    · exact und_le (h1.all q hq hs) ((h2.old (h1.fnd.2 (.inr ⟨q, hq, hs⟩))).imp Eq.symm id)
    · exact h2.all q hq hs
theorem Top.cons {x1 x2 : Int} {l : List Pt} {f f' : Bool} {p p' q : Pt} (hq : sel x1 x2 q = false) (h : Top x1 x2 l f p f' p') : Top x1 x2 (q :: l) f p f' p' :=
  Top.app (l := [q]) (Top.out (fun r hr => by rw [List.mem_singleton.1 hr]; exact hq)) h
theorem Top.uniq {x1 x2 : Int} {l m : List Pt} {z p1 p2 : Pt} {f1 f2 : Bool} (hp : l.Perm m) (h1 : Top x1 x2 l false z f1 p1) (h2 : Top x1 x2 m false z f2 p2) : f1 = f2 ∧ p1 = p2 := by
  have e : f1 = true ↔ f2 = true := by
    rw [h1.fnd, h2.fnd]
    simp only [hp.mem_iff]
  have ef : f1 = f2 := by cases f1 <;> cases f2 <;> simp_all
  subst ef
  refine ⟨rfl, ?_⟩
  cases f1 with
  | false => rw [h1.non rfl, h2.non rfl]
  | true =>
    rcases h1.src rfl with ⟨a, _⟩ | ⟨a, b⟩
    · cases a
    · rcases h2.src rfl with ⟨c, _⟩ | ⟨c, d⟩
      · cases c
      · rcases h1.all _ (hp.mem_iff.2 c) d with u | u
        · exact u.symm
        · rcases h2.all _ (hp.mem_iff.1 a) b with v | v
          · exact v
          · rw [und_asymm u] at v; cases v
theorem beh_lo {q s : Pt} (h : beh q s = false) : q.x ≤ s.x := by
  rw [beh_false] at h
  have h1 := Pt.less_iff s q
  rw [h] at h1
  simp at h1
  omega
theorem beh_hi {q s : Pt} (h : beh q s = true) : s.x ≤ q.x := by
  rw [beh_true] at h
  have h1 := (Pt.less_iff s q).1 h
  omega
def TopR (x1 x2 : Int) (l : List Pt) (v : Value) : Prop := ∃ (f : Bool) (p : Pt), v = .tuple #[p.v, .bool f] ∧ Top x1 x2 l false ⟨0, 0, 0⟩ f p
theorem up_pos (p q : Pt) : 0 < up p q ↔ und q p = true := by
  rw [und_iff]
  exact Pt.cmp_gt _ _
end Go.Proofs.YtalcanejhniepaaGreat
/- What a contract leaves, put otherwise. No program stands in this text. -/
namespace Go.Proofs.YtalcanejhniepaaGreat
theorem Ctr.post' {P : Program} {f : FuncId} {args : Array Value} {L : List HP} {post post' : Value → List HP → Prop} (h : Ctr P f args L post) (hp : ∀ v L' hm, post v L' → sat L' hm → ∃ M, post' v M ∧ sat M hm) : Ctr P f args L post' := fun g F w hw =>
  (h g F w hw).mono fun e w' ⟨v, L', e1, p, q⟩ => by
    obtain ⟨h1, h2, d, s1, s2, a, l⟩ := q.s
    obtain ⟨M, pm, sm⟩ := hp v L' h2 p l
    exact ⟨v, M, e1, pm, q.g, h1, h2, d, s1, s2, a, sm⟩
theorem Ctr.open {P : Program} {f : FuncId} {args : Array Value} {L : List HP} {A : HP} {ι : Type} {N : ι → List HP} {Fa : ι → Prop} {post : Value → List HP → Prop} (op : ∀ h, A h → ∃ x, Fa x ∧ sat (N x) h) (C : ∀ x, Fa x → Ctr P f args (N x ++ L) post) : Ctr P f args (A :: L) post := fun g F w hw => by
  obtain ⟨h1, h2, d, s1, s2, ha, hl⟩ := hw.s.swap
  obtain ⟨x, fx, nx⟩ := op _ ha
  have hs : sat (N x ++ (F :: L)) w.hm := sat.head (A := fun h => h = h1) (fun _ e => e ▸ nx) ⟨h1, h2, d, s1, s2, rfl, hl⟩
  exact C x fx g F w ⟨hw.g, hs.perm List.perm_middle⟩
end Go.Proofs.YtalcanejhniepaaGreat
/- A stack of nodes: what lies in memory. -/
namespace Go.Proofs.YtalcanejhniepaaGreat
set_option linter.unusedVariables false
set_option linter.unusedSimpArgs false

instance encPA : Enc PA := ⟨1, fun x => [.pointer x.addr], fun _ => rfl, fun _ v h => by simp at h; subst h; rfl⟩
/-- A stack at a place. -/
def stkS (b : Nat) (most : Int) (l : List PA) : HP := fun h => ∃ x : Option Addr × Nat, (0 < l.length → ∃ b, x.1 = some ⟨b, 0, none⟩) ∧ sat [blk b 91 [.slice x.1 l.length x.2, .int .i64 most], own 50 1 x.1 l.length x.2 (flat l)] h
theorem stk_open {s : Nat} {most : Int} {l : List PA} {M : List HP} {hm : Hm} (h : sat (stkS s most l :: M) hm) : ∃ A c, (0 < l.length → ∃ b, A = some ⟨b, 0, none⟩) ∧ l.length ≤ c ∧ c ≤ maxLen ∧ sat (blk s 91 [.slice A l.length c, .int .i64 most] :: own 50 1 A l.length c (flat l) :: M) hm := by
  obtain ⟨h1, h2, d, s1, s2, ⟨⟨A, c⟩, hA, q⟩, t⟩ := h
  have q0 := own.facts (L := []) q.tail
  exact ⟨A, c, hA, q0.2.1, q0.2.2.1, sat.head (A := fun h => h = h1) (N := [blk s 91 [.slice A l.length c, .int .i64 most], own 50 1 A l.length c (flat l)]) (fun _ e => e ▸ q) ⟨h1, h2, d, s1, s2, rfl, t⟩⟩
theorem Ctr.stk {P : Program} {f : FuncId} {args : Array Value} {L : List HP} {b : Nat} {most : Int} {l : List PA} {post : Value → List HP → Prop}
    (C : ∀ A c, (0 < l.length → ∃ b, A = some ⟨b, 0, none⟩) → l.length ≤ c → c ≤ maxLen → Ctr P f args (blk b 91 [.slice A l.length c, .int .i64 most] :: own 50 1 A l.length c (flat l) :: L) post) : Ctr P f args (stkS b most l :: L) post := fun g F w hw => by
  obtain ⟨A, c, h1, h2, h3, h4⟩ := stk_open hw.s.swap
  exact C A c h1 h2 h3 g F w ⟨hw.g, h4.perm (List.perm_middle (l₁ := [_, _]))⟩
theorem G_stk {P : Program} {B : Exit → Act → World → Prop} {g : Glob} {n : Nat} {K : List Kt} {σ : Env} {L : List HP} {b : Nat} {most : Int} {l : List PA}
    (h : ∀ A c, (0 < l.length → ∃ b, A = some ⟨b, 0, none⟩) → l.length ≤ c → c ≤ maxLen → G P B g n K σ (blk b 91 [.slice A l.length c, .int .i64 most] :: own 50 1 A l.length c (flat l) :: L)) : G P B g n K σ (stkS b most l :: L) := fun a w hs hw => by
  obtain ⟨A, c, h1, h2, h3, h4⟩ := stk_open hw.s
  exact h A c h1 h2 h3 a w hs ⟨hw.g, h4⟩
theorem en_stk {L M : List HP} {b c : Nat} {A : Option Addr} {most : Int} {l : List PA} (hA : 0 < l.length → ∃ b, A = some ⟨b, 0, none⟩) (f : ∀ h, sat L h → sat (blk b 91 [.slice A l.length c, .int .i64 most] :: own 50 1 A l.length c (flat l) :: M) h) : ∀ h, sat L h → sat (stkS b most l :: M) h := fun h s =>
  sat.fold (N := [_, _]) (fun h q => ⟨(A, c), hA, q⟩) (f h s)
theorem own_of1 {L : List HP} {b c : Nat} {T : TypeId} {u v : Value} {r : List Value} (k1 : (v :: u :: r).length = c * 1) (k2 : 2 ≤ c) (k3 : c ≤ maxLen) : ∀ h, sat (blk b T (u :: v :: r) :: L) h → sat (own T 1 (some ⟨b, 0, none⟩) 2 c [u, v] :: L) h := fun h s => by
  obtain ⟨h1, h2, d, s1, s2, q, z⟩ := s
  exact ⟨h1, h2, d, s1, s2, own.cls (n := 2) (c := c) (sz := 1) (cs := u :: v :: r) q k1 k2 k3, z⟩
theorem sw2 (u v : Value) (r : List Value) : setN (setN (u :: v :: r) (0 + 0 * 1) [v]) (0 + 1 * 1) [u] = v :: u :: r := by
  rw [setN_eq (u :: v :: r) _ _ (by simp), setN_eq _ _ _ (by simp)]
  simp
end Go.Proofs.YtalcanejhniepaaGreat
/- A heap of nodes in an array: what is told of lists. No program is walked here. -/
namespace Go.Proofs.YtalcanejhniepaaGreat
set_option linter.unusedVariables false
set_option linter.unusedSimpArgs false

/-- Not above. -/
def lowr (p q : Pt) : Prop := und q p = false
theorem lowr_refl (p : Pt) : lowr p p := und_irrefl p
theorem lowr_of {p q : Pt} (h : und p q = true) : lowr p q := und_asymm h
theorem lowr_iff {p q : Pt} : lowr p q ↔ (p = q ∨ und p q = true) := by
  constructor
  · intro h
    by_cases e : p = q
    · exact .inl e
    · exact .inr (und_total (Ne.symm e) h)
  · rintro (rfl | h)
    · exact lowr_refl _
    · exact lowr_of h
theorem lowr_trans {p q r : Pt} (h : lowr p q) (k : lowr q r) : lowr p r := lowr_iff.2 (und_le (lowr_iff.1 h) (lowr_iff.1 k))
theorem lowr_total {p q : Pt} (h : ¬ lowr p q) : lowr q p := by
  unfold lowr at h
  exact lowr_of (by simpa using h)
theorem lowr_anti {p q : Pt} (h : lowr p q) (k : lowr q p) : p = q := by
  rcases lowr_iff.1 h with h | h
  · exact h
  · unfold lowr at k; rw [h] at k; cases k
/-- The point of the i-th. -/
def ky (xs : List PA) (i : Nat) : Pt := (xs.getD i .nil).pt
theorem ky_eq {xs : List PA} {i : Nat} {x : PA} (h : xs[i]? = some x) : ky xs i = x.pt := by
  unfold ky; rw [List.getD_eq_getElem?_getD, h]; rfl
def sw (xs : List PA) (i j : Nat) : List PA := (xs.set i (xs.getD j .nil)).set j (xs.getD i .nil)
theorem sw_len (xs : List PA) (i j : Nat) : (sw xs i j).length = xs.length := by simp [sw]
theorem sw_perm (xs : List PA) {i j : Nat} (hi : i < xs.length) (hj : j < xs.length) : (sw xs i j).Perm xs := by
  have h := Array.swap_perm (xs := xs.toArray) (i := i) (j := j) (by simpa using hi) (by simpa using hj)
  have e : (xs.toArray.swap i j (by simpa using hi) (by simpa using hj)).toList = sw xs i j := by
    simp [sw, List.getD_eq_getElem?_getD, List.getElem?_eq_getElem hi, List.getElem?_eq_getElem hj]
  have h2 : (xs.toArray.swap i j (by simpa using hi) (by simpa using hj)).toList.Perm xs.toArray.toList := h.toList
  rw [e] at h2
  simpa using h2
theorem ky_sw (xs : List PA) {i j : Nat} (hi : i < xs.length) (hj : j < xs.length) (k : Nat) : ky (sw xs i j) k = if k = j then ky xs i else if k = i then ky xs j else ky xs k := by
  unfold ky sw
  simp only [List.getD_eq_getElem?_getD, List.getElem?_set, List.length_set]
  by_cases h1 : k = j
  · subst h1; simp [hj]
  · by_cases h2 : k = i
    · subst h2; simp [h1, Ne.symm h1, hi]
    · simp [h1, h2, Ne.symm h1, Ne.symm h2]
def par (i : Nat) : Nat := (i - 1) / 2
/-- A heap. -/
def HO (xs : List PA) : Prop := ∀ i, 0 < i → i < xs.length → lowr (ky xs i) (ky xs (par i))
structure SU (xs : List PA) (i : Nat) : Prop where
  a : ∀ j, 0 < j → j < xs.length → j ≠ i → lowr (ky xs j) (ky xs (par j))
  b : ∀ j, 0 < j → j < xs.length → par j = i → 0 < i → lowr (ky xs j) (ky xs (par i))
theorem SU.new {xs : List PA} (h : HO xs) (x : PA) : SU (xs ++ [x]) xs.length := by
  have e : ∀ j, j < xs.length → ky (xs ++ [x]) j = ky xs j := fun j hj => by
    unfold ky; simp [List.getD_eq_getElem?_getD, List.getElem?_append_left hj]
  refine ⟨fun j h1 h2 h3 => ?_, fun j h1 h2 h3 h4 => ?_⟩
  · simp at h2
    rw [e j (by omega), e (par j) (by unfold par; omega)]
    exact h j h1 (by omega)
  · exfalso
    simp at h2
    unfold par at h3
    omega
theorem SU.done {xs : List PA} {i : Nat} (h : SU xs i) (hi : i = 0 ∨ lowr (ky xs i) (ky xs (par i))) : HO xs := fun j h1 h2 => by
  by_cases e : j = i
  · subst e
    rcases hi with hi | hi
    · omega
    · exact hi
  · exact h.a j h1 h2 e
theorem SU.step {xs : List PA} {i : Nat} (h : SU xs i) (h0 : 0 < i) (hi : i < xs.length) (hu : lowr (ky xs (par i)) (ky xs i)) : SU (sw xs i (par i)) (par i) := by
  have hp : par i < i := by unfold par; omega
  have hpl : par i < xs.length := by omega
  refine ⟨fun j h1 h2 h3 => ?_, fun j h1 h2 h3 h4 => ?_⟩
  · rw [sw_len] at h2
    rw [ky_sw xs hi hpl, ky_sw xs hi hpl, if_neg h3]
    by_cases e1 : j = i
    · subst e1
      rw [if_pos rfl, if_pos rfl]; exact hu
    · rw [if_neg e1]
      by_cases e2 : par j = par i
      · rw [if_pos e2]
        have := h.a j h1 h2 e1
        rw [e2] at this
        exact lowr_trans this hu
      · rw [if_neg e2]
        by_cases e3 : par j = i
        · rw [if_pos e3]; exact h.b j h1 h2 e3 h0
        · rw [if_neg e3]; exact h.a j h1 h2 e1
  · rw [sw_len] at h2
    have hjp : j ≠ par i := by rintro rfl; unfold par at h3 h1; omega
    have hpp : par (par i) < par i := by unfold par at h4 ⊢; omega
    rw [ky_sw xs hi hpl, ky_sw xs hi hpl, if_neg hjp, if_neg (by omega : par (par i) ≠ par i), if_neg (by omega : par (par i) ≠ i)]
    by_cases e1 : j = i
    · rw [if_pos e1]; exact h.a (par i) h4 hpl (by omega)
    · rw [if_neg e1]
      have k1 := h.a j h1 h2 e1
      rw [h3] at k1
      exact lowr_trans k1 (h.a (par i) h4 hpl (by omega))
structure SD (xs : List PA) (i : Nat) : Prop where
  a : ∀ j, 0 < j → j < xs.length → par j ≠ i → lowr (ky xs j) (ky xs (par j))
  b : ∀ j, 0 < j → j < xs.length → par j = i → 0 < i → lowr (ky xs j) (ky xs (par i))
theorem SD.done {xs : List PA} {i : Nat} (h : SD xs i) (hc : ∀ j, 0 < j → j < xs.length → par j = i → lowr (ky xs j) (ky xs i)) : HO xs := fun j h1 h2 => by
  by_cases e : par j = i
  · rw [e]; exact hc j h1 h2 e
  · exact h.a j h1 h2 e
theorem SD.step {xs : List PA} {i m : Nat} (h : SD xs i) (hm : m < xs.length) (hp : par m = i) (h0 : 0 < m) (hc : ∀ j, 0 < j → j < xs.length → par j = i → lowr (ky xs j) (ky xs m)) (hi : lowr (ky xs i) (ky xs m)) : SD (sw xs i m) m := by
  have him : i < m := by unfold par at hp; omega
  have hil : i < xs.length := by omega
  refine ⟨fun j h1 h2 h3 => ?_, fun j h1 h2 h3 h4 => ?_⟩
  · rw [sw_len] at h2
    rw [ky_sw xs hil hm, ky_sw xs hil hm, if_neg h3]
    by_cases e0 : j = m
    · subst e0
      rw [if_pos rfl, if_pos hp]; exact hi
    · rw [if_neg e0]
      by_cases e1 : j = i
      · subst e1
        have hpi : par j < j := by unfold par; omega
        rw [if_pos rfl, if_neg (by omega : par j ≠ j)]
        exact h.b m h0 hm hp h1
      · rw [if_neg e1]
        by_cases e2 : par j = i
        · rw [if_pos e2]; exact hc j h1 h2 e2
        · rw [if_neg e2]; exact h.a j h1 h2 e2
  · rw [sw_len] at h2
    have hjm : j ≠ m := by rintro rfl; unfold par at h3; omega
    have hji : j ≠ i := by rintro rfl; unfold par at h3; omega
    rw [ky_sw xs hil hm, ky_sw xs hil hm, if_neg hjm, if_neg hji, hp, if_neg (by omega : i ≠ m), if_pos rfl]
    have := h.a j h1 h2 (by omega)
    rw [h3] at this
    exact this
theorem HO.top {xs : List PA} (h : HO xs) : ∀ i, i < xs.length → lowr (ky xs i) (ky xs 0) := by
  intro i
  induction i using Nat.strongRecOn with
  | _ i ih =>
    intro hi
    rcases Nat.eq_zero_or_pos i with e | e
    · subst e; exact lowr_refl _
    · have hp : par i < i := by unfold par; omega
      exact lowr_trans (h i e hi) (ih (par i) hp (by omega))
theorem HO.max {x : PA} {xs : List PA} (h : HO (x :: xs)) : ∀ y ∈ x :: xs, lowr y.pt x.pt := by
  intro y hy
  obtain ⟨i, hi⟩ := List.mem_iff_getElem?.1 hy
  have := h.top i (List.getElem?_eq_some_iff.1 hi).1
  rw [ky_eq hi] at this
  exact this
/-- What is left behind the first one: the last one stands in its place. -/
def cutH (x : PA) (xs : List PA) : List PA := ((x :: xs).set 0 ((x :: xs).getD xs.length .nil)).take xs.length
theorem cutH_len (x : PA) (xs : List PA) : (cutH x xs).length = xs.length := by simp [cutH]
theorem cutH_perm (x : PA) (xs : List PA) : (cutH x xs).Perm xs := by
  rcases List.eq_nil_or_concat xs with rfl | ⟨l, y, rfl⟩
  · exact .refl _
  · rw [List.concat_eq_append]
    have e : cutH x (l ++ [y]) = y :: l := by
      unfold cutH
      have e1 : (x :: (l ++ [y])).getD (l ++ [y]).length .nil = y := by simp [List.getD_eq_getElem?_getD]
      rw [e1]
      simp
    rw [e]
    exact (List.perm_append_singleton y l).symm
theorem cutH_ky {x : PA} {xs : List PA} {j : Nat} (h0 : 0 < j) (hj : j < xs.length) : ky (cutH x xs) j = ky (x :: xs) j := by
  unfold ky cutH
  simp only [List.getD_eq_getElem?_getD, List.getElem?_take, if_pos hj, List.getElem?_set]
  rw [if_neg (by omega)]
theorem cutH_sd {x : PA} {xs : List PA} (h : HO (x :: xs)) : SD (cutH x xs) 0 := by
  refine ⟨fun j h1 h2 h3 => ?_, fun j _ _ _ h4 => absurd h4 (Nat.lt_irrefl 0)⟩
  rw [cutH_len] at h2
  have h4 : par j < j := by unfold par; omega
  rw [cutH_ky h1 h2, cutH_ky (by omega) (by omega)]
  exact h j h1 (by simp; omega)
/-! Points from above. -/
def Desc (l : List Pt) : Prop := l.Pairwise fun a b => und b a = true
theorem Desc.unique : ∀ {l m : List Pt}, Desc l → Desc m → l.Perm m → l = m
  | [], m, _, _, p => (List.Perm.nil_eq p)
  | a :: l, [], _, _, p => absurd p.length_eq (by simp)
  | a :: l, b :: m, h1, h2, p => by
    rw [Desc, List.pairwise_cons] at h1 h2
    have e : a = b := by
      rcases List.mem_cons.1 (p.subset (List.mem_cons_self ..)) with h | h
      · exact h
      · rcases List.mem_cons.1 (p.symm.subset (List.mem_cons_self ..)) with k | k
        · exact k.symm
        · have u := h2.1 a h
          rw [und_asymm (h1.1 b k)] at u; cases u
    subst e
    rw [Desc.unique h1.2 h2.2 (List.Perm.cons_inv p)]
/-- All points below some nodes. -/
def elsL (xs : List PA) : List Pt := xs.flatMap fun x => x.t.els
def szL (xs : List PA) : Nat := (xs.map fun x => x.t.size).sum
theorem elsL_perm {xs ys : List PA} (h : xs.Perm ys) : (elsL xs).Perm (elsL ys) := h.flatMap_right _
theorem szL_perm {xs ys : List PA} (h : xs.Perm ys) : szL xs = szL ys := (h.map _).sum_nat
theorem elsL_app (xs ys : List PA) : elsL (xs ++ ys) = elsL xs ++ elsL ys := by simp [elsL]
theorem szL_app (xs ys : List PA) : szL (xs ++ ys) = szL xs + szL ys := by simp [szL]
end Go.Proofs.YtalcanejhniepaaGreat
/- A store into a slice of the call's own. No program stands in this text. -/
namespace Go.Proofs.YtalcanejhniepaaGreat
open Go.RowKit
section
variable {P : Program} {g : Glob} {L M : List HP} {σ : Env} {d : Option Nat} {ty T T' : TypeId} {pos : String} {aft : Array Edge} {gd : Option (Nat × Bool)} {x y : Operand} {v : Value}
theorem eff_storeO {b o n c sz : Nat} {e : TypeId} {xs : List Value} [H : OneT P T] (hx : ev σ x = some (.pointer (some ⟨b, o, none⟩))) (hy : ev σ y = some v) (hv : oneC v = true) (hp : Pick (own e sz (some ⟨b, 0, none⟩) n c xs) L M) (ho : o < n * sz) :
    Eff P g L σ ⟨d, .store T x y, ty, pos, aft, gd⟩ fun r L' => r = undef ∧ L' = own e sz (some ⟨b, 0, none⟩) n c (xs.set o v) :: M := fun a w hs hw K Q hK => by
  have hw' : Hp g (own e sz (some ⟨b, 0, none⟩) n c xs :: M) w := hw.mono fun _ => sat.perm hp.perm
  obtain ⟨k1, k2, dj, s1, s2, ow, l⟩ := hw'.s
  obtain ⟨cs, hb, hcl, htk⟩ := ow.opn
  have hnc := ow.le
  have hcc := ow.cap
  have hwb : Hp g (blk b e cs :: M) w := ⟨hw'.g, k1, k2, dj, s1, s2, hb, l⟩
  have hm : n * sz ≤ c * sz := Nat.mul_le_mul_right _ hnc
  have hlt : o < cs.length := by omega
  refine (eff_store (P := P) (T := T) (L := blk b e cs :: M) (L' := blk b e (setN cs o [v]) :: M) (g := g) (σ := σ) (d := d) (ty := ty) (pos := pos) (aft := aft) (gd := gd) hx hy hv (Upd.here (by simp; omega))) a w hs hwb K Q fun r w' L' ⟨e1, e2⟩ hw2 => ?_
  subst e2
  refine hK r w' _ ⟨e1, rfl⟩ (hw2.mono fun h s => ?_)
  have e3 : setN cs o [v] = cs.set o v := by
    rw [setN_eq cs o [v] (by simp; omega)]
    simp [List.set_eq_take_append_cons_drop, hlt]
  have e4 : (setN cs o [v]).take (n * sz) = xs.set o v := by rw [e3, List.take_set, htk]
  obtain ⟨h1, h2, dd, t1, t2, q, z⟩ := s
  refine ⟨h1, h2, dd, t1, t2, ?_, z⟩
  rw [← e4]
  exact own.cls q (by rw [setN_length]; exact hcl) hnc hcc
end
end Go.Proofs.YtalcanejhniepaaGreat
/- A heap of nodes in an array: what lies in memory. -/
namespace Go.Proofs.YtalcanejhniepaaGreat
set_option linter.unusedVariables false
set_option linter.unusedSimpArgs false

@[reducible] def fallC (A : Option Addr) (n c : Nat) (x1 x2 : Int) (k : Nat) : List Value := [.slice A n c, .int .i64 x1, .int .i64 x2, .int .i64 (-9223372036854775808), .int .i64 (k : Nat)]
def fallS (b : Nat) (x1 x2 : Int) (k : Nat) (xs : List PA) : HP := fun h => ∃ y : Option Addr × Nat, (0 < xs.length → ∃ b, y.1 = some ⟨b, 0, none⟩) ∧ sat [blk b 67 (fallC y.1 xs.length y.2 x1 x2 k), own 50 1 y.1 xs.length y.2 (flat xs)] h
theorem fall_open {b k : Nat} {x1 x2 : Int} {xs : List PA} {M : List HP} {hm : Hm} (h : sat (fallS b x1 x2 k xs :: M) hm) : ∃ A c, (0 < xs.length → ∃ b, A = some ⟨b, 0, none⟩) ∧ xs.length ≤ c ∧ c ≤ maxLen ∧ sat (blk b 67 (fallC A xs.length c x1 x2 k) :: own 50 1 A xs.length c (flat xs) :: M) hm := by
  obtain ⟨h1, h2, d, s1, s2, ⟨⟨A, c⟩, hA, q⟩, t⟩ := h
  have q0 := own.facts (L := []) q.tail
  exact ⟨A, c, hA, q0.2.1, q0.2.2.1, sat.head (A := fun h => h = h1) (N := [blk b 67 (fallC A xs.length c x1 x2 k), own 50 1 A xs.length c (flat xs)]) (fun _ e => e ▸ q) ⟨h1, h2, d, s1, s2, rfl, t⟩⟩
theorem Ctr.fall {P : Program} {f : FuncId} {args : Array Value} {L : List HP} {b k : Nat} {x1 x2 : Int} {xs : List PA} {post : Value → List HP → Prop}
    (C : ∀ A c, (0 < xs.length → ∃ b, A = some ⟨b, 0, none⟩) → xs.length ≤ c → c ≤ maxLen → Ctr P f args (blk b 67 (fallC A xs.length c x1 x2 k) :: own 50 1 A xs.length c (flat xs) :: L) post) : Ctr P f args (fallS b x1 x2 k xs :: L) post := fun g F w hw => by
  obtain ⟨A, c, h1, h2, h3, h4⟩ := fall_open hw.s.swap
  exact C A c h1 h2 h3 g F w ⟨hw.g, h4.perm (List.perm_middle (l₁ := [_, _]))⟩
theorem G_fall {P : Program} {B : Exit → Act → World → Prop} {g : Glob} {n : Nat} {K : List Kt} {σ : Env} {L : List HP} {b k : Nat} {x1 x2 : Int} {xs : List PA}
    (h : ∀ A c, (0 < xs.length → ∃ b, A = some ⟨b, 0, none⟩) → xs.length ≤ c → c ≤ maxLen → G P B g n K σ (blk b 67 (fallC A xs.length c x1 x2 k) :: own 50 1 A xs.length c (flat xs) :: L)) : G P B g n K σ (fallS b x1 x2 k xs :: L) := fun a w hs hw => by
  obtain ⟨A, c, h1, h2, h3, h4⟩ := fall_open hw.s
  exact h A c h1 h2 h3 a w hs ⟨hw.g, h4⟩
theorem en_fall {L M : List HP} {b c k : Nat} {A : Option Addr} {x1 x2 : Int} {xs : List PA} (hA : 0 < xs.length → ∃ b, A = some ⟨b, 0, none⟩) (f : ∀ h, sat L h → sat (blk b 67 (fallC A xs.length c x1 x2 k) :: own 50 1 A xs.length c (flat xs) :: M) h) : ∀ h, sat L h → sat (fallS b x1 x2 k xs :: M) h := fun h s =>
  sat.fold (N := [_, _]) (fun h q => ⟨(A, c), hA, q⟩) (f h s)
theorem flat_pa : ∀ l : List PA, flat l = l.map fun x => Value.pointer x.addr
  | [] => rfl
  | x :: l => by rw [flat_cons, flat_pa l]; rfl
theorem flat_pa_at {l : List PA} {i : Nat} {x : PA} (h : l[i]? = some x) : (flat l)[i]? = some (.pointer x.addr) := by rw [flat_pa, List.getElem?_map, h]; rfl
theorem flat_pa_set (l : List PA) (i : Nat) (x : PA) : (flat l).set (0 + i * 1) (.pointer x.addr) = flat (l.set i x) := by
  rw [flat_pa, flat_pa, Nat.zero_add, Nat.mul_one, List.map_set]
theorem ld_own {T : TypeId} {ab n c i : Nat} {ys : List PA} {x : PA} (h : ys[i]? = some x) (L : List HP) : Ld (own T 1 (some ⟨ab, 0, none⟩) n c (flat ys) :: L) ⟨ab, 0 + i * 1, none⟩ (.pointer x.addr) := by
  rw [Nat.zero_add, Nat.mul_one]
  exact Ld.own (flat_pa_at h)
theorem fl_A (b : Nat) (A : Option Addr) (n c k : Nat) (x1 x2 : Int) (L : List HP) : Ld (blk b 67 (fallC A n c x1 x2 k) :: L) ⟨b, 0 + 0, none⟩ (.slice A n c) := Ld.blk rfl
end Go.Proofs.YtalcanejhniepaaGreat
/- Points from above, one by one: what is told of lists. No program is walked here. -/
namespace Go.Proofs.YtalcanejhniepaaGreat
set_option linter.unusedVariables false
set_option linter.unusedSimpArgs false

@[reducible] def fw (x1 x2 : Int) : Wn := ⟨x1, x2, -9223372036854775808⟩
theorem fw_sees {x1 x2 : Int} {p : Pt} (h : -9223372036854775808 ≤ p.y) : (fw x1 x2).sees p.x p.y = sel x1 x2 p := by
  unfold Wn.sees sel wthn
  rw [decide_eq_true (by exact h : (-9223372036854775808 : Int) ≤ p.y), Bool.and_true]
  rw [← Bool.decide_and]
/-- What is told of the points that are left. -/
structure FallI (x1 x2 : Int) (N : Nat) (L0 : List HP) (xs : List PA) (rem : List Pt) (k : Nat) : Prop where
  ho : HO xs
  nn : ∀ x ∈ xs, x.isN = false
  ok : ∀ x ∈ xs, x.t.Ok
  pin : ∀ x ∈ xs, PIn L0 x
  els : ((elsL xs).filter (sel x1 x2)).Perm rem
  desc : Desc rem
  good : ∀ p ∈ elsL xs, -9223372036854775808 ≤ p.y
  cnt : k + szL xs ≤ N
theorem next_els {x1 x2 : Int} {x : PA} (hn : x.isN = false) (hok : x.t.Ok) (hg : -9223372036854775808 ≤ x.pt.y) : (x.t.els.filter (sel x1 x2)).Perm ((if x.hit (fw x1 x2) then [x.pt] else []) ++ (elsL (x.next (fw x1 x2))).filter (sel x1 x2)) ∧ (∀ p ∈ elsL (x.next (fw x1 x2)), p ∈ x.t.els) ∧ szL (x.next (fw x1 x2)) + 1 ≤ x.t.size := by
  cases x with
  | nil => cases hn
  | node b p s lo hi =>
    have hy : ¬ p.y < (fw x1 x2).y := by show ¬ p.y < -9223372036854775808; have : -9223372036854775808 ≤ p.y := hg; omega
    have hh : (PA.node b p s lo hi).hit (fw x1 x2) = sel x1 x2 p := fw_sees hg
    have e1 : (PA.node b p s lo hi).next1 (fw x1 x2) = if !lo.isN && decide (x1 ≤ s.x) then [lo] else [] := by simp only [PA.next1, if_neg hy]
    have e2 : (PA.node b p s lo hi).next2 (fw x1 x2) = if !hi.isN && decide (s.x ≤ x2) then [hi] else [] := by simp only [PA.next2, if_neg hy]
    have n0 : ∀ z : PA, z.isN = true → z.t.els = [] ∧ z.t.size = 0 := fun z hz => by cases z with | nil => exact ⟨rfl, rfl⟩ | node => cases hz
    have f1 : ((elsL ((PA.node b p s lo hi).next1 (fw x1 x2))).filter (sel x1 x2)) = lo.t.els.filter (sel x1 x2) ∧ (∀ q ∈ elsL ((PA.node b p s lo hi).next1 (fw x1 x2)), q ∈ lo.t.els) ∧ szL ((PA.node b p s lo hi).next1 (fw x1 x2)) ≤ lo.t.size := by
      rw [e1]
      split
      · refine ⟨by simp [elsL], by simp [elsL], by simp [szL]⟩
      · rename_i hc
        refine ⟨?_, by simp [elsL], by simp [szL]⟩
        have : lo.t.els.filter (sel x1 x2) = [] := by
          rw [List.filter_eq_nil_iff]
          intro q hq
          cases hz : lo.isN with
          | true => rw [(n0 lo hz).1] at hq; cases hq
          | false =>
            have h3 := beh_lo (hok.2.2.1 q hq)
            rw [sel_true]
            simp [hz] at hc
            omega
        rw [this]; rfl
    have f2 : ((elsL ((PA.node b p s lo hi).next2 (fw x1 x2))).filter (sel x1 x2)) = hi.t.els.filter (sel x1 x2) ∧ (∀ q ∈ elsL ((PA.node b p s lo hi).next2 (fw x1 x2)), q ∈ hi.t.els) ∧ szL ((PA.node b p s lo hi).next2 (fw x1 x2)) ≤ hi.t.size := by
      rw [e2]
      split
      · refine ⟨by simp [elsL], by simp [elsL], by simp [szL]⟩
      · rename_i hc
        refine ⟨?_, by simp [elsL], by simp [szL]⟩
        have : hi.t.els.filter (sel x1 x2) = [] := by
          rw [List.filter_eq_nil_iff]
          intro q hq
          cases hz : hi.isN with
          | true => rw [(n0 hi hz).1] at hq; cases hq
          | false =>
            have h3 := beh_hi (hok.2.2.2.1 q hq)
            rw [sel_true]
            simp [hz] at hc
            omega
        rw [this]; rfl
    unfold PA.next
    refine ⟨?_, fun q hq => ?_, ?_⟩
    · rw [hh, elsL_app, List.filter_append, f1.1, f2.1]
      show ((p :: (lo.t.els ++ hi.t.els)).filter (sel x1 x2)).Perm ((if sel x1 x2 p then [p] else []) ++ _)
      rw [List.filter_cons, List.filter_append]
      cases sel x1 x2 p <;> simp
    · rw [elsL_app, List.mem_append] at hq
      show q ∈ p :: (lo.t.els ++ hi.t.els)
      rcases hq with hq | hq
      · exact List.mem_cons_of_mem _ (List.mem_append.2 (.inl (f1.2.1 q hq)))
      · exact List.mem_cons_of_mem _ (List.mem_append.2 (.inr (f2.2.1 q hq)))
    · rw [szL_app]
      have := f1.2.2
      have := f2.2.2
      simp only [PA.t, PT.size]
      omega
theorem root_max {x : PA} (hn : x.isN = false) (hok : x.t.Ok) : x.pt ∈ x.t.els ∧ ∀ q ∈ x.t.els, lowr q x.pt := by
  cases x with
  | nil => cases hn
  | node b p s lo hi => exact ⟨List.mem_cons_self .., fun q hq => lowr_iff.2 (els_und hok hq)⟩
theorem FallI.nil {x1 x2 : Int} {N : Nat} {L0 : List HP} {rem : List Pt} {k : Nat} (h : FallI x1 x2 N L0 [] rem k) : rem = [] := by
  have := h.els
  simpa [elsL] using this.symm
/-- What is left when the highest one was taken out, and its kids were put in. -/
theorem FallI.step {x1 x2 : Int} {N : Nat} {L0 : List HP} {x : PA} {xs ys zs : List PA} {rem : List Pt} {k : Nat} (h : FallI x1 x2 N L0 (x :: xs) rem k) (hy : ys.Perm xs) (hz : zs.Perm (ys ++ x.next (fw x1 x2))) (ho : HO zs) :
    ∃ rs, (if x.hit (fw x1 x2) then rem = x.pt :: rs else rs = rem) ∧ FallI x1 x2 N L0 zs rs (k + 1) := by
  have hxm : x ∈ x :: xs := List.mem_cons_self ..
  have hn := h.nn x hxm
  have hok := h.ok x hxm
  have hrm := root_max hn hok
  have hin : ∀ p ∈ x.t.els, p ∈ elsL (x :: xs) := fun p hp => List.mem_flatMap.2 ⟨x, hxm, hp⟩
  obtain ⟨k1, k2, k3⟩ := next_els (x1 := x1) (x2 := x2) hn hok (h.good _ (hin _ hrm.1))
  have hzm : ∀ z ∈ zs, z ∈ xs ∨ z ∈ x.next (fw x1 x2) := fun z hz1 => by
    rcases List.mem_append.1 (hz.subset hz1) with h1 | h1
    · exact .inl (hy.subset h1)
    · exact .inr h1
  have hkid := next_kid (fw x1 x2) x
  have he : (elsL zs).Perm (elsL xs ++ elsL (x.next (fw x1 x2))) := (elsL_perm hz).trans (by rw [elsL_app]; exact (elsL_perm hy).append_right _)
  have hmem : ∀ p ∈ elsL zs, p ∈ elsL (x :: xs) := fun p hp => by
    rcases List.mem_append.1 (he.subset hp) with h1 | h1
    · exact List.mem_append.2 (.inr h1)
    · exact hin p (k2 p h1)
  have hsz : szL zs + 1 ≤ szL (x :: xs) := by
    rw [szL_perm hz, szL_app, szL_perm hy]
    simp only [szL, List.map_cons, List.sum_cons] at k3 ⊢
    omega
  have hf : ((elsL (x :: xs)).filter (sel x1 x2)).Perm ((if x.hit (fw x1 x2) then [x.pt] else []) ++ (elsL zs).filter (sel x1 x2)) := by
    have e0 : elsL (x :: xs) = x.t.els ++ elsL xs := rfl
    rw [e0, List.filter_append]
    refine (k1.append_right _).trans ?_
    rw [List.append_assoc]
    refine List.Perm.append_left _ ?_
    refine List.perm_append_comm.trans ?_
    rw [← List.filter_append]
    exact (he.filter _).symm
  have hfr := hf.symm.trans h.els
  have base : ∀ rs, ((elsL zs).filter (sel x1 x2)).Perm rs → Desc rs → FallI x1 x2 N L0 zs rs (k + 1) := fun rs h1 h2 =>
    ⟨ho, fun z hz1 => (hzm z hz1).elim (fun h3 => h.nn z (List.mem_cons_of_mem _ h3)) (fun h3 => (hkid z h3).nn), fun z hz1 => (hzm z hz1).elim (fun h3 => h.ok z (List.mem_cons_of_mem _ h3)) (fun h3 => (hkid z h3).ok hok),
      fun z hz1 => (hzm z hz1).elim (fun h3 => h.pin z (List.mem_cons_of_mem _ h3)) (fun h3 => next_in (fw x1 x2) (h.pin x hxm) z h3), h1, h2, fun p hp => h.good p (hmem p hp), by have := h.cnt; omega⟩
  cases hh : x.hit (fw x1 x2) with
  | false =>
    rw [hh] at hfr
    exact ⟨rem, by simp, base rem (by simpa using hfr) h.desc⟩
  | true =>
    rw [hh] at hfr
    have hfr2 : (x.pt :: (elsL zs).filter (sel x1 x2)).Perm rem := by simpa using hfr
    have hd := h.desc
    cases rem with
    | nil => exact absurd hfr2.length_eq (by simp)
    | cons r rs =>
      have hd2 := hd
      rw [Desc, List.pairwise_cons] at hd
      have er : x.pt = r := by
        rcases List.mem_cons.1 (hfr2.subset (List.mem_cons_self ..)) with h1 | h1
        · exact h1
        · have h2 := hd.1 _ h1
          have h3 : r ∈ (elsL (x :: xs)).filter (sel x1 x2) := h.els.symm.subset (List.mem_cons_self ..)
          obtain ⟨y, hy1, hy2⟩ := List.mem_flatMap.1 (List.mem_filter.1 h3).1
          have h4 := lowr_trans ((root_max (h.nn y hy1) (h.ok y hy1)).2 r hy2) (h.ho.max y hy1)
          unfold lowr at h4
          rw [h2] at h4; cases h4
      subst er
      exact ⟨rs, by simp, base rs (List.Perm.cons_inv hfr2) hd.2⟩
end Go.Proofs.YtalcanejhniepaaGreat
/- A heap of nodes in an array: the walks. -/
namespace Go.Proofs.YtalcanejhniepaaGreat
attribute [local irreducible] sat
set_option linter.unusedVariables false
set_option linter.unusedSimpArgs false
set_option maxRecDepth 100000

theorem abv (p q : Pt) : decide (0 < up p q) = und q p := by
  have := up_pos p q
  cases h : und q p with
  | true => exact decide_eq_true (this.2 h)
  | false => exact decide_eq_false (fun k => by rw [this.1 k] at h; cases h)
theorem above_ctr (b ab n c i j : Nat) (xs : List PA) (x y : PA) (L : List HP) (h : Ld L ⟨b, 0 + 0, none⟩ (.slice (some ⟨ab, 0, none⟩) n c)) (hi : Ld L ⟨ab, 0 + i * 1, none⟩ (.pointer x.addr)) (hj : Ld L ⟨ab, 0 + j * 1, none⟩ (.pointer y.addr)) (hi2 : i < n) (hj2 : j < n) (hx : PIn L x) (hy : PIn L y) :
    Ctr Tryz.prog 49 #[.pointer (some ⟨b, 0, none⟩), .int .i64 (i : Nat), .int .i64 (j : Nat)] L fun v L' => v = .bool (und y.pt x.pt) ∧ L' = L := by
  refine Ctr_of (fn := Tryz.f49) (n := 25) Tryz.func49 rfl rfl rfl ?_
  intro g F
  (repeat first | refine G_seq ?_ | refine G_skip ?_ | refine G_endblk ?_ | refine G_block ?_ | refine G_exit rfl ?_)
  refine G_region ?_
  refine GO_q rfl rfl (ev_assign rfl) ?_
  refine GO_nil ?_
  (repeat first | refine G_seq ?_ | refine G_skip ?_ | refine G_endblk ?_ | refine G_block ?_ | refine G_exit rfl ?_)
  refine G_draw (.q 0 (.q 1 (.q 2 (.q 3 (.q 4 (.q 5 (.q 6 (.q 8 (.q 9 (.q 10 (.q 11 (.q 12 (.q 13 (.q 14 (.e 7 (.e 15 (.e 16 (.q 17 (.q 18 .nil))))))))))))))))))) (by kernel_rfl) (by kernel_rfl) ?_
  refine RS_m retB_noPanic rfl rfl rfl rfl (ev_move rfl) ?_
  (first | refine RS_m retB_noPanic rfl rfl rfl rfl (ev_nilCheck rfl) ?_ | refine RS_m retB_noPanic rfl rfl rfl rfl (ev_nilCheckF (by simp) rfl) ?_)
  refine RS_m retB_noPanic rfl rfl rfl rfl (ev_fieldAddr rfl) ?_
  refine RS_q retB_noPanic rfl rfl rfl rfl (ev_load rfl (by repeat' first | exact Ld.blk rfl | assumption | apply Ld.skip | apply Ld.app)) ?_
  refine RS_m retB_noPanic rfl rfl rfl rfl (ev_move rfl) ?_
  (first | refine RS_m retB_noPanic rfl rfl rfl rfl (ev_indexAddrN rfl rfl (by first | omega | (simp; done) | (simp; omega))) ?_ | refine RS_m retB_noPanic rfl rfl rfl rfl (ev_indexAddr rfl rfl (by first | omega | (simp; done) | (simp; omega)) (by first | omega | (simp; done) | (simp; omega))) ?_)
  refine RS_q retB_noPanic rfl rfl rfl rfl (ev_load rfl (by repeat' first | exact Ld.blk rfl | assumption | apply Ld.skip | apply Ld.app)) ?_
  refine RS_m retB_noPanic rfl rfl rfl rfl (ev_move rfl) ?_
  (first | refine RS_m retB_noPanic rfl rfl rfl rfl (ev_nilCheck rfl) ?_ | refine RS_m retB_noPanic rfl rfl rfl rfl (ev_nilCheckF (by simp) rfl) ?_)
  refine RS_m retB_noPanic rfl rfl rfl rfl (ev_fieldAddr rfl) ?_
  refine RS_q retB_noPanic rfl rfl rfl rfl (ev_load rfl (by repeat' first | exact Ld.blk rfl | assumption | apply Ld.skip | apply Ld.app)) ?_
  refine RS_m retB_noPanic rfl rfl rfl rfl (ev_move rfl) ?_
  (first | refine RS_m retB_noPanic rfl rfl rfl rfl (ev_indexAddrN rfl rfl (by first | omega | (simp; done) | (simp; omega))) ?_ | refine RS_m retB_noPanic rfl rfl rfl rfl (ev_indexAddr rfl rfl (by first | omega | (simp; done) | (simp; omega)) (by first | omega | (simp; done) | (simp; omega))) ?_)
  refine RS_q retB_noPanic rfl rfl rfl rfl (ev_load rfl (by repeat' first | exact Ld.blk rfl | assumption | apply Ld.skip | apply Ld.app)) ?_
  refine RS_e (RE_eff rfl rfl rfl (eff_call rfl (NPoint_ctr x _ hx.skip)) ?_); rintro _ _ ⟨rfl, rfl⟩; refine ⟨_, fun _ s => s, (by first | ((repeat first | exact fun _ s => s | apply en_keep | apply en_drop | apply en_app) <;> fail) | ((repeat first | exact en_refl | (apply en_blk; focus ((repeat' first | exact Pick.here | apply Pick.skip | apply Pick.app); done); focus rfl) | (apply en_own; focus ((repeat' first | exact Pick.here | apply Pick.skip | apply Pick.app); done); focus rfl) | (apply en_pick; focus ((repeat' first | exact Pick.here | apply Pick.skip | apply Pick.app); done)) | apply en_drop | apply en_app) <;> fail)), ?_⟩
  refine RS_e (RE_eff rfl rfl rfl (eff_call rfl (NPoint_ctr y _ hy.skip)) ?_); rintro _ _ ⟨rfl, rfl⟩; refine ⟨_, fun _ s => s, (by first | ((repeat first | exact fun _ s => s | apply en_keep | apply en_drop | apply en_app) <;> fail) | ((repeat first | exact en_refl | (apply en_blk; focus ((repeat' first | exact Pick.here | apply Pick.skip | apply Pick.app); done); focus rfl) | (apply en_own; focus ((repeat' first | exact Pick.here | apply Pick.skip | apply Pick.app); done); focus rfl) | (apply en_pick; focus ((repeat' first | exact Pick.here | apply Pick.skip | apply Pick.app); done)) | apply en_drop | apply en_app) <;> fail)), ?_⟩
  refine RS_e (RE_eff rfl rfl rfl (eff_call rfl (up_ctr x.pt y.pt _)) ?_); rintro _ _ ⟨rfl, rfl⟩; refine ⟨_, fun _ s => s, (by first | ((repeat first | exact fun _ s => s | apply en_keep | apply en_drop | apply en_app) <;> fail) | ((repeat first | exact en_refl | (apply en_blk; focus ((repeat' first | exact Pick.here | apply Pick.skip | apply Pick.app); done); focus rfl) | (apply en_own; focus ((repeat' first | exact Pick.here | apply Pick.skip | apply Pick.app); done); focus rfl) | (apply en_pick; focus ((repeat' first | exact Pick.here | apply Pick.skip | apply Pick.app); done)) | apply en_drop | apply en_app) <;> fail)), ?_⟩
  refine RS_m retB_noPanic rfl rfl rfl rfl (ev_gtr rfl rfl) ?_
  refine RS_m retB_noPanic rfl rfl rfl rfl (ev_assign rfl) ?_
  refine RS_nil ?_
  (repeat first | refine G_seq ?_ | refine G_skip ?_ | refine G_endblk ?_ | refine G_block ?_ | refine G_exit rfl ?_)
  rw [abv]
  (repeat first | refine G_seq ?_ | refine G_skip ?_ | refine G_endblk ?_ | refine G_block ?_ | refine G_exit rfl ?_)
  refine G_ret rfl (.tmp rfl .nil) (by (repeat first | exact fun _ s => s | apply en_keep | apply en_drop | apply en_app) <;> fail) ⟨rfl, rfl⟩
theorem fpush_ctr (b k : Nat) (x1 x2 : Int) (xs : List PA) (x : PA) (L : List HP) (hin : ∀ y ∈ xs ++ [x], PIn L y) (ho : HO xs) (hb : xs.length ≤ 100000) :
    Ctr Tryz.prog 31 #[.pointer (some ⟨b, 0, none⟩), .pointer x.addr] (fallS b x1 x2 k xs :: L) fun v L' => ∃ ys : List PA, v = .tuple #[] ∧ (ys.Perm (xs ++ [x]) ∧ HO ys) ∧ L' = fallS b x1 x2 k ys :: L := by
  refine Ctr.fall fun A c hA hc hc2 => ?_
  refine Ctr_of (fn := Tryz.f31) (n := 64) Tryz.func31 rfl rfl rfl ?_
  intro g F
  (repeat first | refine G_seq ?_ | refine G_skip ?_ | refine G_endblk ?_ | refine G_block ?_ | refine G_exit rfl ?_)
  refine G_region ?_
  refine GO_q rfl rfl (ev_move rfl) ?_
  refine GO_q rfl rfl (ev_move rfl) ?_
  (first | refine GO_q rfl rfl (ev_nilCheck rfl) ?_ | refine GO_q rfl rfl (ev_nilCheckF (by simp) rfl) ?_)
  refine GO_q rfl rfl (ev_fieldAddr rfl) ?_
  refine GO_q rfl rfl (ev_load rfl (by repeat' first | exact Ld.blk rfl | assumption | apply Ld.skip | apply Ld.app)) ?_
  refine GO_q rfl rfl (ev_move rfl) ?_
  refine GO_eff rfl rfl (eff_buildSlice1 (by rfl) rfl rfl) ?_; rintro _ _ ⟨b11, rfl, rfl⟩
  refine GO_eff rfl rfl (eff_append rfl rfl (by repeat' first | exact Pick.here | apply Pick.skip) ((by repeat' first | exact Rc.blk rfl | apply Rc.skip)) ((one_all rfl)) (by rfl) (by decide) (by first | omega | (simp; done) | (simp; omega)) (by first | omega | (simp; done) | (simp; omega))) ?_; rintro _ _ ⟨A12, c12, rfl, hc12, hm12, hn12, rfl⟩
  (first | refine GO_q rfl rfl (ev_nilCheck rfl) ?_ | refine GO_q rfl rfl (ev_nilCheckF (by simp) rfl) ?_)
  refine GO_q rfl rfl (ev_fieldAddr rfl) ?_
  refine GO_eff rfl rfl (eff_store rfl rfl rfl (by repeat' first | exact Upd.here rfl | apply Upd.skip | apply Upd.app)) ?_; rintro _ _ ⟨rfl, rfl⟩
  refine GO_nil ?_
  have hl : (xs ++ [x]).length = xs.length + 1 := by simp
  have hz : ∃ ab, A12 = some ⟨ab, 0, none⟩ := hn12 (Nat.succ_pos _)
  rcases hz with ⟨ab, hab⟩
  refine G_heap (L' := blk b 67 (fallC (some ⟨ab, 0, none⟩) (xs.length + 1) c12 x1 x2 k) :: own 50 1 (some ⟨ab, 0, none⟩) (xs.length + 1) c12 (flat (xs ++ [x])) :: F :: L) (by
    rw [flat_append, ← hab]
    exact (by (repeat first | exact en_refl | (apply en_blk; focus ((repeat' first | exact Pick.here | apply Pick.skip | apply Pick.app); done); focus rfl) | (apply en_own; focus ((repeat' first | exact Pick.here | apply Pick.skip | apply Pick.app); done); focus rfl) | (apply en_pick; focus ((repeat' first | exact Pick.here | apply Pick.skip | apply Pick.app); done)) | apply en_drop | apply en_app) <;> fail)) ?_
  (repeat first | refine G_seq ?_ | refine G_skip ?_ | refine G_endblk ?_ | refine G_block ?_ | refine G_exit rfl ?_)
  refine G_region ?_
  refine GO_q rfl rfl (ev_move rfl) ?_
  (first | refine GO_q rfl rfl (ev_nilCheck rfl) ?_ | refine GO_q rfl rfl (ev_nilCheckF (by simp) rfl) ?_)
  refine GO_q rfl rfl (ev_fieldAddr rfl) ?_
  refine GO_q rfl rfl (ev_load rfl (by repeat' first | exact Ld.blk rfl | assumption | apply Ld.skip | apply Ld.app)) ?_
  refine GO_q rfl rfl (ev_len rfl) ?_
  (first | refine GO_q rfl rfl (ev_subN (q := 1) rfl rfl (by first | omega | (simp; done) | (simp; omega))) ?_ | refine GO_q rfl rfl (ev_sub rfl rfl (by first | omega | (simp; done) | (simp; omega))) ?_)
  refine GO_q rfl rfl (ev_assign rfl) ?_
  refine GO_nil ?_
  (repeat first | refine G_seq ?_ | refine G_skip ?_ | refine G_endblk ?_ | refine G_block ?_ | refine G_exit rfl ?_)
  refine G_loop (ι := List PA × Nat) (fun z => [(0, .pointer (some ⟨b, 0, none⟩)), (4, .int .i64 (z.2 : Nat))]) (fun z => blk b 67 (fallC (some ⟨ab, 0, none⟩) (xs.length + 1) c12 x1 x2 k) :: own 50 1 (some ⟨ab, 0, none⟩) (xs.length + 1) c12 (flat z.1) :: F :: L)
    (fun z => z.2 < xs.length + 1 ∧ z.1.Perm (xs ++ [x]) ∧ SU z.1 z.2) (fun z => z.2) (xs ++ [x], xs.length) ⟨by simp only; omega, .refl _, SU.new ho x⟩ ⟨rfl, rfl, trivial⟩ (by (repeat first | exact en_refl | (apply en_blk; focus ((repeat' first | exact Pick.here | apply Pick.skip | apply Pick.app); done); focus rfl) | (apply en_own; focus ((repeat' first | exact Pick.here | apply Pick.skip | apply Pick.app); done); focus rfl) | (apply en_pick; focus ((repeat' first | exact Pick.here | apply Pick.skip | apply Pick.app); done)) | apply en_drop | apply en_app) <;> fail) ?_
  rintro ⟨ys, i⟩ ⟨f1, f2, f3⟩
  simp only at f1 f2 f3
  dsimp only
  have hyl : ys.length = xs.length + 1 := by rw [f2.length_eq, hl]
  have hyin : ∀ y ∈ ys, PIn L y := fun y hy => hin y (f2.subset hy)
  by_cases c1 : 0 < i
  · have hpar : par i = (i - 1) / 2 := rfl
    have g1 : ys[i]? = some ys[i] := List.getElem?_eq_getElem (by omega)
    have g2 : ys[(i - 1) / 2]? = some ys[(i - 1) / 2] := List.getElem?_eq_getElem (by omega)
    have n1 := hyin _ (List.getElem_mem (by omega : i < ys.length))
    have n2 := hyin _ (List.getElem_mem (by omega : (i - 1) / 2 < ys.length))
    have k1 := ky_eq g1
    have k2 := ky_eq g2
    generalize ys[i] = u at *
    generalize ys[(i - 1) / 2] = t at *
    cases hu : und t.pt u.pt with
    | true =>
      (repeat first | refine G_seq ?_ | refine G_skip ?_ | refine G_endblk ?_ | refine G_block ?_ | refine G_exit rfl ?_)
      refine G_region ?_
      refine GO_q rfl rfl (ev_move rfl) ?_
      refine GO_q rfl rfl (ev_gtr rfl rfl) ?_
      refine GO_q rfl rfl (ev_move rfl) ?_
      refine GO_yes rfl rfl rfl (decide_eq_true (by omega)) ?_
      refine GO_q rfl rfl (ev_move rfl) ?_
      refine GO_yes rfl rfl rfl (decide_eq_true (by omega)) ?_
      refine GO_q rfl rfl (ev_move rfl) ?_
      refine GO_yes rfl rfl rfl (decide_eq_true (by omega)) ?_
      refine GO_q rfl rfl (ev_move rfl) ?_
      refine GO_yes rfl rfl rfl (decide_eq_true (by omega)) ?_
      (first | refine GO_q rfl rfl (ev_subN (q := 1) rfl rfl (by first | omega | (simp; done) | (simp; omega))) ?_ | refine GO_q rfl rfl (ev_sub rfl rfl (by first | omega | (simp; done) | (simp; omega))) ?_)
      refine GO_yes rfl rfl rfl (decide_eq_true (by omega)) ?_
      (first | refine GO_q rfl rfl (ev_quoN (q := 2) rfl rfl (by first | omega | (simp; done) | (simp; omega)) (by first | omega | (simp; done) | (simp; omega))) ?_ | refine GO_q rfl rfl (ev_quo rfl rfl (by first | omega | (simp; done) | (simp; omega)) (by first | omega | (simp; done) | (simp; omega)) (by first | omega | (simp; done) | (simp; omega))) ?_)
      refine GO_yes rfl rfl rfl (decide_eq_true (by omega)) ?_
      refine GO_eff rfl rfl (eff_call rfl (above_ctr b ab (xs.length + 1) c12 i ((i - 1) / 2) ys u t _ (by repeat' first | exact fl_A .. | apply Ld.skip) (by repeat' first | exact ld_own g1 _ | apply Ld.skip) (by repeat' first | exact ld_own g2 _ | apply Ld.skip) (by omega) (by omega) (by repeat' first | exact n1 | apply PIn.skip) (by repeat' first | exact n2 | apply PIn.skip))) ?_; rintro _ _ ⟨rfl, rfl⟩
      refine GO_q rfl rfl (ev_pick_t rfl (decide_eq_true (by omega)) rfl) ?_
      refine GO_nil ?_
      (repeat first | refine G_seq ?_ | refine G_skip ?_ | refine G_endblk ?_ | refine G_block ?_ | refine G_exit rfl ?_)
      refine G_cond_t rfl hu ?_
      (repeat first | refine G_seq ?_ | refine G_skip ?_ | refine G_endblk ?_ | refine G_block ?_ | refine G_exit rfl ?_)
      refine G_draw (.q 0 (.q 1 (.q 2 (.q 3 (.q 4 (.q 5 (.q 6 (.q 7 (.q 8 (.q 9 (.q 10 (.q 11 (.q 12 (.q 13 (.q 14 (.q 15 (.q 16 (.q 17 (.q 18 (.q 19 (.q 20 (.q 21 (.q 22 (.q 23 (.q 24 (.q 25 (.q 26 (.q 27 (.q 28 (.e 29 (.q 30 (.e 31 .nil)))))))))))))))))))))))))))))))) (by kernel_rfl) (by kernel_rfl) ?_
      refine RS_m retB_noPanic rfl rfl rfl rfl (ev_move rfl) ?_
      (first | refine RS_m retB_noPanic rfl rfl rfl rfl (ev_nilCheck rfl) ?_ | refine RS_m retB_noPanic rfl rfl rfl rfl (ev_nilCheckF (by simp) rfl) ?_)
      refine RS_m retB_noPanic rfl rfl rfl rfl (ev_fieldAddr rfl) ?_
      refine RS_q retB_noPanic rfl rfl rfl rfl (ev_load rfl (by repeat' first | exact fl_A .. | apply Ld.skip)) ?_
      refine RS_m retB_noPanic rfl rfl rfl rfl (ev_move rfl) ?_
      refine RS_m retB_noPanic rfl rfl rfl rfl (ev_move rfl) ?_
      (first | refine RS_m retB_noPanic rfl rfl rfl rfl (ev_nilCheck rfl) ?_ | refine RS_m retB_noPanic rfl rfl rfl rfl (ev_nilCheckF (by simp) rfl) ?_)
      refine RS_m retB_noPanic rfl rfl rfl rfl (ev_fieldAddr rfl) ?_
      refine RS_q retB_noPanic rfl rfl rfl rfl (ev_load rfl (by repeat' first | exact fl_A .. | apply Ld.skip)) ?_
      refine RS_m retB_noPanic rfl rfl rfl rfl (ev_move rfl) ?_
      (first | refine RS_m retB_noPanic rfl rfl rfl rfl (ev_subN (q := 1) rfl rfl (by first | omega | (simp; done) | (simp; omega))) ?_ | refine RS_m retB_noPanic rfl rfl rfl rfl (ev_sub rfl rfl (by first | omega | (simp; done) | (simp; omega))) ?_)
      (first | refine RS_m retB_noPanic rfl rfl rfl rfl (ev_quoN (q := 2) rfl rfl (by first | omega | (simp; done) | (simp; omega)) (by first | omega | (simp; done) | (simp; omega))) ?_ | refine RS_m retB_noPanic rfl rfl rfl rfl (ev_quo rfl rfl (by first | omega | (simp; done) | (simp; omega)) (by first | omega | (simp; done) | (simp; omega)) (by first | omega | (simp; done) | (simp; omega))) ?_)
      refine RS_m retB_noPanic rfl rfl rfl rfl (ev_move rfl) ?_
      (first | refine RS_m retB_noPanic rfl rfl rfl rfl (ev_nilCheck rfl) ?_ | refine RS_m retB_noPanic rfl rfl rfl rfl (ev_nilCheckF (by simp) rfl) ?_)
      refine RS_m retB_noPanic rfl rfl rfl rfl (ev_fieldAddr rfl) ?_
      refine RS_q retB_noPanic rfl rfl rfl rfl (ev_load rfl (by repeat' first | exact fl_A .. | apply Ld.skip)) ?_
      refine RS_m retB_noPanic rfl rfl rfl rfl (ev_move rfl) ?_
      (first | refine RS_m retB_noPanic rfl rfl rfl rfl (ev_subN (q := 1) rfl rfl (by first | omega | (simp; done) | (simp; omega))) ?_ | refine RS_m retB_noPanic rfl rfl rfl rfl (ev_sub rfl rfl (by first | omega | (simp; done) | (simp; omega))) ?_)
      (first | refine RS_m retB_noPanic rfl rfl rfl rfl (ev_quoN (q := 2) rfl rfl (by first | omega | (simp; done) | (simp; omega)) (by first | omega | (simp; done) | (simp; omega))) ?_ | refine RS_m retB_noPanic rfl rfl rfl rfl (ev_quo rfl rfl (by first | omega | (simp; done) | (simp; omega)) (by first | omega | (simp; done) | (simp; omega)) (by first | omega | (simp; done) | (simp; omega))) ?_)
      (first | refine RS_m retB_noPanic rfl rfl rfl rfl (ev_indexAddrN rfl rfl (by first | omega | (simp; done) | (simp; omega))) ?_ | refine RS_m retB_noPanic rfl rfl rfl rfl (ev_indexAddr rfl rfl (by first | omega | (simp; done) | (simp; omega)) (by first | omega | (simp; done) | (simp; omega))) ?_)
      refine RS_q retB_noPanic rfl rfl rfl rfl (ev_load rfl (by repeat' first | exact ld_own g2 _ | apply Ld.skip)) ?_
      refine RS_m retB_noPanic rfl rfl rfl rfl (ev_move rfl) ?_
      (first | refine RS_m retB_noPanic rfl rfl rfl rfl (ev_nilCheck rfl) ?_ | refine RS_m retB_noPanic rfl rfl rfl rfl (ev_nilCheckF (by simp) rfl) ?_)
      refine RS_m retB_noPanic rfl rfl rfl rfl (ev_fieldAddr rfl) ?_
      refine RS_q retB_noPanic rfl rfl rfl rfl (ev_load rfl (by repeat' first | exact fl_A .. | apply Ld.skip)) ?_
      refine RS_m retB_noPanic rfl rfl rfl rfl (ev_move rfl) ?_
      (first | refine RS_m retB_noPanic rfl rfl rfl rfl (ev_indexAddrN rfl rfl (by first | omega | (simp; done) | (simp; omega))) ?_ | refine RS_m retB_noPanic rfl rfl rfl rfl (ev_indexAddr rfl rfl (by first | omega | (simp; done) | (simp; omega)) (by first | omega | (simp; done) | (simp; omega))) ?_)
      refine RS_q retB_noPanic rfl rfl rfl rfl (ev_load rfl (by repeat' first | exact ld_own g1 _ | apply Ld.skip)) ?_
      (first | refine RS_m retB_noPanic rfl rfl rfl rfl (ev_indexAddrN rfl rfl (by first | omega | (simp; done) | (simp; omega))) ?_ | refine RS_m retB_noPanic rfl rfl rfl rfl (ev_indexAddr rfl rfl (by first | omega | (simp; done) | (simp; omega)) (by first | omega | (simp; done) | (simp; omega))) ?_)
      refine RS_e (RE_cmp (by kernel_rfl) rfl rfl rfl (eff_storeO rfl rfl rfl (by repeat' first | exact Pick.here | apply Pick.skip | apply Pick.app) (by omega)) ?_); rintro _ _ ⟨rfl, rfl⟩
      (first | refine RS_m retB_noPanic rfl rfl rfl rfl (ev_indexAddrN rfl rfl (by first | omega | (simp; done) | (simp; omega))) ?_ | refine RS_m retB_noPanic rfl rfl rfl rfl (ev_indexAddr rfl rfl (by first | omega | (simp; done) | (simp; omega)) (by first | omega | (simp; done) | (simp; omega))) ?_)
      refine RS_e (RE_last (by kernel_rfl) rfl rfl rfl (eff_storeO rfl rfl rfl (by repeat' first | exact Pick.here | apply Pick.skip | apply Pick.app) (by omega)) ?_); rintro _ _ ⟨rfl, rfl⟩
      rw [flat_pa_set, flat_pa_set]
      (repeat first | refine G_seq ?_ | refine G_skip ?_ | refine G_endblk ?_ | refine G_block ?_ | refine G_exit rfl ?_)
      refine G_region ?_
      refine GO_q rfl rfl (ev_move rfl) ?_
      (first | refine GO_q rfl rfl (ev_subN (q := 1) rfl rfl (by first | omega | (simp; done) | (simp; omega))) ?_ | refine GO_q rfl rfl (ev_sub rfl rfl (by first | omega | (simp; done) | (simp; omega))) ?_)
      (first | refine GO_q rfl rfl (ev_quoN (q := 2) rfl rfl (by first | omega | (simp; done) | (simp; omega)) (by first | omega | (simp; done) | (simp; omega))) ?_ | refine GO_q rfl rfl (ev_quo rfl rfl (by first | omega | (simp; done) | (simp; omega)) (by first | omega | (simp; done) | (simp; omega)) (by first | omega | (simp; done) | (simp; omega))) ?_)
      refine GO_q rfl rfl (ev_assign rfl) ?_
      refine GO_nil ?_
      have es : (ys.set i t).set ((i - 1) / 2) u = sw ys i (par i) := by
        unfold sw
        rw [List.getD_eq_getElem?_getD, List.getD_eq_getElem?_getD, hpar, g1, g2]; rfl
      rw [es]
      have ht : lowr (ky ys (par i)) (ky ys i) := by rw [hpar, k1, k2]; exact lowr_of hu
      (repeat first | refine G_seq ?_ | refine G_skip ?_ | refine G_endblk ?_ | refine G_block ?_ | refine G_exit rfl ?_)
      exact G_round (sw ys i (par i), par i) ⟨by simp only; omega, (sw_perm ys (by omega) (by omega)).trans f2, SU.step f3 c1 (by omega) ht⟩ (by simp only; omega) ⟨rfl, rfl, trivial⟩ (by (repeat first | exact en_refl | (apply en_blk; focus ((repeat' first | exact Pick.here | apply Pick.skip | apply Pick.app); done); focus rfl) | (apply en_own; focus ((repeat' first | exact Pick.here | apply Pick.skip | apply Pick.app); done); focus rfl) | (apply en_pick; focus ((repeat' first | exact Pick.here | apply Pick.skip | apply Pick.app); done)) | apply en_drop | apply en_app) <;> fail)
    | false =>
      have hd : HO ys := f3.done (.inr (by rw [hpar, k1, k2]; exact hu))
      (repeat first | refine G_seq ?_ | refine G_skip ?_ | refine G_endblk ?_ | refine G_block ?_ | refine G_exit rfl ?_)
      refine G_region ?_
      refine GO_q rfl rfl (ev_move rfl) ?_
      refine GO_q rfl rfl (ev_gtr rfl rfl) ?_
      refine GO_q rfl rfl (ev_move rfl) ?_
      refine GO_yes rfl rfl rfl (decide_eq_true (by omega)) ?_
      refine GO_q rfl rfl (ev_move rfl) ?_
      refine GO_yes rfl rfl rfl (decide_eq_true (by omega)) ?_
      refine GO_q rfl rfl (ev_move rfl) ?_
      refine GO_yes rfl rfl rfl (decide_eq_true (by omega)) ?_
      refine GO_q rfl rfl (ev_move rfl) ?_
      refine GO_yes rfl rfl rfl (decide_eq_true (by omega)) ?_
      (first | refine GO_q rfl rfl (ev_subN (q := 1) rfl rfl (by first | omega | (simp; done) | (simp; omega))) ?_ | refine GO_q rfl rfl (ev_sub rfl rfl (by first | omega | (simp; done) | (simp; omega))) ?_)
      refine GO_yes rfl rfl rfl (decide_eq_true (by omega)) ?_
      (first | refine GO_q rfl rfl (ev_quoN (q := 2) rfl rfl (by first | omega | (simp; done) | (simp; omega)) (by first | omega | (simp; done) | (simp; omega))) ?_ | refine GO_q rfl rfl (ev_quo rfl rfl (by first | omega | (simp; done) | (simp; omega)) (by first | omega | (simp; done) | (simp; omega)) (by first | omega | (simp; done) | (simp; omega))) ?_)
      refine GO_yes rfl rfl rfl (decide_eq_true (by omega)) ?_
      refine GO_eff rfl rfl (eff_call rfl (above_ctr b ab (xs.length + 1) c12 i ((i - 1) / 2) ys u t _ (by repeat' first | exact fl_A .. | apply Ld.skip) (by repeat' first | exact ld_own g1 _ | apply Ld.skip) (by repeat' first | exact ld_own g2 _ | apply Ld.skip) (by omega) (by omega) (by repeat' first | exact n1 | apply PIn.skip) (by repeat' first | exact n2 | apply PIn.skip))) ?_; rintro _ _ ⟨rfl, rfl⟩
      refine GO_q rfl rfl (ev_pick_t rfl (decide_eq_true (by omega)) rfl) ?_
      refine GO_nil ?_
      (repeat first | refine G_seq ?_ | refine G_skip ?_ | refine G_endblk ?_ | refine G_block ?_ | refine G_exit rfl ?_)
      refine G_cond_f rfl hu ?_
      (repeat first | refine G_seq ?_ | refine G_skip ?_ | refine G_endblk ?_ | refine G_block ?_ | refine G_exit rfl ?_)
      refine G_end (L' := fallS b x1 x2 k ys :: L) rfl .nil ?_ ⟨ys, rfl, ⟨f2, hd⟩, rfl⟩
      rw [← hyl]
      exact (by (repeat first | exact en_refl | apply en_fall (A := some ⟨ab, 0, none⟩) (c := c12) (fun _ => ⟨ab, rfl⟩) | (apply en_blk; focus ((repeat' first | exact Pick.here | apply Pick.skip | apply Pick.app); done); focus rfl) | (apply en_own; focus ((repeat' first | exact Pick.here | apply Pick.skip | apply Pick.app); done); focus rfl) | (apply en_pick; focus ((repeat' first | exact Pick.here | apply Pick.skip | apply Pick.app); done)) | apply en_drop | apply en_app) <;> fail)
  · have e0 : i = 0 := by omega
    subst e0
    (repeat first | refine G_seq ?_ | refine G_skip ?_ | refine G_endblk ?_ | refine G_block ?_ | refine G_exit rfl ?_)
    refine G_region ?_
    refine GO_q rfl rfl (ev_move rfl) ?_
    refine GO_q rfl rfl (ev_gtr rfl rfl) ?_
    refine GO_q rfl rfl (ev_move rfl) ?_
    refine GO_no rfl rfl rfl rfl ?_
    refine GO_no rfl rfl rfl rfl ?_
    refine GO_no rfl rfl rfl rfl ?_
    refine GO_no rfl rfl rfl rfl ?_
    refine GO_no rfl rfl rfl rfl ?_
    refine GO_no rfl rfl rfl rfl ?_
    refine GO_q rfl rfl (ev_pick_f rfl rfl rfl) ?_
    refine GO_nil ?_
    (repeat first | refine G_seq ?_ | refine G_skip ?_ | refine G_endblk ?_ | refine G_block ?_ | refine G_exit rfl ?_)
    refine G_cond_f rfl rfl ?_
    (repeat first | refine G_seq ?_ | refine G_skip ?_ | refine G_endblk ?_ | refine G_block ?_ | refine G_exit rfl ?_)
    refine G_end (L' := fallS b x1 x2 k ys :: L) rfl .nil ?_ ⟨ys, rfl, ⟨f2, f3.done (.inl rfl)⟩, rfl⟩
    rw [← hyl]
    exact (by (repeat first | exact en_refl | apply en_fall (A := some ⟨ab, 0, none⟩) (c := c12) (fun _ => ⟨ab, rfl⟩) | (apply en_blk; focus ((repeat' first | exact Pick.here | apply Pick.skip | apply Pick.app); done); focus rfl) | (apply en_own; focus ((repeat' first | exact Pick.here | apply Pick.skip | apply Pick.app); done); focus rfl) | (apply en_pick; focus ((repeat' first | exact Pick.here | apply Pick.skip | apply Pick.app); done)) | apply en_drop | apply en_app) <;> fail)
theorem fsink_ctr (b k : Nat) (x1 x2 : Int) (xs : List PA) (L : List HP) (hin : ∀ y ∈ xs, PIn L y) (hs : SD xs 0) (h0 : 0 < xs.length) (hb : xs.length ≤ 100000) :
    Ctr Tryz.prog 64 #[.pointer (some ⟨b, 0, none⟩), .int .i64 0] (fallS b x1 x2 k xs :: L) fun v L' => ∃ ys : List PA, v = .tuple #[] ∧ (ys.Perm xs ∧ HO ys) ∧ L' = fallS b x1 x2 k ys :: L := by
  refine Ctr.fall fun A c hA hc hc2 => ?_
  obtain ⟨ab, rfl⟩ := hA h0
  refine Ctr_of (fn := Tryz.f64) (n := 61) Tryz.func64 rfl rfl rfl ?_
  intro g F
  (repeat first | refine G_seq ?_ | refine G_skip ?_ | refine G_endblk ?_ | refine G_block ?_ | refine G_exit rfl ?_)
  refine G_loop (ι := List PA × Nat) (fun z => [(0, .pointer (some ⟨b, 0, none⟩)), (1, .int .i64 (z.2 : Nat))]) (fun z => blk b 67 (fallC (some ⟨ab, 0, none⟩) xs.length c x1 x2 k) :: own 50 1 (some ⟨ab, 0, none⟩) xs.length c (flat z.1) :: F :: L)
    (fun z => z.2 < xs.length ∧ z.1.Perm xs ∧ SD z.1 z.2) (fun z => xs.length - z.2) (xs, 0) ⟨h0, .refl _, hs⟩ ⟨rfl, rfl, trivial⟩ (by (repeat first | exact en_refl | (apply en_blk; focus ((repeat' first | exact Pick.here | apply Pick.skip | apply Pick.app); done); focus rfl) | (apply en_own; focus ((repeat' first | exact Pick.here | apply Pick.skip | apply Pick.app); done); focus rfl) | (apply en_pick; focus ((repeat' first | exact Pick.here | apply Pick.skip | apply Pick.app); done)) | apply en_drop | apply en_app) <;> fail) ?_
  rintro ⟨ys, i⟩ ⟨f1, f2, f3⟩
  simp only at f1 f2 f3
  dsimp only
  have hyl : ys.length = xs.length := f2.length_eq
  have hyin : ∀ y ∈ ys, PIn L y := fun y hy => hin y (f2.subset hy)
  (repeat first | refine G_seq ?_ | refine G_skip ?_ | refine G_endblk ?_ | refine G_block ?_ | refine G_exit rfl ?_)
  refine G_region ?_
  refine GO_q rfl rfl (ev_move rfl) ?_
  refine GO_q rfl rfl (ev_assign rfl) ?_
  refine GO_nil ?_
  (repeat first | refine G_seq ?_ | refine G_skip ?_ | refine G_endblk ?_ | refine G_block ?_ | refine G_exit rfl ?_)
  refine G_region ?_
  refine GO_q rfl rfl (ev_move rfl) ?_
  refine GO_q rfl rfl (ev_mul rfl rfl (by omega)) ?_
  refine GO_q rfl rfl (ev_add rfl rfl (by omega)) ?_
  refine GO_q rfl rfl (ev_assign rfl) ?_
  refine GO_nil ?_
  have ek : (2 * (i : Int) + 1) = ((2 * i + 1 : Nat) : Int) := by omega
  rw [ek]
  (repeat first | refine G_seq ?_ | refine G_skip ?_ | refine G_endblk ?_)
  refine G_cut (ι := Nat) (fun m => [(0, .pointer (some ⟨b, 0, none⟩)), (1, .int .i64 (i : Nat)), (4, .int .i64 (m : Nat))]) (fun _ => blk b 67 (fallC (some ⟨ab, 0, none⟩) xs.length c x1 x2 k) :: own 50 1 (some ⟨ab, 0, none⟩) xs.length c (flat ys) :: F :: L)
    (fun m => (m = i ∨ (par m = i ∧ 0 < m ∧ m < xs.length)) ∧ lowr (ky ys i) (ky ys m) ∧ ∀ j, 0 < j → j < xs.length → par j = i → lowr (ky ys j) (ky ys m)) ?_ ?_
  · (repeat first | refine G_seq ?_ | refine G_skip ?_ | refine G_endblk ?_ | refine G_block ?_ | refine G_exit rfl ?_)
    refine G_loop (ι := Nat × Nat) (fun z => [(0, .pointer (some ⟨b, 0, none⟩)), (1, .int .i64 (i : Nat)), (4, .int .i64 (z.2 : Nat)), (5, .int .i64 (z.1 : Nat))]) (fun _ => blk b 67 (fallC (some ⟨ab, 0, none⟩) xs.length c x1 x2 k) :: own 50 1 (some ⟨ab, 0, none⟩) xs.length c (flat ys) :: F :: L)
      (fun z => 2 * i + 1 ≤ z.1 ∧ z.1 ≤ 2 * i + 3 ∧ (z.2 = i ∨ (par z.2 = i ∧ 0 < z.2 ∧ z.2 < xs.length)) ∧ lowr (ky ys i) (ky ys z.2) ∧ ∀ j, 2 * i + 1 ≤ j → j < z.1 → j < xs.length → lowr (ky ys j) (ky ys z.2)) (fun z => 2 * i + 3 - z.1) (2 * i + 1, i) ⟨Nat.le_refl _, by simp only; omega, .inl rfl, lowr_refl _, fun j h1 h2 => by simp only at h2; omega⟩ ⟨rfl, rfl, rfl, rfl, trivial⟩ (by (repeat first | exact en_refl | (apply en_blk; focus ((repeat' first | exact Pick.here | apply Pick.skip | apply Pick.app); done); focus rfl) | (apply en_own; focus ((repeat' first | exact Pick.here | apply Pick.skip | apply Pick.app); done); focus rfl) | (apply en_pick; focus ((repeat' first | exact Pick.here | apply Pick.skip | apply Pick.app); done)) | apply en_drop | apply en_app) <;> fail) ?_
    rintro ⟨q, m⟩ ⟨e1, e2, e3, e4, e5⟩
    simp only at e1 e2 e3 e4 e5
    dsimp only
    have hml : m < xs.length := by rcases e3 with e3 | e3 <;> omega
    by_cases c1 : q ≤ 2 * i + 2 ∧ q < xs.length
    · have g1 : ys[q]? = some ys[q] := List.getElem?_eq_getElem (by omega)
      have g2 : ys[m]? = some ys[m] := List.getElem?_eq_getElem (by omega)
      have n1 := hyin _ (List.getElem_mem (by omega : q < ys.length))
      have n2 := hyin _ (List.getElem_mem (by omega : m < ys.length))
      have k1 := ky_eq g1
      have k2 := ky_eq g2
      have hpq : par q = i := by unfold par; omega
      generalize ys[q] = u at *
      generalize ys[m] = t at *
      (repeat first | refine G_seq ?_ | refine G_skip ?_ | refine G_endblk ?_ | refine G_block ?_ | refine G_exit rfl ?_)
      refine G_region ?_
      refine GO_q rfl rfl (ev_move rfl) ?_
      refine GO_q rfl rfl (ev_move rfl) ?_
      refine GO_q rfl rfl (ev_mul rfl rfl (by omega)) ?_
      refine GO_q rfl rfl (ev_add rfl rfl (by omega)) ?_
      refine GO_q rfl rfl (ev_leq rfl rfl) ?_
      refine GO_q rfl rfl (ev_move rfl) ?_
      refine GO_yes rfl rfl rfl (decide_eq_true (by omega)) ?_
      refine GO_q rfl rfl (ev_move rfl) ?_
      refine GO_yes rfl rfl rfl (decide_eq_true (by omega)) ?_
      refine GO_q rfl rfl (ev_move rfl) ?_
      refine GO_yes rfl rfl rfl (decide_eq_true (by omega)) ?_
      (first | refine GO_q rfl rfl (ev_nilCheck rfl) ?_ | refine GO_q rfl rfl (ev_nilCheckF (by simp) rfl) ?_)
      refine GO_yes rfl rfl rfl (decide_eq_true (by omega)) ?_
      refine GO_q rfl rfl (ev_fieldAddr rfl) ?_
      refine GO_yes rfl rfl rfl (decide_eq_true (by omega)) ?_
      refine GO_q rfl rfl (ev_load rfl (by repeat' first | exact fl_A .. | apply Ld.skip)) ?_
      refine GO_yes rfl rfl rfl (decide_eq_true (by omega)) ?_
      refine GO_q rfl rfl (ev_len rfl) ?_
      refine GO_yes rfl rfl rfl (decide_eq_true (by omega)) ?_
      (first | refine GO_q rfl rfl (ev_lssN rfl rfl) ?_ | refine GO_q rfl rfl (ev_lss rfl rfl) ?_)
      refine GO_q rfl rfl (ev_pick_t rfl (decide_eq_true (by omega)) rfl) ?_
      refine GO_nil ?_
      (repeat first | refine G_seq ?_ | refine G_skip ?_ | refine G_endblk ?_ | refine G_block ?_ | refine G_exit rfl ?_)
      refine G_cond_t rfl (decide_eq_true (by omega)) ?_
      (repeat first | refine G_seq ?_ | refine G_skip ?_ | refine G_endblk ?_ | refine G_block ?_ | refine G_exit rfl ?_)
      refine G_region ?_
      refine GO_q rfl rfl (ev_move rfl) ?_
      refine GO_q rfl rfl (ev_move rfl) ?_
      refine GO_q rfl rfl (ev_move rfl) ?_
      refine GO_eff rfl rfl (eff_call rfl (above_ctr b ab xs.length c q m ys u t _ (by repeat' first | exact fl_A .. | apply Ld.skip) (by repeat' first | exact ld_own g1 _ | apply Ld.skip) (by repeat' first | exact ld_own g2 _ | apply Ld.skip) (by omega) (by omega) (by repeat' first | exact n1 | apply PIn.skip) (by repeat' first | exact n2 | apply PIn.skip))) ?_; rintro _ _ ⟨rfl, rfl⟩
      refine GO_nil ?_
      cases hu : und t.pt u.pt with
      | true =>
        have ht : lowr (ky ys m) (ky ys q) := by rw [k1, k2]; exact lowr_of hu
        (repeat first | refine G_seq ?_ | refine G_skip ?_ | refine G_endblk ?_ | refine G_block ?_ | refine G_exit rfl ?_)
        refine G_cond_t rfl rfl ?_
        (repeat first | refine G_seq ?_ | refine G_skip ?_ | refine G_endblk ?_ | refine G_block ?_ | refine G_exit rfl ?_)
        refine G_region ?_
        refine GO_q rfl rfl (ev_move rfl) ?_
        refine GO_q rfl rfl (ev_assign rfl) ?_
        refine GO_nil ?_
        (repeat first | refine G_seq ?_ | refine G_skip ?_ | refine G_endblk ?_ | refine G_block ?_ | refine G_exit rfl ?_)
        refine G_region ?_
        refine GO_q rfl rfl (ev_move rfl) ?_
        (first | refine GO_q rfl rfl (ev_addN (q := 1) rfl rfl (by first | omega | (simp; done) | (simp; omega))) ?_ | refine GO_q rfl rfl (ev_add rfl rfl (by first | omega | (simp; done) | (simp; omega))) ?_)
        refine GO_q rfl rfl (ev_assign rfl) ?_
        refine GO_nil ?_
        (repeat first | refine G_seq ?_ | refine G_skip ?_ | refine G_endblk ?_ | refine G_block ?_ | refine G_exit rfl ?_)
        exact G_round (q + 1, q) ⟨by simp only; omega, by simp only; omega, .inr ⟨hpq, by simp only; omega, c1.2⟩, lowr_trans e4 ht, fun j h1 h2 h3 => by
          simp only at h2 ⊢
          by_cases ej : j = q
          · rw [ej]; exact lowr_refl _
          · exact lowr_trans (e5 j h1 (by omega) h3) ht⟩ (by simp only; omega) ⟨rfl, rfl, rfl, rfl, trivial⟩ (by (repeat first | exact en_refl | (apply en_blk; focus ((repeat' first | exact Pick.here | apply Pick.skip | apply Pick.app); done); focus rfl) | (apply en_own; focus ((repeat' first | exact Pick.here | apply Pick.skip | apply Pick.app); done); focus rfl) | (apply en_pick; focus ((repeat' first | exact Pick.here | apply Pick.skip | apply Pick.app); done)) | apply en_drop | apply en_app) <;> fail)
      | false =>
        have ht : lowr (ky ys q) (ky ys m) := by rw [k1, k2]; exact hu
        (repeat first | refine G_seq ?_ | refine G_skip ?_ | refine G_endblk ?_ | refine G_block ?_ | refine G_exit rfl ?_)
        refine G_cond_f rfl rfl ?_
        (repeat first | refine G_seq ?_ | refine G_skip ?_ | refine G_endblk ?_ | refine G_block ?_ | refine G_exit rfl ?_)
        refine G_region ?_
        refine GO_q rfl rfl (ev_move rfl) ?_
        (first | refine GO_q rfl rfl (ev_addN (q := 1) rfl rfl (by first | omega | (simp; done) | (simp; omega))) ?_ | refine GO_q rfl rfl (ev_add rfl rfl (by first | omega | (simp; done) | (simp; omega))) ?_)
        refine GO_q rfl rfl (ev_assign rfl) ?_
        refine GO_nil ?_
        (repeat first | refine G_seq ?_ | refine G_skip ?_ | refine G_endblk ?_ | refine G_block ?_ | refine G_exit rfl ?_)
        exact G_round (q + 1, m) ⟨by simp only; omega, by simp only; omega, e3, e4, fun j h1 h2 h3 => by
          simp only at h2 ⊢
          by_cases ej : j = q
          · rw [ej]; exact ht
          · exact e5 j h1 (by omega) h3⟩ (by simp only; omega) ⟨rfl, rfl, rfl, rfl, trivial⟩ (by (repeat first | exact en_refl | (apply en_blk; focus ((repeat' first | exact Pick.here | apply Pick.skip | apply Pick.app); done); focus rfl) | (apply en_own; focus ((repeat' first | exact Pick.here | apply Pick.skip | apply Pick.app); done); focus rfl) | (apply en_pick; focus ((repeat' first | exact Pick.here | apply Pick.skip | apply Pick.app); done)) | apply en_drop | apply en_app) <;> fail)
    · have hall : ∀ j, 0 < j → j < xs.length → par j = i → lowr (ky ys j) (ky ys m) := fun j h1 h2 h3 => by
        unfold par at h3
        exact e5 j (by omega) (by omega) h2
      by_cases c2 : q ≤ 2 * i + 2
      case' pos =>
        (repeat first | refine G_seq ?_ | refine G_skip ?_ | refine G_endblk ?_ | refine G_block ?_ | refine G_exit rfl ?_)
        refine G_region ?_
        refine GO_q rfl rfl (ev_move rfl) ?_
        refine GO_q rfl rfl (ev_move rfl) ?_
        refine GO_q rfl rfl (ev_mul rfl rfl (by omega)) ?_
        refine GO_q rfl rfl (ev_add rfl rfl (by omega)) ?_
        refine GO_q rfl rfl (ev_leq rfl rfl) ?_
        refine GO_q rfl rfl (ev_move rfl) ?_
        refine GO_yes rfl rfl rfl (decide_eq_true (by omega)) ?_
        refine GO_q rfl rfl (ev_move rfl) ?_
        refine GO_yes rfl rfl rfl (decide_eq_true (by omega)) ?_
        refine GO_q rfl rfl (ev_move rfl) ?_
        refine GO_yes rfl rfl rfl (decide_eq_true (by omega)) ?_
        (first | refine GO_q rfl rfl (ev_nilCheck rfl) ?_ | refine GO_q rfl rfl (ev_nilCheckF (by simp) rfl) ?_)
        refine GO_yes rfl rfl rfl (decide_eq_true (by omega)) ?_
        refine GO_q rfl rfl (ev_fieldAddr rfl) ?_
        refine GO_yes rfl rfl rfl (decide_eq_true (by omega)) ?_
        refine GO_q rfl rfl (ev_load rfl (by repeat' first | exact fl_A .. | apply Ld.skip)) ?_
        refine GO_yes rfl rfl rfl (decide_eq_true (by omega)) ?_
        refine GO_q rfl rfl (ev_len rfl) ?_
        refine GO_yes rfl rfl rfl (decide_eq_true (by omega)) ?_
        (first | refine GO_q rfl rfl (ev_lssN rfl rfl) ?_ | refine GO_q rfl rfl (ev_lss rfl rfl) ?_)
        refine GO_q rfl rfl (ev_pick_t rfl (decide_eq_true (by omega)) rfl) ?_
        refine GO_nil ?_
        (repeat first | refine G_seq ?_ | refine G_skip ?_ | refine G_endblk ?_ | refine G_block ?_ | refine G_exit rfl ?_)
        refine G_cond_f rfl (decide_eq_false (by omega)) ?_
      case' neg =>
        (repeat first | refine G_seq ?_ | refine G_skip ?_ | refine G_endblk ?_ | refine G_block ?_ | refine G_exit rfl ?_)
        refine G_region ?_
        refine GO_q rfl rfl (ev_move rfl) ?_
        refine GO_q rfl rfl (ev_move rfl) ?_
        refine GO_q rfl rfl (ev_mul rfl rfl (by omega)) ?_
        refine GO_q rfl rfl (ev_add rfl rfl (by omega)) ?_
        refine GO_q rfl rfl (ev_leq rfl rfl) ?_
        refine GO_q rfl rfl (ev_move rfl) ?_
        refine GO_no rfl rfl rfl (decide_eq_false (by omega)) ?_
        refine GO_no rfl rfl rfl (decide_eq_false (by omega)) ?_
        refine GO_no rfl rfl rfl (decide_eq_false (by omega)) ?_
        refine GO_no rfl rfl rfl (decide_eq_false (by omega)) ?_
        refine GO_no rfl rfl rfl (decide_eq_false (by omega)) ?_
        refine GO_no rfl rfl rfl (decide_eq_false (by omega)) ?_
        refine GO_no rfl rfl rfl (decide_eq_false (by omega)) ?_
        refine GO_q rfl rfl (ev_pick_f rfl (decide_eq_false (by omega)) rfl) ?_
        refine GO_nil ?_
        (repeat first | refine G_seq ?_ | refine G_skip ?_ | refine G_endblk ?_ | refine G_block ?_ | refine G_exit rfl ?_)
        refine G_cond_f rfl rfl ?_
      all_goals
        (repeat first | refine G_seq ?_ | refine G_skip ?_ | refine G_endblk ?_ | refine G_block ?_ | refine G_exit rfl ?_)
        exact G_inv m ⟨e3, e4, hall⟩ ⟨rfl, rfl, rfl, trivial⟩ (by (repeat first | exact en_refl | (apply en_blk; focus ((repeat' first | exact Pick.here | apply Pick.skip | apply Pick.app); done); focus rfl) | (apply en_own; focus ((repeat' first | exact Pick.here | apply Pick.skip | apply Pick.app); done); focus rfl) | (apply en_pick; focus ((repeat' first | exact Pick.here | apply Pick.skip | apply Pick.app); done)) | apply en_drop | apply en_app) <;> fail)
  · rintro m ⟨e3, e4, e5⟩
    have hml : m < xs.length := by rcases e3 with e3 | e3 <;> omega
    (repeat first | refine G_seq ?_ | refine G_skip ?_ | refine G_endblk ?_ | refine G_block ?_ | refine G_exit rfl ?_)
    refine G_region ?_
    refine GO_q rfl rfl (ev_move rfl) ?_
    refine GO_q rfl rfl (ev_move rfl) ?_
    refine GO_q rfl rfl (ev_eql rfl rfl) ?_
    refine GO_nil ?_
    by_cases c3 : m = i
    · subst c3
      (repeat first | refine G_seq ?_ | refine G_skip ?_ | refine G_endblk ?_ | refine G_block ?_ | refine G_exit rfl ?_)
      refine G_cond_t rfl (decide_eq_true rfl) ?_
      (repeat first | refine G_seq ?_ | refine G_skip ?_ | refine G_endblk ?_ | refine G_block ?_ | refine G_exit rfl ?_)
      refine G_ret (L' := fallS b x1 x2 k ys :: L) rfl .nil ?_ ⟨ys, rfl, ⟨f2, f3.done (fun j h1 h2 h3 => e5 j h1 (by omega) h3)⟩, rfl⟩
      rw [← hyl]
      exact (by (repeat first | exact en_refl | apply en_fall (A := some ⟨ab, 0, none⟩) (c := c) (fun _ => ⟨ab, rfl⟩) | (apply en_blk; focus ((repeat' first | exact Pick.here | apply Pick.skip | apply Pick.app); done); focus rfl) | (apply en_own; focus ((repeat' first | exact Pick.here | apply Pick.skip | apply Pick.app); done); focus rfl) | (apply en_pick; focus ((repeat' first | exact Pick.here | apply Pick.skip | apply Pick.app); done)) | apply en_drop | apply en_app) <;> fail)
    · have e6 := e3.resolve_left c3
      have him : i < m := by have := e6.1; unfold par at this; omega
      have g1 : ys[m]? = some ys[m] := List.getElem?_eq_getElem (by omega)
      have g2 : ys[i]? = some ys[i] := List.getElem?_eq_getElem (by omega)
      generalize ys[m] = u at *
      generalize ys[i] = t at *
      (repeat first | refine G_seq ?_ | refine G_skip ?_ | refine G_endblk ?_ | refine G_block ?_ | refine G_exit rfl ?_)
      refine G_cond_f rfl (decide_eq_false (by omega)) ?_
      (repeat first | refine G_seq ?_ | refine G_skip ?_ | refine G_endblk ?_ | refine G_block ?_ | refine G_exit rfl ?_)
      refine G_draw (.q 0 (.q 1 (.q 2 (.q 3 (.q 4 (.q 5 (.q 6 (.q 7 (.q 8 (.q 9 (.q 10 (.q 11 (.q 12 (.q 13 (.q 14 (.q 15 (.q 16 (.q 17 (.q 18 (.q 19 (.q 20 (.q 21 (.q 22 (.q 23 (.q 24 (.e 25 (.q 26 (.e 27 .nil)))))))))))))))))))))))))))) (by kernel_rfl) (by kernel_rfl) ?_
      refine RS_m retB_noPanic rfl rfl rfl rfl (ev_move rfl) ?_
      (first | refine RS_m retB_noPanic rfl rfl rfl rfl (ev_nilCheck rfl) ?_ | refine RS_m retB_noPanic rfl rfl rfl rfl (ev_nilCheckF (by simp) rfl) ?_)
      refine RS_m retB_noPanic rfl rfl rfl rfl (ev_fieldAddr rfl) ?_
      refine RS_q retB_noPanic rfl rfl rfl rfl (ev_load rfl (by repeat' first | exact fl_A .. | apply Ld.skip)) ?_
      refine RS_m retB_noPanic rfl rfl rfl rfl (ev_move rfl) ?_
      refine RS_m retB_noPanic rfl rfl rfl rfl (ev_move rfl) ?_
      (first | refine RS_m retB_noPanic rfl rfl rfl rfl (ev_nilCheck rfl) ?_ | refine RS_m retB_noPanic rfl rfl rfl rfl (ev_nilCheckF (by simp) rfl) ?_)
      refine RS_m retB_noPanic rfl rfl rfl rfl (ev_fieldAddr rfl) ?_
      refine RS_q retB_noPanic rfl rfl rfl rfl (ev_load rfl (by repeat' first | exact fl_A .. | apply Ld.skip)) ?_
      refine RS_m retB_noPanic rfl rfl rfl rfl (ev_move rfl) ?_
      refine RS_m retB_noPanic rfl rfl rfl rfl (ev_move rfl) ?_
      (first | refine RS_m retB_noPanic rfl rfl rfl rfl (ev_nilCheck rfl) ?_ | refine RS_m retB_noPanic rfl rfl rfl rfl (ev_nilCheckF (by simp) rfl) ?_)
      refine RS_m retB_noPanic rfl rfl rfl rfl (ev_fieldAddr rfl) ?_
      refine RS_q retB_noPanic rfl rfl rfl rfl (ev_load rfl (by repeat' first | exact fl_A .. | apply Ld.skip)) ?_
      refine RS_m retB_noPanic rfl rfl rfl rfl (ev_move rfl) ?_
      (first | refine RS_m retB_noPanic rfl rfl rfl rfl (ev_indexAddrN rfl rfl (by first | omega | (simp; done) | (simp; omega))) ?_ | refine RS_m retB_noPanic rfl rfl rfl rfl (ev_indexAddr rfl rfl (by first | omega | (simp; done) | (simp; omega)) (by first | omega | (simp; done) | (simp; omega))) ?_)
      refine RS_q retB_noPanic rfl rfl rfl rfl (ev_load rfl (by repeat' first | exact ld_own g1 _ | apply Ld.skip)) ?_
      refine RS_m retB_noPanic rfl rfl rfl rfl (ev_move rfl) ?_
      (first | refine RS_m retB_noPanic rfl rfl rfl rfl (ev_nilCheck rfl) ?_ | refine RS_m retB_noPanic rfl rfl rfl rfl (ev_nilCheckF (by simp) rfl) ?_)
      refine RS_m retB_noPanic rfl rfl rfl rfl (ev_fieldAddr rfl) ?_
      refine RS_q retB_noPanic rfl rfl rfl rfl (ev_load rfl (by repeat' first | exact fl_A .. | apply Ld.skip)) ?_
      refine RS_m retB_noPanic rfl rfl rfl rfl (ev_move rfl) ?_
      (first | refine RS_m retB_noPanic rfl rfl rfl rfl (ev_indexAddrN rfl rfl (by first | omega | (simp; done) | (simp; omega))) ?_ | refine RS_m retB_noPanic rfl rfl rfl rfl (ev_indexAddr rfl rfl (by first | omega | (simp; done) | (simp; omega)) (by first | omega | (simp; done) | (simp; omega))) ?_)
      refine RS_q retB_noPanic rfl rfl rfl rfl (ev_load rfl (by repeat' first | exact ld_own g2 _ | apply Ld.skip)) ?_
      (first | refine RS_m retB_noPanic rfl rfl rfl rfl (ev_indexAddrN rfl rfl (by first | omega | (simp; done) | (simp; omega))) ?_ | refine RS_m retB_noPanic rfl rfl rfl rfl (ev_indexAddr rfl rfl (by first | omega | (simp; done) | (simp; omega)) (by first | omega | (simp; done) | (simp; omega))) ?_)
      refine RS_e (RE_cmp (by kernel_rfl) rfl rfl rfl (eff_storeO rfl rfl rfl (by repeat' first | exact Pick.here | apply Pick.skip | apply Pick.app) (by omega)) ?_); rintro _ _ ⟨rfl, rfl⟩
      (first | refine RS_m retB_noPanic rfl rfl rfl rfl (ev_indexAddrN rfl rfl (by first | omega | (simp; done) | (simp; omega))) ?_ | refine RS_m retB_noPanic rfl rfl rfl rfl (ev_indexAddr rfl rfl (by first | omega | (simp; done) | (simp; omega)) (by first | omega | (simp; done) | (simp; omega))) ?_)
      refine RS_e (RE_last (by kernel_rfl) rfl rfl rfl (eff_storeO rfl rfl rfl (by repeat' first | exact Pick.here | apply Pick.skip | apply Pick.app) (by omega)) ?_); rintro _ _ ⟨rfl, rfl⟩
      rw [flat_pa_set, flat_pa_set]
      (repeat first | refine G_seq ?_ | refine G_skip ?_ | refine G_endblk ?_ | refine G_block ?_ | refine G_exit rfl ?_)
      refine G_region ?_
      refine GO_q rfl rfl (ev_move rfl) ?_
      refine GO_q rfl rfl (ev_assign rfl) ?_
      refine GO_nil ?_
      have es : (ys.set i u).set m t = sw ys i m := by
        unfold sw
        rw [List.getD_eq_getElem?_getD, List.getD_eq_getElem?_getD, g1, g2]; rfl
      rw [es]
      (repeat first | refine G_seq ?_ | refine G_skip ?_ | refine G_endblk ?_ | refine G_block ?_ | refine G_exit rfl ?_)
      exact G_round (sw ys i m, m) ⟨by simp only; omega, (sw_perm ys (by omega) (by omega)).trans f2, SD.step f3 (by omega) e6.1 e6.2.1 (fun j h1 h2 h3 => e5 j h1 (by omega) h3) e4⟩ (by simp only; omega) ⟨rfl, rfl, trivial⟩ (by (repeat first | exact en_refl | (apply en_blk; focus ((repeat' first | exact Pick.here | apply Pick.skip | apply Pick.app); done); focus rfl) | (apply en_own; focus ((repeat' first | exact Pick.here | apply Pick.skip | apply Pick.app); done); focus rfl) | (apply en_pick; focus ((repeat' first | exact Pick.here | apply Pick.skip | apply Pick.app); done)) | apply en_drop | apply en_app) <;> fail)
theorem fpop_ctr (b k : Nat) (x1 x2 : Int) (x : PA) (xs : List PA) (L : List HP) (hin : ∀ y ∈ xs, PIn L y) (ho : HO (x :: xs)) (hb : xs.length ≤ 100000) (hk : k ≤ 1000000) :
    Ctr Tryz.prog 43 #[.pointer (some ⟨b, 0, none⟩)] (fallS b x1 x2 k (x :: xs) :: L) fun v L' => ∃ ys : List PA, v = .pointer x.addr ∧ (ys.Perm xs ∧ HO ys) ∧ L' = fallS b x1 x2 (k + 1) ys :: L := by
  have hlen : (x :: xs).length = xs.length + 1 := rfl
  refine Ctr.fall fun A c hA hc hc2 => ?_
  obtain ⟨ab, rfl⟩ := hA (by omega)
  have g1 : (x :: xs)[0]? = some x := rfl
  obtain ⟨y, hy⟩ : ∃ y, (x :: xs).getD xs.length .nil = y := ⟨_, rfl⟩
  have g2 : (x :: xs)[xs.length]? = some y := by
    rw [List.getD_eq_getElem?_getD, List.getElem?_eq_getElem (by simp)] at hy
    rw [List.getElem?_eq_getElem (by simp)]
    exact congrArg some hy
  have hcut : ((x :: xs).set 0 y).take xs.length = cutH x xs := by unfold cutH; rw [hy]
  have hcl := cutH_len x xs
  have hcp := cutH_perm x xs
  generalize hxx : x :: xs = zs at *
  refine Ctr_of (fn := Tryz.f43) (n := 50) Tryz.func43 rfl rfl rfl ?_
  intro g F
  (repeat first | refine G_seq ?_ | refine G_skip ?_ | refine G_endblk ?_ | refine G_block ?_ | refine G_exit rfl ?_)
  refine G_region ?_
  refine GO_q rfl rfl (ev_assign rfl) ?_
  refine GO_nil ?_
  (repeat first | refine G_seq ?_ | refine G_skip ?_ | refine G_endblk ?_ | refine G_block ?_ | refine G_exit rfl ?_)
  refine G_draw (.q 0 (.q 1 (.q 2 (.q 3 (.q 4 (.q 5 (.q 6 (.q 7 (.q 8 (.q 9 (.q 10 (.q 11 (.q 12 (.q 13 .nil)))))))))))))) (by kernel_rfl) (by kernel_rfl) ?_
  refine RS_m retB_noPanic rfl rfl rfl rfl (ev_move rfl) ?_
  (first | refine RS_m retB_noPanic rfl rfl rfl rfl (ev_nilCheck rfl) ?_ | refine RS_m retB_noPanic rfl rfl rfl rfl (ev_nilCheckF (by simp) rfl) ?_)
  refine RS_m retB_noPanic rfl rfl rfl rfl (ev_fieldAddr rfl) ?_
  refine RS_q retB_noPanic rfl rfl rfl rfl (ev_load rfl (by repeat' first | exact fl_A .. | apply Ld.skip)) ?_
  (first | refine RS_m retB_noPanic rfl rfl rfl rfl (ev_indexAddrN rfl rfl (by first | omega | (simp; done) | (simp; omega))) ?_ | refine RS_m retB_noPanic rfl rfl rfl rfl (ev_indexAddr rfl rfl (by first | omega | (simp; done) | (simp; omega)) (by first | omega | (simp; done) | (simp; omega))) ?_)
  refine RS_q retB_noPanic rfl rfl rfl rfl (ev_load rfl (by repeat' first | exact ld_own g1 _ | apply Ld.skip)) ?_
  refine RS_m retB_noPanic rfl rfl rfl rfl (ev_move rfl) ?_
  (first | refine RS_m retB_noPanic rfl rfl rfl rfl (ev_nilCheck rfl) ?_ | refine RS_m retB_noPanic rfl rfl rfl rfl (ev_nilCheckF (by simp) rfl) ?_)
  refine RS_m retB_noPanic rfl rfl rfl rfl (ev_fieldAddr rfl) ?_
  refine RS_q retB_noPanic rfl rfl rfl rfl (ev_load rfl (by repeat' first | exact fl_A .. | apply Ld.skip)) ?_
  refine RS_q retB_noPanic rfl rfl rfl rfl (ev_len rfl) ?_
  (first | refine RS_m retB_noPanic rfl rfl rfl rfl (ev_subN (q := 1) rfl rfl (by first | omega | (simp; done) | (simp; omega))) ?_ | refine RS_m retB_noPanic rfl rfl rfl rfl (ev_sub rfl rfl (by first | omega | (simp; done) | (simp; omega))) ?_)
  refine RS_m retB_noPanic rfl rfl rfl rfl (ev_assign rfl) ?_
  refine RS_m retB_noPanic rfl rfl rfl rfl (ev_assign rfl) ?_
  refine RS_nil ?_
  have el : zs.length - 1 = xs.length := by omega
  rw [el]
  (repeat first | refine G_seq ?_ | refine G_skip ?_ | refine G_endblk ?_ | refine G_block ?_ | refine G_exit rfl ?_)
  refine G_draw (.q 0 (.q 1 (.q 2 (.q 3 (.q 4 (.q 5 (.q 6 (.q 7 (.q 8 (.q 9 (.q 10 (.q 11 (.e 12 .nil))))))))))))) (by kernel_rfl) (by kernel_rfl) ?_
  refine RS_m retB_noPanic rfl rfl rfl rfl (ev_move rfl) ?_
  (first | refine RS_m retB_noPanic rfl rfl rfl rfl (ev_nilCheck rfl) ?_ | refine RS_m retB_noPanic rfl rfl rfl rfl (ev_nilCheckF (by simp) rfl) ?_)
  refine RS_m retB_noPanic rfl rfl rfl rfl (ev_fieldAddr rfl) ?_
  refine RS_q retB_noPanic rfl rfl rfl rfl (ev_load rfl (by repeat' first | exact fl_A .. | apply Ld.skip)) ?_
  refine RS_m retB_noPanic rfl rfl rfl rfl (ev_move rfl) ?_
  (first | refine RS_m retB_noPanic rfl rfl rfl rfl (ev_nilCheck rfl) ?_ | refine RS_m retB_noPanic rfl rfl rfl rfl (ev_nilCheckF (by simp) rfl) ?_)
  refine RS_m retB_noPanic rfl rfl rfl rfl (ev_fieldAddr rfl) ?_
  refine RS_q retB_noPanic rfl rfl rfl rfl (ev_load rfl (by repeat' first | exact fl_A .. | apply Ld.skip)) ?_
  refine RS_m retB_noPanic rfl rfl rfl rfl (ev_move rfl) ?_
  (first | refine RS_m retB_noPanic rfl rfl rfl rfl (ev_indexAddrN rfl rfl (by first | omega | (simp; done) | (simp; omega))) ?_ | refine RS_m retB_noPanic rfl rfl rfl rfl (ev_indexAddr rfl rfl (by first | omega | (simp; done) | (simp; omega)) (by first | omega | (simp; done) | (simp; omega))) ?_)
  refine RS_q retB_noPanic rfl rfl rfl rfl (ev_load rfl (by repeat' first | exact ld_own g2 _ | apply Ld.skip)) ?_
  (first | refine RS_m retB_noPanic rfl rfl rfl rfl (ev_indexAddrN rfl rfl (by first | omega | (simp; done) | (simp; omega))) ?_ | refine RS_m retB_noPanic rfl rfl rfl rfl (ev_indexAddr rfl rfl (by first | omega | (simp; done) | (simp; omega)) (by first | omega | (simp; done) | (simp; omega))) ?_)
  refine RS_e (RE_last (by kernel_rfl) rfl rfl rfl (eff_storeO rfl rfl rfl (by repeat' first | exact Pick.here | apply Pick.skip | apply Pick.app) (by simp; omega)) ?_); rintro _ _ ⟨rfl, rfl⟩
  (repeat first | refine G_seq ?_ | refine G_skip ?_ | refine G_endblk ?_ | refine G_block ?_ | refine G_exit rfl ?_)
  refine G_region ?_
  refine GO_q rfl rfl (ev_move rfl) ?_
  refine GO_q rfl rfl (ev_move rfl) ?_
  (first | refine GO_q rfl rfl (ev_nilCheck rfl) ?_ | refine GO_q rfl rfl (ev_nilCheckF (by simp) rfl) ?_)
  refine GO_q rfl rfl (ev_fieldAddr rfl) ?_
  refine GO_q rfl rfl (ev_load rfl (by repeat' first | exact fl_A .. | apply Ld.skip)) ?_
  refine GO_q rfl rfl (ev_move rfl) ?_
  refine GO_q rfl rfl (ev_sliceH rfl rfl (by first | omega | (simp; done) | (simp; omega))) ?_
  (first | refine GO_q rfl rfl (ev_nilCheck rfl) ?_ | refine GO_q rfl rfl (ev_nilCheckF (by simp) rfl) ?_)
  refine GO_q rfl rfl (ev_fieldAddr rfl) ?_
  refine GO_eff rfl rfl (eff_store rfl rfl rfl (by repeat' first | exact Upd.here rfl | apply Upd.skip | apply Upd.app)) ?_; rintro _ _ ⟨rfl, rfl⟩
  refine GO_nil ?_
  have e0 : (flat zs).set (0 + Int.toNat 0 * 1) (.pointer y.addr) = flat (zs.set 0 y) := flat_pa_set zs 0 y
  refine G_heap (L' := fallS b x1 x2 k (cutH x xs) :: F :: L) ?_ ?_
  · have e1 : ((flat zs).set (0 + Int.toNat 0 * 1) (.pointer y.addr)).take (xs.length * 1) = flat (cutH x xs) := by
      rw [e0, ← hcut]
      exact (flat_take (zs.set 0 y) xs.length).symm
    refine en_fall (A := some ⟨ab, 0, none⟩) (c := c) (fun _ => ⟨ab, rfl⟩) ?_
    rw [hcl]
    apply en_pick
    focus ((repeat' first | exact Pick.here | apply Pick.skip | apply Pick.app); done)
    refine en_less .here (by omega) e1 ?_
    exact (by (repeat first | exact en_refl | (apply en_blk; focus ((repeat' first | exact Pick.here | apply Pick.skip | apply Pick.app); done); focus rfl) | (apply en_own; focus ((repeat' first | exact Pick.here | apply Pick.skip | apply Pick.app); done); focus rfl) | (apply en_pick; focus ((repeat' first | exact Pick.here | apply Pick.skip | apply Pick.app); done)) | apply en_drop | apply en_app) <;> fail)
  · have hin2 : ∀ M : List HP, ∀ z ∈ cutH x xs, PIn (M ++ L) z := fun M z hz => PIn.app (hin z (hcp.subset hz))
    (repeat first | refine G_seq ?_ | refine G_skip ?_ | refine G_endblk ?_ | refine G_block ?_ | refine G_exit rfl ?_)
    refine G_region ?_
    refine GO_q rfl rfl (ev_move rfl) ?_
    refine GO_q rfl rfl (ev_gtr rfl rfl) ?_
    refine GO_nil ?_
    (repeat first | refine G_seq ?_ | refine G_skip ?_ | refine G_endblk ?_)
    refine G_cut (ι := List PA) (fun _ => [(0, .pointer (some ⟨b, 0, none⟩)), (3, .pointer x.addr)]) (fun ys => fallS b x1 x2 k ys :: F :: L) (fun ys => ys.Perm xs ∧ HO ys) ?_ ?_
    · by_cases c1 : 0 < xs.length
      · skip
        (repeat first | refine G_seq ?_ | refine G_skip ?_ | refine G_endblk ?_ | refine G_block ?_ | refine G_exit rfl ?_)
        refine G_cond_t rfl (decide_eq_true (by omega)) ?_
        (repeat first | refine G_seq ?_ | refine G_skip ?_ | refine G_endblk ?_ | refine G_block ?_ | refine G_exit rfl ?_)
        refine G_region ?_
        refine GO_q rfl rfl (ev_move rfl) ?_
        refine GO_eff rfl rfl (eff_call rfl (Ctr.pick (by repeat' first | exact Pick.here | apply Pick.skip | apply Pick.app) (fsink_ctr b k x1 x2 (cutH x xs) _ (hin2 [F]) (by subst hxx; exact cutH_sd ho) (by omega) (by omega)))) ?_; rintro _ _ ⟨ys, rfl, ⟨hp1, hp2⟩, rfl⟩
        refine GO_nil ?_
        (repeat first | refine G_seq ?_ | refine G_skip ?_ | refine G_endblk ?_ | refine G_block ?_ | refine G_exit rfl ?_)
        exact G_inv ys ⟨hp1.trans hcp, hp2⟩ ⟨rfl, rfl, trivial⟩ (by (repeat first | exact en_refl | (apply en_blk; focus ((repeat' first | exact Pick.here | apply Pick.skip | apply Pick.app); done); focus rfl) | (apply en_own; focus ((repeat' first | exact Pick.here | apply Pick.skip | apply Pick.app); done); focus rfl) | (apply en_pick; focus ((repeat' first | exact Pick.here | apply Pick.skip | apply Pick.app); done)) | apply en_drop | apply en_app) <;> fail)
      · skip
        (repeat first | refine G_seq ?_ | refine G_skip ?_ | refine G_endblk ?_ | refine G_block ?_ | refine G_exit rfl ?_)
        refine G_cond_f rfl (decide_eq_false (by omega)) ?_
        (repeat first | refine G_seq ?_ | refine G_skip ?_ | refine G_endblk ?_ | refine G_block ?_ | refine G_exit rfl ?_)
        exact G_inv (cutH x xs) ⟨hcp, fun i h1 h2 => by omega⟩ ⟨rfl, rfl, trivial⟩ (by (repeat first | exact en_refl | (apply en_blk; focus ((repeat' first | exact Pick.here | apply Pick.skip | apply Pick.app); done); focus rfl) | (apply en_own; focus ((repeat' first | exact Pick.here | apply Pick.skip | apply Pick.app); done); focus rfl) | (apply en_pick; focus ((repeat' first | exact Pick.here | apply Pick.skip | apply Pick.app); done)) | apply en_drop | apply en_app) <;> fail)
    · rintro ys ⟨hp1, hp2⟩
      refine G_fall fun B d hB hd hd2 => ?_
      (repeat first | refine G_seq ?_ | refine G_skip ?_ | refine G_endblk ?_ | refine G_block ?_ | refine G_exit rfl ?_)
      refine G_region ?_
      refine GO_q rfl rfl (ev_move rfl) ?_
      (first | refine GO_q rfl rfl (ev_nilCheck rfl) ?_ | refine GO_q rfl rfl (ev_nilCheckF (by simp) rfl) ?_)
      refine GO_q rfl rfl (ev_fieldAddr rfl) ?_
      refine GO_q rfl rfl (ev_load rfl (by repeat' first | exact Ld.blk rfl | assumption | apply Ld.skip | apply Ld.app)) ?_
      (first | refine GO_q rfl rfl (ev_addN (q := 1) rfl rfl (by first | omega | (simp; done) | (simp; omega))) ?_ | refine GO_q rfl rfl (ev_add rfl rfl (by first | omega | (simp; done) | (simp; omega))) ?_)
      (first | refine GO_q rfl rfl (ev_nilCheck rfl) ?_ | refine GO_q rfl rfl (ev_nilCheckF (by simp) rfl) ?_)
      refine GO_q rfl rfl (ev_fieldAddr rfl) ?_
      refine GO_eff rfl rfl (eff_store rfl rfl rfl (by repeat' first | exact Upd.here rfl | apply Upd.skip | apply Upd.app)) ?_; rintro _ _ ⟨rfl, rfl⟩
      refine GO_nil ?_
      (repeat first | refine G_seq ?_ | refine G_skip ?_ | refine G_endblk ?_ | refine G_block ?_ | refine G_exit rfl ?_)
      refine G_region ?_
      refine GO_q rfl rfl (ev_move rfl) ?_
      refine GO_q rfl rfl (ev_assign rfl) ?_
      refine GO_nil ?_
      (repeat first | refine G_seq ?_ | refine G_skip ?_ | refine G_endblk ?_ | refine G_block ?_ | refine G_exit rfl ?_)
      exact G_ret (L' := fallS b x1 x2 (k + 1) ys :: L) rfl (.tmp rfl .nil) (by (repeat first | exact en_refl | apply en_fall (c := d) hB | (apply en_blk; focus ((repeat' first | exact Pick.here | apply Pick.skip | apply Pick.app); done); focus rfl) | (apply en_own; focus ((repeat' first | exact Pick.here | apply Pick.skip | apply Pick.app); done); focus rfl) | (apply en_pick; focus ((repeat' first | exact Pick.here | apply Pick.skip | apply Pick.app); done)) | apply en_drop | apply en_app) <;> fail) ⟨ys, rfl, ⟨hp1, hp2⟩, rfl⟩
end Go.Proofs.YtalcanejhniepaaGreat
/- Further rules by operation: numbers of other kinds, parts of arrays. No program stands in this text. -/
namespace Go.Proofs.YtalcanejhniepaaGreat
open Go.RowKit
set_option linter.unusedSimpArgs false
set_option linter.unusedSectionVars false
class IntK (P : Program) (T : TypeId) (k : outParam IntKind) : Prop where
  h : P.underlying T = some (.int k)
section
variable {P : Program} {L : List HP} {σ : Env} {d : Option Nat} {ty T T' : TypeId} {pos : String} {aft : Array Edge} {gd : Option (Nat × Bool)} {x y z : Operand} {v u : Value}
theorem ev_remK {k : IntKind} {p q : Nat} (hx : ev σ x = some (.int k (p : Int))) (hy : ev σ y = some (.int k (q : Int))) (hq : 0 < q) : Ev P L σ ⟨d, .binOp .rem T x y T', ty, pos, aft, gd⟩ (.int k ((p % q : Nat) : Int)) :=
  bin_run _ _ p q _ hx hy fun w => by
    have e : ((p : Int)).tmod (q : Int) = ((p % q : Nat) : Int) := by rw [Int.tmod_eq_emod_of_nonneg (by omega)]; rfl
    simp [binOp, Op.intDiv, show q ≠ 0 by omega, e]
theorem ev_convU {k : IntKind} {p : Nat} [H : IntK P T k] [H' : IntK P T' .i64] (hx : ev σ x = some (.int k (p : Int))) (hp : p ≤ 9223372036854775807) : Ev P L σ ⟨d, .convert T T' x, ty, pos, aft, gd⟩ (.int .i64 (p : Int)) := fun a w hs _ => by
  simp only [execOp, hs.eval hx]
  have ek : P.intKind T' = .i64 := by unfold Program.intKind; rw [H'.h]
  have e := run_convert_int (P := P) w T T' k (p : Int) (by rw [H.h]; rfl) (by rw [ek]; exact H'.h)
  have e2 : IntKind.wrap .i64 (p : Int) = p := IntWalk.i64_in _ (by omega)
  rw [ek, e2] at e
  simp only [Sem.run_bind, e, Result.andThen_ok, Sem.run_pure]
theorem ev_indexA {k : IntKind} {n sz i : Nat} {e : TypeId} {cs : List Value} [H : ArrT P T (n, e, sz)] [H1 : OneT P e] (hx : ev σ x = some (.agg cs.toArray)) (hy : ev σ y = some (.int k (i : Int))) (hi : i < n) (hv : cs[i * sz]? = some v) : Ev P L σ ⟨d, .index T x y, ty, pos, aft, gd⟩ v := fun a w hs _ => by
  obtain ⟨hu, ii, hie, hsz⟩ := H.spec
  simp only [execOp, hs.eval hx, hs.eval hy]
  have h9 : cs.toArray[i * sz]? = some v := by simpa using hv
  simp [Instr.index, run_underlying hu, asIntOf, hi, sizeOf, typeInfo, hie, hsz, part, (H1.run w).1, hv]
end
theorem bounds_u8 {n : Int} (h : (Lit.int .u8 n).wf = true) : ∃ m : Nat, n = m ∧ m ≤ 255 := by
  simp [Lit.wf, IntKind.min, IntKind.max, IntKind.signed, IntKind.bits] at h
  exact ⟨n.toNat, by omega, by omega⟩
end Go.Proofs.YtalcanejhniepaaGreat
/- What is thrown, and caught: of what throws nothing. -/
namespace Go.Proofs.YtalcanejhniepaaGreat
attribute [local irreducible] sat
open Go.RowKit
set_option linter.unusedVariables false
set_option linter.unusedSimpArgs false
set_option maxRecDepth 100000

def ifaceB (P : Program) (T : TypeId) : Bool := match P.underlying T with
  | some (.interface _) => true
  | _ => false
class IfaceT (P : Program) (T : TypeId) : Prop where
  h : ifaceB P T = true
theorem IfaceT.spec {P : Program} {T : TypeId} (H : IfaceT P T) : ∃ e, P.underlying T = some (.interface e) := by
  have h := H.h
  unfold ifaceB at h
  split at h
  · exact ⟨_, by assumption⟩
  · cases h
section
variable {P : Program} {L : List HP} {σ : Env} {d : Option Nat} {ty T T' : TypeId} {pos : String} {aft : Array Edge} {gd : Option (Nat × Bool)} {x : Operand}
theorem ev_eqlIface [H : IfaceT P T] (hx : ev σ x = some .nilIface) : Ev P L σ ⟨d, .binOp .eql T x (.const .nilIface) T', ty, pos, aft, gd⟩ (.bool true) :=
  bin_run' _ _ _ _ (fun w => by unfold eqGuard; simp) hx rfl fun w => by
    obtain ⟨e, he⟩ := H.spec
    have h2 : (Op.equal T .nilIface .nilIface).run P w = .ok true w := by
      unfold Op.equal
      rw [show Op.maxDepth = 9999 + 1 from rfl]
      unfold Op.equalIn
      simp only [Sem.run_bind, run_underlying he, Result.andThen_ok]
      rfl
    show ((do pure (.bool (← Op.equal T .nilIface .nilIface)) : Sem Value)).run P w = _
    simp only [Sem.run_bind, h2, Result.andThen_ok, Sem.run_pure]
end
instance : IfaceT Tryz.prog 20 := ⟨by kernel_rfl⟩
theorem caught_ctr (L : List HP) : Ctr Tryz.prog 81 #[.nilIface] L fun v L' => v = .tuple #[.agg #[.int .i64 0, .int .i64 0], .bool false] ∧ L' = L := by
  refine Ctr_of (fn := Tryz.f81) (n := 14) Tryz.func81 rfl rfl rfl ?_
  intro g F
  (repeat first | refine G_seq ?_ | refine G_skip ?_ | refine G_endblk ?_ | refine G_block ?_ | refine G_exit rfl ?_)
  refine G_region ?_
  refine GO_eff rfl rfl eff_alloc ?_; rintro _ _ ⟨b2, rfl, rfl⟩
  refine GO_q rfl rfl (ev_assign rfl) ?_
  refine GO_nil ?_
  (repeat first | refine G_seq ?_ | refine G_skip ?_ | refine G_endblk ?_ | refine G_block ?_ | refine G_exit rfl ?_)
  refine G_region ?_
  refine GO_q rfl rfl (ev_move rfl) ?_
  refine GO_nil ?_
  (repeat first | refine G_seq ?_ | refine G_skip ?_ | refine G_endblk ?_ | refine G_block ?_ | refine G_exit rfl ?_)
  refine G_region ?_
  refine GO_q rfl rfl (ev_eqlIface rfl) ?_
  refine GO_nil ?_
  (repeat first | refine G_seq ?_ | refine G_skip ?_ | refine G_endblk ?_ | refine G_block ?_ | refine G_exit rfl ?_)
  refine G_cond_t rfl rfl ?_
  (repeat first | refine G_seq ?_ | refine G_skip ?_ | refine G_endblk ?_ | refine G_block ?_ | refine G_exit rfl ?_)
  refine G_region ?_
  refine GO_q rfl rfl (ev_assign rfl) ?_
  refine GO_nil ?_
  (repeat first | refine G_seq ?_ | refine G_skip ?_ | refine G_endblk ?_ | refine G_block ?_ | refine G_exit rfl ?_)
  refine G_region ?_
  refine GO_q rfl rfl (ev_build rfl rfl) ?_
  refine GO_eff rfl rfl (eff_storeN rfl rfl rfl rfl (by repeat' first | exact Upd.here rfl | apply Upd.skip | apply Upd.app)) ?_; rintro _ _ ⟨rfl, rfl⟩
  refine GO_q rfl rfl (ev_assign rfl) ?_
  refine GO_nil ?_
  (repeat first | refine G_seq ?_ | refine G_skip ?_ | refine G_endblk ?_ | refine G_block ?_ | refine G_exit rfl ?_)
  refine G_ret rfl (.cell rfl (loadN_run (by repeat' first | exact LdN.blk rfl | assumption | apply LdN.skip | apply LdN.app)) (.tmp rfl .nil)) (by (repeat first | exact fun _ s => s | apply en_keep | apply en_drop | apply en_app) <;> fail) ⟨rfl, rfl⟩

section
variable {P : Program} {ops : Array Oper} {Q : Exit → Act → List Frame → World → Prop} {i n : Nat} {rest : List Nat} {a : Act} {cs : List Frame} {w : World} {o : Oper} {σ : Env} {L : List HP} {g : Glob}
theorem wpOpsS_step (ho : ops[i]? = some o) (hg : o.guard = none) (h : o.wp P a w (fun a' w' => wpOpsS P ops Q rest a' cs w') (fun e a' w' => Q e a' cs w')) : wpOpsS P ops Q (i :: rest) a cs w := by
  unfold wpOpsS
  simp only [ho, Region.wanted, hg, if_true]
  unfold Oper.wp at h
  split
  · rename_i w' hr
    rw [hr] at h
    exact h.elim
  · exact h
theorem wpOpsS_recover (ho : ops[i]? = some o) (hg : o.guard = none) (hc : (execOp a.eval o).run P w = .ok .recover w) (hcs : recoverD cs = none) (h : wpOpsS P ops Q rest (a.put o.dst .nilIface) cs w) : wpOpsS P ops Q (i :: rest) a cs w := by
  unfold wpOpsS
  simp only [ho, Region.wanted, hg, if_true, hc, hcs]
  exact h
theorem S_eff {post : Value → List HP → Prop} (hs : Sat g n σ a) (hw : Hp g L w) (ho : ops[i]? = some o) (hg : o.guard = none) (hd : dstOk n o.dst = true) (he : Eff P g L σ o post)
    (h : ∀ v L' a' w', post v L' → Sat g n (putE σ o.dst v) a' → Hp g L' w' → wpOpsS P ops Q rest a' cs w') : wpOpsS P ops Q (i :: rest) a cs w :=
  wpOpsS_step ho hg (he a w hs.e hw _ _ fun v w' L' hp hw' => h v L' _ w' hp (hs.put' v hd) hw')
theorem sat_args (g : Glob) (hg : g.dfs = []) (args : List Value) (n : Nat) (hlen : args.length ≤ n) : Sat g n (argsE args 0) { tmps := args.toArray ++ Array.replicate (n - args.toArray.size) undef, defers := [] } :=
  ⟨by simp; omega, hg.symm, fun t v e => by
    obtain ⟨j, rfl, hj⟩ := argsE_get args 0 t v e
    have hlt : j < args.length := (List.getElem?_eq_some_iff.1 hj).1
    show (args.toArray ++ _)[0 + j]? = _
    rw [Nat.zero_add, Array.getElem?_append_left (by simpa using hlt)]
    simpa using hj⟩
end
theorem results_run {P : Program} {fn : Func} {σ : Env} {L : List HP} {rs : List ResultVar} {vs : List Value} (hr : fn.results = rs.toArray) (h : Res P σ L rs vs) {a : Act} {w : World} (hs : SatE σ a) (hw : sat L w.hm) : (results fn a.tmps).run P w = .ok (retv vs) w := by
  unfold results
  rw [hr]
  simp only [List.mapM_toArray, Sem.run_bind, Sem.run_map]
  have e := h.run hs hw
  generalize hm : List.mapM (m := Sem) _ rs = m
  have e' : m.run P w = .ok vs w := by rw [← hm]; exact e
  rw [e']
  simp only [Result.andThen_ok, Sem.run_pure]
  cases vs with
  | nil => rfl
  | cons v l => cases l <;> simp [retv]
theorem SatE.of_tmps {σ : Env} {a a' : Act} (h : SatE σ a) (e : a'.tmps = a.tmps) : SatE σ a' := fun t v hs => by rw [e]; exact h t v hs
theorem wpl_eff {P : Program} {ops : Array Oper} {Q : Exit → Act → World → Prop} {rest : List Oper} {a : Act} {w : World} {o : Oper} {σ : Env} {L : List HP} {g : Glob} {post : Value → List HP → Prop} (hg : o.guard = none) (he : Eff P g L σ o post) (hs : SatE σ a) (hw : Hp g L w)
    (h : ∀ v L' w', post v L' → Hp g L' w' → wpList P ops Q rest (a.put o.dst v) w') : wpList P ops Q (o :: rest) a w := wpList_plain hg fun Kx hK => he a w hs hw Kx _ fun v w' L' hp hw' => hK _ _ (h v L' w' hp hw')
/-- What is run at the end, when nothing was thrown. -/
theorem after_ctr (b2 b3 : Nat) (g : Glob) (M : List HP) (w : World) (hw' : Hp g (blk b2 86 [.int .i64 0, .int .i64 0] :: blk b3 4 [.bool false] :: M) w) :
    CallsD Tryz.prog 80 #[.pointer (some ⟨b2, 0, none⟩), .pointer (some ⟨b3, 0, none⟩)] .returning w fun e u' w' => u' = .returning ∧ e = .returned (.tuple #[]) ∧ Hp g (blk b2 86 [.int .i64 0, .int .i64 0] :: blk b3 4 [.bool false] :: M) w' := by
  have hw := hw'.base
  refine callsD_of_wpS (fn := Tryz.f80) Tryz.func80 rfl fun c₀ cs hu => ?_
  refine wpS_region ?_
  have hs := sat_args g.base rfl [.pointer (some ⟨b2, 0, none⟩), .pointer (some ⟨b3, 0, none⟩)] 7 (by simp)
  refine wpOpsS_recover (i := 0) (rest := [1, 2, 3, 4, 5, 6]) rfl rfl rfl (by simp [recoverD, hu]) ?_
  refine S_eff (hs.put' .nilIface (d := some 3) rfl) hw rfl rfl rfl (eff_call rfl (caught_ctr _)) ?_
  rintro _ _ a1 w1 ⟨rfl, rfl⟩ s1 hw1
  refine S_eff s1 hw1 rfl rfl rfl (Ev.eff (ev_move rfl)) ?_
  rintro _ _ a2 w2 ⟨rfl, rfl⟩ s2 hw2
  refine S_eff s2 hw2 rfl rfl rfl (Ev.eff (ev_extract rfl rfl)) ?_
  rintro _ _ a3 w3 ⟨rfl, rfl⟩ s3 hw3
  refine S_eff s3 hw3 rfl rfl rfl (Ev.eff (ev_extract rfl rfl)) ?_
  rintro _ _ a4 w4 ⟨rfl, rfl⟩ s4 hw4
  refine S_eff s4 hw4 rfl rfl rfl (eff_storeN rfl rfl rfl rfl (Upd.here rfl)) ?_
  rintro _ _ a5 w5 ⟨rfl, rfl⟩ s5 hw5
  refine S_eff s5 hw5 rfl rfl rfl (eff_store rfl rfl rfl (Upd.skip (Upd.here rfl))) ?_
  rintro _ _ a6 w6 ⟨rfl, rfl⟩ s6 hw6
  refine ⟨s6.defers, .returning, ?_, .tuple #[], results_run (rs := []) (vs := []) rfl .nil s6.e hw6.s, rfl, rfl, hw6.of_base⟩
  obtain ⟨⟩ := c₀
  simp only at hu
  subst hu
  rfl
theorem catch_ctr {fid : FuncId} {c1 c2 : List Value} {L : List HP} {post : List HP → Prop} [H : CalT Tryz.prog fid] (h : Ctr Tryz.prog fid (c1 ++ [] ++ c2).toArray L fun v L' => post L') :
    Ctr Tryz.prog 59 #[.func (.func fid) c1.toArray c2.toArray] L fun v L' => v = .tuple #[.agg #[.int .i64 0, .int .i64 0], .bool false] ∧ post L' := fun g F w hw => by
  refine calls_of_wp_defers (fn := Tryz.f59) Tryz.func59 rfl ?_
  have hs := sat_args g.base rfl [.func (.func fid) c1.toArray c2.toArray] 7 (by simp)
  suffices main : ∀ B, B = bodyPostD Tryz.prog Tryz.f59 (fun e w' => ∃ v L', e = .returned v ∧ (v = .tuple #[.agg #[.int .i64 0, .int .i64 0], .bool false] ∧ post L') ∧ Hp g (F :: L') w') →
      G Tryz.prog B g.base 7 [.code (Tryz.f59.body.get rfl)] (argsE [.func (.func fid) c1.toArray c2.toArray] 0) (F :: L) from Code.wp_mono (fun e a w h => by cases e <;> first | exact h | exact h.elim) (wpIn_wide.1 (main _ rfl _ _ hs hw.base))
  intro B hB
  refine G_seq ?_
  (repeat first | refine G_seq ?_ | refine G_skip ?_ | refine G_endblk ?_ | refine G_block ?_ | refine G_exit rfl ?_)
  refine G_region ?_
  refine GO_eff rfl rfl eff_alloc ?_; rintro _ _ ⟨b2, rfl, rfl⟩
  refine GO_eff rfl rfl eff_alloc ?_; rintro _ _ ⟨b3, rfl, rfl⟩
  refine GO_nil ?_
  (repeat first | refine G_seq ?_ | refine G_skip ?_ | refine G_endblk ?_ | refine G_block ?_ | refine G_exit rfl ?_)
  refine G_region ?_
  refine GO_q rfl rfl (ev_makeFunc rfl rfl) ?_
  intro a w1 hs1 hw1
  refine wpListIn_plain rfl fun Kx hK => ?_
  refine ⟨fun _ _ => trivial, ?_⟩
  have e4 : a.eval (.tmp 4) = .func (.func 80) #[] #[.pointer (some ⟨b2, 0, none⟩), .pointer (some ⟨b3, 0, none⟩)] := hs1.e.eval rfl
  have ed : ∀ (ty : TypeId) (ps : String) (af : Array Edge), (execOp a.eval ⟨none, .defer ⟨.value (.tmp 4), #[], #[]⟩, ty, ps, af, none⟩).run Tryz.prog w1 = .ok (.defer ⟨.fn (.func 80) #[.pointer (some ⟨b2, 0, none⟩), .pointer (some ⟨b3, 0, none⟩)], #[]⟩) w1 := fun _ _ _ => by
    simp [execOp, resolve, e4, Deferred.ofValue]
  rw [show ∀ (ty : TypeId) (ps : String) (af : Array Edge), Oper.semAt (fnc g.base.rnd).round a.eval ⟨none, .defer ⟨.value (.tmp 4), #[], #[]⟩, ty, ps, af, none⟩ = execOp a.eval ⟨none, .defer ⟨.value (.tmp 4), #[], #[]⟩, ty, ps, af, none⟩ from fun _ _ _ => rfl, ed]
  refine hK _ _ ?_
  clear hK Kx ed e4
  show (Code.seq _ _).wpIn Fence.wide 0 _ _ _ _
  refine wpIn_wide.2 ?_
  have hE := hs1.e
  have hZ := hs1.size
  have hD := hs1.defers
  refine wp_seq (wp_region_lit ?_)
  have hE1 := SatE.of_tmps (a' := { a with defers := ⟨.fn (.func 80) #[.pointer (some ⟨b2, 0, none⟩), .pointer (some ⟨b3, 0, none⟩)], #[]⟩ :: a.defers }) hE rfl
  refine wpl_eff rfl (Ev.eff (ev_move rfl)) hE1 hw1 ?_
  rintro v L2 w2 ⟨rfl, rfl⟩ hw2
  have hE2 := SatE.put hE1 (t := 5) (.func (.func fid) c1.toArray c2.toArray) (by show 5 < a.tmps.size; omega)
  refine wpl_eff rfl (eff_callv (c1 := c1) (c2 := c2) rfl rfl (Ctr.frame [blk b3 4 [.bool false], blk b2 86 [.int .i64 0, .int .i64 0], F] h (fun _ s => s))) hE2 hw2 ?_
  rintro v L3 w3 ⟨L1, hp, rfl⟩ hw3
  have hE3 := hE2.put (t := 6) v (by simp [Act.put]; omega)
  refine wp_ret ?_
  subst hB
  show Leaves _ _ _ _ (_ :: a.defers) .returning w3
  rw [hD]
  refine leaves_cons (by simp) (f := 80) (args := #[.pointer (some ⟨b2, 0, none⟩), .pointer (some ⟨b3, 0, none⟩)]) ?_ ?_
  · have := (inferInstance : CalT Tryz.prog 80).run #[.pointer (some ⟨b2, 0, none⟩), .pointer (some ⟨b3, 0, none⟩)] w3
    exact this
  · refine (after_ctr b2 b3 g.base _ w3 (hw3.mono fun _ s => s.swap)).mono fun e u' w' ⟨h1, h2, h3⟩ => ?_
    subst h1 h2
    show Leaves _ _ _ _ [] .returning w'
    refine ⟨_, results_run (rs := [.cell 2 86, .cell 3 4]) (vs := [.agg #[.int .i64 0, .int .i64 0], .bool false]) rfl (.cell rfl (loadN_run (LdN.blk rfl)) (.cell rfl (load_run (Ld.skip (Ld.blk rfl))) .nil)) hE3 h3.s, _, L1, rfl, ⟨rfl, hp⟩, (h3.mono fun _ s => s.tail.tail).of_base⟩
end Go.Proofs.YtalcanejhniepaaGreat
/- A stack of nodes. -/
namespace Go.Proofs.YtalcanejhniepaaGreat
attribute [local irreducible] sat
set_option linter.unusedVariables false
set_option linter.unusedSimpArgs false
set_option maxRecDepth 100000

theorem Catch_ctr {fid : FuncId} {c1 c2 : List Value} {L : List HP} {post : List HP → Prop} [H : CalT Tryz.prog fid] (h : Ctr Tryz.prog fid (c1 ++ [] ++ c2).toArray L fun v L' => post L') :
    Ctr Tryz.prog 39 #[.func (.func fid) c1.toArray c2.toArray] L fun v L' => v = .tuple #[.agg #[.int .i64 0, .int .i64 0], .bool false] ∧ post L' := by
  refine Ctr_of (fn := Tryz.f39) (n := 8) Tryz.func39 rfl rfl rfl ?_
  intro g F
  (repeat first | refine G_seq ?_ | refine G_skip ?_ | refine G_endblk ?_ | refine G_block ?_ | refine G_exit rfl ?_)
  refine G_region ?_
  refine GO_eff rfl rfl eff_alloc ?_; rintro _ _ ⟨b2, rfl, rfl⟩
  refine GO_q rfl rfl (ev_assign rfl) ?_
  refine GO_nil ?_
  (repeat first | refine G_seq ?_ | refine G_skip ?_ | refine G_endblk ?_ | refine G_block ?_ | refine G_exit rfl ?_)
  refine G_region ?_
  refine GO_q rfl rfl (ev_move rfl) ?_
  refine GO_eff rfl rfl (eff_call rfl (Ctr.frame [blk b2 86 [.int .i64 0, .int .i64 0], F] (catch_ctr h) (fun _ s => s))) ?_; rintro _ _ ⟨L1, ⟨rfl, hp⟩, rfl⟩
  refine GO_q rfl rfl (ev_extract rfl rfl) ?_
  refine GO_q rfl rfl (ev_extract rfl rfl) ?_
  refine GO_eff rfl rfl (eff_storeN rfl rfl rfl rfl (by repeat' first | exact Upd.here rfl | apply Upd.skip | apply Upd.app)) ?_; rintro _ _ ⟨rfl, rfl⟩
  refine GO_q rfl rfl (ev_assign rfl) ?_
  refine GO_nil ?_
  (repeat first | refine G_seq ?_ | refine G_skip ?_ | refine G_endblk ?_ | refine G_block ?_ | refine G_exit rfl ?_)
  exact G_ret (L' := L1) rfl (.cell rfl (loadN_run (by repeat' first | exact LdN.blk rfl | assumption | apply LdN.skip | apply LdN.app)) (.tmp rfl .nil)) (by (repeat first | exact fun _ s => s | apply en_keep | apply en_drop | apply en_app) <;> fail) ⟨rfl, hp⟩
theorem SNew_ctr (L : List HP) : Ctr Tryz.prog 47 #[.int .i64 65536] L fun v L' => ∃ b, v = .tuple #[.pointer (some ⟨b, 0, none⟩), .int .i64 0] ∧ L' = stkS b 65536 [] :: L := by
  refine Ctr_of (fn := Tryz.f47) (n := 13) Tryz.func47 rfl rfl rfl ?_
  intro g F
  (repeat first | refine G_seq ?_ | refine G_skip ?_ | refine G_endblk ?_ | refine G_block ?_ | refine G_exit rfl ?_)
  refine G_region ?_
  refine GO_q rfl rfl (ev_assign rfl) ?_
  refine GO_q rfl rfl (ev_assign rfl) ?_
  refine GO_nil ?_
  (repeat first | refine G_seq ?_ | refine G_skip ?_ | refine G_endblk ?_ | refine G_block ?_ | refine G_exit rfl ?_)
  refine G_region ?_
  refine GO_q rfl rfl (ev_move rfl) ?_
  (first | refine GO_q rfl rfl (ev_lssN (q := 1) rfl rfl) ?_ | refine GO_q rfl rfl (ev_lss rfl rfl) ?_)
  refine GO_q rfl rfl (ev_move rfl) ?_
  refine GO_yes rfl rfl rfl rfl ?_
  refine GO_q rfl rfl (ev_move rfl) ?_
  refine GO_yes rfl rfl rfl rfl ?_
  refine GO_q rfl rfl (ev_gtr rfl rfl) ?_
  refine GO_q rfl rfl (ev_pick_f rfl rfl rfl) ?_
  refine GO_nil ?_
  (repeat first | refine G_seq ?_ | refine G_skip ?_ | refine G_endblk ?_ | refine G_block ?_ | refine G_exit rfl ?_)
  refine G_cond_f rfl rfl ?_
  (repeat first | refine G_seq ?_ | refine G_skip ?_ | refine G_endblk ?_ | refine G_block ?_ | refine G_exit rfl ?_)
  refine G_region ?_
  refine GO_q rfl rfl (ev_move rfl) ?_
  refine GO_q rfl rfl (ev_build rfl rfl) ?_
  refine GO_eff rfl rfl (eff_box rfl) ?_; rintro _ _ ⟨b12, rfl, rfl⟩
  refine GO_q rfl rfl (ev_assign rfl) ?_
  refine GO_q rfl rfl (ev_assign rfl) ?_
  refine GO_nil ?_
  (repeat first | refine G_seq ?_ | refine G_skip ?_ | refine G_endblk ?_ | refine G_block ?_ | refine G_exit rfl ?_)
  refine G_heap (own.nil_ 50 1) ?_
  exact G_ret (L' := stkS b12 65536 [] :: L) rfl (.tmp rfl (.tmp rfl .nil)) (by (repeat first | exact en_refl | apply en_stk (A := none) (c := 0) (l := []) (fun h => absurd h (Nat.lt_irrefl 0)) | (apply en_blk; focus ((repeat' first | exact Pick.here | apply Pick.skip | apply Pick.app); done); focus rfl) | (apply en_own; focus ((repeat' first | exact Pick.here | apply Pick.skip | apply Pick.app); done); focus rfl) | (apply en_pick; focus ((repeat' first | exact Pick.here | apply Pick.skip | apply Pick.app); done)) | apply en_drop | apply en_app) <;> fail) ⟨b12, rfl, rfl⟩
theorem SLen_k_ctr (b : Nat) (l : List PA) (L : List HP) : Ctr Tryz.prog 26 #[.pointer (some ⟨b, 0, none⟩)] (stkS b 65536 l :: L) fun v L' => v = .int .i64 (l.length : Nat) ∧ L' = stkS b 65536 l :: L := by
  refine Ctr.stk fun A c h1 h2 h3 => ?_
  refine Ctr_of (fn := Tryz.f26) (n := 10) Tryz.func26 rfl rfl rfl ?_
  intro g F
  (repeat first | refine G_seq ?_ | refine G_skip ?_ | refine G_endblk ?_ | refine G_block ?_ | refine G_exit rfl ?_)
  refine G_region ?_
  refine GO_q rfl rfl (ev_assign rfl) ?_
  refine GO_nil ?_
  (repeat first | refine G_seq ?_ | refine G_skip ?_ | refine G_endblk ?_ | refine G_block ?_ | refine G_exit rfl ?_)
  refine G_region ?_
  refine GO_q rfl rfl (ev_move rfl) ?_
  (first | refine GO_q rfl rfl (ev_eqlNil rfl rfl) ?_ | refine GO_q rfl rfl (ev_eqlPtr rfl rfl) ?_)
  refine GO_nil ?_
  (repeat first | refine G_seq ?_ | refine G_skip ?_ | refine G_endblk ?_ | refine G_block ?_ | refine G_exit rfl ?_)
  refine G_cond_f rfl rfl ?_
  (repeat first | refine G_seq ?_ | refine G_skip ?_ | refine G_endblk ?_ | refine G_block ?_ | refine G_exit rfl ?_)
  refine G_region ?_
  refine GO_q rfl rfl (ev_move rfl) ?_
  (first | refine GO_q rfl rfl (ev_nilCheck rfl) ?_ | refine GO_q rfl rfl (ev_nilCheckF (by simp) rfl) ?_)
  refine GO_q rfl rfl (ev_fieldAddr rfl) ?_
  refine GO_q rfl rfl (ev_load rfl (by repeat' first | exact Ld.blk rfl | assumption | apply Ld.skip | apply Ld.app)) ?_
  refine GO_q rfl rfl (ev_len rfl) ?_
  refine GO_q rfl rfl (ev_assign rfl) ?_
  refine GO_nil ?_
  (repeat first | refine G_seq ?_ | refine G_skip ?_ | refine G_endblk ?_ | refine G_block ?_ | refine G_exit rfl ?_)
  exact G_ret (L' := stkS b 65536 l :: L) rfl (.tmp rfl .nil) (by (repeat first | exact en_refl | apply en_stk h1 | (apply en_blk; focus ((repeat' first | exact Pick.here | apply Pick.skip | apply Pick.app); done); focus rfl) | (apply en_own; focus ((repeat' first | exact Pick.here | apply Pick.skip | apply Pick.app); done); focus rfl) | (apply en_pick; focus ((repeat' first | exact Pick.here | apply Pick.skip | apply Pick.app); done)) | apply en_drop | apply en_app) <;> fail) ⟨rfl, rfl⟩
theorem SClear_ctr (b : Nat) (l : List PA) (L : List HP) : Ctr Tryz.prog 25 #[.pointer (some ⟨b, 0, none⟩)] (stkS b 65536 l :: L) fun v L' => v = .tuple #[] ∧ L' = stkS b 65536 [] :: L := by
  refine Ctr.stk fun A c h1 h2 h3 => ?_
  refine Ctr_of (fn := Tryz.f25) (n := 7) Tryz.func25 rfl rfl rfl ?_
  intro g F
  (repeat first | refine G_seq ?_ | refine G_skip ?_ | refine G_endblk ?_ | refine G_block ?_ | refine G_exit rfl ?_)
  refine G_region ?_
  refine GO_q rfl rfl (ev_move rfl) ?_
  (first | refine GO_q rfl rfl (ev_neqNil rfl rfl) ?_ | refine GO_q rfl rfl (ev_neqPtr rfl rfl) ?_)
  refine GO_nil ?_
  (repeat first | refine G_seq ?_ | refine G_skip ?_ | refine G_endblk ?_ | refine G_block ?_ | refine G_exit rfl ?_)
  refine G_cond_t rfl rfl ?_
  (repeat first | refine G_seq ?_ | refine G_skip ?_ | refine G_endblk ?_ | refine G_block ?_ | refine G_exit rfl ?_)
  refine G_region ?_
  refine GO_q rfl rfl (ev_move rfl) ?_
  (first | refine GO_q rfl rfl (ev_nilCheck rfl) ?_ | refine GO_q rfl rfl (ev_nilCheckF (by simp) rfl) ?_)
  refine GO_q rfl rfl (ev_fieldAddr rfl) ?_
  refine GO_eff rfl rfl (eff_store rfl rfl rfl (by repeat' first | exact Upd.here rfl | apply Upd.skip | apply Upd.app)) ?_; rintro _ _ ⟨rfl, rfl⟩
  refine GO_nil ?_
  (repeat first | refine G_seq ?_ | refine G_skip ?_ | refine G_endblk ?_ | refine G_block ?_ | refine G_exit rfl ?_)
  refine G_heap (own.nil_ 50 1) ?_
  exact G_end (L' := stkS b 65536 [] :: L) rfl .nil (by (repeat first | exact en_refl | apply en_stk (A := none) (c := 0) (l := []) (fun h => absurd h (Nat.lt_irrefl 0)) | (apply en_blk; focus ((repeat' first | exact Pick.here | apply Pick.skip | apply Pick.app); done); focus rfl) | (apply en_own; focus ((repeat' first | exact Pick.here | apply Pick.skip | apply Pick.app); done); focus rfl) | (apply en_pick; focus ((repeat' first | exact Pick.here | apply Pick.skip | apply Pick.app); done)) | apply en_drop | apply en_app) <;> fail) ⟨rfl, rfl⟩
theorem stop_nil_ctr (b : Nat) (A : Option Addr) (c : Nat) (L : List HP) (h : LdN L b 0 2 [.slice A 0 c, .int .i64 65536]) : Ctr Tryz.prog 82 #[.pointer (some ⟨b, 0, none⟩)] L fun v L' => v = .tuple #[.pointer none, .bool false] ∧ L' = L := by
  have h1 : Ld L ⟨b, 0 + 0, none⟩ (.slice A 0 c) := h.at_ (i := 0) rfl
  refine Ctr_of (fn := Tryz.f82) (n := 27) Tryz.func82 rfl rfl rfl ?_
  intro g F
  (repeat first | refine G_seq ?_ | refine G_skip ?_ | refine G_endblk ?_ | refine G_block ?_ | refine G_exit rfl ?_)
  refine G_region ?_
  refine GO_q rfl rfl (ev_assign rfl) ?_
  refine GO_q rfl rfl (ev_assign rfl) ?_
  refine GO_nil ?_
  (repeat first | refine G_seq ?_ | refine G_skip ?_ | refine G_endblk ?_ | refine G_block ?_ | refine G_exit rfl ?_)
  refine G_region ?_
  refine GO_q rfl rfl (ev_move rfl) ?_
  (first | refine GO_q rfl rfl (ev_eqlNil rfl rfl) ?_ | refine GO_q rfl rfl (ev_eqlPtr rfl rfl) ?_)
  refine GO_q rfl rfl (ev_move rfl) ?_
  refine GO_yes rfl rfl rfl rfl ?_
  refine GO_q rfl rfl (ev_move rfl) ?_
  refine GO_yes rfl rfl rfl rfl ?_
  (first | refine GO_q rfl rfl (ev_nilCheck rfl) ?_ | refine GO_q rfl rfl (ev_nilCheckF (by simp) rfl) ?_)
  refine GO_yes rfl rfl rfl rfl ?_
  refine GO_q rfl rfl (ev_fieldAddr rfl) ?_
  refine GO_yes rfl rfl rfl rfl ?_
  refine GO_q rfl rfl (ev_load rfl (by repeat' first | exact Ld.blk rfl | assumption | apply Ld.skip | apply Ld.app)) ?_
  refine GO_yes rfl rfl rfl rfl ?_
  refine GO_q rfl rfl (ev_len rfl) ?_
  refine GO_yes rfl rfl rfl rfl ?_
  refine GO_q rfl rfl (ev_eql rfl rfl) ?_
  refine GO_q rfl rfl (ev_pick_f rfl rfl rfl) ?_
  refine GO_nil ?_
  (repeat first | refine G_seq ?_ | refine G_skip ?_ | refine G_endblk ?_ | refine G_block ?_ | refine G_exit rfl ?_)
  refine G_cond_t rfl rfl ?_
  (repeat first | refine G_seq ?_ | refine G_skip ?_ | refine G_endblk ?_ | refine G_block ?_ | refine G_exit rfl ?_)
  refine G_region ?_
  refine GO_q rfl rfl (ev_move rfl) ?_
  refine GO_q rfl rfl (ev_assign rfl) ?_
  refine GO_q rfl rfl (ev_assign rfl) ?_
  refine GO_nil ?_
  (repeat first | refine G_seq ?_ | refine G_skip ?_ | refine G_endblk ?_ | refine G_block ?_ | refine G_exit rfl ?_)
  refine G_ret rfl (.tmp rfl (.tmp rfl .nil)) (by (repeat first | exact fun _ s => s | apply en_keep | apply en_drop | apply en_app) <;> fail) ⟨rfl, rfl⟩
theorem stop_ctr (b : Nat) (A : Option Addr) (n c : Nat) (l : List PA) (x : PA) (L : List HP) (h : LdN L b 0 2 [.slice A n c, .int .i64 65536]) (hr : Rd L A n (l ++ [x])) (hn : n = l.length + 1) (hb : n ≤ 65536) : Ctr Tryz.prog 82 #[.pointer (some ⟨b, 0, none⟩)] L fun v L' => v = .tuple #[.pointer x.addr, .bool true] ∧ L' = L := by
  have h1 : Ld L ⟨b, 0 + 0, none⟩ (.slice A n c) := h.at_ (i := 0) rfl
  obtain ⟨lb, lo, rfl, hx⟩ := hr.at_ (by omega)
  have y1 : LdN L lb (lo + l.length * 1) 1 [.pointer x.addr] := hx l.length x (by simp)
  have y2 : Ld L ⟨lb, lo + (n - 1) * 1, none⟩ (.pointer x.addr) := by
    have := y1.at_ (i := 0) rfl
    rw [show n - 1 = l.length by omega]; exact this
  refine Ctr_of (fn := Tryz.f82) (n := 27) Tryz.func82 rfl rfl rfl ?_
  intro g F
  (repeat first | refine G_seq ?_ | refine G_skip ?_ | refine G_endblk ?_ | refine G_block ?_ | refine G_exit rfl ?_)
  refine G_region ?_
  refine GO_q rfl rfl (ev_assign rfl) ?_
  refine GO_q rfl rfl (ev_assign rfl) ?_
  refine GO_nil ?_
  (repeat first | refine G_seq ?_ | refine G_skip ?_ | refine G_endblk ?_ | refine G_block ?_ | refine G_exit rfl ?_)
  refine G_region ?_
  refine GO_q rfl rfl (ev_move rfl) ?_
  (first | refine GO_q rfl rfl (ev_eqlNil rfl rfl) ?_ | refine GO_q rfl rfl (ev_eqlPtr rfl rfl) ?_)
  refine GO_q rfl rfl (ev_move rfl) ?_
  refine GO_yes rfl rfl rfl rfl ?_
  refine GO_q rfl rfl (ev_move rfl) ?_
  refine GO_yes rfl rfl rfl rfl ?_
  (first | refine GO_q rfl rfl (ev_nilCheck rfl) ?_ | refine GO_q rfl rfl (ev_nilCheckF (by simp) rfl) ?_)
  refine GO_yes rfl rfl rfl rfl ?_
  refine GO_q rfl rfl (ev_fieldAddr rfl) ?_
  refine GO_yes rfl rfl rfl rfl ?_
  refine GO_q rfl rfl (ev_load rfl (by repeat' first | exact Ld.blk rfl | assumption | apply Ld.skip | apply Ld.app)) ?_
  refine GO_yes rfl rfl rfl rfl ?_
  refine GO_q rfl rfl (ev_len rfl) ?_
  refine GO_yes rfl rfl rfl rfl ?_
  refine GO_q rfl rfl (ev_eql rfl rfl) ?_
  refine GO_q rfl rfl (ev_pick_f rfl rfl rfl) ?_
  refine GO_nil ?_
  (repeat first | refine G_seq ?_ | refine G_skip ?_ | refine G_endblk ?_ | refine G_block ?_ | refine G_exit rfl ?_)
  refine G_cond_f rfl (decide_eq_false (by omega)) ?_
  (repeat first | refine G_seq ?_ | refine G_skip ?_ | refine G_endblk ?_ | refine G_block ?_ | refine G_exit rfl ?_)
  refine G_draw (.q 0 (.q 1 (.q 2 (.q 3 (.q 4 (.q 5 (.q 6 (.q 7 (.q 8 (.q 9 (.q 10 (.q 11 (.q 12 (.q 13 .nil)))))))))))))) (by kernel_rfl) (by kernel_rfl) ?_
  refine RS_m retB_noPanic rfl rfl rfl rfl (ev_move rfl) ?_
  (first | refine RS_m retB_noPanic rfl rfl rfl rfl (ev_nilCheck rfl) ?_ | refine RS_m retB_noPanic rfl rfl rfl rfl (ev_nilCheckF (by simp) rfl) ?_)
  refine RS_m retB_noPanic rfl rfl rfl rfl (ev_fieldAddr rfl) ?_
  refine RS_q retB_noPanic rfl rfl rfl rfl (ev_load rfl (by repeat' first | exact Ld.blk rfl | assumption | apply Ld.skip | apply Ld.app)) ?_
  refine RS_m retB_noPanic rfl rfl rfl rfl (ev_move rfl) ?_
  (first | refine RS_m retB_noPanic rfl rfl rfl rfl (ev_nilCheck rfl) ?_ | refine RS_m retB_noPanic rfl rfl rfl rfl (ev_nilCheckF (by simp) rfl) ?_)
  refine RS_m retB_noPanic rfl rfl rfl rfl (ev_fieldAddr rfl) ?_
  refine RS_q retB_noPanic rfl rfl rfl rfl (ev_load rfl (by repeat' first | exact Ld.blk rfl | assumption | apply Ld.skip | apply Ld.app)) ?_
  refine RS_q retB_noPanic rfl rfl rfl rfl (ev_len rfl) ?_
  (first | refine RS_m retB_noPanic rfl rfl rfl rfl (ev_subN (q := 1) rfl rfl (by first | omega | (simp; done) | (simp; omega))) ?_ | refine RS_m retB_noPanic rfl rfl rfl rfl (ev_sub rfl rfl (by first | omega | (simp; done) | (simp; omega))) ?_)
  (first | refine RS_m retB_noPanic rfl rfl rfl rfl (ev_indexAddrN rfl rfl (by first | omega | (simp; done) | (simp; omega))) ?_ | refine RS_m retB_noPanic rfl rfl rfl rfl (ev_indexAddr rfl rfl (by first | omega | (simp; done) | (simp; omega)) (by first | omega | (simp; done) | (simp; omega))) ?_)
  refine RS_q retB_noPanic rfl rfl rfl rfl (ev_load rfl (by repeat' first | exact Ld.blk rfl | assumption | apply Ld.skip | apply Ld.app)) ?_
  refine RS_m retB_noPanic rfl rfl rfl rfl (ev_assign rfl) ?_
  refine RS_m retB_noPanic rfl rfl rfl rfl (ev_assign rfl) ?_
  refine RS_nil ?_
  (repeat first | refine G_seq ?_ | refine G_skip ?_ | refine G_endblk ?_ | refine G_block ?_ | refine G_exit rfl ?_)
  refine G_ret rfl (.tmp rfl (.tmp rfl .nil)) (by (repeat first | exact fun _ s => s | apply en_keep | apply en_drop | apply en_app) <;> fail) ⟨rfl, rfl⟩
theorem pop_nil_ctr (b : Nat) (L : List HP) : Ctr Tryz.prog 60 #[.pointer (some ⟨b, 0, none⟩)] (stkS b 65536 [] :: L) fun v L' => v = .tuple #[.pointer none, .bool false] ∧ L' = stkS b 65536 [] :: L := by
  refine Ctr.stk fun A c h1 h2 h3 => ?_
  refine Ctr_of (fn := Tryz.f60) (n := 26) Tryz.func60 rfl rfl rfl ?_
  intro g F
  (repeat first | refine G_seq ?_ | refine G_skip ?_ | refine G_endblk ?_ | refine G_block ?_ | refine G_exit rfl ?_)
  refine G_region ?_
  refine GO_q rfl rfl (ev_assign rfl) ?_
  refine GO_q rfl rfl (ev_assign rfl) ?_
  refine GO_nil ?_
  (repeat first | refine G_seq ?_ | refine G_skip ?_ | refine G_endblk ?_ | refine G_block ?_ | refine G_exit rfl ?_)
  refine G_region ?_
  refine GO_q rfl rfl (ev_move rfl) ?_
  refine GO_eff rfl rfl (eff_call rfl (stop_nil_ctr b A c _ (LdN.skip (LdN.blk rfl)))) ?_; rintro _ _ ⟨rfl, rfl⟩
  refine GO_q rfl rfl (ev_move rfl) ?_
  refine GO_q rfl rfl (ev_extract rfl rfl) ?_
  refine GO_q rfl rfl (ev_extract rfl rfl) ?_
  refine GO_q rfl rfl (ev_assign rfl) ?_
  refine GO_q rfl rfl (ev_assign rfl) ?_
  refine GO_nil ?_
  (repeat first | refine G_seq ?_ | refine G_skip ?_ | refine G_endblk ?_ | refine G_block ?_ | refine G_exit rfl ?_)
  refine G_region ?_
  refine GO_q rfl rfl (ev_move rfl) ?_
  refine GO_nil ?_
  (repeat first | refine G_seq ?_ | refine G_skip ?_ | refine G_endblk ?_ | refine G_block ?_ | refine G_exit rfl ?_)
  refine G_cond_f rfl rfl ?_
  (repeat first | refine G_seq ?_ | refine G_skip ?_ | refine G_endblk ?_ | refine G_block ?_ | refine G_exit rfl ?_)
  refine G_region ?_
  refine GO_q rfl rfl (ev_move rfl) ?_
  refine GO_q rfl rfl (ev_move rfl) ?_
  refine GO_q rfl rfl (ev_assign rfl) ?_
  refine GO_q rfl rfl (ev_assign rfl) ?_
  refine GO_nil ?_
  (repeat first | refine G_seq ?_ | refine G_skip ?_ | refine G_endblk ?_ | refine G_block ?_ | refine G_exit rfl ?_)
  exact G_ret (L' := stkS b 65536 [] :: L) rfl (.tmp rfl (.tmp rfl .nil)) (by (repeat first | exact en_refl | apply en_stk h1 | (apply en_blk; focus ((repeat' first | exact Pick.here | apply Pick.skip | apply Pick.app); done); focus rfl) | (apply en_own; focus ((repeat' first | exact Pick.here | apply Pick.skip | apply Pick.app); done); focus rfl) | (apply en_pick; focus ((repeat' first | exact Pick.here | apply Pick.skip | apply Pick.app); done)) | apply en_drop | apply en_app) <;> fail) ⟨rfl, rfl⟩
theorem pop_ctr (b : Nat) (l : List PA) (x : PA) (L : List HP) (hb : l.length + 1 ≤ 65536) : Ctr Tryz.prog 60 #[.pointer (some ⟨b, 0, none⟩)] (stkS b 65536 (l ++ [x]) :: L) fun v L' => v = .tuple #[.pointer x.addr, .bool true] ∧ L' = stkS b 65536 l :: L := by
  refine Ctr.stk fun A c h1 h2 h3 => ?_
  have hlen : (l ++ [x]).length = l.length + 1 := by simp
  obtain ⟨ab, rfl⟩ := h1 (by omega)
  generalize hn : (l ++ [x]).length = n at *
  refine Ctr_of (fn := Tryz.f60) (n := 26) Tryz.func60 rfl rfl rfl ?_
  intro g F
  (repeat first | refine G_seq ?_ | refine G_skip ?_ | refine G_endblk ?_ | refine G_block ?_ | refine G_exit rfl ?_)
  refine G_region ?_
  refine GO_q rfl rfl (ev_assign rfl) ?_
  refine GO_q rfl rfl (ev_assign rfl) ?_
  refine GO_nil ?_
  (repeat first | refine G_seq ?_ | refine G_skip ?_ | refine G_endblk ?_ | refine G_block ?_ | refine G_exit rfl ?_)
  refine G_region ?_
  refine GO_q rfl rfl (ev_move rfl) ?_
  refine GO_eff rfl rfl (eff_call rfl (stop_ctr b (some ⟨ab, 0, none⟩) n c l x _ (LdN.skip (LdN.blk rfl)) (Rd.skip (Rd.skip (Rc.own (by rw [flat_length, hn]; rfl) (fun _ ↦ ⟨ab, rfl⟩)))) hlen (by omega))) ?_; rintro _ _ ⟨rfl, rfl⟩
  refine GO_q rfl rfl (ev_move rfl) ?_
  refine GO_q rfl rfl (ev_extract rfl rfl) ?_
  refine GO_q rfl rfl (ev_extract rfl rfl) ?_
  refine GO_q rfl rfl (ev_assign rfl) ?_
  refine GO_q rfl rfl (ev_assign rfl) ?_
  refine GO_nil ?_
  (repeat first | refine G_seq ?_ | refine G_skip ?_ | refine G_endblk ?_ | refine G_block ?_ | refine G_exit rfl ?_)
  refine G_region ?_
  refine GO_q rfl rfl (ev_move rfl) ?_
  refine GO_nil ?_
  (repeat first | refine G_seq ?_ | refine G_skip ?_ | refine G_endblk ?_ | refine G_block ?_ | refine G_exit rfl ?_)
  refine G_cond_t rfl rfl ?_
  (repeat first | refine G_seq ?_ | refine G_skip ?_ | refine G_endblk ?_ | refine G_block ?_ | refine G_exit rfl ?_)
  refine G_draw (.q 0 (.q 1 (.q 2 (.q 3 (.q 4 (.q 5 (.q 6 (.q 7 (.q 8 (.q 9 (.q 10 (.q 11 (.q 12 (.q 13 (.e 14 .nil))))))))))))))) (by kernel_rfl) (by kernel_rfl) ?_
  refine RS_m retB_noPanic rfl rfl rfl rfl (ev_move rfl) ?_
  refine RS_m retB_noPanic rfl rfl rfl rfl (ev_move rfl) ?_
  (first | refine RS_m retB_noPanic rfl rfl rfl rfl (ev_nilCheck rfl) ?_ | refine RS_m retB_noPanic rfl rfl rfl rfl (ev_nilCheckF (by simp) rfl) ?_)
  refine RS_m retB_noPanic rfl rfl rfl rfl (ev_fieldAddr rfl) ?_
  refine RS_q retB_noPanic rfl rfl rfl rfl (ev_load rfl (by repeat' first | exact Ld.blk rfl | assumption | apply Ld.skip | apply Ld.app)) ?_
  refine RS_m retB_noPanic rfl rfl rfl rfl (ev_move rfl) ?_
  (first | refine RS_m retB_noPanic rfl rfl rfl rfl (ev_nilCheck rfl) ?_ | refine RS_m retB_noPanic rfl rfl rfl rfl (ev_nilCheckF (by simp) rfl) ?_)
  refine RS_m retB_noPanic rfl rfl rfl rfl (ev_fieldAddr rfl) ?_
  refine RS_q retB_noPanic rfl rfl rfl rfl (ev_load rfl (by repeat' first | exact Ld.blk rfl | assumption | apply Ld.skip | apply Ld.app)) ?_
  refine RS_q retB_noPanic rfl rfl rfl rfl (ev_len rfl) ?_
  (first | refine RS_m retB_noPanic rfl rfl rfl rfl (ev_subN (q := 1) rfl rfl (by first | omega | (simp; done) | (simp; omega))) ?_ | refine RS_m retB_noPanic rfl rfl rfl rfl (ev_sub rfl rfl (by first | omega | (simp; done) | (simp; omega))) ?_)
  refine RS_q retB_noPanic rfl rfl rfl rfl (ev_sliceH rfl rfl (by first | omega | (simp; done) | (simp; omega))) ?_
  (first | refine RS_m retB_noPanic rfl rfl rfl rfl (ev_nilCheck rfl) ?_ | refine RS_m retB_noPanic rfl rfl rfl rfl (ev_nilCheckF (by simp) rfl) ?_)
  refine RS_m retB_noPanic rfl rfl rfl rfl (ev_fieldAddr rfl) ?_
  refine RS_e (RE_last (by kernel_rfl) rfl rfl rfl (eff_store rfl rfl rfl (by repeat' first | exact Upd.here rfl | apply Upd.skip | apply Upd.app)) ?_); rintro _ _ ⟨rfl, rfl⟩
  (repeat first | refine G_seq ?_ | refine G_skip ?_ | refine G_endblk ?_ | refine G_block ?_ | refine G_exit rfl ?_)
  refine G_region ?_
  refine GO_q rfl rfl (ev_move rfl) ?_
  refine GO_q rfl rfl (ev_move rfl) ?_
  refine GO_q rfl rfl (ev_assign rfl) ?_
  refine GO_q rfl rfl (ev_assign rfl) ?_
  refine GO_nil ?_
  (repeat first | refine G_seq ?_ | refine G_skip ?_ | refine G_endblk ?_ | refine G_block ?_ | refine G_exit rfl ?_)
  have e1 : n - 1 = l.length := by omega
  rw [e1]
  refine G_ret (L' := stkS b 65536 l :: L) rfl (.tmp rfl (.tmp rfl .nil)) ?_ ⟨rfl, rfl⟩
  apply en_pick
  focus ((repeat' first | exact Pick.here | apply Pick.skip | apply Pick.app); done)
  refine en_stk (c := c) (fun _ => ⟨ab, rfl⟩) ?_
  refine en_blk .here rfl ?_
  refine en_less .here (by omega) ?_ en_refl
  rw [flat_append]
  exact List.take_left' (flat_length _)
theorem push_ctr (b : Nat) (A : Option Addr) (m q : Nat) (l ys : List PA) (L : List HP) (hy : Rd L A m ys) (hb : l.length + m ≤ 65536) : Ctr Tryz.prog 63 #[.pointer (some ⟨b, 0, none⟩), .slice A m q] (stkS b 65536 l :: L) fun v L' => v = .tuple #[] ∧ L' = stkS b 65536 (l ++ ys) :: L := by
  have hm : ys.length = m := hy.len (by decide)
  refine Ctr.stk fun B c h1 h2 h3 => ?_
  refine Ctr_of (fn := Tryz.f63) (n := 32) Tryz.func63 rfl rfl rfl ?_
  intro g F
  (repeat first | refine G_seq ?_ | refine G_skip ?_ | refine G_endblk ?_ | refine G_block ?_ | refine G_exit rfl ?_)
  refine G_draw (.q 0 (.q 1 (.q 2 (.q 3 (.q 4 (.q 5 (.q 6 (.q 7 (.q 8 (.q 9 (.q 10 (.q 11 (.q 12 .nil))))))))))))) (by kernel_rfl) (by kernel_rfl) ?_
  refine RS_m retB_noPanic rfl rfl rfl rfl (ev_move rfl) ?_
  refine RS_q retB_noPanic rfl rfl rfl rfl (ev_len rfl) ?_
  refine RS_m retB_noPanic rfl rfl rfl rfl (ev_move rfl) ?_
  (first | refine RS_m retB_noPanic rfl rfl rfl rfl (ev_nilCheck rfl) ?_ | refine RS_m retB_noPanic rfl rfl rfl rfl (ev_nilCheckF (by simp) rfl) ?_)
  refine RS_m retB_noPanic rfl rfl rfl rfl (ev_fieldAddr rfl) ?_
  refine RS_q retB_noPanic rfl rfl rfl rfl (ev_load rfl (by repeat' first | exact Ld.blk rfl | assumption | apply Ld.skip | apply Ld.app)) ?_
  refine RS_m retB_noPanic rfl rfl rfl rfl (ev_move rfl) ?_
  (first | refine RS_m retB_noPanic rfl rfl rfl rfl (ev_nilCheck rfl) ?_ | refine RS_m retB_noPanic rfl rfl rfl rfl (ev_nilCheckF (by simp) rfl) ?_)
  refine RS_m retB_noPanic rfl rfl rfl rfl (ev_fieldAddr rfl) ?_
  refine RS_q retB_noPanic rfl rfl rfl rfl (ev_load rfl (by repeat' first | exact Ld.blk rfl | assumption | apply Ld.skip | apply Ld.app)) ?_
  refine RS_q retB_noPanic rfl rfl rfl rfl (ev_len rfl) ?_
  refine RS_m retB_noPanic rfl rfl rfl rfl (ev_sub rfl rfl (by omega)) ?_
  refine RS_m retB_noPanic rfl rfl rfl rfl (ev_gtr rfl rfl) ?_
  refine RS_nil ?_
  (repeat first | refine G_seq ?_ | refine G_skip ?_ | refine G_endblk ?_ | refine G_block ?_ | refine G_exit rfl ?_)
  refine G_cond_f rfl (decide_eq_false (by omega)) ?_
  (repeat first | refine G_seq ?_ | refine G_skip ?_ | refine G_endblk ?_ | refine G_block ?_ | refine G_exit rfl ?_)
  refine G_region ?_
  refine GO_q rfl rfl (ev_move rfl) ?_
  refine GO_q rfl rfl (ev_move rfl) ?_
  (first | refine GO_q rfl rfl (ev_nilCheck rfl) ?_ | refine GO_q rfl rfl (ev_nilCheckF (by simp) rfl) ?_)
  refine GO_q rfl rfl (ev_fieldAddr rfl) ?_
  refine GO_q rfl rfl (ev_load rfl (by repeat' first | exact Ld.blk rfl | assumption | apply Ld.skip | apply Ld.app)) ?_
  refine GO_q rfl rfl (ev_move rfl) ?_
  refine GO_eff rfl rfl (eff_append rfl rfl (by repeat' first | exact Pick.here | apply Pick.skip) ((by repeat' first | exact hy | apply Rc.skip)) ((flat_one _)) (by rfl) (by decide) (by first | omega | (simp; done) | (simp; omega)) (by first | omega | (simp; done) | (simp; omega))) ?_; rintro _ _ ⟨A29, c29, rfl, hc29, hm29, hn29, rfl⟩
  (first | refine GO_q rfl rfl (ev_nilCheck rfl) ?_ | refine GO_q rfl rfl (ev_nilCheckF (by simp) rfl) ?_)
  refine GO_q rfl rfl (ev_fieldAddr rfl) ?_
  refine GO_eff rfl rfl (eff_store rfl rfl rfl (by repeat' first | exact Upd.here rfl | apply Upd.skip | apply Upd.app)) ?_; rintro _ _ ⟨rfl, rfl⟩
  refine GO_nil ?_
  (repeat first | refine G_seq ?_ | refine G_skip ?_ | refine G_endblk ?_ | refine G_block ?_ | refine G_exit rfl ?_)
  have e1 : l.length + m = (l ++ ys).length := by rw [List.length_append, hm]
  rw [e1] at hn29 ⊢
  refine G_end (L' := stkS b 65536 (l ++ ys) :: L) rfl .nil ?_ ⟨rfl, rfl⟩
  apply en_pick
  focus ((repeat' first | exact Pick.here | apply Pick.skip | apply Pick.app); done)
  refine en_stk (c := c29) hn29 ?_
  rw [flat_append]
  exact (by (repeat first | exact en_refl | (apply en_blk; focus ((repeat' first | exact Pick.here | apply Pick.skip | apply Pick.app); done); focus rfl) | (apply en_own; focus ((repeat' first | exact Pick.here | apply Pick.skip | apply Pick.app); done); focus rfl) | (apply en_pick; focus ((repeat' first | exact Pick.here | apply Pick.skip | apply Pick.app); done)) | apply en_drop | apply en_app) <;> fail)
theorem push1_ctr (b2 b3 b : Nat) (A : Option Addr) (m q : Nat) (l ys : List PA) (L : List HP) (h2 : Ld L ⟨b2, 0, none⟩ (.pointer (some ⟨b, 0, none⟩))) (h3 : Ld L ⟨b3, 0, none⟩ (.slice A m q)) (hy : Rd L A m ys) (hb : l.length + m ≤ 65536) :
    Ctr Tryz.prog 68 #[.pointer (some ⟨b2, 0, none⟩), .pointer (some ⟨b3, 0, none⟩)] (stkS b 65536 l :: L) fun v L' => L' = stkS b 65536 (l ++ ys) :: L := by
  refine Ctr_of (fn := Tryz.f68) (n := 5) Tryz.func68 rfl rfl rfl ?_
  intro g F
  (repeat first | refine G_seq ?_ | refine G_skip ?_ | refine G_endblk ?_ | refine G_block ?_ | refine G_exit rfl ?_)
  refine G_region ?_
  refine GO_q rfl rfl (ev_load rfl (by repeat' first | exact Ld.blk rfl | assumption | apply Ld.skip | apply Ld.app)) ?_
  refine GO_q rfl rfl (ev_load rfl (by repeat' first | exact Ld.blk rfl | assumption | apply Ld.skip | apply Ld.app)) ?_
  refine GO_eff rfl rfl (eff_call rfl (Ctr.pick (by repeat' first | exact Pick.here | apply Pick.skip | apply Pick.app) (push_ctr b A m q l ys _ (by repeat' first | exact hy | apply Rd.skip) hb))) ?_; rintro _ _ ⟨rfl, rfl⟩
  refine GO_nil ?_
  (repeat first | refine G_seq ?_ | refine G_skip ?_ | refine G_endblk ?_ | refine G_block ?_ | refine G_exit rfl ?_)
  exact G_end (L' := stkS b 65536 (l ++ ys) :: L) rfl .nil (by (repeat first | exact en_refl | (apply en_blk; focus ((repeat' first | exact Pick.here | apply Pick.skip | apply Pick.app); done); focus rfl) | (apply en_own; focus ((repeat' first | exact Pick.here | apply Pick.skip | apply Pick.app); done); focus rfl) | (apply en_pick; focus ((repeat' first | exact Pick.here | apply Pick.skip | apply Pick.app); done)) | apply en_drop | apply en_app) <;> fail) rfl
theorem Push_ctr (b : Nat) (A : Option Addr) (m q : Nat) (l ys : List PA) (L : List HP) (hy : Rd L A m ys) (hb : l.length + m ≤ 65536) : Ctr Tryz.prog 48 #[.pointer (some ⟨b, 0, none⟩), .slice A m q] (stkS b 65536 l :: L) fun v L' => v = .int .i64 0 ∧ L' = stkS b 65536 (l ++ ys) :: L := by
  refine Ctr_of (fn := Tryz.f48) (n := 16) Tryz.func48 rfl rfl rfl ?_
  intro g F
  (repeat first | refine G_seq ?_ | refine G_skip ?_ | refine G_endblk ?_ | refine G_block ?_ | refine G_exit rfl ?_)
  refine G_region ?_
  refine GO_eff rfl rfl (eff_box rfl) ?_; rintro _ _ ⟨b2, rfl, rfl⟩
  refine GO_eff rfl rfl (eff_box rfl) ?_; rintro _ _ ⟨b3, rfl, rfl⟩
  refine GO_q rfl rfl (ev_assign rfl) ?_
  refine GO_nil ?_
  (repeat first | refine G_seq ?_ | refine G_skip ?_ | refine G_endblk ?_ | refine G_block ?_ | refine G_exit rfl ?_)
  refine G_region ?_
  refine GO_q rfl rfl (ev_load rfl (by repeat' first | exact Ld.blk rfl | assumption | apply Ld.skip | apply Ld.app)) ?_
  (first | refine GO_q rfl rfl (ev_eqlNil rfl rfl) ?_ | refine GO_q rfl rfl (ev_eqlPtr rfl rfl) ?_)
  refine GO_nil ?_
  (repeat first | refine G_seq ?_ | refine G_skip ?_ | refine G_endblk ?_ | refine G_block ?_ | refine G_exit rfl ?_)
  refine G_cond_f rfl rfl ?_
  (repeat first | refine G_seq ?_ | refine G_skip ?_ | refine G_endblk ?_ | refine G_block ?_ | refine G_exit rfl ?_)
  refine G_region ?_
  refine GO_q rfl rfl (ev_makeFunc rfl rfl) ?_
  refine GO_eff rfl rfl (eff_call rfl (Ctr.pick (by repeat' first | exact Pick.here | apply Pick.skip | apply Pick.app) (Catch_ctr (c1 := []) (c2 := [.pointer (some ⟨b2, 0, none⟩), .pointer (some ⟨b3, 0, none⟩)]) (post := fun L' => L' = stkS b 65536 (l ++ ys) :: blk b3 65 [.slice A m q] :: blk b2 57 [.pointer (some ⟨b, 0, none⟩)] :: F :: L) (push1_ctr b2 b3 b A m q l ys _ (Ld.skip (Ld.blk rfl)) (Ld.blk rfl) (by repeat' first | exact hy | apply Rd.skip) hb)))) ?_; rintro _ _ ⟨rfl, rfl⟩
  refine GO_q rfl rfl (ev_move rfl) ?_
  refine GO_q rfl rfl (ev_extract rfl rfl) ?_
  refine GO_q rfl rfl (ev_extract rfl rfl) ?_
  refine GO_eff rfl rfl eff_alloc ?_; rintro _ _ ⟨b5, rfl, rfl⟩
  refine GO_eff rfl rfl (eff_storeN rfl rfl rfl rfl (by repeat' first | exact Upd.here rfl | apply Upd.skip | apply Upd.app)) ?_; rintro _ _ ⟨rfl, rfl⟩
  refine GO_q rfl rfl (ev_assign rfl) ?_
  refine GO_nil ?_
  (repeat first | refine G_seq ?_ | refine G_skip ?_ | refine G_endblk ?_ | refine G_block ?_ | refine G_exit rfl ?_)
  refine G_region ?_
  refine GO_q rfl rfl (ev_fieldAddr rfl) ?_
  refine GO_q rfl rfl (ev_load rfl (by repeat' first | exact Ld.blk rfl | assumption | apply Ld.skip | apply Ld.app)) ?_
  refine GO_q rfl rfl (ev_assign rfl) ?_
  refine GO_nil ?_
  (repeat first | refine G_seq ?_ | refine G_skip ?_ | refine G_endblk ?_ | refine G_block ?_ | refine G_exit rfl ?_)
  exact G_ret (L' := stkS b 65536 (l ++ ys) :: L) rfl (.tmp rfl .nil) (by (repeat first | exact en_refl | (apply en_blk; focus ((repeat' first | exact Pick.here | apply Pick.skip | apply Pick.app); done); focus rfl) | (apply en_own; focus ((repeat' first | exact Pick.here | apply Pick.skip | apply Pick.app); done); focus rfl) | (apply en_pick; focus ((repeat' first | exact Pick.here | apply Pick.skip | apply Pick.app); done)) | apply en_drop | apply en_app) <;> fail) ⟨rfl, rfl⟩
/-! What is visited. -/
theorem KClone_ctr (A : Option Addr) (n c : Nat) (l : List PA) (L : List HP) (hl : Rd L A n l) (hn : n ≤ 1000000) :
    Ctr Tryz.prog 61 #[.slice A n c] L fun v L' => Made 50 l L v L' := by
  have h1 : l.length = n := hl.len (by decide)
  refine Ctr_of (fn := Tryz.f61) (n := 8) Tryz.func61 rfl rfl rfl ?_
  intro g F
  (repeat first | refine G_seq ?_ | refine G_skip ?_ | refine G_endblk ?_ | refine G_block ?_ | refine G_exit rfl ?_)
  refine G_region ?_
  refine GO_q rfl rfl (ev_assign rfl) ?_
  refine GO_nil ?_
  (repeat first | refine G_seq ?_ | refine G_skip ?_ | refine G_endblk ?_ | refine G_block ?_ | refine G_exit rfl ?_)
  refine G_region ?_
  refine GO_q rfl rfl (ev_move rfl) ?_
  refine GO_q rfl rfl (ev_eqlNilS rfl rfl) ?_
  refine GO_nil ?_
  (repeat first | refine G_seq ?_ | refine G_skip ?_ | refine G_endblk ?_ | refine G_block ?_ | refine G_exit rfl ?_)
  refine G_condB rfl (fun h2 => ?_) (fun h2 => ?_)
  · have e : A = none := by simpa using h2
    subst e
    have h3 : n = 0 := by
      rcases Nat.eq_zero_or_pos n with h | h
      · exact h
      · obtain ⟨b, o, e, _⟩ := hl.at_ h; cases e
    subst h3
    have : l = [] := List.eq_nil_of_length_eq_zero h1
    subst this
    (repeat first | refine G_seq ?_ | refine G_skip ?_ | refine G_endblk ?_ | refine G_block ?_ | refine G_exit rfl ?_)
    refine G_region ?_
    refine GO_q rfl rfl (ev_assign rfl) ?_
    refine GO_nil ?_
    (repeat first | refine G_seq ?_ | refine G_skip ?_ | refine G_endblk ?_ | refine G_block ?_ | refine G_exit rfl ?_)
    refine G_ret (L' := own 50 1 none 0 0 [] :: L) rfl (.tmp rfl .nil) ?_ ⟨none, 0, rfl, fun h => absurd h (Nat.lt_irrefl 0), rfl⟩
    exact fun h s => (own.nil_ 50 1 h s).swap
  · (repeat first | refine G_seq ?_ | refine G_skip ?_ | refine G_endblk ?_ | refine G_block ?_ | refine G_exit rfl ?_)
    refine G_region ?_
    refine GO_eff rfl rfl eff_buildSlice0 ?_; rintro _ _ ⟨b5, rfl, rfl⟩
    refine GO_q rfl rfl (ev_move rfl) ?_
    refine GO_eff rfl rfl (eff_append rfl rfl (by repeat' first | exact Pick.here | apply Pick.skip) (Rc.skip (Rc.skip hl)) ((flat_one _)) (by rfl) (by decide) (by first | omega | (simp; done) | (simp; omega)) (by first | omega | (simp; done) | (simp; omega))) ?_; rintro _ _ ⟨A7, c7, rfl, hc7, hm7, hn7, rfl⟩
    refine GO_q rfl rfl (ev_assign rfl) ?_
    refine GO_nil ?_
    rw [Nat.zero_add] at hc7 hn7
    (repeat first | refine G_seq ?_ | refine G_skip ?_ | refine G_endblk ?_ | refine G_block ?_ | refine G_exit rfl ?_)
    refine G_ret (L' := own 50 1 A7 l.length c7 (flat l) :: L) rfl (.tmp rfl .nil) ?_ ⟨A7, c7, by rw [h1]; simp [retv], by rw [h1]; exact hn7, rfl⟩
    rw [h1, Nat.zero_add, List.nil_append]
    refine en_pick (.skip (.here)) ?_
    refine en_pick (.here) ?_
    exact (by (repeat first | exact fun _ s => s | apply en_keep | apply en_drop | apply en_app) <;> fail)
theorem KReverse_ctr (A : Option Addr) (c : Nat) (l : List PA) (L : List HP) (hA : 0 < l.length → ∃ b, A = some ⟨b, 0, none⟩) (h2 : l.length ≤ 2) :
    Ctr Tryz.prog 62 #[.slice A l.length c] (own 50 1 A l.length c (flat l) :: L) fun v L' => v = .tuple #[] ∧ L' = own 50 1 A l.length c (flat l.reverse) :: L := by
  match l, h2, hA with
  | [], _, hA =>
    refine Ctr_of (fn := Tryz.f62) (n := 28) Tryz.func62 rfl rfl rfl ?_
    intro g F
    (repeat first | refine G_seq ?_ | refine G_skip ?_ | refine G_endblk ?_ | refine G_block ?_ | refine G_exit rfl ?_)
    refine G_region ?_
    refine GO_q rfl rfl (ev_move rfl) ?_
    refine GO_q rfl rfl (ev_len rfl) ?_
    (first | refine GO_q rfl rfl (ev_subN (q := 1) rfl rfl (by first | omega | (simp; done) | (simp; omega))) ?_ | refine GO_q rfl rfl (ev_sub rfl rfl (by first | omega | (simp; done) | (simp; omega))) ?_)
    refine GO_q rfl rfl (ev_assign rfl) ?_
    refine GO_q rfl rfl (ev_assign rfl) ?_
    refine GO_nil ?_
    (repeat first | refine G_seq ?_ | refine G_skip ?_ | refine G_endblk ?_ | refine G_block ?_ | refine G_exit rfl ?_)
    refine G_loop (ι := Unit) (fun _ => [(0, .slice A ([] : List PA).length c), (2, .int .i64 0), (3, .int .i64 (-1))]) (fun _ => F :: own 50 1 A ([] : List PA).length c (flat ([] : List PA)) :: L) (fun _ => True) (fun _ => 0) () trivial ⟨rfl, rfl, rfl, trivial⟩ en_refl ?_
    intro _ _
    (repeat first | refine G_seq ?_ | refine G_skip ?_ | refine G_endblk ?_ | refine G_block ?_ | refine G_exit rfl ?_)
    refine G_region ?_
    refine GO_q rfl rfl (ev_move rfl) ?_
    refine GO_q rfl rfl (ev_move rfl) ?_
    (first | refine GO_q rfl rfl (ev_lssN rfl rfl) ?_ | refine GO_q rfl rfl (ev_lss rfl rfl) ?_)
    refine GO_nil ?_
    (repeat first | refine G_seq ?_ | refine G_skip ?_ | refine G_endblk ?_ | refine G_block ?_ | refine G_exit rfl ?_)
    refine G_cond_f rfl rfl ?_
    (repeat first | refine G_seq ?_ | refine G_skip ?_ | refine G_endblk ?_ | refine G_block ?_ | refine G_exit rfl ?_)
    exact G_end (L' := own 50 1 A ([] : List PA).length c (flat ([] : List PA).reverse) :: L) rfl .nil en_refl ⟨rfl, rfl⟩
  | [x], _, hA =>
    refine Ctr_of (fn := Tryz.f62) (n := 28) Tryz.func62 rfl rfl rfl ?_
    intro g F
    (repeat first | refine G_seq ?_ | refine G_skip ?_ | refine G_endblk ?_ | refine G_block ?_ | refine G_exit rfl ?_)
    refine G_region ?_
    refine GO_q rfl rfl (ev_move rfl) ?_
    refine GO_q rfl rfl (ev_len rfl) ?_
    (first | refine GO_q rfl rfl (ev_subN (q := 1) rfl rfl (by first | omega | (simp; done) | (simp; omega))) ?_ | refine GO_q rfl rfl (ev_sub rfl rfl (by first | omega | (simp; done) | (simp; omega))) ?_)
    refine GO_q rfl rfl (ev_assign rfl) ?_
    refine GO_q rfl rfl (ev_assign rfl) ?_
    refine GO_nil ?_
    (repeat first | refine G_seq ?_ | refine G_skip ?_ | refine G_endblk ?_ | refine G_block ?_ | refine G_exit rfl ?_)
    refine G_loop (ι := Unit) (fun _ => [(0, .slice A [x].length c), (2, .int .i64 0), (3, .int .i64 0)]) (fun _ => F :: own 50 1 A [x].length c (flat [x]) :: L) (fun _ => True) (fun _ => 0) () trivial ⟨rfl, rfl, rfl, trivial⟩ en_refl ?_
    intro _ _
    (repeat first | refine G_seq ?_ | refine G_skip ?_ | refine G_endblk ?_ | refine G_block ?_ | refine G_exit rfl ?_)
    refine G_region ?_
    refine GO_q rfl rfl (ev_move rfl) ?_
    refine GO_q rfl rfl (ev_move rfl) ?_
    (first | refine GO_q rfl rfl (ev_lssN rfl rfl) ?_ | refine GO_q rfl rfl (ev_lss rfl rfl) ?_)
    refine GO_nil ?_
    (repeat first | refine G_seq ?_ | refine G_skip ?_ | refine G_endblk ?_ | refine G_block ?_ | refine G_exit rfl ?_)
    refine G_cond_f rfl rfl ?_
    (repeat first | refine G_seq ?_ | refine G_skip ?_ | refine G_endblk ?_ | refine G_block ?_ | refine G_exit rfl ?_)
    exact G_end (L' := own 50 1 A [x].length c (flat [x].reverse) :: L) rfl .nil en_refl ⟨rfl, rfl⟩
  | [x, y], _, hA =>
    obtain ⟨ab, rfl⟩ := hA (by simp)
    refine Ctr_of (fn := Tryz.f62) (n := 28) Tryz.func62 rfl rfl rfl ?_
    intro g F
    refine G_heap (L' := own 50 1 (some ⟨ab, 0, none⟩) 2 c [.pointer x.addr, .pointer y.addr] :: F :: L) (fun _ s => s.swap) ?_
    refine G_open (ι := List Value) (F := fun r => (Value.pointer x.addr :: .pointer y.addr :: r).length = c * 1 ∧ 2 ≤ c ∧ c ≤ maxLen) (N := fun r => [blk ab 50 (.pointer x.addr :: .pointer y.addr :: r)]) (fun h o => by
      obtain ⟨cs, hb, hl, ht⟩ := o.opn
      have e : cs = .pointer x.addr :: .pointer y.addr :: cs.drop 2 := by
        have := List.take_append_drop 2 cs
        rw [show (2 * 1) = 2 from rfl] at ht
        rw [ht] at this
        exact this.symm
      exact ⟨cs.drop 2, ⟨by rw [← e]; exact hl, o.le, o.cap⟩, sat.one (e ▸ hb)⟩) ?_
    rintro r ⟨k1, k2, k3⟩
    refine G_heap (L' := F :: blk ab 50 (.pointer x.addr :: .pointer y.addr :: r) :: L) (fun _ s => s.swap) ?_
    (repeat first | refine G_seq ?_ | refine G_skip ?_ | refine G_endblk ?_ | refine G_block ?_ | refine G_exit rfl ?_)
    refine G_region ?_
    refine GO_q rfl rfl (ev_move rfl) ?_
    refine GO_q rfl rfl (ev_len rfl) ?_
    (first | refine GO_q rfl rfl (ev_subN (q := 1) rfl rfl (by first | omega | (simp; done) | (simp; omega))) ?_ | refine GO_q rfl rfl (ev_sub rfl rfl (by first | omega | (simp; done) | (simp; omega))) ?_)
    refine GO_q rfl rfl (ev_assign rfl) ?_
    refine GO_q rfl rfl (ev_assign rfl) ?_
    refine GO_nil ?_
    (repeat first | refine G_seq ?_ | refine G_skip ?_ | refine G_endblk ?_ | refine G_block ?_ | refine G_exit rfl ?_)
    refine G_loop (ι := List Value × Nat × Nat) (fun z => [(0, .slice (some ⟨ab, 0, none⟩) 2 c), (2, .int .i64 (z.2.1 : Nat)), (3, .int .i64 (z.2.2 : Nat))]) (fun z => F :: blk ab 50 z.1 :: L) (fun z => z = (.pointer x.addr :: .pointer y.addr :: r, 0, 1) ∨ z = (.pointer y.addr :: .pointer x.addr :: r, 1, 0)) (fun z => z.2.2) (.pointer x.addr :: .pointer y.addr :: r, 0, 1) (.inl rfl) ⟨rfl, rfl, rfl, trivial⟩ en_refl ?_
    rintro z (rfl | rfl)
    · dsimp only
      (repeat first | refine G_seq ?_ | refine G_skip ?_ | refine G_endblk ?_ | refine G_block ?_ | refine G_exit rfl ?_)
      refine G_region ?_
      refine GO_q rfl rfl (ev_move rfl) ?_
      refine GO_q rfl rfl (ev_move rfl) ?_
      (first | refine GO_q rfl rfl (ev_lssN rfl rfl) ?_ | refine GO_q rfl rfl (ev_lss rfl rfl) ?_)
      refine GO_nil ?_
      (repeat first | refine G_seq ?_ | refine G_skip ?_ | refine G_endblk ?_ | refine G_block ?_ | refine G_exit rfl ?_)
      refine G_cond_t rfl rfl ?_
      (repeat first | refine G_seq ?_ | refine G_skip ?_ | refine G_endblk ?_ | refine G_block ?_ | refine G_exit rfl ?_)
      refine G_draw (.q 0 (.q 1 (.q 2 (.q 3 (.q 4 (.q 5 (.q 6 (.q 7 (.q 8 (.q 9 (.q 10 (.q 11 (.q 12 (.e 13 (.q 14 (.e 15 .nil)))))))))))))))) (by kernel_rfl) (by kernel_rfl) ?_
      refine RS_m retB_noPanic rfl rfl rfl rfl (ev_move rfl) ?_
      refine RS_m retB_noPanic rfl rfl rfl rfl (ev_move rfl) ?_
      refine RS_m retB_noPanic rfl rfl rfl rfl (ev_move rfl) ?_
      refine RS_m retB_noPanic rfl rfl rfl rfl (ev_move rfl) ?_
      refine RS_m retB_noPanic rfl rfl rfl rfl (ev_move rfl) ?_
      refine RS_m retB_noPanic rfl rfl rfl rfl (ev_move rfl) ?_
      (first | refine RS_m retB_noPanic rfl rfl rfl rfl (ev_indexAddrN rfl rfl (by first | omega | (simp; done) | (simp; omega))) ?_ | refine RS_m retB_noPanic rfl rfl rfl rfl (ev_indexAddr rfl rfl (by first | omega | (simp; done) | (simp; omega)) (by first | omega | (simp; done) | (simp; omega))) ?_)
      refine RS_q retB_noPanic rfl rfl rfl rfl (ev_load rfl (by repeat' first | exact Ld.blk rfl | assumption | apply Ld.skip | apply Ld.app)) ?_
      refine RS_m retB_noPanic rfl rfl rfl rfl (ev_move rfl) ?_
      refine RS_m retB_noPanic rfl rfl rfl rfl (ev_move rfl) ?_
      (first | refine RS_m retB_noPanic rfl rfl rfl rfl (ev_indexAddrN rfl rfl (by first | omega | (simp; done) | (simp; omega))) ?_ | refine RS_m retB_noPanic rfl rfl rfl rfl (ev_indexAddr rfl rfl (by first | omega | (simp; done) | (simp; omega)) (by first | omega | (simp; done) | (simp; omega))) ?_)
      refine RS_q retB_noPanic rfl rfl rfl rfl (ev_load rfl (by repeat' first | exact Ld.blk rfl | assumption | apply Ld.skip | apply Ld.app)) ?_
      (first | refine RS_m retB_noPanic rfl rfl rfl rfl (ev_indexAddrN rfl rfl (by first | omega | (simp; done) | (simp; omega))) ?_ | refine RS_m retB_noPanic rfl rfl rfl rfl (ev_indexAddr rfl rfl (by first | omega | (simp; done) | (simp; omega)) (by first | omega | (simp; done) | (simp; omega))) ?_)
      refine RS_e (RE_cmp (by kernel_rfl) rfl rfl rfl (eff_store rfl rfl rfl (by repeat' first | exact Upd.here rfl | apply Upd.skip | apply Upd.app)) ?_); rintro _ _ ⟨rfl, rfl⟩
      (first | refine RS_m retB_noPanic rfl rfl rfl rfl (ev_indexAddrN rfl rfl (by first | omega | (simp; done) | (simp; omega))) ?_ | refine RS_m retB_noPanic rfl rfl rfl rfl (ev_indexAddr rfl rfl (by first | omega | (simp; done) | (simp; omega)) (by first | omega | (simp; done) | (simp; omega))) ?_)
      refine RS_e (RE_last (by kernel_rfl) rfl rfl rfl (eff_store rfl rfl rfl (by repeat' first | exact Upd.here rfl | apply Upd.skip | apply Upd.app)) ?_); rintro _ _ ⟨rfl, rfl⟩
      (repeat first | refine G_seq ?_ | refine G_skip ?_ | refine G_endblk ?_ | refine G_block ?_ | refine G_exit rfl ?_)
      refine G_region ?_
      refine GO_q rfl rfl (ev_move rfl) ?_
      (first | refine GO_q rfl rfl (ev_addN (q := 1) rfl rfl (by first | omega | (simp; done) | (simp; omega))) ?_ | refine GO_q rfl rfl (ev_add rfl rfl (by first | omega | (simp; done) | (simp; omega))) ?_)
      refine GO_q rfl rfl (ev_move rfl) ?_
      (first | refine GO_q rfl rfl (ev_subN (q := 1) rfl rfl (by first | omega | (simp; done) | (simp; omega))) ?_ | refine GO_q rfl rfl (ev_sub rfl rfl (by first | omega | (simp; done) | (simp; omega))) ?_)
      refine GO_q rfl rfl (ev_assign rfl) ?_
      refine GO_q rfl rfl (ev_assign rfl) ?_
      refine GO_nil ?_
      (repeat first | refine G_seq ?_ | refine G_skip ?_ | refine G_endblk ?_ | refine G_block ?_ | refine G_exit rfl ?_)
      exact G_round (.pointer y.addr :: .pointer x.addr :: r, 1, 0) (.inr rfl) (Nat.zero_lt_one) ⟨rfl, rfl, rfl, trivial⟩ (by dsimp only; rw [sw2]; exact (by (repeat first | exact en_refl | (apply en_blk; focus ((repeat' first | exact Pick.here | apply Pick.skip | apply Pick.app); done); focus rfl) | (apply en_own; focus ((repeat' first | exact Pick.here | apply Pick.skip | apply Pick.app); done); focus rfl) | (apply en_pick; focus ((repeat' first | exact Pick.here | apply Pick.skip | apply Pick.app); done)) | apply en_drop | apply en_app) <;> fail))
    · dsimp only
      (repeat first | refine G_seq ?_ | refine G_skip ?_ | refine G_endblk ?_ | refine G_block ?_ | refine G_exit rfl ?_)
      refine G_region ?_
      refine GO_q rfl rfl (ev_move rfl) ?_
      refine GO_q rfl rfl (ev_move rfl) ?_
      (first | refine GO_q rfl rfl (ev_lssN rfl rfl) ?_ | refine GO_q rfl rfl (ev_lss rfl rfl) ?_)
      refine GO_nil ?_
      (repeat first | refine G_seq ?_ | refine G_skip ?_ | refine G_endblk ?_ | refine G_block ?_ | refine G_exit rfl ?_)
      refine G_cond_f rfl rfl ?_
      (repeat first | refine G_seq ?_ | refine G_skip ?_ | refine G_endblk ?_ | refine G_block ?_ | refine G_exit rfl ?_)
      refine G_end (L' := own 50 1 (some ⟨ab, 0, none⟩) 2 c [.pointer y.addr, .pointer x.addr] :: L) rfl .nil (en_keep ?_) ⟨rfl, rfl⟩
      exact own_of1 k1 k2 k3
def funcB (P : Program) (T : TypeId) : Bool := match P.underlying T with
  | some (.func _ _ _) => true
  | _ => false
class FuncT (P : Program) (T : TypeId) : Prop where
  h : funcB P T = true
theorem FuncT.spec {P : Program} {T : TypeId} (H : FuncT P T) : ∃ a b c, P.underlying T = some (.func a b c) := by
  have h := H.h
  unfold funcB at h
  split at h
  · exact ⟨_, _, _, by assumption⟩
  · cases h
theorem ev_eqlNilF {P : Program} {L : List HP} {σ : Env} {d : Option Nat} {ty T T' : TypeId} {pos : String} {aft : Array Edge} {gd : Option (Nat × Bool)} {x y : Operand} {f : Fn} {a b : Array Value} [H : FuncT P T] (hx : ev σ x = some (.func f a b)) (hy : ev σ y = some .nilFunc) : Ev P L σ ⟨d, .binOp .eql T x y T', ty, pos, aft, gd⟩ (.bool false) :=
  bin_run' _ _ _ _ (fun w => by unfold eqGuard; split <;> rfl) hx hy fun w => by
    obtain ⟨_, _, _, he⟩ := H.spec
    have h2 : (Op.equal T (.func f a b) .nilFunc).run P w = .ok false w := by
      unfold Op.equal
      rw [show Op.maxDepth = 9999 + 1 from rfl]
      unfold Op.equalIn
      simp only [Sem.run_bind, run_underlying he, Result.andThen_ok]
      rfl
    show ((do pure (.bool (← Op.equal T (.func f a b) .nilFunc)) : Sem Value)).run P w = _
    simp only [Sem.run_bind, h2, Result.andThen_ok, Sem.run_pure]
instance : FuncT Tryz.prog 60 := ⟨by kernel_rfl⟩
/-- What looks at nodes: what it has, which ones it tells, what it has then; and what is still to come. -/
structure Vis (S : Type) where
  V : S → HP
  ok : PA → S → Prop
  kids : PA → List PA
  upd : PA → S → S
  f : FuncId
  c1 : List Value
  c2 : List Value
  I : List PA → S → Nat → Prop
structure Vis.Good {S : Type} (X : Vis S) (L : List HP) : Prop where
  cal : CalT Tryz.prog X.f
  visit : ∀ (M : List HP) (x : PA) (st : S), (∀ h, sat M h → sat L h) → X.ok x st → Ctr Tryz.prog X.f (X.c1 ++ [Value.pointer x.addr] ++ X.c2).toArray (X.V st :: M) fun v L' => Made 50 (X.kids x) (X.V (X.upd x st) :: M) v L'
  next : ∀ (l : List PA) (x : PA) (st : S) (r : Nat), X.I (l ++ [x]) st r → ∃ r', r = r' + 1 ∧ X.I (l ++ (X.kids x).reverse) (X.upd x st) r'
  stop : ∀ (st : S) (r : Nat), X.I [] st r → r = 0
  cap : ∀ (l : List PA) (st : S) (r : Nat), X.I l st r → l.length ≤ 60000 ∧ ∀ x ∈ l, X.ok x st ∧ (X.kids x).length ≤ 2
@[reducible] def wkC {S : Type} (X : Vis S) (s n : Nat) : List Value := [.pointer (some ⟨s, 0, none⟩), .func (.func X.f) X.c1.toArray X.c2.toArray, .int .i64 (n : Nat)]
theorem wstep_nil_ctr {S : Type} (X : Vis S) (bw s n : Nat) (L : List HP) : Ctr Tryz.prog 41 #[.pointer (some ⟨bw, 0, none⟩)] (blk bw 84 (wkC X s n) :: stkS s 65536 [] :: L) fun v L' => v = .bool false ∧ L' = blk bw 84 (wkC X s n) :: stkS s 65536 [] :: L := by
  refine Ctr_of (fn := Tryz.f41) (n := 38) Tryz.func41 rfl rfl rfl ?_
  intro g F
  (repeat first | refine G_seq ?_ | refine G_skip ?_ | refine G_endblk ?_ | refine G_block ?_ | refine G_exit rfl ?_)
  refine G_region ?_
  refine GO_q rfl rfl (ev_assign rfl) ?_
  refine GO_nil ?_
  (repeat first | refine G_seq ?_ | refine G_skip ?_ | refine G_endblk ?_ | refine G_block ?_ | refine G_exit rfl ?_)
  refine G_region ?_
  refine GO_q rfl rfl (ev_move rfl) ?_
  (first | refine GO_q rfl rfl (ev_nilCheck rfl) ?_ | refine GO_q rfl rfl (ev_nilCheckF (by simp) rfl) ?_)
  refine GO_q rfl rfl (ev_fieldAddr rfl) ?_
  refine GO_q rfl rfl (ev_load rfl (by repeat' first | exact Ld.blk rfl | assumption | apply Ld.skip | apply Ld.app)) ?_
  refine GO_eff rfl rfl (eff_call rfl (Ctr.pick (by repeat' first | exact Pick.here | apply Pick.skip | apply Pick.app) (pop_nil_ctr s _))) ?_; rintro _ _ ⟨rfl, rfl⟩
  refine GO_q rfl rfl (ev_move rfl) ?_
  refine GO_q rfl rfl (ev_extract rfl rfl) ?_
  refine GO_q rfl rfl (ev_extract rfl rfl) ?_
  refine GO_q rfl rfl (ev_assign rfl) ?_
  refine GO_q rfl rfl (ev_assign rfl) ?_
  refine GO_nil ?_
  (repeat first | refine G_seq ?_ | refine G_skip ?_ | refine G_endblk ?_ | refine G_block ?_ | refine G_exit rfl ?_)
  refine G_region ?_
  refine GO_q rfl rfl (ev_move rfl) ?_
  refine GO_q rfl rfl (ev_not rfl) ?_
  refine GO_nil ?_
  (repeat first | refine G_seq ?_ | refine G_skip ?_ | refine G_endblk ?_ | refine G_block ?_ | refine G_exit rfl ?_)
  refine G_cond_t rfl rfl ?_
  (repeat first | refine G_seq ?_ | refine G_skip ?_ | refine G_endblk ?_ | refine G_block ?_ | refine G_exit rfl ?_)
  refine G_region ?_
  refine GO_q rfl rfl (ev_assign rfl) ?_
  refine GO_nil ?_
  (repeat first | refine G_seq ?_ | refine G_skip ?_ | refine G_endblk ?_ | refine G_block ?_ | refine G_exit rfl ?_)
  exact G_ret (L' := blk bw 84 (wkC X s n) :: stkS s 65536 [] :: L) rfl (.tmp rfl .nil) (by (repeat first | exact en_refl | (apply en_blk; focus ((repeat' first | exact Pick.here | apply Pick.skip | apply Pick.app); done); focus rfl) | (apply en_own; focus ((repeat' first | exact Pick.here | apply Pick.skip | apply Pick.app); done); focus rfl) | (apply en_pick; focus ((repeat' first | exact Pick.here | apply Pick.skip | apply Pick.app); done)) | apply en_drop | apply en_app) <;> fail) ⟨rfl, rfl⟩
theorem wstep_ctr {S : Type} (X : Vis S) (bw s n : Nat) (l : List PA) (x : PA) (st : S) (L L0 : List HP) (hX : X.Good L0) (hM : ∀ h, sat L h → sat L0 h) (hok : X.ok x st) (hk : (X.kids x).length ≤ 2) (hl : l.length ≤ 60000) (hn : n ≤ 1000000000000) :
    Ctr Tryz.prog 41 #[.pointer (some ⟨bw, 0, none⟩)] (blk bw 84 (wkC X s n) :: stkS s 65536 (l ++ [x]) :: X.V st :: L) fun v L' => v = .bool true ∧ L' = blk bw 84 (wkC X s (n + 1)) :: stkS s 65536 (l ++ (X.kids x).reverse) :: X.V (X.upd x st) :: L := by
  haveI := hX.cal
  refine Ctr_of (fn := Tryz.f41) (n := 38) Tryz.func41 rfl rfl rfl ?_
  intro g F
  (repeat first | refine G_seq ?_ | refine G_skip ?_ | refine G_endblk ?_ | refine G_block ?_ | refine G_exit rfl ?_)
  refine G_region ?_
  refine GO_q rfl rfl (ev_assign rfl) ?_
  refine GO_nil ?_
  (repeat first | refine G_seq ?_ | refine G_skip ?_ | refine G_endblk ?_ | refine G_block ?_ | refine G_exit rfl ?_)
  refine G_region ?_
  refine GO_q rfl rfl (ev_move rfl) ?_
  (first | refine GO_q rfl rfl (ev_nilCheck rfl) ?_ | refine GO_q rfl rfl (ev_nilCheckF (by simp) rfl) ?_)
  refine GO_q rfl rfl (ev_fieldAddr rfl) ?_
  refine GO_q rfl rfl (ev_load rfl (by repeat' first | exact Ld.blk rfl | assumption | apply Ld.skip | apply Ld.app)) ?_
  refine GO_eff rfl rfl (eff_call rfl (Ctr.pick (by repeat' first | exact Pick.here | apply Pick.skip | apply Pick.app) (pop_ctr s l x _ (by omega)))) ?_; rintro _ _ ⟨rfl, rfl⟩
  refine GO_q rfl rfl (ev_move rfl) ?_
  refine GO_q rfl rfl (ev_extract rfl rfl) ?_
  refine GO_q rfl rfl (ev_extract rfl rfl) ?_
  refine GO_q rfl rfl (ev_assign rfl) ?_
  refine GO_q rfl rfl (ev_assign rfl) ?_
  refine GO_nil ?_
  (repeat first | refine G_seq ?_ | refine G_skip ?_ | refine G_endblk ?_ | refine G_block ?_ | refine G_exit rfl ?_)
  refine G_region ?_
  refine GO_q rfl rfl (ev_move rfl) ?_
  refine GO_q rfl rfl (ev_not rfl) ?_
  refine GO_nil ?_
  (repeat first | refine G_seq ?_ | refine G_skip ?_ | refine G_endblk ?_ | refine G_block ?_ | refine G_exit rfl ?_)
  refine G_cond_f rfl rfl ?_
  (repeat first | refine G_seq ?_ | refine G_skip ?_ | refine G_endblk ?_ | refine G_block ?_ | refine G_exit rfl ?_)
  refine G_region ?_
  refine GO_q rfl rfl (ev_move rfl) ?_
  (first | refine GO_q rfl rfl (ev_nilCheck rfl) ?_ | refine GO_q rfl rfl (ev_nilCheckF (by simp) rfl) ?_)
  refine GO_q rfl rfl (ev_fieldAddr rfl) ?_
  refine GO_q rfl rfl (ev_load rfl (by repeat' first | exact Ld.blk rfl | assumption | apply Ld.skip | apply Ld.app)) ?_
  (first | refine GO_q rfl rfl (ev_addN (q := 1) rfl rfl (by first | omega | (simp; done) | (simp; omega))) ?_ | refine GO_q rfl rfl (ev_add rfl rfl (by first | omega | (simp; done) | (simp; omega))) ?_)
  (first | refine GO_q rfl rfl (ev_nilCheck rfl) ?_ | refine GO_q rfl rfl (ev_nilCheckF (by simp) rfl) ?_)
  refine GO_q rfl rfl (ev_fieldAddr rfl) ?_
  refine GO_eff rfl rfl (eff_store rfl rfl rfl (by repeat' first | exact Upd.here rfl | apply Upd.skip | apply Upd.app)) ?_; rintro _ _ ⟨rfl, rfl⟩
  refine GO_nil ?_
  (repeat first | refine G_seq ?_ | refine G_skip ?_ | refine G_endblk ?_ | refine G_block ?_ | refine G_exit rfl ?_)
  refine G_region ?_
  refine GO_q rfl rfl (ev_move rfl) ?_
  (first | refine GO_q rfl rfl (ev_nilCheck rfl) ?_ | refine GO_q rfl rfl (ev_nilCheckF (by simp) rfl) ?_)
  refine GO_q rfl rfl (ev_fieldAddr rfl) ?_
  refine GO_q rfl rfl (ev_load rfl (by repeat' first | exact Ld.blk rfl | assumption | apply Ld.skip | apply Ld.app)) ?_
  refine GO_q rfl rfl (ev_move rfl) ?_
  refine GO_eff rfl rfl (eff_callv rfl rfl (Ctr.pre (M := X.V st :: blk bw 84 (wkC X s (n + 1)) :: stkS s 65536 l :: F :: L) (by (repeat first | exact en_refl | (apply en_blk; focus ((repeat' first | exact Pick.here | apply Pick.skip | apply Pick.app); done); focus rfl) | (apply en_own; focus ((repeat' first | exact Pick.here | apply Pick.skip | apply Pick.app); done); focus rfl) | (apply en_pick; focus ((repeat' first | exact Pick.here | apply Pick.skip | apply Pick.app); done)) | apply en_drop | apply en_app) <;> fail) (hX.visit (blk bw 84 (wkC X s (n + 1)) :: stkS s 65536 l :: F :: L) x st (fun h t => hM h t.tail.tail.tail) hok))) ?_; rintro _ _ ⟨A28, c28, rfl, hA28, rfl⟩
  refine GO_eff rfl rfl (eff_call rfl (KClone_ctr A28 _ c28 (X.kids x) _ (Rc.own (flat_length _) hA28) (by omega))) ?_; rintro _ _ ⟨A29, c29, rfl, hA29, rfl⟩
  refine GO_q rfl rfl (ev_assign rfl) ?_
  refine GO_nil ?_
  (repeat first | refine G_seq ?_ | refine G_skip ?_ | refine G_endblk ?_ | refine G_block ?_ | refine G_exit rfl ?_)
  refine G_region ?_
  refine GO_q rfl rfl (ev_move rfl) ?_
  refine GO_eff rfl rfl (eff_call rfl (Ctr.pick (by repeat' first | exact Pick.here | apply Pick.skip | apply Pick.app) (KReverse_ctr A29 c29 (X.kids x) _ hA29 hk))) ?_; rintro _ _ ⟨rfl, rfl⟩
  refine GO_nil ?_
  (repeat first | refine G_seq ?_ | refine G_skip ?_ | refine G_endblk ?_ | refine G_block ?_ | refine G_exit rfl ?_)
  refine G_region ?_
  refine GO_q rfl rfl (ev_move rfl) ?_
  (first | refine GO_q rfl rfl (ev_nilCheck rfl) ?_ | refine GO_q rfl rfl (ev_nilCheckF (by simp) rfl) ?_)
  refine GO_q rfl rfl (ev_fieldAddr rfl) ?_
  refine GO_q rfl rfl (ev_load rfl (by repeat' first | exact Ld.blk rfl | assumption | apply Ld.skip | apply Ld.app)) ?_
  refine GO_q rfl rfl (ev_move rfl) ?_
  refine GO_eff rfl rfl (eff_call rfl (Ctr.pick (by repeat' first | exact Pick.here | apply Pick.skip | apply Pick.app) (push_ctr s A29 _ c29 l (X.kids x).reverse _ (by repeat' first | exact Rc.own (by rw [flat_length, List.length_reverse]; rfl) hA29 | apply Rd.skip) (by omega)))) ?_; rintro _ _ ⟨rfl, rfl⟩
  refine GO_nil ?_
  (repeat first | refine G_seq ?_ | refine G_skip ?_ | refine G_endblk ?_ | refine G_block ?_ | refine G_exit rfl ?_)
  refine G_region ?_
  refine GO_q rfl rfl (ev_assign rfl) ?_
  refine GO_nil ?_
  (repeat first | refine G_seq ?_ | refine G_skip ?_ | refine G_endblk ?_ | refine G_block ?_ | refine G_exit rfl ?_)
  exact G_ret (L' := blk bw 84 (wkC X s (n + 1)) :: stkS s 65536 (l ++ (X.kids x).reverse) :: X.V (X.upd x st) :: L) rfl (.tmp rfl .nil) (by (repeat first | exact en_refl | (apply en_blk; focus ((repeat' first | exact Pick.here | apply Pick.skip | apply Pick.app); done); focus rfl) | (apply en_own; focus ((repeat' first | exact Pick.here | apply Pick.skip | apply Pick.app); done); focus rfl) | (apply en_pick; focus ((repeat' first | exact Pick.here | apply Pick.skip | apply Pick.app); done)) | apply en_drop | apply en_app) <;> fail) ⟨rfl, rfl⟩
theorem walk1_ctr {S : Type} (X : Vis S) (b8 b4 bw s k r : Nat) (l : List PA) (st : S) (L L0 : List HP) (hX : X.Good L0) (hM : ∀ h, sat L h → sat L0 h) (hI : X.I l st r) (hk : k ≤ 100000000) :
    Ctr Tryz.prog 40 #[.pointer (some ⟨b8, 0, none⟩), .pointer (some ⟨b4, 0, none⟩)] (blk b8 82 [.pointer (some ⟨bw, 0, none⟩)] :: blk b4 3 [.int .i64 (k : Nat)] :: blk bw 84 (wkC X s 0) :: stkS s 65536 l :: X.V st :: L)
      fun v L' => ∃ l' st', X.I l' st' (r - min k r) ∧ L' = blk b8 82 [.pointer (some ⟨bw, 0, none⟩)] :: blk b4 3 [.int .i64 (k : Nat)] :: blk bw 84 (wkC X s (min k r)) :: stkS s 65536 l' :: X.V st' :: L := by
  refine Ctr_of (fn := Tryz.f40) (n := 12) Tryz.func40 rfl rfl rfl ?_
  intro g F
  (repeat first | refine G_seq ?_ | refine G_skip ?_ | refine G_endblk ?_ | refine G_block ?_ | refine G_exit rfl ?_)
  refine G_loop (ι := List PA × S × Nat) (fun _ => [(0, .pointer (some ⟨b8, 0, none⟩)), (1, .pointer (some ⟨b4, 0, none⟩))]) (fun y => blk b8 82 [.pointer (some ⟨bw, 0, none⟩)] :: blk b4 3 [.int .i64 (k : Nat)] :: blk bw 84 (wkC X s y.2.2) :: stkS s 65536 y.1 :: X.V y.2.1 :: F :: L) (fun y => y.2.2 ≤ k ∧ y.2.2 ≤ r ∧ X.I y.1 y.2.1 (r - y.2.2)) (fun y => r - y.2.2) (l, st, 0) ⟨Nat.zero_le _, Nat.zero_le _, hI⟩ ⟨rfl, rfl, trivial⟩ (by (repeat first | exact en_refl | (apply en_blk; focus ((repeat' first | exact Pick.here | apply Pick.skip | apply Pick.app); done); focus rfl) | (apply en_own; focus ((repeat' first | exact Pick.here | apply Pick.skip | apply Pick.app); done); focus rfl) | (apply en_pick; focus ((repeat' first | exact Pick.here | apply Pick.skip | apply Pick.app); done)) | apply en_drop | apply en_app) <;> fail) ?_
  rintro ⟨l1, st1, j⟩ ⟨f1, f2, f3⟩
  simp only at f1 f2 f3
  dsimp only
  by_cases hj : j < k
  · rcases List.eq_nil_or_concat l1 with h | ⟨l0, x, h⟩
    · subst h
      have h0 := hX.stop _ _ f3
      (repeat first | refine G_seq ?_ | refine G_skip ?_ | refine G_endblk ?_ | refine G_block ?_ | refine G_exit rfl ?_)
      refine G_draw (.q 0 (.q 1 (.q 2 (.q 3 (.q 4 (.q 5 (.q 6 (.q 7 (.e 8 (.q 9 .nil)))))))))) (by kernel_rfl) (by kernel_rfl) ?_
      refine RS_q retB_noPanic rfl rfl rfl rfl (ev_load rfl (by repeat' first | exact Ld.blk rfl | assumption | apply Ld.skip | apply Ld.app)) ?_
      (first | refine RS_m retB_noPanic rfl rfl rfl rfl (ev_nilCheck rfl) ?_ | refine RS_m retB_noPanic rfl rfl rfl rfl (ev_nilCheckF (by simp) rfl) ?_)
      refine RS_m retB_noPanic rfl rfl rfl rfl (ev_fieldAddr rfl) ?_
      refine RS_q retB_noPanic rfl rfl rfl rfl (ev_load rfl (by repeat' first | exact Ld.blk rfl | assumption | apply Ld.skip | apply Ld.app)) ?_
      refine RS_q retB_noPanic rfl rfl rfl rfl (ev_load rfl (by repeat' first | exact Ld.blk rfl | assumption | apply Ld.skip | apply Ld.app)) ?_
      (first | refine RS_m retB_noPanic rfl rfl rfl rfl (ev_lssN rfl rfl) ?_ | refine RS_m retB_noPanic rfl rfl rfl rfl (ev_lss rfl rfl) ?_)
      refine RS_m retB_noPanic rfl rfl rfl rfl (ev_move rfl) ?_
      refine RS_q_yes retB_noPanic rfl rfl rfl rfl ⟨_, rfl, (decide_eq_true (by omega))⟩ rfl (ev_load rfl (by repeat' first | exact Ld.blk rfl | assumption | apply Ld.skip | apply Ld.app)) ?_
      refine RS_e (RE_cmp_yes (by kernel_rfl) rfl rfl rfl ⟨_, rfl, (decide_eq_true (by omega))⟩ rfl (eff_call rfl (Ctr.pre (M := blk bw 84 (wkC X s j) :: stkS s 65536 [] :: blk b8 82 [.pointer (some ⟨bw, 0, none⟩)] :: blk b4 3 [.int .i64 (k : Nat)] :: X.V st1 :: F :: L) (by (repeat first | exact en_refl | (apply en_blk; focus ((repeat' first | exact Pick.here | apply Pick.skip | apply Pick.app); done); focus rfl) | (apply en_own; focus ((repeat' first | exact Pick.here | apply Pick.skip | apply Pick.app); done); focus rfl) | (apply en_pick; focus ((repeat' first | exact Pick.here | apply Pick.skip | apply Pick.app); done)) | apply en_drop | apply en_app) <;> fail) (wstep_nil_ctr X bw s j _))) ?_); rintro _ _ ⟨rfl, rfl⟩
      refine RS_m retB_noPanic rfl rfl rfl rfl (ev_pick_t rfl (decide_eq_true (by omega)) rfl) ?_
      refine RS_nil ?_
      (repeat first | refine G_seq ?_ | refine G_skip ?_ | refine G_endblk ?_ | refine G_block ?_ | refine G_exit rfl ?_)
      refine G_cond_f rfl rfl ?_
      (repeat first | refine G_seq ?_ | refine G_skip ?_ | refine G_endblk ?_ | refine G_block ?_ | refine G_exit rfl ?_)
      have e : min k r = j := by omega
      refine G_end (L' := blk b8 82 [.pointer (some ⟨bw, 0, none⟩)] :: blk b4 3 [.int .i64 (k : Nat)] :: blk bw 84 (wkC X s j) :: stkS s 65536 [] :: X.V st1 :: L) rfl .nil (by (repeat first | exact en_refl | (apply en_blk; focus ((repeat' first | exact Pick.here | apply Pick.skip | apply Pick.app); done); focus rfl) | (apply en_own; focus ((repeat' first | exact Pick.here | apply Pick.skip | apply Pick.app); done); focus rfl) | (apply en_pick; focus ((repeat' first | exact Pick.here | apply Pick.skip | apply Pick.app); done)) | apply en_drop | apply en_app) <;> fail) ?_
      rw [e]
      exact ⟨[], st1, f3, rfl⟩
    · rw [List.concat_eq_append] at h
      subst h
      obtain ⟨k1, k2⟩ := hX.cap _ _ _ f3
      obtain ⟨r', e1, e2⟩ := hX.next _ _ _ _ f3
      have k3 := k2 x (List.mem_append.2 (.inr (List.mem_singleton.2 rfl)))
      rw [List.length_append] at k1
      (repeat first | refine G_seq ?_ | refine G_skip ?_ | refine G_endblk ?_ | refine G_block ?_ | refine G_exit rfl ?_)
      refine G_draw (.q 0 (.q 1 (.q 2 (.q 3 (.q 4 (.q 5 (.q 6 (.q 7 (.e 8 (.q 9 .nil)))))))))) (by kernel_rfl) (by kernel_rfl) ?_
      refine RS_q retB_noPanic rfl rfl rfl rfl (ev_load rfl (by repeat' first | exact Ld.blk rfl | assumption | apply Ld.skip | apply Ld.app)) ?_
      (first | refine RS_m retB_noPanic rfl rfl rfl rfl (ev_nilCheck rfl) ?_ | refine RS_m retB_noPanic rfl rfl rfl rfl (ev_nilCheckF (by simp) rfl) ?_)
      refine RS_m retB_noPanic rfl rfl rfl rfl (ev_fieldAddr rfl) ?_
      refine RS_q retB_noPanic rfl rfl rfl rfl (ev_load rfl (by repeat' first | exact Ld.blk rfl | assumption | apply Ld.skip | apply Ld.app)) ?_
      refine RS_q retB_noPanic rfl rfl rfl rfl (ev_load rfl (by repeat' first | exact Ld.blk rfl | assumption | apply Ld.skip | apply Ld.app)) ?_
      (first | refine RS_m retB_noPanic rfl rfl rfl rfl (ev_lssN rfl rfl) ?_ | refine RS_m retB_noPanic rfl rfl rfl rfl (ev_lss rfl rfl) ?_)
      refine RS_m retB_noPanic rfl rfl rfl rfl (ev_move rfl) ?_
      refine RS_q_yes retB_noPanic rfl rfl rfl rfl ⟨_, rfl, (decide_eq_true (by omega))⟩ rfl (ev_load rfl (by repeat' first | exact Ld.blk rfl | assumption | apply Ld.skip | apply Ld.app)) ?_
      refine RS_e (RE_cmp_yes (by kernel_rfl) rfl rfl rfl ⟨_, rfl, (decide_eq_true (by omega))⟩ rfl (eff_call rfl (Ctr.frame [blk b8 82 [.pointer (some ⟨bw, 0, none⟩)], blk b4 3 [.int .i64 (k : Nat)], F] (wstep_ctr X bw s j l0 x st1 L L0 hX hM k3.1 k3.2 (by omega) (by omega)) (by (repeat first | exact en_refl | (apply en_blk; focus ((repeat' first | exact Pick.here | apply Pick.skip | apply Pick.app); done); focus rfl) | (apply en_own; focus ((repeat' first | exact Pick.here | apply Pick.skip | apply Pick.app); done); focus rfl) | (apply en_pick; focus ((repeat' first | exact Pick.here | apply Pick.skip | apply Pick.app); done)) | apply en_drop | apply en_app) <;> fail))) ?_); rintro _ _ ⟨_, ⟨rfl, rfl⟩, rfl⟩
      refine RS_m retB_noPanic rfl rfl rfl rfl (ev_pick_t rfl (decide_eq_true (by omega)) rfl) ?_
      refine RS_nil ?_
      (repeat first | refine G_seq ?_ | refine G_skip ?_ | refine G_endblk ?_ | refine G_block ?_ | refine G_exit rfl ?_)
      refine G_cond_t rfl rfl ?_
      (repeat first | refine G_seq ?_ | refine G_skip ?_ | refine G_endblk ?_ | refine G_block ?_ | refine G_exit rfl ?_)
      exact G_round (l0 ++ (X.kids x).reverse, X.upd x st1, j + 1) ⟨by simp only; omega, by simp only; omega, by simp only; rw [show r - (j + 1) = r' by omega]; exact e2⟩ (by simp only; omega) ⟨rfl, rfl, trivial⟩ (by (repeat first | exact en_refl | (apply en_blk; focus ((repeat' first | exact Pick.here | apply Pick.skip | apply Pick.app); done); focus rfl) | (apply en_own; focus ((repeat' first | exact Pick.here | apply Pick.skip | apply Pick.app); done); focus rfl) | (apply en_pick; focus ((repeat' first | exact Pick.here | apply Pick.skip | apply Pick.app); done)) | apply en_drop | apply en_app) <;> fail)
  · skip
    (repeat first | refine G_seq ?_ | refine G_skip ?_ | refine G_endblk ?_ | refine G_block ?_ | refine G_exit rfl ?_)
    refine G_draw (.q 0 (.q 1 (.q 2 (.q 3 (.q 4 (.q 5 (.q 6 (.q 7 (.e 8 (.q 9 .nil)))))))))) (by kernel_rfl) (by kernel_rfl) ?_
    refine RS_q retB_noPanic rfl rfl rfl rfl (ev_load rfl (by repeat' first | exact Ld.blk rfl | assumption | apply Ld.skip | apply Ld.app)) ?_
    (first | refine RS_m retB_noPanic rfl rfl rfl rfl (ev_nilCheck rfl) ?_ | refine RS_m retB_noPanic rfl rfl rfl rfl (ev_nilCheckF (by simp) rfl) ?_)
    refine RS_m retB_noPanic rfl rfl rfl rfl (ev_fieldAddr rfl) ?_
    refine RS_q retB_noPanic rfl rfl rfl rfl (ev_load rfl (by repeat' first | exact Ld.blk rfl | assumption | apply Ld.skip | apply Ld.app)) ?_
    refine RS_q retB_noPanic rfl rfl rfl rfl (ev_load rfl (by repeat' first | exact Ld.blk rfl | assumption | apply Ld.skip | apply Ld.app)) ?_
    (first | refine RS_m retB_noPanic rfl rfl rfl rfl (ev_lssN rfl rfl) ?_ | refine RS_m retB_noPanic rfl rfl rfl rfl (ev_lss rfl rfl) ?_)
    refine RS_m retB_noPanic rfl rfl rfl rfl (ev_move rfl) ?_
    refine RS_q_no retB_noPanic rfl rfl rfl ⟨_, rfl, (decide_eq_false (by omega))⟩ rfl ?_
    refine RS_e (RE_no rfl rfl rfl ⟨_, rfl, (decide_eq_false (by omega))⟩ rfl ?_)
    refine RS_m retB_noPanic rfl rfl rfl rfl (ev_pick_f rfl (decide_eq_false (by omega)) rfl) ?_
    refine RS_nil ?_
    (repeat first | refine G_seq ?_ | refine G_skip ?_ | refine G_endblk ?_ | refine G_block ?_ | refine G_exit rfl ?_)
    refine G_cond_f rfl rfl ?_
    (repeat first | refine G_seq ?_ | refine G_skip ?_ | refine G_endblk ?_ | refine G_block ?_ | refine G_exit rfl ?_)
    have e : min k r = j := by omega
    refine G_end (L' := blk b8 82 [.pointer (some ⟨bw, 0, none⟩)] :: blk b4 3 [.int .i64 (k : Nat)] :: blk bw 84 (wkC X s j) :: stkS s 65536 l1 :: X.V st1 :: L) rfl .nil (by (repeat first | exact en_refl | (apply en_blk; focus ((repeat' first | exact Pick.here | apply Pick.skip | apply Pick.app); done); focus rfl) | (apply en_own; focus ((repeat' first | exact Pick.here | apply Pick.skip | apply Pick.app); done); focus rfl) | (apply en_pick; focus ((repeat' first | exact Pick.here | apply Pick.skip | apply Pick.app); done)) | apply en_drop | apply en_app) <;> fail) ?_
    rw [e]
    exact ⟨l1, st1, f3, rfl⟩
theorem Walk_ctr {S : Type} (X : Vis S) (s k r : Nat) (l : List PA) (st : S) (L L0 : List HP) (hX : X.Good L0) (hM : ∀ h, sat L h → sat L0 h) (hI : X.I l st r) (hk : k ≤ 100000000) :
    Ctr Tryz.prog 23 #[.pointer (some ⟨s, 0, none⟩), .int .i64 (k : Nat), .func (.func X.f) X.c1.toArray X.c2.toArray] (stkS s 65536 l :: X.V st :: L)
      fun v L' => ∃ l' st', v = .tuple #[.int .i64 (min k r : Nat), .int .i64 0] ∧ X.I l' st' (r - min k r) ∧ L' = stkS s 65536 l' :: X.V st' :: L := by
  refine Ctr_of (fn := Tryz.f23) (n := 36) Tryz.func23 rfl rfl rfl ?_
  intro g F
  (repeat first | refine G_seq ?_ | refine G_skip ?_ | refine G_endblk ?_ | refine G_block ?_ | refine G_exit rfl ?_)
  refine G_region ?_
  refine GO_eff rfl rfl (eff_box rfl) ?_; rintro _ _ ⟨b4, rfl, rfl⟩
  refine GO_q rfl rfl (ev_assign rfl) ?_
  refine GO_q rfl rfl (ev_assign rfl) ?_
  refine GO_nil ?_
  (repeat first | refine G_seq ?_ | refine G_skip ?_ | refine G_endblk ?_ | refine G_block ?_ | refine G_exit rfl ?_)
  refine G_region ?_
  refine GO_q rfl rfl (ev_move rfl) ?_
  (first | refine GO_q rfl rfl (ev_eqlNil rfl rfl) ?_ | refine GO_q rfl rfl (ev_eqlPtr rfl rfl) ?_)
  refine GO_q rfl rfl (ev_move rfl) ?_
  refine GO_yes rfl rfl rfl rfl ?_
  refine GO_q rfl rfl (ev_move rfl) ?_
  refine GO_yes rfl rfl rfl rfl ?_
  refine GO_q rfl rfl (ev_eqlNilF rfl rfl) ?_
  refine GO_q rfl rfl (ev_pick_f rfl rfl rfl) ?_
  refine GO_q rfl rfl (ev_move rfl) ?_
  refine GO_yes rfl rfl rfl rfl ?_
  refine GO_q rfl rfl (ev_load rfl (by repeat' first | exact Ld.blk rfl | assumption | apply Ld.skip | apply Ld.app)) ?_
  refine GO_yes rfl rfl rfl rfl ?_
  (first | refine GO_q rfl rfl (ev_lssN (q := 0) rfl rfl) ?_ | refine GO_q rfl rfl (ev_lss rfl rfl) ?_)
  refine GO_q rfl rfl (ev_pick_f rfl rfl rfl) ?_
  refine GO_nil ?_
  (repeat first | refine G_seq ?_ | refine G_skip ?_ | refine G_endblk ?_ | refine G_block ?_ | refine G_exit rfl ?_)
  refine G_cond_f rfl (decide_eq_false (by omega)) ?_
  (repeat first | refine G_seq ?_ | refine G_skip ?_ | refine G_endblk ?_ | refine G_block ?_ | refine G_exit rfl ?_)
  refine G_region ?_
  refine GO_q rfl rfl (ev_move rfl) ?_
  refine GO_q rfl rfl (ev_move rfl) ?_
  refine GO_q rfl rfl (ev_build rfl rfl) ?_
  refine GO_eff rfl rfl (eff_box rfl) ?_; rintro _ _ ⟨b24, rfl, rfl⟩
  refine GO_eff rfl rfl eff_alloc ?_; rintro _ _ ⟨b8, rfl, rfl⟩
  refine GO_eff rfl rfl (eff_store rfl rfl rfl (by repeat' first | exact Upd.here rfl | apply Upd.skip | apply Upd.app)) ?_; rintro _ _ ⟨rfl, rfl⟩
  refine GO_nil ?_
  (repeat first | refine G_seq ?_ | refine G_skip ?_ | refine G_endblk ?_ | refine G_block ?_ | refine G_exit rfl ?_)
  refine G_region ?_
  refine GO_q rfl rfl (ev_makeFunc rfl rfl) ?_
  refine GO_eff rfl rfl (eff_call rfl (Ctr.frame [F] (Catch_ctr (c1 := []) (c2 := [.pointer (some ⟨b8, 0, none⟩), .pointer (some ⟨b4, 0, none⟩)]) (walk1_ctr X b8 b4 b24 s k r l st L L0 hX hM hI hk)) (by (repeat first | exact en_refl | (apply en_blk; focus ((repeat' first | exact Pick.here | apply Pick.skip | apply Pick.app); done); focus rfl) | (apply en_own; focus ((repeat' first | exact Pick.here | apply Pick.skip | apply Pick.app); done); focus rfl) | (apply en_pick; focus ((repeat' first | exact Pick.here | apply Pick.skip | apply Pick.app); done)) | apply en_drop | apply en_app) <;> fail))) ?_; rintro _ _ ⟨_, ⟨rfl, l', st', hI', rfl⟩, rfl⟩
  refine GO_q rfl rfl (ev_move rfl) ?_
  refine GO_q rfl rfl (ev_extract rfl rfl) ?_
  refine GO_q rfl rfl (ev_extract rfl rfl) ?_
  refine GO_eff rfl rfl eff_alloc ?_; rintro _ _ ⟨b9, rfl, rfl⟩
  refine GO_eff rfl rfl (eff_storeN rfl rfl rfl rfl (by repeat' first | exact Upd.here rfl | apply Upd.skip | apply Upd.app)) ?_; rintro _ _ ⟨rfl, rfl⟩
  refine GO_q rfl rfl (ev_assign rfl) ?_
  refine GO_nil ?_
  (repeat first | refine G_seq ?_ | refine G_skip ?_ | refine G_endblk ?_ | refine G_block ?_ | refine G_exit rfl ?_)
  refine G_draw (.q 0 (.q 1 (.q 2 (.q 3 (.q 4 (.q 5 (.q 6 (.q 7 .nil)))))))) (by kernel_rfl) (by kernel_rfl) ?_
  refine RS_q retB_noPanic rfl rfl rfl rfl (ev_load rfl (by repeat' first | exact Ld.blk rfl | assumption | apply Ld.skip | apply Ld.app)) ?_
  (first | refine RS_m retB_noPanic rfl rfl rfl rfl (ev_nilCheck rfl) ?_ | refine RS_m retB_noPanic rfl rfl rfl rfl (ev_nilCheckF (by simp) rfl) ?_)
  refine RS_m retB_noPanic rfl rfl rfl rfl (ev_fieldAddr rfl) ?_
  refine RS_q retB_noPanic rfl rfl rfl rfl (ev_load rfl (by repeat' first | exact Ld.blk rfl | assumption | apply Ld.skip | apply Ld.app)) ?_
  refine RS_m retB_noPanic rfl rfl rfl rfl (ev_fieldAddr rfl) ?_
  refine RS_q retB_noPanic rfl rfl rfl rfl (ev_load rfl (by repeat' first | exact Ld.blk rfl | assumption | apply Ld.skip | apply Ld.app)) ?_
  refine RS_m retB_noPanic rfl rfl rfl rfl (ev_assign rfl) ?_
  refine RS_m retB_noPanic rfl rfl rfl rfl (ev_assign rfl) ?_
  refine RS_nil ?_
  (repeat first | refine G_seq ?_ | refine G_skip ?_ | refine G_endblk ?_ | refine G_block ?_ | refine G_exit rfl ?_)
  exact G_ret (L' := stkS s 65536 l' :: X.V st' :: L) rfl (.tmp rfl (.tmp rfl .nil)) (by (repeat first | exact en_refl | (apply en_blk; focus ((repeat' first | exact Pick.here | apply Pick.skip | apply Pick.app); done); focus rfl) | (apply en_own; focus ((repeat' first | exact Pick.here | apply Pick.skip | apply Pick.app); done); focus rfl) | (apply en_pick; focus ((repeat' first | exact Pick.here | apply Pick.skip | apply Pick.app); done)) | apply en_drop | apply en_app) <;> fail) ⟨l', st', rfl, hI', rfl⟩
end Go.Proofs.YtalcanejhniepaaGreat
/- A cursor over a heap of points: what lies in memory. -/
namespace Go.Proofs.YtalcanejhniepaaGreat
set_option linter.unusedVariables false
set_option linter.unusedSimpArgs false

theorem ev_max0 {P : Program} {L : List HP} {σ : Env} {d : Option Nat} {ty : TypeId} {ts : Array TypeId} {pos : String} {aft : Array Edge} {gd : Option (Nat × Bool)} {x : Operand} {p : Int} (hx : ev σ x = some (.int .i64 p)) :
    Ev P L σ ⟨d, .call ⟨.builtin .max, #[x, .const (.int .i64 0)], ts⟩, ty, pos, aft, gd⟩ (.int .i64 (p.toNat : Nat)) := by
  have h := ev_max (P := P) (L := L) (d := d) (ty := ty) (ts := ts) (pos := pos) (aft := aft) (gd := gd) (x := x) (y := .const (.int .i64 0)) hx rfl
  have e : max p 0 = ((p.toNat : Nat) : Int) := by omega
  rwa [e] at h
@[reducible] def curC (s : Nat) (w : Wn) (whole : Bool) (A : Option Addr) (m c n k : Nat) : List Value := [.pointer (some ⟨s, 0, none⟩), .int .i64 w.x1, .int .i64 w.x2, .int .i64 w.y, .bool whole, .slice A m c, .int .i64 (n : Nat), .int .i64 (k : Nat)]
def curS (b s : Nat) (w : Wn) (whole : Bool) (ids : List Int) (n k : Nat) : HP := fun h => ∃ y : Option Addr × Nat, (0 < ids.length → ∃ b, y.1 = some ⟨b, 0, none⟩) ∧ sat [blk b 59 (curC s w whole y.1 ids.length y.2 n k), own 3 1 y.1 ids.length y.2 (flat ids)] h
theorem cur_open {b s n k : Nat} {w : Wn} {whole : Bool} {ids : List Int} {M : List HP} {hm : Hm} (h : sat (curS b s w whole ids n k :: M) hm) : ∃ A c, (0 < ids.length → ∃ b, A = some ⟨b, 0, none⟩) ∧ ids.length ≤ c ∧ c ≤ maxLen ∧ sat (blk b 59 (curC s w whole A ids.length c n k) :: own 3 1 A ids.length c (flat ids) :: M) hm := by
  obtain ⟨h1, h2, d, s1, s2, ⟨⟨A, c⟩, hA, q⟩, t⟩ := h
  have q0 := own.facts (L := []) q.tail
  exact ⟨A, c, hA, q0.2.1, q0.2.2.1, sat.head (A := fun h => h = h1) (N := [blk b 59 (curC s w whole A ids.length c n k), own 3 1 A ids.length c (flat ids)]) (fun _ e => e ▸ q) ⟨h1, h2, d, s1, s2, rfl, t⟩⟩
theorem Ctr.cur {P : Program} {f : FuncId} {args : Array Value} {L : List HP} {b s n k : Nat} {w : Wn} {whole : Bool} {ids : List Int} {post : Value → List HP → Prop}
    (C : ∀ A c, (0 < ids.length → ∃ b, A = some ⟨b, 0, none⟩) → ids.length ≤ c → c ≤ maxLen → Ctr P f args (blk b 59 (curC s w whole A ids.length c n k) :: own 3 1 A ids.length c (flat ids) :: L) post) : Ctr P f args (curS b s w whole ids n k :: L) post := fun g F v hw => by
  obtain ⟨A, c, h1, h2, h3, h4⟩ := cur_open hw.s.swap
  exact C A c h1 h2 h3 g F v ⟨hw.g, h4.perm (List.perm_middle (l₁ := [_, _]))⟩
theorem G_cur {P : Program} {B : Exit → Act → World → Prop} {g : Glob} {N : Nat} {K : List Kt} {σ : Env} {L : List HP} {b s n k : Nat} {w : Wn} {whole : Bool} {ids : List Int}
    (h : ∀ A c, (0 < ids.length → ∃ b, A = some ⟨b, 0, none⟩) → ids.length ≤ c → c ≤ maxLen → G P B g N K σ (blk b 59 (curC s w whole A ids.length c n k) :: own 3 1 A ids.length c (flat ids) :: L)) : G P B g N K σ (curS b s w whole ids n k :: L) := fun a v hs hw => by
  obtain ⟨A, c, h1, h2, h3, h4⟩ := cur_open hw.s
  exact h A c h1 h2 h3 a v hs ⟨hw.g, h4⟩
theorem en_cur {L M : List HP} {b s c n k : Nat} {A : Option Addr} {w : Wn} {whole : Bool} {ids : List Int} (hA : 0 < ids.length → ∃ b, A = some ⟨b, 0, none⟩) (f : ∀ h, sat L h → sat (blk b 59 (curC s w whole A ids.length c n k) :: own 3 1 A ids.length c (flat ids) :: M) h) : ∀ h, sat L h → sat (curS b s w whole ids n k :: M) h := fun h t =>
  sat.fold (N := [_, _]) (fun h q => ⟨(A, c), hA, q⟩) (f h t)
/-- What is told of the next ones: what is found, in order; how many. -/
structure CurI (w : Wn) (whole : Bool) (tot : List Int) (L0 : List HP) (l : List PA) (st : List Int × Nat) (r : Nat) : Prop where
  rest : r = cntL w l
  small : r ≤ 60000
  ok : ∀ x ∈ l, PIn L0 x
  ids : whole = true → st.1 ++ seenL w l.reverse = tot
  none : whole = false → st.1 = []
  many : st.2 + (seenL w l.reverse).length = tot.length
@[reducible] def cvis (b s : Nat) (w : Wn) (whole : Bool) (k : Nat) (tot : List Int) (L0 : List HP) : Vis (List Int × Nat) where
  V := fun st => curS b s w whole st.1 st.2 k
  ok := fun x st => PIn L0 x ∧ st.1.length ≤ 1000000 ∧ st.2 ≤ 1000000
  kids := fun x => x.next w
  upd := fun x st => (if x.hit w && whole then st.1 ++ [x.id] else st.1, if x.hit w then st.2 + 1 else st.2)
  f := 24
  c1 := [.pointer (some ⟨b, 0, none⟩)]
  c2 := []
  I := CurI w whole tot L0
theorem flat_addrs : ∀ l : List PA, flat (addrs l) = flat l
  | [] => rfl
  | x :: l => by
    have e : addrs (x :: l) = x.addr :: addrs l := rfl
    rw [e, flat_cons, flat_cons, flat_addrs l]; rfl
theorem CurI.len {w : Wn} {whole : Bool} {tot : List Int} {L0 : List HP} {l : List PA} {st : List Int × Nat} {r : Nat} (h : CurI w whole tot L0 l st r) (hb : tot.length ≤ 1000000) : st.1.length ≤ 1000000 := by
  cases whole with
  | true =>
    have := congrArg List.length (h.ids rfl)
    rw [List.length_append] at this
    omega
  | false => rw [h.none rfl]; exact Nat.zero_le _
theorem PA.cnt_pos (w : Wn) (x : PA) : 1 ≤ x.cnt w := by rw [x.cnt_eq w]; omega
theorem cntL_len (w : Wn) : ∀ l : List PA, l.length ≤ cntL w l
  | [] => Nat.le_refl _
  | x :: l => by
    have h1 := cntL_len w l
    have h2 := x.cnt_pos w
    simp only [cntL, List.map_cons, List.sum_cons, List.length_cons] at h1 ⊢
    omega
theorem cntL_rev (w : Wn) (l : List PA) : cntL w l.reverse = cntL w l := ((List.reverse_perm l).map _).sum_nat
theorem CurI.next {w : Wn} {whole : Bool} {tot : List Int} {L0 : List HP} {l : List PA} {x : PA} {st : List Int × Nat} {r : Nat} (h : CurI w whole tot L0 (l ++ [x]) st r) :
    ∃ r', r = r' + 1 ∧ CurI w whole tot L0 (l ++ (x.next w).reverse) (if x.hit w && whole then st.1 ++ [x.id] else st.1, if x.hit w then st.2 + 1 else st.2) r' := by
  have h1 := h.rest
  have h2 := h.small
  have hx := h.ok x (List.mem_append.2 (.inr (List.mem_singleton.2 rfl)))
  have e1 : cntL w (l ++ [x]) = cntL w l + (1 + cntL w (x.next w)) := by rw [cntL_app, ← x.cnt_eq w]; simp [cntL]
  have e2 : seenL w (l ++ [x]).reverse = (if x.hit w then [x.id] else []) ++ (seenL w (x.next w) ++ seenL w l.reverse) := by
    rw [List.reverse_append, List.reverse_singleton, seenL_app]
    have : seenL w [x] = x.seen w := by simp [seenL]
    rw [this, x.seen_eq w, List.append_assoc]
  have e3 : seenL w (l ++ (x.next w).reverse).reverse = seenL w (x.next w) ++ seenL w l.reverse := by rw [List.reverse_append, List.reverse_reverse, seenL_app]
  have e4 : cntL w (l ++ (x.next w).reverse) = cntL w l + cntL w (x.next w) := by rw [cntL_app, cntL_rev]
  refine ⟨cntL w l + cntL w (x.next w), by omega, e4.symm, by omega, fun y hy => ?_, fun hw => ?_, fun hw => ?_, ?_⟩
  · rcases List.mem_append.1 hy with hy | hy
    · exact h.ok y (List.mem_append.2 (.inl hy))
    · exact next_in w hx y (List.mem_reverse.1 hy)
  · have := h.ids hw
    rw [e2] at this
    rw [e3, ← this]
    simp only [hw, Bool.and_true]
    cases x.hit w <;> simp
  · have := h.none hw
    simp only [hw, Bool.and_false]
    exact this
  · have := h.many
    rw [e2] at this
    rw [e3, ← this]
    cases x.hit w <;> simp <;> omega
end Go.Proofs.YtalcanejhniepaaGreat
/- A cursor over a heap of points: the walks. -/
namespace Go.Proofs.YtalcanejhniepaaGreat
attribute [local irreducible] sat
set_option linter.unusedVariables false
set_option linter.unusedSimpArgs false
set_option maxRecDepth 100000

theorem Look_ctr' (x : PA) (w : Wn) (L : List HP) (h : PIn L x) : Ctr Tryz.prog 37 #[.pointer x.addr, .agg #[.int .i64 w.x1, .int .i64 w.x2, .int .i64 w.y]] L fun v L' => ∃ A c, v = .tuple #[.bool (x.hit w), .slice A (x.next w).length c] ∧ (0 < (x.next w).length → ∃ b, A = some ⟨b, 0, none⟩) ∧ L' = own 50 1 A (x.next w).length c (flat (x.next w)) :: L :=
  (Look_ctr x w L h).mono fun v L' ⟨A, c, e1, e2, e3⟩ => ⟨A, c, e1, e2, by rw [e3, flat_addrs]⟩
theorem cvisit_ctr (b s k : Nat) (w : Wn) (whole : Bool) (ids : List Int) (n : Nat) (x : PA) (L : List HP) (hx : PIn L x) (hn : n ≤ 1000000) (hi : ids.length ≤ 1000000) :
    Ctr Tryz.prog 24 #[.pointer (some ⟨b, 0, none⟩), .pointer x.addr] (curS b s w whole ids n k :: L) fun v L' => Made 50 (x.next w) (curS b s w whole (if x.hit w && whole then ids ++ [x.id] else ids) (if x.hit w then n + 1 else n) k :: L) v L' := by
  refine Ctr.cur fun A c hA hc hc2 => ?_
  refine Ctr_of (fn := Tryz.f24) (n := 46) Tryz.func24 rfl rfl rfl ?_
  intro g F
  (repeat first | refine G_seq ?_ | refine G_skip ?_ | refine G_endblk ?_ | refine G_block ?_ | refine G_exit rfl ?_)
  refine G_region ?_
  refine GO_q rfl rfl (ev_assign rfl) ?_
  refine GO_nil ?_
  (repeat first | refine G_seq ?_ | refine G_skip ?_ | refine G_endblk ?_ | refine G_block ?_ | refine G_exit rfl ?_)
  refine G_region ?_
  refine GO_q rfl rfl (ev_move rfl) ?_
  refine GO_q rfl rfl (ev_move rfl) ?_
  (first | refine GO_q rfl rfl (ev_nilCheck rfl) ?_ | refine GO_q rfl rfl (ev_nilCheckF (by simp) rfl) ?_)
  refine GO_q rfl rfl (ev_fieldAddr rfl) ?_
  refine GO_q rfl rfl (ev_loadN rfl (by repeat' first | exact LdN.blk rfl | assumption | apply LdN.skip | apply LdN.app)) ?_
  refine GO_eff rfl rfl (eff_call rfl (Look_ctr' x w _ hx.skip.skip.skip)) ?_; rintro _ _ ⟨A13, c13, rfl, hA13, rfl⟩
  refine GO_q rfl rfl (ev_move rfl) ?_
  refine GO_q rfl rfl (ev_extract rfl rfl) ?_
  refine GO_q rfl rfl (ev_extract rfl rfl) ?_
  refine GO_q rfl rfl (ev_assign rfl) ?_
  refine GO_q rfl rfl (ev_assign rfl) ?_
  refine GO_nil ?_
  cases hh : x.hit w with
  | false =>
    (repeat first | refine G_seq ?_ | refine G_skip ?_ | refine G_endblk ?_ | refine G_block ?_ | refine G_exit rfl ?_)
    refine G_region ?_
    refine GO_q rfl rfl (ev_move rfl) ?_
    refine GO_q rfl rfl (ev_move rfl) ?_
    refine GO_no rfl rfl rfl rfl ?_
    refine GO_no rfl rfl rfl rfl ?_
    refine GO_no rfl rfl rfl rfl ?_
    refine GO_no rfl rfl rfl rfl ?_
    refine GO_q rfl rfl (ev_pick_f rfl rfl rfl) ?_
    refine GO_q rfl rfl (ev_assign rfl) ?_
    refine GO_nil ?_
    (repeat first | refine G_seq ?_ | refine G_skip ?_ | refine G_endblk ?_ | refine G_block ?_ | refine G_exit rfl ?_)
    refine G_cond_f rfl rfl ?_
    (repeat first | refine G_seq ?_ | refine G_skip ?_ | refine G_endblk ?_ | refine G_block ?_ | refine G_exit rfl ?_)
    refine G_region ?_
    refine GO_q rfl rfl (ev_move rfl) ?_
    refine GO_q rfl rfl (ev_assign rfl) ?_
    refine GO_nil ?_
    (repeat first | refine G_seq ?_ | refine G_skip ?_ | refine G_endblk ?_ | refine G_block ?_ | refine G_exit rfl ?_)
    refine G_cond_f rfl rfl ?_
    (repeat first | refine G_seq ?_ | refine G_skip ?_ | refine G_endblk ?_ | refine G_block ?_ | refine G_exit rfl ?_)
    refine G_region ?_
    refine GO_q rfl rfl (ev_move rfl) ?_
    refine GO_q rfl rfl (ev_assign rfl) ?_
    refine GO_nil ?_
    (repeat first | refine G_seq ?_ | refine G_skip ?_ | refine G_endblk ?_ | refine G_block ?_ | refine G_exit rfl ?_)
    simp only [Bool.false_and, Bool.false_eq_true, if_false]
    exact G_ret (L' := own 50 1 A13 (x.next w).length c13 (flat (x.next w)) :: curS b s w whole ids n k :: L) rfl (.tmp rfl .nil) (by (repeat first | exact en_refl | apply en_cur (c := c) hA | (apply en_blk; focus ((repeat' first | exact Pick.here | apply Pick.skip | apply Pick.app); done); focus rfl) | (apply en_own; focus ((repeat' first | exact Pick.here | apply Pick.skip | apply Pick.app); done); focus rfl) | (apply en_pick; focus ((repeat' first | exact Pick.here | apply Pick.skip | apply Pick.app); done)) | apply en_drop | apply en_app) <;> fail) ⟨A13, c13, rfl, hA13, rfl⟩
  | true =>
    cases x with
    | nil => cases hh
    | node b' p s' lo hi_ =>
      have hid : (PA.node b' p s' lo hi_).id = p.id := rfl
      have hpt : (PA.node b' p s' lo hi_).pt = p := rfl
      cases whole with
      | true =>
        (repeat first | refine G_seq ?_ | refine G_skip ?_ | refine G_endblk ?_ | refine G_block ?_ | refine G_exit rfl ?_)
        refine G_region ?_
        refine GO_q rfl rfl (ev_move rfl) ?_
        refine GO_q rfl rfl (ev_move rfl) ?_
        refine GO_yes rfl rfl rfl rfl ?_
        refine GO_q rfl rfl (ev_move rfl) ?_
        refine GO_yes rfl rfl rfl rfl ?_
        (first | refine GO_q rfl rfl (ev_nilCheck rfl) ?_ | refine GO_q rfl rfl (ev_nilCheckF (by simp) rfl) ?_)
        refine GO_yes rfl rfl rfl rfl ?_
        refine GO_q rfl rfl (ev_fieldAddr rfl) ?_
        refine GO_yes rfl rfl rfl rfl ?_
        refine GO_q rfl rfl (ev_load rfl (by repeat' first | exact Ld.blk rfl | assumption | apply Ld.skip | apply Ld.app)) ?_
        refine GO_q rfl rfl (ev_pick_t rfl rfl rfl) ?_
        refine GO_q rfl rfl (ev_assign rfl) ?_
        refine GO_nil ?_
        (repeat first | refine G_seq ?_ | refine G_skip ?_ | refine G_endblk ?_ | refine G_block ?_ | refine G_exit rfl ?_)
        refine G_cond_t rfl rfl ?_
        (repeat first | refine G_seq ?_ | refine G_skip ?_ | refine G_endblk ?_ | refine G_block ?_ | refine G_exit rfl ?_)
        refine G_draw (.q 0 (.q 1 (.q 2 (.q 3 (.q 4 (.q 5 (.e 6 (.q 7 (.e 8 (.e 9 (.q 10 (.q 11 (.e 12 .nil))))))))))))) (by kernel_rfl) (by kernel_rfl) ?_
        refine RS_m retB_noPanic rfl rfl rfl rfl (ev_move rfl) ?_
        refine RS_m retB_noPanic rfl rfl rfl rfl (ev_move rfl) ?_
        (first | refine RS_m retB_noPanic rfl rfl rfl rfl (ev_nilCheck rfl) ?_ | refine RS_m retB_noPanic rfl rfl rfl rfl (ev_nilCheckF (by simp) rfl) ?_)
        refine RS_m retB_noPanic rfl rfl rfl rfl (ev_fieldAddr rfl) ?_
        refine RS_q retB_noPanic rfl rfl rfl rfl (ev_load rfl (by repeat' first | exact Ld.blk rfl | assumption | apply Ld.skip | apply Ld.app)) ?_
        refine RS_m retB_noPanic rfl rfl rfl rfl (ev_move rfl) ?_
        refine RS_e (RE_eff rfl rfl rfl (eff_call rfl (NPoint_ctr (PA.node b' p s' lo hi_) _ hx.skip.skip.skip.skip)) ?_); rintro _ _ ⟨rfl, rfl⟩; refine ⟨_, fun _ s => s, (by first | ((repeat first | exact fun _ s => s | apply en_keep | apply en_drop | apply en_app) <;> fail) | ((repeat first | exact en_refl | (apply en_blk; focus ((repeat' first | exact Pick.here | apply Pick.skip | apply Pick.app); done); focus rfl) | (apply en_own; focus ((repeat' first | exact Pick.here | apply Pick.skip | apply Pick.app); done); focus rfl) | (apply en_pick; focus ((repeat' first | exact Pick.here | apply Pick.skip | apply Pick.app); done)) | apply en_drop | apply en_app) <;> fail)), ?_⟩
        refine RS_m retB_noPanic rfl rfl rfl rfl (ev_field rfl rfl) ?_
        refine RS_e (RE_eff rfl rfl rfl (eff_buildSlice1 (by rfl) rfl rfl) ?_); rintro _ _ ⟨b34, rfl, rfl⟩; refine ⟨_, fun _ s => s, (by first | ((repeat first | exact fun _ s => s | apply en_keep | apply en_drop | apply en_app) <;> fail) | ((repeat first | exact en_refl | (apply en_blk; focus ((repeat' first | exact Pick.here | apply Pick.skip | apply Pick.app); done); focus rfl) | (apply en_own; focus ((repeat' first | exact Pick.here | apply Pick.skip | apply Pick.app); done); focus rfl) | (apply en_pick; focus ((repeat' first | exact Pick.here | apply Pick.skip | apply Pick.app); done)) | apply en_drop | apply en_app) <;> fail)), ?_⟩
        refine RS_e (RE_cmp (by kernel_rfl) rfl rfl rfl (eff_append rfl rfl (by repeat' first | exact Pick.here | apply Pick.skip) (by repeat' first | exact Rc.blk rfl | assumption | apply Rc.skip) (one_all rfl) (by rfl) (by decide) (by first | omega | (simp; done) | (simp; omega)) (by first | omega | (simp; done) | (simp; omega))) ?_); rintro _ _ ⟨A35, c35, rfl, hc35, hm35, hn35, rfl⟩
        (first | refine RS_m retB_noPanic rfl rfl rfl rfl (ev_nilCheck rfl) ?_ | refine RS_m retB_noPanic rfl rfl rfl rfl (ev_nilCheckF (by simp) rfl) ?_)
        refine RS_m retB_noPanic rfl rfl rfl rfl (ev_fieldAddr rfl) ?_
        refine RS_e (RE_last (by kernel_rfl) rfl rfl rfl (eff_store rfl rfl rfl (by repeat' first | exact Upd.here rfl | apply Upd.skip | apply Upd.app)) ?_); rintro _ _ ⟨rfl, rfl⟩
        (repeat first | refine G_seq ?_ | refine G_skip ?_ | refine G_endblk ?_ | refine G_block ?_ | refine G_exit rfl ?_)
        refine G_region ?_
        refine GO_q rfl rfl (ev_move rfl) ?_
        (first | refine GO_q rfl rfl (ev_nilCheck rfl) ?_ | refine GO_q rfl rfl (ev_nilCheckF (by simp) rfl) ?_)
        refine GO_q rfl rfl (ev_fieldAddr rfl) ?_
        refine GO_q rfl rfl (ev_load rfl (by repeat' first | exact Ld.blk rfl | assumption | apply Ld.skip | apply Ld.app)) ?_
        (first | refine GO_q rfl rfl (ev_addN (q := 1) rfl rfl (by first | omega | (simp; done) | (simp; omega))) ?_ | refine GO_q rfl rfl (ev_add rfl rfl (by first | omega | (simp; done) | (simp; omega))) ?_)
        (first | refine GO_q rfl rfl (ev_nilCheck rfl) ?_ | refine GO_q rfl rfl (ev_nilCheckF (by simp) rfl) ?_)
        refine GO_q rfl rfl (ev_fieldAddr rfl) ?_
        refine GO_eff rfl rfl (eff_store rfl rfl rfl (by repeat' first | exact Upd.here rfl | apply Upd.skip | apply Upd.app)) ?_; rintro _ _ ⟨rfl, rfl⟩
        refine GO_nil ?_
        (repeat first | refine G_seq ?_ | refine G_skip ?_ | refine G_endblk ?_ | refine G_block ?_ | refine G_exit rfl ?_)
        refine G_region ?_
        refine GO_q rfl rfl (ev_move rfl) ?_
        refine GO_q rfl rfl (ev_assign rfl) ?_
        refine GO_nil ?_
        (repeat first | refine G_seq ?_ | refine G_skip ?_ | refine G_endblk ?_ | refine G_block ?_ | refine G_exit rfl ?_)
        simp only [Bool.and_true, if_true]
        have hl : (ids ++ [(PA.node b' p s' lo hi_).id]).length = ids.length + 1 := by simp
        refine G_ret (L' := own 50 1 A13 ((PA.node b' p s' lo hi_).next w).length c13 (flat ((PA.node b' p s' lo hi_).next w)) :: curS b s w true (ids ++ [(PA.node b' p s' lo hi_).id]) (n + 1) k :: L) rfl (.tmp rfl .nil) ?_ ⟨A13, c13, rfl, hA13, rfl⟩
        apply en_pick
        focus ((repeat' first | exact Pick.here | apply Pick.skip | apply Pick.app); done)
        apply en_pick
        focus ((repeat' first | exact Pick.here | apply Pick.skip | apply Pick.app); done)
        refine en_cur (c := c35) (A := A35) (fun _ => hn35 (by omega)) ?_
        rw [hl, ← flat_snoc]
        exact (by (repeat first | exact en_refl | (apply en_blk; focus ((repeat' first | exact Pick.here | apply Pick.skip | apply Pick.app); done); focus rfl) | (apply en_own; focus ((repeat' first | exact Pick.here | apply Pick.skip | apply Pick.app); done); focus rfl) | (apply en_pick; focus ((repeat' first | exact Pick.here | apply Pick.skip | apply Pick.app); done)) | apply en_drop | apply en_app) <;> fail)
      | false =>
        (repeat first | refine G_seq ?_ | refine G_skip ?_ | refine G_endblk ?_ | refine G_block ?_ | refine G_exit rfl ?_)
        refine G_region ?_
        refine GO_q rfl rfl (ev_move rfl) ?_
        refine GO_q rfl rfl (ev_move rfl) ?_
        refine GO_yes rfl rfl rfl rfl ?_
        refine GO_q rfl rfl (ev_move rfl) ?_
        refine GO_yes rfl rfl rfl rfl ?_
        (first | refine GO_q rfl rfl (ev_nilCheck rfl) ?_ | refine GO_q rfl rfl (ev_nilCheckF (by simp) rfl) ?_)
        refine GO_yes rfl rfl rfl rfl ?_
        refine GO_q rfl rfl (ev_fieldAddr rfl) ?_
        refine GO_yes rfl rfl rfl rfl ?_
        refine GO_q rfl rfl (ev_load rfl (by repeat' first | exact Ld.blk rfl | assumption | apply Ld.skip | apply Ld.app)) ?_
        refine GO_q rfl rfl (ev_pick_t rfl rfl rfl) ?_
        refine GO_q rfl rfl (ev_assign rfl) ?_
        refine GO_nil ?_
        (repeat first | refine G_seq ?_ | refine G_skip ?_ | refine G_endblk ?_ | refine G_block ?_ | refine G_exit rfl ?_)
        refine G_cond_f rfl rfl ?_
        (repeat first | refine G_seq ?_ | refine G_skip ?_ | refine G_endblk ?_ | refine G_block ?_ | refine G_exit rfl ?_)
        refine G_region ?_
        refine GO_q rfl rfl (ev_move rfl) ?_
        refine GO_q rfl rfl (ev_assign rfl) ?_
        refine GO_nil ?_
        (repeat first | refine G_seq ?_ | refine G_skip ?_ | refine G_endblk ?_ | refine G_block ?_ | refine G_exit rfl ?_)
        refine G_cond_t rfl rfl ?_
        (repeat first | refine G_seq ?_ | refine G_skip ?_ | refine G_endblk ?_ | refine G_block ?_ | refine G_exit rfl ?_)
        refine G_region ?_
        refine GO_q rfl rfl (ev_move rfl) ?_
        (first | refine GO_q rfl rfl (ev_nilCheck rfl) ?_ | refine GO_q rfl rfl (ev_nilCheckF (by simp) rfl) ?_)
        refine GO_q rfl rfl (ev_fieldAddr rfl) ?_
        refine GO_q rfl rfl (ev_load rfl (by repeat' first | exact Ld.blk rfl | assumption | apply Ld.skip | apply Ld.app)) ?_
        (first | refine GO_q rfl rfl (ev_addN (q := 1) rfl rfl (by first | omega | (simp; done) | (simp; omega))) ?_ | refine GO_q rfl rfl (ev_add rfl rfl (by first | omega | (simp; done) | (simp; omega))) ?_)
        (first | refine GO_q rfl rfl (ev_nilCheck rfl) ?_ | refine GO_q rfl rfl (ev_nilCheckF (by simp) rfl) ?_)
        refine GO_q rfl rfl (ev_fieldAddr rfl) ?_
        refine GO_eff rfl rfl (eff_store rfl rfl rfl (by repeat' first | exact Upd.here rfl | apply Upd.skip | apply Upd.app)) ?_; rintro _ _ ⟨rfl, rfl⟩
        refine GO_nil ?_
        (repeat first | refine G_seq ?_ | refine G_skip ?_ | refine G_endblk ?_ | refine G_block ?_ | refine G_exit rfl ?_)
        refine G_region ?_
        refine GO_q rfl rfl (ev_move rfl) ?_
        refine GO_q rfl rfl (ev_assign rfl) ?_
        refine GO_nil ?_
        (repeat first | refine G_seq ?_ | refine G_skip ?_ | refine G_endblk ?_ | refine G_block ?_ | refine G_exit rfl ?_)
        simp only [Bool.and_false, Bool.false_eq_true, if_false, if_true]
        exact G_ret (L' := own 50 1 A13 ((PA.node b' p s' lo hi_).next w).length c13 (flat ((PA.node b' p s' lo hi_).next w)) :: curS b s w false ids (n + 1) k :: L) rfl (.tmp rfl .nil) (by (repeat first | exact en_refl | apply en_cur (c := c) hA | (apply en_blk; focus ((repeat' first | exact Pick.here | apply Pick.skip | apply Pick.app); done); focus rfl) | (apply en_own; focus ((repeat' first | exact Pick.here | apply Pick.skip | apply Pick.app); done); focus rfl) | (apply en_pick; focus ((repeat' first | exact Pick.here | apply Pick.skip | apply Pick.app); done)) | apply en_drop | apply en_app) <;> fail) ⟨A13, c13, rfl, hA13, rfl⟩
theorem cvis_good (b s : Nat) (w : Wn) (whole : Bool) (k : Nat) (tot : List Int) (L0 : List HP) (hbig : tot.length ≤ 1000000) : (cvis b s w whole k tot L0).Good L0 where
  cal := inferInstanceAs (CalT Tryz.prog 24)
  visit := fun M x st hM hx => cvisit_ctr b s k w whole st.1 st.2 x M (hx.1.mono hM) hx.2.2 hx.2.1
  next := fun l x st r h => h.next
  stop := fun st r h => by rw [h.rest]; rfl
  cap := fun l st r h => ⟨by have := cntL_len w l; have := h.rest; have := h.small; omega, fun x hx => ⟨⟨h.ok x hx, h.len hbig, by have := h.many; omega⟩, next_len w x⟩⟩
def curP (b : Nat) (w : Wn) (whole : Bool) (tot : List Int) (L0 : List HP) (r k : Nat) : HP := fun h => ∃ y : Nat × List PA × (List Int × Nat), CurI w whole tot L0 y.2.1 y.2.2 r ∧ sat [curS b y.1 w whole y.2.2.1 y.2.2.2 k, stkS y.1 65536 y.2.1] h
theorem Ctr.curP {P : Program} {f : FuncId} {args : Array Value} {L L0 : List HP} {b r k : Nat} {w : Wn} {whole : Bool} {tot : List Int} {post : Value → List HP → Prop}
    (C : ∀ s l (st : List Int × Nat), CurI w whole tot L0 l st r → Ctr P f args (curS b s w whole st.1 st.2 k :: stkS s 65536 l :: L) post) : Ctr P f args (curP b w whole tot L0 r k :: L) post :=
  Ctr.open (ι := Nat × List PA × (List Int × Nat)) (Fa := fun y => CurI w whole tot L0 y.2.1 y.2.2 r) (N := fun y => [curS b y.1 w whole y.2.2.1 y.2.2.2 k, stkS y.1 65536 y.2.1]) (fun _ h => h) fun y hy => C y.1 y.2.1 y.2.2 hy
theorem en_curP {L M L0 : List HP} {b s r k : Nat} {w : Wn} {whole : Bool} {tot : List Int} {l : List PA} {st : List Int × Nat} (hI : CurI w whole tot L0 l st r) (f : ∀ h, sat L h → sat (curS b s w whole st.1 st.2 k :: stkS s 65536 l :: M) h) : ∀ h, sat L h → sat (curP b w whole tot L0 r k :: M) h := fun h t =>
  sat.fold (N := [_, _]) (fun h q => ⟨(s, l, st), hI, q⟩) (f h t)
/-- At how many nodes one looks from a root on. -/
def PA.cntR (w : Wn) (x : PA) : Nat := if x.isN then 0 else x.cnt w
theorem cbegin_ctr (t : Nat) (x : PA) (most : Int) (w : Wn) (whole : Bool) (L : List HP) (h : LdN L t 0 2 (treeC x most)) (hx : PIn L x) (hs : x.t.size ≤ 50000) :
    Ctr Tryz.prog 30 #[.pointer (some ⟨t, 0, none⟩), .agg #[.int .i64 w.x1, .int .i64 w.x2, .int .i64 w.y], .bool whole] L fun v L' => ∃ c, v = .pointer (some ⟨c, 0, none⟩) ∧ L' = curP c w whole (x.seen w) L (x.cntR w) 0 :: L := by
  refine Ctr_of (fn := Tryz.f30) (n := 29) Tryz.func30 rfl rfl rfl ?_
  intro g F
  (repeat first | refine G_seq ?_ | refine G_skip ?_ | refine G_endblk ?_ | refine G_block ?_ | refine G_exit rfl ?_)
  refine G_region ?_
  refine GO_eff rfl rfl (eff_box rfl) ?_; rintro _ _ ⟨b4, rfl, rfl⟩
  refine GO_q rfl rfl (ev_assign rfl) ?_
  refine GO_nil ?_
  (repeat first | refine G_seq ?_ | refine G_skip ?_ | refine G_endblk ?_ | refine G_block ?_ | refine G_exit rfl ?_)
  refine G_region ?_
  refine GO_q rfl rfl (ev_move rfl) ?_
  (first | refine GO_q rfl rfl (ev_eqlNil rfl rfl) ?_ | refine GO_q rfl rfl (ev_eqlPtr rfl rfl) ?_)
  refine GO_nil ?_
  (repeat first | refine G_seq ?_ | refine G_skip ?_ | refine G_endblk ?_ | refine G_block ?_ | refine G_exit rfl ?_)
  refine G_cond_f rfl rfl ?_
  (repeat first | refine G_seq ?_ | refine G_skip ?_ | refine G_endblk ?_ | refine G_block ?_ | refine G_exit rfl ?_)
  refine G_region ?_
  refine GO_eff rfl rfl (eff_call rfl (SNew_ctr _)) ?_; rintro _ _ ⟨s, rfl, rfl⟩
  refine GO_q rfl rfl (ev_move rfl) ?_
  refine GO_q rfl rfl (ev_extract rfl rfl) ?_
  refine GO_q rfl rfl (ev_extract rfl rfl) ?_
  refine GO_q rfl rfl (ev_assign rfl) ?_
  refine GO_q rfl rfl (ev_assign rfl) ?_
  refine GO_nil ?_
  (repeat first | refine G_seq ?_ | refine G_skip ?_ | refine G_endblk ?_ | refine G_block ?_ | refine G_exit rfl ?_)
  refine G_region ?_
  refine GO_q rfl rfl (ev_move rfl) ?_
  refine GO_eff rfl rfl (eff_call rfl (Root_ctr t x most _ h.skip.skip.skip)) ?_; rintro _ _ ⟨rfl, rfl⟩
  refine GO_q rfl rfl (ev_assign rfl) ?_
  refine GO_nil ?_
  (repeat first | refine G_seq ?_ | refine G_skip ?_ | refine G_endblk ?_ | refine G_block ?_ | refine G_exit rfl ?_)
  refine G_region ?_
  refine GO_q rfl rfl (ev_move rfl) ?_
  (first | refine GO_q rfl rfl (ev_neqNil rfl rfl) ?_ | refine GO_q rfl rfl (ev_neqPtr rfl rfl) ?_)
  refine GO_nil ?_
  cases x with
  | nil =>
    (repeat first | refine G_seq ?_ | refine G_skip ?_ | refine G_endblk ?_ | refine G_block ?_ | refine G_exit rfl ?_)
    refine G_cond_f rfl rfl ?_
    (repeat first | refine G_seq ?_ | refine G_skip ?_ | refine G_endblk ?_ | refine G_block ?_ | refine G_exit rfl ?_)
    refine G_region ?_
    refine GO_q rfl rfl (ev_move rfl) ?_
    refine GO_q rfl rfl (ev_loadN rfl (by repeat' first | exact LdN.blk rfl | assumption | apply LdN.skip | apply LdN.app)) ?_
    refine GO_q rfl rfl (ev_move rfl) ?_
    refine GO_q rfl rfl (ev_build rfl rfl) ?_
    refine GO_eff rfl rfl (eff_box rfl) ?_; rintro _ _ ⟨b28, rfl, rfl⟩
    refine GO_q rfl rfl (ev_assign rfl) ?_
    refine GO_nil ?_
    (repeat first | refine G_seq ?_ | refine G_skip ?_ | refine G_endblk ?_ | refine G_block ?_ | refine G_exit rfl ?_)
    refine G_heap (own.nil_ 3 1) ?_
    have hI : CurI w whole (PA.nil.seen w) L [] (([] : List Int), 0) 0 := ⟨rfl, Nat.zero_le _, (fun _ h => by cases h), fun _ => rfl, fun _ => rfl, rfl⟩
    refine G_ret (L' := curP b28 w whole (PA.nil.seen w) L 0 0 :: L) rfl (.tmp rfl .nil) ?_ ⟨b28, rfl, rfl⟩
    apply en_pick
    focus ((repeat' first | exact Pick.here | apply Pick.skip | apply Pick.app); done)
    refine en_curP (s := s) hI ?_
    refine en_cur (c := 0) (A := none) (fun h => absurd h (Nat.lt_irrefl 0)) ?_
    exact (by (repeat first | exact en_refl | (apply en_blk; focus ((repeat' first | exact Pick.here | apply Pick.skip | apply Pick.app); done); focus rfl) | (apply en_own; focus ((repeat' first | exact Pick.here | apply Pick.skip | apply Pick.app); done); focus rfl) | (apply en_pick; focus ((repeat' first | exact Pick.here | apply Pick.skip | apply Pick.app); done)) | apply en_drop | apply en_app) <;> fail)
  | node b p q lo hi =>
    have hcs := PA.cnt_size w (PA.node b p q lo hi) rfl
    have hcn : (PA.node b p q lo hi).cntR w = (PA.node b p q lo hi).cnt w := rfl
    (repeat first | refine G_seq ?_ | refine G_skip ?_ | refine G_endblk ?_ | refine G_block ?_ | refine G_exit rfl ?_)
    refine G_cond_t rfl rfl ?_
    (repeat first | refine G_seq ?_ | refine G_skip ?_ | refine G_endblk ?_ | refine G_block ?_ | refine G_exit rfl ?_)
    refine G_region ?_
    refine GO_q rfl rfl (ev_move rfl) ?_
    refine GO_q rfl rfl (ev_move rfl) ?_
    refine GO_eff rfl rfl (eff_buildSlice1 (by rfl) rfl rfl) ?_; rintro _ _ ⟨b22, rfl, rfl⟩
    refine GO_eff rfl rfl (eff_call rfl (Ctr.pick (by repeat' first | exact Pick.here | apply Pick.skip | apply Pick.app) (Push_ctr s (some ⟨b22, 0, none⟩) 1 1 [] [PA.node b p q lo hi] _ (by repeat' first | exact Rc.blk rfl | apply Rc.skip) (by decide)))) ?_; rintro _ _ ⟨rfl, rfl⟩
    refine GO_nil ?_
    (repeat first | refine G_seq ?_ | refine G_skip ?_ | refine G_endblk ?_ | refine G_block ?_ | refine G_exit rfl ?_)
    refine G_region ?_
    refine GO_q rfl rfl (ev_move rfl) ?_
    refine GO_q rfl rfl (ev_loadN rfl (by repeat' first | exact LdN.blk rfl | assumption | apply LdN.skip | apply LdN.app)) ?_
    refine GO_q rfl rfl (ev_move rfl) ?_
    refine GO_q rfl rfl (ev_build rfl rfl) ?_
    refine GO_eff rfl rfl (eff_box rfl) ?_; rintro _ _ ⟨b28, rfl, rfl⟩
    refine GO_q rfl rfl (ev_assign rfl) ?_
    refine GO_nil ?_
    (repeat first | refine G_seq ?_ | refine G_skip ?_ | refine G_endblk ?_ | refine G_block ?_ | refine G_exit rfl ?_)
    refine G_heap (own.nil_ 3 1) ?_
    have hI : CurI w whole ((PA.node b p q lo hi).seen w) L ([] ++ [PA.node b p q lo hi]) (([] : List Int), 0) ((PA.node b p q lo hi).cnt w) :=
      ⟨by simp [cntL], by omega, (fun y hy => by simp at hy; subst hy; exact hx), (fun _ => by simp [seenL]), fun _ => rfl, by simp [seenL]⟩
    rw [hcn]
    refine G_ret (L' := curP b28 w whole ((PA.node b p q lo hi).seen w) L ((PA.node b p q lo hi).cnt w) 0 :: L) rfl (.tmp rfl .nil) ?_ ⟨b28, rfl, rfl⟩
    apply en_pick
    focus ((repeat' first | exact Pick.here | apply Pick.skip | apply Pick.app); done)
    refine en_curP (s := s) hI ?_
    refine en_cur (c := 0) (A := none) (fun h => absurd h (Nat.lt_irrefl 0)) ?_
    exact (by (repeat first | exact en_refl | (apply en_blk; focus ((repeat' first | exact Pick.here | apply Pick.skip | apply Pick.app); done); focus rfl) | (apply en_own; focus ((repeat' first | exact Pick.here | apply Pick.skip | apply Pick.app); done); focus rfl) | (apply en_pick; focus ((repeat' first | exact Pick.here | apply Pick.skip | apply Pick.app); done)) | apply en_drop | apply en_app) <;> fail)
theorem cReport_ctr (t : Nat) (x : PA) (most : Int) (w : Wn) (L : List HP) (h : LdN L t 0 2 (treeC x most)) (hx : PIn L x) (hs : x.t.size ≤ 50000) :
    Ctr Tryz.prog 13 #[.pointer (some ⟨t, 0, none⟩), .agg #[.int .i64 w.x1, .int .i64 w.x2, .int .i64 w.y]] L fun v L' => ∃ c L0, v = .pointer (some ⟨c, 0, none⟩) ∧ (∀ h, sat L h → sat L0 h) ∧ L' = curP c w true (x.seen w) L0 (x.cntR w) 0 :: L := by
  refine Ctr_of (fn := Tryz.f13) (n := 8) Tryz.func13 rfl rfl rfl ?_
  intro g F
  (repeat first | refine G_seq ?_ | refine G_skip ?_ | refine G_endblk ?_ | refine G_block ?_ | refine G_exit rfl ?_)
  refine G_region ?_
  refine GO_eff rfl rfl (eff_box rfl) ?_; rintro _ _ ⟨b3, rfl, rfl⟩
  refine GO_q rfl rfl (ev_assign rfl) ?_
  refine GO_nil ?_
  (repeat first | refine G_seq ?_ | refine G_skip ?_ | refine G_endblk ?_ | refine G_block ?_ | refine G_exit rfl ?_)
  refine G_region ?_
  refine GO_q rfl rfl (ev_move rfl) ?_
  refine GO_q rfl rfl (ev_loadN rfl (by repeat' first | exact LdN.blk rfl | assumption | apply LdN.skip | apply LdN.app)) ?_
  refine GO_eff rfl rfl (eff_call rfl (Ctr.frame [blk b3 23 [.int .i64 w.x1, .int .i64 w.x2, .int .i64 w.y], F] (cbegin_ctr t x most w true L h hx hs) (fun _ s => s))) ?_; rintro _ _ ⟨_, ⟨c, rfl, rfl⟩, rfl⟩
  refine GO_q rfl rfl (ev_assign rfl) ?_
  refine GO_nil ?_
  (repeat first | refine G_seq ?_ | refine G_skip ?_ | refine G_endblk ?_ | refine G_block ?_ | refine G_exit rfl ?_)
  exact G_ret (L' := curP c w true (x.seen w) L (x.cntR w) 0 :: L) rfl (.tmp rfl .nil) (by (repeat first | exact en_refl | (apply en_blk; focus ((repeat' first | exact Pick.here | apply Pick.skip | apply Pick.app); done); focus rfl) | (apply en_own; focus ((repeat' first | exact Pick.here | apply Pick.skip | apply Pick.app); done); focus rfl) | (apply en_pick; focus ((repeat' first | exact Pick.here | apply Pick.skip | apply Pick.app); done)) | apply en_drop | apply en_app) <;> fail) ⟨c, L, rfl, fun _ h => h, rfl⟩
theorem cStep_ctr (b r k : Nat) (w : Wn) (whole : Bool) (tot : List Int) (L0 L : List HP) (n : Int) (hM : ∀ h, sat L h → sat L0 h) (hn : n ≤ 100000) (hbig : tot.length ≤ 1000000) (hk : k ≤ 1000000000) :
    Ctr Tryz.prog 5 #[.pointer (some ⟨b, 0, none⟩), .int .i64 n] (curP b w whole tot L0 r k :: L) fun v L' => v = .tuple #[.int .i64 (min n.toNat r : Nat), .bool (decide (r - min n.toNat r = 0))] ∧ L' = curP b w whole tot L0 (r - min n.toNat r) (k + min n.toNat r) :: L := by
  refine Ctr.curP fun s l st hI => ?_
  have hmax : max n 0 = ((n.toNat : Nat) : Int) := by omega
  have hrs := hI.small
  refine Ctr_of (fn := Tryz.f5) (n := 44) Tryz.func5 rfl rfl rfl ?_
  intro g F
  (repeat first | refine G_seq ?_ | refine G_skip ?_ | refine G_endblk ?_ | refine G_block ?_ | refine G_exit rfl ?_)
  refine G_region ?_
  refine GO_q rfl rfl (ev_assign rfl) ?_
  refine GO_q rfl rfl (ev_assign rfl) ?_
  refine GO_nil ?_
  (repeat first | refine G_seq ?_ | refine G_skip ?_ | refine G_endblk ?_ | refine G_block ?_ | refine G_exit rfl ?_)
  refine G_region ?_
  refine GO_q rfl rfl (ev_move rfl) ?_
  (first | refine GO_q rfl rfl (ev_eqlNil rfl rfl) ?_ | refine GO_q rfl rfl (ev_eqlPtr rfl rfl) ?_)
  refine GO_nil ?_
  (repeat first | refine G_seq ?_ | refine G_skip ?_ | refine G_endblk ?_ | refine G_block ?_ | refine G_exit rfl ?_)
  refine G_cond_f rfl rfl ?_
  refine G_heap (L' := curS b s w whole st.1 st.2 k :: stkS s 65536 l :: F :: L) (by (repeat first | exact en_refl | (apply en_blk; focus ((repeat' first | exact Pick.here | apply Pick.skip | apply Pick.app); done); focus rfl) | (apply en_own; focus ((repeat' first | exact Pick.here | apply Pick.skip | apply Pick.app); done); focus rfl) | (apply en_pick; focus ((repeat' first | exact Pick.here | apply Pick.skip | apply Pick.app); done)) | apply en_drop | apply en_app) <;> fail) ?_
  refine G_cur fun A c hA hc hc2 => ?_
  (repeat first | refine G_seq ?_ | refine G_skip ?_ | refine G_endblk ?_ | refine G_block ?_ | refine G_exit rfl ?_)
  refine G_region ?_
  refine GO_q rfl rfl (ev_move rfl) ?_
  (first | refine GO_q rfl rfl (ev_nilCheck rfl) ?_ | refine GO_q rfl rfl (ev_nilCheckF (by simp) rfl) ?_)
  refine GO_q rfl rfl (ev_fieldAddr rfl) ?_
  refine GO_q rfl rfl (ev_load rfl (by repeat' first | exact Ld.blk rfl | assumption | apply Ld.skip | apply Ld.app)) ?_
  refine GO_q rfl rfl (ev_move rfl) ?_
  refine GO_q rfl rfl (ev_max0 rfl) ?_
  refine GO_q rfl rfl (ev_move rfl) ?_
  refine GO_q rfl rfl (ev_makeFunc rfl rfl) ?_
  refine GO_eff rfl rfl (eff_call rfl (Ctr.pre (M := stkS s 65536 l :: curS b s w whole st.1 st.2 k :: F :: L) (by (repeat first | exact en_refl | apply en_cur (c := c) hA | (apply en_blk; focus ((repeat' first | exact Pick.here | apply Pick.skip | apply Pick.app); done); focus rfl) | (apply en_own; focus ((repeat' first | exact Pick.here | apply Pick.skip | apply Pick.app); done); focus rfl) | (apply en_pick; focus ((repeat' first | exact Pick.here | apply Pick.skip | apply Pick.app); done)) | apply en_drop | apply en_app) <;> fail) (Walk_ctr (cvis b s w whole k tot L0) s n.toNat r l st (F :: L) L0 (cvis_good b s w whole k tot L0 hbig) (fun h t => hM h t.tail) hI (by omega)))) ?_; rintro _ _ ⟨l', st', rfl, hI', rfl⟩
  refine GO_q rfl rfl (ev_move rfl) ?_
  refine GO_q rfl rfl (ev_extract rfl rfl) ?_
  refine GO_q rfl rfl (ev_extract rfl rfl) ?_
  refine GO_q rfl rfl (ev_assign rfl) ?_
  refine GO_q rfl rfl (ev_assign rfl) ?_
  refine GO_nil ?_
  (repeat first | refine G_seq ?_ | refine G_skip ?_ | refine G_endblk ?_ | refine G_block ?_ | refine G_exit rfl ?_)
  refine G_region ?_
  refine GO_q rfl rfl (ev_move rfl) ?_
  refine GO_q rfl rfl (ev_neq rfl rfl) ?_
  refine GO_nil ?_
  (repeat first | refine G_seq ?_ | refine G_skip ?_ | refine G_endblk ?_ | refine G_block ?_ | refine G_exit rfl ?_)
  refine G_cond_f rfl rfl ?_
  refine G_heap (L' := curS b s w whole st'.1 st'.2 k :: stkS s 65536 l' :: F :: L) (fun _ t => t.swap) ?_
  refine G_cur fun A' c' hA' hc' hc2' => ?_
  (repeat first | refine G_seq ?_ | refine G_skip ?_ | refine G_endblk ?_ | refine G_block ?_ | refine G_exit rfl ?_)
  refine G_region ?_
  refine GO_q rfl rfl (ev_move rfl) ?_
  (first | refine GO_q rfl rfl (ev_nilCheck rfl) ?_ | refine GO_q rfl rfl (ev_nilCheckF (by simp) rfl) ?_)
  refine GO_q rfl rfl (ev_fieldAddr rfl) ?_
  refine GO_q rfl rfl (ev_load rfl (by repeat' first | exact Ld.blk rfl | assumption | apply Ld.skip | apply Ld.app)) ?_
  refine GO_q rfl rfl (ev_move rfl) ?_
  (first | refine GO_q rfl rfl (ev_addN rfl rfl (by first | omega | (simp; done) | (simp; omega))) ?_ | refine GO_q rfl rfl (ev_add rfl rfl (by first | omega | (simp; done) | (simp; omega))) ?_)
  (first | refine GO_q rfl rfl (ev_nilCheck rfl) ?_ | refine GO_q rfl rfl (ev_nilCheckF (by simp) rfl) ?_)
  refine GO_q rfl rfl (ev_fieldAddr rfl) ?_
  refine GO_eff rfl rfl (eff_store rfl rfl rfl (by repeat' first | exact Upd.here rfl | apply Upd.skip | apply Upd.app)) ?_; rintro _ _ ⟨rfl, rfl⟩
  refine GO_nil ?_
  refine G_heap (L' := curS b s w whole st'.1 st'.2 (k + min n.toNat r) :: stkS s 65536 l' :: F :: L) (by (repeat first | exact en_refl | apply en_cur (c := c') hA' | (apply en_blk; focus ((repeat' first | exact Pick.here | apply Pick.skip | apply Pick.app); done); focus rfl) | (apply en_own; focus ((repeat' first | exact Pick.here | apply Pick.skip | apply Pick.app); done); focus rfl) | (apply en_pick; focus ((repeat' first | exact Pick.here | apply Pick.skip | apply Pick.app); done)) | apply en_drop | apply en_app) <;> fail) ?_
  have hI2 : CurI w whole tot L0 l' st' (r - min n.toNat r) := hI'
  have hz : (l'.length : Int) = 0 ↔ r - min n.toNat r = 0 := by
    have h1 := hI2.rest
    have h2 := cntL_len w l'
    constructor
    · intro h
      have : l' = [] := List.eq_nil_of_length_eq_zero (by omega)
      subst this
      rw [h1]; rfl
    · intro h; omega
  refine G_cur fun A2 c2 hA2 hcc hcc2 => ?_
  (repeat first | refine G_seq ?_ | refine G_skip ?_ | refine G_endblk ?_ | refine G_block ?_ | refine G_exit rfl ?_)
  refine G_region ?_
  refine GO_q rfl rfl (ev_move rfl) ?_
  refine GO_q rfl rfl (ev_move rfl) ?_
  (first | refine GO_q rfl rfl (ev_nilCheck rfl) ?_ | refine GO_q rfl rfl (ev_nilCheckF (by simp) rfl) ?_)
  refine GO_q rfl rfl (ev_fieldAddr rfl) ?_
  refine GO_q rfl rfl (ev_load rfl (by repeat' first | exact Ld.blk rfl | assumption | apply Ld.skip | apply Ld.app)) ?_
  refine GO_eff rfl rfl (eff_call rfl (Ctr.pick (by repeat' first | exact Pick.here | apply Pick.skip | apply Pick.app) (SLen_k_ctr s l' _))) ?_; rintro _ _ ⟨rfl, rfl⟩
  refine GO_q rfl rfl (ev_eql rfl rfl) ?_
  refine GO_q rfl rfl (ev_assign rfl) ?_
  refine GO_q rfl rfl (ev_assign rfl) ?_
  refine GO_nil ?_
  (repeat first | refine G_seq ?_ | refine G_skip ?_ | refine G_endblk ?_ | refine G_block ?_ | refine G_exit rfl ?_)
  rw [decide_eq_decide.2 hz]
  refine G_ret (L' := curP b w whole tot L0 (r - min n.toNat r) (k + min n.toNat r) :: L) rfl (.tmp rfl (.tmp rfl .nil)) ?_ ⟨rfl, rfl⟩
  apply en_pick
  focus ((repeat' first | exact Pick.here | apply Pick.skip | apply Pick.app); done)
  refine en_curP (s := s) hI2 ?_
  exact (by (repeat first | exact en_refl | apply en_cur (c := c2) hA2 | (apply en_blk; focus ((repeat' first | exact Pick.here | apply Pick.skip | apply Pick.app); done); focus rfl) | (apply en_own; focus ((repeat' first | exact Pick.here | apply Pick.skip | apply Pick.app); done); focus rfl) | (apply en_pick; focus ((repeat' first | exact Pick.here | apply Pick.skip | apply Pick.app); done)) | apply en_drop | apply en_app) <;> fail)
theorem cN_ctr (b k : Nat) (w : Wn) (whole : Bool) (tot : List Int) (L0 L : List HP) : Ctr Tryz.prog 9 #[.pointer (some ⟨b, 0, none⟩)] (curP b w whole tot L0 0 k :: L) fun v L' => v = .int .i64 (tot.length : Nat) ∧ L' = curP b w whole tot L0 0 k :: L := by
  refine Ctr.curP fun s l st hI => ?_
  have hl : l = [] := by
    have h1 := hI.rest
    have h2 := cntL_len w l
    exact List.eq_nil_of_length_eq_zero (by omega)
  have hn : st.2 = tot.length := by
    have := hI.many
    subst hl
    simpa [seenL] using this
  refine Ctr.cur fun A c hA hc hc2 => ?_
  refine Ctr_of (fn := Tryz.f9) (n := 9) Tryz.func9 rfl rfl rfl ?_
  intro g F
  (repeat first | refine G_seq ?_ | refine G_skip ?_ | refine G_endblk ?_ | refine G_block ?_ | refine G_exit rfl ?_)
  refine G_region ?_
  refine GO_q rfl rfl (ev_assign rfl) ?_
  refine GO_nil ?_
  (repeat first | refine G_seq ?_ | refine G_skip ?_ | refine G_endblk ?_ | refine G_block ?_ | refine G_exit rfl ?_)
  refine G_region ?_
  refine GO_q rfl rfl (ev_move rfl) ?_
  (first | refine GO_q rfl rfl (ev_eqlNil rfl rfl) ?_ | refine GO_q rfl rfl (ev_eqlPtr rfl rfl) ?_)
  refine GO_nil ?_
  (repeat first | refine G_seq ?_ | refine G_skip ?_ | refine G_endblk ?_ | refine G_block ?_ | refine G_exit rfl ?_)
  refine G_cond_f rfl rfl ?_
  (repeat first | refine G_seq ?_ | refine G_skip ?_ | refine G_endblk ?_ | refine G_block ?_ | refine G_exit rfl ?_)
  refine G_region ?_
  refine GO_q rfl rfl (ev_move rfl) ?_
  (first | refine GO_q rfl rfl (ev_nilCheck rfl) ?_ | refine GO_q rfl rfl (ev_nilCheckF (by simp) rfl) ?_)
  refine GO_q rfl rfl (ev_fieldAddr rfl) ?_
  refine GO_q rfl rfl (ev_load rfl (by repeat' first | exact Ld.blk rfl | assumption | apply Ld.skip | apply Ld.app)) ?_
  refine GO_q rfl rfl (ev_assign rfl) ?_
  refine GO_nil ?_
  (repeat first | refine G_seq ?_ | refine G_skip ?_ | refine G_endblk ?_ | refine G_block ?_ | refine G_exit rfl ?_)
  rw [← hn]
  refine G_ret (L' := curP b w whole tot L0 0 k :: L) rfl (.tmp rfl .nil) ?_ ⟨rfl, rfl⟩
  apply en_pick
  focus ((repeat' first | exact Pick.here | apply Pick.skip | apply Pick.app); done)
  refine en_curP (s := s) hI ?_
  exact (by (repeat first | exact en_refl | apply en_cur (c := c) hA | (apply en_blk; focus ((repeat' first | exact Pick.here | apply Pick.skip | apply Pick.app); done); focus rfl) | (apply en_own; focus ((repeat' first | exact Pick.here | apply Pick.skip | apply Pick.app); done); focus rfl) | (apply en_pick; focus ((repeat' first | exact Pick.here | apply Pick.skip | apply Pick.app); done)) | apply en_drop | apply en_app) <;> fail)
end Go.Proofs.YtalcanejhniepaaGreat
