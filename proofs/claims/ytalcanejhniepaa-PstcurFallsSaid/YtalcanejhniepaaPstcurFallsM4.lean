/- Texts of the law PstcurFalls, one behind the other. -/
import Derived.Test.YtalcanejhniepaaPstcurFallsM3
import Derived.Test.YtalcanejhniepaaPstcurFallsM1
import Derived.Test.YtalcanejhniepaaPstcurFallsM2
/- The references' sets of points: the walks. -/
namespace Go.Proofs.Ytalcanejhniepaa
attribute [local irreducible] sat
set_option linter.unusedVariables false
set_option linter.unusedSimpArgs false
set_option maxRecDepth 100000

def atI (l : List Pt) (p : Pt) : Int := if p ∈ l then (l.idxOf p : Nat) else -1
theorem At_ctr0 (b : Nat) (A : Option Addr) (c : Nat) (most : Int) (l : List Pt) (p : Pt) (L : List HP) (h : LdN L b 0 2 [.slice A l.length c, .int .i64 most]) (hl : Rd L A l.length l) (hn : l.length ≤ 100000) :
    Ctr Try.prog 32 #[.pointer (some ⟨b, 0, none⟩), p.v] L fun v L' => v = .int .i64 (atI l p) ∧ L' = L := by
  have h1 : Ld L ⟨b, 0 + 0, none⟩ (.slice A l.length c) := h.at_ (i := 0) rfl
  refine Ctr_of (fn := Try.f32) (n := 25) Try.func32 rfl rfl rfl ?_
  intro g F
  (repeat first | refine G_seq ?_ | refine G_skip ?_ | refine G_endblk ?_ | refine G_block ?_ | refine G_exit rfl ?_)
  refine G_region ?_
  refine GO_eff rfl rfl (eff_box rfl) ?_; rintro _ _ ⟨b3, rfl, rfl⟩
  refine GO_q rfl rfl (ev_assign rfl) ?_
  refine GO_nil ?_
  (repeat first | refine G_seq ?_ | refine G_skip ?_ | refine G_endblk ?_ | refine G_block ?_ | refine G_exit rfl ?_)
  refine G_region ?_
  refine GO_q rfl rfl (ev_assign rfl) ?_
  refine GO_nil ?_
  (repeat first | refine G_seq ?_ | refine G_skip ?_ | refine G_endblk ?_ | refine G_block ?_ | refine G_exit rfl ?_)
  refine G_loop (ι := Nat) (fun k => [(0, .pointer (some ⟨b, 0, none⟩)), (3, .pointer (some ⟨b3, 0, none⟩)), (5, .int .i64 (k : Nat))]) (fun _ => blk b3 39 [.int .i64 p.id, .int .i64 p.x, .int .i64 p.y] :: F :: L) (fun k => k ≤ l.length ∧ p ∉ l.take k) (fun k => l.length - k) 0 ⟨Nat.zero_le _, by simp⟩ ⟨rfl, rfl, rfl, trivial⟩ (by (repeat first | exact fun _ s => s | apply en_keep | apply en_drop | apply en_app) <;> fail) ?_
  rintro k ⟨f1, f2⟩
  (repeat first | refine G_seq ?_ | refine G_skip ?_ | refine G_endblk ?_ | refine G_block ?_ | refine G_exit rfl ?_)
  refine G_region ?_
  refine GO_q rfl rfl (ev_move rfl) ?_
  refine GO_q rfl rfl (ev_move rfl) ?_
  (first | refine GO_q rfl rfl (ev_nilCheck rfl) ?_ | refine GO_q rfl rfl (ev_nilCheckF (by simp) rfl) ?_)
  refine GO_q rfl rfl (ev_fieldAddr rfl) ?_
  refine GO_q rfl rfl (ev_load rfl (by repeat' first | exact Ld.blk rfl | assumption | apply Ld.skip | apply Ld.app)) ?_
  refine GO_q rfl rfl (ev_len rfl) ?_
  (first | refine GO_q rfl rfl (ev_lssN rfl rfl) ?_ | refine GO_q rfl rfl (ev_lss rfl rfl) ?_)
  refine GO_nil ?_
  (repeat first | refine G_seq ?_ | refine G_skip ?_ | refine G_endblk ?_ | refine G_block ?_ | refine G_exit rfl ?_)
  refine G_cond rfl (fun h4 => ?_) (fun h4 => ?_)
  · obtain ⟨lb, lo, rfl, hx⟩ := hl.at_ (by omega)
    have g1 : l[k]? = some l[k] := List.getElem?_eq_getElem (by omega)
    have y1 := hx _ _ g1
    have s1 : l.take (k + 1) = l.take k ++ [l[k]] := List.take_succ_eq_append_getElem (by omega)
    have m1 : l[k] ∈ l := List.getElem_mem _
    generalize l[k] = u at *
    have z1 : LdN L lb (lo + k * 3) 3 [.int .i64 u.id, .int .i64 u.x, .int .i64 u.y] := y1
    (repeat first | refine G_seq ?_ | refine G_skip ?_ | refine G_endblk ?_ | refine G_block ?_ | refine G_exit rfl ?_)
    refine G_draw (.q 0 (.q 1 (.q 2 (.q 3 (.q 4 (.q 5 (.q 6 (.q 7 (.q 8 .nil))))))))) (by kernel_rfl) (by kernel_rfl) ?_
    refine RS_m retB_noPanic rfl rfl rfl rfl (ev_move rfl) ?_
    (first | refine RS_m retB_noPanic rfl rfl rfl rfl (ev_nilCheck rfl) ?_ | refine RS_m retB_noPanic rfl rfl rfl rfl (ev_nilCheckF (by simp) rfl) ?_)
    refine RS_m retB_noPanic rfl rfl rfl rfl (ev_fieldAddr rfl) ?_
    refine RS_q retB_noPanic rfl rfl rfl rfl (ev_load rfl (by repeat' first | exact Ld.blk rfl | assumption | apply Ld.skip | apply Ld.app)) ?_
    refine RS_m retB_noPanic rfl rfl rfl rfl (ev_move rfl) ?_
    (first | refine RS_m retB_noPanic rfl rfl rfl rfl (ev_indexAddrN rfl rfl (by first | omega | (simp; done) | (simp; omega))) ?_ | refine RS_m retB_noPanic rfl rfl rfl rfl (ev_indexAddr rfl rfl (by first | omega | (simp; done) | (simp; omega)) (by first | omega | (simp; done) | (simp; omega))) ?_)
    refine RS_q retB_noPanic rfl rfl rfl rfl (ev_loadN rfl (by repeat' first | exact LdN.blk rfl | assumption | apply LdN.skip | apply LdN.app)) ?_
    refine RS_q retB_noPanic rfl rfl rfl rfl (ev_loadN rfl (by repeat' first | exact LdN.blk rfl | assumption | apply LdN.skip | apply LdN.app)) ?_
    refine RS_m retB_noPanic rfl rfl rfl rfl (ev_eqlS rfl rfl rfl rfl rfl rfl) ?_
    refine RS_nil ?_
    (repeat first | refine G_seq ?_ | refine G_skip ?_ | refine G_endblk ?_ | refine G_block ?_ | refine G_exit rfl ?_)
    refine G_cond rfl (fun h5 => ?_) (fun h5 => ?_)
    · have e : u = p := (pt_list u p).1 h5
      subst e
      (repeat first | refine G_seq ?_ | refine G_skip ?_ | refine G_endblk ?_ | refine G_block ?_ | refine G_exit rfl ?_)
      refine G_region ?_
      refine GO_q rfl rfl (ev_move rfl) ?_
      refine GO_q rfl rfl (ev_assign rfl) ?_
      refine GO_nil ?_
      (repeat first | refine G_seq ?_ | refine G_skip ?_ | refine G_endblk ?_ | refine G_block ?_ | refine G_exit rfl ?_)
      refine G_ret rfl (.tmp rfl .nil) (by (repeat first | exact fun _ s => s | apply en_keep | apply en_drop | apply en_app) <;> fail) ⟨by unfold atI; rw [if_pos m1, idx_take u l k g1 f2]; rfl, rfl⟩
    · (repeat first | refine G_seq ?_ | refine G_skip ?_ | refine G_endblk ?_ | refine G_block ?_ | refine G_exit rfl ?_)
      refine G_region ?_
      refine GO_q rfl rfl (ev_move rfl) ?_
      (first | refine GO_q rfl rfl (ev_addN (q := 1) rfl rfl (by first | omega | (simp; done) | (simp; omega))) ?_ | refine GO_q rfl rfl (ev_add rfl rfl (by first | omega | (simp; done) | (simp; omega))) ?_)
      refine GO_q rfl rfl (ev_assign rfl) ?_
      refine GO_nil ?_
      (repeat first | refine G_seq ?_ | refine G_skip ?_ | refine G_endblk ?_ | refine G_block ?_ | refine G_exit rfl ?_)
      exact G_round (k + 1) ⟨by omega, by rw [s1]; simp only [List.mem_append, List.mem_singleton, not_or]; exact ⟨f2, fun e => h5 ((pt_list u p).2 e.symm)⟩⟩ (by omega) ⟨rfl, rfl, rfl, trivial⟩ (by (repeat first | exact fun _ s => s | apply en_keep | apply en_drop | apply en_app) <;> fail)
  · have e : k = l.length := by omega
    subst e
    rw [List.take_length] at f2
    (repeat first | refine G_seq ?_ | refine G_skip ?_ | refine G_endblk ?_ | refine G_block ?_ | refine G_exit rfl ?_)
    refine G_region ?_
    refine GO_q rfl rfl (ev_assign rfl) ?_
    refine GO_nil ?_
    (repeat first | refine G_seq ?_ | refine G_skip ?_ | refine G_endblk ?_ | refine G_block ?_ | refine G_exit rfl ?_)
    refine G_ret rfl (.tmp rfl .nil) (by (repeat first | exact fun _ s => s | apply en_keep | apply en_drop | apply en_app) <;> fail) ⟨by unfold atI; rw [if_neg f2]; rfl, rfl⟩
theorem At_ctr (b : Nat) (most : Int) (l : List Pt) (p : Pt) (L : List HP) (hn : l.length ≤ 100000) : Ctr Try.prog 32 #[.pointer (some ⟨b, 0, none⟩), p.v] (setS b most l :: L) fun v L' => v = .int .i64 (atI l p) ∧ L' = setS b most l :: L :=
  Ctr.set0 (R := fun v => v = .int .i64 (atI l p)) fun A c L' h hl => At_ctr0 b A c most l p L' h hl hn
end Go.Proofs.Ytalcanejhniepaa
/- The references' sets of points: what goes in and out. -/
namespace Go.Proofs.Ytalcanejhniepaa
attribute [local irreducible] sat
set_option linter.unusedVariables false
set_option linter.unusedSimpArgs false
set_option maxRecDepth 100000

theorem RID_ctr (n : Int) (L : List HP) : Ctr Try.prog 106 #[.int .i64 n] L fun v L' => v = .bool (goodId n) ∧ L' = L := by
  refine Ctr_of (fn := Try.f106) (n := 9) Try.func106 rfl rfl rfl ?_
  intro g F
  (repeat first | refine G_seq ?_ | refine G_skip ?_ | refine G_endblk ?_ | refine G_block ?_ | refine G_exit rfl ?_)
  refine G_region ?_
  refine GO_q rfl rfl (ev_assign rfl) ?_
  refine GO_nil ?_
  (repeat first | refine G_seq ?_ | refine G_skip ?_ | refine G_endblk ?_ | refine G_block ?_ | refine G_exit rfl ?_)
  refine G_region ?_
  refine GO_q rfl rfl (ev_move rfl) ?_
  refine GO_q rfl rfl (ev_geq rfl rfl) ?_
  refine GO_q rfl rfl (ev_move rfl) ?_
  refine GO_guard rfl rfl rfl (fun hc51 => ?y51) (fun hc51 => ?n51)
  case' n51 =>
    have hd51 := hc51
    try simp only [decide_eq_true_eq, decide_eq_false_iff_not, Bool.not_true, Bool.not_false, Bool.not_eq_true', Bool.not_eq_false'] at hd51
    refine GO_no rfl rfl rfl hc51 ?_
    refine GO_q rfl rfl (ev_pick_f rfl hc51 rfl) ?_
    refine GO_q rfl rfl (ev_assign rfl) ?_
    refine GO_nil ?_
    (repeat first | refine G_seq ?_ | refine G_skip ?_ | refine G_endblk ?_ | refine G_block ?_ | refine G_exit rfl ?_)
    refine G_ret rfl (.tmp rfl .nil) (by (repeat first | exact fun _ s => s | apply en_keep | apply en_drop | apply en_app) <;> fail) ⟨by simp_all [retv, goodId] <;> (intros; omega), rfl⟩
  case' y51 =>
    have hd51 := hc51
    try simp only [decide_eq_true_eq, decide_eq_false_iff_not, Bool.not_true, Bool.not_false, Bool.not_eq_true', Bool.not_eq_false'] at hd51
    refine GO_q rfl rfl (ev_move rfl) ?_
    refine GO_yes rfl rfl rfl hc51 ?_
    refine GO_q rfl rfl (ev_leq rfl rfl) ?_
    refine GO_q rfl rfl (ev_pick_t rfl hc51 rfl) ?_
    refine GO_q rfl rfl (ev_assign rfl) ?_
    refine GO_nil ?_
    (repeat first | refine G_seq ?_ | refine G_skip ?_ | refine G_endblk ?_ | refine G_block ?_ | refine G_exit rfl ?_)
    refine G_ret rfl (.tmp rfl .nil) (by (repeat first | exact fun _ s => s | apply en_keep | apply en_drop | apply en_app) <;> fail) ⟨by simp_all [retv, goodId] <;> (intros; omega), rfl⟩
theorem RLies_ctr (p : Pt) (L : List HP) : Ctr Try.prog 107 #[p.v] L fun v L' => v = .bool (good p.x && good p.y) ∧ L' = L := by
  refine Ctr_of (fn := Try.f107) (n := 11) Try.func107 rfl rfl rfl ?_
  intro g F
  (repeat first | refine G_seq ?_ | refine G_skip ?_ | refine G_endblk ?_ | refine G_block ?_ | refine G_exit rfl ?_)
  refine G_region ?_
  refine GO_eff rfl rfl (eff_box rfl) ?_; rintro _ _ ⟨b1, rfl, rfl⟩
  refine GO_q rfl rfl (ev_assign rfl) ?_
  refine GO_nil ?_
  (repeat first | refine G_seq ?_ | refine G_skip ?_ | refine G_endblk ?_ | refine G_block ?_ | refine G_exit rfl ?_)
  refine G_region ?_
  refine GO_q rfl rfl (ev_fieldAddr rfl) ?_
  refine GO_q rfl rfl (ev_load rfl (by repeat' first | exact Ld.blk rfl | assumption | apply Ld.skip | apply Ld.app)) ?_
  refine GO_eff rfl rfl (eff_call rfl (Coord_ctr _ _)) ?_; rintro _ _ ⟨rfl, rfl⟩
  refine GO_q rfl rfl (ev_move rfl) ?_
  refine GO_guard rfl rfl rfl (fun hc61 => ?y61) (fun hc61 => ?n61)
  case' n61 =>
    have hd61 := hc61
    try simp only [decide_eq_true_eq, decide_eq_false_iff_not, Bool.not_true, Bool.not_false, Bool.not_eq_true', Bool.not_eq_false'] at hd61
    refine GO_no rfl rfl rfl hc61 ?_
    refine GO_no rfl rfl rfl hc61 ?_
    refine GO_q rfl rfl (ev_pick_f rfl hc61 rfl) ?_
    refine GO_q rfl rfl (ev_assign rfl) ?_
    refine GO_nil ?_
    (repeat first | refine G_seq ?_ | refine G_skip ?_ | refine G_endblk ?_ | refine G_block ?_ | refine G_exit rfl ?_)
    refine G_ret rfl (.tmp rfl .nil) (by (repeat first | exact fun _ s => s | apply en_keep | apply en_drop | apply en_app) <;> fail) ⟨by simp_all [retv], rfl⟩
  case' y61 =>
    have hd61 := hc61
    try simp only [decide_eq_true_eq, decide_eq_false_iff_not, Bool.not_true, Bool.not_false, Bool.not_eq_true', Bool.not_eq_false'] at hd61
    refine GO_q rfl rfl (ev_fieldAddr rfl) ?_
    refine GO_yes rfl rfl rfl hc61 ?_
    refine GO_q rfl rfl (ev_load rfl (by repeat' first | exact Ld.blk rfl | assumption | apply Ld.skip | apply Ld.app)) ?_
    refine GO_yes rfl rfl rfl hc61 ?_
    refine GO_eff rfl rfl (eff_call rfl (Coord_ctr _ _)) ?_; rintro _ _ ⟨rfl, rfl⟩
    refine GO_q rfl rfl (ev_pick_t rfl hc61 rfl) ?_
    refine GO_q rfl rfl (ev_assign rfl) ?_
    refine GO_nil ?_
    (repeat first | refine G_seq ?_ | refine G_skip ?_ | refine G_endblk ?_ | refine G_block ?_ | refine G_exit rfl ?_)
    refine G_ret rfl (.tmp rfl .nil) (by (repeat first | exact fun _ s => s | apply en_keep | apply en_drop | apply en_app) <;> fail) ⟨by simp_all [retv], rfl⟩
theorem RGood_ctr (p : Pt) (L : List HP) : Ctr Try.prog 87 #[p.v] L fun v L' => v = .bool (goodP p) ∧ L' = L := by
  refine Ctr_of (fn := Try.f87) (n := 10) Try.func87 rfl rfl rfl ?_
  intro g F
  (repeat first | refine G_seq ?_ | refine G_skip ?_ | refine G_endblk ?_ | refine G_block ?_ | refine G_exit rfl ?_)
  refine G_region ?_
  refine GO_eff rfl rfl (eff_box rfl) ?_; rintro _ _ ⟨b1, rfl, rfl⟩
  refine GO_q rfl rfl (ev_assign rfl) ?_
  refine GO_nil ?_
  (repeat first | refine G_seq ?_ | refine G_skip ?_ | refine G_endblk ?_ | refine G_block ?_ | refine G_exit rfl ?_)
  refine G_region ?_
  refine GO_q rfl rfl (ev_fieldAddr rfl) ?_
  refine GO_q rfl rfl (ev_load rfl (by repeat' first | exact Ld.blk rfl | assumption | apply Ld.skip | apply Ld.app)) ?_
  refine GO_eff rfl rfl (eff_call rfl (RID_ctr _ _)) ?_; rintro _ _ ⟨rfl, rfl⟩
  refine GO_q rfl rfl (ev_move rfl) ?_
  refine GO_guard rfl rfl rfl (fun hc74 => ?y74) (fun hc74 => ?n74)
  case' n74 =>
    have hd74 := hc74
    try simp only [decide_eq_true_eq, decide_eq_false_iff_not, Bool.not_true, Bool.not_false, Bool.not_eq_true', Bool.not_eq_false'] at hd74
    refine GO_no rfl rfl rfl hc74 ?_
    refine GO_q rfl rfl (ev_pick_f rfl hc74 rfl) ?_
    refine GO_q rfl rfl (ev_assign rfl) ?_
    refine GO_nil ?_
    (repeat first | refine G_seq ?_ | refine G_skip ?_ | refine G_endblk ?_ | refine G_block ?_ | refine G_exit rfl ?_)
    refine G_ret rfl (.tmp rfl .nil) (by (repeat first | exact fun _ s => s | apply en_keep | apply en_drop | apply en_app) <;> fail) ⟨by simp_all [retv, goodP], rfl⟩
  case' y74 =>
    have hd74 := hc74
    try simp only [decide_eq_true_eq, decide_eq_false_iff_not, Bool.not_true, Bool.not_false, Bool.not_eq_true', Bool.not_eq_false'] at hd74
    refine GO_q rfl rfl (ev_loadN rfl (by repeat' first | exact LdN.blk rfl | assumption | apply LdN.skip | apply LdN.app)) ?_
    refine GO_yes rfl rfl rfl hc74 ?_
    refine GO_eff rfl rfl (eff_call rfl (RLies_ctr p _)) ?_; rintro _ _ ⟨rfl, rfl⟩
    refine GO_q rfl rfl (ev_pick_t rfl hc74 rfl) ?_
    refine GO_q rfl rfl (ev_assign rfl) ?_
    refine GO_nil ?_
    (repeat first | refine G_seq ?_ | refine G_skip ?_ | refine G_endblk ?_ | refine G_block ?_ | refine G_exit rfl ?_)
    refine G_ret rfl (.tmp rfl .nil) (by (repeat first | exact fun _ s => s | apply en_keep | apply en_drop | apply en_app) <;> fail) ⟨by simp_all [retv, goodP], rfl⟩
def insR (most : Int) (l : List Pt) (p : Pt) : List Pt := if insC most l p = 0 then l ++ [p] else l
theorem atI_nn (l : List Pt) (p : Pt) : 0 ≤ atI l p ↔ p ∈ l := by
  unfold atI; split <;> simp_all
theorem RInsert_ctr (b : Nat) (most : Int) (l : List Pt) (p : Pt) (L : List HP) (hn : l.length + 1 ≤ 100000) :
    Ctr Try.prog 61 #[.pointer (some ⟨b, 0, none⟩), p.v] (setS b most l :: L) fun v L' => v = .int .i64 (insC most l p) ∧ L' = setS b most (insR most l p) :: L := by
  refine Ctr.set fun A c hA hlc hcm => ?_
  have hb : ∀ L', LdN (blk b 34 [.slice A l.length c, .int .i64 most] :: L') b 0 2 [.slice A l.length c, .int .i64 most] := fun L' => LdN.blk rfl
  have hr : ∀ L', Rd (own 39 3 A l.length c (flat l) :: L') A l.length l := fun L' => Rc.own (flat_length l) hA
  have hb1 : ∀ L', Ld (blk b 34 [.slice A l.length c, .int .i64 most] :: L') ⟨b, 0 + 0, none⟩ (.slice A l.length c) := fun L' => Ld.blk rfl
  have hb2 : ∀ L', Ld (blk b 34 [.slice A l.length c, .int .i64 most] :: L') ⟨b, 0 + 1, none⟩ (.int .i64 most) := fun L' => Ld.blk rfl
  unfold maxLen at hcm
  refine Ctr_of (fn := Try.f61) (n := 34) Try.func61 rfl rfl rfl ?_
  intro g F
  (repeat first | refine G_seq ?_ | refine G_skip ?_ | refine G_endblk ?_ | refine G_block ?_ | refine G_exit rfl ?_)
  refine G_region ?_
  refine GO_eff rfl rfl (eff_box rfl) ?_; rintro _ _ ⟨b3, rfl, rfl⟩
  refine GO_q rfl rfl (ev_assign rfl) ?_
  refine GO_nil ?_
  cases hg : goodP p with
  | false =>
    have e1 : insC most l p = 1 := by unfold insC; rw [if_pos hg]
    have e2 : insR most l p = l := by unfold insR; rw [e1]; rfl
    rw [e1, e2]
    (repeat first | refine G_seq ?_ | refine G_skip ?_ | refine G_endblk ?_ | refine G_block ?_ | refine G_exit rfl ?_)
    refine G_region ?_
    refine GO_q rfl rfl (ev_loadN rfl (by repeat' first | exact LdN.blk rfl | assumption | apply LdN.skip | apply LdN.app)) ?_
    refine GO_eff rfl rfl (eff_call rfl (RGood_ctr p _)) ?_; rintro _ _ ⟨rfl, rfl⟩
    refine GO_q rfl rfl (ev_not rfl) ?_
    refine GO_nil ?_
    (repeat first | refine G_seq ?_ | refine G_skip ?_ | refine G_endblk ?_ | refine G_block ?_ | refine G_exit rfl ?_)
    refine G_cond_t rfl (by rw [hg]; rfl) ?_
    (repeat first | refine G_seq ?_ | refine G_skip ?_ | refine G_endblk ?_ | refine G_block ?_ | refine G_exit rfl ?_)
    refine G_region ?_
    refine GO_q rfl rfl (ev_assign rfl) ?_
    refine GO_nil ?_
    (repeat first | refine G_seq ?_ | refine G_skip ?_ | refine G_endblk ?_ | refine G_block ?_ | refine G_exit rfl ?_)
    refine G_ret (L' := setS b most l :: L) rfl (.tmp rfl .nil) ?_ ⟨rfl, rfl⟩
    apply en_pick
    focus ((repeat' first | exact Pick.here | apply Pick.skip | apply Pick.app); done)
    exact en_set hA (by (repeat first | exact en_refl | (apply en_blk; focus ((repeat' first | exact Pick.here | apply Pick.skip | apply Pick.app); done); focus rfl) | (apply en_own; focus ((repeat' first | exact Pick.here | apply Pick.skip | apply Pick.app); done); focus rfl) | (apply en_pick; focus ((repeat' first | exact Pick.here | apply Pick.skip | apply Pick.app); done)) | apply en_drop | apply en_app) <;> fail)
  | true =>
    (repeat first | refine G_seq ?_ | refine G_skip ?_ | refine G_endblk ?_ | refine G_block ?_ | refine G_exit rfl ?_)
    refine G_region ?_
    refine GO_q rfl rfl (ev_loadN rfl (by repeat' first | exact LdN.blk rfl | assumption | apply LdN.skip | apply LdN.app)) ?_
    refine GO_eff rfl rfl (eff_call rfl (RGood_ctr p _)) ?_; rintro _ _ ⟨rfl, rfl⟩
    refine GO_q rfl rfl (ev_not rfl) ?_
    refine GO_nil ?_
    (repeat first | refine G_seq ?_ | refine G_skip ?_ | refine G_endblk ?_ | refine G_block ?_ | refine G_exit rfl ?_)
    refine G_cond_f rfl (by rw [hg]; rfl) ?_
    (repeat first | refine G_seq ?_ | refine G_skip ?_ | refine G_endblk ?_ | refine G_block ?_ | refine G_exit rfl ?_)
    refine G_region ?_
    refine GO_q rfl rfl (ev_move rfl) ?_
    refine GO_q rfl rfl (ev_loadN rfl (by repeat' first | exact LdN.blk rfl | assumption | apply LdN.skip | apply LdN.app)) ?_
    refine GO_eff rfl rfl (eff_call rfl (At_ctr0 b A c most l p _ (by repeat' first | exact hb _ | apply LdN.skip) (by repeat' first | exact hr _ | apply Rd.skip) (by omega))) ?_; rintro _ _ ⟨rfl, rfl⟩
    refine GO_q rfl rfl (ev_geq rfl rfl) ?_
    refine GO_nil ?_
    by_cases hp : p ∈ l
    · have e1 : insC most l p = 5 := by unfold insC; rw [if_neg (by simp [hg]), if_pos hp]
      have e2 : insR most l p = l := by unfold insR; rw [e1]; rfl
      rw [e1, e2]
      (repeat first | refine G_seq ?_ | refine G_skip ?_ | refine G_endblk ?_ | refine G_block ?_ | refine G_exit rfl ?_)
      refine G_cond_t rfl (decide_eq_true ((atI_nn l p).2 hp)) ?_
      (repeat first | refine G_seq ?_ | refine G_skip ?_ | refine G_endblk ?_ | refine G_block ?_ | refine G_exit rfl ?_)
      refine G_region ?_
      refine GO_q rfl rfl (ev_assign rfl) ?_
      refine GO_nil ?_
      (repeat first | refine G_seq ?_ | refine G_skip ?_ | refine G_endblk ?_ | refine G_block ?_ | refine G_exit rfl ?_)
      refine G_ret (L' := setS b most l :: L) rfl (.tmp rfl .nil) ?_ ⟨rfl, rfl⟩
      apply en_pick
      focus ((repeat' first | exact Pick.here | apply Pick.skip | apply Pick.app); done)
      exact en_set hA (by (repeat first | exact en_refl | (apply en_blk; focus ((repeat' first | exact Pick.here | apply Pick.skip | apply Pick.app); done); focus rfl) | (apply en_own; focus ((repeat' first | exact Pick.here | apply Pick.skip | apply Pick.app); done); focus rfl) | (apply en_pick; focus ((repeat' first | exact Pick.here | apply Pick.skip | apply Pick.app); done)) | apply en_drop | apply en_app) <;> fail)
    · skip
      (repeat first | refine G_seq ?_ | refine G_skip ?_ | refine G_endblk ?_ | refine G_block ?_ | refine G_exit rfl ?_)
      refine G_cond_f rfl (decide_eq_false (fun h => hp ((atI_nn l p).1 h))) ?_
      (repeat first | refine G_seq ?_ | refine G_skip ?_ | refine G_endblk ?_ | refine G_block ?_ | refine G_exit rfl ?_)
      refine G_draw (.q 0 (.q 1 (.q 2 (.q 3 (.q 4 (.q 5 (.q 6 (.q 7 (.q 8 (.q 9 .nil)))))))))) (by kernel_rfl) (by kernel_rfl) ?_
      refine RS_m retB_noPanic rfl rfl rfl rfl (ev_move rfl) ?_
      (first | refine RS_m retB_noPanic rfl rfl rfl rfl (ev_nilCheck rfl) ?_ | refine RS_m retB_noPanic rfl rfl rfl rfl (ev_nilCheckF (by simp) rfl) ?_)
      refine RS_m retB_noPanic rfl rfl rfl rfl (ev_fieldAddr rfl) ?_
      refine RS_q retB_noPanic rfl rfl rfl rfl (ev_load rfl (by repeat' first | exact Ld.blk rfl | assumption | apply Ld.skip | apply Ld.app)) ?_
      refine RS_q retB_noPanic rfl rfl rfl rfl (ev_len rfl) ?_
      refine RS_m retB_noPanic rfl rfl rfl rfl (ev_move rfl) ?_
      (first | refine RS_m retB_noPanic rfl rfl rfl rfl (ev_nilCheck rfl) ?_ | refine RS_m retB_noPanic rfl rfl rfl rfl (ev_nilCheckF (by simp) rfl) ?_)
      refine RS_m retB_noPanic rfl rfl rfl rfl (ev_fieldAddr rfl) ?_
      refine RS_q retB_noPanic rfl rfl rfl rfl (ev_load rfl (by repeat' first | exact Ld.blk rfl | assumption | apply Ld.skip | apply Ld.app)) ?_
      refine RS_m retB_noPanic rfl rfl rfl rfl (ev_geq rfl rfl) ?_
      refine RS_nil ?_
      by_cases hfull : most ≤ l.length
      · have e1 : insC most l p = 4 := by unfold insC; rw [if_neg (by simp [hg]), if_neg hp, if_pos hfull]
        have e2 : insR most l p = l := by unfold insR; rw [e1]; rfl
        rw [e1, e2]
        (repeat first | refine G_seq ?_ | refine G_skip ?_ | refine G_endblk ?_ | refine G_block ?_ | refine G_exit rfl ?_)
        refine G_cond_t rfl (decide_eq_true hfull) ?_
        (repeat first | refine G_seq ?_ | refine G_skip ?_ | refine G_endblk ?_ | refine G_block ?_ | refine G_exit rfl ?_)
        refine G_region ?_
        refine GO_q rfl rfl (ev_assign rfl) ?_
        refine GO_nil ?_
        (repeat first | refine G_seq ?_ | refine G_skip ?_ | refine G_endblk ?_ | refine G_block ?_ | refine G_exit rfl ?_)
        refine G_ret (L' := setS b most l :: L) rfl (.tmp rfl .nil) ?_ ⟨rfl, rfl⟩
        apply en_pick
        focus ((repeat' first | exact Pick.here | apply Pick.skip | apply Pick.app); done)
        exact en_set hA (by (repeat first | exact en_refl | (apply en_blk; focus ((repeat' first | exact Pick.here | apply Pick.skip | apply Pick.app); done); focus rfl) | (apply en_own; focus ((repeat' first | exact Pick.here | apply Pick.skip | apply Pick.app); done); focus rfl) | (apply en_pick; focus ((repeat' first | exact Pick.here | apply Pick.skip | apply Pick.app); done)) | apply en_drop | apply en_app) <;> fail)
      · have e1 : insC most l p = 0 := by unfold insC; rw [if_neg (by simp [hg]), if_neg hp, if_neg hfull]
        have e2 : insR most l p = l ++ [p] := by unfold insR; rw [e1]; rfl
        rw [e1, e2]
        (repeat first | refine G_seq ?_ | refine G_skip ?_ | refine G_endblk ?_ | refine G_block ?_ | refine G_exit rfl ?_)
        refine G_cond_f rfl (decide_eq_false hfull) ?_
        (repeat first | refine G_seq ?_ | refine G_skip ?_ | refine G_endblk ?_ | refine G_block ?_ | refine G_exit rfl ?_)
        refine G_draw (.q 0 (.q 2 (.q 3 (.q 4 (.q 5 (.q 7 (.br 1 (.br 6 (.e 8 (.e 9 (.q 10 (.q 11 (.e 12 .nil))))) 8 (.e 6 (.e 9 (.q 10 (.q 11 (.e 12 .nil)))))) 8 (.e 1 (.e 6 (.e 9 (.q 10 (.q 11 (.e 12 .nil))))))))))))) (by kernel_rfl) (by kernel_rfl) ?_
        refine RS_m retB_noPanic rfl rfl rfl rfl (ev_move rfl) ?_
        refine RS_m retB_noPanic rfl rfl rfl rfl (ev_move rfl) ?_
        (first | refine RS_m retB_noPanic rfl rfl rfl rfl (ev_nilCheck rfl) ?_ | refine RS_m retB_noPanic rfl rfl rfl rfl (ev_nilCheckF (by simp) rfl) ?_)
        refine RS_m retB_noPanic rfl rfl rfl rfl (ev_fieldAddr rfl) ?_
        refine RS_q retB_noPanic rfl rfl rfl rfl (ev_load rfl (by repeat' first | exact Ld.blk rfl | assumption | apply Ld.skip | apply Ld.app)) ?_
        refine RS_q retB_noPanic rfl rfl rfl rfl (ev_loadN rfl (by repeat' first | exact LdN.blk rfl | assumption | apply LdN.skip | apply LdN.app)) ?_
        refine RS_br ?x80_0 ?x80_1
        case' x80_1 =>
          refine RE_eff rfl rfl rfl (eff_buildSlice1 (by rfl) rfl rfl) ?_; rintro _ _ ⟨b30, rfl, rfl⟩; refine ⟨_, (by first | ((repeat first | exact fun _ s => s | apply en_keep | apply en_drop | apply en_app) <;> fail) | ((repeat first | exact en_refl | (apply en_blk; focus ((repeat' first | exact Pick.here | apply Pick.skip | apply Pick.app); done); focus rfl) | (apply en_own; focus ((repeat' first | exact Pick.here | apply Pick.skip | apply Pick.app); done); focus rfl) | (apply en_pick; focus ((repeat' first | exact Pick.here | apply Pick.skip | apply Pick.app); done)) | apply en_drop | apply en_app) <;> fail)), fun _ s => s, ?_⟩
          refine RS_e (RE_eff rfl rfl rfl eff_buildSlice0 ?_); rintro _ _ ⟨b23, rfl, rfl⟩; refine ⟨_, (by first | ((repeat first | exact fun _ s => s | apply en_keep | apply en_drop | apply en_app) <;> fail) | ((repeat first | exact en_refl | (apply en_blk; focus ((repeat' first | exact Pick.here | apply Pick.skip | apply Pick.app); done); focus rfl) | (apply en_own; focus ((repeat' first | exact Pick.here | apply Pick.skip | apply Pick.app); done); focus rfl) | (apply en_pick; focus ((repeat' first | exact Pick.here | apply Pick.skip | apply Pick.app); done)) | apply en_drop | apply en_app) <;> fail)), fun _ s => s, ?_⟩
          refine RS_e (RE_eff rfl rfl rfl (eff_append rfl rfl (by repeat' first | exact Pick.here | apply Pick.skip) ((by repeat' first | exact hr _ | apply Rc.skip)) ((flat_one _)) (by rfl) (by decide) (by first | omega | (simp; done) | (simp; omega)) (by first | omega | (simp; done) | (simp; omega))) ?_); rintro _ _ ⟨A28, c28, rfl, hc28, hm28, hn28, rfl⟩; refine ⟨_, (by first | ((repeat first | exact fun _ s => s | apply en_keep | apply en_drop | apply en_app) <;> fail) | ((repeat first | exact en_refl | (apply en_blk; focus ((repeat' first | exact Pick.here | apply Pick.skip | apply Pick.app); done); focus rfl) | (apply en_own; focus ((repeat' first | exact Pick.here | apply Pick.skip | apply Pick.app); done); focus rfl) | (apply en_pick; focus ((repeat' first | exact Pick.here | apply Pick.skip | apply Pick.app); done)) | apply en_drop | apply en_app) <;> fail)), fun _ s => s, ?_⟩
          refine RS_e (RE_eff rfl rfl rfl (eff_append rfl rfl (by repeat' first | exact Pick.here | apply Pick.skip) (by repeat' first | exact Rc.blk rfl | assumption | apply Rc.skip) (one_all rfl) (by rfl) (by decide) (by first | omega | (simp; done) | (simp; omega)) (by first | omega | (simp; done) | (simp; omega))) ?_); rintro _ _ ⟨A31, c31, rfl, hc31, hm31, hn31, rfl⟩; refine ⟨_, (by first | ((repeat first | exact fun _ s => s | apply en_keep | apply en_drop | apply en_app) <;> fail) | ((repeat first | exact en_refl | (apply en_blk; focus ((repeat' first | exact Pick.here | apply Pick.skip | apply Pick.app); done); focus rfl) | (apply en_own; focus ((repeat' first | exact Pick.here | apply Pick.skip | apply Pick.app); done); focus rfl) | (apply en_pick; focus ((repeat' first | exact Pick.here | apply Pick.skip | apply Pick.app); done)) | apply en_drop | apply en_app) <;> fail)), fun _ s => s, ?_⟩
          (first | refine RS_m retB_noPanic rfl rfl rfl rfl (ev_nilCheck rfl) ?_ | refine RS_m retB_noPanic rfl rfl rfl rfl (ev_nilCheckF (by simp) rfl) ?_)
          refine RS_m retB_noPanic rfl rfl rfl rfl (ev_fieldAddr rfl) ?_
          refine RS_e (RE_cmp (by kernel_rfl) rfl rfl rfl (eff_store rfl rfl rfl (by repeat' first | exact Upd.here rfl | apply Upd.skip | apply Upd.app)) ?_); rintro _ _ ⟨rfl, rfl⟩
          refine RS_nil ?_
        case' x80_0 =>
          refine RE_eff rfl rfl rfl eff_buildSlice0 ?_; rintro _ _ ⟨b23, rfl, rfl⟩; refine ⟨_, (by first | ((repeat first | exact fun _ s => s | apply en_keep | apply en_drop | apply en_app) <;> fail) | ((repeat first | exact en_refl | (apply en_blk; focus ((repeat' first | exact Pick.here | apply Pick.skip | apply Pick.app); done); focus rfl) | (apply en_own; focus ((repeat' first | exact Pick.here | apply Pick.skip | apply Pick.app); done); focus rfl) | (apply en_pick; focus ((repeat' first | exact Pick.here | apply Pick.skip | apply Pick.app); done)) | apply en_drop | apply en_app) <;> fail)), fun _ s => s, ?_⟩
          refine RS_br ?x81_0 ?x81_1
          case' x81_1 =>
            refine RE_eff rfl rfl rfl (eff_buildSlice1 (by rfl) rfl rfl) ?_; rintro _ _ ⟨b30, rfl, rfl⟩; refine ⟨_, (by first | ((repeat first | exact fun _ s => s | apply en_keep | apply en_drop | apply en_app) <;> fail) | ((repeat first | exact en_refl | (apply en_blk; focus ((repeat' first | exact Pick.here | apply Pick.skip | apply Pick.app); done); focus rfl) | (apply en_own; focus ((repeat' first | exact Pick.here | apply Pick.skip | apply Pick.app); done); focus rfl) | (apply en_pick; focus ((repeat' first | exact Pick.here | apply Pick.skip | apply Pick.app); done)) | apply en_drop | apply en_app) <;> fail)), fun _ s => s, ?_⟩
            refine RS_e (RE_eff rfl rfl rfl (eff_append rfl rfl (by repeat' first | exact Pick.here | apply Pick.skip) ((by repeat' first | exact hr _ | apply Rc.skip)) ((flat_one _)) (by rfl) (by decide) (by first | omega | (simp; done) | (simp; omega)) (by first | omega | (simp; done) | (simp; omega))) ?_); rintro _ _ ⟨A28, c28, rfl, hc28, hm28, hn28, rfl⟩; refine ⟨_, (by first | ((repeat first | exact fun _ s => s | apply en_keep | apply en_drop | apply en_app) <;> fail) | ((repeat first | exact en_refl | (apply en_blk; focus ((repeat' first | exact Pick.here | apply Pick.skip | apply Pick.app); done); focus rfl) | (apply en_own; focus ((repeat' first | exact Pick.here | apply Pick.skip | apply Pick.app); done); focus rfl) | (apply en_pick; focus ((repeat' first | exact Pick.here | apply Pick.skip | apply Pick.app); done)) | apply en_drop | apply en_app) <;> fail)), fun _ s => s, ?_⟩
            refine RS_e (RE_eff rfl rfl rfl (eff_append rfl rfl (by repeat' first | exact Pick.here | apply Pick.skip) (by repeat' first | exact Rc.blk rfl | assumption | apply Rc.skip) (one_all rfl) (by rfl) (by decide) (by first | omega | (simp; done) | (simp; omega)) (by first | omega | (simp; done) | (simp; omega))) ?_); rintro _ _ ⟨A31, c31, rfl, hc31, hm31, hn31, rfl⟩; refine ⟨_, (by first | ((repeat first | exact fun _ s => s | apply en_keep | apply en_drop | apply en_app) <;> fail) | ((repeat first | exact en_refl | (apply en_blk; focus ((repeat' first | exact Pick.here | apply Pick.skip | apply Pick.app); done); focus rfl) | (apply en_own; focus ((repeat' first | exact Pick.here | apply Pick.skip | apply Pick.app); done); focus rfl) | (apply en_pick; focus ((repeat' first | exact Pick.here | apply Pick.skip | apply Pick.app); done)) | apply en_drop | apply en_app) <;> fail)), fun _ s => s, ?_⟩
            (first | refine RS_m retB_noPanic rfl rfl rfl rfl (ev_nilCheck rfl) ?_ | refine RS_m retB_noPanic rfl rfl rfl rfl (ev_nilCheckF (by simp) rfl) ?_)
            refine RS_m retB_noPanic rfl rfl rfl rfl (ev_fieldAddr rfl) ?_
            refine RS_e (RE_cmp (by kernel_rfl) rfl rfl rfl (eff_store rfl rfl rfl (by repeat' first | exact Upd.here rfl | apply Upd.skip | apply Upd.app)) ?_); rintro _ _ ⟨rfl, rfl⟩
            refine RS_nil ?_
          case' x81_0 =>
            refine RE_eff rfl rfl rfl (eff_append rfl rfl (by repeat' first | exact Pick.here | apply Pick.skip) ((by repeat' first | exact hr _ | apply Rc.skip)) ((flat_one _)) (by rfl) (by decide) (by first | omega | (simp; done) | (simp; omega)) (by first | omega | (simp; done) | (simp; omega))) ?_; rintro _ _ ⟨A28, c28, rfl, hc28, hm28, hn28, rfl⟩; refine ⟨_, (by first | ((repeat first | exact fun _ s => s | apply en_keep | apply en_drop | apply en_app) <;> fail) | ((repeat first | exact en_refl | (apply en_blk; focus ((repeat' first | exact Pick.here | apply Pick.skip | apply Pick.app); done); focus rfl) | (apply en_own; focus ((repeat' first | exact Pick.here | apply Pick.skip | apply Pick.app); done); focus rfl) | (apply en_pick; focus ((repeat' first | exact Pick.here | apply Pick.skip | apply Pick.app); done)) | apply en_drop | apply en_app) <;> fail)), fun _ s => s, ?_⟩
            refine RS_e (RE_eff rfl rfl rfl (eff_buildSlice1 (by rfl) rfl rfl) ?_); rintro _ _ ⟨b30, rfl, rfl⟩; refine ⟨_, (by first | ((repeat first | exact fun _ s => s | apply en_keep | apply en_drop | apply en_app) <;> fail) | ((repeat first | exact en_refl | (apply en_blk; focus ((repeat' first | exact Pick.here | apply Pick.skip | apply Pick.app); done); focus rfl) | (apply en_own; focus ((repeat' first | exact Pick.here | apply Pick.skip | apply Pick.app); done); focus rfl) | (apply en_pick; focus ((repeat' first | exact Pick.here | apply Pick.skip | apply Pick.app); done)) | apply en_drop | apply en_app) <;> fail)), fun _ s => s, ?_⟩
            refine RS_e (RE_eff rfl rfl rfl (eff_append rfl rfl (by repeat' first | exact Pick.here | apply Pick.skip) (by repeat' first | exact Rc.blk rfl | assumption | apply Rc.skip) (one_all rfl) (by rfl) (by decide) (by first | omega | (simp; done) | (simp; omega)) (by first | omega | (simp; done) | (simp; omega))) ?_); rintro _ _ ⟨A31, c31, rfl, hc31, hm31, hn31, rfl⟩; refine ⟨_, (by first | ((repeat first | exact fun _ s => s | apply en_keep | apply en_drop | apply en_app) <;> fail) | ((repeat first | exact en_refl | (apply en_blk; focus ((repeat' first | exact Pick.here | apply Pick.skip | apply Pick.app); done); focus rfl) | (apply en_own; focus ((repeat' first | exact Pick.here | apply Pick.skip | apply Pick.app); done); focus rfl) | (apply en_pick; focus ((repeat' first | exact Pick.here | apply Pick.skip | apply Pick.app); done)) | apply en_drop | apply en_app) <;> fail)), fun _ s => s, ?_⟩
            (first | refine RS_m retB_noPanic rfl rfl rfl rfl (ev_nilCheck rfl) ?_ | refine RS_m retB_noPanic rfl rfl rfl rfl (ev_nilCheckF (by simp) rfl) ?_)
            refine RS_m retB_noPanic rfl rfl rfl rfl (ev_fieldAddr rfl) ?_
            refine RS_e (RE_cmp (by kernel_rfl) rfl rfl rfl (eff_store rfl rfl rfl (by repeat' first | exact Upd.here rfl | apply Upd.skip | apply Upd.app)) ?_); rintro _ _ ⟨rfl, rfl⟩
            refine RS_nil ?_
        all_goals
          have nn : 0 + l.length + 1 = (l ++ [p]).length := by simp
          rw [nn] at hc31 hn31
          rw [nn]
          (repeat first | refine G_seq ?_ | refine G_skip ?_ | refine G_endblk ?_ | refine G_block ?_ | refine G_exit rfl ?_)
          refine G_region ?_
          refine GO_q rfl rfl (ev_assign rfl) ?_
          refine GO_nil ?_
          (repeat first | refine G_seq ?_ | refine G_skip ?_ | refine G_endblk ?_ | refine G_block ?_ | refine G_exit rfl ?_)
          refine G_ret (L' := setS b most (l ++ [p]) :: L) rfl (.tmp rfl .nil) ?_ ⟨rfl, rfl⟩
          apply en_pick
          focus ((repeat' first | exact Pick.here | apply Pick.skip | apply Pick.app); done)
          refine en_set (A := A31) (c := c31) hn31 ?_
          refine en_blk (by repeat' first | exact Pick.here | apply Pick.skip | apply Pick.app) rfl (en_own (by repeat' first | exact Pick.here | apply Pick.skip | apply Pick.app) (by rw [flat_append]; rfl) (by (repeat first | exact fun _ s => s | apply en_keep | apply en_drop | apply en_app) <;> fail))
theorem RDelete_ctr (b : Nat) (most : Int) (l : List Pt) (p : Pt) (L : List HP) (hn : l.length ≤ 100000) :
    Ctr Try.prog 60 #[.pointer (some ⟨b, 0, none⟩), p.v] (setS b most l :: L) fun v L' => v = .int .i64 (delC l p) ∧ L' = setS b most (l.erase p) :: L := by
  refine Ctr.set fun A c hA hlc hcm => ?_
  have hb : ∀ L', LdN (blk b 34 [.slice A l.length c, .int .i64 most] :: L') b 0 2 [.slice A l.length c, .int .i64 most] := fun L' => LdN.blk rfl
  have hr : ∀ L', Rd (own 39 3 A l.length c (flat l) :: L') A l.length l := fun L' => Rc.own (flat_length l) hA
  have hb1 : ∀ L', Ld (blk b 34 [.slice A l.length c, .int .i64 most] :: L') ⟨b, 0 + 0, none⟩ (.slice A l.length c) := fun L' => Ld.blk rfl
  unfold maxLen at hcm
  refine Ctr_of (fn := Try.f60) (n := 30) Try.func60 rfl rfl rfl ?_
  intro g F
  (repeat first | refine G_seq ?_ | refine G_skip ?_ | refine G_endblk ?_ | refine G_block ?_ | refine G_exit rfl ?_)
  refine G_region ?_
  refine GO_eff rfl rfl (eff_box rfl) ?_; rintro _ _ ⟨b3, rfl, rfl⟩
  refine GO_q rfl rfl (ev_assign rfl) ?_
  refine GO_nil ?_
  (repeat first | refine G_seq ?_ | refine G_skip ?_ | refine G_endblk ?_ | refine G_block ?_ | refine G_exit rfl ?_)
  refine G_region ?_
  refine GO_q rfl rfl (ev_move rfl) ?_
  refine GO_q rfl rfl (ev_loadN rfl (by repeat' first | exact LdN.blk rfl | assumption | apply LdN.skip | apply LdN.app)) ?_
  refine GO_eff rfl rfl (eff_call rfl (At_ctr0 b A c most l p _ (by repeat' first | exact hb _ | apply LdN.skip) (by repeat' first | exact hr _ | apply Rd.skip) (by omega))) ?_; rintro _ _ ⟨rfl, rfl⟩
  refine GO_q rfl rfl (ev_assign rfl) ?_
  refine GO_nil ?_
  (repeat first | refine G_seq ?_ | refine G_skip ?_ | refine G_endblk ?_ | refine G_block ?_ | refine G_exit rfl ?_)
  refine G_region ?_
  refine GO_q rfl rfl (ev_move rfl) ?_
  (first | refine GO_q rfl rfl (ev_lssN (q := 0) rfl rfl) ?_ | refine GO_q rfl rfl (ev_lss rfl rfl) ?_)
  refine GO_nil ?_
  by_cases hp : p ∈ l
  · have e1 : delC l p = 0 := if_pos hp
    have e2 := erase_idx p l hp
    have e3 : atI l p = (l.idxOf p : Nat) := by unfold atI; rw [if_pos hp]
    have e4 : l.idxOf p < l.length := List.idxOf_lt_length_iff.2 hp
    rw [e1, ← e2, e3]
    generalize l.idxOf p = j at *
    (repeat first | refine G_seq ?_ | refine G_skip ?_ | refine G_endblk ?_ | refine G_block ?_ | refine G_exit rfl ?_)
    refine G_cond_f rfl (decide_eq_false (by omega)) ?_
    obtain ⟨ab, rfl⟩ := hA (by omega)
    have e5 : j ≤ l.length := by omega
    have e6 : j + 1 ≤ l.length := by omega
    have m1 : ∀ L', Rc (own 39 3 (some ⟨ab, 0, none⟩) l.length c (flat l) :: L') 3 (some ⟨ab, 0, none⟩) j (flat (l.take j)) := fun L' => (hr L').take e5
    have m2 : ∀ L', Rc (own 39 3 (some ⟨ab, 0, none⟩) l.length c (flat l) :: L') 3 (some ⟨ab, (if c = j + 1 then 0 else 0 + (j + 1) * 3), none⟩) (l.length - (j + 1)) (flat (l.drop (j + 1))) := fun L' => (hr L').drop e6 hlc
    (repeat first | refine G_seq ?_ | refine G_skip ?_ | refine G_endblk ?_ | refine G_block ?_ | refine G_exit rfl ?_)
    refine G_draw (.q 0 (.q 2 (.q 3 (.q 4 (.q 5 (.q 6 (.q 7 (.q 9 (.q 10 (.q 11 (.q 12 (.q 13 (.q 14 (.q 15 (.e 1 (.e 8 (.e 16 (.q 17 (.q 18 (.e 19 .nil)))))))))))))))))))) (by kernel_rfl) (by kernel_rfl) ?_
    refine RS_m retB_noPanic rfl rfl rfl rfl (ev_move rfl) ?_
    refine RS_m retB_noPanic rfl rfl rfl rfl (ev_move rfl) ?_
    (first | refine RS_m retB_noPanic rfl rfl rfl rfl (ev_nilCheck rfl) ?_ | refine RS_m retB_noPanic rfl rfl rfl rfl (ev_nilCheckF (by simp) rfl) ?_)
    refine RS_m retB_noPanic rfl rfl rfl rfl (ev_fieldAddr rfl) ?_
    refine RS_q retB_noPanic rfl rfl rfl rfl (ev_load rfl (by repeat' first | exact Ld.blk rfl | assumption | apply Ld.skip | apply Ld.app)) ?_
    refine RS_m retB_noPanic rfl rfl rfl rfl (ev_move rfl) ?_
    refine RS_q retB_noPanic rfl rfl rfl rfl (ev_sliceH rfl rfl (by first | omega | (simp; done) | (simp; omega))) ?_
    refine RS_m retB_noPanic rfl rfl rfl rfl (ev_move rfl) ?_
    (first | refine RS_m retB_noPanic rfl rfl rfl rfl (ev_nilCheck rfl) ?_ | refine RS_m retB_noPanic rfl rfl rfl rfl (ev_nilCheckF (by simp) rfl) ?_)
    refine RS_m retB_noPanic rfl rfl rfl rfl (ev_fieldAddr rfl) ?_
    refine RS_q retB_noPanic rfl rfl rfl rfl (ev_load rfl (by repeat' first | exact Ld.blk rfl | assumption | apply Ld.skip | apply Ld.app)) ?_
    refine RS_m retB_noPanic rfl rfl rfl rfl (ev_move rfl) ?_
    (first | refine RS_m retB_noPanic rfl rfl rfl rfl (ev_addN (q := 1) rfl rfl (by first | omega | (simp; done) | (simp; omega))) ?_ | refine RS_m retB_noPanic rfl rfl rfl rfl (ev_add rfl rfl (by first | omega | (simp; done) | (simp; omega))) ?_)
    refine RS_q retB_noPanic rfl rfl rfl rfl (ev_sliceL rfl rfl (by first | omega | (simp; done) | (simp; omega)) (by first | omega | (simp; done) | (simp; omega))) ?_
    refine RS_e (RE_eff rfl rfl rfl eff_buildSlice0 ?_); rintro _ _ ⟨b12, rfl, rfl⟩; refine ⟨_, (by first | ((repeat first | exact fun _ s => s | apply en_keep | apply en_drop | apply en_app) <;> fail) | ((repeat first | exact en_refl | (apply en_blk; focus ((repeat' first | exact Pick.here | apply Pick.skip | apply Pick.app); done); focus rfl) | (apply en_own; focus ((repeat' first | exact Pick.here | apply Pick.skip | apply Pick.app); done); focus rfl) | (apply en_pick; focus ((repeat' first | exact Pick.here | apply Pick.skip | apply Pick.app); done)) | apply en_drop | apply en_app) <;> fail)), fun _ s => s, ?_⟩
    refine RS_e (RE_eff rfl rfl rfl (eff_append rfl rfl (by repeat' first | exact Pick.here | apply Pick.skip) ((by repeat' first | exact m1 _ | apply Rc.skip)) ((flat_one _)) (by rfl) (by decide) (by first | omega | (simp; done) | (simp; omega)) (by first | omega | (simp; done) | (simp; omega))) ?_); rintro _ _ ⟨A19, c19, rfl, hc19, hm19, hn19, rfl⟩; refine ⟨_, (by first | ((repeat first | exact fun _ s => s | apply en_keep | apply en_drop | apply en_app) <;> fail) | ((repeat first | exact en_refl | (apply en_blk; focus ((repeat' first | exact Pick.here | apply Pick.skip | apply Pick.app); done); focus rfl) | (apply en_own; focus ((repeat' first | exact Pick.here | apply Pick.skip | apply Pick.app); done); focus rfl) | (apply en_pick; focus ((repeat' first | exact Pick.here | apply Pick.skip | apply Pick.app); done)) | apply en_drop | apply en_app) <;> fail)), fun _ s => s, ?_⟩
    refine RS_e (RE_eff rfl rfl rfl (eff_append rfl rfl (by repeat' first | exact Pick.here | apply Pick.skip) ((by repeat' first | exact m2 _ | apply Rc.skip)) ((flat_one _)) (by rfl) (by decide) (by first | omega | (simp; done) | (simp; omega)) (by first | omega | (simp; done) | (simp; omega))) ?_); rintro _ _ ⟨A27, c27, rfl, hc27, hm27, hn27, rfl⟩; refine ⟨_, (by first | ((repeat first | exact fun _ s => s | apply en_keep | apply en_drop | apply en_app) <;> fail) | ((repeat first | exact en_refl | (apply en_blk; focus ((repeat' first | exact Pick.here | apply Pick.skip | apply Pick.app); done); focus rfl) | (apply en_own; focus ((repeat' first | exact Pick.here | apply Pick.skip | apply Pick.app); done); focus rfl) | (apply en_pick; focus ((repeat' first | exact Pick.here | apply Pick.skip | apply Pick.app); done)) | apply en_drop | apply en_app) <;> fail)), fun _ s => s, ?_⟩
    (first | refine RS_m retB_noPanic rfl rfl rfl rfl (ev_nilCheck rfl) ?_ | refine RS_m retB_noPanic rfl rfl rfl rfl (ev_nilCheckF (by simp) rfl) ?_)
    refine RS_m retB_noPanic rfl rfl rfl rfl (ev_fieldAddr rfl) ?_
    refine RS_e (RE_last (by kernel_rfl) rfl rfl rfl (eff_store rfl rfl rfl (by repeat' first | exact Upd.here rfl | apply Upd.skip | apply Upd.app)) ?_); rintro _ _ ⟨rfl, rfl⟩
    all_goals
      have nn : 0 + j + (l.length - (j + 1)) = (l.take j ++ l.drop (j + 1)).length := by simp; omega
      rw [nn] at hc27 hn27
      rw [nn]
      (repeat first | refine G_seq ?_ | refine G_skip ?_ | refine G_endblk ?_ | refine G_block ?_ | refine G_exit rfl ?_)
      refine G_region ?_
      refine GO_q rfl rfl (ev_assign rfl) ?_
      refine GO_nil ?_
      (repeat first | refine G_seq ?_ | refine G_skip ?_ | refine G_endblk ?_ | refine G_block ?_ | refine G_exit rfl ?_)
      refine G_ret (L' := setS b most (l.take j ++ l.drop (j + 1)) :: L) rfl (.tmp rfl .nil) ?_ ⟨rfl, rfl⟩
      apply en_pick
      focus ((repeat' first | exact Pick.here | apply Pick.skip | apply Pick.app); done)
      refine en_set (A := A27) (c := c27) hn27 ?_
      refine en_blk (by repeat' first | exact Pick.here | apply Pick.skip | apply Pick.app) rfl (en_own (by repeat' first | exact Pick.here | apply Pick.skip | apply Pick.app) (by rw [flat_append]; rfl) (by (repeat first | exact fun _ s => s | apply en_keep | apply en_drop | apply en_app) <;> fail))
  · have e1 : delC l p = 6 := if_neg hp
    have e3 : atI l p = -1 := by unfold atI; rw [if_neg hp]
    rw [e1, List.erase_of_not_mem hp, e3]
    (repeat first | refine G_seq ?_ | refine G_skip ?_ | refine G_endblk ?_ | refine G_block ?_ | refine G_exit rfl ?_)
    refine G_cond_t rfl (decide_eq_true (by omega)) ?_
    (repeat first | refine G_seq ?_ | refine G_skip ?_ | refine G_endblk ?_ | refine G_block ?_ | refine G_exit rfl ?_)
    refine G_region ?_
    refine GO_q rfl rfl (ev_assign rfl) ?_
    refine GO_nil ?_
    (repeat first | refine G_seq ?_ | refine G_skip ?_ | refine G_endblk ?_ | refine G_block ?_ | refine G_exit rfl ?_)
    refine G_ret (L' := setS b most l :: L) rfl (.tmp rfl .nil) ?_ ⟨rfl, rfl⟩
    apply en_pick
    focus ((repeat' first | exact Pick.here | apply Pick.skip | apply Pick.app); done)
    exact en_set hA (by (repeat first | exact en_refl | (apply en_blk; focus ((repeat' first | exact Pick.here | apply Pick.skip | apply Pick.app); done); focus rfl) | (apply en_own; focus ((repeat' first | exact Pick.here | apply Pick.skip | apply Pick.app); done); focus rfl) | (apply en_pick; focus ((repeat' first | exact Pick.here | apply Pick.skip | apply Pick.app); done)) | apply en_drop | apply en_app) <;> fail)
/-- The ids of the points that are meant. -/
def hits (f : Pt → Bool) (l : List Pt) : List Int := (l.filter f).map (·.id)
theorem hits_succ (f : Pt → Bool) (l : List Pt) (k : Nat) (h : k < l.length) : hits f (l.take (k + 1)) = hits f (l.take k) ++ if f l[k] = true then [l[k].id] else [] := by
  unfold hits
  rw [List.take_succ_eq_append_getElem h, List.filter_append, List.map_append]
  split <;> simp_all
theorem RReport_ctr0 (b : Nat) (A : Option Addr) (c : Nat) (most : Int) (x : Bx) (l : List Pt) (L : List HP) (h : LdN L b 0 2 [.slice A l.length c, .int .i64 most]) (hl : Rd L A l.length l) (hn : l.length ≤ 100000) :
    Ctr Try.prog 22 #[.pointer (some ⟨b, 0, none⟩), .agg #[.int .i64 x.x1, .int .i64 x.x2, .int .i64 x.y1, .int .i64 x.y2]] L fun v L' => ∃ X, (∃ A' c', v = .slice A' (srt (hits (fun p => x.has p.x p.y) l)).length c' ∧ (srt (hits (fun p => x.has p.x p.y) l)).length ≤ c' ∧ c' ≤ maxLen ∧ Rd X A' (srt (hits (fun p => x.has p.x p.y) l)).length (srt (hits (fun p => x.has p.x p.y) l))) ∧ L' = X ++ L := by
  have h1 : Ld L ⟨b, 0 + 0, none⟩ (.slice A l.length c) := h.at_ (i := 0) rfl
  rw [← rising_srt (hits (fun p => x.has p.x p.y) l) _ (.refl _)]
  refine Ctr_of (fn := Try.f22) (n := 48) Try.func22 rfl rfl rfl ?_
  intro g F
  (repeat first | refine G_seq ?_ | refine G_skip ?_ | refine G_endblk ?_ | refine G_block ?_ | refine G_exit rfl ?_)
  refine G_region ?_
  refine GO_eff rfl rfl (eff_box rfl) ?_; rintro _ _ ⟨b3, rfl, rfl⟩
  refine GO_q rfl rfl (ev_assign rfl) ?_
  refine GO_nil ?_
  (repeat first | refine G_seq ?_ | refine G_skip ?_ | refine G_endblk ?_ | refine G_block ?_ | refine G_exit rfl ?_)
  refine G_region ?_
  refine GO_eff rfl rfl eff_buildSlice0 ?_; rintro _ _ ⟨b7, rfl, rfl⟩
  refine GO_q rfl rfl (ev_assign rfl) ?_
  refine GO_nil ?_
  (repeat first | refine G_seq ?_ | refine G_skip ?_ | refine G_endblk ?_ | refine G_block ?_ | refine G_exit rfl ?_)
  refine G_region ?_
  refine GO_q rfl rfl (ev_assign rfl) ?_
  refine GO_nil ?_
  (repeat first | refine G_seq ?_ | refine G_skip ?_ | refine G_endblk ?_ | refine G_block ?_ | refine G_exit rfl ?_)
  refine G_loop (ι := Nat × Option Addr × Nat × List Int) (fun y => [(0, .pointer (some ⟨b, 0, none⟩)), (3, .pointer (some ⟨b3, 0, none⟩)), (5, .slice y.2.1 y.2.2.2.length y.2.2.1), (6, .int .i64 (y.1 : Nat))]) (fun y => own 3 1 y.2.1 y.2.2.2.length y.2.2.1 (flat y.2.2.2) :: blk b3 52 [.int .i64 x.x1, .int .i64 x.x2, .int .i64 x.y1, .int .i64 x.y2] :: F :: L)
    (fun y => y.1 ≤ l.length ∧ y.2.2.2 = hits (fun p => x.has p.x p.y) (l.take y.1) ∧ y.2.2.2.length ≤ y.1 ∧ y.2.2.2.length ≤ y.2.2.1 ∧ y.2.2.1 ≤ maxLen ∧ (0 < y.2.2.2.length → ∃ b, y.2.1 = some ⟨b, 0, none⟩)) (fun y => l.length - y.1) (0, some ⟨b7, 0, none⟩, 0, []) ⟨Nat.zero_le _, by simp [hits], Nat.le_refl _, Nat.le_refl _, Nat.zero_le _, fun _ => ⟨_, rfl⟩⟩ ⟨rfl, rfl, rfl, rfl, trivial⟩ (by (repeat first | exact fun _ s => s | apply en_keep | apply en_drop | apply en_app) <;> fail) ?_
  rintro ⟨k, A2, d, zs⟩ ⟨f1, f2, f3, f4, f5, f6⟩
  simp only at f1 f2 f3 f4 f5 f6
  dsimp only
  have f7 := f5
  unfold maxLen at f7
  (repeat first | refine G_seq ?_ | refine G_skip ?_ | refine G_endblk ?_ | refine G_block ?_ | refine G_exit rfl ?_)
  refine G_region ?_
  refine GO_q rfl rfl (ev_move rfl) ?_
  refine GO_q rfl rfl (ev_move rfl) ?_
  (first | refine GO_q rfl rfl (ev_nilCheck rfl) ?_ | refine GO_q rfl rfl (ev_nilCheckF (by simp) rfl) ?_)
  refine GO_q rfl rfl (ev_fieldAddr rfl) ?_
  refine GO_q rfl rfl (ev_load rfl (by repeat' first | exact Ld.blk rfl | assumption | apply Ld.skip | apply Ld.app)) ?_
  refine GO_q rfl rfl (ev_len rfl) ?_
  (first | refine GO_q rfl rfl (ev_lssN rfl rfl) ?_ | refine GO_q rfl rfl (ev_lss rfl rfl) ?_)
  refine GO_nil ?_
  (repeat first | refine G_seq ?_ | refine G_skip ?_ | refine G_endblk ?_ | refine G_block ?_ | refine G_exit rfl ?_)
  refine G_cond rfl (fun h4 => ?_) (fun h4 => ?_)
  · obtain ⟨lb, lo, rfl, hx⟩ := hl.at_ (by omega)
    have g1 : l[k]? = some l[k] := List.getElem?_eq_getElem (by omega)
    have y1 := hx _ _ g1
    have s1 := hits_succ (fun p => x.has p.x p.y) l k (by omega)
    generalize l[k] = u at *
    have z0 : Ld L ⟨lb, lo + k * 3 + 0, none⟩ (.int .i64 u.id) := y1.at_ (i := 0) rfl
    have z1 : Ld L ⟨lb, lo + k * 3 + 1, none⟩ (.int .i64 u.x) := y1.at_ (i := 1) rfl
    have z2 : Ld L ⟨lb, lo + k * 3 + 2, none⟩ (.int .i64 u.y) := y1.at_ (i := 2) rfl
    (repeat first | refine G_seq ?_ | refine G_skip ?_ | refine G_endblk ?_ | refine G_block ?_ | refine G_exit rfl ?_)
    refine G_draw (.q 0 (.q 1 (.q 2 (.q 3 (.q 4 (.q 5 (.q 6 (.q 7 (.q 8 (.q 9 (.q 10 (.q 11 (.q 12 (.q 13 (.q 14 (.q 15 (.q 16 (.e 17 .nil)))))))))))))))))) (by kernel_rfl) (by kernel_rfl) ?_
    refine RS_q retB_noPanic rfl rfl rfl rfl (ev_loadN rfl (by repeat' first | exact LdN.blk rfl | assumption | apply LdN.skip | apply LdN.app)) ?_
    refine RS_m retB_noPanic rfl rfl rfl rfl (ev_move rfl) ?_
    (first | refine RS_m retB_noPanic rfl rfl rfl rfl (ev_nilCheck rfl) ?_ | refine RS_m retB_noPanic rfl rfl rfl rfl (ev_nilCheckF (by simp) rfl) ?_)
    refine RS_m retB_noPanic rfl rfl rfl rfl (ev_fieldAddr rfl) ?_
    refine RS_q retB_noPanic rfl rfl rfl rfl (ev_load rfl (by repeat' first | exact Ld.blk rfl | assumption | apply Ld.skip | apply Ld.app)) ?_
    refine RS_m retB_noPanic rfl rfl rfl rfl (ev_move rfl) ?_
    (first | refine RS_m retB_noPanic rfl rfl rfl rfl (ev_indexAddrN rfl rfl (by first | omega | (simp; done) | (simp; omega))) ?_ | refine RS_m retB_noPanic rfl rfl rfl rfl (ev_indexAddr rfl rfl (by first | omega | (simp; done) | (simp; omega)) (by first | omega | (simp; done) | (simp; omega))) ?_)
    refine RS_m retB_noPanic rfl rfl rfl rfl (ev_fieldAddr rfl) ?_
    refine RS_q retB_noPanic rfl rfl rfl rfl (ev_load rfl (by repeat' first | exact Ld.blk rfl | assumption | apply Ld.skip | apply Ld.app)) ?_
    refine RS_m retB_noPanic rfl rfl rfl rfl (ev_move rfl) ?_
    (first | refine RS_m retB_noPanic rfl rfl rfl rfl (ev_nilCheck rfl) ?_ | refine RS_m retB_noPanic rfl rfl rfl rfl (ev_nilCheckF (by simp) rfl) ?_)
    refine RS_m retB_noPanic rfl rfl rfl rfl (ev_fieldAddr rfl) ?_
    refine RS_q retB_noPanic rfl rfl rfl rfl (ev_load rfl (by repeat' first | exact Ld.blk rfl | assumption | apply Ld.skip | apply Ld.app)) ?_
    refine RS_m retB_noPanic rfl rfl rfl rfl (ev_move rfl) ?_
    (first | refine RS_m retB_noPanic rfl rfl rfl rfl (ev_indexAddrN rfl rfl (by first | omega | (simp; done) | (simp; omega))) ?_ | refine RS_m retB_noPanic rfl rfl rfl rfl (ev_indexAddr rfl rfl (by first | omega | (simp; done) | (simp; omega)) (by first | omega | (simp; done) | (simp; omega))) ?_)
    refine RS_m retB_noPanic rfl rfl rfl rfl (ev_fieldAddr rfl) ?_
    refine RS_q retB_noPanic rfl rfl rfl rfl (ev_load rfl (by repeat' first | exact Ld.blk rfl | assumption | apply Ld.skip | apply Ld.app)) ?_
    refine RS_e (RE_last (by kernel_rfl) rfl rfl rfl (eff_call rfl (RHas_ctr x u.x u.y _)) ?_); rintro _ _ ⟨rfl, rfl⟩
    rcases hv : x.has u.x u.y with _ | _
    case' true =>
      (repeat first | refine G_seq ?_ | refine G_skip ?_ | refine G_endblk ?_ | refine G_block ?_ | refine G_exit rfl ?_)
      refine G_cond_t rfl rfl ?_
      (repeat first | refine G_seq ?_ | refine G_skip ?_ | refine G_endblk ?_ | refine G_block ?_ | refine G_exit rfl ?_)
      refine G_region ?_
      refine GO_q rfl rfl (ev_move rfl) ?_
      refine GO_q rfl rfl (ev_move rfl) ?_
      (first | refine GO_q rfl rfl (ev_nilCheck rfl) ?_ | refine GO_q rfl rfl (ev_nilCheckF (by simp) rfl) ?_)
      refine GO_q rfl rfl (ev_fieldAddr rfl) ?_
      refine GO_q rfl rfl (ev_load rfl (by repeat' first | exact Ld.blk rfl | assumption | apply Ld.skip | apply Ld.app)) ?_
      refine GO_q rfl rfl (ev_move rfl) ?_
      (first | refine GO_q rfl rfl (ev_indexAddrN rfl rfl (by first | omega | (simp; done) | (simp; omega))) ?_ | refine GO_q rfl rfl (ev_indexAddr rfl rfl (by first | omega | (simp; done) | (simp; omega)) (by first | omega | (simp; done) | (simp; omega))) ?_)
      refine GO_q rfl rfl (ev_fieldAddr rfl) ?_
      refine GO_q rfl rfl (ev_load rfl (by repeat' first | exact Ld.blk rfl | assumption | apply Ld.skip | apply Ld.app)) ?_
      refine GO_eff rfl rfl (eff_buildSlice1 (by rfl) rfl rfl) ?_; rintro _ _ ⟨b44, rfl, rfl⟩
      refine GO_eff rfl rfl (eff_append rfl rfl (by repeat' first | exact Pick.here | apply Pick.skip) (by repeat' first | exact Rc.blk rfl | assumption | apply Rc.skip) (one_all rfl) (by rfl) (by decide) (by first | omega | (simp; done) | (simp; omega)) (by first | omega | (simp; done) | (simp; omega))) ?_; rintro _ _ ⟨A45, c45, rfl, hc45, hm45, hn45, rfl⟩
      refine GO_q rfl rfl (ev_assign rfl) ?_
      refine GO_nil ?_
      (repeat first | refine G_seq ?_ | refine G_skip ?_ | refine G_endblk ?_ | refine G_block ?_ | refine G_exit rfl ?_)
      refine G_region ?_
      refine GO_q rfl rfl (ev_move rfl) ?_
      (first | refine GO_q rfl rfl (ev_addN (q := 1) rfl rfl (by first | omega | (simp; done) | (simp; omega))) ?_ | refine GO_q rfl rfl (ev_add rfl rfl (by first | omega | (simp; done) | (simp; omega))) ?_)
      refine GO_q rfl rfl (ev_assign rfl) ?_
      refine GO_nil ?_
      (repeat first | refine G_seq ?_ | refine G_skip ?_ | refine G_endblk ?_ | refine G_block ?_ | refine G_exit rfl ?_)
      rw [if_pos hv] at s1
      exact G_round (k + 1, A45, c45, zs ++ [u.id]) ⟨by simp only; omega, by rw [s1, f2], by simp; omega, by simpa using hc45, hm45, fun _ => hn45 (by omega)⟩ (by simp only; omega) ⟨rfl, rfl, by simp only [List.length_append, List.length_singleton]; rfl, rfl, trivial⟩ (by
        simp only [List.length_append, List.length_singleton]
        rw [← flat_snoc]
        exact (by (repeat first | exact fun _ s => s | apply en_keep | apply en_drop | apply en_app) <;> fail))
    case' false =>
      (repeat first | refine G_seq ?_ | refine G_skip ?_ | refine G_endblk ?_ | refine G_block ?_ | refine G_exit rfl ?_)
      refine G_cond_f rfl rfl ?_
      (repeat first | refine G_seq ?_ | refine G_skip ?_ | refine G_endblk ?_ | refine G_block ?_ | refine G_exit rfl ?_)
      refine G_region ?_
      refine GO_q rfl rfl (ev_move rfl) ?_
      (first | refine GO_q rfl rfl (ev_addN (q := 1) rfl rfl (by first | omega | (simp; done) | (simp; omega))) ?_ | refine GO_q rfl rfl (ev_add rfl rfl (by first | omega | (simp; done) | (simp; omega))) ?_)
      refine GO_q rfl rfl (ev_assign rfl) ?_
      refine GO_nil ?_
      (repeat first | refine G_seq ?_ | refine G_skip ?_ | refine G_endblk ?_ | refine G_block ?_ | refine G_exit rfl ?_)
      rw [if_neg (by rw [hv]; simp), List.append_nil] at s1
      exact G_round (k + 1, A2, d, zs) ⟨by simp only; omega, by rw [s1, f2], by simp only; omega, f4, f5, f6⟩ (by simp only; omega) ⟨rfl, rfl, rfl, rfl, trivial⟩ (by (repeat first | exact fun _ s => s | apply en_keep | apply en_drop | apply en_app) <;> fail)
  · have e : k = l.length := by omega
    subst e
    rw [List.take_length] at f2
    rw [← f2]
    (repeat first | refine G_seq ?_ | refine G_skip ?_ | refine G_endblk ?_ | refine G_block ?_ | refine G_exit rfl ?_)
    refine G_region ?_
    refine GO_q rfl rfl (ev_move rfl) ?_
    refine GO_eff rfl rfl (eff_call rfl (Ctr.frame (blk b3 52 [.int .i64 x.x1, .int .i64 x.x2, .int .i64 x.y1, .int .i64 x.y2] :: F :: L) (Rising_ctr A2 zs.length d zs [own 3 1 A2 zs.length d (flat zs)] (Rc.own (flat_length zs) f6) (by omega)) (fun _ s => s.perm (List.perm_append_singleton _ _).symm))) ?_; rintro _ _ ⟨_, ⟨A9, c9, N9, rfl, i1, i2, rfl, i3⟩, rfl⟩
    refine GO_q rfl rfl (ev_assign rfl) ?_
    refine GO_nil ?_
    (repeat first | refine G_seq ?_ | refine G_skip ?_ | refine G_endblk ?_ | refine G_block ?_ | refine G_exit rfl ?_)
    refine G_ret (L' := (N9 ++ [own 3 1 A2 zs.length d (flat zs)]) ++ L) rfl (.tmp rfl .nil) (fun _ s => s.tail.perm (.cons _ List.perm_append_comm)) ⟨_, ⟨A9, c9, rfl, i1, i2, i3⟩, rfl⟩
theorem RWindow_ctr0 (b : Nat) (A : Option Addr) (c : Nat) (most : Int) (x : Wn) (l : List Pt) (L : List HP) (h : LdN L b 0 2 [.slice A l.length c, .int .i64 most]) (hl : Rd L A l.length l) (hn : l.length ≤ 100000) :
    Ctr Try.prog 33 #[.pointer (some ⟨b, 0, none⟩), .agg #[.int .i64 x.x1, .int .i64 x.x2, .int .i64 x.y]] L fun v L' => ∃ X, (∃ A' c', v = .slice A' (srt (hits (fun p => x.sees p.x p.y) l)).length c' ∧ (srt (hits (fun p => x.sees p.x p.y) l)).length ≤ c' ∧ c' ≤ maxLen ∧ Rd X A' (srt (hits (fun p => x.sees p.x p.y) l)).length (srt (hits (fun p => x.sees p.x p.y) l))) ∧ L' = X ++ L := by
  have h1 : Ld L ⟨b, 0 + 0, none⟩ (.slice A l.length c) := h.at_ (i := 0) rfl
  rw [← rising_srt (hits (fun p => x.sees p.x p.y) l) _ (.refl _)]
  refine Ctr_of (fn := Try.f33) (n := 48) Try.func33 rfl rfl rfl ?_
  intro g F
  (repeat first | refine G_seq ?_ | refine G_skip ?_ | refine G_endblk ?_ | refine G_block ?_ | refine G_exit rfl ?_)
  refine G_region ?_
  refine GO_eff rfl rfl (eff_box rfl) ?_; rintro _ _ ⟨b3, rfl, rfl⟩
  refine GO_q rfl rfl (ev_assign rfl) ?_
  refine GO_nil ?_
  (repeat first | refine G_seq ?_ | refine G_skip ?_ | refine G_endblk ?_ | refine G_block ?_ | refine G_exit rfl ?_)
  refine G_region ?_
  refine GO_eff rfl rfl eff_buildSlice0 ?_; rintro _ _ ⟨b7, rfl, rfl⟩
  refine GO_q rfl rfl (ev_assign rfl) ?_
  refine GO_nil ?_
  (repeat first | refine G_seq ?_ | refine G_skip ?_ | refine G_endblk ?_ | refine G_block ?_ | refine G_exit rfl ?_)
  refine G_region ?_
  refine GO_q rfl rfl (ev_assign rfl) ?_
  refine GO_nil ?_
  (repeat first | refine G_seq ?_ | refine G_skip ?_ | refine G_endblk ?_ | refine G_block ?_ | refine G_exit rfl ?_)
  refine G_loop (ι := Nat × Option Addr × Nat × List Int) (fun y => [(0, .pointer (some ⟨b, 0, none⟩)), (3, .pointer (some ⟨b3, 0, none⟩)), (5, .slice y.2.1 y.2.2.2.length y.2.2.1), (6, .int .i64 (y.1 : Nat))]) (fun y => own 3 1 y.2.1 y.2.2.2.length y.2.2.1 (flat y.2.2.2) :: blk b3 45 [.int .i64 x.x1, .int .i64 x.x2, .int .i64 x.y] :: F :: L)
    (fun y => y.1 ≤ l.length ∧ y.2.2.2 = hits (fun p => x.sees p.x p.y) (l.take y.1) ∧ y.2.2.2.length ≤ y.1 ∧ y.2.2.2.length ≤ y.2.2.1 ∧ y.2.2.1 ≤ maxLen ∧ (0 < y.2.2.2.length → ∃ b, y.2.1 = some ⟨b, 0, none⟩)) (fun y => l.length - y.1) (0, some ⟨b7, 0, none⟩, 0, []) ⟨Nat.zero_le _, by simp [hits], Nat.le_refl _, Nat.le_refl _, Nat.zero_le _, fun _ => ⟨_, rfl⟩⟩ ⟨rfl, rfl, rfl, rfl, trivial⟩ (by (repeat first | exact fun _ s => s | apply en_keep | apply en_drop | apply en_app) <;> fail) ?_
  rintro ⟨k, A2, d, zs⟩ ⟨f1, f2, f3, f4, f5, f6⟩
  simp only at f1 f2 f3 f4 f5 f6
  dsimp only
  have f7 := f5
  unfold maxLen at f7
  (repeat first | refine G_seq ?_ | refine G_skip ?_ | refine G_endblk ?_ | refine G_block ?_ | refine G_exit rfl ?_)
  refine G_region ?_
  refine GO_q rfl rfl (ev_move rfl) ?_
  refine GO_q rfl rfl (ev_move rfl) ?_
  (first | refine GO_q rfl rfl (ev_nilCheck rfl) ?_ | refine GO_q rfl rfl (ev_nilCheckF (by simp) rfl) ?_)
  refine GO_q rfl rfl (ev_fieldAddr rfl) ?_
  refine GO_q rfl rfl (ev_load rfl (by repeat' first | exact Ld.blk rfl | assumption | apply Ld.skip | apply Ld.app)) ?_
  refine GO_q rfl rfl (ev_len rfl) ?_
  (first | refine GO_q rfl rfl (ev_lssN rfl rfl) ?_ | refine GO_q rfl rfl (ev_lss rfl rfl) ?_)
  refine GO_nil ?_
  (repeat first | refine G_seq ?_ | refine G_skip ?_ | refine G_endblk ?_ | refine G_block ?_ | refine G_exit rfl ?_)
  refine G_cond rfl (fun h4 => ?_) (fun h4 => ?_)
  · obtain ⟨lb, lo, rfl, hx⟩ := hl.at_ (by omega)
    have g1 : l[k]? = some l[k] := List.getElem?_eq_getElem (by omega)
    have y1 := hx _ _ g1
    have s1 := hits_succ (fun p => x.sees p.x p.y) l k (by omega)
    generalize l[k] = u at *
    have z0 : Ld L ⟨lb, lo + k * 3 + 0, none⟩ (.int .i64 u.id) := y1.at_ (i := 0) rfl
    have z1 : Ld L ⟨lb, lo + k * 3 + 1, none⟩ (.int .i64 u.x) := y1.at_ (i := 1) rfl
    have z2 : Ld L ⟨lb, lo + k * 3 + 2, none⟩ (.int .i64 u.y) := y1.at_ (i := 2) rfl
    (repeat first | refine G_seq ?_ | refine G_skip ?_ | refine G_endblk ?_ | refine G_block ?_ | refine G_exit rfl ?_)
    refine G_draw (.q 0 (.q 1 (.q 2 (.q 3 (.q 4 (.q 5 (.q 6 (.q 7 (.q 8 (.q 9 (.q 10 (.q 11 (.q 12 (.q 13 (.q 14 (.q 15 (.q 16 (.e 17 .nil)))))))))))))))))) (by kernel_rfl) (by kernel_rfl) ?_
    refine RS_q retB_noPanic rfl rfl rfl rfl (ev_loadN rfl (by repeat' first | exact LdN.blk rfl | assumption | apply LdN.skip | apply LdN.app)) ?_
    refine RS_m retB_noPanic rfl rfl rfl rfl (ev_move rfl) ?_
    (first | refine RS_m retB_noPanic rfl rfl rfl rfl (ev_nilCheck rfl) ?_ | refine RS_m retB_noPanic rfl rfl rfl rfl (ev_nilCheckF (by simp) rfl) ?_)
    refine RS_m retB_noPanic rfl rfl rfl rfl (ev_fieldAddr rfl) ?_
    refine RS_q retB_noPanic rfl rfl rfl rfl (ev_load rfl (by repeat' first | exact Ld.blk rfl | assumption | apply Ld.skip | apply Ld.app)) ?_
    refine RS_m retB_noPanic rfl rfl rfl rfl (ev_move rfl) ?_
    (first | refine RS_m retB_noPanic rfl rfl rfl rfl (ev_indexAddrN rfl rfl (by first | omega | (simp; done) | (simp; omega))) ?_ | refine RS_m retB_noPanic rfl rfl rfl rfl (ev_indexAddr rfl rfl (by first | omega | (simp; done) | (simp; omega)) (by first | omega | (simp; done) | (simp; omega))) ?_)
    refine RS_m retB_noPanic rfl rfl rfl rfl (ev_fieldAddr rfl) ?_
    refine RS_q retB_noPanic rfl rfl rfl rfl (ev_load rfl (by repeat' first | exact Ld.blk rfl | assumption | apply Ld.skip | apply Ld.app)) ?_
    refine RS_m retB_noPanic rfl rfl rfl rfl (ev_move rfl) ?_
    (first | refine RS_m retB_noPanic rfl rfl rfl rfl (ev_nilCheck rfl) ?_ | refine RS_m retB_noPanic rfl rfl rfl rfl (ev_nilCheckF (by simp) rfl) ?_)
    refine RS_m retB_noPanic rfl rfl rfl rfl (ev_fieldAddr rfl) ?_
    refine RS_q retB_noPanic rfl rfl rfl rfl (ev_load rfl (by repeat' first | exact Ld.blk rfl | assumption | apply Ld.skip | apply Ld.app)) ?_
    refine RS_m retB_noPanic rfl rfl rfl rfl (ev_move rfl) ?_
    (first | refine RS_m retB_noPanic rfl rfl rfl rfl (ev_indexAddrN rfl rfl (by first | omega | (simp; done) | (simp; omega))) ?_ | refine RS_m retB_noPanic rfl rfl rfl rfl (ev_indexAddr rfl rfl (by first | omega | (simp; done) | (simp; omega)) (by first | omega | (simp; done) | (simp; omega))) ?_)
    refine RS_m retB_noPanic rfl rfl rfl rfl (ev_fieldAddr rfl) ?_
    refine RS_q retB_noPanic rfl rfl rfl rfl (ev_load rfl (by repeat' first | exact Ld.blk rfl | assumption | apply Ld.skip | apply Ld.app)) ?_
    refine RS_e (RE_last (by kernel_rfl) rfl rfl rfl (eff_call rfl (RSees_ctr x u.x u.y _)) ?_); rintro _ _ ⟨rfl, rfl⟩
    rcases hv : x.sees u.x u.y with _ | _
    case' true =>
      (repeat first | refine G_seq ?_ | refine G_skip ?_ | refine G_endblk ?_ | refine G_block ?_ | refine G_exit rfl ?_)
      refine G_cond_t rfl rfl ?_
      (repeat first | refine G_seq ?_ | refine G_skip ?_ | refine G_endblk ?_ | refine G_block ?_ | refine G_exit rfl ?_)
      refine G_region ?_
      refine GO_q rfl rfl (ev_move rfl) ?_
      refine GO_q rfl rfl (ev_move rfl) ?_
      (first | refine GO_q rfl rfl (ev_nilCheck rfl) ?_ | refine GO_q rfl rfl (ev_nilCheckF (by simp) rfl) ?_)
      refine GO_q rfl rfl (ev_fieldAddr rfl) ?_
      refine GO_q rfl rfl (ev_load rfl (by repeat' first | exact Ld.blk rfl | assumption | apply Ld.skip | apply Ld.app)) ?_
      refine GO_q rfl rfl (ev_move rfl) ?_
      (first | refine GO_q rfl rfl (ev_indexAddrN rfl rfl (by first | omega | (simp; done) | (simp; omega))) ?_ | refine GO_q rfl rfl (ev_indexAddr rfl rfl (by first | omega | (simp; done) | (simp; omega)) (by first | omega | (simp; done) | (simp; omega))) ?_)
      refine GO_q rfl rfl (ev_fieldAddr rfl) ?_
      refine GO_q rfl rfl (ev_load rfl (by repeat' first | exact Ld.blk rfl | assumption | apply Ld.skip | apply Ld.app)) ?_
      refine GO_eff rfl rfl (eff_buildSlice1 (by rfl) rfl rfl) ?_; rintro _ _ ⟨b44, rfl, rfl⟩
      refine GO_eff rfl rfl (eff_append rfl rfl (by repeat' first | exact Pick.here | apply Pick.skip) (by repeat' first | exact Rc.blk rfl | assumption | apply Rc.skip) (one_all rfl) (by rfl) (by decide) (by first | omega | (simp; done) | (simp; omega)) (by first | omega | (simp; done) | (simp; omega))) ?_; rintro _ _ ⟨A45, c45, rfl, hc45, hm45, hn45, rfl⟩
      refine GO_q rfl rfl (ev_assign rfl) ?_
      refine GO_nil ?_
      (repeat first | refine G_seq ?_ | refine G_skip ?_ | refine G_endblk ?_ | refine G_block ?_ | refine G_exit rfl ?_)
      refine G_region ?_
      refine GO_q rfl rfl (ev_move rfl) ?_
      (first | refine GO_q rfl rfl (ev_addN (q := 1) rfl rfl (by first | omega | (simp; done) | (simp; omega))) ?_ | refine GO_q rfl rfl (ev_add rfl rfl (by first | omega | (simp; done) | (simp; omega))) ?_)
      refine GO_q rfl rfl (ev_assign rfl) ?_
      refine GO_nil ?_
      (repeat first | refine G_seq ?_ | refine G_skip ?_ | refine G_endblk ?_ | refine G_block ?_ | refine G_exit rfl ?_)
      rw [if_pos hv] at s1
      exact G_round (k + 1, A45, c45, zs ++ [u.id]) ⟨by simp only; omega, by rw [s1, f2], by simp; omega, by simpa using hc45, hm45, fun _ => hn45 (by omega)⟩ (by simp only; omega) ⟨rfl, rfl, by simp only [List.length_append, List.length_singleton]; rfl, rfl, trivial⟩ (by
        simp only [List.length_append, List.length_singleton]
        rw [← flat_snoc]
        exact (by (repeat first | exact fun _ s => s | apply en_keep | apply en_drop | apply en_app) <;> fail))
    case' false =>
      (repeat first | refine G_seq ?_ | refine G_skip ?_ | refine G_endblk ?_ | refine G_block ?_ | refine G_exit rfl ?_)
      refine G_cond_f rfl rfl ?_
      (repeat first | refine G_seq ?_ | refine G_skip ?_ | refine G_endblk ?_ | refine G_block ?_ | refine G_exit rfl ?_)
      refine G_region ?_
      refine GO_q rfl rfl (ev_move rfl) ?_
      (first | refine GO_q rfl rfl (ev_addN (q := 1) rfl rfl (by first | omega | (simp; done) | (simp; omega))) ?_ | refine GO_q rfl rfl (ev_add rfl rfl (by first | omega | (simp; done) | (simp; omega))) ?_)
      refine GO_q rfl rfl (ev_assign rfl) ?_
      refine GO_nil ?_
      (repeat first | refine G_seq ?_ | refine G_skip ?_ | refine G_endblk ?_ | refine G_block ?_ | refine G_exit rfl ?_)
      rw [if_neg (by rw [hv]; simp), List.append_nil] at s1
      exact G_round (k + 1, A2, d, zs) ⟨by simp only; omega, by rw [s1, f2], by simp only; omega, f4, f5, f6⟩ (by simp only; omega) ⟨rfl, rfl, rfl, rfl, trivial⟩ (by (repeat first | exact fun _ s => s | apply en_keep | apply en_drop | apply en_app) <;> fail)
  · have e : k = l.length := by omega
    subst e
    rw [List.take_length] at f2
    rw [← f2]
    (repeat first | refine G_seq ?_ | refine G_skip ?_ | refine G_endblk ?_ | refine G_block ?_ | refine G_exit rfl ?_)
    refine G_region ?_
    refine GO_q rfl rfl (ev_move rfl) ?_
    refine GO_eff rfl rfl (eff_call rfl (Ctr.frame (blk b3 45 [.int .i64 x.x1, .int .i64 x.x2, .int .i64 x.y] :: F :: L) (Rising_ctr A2 zs.length d zs [own 3 1 A2 zs.length d (flat zs)] (Rc.own (flat_length zs) f6) (by omega)) (fun _ s => s.perm (List.perm_append_singleton _ _).symm))) ?_; rintro _ _ ⟨_, ⟨A9, c9, N9, rfl, i1, i2, rfl, i3⟩, rfl⟩
    refine GO_q rfl rfl (ev_assign rfl) ?_
    refine GO_nil ?_
    (repeat first | refine G_seq ?_ | refine G_skip ?_ | refine G_endblk ?_ | refine G_block ?_ | refine G_exit rfl ?_)
    refine G_ret (L' := (N9 ++ [own 3 1 A2 zs.length d (flat zs)]) ++ L) rfl (.tmp rfl .nil) (fun _ s => s.tail.perm (.cons _ List.perm_append_comm)) ⟨_, ⟨A9, c9, rfl, i1, i2, i3⟩, rfl⟩
theorem Ctr.setR {P : Program} {f : FuncId} {args : Array Value} {L : List HP} {b : Nat} {most : Int} {l : List Pt} {R : Value → List HP → Prop}
    (C : ∀ (A : Option Addr) (c : Nat) (L' : List HP), LdN L' b 0 2 [.slice A l.length c, .int .i64 most] → Rd L' A l.length l → Ctr P f args L' fun v L'' => ∃ X, R v X ∧ L'' = X ++ L') : Ctr P f args (setS b most l :: L) fun v L' => ∃ X, R v X ∧ L' = X ++ (setS b most l :: L) :=
  Ctr.read (R := R) (ι := Option Addr × Nat) (φ := fun x => 0 < l.length → ∃ b, x.1 = some ⟨b, 0, none⟩) (N := fun x => [blk b 34 [.slice x.1 l.length x.2, .int .i64 most], own 39 3 x.1 l.length x.2 (flat l)]) (fun _ h => h) (fun x hx h q => ⟨x, hx, q⟩)
    fun x hx => C x.1 x.2 _ (LdN.blk rfl) (Rd.skip (Rc.own (flat_length l) hx))
theorem RReport_ctr (b : Nat) (most : Int) (x : Bx) (l : List Pt) (L : List HP) (hn : l.length ≤ 100000) :
    Ctr Try.prog 22 #[.pointer (some ⟨b, 0, none⟩), .agg #[.int .i64 x.x1, .int .i64 x.x2, .int .i64 x.y1, .int .i64 x.y2]] (setS b most l :: L) fun v L' => ∃ X, (∃ A' c', v = .slice A' (srt (hits (fun p => x.has p.x p.y) l)).length c' ∧ (srt (hits (fun p => x.has p.x p.y) l)).length ≤ c' ∧ c' ≤ maxLen ∧ Rd X A' (srt (hits (fun p => x.has p.x p.y) l)).length (srt (hits (fun p => x.has p.x p.y) l))) ∧ L' = X ++ (setS b most l :: L) :=
  Ctr.setR fun A c L' h hl => RReport_ctr0 b A c most x l L' h hl hn
theorem RWindow_ctr (b : Nat) (most : Int) (x : Wn) (l : List Pt) (L : List HP) (hn : l.length ≤ 100000) :
    Ctr Try.prog 33 #[.pointer (some ⟨b, 0, none⟩), .agg #[.int .i64 x.x1, .int .i64 x.x2, .int .i64 x.y]] (setS b most l :: L) fun v L' => ∃ X, (∃ A' c', v = .slice A' (srt (hits (fun p => x.sees p.x p.y) l)).length c' ∧ (srt (hits (fun p => x.sees p.x p.y) l)).length ≤ c' ∧ c' ≤ maxLen ∧ Rd X A' (srt (hits (fun p => x.sees p.x p.y) l)).length (srt (hits (fun p => x.sees p.x p.y) l))) ∧ L' = X ++ (setS b most l :: L) :=
  Ctr.setR fun A c L' h hl => RWindow_ctr0 b A c most x l L' h hl hn
end Go.Proofs.Ytalcanejhniepaa
/- What a contract leaves, put otherwise. No program stands in this text but the references' set. -/
namespace Go.Proofs.Ytalcanejhniepaa
set_option linter.unusedVariables false

theorem Ctr.post {P : Program} {f : FuncId} {args : Array Value} {L : List HP} {post post' : Value → List HP → Prop} (h : Ctr P f args L post) (hp : ∀ v L' hm, post v L' → sat L' hm → ∃ M, post' v M ∧ sat M hm) : Ctr P f args L post' := fun g F w hw =>
  (h g F w hw).mono fun e w' ⟨v, L', e1, p, q⟩ => by
    obtain ⟨h1, h2, d, s1, s2, a, l⟩ := q.s
    obtain ⟨M, pm, sm⟩ := hp v L' h2 p l
    exact ⟨v, M, e1, pm, q.g, h1, h2, d, s1, s2, a, sm⟩
/-- Something that was made, of which no more is told than how it reads. -/
def MadeY {α : Type} [E : Enc α] (l : List α) (L : List HP) (v : Value) (L' : List HP) : Prop := ∃ (Y : HP) (A : Option Addr) (c : Nat), v = .slice A l.length c ∧ l.length ≤ c ∧ c ≤ maxLen ∧ (∀ L, Rd (Y :: L) A l.length l) ∧ L' = Y :: L
theorem Rc.of {Y : HP} {N L : List HP} {sz n : Nat} {A : Option Addr} {xs : List Value} (f : ∀ h, Y h → sat N h) (h : Rc N sz A n xs) : Rc (Y :: L) sz A n xs :=
  ⟨h.1, fun hn => let ⟨b, o, e, k⟩ := h.2 hn; ⟨b, o, e, fun j v hj => (k j v hj).of f⟩⟩
theorem Ctr.y {P : Program} {f : FuncId} {args : Array Value} {L : List HP} {α : Type} [E : Enc α] {l : List α} (h : Ctr P f args L fun v L' => ∃ X, (∃ A' c', v = .slice A' l.length c' ∧ l.length ≤ c' ∧ c' ≤ maxLen ∧ Rd X A' l.length l) ∧ L' = X ++ L) : Ctr P f args L fun v L' => MadeY l L v L' :=
  h.post fun v L' hm ⟨X, ⟨A, c, e1, e2, e3, e4⟩, e5⟩ s => ⟨_, ⟨fun h => sat X h, A, c, e1, e2, e3, fun L => Rc.of (fun _ h => h) e4, rfl⟩, sat.join (e5 ▸ s)⟩
theorem set_open {s : Nat} {most : Int} {l : List Pt} {M : List HP} {hm : Hm} (h : sat (setS s most l :: M) hm) : ∃ A c, (0 < l.length → ∃ b, A = some ⟨b, 0, none⟩) ∧ l.length ≤ c ∧ c ≤ maxLen ∧ sat (blk s 34 [.slice A l.length c, .int .i64 most] :: own 39 3 A l.length c (flat l) :: M) hm := by
  obtain ⟨h1, h2, d, s1, s2, ⟨⟨A, c⟩, hA, q⟩, t⟩ := h
  have q0 := own.facts (L := []) q.tail
  exact ⟨A, c, hA, q0.2.1, q0.2.2.1, sat.head (A := fun h => h = h1) (N := [blk s 34 [.slice A l.length c, .int .i64 most], own 39 3 A l.length c (flat l)]) (fun _ e => e ▸ q) ⟨h1, h2, d, s1, s2, rfl, t⟩⟩
end Go.Proofs.Ytalcanejhniepaa
/- The reference's order of points. -/
namespace Go.Proofs.Ytalcanejhniepaa
attribute [local irreducible] sat
set_option linter.unusedVariables false
set_option linter.unusedSimpArgs false
set_option maxRecDepth 100000

def three (a b c d e f : Int) : Int := if a < d then -1 else if d < a then 1 else if b < e then -1 else if e < b then 1 else if c < f then -1 else if f < c then 1 else 0
theorem three_up (p q : Pt) : three p.y p.x p.id q.y q.x q.id = up p q := by
  obtain ⟨pi, px, py⟩ := p
  obtain ⟨qi, qx, qy⟩ := q
  simp only [three, up, Pt.cmp, Pt.turned, Pt.less]
  by_cases h1 : py = qy
  · by_cases h2 : px = qx
    · by_cases h3 : pi = qi
      · simp [h1, h2, h3]
      · subst h1 h2
        by_cases h4 : pi < qi
        · simp [h3, h4]
        · have h5 : qi < pi := by omega
          simp [h3, h4, h5]
    · subst h1
      by_cases h4 : px < qx
      · simp [h2, h4]
      · have h5 : qx < px := by omega
        simp [h2, h4, h5]
  · by_cases h4 : py < qy
    · simp [h1, h4]
    · have h5 : qy < py := by omega
      simp [h1, h4, h5]
theorem Three_ctr (a b c d e f : Int) (L : List HP) : Ctr Try.prog 43 #[.agg #[.int .i64 a, .int .i64 b, .int .i64 c], .agg #[.int .i64 d, .int .i64 e, .int .i64 f]] L fun v L' => v = .int .i64 (three a b c d e f) ∧ L' = L := by
  refine Ctr_of (fn := Try.f43) (n := 24) Try.func43 rfl rfl rfl ?_
  intro g F
  (repeat first | refine G_seq ?_ | refine G_skip ?_ | refine G_endblk ?_ | refine G_block ?_ | refine G_exit rfl ?_)
  refine G_region ?_
  refine GO_eff rfl rfl (eff_box rfl) ?_; rintro _ _ ⟨b2, rfl, rfl⟩
  refine GO_eff rfl rfl (eff_box rfl) ?_; rintro _ _ ⟨b3, rfl, rfl⟩
  refine GO_q rfl rfl (ev_assign rfl) ?_
  refine GO_nil ?_
  (repeat first | refine G_seq ?_ | refine G_skip ?_ | refine G_endblk ?_ | refine G_block ?_ | refine G_exit rfl ?_)
  refine G_region ?_
  refine GO_q rfl rfl (ev_assign rfl) ?_
  refine GO_nil ?_
  (repeat first | refine G_seq ?_ | refine G_skip ?_ | refine G_endblk ?_ | refine G_block ?_ | refine G_exit rfl ?_)
  refine G_loop (ι := Nat) (fun k => [(2, .pointer (some ⟨b2, 0, none⟩)), (3, .pointer (some ⟨b3, 0, none⟩)), (5, .int .i64 (k : Nat))]) (fun _ => blk b3 85 [.int .i64 d, .int .i64 e, .int .i64 f] :: blk b2 85 [.int .i64 a, .int .i64 b, .int .i64 c] :: F :: L) (fun k => k ≤ 3 ∧ (0 < k → a = d) ∧ (1 < k → b = e) ∧ (2 < k → c = f)) (fun k => 3 - k) 0 ⟨by omega, by omega, by omega, by omega⟩ ⟨rfl, rfl, rfl, trivial⟩ (fun _ s => s) ?_
  rintro k ⟨f1, f2, f3, f4⟩
  match k with
  | 0 =>
    (repeat first | refine G_seq ?_ | refine G_skip ?_ | refine G_endblk ?_ | refine G_block ?_ | refine G_exit rfl ?_)
    refine G_region ?_
    refine GO_q rfl rfl (ev_move rfl) ?_
    (first | refine GO_q rfl rfl (ev_lssN (q := 3) rfl rfl) ?_ | refine GO_q rfl rfl (ev_lss rfl rfl) ?_)
    refine GO_nil ?_
    (repeat first | refine G_seq ?_ | refine G_skip ?_ | refine G_endblk ?_ | refine G_block ?_ | refine G_exit rfl ?_)
    refine G_cond_t rfl rfl ?_
    (repeat first | refine G_seq ?_ | refine G_skip ?_ | refine G_endblk ?_ | refine G_block ?_ | refine G_exit rfl ?_)
    refine G_draw (.q 0 (.q 1 (.q 2 (.q 3 (.q 4 (.q 5 (.q 6 .nil))))))) (by kernel_rfl) (by kernel_rfl) ?_
    refine RS_m retB_noPanic rfl rfl rfl rfl (ev_move rfl) ?_
    refine RS_m retB_noPanic rfl rfl rfl rfl (ev_indexAddrA rfl rfl (by first | omega | (simp; done) | (simp; omega)) (by first | omega | (simp; done) | (simp; omega))) ?_
    refine RS_q retB_noPanic rfl rfl rfl rfl (ev_load rfl (by repeat' first | exact Ld.blk rfl | assumption | apply Ld.skip | apply Ld.app)) ?_
    refine RS_m retB_noPanic rfl rfl rfl rfl (ev_move rfl) ?_
    refine RS_m retB_noPanic rfl rfl rfl rfl (ev_indexAddrA rfl rfl (by first | omega | (simp; done) | (simp; omega)) (by first | omega | (simp; done) | (simp; omega))) ?_
    refine RS_q retB_noPanic rfl rfl rfl rfl (ev_load rfl (by repeat' first | exact Ld.blk rfl | assumption | apply Ld.skip | apply Ld.app)) ?_
    (first | refine RS_m retB_noPanic rfl rfl rfl rfl (ev_lssN rfl rfl) ?_ | refine RS_m retB_noPanic rfl rfl rfl rfl (ev_lss rfl rfl) ?_)
    refine RS_nil ?_
    (repeat first | refine G_seq ?_ | refine G_skip ?_ | refine G_endblk ?_ | refine G_block ?_ | refine G_exit rfl ?_)
    refine G_cond rfl (fun h1 => ?_) (fun h1 => ?_)
    · (repeat first | refine G_seq ?_ | refine G_skip ?_ | refine G_endblk ?_ | refine G_block ?_ | refine G_exit rfl ?_)
      refine G_region ?_
      refine GO_q rfl rfl (ev_assign rfl) ?_
      refine GO_nil ?_
      (repeat first | refine G_seq ?_ | refine G_skip ?_ | refine G_endblk ?_ | refine G_block ?_ | refine G_exit rfl ?_)
      refine G_ret rfl (.tmp rfl .nil) (by (repeat first | exact fun _ s => s | apply en_keep | apply en_drop | apply en_app) <;> fail) ⟨by simp [retv, three, h1], rfl⟩
    · (repeat first | refine G_seq ?_ | refine G_skip ?_ | refine G_endblk ?_ | refine G_block ?_ | refine G_exit rfl ?_)
      refine G_draw (.q 0 (.q 1 (.q 2 (.q 3 (.q 4 (.q 5 (.q 6 .nil))))))) (by kernel_rfl) (by kernel_rfl) ?_
      refine RS_m retB_noPanic rfl rfl rfl rfl (ev_move rfl) ?_
      refine RS_m retB_noPanic rfl rfl rfl rfl (ev_indexAddrA rfl rfl (by first | omega | (simp; done) | (simp; omega)) (by first | omega | (simp; done) | (simp; omega))) ?_
      refine RS_q retB_noPanic rfl rfl rfl rfl (ev_load rfl (by repeat' first | exact Ld.blk rfl | assumption | apply Ld.skip | apply Ld.app)) ?_
      refine RS_m retB_noPanic rfl rfl rfl rfl (ev_move rfl) ?_
      refine RS_m retB_noPanic rfl rfl rfl rfl (ev_indexAddrA rfl rfl (by first | omega | (simp; done) | (simp; omega)) (by first | omega | (simp; done) | (simp; omega))) ?_
      refine RS_q retB_noPanic rfl rfl rfl rfl (ev_load rfl (by repeat' first | exact Ld.blk rfl | assumption | apply Ld.skip | apply Ld.app)) ?_
      refine RS_m retB_noPanic rfl rfl rfl rfl (ev_gtr rfl rfl) ?_
      refine RS_nil ?_
      (repeat first | refine G_seq ?_ | refine G_skip ?_ | refine G_endblk ?_ | refine G_block ?_ | refine G_exit rfl ?_)
      refine G_cond rfl (fun h2 => ?_) (fun h2 => ?_)
      · (repeat first | refine G_seq ?_ | refine G_skip ?_ | refine G_endblk ?_ | refine G_block ?_ | refine G_exit rfl ?_)
        refine G_region ?_
        refine GO_q rfl rfl (ev_assign rfl) ?_
        refine GO_nil ?_
        (repeat first | refine G_seq ?_ | refine G_skip ?_ | refine G_endblk ?_ | refine G_block ?_ | refine G_exit rfl ?_)
        refine G_ret rfl (.tmp rfl .nil) (by (repeat first | exact fun _ s => s | apply en_keep | apply en_drop | apply en_app) <;> fail) ⟨by simp [retv, three, h1, h2], rfl⟩
      · (repeat first | refine G_seq ?_ | refine G_skip ?_ | refine G_endblk ?_ | refine G_block ?_ | refine G_exit rfl ?_)
        refine G_region ?_
        refine GO_q rfl rfl (ev_move rfl) ?_
        (first | refine GO_q rfl rfl (ev_addN (q := 1) rfl rfl (by first | omega | (simp; done) | (simp; omega))) ?_ | refine GO_q rfl rfl (ev_add rfl rfl (by first | omega | (simp; done) | (simp; omega))) ?_)
        refine GO_q rfl rfl (ev_assign rfl) ?_
        refine GO_nil ?_
        (repeat first | refine G_seq ?_ | refine G_skip ?_ | refine G_endblk ?_ | refine G_block ?_ | refine G_exit rfl ?_)
        exact G_round 1 ⟨by omega, by omega, by omega, by omega⟩ (by omega) ⟨rfl, rfl, rfl, trivial⟩ (fun _ s => s)
  | 1 =>
    have e1 := f2 (by omega)
    subst e1
    (repeat first | refine G_seq ?_ | refine G_skip ?_ | refine G_endblk ?_ | refine G_block ?_ | refine G_exit rfl ?_)
    refine G_region ?_
    refine GO_q rfl rfl (ev_move rfl) ?_
    (first | refine GO_q rfl rfl (ev_lssN (q := 3) rfl rfl) ?_ | refine GO_q rfl rfl (ev_lss rfl rfl) ?_)
    refine GO_nil ?_
    (repeat first | refine G_seq ?_ | refine G_skip ?_ | refine G_endblk ?_ | refine G_block ?_ | refine G_exit rfl ?_)
    refine G_cond_t rfl rfl ?_
    (repeat first | refine G_seq ?_ | refine G_skip ?_ | refine G_endblk ?_ | refine G_block ?_ | refine G_exit rfl ?_)
    refine G_draw (.q 0 (.q 1 (.q 2 (.q 3 (.q 4 (.q 5 (.q 6 .nil))))))) (by kernel_rfl) (by kernel_rfl) ?_
    refine RS_m retB_noPanic rfl rfl rfl rfl (ev_move rfl) ?_
    refine RS_m retB_noPanic rfl rfl rfl rfl (ev_indexAddrA rfl rfl (by first | omega | (simp; done) | (simp; omega)) (by first | omega | (simp; done) | (simp; omega))) ?_
    refine RS_q retB_noPanic rfl rfl rfl rfl (ev_load rfl (by repeat' first | exact Ld.blk rfl | assumption | apply Ld.skip | apply Ld.app)) ?_
    refine RS_m retB_noPanic rfl rfl rfl rfl (ev_move rfl) ?_
    refine RS_m retB_noPanic rfl rfl rfl rfl (ev_indexAddrA rfl rfl (by first | omega | (simp; done) | (simp; omega)) (by first | omega | (simp; done) | (simp; omega))) ?_
    refine RS_q retB_noPanic rfl rfl rfl rfl (ev_load rfl (by repeat' first | exact Ld.blk rfl | assumption | apply Ld.skip | apply Ld.app)) ?_
    (first | refine RS_m retB_noPanic rfl rfl rfl rfl (ev_lssN rfl rfl) ?_ | refine RS_m retB_noPanic rfl rfl rfl rfl (ev_lss rfl rfl) ?_)
    refine RS_nil ?_
    (repeat first | refine G_seq ?_ | refine G_skip ?_ | refine G_endblk ?_ | refine G_block ?_ | refine G_exit rfl ?_)
    refine G_cond rfl (fun h1 => ?_) (fun h1 => ?_)
    · (repeat first | refine G_seq ?_ | refine G_skip ?_ | refine G_endblk ?_ | refine G_block ?_ | refine G_exit rfl ?_)
      refine G_region ?_
      refine GO_q rfl rfl (ev_assign rfl) ?_
      refine GO_nil ?_
      (repeat first | refine G_seq ?_ | refine G_skip ?_ | refine G_endblk ?_ | refine G_block ?_ | refine G_exit rfl ?_)
      refine G_ret rfl (.tmp rfl .nil) (by (repeat first | exact fun _ s => s | apply en_keep | apply en_drop | apply en_app) <;> fail) ⟨by simp [retv, three, h1], rfl⟩
    · (repeat first | refine G_seq ?_ | refine G_skip ?_ | refine G_endblk ?_ | refine G_block ?_ | refine G_exit rfl ?_)
      refine G_draw (.q 0 (.q 1 (.q 2 (.q 3 (.q 4 (.q 5 (.q 6 .nil))))))) (by kernel_rfl) (by kernel_rfl) ?_
      refine RS_m retB_noPanic rfl rfl rfl rfl (ev_move rfl) ?_
      refine RS_m retB_noPanic rfl rfl rfl rfl (ev_indexAddrA rfl rfl (by first | omega | (simp; done) | (simp; omega)) (by first | omega | (simp; done) | (simp; omega))) ?_
      refine RS_q retB_noPanic rfl rfl rfl rfl (ev_load rfl (by repeat' first | exact Ld.blk rfl | assumption | apply Ld.skip | apply Ld.app)) ?_
      refine RS_m retB_noPanic rfl rfl rfl rfl (ev_move rfl) ?_
      refine RS_m retB_noPanic rfl rfl rfl rfl (ev_indexAddrA rfl rfl (by first | omega | (simp; done) | (simp; omega)) (by first | omega | (simp; done) | (simp; omega))) ?_
      refine RS_q retB_noPanic rfl rfl rfl rfl (ev_load rfl (by repeat' first | exact Ld.blk rfl | assumption | apply Ld.skip | apply Ld.app)) ?_
      refine RS_m retB_noPanic rfl rfl rfl rfl (ev_gtr rfl rfl) ?_
      refine RS_nil ?_
      (repeat first | refine G_seq ?_ | refine G_skip ?_ | refine G_endblk ?_ | refine G_block ?_ | refine G_exit rfl ?_)
      refine G_cond rfl (fun h2 => ?_) (fun h2 => ?_)
      · (repeat first | refine G_seq ?_ | refine G_skip ?_ | refine G_endblk ?_ | refine G_block ?_ | refine G_exit rfl ?_)
        refine G_region ?_
        refine GO_q rfl rfl (ev_assign rfl) ?_
        refine GO_nil ?_
        (repeat first | refine G_seq ?_ | refine G_skip ?_ | refine G_endblk ?_ | refine G_block ?_ | refine G_exit rfl ?_)
        refine G_ret rfl (.tmp rfl .nil) (by (repeat first | exact fun _ s => s | apply en_keep | apply en_drop | apply en_app) <;> fail) ⟨by simp [retv, three, h1, h2], rfl⟩
      · (repeat first | refine G_seq ?_ | refine G_skip ?_ | refine G_endblk ?_ | refine G_block ?_ | refine G_exit rfl ?_)
        refine G_region ?_
        refine GO_q rfl rfl (ev_move rfl) ?_
        (first | refine GO_q rfl rfl (ev_addN (q := 1) rfl rfl (by first | omega | (simp; done) | (simp; omega))) ?_ | refine GO_q rfl rfl (ev_add rfl rfl (by first | omega | (simp; done) | (simp; omega))) ?_)
        refine GO_q rfl rfl (ev_assign rfl) ?_
        refine GO_nil ?_
        (repeat first | refine G_seq ?_ | refine G_skip ?_ | refine G_endblk ?_ | refine G_block ?_ | refine G_exit rfl ?_)
        exact G_round 2 ⟨by omega, by omega, by omega, by omega⟩ (by omega) ⟨rfl, rfl, rfl, trivial⟩ (fun _ s => s)
  | 2 =>
    have e1 := f2 (by omega)
    have e2 := f3 (by omega)
    subst e1 e2
    (repeat first | refine G_seq ?_ | refine G_skip ?_ | refine G_endblk ?_ | refine G_block ?_ | refine G_exit rfl ?_)
    refine G_region ?_
    refine GO_q rfl rfl (ev_move rfl) ?_
    (first | refine GO_q rfl rfl (ev_lssN (q := 3) rfl rfl) ?_ | refine GO_q rfl rfl (ev_lss rfl rfl) ?_)
    refine GO_nil ?_
    (repeat first | refine G_seq ?_ | refine G_skip ?_ | refine G_endblk ?_ | refine G_block ?_ | refine G_exit rfl ?_)
    refine G_cond_t rfl rfl ?_
    (repeat first | refine G_seq ?_ | refine G_skip ?_ | refine G_endblk ?_ | refine G_block ?_ | refine G_exit rfl ?_)
    refine G_draw (.q 0 (.q 1 (.q 2 (.q 3 (.q 4 (.q 5 (.q 6 .nil))))))) (by kernel_rfl) (by kernel_rfl) ?_
    refine RS_m retB_noPanic rfl rfl rfl rfl (ev_move rfl) ?_
    refine RS_m retB_noPanic rfl rfl rfl rfl (ev_indexAddrA rfl rfl (by first | omega | (simp; done) | (simp; omega)) (by first | omega | (simp; done) | (simp; omega))) ?_
    refine RS_q retB_noPanic rfl rfl rfl rfl (ev_load rfl (by repeat' first | exact Ld.blk rfl | assumption | apply Ld.skip | apply Ld.app)) ?_
    refine RS_m retB_noPanic rfl rfl rfl rfl (ev_move rfl) ?_
    refine RS_m retB_noPanic rfl rfl rfl rfl (ev_indexAddrA rfl rfl (by first | omega | (simp; done) | (simp; omega)) (by first | omega | (simp; done) | (simp; omega))) ?_
    refine RS_q retB_noPanic rfl rfl rfl rfl (ev_load rfl (by repeat' first | exact Ld.blk rfl | assumption | apply Ld.skip | apply Ld.app)) ?_
    (first | refine RS_m retB_noPanic rfl rfl rfl rfl (ev_lssN rfl rfl) ?_ | refine RS_m retB_noPanic rfl rfl rfl rfl (ev_lss rfl rfl) ?_)
    refine RS_nil ?_
    (repeat first | refine G_seq ?_ | refine G_skip ?_ | refine G_endblk ?_ | refine G_block ?_ | refine G_exit rfl ?_)
    refine G_cond rfl (fun h1 => ?_) (fun h1 => ?_)
    · (repeat first | refine G_seq ?_ | refine G_skip ?_ | refine G_endblk ?_ | refine G_block ?_ | refine G_exit rfl ?_)
      refine G_region ?_
      refine GO_q rfl rfl (ev_assign rfl) ?_
      refine GO_nil ?_
      (repeat first | refine G_seq ?_ | refine G_skip ?_ | refine G_endblk ?_ | refine G_block ?_ | refine G_exit rfl ?_)
      refine G_ret rfl (.tmp rfl .nil) (by (repeat first | exact fun _ s => s | apply en_keep | apply en_drop | apply en_app) <;> fail) ⟨by simp [retv, three, h1], rfl⟩
    · (repeat first | refine G_seq ?_ | refine G_skip ?_ | refine G_endblk ?_ | refine G_block ?_ | refine G_exit rfl ?_)
      refine G_draw (.q 0 (.q 1 (.q 2 (.q 3 (.q 4 (.q 5 (.q 6 .nil))))))) (by kernel_rfl) (by kernel_rfl) ?_
      refine RS_m retB_noPanic rfl rfl rfl rfl (ev_move rfl) ?_
      refine RS_m retB_noPanic rfl rfl rfl rfl (ev_indexAddrA rfl rfl (by first | omega | (simp; done) | (simp; omega)) (by first | omega | (simp; done) | (simp; omega))) ?_
      refine RS_q retB_noPanic rfl rfl rfl rfl (ev_load rfl (by repeat' first | exact Ld.blk rfl | assumption | apply Ld.skip | apply Ld.app)) ?_
      refine RS_m retB_noPanic rfl rfl rfl rfl (ev_move rfl) ?_
      refine RS_m retB_noPanic rfl rfl rfl rfl (ev_indexAddrA rfl rfl (by first | omega | (simp; done) | (simp; omega)) (by first | omega | (simp; done) | (simp; omega))) ?_
      refine RS_q retB_noPanic rfl rfl rfl rfl (ev_load rfl (by repeat' first | exact Ld.blk rfl | assumption | apply Ld.skip | apply Ld.app)) ?_
      refine RS_m retB_noPanic rfl rfl rfl rfl (ev_gtr rfl rfl) ?_
      refine RS_nil ?_
      (repeat first | refine G_seq ?_ | refine G_skip ?_ | refine G_endblk ?_ | refine G_block ?_ | refine G_exit rfl ?_)
      refine G_cond rfl (fun h2 => ?_) (fun h2 => ?_)
      · (repeat first | refine G_seq ?_ | refine G_skip ?_ | refine G_endblk ?_ | refine G_block ?_ | refine G_exit rfl ?_)
        refine G_region ?_
        refine GO_q rfl rfl (ev_assign rfl) ?_
        refine GO_nil ?_
        (repeat first | refine G_seq ?_ | refine G_skip ?_ | refine G_endblk ?_ | refine G_block ?_ | refine G_exit rfl ?_)
        refine G_ret rfl (.tmp rfl .nil) (by (repeat first | exact fun _ s => s | apply en_keep | apply en_drop | apply en_app) <;> fail) ⟨by simp [retv, three, h1, h2], rfl⟩
      · (repeat first | refine G_seq ?_ | refine G_skip ?_ | refine G_endblk ?_ | refine G_block ?_ | refine G_exit rfl ?_)
        refine G_region ?_
        refine GO_q rfl rfl (ev_move rfl) ?_
        (first | refine GO_q rfl rfl (ev_addN (q := 1) rfl rfl (by first | omega | (simp; done) | (simp; omega))) ?_ | refine GO_q rfl rfl (ev_add rfl rfl (by first | omega | (simp; done) | (simp; omega))) ?_)
        refine GO_q rfl rfl (ev_assign rfl) ?_
        refine GO_nil ?_
        (repeat first | refine G_seq ?_ | refine G_skip ?_ | refine G_endblk ?_ | refine G_block ?_ | refine G_exit rfl ?_)
        exact G_round 3 ⟨by omega, by omega, by omega, by omega⟩ (by omega) ⟨rfl, rfl, rfl, trivial⟩ (fun _ s => s)
  | 3 =>
    have e1 := f2 (by omega)
    have e2 := f3 (by omega)
    have e3 := f4 (by omega)
    subst e1 e2 e3
    (repeat first | refine G_seq ?_ | refine G_skip ?_ | refine G_endblk ?_ | refine G_block ?_ | refine G_exit rfl ?_)
    refine G_region ?_
    refine GO_q rfl rfl (ev_move rfl) ?_
    (first | refine GO_q rfl rfl (ev_lssN (q := 3) rfl rfl) ?_ | refine GO_q rfl rfl (ev_lss rfl rfl) ?_)
    refine GO_nil ?_
    (repeat first | refine G_seq ?_ | refine G_skip ?_ | refine G_endblk ?_ | refine G_block ?_ | refine G_exit rfl ?_)
    refine G_cond_f rfl rfl ?_
    (repeat first | refine G_seq ?_ | refine G_skip ?_ | refine G_endblk ?_ | refine G_block ?_ | refine G_exit rfl ?_)
    refine G_region ?_
    refine GO_q rfl rfl (ev_assign rfl) ?_
    refine GO_nil ?_
    (repeat first | refine G_seq ?_ | refine G_skip ?_ | refine G_endblk ?_ | refine G_block ?_ | refine G_exit rfl ?_)
    refine G_ret rfl (.tmp rfl .nil) (by (repeat first | exact fun _ s => s | apply en_keep | apply en_drop | apply en_app) <;> fail) ⟨by simp [retv, three], rfl⟩
  | k + 4 => omega
end Go.Proofs.Ytalcanejhniepaa
/- The references' bound, and the point of an act. -/
namespace Go.Proofs.Ytalcanejhniepaa
attribute [local irreducible] sat
set_option linter.unusedVariables false
set_option linter.unusedSimpArgs false
set_option maxRecDepth 100000

theorem bnd1_small : bnd1 100000 ≤ 60 := by decide +kernel
theorem RBound_ctr (n : Nat) (L : List HP) (hn : n ≤ 100000) : Ctr Try.prog 29 #[.int .i64 (n : Nat)] L fun v L' => v = .int .i64 (bound n : Nat) ∧ L' = L := by
  have hb : bnd1 n ≤ 60 := Nat.le_trans (bnd1_mono _ _ hn) bnd1_small
  refine Ctr_of (fn := Try.f29) (n := 29) Try.func29 rfl rfl rfl ?_
  intro g F
  (repeat first | refine G_seq ?_ | refine G_skip ?_ | refine G_endblk ?_ | refine G_block ?_ | refine G_exit rfl ?_)
  refine G_region ?_
  refine GO_q rfl rfl (ev_assign rfl) ?_
  refine GO_nil ?_
  (repeat first | refine G_seq ?_ | refine G_skip ?_ | refine G_endblk ?_ | refine G_block ?_ | refine G_exit rfl ?_)
  refine G_region ?_
  refine GO_q rfl rfl (ev_move rfl) ?_
  (first | refine GO_q rfl rfl (ev_lssN (q := 1) rfl rfl) ?_ | refine GO_q rfl rfl (ev_lss rfl rfl) ?_)
  refine GO_nil ?_
  by_cases h0 : n < 1
  · have e : n = 0 := by omega
    subst e
    (repeat first | refine G_seq ?_ | refine G_skip ?_ | refine G_endblk ?_ | refine G_block ?_ | refine G_exit rfl ?_)
    refine G_cond_t rfl rfl ?_
    (repeat first | refine G_seq ?_ | refine G_skip ?_ | refine G_endblk ?_ | refine G_block ?_ | refine G_exit rfl ?_)
    refine G_region ?_
    refine GO_q rfl rfl (ev_assign rfl) ?_
    refine GO_nil ?_
    (repeat first | refine G_seq ?_ | refine G_skip ?_ | refine G_endblk ?_ | refine G_block ?_ | refine G_exit rfl ?_)
    refine G_ret rfl (.tmp rfl .nil) (by (repeat first | exact fun _ s => s | apply en_keep | apply en_drop | apply en_app) <;> fail) ⟨rfl, rfl⟩
  · (repeat first | refine G_seq ?_ | refine G_skip ?_ | refine G_endblk ?_ | refine G_block ?_ | refine G_exit rfl ?_)
    refine G_cond_f rfl (decide_eq_false (by omega)) ?_
    (repeat first | refine G_seq ?_ | refine G_skip ?_ | refine G_endblk ?_ | refine G_block ?_ | refine G_exit rfl ?_)
    refine G_region ?_
    refine GO_q rfl rfl (ev_assign rfl) ?_
    refine GO_nil ?_
    (repeat first | refine G_seq ?_ | refine G_skip ?_ | refine G_endblk ?_ | refine G_block ?_ | refine G_exit rfl ?_)
    refine G_region ?_
    refine GO_q rfl rfl (ev_assign rfl) ?_
    refine GO_nil ?_
    (repeat first | refine G_seq ?_ | refine G_skip ?_ | refine G_endblk ?_ | refine G_block ?_ | refine G_exit rfl ?_)
    refine G_loop (ι := Nat × Nat) (fun x => [(0, .int .i64 (x.1 : Nat)), (3, .int .i64 ((x.2 + 2 : Nat) : Int)), (4, .int .i64 (x.2 : Nat))]) (fun _ => F :: L) (fun x => x.2 + bnd1 x.1 = bnd1 n ∧ 1 ≤ x.1 ∧ x.1 ≤ n) (fun x => x.1) (n, 0) ⟨by simp only; omega, by simp only; omega, Nat.le_refl _⟩ ⟨rfl, rfl, rfl, trivial⟩ (by (repeat first | exact fun _ s => s | apply en_keep | apply en_drop | apply en_app) <;> fail) ?_
    rintro ⟨m, k⟩ ⟨f1, f2, f3⟩
    simp only at f1 f2 f3
    dsimp only
    have hs2 := bnd1_step (n := m) f2
    have hm : 3 * (m / 4) + 3 * (m % Int.natAbs 4) / 4 = 3 * m / 4 := by
      show 3 * (m / 4) + 3 * (m % 4) / 4 = 3 * m / 4
      omega
    (repeat first | refine G_seq ?_ | refine G_skip ?_ | refine G_endblk ?_ | refine G_block ?_ | refine G_exit rfl ?_)
    refine G_region ?_
    refine GO_q rfl rfl (ev_move rfl) ?_
    (first | refine GO_q rfl rfl (ev_lssN (q := 200) rfl rfl) ?_ | refine GO_q rfl rfl (ev_lss rfl rfl) ?_)
    refine GO_nil ?_
    (repeat first | refine G_seq ?_ | refine G_skip ?_ | refine G_endblk ?_ | refine G_block ?_ | refine G_exit rfl ?_)
    refine G_cond_t rfl (decide_eq_true (by omega)) ?_
    (repeat first | refine G_seq ?_ | refine G_skip ?_ | refine G_endblk ?_ | refine G_block ?_ | refine G_exit rfl ?_)
    refine G_region ?_
    refine GO_q rfl rfl (ev_move rfl) ?_
    (first | refine GO_q rfl rfl (ev_quoN (q := 4) rfl rfl (by first | omega | (simp; done) | (simp; omega)) (by first | omega | (simp; done) | (simp; omega))) ?_ | refine GO_q rfl rfl (ev_quo rfl rfl (by first | omega | (simp; done) | (simp; omega)) (by first | omega | (simp; done) | (simp; omega)) (by first | omega | (simp; done) | (simp; omega))) ?_)
    refine GO_q rfl rfl (ev_move rfl) ?_
    refine GO_q rfl rfl (ev_rem rfl rfl (by first | omega | (simp; done) | (simp; omega)) (by first | omega | (simp; done) | (simp; omega))) ?_
    refine GO_q rfl rfl (ev_assign rfl) ?_
    refine GO_q rfl rfl (ev_assign rfl) ?_
    refine GO_nil ?_
    (repeat first | refine G_seq ?_ | refine G_skip ?_ | refine G_endblk ?_ | refine G_block ?_ | refine G_exit rfl ?_)
    refine G_region ?_
    refine GO_q rfl rfl (ev_move rfl) ?_
    refine GO_q rfl rfl (ev_mul rfl rfl (by first | omega | (simp; done) | (simp; omega))) ?_
    refine GO_q rfl rfl (ev_move rfl) ?_
    refine GO_q rfl rfl (ev_mul rfl rfl (by first | omega | (simp; done) | (simp; omega))) ?_
    (first | refine GO_q rfl rfl (ev_quoN (q := 4) rfl rfl (by first | omega | (simp; done) | (simp; omega)) (by first | omega | (simp; done) | (simp; omega))) ?_ | refine GO_q rfl rfl (ev_quo rfl rfl (by first | omega | (simp; done) | (simp; omega)) (by first | omega | (simp; done) | (simp; omega)) (by first | omega | (simp; done) | (simp; omega))) ?_)
    (first | refine GO_q rfl rfl (ev_addN rfl rfl (by first | omega | (simp; done) | (simp; omega))) ?_ | refine GO_q rfl rfl (ev_add rfl rfl (by first | omega | (simp; done) | (simp; omega))) ?_)
    refine GO_q rfl rfl (ev_assign rfl) ?_
    refine GO_nil ?_
    rw [hm]
    (repeat first | refine G_seq ?_ | refine G_skip ?_ | refine G_endblk ?_ | refine G_block ?_ | refine G_exit rfl ?_)
    refine G_region ?_
    refine GO_q rfl rfl (ev_move rfl) ?_
    (first | refine GO_q rfl rfl (ev_lssN (q := 1) rfl rfl) ?_ | refine GO_q rfl rfl (ev_lss rfl rfl) ?_)
    refine GO_nil ?_
    by_cases h1 : 3 * m / 4 < 1
    · have e : 3 * m / 4 = 0 := by omega
      rw [e, bnd1_zero] at hs2
      rw [e]
      (repeat first | refine G_seq ?_ | refine G_skip ?_ | refine G_endblk ?_ | refine G_block ?_ | refine G_exit rfl ?_)
      refine G_cond_t rfl rfl ?_
      (repeat first | refine G_seq ?_ | refine G_skip ?_ | refine G_endblk ?_ | refine G_block ?_ | refine G_exit rfl ?_)
      refine G_region ?_
      refine GO_q rfl rfl (ev_move rfl) ?_
      refine GO_q rfl rfl (ev_assign rfl) ?_
      refine GO_nil ?_
      have ek : k + 2 = bound n := by
        unfold bound
        rw [if_neg h0]
        omega
      rw [ek]
      (repeat first | refine G_seq ?_ | refine G_skip ?_ | refine G_endblk ?_ | refine G_block ?_ | refine G_exit rfl ?_)
      refine G_ret rfl (.tmp rfl .nil) (by (repeat first | exact fun _ s => s | apply en_keep | apply en_drop | apply en_app) <;> fail) ⟨rfl, rfl⟩
    · skip
      (repeat first | refine G_seq ?_ | refine G_skip ?_ | refine G_endblk ?_ | refine G_block ?_ | refine G_exit rfl ?_)
      refine G_cond_f rfl (decide_eq_false (by omega)) ?_
      (repeat first | refine G_seq ?_ | refine G_skip ?_ | refine G_endblk ?_ | refine G_block ?_ | refine G_exit rfl ?_)
      refine G_region ?_
      refine GO_q rfl rfl (ev_move rfl) ?_
      (first | refine GO_q rfl rfl (ev_addN (q := 1) rfl rfl (by first | omega | (simp; done) | (simp; omega))) ?_ | refine GO_q rfl rfl (ev_add rfl rfl (by first | omega | (simp; done) | (simp; omega))) ?_)
      refine GO_q rfl rfl (ev_assign rfl) ?_
      refine GO_nil ?_
      (repeat first | refine G_seq ?_ | refine G_skip ?_ | refine G_endblk ?_ | refine G_block ?_ | refine G_exit rfl ?_)
      refine G_region ?_
      refine GO_q rfl rfl (ev_move rfl) ?_
      (first | refine GO_q rfl rfl (ev_addN (q := 1) rfl rfl (by first | omega | (simp; done) | (simp; omega))) ?_ | refine GO_q rfl rfl (ev_add rfl rfl (by first | omega | (simp; done) | (simp; omega))) ?_)
      refine GO_q rfl rfl (ev_assign rfl) ?_
      refine GO_nil ?_
      (repeat first | refine G_seq ?_ | refine G_skip ?_ | refine G_endblk ?_ | refine G_block ?_ | refine G_exit rfl ?_)
      exact G_round (3 * m / 4, k + 1) ⟨by simp only; omega, by simp only; omega, by simp only; omega⟩ (by simp only; omega) ⟨rfl, rfl, rfl, trivial⟩ (by (repeat first | exact fun _ s => s | apply en_keep | apply en_drop | apply en_app) <;> fail)
/-- What is done: its two numbers and the point. -/
structure Ac where
  kind : Int
  at_ : Int
  p : Pt
/-- The point of an act. -/
def actP (l : List Pt) (a : Ac) : Pt := if a.kind = 2 ∧ 0 < l.length ∧ 0 ≤ a.at_ then l.getD (a.at_ % (l.length : Nat)).toNat a.p else a.p
section
variable {P : Program} {L : List HP} {σ : Env} {d : Option Nat} {ty T T' : TypeId} {pos : String} {aft : Array Edge} {gd : Option (Nat × Bool)} {x y : Operand}
theorem ev_remE {p q : Int} {j : Nat} (e : p % q = (j : Int)) (hx : ev σ x = some (.int .i64 p)) (hy : ev σ y = some (.int .i64 q)) (hp : 0 ≤ p) (hq : 0 < q) : Ev P L σ ⟨d, .binOp .rem T x y T', ty, pos, aft, gd⟩ (.int .i64 (j : Int)) := e ▸ ev_rem hx hy hp hq
end
theorem Point_ctr0 (b : Nat) (A : Option Addr) (c : Nat) (most : Int) (a : Ac) (l : List Pt) (L : List HP) (h : LdN L b 0 2 [.slice A l.length c, .int .i64 most]) (hl : Rd L A l.length l) (hn : l.length ≤ 100000) (ha : a.at_ ≤ 9223372036854775807) :
    Ctr Try.prog 59 #[.pointer (some ⟨b, 0, none⟩), .agg #[.int .i64 a.kind, .int .i64 a.at_, .int .i64 a.p.id, .int .i64 a.p.x, .int .i64 a.p.y]] L fun v L' => v = (actP l a).v ∧ L' = L := by
  have h1 : Ld L ⟨b, 0 + 0, none⟩ (.slice A l.length c) := h.at_ (i := 0) rfl
  refine Ctr_of (fn := Try.f59) (n := 37) Try.func59 rfl rfl rfl ?_
  intro g F
  (repeat first | refine G_seq ?_ | refine G_skip ?_ | refine G_endblk ?_ | refine G_block ?_ | refine G_exit rfl ?_)
  refine G_region ?_
  refine GO_eff rfl rfl (eff_box rfl) ?_; rintro _ _ ⟨b3, rfl, rfl⟩
  refine GO_eff rfl rfl eff_alloc ?_; rintro _ _ ⟨b4, rfl, rfl⟩
  refine GO_nil ?_
  by_cases k1 : a.kind = 2
  · skip
    by_cases k2 : 0 < l.length
    · skip
      by_cases k3 : 0 ≤ a.at_
      · have e0 : actP l a = l.getD (a.at_ % (l.length : Nat)).toNat a.p := if_pos ⟨k1, k2, k3⟩
        obtain ⟨j, hj⟩ : ∃ j, j = (a.at_ % (l.length : Nat)).toNat := ⟨_, rfl⟩
        have hj1 : a.at_ % (l.length : Nat) = (j : Int) := by
          have := Int.emod_nonneg a.at_ (b := (l.length : Int)) (by omega)
          omega
        have hj2 : j < l.length := by
          have := Int.emod_lt_of_pos a.at_ (b := (l.length : Int)) (by omega)
          omega
        rw [← hj] at e0
        obtain ⟨lb, lo, rfl, hx⟩ := hl.at_ k2
        have g1 : l[j]? = some l[j] := List.getElem?_eq_getElem hj2
        have y1 := hx _ _ g1
        have e1 : l.getD j a.p = l[j] := by rw [List.getD_eq_getElem?_getD, g1]; rfl
        rw [e0, e1]
        generalize l[j] = u at *
        have z1 : LdN L lb (lo + j * 3) 3 [.int .i64 u.id, .int .i64 u.x, .int .i64 u.y] := y1
        (repeat first | refine G_seq ?_ | refine G_skip ?_ | refine G_endblk ?_ | refine G_block ?_ | refine G_exit rfl ?_)
        refine G_region ?_
        refine GO_q rfl rfl (ev_fieldAddr rfl) ?_
        refine GO_q rfl rfl (ev_load rfl (by repeat' first | exact Ld.blk rfl | assumption | apply Ld.skip | apply Ld.app)) ?_
        refine GO_q rfl rfl (ev_eql rfl rfl) ?_
        refine GO_q rfl rfl (ev_move rfl) ?_
        refine GO_yes rfl rfl rfl (decide_eq_true k1) ?_
        refine GO_q rfl rfl (ev_move rfl) ?_
        refine GO_yes rfl rfl rfl (decide_eq_true k1) ?_
        (first | refine GO_q rfl rfl (ev_nilCheck rfl) ?_ | refine GO_q rfl rfl (ev_nilCheckF (by simp) rfl) ?_)
        refine GO_yes rfl rfl rfl (decide_eq_true k1) ?_
        refine GO_q rfl rfl (ev_fieldAddr rfl) ?_
        refine GO_yes rfl rfl rfl (decide_eq_true k1) ?_
        refine GO_q rfl rfl (ev_load rfl (by repeat' first | exact Ld.blk rfl | assumption | apply Ld.skip | apply Ld.app)) ?_
        refine GO_yes rfl rfl rfl (decide_eq_true k1) ?_
        refine GO_q rfl rfl (ev_len rfl) ?_
        refine GO_yes rfl rfl rfl (decide_eq_true k1) ?_
        refine GO_q rfl rfl (ev_gtr rfl rfl) ?_
        refine GO_q rfl rfl (ev_pick_t rfl (decide_eq_true k1) rfl) ?_
        refine GO_q rfl rfl (ev_move rfl) ?_
        refine GO_yes rfl rfl rfl (decide_eq_true (by omega)) ?_
        refine GO_q rfl rfl (ev_fieldAddr rfl) ?_
        refine GO_yes rfl rfl rfl (decide_eq_true (by omega)) ?_
        refine GO_q rfl rfl (ev_load rfl (by repeat' first | exact Ld.blk rfl | assumption | apply Ld.skip | apply Ld.app)) ?_
        refine GO_yes rfl rfl rfl (decide_eq_true (by omega)) ?_
        refine GO_q rfl rfl (ev_geq rfl rfl) ?_
        refine GO_q rfl rfl (ev_pick_t rfl (decide_eq_true (by omega)) rfl) ?_
        refine GO_nil ?_
        (repeat first | refine G_seq ?_ | refine G_skip ?_ | refine G_endblk ?_ | refine G_block ?_ | refine G_exit rfl ?_)
        refine G_cond_t rfl (decide_eq_true k3) ?_
        (repeat first | refine G_seq ?_ | refine G_skip ?_ | refine G_endblk ?_ | refine G_block ?_ | refine G_exit rfl ?_)
        refine G_draw (.q 0 (.q 1 (.q 2 (.q 3 (.q 4 (.q 5 (.q 6 (.q 7 (.q 8 (.q 9 (.q 10 (.q 11 (.q 12 (.q 13 (.e 14 .nil))))))))))))))) (by kernel_rfl) (by kernel_rfl) ?_
        refine RS_m retB_noPanic rfl rfl rfl rfl (ev_move rfl) ?_
        (first | refine RS_m retB_noPanic rfl rfl rfl rfl (ev_nilCheck rfl) ?_ | refine RS_m retB_noPanic rfl rfl rfl rfl (ev_nilCheckF (by simp) rfl) ?_)
        refine RS_m retB_noPanic rfl rfl rfl rfl (ev_fieldAddr rfl) ?_
        refine RS_q retB_noPanic rfl rfl rfl rfl (ev_load rfl (by repeat' first | exact Ld.blk rfl | assumption | apply Ld.skip | apply Ld.app)) ?_
        refine RS_m retB_noPanic rfl rfl rfl rfl (ev_fieldAddr rfl) ?_
        refine RS_q retB_noPanic rfl rfl rfl rfl (ev_load rfl (by repeat' first | exact Ld.blk rfl | assumption | apply Ld.skip | apply Ld.app)) ?_
        refine RS_m retB_noPanic rfl rfl rfl rfl (ev_move rfl) ?_
        (first | refine RS_m retB_noPanic rfl rfl rfl rfl (ev_nilCheck rfl) ?_ | refine RS_m retB_noPanic rfl rfl rfl rfl (ev_nilCheckF (by simp) rfl) ?_)
        refine RS_m retB_noPanic rfl rfl rfl rfl (ev_fieldAddr rfl) ?_
        refine RS_q retB_noPanic rfl rfl rfl rfl (ev_load rfl (by repeat' first | exact Ld.blk rfl | assumption | apply Ld.skip | apply Ld.app)) ?_
        refine RS_q retB_noPanic rfl rfl rfl rfl (ev_len rfl) ?_
        refine RS_m retB_noPanic rfl rfl rfl rfl (ev_remE hj1 rfl rfl k3 (by omega)) ?_
        (first | refine RS_m retB_noPanic rfl rfl rfl rfl (ev_indexAddrN rfl rfl (by first | omega | (simp; done) | (simp; omega))) ?_ | refine RS_m retB_noPanic rfl rfl rfl rfl (ev_indexAddr rfl rfl (by first | omega | (simp; done) | (simp; omega)) (by first | omega | (simp; done) | (simp; omega))) ?_)
        refine RS_q retB_noPanic rfl rfl rfl rfl (ev_loadN rfl (by repeat' first | exact LdN.blk rfl | assumption | apply LdN.skip | apply LdN.app)) ?_
        refine RS_e (RE_last (by kernel_rfl) rfl rfl rfl (eff_storeN rfl rfl rfl rfl (by repeat' first | exact Upd.here rfl | apply Upd.skip | apply Upd.app)) ?_); rintro _ _ ⟨rfl, rfl⟩
        (repeat first | refine G_seq ?_ | refine G_skip ?_ | refine G_endblk ?_ | refine G_block ?_ | refine G_exit rfl ?_)
        refine G_ret rfl (.cell rfl (loadN_run (by repeat' first | exact LdN.blk rfl | assumption | apply LdN.skip | apply LdN.app)) .nil) (by (repeat first | exact fun _ s => s | apply en_keep | apply en_drop | apply en_app) <;> fail) ⟨rfl, rfl⟩
      · have e0 : actP l a = a.p := if_neg (fun h => k3 h.2.2)
        rw [e0]
        (repeat first | refine G_seq ?_ | refine G_skip ?_ | refine G_endblk ?_ | refine G_block ?_ | refine G_exit rfl ?_)
        refine G_region ?_
        refine GO_q rfl rfl (ev_fieldAddr rfl) ?_
        refine GO_q rfl rfl (ev_load rfl (by repeat' first | exact Ld.blk rfl | assumption | apply Ld.skip | apply Ld.app)) ?_
        refine GO_q rfl rfl (ev_eql rfl rfl) ?_
        refine GO_q rfl rfl (ev_move rfl) ?_
        refine GO_yes rfl rfl rfl (decide_eq_true k1) ?_
        refine GO_q rfl rfl (ev_move rfl) ?_
        refine GO_yes rfl rfl rfl (decide_eq_true k1) ?_
        (first | refine GO_q rfl rfl (ev_nilCheck rfl) ?_ | refine GO_q rfl rfl (ev_nilCheckF (by simp) rfl) ?_)
        refine GO_yes rfl rfl rfl (decide_eq_true k1) ?_
        refine GO_q rfl rfl (ev_fieldAddr rfl) ?_
        refine GO_yes rfl rfl rfl (decide_eq_true k1) ?_
        refine GO_q rfl rfl (ev_load rfl (by repeat' first | exact Ld.blk rfl | assumption | apply Ld.skip | apply Ld.app)) ?_
        refine GO_yes rfl rfl rfl (decide_eq_true k1) ?_
        refine GO_q rfl rfl (ev_len rfl) ?_
        refine GO_yes rfl rfl rfl (decide_eq_true k1) ?_
        refine GO_q rfl rfl (ev_gtr rfl rfl) ?_
        refine GO_q rfl rfl (ev_pick_t rfl (decide_eq_true k1) rfl) ?_
        refine GO_q rfl rfl (ev_move rfl) ?_
        refine GO_yes rfl rfl rfl (decide_eq_true (by omega)) ?_
        refine GO_q rfl rfl (ev_fieldAddr rfl) ?_
        refine GO_yes rfl rfl rfl (decide_eq_true (by omega)) ?_
        refine GO_q rfl rfl (ev_load rfl (by repeat' first | exact Ld.blk rfl | assumption | apply Ld.skip | apply Ld.app)) ?_
        refine GO_yes rfl rfl rfl (decide_eq_true (by omega)) ?_
        refine GO_q rfl rfl (ev_geq rfl rfl) ?_
        refine GO_q rfl rfl (ev_pick_t rfl (decide_eq_true (by omega)) rfl) ?_
        refine GO_nil ?_
        (repeat first | refine G_seq ?_ | refine G_skip ?_ | refine G_endblk ?_ | refine G_block ?_ | refine G_exit rfl ?_)
        refine G_cond_f rfl (decide_eq_false k3) ?_
        (repeat first | refine G_seq ?_ | refine G_skip ?_ | refine G_endblk ?_ | refine G_block ?_ | refine G_exit rfl ?_)
        refine G_region ?_
        refine GO_q rfl rfl (ev_fieldAddr rfl) ?_
        refine GO_q rfl rfl (ev_loadN rfl (by repeat' first | exact LdN.blk rfl | assumption | apply LdN.skip | apply LdN.app)) ?_
        refine GO_eff rfl rfl (eff_storeN rfl rfl rfl rfl (by repeat' first | exact Upd.here rfl | apply Upd.skip | apply Upd.app)) ?_; rintro _ _ ⟨rfl, rfl⟩
        refine GO_nil ?_
        (repeat first | refine G_seq ?_ | refine G_skip ?_ | refine G_endblk ?_ | refine G_block ?_ | refine G_exit rfl ?_)
        refine G_ret rfl (.cell rfl (loadN_run (by repeat' first | exact LdN.blk rfl | assumption | apply LdN.skip | apply LdN.app)) .nil) (by (repeat first | exact fun _ s => s | apply en_keep | apply en_drop | apply en_app) <;> fail) ⟨rfl, rfl⟩
    · have e0 : actP l a = a.p := if_neg (fun h => k2 h.2.1)
      rw [e0]
      (repeat first | refine G_seq ?_ | refine G_skip ?_ | refine G_endblk ?_ | refine G_block ?_ | refine G_exit rfl ?_)
      refine G_region ?_
      refine GO_q rfl rfl (ev_fieldAddr rfl) ?_
      refine GO_q rfl rfl (ev_load rfl (by repeat' first | exact Ld.blk rfl | assumption | apply Ld.skip | apply Ld.app)) ?_
      refine GO_q rfl rfl (ev_eql rfl rfl) ?_
      refine GO_q rfl rfl (ev_move rfl) ?_
      refine GO_yes rfl rfl rfl (decide_eq_true k1) ?_
      refine GO_q rfl rfl (ev_move rfl) ?_
      refine GO_yes rfl rfl rfl (decide_eq_true k1) ?_
      (first | refine GO_q rfl rfl (ev_nilCheck rfl) ?_ | refine GO_q rfl rfl (ev_nilCheckF (by simp) rfl) ?_)
      refine GO_yes rfl rfl rfl (decide_eq_true k1) ?_
      refine GO_q rfl rfl (ev_fieldAddr rfl) ?_
      refine GO_yes rfl rfl rfl (decide_eq_true k1) ?_
      refine GO_q rfl rfl (ev_load rfl (by repeat' first | exact Ld.blk rfl | assumption | apply Ld.skip | apply Ld.app)) ?_
      refine GO_yes rfl rfl rfl (decide_eq_true k1) ?_
      refine GO_q rfl rfl (ev_len rfl) ?_
      refine GO_yes rfl rfl rfl (decide_eq_true k1) ?_
      refine GO_q rfl rfl (ev_gtr rfl rfl) ?_
      refine GO_q rfl rfl (ev_pick_t rfl (decide_eq_true k1) rfl) ?_
      refine GO_q rfl rfl (ev_move rfl) ?_
      refine GO_no rfl rfl rfl (decide_eq_false (by omega)) ?_
      refine GO_no rfl rfl rfl (decide_eq_false (by omega)) ?_
      refine GO_no rfl rfl rfl (decide_eq_false (by omega)) ?_
      refine GO_q rfl rfl (ev_pick_f rfl (decide_eq_false (by omega)) rfl) ?_
      refine GO_nil ?_
      (repeat first | refine G_seq ?_ | refine G_skip ?_ | refine G_endblk ?_ | refine G_block ?_ | refine G_exit rfl ?_)
      refine G_cond_f rfl rfl ?_
      (repeat first | refine G_seq ?_ | refine G_skip ?_ | refine G_endblk ?_ | refine G_block ?_ | refine G_exit rfl ?_)
      refine G_region ?_
      refine GO_q rfl rfl (ev_fieldAddr rfl) ?_
      refine GO_q rfl rfl (ev_loadN rfl (by repeat' first | exact LdN.blk rfl | assumption | apply LdN.skip | apply LdN.app)) ?_
      refine GO_eff rfl rfl (eff_storeN rfl rfl rfl rfl (by repeat' first | exact Upd.here rfl | apply Upd.skip | apply Upd.app)) ?_; rintro _ _ ⟨rfl, rfl⟩
      refine GO_nil ?_
      (repeat first | refine G_seq ?_ | refine G_skip ?_ | refine G_endblk ?_ | refine G_block ?_ | refine G_exit rfl ?_)
      refine G_ret rfl (.cell rfl (loadN_run (by repeat' first | exact LdN.blk rfl | assumption | apply LdN.skip | apply LdN.app)) .nil) (by (repeat first | exact fun _ s => s | apply en_keep | apply en_drop | apply en_app) <;> fail) ⟨rfl, rfl⟩
  · have e0 : actP l a = a.p := if_neg (fun h => k1 h.1)
    rw [e0]
    (repeat first | refine G_seq ?_ | refine G_skip ?_ | refine G_endblk ?_ | refine G_block ?_ | refine G_exit rfl ?_)
    refine G_region ?_
    refine GO_q rfl rfl (ev_fieldAddr rfl) ?_
    refine GO_q rfl rfl (ev_load rfl (by repeat' first | exact Ld.blk rfl | assumption | apply Ld.skip | apply Ld.app)) ?_
    refine GO_q rfl rfl (ev_eql rfl rfl) ?_
    refine GO_q rfl rfl (ev_move rfl) ?_
    refine GO_no rfl rfl rfl (decide_eq_false k1) ?_
    refine GO_no rfl rfl rfl (decide_eq_false k1) ?_
    refine GO_no rfl rfl rfl (decide_eq_false k1) ?_
    refine GO_no rfl rfl rfl (decide_eq_false k1) ?_
    refine GO_no rfl rfl rfl (decide_eq_false k1) ?_
    refine GO_no rfl rfl rfl (decide_eq_false k1) ?_
    refine GO_q rfl rfl (ev_pick_f rfl (decide_eq_false k1) rfl) ?_
    refine GO_q rfl rfl (ev_move rfl) ?_
    refine GO_no rfl rfl rfl rfl ?_
    refine GO_no rfl rfl rfl rfl ?_
    refine GO_no rfl rfl rfl rfl ?_
    refine GO_q rfl rfl (ev_pick_f rfl rfl rfl) ?_
    refine GO_nil ?_
    (repeat first | refine G_seq ?_ | refine G_skip ?_ | refine G_endblk ?_ | refine G_block ?_ | refine G_exit rfl ?_)
    refine G_cond_f rfl rfl ?_
    (repeat first | refine G_seq ?_ | refine G_skip ?_ | refine G_endblk ?_ | refine G_block ?_ | refine G_exit rfl ?_)
    refine G_region ?_
    refine GO_q rfl rfl (ev_fieldAddr rfl) ?_
    refine GO_q rfl rfl (ev_loadN rfl (by repeat' first | exact LdN.blk rfl | assumption | apply LdN.skip | apply LdN.app)) ?_
    refine GO_eff rfl rfl (eff_storeN rfl rfl rfl rfl (by repeat' first | exact Upd.here rfl | apply Upd.skip | apply Upd.app)) ?_; rintro _ _ ⟨rfl, rfl⟩
    refine GO_nil ?_
    (repeat first | refine G_seq ?_ | refine G_skip ?_ | refine G_endblk ?_ | refine G_block ?_ | refine G_exit rfl ?_)
    refine G_ret rfl (.cell rfl (loadN_run (by repeat' first | exact LdN.blk rfl | assumption | apply LdN.skip | apply LdN.app)) .nil) (by (repeat first | exact fun _ s => s | apply en_keep | apply en_drop | apply en_app) <;> fail) ⟨rfl, rfl⟩
theorem Point_ctr (b : Nat) (most : Int) (a : Ac) (l : List Pt) (L : List HP) (hn : l.length ≤ 100000) (ha : a.at_ ≤ 9223372036854775807) :
    Ctr Try.prog 59 #[.pointer (some ⟨b, 0, none⟩), .agg #[.int .i64 a.kind, .int .i64 a.at_, .int .i64 a.p.id, .int .i64 a.p.x, .int .i64 a.p.y]] (setS b most l :: L) fun v L' => v = (actP l a).v ∧ L' = setS b most l :: L :=
  Ctr.set0 (R := fun v => v = (actP l a).v) fun A c L' h hl => Point_ctr0 b A c most a l L' h hl hn ha
end Go.Proofs.Ytalcanejhniepaa
/- What is done to a tree and to the reference's set. -/
namespace Go.Proofs.Ytalcanejhniepaa
attribute [local irreducible] sat
set_option linter.unusedVariables false
set_option linter.unusedSimpArgs false
set_option maxRecDepth 100000

/-- What an act leaves. -/
def actL (most : Int) (l : List Pt) (a : Ac) : List Pt := if a.kind = 1 ∨ a.kind = 2 then l.erase (actP l a) else insR most l (actP l a)
theorem insL_perm (most : Int) (l : List Pt) (p : Pt) : (insL most l p).Perm (insR most l p) := by
  unfold insL insR
  split
  · exact (List.perm_append_singleton p l).symm
  · exact .refl _
theorem actL_length (most : Int) (l : List Pt) (a : Ac) : (actL most l a).length ≤ l.length + 1 := by
  unfold actL insR
  split
  · have := List.length_erase_le (a := actP l a) (l := l); omega
  · split <;> simp
theorem does_ctr (b s : Nat) (most : Int) (a : Ac) (l : List Pt) (L : List HP) (hn : l.length + 1 ≤ 100000) (ha : a.at_ ≤ 9223372036854775807) :
    Ctr Try.prog 30 #[.pointer (some ⟨b, 0, none⟩), .pointer (some ⟨s, 0, none⟩), .agg #[.int .i64 a.kind, .int .i64 a.at_, .int .i64 a.p.id, .int .i64 a.p.x, .int .i64 a.p.y]] (treeS b most l :: setS s most l :: L) fun v L' => v = .bool true ∧ L' = treeS b most (actL most l a) :: setS s most (actL most l a) :: L := by
  refine Ctr_of (fn := Try.f30) (n := 33) Try.func30 rfl rfl rfl ?_
  intro g F
  (repeat first | refine G_seq ?_ | refine G_skip ?_ | refine G_endblk ?_ | refine G_block ?_ | refine G_exit rfl ?_)
  refine G_region ?_
  refine GO_eff rfl rfl (eff_box rfl) ?_; rintro _ _ ⟨b5, rfl, rfl⟩
  refine GO_q rfl rfl (ev_assign rfl) ?_
  refine GO_nil ?_
  (repeat first | refine G_seq ?_ | refine G_skip ?_ | refine G_endblk ?_ | refine G_block ?_ | refine G_exit rfl ?_)
  refine G_region ?_
  refine GO_q rfl rfl (ev_move rfl) ?_
  refine GO_q rfl rfl (ev_loadN rfl (by repeat' first | exact LdN.blk rfl | assumption | apply LdN.skip | apply LdN.app)) ?_
  refine GO_eff rfl rfl (eff_call rfl (Ctr.pick (by repeat' first | exact Pick.here | apply Pick.skip | apply Pick.app) (Point_ctr s most a l _ (by omega) ha))) ?_; rintro _ _ ⟨rfl, rfl⟩
  refine GO_eff rfl rfl eff_alloc ?_; rintro _ _ ⟨b7, rfl, rfl⟩
  refine GO_eff rfl rfl (eff_storeN rfl rfl rfl rfl (by repeat' first | exact Upd.here rfl | apply Upd.skip | apply Upd.app)) ?_; rintro _ _ ⟨rfl, rfl⟩
  refine GO_nil ?_
  generalize hp : actP l a = p
  by_cases hk : a.kind = 1 ∨ a.kind = 2
  · have e : actL most l a = l.erase p := by unfold actL; rw [if_pos hk, hp]
    rw [e]
    by_cases k1 : a.kind = 1
    · skip
      (repeat first | refine G_seq ?_ | refine G_skip ?_ | refine G_endblk ?_ | refine G_block ?_ | refine G_exit rfl ?_)
      refine G_region ?_
      refine GO_q rfl rfl (ev_fieldAddr rfl) ?_
      refine GO_q rfl rfl (ev_load rfl (by repeat' first | exact Ld.blk rfl | assumption | apply Ld.skip | apply Ld.app)) ?_
      refine GO_q rfl rfl (ev_eql rfl rfl) ?_
      refine GO_q rfl rfl (ev_move rfl) ?_
      refine GO_no rfl rfl rfl (decide_eq_true k1) ?_
      refine GO_no rfl rfl rfl (decide_eq_true k1) ?_
      refine GO_no rfl rfl rfl (decide_eq_true k1) ?_
      refine GO_q rfl rfl (ev_pick_t rfl (decide_eq_true k1) rfl) ?_
      refine GO_nil ?_
      (repeat first | refine G_seq ?_ | refine G_skip ?_ | refine G_endblk ?_ | refine G_block ?_ | refine G_exit rfl ?_)
      refine G_cond_t rfl rfl ?_
      (repeat first | refine G_seq ?_ | refine G_skip ?_ | refine G_endblk ?_ | refine G_block ?_ | refine G_exit rfl ?_)
      refine G_drawE 4 (.q 0 (.q 1 (.q 3 (.q 4 (.e 2 (.e 5 (.q 6 (.q 7 .nil)))))))) (by kernel_rfl) (by kernel_rfl) ?_
      refine RS_m retB_noPanic rfl rfl rfl rfl (ev_move rfl) ?_
      refine RS_q retB_noPanic rfl rfl rfl rfl (ev_loadN rfl (by repeat' first | exact LdN.blk rfl | assumption | apply LdN.skip | apply LdN.app)) ?_
      refine RS_m retB_noPanic rfl rfl rfl rfl (ev_move rfl) ?_
      refine RS_q retB_noPanic rfl rfl rfl rfl (ev_loadN rfl (by repeat' first | exact LdN.blk rfl | assumption | apply LdN.skip | apply LdN.app)) ?_
      refine RS_e (RE_eff rfl rfl rfl (eff_call rfl (Ctr.pick (by repeat' first | exact Pick.here | apply Pick.skip | apply Pick.app) (PDelete_ctr b most l p _ (by omega)))) ?_); rintro _ _ ⟨rfl, rfl⟩; refine ⟨_, (by first | ((repeat first | exact fun _ s => s | apply en_keep | apply en_drop | apply en_app) <;> fail) | ((repeat first | exact en_refl | (apply en_blk; focus ((repeat' first | exact Pick.here | apply Pick.skip | apply Pick.app); done); focus rfl) | (apply en_own; focus ((repeat' first | exact Pick.here | apply Pick.skip | apply Pick.app); done); focus rfl) | (apply en_pick; focus ((repeat' first | exact Pick.here | apply Pick.skip | apply Pick.app); done)) | apply en_drop | apply en_app) <;> fail)), fun _ s => s, ?_⟩
      refine RS_e (RE_cmp (by kernel_rfl) rfl rfl rfl (eff_call rfl (Ctr.pick (by repeat' first | exact Pick.here | apply Pick.skip | apply Pick.app) (RDelete_ctr s most l p _ (by omega)))) ?_); rintro _ _ ⟨rfl, rfl⟩
      refine RS_m retB_noPanic rfl rfl rfl rfl (ev_eql rfl rfl) ?_
      refine RS_m retB_noPanic rfl rfl rfl rfl (ev_assign rfl) ?_
      refine RS_nil ?_
      (repeat first | refine G_seq ?_ | refine G_skip ?_ | refine G_endblk ?_ | refine G_block ?_ | refine G_exit rfl ?_)
      refine G_ret (L' := treeS b most (l.erase p) :: setS s most (l.erase p) :: L) rfl (.tmp rfl .nil) (by (repeat first | exact en_refl | (apply en_blk; focus ((repeat' first | exact Pick.here | apply Pick.skip | apply Pick.app); done); focus rfl) | (apply en_own; focus ((repeat' first | exact Pick.here | apply Pick.skip | apply Pick.app); done); focus rfl) | (apply en_pick; focus ((repeat' first | exact Pick.here | apply Pick.skip | apply Pick.app); done)) | apply en_drop | apply en_app) <;> fail) ⟨by simp [retv], rfl⟩
    · have k2 : a.kind = 2 := by omega
      (repeat first | refine G_seq ?_ | refine G_skip ?_ | refine G_endblk ?_ | refine G_block ?_ | refine G_exit rfl ?_)
      refine G_region ?_
      refine GO_q rfl rfl (ev_fieldAddr rfl) ?_
      refine GO_q rfl rfl (ev_load rfl (by repeat' first | exact Ld.blk rfl | assumption | apply Ld.skip | apply Ld.app)) ?_
      refine GO_q rfl rfl (ev_eql rfl rfl) ?_
      refine GO_q rfl rfl (ev_move rfl) ?_
      refine GO_yes rfl rfl rfl (decide_eq_false k1) ?_
      refine GO_q rfl rfl (ev_fieldAddr rfl) ?_
      refine GO_yes rfl rfl rfl (decide_eq_false k1) ?_
      refine GO_q rfl rfl (ev_load rfl (by repeat' first | exact Ld.blk rfl | assumption | apply Ld.skip | apply Ld.app)) ?_
      refine GO_yes rfl rfl rfl (decide_eq_false k1) ?_
      refine GO_q rfl rfl (ev_eql rfl rfl) ?_
      refine GO_q rfl rfl (ev_pick_f rfl (decide_eq_false k1) rfl) ?_
      refine GO_nil ?_
      (repeat first | refine G_seq ?_ | refine G_skip ?_ | refine G_endblk ?_ | refine G_block ?_ | refine G_exit rfl ?_)
      refine G_cond_t rfl (decide_eq_true k2) ?_
      (repeat first | refine G_seq ?_ | refine G_skip ?_ | refine G_endblk ?_ | refine G_block ?_ | refine G_exit rfl ?_)
      refine G_drawE 4 (.q 0 (.q 1 (.q 3 (.q 4 (.e 2 (.e 5 (.q 6 (.q 7 .nil)))))))) (by kernel_rfl) (by kernel_rfl) ?_
      refine RS_m retB_noPanic rfl rfl rfl rfl (ev_move rfl) ?_
      refine RS_q retB_noPanic rfl rfl rfl rfl (ev_loadN rfl (by repeat' first | exact LdN.blk rfl | assumption | apply LdN.skip | apply LdN.app)) ?_
      refine RS_m retB_noPanic rfl rfl rfl rfl (ev_move rfl) ?_
      refine RS_q retB_noPanic rfl rfl rfl rfl (ev_loadN rfl (by repeat' first | exact LdN.blk rfl | assumption | apply LdN.skip | apply LdN.app)) ?_
      refine RS_e (RE_eff rfl rfl rfl (eff_call rfl (Ctr.pick (by repeat' first | exact Pick.here | apply Pick.skip | apply Pick.app) (PDelete_ctr b most l p _ (by omega)))) ?_); rintro _ _ ⟨rfl, rfl⟩; refine ⟨_, (by first | ((repeat first | exact fun _ s => s | apply en_keep | apply en_drop | apply en_app) <;> fail) | ((repeat first | exact en_refl | (apply en_blk; focus ((repeat' first | exact Pick.here | apply Pick.skip | apply Pick.app); done); focus rfl) | (apply en_own; focus ((repeat' first | exact Pick.here | apply Pick.skip | apply Pick.app); done); focus rfl) | (apply en_pick; focus ((repeat' first | exact Pick.here | apply Pick.skip | apply Pick.app); done)) | apply en_drop | apply en_app) <;> fail)), fun _ s => s, ?_⟩
      refine RS_e (RE_cmp (by kernel_rfl) rfl rfl rfl (eff_call rfl (Ctr.pick (by repeat' first | exact Pick.here | apply Pick.skip | apply Pick.app) (RDelete_ctr s most l p _ (by omega)))) ?_); rintro _ _ ⟨rfl, rfl⟩
      refine RS_m retB_noPanic rfl rfl rfl rfl (ev_eql rfl rfl) ?_
      refine RS_m retB_noPanic rfl rfl rfl rfl (ev_assign rfl) ?_
      refine RS_nil ?_
      (repeat first | refine G_seq ?_ | refine G_skip ?_ | refine G_endblk ?_ | refine G_block ?_ | refine G_exit rfl ?_)
      refine G_ret (L' := treeS b most (l.erase p) :: setS s most (l.erase p) :: L) rfl (.tmp rfl .nil) (by (repeat first | exact en_refl | (apply en_blk; focus ((repeat' first | exact Pick.here | apply Pick.skip | apply Pick.app); done); focus rfl) | (apply en_own; focus ((repeat' first | exact Pick.here | apply Pick.skip | apply Pick.app); done); focus rfl) | (apply en_pick; focus ((repeat' first | exact Pick.here | apply Pick.skip | apply Pick.app); done)) | apply en_drop | apply en_app) <;> fail) ⟨by simp [retv], rfl⟩
  · have e : actL most l a = insR most l p := by unfold actL; rw [if_neg hk, hp]
    rw [e]
    have k1 : ¬ a.kind = 1 := fun h => hk (.inl h)
    have k2 : ¬ a.kind = 2 := fun h => hk (.inr h)
    (repeat first | refine G_seq ?_ | refine G_skip ?_ | refine G_endblk ?_ | refine G_block ?_ | refine G_exit rfl ?_)
    refine G_region ?_
    refine GO_q rfl rfl (ev_fieldAddr rfl) ?_
    refine GO_q rfl rfl (ev_load rfl (by repeat' first | exact Ld.blk rfl | assumption | apply Ld.skip | apply Ld.app)) ?_
    refine GO_q rfl rfl (ev_eql rfl rfl) ?_
    refine GO_q rfl rfl (ev_move rfl) ?_
    refine GO_yes rfl rfl rfl (decide_eq_false k1) ?_
    refine GO_q rfl rfl (ev_fieldAddr rfl) ?_
    refine GO_yes rfl rfl rfl (decide_eq_false k1) ?_
    refine GO_q rfl rfl (ev_load rfl (by repeat' first | exact Ld.blk rfl | assumption | apply Ld.skip | apply Ld.app)) ?_
    refine GO_yes rfl rfl rfl (decide_eq_false k1) ?_
    refine GO_q rfl rfl (ev_eql rfl rfl) ?_
    refine GO_q rfl rfl (ev_pick_f rfl (decide_eq_false k1) rfl) ?_
    refine GO_nil ?_
    (repeat first | refine G_seq ?_ | refine G_skip ?_ | refine G_endblk ?_ | refine G_block ?_ | refine G_exit rfl ?_)
    refine G_cond_f rfl (decide_eq_false k2) ?_
    (repeat first | refine G_seq ?_ | refine G_skip ?_ | refine G_endblk ?_ | refine G_block ?_ | refine G_exit rfl ?_)
    refine G_drawE 4 (.q 0 (.q 1 (.q 3 (.q 4 (.e 2 (.e 5 (.q 6 (.q 7 .nil)))))))) (by kernel_rfl) (by kernel_rfl) ?_
    refine RS_m retB_noPanic rfl rfl rfl rfl (ev_move rfl) ?_
    refine RS_q retB_noPanic rfl rfl rfl rfl (ev_loadN rfl (by repeat' first | exact LdN.blk rfl | assumption | apply LdN.skip | apply LdN.app)) ?_
    refine RS_m retB_noPanic rfl rfl rfl rfl (ev_move rfl) ?_
    refine RS_q retB_noPanic rfl rfl rfl rfl (ev_loadN rfl (by repeat' first | exact LdN.blk rfl | assumption | apply LdN.skip | apply LdN.app)) ?_
    refine RS_e (RE_eff rfl rfl rfl (eff_call rfl (Ctr.pick (by repeat' first | exact Pick.here | apply Pick.skip | apply Pick.app) (PInsert_ctr b most l p _ (by omega)))) ?_); rintro _ _ ⟨rfl, rfl⟩; refine ⟨_, (by first | ((repeat first | exact fun _ s => s | apply en_keep | apply en_drop | apply en_app) <;> fail) | ((repeat first | exact en_refl | (apply en_blk; focus ((repeat' first | exact Pick.here | apply Pick.skip | apply Pick.app); done); focus rfl) | (apply en_own; focus ((repeat' first | exact Pick.here | apply Pick.skip | apply Pick.app); done); focus rfl) | (apply en_pick; focus ((repeat' first | exact Pick.here | apply Pick.skip | apply Pick.app); done)) | apply en_drop | apply en_app) <;> fail)), fun _ s => s, ?_⟩
    refine RS_e (RE_cmp (by kernel_rfl) rfl rfl rfl (eff_call rfl (Ctr.pick (by repeat' first | exact Pick.here | apply Pick.skip | apply Pick.app) (RInsert_ctr s most l p _ (by omega)))) ?_); rintro _ _ ⟨rfl, rfl⟩
    refine RS_m retB_noPanic rfl rfl rfl rfl (ev_eql rfl rfl) ?_
    refine RS_m retB_noPanic rfl rfl rfl rfl (ev_assign rfl) ?_
    refine RS_nil ?_
    (repeat first | refine G_seq ?_ | refine G_skip ?_ | refine G_endblk ?_ | refine G_block ?_ | refine G_exit rfl ?_)
    refine G_ret (L' := treeS b most (insR most l p) :: setS s most (insR most l p) :: L) rfl (.tmp rfl .nil) ?_ ⟨by simp [retv], rfl⟩
    apply en_pick
    focus ((repeat' first | exact Pick.here | apply Pick.skip | apply Pick.app); done)
    exact treeS_perm (insL_perm most l p) (by (repeat first | exact en_refl | (apply en_blk; focus ((repeat' first | exact Pick.here | apply Pick.skip | apply Pick.app); done); focus rfl) | (apply en_own; focus ((repeat' first | exact Pick.here | apply Pick.skip | apply Pick.app); done); focus rfl) | (apply en_pick; focus ((repeat' first | exact Pick.here | apply Pick.skip | apply Pick.app); done)) | apply en_drop | apply en_app) <;> fail)
end Go.Proofs.Ytalcanejhniepaa
/- A tree and its points by changes. -/
namespace Go.Proofs.Ytalcanejhniepaa
attribute [local irreducible] sat
set_option linter.unusedVariables false
set_option linter.unusedSimpArgs false
set_option maxRecDepth 100000

instance : Enc Ac := ⟨5, fun a => [.int .i64 a.kind, .int .i64 a.at_, .int .i64 a.p.id, .int .i64 a.p.x, .int .i64 a.p.y], fun _ => rfl, fun p v h => by
  simp at h
  rcases h with rfl | rfl | rfl | rfl | rfl <;> rfl⟩
def playL (most : Int) (l : List Ac) : List Pt := l.foldl (actL most) []
theorem playL_succ (most : Int) (l : List Ac) (k : Nat) (h : k < l.length) : playL most (l.take (k + 1)) = actL most (playL most (l.take k)) l[k] := by
  unfold playL; rw [List.take_succ_eq_append_getElem h, List.foldl_append]; rfl
theorem insC_good {most : Int} {l : List Pt} {p : Pt} (h : insC most l p = 0) : goodP p = true := by
  unfold insC at h
  cases hg : goodP p with
  | true => rfl
  | false => rw [if_pos hg] at h; exact absurd h (by decide)
theorem actL_good {most : Int} {l : List Pt} (a : Ac) (h : ∀ p ∈ l, goodP p = true) : ∀ p ∈ actL most l a, goodP p = true := by
  intro p hp
  unfold actL at hp
  split at hp
  · exact h p (List.mem_of_mem_erase hp)
  · unfold insR at hp
    split at hp
    · rename_i _ h0
      rcases List.mem_append.1 hp with hp | hp
      · exact h p hp
      · rw [List.mem_singleton.1 hp]; exact insC_good h0
    · exact h p hp
theorem playL_good (most : Int) (l : List Ac) : ∀ p ∈ playL most l, goodP p = true := by
  suffices ∀ (o : List Pt), (∀ p ∈ o, goodP p = true) → ∀ p ∈ l.foldl (actL most) o, goodP p = true from this [] (by simp)
  induction l with
  | nil => exact fun o h => h
  | cons a l ih => exact fun o h => ih _ (actL_good a h)
theorem Made_ctr (A : Option Addr) (n c : Nat) (acts : List Ac) (L : List HP) (hl : Rd L A n acts) (hn : n ≤ 9223372036854775807) (ha : ∀ a ∈ acts, a.at_ ≤ 9223372036854775807) :
    Ctr Try.prog 10 #[.slice A n c] L fun v L' => ∃ b s l, v = .tuple #[.pointer (some ⟨b, 0, none⟩), .pointer (some ⟨s, 0, none⟩), .bool true] ∧ (l.length ≤ 80 ∧ ∀ p ∈ l, goodP p = true) ∧ L' = treeS b 60 l :: setS s 60 l :: L := by
  have h1 : acts.length = n := hl.len (by decide)
  refine Ctr_of (fn := Try.f10) (n := 43) Try.func10 rfl rfl rfl ?_
  intro g F
  (repeat first | refine G_seq ?_ | refine G_skip ?_ | refine G_endblk ?_ | refine G_block ?_ | refine G_exit rfl ?_)
  refine G_region ?_
  refine GO_q rfl rfl (ev_assign rfl) ?_
  refine GO_q rfl rfl (ev_assign rfl) ?_
  refine GO_q rfl rfl (ev_assign rfl) ?_
  refine GO_nil ?_
  (repeat first | refine G_seq ?_ | refine G_skip ?_ | refine G_endblk ?_ | refine G_block ?_ | refine G_exit rfl ?_)
  refine G_region ?_
  refine GO_eff rfl rfl (eff_call rfl (PNew_ctr 60 _ (by decide))) ?_; rintro _ _ ⟨t, rfl, rfl⟩
  refine GO_q rfl rfl (ev_move rfl) ?_
  refine GO_q rfl rfl (ev_extract rfl rfl) ?_
  refine GO_q rfl rfl (ev_extract rfl rfl) ?_
  refine GO_q rfl rfl (ev_assign rfl) ?_
  refine GO_q rfl rfl (ev_assign rfl) ?_
  refine GO_nil ?_
  (repeat first | refine G_seq ?_ | refine G_skip ?_ | refine G_endblk ?_ | refine G_block ?_ | refine G_exit rfl ?_)
  refine G_region ?_
  refine GO_q rfl rfl (ev_build rfl rfl) ?_
  refine GO_eff rfl rfl (eff_box rfl) ?_; rintro _ _ ⟨b14, rfl, rfl⟩
  refine GO_q rfl rfl (ev_assign rfl) ?_
  refine GO_nil ?_
  (repeat first | refine G_seq ?_ | refine G_skip ?_ | refine G_endblk ?_ | refine G_block ?_ | refine G_exit rfl ?_)
  refine G_region ?_
  refine GO_q rfl rfl (ev_move rfl) ?_
  (first | refine GO_q rfl rfl (ev_eqlNil rfl rfl) ?_ | refine GO_q rfl rfl (ev_eqlPtr rfl rfl) ?_)
  refine GO_q rfl rfl (ev_move rfl) ?_
  refine GO_yes rfl rfl rfl rfl ?_
  refine GO_q rfl rfl (ev_move rfl) ?_
  refine GO_yes rfl rfl rfl rfl ?_
  refine GO_q rfl rfl (ev_neq rfl rfl) ?_
  refine GO_q rfl rfl (ev_pick_f rfl rfl rfl) ?_
  refine GO_nil ?_
  (repeat first | refine G_seq ?_ | refine G_skip ?_ | refine G_endblk ?_ | refine G_block ?_ | refine G_exit rfl ?_)
  refine G_cond_f rfl rfl ?_
  (repeat first | refine G_seq ?_ | refine G_skip ?_ | refine G_endblk ?_ | refine G_block ?_ | refine G_exit rfl ?_)
  refine G_region ?_
  refine GO_q rfl rfl (ev_assign rfl) ?_
  refine GO_nil ?_
  (repeat first | refine G_seq ?_ | refine G_skip ?_ | refine G_endblk ?_ | refine G_block ?_ | refine G_exit rfl ?_)
  refine G_heap (own.nil_ 39 3) ?_
  refine G_loop (ι := Nat) (fun k => [(0, .slice A n c), (5, .pointer (some ⟨t, 0, none⟩)), (7, .pointer (some ⟨b14, 0, none⟩)), (8, .int .i64 (k : Nat))]) (fun k => treeS t 60 (playL 60 (acts.take k)) :: setS b14 60 (playL 60 (acts.take k)) :: F :: L) (fun k => k ≤ n ∧ k ≤ 80 ∧ (playL 60 (acts.take k)).length ≤ k) (fun k => n - k) 0 ⟨Nat.zero_le _, Nat.zero_le _, Nat.le_refl _⟩ ⟨rfl, rfl, rfl, rfl, trivial⟩ (en_pick (.skip (.skip .here)) (en_set (A := none) (c := 0) (l := []) (fun h => absurd h (Nat.lt_irrefl 0)) (en_blk (.skip .here) rfl (en_own .here rfl en_refl)))) ?_
  rintro k ⟨f1, f2, f3⟩
  by_cases c1 : k < n
  · by_cases c2 : k < 80
    · obtain ⟨lb, lo, rfl, hx⟩ := hl.at_ (by omega)
      have g1 : acts[k]? = some acts[k] := List.getElem?_eq_getElem (by omega)
      have y1 := hx _ _ g1
      have s1 := playL_succ 60 acts k (by omega)
      have m1 := ha acts[k] (List.getElem_mem _)
      have m2 := actL_length 60 (playL 60 (acts.take k)) acts[k]
      rw [← s1] at m2
      generalize acts[k] = u at *
      have z1 : LdN L lb (lo + k * 5) 5 [.int .i64 u.kind, .int .i64 u.at_, .int .i64 u.p.id, .int .i64 u.p.x, .int .i64 u.p.y] := y1
      (repeat first | refine G_seq ?_ | refine G_skip ?_ | refine G_endblk ?_ | refine G_block ?_ | refine G_exit rfl ?_)
      refine G_region ?_
      refine GO_q rfl rfl (ev_move rfl) ?_
      refine GO_q rfl rfl (ev_move rfl) ?_
      refine GO_q rfl rfl (ev_len rfl) ?_
      (first | refine GO_q rfl rfl (ev_lssN rfl rfl) ?_ | refine GO_q rfl rfl (ev_lss rfl rfl) ?_)
      refine GO_q rfl rfl (ev_move rfl) ?_
      refine GO_yes rfl rfl rfl (decide_eq_true (by omega)) ?_
      refine GO_q rfl rfl (ev_move rfl) ?_
      refine GO_yes rfl rfl rfl (decide_eq_true (by omega)) ?_
      (first | refine GO_q rfl rfl (ev_lssN (q := 80) rfl rfl) ?_ | refine GO_q rfl rfl (ev_lss rfl rfl) ?_)
      refine GO_q rfl rfl (ev_pick_t rfl (decide_eq_true (by omega)) rfl) ?_
      refine GO_nil ?_
      (repeat first | refine G_seq ?_ | refine G_skip ?_ | refine G_endblk ?_ | refine G_block ?_ | refine G_exit rfl ?_)
      refine G_cond_t rfl (decide_eq_true (by omega)) ?_
      (repeat first | refine G_seq ?_ | refine G_skip ?_ | refine G_endblk ?_ | refine G_block ?_ | refine G_exit rfl ?_)
      refine G_region ?_
      refine GO_q rfl rfl (ev_move rfl) ?_
      refine GO_q rfl rfl (ev_move rfl) ?_
      refine GO_q rfl rfl (ev_move rfl) ?_
      refine GO_q rfl rfl (ev_move rfl) ?_
      (first | refine GO_q rfl rfl (ev_indexAddrN rfl rfl (by first | omega | (simp; done) | (simp; omega))) ?_ | refine GO_q rfl rfl (ev_indexAddr rfl rfl (by first | omega | (simp; done) | (simp; omega)) (by first | omega | (simp; done) | (simp; omega))) ?_)
      refine GO_q rfl rfl (ev_loadN rfl (by repeat' first | exact LdN.blk rfl | assumption | apply LdN.skip | apply LdN.app)) ?_
      refine GO_eff rfl rfl (eff_call rfl (Ctr.pre (M := treeS t 60 _ :: setS b14 60 _ :: _) (by (repeat first | exact en_refl | (apply en_blk; focus ((repeat' first | exact Pick.here | apply Pick.skip | apply Pick.app); done); focus rfl) | (apply en_own; focus ((repeat' first | exact Pick.here | apply Pick.skip | apply Pick.app); done); focus rfl) | (apply en_pick; focus ((repeat' first | exact Pick.here | apply Pick.skip | apply Pick.app); done)) | apply en_drop | apply en_app) <;> fail) (does_ctr t b14 60 u _ _ (by omega) m1))) ?_; rintro _ _ ⟨rfl, rfl⟩
      refine GO_q rfl rfl (ev_not rfl) ?_
      refine GO_nil ?_
      (repeat first | refine G_seq ?_ | refine G_skip ?_ | refine G_endblk ?_ | refine G_block ?_ | refine G_exit rfl ?_)
      refine G_cond_f rfl rfl ?_
      rw [← s1]
      (repeat first | refine G_seq ?_ | refine G_skip ?_ | refine G_endblk ?_ | refine G_block ?_ | refine G_exit rfl ?_)
      refine G_region ?_
      refine GO_q rfl rfl (ev_move rfl) ?_
      (first | refine GO_q rfl rfl (ev_addN (q := 1) rfl rfl (by first | omega | (simp; done) | (simp; omega))) ?_ | refine GO_q rfl rfl (ev_add rfl rfl (by first | omega | (simp; done) | (simp; omega))) ?_)
      refine GO_q rfl rfl (ev_assign rfl) ?_
      refine GO_nil ?_
      (repeat first | refine G_seq ?_ | refine G_skip ?_ | refine G_endblk ?_ | refine G_block ?_ | refine G_exit rfl ?_)
      exact G_round (k + 1) ⟨by omega, by omega, by omega⟩ (by omega) ⟨rfl, rfl, rfl, rfl, trivial⟩ (by (repeat first | exact fun _ s => s | apply en_keep | apply en_drop | apply en_app) <;> fail)
    · skip
      (repeat first | refine G_seq ?_ | refine G_skip ?_ | refine G_endblk ?_ | refine G_block ?_ | refine G_exit rfl ?_)
      refine G_region ?_
      refine GO_q rfl rfl (ev_move rfl) ?_
      refine GO_q rfl rfl (ev_move rfl) ?_
      refine GO_q rfl rfl (ev_len rfl) ?_
      (first | refine GO_q rfl rfl (ev_lssN rfl rfl) ?_ | refine GO_q rfl rfl (ev_lss rfl rfl) ?_)
      refine GO_q rfl rfl (ev_move rfl) ?_
      refine GO_yes rfl rfl rfl (decide_eq_true (by omega)) ?_
      refine GO_q rfl rfl (ev_move rfl) ?_
      refine GO_yes rfl rfl rfl (decide_eq_true (by omega)) ?_
      (first | refine GO_q rfl rfl (ev_lssN (q := 80) rfl rfl) ?_ | refine GO_q rfl rfl (ev_lss rfl rfl) ?_)
      refine GO_q rfl rfl (ev_pick_t rfl (decide_eq_true (by omega)) rfl) ?_
      refine GO_nil ?_
      (repeat first | refine G_seq ?_ | refine G_skip ?_ | refine G_endblk ?_ | refine G_block ?_ | refine G_exit rfl ?_)
      refine G_cond_f rfl (decide_eq_false (by omega)) ?_
      (repeat first | refine G_seq ?_ | refine G_skip ?_ | refine G_endblk ?_ | refine G_block ?_ | refine G_exit rfl ?_)
      refine G_region ?_
      refine GO_q rfl rfl (ev_move rfl) ?_
      refine GO_q rfl rfl (ev_move rfl) ?_
      refine GO_q rfl rfl (ev_assign rfl) ?_
      refine GO_q rfl rfl (ev_assign rfl) ?_
      refine GO_q rfl rfl (ev_assign rfl) ?_
      refine GO_nil ?_
      (repeat first | refine G_seq ?_ | refine G_skip ?_ | refine G_endblk ?_ | refine G_block ?_ | refine G_exit rfl ?_)
      exact G_ret (L' := treeS t 60 (playL 60 (acts.take k)) :: setS b14 60 (playL 60 (acts.take k)) :: L) rfl (.tmp rfl (.tmp rfl (.tmp rfl .nil))) (by (repeat first | exact en_refl | (apply en_blk; focus ((repeat' first | exact Pick.here | apply Pick.skip | apply Pick.app); done); focus rfl) | (apply en_own; focus ((repeat' first | exact Pick.here | apply Pick.skip | apply Pick.app); done); focus rfl) | (apply en_pick; focus ((repeat' first | exact Pick.here | apply Pick.skip | apply Pick.app); done)) | apply en_drop | apply en_app) <;> fail) ⟨t, b14, _, rfl, ⟨by omega, playL_good _ _⟩, rfl⟩
  · skip
    (repeat first | refine G_seq ?_ | refine G_skip ?_ | refine G_endblk ?_ | refine G_block ?_ | refine G_exit rfl ?_)
    refine G_region ?_
    refine GO_q rfl rfl (ev_move rfl) ?_
    refine GO_q rfl rfl (ev_move rfl) ?_
    refine GO_q rfl rfl (ev_len rfl) ?_
    (first | refine GO_q rfl rfl (ev_lssN rfl rfl) ?_ | refine GO_q rfl rfl (ev_lss rfl rfl) ?_)
    refine GO_q rfl rfl (ev_move rfl) ?_
    refine GO_no rfl rfl rfl (decide_eq_false (by omega)) ?_
    refine GO_no rfl rfl rfl (decide_eq_false (by omega)) ?_
    refine GO_q rfl rfl (ev_pick_f rfl (decide_eq_false (by omega)) rfl) ?_
    refine GO_nil ?_
    (repeat first | refine G_seq ?_ | refine G_skip ?_ | refine G_endblk ?_ | refine G_block ?_ | refine G_exit rfl ?_)
    refine G_cond_f rfl rfl ?_
    (repeat first | refine G_seq ?_ | refine G_skip ?_ | refine G_endblk ?_ | refine G_block ?_ | refine G_exit rfl ?_)
    refine G_region ?_
    refine GO_q rfl rfl (ev_move rfl) ?_
    refine GO_q rfl rfl (ev_move rfl) ?_
    refine GO_q rfl rfl (ev_assign rfl) ?_
    refine GO_q rfl rfl (ev_assign rfl) ?_
    refine GO_q rfl rfl (ev_assign rfl) ?_
    refine GO_nil ?_
    (repeat first | refine G_seq ?_ | refine G_skip ?_ | refine G_endblk ?_ | refine G_block ?_ | refine G_exit rfl ?_)
    exact G_ret (L' := treeS t 60 (playL 60 (acts.take k)) :: setS b14 60 (playL 60 (acts.take k)) :: L) rfl (.tmp rfl (.tmp rfl (.tmp rfl .nil))) (by (repeat first | exact en_refl | (apply en_blk; focus ((repeat' first | exact Pick.here | apply Pick.skip | apply Pick.app); done); focus rfl) | (apply en_own; focus ((repeat' first | exact Pick.here | apply Pick.skip | apply Pick.app); done); focus rfl) | (apply en_pick; focus ((repeat' first | exact Pick.here | apply Pick.skip | apply Pick.app); done)) | apply en_drop | apply en_app) <;> fail) ⟨t, b14, _, rfl, ⟨by omega, playL_good _ _⟩, rfl⟩
end Go.Proofs.Ytalcanejhniepaa
/- That a point is seen. -/
namespace Go.Proofs.Ytalcanejhniepaa
attribute [local irreducible] sat
set_option linter.unusedVariables false
set_option linter.unusedSimpArgs false
set_option maxRecDepth 100000

theorem lives_ctr (L : List HP) : Ctr Try.prog 24 #[] L fun v L' => v = .bool true ∧ ∃ X, L' = X ++ L := by
  have e1 : insC 3 [] ⟨1, 0, 5⟩ = 0 := by decide
  have e2 : insL 3 [] ⟨1, 0, 5⟩ = [⟨1, 0, 5⟩] := by decide
  have e3 : insC 3 [⟨1, 0, 5⟩] ⟨2, 3, 9⟩ = 0 := by decide
  have e4 : insL 3 [⟨1, 0, 5⟩] ⟨2, 3, 9⟩ = [⟨2, 3, 9⟩, ⟨1, 0, 5⟩] := by decide
  have e5 : srt (winIds ⟨0, 9, 6⟩ [⟨2, 3, 9⟩, ⟨1, 0, 5⟩]) = [2] := by
    have : winIds ⟨0, 9, 6⟩ [⟨2, 3, 9⟩, ⟨1, 0, 5⟩] = [2] := by decide
    rw [this]; simp [srt]
  have hI1 := fun L => PInsert_ctr (l := []) (most := 3) (p := ⟨1, 0, 5⟩) (L := L)
  refine Ctr_of (fn := Try.f24) (n := 44) Try.func24 rfl rfl rfl ?_
  intro g F
  (repeat first | refine G_seq ?_ | refine G_skip ?_ | refine G_endblk ?_ | refine G_block ?_ | refine G_exit rfl ?_)
  refine G_region ?_
  refine GO_q rfl rfl (ev_assign rfl) ?_
  refine GO_nil ?_
  (repeat first | refine G_seq ?_ | refine G_skip ?_ | refine G_endblk ?_ | refine G_block ?_ | refine G_exit rfl ?_)
  refine G_region ?_
  refine GO_eff rfl rfl (eff_call rfl (PNew_ctr 3 _ (by decide))) ?_; rintro _ _ ⟨t, rfl, rfl⟩
  refine GO_q rfl rfl (ev_move rfl) ?_
  refine GO_q rfl rfl (ev_extract rfl rfl) ?_
  refine GO_q rfl rfl (ev_extract rfl rfl) ?_
  refine GO_q rfl rfl (ev_assign rfl) ?_
  refine GO_q rfl rfl (ev_assign rfl) ?_
  refine GO_nil ?_
  (repeat first | refine G_seq ?_ | refine G_skip ?_ | refine G_endblk ?_ | refine G_block ?_ | refine G_exit rfl ?_)
  refine G_region ?_
  refine GO_q rfl rfl (ev_move rfl) ?_
  refine GO_q rfl rfl (ev_build rfl rfl) ?_
  refine GO_eff rfl rfl (eff_call rfl (Ctr.pick (by repeat' first | exact Pick.here | apply Pick.skip | apply Pick.app) (PInsert_ctr t 3 [] ⟨1, 0, 5⟩ _ (by decide)))) ?_; rintro _ _ ⟨rfl, rfl⟩
  refine GO_q rfl rfl (ev_assign rfl) ?_
  refine GO_nil ?_
  rw [e1, e2]
  (repeat first | refine G_seq ?_ | refine G_skip ?_ | refine G_endblk ?_ | refine G_block ?_ | refine G_exit rfl ?_)
  refine G_region ?_
  refine GO_q rfl rfl (ev_move rfl) ?_
  refine GO_q rfl rfl (ev_build rfl rfl) ?_
  refine GO_eff rfl rfl (eff_call rfl (Ctr.pick (by repeat' first | exact Pick.here | apply Pick.skip | apply Pick.app) (PInsert_ctr t 3 [⟨1, 0, 5⟩] ⟨2, 3, 9⟩ _ (by decide)))) ?_; rintro _ _ ⟨rfl, rfl⟩
  refine GO_q rfl rfl (ev_assign rfl) ?_
  refine GO_nil ?_
  rw [e3, e4]
  have hR := fun L => SReport_ctr t 3 ⟨0, 9, 6⟩ [⟨2, 3, 9⟩, ⟨1, 0, 5⟩] L (by decide)
  rw [e5] at hR
  (repeat first | refine G_seq ?_ | refine G_skip ?_ | refine G_endblk ?_ | refine G_block ?_ | refine G_exit rfl ?_)
  refine G_region ?_
  refine GO_q rfl rfl (ev_move rfl) ?_
  refine GO_q rfl rfl (ev_build rfl rfl) ?_
  refine GO_eff rfl rfl (eff_call rfl (Ctr.pick (by repeat' first | exact Pick.here | apply Pick.skip | apply Pick.app) (hR _))) ?_; rintro _ _ ⟨A18, c18, rfl, hA18, rfl⟩
  refine GO_q rfl rfl (ev_assign rfl) ?_
  refine GO_nil ?_
  obtain ⟨ab, rfl⟩ := hA18 (by decide)
  have r : ∀ X, Rd (own 3 1 (some ⟨ab, 0, none⟩) [(2 : Int)].length c18 (flat [(2 : Int)]) :: X) (some ⟨ab, 0, none⟩) [(2 : Int)].length [(2 : Int)] := fun X => Rc.own (flat_length _) (fun _ => ⟨ab, rfl⟩)
  obtain ⟨_, _, e9, hx⟩ := (r (treeS t 3 [⟨2, 3, 9⟩, ⟨1, 0, 5⟩] :: F :: L)).at_ (by decide)
  cases e9
  have y1 := (hx 0 2 rfl).at_ (i := 0) rfl
  have y2 : Ld (own 3 1 (some ⟨ab, 0, none⟩) [(2 : Int)].length c18 (flat [(2 : Int)]) :: treeS t 3 [⟨2, 3, 9⟩, ⟨1, 0, 5⟩] :: F :: L) ⟨ab, 0 + 0 * 1, none⟩ (.int .i64 2) := y1
  (repeat first | refine G_seq ?_ | refine G_skip ?_ | refine G_endblk ?_ | refine G_block ?_ | refine G_exit rfl ?_)
  refine G_region ?_
  refine GO_q rfl rfl (ev_move rfl) ?_
  refine GO_q rfl rfl (ev_eql rfl rfl) ?_
  refine GO_q rfl rfl (ev_move rfl) ?_
  refine GO_yes rfl rfl rfl rfl ?_
  refine GO_q rfl rfl (ev_move rfl) ?_
  refine GO_yes rfl rfl rfl rfl ?_
  refine GO_q rfl rfl (ev_eql rfl rfl) ?_
  refine GO_q rfl rfl (ev_pick_t rfl rfl rfl) ?_
  refine GO_q rfl rfl (ev_move rfl) ?_
  refine GO_yes rfl rfl rfl rfl ?_
  refine GO_q rfl rfl (ev_move rfl) ?_
  refine GO_yes rfl rfl rfl rfl ?_
  refine GO_q rfl rfl (ev_eql rfl rfl) ?_
  refine GO_q rfl rfl (ev_pick_t rfl rfl rfl) ?_
  refine GO_q rfl rfl (ev_move rfl) ?_
  refine GO_yes rfl rfl rfl rfl ?_
  refine GO_q rfl rfl (ev_move rfl) ?_
  refine GO_yes rfl rfl rfl rfl ?_
  refine GO_q rfl rfl (ev_len rfl) ?_
  refine GO_yes rfl rfl rfl rfl ?_
  refine GO_q rfl rfl (ev_eql rfl rfl) ?_
  refine GO_q rfl rfl (ev_pick_t rfl rfl rfl) ?_
  refine GO_q rfl rfl (ev_move rfl) ?_
  refine GO_yes rfl rfl rfl rfl ?_
  refine GO_q rfl rfl (ev_move rfl) ?_
  refine GO_yes rfl rfl rfl rfl ?_
  (first | refine GO_q rfl rfl (ev_indexAddrN rfl rfl (by first | omega | (simp; done) | (simp; omega))) ?_ | refine GO_q rfl rfl (ev_indexAddr rfl rfl (by first | omega | (simp; done) | (simp; omega)) (by first | omega | (simp; done) | (simp; omega))) ?_)
  refine GO_yes rfl rfl rfl rfl ?_
  refine GO_q rfl rfl (ev_load rfl (by repeat' first | exact Ld.blk rfl | assumption | apply Ld.skip | apply Ld.app)) ?_
  refine GO_yes rfl rfl rfl rfl ?_
  refine GO_q rfl rfl (ev_eql rfl rfl) ?_
  refine GO_q rfl rfl (ev_pick_t rfl rfl rfl) ?_
  refine GO_q rfl rfl (ev_move rfl) ?_
  refine GO_yes rfl rfl rfl rfl ?_
  refine GO_q rfl rfl (ev_move rfl) ?_
  refine GO_yes rfl rfl rfl rfl ?_
  refine GO_eff rfl rfl (eff_call rfl (Ctr.pick (by repeat' first | exact Pick.here | apply Pick.skip | apply Pick.app) (SCheck_ctr t 3 [⟨2, 3, 9⟩, ⟨1, 0, 5⟩] _ (by decide) (by decide)))) ?_; rintro _ _ ⟨rfl, rfl⟩
  refine GO_q rfl rfl (ev_pick_t rfl rfl rfl) ?_
  refine GO_q rfl rfl (ev_assign rfl) ?_
  refine GO_nil ?_
  (repeat first | refine G_seq ?_ | refine G_skip ?_ | refine G_endblk ?_ | refine G_block ?_ | refine G_exit rfl ?_)
  exact G_ret (L' := [own 3 1 (some ⟨ab, 0, none⟩) [(2 : Int)].length c18 (flat [(2 : Int)]), treeS t 3 [⟨2, 3, 9⟩, ⟨1, 0, 5⟩]] ++ L) rfl (.tmp rfl .nil) (by (repeat first | exact en_refl | (apply en_blk; focus ((repeat' first | exact Pick.here | apply Pick.skip | apply Pick.app); done); focus rfl) | (apply en_own; focus ((repeat' first | exact Pick.here | apply Pick.skip | apply Pick.app); done); focus rfl) | (apply en_pick; focus ((repeat' first | exact Pick.here | apply Pick.skip | apply Pick.app); done)) | apply en_drop | apply en_app) <;> fail) ⟨rfl, _, rfl⟩
end Go.Proofs.Ytalcanejhniepaa
/- The law PstBack: the walk. -/
namespace Go.Proofs.Ytalcanejhniepaa
attribute [local irreducible] sat
set_option linter.unusedVariables false
set_option linter.unusedSimpArgs false
set_option maxRecDepth 100000

theorem good_hi {n : Int} (h : good n = true) : n ≤ 1099511627776 := by
  unfold good at h; simp at h; exact h.2
theorem goodP_y {p : Pt} (h : goodP p = true) : p.y ≤ 1099511627776 := by
  unfold goodP at h; simp at h; exact good_hi h.2.2
theorem hits_win (w : Wn) (l : List Pt) (h : ∀ p ∈ l, goodP p = true) : hits (fun p => Bx.has ⟨w.x1, w.x2, w.y, 1099511627776⟩ p.x p.y) l = winIds w l := by
  unfold hits winIds
  congr 1
  refine List.filter_congr fun p hp => ?_
  have := goodP_y (h p hp)
  unfold Bx.has Wn.sees wthn
  simp [this]
theorem PstBack_ctr (A : Option Addr) (n c : Nat) (acts : List Ac) (p : Pt) (w : Wn) (L : List HP) (hl : Rd L A n acts) (hn : n ≤ 9223372036854775807) (ha : ∀ a ∈ acts, a.at_ ≤ 9223372036854775807) :
    Ctr Try.prog 4 #[.slice A n c, p.v, .agg #[.int .i64 w.x1, .int .i64 w.x2, .int .i64 w.y]] L fun v L' => v = .bool true ∧ L' = L := by
  refine Ctr_of (fn := Try.f4) (n := 54) Try.func4 rfl rfl rfl ?_
  intro g F
  (repeat first | refine G_seq ?_ | refine G_skip ?_ | refine G_endblk ?_ | refine G_block ?_ | refine G_exit rfl ?_)
  refine G_region ?_
  refine GO_eff rfl rfl (eff_box rfl) ?_; rintro _ _ ⟨b4, rfl, rfl⟩
  refine GO_eff rfl rfl (eff_box rfl) ?_; rintro _ _ ⟨b5, rfl, rfl⟩
  refine GO_q rfl rfl (ev_assign rfl) ?_
  refine GO_nil ?_
  (repeat first | refine G_seq ?_ | refine G_skip ?_ | refine G_endblk ?_ | refine G_block ?_ | refine G_exit rfl ?_)
  refine G_region ?_
  refine GO_q rfl rfl (ev_move rfl) ?_
  refine GO_eff rfl rfl (eff_call rfl (Ctr.frame (blk b5 45 [.int .i64 w.x1, .int .i64 w.x2, .int .i64 w.y] :: blk b4 39 [.int .i64 p.id, .int .i64 p.x, .int .i64 p.y] :: F :: []) (Made_ctr A n c acts L hl hn ha) (fun _ s => s))) ?_; rintro _ _ ⟨_, ⟨t, s, l, rfl, ⟨hl1, hl2⟩, rfl⟩, rfl⟩
  refine GO_q rfl rfl (ev_move rfl) ?_
  refine GO_q rfl rfl (ev_extract rfl rfl) ?_
  refine GO_q rfl rfl (ev_extract rfl rfl) ?_
  refine GO_q rfl rfl (ev_extract rfl rfl) ?_
  refine GO_q rfl rfl (ev_assign rfl) ?_
  refine GO_q rfl rfl (ev_assign rfl) ?_
  refine GO_q rfl rfl (ev_assign rfl) ?_
  refine GO_nil ?_
  (repeat first | refine G_seq ?_ | refine G_skip ?_ | refine G_endblk ?_ | refine G_block ?_ | refine G_exit rfl ?_)
  refine G_region ?_
  refine GO_q rfl rfl (ev_move rfl) ?_
  refine GO_q rfl rfl (ev_not rfl) ?_
  refine GO_nil ?_
  (repeat first | refine G_seq ?_ | refine G_skip ?_ | refine G_endblk ?_ | refine G_block ?_ | refine G_exit rfl ?_)
  refine G_cond_f rfl rfl ?_
  have e5 := hits_win w l hl2
  have hsl : (srt (winIds w l)).length ≤ 80 := by
    rw [srt, List.length_mergeSort, winIds, List.length_map]
    exact Nat.le_trans (List.length_filter_le ..) hl1
  refine G_heap (L' := blk b5 45 [.int .i64 w.x1, .int .i64 w.x2, .int .i64 w.y] :: blk b4 39 [.int .i64 p.id, .int .i64 p.x, .int .i64 p.y] :: F :: treeS t 60 l :: setS s 60 l :: L) (fun _ s => s) ?_
  refine G_heap (L' := setS s 60 l :: blk b5 45 [.int .i64 w.x1, .int .i64 w.x2, .int .i64 w.y] :: blk b4 39 [.int .i64 p.id, .int .i64 p.x, .int .i64 p.y] :: F :: treeS t 60 l :: L) (by (repeat first | exact en_refl | (apply en_blk; focus ((repeat' first | exact Pick.here | apply Pick.skip | apply Pick.app); done); focus rfl) | (apply en_own; focus ((repeat' first | exact Pick.here | apply Pick.skip | apply Pick.app); done); focus rfl) | (apply en_pick; focus ((repeat' first | exact Pick.here | apply Pick.skip | apply Pick.app); done)) | apply en_drop | apply en_app) <;> fail) ?_
  refine G_open (ι := Option Addr × Nat) (F := fun x => 0 < l.length → ∃ b, x.1 = some ⟨b, 0, none⟩) (N := fun x => [blk s 34 [.slice x.1 l.length x.2, .int .i64 60], own 39 3 x.1 l.length x.2 (flat l)]) (fun _ h => h) fun x hx => ?_
  obtain ⟨B, d⟩ := x
  dsimp only at hx
  refine G_heap (L' := blk s 34 [.slice B l.length d, .int .i64 60] :: own 39 3 B l.length d (flat l) :: blk b5 45 [.int .i64 w.x1, .int .i64 w.x2, .int .i64 w.y] :: blk b4 39 [.int .i64 p.id, .int .i64 p.x, .int .i64 p.y] :: F :: treeS t 60 l :: L) (fun _ s => s) ?_
  have hb : ∀ L', LdN (blk s 34 [.slice B l.length d, .int .i64 60] :: L') s 0 2 [.slice B l.length d, .int .i64 60] := fun L' => LdN.blk rfl
  have hr : ∀ L', Rd (own 39 3 B l.length d (flat l) :: L') B l.length l := fun L' => Rc.own (flat_length l) hx
  by_cases h0 : insC 60 l p = 0
  · have e6 : insL 60 l p = p :: l := by unfold insL; rw [if_pos h0]
    have e7 : delC (p :: l) p = 0 := if_pos (List.mem_cons_self ..)
    have e8 : (p :: l).erase p = l := by simp
    (repeat first | refine G_seq ?_ | refine G_skip ?_ | refine G_endblk ?_ | refine G_block ?_ | refine G_exit rfl ?_)
    refine G_region ?_
    refine GO_q rfl rfl (ev_move rfl) ?_
    refine GO_q rfl rfl (ev_loadN rfl (by repeat' first | exact LdN.blk rfl | assumption | apply LdN.skip | apply LdN.app)) ?_
    refine GO_eff rfl rfl (eff_call rfl (Ctr.pick (by repeat' first | exact Pick.here | apply Pick.skip | apply Pick.app) (PInsert_ctr t 60 l p _ (by omega)))) ?_; rintro _ _ ⟨rfl, rfl⟩
    refine GO_q rfl rfl (ev_eql rfl rfl) ?_
    refine GO_q rfl rfl (ev_move rfl) ?_
    refine GO_yes rfl rfl rfl (decide_eq_true h0) ?_
    refine GO_q rfl rfl (ev_move rfl) ?_
    refine GO_yes rfl rfl rfl (decide_eq_true h0) ?_
    refine GO_q rfl rfl (ev_loadN rfl (by repeat' first | exact LdN.blk rfl | assumption | apply LdN.skip | apply LdN.app)) ?_
    refine GO_yes rfl rfl rfl (decide_eq_true h0) ?_
    refine GO_eff rfl rfl (eff_call rfl (Ctr.pick (by repeat' first | exact Pick.here | apply Pick.skip | apply Pick.app) (PDelete_ctr t 60 _ p _ (by rw [e6]; simp; omega)))) ?_; rintro _ _ ⟨rfl, rfl⟩
    refine GO_yes rfl rfl rfl (decide_eq_true h0) ?_
    refine GO_q rfl rfl (ev_neq rfl rfl) ?_
    refine GO_q rfl rfl (ev_pick_t rfl (decide_eq_true h0) rfl) ?_
    refine GO_nil ?_
    rw [e6, e7, e8]
    (repeat first | refine G_seq ?_ | refine G_skip ?_ | refine G_endblk ?_ | refine G_block ?_ | refine G_exit rfl ?_)
    refine G_cond_f rfl rfl ?_
    (repeat first | refine G_seq ?_ | refine G_skip ?_ | refine G_endblk ?_ | refine G_block ?_ | refine G_exit rfl ?_)
    refine G_draw (.q 0 (.q 1 (.q 3 (.q 4 (.q 5 (.q 6 (.q 7 (.q 8 (.q 9 (.q 10 (.e 2 (.e 11 (.e 12 (.q 13 (.q 14 (.q 16 (.q 17 (.q 18 (.q 19 (.q 20 (.e 15 (.q 21 (.q 22 (.q 23 (.e 24 (.q 25 (.q 26 .nil))))))))))))))))))))))))))) (by kernel_rfl) (by kernel_rfl) ?_
    refine RS_m retB_noPanic rfl rfl rfl rfl (ev_move rfl) ?_
    refine RS_q retB_noPanic rfl rfl rfl rfl (ev_loadN rfl (by repeat' first | exact LdN.blk rfl | assumption | apply LdN.skip | apply LdN.app)) ?_
    refine RS_m retB_noPanic rfl rfl rfl rfl (ev_move rfl) ?_
    refine RS_m retB_noPanic rfl rfl rfl rfl (ev_fieldAddr rfl) ?_
    refine RS_q retB_noPanic rfl rfl rfl rfl (ev_load rfl (by repeat' first | exact Ld.blk rfl | assumption | apply Ld.skip | apply Ld.app)) ?_
    refine RS_m retB_noPanic rfl rfl rfl rfl (ev_fieldAddr rfl) ?_
    refine RS_q retB_noPanic rfl rfl rfl rfl (ev_load rfl (by repeat' first | exact Ld.blk rfl | assumption | apply Ld.skip | apply Ld.app)) ?_
    refine RS_m retB_noPanic rfl rfl rfl rfl (ev_fieldAddr rfl) ?_
    refine RS_q retB_noPanic rfl rfl rfl rfl (ev_load rfl (by repeat' first | exact Ld.blk rfl | assumption | apply Ld.skip | apply Ld.app)) ?_
    refine RS_m retB_noPanic rfl rfl rfl rfl (ev_build rfl rfl) ?_
    refine RS_e (RE_eff rfl rfl rfl (eff_call rfl (Ctr.pick (by repeat' first | exact Pick.here | apply Pick.skip | apply Pick.app) (SReport_ctr t 60 w l _ (by omega)))) ?_); rintro _ _ ⟨A30, c30, rfl, hA30, rfl⟩; refine ⟨_, (by first | ((repeat first | exact fun _ s => s | apply en_keep | apply en_drop | apply en_app) <;> fail) | ((repeat first | exact en_refl | (apply en_blk; focus ((repeat' first | exact Pick.here | apply Pick.skip | apply Pick.app); done); focus rfl) | (apply en_own; focus ((repeat' first | exact Pick.here | apply Pick.skip | apply Pick.app); done); focus rfl) | (apply en_pick; focus ((repeat' first | exact Pick.here | apply Pick.skip | apply Pick.app); done)) | apply en_drop | apply en_app) <;> fail)), fun _ s => s, ?_⟩
    refine RS_e (RE_eff rfl rfl rfl (eff_call rfl (RReport_ctr0 s B d 60 ⟨w.x1, w.x2, w.y, 1099511627776⟩ l _ (by repeat' first | exact hb _ | apply LdN.skip) (by repeat' first | exact hr _ | apply Rd.skip) (by omega))) ?_); rintro _ _ ⟨X39, ⟨A39, c39, rfl, i1, i2, i3⟩, rfl⟩; refine ⟨_, (by first | ((repeat first | exact fun _ s => s | apply en_keep | apply en_drop | apply en_app) <;> fail) | ((repeat first | exact en_refl | (apply en_blk; focus ((repeat' first | exact Pick.here | apply Pick.skip | apply Pick.app); done); focus rfl) | (apply en_own; focus ((repeat' first | exact Pick.here | apply Pick.skip | apply Pick.app); done); focus rfl) | (apply en_pick; focus ((repeat' first | exact Pick.here | apply Pick.skip | apply Pick.app); done)) | apply en_drop | apply en_app) <;> fail)), fun _ s => s, ?_⟩
    refine RS_e (RE_eff rfl rfl rfl (eff_call rfl (Same_ctr A30 A39 _ _ c30 c39 _ _ _ (Rd.app (Rc.own (flat_length _) hA30)) (Rd.mono (fun h s => en_app (fun _ s => s) h (s.perm List.perm_append_comm)) i3) (Nat.le_trans hsl (by decide)))) ?_); rintro _ _ ⟨rfl, rfl⟩; refine ⟨_, (by first | ((repeat first | exact fun _ s => s | apply en_keep | apply en_drop | apply en_app) <;> fail) | ((repeat first | exact en_refl | (apply en_blk; focus ((repeat' first | exact Pick.here | apply Pick.skip | apply Pick.app); done); focus rfl) | (apply en_own; focus ((repeat' first | exact Pick.here | apply Pick.skip | apply Pick.app); done); focus rfl) | (apply en_pick; focus ((repeat' first | exact Pick.here | apply Pick.skip | apply Pick.app); done)) | apply en_drop | apply en_app) <;> fail)), fun _ s => s, ?_⟩
    refine RS_m retB_noPanic rfl rfl rfl rfl (ev_move rfl) ?_
    refine RS_m_yes retB_noPanic rfl rfl rfl rfl ⟨_, rfl, (by rw [e5]; simp)⟩ rfl (ev_move rfl) ?_
    refine RS_m_yes retB_noPanic rfl rfl rfl rfl ⟨_, rfl, (by rw [e5]; simp)⟩ rfl (ev_move rfl) ?_
    (first | refine RS_m_yes retB_noPanic rfl rfl rfl rfl ⟨_, rfl, (by rw [e5]; simp)⟩ rfl (ev_nilCheck rfl) ?_ | refine RS_m_yes retB_noPanic rfl rfl rfl rfl ⟨_, rfl, (by rw [e5]; simp)⟩ rfl (ev_nilCheckF (by simp) rfl) ?_)
    refine RS_m_yes retB_noPanic rfl rfl rfl rfl ⟨_, rfl, (by rw [e5]; simp)⟩ rfl (ev_fieldAddr rfl) ?_
    refine RS_q_yes retB_noPanic rfl rfl rfl rfl ⟨_, rfl, (by rw [e5]; simp)⟩ rfl (ev_load rfl (by repeat' first | exact Ld.blk rfl | assumption | apply Ld.skip | apply Ld.app)) ?_
    refine RS_q_yes retB_noPanic rfl rfl rfl rfl ⟨_, rfl, (by rw [e5]; simp)⟩ rfl (ev_len rfl) ?_
    refine RS_e (RE_eff_yes rfl rfl rfl ⟨_, rfl, (by rw [e5]; simp)⟩ rfl (eff_call rfl (Ctr.pick (by repeat' first | exact Pick.here | apply Pick.skip | apply Pick.app) (SLen_ctr t 60 l _))) ?_); rintro _ _ ⟨rfl, rfl⟩; refine ⟨_, (by first | ((repeat first | exact fun _ s => s | apply en_keep | apply en_drop | apply en_app) <;> fail) | ((repeat first | exact en_refl | (apply en_blk; focus ((repeat' first | exact Pick.here | apply Pick.skip | apply Pick.app); done); focus rfl) | (apply en_own; focus ((repeat' first | exact Pick.here | apply Pick.skip | apply Pick.app); done); focus rfl) | (apply en_pick; focus ((repeat' first | exact Pick.here | apply Pick.skip | apply Pick.app); done)) | apply en_drop | apply en_app) <;> fail)), fun _ s => s, ?_⟩
    refine RS_m_yes retB_noPanic rfl rfl rfl rfl ⟨_, rfl, (by rw [e5]; simp)⟩ rfl (ev_eql rfl rfl) ?_
    refine RS_m retB_noPanic rfl rfl rfl rfl (ev_pick_t rfl (by rw [e5]; simp) rfl) ?_
    refine RS_m retB_noPanic rfl rfl rfl rfl (ev_move rfl) ?_
    refine RS_e (RE_eff_yes rfl rfl rfl ⟨_, rfl, (by simp)⟩ rfl (eff_call rfl (lives_ctr _)) ?_); rintro _ _ ⟨rfl, X52, rfl⟩; refine ⟨_, (by first | ((repeat first | exact fun _ s => s | apply en_keep | apply en_drop | apply en_app) <;> fail) | ((repeat first | exact en_refl | (apply en_blk; focus ((repeat' first | exact Pick.here | apply Pick.skip | apply Pick.app); done); focus rfl) | (apply en_own; focus ((repeat' first | exact Pick.here | apply Pick.skip | apply Pick.app); done); focus rfl) | (apply en_pick; focus ((repeat' first | exact Pick.here | apply Pick.skip | apply Pick.app); done)) | apply en_drop | apply en_app) <;> fail)), fun _ s => s, ?_⟩
    refine RS_m retB_noPanic rfl rfl rfl rfl (ev_pick_t rfl (by simp) rfl) ?_
    refine RS_m retB_noPanic rfl rfl rfl rfl (ev_assign rfl) ?_
    refine RS_nil ?_
    (repeat first | refine G_seq ?_ | refine G_skip ?_ | refine G_endblk ?_ | refine G_block ?_ | refine G_exit rfl ?_)
    exact G_ret (L' := L) rfl (.tmp rfl .nil) (by (repeat first | exact fun _ s => s | apply en_keep | apply en_drop | apply en_app) <;> fail) ⟨by simp [retv], rfl⟩
  · have e6 : insL 60 l p = l := by unfold insL; rw [if_neg h0]
    (repeat first | refine G_seq ?_ | refine G_skip ?_ | refine G_endblk ?_ | refine G_block ?_ | refine G_exit rfl ?_)
    refine G_region ?_
    refine GO_q rfl rfl (ev_move rfl) ?_
    refine GO_q rfl rfl (ev_loadN rfl (by repeat' first | exact LdN.blk rfl | assumption | apply LdN.skip | apply LdN.app)) ?_
    refine GO_eff rfl rfl (eff_call rfl (Ctr.pick (by repeat' first | exact Pick.here | apply Pick.skip | apply Pick.app) (PInsert_ctr t 60 l p _ (by omega)))) ?_; rintro _ _ ⟨rfl, rfl⟩
    refine GO_q rfl rfl (ev_eql rfl rfl) ?_
    refine GO_q rfl rfl (ev_move rfl) ?_
    refine GO_no rfl rfl rfl (decide_eq_false h0) ?_
    refine GO_no rfl rfl rfl (decide_eq_false h0) ?_
    refine GO_no rfl rfl rfl (decide_eq_false h0) ?_
    refine GO_no rfl rfl rfl (decide_eq_false h0) ?_
    refine GO_q rfl rfl (ev_pick_f rfl (decide_eq_false h0) rfl) ?_
    refine GO_nil ?_
    rw [e6]
    (repeat first | refine G_seq ?_ | refine G_skip ?_ | refine G_endblk ?_ | refine G_block ?_ | refine G_exit rfl ?_)
    refine G_cond_f rfl rfl ?_
    (repeat first | refine G_seq ?_ | refine G_skip ?_ | refine G_endblk ?_ | refine G_block ?_ | refine G_exit rfl ?_)
    refine G_draw (.q 0 (.q 1 (.q 3 (.q 4 (.q 5 (.q 6 (.q 7 (.q 8 (.q 9 (.q 10 (.e 2 (.e 11 (.e 12 (.q 13 (.q 14 (.q 16 (.q 17 (.q 18 (.q 19 (.q 20 (.e 15 (.q 21 (.q 22 (.q 23 (.e 24 (.q 25 (.q 26 .nil))))))))))))))))))))))))))) (by kernel_rfl) (by kernel_rfl) ?_
    refine RS_m retB_noPanic rfl rfl rfl rfl (ev_move rfl) ?_
    refine RS_q retB_noPanic rfl rfl rfl rfl (ev_loadN rfl (by repeat' first | exact LdN.blk rfl | assumption | apply LdN.skip | apply LdN.app)) ?_
    refine RS_m retB_noPanic rfl rfl rfl rfl (ev_move rfl) ?_
    refine RS_m retB_noPanic rfl rfl rfl rfl (ev_fieldAddr rfl) ?_
    refine RS_q retB_noPanic rfl rfl rfl rfl (ev_load rfl (by repeat' first | exact Ld.blk rfl | assumption | apply Ld.skip | apply Ld.app)) ?_
    refine RS_m retB_noPanic rfl rfl rfl rfl (ev_fieldAddr rfl) ?_
    refine RS_q retB_noPanic rfl rfl rfl rfl (ev_load rfl (by repeat' first | exact Ld.blk rfl | assumption | apply Ld.skip | apply Ld.app)) ?_
    refine RS_m retB_noPanic rfl rfl rfl rfl (ev_fieldAddr rfl) ?_
    refine RS_q retB_noPanic rfl rfl rfl rfl (ev_load rfl (by repeat' first | exact Ld.blk rfl | assumption | apply Ld.skip | apply Ld.app)) ?_
    refine RS_m retB_noPanic rfl rfl rfl rfl (ev_build rfl rfl) ?_
    refine RS_e (RE_eff rfl rfl rfl (eff_call rfl (Ctr.pick (by repeat' first | exact Pick.here | apply Pick.skip | apply Pick.app) (SReport_ctr t 60 w l _ (by omega)))) ?_); rintro _ _ ⟨A30, c30, rfl, hA30, rfl⟩; refine ⟨_, (by first | ((repeat first | exact fun _ s => s | apply en_keep | apply en_drop | apply en_app) <;> fail) | ((repeat first | exact en_refl | (apply en_blk; focus ((repeat' first | exact Pick.here | apply Pick.skip | apply Pick.app); done); focus rfl) | (apply en_own; focus ((repeat' first | exact Pick.here | apply Pick.skip | apply Pick.app); done); focus rfl) | (apply en_pick; focus ((repeat' first | exact Pick.here | apply Pick.skip | apply Pick.app); done)) | apply en_drop | apply en_app) <;> fail)), fun _ s => s, ?_⟩
    refine RS_e (RE_eff rfl rfl rfl (eff_call rfl (RReport_ctr0 s B d 60 ⟨w.x1, w.x2, w.y, 1099511627776⟩ l _ (by repeat' first | exact hb _ | apply LdN.skip) (by repeat' first | exact hr _ | apply Rd.skip) (by omega))) ?_); rintro _ _ ⟨X39, ⟨A39, c39, rfl, i1, i2, i3⟩, rfl⟩; refine ⟨_, (by first | ((repeat first | exact fun _ s => s | apply en_keep | apply en_drop | apply en_app) <;> fail) | ((repeat first | exact en_refl | (apply en_blk; focus ((repeat' first | exact Pick.here | apply Pick.skip | apply Pick.app); done); focus rfl) | (apply en_own; focus ((repeat' first | exact Pick.here | apply Pick.skip | apply Pick.app); done); focus rfl) | (apply en_pick; focus ((repeat' first | exact Pick.here | apply Pick.skip | apply Pick.app); done)) | apply en_drop | apply en_app) <;> fail)), fun _ s => s, ?_⟩
    refine RS_e (RE_eff rfl rfl rfl (eff_call rfl (Same_ctr A30 A39 _ _ c30 c39 _ _ _ (Rd.app (Rc.own (flat_length _) hA30)) (Rd.mono (fun h s => en_app (fun _ s => s) h (s.perm List.perm_append_comm)) i3) (Nat.le_trans hsl (by decide)))) ?_); rintro _ _ ⟨rfl, rfl⟩; refine ⟨_, (by first | ((repeat first | exact fun _ s => s | apply en_keep | apply en_drop | apply en_app) <;> fail) | ((repeat first | exact en_refl | (apply en_blk; focus ((repeat' first | exact Pick.here | apply Pick.skip | apply Pick.app); done); focus rfl) | (apply en_own; focus ((repeat' first | exact Pick.here | apply Pick.skip | apply Pick.app); done); focus rfl) | (apply en_pick; focus ((repeat' first | exact Pick.here | apply Pick.skip | apply Pick.app); done)) | apply en_drop | apply en_app) <;> fail)), fun _ s => s, ?_⟩
    refine RS_m retB_noPanic rfl rfl rfl rfl (ev_move rfl) ?_
    refine RS_m_yes retB_noPanic rfl rfl rfl rfl ⟨_, rfl, (by rw [e5]; simp)⟩ rfl (ev_move rfl) ?_
    refine RS_m_yes retB_noPanic rfl rfl rfl rfl ⟨_, rfl, (by rw [e5]; simp)⟩ rfl (ev_move rfl) ?_
    (first | refine RS_m_yes retB_noPanic rfl rfl rfl rfl ⟨_, rfl, (by rw [e5]; simp)⟩ rfl (ev_nilCheck rfl) ?_ | refine RS_m_yes retB_noPanic rfl rfl rfl rfl ⟨_, rfl, (by rw [e5]; simp)⟩ rfl (ev_nilCheckF (by simp) rfl) ?_)
    refine RS_m_yes retB_noPanic rfl rfl rfl rfl ⟨_, rfl, (by rw [e5]; simp)⟩ rfl (ev_fieldAddr rfl) ?_
    refine RS_q_yes retB_noPanic rfl rfl rfl rfl ⟨_, rfl, (by rw [e5]; simp)⟩ rfl (ev_load rfl (by repeat' first | exact Ld.blk rfl | assumption | apply Ld.skip | apply Ld.app)) ?_
    refine RS_q_yes retB_noPanic rfl rfl rfl rfl ⟨_, rfl, (by rw [e5]; simp)⟩ rfl (ev_len rfl) ?_
    refine RS_e (RE_eff_yes rfl rfl rfl ⟨_, rfl, (by rw [e5]; simp)⟩ rfl (eff_call rfl (Ctr.pick (by repeat' first | exact Pick.here | apply Pick.skip | apply Pick.app) (SLen_ctr t 60 l _))) ?_); rintro _ _ ⟨rfl, rfl⟩; refine ⟨_, (by first | ((repeat first | exact fun _ s => s | apply en_keep | apply en_drop | apply en_app) <;> fail) | ((repeat first | exact en_refl | (apply en_blk; focus ((repeat' first | exact Pick.here | apply Pick.skip | apply Pick.app); done); focus rfl) | (apply en_own; focus ((repeat' first | exact Pick.here | apply Pick.skip | apply Pick.app); done); focus rfl) | (apply en_pick; focus ((repeat' first | exact Pick.here | apply Pick.skip | apply Pick.app); done)) | apply en_drop | apply en_app) <;> fail)), fun _ s => s, ?_⟩
    refine RS_m_yes retB_noPanic rfl rfl rfl rfl ⟨_, rfl, (by rw [e5]; simp)⟩ rfl (ev_eql rfl rfl) ?_
    refine RS_m retB_noPanic rfl rfl rfl rfl (ev_pick_t rfl (by rw [e5]; simp) rfl) ?_
    refine RS_m retB_noPanic rfl rfl rfl rfl (ev_move rfl) ?_
    refine RS_e (RE_eff_yes rfl rfl rfl ⟨_, rfl, (by simp)⟩ rfl (eff_call rfl (lives_ctr _)) ?_); rintro _ _ ⟨rfl, X52, rfl⟩; refine ⟨_, (by first | ((repeat first | exact fun _ s => s | apply en_keep | apply en_drop | apply en_app) <;> fail) | ((repeat first | exact en_refl | (apply en_blk; focus ((repeat' first | exact Pick.here | apply Pick.skip | apply Pick.app); done); focus rfl) | (apply en_own; focus ((repeat' first | exact Pick.here | apply Pick.skip | apply Pick.app); done); focus rfl) | (apply en_pick; focus ((repeat' first | exact Pick.here | apply Pick.skip | apply Pick.app); done)) | apply en_drop | apply en_app) <;> fail)), fun _ s => s, ?_⟩
    refine RS_m retB_noPanic rfl rfl rfl rfl (ev_pick_t rfl (by simp) rfl) ?_
    refine RS_m retB_noPanic rfl rfl rfl rfl (ev_assign rfl) ?_
    refine RS_nil ?_
    (repeat first | refine G_seq ?_ | refine G_skip ?_ | refine G_endblk ?_ | refine G_block ?_ | refine G_exit rfl ?_)
    exact G_ret (L' := L) rfl (.tmp rfl .nil) (by (repeat first | exact fun _ s => s | apply en_keep | apply en_drop | apply en_app) <;> fail) ⟨by simp [retv], rfl⟩
end Go.Proofs.Ytalcanejhniepaa
/- Trees that are heaps by Y: looking at nodes, as the law does. -/
namespace Go.Proofs.Ytalcanejhniepaa
attribute [local irreducible] sat
set_option linter.unusedVariables false
set_option linter.unusedSimpArgs false
set_option maxRecDepth 100000

theorem Look_ctr (x : PA) (w : Wn) (L : List HP) (h : PIn L x) : Ctr Try.prog 40 #[.pointer x.addr, .agg #[.int .i64 w.x1, .int .i64 w.x2, .int .i64 w.y]] L fun v L' => LookR (x.hit w) (x.next w) L v L' := by
  refine Ctr_of (fn := Try.f40) (n := 11) Try.func40 rfl rfl rfl ?_
  intro g F
  (repeat first | refine G_seq ?_ | refine G_skip ?_ | refine G_endblk ?_ | refine G_block ?_ | refine G_exit rfl ?_)
  refine G_region ?_
  refine GO_eff rfl rfl (eff_box rfl) ?_; rintro _ _ ⟨b3, rfl, rfl⟩
  refine GO_q rfl rfl (ev_assign rfl) ?_
  refine GO_q rfl rfl (ev_assign rfl) ?_
  refine GO_nil ?_
  (repeat first | refine G_seq ?_ | refine G_skip ?_ | refine G_endblk ?_ | refine G_block ?_ | refine G_exit rfl ?_)
  refine G_region ?_
  refine GO_q rfl rfl (ev_move rfl) ?_
  refine GO_q rfl rfl (ev_loadN rfl (by repeat' first | exact LdN.blk rfl | assumption | apply LdN.skip | apply LdN.app)) ?_
  refine GO_eff rfl rfl (eff_call rfl (look_ctr x w _ h.skip.skip)) ?_; rintro _ _ ⟨A8, c8, rfl, hA8, rfl⟩
  refine GO_q rfl rfl (ev_extract rfl rfl) ?_
  refine GO_q rfl rfl (ev_extract rfl rfl) ?_
  refine GO_q rfl rfl (ev_assign rfl) ?_
  refine GO_q rfl rfl (ev_assign rfl) ?_
  refine GO_nil ?_
  (repeat first | refine G_seq ?_ | refine G_skip ?_ | refine G_endblk ?_ | refine G_block ?_ | refine G_exit rfl ?_)
  exact G_ret (L' := own 67 1 A8 (x.next w).length c8 (flat (addrs (x.next w))) :: L) rfl (.tmp rfl (.tmp rfl .nil)) (by (repeat first | exact en_refl | (apply en_blk; focus ((repeat' first | exact Pick.here | apply Pick.skip | apply Pick.app); done); focus rfl) | (apply en_own; focus ((repeat' first | exact Pick.here | apply Pick.skip | apply Pick.app); done); focus rfl) | (apply en_pick; focus ((repeat' first | exact Pick.here | apply Pick.skip | apply Pick.app); done)) | apply en_drop | apply en_app) <;> fail) ⟨A8, c8, rfl, hA8, rfl⟩
def PA.pt : PA → Pt
  | .nil => ⟨0, 0, 0⟩
  | .node _ p _ _ _ => p
theorem NPoint_ctr (x : PA) (L : List HP) (h : PIn L x) : Ctr Try.prog 41 #[.pointer x.addr] L fun v L' => v = x.pt.v ∧ L' = L := by
  cases x with
  | nil =>
    refine Ctr_of (fn := Try.f41) (n := 10) Try.func41 rfl rfl rfl ?_
    intro g F
    (repeat first | refine G_seq ?_ | refine G_skip ?_ | refine G_endblk ?_ | refine G_block ?_ | refine G_exit rfl ?_)
    refine G_region ?_
    refine GO_eff rfl rfl eff_alloc ?_; rintro _ _ ⟨b2, rfl, rfl⟩
    refine GO_nil ?_
    (repeat first | refine G_seq ?_ | refine G_skip ?_ | refine G_endblk ?_ | refine G_block ?_ | refine G_exit rfl ?_)
    refine G_region ?_
    refine GO_q rfl rfl (ev_move rfl) ?_
    (first | refine GO_q rfl rfl (ev_eqlNil rfl rfl) ?_ | refine GO_q rfl rfl (ev_eqlPtr rfl rfl) ?_)
    refine GO_nil ?_
    (repeat first | refine G_seq ?_ | refine G_skip ?_ | refine G_endblk ?_ | refine G_block ?_ | refine G_exit rfl ?_)
    refine G_cond_t rfl rfl ?_
    (repeat first | refine G_seq ?_ | refine G_skip ?_ | refine G_endblk ?_ | refine G_block ?_ | refine G_exit rfl ?_)
    refine G_region ?_
    refine GO_q rfl rfl (ev_build rfl rfl) ?_
    refine GO_eff rfl rfl (eff_storeN rfl rfl rfl rfl (by repeat' first | exact Upd.here rfl | apply Upd.skip | apply Upd.app)) ?_; rintro _ _ ⟨rfl, rfl⟩
    refine GO_nil ?_
    (repeat first | refine G_seq ?_ | refine G_skip ?_ | refine G_endblk ?_ | refine G_block ?_ | refine G_exit rfl ?_)
    refine G_ret rfl (.cell rfl (loadN_run (by repeat' first | exact LdN.blk rfl | assumption | apply LdN.skip | apply LdN.app)) .nil) (by (repeat first | exact fun _ s => s | apply en_keep | apply en_drop | apply en_app) <;> fail) ⟨rfl, rfl⟩
  | node b p s lo hi =>
    obtain ⟨q1, q2, q3, q4, q5, q6, q7, q8, q9⟩ := h.f
    refine Ctr_of (fn := Try.f41) (n := 10) Try.func41 rfl rfl rfl ?_
    intro g F
    (repeat first | refine G_seq ?_ | refine G_skip ?_ | refine G_endblk ?_ | refine G_block ?_ | refine G_exit rfl ?_)
    refine G_region ?_
    refine GO_eff rfl rfl eff_alloc ?_; rintro _ _ ⟨b2, rfl, rfl⟩
    refine GO_nil ?_
    (repeat first | refine G_seq ?_ | refine G_skip ?_ | refine G_endblk ?_ | refine G_block ?_ | refine G_exit rfl ?_)
    refine G_region ?_
    refine GO_q rfl rfl (ev_move rfl) ?_
    (first | refine GO_q rfl rfl (ev_eqlNil rfl rfl) ?_ | refine GO_q rfl rfl (ev_eqlPtr rfl rfl) ?_)
    refine GO_nil ?_
    (repeat first | refine G_seq ?_ | refine G_skip ?_ | refine G_endblk ?_ | refine G_block ?_ | refine G_exit rfl ?_)
    refine G_cond_f rfl rfl ?_
    (repeat first | refine G_seq ?_ | refine G_skip ?_ | refine G_endblk ?_ | refine G_block ?_ | refine G_exit rfl ?_)
    refine G_region ?_
    refine GO_q rfl rfl (ev_move rfl) ?_
    (first | refine GO_q rfl rfl (ev_nilCheck rfl) ?_ | refine GO_q rfl rfl (ev_nilCheckF (by simp) rfl) ?_)
    refine GO_q rfl rfl (ev_fieldAddr rfl) ?_
    refine GO_q rfl rfl (ev_loadN rfl (by repeat' first | exact LdN.blk rfl | assumption | apply LdN.skip | apply LdN.app)) ?_
    refine GO_eff rfl rfl (eff_storeN rfl rfl rfl rfl (by repeat' first | exact Upd.here rfl | apply Upd.skip | apply Upd.app)) ?_; rintro _ _ ⟨rfl, rfl⟩
    refine GO_nil ?_
    (repeat first | refine G_seq ?_ | refine G_skip ?_ | refine G_endblk ?_ | refine G_block ?_ | refine G_exit rfl ?_)
    refine G_ret rfl (.cell rfl (loadN_run (by repeat' first | exact LdN.blk rfl | assumption | apply LdN.skip | apply LdN.app)) .nil) (by (repeat first | exact fun _ s => s | apply en_keep | apply en_drop | apply en_app) <;> fail) ⟨rfl, rfl⟩
/-- At how many nodes one looks. -/
def PA.cnt (w : Wn) : PA → Nat
  | .nil => 1
  | .node _ p s lo hi => 1 + if p.y < w.y then 0 else (if !lo.isN && decide (w.x1 ≤ s.x) then lo.cnt w else 0) + (if !hi.isN && decide (s.x ≤ w.x2) then hi.cnt w else 0)
def cntL (w : Wn) (l : List PA) : Nat := (l.map (PA.cnt w)).sum
theorem cntL_app (w : Wn) (l m : List PA) : cntL w (l ++ m) = cntL w l + cntL w m := by simp [cntL]
theorem PA.cnt_eq (w : Wn) (x : PA) : x.cnt w = 1 + cntL w (x.next w) := by
  cases x with
  | nil => rfl
  | node b p s lo hi =>
    unfold PA.cnt PA.next
    rw [cntL_app]
    simp only [PA.next1, PA.next2]
    by_cases h : p.y < w.y
    · simp [h, cntL]
    · rw [if_neg h, if_neg h, if_neg h]
      congr 2 <;> split <;> simp [cntL]
theorem PA.cnt_size (w : Wn) : ∀ x : PA, x.isN = false → x.cnt w ≤ x.t.size
  | .nil, h => by cases h
  | .node b p s lo hi, _ => by
    have h1 := PA.cnt_size w lo
    have h2 := PA.cnt_size w hi
    simp only [PA.cnt, PA.t, PT.size]
    split
    · omega
    · have e1 : (if !lo.isN && decide (w.x1 ≤ s.x) then lo.cnt w else 0) ≤ lo.t.size := by
        cases hn : lo.isN with
        | true => simp
        | false => have := h1 hn; split <;> omega
      have e2 : (if !hi.isN && decide (s.x ≤ w.x2) then hi.cnt w else 0) ≤ hi.t.size := by
        cases hn : hi.isN with
        | true => simp
        | false => have := h2 hn; split <;> omega
      omega
theorem seenL_cons (w : Wn) (x : PA) (l : List PA) : seenL w (x :: l) = x.seen w ++ seenL w l := by simp [seenL]
theorem seenL_app (w : Wn) (l m : List PA) : seenL w (l ++ m) = seenL w l ++ seenL w m := by simp [seenL]
structure Kid (x y : PA) : Prop where
  nn : y.isN = false
  ok : x.t.Ok → y.t.Ok
  lt : y.t.size < x.t.size
  dp : y.t.depth + 1 ≤ x.t.depth
  un : x.t.Ok → und y.pt x.pt = true
theorem next_kid (w : Wn) (x : PA) : ∀ y ∈ x.next w, Kid x y := by
  cases x with
  | nil => intro y hy; cases hy
  | node b p s lo hi =>
    intro y hy
    simp only [PA.next, PA.next1, PA.next2, List.mem_append] at hy
    by_cases h : p.y < w.y
    · simp [h] at hy
    · rw [if_neg h, if_neg h] at hy
      rcases hy with hy | hy
      · split at hy
        · rename_i hc
          rw [List.mem_singleton] at hy
          subst hy
          cases y with
          | nil => simp [PA.isN] at hc
          | node b' p' s' lo' hi' =>
            exact ⟨rfl, fun o => o.1, by simp only [PA.t, PT.size]; omega, by simp only [PA.t, PT.depth]; omega, fun o => o.2.2.2.2 p' (List.mem_append.2 (.inl (List.mem_cons_self ..)))⟩
        · cases hy
      · split at hy
        · rename_i hc
          rw [List.mem_singleton] at hy
          subst hy
          cases y with
          | nil => simp [PA.isN] at hc
          | node b' p' s' lo' hi' =>
            exact ⟨rfl, fun o => o.2.1, by simp only [PA.t, PT.size]; omega, by simp only [PA.t, PT.depth]; omega, fun o => o.2.2.2.2 p' (List.mem_append.2 (.inr (List.mem_cons_self ..)))⟩
        · cases hy
theorem next_len (w : Wn) (x : PA) : (x.next w).length ≤ 2 := by
  cases x with
  | nil => simp [PA.next, PA.next1, PA.next2]
  | node b p s lo hi =>
    simp only [PA.next, PA.next1, PA.next2, List.length_append]
    repeat' split
    all_goals simp
def LooksR (l : List Int) (k : Nat) (L : List HP) (v : Value) (L' : List HP) : Prop := ∃ A c, v = .tuple #[.slice A l.length c, .int .i64 (k : Nat), .bool true] ∧ (0 < l.length → ∃ b, A = some ⟨b, 0, none⟩) ∧ L' = own 3 1 A l.length c (flat l) :: L
theorem RLooks_ctr : ∀ (N : Nat) (x : PA) (w : Wn) (deep : Nat) (A : Option Addr) (c : Nat) (out : List Int) (L : List HP), x.t.size = N → x.isN = false → PIn L x → x.t.Ok → deep + x.t.depth ≤ 81 → out.length + (x.seen w).length ≤ 1000 → x.t.size ≤ 1000 → (0 < out.length → ∃ b, A = some ⟨b, 0, none⟩) →
    Ctr Try.prog 35 #[.pointer x.addr, .agg #[.int .i64 w.x1, .int .i64 w.x2, .int .i64 w.y], .int .i64 (deep : Nat), .slice A out.length c] (own 3 1 A out.length c (flat out) :: L) fun v L' => LooksR (out ++ x.seen w) (x.cnt w) L v L' := by
  intro N
  induction N using Nat.strongRecOn with
  | _ N ih =>
    intro x w deep A c out L hN hnn hin hok hdeep hout hsize hA
    cases x with
    | nil => cases hnn
    | node b p s lo hi =>
      have hd1 : 1 ≤ (PA.node b p s lo hi).t.depth := by simp only [PA.t, PT.depth]; omega
      have hkid := next_kid w (PA.node b p s lo hi)
      have hinn := next_in w hin
      have hcnt := PA.cnt_eq w (PA.node b p s lo hi)
      have hcs := PA.cnt_size w (PA.node b p s lo hi) rfl
      have hse := (PA.node b p s lo hi).seen_eq w
      have hsl := (PA.node b p s lo hi).seen_len w
      have hnl := next_len w (PA.node b p s lo hi)
      have hhit : (PA.node b p s lo hi).hit w = w.sees p.x p.y := rfl
      have hxin := hin
      generalize hx : PA.node b p s lo hi = x at *
      have hpt : x.pt = p := by subst hx; rfl
      have hid : x.id = p.id := by subst hx; rfl
      refine Ctr_of (fn := Try.f35) (n := 108) Try.func35 rfl rfl rfl ?_
      intro g F
      (repeat first | refine G_seq ?_ | refine G_skip ?_ | refine G_endblk ?_ | refine G_block ?_ | refine G_exit rfl ?_)
      refine G_region ?_
      refine GO_eff rfl rfl (eff_box rfl) ?_; rintro _ _ ⟨b5, rfl, rfl⟩
      refine GO_q rfl rfl (ev_assign rfl) ?_
      refine GO_q rfl rfl (ev_assign rfl) ?_
      refine GO_q rfl rfl (ev_assign rfl) ?_
      refine GO_nil ?_
      (repeat first | refine G_seq ?_ | refine G_skip ?_ | refine G_endblk ?_ | refine G_block ?_ | refine G_exit rfl ?_)
      refine G_region ?_
      refine GO_q rfl rfl (ev_move rfl) ?_
      refine GO_q rfl rfl (ev_gtr rfl rfl) ?_
      refine GO_nil ?_
      (repeat first | refine G_seq ?_ | refine G_skip ?_ | refine G_endblk ?_ | refine G_block ?_ | refine G_exit rfl ?_)
      refine G_cond_f rfl (decide_eq_false (by omega)) ?_
      (repeat first | refine G_seq ?_ | refine G_skip ?_ | refine G_endblk ?_ | refine G_block ?_ | refine G_exit rfl ?_)
      refine G_region ?_
      refine GO_q rfl rfl (ev_move rfl) ?_
      refine GO_q rfl rfl (ev_loadN rfl (by repeat' first | exact LdN.blk rfl | assumption | apply LdN.skip | apply LdN.app)) ?_
      refine GO_eff rfl rfl (eff_call rfl (Look_ctr x w _ hin.skip.skip.skip)) ?_; rintro _ _ ⟨A25, c25, rfl, hA25, rfl⟩
      refine GO_q rfl rfl (ev_move rfl) ?_
      refine GO_q rfl rfl (ev_extract rfl rfl) ?_
      refine GO_q rfl rfl (ev_extract rfl rfl) ?_
      refine GO_q rfl rfl (ev_assign rfl) ?_
      refine GO_q rfl rfl (ev_assign rfl) ?_
      refine GO_nil ?_
      (repeat first | refine G_seq ?_ | refine G_skip ?_ | refine G_endblk ?_ | refine G_block ?_ | refine G_exit rfl ?_)
      refine G_region ?_
      refine GO_q rfl rfl (ev_move rfl) ?_
      refine GO_eff rfl rfl (eff_call rfl (NPoint_ctr x _ hin.skip.skip.skip.skip)) ?_; rintro _ _ ⟨rfl, rfl⟩
      refine GO_eff rfl rfl eff_alloc ?_; rintro _ _ ⟨b13, rfl, rfl⟩
      refine GO_eff rfl rfl (eff_storeN rfl rfl rfl rfl (by repeat' first | exact Upd.here rfl | apply Upd.skip | apply Upd.app)) ?_; rintro _ _ ⟨rfl, rfl⟩
      refine GO_nil ?_
      rw [hpt]
      generalize hnx : x.next w = nx at *
      (repeat first | refine G_seq ?_ | refine G_skip ?_ | refine G_endblk ?_ | refine G_block ?_ | refine G_exit rfl ?_)
      refine G_region ?_
      refine GO_q rfl rfl (ev_move rfl) ?_
      refine GO_nil ?_
      (repeat first | refine G_seq ?_ | refine G_skip ?_ | refine G_endblk ?_)
      refine G_cut (ι := Option Addr × Nat × List Int) (fun y => [(0, .pointer x.addr), (2, .int .i64 (deep : Nat)), (3, .slice y.1 y.2.2.length y.2.1), (5, .pointer (some ⟨b5, 0, none⟩)), (11, .bool (x.hit w)), (12, .slice A25 nx.length c25), (13, .pointer (some ⟨b13, 0, none⟩))]) (fun y => own 3 1 y.1 y.2.2.length y.2.1 (flat y.2.2) :: own 67 1 A25 nx.length c25 (flat (addrs nx)) :: blk b13 39 [.int .i64 p.id, .int .i64 p.x, .int .i64 p.y] :: blk b5 45 [.int .i64 w.x1, .int .i64 w.x2, .int .i64 w.y] :: F :: L)
        (fun y => y.2.2 = out ++ (if x.hit w then [x.id] else []) ∧ (0 < y.2.2.length → ∃ b, y.1 = some ⟨b, 0, none⟩)) ?_ ?_
      · cases hh : x.hit w with
        | true =>
          (repeat first | refine G_seq ?_ | refine G_skip ?_ | refine G_endblk ?_ | refine G_block ?_ | refine G_exit rfl ?_)
          refine G_cond_t rfl rfl ?_
          (repeat first | refine G_seq ?_ | refine G_skip ?_ | refine G_endblk ?_ | refine G_block ?_ | refine G_exit rfl ?_)
          refine G_region ?_
          refine GO_q rfl rfl (ev_move rfl) ?_
          refine GO_q rfl rfl (ev_fieldAddr rfl) ?_
          refine GO_q rfl rfl (ev_load rfl (by repeat' first | exact Ld.blk rfl | assumption | apply Ld.skip | apply Ld.app)) ?_
          refine GO_eff rfl rfl (eff_buildSlice1 (by rfl) rfl rfl) ?_; rintro _ _ ⟨b34, rfl, rfl⟩
          refine GO_eff rfl rfl (eff_append rfl rfl (by repeat' first | exact Pick.here | apply Pick.skip) (by repeat' first | exact Rc.blk rfl | assumption | apply Rc.skip) (one_all rfl) (by rfl) (by decide) (by first | omega | (simp; done) | (simp; omega)) (by first | omega | (simp; done) | (simp; omega))) ?_; rintro _ _ ⟨A35, c35, rfl, hc35, hm35, hn35, rfl⟩
          refine GO_q rfl rfl (ev_assign rfl) ?_
          refine GO_nil ?_
          (repeat first | refine G_seq ?_ | refine G_skip ?_ | refine G_endblk ?_ | refine G_block ?_ | refine G_exit rfl ?_)
          refine G_inv (A35, c35, out ++ [p.id]) ⟨by simp [hid], fun _ => hn35 (by omega)⟩ ⟨rfl, rfl, by simp only [List.length_append, List.length_singleton]; rfl, rfl, rfl, rfl, rfl, trivial⟩ ?_
          simp only [List.length_append, List.length_singleton]
          rw [← flat_snoc]
          exact (by (repeat first | exact en_refl | (apply en_blk; focus ((repeat' first | exact Pick.here | apply Pick.skip | apply Pick.app); done); focus rfl) | (apply en_own; focus ((repeat' first | exact Pick.here | apply Pick.skip | apply Pick.app); done); focus rfl) | (apply en_pick; focus ((repeat' first | exact Pick.here | apply Pick.skip | apply Pick.app); done)) | apply en_drop | apply en_app) <;> fail)
        | false =>
          (repeat first | refine G_seq ?_ | refine G_skip ?_ | refine G_endblk ?_ | refine G_block ?_ | refine G_exit rfl ?_)
          refine G_cond_f rfl rfl ?_
          (repeat first | refine G_seq ?_ | refine G_skip ?_ | refine G_endblk ?_ | refine G_block ?_ | refine G_exit rfl ?_)
          exact G_inv (A, c, out) ⟨by simp, hA⟩ ⟨rfl, rfl, rfl, rfl, rfl, rfl, rfl, trivial⟩ (by (repeat first | exact en_refl | (apply en_blk; focus ((repeat' first | exact Pick.here | apply Pick.skip | apply Pick.app); done); focus rfl) | (apply en_own; focus ((repeat' first | exact Pick.here | apply Pick.skip | apply Pick.app); done); focus rfl) | (apply en_pick; focus ((repeat' first | exact Pick.here | apply Pick.skip | apply Pick.app); done)) | apply en_drop | apply en_app) <;> fail)
      · rintro ⟨A1, c1, o1⟩ ⟨f1, f2⟩
        simp only at f1 f2
        dsimp only
        have ho1 : o1.length ≤ out.length + 1 := by rw [f1, List.length_append]; split <;> simp
        (repeat first | refine G_seq ?_ | refine G_skip ?_ | refine G_endblk ?_ | refine G_block ?_ | refine G_exit rfl ?_)
        refine G_region ?_
        refine GO_q rfl rfl (ev_assign rfl) ?_
        refine GO_nil ?_
        (repeat first | refine G_seq ?_ | refine G_skip ?_ | refine G_endblk ?_ | refine G_block ?_ | refine G_exit rfl ?_)
        refine G_region ?_
        refine GO_q rfl rfl (ev_assign rfl) ?_
        refine GO_nil ?_
        (repeat first | refine G_seq ?_ | refine G_skip ?_ | refine G_endblk ?_ | refine G_block ?_ | refine G_exit rfl ?_)
        refine G_loop (ι := Nat × Option Addr × Nat × List Int) (fun y => [(0, .pointer x.addr), (2, .int .i64 (deep : Nat)), (3, .slice y.2.1 y.2.2.2.length y.2.2.1), (5, .pointer (some ⟨b5, 0, none⟩)), (11, .bool (x.hit w)), (12, .slice A25 nx.length c25), (13, .pointer (some ⟨b13, 0, none⟩)), (14, .int .i64 ((1 + cntL w (nx.take y.1) : Nat) : Int)), (15, .int .i64 (y.1 : Nat))]) (fun y => own 3 1 y.2.1 y.2.2.2.length y.2.2.1 (flat y.2.2.2) :: own 67 1 A25 nx.length c25 (flat (addrs nx)) :: blk b13 39 [.int .i64 p.id, .int .i64 p.x, .int .i64 p.y] :: blk b5 45 [.int .i64 w.x1, .int .i64 w.x2, .int .i64 w.y] :: F :: L)
          (fun y => y.1 ≤ nx.length ∧ y.2.2.2 = o1 ++ seenL w (nx.take y.1) ∧ (0 < y.2.2.2.length → ∃ b, y.2.1 = some ⟨b, 0, none⟩)) (fun y => nx.length - y.1) (0, A1, c1, o1) ⟨Nat.zero_le _, by simp [seenL], f2⟩ ⟨rfl, rfl, rfl, rfl, rfl, rfl, rfl, rfl, rfl, trivial⟩ (by (repeat first | exact en_refl | (apply en_blk; focus ((repeat' first | exact Pick.here | apply Pick.skip | apply Pick.app); done); focus rfl) | (apply en_own; focus ((repeat' first | exact Pick.here | apply Pick.skip | apply Pick.app); done); focus rfl) | (apply en_pick; focus ((repeat' first | exact Pick.here | apply Pick.skip | apply Pick.app); done)) | apply en_drop | apply en_app) <;> fail) ?_
        rintro ⟨k, A2, c2, o2⟩ ⟨g1, g2, g3⟩
        simp only at g1 g2 g3
        dsimp only
        (repeat first | refine G_seq ?_ | refine G_skip ?_ | refine G_endblk ?_ | refine G_block ?_ | refine G_exit rfl ?_)
        refine G_region ?_
        refine GO_q rfl rfl (ev_move rfl) ?_
        refine GO_q rfl rfl (ev_move rfl) ?_
        refine GO_q rfl rfl (ev_len rfl) ?_
        (first | refine GO_q rfl rfl (ev_lssN rfl rfl) ?_ | refine GO_q rfl rfl (ev_lss rfl rfl) ?_)
        refine GO_nil ?_
        (repeat first | refine G_seq ?_ | refine G_skip ?_ | refine G_endblk ?_ | refine G_block ?_ | refine G_exit rfl ?_)
        refine G_cond rfl (fun h4 => ?_) (fun h4 => ?_)
        · have hr : ∀ L', Rd (own 67 1 A25 nx.length c25 (flat (addrs nx)) :: L') A25 nx.length (addrs nx) := fun L' => Rc.own (by rw [flat_length, addrs_len]; rfl) hA25
          obtain ⟨nb, rfl⟩ := hA25 (by omega)
          have k1 : nx[k]? = some nx[k] := List.getElem?_eq_getElem (by omega)
          have k2 : (addrs nx)[k]? = some nx[k].addr := by simp [addrs, k1]
          have k3 : ∀ L', Ld (own 67 1 (some ⟨nb, 0, none⟩) nx.length c25 (flat (addrs nx)) :: L') ⟨nb, 0 + k * 1, none⟩ (.pointer nx[k].addr) := fun L' => by
            obtain ⟨_, _, e9, hx9⟩ := (hr L').at_ (by omega)
            cases e9
            exact (hx9 _ _ k2).at_ (i := 0) rfl
          have hy := hkid nx[k] (List.getElem_mem _)
          have hyin := hinn nx[k] (List.getElem_mem _)
          have hse2 := seenL_take w nx k _ k1
          have hct : cntL w (nx.take (k + 1)) = cntL w (nx.take k) + nx[k].cnt w := by
            rw [List.take_succ_eq_append_getElem (by omega), cntL_app]; simp [cntL]
          have hle : cntL w (nx.take (k + 1)) ≤ cntL w nx := by
            conv => rhs; rw [← List.take_append_drop (k + 1) nx]
            rw [cntL_app]; omega
          have hsle : (seenL w (nx.take (k + 1))).length ≤ (seenL w nx).length := by
            conv => rhs; rw [← List.take_append_drop (k + 1) nx]
            rw [seenL_app, List.length_append]; omega
          have hsum : o1.length + (seenL w nx).length = out.length + (x.seen w).length := by
            rw [hse, f1, List.length_append, List.length_append]; omega
          have hcy := PA.cnt_size w nx[k] hy.nn
          generalize nx[k] = y at *
          have ho2 : o2.length + (y.seen w).length ≤ out.length + (x.seen w).length := by
            rw [hse2, List.length_append] at hsle
            rw [g2, List.length_append]; omega
          have hylt := hy.lt
          have hyd := hy.dp
          have hun := hy.un hok
          rw [hpt] at hun
          have hth : decide (0 ≤ three y.pt.y y.pt.x y.pt.id p.y p.x p.id) = false := decide_eq_false (by
            rw [three_up]
            unfold und at hun
            have := of_decide_eq_true hun
            omega)
          have hysz : y.t.size ≤ 1000 := by omega
          (repeat first | refine G_seq ?_ | refine G_skip ?_ | refine G_endblk ?_ | refine G_block ?_ | refine G_exit rfl ?_)
          refine G_region ?_
          refine GO_q rfl rfl (ev_move rfl) ?_
          refine GO_q rfl rfl (ev_move rfl) ?_
          (first | refine GO_q rfl rfl (ev_indexAddrN rfl rfl (by first | omega | (simp; done) | (simp; omega))) ?_ | refine GO_q rfl rfl (ev_indexAddr rfl rfl (by first | omega | (simp; done) | (simp; omega)) (by first | omega | (simp; done) | (simp; omega))) ?_)
          refine GO_q rfl rfl (ev_load rfl (by repeat' first | exact k3 _ | apply Ld.skip)) ?_
          refine GO_eff rfl rfl (eff_call rfl (NPoint_ctr y _ (by repeat' first | exact hyin | apply PIn.skip))) ?_; rintro _ _ ⟨rfl, rfl⟩
          refine GO_eff rfl rfl eff_alloc ?_; rintro _ _ ⟨b16, rfl, rfl⟩
          refine GO_eff rfl rfl (eff_storeN rfl rfl rfl rfl (by repeat' first | exact Upd.here rfl | apply Upd.skip | apply Upd.app)) ?_; rintro _ _ ⟨rfl, rfl⟩
          refine GO_nil ?_
          (repeat first | refine G_seq ?_ | refine G_skip ?_ | refine G_endblk ?_ | refine G_block ?_ | refine G_exit rfl ?_)
          refine G_region ?_
          refine GO_q rfl rfl (ev_fieldAddr rfl) ?_
          refine GO_q rfl rfl (ev_load rfl (by repeat' first | exact Ld.blk rfl | assumption | apply Ld.skip | apply Ld.app)) ?_
          refine GO_q rfl rfl (ev_fieldAddr rfl) ?_
          refine GO_q rfl rfl (ev_load rfl (by repeat' first | exact Ld.blk rfl | assumption | apply Ld.skip | apply Ld.app)) ?_
          refine GO_q rfl rfl (ev_fieldAddr rfl) ?_
          refine GO_q rfl rfl (ev_load rfl (by repeat' first | exact Ld.blk rfl | assumption | apply Ld.skip | apply Ld.app)) ?_
          refine GO_q rfl rfl (ev_buildA rfl rfl) ?_
          refine GO_q rfl rfl (ev_fieldAddr rfl) ?_
          refine GO_q rfl rfl (ev_load rfl (by repeat' first | exact Ld.blk rfl | assumption | apply Ld.skip | apply Ld.app)) ?_
          refine GO_q rfl rfl (ev_fieldAddr rfl) ?_
          refine GO_q rfl rfl (ev_load rfl (by repeat' first | exact Ld.blk rfl | assumption | apply Ld.skip | apply Ld.app)) ?_
          refine GO_q rfl rfl (ev_fieldAddr rfl) ?_
          refine GO_q rfl rfl (ev_load rfl (by repeat' first | exact Ld.blk rfl | assumption | apply Ld.skip | apply Ld.app)) ?_
          refine GO_q rfl rfl (ev_buildA rfl rfl) ?_
          refine GO_eff rfl rfl (eff_call rfl (Three_ctr y.pt.y y.pt.x y.pt.id p.y p.x p.id _)) ?_; rintro _ _ ⟨rfl, rfl⟩
          refine GO_q rfl rfl (ev_geq rfl rfl) ?_
          refine GO_q rfl rfl (ev_move rfl) ?_
          refine GO_yes rfl rfl rfl hth ?_
          refine GO_q rfl rfl (ev_move rfl) ?_
          refine GO_yes rfl rfl rfl hth ?_
          refine GO_q rfl rfl (ev_move rfl) ?_
          refine GO_yes rfl rfl rfl hth ?_
          (first | refine GO_q rfl rfl (ev_indexAddrN rfl rfl (by first | omega | (simp; done) | (simp; omega))) ?_ | refine GO_q rfl rfl (ev_indexAddr rfl rfl (by first | omega | (simp; done) | (simp; omega)) (by first | omega | (simp; done) | (simp; omega))) ?_)
          refine GO_yes rfl rfl rfl hth ?_
          refine GO_q rfl rfl (ev_load rfl (by repeat' first | exact k3 _ | apply Ld.skip)) ?_
          refine GO_yes rfl rfl rfl hth ?_
          refine GO_eff rfl rfl (eff_call rfl (Size_ctr y _ (by repeat' first | exact hyin | apply PIn.skip))) ?_; rintro _ _ ⟨rfl, rfl⟩
          refine GO_yes rfl rfl rfl hth ?_
          refine GO_q rfl rfl (ev_move rfl) ?_
          refine GO_yes rfl rfl rfl hth ?_
          refine GO_eff rfl rfl (eff_call rfl (Size_ctr x _ (by repeat' first | exact hxin | apply PIn.skip))) ?_; rintro _ _ ⟨rfl, rfl⟩
          refine GO_yes rfl rfl rfl hth ?_
          refine GO_q rfl rfl (ev_geq rfl rfl) ?_
          refine GO_q rfl rfl (ev_pick_f rfl hth rfl) ?_
          refine GO_nil ?_
          (repeat first | refine G_seq ?_ | refine G_skip ?_ | refine G_endblk ?_ | refine G_block ?_ | refine G_exit rfl ?_)
          refine G_cond_f rfl (decide_eq_false (by omega)) ?_
          (repeat first | refine G_seq ?_ | refine G_skip ?_ | refine G_endblk ?_ | refine G_block ?_ | refine G_exit rfl ?_)
          refine G_region ?_
          refine GO_q rfl rfl (ev_assign rfl) ?_
          refine GO_q rfl rfl (ev_assign rfl) ?_
          refine GO_nil ?_
          (repeat first | refine G_seq ?_ | refine G_skip ?_ | refine G_endblk ?_ | refine G_block ?_ | refine G_exit rfl ?_)
          refine G_drawE 1 (.q 0 (.q 1 (.q 2 (.q 3 (.q 4 (.q 5 (.q 6 (.q 7 (.e 8 (.q 9 (.q 10 (.q 11 (.q 12 (.q 13 (.q 14 (.q 15 .nil)))))))))))))))) (by kernel_rfl) (by kernel_rfl) ?_
          refine RS_m retB_noPanic rfl rfl rfl rfl (ev_move rfl) ?_
          refine RS_m retB_noPanic rfl rfl rfl rfl (ev_move rfl) ?_
          (first | refine RS_m retB_noPanic rfl rfl rfl rfl (ev_indexAddrN rfl rfl (by first | omega | (simp; done) | (simp; omega))) ?_ | refine RS_m retB_noPanic rfl rfl rfl rfl (ev_indexAddr rfl rfl (by first | omega | (simp; done) | (simp; omega)) (by first | omega | (simp; done) | (simp; omega))) ?_)
          refine RS_q retB_noPanic rfl rfl rfl rfl (ev_load rfl (by repeat' first | exact k3 _ | apply Ld.skip)) ?_
          refine RS_q retB_noPanic rfl rfl rfl rfl (ev_loadN rfl (by repeat' first | exact LdN.blk rfl | assumption | apply LdN.skip | apply LdN.app)) ?_
          refine RS_m retB_noPanic rfl rfl rfl rfl (ev_move rfl) ?_
          (first | refine RS_m retB_noPanic rfl rfl rfl rfl (ev_addN (q := 1) rfl rfl (by first | omega | (simp; done) | (simp; omega))) ?_ | refine RS_m retB_noPanic rfl rfl rfl rfl (ev_add rfl rfl (by first | omega | (simp; done) | (simp; omega))) ?_)
          refine RS_m retB_noPanic rfl rfl rfl rfl (ev_move rfl) ?_
          refine RS_e (RE_cmp (by kernel_rfl) rfl rfl rfl (eff_call rfl (Ctr.pick (by repeat' first | exact Pick.here | apply Pick.skip | apply Pick.app) (ih y.t.size (by omega) y w (deep + 1) A2 c2 o2 _ rfl hy.nn (by repeat' first | exact hyin | apply PIn.skip) (hy.ok hok) (by omega) (by omega) hysz g3))) ?_); rintro _ _ ⟨A83, c83, rfl, hA83, rfl⟩
          refine RS_m retB_noPanic rfl rfl rfl rfl (ev_move rfl) ?_
          refine RS_m retB_noPanic rfl rfl rfl rfl (ev_extract rfl rfl) ?_
          refine RS_m retB_noPanic rfl rfl rfl rfl (ev_extract rfl rfl) ?_
          refine RS_m retB_noPanic rfl rfl rfl rfl (ev_extract rfl rfl) ?_
          refine RS_m retB_noPanic rfl rfl rfl rfl (ev_assign rfl) ?_
          refine RS_m retB_noPanic rfl rfl rfl rfl (ev_assign rfl) ?_
          refine RS_m retB_noPanic rfl rfl rfl rfl (ev_assign rfl) ?_
          refine RS_nil ?_
          (repeat first | refine G_seq ?_ | refine G_skip ?_ | refine G_endblk ?_ | refine G_block ?_ | refine G_exit rfl ?_)
          refine G_region ?_
          refine GO_q rfl rfl (ev_move rfl) ?_
          refine GO_q rfl rfl (ev_not rfl) ?_
          refine GO_nil ?_
          (repeat first | refine G_seq ?_ | refine G_skip ?_ | refine G_endblk ?_ | refine G_block ?_ | refine G_exit rfl ?_)
          refine G_cond_f rfl rfl ?_
          (repeat first | refine G_seq ?_ | refine G_skip ?_ | refine G_endblk ?_ | refine G_block ?_ | refine G_exit rfl ?_)
          refine G_region ?_
          refine GO_q rfl rfl (ev_move rfl) ?_
          refine GO_q rfl rfl (ev_move rfl) ?_
          (first | refine GO_q rfl rfl (ev_addN rfl rfl (by first | omega | (simp; done) | (simp; omega))) ?_ | refine GO_q rfl rfl (ev_add rfl rfl (by first | omega | (simp; done) | (simp; omega))) ?_)
          refine GO_q rfl rfl (ev_assign rfl) ?_
          refine GO_nil ?_
          (repeat first | refine G_seq ?_ | refine G_skip ?_ | refine G_endblk ?_ | refine G_block ?_ | refine G_exit rfl ?_)
          refine G_region ?_
          refine GO_q rfl rfl (ev_move rfl) ?_
          (first | refine GO_q rfl rfl (ev_addN (q := 1) rfl rfl (by first | omega | (simp; done) | (simp; omega))) ?_ | refine GO_q rfl rfl (ev_add rfl rfl (by first | omega | (simp; done) | (simp; omega))) ?_)
          refine GO_q rfl rfl (ev_assign rfl) ?_
          refine GO_nil ?_
          (repeat first | refine G_seq ?_ | refine G_skip ?_ | refine G_endblk ?_ | refine G_block ?_ | refine G_exit rfl ?_)
          refine G_round (k + 1, A83, c83, o2 ++ y.seen w) ⟨by simp only; omega, by simp only; rw [g2, hse2, List.append_assoc], hA83⟩ (by simp only; omega) ⟨rfl, rfl, rfl, rfl, rfl, rfl, rfl, ?_, rfl, trivial⟩ (by (repeat first | exact en_refl | (apply en_blk; focus ((repeat' first | exact Pick.here | apply Pick.skip | apply Pick.app); done); focus rfl) | (apply en_own; focus ((repeat' first | exact Pick.here | apply Pick.skip | apply Pick.app); done); focus rfl) | (apply en_pick; focus ((repeat' first | exact Pick.here | apply Pick.skip | apply Pick.app); done)) | apply en_drop | apply en_app) <;> fail)
          rw [hct, ← Nat.add_assoc]
          rfl
        · have e : k = nx.length := by omega
          subst e
          rw [List.take_length] at g2
          rw [List.take_length, ← hcnt]
          have e2 : o2 = out ++ x.seen w := by rw [g2, f1, hse, List.append_assoc]
          (repeat first | refine G_seq ?_ | refine G_skip ?_ | refine G_endblk ?_ | refine G_block ?_ | refine G_exit rfl ?_)
          refine G_region ?_
          refine GO_q rfl rfl (ev_move rfl) ?_
          refine GO_q rfl rfl (ev_move rfl) ?_
          refine GO_q rfl rfl (ev_move rfl) ?_
          refine GO_q rfl rfl (ev_len rfl) ?_
          refine GO_q rfl rfl (ev_leq rfl rfl) ?_
          refine GO_q rfl rfl (ev_move rfl) ?_
          refine GO_yes rfl rfl rfl (decide_eq_true (by omega)) ?_
          refine GO_q rfl rfl (ev_move rfl) ?_
          refine GO_yes rfl rfl rfl (decide_eq_true (by omega)) ?_
          refine GO_q rfl rfl (ev_loadN rfl (by repeat' first | exact LdN.blk rfl | assumption | apply LdN.skip | apply LdN.app)) ?_
          refine GO_yes rfl rfl rfl (decide_eq_true (by omega)) ?_
          refine GO_q rfl rfl (ev_fieldAddr rfl) ?_
          refine GO_yes rfl rfl rfl (decide_eq_true (by omega)) ?_
          refine GO_q rfl rfl (ev_load rfl (by repeat' first | exact Ld.blk rfl | assumption | apply Ld.skip | apply Ld.app)) ?_
          refine GO_yes rfl rfl rfl (decide_eq_true (by omega)) ?_
          refine GO_q rfl rfl (ev_fieldAddr rfl) ?_
          refine GO_yes rfl rfl rfl (decide_eq_true (by omega)) ?_
          refine GO_q rfl rfl (ev_load rfl (by repeat' first | exact Ld.blk rfl | assumption | apply Ld.skip | apply Ld.app)) ?_
          refine GO_yes rfl rfl rfl (decide_eq_true (by omega)) ?_
          refine GO_eff rfl rfl (eff_call rfl (RSees_ctr w p.x p.y _)) ?_; rintro _ _ ⟨rfl, rfl⟩
          refine GO_yes rfl rfl rfl (decide_eq_true (by omega)) ?_
          refine GO_q rfl rfl (ev_eqlB rfl rfl) ?_
          refine GO_q rfl rfl (ev_pick_t rfl (decide_eq_true (by omega)) rfl) ?_
          refine GO_q rfl rfl (ev_assign rfl) ?_
          refine GO_q rfl rfl (ev_assign rfl) ?_
          refine GO_q rfl rfl (ev_assign rfl) ?_
          refine GO_nil ?_
          (repeat first | refine G_seq ?_ | refine G_skip ?_ | refine G_endblk ?_ | refine G_block ?_ | refine G_exit rfl ?_)
          rw [← hhit, e2]
          rw [e2] at g3
          exact G_ret (L' := own 3 1 A2 (out ++ x.seen w).length c2 (flat (out ++ x.seen w)) :: L) rfl (.tmp rfl (.tmp rfl (.tmp rfl .nil))) (by (repeat first | exact en_refl | (apply en_blk; focus ((repeat' first | exact Pick.here | apply Pick.skip | apply Pick.app); done); focus rfl) | (apply en_own; focus ((repeat' first | exact Pick.here | apply Pick.skip | apply Pick.app); done); focus rfl) | (apply en_pick; focus ((repeat' first | exact Pick.here | apply Pick.skip | apply Pick.app); done)) | apply en_drop | apply en_app) <;> fail) ⟨A2, c2, by simp [retv], g3, rfl⟩
end Go.Proofs.Ytalcanejhniepaa
/- Where a function ends without a word. No program stands in this text. -/
namespace Go.Proofs.Ytalcanejhniepaa
open Go.RowKit
section
variable {P : Program} {fn : Func} {g : Glob} {n : Nat} {σ : Env} {L : List HP}
theorem G_end {rs : List ResultVar} {vs : List Value} {L' : List HP} {F : HP} {post : Value → List HP → Prop} (hr : fn.results = rs.toArray) (h : Res P σ L rs vs) (hL : ∀ h, sat L h → sat (F :: L') h) (hp : post (retv vs) L') : G P (retB P fn g F post) g n [] σ L := fun a w hs hw => by
  refine ⟨hs.defers, retv vs, ?_, _, L', rfl, hp, hw.mono hL⟩
  unfold results
  rw [hr]
  simp only [List.mapM_toArray, Sem.run_bind, Sem.run_map]
  have e := h.run hs.e hw.s
  generalize hm : List.mapM (m := Sem) _ rs = m
  have e' : m.run P w = .ok vs w := by rw [← hm]; exact e
  rw [e']
  simp only [Result.andThen_ok, Sem.run_pure]
  cases vs with
  | nil => rfl
  | cons v l => cases l <;> simp [retv]
end
end Go.Proofs.Ytalcanejhniepaa
/- Trees that are heaps by Y: the highest point between two places. -/
namespace Go.Proofs.Ytalcanejhniepaa
attribute [local irreducible] sat
set_option linter.unusedVariables false
set_option linter.unusedSimpArgs false
set_option maxRecDepth 100000

def sel (x1 x2 : Int) (p : Pt) : Bool := decide (x1 ≤ p.x) && decide (p.x ≤ x2)
theorem sel_true {x1 x2 : Int} {p : Pt} : sel x1 x2 p = true ↔ x1 ≤ p.x ∧ p.x ≤ x2 := by simp [sel]
/-- From one best point to another one, over some points. -/
structure Top (x1 x2 : Int) (l : List Pt) (f : Bool) (p : Pt) (f' : Bool) (p' : Pt) : Prop where
  fnd : f' = true ↔ (f = true ∨ ∃ q ∈ l, sel x1 x2 q = true)
  non : f' = false → p' = p
  src : f' = true → (f = true ∧ p' = p) ∨ (p' ∈ l ∧ sel x1 x2 p' = true)
  old : f = true → p' = p ∨ und p p' = true
  all : ∀ q ∈ l, sel x1 x2 q = true → q = p' ∨ und q p' = true
theorem Top.out {x1 x2 : Int} {l : List Pt} {f : Bool} {p : Pt} (h : ∀ q ∈ l, sel x1 x2 q = false) : Top x1 x2 l f p f p where
  fnd := ⟨.inl, fun h' => h'.elim id fun ⟨q, hq, hs⟩ => by rw [h q hq] at hs; cases hs⟩
  non := fun _ => rfl
  src := fun e => .inl ⟨e, rfl⟩
  old := fun _ => .inl rfl
  all := fun q hq hs => by rw [h q hq] at hs; cases hs
theorem Top.low {x1 x2 : Int} {l : List Pt} {p : Pt} (h : ∀ q ∈ l, q = p ∨ und q p = true) : Top x1 x2 l true p true p where
  fnd := ⟨fun _ => .inl rfl, fun _ => rfl⟩
  non := fun _ => rfl
  src := fun e => .inl ⟨e, rfl⟩
  old := fun _ => .inl rfl
  all := fun q hq _ => h q hq
theorem Top.new {x1 x2 : Int} {l : List Pt} {f : Bool} {p q : Pt} (hq : q ∈ l) (hs : sel x1 x2 q = true) (h : ∀ r ∈ l, r = q ∨ und r q = true) (ho : f = true → und p q = true) : Top x1 x2 l f p true q where
  fnd := ⟨fun _ => .inr ⟨q, hq, hs⟩, fun _ => rfl⟩
  non := fun e => by cases e
  src := fun _ => .inr ⟨hq, hs⟩
  old := fun e => .inr (ho e)
  all := fun r hr _ => h r hr
theorem und_le {p q r : Pt} (h : p = q ∨ und p q = true) (k : q = r ∨ und q r = true) : p = r ∨ und p r = true := by
  rcases h with rfl | h
  · exact k
  · rcases k with rfl | k
    · exact .inr h
    · exact .inr (und_trans h k)
theorem Top.app {x1 x2 : Int} {l m : List Pt} {f f1 f2 : Bool} {p p1 p2 : Pt} (h1 : Top x1 x2 l f p f1 p1) (h2 : Top x1 x2 m f1 p1 f2 p2) : Top x1 x2 (l ++ m) f p f2 p2 where
  fnd := by
    rw [h2.fnd, h1.fnd]
    simp only [List.mem_append, or_assoc]
    constructor
    · rintro (h | ⟨q, h, k⟩ | ⟨q, h, k⟩)
      · exact .inl h
      · exact .inr ⟨q, .inl h, k⟩
      · exact .inr ⟨q, .inr h, k⟩
    · rintro (h | ⟨q, h | h, k⟩)
      · exact .inl h
      · exact .inr (.inl ⟨q, h, k⟩)
      · exact .inr (.inr ⟨q, h, k⟩)
  non := fun e => by
    have e1 : f1 = false := by
      cases hf : f1 with
      | false => rfl
      | true => have := h2.fnd.2 (.inl hf); rw [e] at this; cases this
    rw [h2.non e, h1.non e1]
  src := fun e => by
    rcases h2.src e with ⟨a, rfl⟩ | ⟨a, b⟩
    · rcases h1.src a with ⟨c, rfl⟩ | ⟨c, d⟩
      · exact .inl ⟨c, rfl⟩
      · exact .inr ⟨List.mem_append.2 (.inl c), d⟩
    · exact .inr ⟨List.mem_append.2 (.inr a), b⟩
  old := fun e => by
    have a : p = p1 ∨ und p p1 = true := (h1.old e).imp Eq.symm id
    have b : p1 = p2 ∨ und p1 p2 = true := (h2.old (h1.fnd.2 (.inl e))).imp Eq.symm id
    exact (und_le a b).imp Eq.symm id
  all := fun q hq hs => by
    rcases List.mem_append.1 hq with hq | hq
    · exact und_le (h1.all q hq hs) ((h2.old (h1.fnd.2 (.inr ⟨q, hq, hs⟩))).imp Eq.symm id)
    · exact h2.all q hq hs
theorem Top.cons {x1 x2 : Int} {l : List Pt} {f f' : Bool} {p p' q : Pt} (hq : sel x1 x2 q = false) (h : Top x1 x2 l f p f' p') : Top x1 x2 (q :: l) f p f' p' :=
  Top.app (l := [q]) (Top.out (fun r hr => by rw [List.mem_singleton.1 hr]; exact hq)) h
theorem Top.uniq {x1 x2 : Int} {l m : List Pt} {z p1 p2 : Pt} {f1 f2 : Bool} (hp : l.Perm m) (h1 : Top x1 x2 l false z f1 p1) (h2 : Top x1 x2 m false z f2 p2) : f1 = f2 ∧ p1 = p2 := by
  have e : f1 = true ↔ f2 = true := by
    rw [h1.fnd, h2.fnd]
    simp only [hp.mem_iff]
  have ef : f1 = f2 := by cases f1 <;> cases f2 <;> simp_all
  subst ef
  refine ⟨rfl, ?_⟩
  cases f1 with
  | false => rw [h1.non rfl, h2.non rfl]
  | true =>
    rcases h1.src rfl with ⟨a, _⟩ | ⟨a, b⟩
    · cases a
    · rcases h2.src rfl with ⟨c, _⟩ | ⟨c, d⟩
      · cases c
      · rcases h1.all _ (hp.mem_iff.2 c) d with u | u
        · exact u.symm
        · rcases h2.all _ (hp.mem_iff.1 a) b with v | v
          · exact v
          · rw [und_asymm u] at v; cases v
theorem beh_lo {q s : Pt} (h : beh q s = false) : q.x ≤ s.x := by
  rw [beh_false] at h
  have h1 := Pt.less_iff s q
  rw [h] at h1
  simp at h1
  omega
theorem beh_hi {q s : Pt} (h : beh q s = true) : s.x ≤ q.x := by
  rw [beh_true] at h
  have h1 := (Pt.less_iff s q).1 h
  omega
theorem highest_ctr (x1 x2 : Int) : ∀ (x : PA) (c d : Nat) (f : Bool) (p : Pt) (L : List HP), PIn L x → x.t.Ok →
    Ctr Try.prog 63 #[.pointer x.addr, .int .i64 x1, .int .i64 x2, .pointer (some ⟨c, 0, none⟩), .pointer (some ⟨d, 0, none⟩)] (blk c 39 [.int .i64 p.id, .int .i64 p.x, .int .i64 p.y] :: blk d 4 [.bool f] :: L)
      fun v L' => ∃ (f' : Bool) (p' : Pt), v = .tuple #[] ∧ Top x1 x2 x.t.els f p f' p' ∧ L' = blk c 39 [.int .i64 p'.id, .int .i64 p'.x, .int .i64 p'.y] :: blk d 4 [.bool f'] :: L
  | .nil, c, d, f, p, L, hin, hok => by
    refine Ctr_of (fn := Try.f63) (n := 84) Try.func63 rfl rfl rfl ?_
    intro g F
    (repeat first | refine G_seq ?_ | refine G_skip ?_ | refine G_endblk ?_ | refine G_block ?_ | refine G_exit rfl ?_)
    refine G_draw (.q 0 (.q 1 (.q 2 (.q 3 (.q 4 (.q 5 (.q 6 (.q 7 (.q 8 (.q 9 (.q 10 (.q 11 (.q 12 (.q 13 (.e 14 (.q 15 (.q 16 (.q 17 .nil)))))))))))))))))) (by kernel_rfl) (by kernel_rfl) ?_
    refine RS_m retB_noPanic rfl rfl rfl rfl (ev_move rfl) ?_
    (first | refine RS_m retB_noPanic rfl rfl rfl rfl (ev_eqlNil rfl rfl) ?_ | refine RS_m retB_noPanic rfl rfl rfl rfl (ev_eqlPtr rfl rfl) ?_)
    refine RS_m retB_noPanic rfl rfl rfl rfl (ev_move rfl) ?_
    refine RS_q_no retB_noPanic rfl rfl rfl ⟨_, rfl, rfl⟩ rfl ?_
    refine RS_q_no retB_noPanic rfl rfl rfl ⟨_, rfl, rfl⟩ rfl ?_
    refine RS_q_no retB_noPanic rfl rfl rfl ⟨_, rfl, rfl⟩ rfl ?_
    refine RS_q_no retB_noPanic rfl rfl rfl ⟨_, rfl, rfl⟩ rfl ?_
    refine RS_q_undef retB_noPanic rfl rfl rfl rfl rfl ?_
    refine RS_q_undef retB_noPanic rfl rfl rfl rfl rfl ?_
    refine RS_q_undef retB_noPanic rfl rfl rfl rfl rfl ?_
    refine RS_q_undef retB_noPanic rfl rfl rfl rfl rfl ?_
    refine RS_q_undef retB_noPanic rfl rfl rfl rfl rfl ?_
    refine RS_q_undef retB_noPanic rfl rfl rfl rfl rfl ?_
    refine RS_q_undef retB_noPanic rfl rfl rfl rfl rfl ?_
    refine RS_e (RE_undef rfl rfl rfl rfl rfl ?_)
    refine RS_q_undef retB_noPanic rfl rfl rfl rfl rfl ?_
    refine RS_q_no retB_noPanic rfl rfl rfl ⟨_, rfl, rfl⟩ rfl ?_
    refine RS_m retB_noPanic rfl rfl rfl rfl (ev_pick_t rfl rfl rfl) ?_
    refine RS_nil ?_
    (repeat first | refine G_seq ?_ | refine G_skip ?_ | refine G_endblk ?_ | refine G_block ?_ | refine G_exit rfl ?_)
    refine G_cond_t rfl rfl ?_
    (repeat first | refine G_seq ?_ | refine G_skip ?_ | refine G_endblk ?_ | refine G_block ?_ | refine G_exit rfl ?_)
    refine G_ret rfl .nil (by (repeat first | exact fun _ s => s | apply en_keep | apply en_drop | apply en_app) <;> fail) ⟨f, p, rfl, Top.out (fun _ h => by cases h), rfl⟩
  | .node b q s lo hi, c, d, f, p, L, hin, hok => by
    have ih1 := fun c d f p L h => highest_ctr x1 x2 lo c d f p L h hok.1
    have ih2 := fun c d f p L h => highest_ctr x1 x2 hi c d f p L h hok.2.1
    obtain ⟨q1, q2, q3, q4, q5, q6, q7, q8, q9⟩ := hin.f
    have hlow : ∀ r ∈ (PA.node b q s lo hi).t.els, r = q ∨ und r q = true := fun r hr => els_und hok hr
    have hlo : ∀ r ∈ lo.t.els, r.x ≤ s.x := fun r hr => beh_lo (hok.2.2.1 r hr)
    have hhi : ∀ r ∈ hi.t.els, s.x ≤ r.x := fun r hr => beh_hi (hok.2.2.2.1 r hr)
    by_cases hf : f = true ∧ und p q = false
    · obtain ⟨rfl, hu⟩ := hf
      have hqp : q = p ∨ und q p = true := by
        by_cases e : p = q
        · exact .inl e.symm
        · exact .inr (und_total e hu)
      refine Ctr_of (fn := Try.f63) (n := 84) Try.func63 rfl rfl rfl ?_
      intro g F
      (repeat first | refine G_seq ?_ | refine G_skip ?_ | refine G_endblk ?_ | refine G_block ?_ | refine G_exit rfl ?_)
      refine G_draw (.q 0 (.q 1 (.q 2 (.q 3 (.q 4 (.q 5 (.q 6 (.q 7 (.q 8 (.q 9 (.q 10 (.q 11 (.q 12 (.q 13 (.e 14 (.q 15 (.q 16 (.q 17 .nil)))))))))))))))))) (by kernel_rfl) (by kernel_rfl) ?_
      refine RS_m retB_noPanic rfl rfl rfl rfl (ev_move rfl) ?_
      (first | refine RS_m retB_noPanic rfl rfl rfl rfl (ev_eqlNil rfl rfl) ?_ | refine RS_m retB_noPanic rfl rfl rfl rfl (ev_eqlPtr rfl rfl) ?_)
      refine RS_m retB_noPanic rfl rfl rfl rfl (ev_move rfl) ?_
      refine RS_m_yes retB_noPanic rfl rfl rfl rfl ⟨_, rfl, rfl⟩ rfl (ev_move rfl) ?_
      (first | refine RS_m_yes retB_noPanic rfl rfl rfl rfl ⟨_, rfl, rfl⟩ rfl (ev_nilCheck rfl) ?_ | refine RS_m_yes retB_noPanic rfl rfl rfl rfl ⟨_, rfl, rfl⟩ rfl (ev_nilCheckF (by simp) rfl) ?_)
      refine RS_q_yes retB_noPanic rfl rfl rfl rfl ⟨_, rfl, rfl⟩ rfl (ev_load rfl (by repeat' first | exact Ld.blk rfl | assumption | apply Ld.skip | apply Ld.app)) ?_
      refine RS_m_yes retB_noPanic rfl rfl rfl rfl ⟨_, rfl, rfl⟩ rfl (ev_move rfl) ?_
      refine RS_m_yes retB_noPanic rfl rfl rfl rfl ⟨_, rfl, rfl⟩ rfl (ev_move rfl) ?_
      (first | refine RS_m_yes retB_noPanic rfl rfl rfl rfl ⟨_, rfl, rfl⟩ rfl (ev_nilCheck rfl) ?_ | refine RS_m_yes retB_noPanic rfl rfl rfl rfl ⟨_, rfl, rfl⟩ rfl (ev_nilCheckF (by simp) rfl) ?_)
      refine RS_q_yes retB_noPanic rfl rfl rfl rfl ⟨_, rfl, rfl⟩ rfl (ev_loadN rfl (by repeat' first | exact LdN.blk rfl | assumption | apply LdN.skip | apply LdN.app)) ?_
      refine RS_m_yes retB_noPanic rfl rfl rfl rfl ⟨_, rfl, rfl⟩ rfl (ev_move rfl) ?_
      (first | refine RS_m_yes retB_noPanic rfl rfl rfl rfl ⟨_, rfl, rfl⟩ rfl (ev_nilCheck rfl) ?_ | refine RS_m_yes retB_noPanic rfl rfl rfl rfl ⟨_, rfl, rfl⟩ rfl (ev_nilCheckF (by simp) rfl) ?_)
      refine RS_m_yes retB_noPanic rfl rfl rfl rfl ⟨_, rfl, rfl⟩ rfl (ev_fieldAddr rfl) ?_
      refine RS_q_yes retB_noPanic rfl rfl rfl rfl ⟨_, rfl, rfl⟩ rfl (ev_loadN rfl (by repeat' first | exact LdN.blk rfl | assumption | apply LdN.skip | apply LdN.app)) ?_
      refine RS_e (RE_eff_yes rfl rfl rfl ⟨_, rfl, rfl⟩ rfl (eff_call rfl (under_ctr p q _)) ?_); rintro _ _ ⟨rfl, rfl⟩; refine ⟨_, fun _ s => s, (by first | ((repeat first | exact fun _ s => s | apply en_keep | apply en_drop | apply en_app) <;> fail) | ((repeat first | exact en_refl | (apply en_blk; focus ((repeat' first | exact Pick.here | apply Pick.skip | apply Pick.app); done); focus rfl) | (apply en_own; focus ((repeat' first | exact Pick.here | apply Pick.skip | apply Pick.app); done); focus rfl) | (apply en_pick; focus ((repeat' first | exact Pick.here | apply Pick.skip | apply Pick.app); done)) | apply en_drop | apply en_app) <;> fail)), ?_⟩
      refine RS_m_yes retB_noPanic rfl rfl rfl rfl ⟨_, rfl, rfl⟩ rfl (ev_not rfl) ?_
      refine RS_m_yes retB_noPanic rfl rfl rfl rfl ⟨_, rfl, rfl⟩ rfl (ev_pick_t rfl rfl rfl) ?_
      refine RS_m retB_noPanic rfl rfl rfl rfl (ev_pick_f rfl rfl rfl) ?_
      refine RS_nil ?_
      (repeat first | refine G_seq ?_ | refine G_skip ?_ | refine G_endblk ?_ | refine G_block ?_ | refine G_exit rfl ?_)
      refine G_cond_t rfl (by rw [hu]; rfl) ?_
      (repeat first | refine G_seq ?_ | refine G_skip ?_ | refine G_endblk ?_ | refine G_block ?_ | refine G_exit rfl ?_)
      refine G_ret rfl .nil (by (repeat first | exact fun _ s => s | apply en_keep | apply en_drop | apply en_app) <;> fail) ⟨true, p, rfl, Top.low (fun r hr => und_le (hlow r hr) hqp), rfl⟩
    · have hk : f = true → und p q = true := fun e => by
        cases hu : und p q with
        | true => rfl
        | false => exact absurd ⟨e, hu⟩ hf
      refine Ctr_of (fn := Try.f63) (n := 84) Try.func63 rfl rfl rfl ?_
      intro g F
      by_cases hfe : f = true
      case' pos =>
        have hu := hk hfe
        (repeat first | refine G_seq ?_ | refine G_skip ?_ | refine G_endblk ?_ | refine G_block ?_ | refine G_exit rfl ?_)
        refine G_draw (.q 0 (.q 1 (.q 2 (.q 3 (.q 4 (.q 5 (.q 6 (.q 7 (.q 8 (.q 9 (.q 10 (.q 11 (.q 12 (.q 13 (.e 14 (.q 15 (.q 16 (.q 17 .nil)))))))))))))))))) (by kernel_rfl) (by kernel_rfl) ?_
        refine RS_m retB_noPanic rfl rfl rfl rfl (ev_move rfl) ?_
        (first | refine RS_m retB_noPanic rfl rfl rfl rfl (ev_eqlNil rfl rfl) ?_ | refine RS_m retB_noPanic rfl rfl rfl rfl (ev_eqlPtr rfl rfl) ?_)
        refine RS_m retB_noPanic rfl rfl rfl rfl (ev_move rfl) ?_
        refine RS_m_yes retB_noPanic rfl rfl rfl rfl ⟨_, rfl, rfl⟩ rfl (ev_move rfl) ?_
        (first | refine RS_m_yes retB_noPanic rfl rfl rfl rfl ⟨_, rfl, rfl⟩ rfl (ev_nilCheck rfl) ?_ | refine RS_m_yes retB_noPanic rfl rfl rfl rfl ⟨_, rfl, rfl⟩ rfl (ev_nilCheckF (by simp) rfl) ?_)
        refine RS_q_yes retB_noPanic rfl rfl rfl rfl ⟨_, rfl, rfl⟩ rfl (ev_load rfl (by repeat' first | exact Ld.blk rfl | assumption | apply Ld.skip | apply Ld.app)) ?_
        refine RS_m_yes retB_noPanic rfl rfl rfl rfl ⟨_, rfl, rfl⟩ rfl (ev_move rfl) ?_
        refine RS_m_yes retB_noPanic rfl rfl rfl rfl ⟨_, rfl, hfe⟩ rfl (ev_move rfl) ?_
        (first | refine RS_m_yes retB_noPanic rfl rfl rfl rfl ⟨_, rfl, hfe⟩ rfl (ev_nilCheck rfl) ?_ | refine RS_m_yes retB_noPanic rfl rfl rfl rfl ⟨_, rfl, hfe⟩ rfl (ev_nilCheckF (by simp) rfl) ?_)
        refine RS_q_yes retB_noPanic rfl rfl rfl rfl ⟨_, rfl, hfe⟩ rfl (ev_loadN rfl (by repeat' first | exact LdN.blk rfl | assumption | apply LdN.skip | apply LdN.app)) ?_
        refine RS_m_yes retB_noPanic rfl rfl rfl rfl ⟨_, rfl, hfe⟩ rfl (ev_move rfl) ?_
        (first | refine RS_m_yes retB_noPanic rfl rfl rfl rfl ⟨_, rfl, hfe⟩ rfl (ev_nilCheck rfl) ?_ | refine RS_m_yes retB_noPanic rfl rfl rfl rfl ⟨_, rfl, hfe⟩ rfl (ev_nilCheckF (by simp) rfl) ?_)
        refine RS_m_yes retB_noPanic rfl rfl rfl rfl ⟨_, rfl, hfe⟩ rfl (ev_fieldAddr rfl) ?_
        refine RS_q_yes retB_noPanic rfl rfl rfl rfl ⟨_, rfl, hfe⟩ rfl (ev_loadN rfl (by repeat' first | exact LdN.blk rfl | assumption | apply LdN.skip | apply LdN.app)) ?_
        refine RS_e (RE_eff_yes rfl rfl rfl ⟨_, rfl, hfe⟩ rfl (eff_call rfl (under_ctr p q _)) ?_); rintro _ _ ⟨rfl, rfl⟩; refine ⟨_, fun _ s => s, (by first | ((repeat first | exact fun _ s => s | apply en_keep | apply en_drop | apply en_app) <;> fail) | ((repeat first | exact en_refl | (apply en_blk; focus ((repeat' first | exact Pick.here | apply Pick.skip | apply Pick.app); done); focus rfl) | (apply en_own; focus ((repeat' first | exact Pick.here | apply Pick.skip | apply Pick.app); done); focus rfl) | (apply en_pick; focus ((repeat' first | exact Pick.here | apply Pick.skip | apply Pick.app); done)) | apply en_drop | apply en_app) <;> fail)), ?_⟩
        refine RS_m_yes retB_noPanic rfl rfl rfl rfl ⟨_, rfl, hfe⟩ rfl (ev_not rfl) ?_
        refine RS_m_yes retB_noPanic rfl rfl rfl rfl ⟨_, rfl, rfl⟩ rfl (ev_pick_t rfl hfe rfl) ?_
        refine RS_m retB_noPanic rfl rfl rfl rfl (ev_pick_f rfl rfl rfl) ?_
        refine RS_nil ?_
        (repeat first | refine G_seq ?_ | refine G_skip ?_ | refine G_endblk ?_ | refine G_block ?_ | refine G_exit rfl ?_)
        refine G_cond_f rfl (by rw [hu]; rfl) ?_
      case' neg =>
        have hfe2 : f = false := by simpa using hfe
        (repeat first | refine G_seq ?_ | refine G_skip ?_ | refine G_endblk ?_ | refine G_block ?_ | refine G_exit rfl ?_)
        refine G_draw (.q 0 (.q 1 (.q 2 (.q 3 (.q 4 (.q 5 (.q 6 (.q 7 (.q 8 (.q 9 (.q 10 (.q 11 (.q 12 (.q 13 (.e 14 (.q 15 (.q 16 (.q 17 .nil)))))))))))))))))) (by kernel_rfl) (by kernel_rfl) ?_
        refine RS_m retB_noPanic rfl rfl rfl rfl (ev_move rfl) ?_
        (first | refine RS_m retB_noPanic rfl rfl rfl rfl (ev_eqlNil rfl rfl) ?_ | refine RS_m retB_noPanic rfl rfl rfl rfl (ev_eqlPtr rfl rfl) ?_)
        refine RS_m retB_noPanic rfl rfl rfl rfl (ev_move rfl) ?_
        refine RS_m_yes retB_noPanic rfl rfl rfl rfl ⟨_, rfl, rfl⟩ rfl (ev_move rfl) ?_
        (first | refine RS_m_yes retB_noPanic rfl rfl rfl rfl ⟨_, rfl, rfl⟩ rfl (ev_nilCheck rfl) ?_ | refine RS_m_yes retB_noPanic rfl rfl rfl rfl ⟨_, rfl, rfl⟩ rfl (ev_nilCheckF (by simp) rfl) ?_)
        refine RS_q_yes retB_noPanic rfl rfl rfl rfl ⟨_, rfl, rfl⟩ rfl (ev_load rfl (by repeat' first | exact Ld.blk rfl | assumption | apply Ld.skip | apply Ld.app)) ?_
        refine RS_m_yes retB_noPanic rfl rfl rfl rfl ⟨_, rfl, rfl⟩ rfl (ev_move rfl) ?_
        refine RS_q_no retB_noPanic rfl rfl rfl ⟨_, rfl, hfe2⟩ rfl ?_
        refine RS_q_no retB_noPanic rfl rfl rfl ⟨_, rfl, hfe2⟩ rfl ?_
        refine RS_q_no retB_noPanic rfl rfl rfl ⟨_, rfl, hfe2⟩ rfl ?_
        refine RS_q_no retB_noPanic rfl rfl rfl ⟨_, rfl, hfe2⟩ rfl ?_
        refine RS_q_no retB_noPanic rfl rfl rfl ⟨_, rfl, hfe2⟩ rfl ?_
        refine RS_q_no retB_noPanic rfl rfl rfl ⟨_, rfl, hfe2⟩ rfl ?_
        refine RS_q_no retB_noPanic rfl rfl rfl ⟨_, rfl, hfe2⟩ rfl ?_
        refine RS_e (RE_no rfl rfl rfl ⟨_, rfl, hfe2⟩ rfl ?_)
        refine RS_q_no retB_noPanic rfl rfl rfl ⟨_, rfl, hfe2⟩ rfl ?_
        refine RS_m_yes retB_noPanic rfl rfl rfl rfl ⟨_, rfl, rfl⟩ rfl (ev_pick_f rfl hfe2 rfl) ?_
        refine RS_m retB_noPanic rfl rfl rfl rfl (ev_pick_f rfl rfl rfl) ?_
        refine RS_nil ?_
        (repeat first | refine G_seq ?_ | refine G_skip ?_ | refine G_endblk ?_ | refine G_block ?_ | refine G_exit rfl ?_)
        refine G_cond_f rfl rfl ?_
      all_goals
        by_cases hs : sel x1 x2 q = true
        · have hs2 := sel_true.1 hs
          (repeat first | refine G_seq ?_ | refine G_skip ?_ | refine G_endblk ?_ | refine G_block ?_ | refine G_exit rfl ?_)
          refine G_region ?_
          refine GO_q rfl rfl (ev_move rfl) ?_
          (first | refine GO_q rfl rfl (ev_nilCheck rfl) ?_ | refine GO_q rfl rfl (ev_nilCheckF (by simp) rfl) ?_)
          refine GO_q rfl rfl (ev_fieldAddr rfl) ?_
          refine GO_q rfl rfl (ev_fieldAddr rfl) ?_
          refine GO_q rfl rfl (ev_load rfl (by repeat' first | exact Ld.blk rfl | assumption | apply Ld.skip | apply Ld.app)) ?_
          refine GO_q rfl rfl (ev_move rfl) ?_
          refine GO_q rfl rfl (ev_geq rfl rfl) ?_
          refine GO_q rfl rfl (ev_move rfl) ?_
          refine GO_yes rfl rfl rfl (decide_eq_true hs2.1) ?_
          refine GO_q rfl rfl (ev_move rfl) ?_
          refine GO_yes rfl rfl rfl (decide_eq_true hs2.1) ?_
          (first | refine GO_q rfl rfl (ev_nilCheck rfl) ?_ | refine GO_q rfl rfl (ev_nilCheckF (by simp) rfl) ?_)
          refine GO_yes rfl rfl rfl (decide_eq_true hs2.1) ?_
          refine GO_q rfl rfl (ev_fieldAddr rfl) ?_
          refine GO_yes rfl rfl rfl (decide_eq_true hs2.1) ?_
          refine GO_q rfl rfl (ev_fieldAddr rfl) ?_
          refine GO_yes rfl rfl rfl (decide_eq_true hs2.1) ?_
          refine GO_q rfl rfl (ev_load rfl (by repeat' first | exact Ld.blk rfl | assumption | apply Ld.skip | apply Ld.app)) ?_
          refine GO_yes rfl rfl rfl (decide_eq_true hs2.1) ?_
          refine GO_q rfl rfl (ev_move rfl) ?_
          refine GO_yes rfl rfl rfl (decide_eq_true hs2.1) ?_
          refine GO_q rfl rfl (ev_leq rfl rfl) ?_
          refine GO_q rfl rfl (ev_pick_t rfl (decide_eq_true hs2.1) rfl) ?_
          refine GO_nil ?_
          (repeat first | refine G_seq ?_ | refine G_skip ?_ | refine G_endblk ?_ | refine G_block ?_ | refine G_exit rfl ?_)
          refine G_cond_t rfl (decide_eq_true hs2.2) ?_
          (repeat first | refine G_seq ?_ | refine G_skip ?_ | refine G_endblk ?_ | refine G_block ?_ | refine G_exit rfl ?_)
          refine G_region ?_
          refine GO_q rfl rfl (ev_move rfl) ?_
          refine GO_q rfl rfl (ev_move rfl) ?_
          refine GO_q rfl rfl (ev_move rfl) ?_
          (first | refine GO_q rfl rfl (ev_nilCheck rfl) ?_ | refine GO_q rfl rfl (ev_nilCheckF (by simp) rfl) ?_)
          refine GO_q rfl rfl (ev_fieldAddr rfl) ?_
          refine GO_q rfl rfl (ev_loadN rfl (by repeat' first | exact LdN.blk rfl | assumption | apply LdN.skip | apply LdN.app)) ?_
          (first | refine GO_q rfl rfl (ev_nilCheck rfl) ?_ | refine GO_q rfl rfl (ev_nilCheckF (by simp) rfl) ?_)
          refine GO_eff rfl rfl (eff_storeN rfl rfl rfl rfl (by repeat' first | exact Upd.here rfl | apply Upd.skip | apply Upd.app)) ?_; rintro _ _ ⟨rfl, rfl⟩
          (first | refine GO_q rfl rfl (ev_nilCheck rfl) ?_ | refine GO_q rfl rfl (ev_nilCheckF (by simp) rfl) ?_)
          refine GO_eff rfl rfl (eff_store rfl rfl rfl (by repeat' first | exact Upd.here rfl | apply Upd.skip | apply Upd.app)) ?_; rintro _ _ ⟨rfl, rfl⟩
          refine GO_nil ?_
          (repeat first | refine G_seq ?_ | refine G_skip ?_ | refine G_endblk ?_ | refine G_block ?_ | refine G_exit rfl ?_)
          refine G_ret rfl .nil (by (repeat first | exact fun _ s => s | apply en_keep | apply en_drop | apply en_app) <;> fail) ⟨true, q, rfl, Top.new (List.mem_cons_self ..) hs hlow hk, rfl⟩
        · have hs1 : sel x1 x2 q = false := by simpa using hs
          by_cases hx1 : x1 ≤ q.x
          case' pos =>
            have hx2 : ¬ q.x ≤ x2 := fun h => hs (sel_true.2 ⟨hx1, h⟩)
            (repeat first | refine G_seq ?_ | refine G_skip ?_ | refine G_endblk ?_ | refine G_block ?_ | refine G_exit rfl ?_)
            refine G_region ?_
            refine GO_q rfl rfl (ev_move rfl) ?_
            (first | refine GO_q rfl rfl (ev_nilCheck rfl) ?_ | refine GO_q rfl rfl (ev_nilCheckF (by simp) rfl) ?_)
            refine GO_q rfl rfl (ev_fieldAddr rfl) ?_
            refine GO_q rfl rfl (ev_fieldAddr rfl) ?_
            refine GO_q rfl rfl (ev_load rfl (by repeat' first | exact Ld.blk rfl | assumption | apply Ld.skip | apply Ld.app)) ?_
            refine GO_q rfl rfl (ev_move rfl) ?_
            refine GO_q rfl rfl (ev_geq rfl rfl) ?_
            refine GO_q rfl rfl (ev_move rfl) ?_
            refine GO_yes rfl rfl rfl (decide_eq_true hx1) ?_
            refine GO_q rfl rfl (ev_move rfl) ?_
            refine GO_yes rfl rfl rfl (decide_eq_true hx1) ?_
            (first | refine GO_q rfl rfl (ev_nilCheck rfl) ?_ | refine GO_q rfl rfl (ev_nilCheckF (by simp) rfl) ?_)
            refine GO_yes rfl rfl rfl (decide_eq_true hx1) ?_
            refine GO_q rfl rfl (ev_fieldAddr rfl) ?_
            refine GO_yes rfl rfl rfl (decide_eq_true hx1) ?_
            refine GO_q rfl rfl (ev_fieldAddr rfl) ?_
            refine GO_yes rfl rfl rfl (decide_eq_true hx1) ?_
            refine GO_q rfl rfl (ev_load rfl (by repeat' first | exact Ld.blk rfl | assumption | apply Ld.skip | apply Ld.app)) ?_
            refine GO_yes rfl rfl rfl (decide_eq_true hx1) ?_
            refine GO_q rfl rfl (ev_move rfl) ?_
            refine GO_yes rfl rfl rfl (decide_eq_true hx1) ?_
            refine GO_q rfl rfl (ev_leq rfl rfl) ?_
            refine GO_q rfl rfl (ev_pick_t rfl (decide_eq_true hx1) rfl) ?_
            refine GO_nil ?_
            (repeat first | refine G_seq ?_ | refine G_skip ?_ | refine G_endblk ?_ | refine G_block ?_ | refine G_exit rfl ?_)
            refine G_cond_f rfl (decide_eq_false hx2) ?_
          case' neg =>
            (repeat first | refine G_seq ?_ | refine G_skip ?_ | refine G_endblk ?_ | refine G_block ?_ | refine G_exit rfl ?_)
            refine G_region ?_
            refine GO_q rfl rfl (ev_move rfl) ?_
            (first | refine GO_q rfl rfl (ev_nilCheck rfl) ?_ | refine GO_q rfl rfl (ev_nilCheckF (by simp) rfl) ?_)
            refine GO_q rfl rfl (ev_fieldAddr rfl) ?_
            refine GO_q rfl rfl (ev_fieldAddr rfl) ?_
            refine GO_q rfl rfl (ev_load rfl (by repeat' first | exact Ld.blk rfl | assumption | apply Ld.skip | apply Ld.app)) ?_
            refine GO_q rfl rfl (ev_move rfl) ?_
            refine GO_q rfl rfl (ev_geq rfl rfl) ?_
            refine GO_q rfl rfl (ev_move rfl) ?_
            refine GO_no rfl rfl rfl (decide_eq_false hx1) ?_
            refine GO_no rfl rfl rfl (decide_eq_false hx1) ?_
            refine GO_no rfl rfl rfl (decide_eq_false hx1) ?_
            refine GO_no rfl rfl rfl (decide_eq_false hx1) ?_
            refine GO_no rfl rfl rfl (decide_eq_false hx1) ?_
            refine GO_no rfl rfl rfl (decide_eq_false hx1) ?_
            refine GO_no rfl rfl rfl (decide_eq_false hx1) ?_
            refine GO_q rfl rfl (ev_pick_f rfl (decide_eq_false hx1) rfl) ?_
            refine GO_nil ?_
            (repeat first | refine G_seq ?_ | refine G_skip ?_ | refine G_endblk ?_ | refine G_block ?_ | refine G_exit rfl ?_)
            refine G_cond_f rfl rfl ?_
          all_goals
            (repeat first | refine G_seq ?_ | refine G_skip ?_ | refine G_endblk ?_ | refine G_block ?_ | refine G_exit rfl ?_)
            refine G_region ?_
            refine GO_q rfl rfl (ev_move rfl) ?_
            refine GO_q rfl rfl (ev_move rfl) ?_
            (first | refine GO_q rfl rfl (ev_nilCheck rfl) ?_ | refine GO_q rfl rfl (ev_nilCheckF (by simp) rfl) ?_)
            refine GO_q rfl rfl (ev_fieldAddr rfl) ?_
            refine GO_q rfl rfl (ev_fieldAddr rfl) ?_
            refine GO_q rfl rfl (ev_load rfl (by repeat' first | exact Ld.blk rfl | assumption | apply Ld.skip | apply Ld.app)) ?_
            refine GO_q rfl rfl (ev_leq rfl rfl) ?_
            refine GO_nil ?_
            (repeat first | refine G_seq ?_ | refine G_skip ?_ | refine G_endblk ?_)
            refine G_cut (ι := Bool × Pt) (fun _ => [(0, .pointer (some ⟨b, 0, none⟩)), (1, .int .i64 x1), (2, .int .i64 x2), (3, .pointer (some ⟨c, 0, none⟩)), (4, .pointer (some ⟨d, 0, none⟩))]) (fun y => blk c 39 [.int .i64 y.2.id, .int .i64 y.2.x, .int .i64 y.2.y] :: blk d 4 [.bool y.1] :: F :: L) (fun y => Top x1 x2 lo.t.els f p y.1 y.2) ?_ ?_
            · by_cases hx : x1 ≤ s.x
              · skip
                (repeat first | refine G_seq ?_ | refine G_skip ?_ | refine G_endblk ?_ | refine G_block ?_ | refine G_exit rfl ?_)
                refine G_cond_t rfl (decide_eq_true hx) ?_
                (repeat first | refine G_seq ?_ | refine G_skip ?_ | refine G_endblk ?_ | refine G_block ?_ | refine G_exit rfl ?_)
                refine G_region ?_
                refine GO_q rfl rfl (ev_move rfl) ?_
                (first | refine GO_q rfl rfl (ev_nilCheck rfl) ?_ | refine GO_q rfl rfl (ev_nilCheckF (by simp) rfl) ?_)
                refine GO_q rfl rfl (ev_fieldAddr rfl) ?_
                refine GO_q rfl rfl (ev_load rfl (by repeat' first | exact Ld.blk rfl | assumption | apply Ld.skip | apply Ld.app)) ?_
                refine GO_q rfl rfl (ev_move rfl) ?_
                refine GO_q rfl rfl (ev_move rfl) ?_
                refine GO_q rfl rfl (ev_move rfl) ?_
                refine GO_q rfl rfl (ev_move rfl) ?_
                refine GO_eff rfl rfl (eff_call rfl (Ctr.pre (M := blk c 39 [.int .i64 p.id, .int .i64 p.x, .int .i64 p.y] :: blk d 4 [.bool f] :: F :: L) (by (repeat first | exact en_refl | (apply en_blk; focus ((repeat' first | exact Pick.here | apply Pick.skip | apply Pick.app); done); focus rfl) | (apply en_own; focus ((repeat' first | exact Pick.here | apply Pick.skip | apply Pick.app); done); focus rfl) | (apply en_pick; focus ((repeat' first | exact Pick.here | apply Pick.skip | apply Pick.app); done)) | apply en_drop | apply en_app) <;> fail) (ih1 c d f p _ hin.2.1.skip))) ?_; rintro _ _ ⟨f1, p1, rfl, ht, rfl⟩
                refine GO_nil ?_
                (repeat first | refine G_seq ?_ | refine G_skip ?_ | refine G_endblk ?_ | refine G_block ?_ | refine G_exit rfl ?_)
                exact G_inv (f1, p1) ht ⟨rfl, rfl, rfl, rfl, rfl, trivial⟩ (by (repeat first | exact en_refl | (apply en_blk; focus ((repeat' first | exact Pick.here | apply Pick.skip | apply Pick.app); done); focus rfl) | (apply en_own; focus ((repeat' first | exact Pick.here | apply Pick.skip | apply Pick.app); done); focus rfl) | (apply en_pick; focus ((repeat' first | exact Pick.here | apply Pick.skip | apply Pick.app); done)) | apply en_drop | apply en_app) <;> fail)
              · skip
                (repeat first | refine G_seq ?_ | refine G_skip ?_ | refine G_endblk ?_ | refine G_block ?_ | refine G_exit rfl ?_)
                refine G_cond_f rfl (decide_eq_false hx) ?_
                (repeat first | refine G_seq ?_ | refine G_skip ?_ | refine G_endblk ?_ | refine G_block ?_ | refine G_exit rfl ?_)
                exact G_inv (f, p) (Top.out fun r hr => by have := hlo r hr; rw [← Bool.not_eq_true, sel_true]; omega) ⟨rfl, rfl, rfl, rfl, rfl, trivial⟩ (by (repeat first | exact en_refl | (apply en_blk; focus ((repeat' first | exact Pick.here | apply Pick.skip | apply Pick.app); done); focus rfl) | (apply en_own; focus ((repeat' first | exact Pick.here | apply Pick.skip | apply Pick.app); done); focus rfl) | (apply en_pick; focus ((repeat' first | exact Pick.here | apply Pick.skip | apply Pick.app); done)) | apply en_drop | apply en_app) <;> fail)
            · rintro ⟨f1, p1⟩ ht
              simp only at ht
              dsimp only
              (repeat first | refine G_seq ?_ | refine G_skip ?_ | refine G_endblk ?_ | refine G_block ?_ | refine G_exit rfl ?_)
              refine G_region ?_
              refine GO_q rfl rfl (ev_move rfl) ?_
              refine GO_q rfl rfl (ev_move rfl) ?_
              (first | refine GO_q rfl rfl (ev_nilCheck rfl) ?_ | refine GO_q rfl rfl (ev_nilCheckF (by simp) rfl) ?_)
              refine GO_q rfl rfl (ev_fieldAddr rfl) ?_
              refine GO_q rfl rfl (ev_fieldAddr rfl) ?_
              refine GO_q rfl rfl (ev_load rfl (by repeat' first | exact Ld.blk rfl | assumption | apply Ld.skip | apply Ld.app)) ?_
              refine GO_q rfl rfl (ev_geq rfl rfl) ?_
              refine GO_nil ?_
              by_cases hx : s.x ≤ x2
              · skip
                (repeat first | refine G_seq ?_ | refine G_skip ?_ | refine G_endblk ?_ | refine G_block ?_ | refine G_exit rfl ?_)
                refine G_cond_t rfl (decide_eq_true hx) ?_
                (repeat first | refine G_seq ?_ | refine G_skip ?_ | refine G_endblk ?_ | refine G_block ?_ | refine G_exit rfl ?_)
                refine G_region ?_
                refine GO_q rfl rfl (ev_move rfl) ?_
                (first | refine GO_q rfl rfl (ev_nilCheck rfl) ?_ | refine GO_q rfl rfl (ev_nilCheckF (by simp) rfl) ?_)
                refine GO_q rfl rfl (ev_fieldAddr rfl) ?_
                refine GO_q rfl rfl (ev_load rfl (by repeat' first | exact Ld.blk rfl | assumption | apply Ld.skip | apply Ld.app)) ?_
                refine GO_q rfl rfl (ev_move rfl) ?_
                refine GO_q rfl rfl (ev_move rfl) ?_
                refine GO_q rfl rfl (ev_move rfl) ?_
                refine GO_q rfl rfl (ev_move rfl) ?_
                refine GO_eff rfl rfl (eff_call rfl (Ctr.pre (M := blk c 39 [.int .i64 p1.id, .int .i64 p1.x, .int .i64 p1.y] :: blk d 4 [.bool f1] :: F :: L) (by (repeat first | exact en_refl | (apply en_blk; focus ((repeat' first | exact Pick.here | apply Pick.skip | apply Pick.app); done); focus rfl) | (apply en_own; focus ((repeat' first | exact Pick.here | apply Pick.skip | apply Pick.app); done); focus rfl) | (apply en_pick; focus ((repeat' first | exact Pick.here | apply Pick.skip | apply Pick.app); done)) | apply en_drop | apply en_app) <;> fail) (ih2 c d f1 p1 _ hin.2.2.skip))) ?_; rintro _ _ ⟨f2, p2, rfl, ht2, rfl⟩
                refine GO_nil ?_
                (repeat first | refine G_seq ?_ | refine G_skip ?_ | refine G_endblk ?_ | refine G_block ?_ | refine G_exit rfl ?_)
                exact G_end (L' := blk c 39 [.int .i64 p2.id, .int .i64 p2.x, .int .i64 p2.y] :: blk d 4 [.bool f2] :: L) rfl .nil (by (repeat first | exact en_refl | (apply en_blk; focus ((repeat' first | exact Pick.here | apply Pick.skip | apply Pick.app); done); focus rfl) | (apply en_own; focus ((repeat' first | exact Pick.here | apply Pick.skip | apply Pick.app); done); focus rfl) | (apply en_pick; focus ((repeat' first | exact Pick.here | apply Pick.skip | apply Pick.app); done)) | apply en_drop | apply en_app) <;> fail) ⟨f2, p2, rfl, Top.cons hs1 (ht.app ht2), rfl⟩
              · skip
                (repeat first | refine G_seq ?_ | refine G_skip ?_ | refine G_endblk ?_ | refine G_block ?_ | refine G_exit rfl ?_)
                refine G_cond_f rfl (decide_eq_false hx) ?_
                (repeat first | refine G_seq ?_ | refine G_skip ?_ | refine G_endblk ?_ | refine G_block ?_ | refine G_exit rfl ?_)
                exact G_end (L' := blk c 39 [.int .i64 p1.id, .int .i64 p1.x, .int .i64 p1.y] :: blk d 4 [.bool f1] :: L) rfl .nil (by (repeat first | exact en_refl | (apply en_blk; focus ((repeat' first | exact Pick.here | apply Pick.skip | apply Pick.app); done); focus rfl) | (apply en_own; focus ((repeat' first | exact Pick.here | apply Pick.skip | apply Pick.app); done); focus rfl) | (apply en_pick; focus ((repeat' first | exact Pick.here | apply Pick.skip | apply Pick.app); done)) | apply en_drop | apply en_app) <;> fail) ⟨f1, p1, rfl, Top.cons hs1 (ht.app (Top.out fun r hr => by have := hhi r hr; rw [← Bool.not_eq_true, sel_true]; omega)), rfl⟩
def TopR (x1 x2 : Int) (l : List Pt) (v : Value) : Prop := ∃ (f : Bool) (p : Pt), v = .tuple #[p.v, .bool f] ∧ Top x1 x2 l false ⟨0, 0, 0⟩ f p
theorem PHighest_ctr0 (b : Nat) (x : PA) (most : Int) (x1 x2 : Int) (L : List HP) (h : LdN L b 0 2 (treeC x most)) (hx : PIn L x) (hok : x.t.Ok) :
    Ctr Try.prog 38 #[.pointer (some ⟨b, 0, none⟩), .int .i64 x1, .int .i64 x2] L fun v L' => TopR x1 x2 x.t.els v ∧ L' = L := by
  refine Ctr_of (fn := Try.f38) (n := 15) Try.func38 rfl rfl rfl ?_
  intro g F
  (repeat first | refine G_seq ?_ | refine G_skip ?_ | refine G_endblk ?_ | refine G_block ?_ | refine G_exit rfl ?_)
  refine G_region ?_
  refine GO_eff rfl rfl eff_alloc ?_; rintro _ _ ⟨b6, rfl, rfl⟩
  refine GO_eff rfl rfl eff_alloc ?_; rintro _ _ ⟨b7, rfl, rfl⟩
  refine GO_nil ?_
  (repeat first | refine G_seq ?_ | refine G_skip ?_ | refine G_endblk ?_ | refine G_block ?_ | refine G_exit rfl ?_)
  refine G_region ?_
  refine GO_q rfl rfl (ev_move rfl) ?_
  refine GO_eff rfl rfl (eff_call rfl (top_ctr b x most _ h.skip.skip.skip)) ?_; rintro _ _ ⟨rfl, rfl⟩
  refine GO_q rfl rfl (ev_move rfl) ?_
  refine GO_q rfl rfl (ev_move rfl) ?_
  refine GO_eff rfl rfl (eff_call rfl (Ctr.pre (M := blk b6 39 [.int .i64 (⟨0, 0, 0⟩ : Pt).id, .int .i64 (⟨0, 0, 0⟩ : Pt).x, .int .i64 (⟨0, 0, 0⟩ : Pt).y] :: blk b7 4 [.bool false] :: F :: L) (by (repeat first | exact en_refl | (apply en_blk; focus ((repeat' first | exact Pick.here | apply Pick.skip | apply Pick.app); done); focus rfl) | (apply en_own; focus ((repeat' first | exact Pick.here | apply Pick.skip | apply Pick.app); done); focus rfl) | (apply en_pick; focus ((repeat' first | exact Pick.here | apply Pick.skip | apply Pick.app); done)) | apply en_drop | apply en_app) <;> fail) (highest_ctr x1 x2 x b6 b7 false ⟨0, 0, 0⟩ _ hx.skip hok))) ?_; rintro _ _ ⟨f1, p1, rfl, ht, rfl⟩
  refine GO_nil ?_
  (repeat first | refine G_seq ?_ | refine G_skip ?_ | refine G_endblk ?_ | refine G_block ?_ | refine G_exit rfl ?_)
  refine G_region ?_
  refine GO_q rfl rfl (ev_loadN rfl (by repeat' first | exact LdN.blk rfl | assumption | apply LdN.skip | apply LdN.app)) ?_
  refine GO_q rfl rfl (ev_load rfl (by repeat' first | exact Ld.blk rfl | assumption | apply Ld.skip | apply Ld.app)) ?_
  refine GO_eff rfl rfl (eff_storeN rfl rfl rfl rfl (by repeat' first | exact Upd.here rfl | apply Upd.skip | apply Upd.app)) ?_; rintro _ _ ⟨rfl, rfl⟩
  refine GO_eff rfl rfl (eff_store rfl rfl rfl (by repeat' first | exact Upd.here rfl | apply Upd.skip | apply Upd.app)) ?_; rintro _ _ ⟨rfl, rfl⟩
  refine GO_nil ?_
  (repeat first | refine G_seq ?_ | refine G_skip ?_ | refine G_endblk ?_ | refine G_block ?_ | refine G_exit rfl ?_)
  refine G_ret rfl (.cell rfl (loadN_run (by repeat' first | exact LdN.blk rfl | assumption | apply LdN.skip | apply LdN.app)) (.cell rfl (load_run (by repeat' first | exact Ld.blk rfl | assumption | apply Ld.skip | apply Ld.app)) .nil)) (by (repeat first | exact fun _ s => s | apply en_keep | apply en_drop | apply en_app) <;> fail) ⟨⟨f1, p1, rfl, ht⟩, rfl⟩
theorem PHighest_ctr (b : Nat) (most : Int) (l : List Pt) (x1 x2 : Int) (L : List HP) : Ctr Try.prog 38 #[.pointer (some ⟨b, 0, none⟩), .int .i64 x1, .int .i64 x2] (treeS b most l :: L) fun v L' => (∃ m : List Pt, m.Perm l ∧ TopR x1 x2 m v) ∧ L' = treeS b most l :: L :=
  Ctr.tree0 (R := fun v => ∃ m : List Pt, m.Perm l ∧ TopR x1 x2 m v) fun x L' o h hx => (PHighest_ctr0 b x most x1 x2 L' h hx o.ok).mono fun v L'' ⟨e1, e2⟩ => ⟨⟨_, o.perm, e1⟩, e2⟩
theorem up_pos (p q : Pt) : 0 < up p q ↔ und q p = true := by
  rw [und_iff]
  exact Pt.cmp_gt _ _
theorem RHighest_ctr0 (b : Nat) (A : Option Addr) (c : Nat) (most : Int) (x1 x2 : Int) (l : List Pt) (L : List HP) (h : LdN L b 0 2 [.slice A l.length c, .int .i64 most]) (hl : Rd L A l.length l) (hn : l.length ≤ 100000) :
    Ctr Try.prog 39 #[.pointer (some ⟨b, 0, none⟩), .int .i64 x1, .int .i64 x2] L fun v L' => TopR x1 x2 l v ∧ L' = L := by
  have h1 : Ld L ⟨b, 0 + 0, none⟩ (.slice A l.length c) := h.at_ (i := 0) rfl
  refine Ctr_of (fn := Try.f39) (n := 62) Try.func39 rfl rfl rfl ?_
  intro g F
  (repeat first | refine G_seq ?_ | refine G_skip ?_ | refine G_endblk ?_ | refine G_block ?_ | refine G_exit rfl ?_)
  refine G_region ?_
  refine GO_eff rfl rfl eff_alloc ?_; rintro _ _ ⟨b6, rfl, rfl⟩
  refine GO_q rfl rfl (ev_assign rfl) ?_
  refine GO_nil ?_
  (repeat first | refine G_seq ?_ | refine G_skip ?_ | refine G_endblk ?_ | refine G_block ?_ | refine G_exit rfl ?_)
  refine G_region ?_
  refine GO_q rfl rfl (ev_build rfl rfl) ?_
  refine GO_eff rfl rfl eff_alloc ?_; rintro _ _ ⟨b8, rfl, rfl⟩
  refine GO_eff rfl rfl (eff_storeN rfl rfl rfl rfl (by repeat' first | exact Upd.here rfl | apply Upd.skip | apply Upd.app)) ?_; rintro _ _ ⟨rfl, rfl⟩
  refine GO_q rfl rfl (ev_assign rfl) ?_
  refine GO_nil ?_
  (repeat first | refine G_seq ?_ | refine G_skip ?_ | refine G_endblk ?_ | refine G_block ?_ | refine G_exit rfl ?_)
  refine G_region ?_
  refine GO_q rfl rfl (ev_assign rfl) ?_
  refine GO_nil ?_
  (repeat first | refine G_seq ?_ | refine G_skip ?_ | refine G_endblk ?_ | refine G_block ?_ | refine G_exit rfl ?_)
  refine G_loop (ι := Nat × Bool × Pt) (fun x => [(0, .pointer (some ⟨b, 0, none⟩)), (1, .int .i64 x1), (2, .int .i64 x2), (6, .pointer (some ⟨b6, 0, none⟩)), (8, .pointer (some ⟨b8, 0, none⟩)), (9, .bool x.2.1), (10, .int .i64 (x.1 : Nat))]) (fun x => blk b8 39 [.int .i64 x.2.2.id, .int .i64 x.2.2.x, .int .i64 x.2.2.y] :: blk b6 39 [.int .i64 0, .int .i64 0, .int .i64 0] :: F :: L)
    (fun x => x.1 ≤ l.length ∧ Top x1 x2 (l.take x.1) false ⟨0, 0, 0⟩ x.2.1 x.2.2) (fun x => l.length - x.1) (0, false, ⟨0, 0, 0⟩) ⟨Nat.zero_le _, Top.out (fun _ h => by cases h)⟩ ⟨rfl, rfl, rfl, rfl, rfl, rfl, rfl, trivial⟩ (by (repeat first | exact en_refl | (apply en_blk; focus ((repeat' first | exact Pick.here | apply Pick.skip | apply Pick.app); done); focus rfl) | (apply en_own; focus ((repeat' first | exact Pick.here | apply Pick.skip | apply Pick.app); done); focus rfl) | (apply en_pick; focus ((repeat' first | exact Pick.here | apply Pick.skip | apply Pick.app); done)) | apply en_drop | apply en_app) <;> fail) ?_
  rintro ⟨k, f, p⟩ ⟨f1, f2⟩
  simp only at f1 f2
  dsimp only
  (repeat first | refine G_seq ?_ | refine G_skip ?_ | refine G_endblk ?_ | refine G_block ?_ | refine G_exit rfl ?_)
  refine G_region ?_
  refine GO_q rfl rfl (ev_move rfl) ?_
  refine GO_q rfl rfl (ev_move rfl) ?_
  (first | refine GO_q rfl rfl (ev_nilCheck rfl) ?_ | refine GO_q rfl rfl (ev_nilCheckF (by simp) rfl) ?_)
  refine GO_q rfl rfl (ev_fieldAddr rfl) ?_
  refine GO_q rfl rfl (ev_load rfl (by repeat' first | exact Ld.blk rfl | assumption | apply Ld.skip | apply Ld.app)) ?_
  refine GO_q rfl rfl (ev_len rfl) ?_
  (first | refine GO_q rfl rfl (ev_lssN rfl rfl) ?_ | refine GO_q rfl rfl (ev_lss rfl rfl) ?_)
  refine GO_nil ?_
  (repeat first | refine G_seq ?_ | refine G_skip ?_ | refine G_endblk ?_ | refine G_block ?_ | refine G_exit rfl ?_)
  refine G_cond rfl (fun h4 => ?_) (fun h4 => ?_)
  · obtain ⟨lb, lo, rfl, hx⟩ := hl.at_ (by omega)
    have g1 : l[k]? = some l[k] := List.getElem?_eq_getElem (by omega)
    have y1 := hx _ _ g1
    have s1 : l.take (k + 1) = l.take k ++ [l[k]] := List.take_succ_eq_append_getElem (by omega)
    generalize l[k] = u at *
    have z1 : LdN L lb (lo + k * 3) 3 [.int .i64 u.id, .int .i64 u.x, .int .i64 u.y] := y1
    (repeat first | refine G_seq ?_ | refine G_skip ?_ | refine G_endblk ?_ | refine G_block ?_ | refine G_exit rfl ?_)
    refine G_region ?_
    refine GO_q rfl rfl (ev_move rfl) ?_
    (first | refine GO_q rfl rfl (ev_nilCheck rfl) ?_ | refine GO_q rfl rfl (ev_nilCheckF (by simp) rfl) ?_)
    refine GO_q rfl rfl (ev_fieldAddr rfl) ?_
    refine GO_q rfl rfl (ev_load rfl (by repeat' first | exact Ld.blk rfl | assumption | apply Ld.skip | apply Ld.app)) ?_
    refine GO_q rfl rfl (ev_move rfl) ?_
    (first | refine GO_q rfl rfl (ev_indexAddrN rfl rfl (by first | omega | (simp; done) | (simp; omega))) ?_ | refine GO_q rfl rfl (ev_indexAddr rfl rfl (by first | omega | (simp; done) | (simp; omega)) (by first | omega | (simp; done) | (simp; omega))) ?_)
    refine GO_q rfl rfl (ev_loadN rfl (by repeat' first | exact LdN.blk rfl | assumption | apply LdN.skip | apply LdN.app)) ?_
    refine GO_eff rfl rfl eff_alloc ?_; rintro _ _ ⟨b11, rfl, rfl⟩
    refine GO_eff rfl rfl (eff_storeN rfl rfl rfl rfl (by repeat' first | exact Upd.here rfl | apply Upd.skip | apply Upd.app)) ?_; rintro _ _ ⟨rfl, rfl⟩
    refine GO_nil ?_
    by_cases hs : sel x1 x2 u = true
    · have hs2 := sel_true.1 hs
      (repeat first | refine G_seq ?_ | refine G_skip ?_ | refine G_endblk ?_ | refine G_block ?_ | refine G_exit rfl ?_)
      refine G_region ?_
      refine GO_q rfl rfl (ev_fieldAddr rfl) ?_
      refine GO_q rfl rfl (ev_load rfl (by repeat' first | exact Ld.blk rfl | assumption | apply Ld.skip | apply Ld.app)) ?_
      refine GO_q rfl rfl (ev_move rfl) ?_
      (first | refine GO_q rfl rfl (ev_lssN rfl rfl) ?_ | refine GO_q rfl rfl (ev_lss rfl rfl) ?_)
      refine GO_q rfl rfl (ev_move rfl) ?_
      refine GO_yes rfl rfl rfl (decide_eq_false (by omega)) ?_
      refine GO_q rfl rfl (ev_fieldAddr rfl) ?_
      refine GO_yes rfl rfl rfl (decide_eq_false (by omega)) ?_
      refine GO_q rfl rfl (ev_load rfl (by repeat' first | exact Ld.blk rfl | assumption | apply Ld.skip | apply Ld.app)) ?_
      refine GO_yes rfl rfl rfl (decide_eq_false (by omega)) ?_
      refine GO_q rfl rfl (ev_move rfl) ?_
      refine GO_yes rfl rfl rfl (decide_eq_false (by omega)) ?_
      refine GO_q rfl rfl (ev_gtr rfl rfl) ?_
      refine GO_q rfl rfl (ev_pick_f rfl (decide_eq_false (by omega)) rfl) ?_
      refine GO_nil ?_
      (repeat first | refine G_seq ?_ | refine G_skip ?_ | refine G_endblk ?_ | refine G_block ?_ | refine G_exit rfl ?_)
      refine G_cond_f rfl (decide_eq_false (by omega)) ?_
      by_cases hb : f = true ∧ und p u = false
      · obtain ⟨rfl, hu⟩ := hb
        have hup : u = p ∨ und u p = true := by
          by_cases e : p = u
          · exact .inl e.symm
          · exact .inr (und_total e hu)
        (repeat first | refine G_seq ?_ | refine G_skip ?_ | refine G_endblk ?_ | refine G_block ?_ | refine G_exit rfl ?_)
        refine G_region ?_
        refine GO_q rfl rfl (ev_move rfl) ?_
        (first | refine GO_q rfl rfl (ev_notP rfl) ?_ | refine GO_q rfl rfl (ev_not rfl) ?_)
        refine GO_q rfl rfl (ev_move rfl) ?_
        refine GO_yes rfl rfl rfl rfl ?_
        refine GO_q rfl rfl (ev_fieldAddr rfl) ?_
        refine GO_yes rfl rfl rfl rfl ?_
        refine GO_q rfl rfl (ev_load rfl (by repeat' first | exact Ld.blk rfl | assumption | apply Ld.skip | apply Ld.app)) ?_
        refine GO_yes rfl rfl rfl rfl ?_
        refine GO_q rfl rfl (ev_fieldAddr rfl) ?_
        refine GO_yes rfl rfl rfl rfl ?_
        refine GO_q rfl rfl (ev_load rfl (by repeat' first | exact Ld.blk rfl | assumption | apply Ld.skip | apply Ld.app)) ?_
        refine GO_yes rfl rfl rfl rfl ?_
        refine GO_q rfl rfl (ev_fieldAddr rfl) ?_
        refine GO_yes rfl rfl rfl rfl ?_
        refine GO_q rfl rfl (ev_load rfl (by repeat' first | exact Ld.blk rfl | assumption | apply Ld.skip | apply Ld.app)) ?_
        refine GO_yes rfl rfl rfl rfl ?_
        refine GO_q rfl rfl (ev_buildA rfl rfl) ?_
        refine GO_yes rfl rfl rfl rfl ?_
        refine GO_q rfl rfl (ev_fieldAddr rfl) ?_
        refine GO_yes rfl rfl rfl rfl ?_
        refine GO_q rfl rfl (ev_load rfl (by repeat' first | exact Ld.blk rfl | assumption | apply Ld.skip | apply Ld.app)) ?_
        refine GO_yes rfl rfl rfl rfl ?_
        refine GO_q rfl rfl (ev_fieldAddr rfl) ?_
        refine GO_yes rfl rfl rfl rfl ?_
        refine GO_q rfl rfl (ev_load rfl (by repeat' first | exact Ld.blk rfl | assumption | apply Ld.skip | apply Ld.app)) ?_
        refine GO_yes rfl rfl rfl rfl ?_
        refine GO_q rfl rfl (ev_fieldAddr rfl) ?_
        refine GO_yes rfl rfl rfl rfl ?_
        refine GO_q rfl rfl (ev_load rfl (by repeat' first | exact Ld.blk rfl | assumption | apply Ld.skip | apply Ld.app)) ?_
        refine GO_yes rfl rfl rfl rfl ?_
        refine GO_q rfl rfl (ev_buildA rfl rfl) ?_
        refine GO_yes rfl rfl rfl rfl ?_
        refine GO_eff rfl rfl (eff_call rfl (Three_ctr u.y u.x u.id p.y p.x p.id _)) ?_; rintro _ _ ⟨rfl, rfl⟩
        refine GO_yes rfl rfl rfl rfl ?_
        refine GO_q rfl rfl (ev_gtr rfl rfl) ?_
        refine GO_q rfl rfl (ev_pick_f rfl rfl rfl) ?_
        refine GO_nil ?_
        (repeat first | refine G_seq ?_ | refine G_skip ?_ | refine G_endblk ?_ | refine G_block ?_ | refine G_exit rfl ?_)
        refine G_cond_f rfl (decide_eq_false (by rw [three_up, up_pos, hu]; decide)) ?_
        (repeat first | refine G_seq ?_ | refine G_skip ?_ | refine G_endblk ?_ | refine G_block ?_ | refine G_exit rfl ?_)
        refine G_region ?_
        refine GO_q rfl rfl (ev_move rfl) ?_
        (first | refine GO_q rfl rfl (ev_addN (q := 1) rfl rfl (by first | omega | (simp; done) | (simp; omega))) ?_ | refine GO_q rfl rfl (ev_add rfl rfl (by first | omega | (simp; done) | (simp; omega))) ?_)
        refine GO_q rfl rfl (ev_assign rfl) ?_
        refine GO_nil ?_
        (repeat first | refine G_seq ?_ | refine G_skip ?_ | refine G_endblk ?_ | refine G_block ?_ | refine G_exit rfl ?_)
        exact G_round (k + 1, true, p) ⟨by simp only; omega, by simp only; rw [s1]; exact f2.app (Top.low (fun r hr => by rw [List.mem_singleton.1 hr]; exact hup))⟩ (by simp only; omega) ⟨rfl, rfl, rfl, rfl, rfl, rfl, rfl, trivial⟩ (by (repeat first | exact en_refl | (apply en_blk; focus ((repeat' first | exact Pick.here | apply Pick.skip | apply Pick.app); done); focus rfl) | (apply en_own; focus ((repeat' first | exact Pick.here | apply Pick.skip | apply Pick.app); done); focus rfl) | (apply en_pick; focus ((repeat' first | exact Pick.here | apply Pick.skip | apply Pick.app); done)) | apply en_drop | apply en_app) <;> fail)
      · have hk : f = true → und p u = true := fun e => by
          cases hu : und p u with
          | true => rfl
          | false => exact absurd ⟨e, hu⟩ hb
        by_cases hfe : f = true
        case' pos =>
          have hu := hk hfe
          (repeat first | refine G_seq ?_ | refine G_skip ?_ | refine G_endblk ?_ | refine G_block ?_ | refine G_exit rfl ?_)
          refine G_region ?_
          refine GO_q rfl rfl (ev_move rfl) ?_
          (first | refine GO_q rfl rfl (ev_notP rfl) ?_ | refine GO_q rfl rfl (ev_not rfl) ?_)
          refine GO_q rfl rfl (ev_move rfl) ?_
          refine GO_yes rfl rfl rfl (by simp [hfe]) ?_
          refine GO_q rfl rfl (ev_fieldAddr rfl) ?_
          refine GO_yes rfl rfl rfl (by simp [hfe]) ?_
          refine GO_q rfl rfl (ev_load rfl (by repeat' first | exact Ld.blk rfl | assumption | apply Ld.skip | apply Ld.app)) ?_
          refine GO_yes rfl rfl rfl (by simp [hfe]) ?_
          refine GO_q rfl rfl (ev_fieldAddr rfl) ?_
          refine GO_yes rfl rfl rfl (by simp [hfe]) ?_
          refine GO_q rfl rfl (ev_load rfl (by repeat' first | exact Ld.blk rfl | assumption | apply Ld.skip | apply Ld.app)) ?_
          refine GO_yes rfl rfl rfl (by simp [hfe]) ?_
          refine GO_q rfl rfl (ev_fieldAddr rfl) ?_
          refine GO_yes rfl rfl rfl (by simp [hfe]) ?_
          refine GO_q rfl rfl (ev_load rfl (by repeat' first | exact Ld.blk rfl | assumption | apply Ld.skip | apply Ld.app)) ?_
          refine GO_yes rfl rfl rfl (by simp [hfe]) ?_
          refine GO_q rfl rfl (ev_buildA rfl rfl) ?_
          refine GO_yes rfl rfl rfl (by simp [hfe]) ?_
          refine GO_q rfl rfl (ev_fieldAddr rfl) ?_
          refine GO_yes rfl rfl rfl (by simp [hfe]) ?_
          refine GO_q rfl rfl (ev_load rfl (by repeat' first | exact Ld.blk rfl | assumption | apply Ld.skip | apply Ld.app)) ?_
          refine GO_yes rfl rfl rfl (by simp [hfe]) ?_
          refine GO_q rfl rfl (ev_fieldAddr rfl) ?_
          refine GO_yes rfl rfl rfl (by simp [hfe]) ?_
          refine GO_q rfl rfl (ev_load rfl (by repeat' first | exact Ld.blk rfl | assumption | apply Ld.skip | apply Ld.app)) ?_
          refine GO_yes rfl rfl rfl (by simp [hfe]) ?_
          refine GO_q rfl rfl (ev_fieldAddr rfl) ?_
          refine GO_yes rfl rfl rfl (by simp [hfe]) ?_
          refine GO_q rfl rfl (ev_load rfl (by repeat' first | exact Ld.blk rfl | assumption | apply Ld.skip | apply Ld.app)) ?_
          refine GO_yes rfl rfl rfl (by simp [hfe]) ?_
          refine GO_q rfl rfl (ev_buildA rfl rfl) ?_
          refine GO_yes rfl rfl rfl (by simp [hfe]) ?_
          refine GO_eff rfl rfl (eff_call rfl (Three_ctr u.y u.x u.id p.y p.x p.id _)) ?_; rintro _ _ ⟨rfl, rfl⟩
          refine GO_yes rfl rfl rfl (by simp [hfe]) ?_
          refine GO_q rfl rfl (ev_gtr rfl rfl) ?_
          refine GO_q rfl rfl (ev_pick_f rfl (by simp [hfe]) rfl) ?_
          refine GO_nil ?_
          (repeat first | refine G_seq ?_ | refine G_skip ?_ | refine G_endblk ?_ | refine G_block ?_ | refine G_exit rfl ?_)
          refine G_cond_t rfl (decide_eq_true (by rw [three_up, up_pos]; exact hu)) ?_
        case' neg =>
          have hfe2 : f = false := by simpa using hfe
          (repeat first | refine G_seq ?_ | refine G_skip ?_ | refine G_endblk ?_ | refine G_block ?_ | refine G_exit rfl ?_)
          refine G_region ?_
          refine GO_q rfl rfl (ev_move rfl) ?_
          (first | refine GO_q rfl rfl (ev_notP rfl) ?_ | refine GO_q rfl rfl (ev_not rfl) ?_)
          refine GO_q rfl rfl (ev_move rfl) ?_
          refine GO_no rfl rfl rfl (by simp [hfe2]) ?_
          refine GO_no rfl rfl rfl (by simp [hfe2]) ?_
          refine GO_no rfl rfl rfl (by simp [hfe2]) ?_
          refine GO_no rfl rfl rfl (by simp [hfe2]) ?_
          refine GO_no rfl rfl rfl (by simp [hfe2]) ?_
          refine GO_no rfl rfl rfl (by simp [hfe2]) ?_
          refine GO_no rfl rfl rfl (by simp [hfe2]) ?_
          refine GO_no rfl rfl rfl (by simp [hfe2]) ?_
          refine GO_no rfl rfl rfl (by simp [hfe2]) ?_
          refine GO_no rfl rfl rfl (by simp [hfe2]) ?_
          refine GO_no rfl rfl rfl (by simp [hfe2]) ?_
          refine GO_no rfl rfl rfl (by simp [hfe2]) ?_
          refine GO_no rfl rfl rfl (by simp [hfe2]) ?_
          refine GO_no rfl rfl rfl (by simp [hfe2]) ?_
          refine GO_no rfl rfl rfl (by simp [hfe2]) ?_
          refine GO_no rfl rfl rfl (by simp [hfe2]) ?_
          refine GO_q rfl rfl (ev_pick_t rfl (by simp [hfe2]) rfl) ?_
          refine GO_nil ?_
          (repeat first | refine G_seq ?_ | refine G_skip ?_ | refine G_endblk ?_ | refine G_block ?_ | refine G_exit rfl ?_)
          refine G_cond_t rfl rfl ?_
        all_goals
          (repeat first | refine G_seq ?_ | refine G_skip ?_ | refine G_endblk ?_ | refine G_block ?_ | refine G_exit rfl ?_)
          refine G_region ?_
          refine GO_q rfl rfl (ev_loadN rfl (by repeat' first | exact LdN.blk rfl | assumption | apply LdN.skip | apply LdN.app)) ?_
          refine GO_eff rfl rfl (eff_storeN rfl rfl rfl rfl (by repeat' first | exact Upd.here rfl | apply Upd.skip | apply Upd.app)) ?_; rintro _ _ ⟨rfl, rfl⟩
          refine GO_q rfl rfl (ev_assign rfl) ?_
          refine GO_nil ?_
          (repeat first | refine G_seq ?_ | refine G_skip ?_ | refine G_endblk ?_ | refine G_block ?_ | refine G_exit rfl ?_)
          refine G_region ?_
          refine GO_q rfl rfl (ev_move rfl) ?_
          (first | refine GO_q rfl rfl (ev_addN (q := 1) rfl rfl (by first | omega | (simp; done) | (simp; omega))) ?_ | refine GO_q rfl rfl (ev_add rfl rfl (by first | omega | (simp; done) | (simp; omega))) ?_)
          refine GO_q rfl rfl (ev_assign rfl) ?_
          refine GO_nil ?_
          (repeat first | refine G_seq ?_ | refine G_skip ?_ | refine G_endblk ?_ | refine G_block ?_ | refine G_exit rfl ?_)
          exact G_round (k + 1, true, u) ⟨by simp only; omega, by simp only; rw [s1]; exact f2.app (Top.new (List.mem_singleton.2 rfl) hs (fun r hr => .inl (List.mem_singleton.1 hr)) hk)⟩ (by simp only; omega) ⟨rfl, rfl, rfl, rfl, rfl, rfl, rfl, trivial⟩ (by (repeat first | exact en_refl | (apply en_blk; focus ((repeat' first | exact Pick.here | apply Pick.skip | apply Pick.app); done); focus rfl) | (apply en_own; focus ((repeat' first | exact Pick.here | apply Pick.skip | apply Pick.app); done); focus rfl) | (apply en_pick; focus ((repeat' first | exact Pick.here | apply Pick.skip | apply Pick.app); done)) | apply en_drop | apply en_app) <;> fail)
    · have hs1 : sel x1 x2 u = false := by simpa using hs
      by_cases hx1 : u.x < x1
      case' pos =>
        (repeat first | refine G_seq ?_ | refine G_skip ?_ | refine G_endblk ?_ | refine G_block ?_ | refine G_exit rfl ?_)
        refine G_region ?_
        refine GO_q rfl rfl (ev_fieldAddr rfl) ?_
        refine GO_q rfl rfl (ev_load rfl (by repeat' first | exact Ld.blk rfl | assumption | apply Ld.skip | apply Ld.app)) ?_
        refine GO_q rfl rfl (ev_move rfl) ?_
        (first | refine GO_q rfl rfl (ev_lssN rfl rfl) ?_ | refine GO_q rfl rfl (ev_lss rfl rfl) ?_)
        refine GO_q rfl rfl (ev_move rfl) ?_
        refine GO_no rfl rfl rfl (decide_eq_true hx1) ?_
        refine GO_no rfl rfl rfl (decide_eq_true hx1) ?_
        refine GO_no rfl rfl rfl (decide_eq_true hx1) ?_
        refine GO_no rfl rfl rfl (decide_eq_true hx1) ?_
        refine GO_q rfl rfl (ev_pick_t rfl (decide_eq_true hx1) rfl) ?_
        refine GO_nil ?_
        (repeat first | refine G_seq ?_ | refine G_skip ?_ | refine G_endblk ?_ | refine G_block ?_ | refine G_exit rfl ?_)
        refine G_cond_t rfl rfl ?_
      case' neg =>
        (repeat first | refine G_seq ?_ | refine G_skip ?_ | refine G_endblk ?_ | refine G_block ?_ | refine G_exit rfl ?_)
        refine G_region ?_
        refine GO_q rfl rfl (ev_fieldAddr rfl) ?_
        refine GO_q rfl rfl (ev_load rfl (by repeat' first | exact Ld.blk rfl | assumption | apply Ld.skip | apply Ld.app)) ?_
        refine GO_q rfl rfl (ev_move rfl) ?_
        (first | refine GO_q rfl rfl (ev_lssN rfl rfl) ?_ | refine GO_q rfl rfl (ev_lss rfl rfl) ?_)
        refine GO_q rfl rfl (ev_move rfl) ?_
        refine GO_yes rfl rfl rfl (decide_eq_false hx1) ?_
        refine GO_q rfl rfl (ev_fieldAddr rfl) ?_
        refine GO_yes rfl rfl rfl (decide_eq_false hx1) ?_
        refine GO_q rfl rfl (ev_load rfl (by repeat' first | exact Ld.blk rfl | assumption | apply Ld.skip | apply Ld.app)) ?_
        refine GO_yes rfl rfl rfl (decide_eq_false hx1) ?_
        refine GO_q rfl rfl (ev_move rfl) ?_
        refine GO_yes rfl rfl rfl (decide_eq_false hx1) ?_
        refine GO_q rfl rfl (ev_gtr rfl rfl) ?_
        refine GO_q rfl rfl (ev_pick_f rfl (decide_eq_false hx1) rfl) ?_
        refine GO_nil ?_
        (repeat first | refine G_seq ?_ | refine G_skip ?_ | refine G_endblk ?_ | refine G_block ?_ | refine G_exit rfl ?_)
        refine G_cond_t rfl (decide_eq_true (by rw [sel_true] at hs; omega)) ?_
      all_goals
        (repeat first | refine G_seq ?_ | refine G_skip ?_ | refine G_endblk ?_ | refine G_block ?_ | refine G_exit rfl ?_)
        (repeat first | refine G_seq ?_ | refine G_skip ?_ | refine G_endblk ?_ | refine G_block ?_ | refine G_exit rfl ?_)
        refine G_region ?_
        refine GO_q rfl rfl (ev_move rfl) ?_
        (first | refine GO_q rfl rfl (ev_addN (q := 1) rfl rfl (by first | omega | (simp; done) | (simp; omega))) ?_ | refine GO_q rfl rfl (ev_add rfl rfl (by first | omega | (simp; done) | (simp; omega))) ?_)
        refine GO_q rfl rfl (ev_assign rfl) ?_
        refine GO_nil ?_
        (repeat first | refine G_seq ?_ | refine G_skip ?_ | refine G_endblk ?_ | refine G_block ?_ | refine G_exit rfl ?_)
        exact G_round (k + 1, f, p) ⟨by simp only; omega, by simp only; rw [s1]; exact f2.app (Top.out (fun r hr => by rw [List.mem_singleton.1 hr]; exact hs1))⟩ (by simp only; omega) ⟨rfl, rfl, rfl, rfl, rfl, rfl, rfl, trivial⟩ (by (repeat first | exact en_refl | (apply en_blk; focus ((repeat' first | exact Pick.here | apply Pick.skip | apply Pick.app); done); focus rfl) | (apply en_own; focus ((repeat' first | exact Pick.here | apply Pick.skip | apply Pick.app); done); focus rfl) | (apply en_pick; focus ((repeat' first | exact Pick.here | apply Pick.skip | apply Pick.app); done)) | apply en_drop | apply en_app) <;> fail)
  · have e : k = l.length := by omega
    subst e
    rw [List.take_length] at f2
    (repeat first | refine G_seq ?_ | refine G_skip ?_ | refine G_endblk ?_ | refine G_block ?_ | refine G_exit rfl ?_)
    refine G_region ?_
    refine GO_q rfl rfl (ev_loadN rfl (by repeat' first | exact LdN.blk rfl | assumption | apply LdN.skip | apply LdN.app)) ?_
    refine GO_q rfl rfl (ev_move rfl) ?_
    refine GO_eff rfl rfl (eff_storeN rfl rfl rfl rfl (by repeat' first | exact Upd.here rfl | apply Upd.skip | apply Upd.app)) ?_; rintro _ _ ⟨rfl, rfl⟩
    refine GO_q rfl rfl (ev_assign rfl) ?_
    refine GO_nil ?_
    (repeat first | refine G_seq ?_ | refine G_skip ?_ | refine G_endblk ?_ | refine G_block ?_ | refine G_exit rfl ?_)
    refine G_ret rfl (.cell rfl (loadN_run (by repeat' first | exact LdN.blk rfl | assumption | apply LdN.skip | apply LdN.app)) (.tmp rfl .nil)) (by (repeat first | exact fun _ s => s | apply en_keep | apply en_drop | apply en_app) <;> fail) ⟨⟨f, p, rfl, f2⟩, rfl⟩
theorem RHighest_ctr (b : Nat) (most : Int) (x1 x2 : Int) (l : List Pt) (L : List HP) (hn : l.length ≤ 100000) : Ctr Try.prog 39 #[.pointer (some ⟨b, 0, none⟩), .int .i64 x1, .int .i64 x2] (setS b most l :: L) fun v L' => TopR x1 x2 l v ∧ L' = setS b most l :: L :=
  Ctr.set0 (R := fun v => TopR x1 x2 l v) fun A c L' h hl => RHighest_ctr0 b A c most x1 x2 l L' h hl hn
end Go.Proofs.Ytalcanejhniepaa
/- What a contract leaves, put otherwise. No program stands in this text. -/
namespace Go.Proofs.Ytalcanejhniepaa
theorem Ctr.post' {P : Program} {f : FuncId} {args : Array Value} {L : List HP} {post post' : Value → List HP → Prop} (h : Ctr P f args L post) (hp : ∀ v L' hm, post v L' → sat L' hm → ∃ M, post' v M ∧ sat M hm) : Ctr P f args L post' := fun g F w hw =>
  (h g F w hw).mono fun e w' ⟨v, L', e1, p, q⟩ => by
    obtain ⟨h1, h2, d, s1, s2, a, l⟩ := q.s
    obtain ⟨M, pm, sm⟩ := hp v L' h2 p l
    exact ⟨v, M, e1, pm, q.g, h1, h2, d, s1, s2, a, sm⟩
theorem Ctr.open {P : Program} {f : FuncId} {args : Array Value} {L : List HP} {A : HP} {ι : Type} {N : ι → List HP} {Fa : ι → Prop} {post : Value → List HP → Prop} (op : ∀ h, A h → ∃ x, Fa x ∧ sat (N x) h) (C : ∀ x, Fa x → Ctr P f args (N x ++ L) post) : Ctr P f args (A :: L) post := fun g F w hw => by
  obtain ⟨h1, h2, d, s1, s2, ha, hl⟩ := hw.s.swap
  obtain ⟨x, fx, nx⟩ := op _ ha
  have hs : sat (N x ++ (F :: L)) w.hm := sat.head (A := fun h => h = h1) (fun _ e => e ▸ nx) ⟨h1, h2, d, s1, s2, rfl, hl⟩
  exact C x fx g F w ⟨hw.g, hs.perm List.perm_middle⟩
end Go.Proofs.Ytalcanejhniepaa
/- A stack of nodes: what lies in memory. -/
namespace Go.Proofs.Ytalcanejhniepaa
set_option linter.unusedVariables false
set_option linter.unusedSimpArgs false

instance encPA : Enc PA := ⟨1, fun x => [.pointer x.addr], fun _ => rfl, fun _ v h => by simp at h; subst h; rfl⟩
/-- A stack at a place. -/
def stkS (b : Nat) (most : Int) (l : List PA) : HP := fun h => ∃ x : Option Addr × Nat, (0 < l.length → ∃ b, x.1 = some ⟨b, 0, none⟩) ∧ sat [blk b 132 [.slice x.1 l.length x.2, .int .i64 most], own 67 1 x.1 l.length x.2 (flat l)] h
theorem stk_open {s : Nat} {most : Int} {l : List PA} {M : List HP} {hm : Hm} (h : sat (stkS s most l :: M) hm) : ∃ A c, (0 < l.length → ∃ b, A = some ⟨b, 0, none⟩) ∧ l.length ≤ c ∧ c ≤ maxLen ∧ sat (blk s 132 [.slice A l.length c, .int .i64 most] :: own 67 1 A l.length c (flat l) :: M) hm := by
  obtain ⟨h1, h2, d, s1, s2, ⟨⟨A, c⟩, hA, q⟩, t⟩ := h
  have q0 := own.facts (L := []) q.tail
  exact ⟨A, c, hA, q0.2.1, q0.2.2.1, sat.head (A := fun h => h = h1) (N := [blk s 132 [.slice A l.length c, .int .i64 most], own 67 1 A l.length c (flat l)]) (fun _ e => e ▸ q) ⟨h1, h2, d, s1, s2, rfl, t⟩⟩
theorem Ctr.stk {P : Program} {f : FuncId} {args : Array Value} {L : List HP} {b : Nat} {most : Int} {l : List PA} {post : Value → List HP → Prop}
    (C : ∀ A c, (0 < l.length → ∃ b, A = some ⟨b, 0, none⟩) → l.length ≤ c → c ≤ maxLen → Ctr P f args (blk b 132 [.slice A l.length c, .int .i64 most] :: own 67 1 A l.length c (flat l) :: L) post) : Ctr P f args (stkS b most l :: L) post := fun g F w hw => by
  obtain ⟨A, c, h1, h2, h3, h4⟩ := stk_open hw.s.swap
  exact C A c h1 h2 h3 g F w ⟨hw.g, h4.perm (List.perm_middle (l₁ := [_, _]))⟩
theorem G_stk {P : Program} {B : Exit → Act → World → Prop} {g : Glob} {n : Nat} {K : List Kt} {σ : Env} {L : List HP} {b : Nat} {most : Int} {l : List PA}
    (h : ∀ A c, (0 < l.length → ∃ b, A = some ⟨b, 0, none⟩) → l.length ≤ c → c ≤ maxLen → G P B g n K σ (blk b 132 [.slice A l.length c, .int .i64 most] :: own 67 1 A l.length c (flat l) :: L)) : G P B g n K σ (stkS b most l :: L) := fun a w hs hw => by
  obtain ⟨A, c, h1, h2, h3, h4⟩ := stk_open hw.s
  exact h A c h1 h2 h3 a w hs ⟨hw.g, h4⟩
theorem en_stk {L M : List HP} {b c : Nat} {A : Option Addr} {most : Int} {l : List PA} (hA : 0 < l.length → ∃ b, A = some ⟨b, 0, none⟩) (f : ∀ h, sat L h → sat (blk b 132 [.slice A l.length c, .int .i64 most] :: own 67 1 A l.length c (flat l) :: M) h) : ∀ h, sat L h → sat (stkS b most l :: M) h := fun h s =>
  sat.fold (N := [_, _]) (fun h q => ⟨(A, c), hA, q⟩) (f h s)
theorem own_of1 {L : List HP} {b c : Nat} {T : TypeId} {u v : Value} {r : List Value} (k1 : (v :: u :: r).length = c * 1) (k2 : 2 ≤ c) (k3 : c ≤ maxLen) : ∀ h, sat (blk b T (u :: v :: r) :: L) h → sat (own T 1 (some ⟨b, 0, none⟩) 2 c [u, v] :: L) h := fun h s => by
  obtain ⟨h1, h2, d, s1, s2, q, z⟩ := s
  exact ⟨h1, h2, d, s1, s2, own.cls (n := 2) (c := c) (sz := 1) (cs := u :: v :: r) q k1 k2 k3, z⟩
theorem sw2 (u v : Value) (r : List Value) : setN (setN (u :: v :: r) (0 + 0 * 1) [v]) (0 + 1 * 1) [u] = v :: u :: r := by
  rw [setN_eq (u :: v :: r) _ _ (by simp), setN_eq _ _ _ (by simp)]
  simp
end Go.Proofs.Ytalcanejhniepaa
