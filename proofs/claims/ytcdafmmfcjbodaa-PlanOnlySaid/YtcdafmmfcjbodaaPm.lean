/- Plan: the law PlanOnly. -/
import Derived.Test.YtcdafmmfcjbodaaPl
namespace Go.Proofs.Ytcdafmmfcjbodaa
attribute [local irreducible] sat
open Go.RowKit
set_option linter.unusedVariables false
set_option linter.unusedSimpArgs false
set_option maxRecDepth 100000

def Qy.m1 (q r : Qy) : Qy := { q with bx := if q.kind ≠ 1 ∧ q.kind ≠ 2 then r.bx else q.bx }
def Qy.m2 (q r : Qy) : Qy := { q.m1 r with wn := if q.kind ≠ 3 ∧ q.kind ≠ 4 then r.wn else q.wn }
def Qy.m3 (q r : Qy) : Qy := { q.m2 r with x := if q.kind < 5 ∨ 7 < q.kind then r.x else q.x }
def Qy.m4 (q r : Qy) : Qy := { q.m3 r with hi := if q.kind ≠ 6 ∧ q.kind ≠ 7 then r.hi else q.hi }
theorem Qy.six (q : Qy) : (q.kind = 1 ∨ q.kind = 2) ∨ (q.kind = 3 ∨ q.kind = 4) ∨ q.kind = 5 ∨ (q.kind = 6 ∨ q.kind = 7) ∨ q.kind < 1 ∨ 7 < q.kind := by omega
theorem Qy.m4_eq (q r : Qy) : q.m4 r = ⟨q.kind, if q.kind ≠ 1 ∧ q.kind ≠ 2 then r.bx else q.bx, if q.kind ≠ 3 ∧ q.kind ≠ 4 then r.wn else q.wn, if q.kind < 5 ∨ 7 < q.kind then r.x else q.x, if q.kind ≠ 6 ∧ q.kind ≠ 7 then r.hi else q.hi⟩ := rfl
theorem Qy.only_mix (q r : Qy) : (q.m4 r).only = q.only := by
  rw [Qy.m4_eq]
  unfold Qy.only
  simp only
  repeat' split
  all_goals first | rfl | omega
theorem Qy.only_only (q : Qy) : q.only.only = q.only := by
  obtain ⟨k, b, w, x, h⟩ := q
  simp only [Qy.only]
  repeat' split
  all_goals first | rfl | (simp_all; done) | omega
theorem Qy.chk_mix (q r : Qy) : (q.m4 r).chk = q.chk := by
  rw [Qy.m4_eq]
  unfold Qy.chk
  simp only
  repeat' split
  all_goals first | rfl | omega
def Qy.fine (q : Qy) : Prop := 1 ≤ q.kind ∧ q.kind ≤ 7
theorem Qy.only_kind (q : Qy) (h : q.fine) : q.only.kind = q.kind := by
  unfold Qy.fine at h
  unfold Qy.only
  repeat' split
  all_goals first | rfl | omega
theorem Qy.chk_only (q : Qy) (h : q.fine) : q.only.chk = q.chk := by
  unfold Qy.fine at h
  unfold Qy.only Qy.chk
  repeat' split
  all_goals first | rfl | (simp_all; done) | (simp_all; omega) | omega
theorem Qy.choice_only (q : Qy) (h : q.fine) : q.only.choice = q.choice := by
  unfold Qy.choice
  rw [q.chk_only h, q.only_kind h]
theorem Qy.cnt_only (q : Qy) (h : q.fine) : q.only.cnt = q.cnt := by
  unfold Qy.cnt
  rw [q.only_kind h]
theorem Qy.pts_only (q : Qy) (h : q.fine) : q.only.pts = q.pts := by
  unfold Qy.pts
  rw [q.only_kind h]
theorem Qy.hit_only (q : Qy) (h : q.fine) (p : Pt) (hp : q.pts = true) : q.only.hit p = q.hit p := by
  unfold Qy.fine at h
  unfold Qy.pts at hp
  rw [decide_eq_true_eq] at hp
  unfold Qy.only Qy.hit
  repeat' split
  all_goals first | rfl | (simp_all; done) | (simp_all; omega) | omega
theorem Qy.met_only (q : Qy) (h : q.fine) (s : Sp) (hp : q.pts = false) : q.only.met s = q.met s := by
  unfold Qy.fine at h
  unfold Qy.pts at hp
  rw [decide_eq_false_iff_not] at hp
  unfold Qy.only Qy.met
  repeat' split
  all_goals first | rfl | (simp_all; done) | (simp_all; omega) | omega
theorem Qy.ids_only (q : Qy) (h : q.fine) (l : List Pt) (s : List Sp) : q.only.ids l s = q.ids l s := by
  have e1 : q.only.pIds l = q.pIds l := by
    unfold Qy.pIds
    congr 2
    funext p
    rw [q.pts_only h]
    cases hp : q.pts with
    | true => rw [q.hit_only h p hp]
    | false => rfl
  have e2 : q.only.sIds s = q.sIds s := by
    unfold Qy.sIds
    congr 2
    funext p
    rw [q.pts_only h]
    cases hp : q.pts with
    | false => rw [q.met_only h p hp]
    | true => rfl
  unfold Qy.ids
  rw [e1, e2]
theorem Qy.n_only (q : Qy) (h : q.fine) (l : List Pt) (s : List Sp) : q.only.n l s = q.n l s := by
  unfold Qy.n
  rw [q.chk_only h, q.ids_only h]
theorem Qy.out_only (q : Qy) (h : q.fine) (l : List Pt) (s : List Sp) : q.only.out l s = q.out l s := by
  unfold Qy.out
  rw [q.chk_only h, q.ids_only h, q.cnt_only h]
theorem Qy.only_none (q : Qy) (h : ¬ q.fine) : q.only = ⟨0, ⟨0, 0, 0, 0⟩, ⟨0, 0, 0⟩, 0, 0⟩ := by
  unfold Qy.fine at h
  unfold Qy.only
  repeat' split
  all_goals first | rfl | omega
theorem planOnly_ctr (q r : Qy) (A B : Option Addr) (n c m d : Nat) (l : List Pt) (s : List Sp) (L : List HP) (hl : Rd L A n l) (hc : n ≤ c) (hc2 : c ≤ maxLen) (hs : Rd L B m s) (hd : m ≤ d) (hd2 : d ≤ maxLen) :
    Ctr Try.prog 6 #[q.v, r.v, .agg #[.slice A n c, .slice B m d]] L fun v L' => v = .bool true ∧ L' = L := by
  have gl : (l.take 40).length ≤ 40 := List.length_take_le _ _
  have gs : (s.take 40).length ≤ 40 := List.length_take_le _ _
  obtain ⟨l1, e1⟩ : ∃ l1, l.take 40 = l1 := ⟨_, rfl⟩
  obtain ⟨s1, e2⟩ : ∃ s1, s.take 40 = s1 := ⟨_, rfl⟩
  have Z1 := Few_ctr A n c l 40
  have Z2 := spans_ctr B m d s
  rw [e1] at Z1 gl
  rw [e2] at Z2 gs
  have eo := q.rOut_eq l1 s1
  have f1 := q.only_mix r
  have f2 := q.only_only
  have f3 := q.chk_mix r
  refine Ctr_of (fn := Try.f6) (n := 131) Try.func6 rfl rfl rfl ?_
  intro g F
  (repeat first | refine G_seq ?_ | refine G_skip ?_ | refine G_endblk ?_ | refine G_block ?_ | refine G_exit rfl ?_)
  refine G_region ?_
  refine GO_eff rfl rfl (eff_box rfl) ?_; rintro _ _ ⟨b3, rfl, rfl⟩
  refine GO_eff rfl rfl (eff_box rfl) ?_; rintro _ _ ⟨b4, rfl, rfl⟩
  refine GO_eff rfl rfl (eff_box rfl) ?_; rintro _ _ ⟨b5, rfl, rfl⟩
  refine GO_q rfl rfl (ev_assign rfl) ?_
  refine GO_nil ?_
  (repeat first | refine G_seq ?_ | refine G_skip ?_ | refine G_endblk ?_ | refine G_block ?_ | refine G_exit rfl ?_)
  refine G_draw (.q 0 (.q 1 (.q 3 (.q 4 (.e 2 (.e 5 (.q 6 (.q 7 .nil)))))))) (by kernel_rfl) (by kernel_rfl) ?_
  refine RS_q retB_noPanic rfl rfl rfl (ev_fieldAddr rfl) ?_
  refine RS_q retB_noPanic rfl rfl rfl (ev_load rfl (by repeat' first | exact Ld.blk rfl | assumption | apply Ld.skip | apply Ld.app)) ?_
  refine RS_q retB_noPanic rfl rfl rfl (ev_fieldAddr rfl) ?_
  refine RS_q retB_noPanic rfl rfl rfl (ev_load rfl (by repeat' first | exact Ld.blk rfl | assumption | apply Ld.skip | apply Ld.app)) ?_
  refine RS_e (RE_eff rfl rfl rfl (eff_call rfl (Ctr.frame [blk b5 54 (cellsL (.agg #[.slice A n c, .slice B m d])), blk b4 37 (cellsL r.v), blk b3 37 (cellsL q.v), F] (Z1 L hl hc hc2 (by omega)) (by (repeat first | exact fun _ s => s | apply en_keep | apply en_drop | apply en_app) <;> fail))) ?_); rintro _ _ ⟨_, ⟨A1, c1, N1, rfl, u1, u2, rfl, u3⟩, rfl⟩; refine ⟨_, fun _ s => s, (by (repeat first | exact fun _ s => s | apply en_keep | apply en_drop | apply en_app) <;> fail), ?_⟩
  refine RS_e (RE_eff rfl rfl rfl (eff_call rfl (Ctr.frame [blk b5 54 (cellsL (.agg #[.slice A n c, .slice B m d])), blk b4 37 (cellsL r.v), blk b3 37 (cellsL q.v), F] (Z2 (N1 ++ L) (by repeat' first | exact Rc.blk rfl | assumption | apply Rd.skip | apply Rd.app) hd hd2) (by (repeat first | exact fun _ s => s | apply en_keep | apply en_drop | apply en_app) <;> fail))) ?_); rintro _ _ ⟨_, ⟨A2, c2, N2, rfl, w1, w2, rfl, w3⟩, rfl⟩; refine ⟨_, fun _ s => s, (by (repeat first | exact fun _ s => s | apply en_keep | apply en_drop | apply en_app) <;> fail), ?_⟩
  refine RS_q retB_noPanic rfl rfl rfl (ev_assign rfl) ?_
  refine RS_q retB_noPanic rfl rfl rfl (ev_assign rfl) ?_
  refine RS_nil ?_
  have v3 : Rd (N2 ++ (N1 ++ L)) A1 l1.length l1 := u3.app
  have HML : ∀ h, sat (N2 ++ (N1 ++ L)) h → sat L h := en_app (en_app en_refl)
  clear u3
  generalize N2 ++ (N1 ++ L) = M at *
  repeat refine G_skip ?_
  refine G_seq ?_
  refine G_cut (ι := Nat × Nat) (fun x => [(3, .pointer (some ⟨b3, 0, none⟩)), (4, .pointer (some ⟨b4, 0, none⟩)), (6, .bool false), (7, .slice A1 l1.length c1), (8, .slice A2 s1.length c2), (9, .pointer (some ⟨x.1, 0, none⟩)), (10, .pointer (some ⟨x.2, 0, none⟩))]) (fun x => blk x.1 37 (cellsL q.only.v) :: blk x.2 37 (cellsL (q).v) :: blk b4 37 (cellsL r.v) :: blk b3 37 (cellsL q.v) :: F :: M) (fun _ => True) ?_ ?_
  · (repeat first | refine G_seq ?_ | refine G_skip ?_ | refine G_endblk ?_ | refine G_block ?_ | refine G_exit rfl ?_)
    refine G_draw (.q 0 (.q 2 (.br3 1 (.br 3 (.e 4 (.e 5 (.e 6 .nil))) 4 (.e 3 (.e 5 (.e 6 .nil)))) 3 (.br 1 (.e 4 (.e 5 (.e 6 .nil))) 4 (.e 1 (.e 5 (.e 6 .nil)))) 4 (.br 1 (.e 3 (.e 5 (.e 6 .nil))) 3 (.e 1 (.e 5 (.e 6 .nil))))))) (by kernel_rfl) (by kernel_rfl) ?_
    refine RS_q retB_noPanic rfl rfl rfl (ev_loadN rfl (by repeat' first | exact LdN.blk rfl | assumption | apply LdN.skip | apply LdN.app)) ?_
    refine RS_q retB_noPanic rfl rfl rfl (ev_loadN rfl (by repeat' first | exact LdN.blk rfl | assumption | apply LdN.skip | apply LdN.app)) ?_
    refine RS_br3 ?x3_0 ?x3_1 ?x3_2
    case' x3_2 =>
      refine RE_eff rfl rfl rfl eff_alloc ?_; rintro _ _ ⟨b10, rfl, rfl⟩; refine ⟨_, (by (repeat first | exact fun _ s => s | apply en_keep | apply en_drop | apply en_app) <;> fail), fun _ s => s, ?_⟩
      refine RS_br ?x5_0 ?x5_1
      case' x5_1 =>
        refine RE_eff rfl rfl rfl eff_alloc ?_; rintro _ _ ⟨b9, rfl, rfl⟩; refine ⟨_, (by (repeat first | exact fun _ s => s | apply en_keep | apply en_drop | apply en_app) <;> fail), fun _ s => s, ?_⟩
        refine RS_e (RE_eff rfl rfl rfl (eff_call rfl (Only_ctr q _)) ?_); rintro _ _ ⟨rfl, rfl⟩; refine ⟨_, (by (repeat first | exact fun _ s => s | apply en_keep | apply en_drop | apply en_app) <;> fail), fun _ s => s, ?_⟩
        refine RS_e (RE_eff rfl rfl rfl (eff_storeN rfl rfl rfl rfl (by repeat' first | exact Upd.here rfl | apply Upd.skip | apply Upd.app)) ?_); rintro _ _ ⟨rfl, rfl⟩; refine ⟨_, (by (repeat first | exact fun _ s => s | apply en_keep | apply en_drop | apply en_app) <;> fail), fun _ s => s, ?_⟩
        refine RS_e (RE_eff rfl rfl rfl (eff_storeN rfl rfl rfl rfl (by repeat' first | exact Upd.here rfl | apply Upd.skip | apply Upd.app)) ?_); rintro _ _ ⟨rfl, rfl⟩; refine ⟨_, (by (repeat first | exact fun _ s => s | apply en_keep | apply en_drop | apply en_app) <;> fail), fun _ s => s, ?_⟩
        refine RS_nil ?_
        (repeat first | refine G_seq ?_ | refine G_skip ?_ | refine G_endblk ?_ | refine G_block ?_ | refine G_exit rfl ?_)
      case' x5_0 =>
        refine RE_eff rfl rfl rfl (eff_call rfl (Only_ctr q _)) ?_; rintro _ _ ⟨rfl, rfl⟩; refine ⟨_, (by (repeat first | exact fun _ s => s | apply en_keep | apply en_drop | apply en_app) <;> fail), fun _ s => s, ?_⟩
        refine RS_e (RE_eff rfl rfl rfl eff_alloc ?_); rintro _ _ ⟨b9, rfl, rfl⟩; refine ⟨_, (by (repeat first | exact fun _ s => s | apply en_keep | apply en_drop | apply en_app) <;> fail), fun _ s => s, ?_⟩
        refine RS_e (RE_eff rfl rfl rfl (eff_storeN rfl rfl rfl rfl (by repeat' first | exact Upd.here rfl | apply Upd.skip | apply Upd.app)) ?_); rintro _ _ ⟨rfl, rfl⟩; refine ⟨_, (by (repeat first | exact fun _ s => s | apply en_keep | apply en_drop | apply en_app) <;> fail), fun _ s => s, ?_⟩
        refine RS_e (RE_eff rfl rfl rfl (eff_storeN rfl rfl rfl rfl (by repeat' first | exact Upd.here rfl | apply Upd.skip | apply Upd.app)) ?_); rintro _ _ ⟨rfl, rfl⟩; refine ⟨_, (by (repeat first | exact fun _ s => s | apply en_keep | apply en_drop | apply en_app) <;> fail), fun _ s => s, ?_⟩
        refine RS_nil ?_
        (repeat first | refine G_seq ?_ | refine G_skip ?_ | refine G_endblk ?_ | refine G_block ?_ | refine G_exit rfl ?_)
    case' x3_1 =>
      refine RE_eff rfl rfl rfl eff_alloc ?_; rintro _ _ ⟨b9, rfl, rfl⟩; refine ⟨_, (by (repeat first | exact fun _ s => s | apply en_keep | apply en_drop | apply en_app) <;> fail), fun _ s => s, ?_⟩
      refine RS_br ?x11_0 ?x11_1
      case' x11_1 =>
        refine RE_eff rfl rfl rfl eff_alloc ?_; rintro _ _ ⟨b10, rfl, rfl⟩; refine ⟨_, (by (repeat first | exact fun _ s => s | apply en_keep | apply en_drop | apply en_app) <;> fail), fun _ s => s, ?_⟩
        refine RS_e (RE_eff rfl rfl rfl (eff_call rfl (Only_ctr q _)) ?_); rintro _ _ ⟨rfl, rfl⟩; refine ⟨_, (by (repeat first | exact fun _ s => s | apply en_keep | apply en_drop | apply en_app) <;> fail), fun _ s => s, ?_⟩
        refine RS_e (RE_eff rfl rfl rfl (eff_storeN rfl rfl rfl rfl (by repeat' first | exact Upd.here rfl | apply Upd.skip | apply Upd.app)) ?_); rintro _ _ ⟨rfl, rfl⟩; refine ⟨_, (by (repeat first | exact fun _ s => s | apply en_keep | apply en_drop | apply en_app) <;> fail), fun _ s => s, ?_⟩
        refine RS_e (RE_eff rfl rfl rfl (eff_storeN rfl rfl rfl rfl (by repeat' first | exact Upd.here rfl | apply Upd.skip | apply Upd.app)) ?_); rintro _ _ ⟨rfl, rfl⟩; refine ⟨_, (by (repeat first | exact fun _ s => s | apply en_keep | apply en_drop | apply en_app) <;> fail), fun _ s => s, ?_⟩
        refine RS_nil ?_
        (repeat first | refine G_seq ?_ | refine G_skip ?_ | refine G_endblk ?_ | refine G_block ?_ | refine G_exit rfl ?_)
      case' x11_0 =>
        refine RE_eff rfl rfl rfl (eff_call rfl (Only_ctr q _)) ?_; rintro _ _ ⟨rfl, rfl⟩; refine ⟨_, (by (repeat first | exact fun _ s => s | apply en_keep | apply en_drop | apply en_app) <;> fail), fun _ s => s, ?_⟩
        refine RS_e (RE_eff rfl rfl rfl eff_alloc ?_); rintro _ _ ⟨b10, rfl, rfl⟩; refine ⟨_, (by (repeat first | exact fun _ s => s | apply en_keep | apply en_drop | apply en_app) <;> fail), fun _ s => s, ?_⟩
        refine RS_e (RE_eff rfl rfl rfl (eff_storeN rfl rfl rfl rfl (by repeat' first | exact Upd.here rfl | apply Upd.skip | apply Upd.app)) ?_); rintro _ _ ⟨rfl, rfl⟩; refine ⟨_, (by (repeat first | exact fun _ s => s | apply en_keep | apply en_drop | apply en_app) <;> fail), fun _ s => s, ?_⟩
        refine RS_e (RE_eff rfl rfl rfl (eff_storeN rfl rfl rfl rfl (by repeat' first | exact Upd.here rfl | apply Upd.skip | apply Upd.app)) ?_); rintro _ _ ⟨rfl, rfl⟩; refine ⟨_, (by (repeat first | exact fun _ s => s | apply en_keep | apply en_drop | apply en_app) <;> fail), fun _ s => s, ?_⟩
        refine RS_nil ?_
        (repeat first | refine G_seq ?_ | refine G_skip ?_ | refine G_endblk ?_ | refine G_block ?_ | refine G_exit rfl ?_)
    case' x3_0 =>
      refine RE_eff rfl rfl rfl (eff_call rfl (Only_ctr q _)) ?_; rintro _ _ ⟨rfl, rfl⟩; refine ⟨_, (by (repeat first | exact fun _ s => s | apply en_keep | apply en_drop | apply en_app) <;> fail), fun _ s => s, ?_⟩
      refine RS_br ?x17_0 ?x17_1
      case' x17_1 =>
        refine RE_eff rfl rfl rfl eff_alloc ?_; rintro _ _ ⟨b10, rfl, rfl⟩; refine ⟨_, (by (repeat first | exact fun _ s => s | apply en_keep | apply en_drop | apply en_app) <;> fail), fun _ s => s, ?_⟩
        refine RS_e (RE_eff rfl rfl rfl eff_alloc ?_); rintro _ _ ⟨b9, rfl, rfl⟩; refine ⟨_, (by (repeat first | exact fun _ s => s | apply en_keep | apply en_drop | apply en_app) <;> fail), fun _ s => s, ?_⟩
        refine RS_e (RE_eff rfl rfl rfl (eff_storeN rfl rfl rfl rfl (by repeat' first | exact Upd.here rfl | apply Upd.skip | apply Upd.app)) ?_); rintro _ _ ⟨rfl, rfl⟩; refine ⟨_, (by (repeat first | exact fun _ s => s | apply en_keep | apply en_drop | apply en_app) <;> fail), fun _ s => s, ?_⟩
        refine RS_e (RE_eff rfl rfl rfl (eff_storeN rfl rfl rfl rfl (by repeat' first | exact Upd.here rfl | apply Upd.skip | apply Upd.app)) ?_); rintro _ _ ⟨rfl, rfl⟩; refine ⟨_, (by (repeat first | exact fun _ s => s | apply en_keep | apply en_drop | apply en_app) <;> fail), fun _ s => s, ?_⟩
        refine RS_nil ?_
        (repeat first | refine G_seq ?_ | refine G_skip ?_ | refine G_endblk ?_ | refine G_block ?_ | refine G_exit rfl ?_)
      case' x17_0 =>
        refine RE_eff rfl rfl rfl eff_alloc ?_; rintro _ _ ⟨b9, rfl, rfl⟩; refine ⟨_, (by (repeat first | exact fun _ s => s | apply en_keep | apply en_drop | apply en_app) <;> fail), fun _ s => s, ?_⟩
        refine RS_e (RE_eff rfl rfl rfl eff_alloc ?_); rintro _ _ ⟨b10, rfl, rfl⟩; refine ⟨_, (by (repeat first | exact fun _ s => s | apply en_keep | apply en_drop | apply en_app) <;> fail), fun _ s => s, ?_⟩
        refine RS_e (RE_eff rfl rfl rfl (eff_storeN rfl rfl rfl rfl (by repeat' first | exact Upd.here rfl | apply Upd.skip | apply Upd.app)) ?_); rintro _ _ ⟨rfl, rfl⟩; refine ⟨_, (by (repeat first | exact fun _ s => s | apply en_keep | apply en_drop | apply en_app) <;> fail), fun _ s => s, ?_⟩
        refine RS_e (RE_eff rfl rfl rfl (eff_storeN rfl rfl rfl rfl (by repeat' first | exact Upd.here rfl | apply Upd.skip | apply Upd.app)) ?_); rintro _ _ ⟨rfl, rfl⟩; refine ⟨_, (by (repeat first | exact fun _ s => s | apply en_keep | apply en_drop | apply en_app) <;> fail), fun _ s => s, ?_⟩
        refine RS_nil ?_
        (repeat first | refine G_seq ?_ | refine G_skip ?_ | refine G_endblk ?_ | refine G_block ?_ | refine G_exit rfl ?_)
    all_goals exact G_inv (b9, b10) trivial ⟨rfl, rfl, rfl, rfl, rfl, rfl, rfl, trivial⟩ (by (repeat first | exact en_refl | (apply en_blk; focus ((repeat' first | exact Pick.here | apply Pick.skip | apply Pick.app); done); focus rfl) | (apply en_own; focus ((repeat' first | exact Pick.here | apply Pick.skip | apply Pick.app); done); focus rfl) | (apply en_pick; focus ((repeat' first | exact Pick.here | apply Pick.skip | apply Pick.app); done)) | apply en_drop | apply en_app) <;> fail)
  rintro ⟨o, x⟩ _
  dsimp only
  repeat refine G_skip ?_
  refine G_seq ?_
  refine G_cut (ι := Unit) (fun _ => [(3, .pointer (some ⟨b3, 0, none⟩)), (4, .pointer (some ⟨b4, 0, none⟩)), (6, .bool false), (7, .slice A1 l1.length c1), (8, .slice A2 s1.length c2), (9, .pointer (some ⟨o, 0, none⟩)), (10, .pointer (some ⟨x, 0, none⟩))]) (fun _ => blk o 37 (cellsL q.only.v) :: blk x 37 (cellsL (q.m1 r).v) :: blk b4 37 (cellsL r.v) :: blk b3 37 (cellsL q.v) :: F :: M) (fun _ => True) ?_ ?_
  · (repeat first | refine G_seq ?_ | refine G_skip ?_ | refine G_endblk ?_ | refine G_block ?_ | refine G_exit rfl ?_)
    refine G_region ?_
    refine GO_q rfl rfl (ev_fieldAddr rfl) ?_
    refine GO_q rfl rfl (ev_load rfl (by repeat' first | exact Ld.blk rfl | assumption | apply Ld.skip | apply Ld.app)) ?_
    refine GO_q rfl rfl (ev_neq rfl rfl) ?_
    refine GO_q rfl rfl (ev_move rfl) ?_
    refine GO_guard rfl rfl rfl (fun hc25 => ?y25) (fun hc25 => ?n25)
    case' n25 =>
      have hd25 := hc25
      try simp only [decide_eq_true_eq, decide_eq_false_iff_not, Bool.not_true, Bool.not_false, Bool.not_eq_true', Bool.not_eq_false'] at hd25
      refine GO_no rfl rfl rfl hc25 ?_
      refine GO_no rfl rfl rfl hc25 ?_
      refine GO_q rfl rfl (ev_pick_f rfl hc25 rfl) ?_
      refine GO_nil ?_
      (repeat first | refine G_seq ?_ | refine G_skip ?_ | refine G_endblk ?_ | refine G_block ?_ | refine G_exit rfl ?_)
      refine G_cond_f rfl rfl ?_
      (repeat first | refine G_seq ?_ | refine G_skip ?_ | refine G_endblk ?_ | refine G_block ?_ | refine G_exit rfl ?_)
    case' y25 =>
      have hd25 := hc25
      try simp only [decide_eq_true_eq, decide_eq_false_iff_not, Bool.not_true, Bool.not_false, Bool.not_eq_true', Bool.not_eq_false'] at hd25
      refine GO_q rfl rfl (ev_fieldAddr rfl) ?_
      refine GO_yes rfl rfl rfl hc25 ?_
      refine GO_q rfl rfl (ev_load rfl (by repeat' first | exact Ld.blk rfl | assumption | apply Ld.skip | apply Ld.app)) ?_
      refine GO_yes rfl rfl rfl hc25 ?_
      refine GO_q rfl rfl (ev_neq rfl rfl) ?_
      refine GO_q rfl rfl (ev_pick_t rfl hc25 rfl) ?_
      refine GO_nil ?_
      (repeat first | refine G_seq ?_ | refine G_skip ?_ | refine G_endblk ?_ | refine G_block ?_ | refine G_exit rfl ?_)
      refine G_condB rfl (fun hc29 => ?y29) (fun hc29 => ?n29)
      case' n29 =>
        have hd29 := hc29
        try simp only [decide_eq_true_eq, decide_eq_false_iff_not, Bool.not_true, Bool.not_false, Bool.not_eq_true', Bool.not_eq_false'] at hd29
        (repeat first | refine G_seq ?_ | refine G_skip ?_ | refine G_endblk ?_ | refine G_block ?_ | refine G_exit rfl ?_)
      case' y29 =>
        have hd29 := hc29
        try simp only [decide_eq_true_eq, decide_eq_false_iff_not, Bool.not_true, Bool.not_false, Bool.not_eq_true', Bool.not_eq_false'] at hd29
        (repeat first | refine G_seq ?_ | refine G_skip ?_ | refine G_endblk ?_ | refine G_block ?_ | refine G_exit rfl ?_)
        refine G_region ?_
        refine GO_q rfl rfl (ev_fieldAddr rfl) ?_
        refine GO_q rfl rfl (ev_loadN rfl (by repeat' first | exact LdN.blk rfl | assumption | apply LdN.skip | apply LdN.app)) ?_
        refine GO_q rfl rfl (ev_fieldAddr rfl) ?_
        refine GO_eff rfl rfl (eff_storeN rfl rfl rfl rfl (by repeat' first | exact Upd.here rfl | apply Upd.skip | apply Upd.app)) ?_; rintro _ _ ⟨rfl, rfl⟩
        refine GO_nil ?_
        (repeat first | refine G_seq ?_ | refine G_skip ?_ | refine G_endblk ?_ | refine G_block ?_ | refine G_exit rfl ?_)
    all_goals
      by_cases hk : q.kind ≠ 1 ∧ q.kind ≠ 2
      · have e : q.m1 r = { q with bx := r.bx } := by unfold Qy.m1; rw [if_pos hk]
        rw [e]
        first | (exfalso; omega) | exact G_inv () trivial ⟨rfl, rfl, rfl, rfl, rfl, rfl, rfl, trivial⟩ (by (repeat first | exact en_refl | (apply en_blk; focus ((repeat' first | exact Pick.here | apply Pick.skip | apply Pick.app); done); focus rfl) | (apply en_own; focus ((repeat' first | exact Pick.here | apply Pick.skip | apply Pick.app); done); focus rfl) | (apply en_pick; focus ((repeat' first | exact Pick.here | apply Pick.skip | apply Pick.app); done)) | apply en_drop | apply en_app) <;> fail)
      · have e : q.m1 r = q := by unfold Qy.m1; rw [if_neg hk]
        rw [e]
        first | (exfalso; omega) | exact G_inv () trivial ⟨rfl, rfl, rfl, rfl, rfl, rfl, rfl, trivial⟩ (by (repeat first | exact en_refl | (apply en_blk; focus ((repeat' first | exact Pick.here | apply Pick.skip | apply Pick.app); done); focus rfl) | (apply en_own; focus ((repeat' first | exact Pick.here | apply Pick.skip | apply Pick.app); done); focus rfl) | (apply en_pick; focus ((repeat' first | exact Pick.here | apply Pick.skip | apply Pick.app); done)) | apply en_drop | apply en_app) <;> fail)
  rintro _ _
  repeat refine G_skip ?_
  refine G_seq ?_
  refine G_cut (ι := Unit) (fun _ => [(3, .pointer (some ⟨b3, 0, none⟩)), (4, .pointer (some ⟨b4, 0, none⟩)), (6, .bool false), (7, .slice A1 l1.length c1), (8, .slice A2 s1.length c2), (9, .pointer (some ⟨o, 0, none⟩)), (10, .pointer (some ⟨x, 0, none⟩))]) (fun _ => blk o 37 (cellsL q.only.v) :: blk x 37 (cellsL (q.m2 r).v) :: blk b4 37 (cellsL r.v) :: blk b3 37 (cellsL q.v) :: F :: M) (fun _ => True) ?_ ?_
  · (repeat first | refine G_seq ?_ | refine G_skip ?_ | refine G_endblk ?_ | refine G_block ?_ | refine G_exit rfl ?_)
    refine G_region ?_
    refine GO_q rfl rfl (ev_fieldAddr rfl) ?_
    refine GO_q rfl rfl (ev_load rfl (by repeat' first | exact Ld.blk rfl | assumption | apply Ld.skip | apply Ld.app)) ?_
    refine GO_q rfl rfl (ev_neq rfl rfl) ?_
    refine GO_q rfl rfl (ev_move rfl) ?_
    refine GO_guard rfl rfl rfl (fun hc40 => ?y40) (fun hc40 => ?n40)
    case' n40 =>
      have hd40 := hc40
      try simp only [decide_eq_true_eq, decide_eq_false_iff_not, Bool.not_true, Bool.not_false, Bool.not_eq_true', Bool.not_eq_false'] at hd40
      refine GO_no rfl rfl rfl hc40 ?_
      refine GO_no rfl rfl rfl hc40 ?_
      refine GO_q rfl rfl (ev_pick_f rfl hc40 rfl) ?_
      refine GO_nil ?_
      (repeat first | refine G_seq ?_ | refine G_skip ?_ | refine G_endblk ?_ | refine G_block ?_ | refine G_exit rfl ?_)
      refine G_cond_f rfl rfl ?_
      (repeat first | refine G_seq ?_ | refine G_skip ?_ | refine G_endblk ?_ | refine G_block ?_ | refine G_exit rfl ?_)
    case' y40 =>
      have hd40 := hc40
      try simp only [decide_eq_true_eq, decide_eq_false_iff_not, Bool.not_true, Bool.not_false, Bool.not_eq_true', Bool.not_eq_false'] at hd40
      refine GO_q rfl rfl (ev_fieldAddr rfl) ?_
      refine GO_yes rfl rfl rfl hc40 ?_
      refine GO_q rfl rfl (ev_load rfl (by repeat' first | exact Ld.blk rfl | assumption | apply Ld.skip | apply Ld.app)) ?_
      refine GO_yes rfl rfl rfl hc40 ?_
      refine GO_q rfl rfl (ev_neq rfl rfl) ?_
      refine GO_q rfl rfl (ev_pick_t rfl hc40 rfl) ?_
      refine GO_nil ?_
      (repeat first | refine G_seq ?_ | refine G_skip ?_ | refine G_endblk ?_ | refine G_block ?_ | refine G_exit rfl ?_)
      refine G_condB rfl (fun hc44 => ?y44) (fun hc44 => ?n44)
      case' n44 =>
        have hd44 := hc44
        try simp only [decide_eq_true_eq, decide_eq_false_iff_not, Bool.not_true, Bool.not_false, Bool.not_eq_true', Bool.not_eq_false'] at hd44
        (repeat first | refine G_seq ?_ | refine G_skip ?_ | refine G_endblk ?_ | refine G_block ?_ | refine G_exit rfl ?_)
      case' y44 =>
        have hd44 := hc44
        try simp only [decide_eq_true_eq, decide_eq_false_iff_not, Bool.not_true, Bool.not_false, Bool.not_eq_true', Bool.not_eq_false'] at hd44
        (repeat first | refine G_seq ?_ | refine G_skip ?_ | refine G_endblk ?_ | refine G_block ?_ | refine G_exit rfl ?_)
        refine G_region ?_
        refine GO_q rfl rfl (ev_fieldAddr rfl) ?_
        refine GO_q rfl rfl (ev_loadN rfl (by repeat' first | exact LdN.blk rfl | assumption | apply LdN.skip | apply LdN.app)) ?_
        refine GO_q rfl rfl (ev_fieldAddr rfl) ?_
        refine GO_eff rfl rfl (eff_storeN rfl rfl rfl rfl (by repeat' first | exact Upd.here rfl | apply Upd.skip | apply Upd.app)) ?_; rintro _ _ ⟨rfl, rfl⟩
        refine GO_nil ?_
        (repeat first | refine G_seq ?_ | refine G_skip ?_ | refine G_endblk ?_ | refine G_block ?_ | refine G_exit rfl ?_)
    all_goals
      by_cases hk : q.kind ≠ 3 ∧ q.kind ≠ 4
      · have e : q.m2 r = { q.m1 r with wn := r.wn } := by unfold Qy.m2; rw [if_pos hk]
        rw [e]
        first | (exfalso; omega) | exact G_inv () trivial ⟨rfl, rfl, rfl, rfl, rfl, rfl, rfl, trivial⟩ (by (repeat first | exact en_refl | (apply en_blk; focus ((repeat' first | exact Pick.here | apply Pick.skip | apply Pick.app); done); focus rfl) | (apply en_own; focus ((repeat' first | exact Pick.here | apply Pick.skip | apply Pick.app); done); focus rfl) | (apply en_pick; focus ((repeat' first | exact Pick.here | apply Pick.skip | apply Pick.app); done)) | apply en_drop | apply en_app) <;> fail)
      · have e : q.m2 r = q.m1 r := by unfold Qy.m2; rw [if_neg hk]; rfl
        rw [e]
        first | (exfalso; omega) | exact G_inv () trivial ⟨rfl, rfl, rfl, rfl, rfl, rfl, rfl, trivial⟩ (by (repeat first | exact en_refl | (apply en_blk; focus ((repeat' first | exact Pick.here | apply Pick.skip | apply Pick.app); done); focus rfl) | (apply en_own; focus ((repeat' first | exact Pick.here | apply Pick.skip | apply Pick.app); done); focus rfl) | (apply en_pick; focus ((repeat' first | exact Pick.here | apply Pick.skip | apply Pick.app); done)) | apply en_drop | apply en_app) <;> fail)
  rintro _ _
  repeat refine G_skip ?_
  refine G_seq ?_
  refine G_cut (ι := Unit) (fun _ => [(3, .pointer (some ⟨b3, 0, none⟩)), (4, .pointer (some ⟨b4, 0, none⟩)), (6, .bool false), (7, .slice A1 l1.length c1), (8, .slice A2 s1.length c2), (9, .pointer (some ⟨o, 0, none⟩)), (10, .pointer (some ⟨x, 0, none⟩))]) (fun _ => blk o 37 (cellsL q.only.v) :: blk x 37 (cellsL (q.m3 r).v) :: blk b4 37 (cellsL r.v) :: blk b3 37 (cellsL q.v) :: F :: M) (fun _ => True) ?_ ?_
  · (repeat first | refine G_seq ?_ | refine G_skip ?_ | refine G_endblk ?_ | refine G_block ?_ | refine G_exit rfl ?_)
    refine G_region ?_
    refine GO_q rfl rfl (ev_fieldAddr rfl) ?_
    refine GO_q rfl rfl (ev_load rfl (by repeat' first | exact Ld.blk rfl | assumption | apply Ld.skip | apply Ld.app)) ?_
    (first | refine GO_q rfl rfl (ev_lssN (q := 5) rfl rfl) ?_ | refine GO_q rfl rfl (ev_lss rfl rfl) ?_)
    refine GO_q rfl rfl (ev_move rfl) ?_
    refine GO_guard rfl rfl rfl (fun hc55 => ?y55) (fun hc55 => ?n55)
    case' n55 =>
      have hd55 := hc55
      try simp only [decide_eq_true_eq, decide_eq_false_iff_not, Bool.not_true, Bool.not_false, Bool.not_eq_true', Bool.not_eq_false'] at hd55
      refine GO_no rfl rfl rfl hc55 ?_
      refine GO_no rfl rfl rfl hc55 ?_
      refine GO_q rfl rfl (ev_pick_t rfl hc55 rfl) ?_
      refine GO_nil ?_
      (repeat first | refine G_seq ?_ | refine G_skip ?_ | refine G_endblk ?_ | refine G_block ?_ | refine G_exit rfl ?_)
      refine G_cond_t rfl rfl ?_
      (repeat first | refine G_seq ?_ | refine G_skip ?_ | refine G_endblk ?_ | refine G_block ?_ | refine G_exit rfl ?_)
      refine G_region ?_
      refine GO_q rfl rfl (ev_fieldAddr rfl) ?_
      refine GO_q rfl rfl (ev_load rfl (by repeat' first | exact Ld.blk rfl | assumption | apply Ld.skip | apply Ld.app)) ?_
      refine GO_q rfl rfl (ev_fieldAddr rfl) ?_
      refine GO_eff rfl rfl (eff_store rfl rfl rfl (by repeat' first | exact Upd.here rfl | apply Upd.skip | apply Upd.app)) ?_; rintro _ _ ⟨rfl, rfl⟩
      refine GO_nil ?_
      (repeat first | refine G_seq ?_ | refine G_skip ?_ | refine G_endblk ?_ | refine G_block ?_ | refine G_exit rfl ?_)
    case' y55 =>
      have hd55 := hc55
      try simp only [decide_eq_true_eq, decide_eq_false_iff_not, Bool.not_true, Bool.not_false, Bool.not_eq_true', Bool.not_eq_false'] at hd55
      refine GO_q rfl rfl (ev_fieldAddr rfl) ?_
      refine GO_yes rfl rfl rfl hc55 ?_
      refine GO_q rfl rfl (ev_load rfl (by repeat' first | exact Ld.blk rfl | assumption | apply Ld.skip | apply Ld.app)) ?_
      refine GO_yes rfl rfl rfl hc55 ?_
      refine GO_q rfl rfl (ev_gtr rfl rfl) ?_
      refine GO_q rfl rfl (ev_pick_f rfl hc55 rfl) ?_
      refine GO_nil ?_
      (repeat first | refine G_seq ?_ | refine G_skip ?_ | refine G_endblk ?_ | refine G_block ?_ | refine G_exit rfl ?_)
      refine G_condB rfl (fun hc59 => ?y59) (fun hc59 => ?n59)
      case' n59 =>
        have hd59 := hc59
        try simp only [decide_eq_true_eq, decide_eq_false_iff_not, Bool.not_true, Bool.not_false, Bool.not_eq_true', Bool.not_eq_false'] at hd59
        (repeat first | refine G_seq ?_ | refine G_skip ?_ | refine G_endblk ?_ | refine G_block ?_ | refine G_exit rfl ?_)
      case' y59 =>
        have hd59 := hc59
        try simp only [decide_eq_true_eq, decide_eq_false_iff_not, Bool.not_true, Bool.not_false, Bool.not_eq_true', Bool.not_eq_false'] at hd59
        (repeat first | refine G_seq ?_ | refine G_skip ?_ | refine G_endblk ?_ | refine G_block ?_ | refine G_exit rfl ?_)
        refine G_region ?_
        refine GO_q rfl rfl (ev_fieldAddr rfl) ?_
        refine GO_q rfl rfl (ev_load rfl (by repeat' first | exact Ld.blk rfl | assumption | apply Ld.skip | apply Ld.app)) ?_
        refine GO_q rfl rfl (ev_fieldAddr rfl) ?_
        refine GO_eff rfl rfl (eff_store rfl rfl rfl (by repeat' first | exact Upd.here rfl | apply Upd.skip | apply Upd.app)) ?_; rintro _ _ ⟨rfl, rfl⟩
        refine GO_nil ?_
        (repeat first | refine G_seq ?_ | refine G_skip ?_ | refine G_endblk ?_ | refine G_block ?_ | refine G_exit rfl ?_)
    all_goals
      by_cases hk : q.kind < 5 ∨ 7 < q.kind
      · have e : q.m3 r = { q.m2 r with x := r.x } := by unfold Qy.m3; rw [if_pos hk]
        rw [e]
        first | (exfalso; omega) | exact G_inv () trivial ⟨rfl, rfl, rfl, rfl, rfl, rfl, rfl, trivial⟩ (by (repeat first | exact en_refl | (apply en_blk; focus ((repeat' first | exact Pick.here | apply Pick.skip | apply Pick.app); done); focus rfl) | (apply en_own; focus ((repeat' first | exact Pick.here | apply Pick.skip | apply Pick.app); done); focus rfl) | (apply en_pick; focus ((repeat' first | exact Pick.here | apply Pick.skip | apply Pick.app); done)) | apply en_drop | apply en_app) <;> fail)
      · have e : q.m3 r = q.m2 r := by unfold Qy.m3; rw [if_neg hk]; rfl
        rw [e]
        first | (exfalso; omega) | exact G_inv () trivial ⟨rfl, rfl, rfl, rfl, rfl, rfl, rfl, trivial⟩ (by (repeat first | exact en_refl | (apply en_blk; focus ((repeat' first | exact Pick.here | apply Pick.skip | apply Pick.app); done); focus rfl) | (apply en_own; focus ((repeat' first | exact Pick.here | apply Pick.skip | apply Pick.app); done); focus rfl) | (apply en_pick; focus ((repeat' first | exact Pick.here | apply Pick.skip | apply Pick.app); done)) | apply en_drop | apply en_app) <;> fail)
  rintro _ _
  repeat refine G_skip ?_
  refine G_seq ?_
  refine G_cut (ι := Unit) (fun _ => [(3, .pointer (some ⟨b3, 0, none⟩)), (4, .pointer (some ⟨b4, 0, none⟩)), (6, .bool false), (7, .slice A1 l1.length c1), (8, .slice A2 s1.length c2), (9, .pointer (some ⟨o, 0, none⟩)), (10, .pointer (some ⟨x, 0, none⟩))]) (fun _ => blk o 37 (cellsL q.only.v) :: blk x 37 (cellsL (q.m4 r).v) :: blk b4 37 (cellsL r.v) :: blk b3 37 (cellsL q.v) :: F :: M) (fun _ => True) ?_ ?_
  · (repeat first | refine G_seq ?_ | refine G_skip ?_ | refine G_endblk ?_ | refine G_block ?_ | refine G_exit rfl ?_)
    refine G_region ?_
    refine GO_q rfl rfl (ev_fieldAddr rfl) ?_
    refine GO_q rfl rfl (ev_load rfl (by repeat' first | exact Ld.blk rfl | assumption | apply Ld.skip | apply Ld.app)) ?_
    refine GO_q rfl rfl (ev_neq rfl rfl) ?_
    refine GO_q rfl rfl (ev_move rfl) ?_
    refine GO_guard rfl rfl rfl (fun hc73 => ?y73) (fun hc73 => ?n73)
    case' n73 =>
      have hd73 := hc73
      try simp only [decide_eq_true_eq, decide_eq_false_iff_not, Bool.not_true, Bool.not_false, Bool.not_eq_true', Bool.not_eq_false'] at hd73
      refine GO_no rfl rfl rfl hc73 ?_
      refine GO_no rfl rfl rfl hc73 ?_
      refine GO_q rfl rfl (ev_pick_f rfl hc73 rfl) ?_
      refine GO_nil ?_
      (repeat first | refine G_seq ?_ | refine G_skip ?_ | refine G_endblk ?_ | refine G_block ?_ | refine G_exit rfl ?_)
      refine G_cond_f rfl rfl ?_
      (repeat first | refine G_seq ?_ | refine G_skip ?_ | refine G_endblk ?_ | refine G_block ?_ | refine G_exit rfl ?_)
    case' y73 =>
      have hd73 := hc73
      try simp only [decide_eq_true_eq, decide_eq_false_iff_not, Bool.not_true, Bool.not_false, Bool.not_eq_true', Bool.not_eq_false'] at hd73
      refine GO_q rfl rfl (ev_fieldAddr rfl) ?_
      refine GO_yes rfl rfl rfl hc73 ?_
      refine GO_q rfl rfl (ev_load rfl (by repeat' first | exact Ld.blk rfl | assumption | apply Ld.skip | apply Ld.app)) ?_
      refine GO_yes rfl rfl rfl hc73 ?_
      refine GO_q rfl rfl (ev_neq rfl rfl) ?_
      refine GO_q rfl rfl (ev_pick_t rfl hc73 rfl) ?_
      refine GO_nil ?_
      (repeat first | refine G_seq ?_ | refine G_skip ?_ | refine G_endblk ?_ | refine G_block ?_ | refine G_exit rfl ?_)
      refine G_condB rfl (fun hc77 => ?y77) (fun hc77 => ?n77)
      case' n77 =>
        have hd77 := hc77
        try simp only [decide_eq_true_eq, decide_eq_false_iff_not, Bool.not_true, Bool.not_false, Bool.not_eq_true', Bool.not_eq_false'] at hd77
        (repeat first | refine G_seq ?_ | refine G_skip ?_ | refine G_endblk ?_ | refine G_block ?_ | refine G_exit rfl ?_)
      case' y77 =>
        have hd77 := hc77
        try simp only [decide_eq_true_eq, decide_eq_false_iff_not, Bool.not_true, Bool.not_false, Bool.not_eq_true', Bool.not_eq_false'] at hd77
        (repeat first | refine G_seq ?_ | refine G_skip ?_ | refine G_endblk ?_ | refine G_block ?_ | refine G_exit rfl ?_)
        refine G_region ?_
        refine GO_q rfl rfl (ev_fieldAddr rfl) ?_
        refine GO_q rfl rfl (ev_load rfl (by repeat' first | exact Ld.blk rfl | assumption | apply Ld.skip | apply Ld.app)) ?_
        refine GO_q rfl rfl (ev_fieldAddr rfl) ?_
        refine GO_eff rfl rfl (eff_store rfl rfl rfl (by repeat' first | exact Upd.here rfl | apply Upd.skip | apply Upd.app)) ?_; rintro _ _ ⟨rfl, rfl⟩
        refine GO_nil ?_
        (repeat first | refine G_seq ?_ | refine G_skip ?_ | refine G_endblk ?_ | refine G_block ?_ | refine G_exit rfl ?_)
    all_goals
      by_cases hk : q.kind ≠ 6 ∧ q.kind ≠ 7
      · have e : q.m4 r = { q.m3 r with hi := r.hi } := by unfold Qy.m4; rw [if_pos hk]
        rw [e]
        first | (exfalso; omega) | exact G_inv () trivial ⟨rfl, rfl, rfl, rfl, rfl, rfl, rfl, trivial⟩ (by (repeat first | exact en_refl | (apply en_blk; focus ((repeat' first | exact Pick.here | apply Pick.skip | apply Pick.app); done); focus rfl) | (apply en_own; focus ((repeat' first | exact Pick.here | apply Pick.skip | apply Pick.app); done); focus rfl) | (apply en_pick; focus ((repeat' first | exact Pick.here | apply Pick.skip | apply Pick.app); done)) | apply en_drop | apply en_app) <;> fail)
      · have e : q.m4 r = q.m3 r := by unfold Qy.m4; rw [if_neg hk]; rfl
        rw [e]
        first | (exfalso; omega) | exact G_inv () trivial ⟨rfl, rfl, rfl, rfl, rfl, rfl, rfl, trivial⟩ (by (repeat first | exact en_refl | (apply en_blk; focus ((repeat' first | exact Pick.here | apply Pick.skip | apply Pick.app); done); focus rfl) | (apply en_own; focus ((repeat' first | exact Pick.here | apply Pick.skip | apply Pick.app); done); focus rfl) | (apply en_pick; focus ((repeat' first | exact Pick.here | apply Pick.skip | apply Pick.app); done)) | apply en_drop | apply en_app) <;> fail)
  rintro _ _
  have k0 : (q.m4 r).only = q.only := f1
  repeat refine G_skip ?_
  (repeat first | refine G_seq ?_ | refine G_skip ?_ | refine G_endblk ?_ | refine G_block ?_ | refine G_exit rfl ?_)
  refine G_draw (.q 0 (.q 2 (.e 1 (.q 3 (.q 4 (.q 5 (.q 7 (.e 6 (.q 8 (.q 9 (.q 10 (.q 11 (.q 13 (.e 12 (.e 14 (.q 15 (.q 16 .nil))))))))))))))))) (by kernel_rfl) (by kernel_rfl) ?_
  refine RS_q retB_noPanic rfl rfl rfl (ev_loadN rfl (by repeat' first | exact LdN.blk rfl | assumption | apply LdN.skip | apply LdN.app)) ?_
  refine RS_q retB_noPanic rfl rfl rfl (ev_loadN rfl (by repeat' first | exact LdN.blk rfl | assumption | apply LdN.skip | apply LdN.app)) ?_
  refine RS_e (RE_eff rfl rfl rfl (eff_call rfl (Only_ctr (q.m4 r) _)) ?_); rintro _ _ ⟨rfl, rfl⟩; refine ⟨_, fun _ s => s, (by (repeat first | exact fun _ s => s | apply en_keep | apply en_drop | apply en_app) <;> fail), ?_⟩
  refine RS_q retB_noPanic rfl rfl rfl (ev_neqS rfl rfl rfl rfl rfl rfl) ?_
  refine RS_q retB_noPanic rfl rfl rfl (ev_move rfl) ?_
  refine RS_q_yes retB_noPanic rfl rfl rfl ⟨_, rfl, (by simp [k0])⟩ rfl (ev_loadN rfl (by repeat' first | exact LdN.blk rfl | assumption | apply LdN.skip | apply LdN.app)) ?_
  refine RS_q_yes retB_noPanic rfl rfl rfl ⟨_, rfl, (by simp [k0])⟩ rfl (ev_loadN rfl (by repeat' first | exact LdN.blk rfl | assumption | apply LdN.skip | apply LdN.app)) ?_
  refine RS_e (RE_eff_yes rfl rfl rfl ⟨_, rfl, (by simp [k0])⟩ rfl (eff_call rfl (Only_ctr q.only _)) ?_); rintro _ _ ⟨rfl, rfl⟩; refine ⟨_, fun _ s => s, (by (repeat first | exact fun _ s => s | apply en_keep | apply en_drop | apply en_app) <;> fail), ?_⟩
  refine RS_q_yes retB_noPanic rfl rfl rfl ⟨_, rfl, (by simp [k0])⟩ rfl (ev_neqS rfl rfl rfl rfl rfl rfl) ?_
  refine RS_q retB_noPanic rfl rfl rfl (ev_pick_f rfl (by simp [k0]) rfl) ?_
  refine RS_q retB_noPanic rfl rfl rfl (ev_move rfl) ?_
  refine RS_q_yes retB_noPanic rfl rfl rfl ⟨_, rfl, (by simp [f2])⟩ rfl (ev_loadN rfl (by repeat' first | exact LdN.blk rfl | assumption | apply LdN.skip | apply LdN.app)) ?_
  refine RS_q_yes retB_noPanic rfl rfl rfl ⟨_, rfl, (by simp [f2])⟩ rfl (ev_loadN rfl (by repeat' first | exact LdN.blk rfl | assumption | apply LdN.skip | apply LdN.app)) ?_
  refine RS_e (RE_eff_yes rfl rfl rfl ⟨_, rfl, (by simp [f2])⟩ rfl (eff_call rfl (PCheck_ctr (q.m4 r) _)) ?_); rintro _ _ ⟨rfl, rfl⟩; refine ⟨_, fun _ s => s, (by (repeat first | exact fun _ s => s | apply en_keep | apply en_drop | apply en_app) <;> fail), ?_⟩
  refine RS_e (RE_eff_yes rfl rfl rfl ⟨_, rfl, (by simp [f2])⟩ rfl (eff_call rfl (rcheck_ctr q _)) ?_); rintro _ _ ⟨rfl, rfl⟩; refine ⟨_, fun _ s => s, (by (repeat first | exact fun _ s => s | apply en_keep | apply en_drop | apply en_app) <;> fail), ?_⟩
  refine RS_q_yes retB_noPanic rfl rfl rfl ⟨_, rfl, (by simp [f2])⟩ rfl (ev_neq rfl rfl) ?_
  refine RS_q retB_noPanic rfl rfl rfl (ev_pick_f rfl (by simp [f2]) rfl) ?_
  refine RS_nil ?_
  (repeat first | refine G_seq ?_ | refine G_skip ?_ | refine G_endblk ?_ | refine G_block ?_ | refine G_exit rfl ?_)
  refine G_cond_f rfl (by simp [f3]) ?_
  by_cases hf : q.fine
  · have g1 := q.only_kind hf
    have g2 := q.chk_only hf
    have g3 := q.choice_only hf
    have g4 := q.n_only hf l1 s1
    have g5 := q.out_only hf l1 s1
    have Z5 := fun M => PChoice_ctr q.only M
    have Z6 := fun M h1 h2 => Plain_ctr q.only A1 A2 l1.length c1 s1.length c2 l1 s1 M h1 h2 (by omega) (by omega)
    rw [g3] at Z5
    rw [g4, g5] at Z6
    have hc2 : q.choice.length ≤ 2 := choice_len q
    (repeat first | refine G_seq ?_ | refine G_skip ?_ | refine G_endblk ?_ | refine G_block ?_ | refine G_exit rfl ?_)
    refine G_region ?_
    refine GO_q rfl rfl (ev_fieldAddr rfl) ?_
    refine GO_q rfl rfl (ev_load rfl (by repeat' first | exact Ld.blk rfl | assumption | apply Ld.skip | apply Ld.app)) ?_
    refine GO_q rfl rfl (ev_geq rfl rfl) ?_
    refine GO_q rfl rfl (ev_move rfl) ?_
    refine GO_yes rfl rfl rfl (decide_eq_true hf.1) ?_
    refine GO_q rfl rfl (ev_fieldAddr rfl) ?_
    refine GO_yes rfl rfl rfl (decide_eq_true hf.1) ?_
    refine GO_q rfl rfl (ev_load rfl (by repeat' first | exact Ld.blk rfl | assumption | apply Ld.skip | apply Ld.app)) ?_
    refine GO_yes rfl rfl rfl (decide_eq_true hf.1) ?_
    refine GO_q rfl rfl (ev_leq rfl rfl) ?_
    refine GO_q rfl rfl (ev_pick_t rfl (decide_eq_true hf.1) rfl) ?_
    refine GO_q rfl rfl (ev_assign rfl) ?_
    refine GO_nil ?_
    (repeat first | refine G_seq ?_ | refine G_skip ?_ | refine G_endblk ?_ | refine G_block ?_ | refine G_exit rfl ?_)
    refine G_region ?_
    refine GO_q rfl rfl (ev_move rfl) ?_
    (first | refine GO_q rfl rfl (ev_notP rfl) ?_ | refine GO_q rfl rfl (ev_not rfl) ?_)
    refine GO_nil ?_
    (repeat first | refine G_seq ?_ | refine G_skip ?_ | refine G_endblk ?_ | refine G_block ?_ | refine G_exit rfl ?_)
    refine G_cond_f rfl (by simp [hf.2]) ?_
    (repeat first | refine G_seq ?_ | refine G_skip ?_ | refine G_endblk ?_ | refine G_block ?_ | refine G_exit rfl ?_)
    refine G_draw (.q 0 (.q 1 (.q 2 (.q 3 (.q 4 (.q 5 (.q 6 (.q 8 (.e 7 (.e 9 (.q 10 (.q 11 (.q 12 (.q 13 (.q 15 (.e 14 (.e 16 (.e 17 (.q 18 (.q 19 (.q 20 (.q 21 (.q 22 (.q 24 (.q 25 (.q 26 (.e 23 (.e 27 (.e 28 (.q 29 (.q 30 (.e 31 (.q 32 (.q 33 .nil)))))))))))))))))))))))))))))))))) (by kernel_rfl) (by kernel_rfl) ?_
    refine RS_q retB_noPanic rfl rfl rfl (ev_fieldAddr rfl) ?_
    refine RS_q retB_noPanic rfl rfl rfl (ev_load rfl (by repeat' first | exact Ld.blk rfl | assumption | apply Ld.skip | apply Ld.app)) ?_
    refine RS_q retB_noPanic rfl rfl rfl (ev_fieldAddr rfl) ?_
    refine RS_q retB_noPanic rfl rfl rfl (ev_load rfl (by repeat' first | exact Ld.blk rfl | assumption | apply Ld.skip | apply Ld.app)) ?_
    refine RS_q retB_noPanic rfl rfl rfl (ev_eql rfl rfl) ?_
    refine RS_q retB_noPanic rfl rfl rfl (ev_move rfl) ?_
    refine RS_q_yes retB_noPanic rfl rfl rfl ⟨_, rfl, (by simp [g1])⟩ rfl (ev_loadN rfl (by repeat' first | exact LdN.blk rfl | assumption | apply LdN.skip | apply LdN.app)) ?_
    refine RS_q_yes retB_noPanic rfl rfl rfl ⟨_, rfl, (by simp [g1])⟩ rfl (ev_loadN rfl (by repeat' first | exact LdN.blk rfl | assumption | apply LdN.skip | apply LdN.app)) ?_
    refine RS_e (RE_eff_yes rfl rfl rfl ⟨_, rfl, (by simp [g1])⟩ rfl (eff_call rfl (PCheck_ctr q.only _)) ?_); rintro _ _ ⟨rfl, rfl⟩; refine ⟨_, fun _ s => s, (by (repeat first | exact fun _ s => s | apply en_keep | apply en_drop | apply en_app) <;> fail), ?_⟩
    refine RS_e (RE_eff_yes rfl rfl rfl ⟨_, rfl, (by simp [g1])⟩ rfl (eff_call rfl (rcheck_ctr q _)) ?_); rintro _ _ ⟨rfl, rfl⟩; refine ⟨_, fun _ s => s, (by (repeat first | exact fun _ s => s | apply en_keep | apply en_drop | apply en_app) <;> fail), ?_⟩
    refine RS_q_yes retB_noPanic rfl rfl rfl ⟨_, rfl, (by simp [g1])⟩ rfl (ev_eql rfl rfl) ?_
    refine RS_q retB_noPanic rfl rfl rfl (ev_pick_t rfl (by simp [g1]) rfl) ?_
    refine RS_q retB_noPanic rfl rfl rfl (ev_move rfl) ?_
    refine RS_q_yes retB_noPanic rfl rfl rfl ⟨_, rfl, (by simp [g2])⟩ rfl (ev_loadN rfl (by repeat' first | exact LdN.blk rfl | assumption | apply LdN.skip | apply LdN.app)) ?_
    refine RS_q_yes retB_noPanic rfl rfl rfl ⟨_, rfl, (by simp [g2])⟩ rfl (ev_loadN rfl (by repeat' first | exact LdN.blk rfl | assumption | apply LdN.skip | apply LdN.app)) ?_
    refine RS_e (RE_eff_yes rfl rfl rfl ⟨_, rfl, (by simp [g2])⟩ rfl (eff_call rfl (Z5 _)) ?_); rintro _ _ ⟨A5, c5, N5, rfl, k5, K5, rfl, R5⟩; refine ⟨_, fun _ s => s, (by (repeat first | exact fun _ s => s | apply en_keep | apply en_drop | apply en_app) <;> fail), ?_⟩
    refine RS_e (RE_eff_yes rfl rfl rfl ⟨_, rfl, (by simp [g2])⟩ rfl (eff_call rfl (rChoice_ctr q _)) ?_); rintro _ _ ⟨A6, c6, N6, rfl, k6, K6, rfl, R6⟩; refine ⟨_, fun _ s => s, (by (repeat first | exact fun _ s => s | apply en_keep | apply en_drop | apply en_app) <;> fail), ?_⟩
    refine RS_e (RE_eff_yes rfl rfl rfl ⟨_, rfl, (by simp [g2])⟩ rfl (eff_call rfl (Same_ctr A5 A6 _ _ c5 c6 q.choice q.choice _ (by repeat' first | exact Rc.blk rfl | assumption | apply Rd.skip | apply Rd.app) R6 (by omega))) ?_); rintro _ _ ⟨rfl, rfl⟩; refine ⟨_, fun _ s => s, (by (repeat first | exact fun _ s => s | apply en_keep | apply en_drop | apply en_app) <;> fail), ?_⟩
    refine RS_q retB_noPanic rfl rfl rfl (ev_pick_t rfl (by simp [g2]) rfl) ?_
    refine RS_q retB_noPanic rfl rfl rfl (ev_move rfl) ?_
    refine RS_q_yes retB_noPanic rfl rfl rfl ⟨_, rfl, (by simp)⟩ rfl (ev_loadN rfl (by repeat' first | exact LdN.blk rfl | assumption | apply LdN.skip | apply LdN.app)) ?_
    refine RS_q_yes retB_noPanic rfl rfl rfl ⟨_, rfl, (by simp)⟩ rfl (ev_move rfl) ?_
    refine RS_q_yes retB_noPanic rfl rfl rfl ⟨_, rfl, (by simp)⟩ rfl (ev_move rfl) ?_
    refine RS_q_yes retB_noPanic rfl rfl rfl ⟨_, rfl, (by simp)⟩ rfl (ev_loadN rfl (by repeat' first | exact LdN.blk rfl | assumption | apply LdN.skip | apply LdN.app)) ?_
    refine RS_q_yes retB_noPanic rfl rfl rfl ⟨_, rfl, (by simp)⟩ rfl (ev_move rfl) ?_
    refine RS_q_yes retB_noPanic rfl rfl rfl ⟨_, rfl, (by simp)⟩ rfl (ev_move rfl) ?_
    refine RS_e (RE_eff_yes rfl rfl rfl ⟨_, rfl, (by simp)⟩ rfl (eff_call rfl (Z6 _ (by repeat' first | exact Rc.blk rfl | assumption | apply Rd.skip | apply Rd.app) (by repeat' first | exact Rc.blk rfl | assumption | apply Rd.skip | apply Rd.app))) ?_); rintro _ _ ⟨A7, c7, N7, rfl, z1, z2, rfl, z3⟩; refine ⟨_, fun _ s => s, (by (repeat first | exact fun _ s => s | apply en_keep | apply en_drop | apply en_app) <;> fail), ?_⟩
    refine RS_e (RE_eff_yes rfl rfl rfl ⟨_, rfl, (by simp)⟩ rfl (eff_call rfl (rPlain_ctr q A1 A2 _ c1 _ c2 l1 s1 _ (by repeat' first | exact Rc.blk rfl | assumption | apply Rd.skip | apply Rd.app) (by repeat' first | exact Rc.blk rfl | assumption | apply Rd.skip | apply Rd.app) (by omega) (by omega))) ?_); rintro _ _ ⟨A8, c8, N8, rfl, t1, t2, rfl, t3⟩; refine ⟨_, fun _ s => s, (by (repeat first | exact fun _ s => s | apply en_keep | apply en_drop | apply en_app) <;> fail), ?_⟩
    refine RS_e (RE_eff_yes rfl rfl rfl ⟨_, rfl, (by simp)⟩ rfl (eff_call rfl (AnsSame_ctr _ _ A7 A8 _ _ c7 c8 (q.out l1 s1) (q.rOut l1 s1) _ (by repeat' first | exact Rc.blk rfl | assumption | apply Rd.skip | apply Rd.app) (by repeat' first | exact Rc.blk rfl | assumption | apply Rd.skip | apply Rd.app) (by unfold maxLen at z2; omega))) ?_); rintro _ _ ⟨rfl, rfl⟩; refine ⟨_, fun _ s => s, (by (repeat first | exact fun _ s => s | apply en_keep | apply en_drop | apply en_app) <;> fail), ?_⟩
    refine RS_q retB_noPanic rfl rfl rfl (ev_pick_t rfl (by simp) rfl) ?_
    refine RS_q retB_noPanic rfl rfl rfl (ev_move rfl) ?_
    refine RS_e (RE_eff_yes rfl rfl rfl ⟨_, rfl, (by simp [eo])⟩ rfl (eff_call rfl (lives25_ctr _)) ?_); rintro _ _ ⟨rfl, rfl⟩; refine ⟨_, fun _ s => s, (by (repeat first | exact fun _ s => s | apply en_keep | apply en_drop | apply en_app) <;> fail), ?_⟩
    refine RS_q retB_noPanic rfl rfl rfl (ev_pick_t rfl (by simp [eo]) rfl) ?_
    refine RS_q retB_noPanic rfl rfl rfl (ev_assign rfl) ?_
    refine RS_nil ?_
    (repeat first | refine G_seq ?_ | refine G_skip ?_ | refine G_endblk ?_ | refine G_block ?_ | refine G_exit rfl ?_)
    exact G_ret (L' := L) rfl (.tmp rfl .nil) (by repeat first | exact en_keep HML | apply en_drop | apply en_app) ⟨rfl, rfl⟩
  · have g1 := q.only_none hf
    rw [g1]
    unfold Qy.fine at hf
    (repeat first | refine G_seq ?_ | refine G_skip ?_ | refine G_endblk ?_ | refine G_block ?_ | refine G_exit rfl ?_)
    refine G_region ?_
    refine GO_q rfl rfl (ev_fieldAddr rfl) ?_
    refine GO_q rfl rfl (ev_load rfl (by repeat' first | exact Ld.blk rfl | assumption | apply Ld.skip | apply Ld.app)) ?_
    refine GO_q rfl rfl (ev_geq rfl rfl) ?_
    refine GO_q rfl rfl (ev_move rfl) ?_
    refine GO_guard rfl rfl rfl (fun hc88 => ?y88) (fun hc88 => ?n88)
    case' n88 =>
      have hd88 := hc88
      try simp only [decide_eq_true_eq, decide_eq_false_iff_not, Bool.not_true, Bool.not_false, Bool.not_eq_true', Bool.not_eq_false'] at hd88
      refine GO_no rfl rfl rfl hc88 ?_
      refine GO_no rfl rfl rfl hc88 ?_
      refine GO_q rfl rfl (ev_pick_f rfl hc88 rfl) ?_
      refine GO_q rfl rfl (ev_assign rfl) ?_
      refine GO_nil ?_
      (repeat first | refine G_seq ?_ | refine G_skip ?_ | refine G_endblk ?_ | refine G_block ?_ | refine G_exit rfl ?_)
    case' y88 =>
      have hd88 := hc88
      try simp only [decide_eq_true_eq, decide_eq_false_iff_not, Bool.not_true, Bool.not_false, Bool.not_eq_true', Bool.not_eq_false'] at hd88
      refine GO_q rfl rfl (ev_fieldAddr rfl) ?_
      refine GO_yes rfl rfl rfl hc88 ?_
      refine GO_q rfl rfl (ev_load rfl (by repeat' first | exact Ld.blk rfl | assumption | apply Ld.skip | apply Ld.app)) ?_
      refine GO_yes rfl rfl rfl hc88 ?_
      refine GO_q rfl rfl (ev_leq rfl rfl) ?_
      refine GO_q rfl rfl (ev_pick_t rfl hc88 rfl) ?_
      refine GO_q rfl rfl (ev_assign rfl) ?_
      refine GO_nil ?_
      (repeat first | refine G_seq ?_ | refine G_skip ?_ | refine G_endblk ?_ | refine G_block ?_ | refine G_exit rfl ?_)
    all_goals
      (repeat first | refine G_seq ?_ | refine G_skip ?_ | refine G_endblk ?_ | refine G_block ?_ | refine G_exit rfl ?_)
      refine G_region ?_
      refine GO_q rfl rfl (ev_move rfl) ?_
      (first | refine GO_q rfl rfl (ev_notP rfl) ?_ | refine GO_q rfl rfl (ev_not rfl) ?_)
      refine GO_nil ?_
      (repeat first | refine G_seq ?_ | refine G_skip ?_ | refine G_endblk ?_ | refine G_block ?_ | refine G_exit rfl ?_)
      first
      | (exfalso; omega)
      | refine G_cond_t rfl (by first | rfl | (simp; omega)) ?_
      (repeat first | refine G_seq ?_ | refine G_skip ?_ | refine G_endblk ?_ | refine G_block ?_ | refine G_exit rfl ?_)
      refine G_region ?_
      refine GO_q rfl rfl (ev_loadN rfl (by repeat' first | exact LdN.blk rfl | assumption | apply LdN.skip | apply LdN.app)) ?_
      refine GO_q rfl rfl (ev_build rfl rfl) ?_
      refine GO_q rfl rfl (ev_eqlS rfl rfl rfl rfl rfl rfl) ?_
      refine GO_q rfl rfl (ev_move rfl) ?_
      refine GO_yes rfl rfl rfl (by simp) ?_
      refine GO_eff rfl rfl (eff_call rfl (lives25_ctr _)) ?_; rintro _ _ ⟨rfl, rfl⟩
      refine GO_q rfl rfl (ev_pick_t rfl (by simp) rfl) ?_
      refine GO_q rfl rfl (ev_assign rfl) ?_
      refine GO_nil ?_
      (repeat first | refine G_seq ?_ | refine G_skip ?_ | refine G_endblk ?_ | refine G_block ?_ | refine G_exit rfl ?_)
      exact G_ret (L' := L) rfl (.tmp rfl .nil) (by repeat first | exact en_keep HML | apply en_drop | apply en_app) ⟨rfl, rfl⟩
theorem planOnly_walk (x0 x1 x2 x3 x4 x5 x6 x7 x8 x9 y0 y1 y2 y3 y4 y5 y6 y7 y8 y9 : Int) (A B : Option Addr) (n c m d : Nat) (ns ms : List Int) (w : World) (hc : n ≤ c) (hc2 : c ≤ maxLen) (hd : m ≤ d) (hd2 : d ≤ maxLen) (h1 : Reads w 3 A n (ints ns)) (h2 : Reads w 3 B m (ints ms)) :
    Calls Try.prog 6 #[.agg #[.int .i64 x0, .int .i64 x1, .int .i64 x2, .int .i64 x3, .int .i64 x4, .int .i64 x5, .int .i64 x6, .int .i64 x7, .int .i64 x8, .int .i64 x9], .agg #[.int .i64 y0, .int .i64 y1, .int .i64 y2, .int .i64 y3, .int .i64 y4, .int .i64 y5, .int .i64 y6, .int .i64 y7, .int .i64 y8, .int .i64 y9], .agg #[.slice A n c, .slice B m d]] w fun e w' => e = .returned (.bool true) ∧ Below w.heap.size w w' := by
  obtain ⟨l, hl⟩ := rd_pts h1
  obtain ⟨s, hs⟩ := rd_sps h2
  exact law_of_ctr (planOnly_ctr ⟨x0, ⟨x1, x2, x3, x4⟩, ⟨x5, x6, x7⟩, x8, x9⟩ ⟨y0, ⟨y1, y2, y3, y4⟩, ⟨y5, y6, y7⟩, y8, y9⟩ A B n c m d l s _ hl hc hc2 hs hd hd2)
end Go.Proofs.Ytcdafmmfcjbodaa
