/- Plan: the reference's plain answer. -/
import Derived.Test.YtcdafmmfcjbodaaPh
import Derived.Test.YtcdafmmfcjbodaaOrd
namespace Go.Proofs.Ytcdafmmfcjbodaa
attribute [local irreducible] sat
set_option linter.unusedVariables false
set_option linter.unusedSimpArgs false
set_option maxRecDepth 100000

def Qy.rHi (q : Qy) : Int := if q.kind = 5 then q.x else q.hi
def Qy.rHit (q : Qy) (p : Pt) : Bool := decide (q.kind ≤ 2) && q.bx.has p.x p.y || (decide (q.kind = 3) || decide (q.kind = 4)) && q.wn.sees p.x p.y
def Qy.rMet (q : Qy) (s : Sp) : Bool := decide (5 ≤ q.kind) && s.over ⟨0, q.x, q.rHi⟩
theorem Qy.known (q : Qy) (h : q.chk = 0) : 1 ≤ q.kind ∧ q.kind ≤ 7 := by
  unfold Qy.chk at h
  repeat' split at h
  all_goals omega
theorem Qy.rHit_eq (q : Qy) (h : q.chk = 0) (p : Pt) : q.rHit p = (q.pts && q.hit p) := by
  obtain ⟨h1, h2⟩ := q.known h
  unfold Qy.rHit Qy.pts Qy.hit
  by_cases k2 : q.kind ≤ 2
  · simp [k2, h1, show q.kind ≤ 4 by omega, show ¬ q.kind = 3 by omega, show ¬ q.kind = 4 by omega]
  · by_cases k3 : q.kind = 3
    · simp [k3]
    · by_cases k4 : q.kind = 4
      · simp [k4]
      · simp [k2, k3, k4, show ¬ q.kind ≤ 4 by omega]
theorem Qy.rMet_eq (q : Qy) (h : q.chk = 0) (s : Sp) : q.rMet s = (!q.pts && q.met s) := by
  obtain ⟨h1, h2⟩ := q.known h
  unfold Qy.rMet Qy.pts Qy.met Qy.rHi
  by_cases k5 : q.kind = 5
  · simp only [k5, Sp.over, wthn, if_true]
    simp
    omega
  · by_cases hk : 5 ≤ q.kind
    · simp [k5, hk, show ¬ q.kind ≤ 4 by omega]
    · simp [hk, h1, show q.kind ≤ 4 by omega]
theorem Qy.pIds_r (q : Qy) (h : q.chk = 0) (l : List Pt) : q.pIds l = (l.filter q.rHit).map (·.id) := by
  unfold Qy.pIds
  congr 2
  funext p
  exact (q.rHit_eq h p).symm
theorem Qy.sIds_r (q : Qy) (h : q.chk = 0) (l : List Sp) : q.sIds l = (l.filter q.rMet).map (·.id) := by
  unfold Qy.sIds
  congr 2
  funext p
  exact (q.rMet_eq h p).symm
def Qy.rOut (q : Qy) (l : List Pt) (m : List Sp) : List Int := if q.chk ≠ 0 then [] else if q.cnt then [] else rising (q.ids l m)
theorem Qy.rOut_eq (q : Qy) (l : List Pt) (m : List Sp) : q.rOut l m = q.out l m := by
  unfold Qy.rOut Qy.out
  rw [rising_srt _ _ (.refl _)]

theorem rPlain_ctr (q : Qy) (A B : Option Addr) (n c m d : Nat) (l : List Pt) (s : List Sp) (L : List HP) (hl : Rd L A n l) (hs : Rd L B m s) (hn : n ≤ 40000) (hm : m ≤ 40000) :
    Ctr Try.prog 21 #[q.v, .slice A n c, .slice B m d] L fun v L' => AnsRes (q.n l s) (q.rOut l s) L v L' := by
  have h1 : l.length = n := hl.len (by decide)
  have h2 : s.length = m := hs.len (by decide)
  refine Ctr_of (fn := Try.f21) (n := 118) Try.func21 rfl rfl rfl ?_
  intro g F
  (repeat first | refine G_seq ?_ | refine G_skip ?_ | refine G_endblk ?_ | refine G_block ?_ | refine G_exit rfl ?_)
  refine G_region ?_
  refine GO_eff rfl rfl (eff_box rfl) ?_; rintro _ _ ⟨b3, rfl, rfl⟩
  refine GO_eff rfl rfl eff_alloc ?_; rintro _ _ ⟨b6, rfl, rfl⟩
  refine GO_nil ?_
  (repeat first | refine G_seq ?_ | refine G_skip ?_ | refine G_endblk ?_ | refine G_block ?_ | refine G_exit rfl ?_)
  refine G_region ?_
  refine GO_q rfl rfl (ev_loadN rfl (by repeat' first | exact LdN.blk rfl | assumption | apply LdN.skip | apply LdN.app)) ?_
  refine GO_eff rfl rfl (eff_call rfl (rcheck_ctr q _)) ?_; rintro _ _ ⟨rfl, rfl⟩
  refine GO_q rfl rfl (ev_neq rfl rfl) ?_
  refine GO_nil ?_
  (repeat first | refine G_seq ?_ | refine G_skip ?_ | refine G_endblk ?_ | refine G_block ?_ | refine G_exit rfl ?_)
  refine G_cond rfl (fun c1 => ?_) (fun c1 => ?_)
  · have e1 : q.n l s = 0 := by simp [Qy.n, c1]
    have e2 : q.rOut l s = [] := by simp [Qy.rOut, c1]
    rw [e1, e2]
    (repeat first | refine G_seq ?_ | refine G_skip ?_ | refine G_endblk ?_ | refine G_block ?_ | refine G_exit rfl ?_)
    refine G_region ?_
    refine GO_q rfl rfl (ev_build rfl rfl) ?_
    refine GO_eff rfl rfl (eff_storeN rfl rfl rfl rfl (by repeat' first | exact Upd.here rfl | apply Upd.skip | apply Upd.app)) ?_; rintro _ _ ⟨rfl, rfl⟩
    refine GO_nil ?_
    (repeat first | refine G_seq ?_ | refine G_skip ?_ | refine G_endblk ?_ | refine G_block ?_ | refine G_exit rfl ?_)
    refine G_ret rfl (.cell rfl (loadN_run (by repeat' first | exact LdN.blk rfl | assumption | apply LdN.skip | apply LdN.app)) .nil) (by (repeat first | exact fun _ s => s | apply en_keep | apply en_drop | apply en_app) <;> fail) (AnsRes.nil rfl)
  · have c0 : q.chk = 0 := by omega
    have e1 : q.n l s = (q.ids l s).length := by unfold Qy.n; rw [if_neg c1]
    have e2 : q.rOut l s = if q.cnt then [] else rising (q.ids l s) := by unfold Qy.rOut; rw [if_neg c1]
    rw [e1, e2]
    (repeat first | refine G_seq ?_ | refine G_skip ?_ | refine G_endblk ?_ | refine G_block ?_ | refine G_exit rfl ?_)
    refine G_region ?_
    refine GO_eff rfl rfl eff_buildSlice0 ?_; rintro _ _ ⟨b15, rfl, rfl⟩
    refine GO_q rfl rfl (ev_assign rfl) ?_
    refine GO_nil ?_
    (repeat first | refine G_seq ?_ | refine G_skip ?_ | refine G_endblk ?_ | refine G_block ?_ | refine G_exit rfl ?_)
    refine G_region ?_
    refine GO_q rfl rfl (ev_assign rfl) ?_
    refine GO_nil ?_
    (repeat first | refine G_seq ?_ | refine G_skip ?_ | refine G_endblk ?_)
    refine G_cut (ι := Nat × Nat × List Int) (fun x => [(2, .slice B m d), (3, .pointer (some ⟨b3, 0, none⟩)), (6, .pointer (some ⟨b6, 0, none⟩)), (7, .slice (some ⟨x.1, 0, none⟩) x.2.2.length x.2.1)]) (fun x => own 3 1 (some ⟨x.1, 0, none⟩) x.2.2.length x.2.1 (flat x.2.2) :: blk b6 43 [.int .i64 0, .slice none 0 0] :: blk b3 37 (cellsL q.v) :: F :: L)
      (fun x => x.2.2 = q.pIds l ∧ x.2.2.length ≤ x.2.1 ∧ x.2.1 ≤ maxLen) ?_ ?_
    · (repeat first | refine G_seq ?_ | refine G_skip ?_ | refine G_endblk ?_ | refine G_block ?_ | refine G_exit rfl ?_)
      refine G_loop (ι := Nat × Nat × Nat × List Int) (fun x => [(1, .slice A n c), (2, .slice B m d), (3, .pointer (some ⟨b3, 0, none⟩)), (6, .pointer (some ⟨b6, 0, none⟩)), (7, .slice (some ⟨x.2.1, 0, none⟩) x.2.2.2.length x.2.2.1), (8, .int .i64 (x.1 : Nat))]) (fun x => own 3 1 (some ⟨x.2.1, 0, none⟩) x.2.2.2.length x.2.2.1 (flat x.2.2.2) :: blk b6 43 [.int .i64 0, .slice none 0 0] :: blk b3 37 (cellsL q.v) :: F :: L)
        (fun x => x.1 ≤ n ∧ x.2.2.2 = q.pIds (l.take x.1) ∧ x.2.2.2.length ≤ x.2.2.1 ∧ x.2.2.1 ≤ maxLen) (fun x => n - x.1) (0, b15, 0, []) ⟨Nat.zero_le _, by simp [Qy.pIds], Nat.le_refl _, Nat.zero_le _⟩ ⟨rfl, rfl, rfl, rfl, rfl, rfl, trivial⟩ (by (repeat first | exact fun _ s => s | apply en_keep | apply en_drop | apply en_app) <;> fail) ?_
      rintro ⟨k, A1, d1, zs⟩ ⟨f1, f2, f3, f4⟩
      simp only at f1 f2 f3 f4
      dsimp only
      have f6 : zs.length ≤ k := by
        rw [f2]; exact Nat.le_trans (q.pIds_len _) (List.length_take_le _ _)
      (repeat first | refine G_seq ?_ | refine G_skip ?_ | refine G_endblk ?_ | refine G_block ?_ | refine G_exit rfl ?_)
      refine G_region ?_
      refine GO_q rfl rfl (ev_move rfl) ?_
      refine GO_q rfl rfl (ev_move rfl) ?_
      refine GO_q rfl rfl (ev_len rfl) ?_
      (first | refine GO_q rfl rfl (ev_lssN rfl rfl) ?_ | refine GO_q rfl rfl (ev_lss rfl rfl) ?_)
      refine GO_nil ?_
      (repeat first | refine G_seq ?_ | refine G_skip ?_ | refine G_endblk ?_ | refine G_block ?_ | refine G_exit rfl ?_)
      refine G_cond rfl (fun c2 => ?_) (fun c2 => ?_)
      · obtain ⟨lb, lo, rfl, hx⟩ := hl.at_ (by omega)
        have hg : l[k]? = some l[k] := List.getElem?_eq_getElem (by omega)
        have ht := q.pIds_take l k _ hg
        have y1 := hx _ _ hg
        generalize l[k] = p at *
        rw [← q.rHit_eq c0] at ht
        have z0 : Ld L ⟨lb, lo + k * 3 + 0, none⟩ (.int .i64 p.id) := y1.at_ (i := 0) rfl
        have z1 : Ld L ⟨lb, lo + k * 3 + 1, none⟩ (.int .i64 p.x) := y1.at_ (i := 1) rfl
        have z2 : Ld L ⟨lb, lo + k * 3 + 2, none⟩ (.int .i64 p.y) := y1.at_ (i := 2) rfl
        (repeat first | refine G_seq ?_ | refine G_skip ?_ | refine G_endblk ?_ | refine G_block ?_ | refine G_exit rfl ?_)
        refine G_draw (.q 0 (.q 1 (.q 2 (.q 3 (.q 4 (.q 5 (.q 6 (.q 7 (.q 8 (.q 9 (.q 10 (.q 11 (.q 12 (.q 13 (.q 14 (.q 15 (.e 16 (.q 17 (.q 18 (.q 19 (.q 20 (.q 21 (.q 22 (.q 23 (.q 24 (.q 25 (.q 26 (.q 27 (.q 28 (.q 29 (.q 30 (.q 31 (.q 32 (.q 33 (.q 34 (.q 35 (.q 36 (.q 37 (.q 38 (.q 39 (.e 40 (.q 41 (.q 42 .nil))))))))))))))))))))))))))))))))))))))))))) (by kernel_rfl) (by kernel_rfl) ?_
        refine RS_q retB_noPanic rfl rfl rfl (ev_fieldAddr rfl) ?_
        refine RS_q retB_noPanic rfl rfl rfl (ev_load rfl (by repeat' first | exact Ld.blk rfl | assumption | apply Ld.skip | apply Ld.app)) ?_
        refine RS_q retB_noPanic rfl rfl rfl (ev_leq rfl rfl) ?_
        refine RS_q retB_noPanic rfl rfl rfl (ev_move rfl) ?_
        refine RS_guard (d := 25) true rfl (fun hc296 => ?y296) (fun hc296 => ?n296)
        case' n296 =>
          have hd296 := hc296
          try simp only [decide_eq_true_eq, decide_eq_false_iff_not, Bool.not_true, Bool.not_false, Bool.not_eq_true', Bool.not_eq_false'] at hd296
          refine RS_q_no retB_noPanic rfl rfl rfl ⟨_, rfl, hc296⟩ rfl ?_
          refine RS_q_no retB_noPanic rfl rfl rfl ⟨_, rfl, hc296⟩ rfl ?_
          refine RS_q_no retB_noPanic rfl rfl rfl ⟨_, rfl, hc296⟩ rfl ?_
          refine RS_q_no retB_noPanic rfl rfl rfl ⟨_, rfl, hc296⟩ rfl ?_
          refine RS_q_no retB_noPanic rfl rfl rfl ⟨_, rfl, hc296⟩ rfl ?_
          refine RS_q_no retB_noPanic rfl rfl rfl ⟨_, rfl, hc296⟩ rfl ?_
          refine RS_q_no retB_noPanic rfl rfl rfl ⟨_, rfl, hc296⟩ rfl ?_
          refine RS_q_no retB_noPanic rfl rfl rfl ⟨_, rfl, hc296⟩ rfl ?_
          refine RS_q_no retB_noPanic rfl rfl rfl ⟨_, rfl, hc296⟩ rfl ?_
          refine RS_q_no retB_noPanic rfl rfl rfl ⟨_, rfl, hc296⟩ rfl ?_
          refine RS_q_no retB_noPanic rfl rfl rfl ⟨_, rfl, hc296⟩ rfl ?_
          refine RS_q_no retB_noPanic rfl rfl rfl ⟨_, rfl, hc296⟩ rfl ?_
          refine RS_e (RE_no rfl rfl rfl ⟨_, rfl, hc296⟩ rfl ?_)
          refine RS_q retB_noPanic rfl rfl rfl (ev_pick_f rfl hc296 rfl) ?_
          refine RS_q retB_noPanic rfl rfl rfl (ev_move rfl) ?_
          refine RS_q_yes retB_noPanic rfl rfl rfl ⟨_, rfl, rfl⟩ rfl (ev_fieldAddr rfl) ?_
          refine RS_q_yes retB_noPanic rfl rfl rfl ⟨_, rfl, rfl⟩ rfl (ev_load rfl (by repeat' first | exact Ld.blk rfl | assumption | apply Ld.skip | apply Ld.app)) ?_
          refine RS_q_yes retB_noPanic rfl rfl rfl ⟨_, rfl, rfl⟩ rfl (ev_eql rfl rfl) ?_
          refine RS_q_yes retB_noPanic rfl rfl rfl ⟨_, rfl, rfl⟩ rfl (ev_move rfl) ?_
          refine RS_guard (d := 44) false rfl (fun hc414 => ?y414) (fun hc414 => ?n414)
          case' n414 =>
            have hd414 := hc414
            try simp only [decide_eq_true_eq, decide_eq_false_iff_not, Bool.not_true, Bool.not_false, Bool.not_eq_true', Bool.not_eq_false'] at hd414
            refine RS_q_no retB_noPanic rfl rfl rfl ⟨_, rfl, hc414⟩ rfl ?_
            refine RS_q_no retB_noPanic rfl rfl rfl ⟨_, rfl, hc414⟩ rfl ?_
            refine RS_q_no retB_noPanic rfl rfl rfl ⟨_, rfl, hc414⟩ rfl ?_
            refine RS_q_yes retB_noPanic rfl rfl rfl ⟨_, rfl, rfl⟩ rfl (ev_pick_t rfl hc414 rfl) ?_
            refine RS_q_yes retB_noPanic rfl rfl rfl ⟨_, rfl, rfl⟩ rfl (ev_move rfl) ?_
            refine RS_q_yes retB_noPanic rfl rfl rfl ⟨_, rfl, rfl⟩ rfl (ev_fieldAddr rfl) ?_
            refine RS_q_yes retB_noPanic rfl rfl rfl ⟨_, rfl, rfl⟩ rfl (ev_loadN rfl (by repeat' first | exact LdN.blk rfl | assumption | apply LdN.skip | apply LdN.app)) ?_
            refine RS_q_yes retB_noPanic rfl rfl rfl ⟨_, rfl, rfl⟩ rfl (ev_move rfl) ?_
            refine RS_q_yes retB_noPanic rfl rfl rfl ⟨_, rfl, rfl⟩ rfl (ev_move rfl) ?_
            (first | refine RS_q_yes retB_noPanic rfl rfl rfl ⟨_, rfl, rfl⟩ rfl (ev_indexAddrN rfl rfl (by first | omega | (simp; done) | (simp; omega))) ?_ | refine RS_q_yes retB_noPanic rfl rfl rfl ⟨_, rfl, rfl⟩ rfl (ev_indexAddr rfl rfl (by first | omega | (simp; done) | (simp; omega)) (by first | omega | (simp; done) | (simp; omega))) ?_)
            refine RS_q_yes retB_noPanic rfl rfl rfl ⟨_, rfl, rfl⟩ rfl (ev_fieldAddr rfl) ?_
            refine RS_q_yes retB_noPanic rfl rfl rfl ⟨_, rfl, rfl⟩ rfl (ev_load rfl (by repeat' first | exact Ld.blk rfl | assumption | apply Ld.skip | apply Ld.app)) ?_
            refine RS_q_yes retB_noPanic rfl rfl rfl ⟨_, rfl, rfl⟩ rfl (ev_move rfl) ?_
            refine RS_q_yes retB_noPanic rfl rfl rfl ⟨_, rfl, rfl⟩ rfl (ev_move rfl) ?_
            (first | refine RS_q_yes retB_noPanic rfl rfl rfl ⟨_, rfl, rfl⟩ rfl (ev_indexAddrN rfl rfl (by first | omega | (simp; done) | (simp; omega))) ?_ | refine RS_q_yes retB_noPanic rfl rfl rfl ⟨_, rfl, rfl⟩ rfl (ev_indexAddr rfl rfl (by first | omega | (simp; done) | (simp; omega)) (by first | omega | (simp; done) | (simp; omega))) ?_)
            refine RS_q_yes retB_noPanic rfl rfl rfl ⟨_, rfl, rfl⟩ rfl (ev_fieldAddr rfl) ?_
            refine RS_q_yes retB_noPanic rfl rfl rfl ⟨_, rfl, rfl⟩ rfl (ev_load rfl (by repeat' first | exact Ld.blk rfl | assumption | apply Ld.skip | apply Ld.app)) ?_
            refine RS_e (RE_eff_yes rfl rfl rfl ⟨_, rfl, rfl⟩ rfl (eff_call rfl (RSees_ctr q.wn p.x p.y _)) ?_); rintro _ _ ⟨rfl, rfl⟩; refine ⟨_, fun _ s => s, (by (repeat first | exact fun _ s => s | apply en_keep | apply en_drop | apply en_app) <;> fail), ?_⟩
            refine RS_q_yes retB_noPanic rfl rfl rfl ⟨_, rfl, rfl⟩ rfl (ev_pick_t rfl rfl rfl) ?_
            refine RS_q retB_noPanic rfl rfl rfl (ev_pick_f rfl rfl rfl) ?_
            refine RS_nil ?_
            (repeat first | refine G_seq ?_ | refine G_skip ?_ | refine G_endblk ?_ | refine G_block ?_ | refine G_exit rfl ?_)
            refine G_condB rfl (fun hc466 => ?y466) (fun hc466 => ?n466)
            case' n466 =>
              have hd466 := hc466
              try simp only [decide_eq_true_eq, decide_eq_false_iff_not, Bool.not_true, Bool.not_false, Bool.not_eq_true', Bool.not_eq_false'] at hd466
              (repeat first | refine G_seq ?_ | refine G_skip ?_ | refine G_endblk ?_ | refine G_block ?_ | refine G_exit rfl ?_)
            case' y466 =>
              have hd466 := hc466
              try simp only [decide_eq_true_eq, decide_eq_false_iff_not, Bool.not_true, Bool.not_false, Bool.not_eq_true', Bool.not_eq_false'] at hd466
              (repeat first | refine G_seq ?_ | refine G_skip ?_ | refine G_endblk ?_ | refine G_block ?_ | refine G_exit rfl ?_)
              refine G_region ?_
              refine GO_q rfl rfl (ev_move rfl) ?_
              refine GO_q rfl rfl (ev_move rfl) ?_
              refine GO_q rfl rfl (ev_move rfl) ?_
              (first | refine GO_q rfl rfl (ev_indexAddrN rfl rfl (by first | omega | (simp; done) | (simp; omega))) ?_ | refine GO_q rfl rfl (ev_indexAddr rfl rfl (by first | omega | (simp; done) | (simp; omega)) (by first | omega | (simp; done) | (simp; omega))) ?_)
              refine GO_q rfl rfl (ev_fieldAddr rfl) ?_
              refine GO_q rfl rfl (ev_load rfl (by repeat' first | exact Ld.blk rfl | assumption | apply Ld.skip | apply Ld.app)) ?_
              refine GO_eff rfl rfl (eff_buildSlice1 (by rfl) rfl rfl) ?_; rintro _ _ ⟨b71, rfl, rfl⟩
              refine GO_eff rfl rfl (eff_append rfl rfl (by repeat' first | exact Pick.here | apply Pick.skip) (Rc.blk rfl) (one_all rfl) (by rfl) (by decide) (by omega) (by omega)) ?_; rintro _ _ ⟨A72, c72, rfl, hc72, hm72, hn72, rfl⟩; obtain ⟨b9_72, rfl⟩ := hn72 (by omega)
              refine GO_q rfl rfl (ev_assign rfl) ?_
              refine GO_nil ?_
              (repeat first | refine G_seq ?_ | refine G_skip ?_ | refine G_endblk ?_ | refine G_block ?_ | refine G_exit rfl ?_)
          case' y414 =>
            have hd414 := hc414
            try simp only [decide_eq_true_eq, decide_eq_false_iff_not, Bool.not_true, Bool.not_false, Bool.not_eq_true', Bool.not_eq_false'] at hd414
            refine RS_q_yes retB_noPanic rfl rfl rfl ⟨_, rfl, hc414⟩ rfl (ev_fieldAddr rfl) ?_
            refine RS_q_yes retB_noPanic rfl rfl rfl ⟨_, rfl, hc414⟩ rfl (ev_load rfl (by repeat' first | exact Ld.blk rfl | assumption | apply Ld.skip | apply Ld.app)) ?_
            refine RS_q_yes retB_noPanic rfl rfl rfl ⟨_, rfl, hc414⟩ rfl (ev_eql rfl rfl) ?_
            refine RS_q_yes retB_noPanic rfl rfl rfl ⟨_, rfl, rfl⟩ rfl (ev_pick_f rfl hc414 rfl) ?_
            refine RS_q_yes retB_noPanic rfl rfl rfl ⟨_, rfl, rfl⟩ rfl (ev_move rfl) ?_
            refine RS_guard (d := 49) true rfl (fun hc418 => ?y418) (fun hc418 => ?n418)
            case' n418 =>
              have hd418 := hc418
              try simp only [decide_eq_true_eq, decide_eq_false_iff_not, Bool.not_true, Bool.not_false, Bool.not_eq_true', Bool.not_eq_false'] at hd418
              refine RS_q_no retB_noPanic rfl rfl rfl ⟨_, rfl, hc418⟩ rfl ?_
              refine RS_q_no retB_noPanic rfl rfl rfl ⟨_, rfl, hc418⟩ rfl ?_
              refine RS_q_no retB_noPanic rfl rfl rfl ⟨_, rfl, hc418⟩ rfl ?_
              refine RS_q_no retB_noPanic rfl rfl rfl ⟨_, rfl, hc418⟩ rfl ?_
              refine RS_q_no retB_noPanic rfl rfl rfl ⟨_, rfl, hc418⟩ rfl ?_
              refine RS_q_no retB_noPanic rfl rfl rfl ⟨_, rfl, hc418⟩ rfl ?_
              refine RS_q_no retB_noPanic rfl rfl rfl ⟨_, rfl, hc418⟩ rfl ?_
              refine RS_q_no retB_noPanic rfl rfl rfl ⟨_, rfl, hc418⟩ rfl ?_
              refine RS_q_no retB_noPanic rfl rfl rfl ⟨_, rfl, hc418⟩ rfl ?_
              refine RS_q_no retB_noPanic rfl rfl rfl ⟨_, rfl, hc418⟩ rfl ?_
              refine RS_q_no retB_noPanic rfl rfl rfl ⟨_, rfl, hc418⟩ rfl ?_
              refine RS_q_no retB_noPanic rfl rfl rfl ⟨_, rfl, hc418⟩ rfl ?_
              refine RS_e (RE_no rfl rfl rfl ⟨_, rfl, hc418⟩ rfl ?_)
              refine RS_q_yes retB_noPanic rfl rfl rfl ⟨_, rfl, rfl⟩ rfl (ev_pick_f rfl hc418 rfl) ?_
              refine RS_q retB_noPanic rfl rfl rfl (ev_pick_f rfl rfl rfl) ?_
              refine RS_nil ?_
              (repeat first | refine G_seq ?_ | refine G_skip ?_ | refine G_endblk ?_ | refine G_block ?_ | refine G_exit rfl ?_)
              refine G_cond_f rfl rfl ?_
              (repeat first | refine G_seq ?_ | refine G_skip ?_ | refine G_endblk ?_ | refine G_block ?_ | refine G_exit rfl ?_)
            case' y418 =>
              have hd418 := hc418
              try simp only [decide_eq_true_eq, decide_eq_false_iff_not, Bool.not_true, Bool.not_false, Bool.not_eq_true', Bool.not_eq_false'] at hd418
              refine RS_q_yes retB_noPanic rfl rfl rfl ⟨_, rfl, hc418⟩ rfl (ev_fieldAddr rfl) ?_
              refine RS_q_yes retB_noPanic rfl rfl rfl ⟨_, rfl, hc418⟩ rfl (ev_loadN rfl (by repeat' first | exact LdN.blk rfl | assumption | apply LdN.skip | apply LdN.app)) ?_
              refine RS_q_yes retB_noPanic rfl rfl rfl ⟨_, rfl, hc418⟩ rfl (ev_move rfl) ?_
              refine RS_q_yes retB_noPanic rfl rfl rfl ⟨_, rfl, hc418⟩ rfl (ev_move rfl) ?_
              (first | refine RS_q_yes retB_noPanic rfl rfl rfl ⟨_, rfl, hc418⟩ rfl (ev_indexAddrN rfl rfl (by first | omega | (simp; done) | (simp; omega))) ?_ | refine RS_q_yes retB_noPanic rfl rfl rfl ⟨_, rfl, hc418⟩ rfl (ev_indexAddr rfl rfl (by first | omega | (simp; done) | (simp; omega)) (by first | omega | (simp; done) | (simp; omega))) ?_)
              refine RS_q_yes retB_noPanic rfl rfl rfl ⟨_, rfl, hc418⟩ rfl (ev_fieldAddr rfl) ?_
              refine RS_q_yes retB_noPanic rfl rfl rfl ⟨_, rfl, hc418⟩ rfl (ev_load rfl (by repeat' first | exact Ld.blk rfl | assumption | apply Ld.skip | apply Ld.app)) ?_
              refine RS_q_yes retB_noPanic rfl rfl rfl ⟨_, rfl, hc418⟩ rfl (ev_move rfl) ?_
              refine RS_q_yes retB_noPanic rfl rfl rfl ⟨_, rfl, hc418⟩ rfl (ev_move rfl) ?_
              (first | refine RS_q_yes retB_noPanic rfl rfl rfl ⟨_, rfl, hc418⟩ rfl (ev_indexAddrN rfl rfl (by first | omega | (simp; done) | (simp; omega))) ?_ | refine RS_q_yes retB_noPanic rfl rfl rfl ⟨_, rfl, hc418⟩ rfl (ev_indexAddr rfl rfl (by first | omega | (simp; done) | (simp; omega)) (by first | omega | (simp; done) | (simp; omega))) ?_)
              refine RS_q_yes retB_noPanic rfl rfl rfl ⟨_, rfl, hc418⟩ rfl (ev_fieldAddr rfl) ?_
              refine RS_q_yes retB_noPanic rfl rfl rfl ⟨_, rfl, hc418⟩ rfl (ev_load rfl (by repeat' first | exact Ld.blk rfl | assumption | apply Ld.skip | apply Ld.app)) ?_
              refine RS_e (RE_eff_yes rfl rfl rfl ⟨_, rfl, hc418⟩ rfl (eff_call rfl (RSees_ctr q.wn p.x p.y _)) ?_); rintro _ _ ⟨rfl, rfl⟩; refine ⟨_, fun _ s => s, (by (repeat first | exact fun _ s => s | apply en_keep | apply en_drop | apply en_app) <;> fail), ?_⟩
              refine RS_q_yes retB_noPanic rfl rfl rfl ⟨_, rfl, rfl⟩ rfl (ev_pick_t rfl hc418 rfl) ?_
              refine RS_q retB_noPanic rfl rfl rfl (ev_pick_f rfl rfl rfl) ?_
              refine RS_nil ?_
              (repeat first | refine G_seq ?_ | refine G_skip ?_ | refine G_endblk ?_ | refine G_block ?_ | refine G_exit rfl ?_)
              refine G_condB rfl (fun hc430 => ?y430) (fun hc430 => ?n430)
              case' n430 =>
                have hd430 := hc430
                try simp only [decide_eq_true_eq, decide_eq_false_iff_not, Bool.not_true, Bool.not_false, Bool.not_eq_true', Bool.not_eq_false'] at hd430
                (repeat first | refine G_seq ?_ | refine G_skip ?_ | refine G_endblk ?_ | refine G_block ?_ | refine G_exit rfl ?_)
              case' y430 =>
                have hd430 := hc430
                try simp only [decide_eq_true_eq, decide_eq_false_iff_not, Bool.not_true, Bool.not_false, Bool.not_eq_true', Bool.not_eq_false'] at hd430
                (repeat first | refine G_seq ?_ | refine G_skip ?_ | refine G_endblk ?_ | refine G_block ?_ | refine G_exit rfl ?_)
                refine G_region ?_
                refine GO_q rfl rfl (ev_move rfl) ?_
                refine GO_q rfl rfl (ev_move rfl) ?_
                refine GO_q rfl rfl (ev_move rfl) ?_
                (first | refine GO_q rfl rfl (ev_indexAddrN rfl rfl (by first | omega | (simp; done) | (simp; omega))) ?_ | refine GO_q rfl rfl (ev_indexAddr rfl rfl (by first | omega | (simp; done) | (simp; omega)) (by first | omega | (simp; done) | (simp; omega))) ?_)
                refine GO_q rfl rfl (ev_fieldAddr rfl) ?_
                refine GO_q rfl rfl (ev_load rfl (by repeat' first | exact Ld.blk rfl | assumption | apply Ld.skip | apply Ld.app)) ?_
                refine GO_eff rfl rfl (eff_buildSlice1 (by rfl) rfl rfl) ?_; rintro _ _ ⟨b71, rfl, rfl⟩
                refine GO_eff rfl rfl (eff_append rfl rfl (by repeat' first | exact Pick.here | apply Pick.skip) (Rc.blk rfl) (one_all rfl) (by rfl) (by decide) (by omega) (by omega)) ?_; rintro _ _ ⟨A72, c72, rfl, hc72, hm72, hn72, rfl⟩; obtain ⟨b9_72, rfl⟩ := hn72 (by omega)
                refine GO_q rfl rfl (ev_assign rfl) ?_
                refine GO_nil ?_
                (repeat first | refine G_seq ?_ | refine G_skip ?_ | refine G_endblk ?_ | refine G_block ?_ | refine G_exit rfl ?_)
        case' y296 =>
          have hd296 := hc296
          try simp only [decide_eq_true_eq, decide_eq_false_iff_not, Bool.not_true, Bool.not_false, Bool.not_eq_true', Bool.not_eq_false'] at hd296
          refine RS_q_yes retB_noPanic rfl rfl rfl ⟨_, rfl, hc296⟩ rfl (ev_fieldAddr rfl) ?_
          refine RS_q_yes retB_noPanic rfl rfl rfl ⟨_, rfl, hc296⟩ rfl (ev_loadN rfl (by repeat' first | exact LdN.blk rfl | assumption | apply LdN.skip | apply LdN.app)) ?_
          refine RS_q_yes retB_noPanic rfl rfl rfl ⟨_, rfl, hc296⟩ rfl (ev_move rfl) ?_
          refine RS_q_yes retB_noPanic rfl rfl rfl ⟨_, rfl, hc296⟩ rfl (ev_move rfl) ?_
          (first | refine RS_q_yes retB_noPanic rfl rfl rfl ⟨_, rfl, hc296⟩ rfl (ev_indexAddrN rfl rfl (by first | omega | (simp; done) | (simp; omega))) ?_ | refine RS_q_yes retB_noPanic rfl rfl rfl ⟨_, rfl, hc296⟩ rfl (ev_indexAddr rfl rfl (by first | omega | (simp; done) | (simp; omega)) (by first | omega | (simp; done) | (simp; omega))) ?_)
          refine RS_q_yes retB_noPanic rfl rfl rfl ⟨_, rfl, hc296⟩ rfl (ev_fieldAddr rfl) ?_
          refine RS_q_yes retB_noPanic rfl rfl rfl ⟨_, rfl, hc296⟩ rfl (ev_load rfl (by repeat' first | exact Ld.blk rfl | assumption | apply Ld.skip | apply Ld.app)) ?_
          refine RS_q_yes retB_noPanic rfl rfl rfl ⟨_, rfl, hc296⟩ rfl (ev_move rfl) ?_
          refine RS_q_yes retB_noPanic rfl rfl rfl ⟨_, rfl, hc296⟩ rfl (ev_move rfl) ?_
          (first | refine RS_q_yes retB_noPanic rfl rfl rfl ⟨_, rfl, hc296⟩ rfl (ev_indexAddrN rfl rfl (by first | omega | (simp; done) | (simp; omega))) ?_ | refine RS_q_yes retB_noPanic rfl rfl rfl ⟨_, rfl, hc296⟩ rfl (ev_indexAddr rfl rfl (by first | omega | (simp; done) | (simp; omega)) (by first | omega | (simp; done) | (simp; omega))) ?_)
          refine RS_q_yes retB_noPanic rfl rfl rfl ⟨_, rfl, hc296⟩ rfl (ev_fieldAddr rfl) ?_
          refine RS_q_yes retB_noPanic rfl rfl rfl ⟨_, rfl, hc296⟩ rfl (ev_load rfl (by repeat' first | exact Ld.blk rfl | assumption | apply Ld.skip | apply Ld.app)) ?_
          refine RS_e (RE_eff_yes rfl rfl rfl ⟨_, rfl, hc296⟩ rfl (eff_call rfl (RHas_ctr q.bx p.x p.y _)) ?_); rintro _ _ ⟨rfl, rfl⟩; refine ⟨_, fun _ s => s, (by (repeat first | exact fun _ s => s | apply en_keep | apply en_drop | apply en_app) <;> fail), ?_⟩
          refine RS_q retB_noPanic rfl rfl rfl (ev_pick_t rfl hc296 rfl) ?_
          refine RS_q retB_noPanic rfl rfl rfl (ev_move rfl) ?_
          refine RS_guard (d := 40) false rfl (fun hc308 => ?y308) (fun hc308 => ?n308)
          case' n308 =>
            have hd308 := hc308
            try simp only [decide_eq_true_eq, decide_eq_false_iff_not, Bool.not_true, Bool.not_false, Bool.not_eq_true', Bool.not_eq_false'] at hd308
            refine RS_q_no retB_noPanic rfl rfl rfl ⟨_, rfl, hc308⟩ rfl ?_
            refine RS_q_no retB_noPanic rfl rfl rfl ⟨_, rfl, hc308⟩ rfl ?_
            refine RS_q_no retB_noPanic rfl rfl rfl ⟨_, rfl, hc308⟩ rfl ?_
            refine RS_q_no retB_noPanic rfl rfl rfl ⟨_, rfl, hc308⟩ rfl ?_
            refine RS_q_undef retB_noPanic rfl rfl rfl rfl rfl ?_
            refine RS_q_undef retB_noPanic rfl rfl rfl rfl rfl ?_
            refine RS_q_undef retB_noPanic rfl rfl rfl rfl rfl ?_
            refine RS_q_no retB_noPanic rfl rfl rfl ⟨_, rfl, hc308⟩ rfl ?_
            refine RS_q_no retB_noPanic rfl rfl rfl ⟨_, rfl, hc308⟩ rfl ?_
            refine RS_q_undef retB_noPanic rfl rfl rfl rfl rfl ?_
            refine RS_q_undef retB_noPanic rfl rfl rfl rfl rfl ?_
            refine RS_q_undef retB_noPanic rfl rfl rfl rfl rfl ?_
            refine RS_q_undef retB_noPanic rfl rfl rfl rfl rfl ?_
            refine RS_q_undef retB_noPanic rfl rfl rfl rfl rfl ?_
            refine RS_q_undef retB_noPanic rfl rfl rfl rfl rfl ?_
            refine RS_q_undef retB_noPanic rfl rfl rfl rfl rfl ?_
            refine RS_q_undef retB_noPanic rfl rfl rfl rfl rfl ?_
            refine RS_q_undef retB_noPanic rfl rfl rfl rfl rfl ?_
            refine RS_q_undef retB_noPanic rfl rfl rfl rfl rfl ?_
            refine RS_q_undef retB_noPanic rfl rfl rfl rfl rfl ?_
            refine RS_q_undef retB_noPanic rfl rfl rfl rfl rfl ?_
            refine RS_e (RE_undef rfl rfl rfl rfl rfl ?_)
            refine RS_q_no retB_noPanic rfl rfl rfl ⟨_, rfl, hc308⟩ rfl ?_
            refine RS_q retB_noPanic rfl rfl rfl (ev_pick_t rfl hc308 rfl) ?_
            refine RS_nil ?_
            (repeat first | refine G_seq ?_ | refine G_skip ?_ | refine G_endblk ?_ | refine G_block ?_ | refine G_exit rfl ?_)
            refine G_cond_t rfl rfl ?_
            (repeat first | refine G_seq ?_ | refine G_skip ?_ | refine G_endblk ?_ | refine G_block ?_ | refine G_exit rfl ?_)
            refine G_region ?_
            refine GO_q rfl rfl (ev_move rfl) ?_
            refine GO_q rfl rfl (ev_move rfl) ?_
            refine GO_q rfl rfl (ev_move rfl) ?_
            (first | refine GO_q rfl rfl (ev_indexAddrN rfl rfl (by first | omega | (simp; done) | (simp; omega))) ?_ | refine GO_q rfl rfl (ev_indexAddr rfl rfl (by first | omega | (simp; done) | (simp; omega)) (by first | omega | (simp; done) | (simp; omega))) ?_)
            refine GO_q rfl rfl (ev_fieldAddr rfl) ?_
            refine GO_q rfl rfl (ev_load rfl (by repeat' first | exact Ld.blk rfl | assumption | apply Ld.skip | apply Ld.app)) ?_
            refine GO_eff rfl rfl (eff_buildSlice1 (by rfl) rfl rfl) ?_; rintro _ _ ⟨b71, rfl, rfl⟩
            refine GO_eff rfl rfl (eff_append rfl rfl (by repeat' first | exact Pick.here | apply Pick.skip) (Rc.blk rfl) (one_all rfl) (by rfl) (by decide) (by omega) (by omega)) ?_; rintro _ _ ⟨A72, c72, rfl, hc72, hm72, hn72, rfl⟩; obtain ⟨b9_72, rfl⟩ := hn72 (by omega)
            refine GO_q rfl rfl (ev_assign rfl) ?_
            refine GO_nil ?_
            (repeat first | refine G_seq ?_ | refine G_skip ?_ | refine G_endblk ?_ | refine G_block ?_ | refine G_exit rfl ?_)
          case' y308 =>
            have hd308 := hc308
            try simp only [decide_eq_true_eq, decide_eq_false_iff_not, Bool.not_true, Bool.not_false, Bool.not_eq_true', Bool.not_eq_false'] at hd308
            refine RS_q_yes retB_noPanic rfl rfl rfl ⟨_, rfl, hc308⟩ rfl (ev_fieldAddr rfl) ?_
            refine RS_q_yes retB_noPanic rfl rfl rfl ⟨_, rfl, hc308⟩ rfl (ev_load rfl (by repeat' first | exact Ld.blk rfl | assumption | apply Ld.skip | apply Ld.app)) ?_
            refine RS_q_yes retB_noPanic rfl rfl rfl ⟨_, rfl, hc308⟩ rfl (ev_eql rfl rfl) ?_
            refine RS_q_yes retB_noPanic rfl rfl rfl ⟨_, rfl, hc308⟩ rfl (ev_move rfl) ?_
            refine RS_guard (d := 44) false rfl (fun hc312 => ?y312) (fun hc312 => ?n312)
            case' n312 =>
              have hd312 := hc312
              try simp only [decide_eq_true_eq, decide_eq_false_iff_not, Bool.not_true, Bool.not_false, Bool.not_eq_true', Bool.not_eq_false'] at hd312
              refine RS_q_no retB_noPanic rfl rfl rfl ⟨_, rfl, hc312⟩ rfl ?_
              refine RS_q_no retB_noPanic rfl rfl rfl ⟨_, rfl, hc312⟩ rfl ?_
              refine RS_q_no retB_noPanic rfl rfl rfl ⟨_, rfl, hc312⟩ rfl ?_
              refine RS_q_yes retB_noPanic rfl rfl rfl ⟨_, rfl, hc308⟩ rfl (ev_pick_t rfl hc312 rfl) ?_
              refine RS_q_yes retB_noPanic rfl rfl rfl ⟨_, rfl, hc308⟩ rfl (ev_move rfl) ?_
              refine RS_q_yes retB_noPanic rfl rfl rfl ⟨_, rfl, rfl⟩ rfl (ev_fieldAddr rfl) ?_
              refine RS_q_yes retB_noPanic rfl rfl rfl ⟨_, rfl, rfl⟩ rfl (ev_loadN rfl (by repeat' first | exact LdN.blk rfl | assumption | apply LdN.skip | apply LdN.app)) ?_
              refine RS_q_yes retB_noPanic rfl rfl rfl ⟨_, rfl, rfl⟩ rfl (ev_move rfl) ?_
              refine RS_q_yes retB_noPanic rfl rfl rfl ⟨_, rfl, rfl⟩ rfl (ev_move rfl) ?_
              (first | refine RS_q_yes retB_noPanic rfl rfl rfl ⟨_, rfl, rfl⟩ rfl (ev_indexAddrN rfl rfl (by first | omega | (simp; done) | (simp; omega))) ?_ | refine RS_q_yes retB_noPanic rfl rfl rfl ⟨_, rfl, rfl⟩ rfl (ev_indexAddr rfl rfl (by first | omega | (simp; done) | (simp; omega)) (by first | omega | (simp; done) | (simp; omega))) ?_)
              refine RS_q_yes retB_noPanic rfl rfl rfl ⟨_, rfl, rfl⟩ rfl (ev_fieldAddr rfl) ?_
              refine RS_q_yes retB_noPanic rfl rfl rfl ⟨_, rfl, rfl⟩ rfl (ev_load rfl (by repeat' first | exact Ld.blk rfl | assumption | apply Ld.skip | apply Ld.app)) ?_
              refine RS_q_yes retB_noPanic rfl rfl rfl ⟨_, rfl, rfl⟩ rfl (ev_move rfl) ?_
              refine RS_q_yes retB_noPanic rfl rfl rfl ⟨_, rfl, rfl⟩ rfl (ev_move rfl) ?_
              (first | refine RS_q_yes retB_noPanic rfl rfl rfl ⟨_, rfl, rfl⟩ rfl (ev_indexAddrN rfl rfl (by first | omega | (simp; done) | (simp; omega))) ?_ | refine RS_q_yes retB_noPanic rfl rfl rfl ⟨_, rfl, rfl⟩ rfl (ev_indexAddr rfl rfl (by first | omega | (simp; done) | (simp; omega)) (by first | omega | (simp; done) | (simp; omega))) ?_)
              refine RS_q_yes retB_noPanic rfl rfl rfl ⟨_, rfl, rfl⟩ rfl (ev_fieldAddr rfl) ?_
              refine RS_q_yes retB_noPanic rfl rfl rfl ⟨_, rfl, rfl⟩ rfl (ev_load rfl (by repeat' first | exact Ld.blk rfl | assumption | apply Ld.skip | apply Ld.app)) ?_
              refine RS_e (RE_eff_yes rfl rfl rfl ⟨_, rfl, rfl⟩ rfl (eff_call rfl (RSees_ctr q.wn p.x p.y _)) ?_); rintro _ _ ⟨rfl, rfl⟩; refine ⟨_, fun _ s => s, (by (repeat first | exact fun _ s => s | apply en_keep | apply en_drop | apply en_app) <;> fail), ?_⟩
              refine RS_q_yes retB_noPanic rfl rfl rfl ⟨_, rfl, hc308⟩ rfl (ev_pick_t rfl rfl rfl) ?_
              refine RS_q retB_noPanic rfl rfl rfl (ev_pick_f rfl hc308 rfl) ?_
              refine RS_nil ?_
              (repeat first | refine G_seq ?_ | refine G_skip ?_ | refine G_endblk ?_ | refine G_block ?_ | refine G_exit rfl ?_)
              refine G_condB rfl (fun hc360 => ?y360) (fun hc360 => ?n360)
              case' n360 =>
                have hd360 := hc360
                try simp only [decide_eq_true_eq, decide_eq_false_iff_not, Bool.not_true, Bool.not_false, Bool.not_eq_true', Bool.not_eq_false'] at hd360
                (repeat first | refine G_seq ?_ | refine G_skip ?_ | refine G_endblk ?_ | refine G_block ?_ | refine G_exit rfl ?_)
              case' y360 =>
                have hd360 := hc360
                try simp only [decide_eq_true_eq, decide_eq_false_iff_not, Bool.not_true, Bool.not_false, Bool.not_eq_true', Bool.not_eq_false'] at hd360
                (repeat first | refine G_seq ?_ | refine G_skip ?_ | refine G_endblk ?_ | refine G_block ?_ | refine G_exit rfl ?_)
                refine G_region ?_
                refine GO_q rfl rfl (ev_move rfl) ?_
                refine GO_q rfl rfl (ev_move rfl) ?_
                refine GO_q rfl rfl (ev_move rfl) ?_
                (first | refine GO_q rfl rfl (ev_indexAddrN rfl rfl (by first | omega | (simp; done) | (simp; omega))) ?_ | refine GO_q rfl rfl (ev_indexAddr rfl rfl (by first | omega | (simp; done) | (simp; omega)) (by first | omega | (simp; done) | (simp; omega))) ?_)
                refine GO_q rfl rfl (ev_fieldAddr rfl) ?_
                refine GO_q rfl rfl (ev_load rfl (by repeat' first | exact Ld.blk rfl | assumption | apply Ld.skip | apply Ld.app)) ?_
                refine GO_eff rfl rfl (eff_buildSlice1 (by rfl) rfl rfl) ?_; rintro _ _ ⟨b71, rfl, rfl⟩
                refine GO_eff rfl rfl (eff_append rfl rfl (by repeat' first | exact Pick.here | apply Pick.skip) (Rc.blk rfl) (one_all rfl) (by rfl) (by decide) (by omega) (by omega)) ?_; rintro _ _ ⟨A72, c72, rfl, hc72, hm72, hn72, rfl⟩; obtain ⟨b9_72, rfl⟩ := hn72 (by omega)
                refine GO_q rfl rfl (ev_assign rfl) ?_
                refine GO_nil ?_
                (repeat first | refine G_seq ?_ | refine G_skip ?_ | refine G_endblk ?_ | refine G_block ?_ | refine G_exit rfl ?_)
            case' y312 =>
              have hd312 := hc312
              try simp only [decide_eq_true_eq, decide_eq_false_iff_not, Bool.not_true, Bool.not_false, Bool.not_eq_true', Bool.not_eq_false'] at hd312
              refine RS_q_yes retB_noPanic rfl rfl rfl ⟨_, rfl, hc312⟩ rfl (ev_fieldAddr rfl) ?_
              refine RS_q_yes retB_noPanic rfl rfl rfl ⟨_, rfl, hc312⟩ rfl (ev_load rfl (by repeat' first | exact Ld.blk rfl | assumption | apply Ld.skip | apply Ld.app)) ?_
              refine RS_q_yes retB_noPanic rfl rfl rfl ⟨_, rfl, hc312⟩ rfl (ev_eql rfl rfl) ?_
              refine RS_q_yes retB_noPanic rfl rfl rfl ⟨_, rfl, hc308⟩ rfl (ev_pick_f rfl hc312 rfl) ?_
              refine RS_q_yes retB_noPanic rfl rfl rfl ⟨_, rfl, hc308⟩ rfl (ev_move rfl) ?_
              refine RS_guard (d := 49) true rfl (fun hc316 => ?y316) (fun hc316 => ?n316)
              case' n316 =>
                have hd316 := hc316
                try simp only [decide_eq_true_eq, decide_eq_false_iff_not, Bool.not_true, Bool.not_false, Bool.not_eq_true', Bool.not_eq_false'] at hd316
                refine RS_q_no retB_noPanic rfl rfl rfl ⟨_, rfl, hc316⟩ rfl ?_
                refine RS_q_no retB_noPanic rfl rfl rfl ⟨_, rfl, hc316⟩ rfl ?_
                refine RS_q_no retB_noPanic rfl rfl rfl ⟨_, rfl, hc316⟩ rfl ?_
                refine RS_q_no retB_noPanic rfl rfl rfl ⟨_, rfl, hc316⟩ rfl ?_
                refine RS_q_no retB_noPanic rfl rfl rfl ⟨_, rfl, hc316⟩ rfl ?_
                refine RS_q_no retB_noPanic rfl rfl rfl ⟨_, rfl, hc316⟩ rfl ?_
                refine RS_q_no retB_noPanic rfl rfl rfl ⟨_, rfl, hc316⟩ rfl ?_
                refine RS_q_no retB_noPanic rfl rfl rfl ⟨_, rfl, hc316⟩ rfl ?_
                refine RS_q_no retB_noPanic rfl rfl rfl ⟨_, rfl, hc316⟩ rfl ?_
                refine RS_q_no retB_noPanic rfl rfl rfl ⟨_, rfl, hc316⟩ rfl ?_
                refine RS_q_no retB_noPanic rfl rfl rfl ⟨_, rfl, hc316⟩ rfl ?_
                refine RS_q_no retB_noPanic rfl rfl rfl ⟨_, rfl, hc316⟩ rfl ?_
                refine RS_e (RE_no rfl rfl rfl ⟨_, rfl, hc316⟩ rfl ?_)
                refine RS_q_yes retB_noPanic rfl rfl rfl ⟨_, rfl, hc308⟩ rfl (ev_pick_f rfl hc316 rfl) ?_
                refine RS_q retB_noPanic rfl rfl rfl (ev_pick_f rfl hc308 rfl) ?_
                refine RS_nil ?_
                (repeat first | refine G_seq ?_ | refine G_skip ?_ | refine G_endblk ?_ | refine G_block ?_ | refine G_exit rfl ?_)
                refine G_cond_f rfl rfl ?_
                (repeat first | refine G_seq ?_ | refine G_skip ?_ | refine G_endblk ?_ | refine G_block ?_ | refine G_exit rfl ?_)
              case' y316 =>
                have hd316 := hc316
                try simp only [decide_eq_true_eq, decide_eq_false_iff_not, Bool.not_true, Bool.not_false, Bool.not_eq_true', Bool.not_eq_false'] at hd316
                refine RS_q_yes retB_noPanic rfl rfl rfl ⟨_, rfl, hc316⟩ rfl (ev_fieldAddr rfl) ?_
                refine RS_q_yes retB_noPanic rfl rfl rfl ⟨_, rfl, hc316⟩ rfl (ev_loadN rfl (by repeat' first | exact LdN.blk rfl | assumption | apply LdN.skip | apply LdN.app)) ?_
                refine RS_q_yes retB_noPanic rfl rfl rfl ⟨_, rfl, hc316⟩ rfl (ev_move rfl) ?_
                refine RS_q_yes retB_noPanic rfl rfl rfl ⟨_, rfl, hc316⟩ rfl (ev_move rfl) ?_
                (first | refine RS_q_yes retB_noPanic rfl rfl rfl ⟨_, rfl, hc316⟩ rfl (ev_indexAddrN rfl rfl (by first | omega | (simp; done) | (simp; omega))) ?_ | refine RS_q_yes retB_noPanic rfl rfl rfl ⟨_, rfl, hc316⟩ rfl (ev_indexAddr rfl rfl (by first | omega | (simp; done) | (simp; omega)) (by first | omega | (simp; done) | (simp; omega))) ?_)
                refine RS_q_yes retB_noPanic rfl rfl rfl ⟨_, rfl, hc316⟩ rfl (ev_fieldAddr rfl) ?_
                refine RS_q_yes retB_noPanic rfl rfl rfl ⟨_, rfl, hc316⟩ rfl (ev_load rfl (by repeat' first | exact Ld.blk rfl | assumption | apply Ld.skip | apply Ld.app)) ?_
                refine RS_q_yes retB_noPanic rfl rfl rfl ⟨_, rfl, hc316⟩ rfl (ev_move rfl) ?_
                refine RS_q_yes retB_noPanic rfl rfl rfl ⟨_, rfl, hc316⟩ rfl (ev_move rfl) ?_
                (first | refine RS_q_yes retB_noPanic rfl rfl rfl ⟨_, rfl, hc316⟩ rfl (ev_indexAddrN rfl rfl (by first | omega | (simp; done) | (simp; omega))) ?_ | refine RS_q_yes retB_noPanic rfl rfl rfl ⟨_, rfl, hc316⟩ rfl (ev_indexAddr rfl rfl (by first | omega | (simp; done) | (simp; omega)) (by first | omega | (simp; done) | (simp; omega))) ?_)
                refine RS_q_yes retB_noPanic rfl rfl rfl ⟨_, rfl, hc316⟩ rfl (ev_fieldAddr rfl) ?_
                refine RS_q_yes retB_noPanic rfl rfl rfl ⟨_, rfl, hc316⟩ rfl (ev_load rfl (by repeat' first | exact Ld.blk rfl | assumption | apply Ld.skip | apply Ld.app)) ?_
                refine RS_e (RE_eff_yes rfl rfl rfl ⟨_, rfl, hc316⟩ rfl (eff_call rfl (RSees_ctr q.wn p.x p.y _)) ?_); rintro _ _ ⟨rfl, rfl⟩; refine ⟨_, fun _ s => s, (by (repeat first | exact fun _ s => s | apply en_keep | apply en_drop | apply en_app) <;> fail), ?_⟩
                refine RS_q_yes retB_noPanic rfl rfl rfl ⟨_, rfl, hc308⟩ rfl (ev_pick_t rfl hc316 rfl) ?_
                refine RS_q retB_noPanic rfl rfl rfl (ev_pick_f rfl hc308 rfl) ?_
                refine RS_nil ?_
                (repeat first | refine G_seq ?_ | refine G_skip ?_ | refine G_endblk ?_ | refine G_block ?_ | refine G_exit rfl ?_)
                refine G_condB rfl (fun hc326 => ?y326) (fun hc326 => ?n326)
                case' n326 =>
                  have hd326 := hc326
                  try simp only [decide_eq_true_eq, decide_eq_false_iff_not, Bool.not_true, Bool.not_false, Bool.not_eq_true', Bool.not_eq_false'] at hd326
                  (repeat first | refine G_seq ?_ | refine G_skip ?_ | refine G_endblk ?_ | refine G_block ?_ | refine G_exit rfl ?_)
                case' y326 =>
                  have hd326 := hc326
                  try simp only [decide_eq_true_eq, decide_eq_false_iff_not, Bool.not_true, Bool.not_false, Bool.not_eq_true', Bool.not_eq_false'] at hd326
                  (repeat first | refine G_seq ?_ | refine G_skip ?_ | refine G_endblk ?_ | refine G_block ?_ | refine G_exit rfl ?_)
                  refine G_region ?_
                  refine GO_q rfl rfl (ev_move rfl) ?_
                  refine GO_q rfl rfl (ev_move rfl) ?_
                  refine GO_q rfl rfl (ev_move rfl) ?_
                  (first | refine GO_q rfl rfl (ev_indexAddrN rfl rfl (by first | omega | (simp; done) | (simp; omega))) ?_ | refine GO_q rfl rfl (ev_indexAddr rfl rfl (by first | omega | (simp; done) | (simp; omega)) (by first | omega | (simp; done) | (simp; omega))) ?_)
                  refine GO_q rfl rfl (ev_fieldAddr rfl) ?_
                  refine GO_q rfl rfl (ev_load rfl (by repeat' first | exact Ld.blk rfl | assumption | apply Ld.skip | apply Ld.app)) ?_
                  refine GO_eff rfl rfl (eff_buildSlice1 (by rfl) rfl rfl) ?_; rintro _ _ ⟨b71, rfl, rfl⟩
                  refine GO_eff rfl rfl (eff_append rfl rfl (by repeat' first | exact Pick.here | apply Pick.skip) (Rc.blk rfl) (one_all rfl) (by rfl) (by decide) (by omega) (by omega)) ?_; rintro _ _ ⟨A72, c72, rfl, hc72, hm72, hn72, rfl⟩; obtain ⟨b9_72, rfl⟩ := hn72 (by omega)
                  refine GO_q rfl rfl (ev_assign rfl) ?_
                  refine GO_nil ?_
                  (repeat first | refine G_seq ?_ | refine G_skip ?_ | refine G_endblk ?_ | refine G_block ?_ | refine G_exit rfl ?_)
        all_goals
          (repeat first | refine G_seq ?_ | refine G_skip ?_ | refine G_endblk ?_ | refine G_block ?_ | refine G_exit rfl ?_)
          refine G_region ?_
          refine GO_q rfl rfl (ev_move rfl) ?_
          (first | refine GO_q rfl rfl (ev_addN (q := 1) rfl rfl (by first | omega | (simp; done) | (simp; omega))) ?_ | refine GO_q rfl rfl (ev_add rfl rfl (by first | omega | (simp; done) | (simp; omega))) ?_)
          refine GO_q rfl rfl (ev_assign rfl) ?_
          refine GO_nil ?_
          (repeat first | refine G_seq ?_ | refine G_skip ?_ | refine G_endblk ?_ | refine G_block ?_ | refine G_exit rfl ?_)
          first
          | (have e9 : q.pIds (l.take (k + 1)) = zs ++ [p.id] := by
               have hh : q.rHit p = true := by simp_all [Qy.rHit] <;> (intros; omega)
               rw [ht, f2, hh]; rfl
             exact G_round (k + 1, b9_72, c72, zs ++ [p.id]) ⟨by simp only; omega, e9.symm, by simp; omega, hm72⟩ (by simp only; omega) ⟨rfl, rfl, rfl, rfl, by simp only [List.length_append, List.length_singleton]; rfl, rfl, trivial⟩ (by
               simp only [List.length_append, List.length_singleton]
               rw [← flat_snoc]
               exact (by (repeat first | exact fun _ s => s | apply en_keep | apply en_drop | apply en_app) <;> fail)))
          | (have e9 : q.pIds (l.take (k + 1)) = zs := by
               have hh : q.rHit p = false := by simp_all [Qy.rHit] <;> (intros; omega)
               rw [ht, f2, hh]; simp
             exact G_round (k + 1, A1, d1, zs) ⟨by simp only; omega, e9.symm, f3, f4⟩ (by simp only; omega) ⟨rfl, rfl, rfl, rfl, rfl, rfl, trivial⟩ (by (repeat first | exact fun _ s => s | apply en_keep | apply en_drop | apply en_app) <;> fail))
      · have e : k = n := by omega
        subst e
        rw [← h1, List.take_length] at f2
        (repeat first | refine G_seq ?_ | refine G_skip ?_ | refine G_endblk ?_ | refine G_block ?_ | refine G_exit rfl ?_)
        exact G_inv (A1, d1, zs) ⟨f2, f3, f4⟩ ⟨rfl, rfl, rfl, rfl, trivial⟩ (fun _ s => s)
    · rintro ⟨A1, d1, zs⟩ ⟨f1, f2, f3⟩
      simp only at f1 f2 f3
      dsimp only
      have f5 : zs.length ≤ n := by rw [f1, ← h1]; exact q.pIds_len _
      (repeat first | refine G_seq ?_ | refine G_skip ?_ | refine G_endblk ?_ | refine G_block ?_ | refine G_exit rfl ?_)
      refine G_region ?_
      refine GO_q rfl rfl (ev_fieldAddr rfl) ?_
      refine GO_q rfl rfl (ev_load rfl (by repeat' first | exact Ld.blk rfl | assumption | apply Ld.skip | apply Ld.app)) ?_
      refine GO_q rfl rfl (ev_assign rfl) ?_
      refine GO_nil ?_
      (repeat first | refine G_seq ?_ | refine G_skip ?_ | refine G_endblk ?_ | refine G_block ?_ | refine G_exit rfl ?_)
      refine G_region ?_
      refine GO_q rfl rfl (ev_fieldAddr rfl) ?_
      refine GO_q rfl rfl (ev_load rfl (by repeat' first | exact Ld.blk rfl | assumption | apply Ld.skip | apply Ld.app)) ?_
      refine GO_q rfl rfl (ev_eql rfl rfl) ?_
      refine GO_nil ?_
      (repeat first | refine G_seq ?_ | refine G_skip ?_ | refine G_endblk ?_)
      refine G_cut (ι := Unit) (fun _ => [(2, .slice B m d), (3, .pointer (some ⟨b3, 0, none⟩)), (6, .pointer (some ⟨b6, 0, none⟩)), (7, .slice (some ⟨A1, 0, none⟩) zs.length d1), (9, .int .i64 q.rHi)]) (fun _ => own 3 1 (some ⟨A1, 0, none⟩) zs.length d1 (flat zs) :: blk b6 43 [.int .i64 0, .slice none 0 0] :: blk b3 37 (cellsL q.v) :: F :: L) (fun _ => True) ?_ ?_
      · (repeat first | refine G_seq ?_ | refine G_skip ?_ | refine G_endblk ?_ | refine G_block ?_ | refine G_exit rfl ?_)
        refine G_condB rfl (fun hc473 => ?y473) (fun hc473 => ?n473)
        case' n473 =>
          have hd473 := hc473
          try simp only [decide_eq_true_eq, decide_eq_false_iff_not, Bool.not_true, Bool.not_false, Bool.not_eq_true', Bool.not_eq_false'] at hd473
          (repeat first | refine G_seq ?_ | refine G_skip ?_ | refine G_endblk ?_ | refine G_block ?_ | refine G_exit rfl ?_)
        case' y473 =>
          have hd473 := hc473
          try simp only [decide_eq_true_eq, decide_eq_false_iff_not, Bool.not_true, Bool.not_false, Bool.not_eq_true', Bool.not_eq_false'] at hd473
          (repeat first | refine G_seq ?_ | refine G_skip ?_ | refine G_endblk ?_ | refine G_block ?_ | refine G_exit rfl ?_)
          refine G_region ?_
          refine GO_q rfl rfl (ev_fieldAddr rfl) ?_
          refine GO_q rfl rfl (ev_load rfl (by repeat' first | exact Ld.blk rfl | assumption | apply Ld.skip | apply Ld.app)) ?_
          refine GO_q rfl rfl (ev_assign rfl) ?_
          refine GO_nil ?_
          (repeat first | refine G_seq ?_ | refine G_skip ?_ | refine G_endblk ?_ | refine G_block ?_ | refine G_exit rfl ?_)
        all_goals first
          | (rw [show q.rHi = q.x by simp [Qy.rHi, *]]; repeat first | refine G_seq ?_ | refine G_skip ?_ | refine G_endblk ?_
             exact G_inv () trivial ⟨rfl, rfl, rfl, rfl, rfl, trivial⟩ (by (repeat first | exact fun _ s => s | apply en_keep | apply en_drop | apply en_app) <;> fail))
          | (rw [show q.rHi = q.hi by simp [Qy.rHi, *]]; repeat first | refine G_seq ?_ | refine G_skip ?_ | refine G_endblk ?_
             exact G_inv () trivial ⟨rfl, rfl, rfl, rfl, rfl, trivial⟩ (by (repeat first | exact fun _ s => s | apply en_keep | apply en_drop | apply en_app) <;> fail))
      rintro _ _
      (repeat first | refine G_seq ?_ | refine G_skip ?_ | refine G_endblk ?_ | refine G_block ?_ | refine G_exit rfl ?_)
      refine G_region ?_
      refine GO_q rfl rfl (ev_assign rfl) ?_
      refine GO_nil ?_
      (repeat first | refine G_seq ?_ | refine G_skip ?_ | refine G_endblk ?_)
      refine G_cut (ι := Nat × Nat × List Int) (fun x => [(3, .pointer (some ⟨b3, 0, none⟩)), (6, .pointer (some ⟨b6, 0, none⟩)), (7, .slice (some ⟨x.1, 0, none⟩) x.2.2.length x.2.1)]) (fun x => own 3 1 (some ⟨x.1, 0, none⟩) x.2.2.length x.2.1 (flat x.2.2) :: blk b6 43 [.int .i64 0, .slice none 0 0] :: blk b3 37 (cellsL q.v) :: F :: L)
        (fun x => x.2.2 = q.ids l s ∧ x.2.2.length ≤ x.2.1 ∧ x.2.1 ≤ maxLen) ?_ ?_
      · (repeat first | refine G_seq ?_ | refine G_skip ?_ | refine G_endblk ?_ | refine G_block ?_ | refine G_exit rfl ?_)
        refine G_loop (ι := Nat × Nat × Nat × List Int) (fun x => [(2, .slice B m d), (3, .pointer (some ⟨b3, 0, none⟩)), (6, .pointer (some ⟨b6, 0, none⟩)), (7, .slice (some ⟨x.2.1, 0, none⟩) x.2.2.2.length x.2.2.1), (9, .int .i64 q.rHi), (10, .int .i64 (x.1 : Nat))]) (fun x => own 3 1 (some ⟨x.2.1, 0, none⟩) x.2.2.2.length x.2.2.1 (flat x.2.2.2) :: blk b6 43 [.int .i64 0, .slice none 0 0] :: blk b3 37 (cellsL q.v) :: F :: L)
          (fun x => x.1 ≤ m ∧ x.2.2.2 = q.pIds l ++ q.sIds (s.take x.1) ∧ x.2.2.2.length ≤ x.2.2.1 ∧ x.2.2.1 ≤ maxLen) (fun x => m - x.1) (0, A1, d1, zs) ⟨Nat.zero_le _, by simp [Qy.sIds, f1], f2, f3⟩ ⟨rfl, rfl, rfl, rfl, rfl, rfl, trivial⟩ (by (repeat first | exact fun _ s => s | apply en_keep | apply en_drop | apply en_app) <;> fail) ?_
        rintro ⟨k, A2, d2, ys⟩ ⟨g1, g2, g3, g4⟩
        simp only at g1 g2 g3 g4
        dsimp only
        have g6 : ys.length ≤ n + k := by
          rw [g2, List.length_append]
          have a1 := q.pIds_len l
          have a2 := Nat.le_trans (q.sIds_len (s.take k)) (List.length_take_le _ _)
          omega
        (repeat first | refine G_seq ?_ | refine G_skip ?_ | refine G_endblk ?_ | refine G_block ?_ | refine G_exit rfl ?_)
        refine G_region ?_
        refine GO_q rfl rfl (ev_move rfl) ?_
        refine GO_q rfl rfl (ev_move rfl) ?_
        refine GO_q rfl rfl (ev_len rfl) ?_
        (first | refine GO_q rfl rfl (ev_lssN rfl rfl) ?_ | refine GO_q rfl rfl (ev_lss rfl rfl) ?_)
        refine GO_nil ?_
        (repeat first | refine G_seq ?_ | refine G_skip ?_ | refine G_endblk ?_ | refine G_block ?_ | refine G_exit rfl ?_)
        refine G_cond rfl (fun c2 => ?_) (fun c2 => ?_)
        · obtain ⟨lb, lo, rfl, hx⟩ := hs.at_ (by omega)
          have hg : s[k]? = some s[k] := List.getElem?_eq_getElem (by omega)
          have ht := q.sIds_take s k _ hg
          have y1 := hx _ _ hg
          generalize s[k] = p at *
          rw [← q.rMet_eq c0] at ht
          have z0 : Ld L ⟨lb, lo + k * 3 + 0, none⟩ (.int .i64 p.id) := y1.at_ (i := 0) rfl
          have z1 : LdN L lb (lo + k * 3) 3 [.int .i64 p.id, .int .i64 p.lo, .int .i64 p.hi] := y1
          (repeat first | refine G_seq ?_ | refine G_skip ?_ | refine G_endblk ?_ | refine G_block ?_ | refine G_exit rfl ?_)
          refine G_draw (.q 0 (.q 1 (.q 2 (.q 3 (.q 4 (.q 5 (.q 6 (.q 7 (.q 8 (.q 9 (.q 10 (.q 11 (.e 12 (.q 13 .nil)))))))))))))) (by kernel_rfl) (by kernel_rfl) ?_
          refine RS_q retB_noPanic rfl rfl rfl (ev_fieldAddr rfl) ?_
          refine RS_q retB_noPanic rfl rfl rfl (ev_load rfl (by repeat' first | exact Ld.blk rfl | assumption | apply Ld.skip | apply Ld.app)) ?_
          refine RS_q retB_noPanic rfl rfl rfl (ev_geq rfl rfl) ?_
          refine RS_q retB_noPanic rfl rfl rfl (ev_move rfl) ?_
          refine RS_guard (d := 89) true rfl (fun hc481 => ?y481) (fun hc481 => ?n481)
          case' n481 =>
            have hd481 := hc481
            try simp only [decide_eq_true_eq, decide_eq_false_iff_not, Bool.not_true, Bool.not_false, Bool.not_eq_true', Bool.not_eq_false'] at hd481
            refine RS_q_no retB_noPanic rfl rfl rfl ⟨_, rfl, hc481⟩ rfl ?_
            refine RS_q_no retB_noPanic rfl rfl rfl ⟨_, rfl, hc481⟩ rfl ?_
            refine RS_q_no retB_noPanic rfl rfl rfl ⟨_, rfl, hc481⟩ rfl ?_
            refine RS_q_no retB_noPanic rfl rfl rfl ⟨_, rfl, hc481⟩ rfl ?_
            refine RS_q_no retB_noPanic rfl rfl rfl ⟨_, rfl, hc481⟩ rfl ?_
            refine RS_q_no retB_noPanic rfl rfl rfl ⟨_, rfl, hc481⟩ rfl ?_
            refine RS_q_no retB_noPanic rfl rfl rfl ⟨_, rfl, hc481⟩ rfl ?_
            refine RS_q_no retB_noPanic rfl rfl rfl ⟨_, rfl, hc481⟩ rfl ?_
            refine RS_e (RE_no rfl rfl rfl ⟨_, rfl, hc481⟩ rfl ?_)
            refine RS_q retB_noPanic rfl rfl rfl (ev_pick_f rfl hc481 rfl) ?_
            refine RS_nil ?_
            (repeat first | refine G_seq ?_ | refine G_skip ?_ | refine G_endblk ?_ | refine G_block ?_ | refine G_exit rfl ?_)
            refine G_cond_f rfl rfl ?_
            (repeat first | refine G_seq ?_ | refine G_skip ?_ | refine G_endblk ?_ | refine G_block ?_ | refine G_exit rfl ?_)
          case' y481 =>
            have hd481 := hc481
            try simp only [decide_eq_true_eq, decide_eq_false_iff_not, Bool.not_true, Bool.not_false, Bool.not_eq_true', Bool.not_eq_false'] at hd481
            refine RS_q_yes retB_noPanic rfl rfl rfl ⟨_, rfl, hc481⟩ rfl (ev_move rfl) ?_
            refine RS_q_yes retB_noPanic rfl rfl rfl ⟨_, rfl, hc481⟩ rfl (ev_move rfl) ?_
            (first | refine RS_q_yes retB_noPanic rfl rfl rfl ⟨_, rfl, hc481⟩ rfl (ev_indexAddrN rfl rfl (by first | omega | (simp; done) | (simp; omega))) ?_ | refine RS_q_yes retB_noPanic rfl rfl rfl ⟨_, rfl, hc481⟩ rfl (ev_indexAddr rfl rfl (by first | omega | (simp; done) | (simp; omega)) (by first | omega | (simp; done) | (simp; omega))) ?_)
            refine RS_q_yes retB_noPanic rfl rfl rfl ⟨_, rfl, hc481⟩ rfl (ev_loadN rfl (by repeat' first | exact LdN.blk rfl | assumption | apply LdN.skip | apply LdN.app)) ?_
            refine RS_q_yes retB_noPanic rfl rfl rfl ⟨_, rfl, hc481⟩ rfl (ev_fieldAddr rfl) ?_
            refine RS_q_yes retB_noPanic rfl rfl rfl ⟨_, rfl, hc481⟩ rfl (ev_load rfl (by repeat' first | exact Ld.blk rfl | assumption | apply Ld.skip | apply Ld.app)) ?_
            refine RS_q_yes retB_noPanic rfl rfl rfl ⟨_, rfl, hc481⟩ rfl (ev_move rfl) ?_
            refine RS_q_yes retB_noPanic rfl rfl rfl ⟨_, rfl, hc481⟩ rfl (ev_build rfl rfl) ?_
            refine RS_e (RE_eff_yes rfl rfl rfl ⟨_, rfl, hc481⟩ rfl (eff_call rfl (ROverlap_ctr p ⟨0, q.x, q.rHi⟩ _)) ?_); rintro _ _ ⟨rfl, rfl⟩; refine ⟨_, fun _ s => s, (by (repeat first | exact fun _ s => s | apply en_keep | apply en_drop | apply en_app) <;> fail), ?_⟩
            refine RS_q retB_noPanic rfl rfl rfl (ev_pick_t rfl hc481 rfl) ?_
            refine RS_nil ?_
            (repeat first | refine G_seq ?_ | refine G_skip ?_ | refine G_endblk ?_ | refine G_block ?_ | refine G_exit rfl ?_)
            refine G_condB rfl (fun hc491 => ?y491) (fun hc491 => ?n491)
            case' n491 =>
              have hd491 := hc491
              try simp only [decide_eq_true_eq, decide_eq_false_iff_not, Bool.not_true, Bool.not_false, Bool.not_eq_true', Bool.not_eq_false'] at hd491
              (repeat first | refine G_seq ?_ | refine G_skip ?_ | refine G_endblk ?_ | refine G_block ?_ | refine G_exit rfl ?_)
            case' y491 =>
              have hd491 := hc491
              try simp only [decide_eq_true_eq, decide_eq_false_iff_not, Bool.not_true, Bool.not_false, Bool.not_eq_true', Bool.not_eq_false'] at hd491
              (repeat first | refine G_seq ?_ | refine G_skip ?_ | refine G_endblk ?_ | refine G_block ?_ | refine G_exit rfl ?_)
              refine G_region ?_
              refine GO_q rfl rfl (ev_move rfl) ?_
              refine GO_q rfl rfl (ev_move rfl) ?_
              refine GO_q rfl rfl (ev_move rfl) ?_
              (first | refine GO_q rfl rfl (ev_indexAddrN rfl rfl (by first | omega | (simp; done) | (simp; omega))) ?_ | refine GO_q rfl rfl (ev_indexAddr rfl rfl (by first | omega | (simp; done) | (simp; omega)) (by first | omega | (simp; done) | (simp; omega))) ?_)
              refine GO_q rfl rfl (ev_fieldAddr rfl) ?_
              refine GO_q rfl rfl (ev_load rfl (by repeat' first | exact Ld.blk rfl | assumption | apply Ld.skip | apply Ld.app)) ?_
              refine GO_eff rfl rfl (eff_buildSlice1 (by rfl) rfl rfl) ?_; rintro _ _ ⟨b106, rfl, rfl⟩
              refine GO_eff rfl rfl (eff_append rfl rfl (by repeat' first | exact Pick.here | apply Pick.skip) (Rc.blk rfl) (one_all rfl) (by rfl) (by decide) (by omega) (by omega)) ?_; rintro _ _ ⟨A107, c107, rfl, hc107, hm107, hn107, rfl⟩; obtain ⟨b9_107, rfl⟩ := hn107 (by omega)
              refine GO_q rfl rfl (ev_assign rfl) ?_
              refine GO_nil ?_
              (repeat first | refine G_seq ?_ | refine G_skip ?_ | refine G_endblk ?_ | refine G_block ?_ | refine G_exit rfl ?_)
          all_goals
            (repeat first | refine G_seq ?_ | refine G_skip ?_ | refine G_endblk ?_ | refine G_block ?_ | refine G_exit rfl ?_)
            refine G_region ?_
            refine GO_q rfl rfl (ev_move rfl) ?_
            (first | refine GO_q rfl rfl (ev_addN (q := 1) rfl rfl (by first | omega | (simp; done) | (simp; omega))) ?_ | refine GO_q rfl rfl (ev_add rfl rfl (by first | omega | (simp; done) | (simp; omega))) ?_)
            refine GO_q rfl rfl (ev_assign rfl) ?_
            refine GO_nil ?_
            (repeat first | refine G_seq ?_ | refine G_skip ?_ | refine G_endblk ?_ | refine G_block ?_ | refine G_exit rfl ?_)
            first
            | (have e9 : q.pIds l ++ q.sIds (s.take (k + 1)) = ys ++ [p.id] := by
                 have hh : q.rMet p = true := by simp_all [Qy.rMet]
                 rw [ht, g2, hh, List.append_assoc]; rfl
               exact G_round (k + 1, b9_107, c107, ys ++ [p.id]) ⟨by simp only; omega, e9.symm, by simp; omega, hm107⟩ (by simp only; omega) ⟨rfl, rfl, rfl, by simp only [List.length_append, List.length_singleton]; rfl, rfl, rfl, trivial⟩ (by
                 simp only [List.length_append, List.length_singleton]
                 rw [← flat_snoc]
                 exact (by (repeat first | exact fun _ s => s | apply en_keep | apply en_drop | apply en_app) <;> fail)))
            | (have e9 : q.pIds l ++ q.sIds (s.take (k + 1)) = ys := by
                 have hh : q.rMet p = false := by simp_all [Qy.rMet] <;> (intros; omega)
                 rw [ht, g2, hh]; simp
               exact G_round (k + 1, A2, d2, ys) ⟨by simp only; omega, e9.symm, g3, g4⟩ (by simp only; omega) ⟨rfl, rfl, rfl, rfl, rfl, rfl, trivial⟩ (by (repeat first | exact fun _ s => s | apply en_keep | apply en_drop | apply en_app) <;> fail))
        · have e : k = m := by omega
          subst e
          rw [← h2, List.take_length] at g2
          (repeat first | refine G_seq ?_ | refine G_skip ?_ | refine G_endblk ?_ | refine G_block ?_ | refine G_exit rfl ?_)
          exact G_inv (A2, d2, ys) ⟨g2, g3, g4⟩ ⟨rfl, rfl, rfl, trivial⟩ (fun _ s => s)
      · rintro ⟨A2, d2, ys⟩ ⟨g1, g2, g3⟩
        simp only at g1 g2 g3
        dsimp only
        have g5 : ys.length ≤ n + m := by
          rw [g1, Qy.ids, List.length_append]
          have a1 := q.pIds_len l
          have a2 := q.sIds_len s
          omega
        rw [← g1]
        (repeat first | refine G_seq ?_ | refine G_skip ?_ | refine G_endblk ?_ | refine G_block ?_ | refine G_exit rfl ?_)
        refine G_region ?_
        refine GO_q rfl rfl (ev_loadN rfl (by repeat' first | exact LdN.blk rfl | assumption | apply LdN.skip | apply LdN.app)) ?_
        refine GO_eff rfl rfl (eff_call rfl (rcounts_ctr q _)) ?_; rintro _ _ ⟨rfl, rfl⟩
        refine GO_nil ?_
        (repeat first | refine G_seq ?_ | refine G_skip ?_ | refine G_endblk ?_ | refine G_block ?_ | refine G_exit rfl ?_)
        refine G_condB rfl (fun c3 => ?_) (fun c3 => ?_)
        · rw [c3]
          (repeat first | refine G_seq ?_ | refine G_skip ?_ | refine G_endblk ?_ | refine G_block ?_ | refine G_exit rfl ?_)
          refine G_region ?_
          refine GO_q rfl rfl (ev_move rfl) ?_
          refine GO_q rfl rfl (ev_len rfl) ?_
          refine GO_q rfl rfl (ev_build rfl rfl) ?_
          refine GO_eff rfl rfl (eff_storeN rfl rfl rfl rfl (by repeat' first | exact Upd.here rfl | apply Upd.skip | apply Upd.app)) ?_; rintro _ _ ⟨rfl, rfl⟩
          refine GO_nil ?_
          (repeat first | refine G_seq ?_ | refine G_skip ?_ | refine G_endblk ?_ | refine G_block ?_ | refine G_exit rfl ?_)
          refine G_ret rfl (.cell rfl (loadN_run (by repeat' first | exact LdN.blk rfl | assumption | apply LdN.skip | apply LdN.app)) .nil) (by (repeat first | exact fun _ s => s | apply en_keep | apply en_drop | apply en_app) <;> fail) (AnsRes.nil rfl)
        · rw [c3]
          have hrl : (rising ys).length = ys.length := (rising_perm ys).length_eq
          (repeat first | refine G_seq ?_ | refine G_skip ?_ | refine G_endblk ?_ | refine G_block ?_ | refine G_exit rfl ?_)
          refine G_region ?_
          refine GO_q rfl rfl (ev_move rfl) ?_
          refine GO_q rfl rfl (ev_len rfl) ?_
          refine GO_q rfl rfl (ev_move rfl) ?_
          refine GO_eff rfl rfl (eff_call rfl (Ctr.frame [blk b6 43 [.int .i64 0, .slice none 0 0], blk b3 37 (cellsL q.v), F] (Rising_ctr (some ⟨A2, 0, none⟩) ys.length d2 ys (own 3 1 (some ⟨A2, 0, none⟩) ys.length d2 (flat ys) :: L) (Rc.own (flat_length ys) (fun _ => ⟨A2, rfl⟩)) (by omega)) (en_pick (.skip .here) (en_pick (.skip .here) (en_pick (.skip .here) en_refl))))) ?_; rintro _ _ ⟨_, ⟨B1, d3, N1, rfl, r1, r2, rfl, r3⟩, rfl⟩
          refine GO_q rfl rfl (ev_build rfl rfl) ?_
          refine GO_eff rfl rfl (eff_storeN rfl rfl rfl rfl (by repeat' first | exact Upd.here rfl | apply Upd.skip | apply Upd.app)) ?_; rintro _ _ ⟨rfl, rfl⟩
          refine GO_nil ?_
          (repeat first | refine G_seq ?_ | refine G_skip ?_ | refine G_endblk ?_ | refine G_block ?_ | refine G_exit rfl ?_)
          refine G_ret (L' := (N1 ++ [own 3 1 (some ⟨A2, 0, none⟩) ys.length d2 (flat ys)]) ++ L) rfl (.cell rfl (loadN_run (by repeat' first | exact LdN.blk rfl | assumption | apply LdN.skip | apply LdN.app)) .nil) ?_ ⟨B1, d3, N1 ++ [own 3 1 (some ⟨A2, 0, none⟩) ys.length d2 (flat ys)], by rw [← hrl]; rfl, by rw [if_neg (by simp)]; exact r1, r2, rfl, ?_⟩
          · rw [List.append_assoc]
            exact en_drop (en_drop en_refl)
          · rw [if_neg (by simp), List.append_assoc]
            exact r3
end Go.Proofs.Ytcdafmmfcjbodaa
