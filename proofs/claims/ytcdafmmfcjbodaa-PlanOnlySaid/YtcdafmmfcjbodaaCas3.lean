/- Arrays that lead into one another: joining. -/
import Derived.Test.YtcdafmmfcjbodaaCas2
namespace Go.Proofs.Ytcdafmmfcjbodaa
attribute [local irreducible] sat
set_option linter.unusedVariables false
set_option linter.unusedSimpArgs false
set_option maxRecDepth 100000

/-- Whether the next entry is one of the low array. -/
def takesB (l m : List Ent) (i k : Nat) : Bool :=
  match l[i]?, m[k]? with
  | some a, some b => decide (up a.p b.p ≤ 0)
  | some _, none => true
  | none, _ => false
theorem takes_ctr (jb ab i k c : Nat) (A pl ph : Option Addr) (n : Nat) (lo hi : Arr) (L : List HP) (hj : LdN L jb 0 3 [.pointer (some ⟨ab, 0, none⟩), .int .i64 (i : Nat), .int .i64 (k : Nat)])
    (ha : LdN L ab 0 3 [.slice A n c, .pointer pl, .pointer ph]) (hl : ArrIn L pl lo) (hh : ArrIn L ph hi) :
    Ctr Try.prog 63 #[.pointer (some ⟨jb, 0, none⟩)] L fun v L' => v = .bool (takesB lo.es hi.es i k) ∧ L' = L := by
  have j0 := hj.at_ (i := 0) rfl
  have j1 := hj.at_ (i := 1) rfl
  have j2 := hj.at_ (i := 2) rfl
  have a1 := ha.at_ (i := 1) rfl
  have a2 := ha.at_ (i := 2) rfl
  refine Ctr_of (fn := Try.f63) (n := 80) Try.func63 rfl rfl rfl ?_
  intro g F
  refine G_seq ?_
  (repeat first | refine G_seq ?_ | refine G_skip ?_ | refine G_endblk ?_ | refine G_block ?_ | refine G_exit rfl ?_)
  refine G_region ?_
  refine GO_q rfl rfl (ev_assign rfl) ?_
  refine GO_nil ?_
  refine G_seq ?_
  refine G_seq ?_
  (repeat first | refine G_seq ?_ | refine G_skip ?_ | refine G_endblk ?_ | refine G_block ?_ | refine G_exit rfl ?_)
  refine G_draw (.q 0 (.q 1 (.q 2 (.q 3 (.q 4 (.q 5 (.q 6 (.q 7 (.q 8 (.q 9 (.q 10 (.e 11 (.q 12 (.q 13 (.q 14 (.q 15 (.q 16 (.q 17 (.q 18 (.q 19 (.q 20 (.q 21 (.q 22 (.q 23 (.q 24 (.e 25 (.q 26 (.q 27 .nil)))))))))))))))))))))))))))) (by kernel_rfl) (by kernel_rfl) ?_
  refine RS_q retB_noPanic rfl rfl rfl (ev_move rfl) ?_
  (first | refine RS_q retB_noPanic rfl rfl rfl (ev_nilCheck rfl) ?_ | refine RS_q retB_noPanic rfl rfl rfl (ev_nilCheckF (by simp) rfl) ?_)
  refine RS_q retB_noPanic rfl rfl rfl (ev_fieldAddr rfl) ?_
  refine RS_q retB_noPanic rfl rfl rfl (ev_load rfl (by repeat' first | exact Ld.blk rfl | assumption | apply Ld.skip | apply Ld.app)) ?_
  refine RS_q retB_noPanic rfl rfl rfl (ev_move rfl) ?_
  (first | refine RS_q retB_noPanic rfl rfl rfl (ev_nilCheck rfl) ?_ | refine RS_q retB_noPanic rfl rfl rfl (ev_nilCheckF (by simp) rfl) ?_)
  refine RS_q retB_noPanic rfl rfl rfl (ev_fieldAddr rfl) ?_
  refine RS_q retB_noPanic rfl rfl rfl (ev_load rfl (by repeat' first | exact Ld.blk rfl | assumption | apply Ld.skip | apply Ld.app)) ?_
  (first | refine RS_q retB_noPanic rfl rfl rfl (ev_nilCheck rfl) ?_ | refine RS_q retB_noPanic rfl rfl rfl (ev_nilCheckF (by simp) rfl) ?_)
  refine RS_q retB_noPanic rfl rfl rfl (ev_fieldAddr rfl) ?_
  refine RS_q retB_noPanic rfl rfl rfl (ev_load rfl (by repeat' first | exact Ld.blk rfl | assumption | apply Ld.skip | apply Ld.app)) ?_
  refine RS_e (RE_eff rfl rfl rfl (eff_call rfl (size_ctr pl lo _ hl.skip)) ?_); rintro _ _ ⟨rfl, rfl⟩; refine ⟨_, fun _ s => s, (by (repeat first | exact fun _ s => s | apply en_keep | apply en_drop | apply en_app) <;> fail), ?_⟩
  refine RS_q retB_noPanic rfl rfl rfl (ev_geq rfl rfl) ?_
  refine RS_q retB_noPanic rfl rfl rfl (ev_move rfl) ?_
  refine RS_guard (d := 16) false rfl (fun hq14 => ?y2) (fun hq14 => ?n2)
  case' n2 =>
    have hp14 := hq14
    try simp only [decide_eq_true_eq, decide_eq_false_iff_not, Bool.not_true, Bool.not_false] at hp14
    refine RS_q_no retB_noPanic rfl rfl rfl ⟨_, rfl, hq14⟩ rfl ?_
    refine RS_q_no retB_noPanic rfl rfl rfl ⟨_, rfl, hq14⟩ rfl ?_
    refine RS_q_no retB_noPanic rfl rfl rfl ⟨_, rfl, hq14⟩ rfl ?_
    refine RS_q_no retB_noPanic rfl rfl rfl ⟨_, rfl, hq14⟩ rfl ?_
    refine RS_q_no retB_noPanic rfl rfl rfl ⟨_, rfl, hq14⟩ rfl ?_
    refine RS_q_no retB_noPanic rfl rfl rfl ⟨_, rfl, hq14⟩ rfl ?_
    refine RS_q_no retB_noPanic rfl rfl rfl ⟨_, rfl, hq14⟩ rfl ?_
    refine RS_q_no retB_noPanic rfl rfl rfl ⟨_, rfl, hq14⟩ rfl ?_
    refine RS_q_no retB_noPanic rfl rfl rfl ⟨_, rfl, hq14⟩ rfl ?_
    refine RS_q_no retB_noPanic rfl rfl rfl ⟨_, rfl, hq14⟩ rfl ?_
    refine RS_q_no retB_noPanic rfl rfl rfl ⟨_, rfl, hq14⟩ rfl ?_
    refine RS_e (RE_no rfl rfl rfl ⟨_, rfl, hq14⟩ rfl ?_)
    refine RS_q_no retB_noPanic rfl rfl rfl ⟨_, rfl, hq14⟩ rfl ?_
    refine RS_q retB_noPanic rfl rfl rfl (ev_pick_t rfl hq14 rfl) ?_
    refine RS_nil ?_
  case' y2 =>
    have hp14 := hq14
    try simp only [decide_eq_true_eq, decide_eq_false_iff_not, Bool.not_true, Bool.not_false] at hp14
    refine RS_q_yes retB_noPanic rfl rfl rfl ⟨_, rfl, hq14⟩ rfl (ev_move rfl) ?_
    (first | refine RS_q_yes retB_noPanic rfl rfl rfl ⟨_, rfl, hq14⟩ rfl (ev_nilCheck rfl) ?_ | refine RS_q_yes retB_noPanic rfl rfl rfl ⟨_, rfl, hq14⟩ rfl (ev_nilCheckF (by simp) rfl) ?_)
    refine RS_q_yes retB_noPanic rfl rfl rfl ⟨_, rfl, hq14⟩ rfl (ev_fieldAddr rfl) ?_
    refine RS_q_yes retB_noPanic rfl rfl rfl ⟨_, rfl, hq14⟩ rfl (ev_load rfl (by repeat' first | exact Ld.blk rfl | assumption | apply Ld.skip | apply Ld.app)) ?_
    refine RS_q_yes retB_noPanic rfl rfl rfl ⟨_, rfl, hq14⟩ rfl (ev_move rfl) ?_
    (first | refine RS_q_yes retB_noPanic rfl rfl rfl ⟨_, rfl, hq14⟩ rfl (ev_nilCheck rfl) ?_ | refine RS_q_yes retB_noPanic rfl rfl rfl ⟨_, rfl, hq14⟩ rfl (ev_nilCheckF (by simp) rfl) ?_)
    refine RS_q_yes retB_noPanic rfl rfl rfl ⟨_, rfl, hq14⟩ rfl (ev_fieldAddr rfl) ?_
    refine RS_q_yes retB_noPanic rfl rfl rfl ⟨_, rfl, hq14⟩ rfl (ev_load rfl (by repeat' first | exact Ld.blk rfl | assumption | apply Ld.skip | apply Ld.app)) ?_
    (first | refine RS_q_yes retB_noPanic rfl rfl rfl ⟨_, rfl, hq14⟩ rfl (ev_nilCheck rfl) ?_ | refine RS_q_yes retB_noPanic rfl rfl rfl ⟨_, rfl, hq14⟩ rfl (ev_nilCheckF (by simp) rfl) ?_)
    refine RS_q_yes retB_noPanic rfl rfl rfl ⟨_, rfl, hq14⟩ rfl (ev_fieldAddr rfl) ?_
    refine RS_q_yes retB_noPanic rfl rfl rfl ⟨_, rfl, hq14⟩ rfl (ev_load rfl (by repeat' first | exact Ld.blk rfl | assumption | apply Ld.skip | apply Ld.app)) ?_
    refine RS_e (RE_eff_yes rfl rfl rfl ⟨_, rfl, hq14⟩ rfl (eff_call rfl (size_ctr ph hi _ hh.skip)) ?_); rintro _ _ ⟨rfl, rfl⟩; refine ⟨_, fun _ s => s, (by (repeat first | exact fun _ s => s | apply en_keep | apply en_drop | apply en_app) <;> fail), ?_⟩
    refine RS_q_yes retB_noPanic rfl rfl rfl ⟨_, rfl, hq14⟩ rfl (ev_geq rfl rfl) ?_
    refine RS_q retB_noPanic rfl rfl rfl (ev_pick_f rfl hq14 rfl) ?_
    refine RS_nil ?_
  · refine G_condB rfl (fun h2 => ?_) (fun h2 => ?_)
    · refine G_seq ?_
      (repeat first | refine G_seq ?_ | refine G_skip ?_ | refine G_endblk ?_ | refine G_block ?_ | refine G_exit rfl ?_)
      refine G_draw (.q 0 (.q 1 (.q 2 (.q 3 (.q 4 (.q 5 (.q 6 (.q 7 (.q 8 (.q 9 (.q 10 (.e 11 (.q 12 (.q 13 .nil)))))))))))))) (by kernel_rfl) (by kernel_rfl) ?_
      refine RS_q retB_noPanic rfl rfl rfl (ev_move rfl) ?_
      (first | refine RS_q retB_noPanic rfl rfl rfl (ev_nilCheck rfl) ?_ | refine RS_q retB_noPanic rfl rfl rfl (ev_nilCheckF (by simp) rfl) ?_)
      refine RS_q retB_noPanic rfl rfl rfl (ev_fieldAddr rfl) ?_
      refine RS_q retB_noPanic rfl rfl rfl (ev_load rfl (by repeat' first | exact Ld.blk rfl | assumption | apply Ld.skip | apply Ld.app)) ?_
      refine RS_q retB_noPanic rfl rfl rfl (ev_move rfl) ?_
      (first | refine RS_q retB_noPanic rfl rfl rfl (ev_nilCheck rfl) ?_ | refine RS_q retB_noPanic rfl rfl rfl (ev_nilCheckF (by simp) rfl) ?_)
      refine RS_q retB_noPanic rfl rfl rfl (ev_fieldAddr rfl) ?_
      refine RS_q retB_noPanic rfl rfl rfl (ev_load rfl (by repeat' first | exact Ld.blk rfl | assumption | apply Ld.skip | apply Ld.app)) ?_
      (first | refine RS_q retB_noPanic rfl rfl rfl (ev_nilCheck rfl) ?_ | refine RS_q retB_noPanic rfl rfl rfl (ev_nilCheckF (by simp) rfl) ?_)
      refine RS_q retB_noPanic rfl rfl rfl (ev_fieldAddr rfl) ?_
      refine RS_q retB_noPanic rfl rfl rfl (ev_load rfl (by repeat' first | exact Ld.blk rfl | assumption | apply Ld.skip | apply Ld.app)) ?_
      refine RS_e (RE_eff rfl rfl rfl (eff_call rfl (size_ctr pl lo _ hl.skip)) ?_); rintro _ _ ⟨rfl, rfl⟩; refine ⟨_, fun _ s => s, (by (repeat first | exact fun _ s => s | apply en_keep | apply en_drop | apply en_app) <;> fail), ?_⟩
      (first | refine RS_q retB_noPanic rfl rfl rfl (ev_lssN rfl rfl) ?_ | refine RS_q retB_noPanic rfl rfl rfl (ev_lss rfl rfl) ?_)
      refine RS_q retB_noPanic rfl rfl rfl (ev_assign rfl) ?_
      refine RS_nil ?_
      refine G_ret rfl (.tmp rfl .nil) (by (repeat first | exact fun _ s => s | apply en_keep | apply en_drop | apply en_app) <;> fail) ⟨?_, rfl⟩
      simp at h2
      simp only [retv, takesB, List.getElem?_eq_getElem (show i < lo.es.length by omega), List.getElem?_eq_none (show hi.es.length ≤ k by omega)]
      simp; omega
    · simp at h2
      have hi1 : i < lo.es.length := by omega
      have hk1 : k < hi.es.length := by omega
      refine G_skip ?_
      refine G_seq ?_
      cases lo with
      | nil => simp [Arr.es] at hi1
      | node es l1 l2 =>
        cases hi with
        | nil => simp [Arr.es] at hk1
        | node fs m1 m2 =>
          simp only [Arr.es] at hi1 hk1 ⊢
          obtain ⟨lb, lA, lc, _, _, rfl, x1, x2, x3, x4, _⟩ := hl
          obtain ⟨hb, hA, hc, _, _, rfl, y1, y2, y3, y4, _⟩ := hh
          have x5 := x1.at_ (i := 0) rfl
          have y5 := y1.at_ (i := 0) rfl
          obtain ⟨lbb, lo', rfl, x6⟩ := x2.at_ (by omega)
          obtain ⟨hbb, ho', rfl, y6⟩ := y2.at_ (by omega)
          have gi : es[i]? = some es[i] := List.getElem?_eq_getElem hi1
          have gk : fs[k]? = some fs[k] := List.getElem?_eq_getElem hk1
          have x7 := x6 _ _ gi
          have y7 := y6 _ _ gk
          generalize es[i] = e at *
          generalize fs[k] = f at *
          have x8 : LdN L lbb (lo' + i * 5) 3 [.int .i64 e.p.id, .int .i64 e.p.x, .int .i64 e.p.y] := x7.part 3 rfl
          have y8 : LdN L hbb (ho' + k * 5) 3 [.int .i64 f.p.id, .int .i64 f.p.x, .int .i64 f.p.y] := y7.part 3 rfl
          (repeat first | refine G_seq ?_ | refine G_skip ?_ | refine G_endblk ?_ | refine G_block ?_ | refine G_exit rfl ?_)
          refine G_draw (.q 0 (.q 1 (.q 2 (.q 3 (.q 4 (.q 5 (.q 6 (.q 7 (.q 8 (.q 9 (.q 10 (.q 11 (.q 12 (.q 13 (.q 14 (.q 15 (.q 16 (.q 17 (.q 18 (.q 19 (.q 20 (.q 21 (.q 22 (.q 23 (.q 24 (.q 25 (.q 26 (.q 27 (.q 28 (.q 29 (.q 30 (.q 31 (.q 32 (.q 33 (.e 34 (.q 35 (.q 36 .nil))))))))))))))))))))))))))))))))))))) (by kernel_rfl) (by kernel_rfl) ?_
          refine RS_q retB_noPanic rfl rfl rfl (ev_move rfl) ?_
          (first | refine RS_q retB_noPanic rfl rfl rfl (ev_nilCheck rfl) ?_ | refine RS_q retB_noPanic rfl rfl rfl (ev_nilCheckF (by simp) rfl) ?_)
          refine RS_q retB_noPanic rfl rfl rfl (ev_fieldAddr rfl) ?_
          refine RS_q retB_noPanic rfl rfl rfl (ev_load rfl (by repeat' first | exact Ld.blk rfl | assumption | apply Ld.skip | apply Ld.app)) ?_
          (first | refine RS_q retB_noPanic rfl rfl rfl (ev_nilCheck rfl) ?_ | refine RS_q retB_noPanic rfl rfl rfl (ev_nilCheckF (by simp) rfl) ?_)
          refine RS_q retB_noPanic rfl rfl rfl (ev_fieldAddr rfl) ?_
          refine RS_q retB_noPanic rfl rfl rfl (ev_load rfl (by repeat' first | exact Ld.blk rfl | assumption | apply Ld.skip | apply Ld.app)) ?_
          (first | refine RS_q retB_noPanic rfl rfl rfl (ev_nilCheck rfl) ?_ | refine RS_q retB_noPanic rfl rfl rfl (ev_nilCheckF (by simp) rfl) ?_)
          refine RS_q retB_noPanic rfl rfl rfl (ev_fieldAddr rfl) ?_
          refine RS_q retB_noPanic rfl rfl rfl (ev_load rfl (by repeat' first | exact Ld.blk rfl | assumption | apply Ld.skip | apply Ld.app)) ?_
          refine RS_q retB_noPanic rfl rfl rfl (ev_move rfl) ?_
          (first | refine RS_q retB_noPanic rfl rfl rfl (ev_nilCheck rfl) ?_ | refine RS_q retB_noPanic rfl rfl rfl (ev_nilCheckF (by simp) rfl) ?_)
          refine RS_q retB_noPanic rfl rfl rfl (ev_fieldAddr rfl) ?_
          refine RS_q retB_noPanic rfl rfl rfl (ev_load rfl (by repeat' first | exact Ld.blk rfl | assumption | apply Ld.skip | apply Ld.app)) ?_
          (first | refine RS_q retB_noPanic rfl rfl rfl (ev_indexAddrN rfl rfl (by first | omega | (simp; done) | (simp; omega))) ?_ | refine RS_q retB_noPanic rfl rfl rfl (ev_indexAddr rfl rfl (by first | omega | (simp; done) | (simp; omega)) (by first | omega | (simp; done) | (simp; omega))) ?_)
          refine RS_q retB_noPanic rfl rfl rfl (ev_fieldAddr rfl) ?_
          refine RS_q retB_noPanic rfl rfl rfl (ev_loadN rfl (by repeat' first | exact LdN.blk rfl | assumption | apply LdN.skip | apply LdN.app)) ?_
          refine RS_q retB_noPanic rfl rfl rfl (ev_move rfl) ?_
          (first | refine RS_q retB_noPanic rfl rfl rfl (ev_nilCheck rfl) ?_ | refine RS_q retB_noPanic rfl rfl rfl (ev_nilCheckF (by simp) rfl) ?_)
          refine RS_q retB_noPanic rfl rfl rfl (ev_fieldAddr rfl) ?_
          refine RS_q retB_noPanic rfl rfl rfl (ev_load rfl (by repeat' first | exact Ld.blk rfl | assumption | apply Ld.skip | apply Ld.app)) ?_
          (first | refine RS_q retB_noPanic rfl rfl rfl (ev_nilCheck rfl) ?_ | refine RS_q retB_noPanic rfl rfl rfl (ev_nilCheckF (by simp) rfl) ?_)
          refine RS_q retB_noPanic rfl rfl rfl (ev_fieldAddr rfl) ?_
          refine RS_q retB_noPanic rfl rfl rfl (ev_load rfl (by repeat' first | exact Ld.blk rfl | assumption | apply Ld.skip | apply Ld.app)) ?_
          (first | refine RS_q retB_noPanic rfl rfl rfl (ev_nilCheck rfl) ?_ | refine RS_q retB_noPanic rfl rfl rfl (ev_nilCheckF (by simp) rfl) ?_)
          refine RS_q retB_noPanic rfl rfl rfl (ev_fieldAddr rfl) ?_
          refine RS_q retB_noPanic rfl rfl rfl (ev_load rfl (by repeat' first | exact Ld.blk rfl | assumption | apply Ld.skip | apply Ld.app)) ?_
          refine RS_q retB_noPanic rfl rfl rfl (ev_move rfl) ?_
          (first | refine RS_q retB_noPanic rfl rfl rfl (ev_nilCheck rfl) ?_ | refine RS_q retB_noPanic rfl rfl rfl (ev_nilCheckF (by simp) rfl) ?_)
          refine RS_q retB_noPanic rfl rfl rfl (ev_fieldAddr rfl) ?_
          refine RS_q retB_noPanic rfl rfl rfl (ev_load rfl (by repeat' first | exact Ld.blk rfl | assumption | apply Ld.skip | apply Ld.app)) ?_
          (first | refine RS_q retB_noPanic rfl rfl rfl (ev_indexAddrN rfl rfl (by first | omega | (simp; done) | (simp; omega))) ?_ | refine RS_q retB_noPanic rfl rfl rfl (ev_indexAddr rfl rfl (by first | omega | (simp; done) | (simp; omega)) (by first | omega | (simp; done) | (simp; omega))) ?_)
          refine RS_q retB_noPanic rfl rfl rfl (ev_fieldAddr rfl) ?_
          refine RS_q retB_noPanic rfl rfl rfl (ev_loadN rfl (by repeat' first | exact LdN.blk rfl | assumption | apply LdN.skip | apply LdN.app)) ?_
          refine RS_e (RE_eff rfl rfl rfl (eff_call rfl (up_ctr e.p f.p _)) ?_); rintro _ _ ⟨rfl, rfl⟩; refine ⟨_, fun _ s => s, (by (repeat first | exact fun _ s => s | apply en_keep | apply en_drop | apply en_app) <;> fail), ?_⟩
          refine RS_q retB_noPanic rfl rfl rfl (ev_leq rfl rfl) ?_
          refine RS_q retB_noPanic rfl rfl rfl (ev_assign rfl) ?_
          refine RS_nil ?_
          refine G_ret rfl (.tmp rfl .nil) (by (repeat first | exact fun _ s => s | apply en_keep | apply en_drop | apply en_app) <;> fail) ⟨?_, rfl⟩
          simp [retv, takesB, gi, gk]
  · refine G_cond_t rfl rfl ?_
    refine G_seq ?_
    (repeat first | refine G_seq ?_ | refine G_skip ?_ | refine G_endblk ?_ | refine G_block ?_ | refine G_exit rfl ?_)
    refine G_draw (.q 0 (.q 1 (.q 2 (.q 3 (.q 4 (.q 5 (.q 6 (.q 7 (.q 8 (.q 9 (.q 10 (.e 11 (.q 12 (.q 13 .nil)))))))))))))) (by kernel_rfl) (by kernel_rfl) ?_
    refine RS_q retB_noPanic rfl rfl rfl (ev_move rfl) ?_
    (first | refine RS_q retB_noPanic rfl rfl rfl (ev_nilCheck rfl) ?_ | refine RS_q retB_noPanic rfl rfl rfl (ev_nilCheckF (by simp) rfl) ?_)
    refine RS_q retB_noPanic rfl rfl rfl (ev_fieldAddr rfl) ?_
    refine RS_q retB_noPanic rfl rfl rfl (ev_load rfl (by repeat' first | exact Ld.blk rfl | assumption | apply Ld.skip | apply Ld.app)) ?_
    refine RS_q retB_noPanic rfl rfl rfl (ev_move rfl) ?_
    (first | refine RS_q retB_noPanic rfl rfl rfl (ev_nilCheck rfl) ?_ | refine RS_q retB_noPanic rfl rfl rfl (ev_nilCheckF (by simp) rfl) ?_)
    refine RS_q retB_noPanic rfl rfl rfl (ev_fieldAddr rfl) ?_
    refine RS_q retB_noPanic rfl rfl rfl (ev_load rfl (by repeat' first | exact Ld.blk rfl | assumption | apply Ld.skip | apply Ld.app)) ?_
    (first | refine RS_q retB_noPanic rfl rfl rfl (ev_nilCheck rfl) ?_ | refine RS_q retB_noPanic rfl rfl rfl (ev_nilCheckF (by simp) rfl) ?_)
    refine RS_q retB_noPanic rfl rfl rfl (ev_fieldAddr rfl) ?_
    refine RS_q retB_noPanic rfl rfl rfl (ev_load rfl (by repeat' first | exact Ld.blk rfl | assumption | apply Ld.skip | apply Ld.app)) ?_
    refine RS_e (RE_eff rfl rfl rfl (eff_call rfl (size_ctr pl lo _ hl.skip)) ?_); rintro _ _ ⟨rfl, rfl⟩; refine ⟨_, fun _ s => s, (by (repeat first | exact fun _ s => s | apply en_keep | apply en_drop | apply en_app) <;> fail), ?_⟩
    (first | refine RS_q retB_noPanic rfl rfl rfl (ev_lssN rfl rfl) ?_ | refine RS_q retB_noPanic rfl rfl rfl (ev_lss rfl rfl) ?_)
    refine RS_q retB_noPanic rfl rfl rfl (ev_assign rfl) ?_
    refine RS_nil ?_
    refine G_ret rfl (.tmp rfl .nil) (by (repeat first | exact fun _ s => s | apply en_keep | apply en_drop | apply en_app) <;> fail) ⟨?_, rfl⟩
    simp at hp14
    simp only [retv, takesB, List.getElem?_eq_none (show lo.es.length ≤ i by omega)]
    simp; omega

theorem mrg_step_left {i k : Nat} {l m : List Ent} {a : Ent} (hi : l[i]? = some a) (ht : takesB l m i k = true) :
    mrg i k ((l.map (·.p)).drop i) ((m.map (·.p)).drop k) = ⟨a.p, i, k⟩ :: mrg ((i + 1 : Nat) : Int) k ((l.map (·.p)).drop (i + 1)) ((m.map (·.p)).drop k) := by
  obtain ⟨h1, rfl⟩ := List.getElem?_eq_some_iff.1 hi
  rw [List.drop_eq_getElem_cons (show i < (l.map (·.p)).length by simpa using h1)]
  rw [mrg_left, List.getElem_map, Int.natCast_add]; rfl
  intro b m' hb
  have h2 : ((m.map (·.p)).drop k)[0]? = some b := by rw [hb]; rfl
  simp at h2
  obtain ⟨x, hx, rfl⟩ := h2
  unfold takesB at ht
  rw [hi, hx] at ht
  rw [List.getElem_map]
  simpa using ht
theorem mrg_step_right {i k : Nat} {l m : List Ent} {b : Ent} (hk : m[k]? = some b) (ht : takesB l m i k = false) :
    mrg i k ((l.map (·.p)).drop i) ((m.map (·.p)).drop k) = ⟨b.p, i, k⟩ :: mrg i ((k + 1 : Nat) : Int) ((l.map (·.p)).drop i) ((m.map (·.p)).drop (k + 1)) := by
  obtain ⟨h1, rfl⟩ := List.getElem?_eq_some_iff.1 hk
  rw [List.drop_eq_getElem_cons (l := m.map (·.p)) (show k < (m.map (·.p)).length by simpa using h1)]
  rw [mrg_right, List.getElem_map, Int.natCast_add]; rfl
  intro a l' ha
  have h2 : ((l.map (·.p)).drop i)[0]? = some a := by rw [ha]; rfl
  simp at h2
  obtain ⟨x, hx, rfl⟩ := h2
  unfold takesB at ht
  rw [hk, hx] at ht
  rw [List.getElem_map]
  simpa using ht
/-- One entry, or none. -/
theorem step_ctr (jb ab i k c : Nat) (A pl ph : Option Addr) (n : Nat) (lo hi : Arr) (ds : List Ent) (L : List HP) (hl : ArrIn L pl lo) (hh : ArrIn L ph hi) (hn : n ≤ 1000000) (hi1 : i ≤ lo.es.length) (hk1 : k ≤ hi.es.length) (hz1 : lo.es.length ≤ 1000000) (hz2 : hi.es.length ≤ 1000000) :
    Ctr Try.prog 40 #[.pointer (some ⟨jb, 0, none⟩)]
      (blk jb 76 [.pointer (some ⟨ab, 0, none⟩), .int .i64 (i : Nat), .int .i64 (k : Nat)] :: blk ab 74 [.slice A n c, .pointer pl, .pointer ph] :: own 67 5 A n c (flat ds) :: L) fun v L' =>
      (i = lo.es.length ∧ k = hi.es.length ∧ v = .bool false ∧ L' = (blk jb 76 [.pointer (some ⟨ab, 0, none⟩), .int .i64 (i : Nat), .int .i64 (k : Nat)] :: blk ab 74 [.slice A n c, .pointer pl, .pointer ph] :: own 67 5 A n c (flat ds) :: L)) ∨
      ∃ e i' k' A' c', v = .bool true ∧ i' + k' = i + k + 1 ∧ i' ≤ lo.es.length ∧ k' ≤ hi.es.length ∧ n + 1 ≤ c' ∧ c' ≤ maxLen ∧ (0 < n + 1 → ∃ b, A' = some ⟨b, 0, none⟩) ∧ mrg i k (lo.pts.drop i) (hi.pts.drop k) = e :: mrg (i' : Nat) (k' : Nat) (lo.pts.drop i') (hi.pts.drop k') ∧
        L' = (blk jb 76 [.pointer (some ⟨ab, 0, none⟩), .int .i64 (i' : Nat), .int .i64 (k' : Nat)] :: blk ab 74 [.slice A' (n + 1) c', .pointer pl, .pointer ph] :: own 67 5 A' (n + 1) c' (flat (ds ++ [e])) :: L) := by
  refine Ctr_of (fn := Try.f40) (n := 96) Try.func40 rfl rfl rfl ?_
  intro g F
  (repeat first | refine G_seq ?_ | refine G_skip ?_ | refine G_endblk ?_ | refine G_block ?_ | refine G_exit rfl ?_)
  refine G_region ?_
  refine GO_q rfl rfl (ev_assign rfl) ?_
  refine GO_nil ?_
  (repeat first | refine G_seq ?_ | refine G_skip ?_ | refine G_endblk ?_ | refine G_block ?_ | refine G_exit rfl ?_)
  refine G_draw (.q 0 (.q 1 (.q 2 (.q 3 (.q 4 (.q 5 (.q 6 (.q 7 (.q 8 (.e 9 (.e 10 .nil))))))))))) (by kernel_rfl) (by kernel_rfl) ?_
  refine RS_q retB_noPanic rfl rfl rfl (ev_move rfl) ?_
  (first | refine RS_q retB_noPanic rfl rfl rfl (ev_nilCheck rfl) ?_ | refine RS_q retB_noPanic rfl rfl rfl (ev_nilCheckF (by simp) rfl) ?_)
  refine RS_q retB_noPanic rfl rfl rfl (ev_fieldAddr rfl) ?_
  refine RS_q retB_noPanic rfl rfl rfl (ev_load rfl (by repeat' first | exact Ld.blk rfl | assumption | apply Ld.skip | apply Ld.app)) ?_
  refine RS_q retB_noPanic rfl rfl rfl (ev_move rfl) ?_
  (first | refine RS_q retB_noPanic rfl rfl rfl (ev_nilCheck rfl) ?_ | refine RS_q retB_noPanic rfl rfl rfl (ev_nilCheckF (by simp) rfl) ?_)
  refine RS_q retB_noPanic rfl rfl rfl (ev_fieldAddr rfl) ?_
  refine RS_q retB_noPanic rfl rfl rfl (ev_load rfl (by repeat' first | exact Ld.blk rfl | assumption | apply Ld.skip | apply Ld.app)) ?_
  refine RS_q retB_noPanic rfl rfl rfl (ev_build rfl rfl) ?_
  refine RS_e (RE_eff rfl rfl rfl eff_alloc ?_); rintro _ _ ⟨b3, rfl, rfl⟩; refine ⟨_, fun _ s => s, (by (repeat first | exact fun _ s => s | apply en_keep | apply en_drop | apply en_app) <;> fail), ?_⟩
  refine RS_e (RE_last (by kernel_rfl) rfl rfl rfl (eff_storeN rfl rfl rfl rfl (by repeat' first | exact Upd.here rfl | apply Upd.skip | apply Upd.app)) ?_); rintro _ _ ⟨rfl, rfl⟩
  (repeat first | refine G_seq ?_ | refine G_skip ?_ | refine G_endblk ?_ | refine G_block ?_ | refine G_exit rfl ?_)
  refine G_region ?_
  refine GO_q rfl rfl (ev_move rfl) ?_
  refine GO_eff rfl rfl (eff_call rfl (takes_ctr jb ab i k c A pl ph n lo hi _ (by repeat' first | exact LdN.blk rfl | assumption | apply LdN.skip | apply LdN.app) (by repeat' first | exact LdN.blk rfl | assumption | apply LdN.skip | apply LdN.app) (by repeat' first | assumption | apply ArrIn.skip) (by repeat' first | assumption | apply ArrIn.skip))) ?_; rintro _ _ ⟨rfl, rfl⟩
  refine GO_q rfl rfl (ev_assign rfl) ?_
  refine GO_nil ?_
  (repeat first | refine G_seq ?_ | refine G_skip ?_ | refine G_endblk ?_ | refine G_block ?_ | refine G_exit rfl ?_)
  refine G_condB rfl (fun h1 => ?_) (fun h1 => ?_)
  · -- one of the low array
    have hlt : i < lo.es.length := by
      rcases Nat.lt_or_ge i lo.es.length with h | h
      · exact h
      · rw [takesB, List.getElem?_eq_none h] at h1; cases h1
    cases lo with
    | nil => simp [Arr.es] at hlt
    | node es l1 l2 =>
      have hl' := hl
      obtain ⟨lb, lA, lc, pl1, pl2, rfl, x1, x2, x3, x4, _⟩ := hl
      simp only [Arr.es] at hlt
      have x5 := x1.at_ (i := 0) rfl
      obtain ⟨lbb, lo', rfl, x6⟩ := x2.at_ (by omega)
      have gi : es[i]? = some es[i] := List.getElem?_eq_getElem hlt
      have hstep := mrg_step_left gi h1
      have x7 := x6 _ _ gi
      generalize es[i] = e at *
      have x8 : LdN L lbb (lo' + i * 5) 3 [.int .i64 e.p.id, .int .i64 e.p.x, .int .i64 e.p.y] := x7.part 3 rfl
      (repeat first | refine G_seq ?_ | refine G_skip ?_ | refine G_endblk ?_ | refine G_block ?_ | refine G_exit rfl ?_)
      refine G_draw (.q 0 (.q 1 (.q 2 (.q 3 (.q 4 (.q 5 (.q 6 (.q 7 (.q 8 (.q 9 (.q 10 (.q 11 (.q 12 (.q 13 (.q 14 (.q 15 (.q 16 (.q 17 (.e 18 .nil))))))))))))))))))) (by kernel_rfl) (by kernel_rfl) ?_
      refine RS_q retB_noPanic rfl rfl rfl (ev_move rfl) ?_
      (first | refine RS_q retB_noPanic rfl rfl rfl (ev_nilCheck rfl) ?_ | refine RS_q retB_noPanic rfl rfl rfl (ev_nilCheckF (by simp) rfl) ?_)
      refine RS_q retB_noPanic rfl rfl rfl (ev_fieldAddr rfl) ?_
      refine RS_q retB_noPanic rfl rfl rfl (ev_load rfl (by repeat' first | exact Ld.blk rfl | assumption | apply Ld.skip | apply Ld.app)) ?_
      (first | refine RS_q retB_noPanic rfl rfl rfl (ev_nilCheck rfl) ?_ | refine RS_q retB_noPanic rfl rfl rfl (ev_nilCheckF (by simp) rfl) ?_)
      refine RS_q retB_noPanic rfl rfl rfl (ev_fieldAddr rfl) ?_
      refine RS_q retB_noPanic rfl rfl rfl (ev_load rfl (by repeat' first | exact Ld.blk rfl | assumption | apply Ld.skip | apply Ld.app)) ?_
      (first | refine RS_q retB_noPanic rfl rfl rfl (ev_nilCheck rfl) ?_ | refine RS_q retB_noPanic rfl rfl rfl (ev_nilCheckF (by simp) rfl) ?_)
      refine RS_q retB_noPanic rfl rfl rfl (ev_fieldAddr rfl) ?_
      refine RS_q retB_noPanic rfl rfl rfl (ev_load rfl (by repeat' first | exact Ld.blk rfl | assumption | apply Ld.skip | apply Ld.app)) ?_
      refine RS_q retB_noPanic rfl rfl rfl (ev_move rfl) ?_
      (first | refine RS_q retB_noPanic rfl rfl rfl (ev_nilCheck rfl) ?_ | refine RS_q retB_noPanic rfl rfl rfl (ev_nilCheckF (by simp) rfl) ?_)
      refine RS_q retB_noPanic rfl rfl rfl (ev_fieldAddr rfl) ?_
      refine RS_q retB_noPanic rfl rfl rfl (ev_load rfl (by repeat' first | exact Ld.blk rfl | assumption | apply Ld.skip | apply Ld.app)) ?_
      (first | refine RS_q retB_noPanic rfl rfl rfl (ev_indexAddrN rfl rfl (by first | omega | (simp; done) | (simp; omega))) ?_ | refine RS_q retB_noPanic rfl rfl rfl (ev_indexAddr rfl rfl (by first | omega | (simp; done) | (simp; omega)) (by first | omega | (simp; done) | (simp; omega))) ?_)
      refine RS_q retB_noPanic rfl rfl rfl (ev_fieldAddr rfl) ?_
      refine RS_q retB_noPanic rfl rfl rfl (ev_loadN rfl (by repeat' first | exact LdN.blk rfl | assumption | apply LdN.skip | apply LdN.app)) ?_
      refine RS_q retB_noPanic rfl rfl rfl (ev_fieldAddr rfl) ?_
      refine RS_e (RE_last (by kernel_rfl) rfl rfl rfl (eff_storeN rfl rfl rfl rfl (by repeat' first | exact Upd.here rfl | apply Upd.skip | apply Upd.app)) ?_); rintro _ _ ⟨rfl, rfl⟩
      (repeat first | refine G_seq ?_ | refine G_skip ?_ | refine G_endblk ?_ | refine G_block ?_ | refine G_exit rfl ?_)
      refine G_region ?_
      refine GO_q rfl rfl (ev_move rfl) ?_
      (first | refine GO_q rfl rfl (ev_nilCheck rfl) ?_ | refine GO_q rfl rfl (ev_nilCheckF (by simp) rfl) ?_)
      refine GO_q rfl rfl (ev_fieldAddr rfl) ?_
      refine GO_q rfl rfl (ev_load rfl (by repeat' first | exact Ld.blk rfl | assumption | apply Ld.skip | apply Ld.app)) ?_
      (first | refine GO_q rfl rfl (ev_addN (q := 1) rfl rfl (by first | omega | (simp; done) | (simp; omega))) ?_ | refine GO_q rfl rfl (ev_add rfl rfl (by first | omega | (simp; done) | (simp; omega))) ?_)
      (first | refine GO_q rfl rfl (ev_nilCheck rfl) ?_ | refine GO_q rfl rfl (ev_nilCheckF (by simp) rfl) ?_)
      refine GO_q rfl rfl (ev_fieldAddr rfl) ?_
      refine GO_eff rfl rfl (eff_store rfl rfl rfl (by repeat' first | exact Upd.here rfl | apply Upd.skip | apply Upd.app)) ?_; rintro _ _ ⟨rfl, rfl⟩
      refine GO_nil ?_
      (repeat first | refine G_seq ?_ | refine G_skip ?_ | refine G_endblk ?_ | refine G_block ?_ | refine G_exit rfl ?_)
      refine G_drawE 4 (.q 0 (.q 1 (.q 2 (.q 3 (.q 4 (.q 5 (.q 6 (.q 7 (.q 8 (.q 9 (.q 10 (.q 11 (.e 12 (.e 13 (.q 14 (.q 15 (.e 16 .nil))))))))))))))))) (by kernel_rfl) (by kernel_rfl) ?_
      refine RS_q retB_noPanic rfl rfl rfl (ev_move rfl) ?_
      (first | refine RS_q retB_noPanic rfl rfl rfl (ev_nilCheck rfl) ?_ | refine RS_q retB_noPanic rfl rfl rfl (ev_nilCheckF (by simp) rfl) ?_)
      refine RS_q retB_noPanic rfl rfl rfl (ev_fieldAddr rfl) ?_
      refine RS_q retB_noPanic rfl rfl rfl (ev_load rfl (by repeat' first | exact Ld.blk rfl | assumption | apply Ld.skip | apply Ld.app)) ?_
      refine RS_q retB_noPanic rfl rfl rfl (ev_move rfl) ?_
      (first | refine RS_q retB_noPanic rfl rfl rfl (ev_nilCheck rfl) ?_ | refine RS_q retB_noPanic rfl rfl rfl (ev_nilCheckF (by simp) rfl) ?_)
      refine RS_q retB_noPanic rfl rfl rfl (ev_fieldAddr rfl) ?_
      refine RS_q retB_noPanic rfl rfl rfl (ev_load rfl (by repeat' first | exact Ld.blk rfl | assumption | apply Ld.skip | apply Ld.app)) ?_
      (first | refine RS_q retB_noPanic rfl rfl rfl (ev_nilCheck rfl) ?_ | refine RS_q retB_noPanic rfl rfl rfl (ev_nilCheckF (by simp) rfl) ?_)
      refine RS_q retB_noPanic rfl rfl rfl (ev_fieldAddr rfl) ?_
      refine RS_q retB_noPanic rfl rfl rfl (ev_load rfl (by repeat' first | exact Ld.blk rfl | assumption | apply Ld.skip | apply Ld.app)) ?_
      refine RS_q retB_noPanic rfl rfl rfl (ev_loadN rfl (by repeat' first | exact LdN.blk rfl | assumption | apply LdN.skip | apply LdN.app)) ?_
      refine RS_e (RE_eff rfl rfl rfl (eff_buildSlice1 (by rfl) rfl rfl) ?_); rintro _ _ ⟨b92, rfl, rfl⟩; refine ⟨_, (by (repeat first | exact fun _ s => s | apply en_keep | apply en_drop | apply en_app) <;> fail), fun _ s => s, ?_⟩
      refine RS_e (RE_eff rfl rfl rfl (eff_append rfl rfl (by repeat' first | exact Pick.here | apply Pick.skip) (by repeat' first | exact Rc.blk rfl | assumption | apply Rc.skip) (one_all rfl) (by rfl) (by decide) (by omega) (by omega)) ?_); rintro _ _ ⟨A93, c93, rfl, hc93, hm93, hn93, rfl⟩; refine ⟨_, (by (repeat first | exact fun _ s => s | apply en_keep | apply en_drop | apply en_app) <;> fail), fun _ s => s, ?_⟩
      (first | refine RS_q retB_noPanic rfl rfl rfl (ev_nilCheck rfl) ?_ | refine RS_q retB_noPanic rfl rfl rfl (ev_nilCheckF (by simp) rfl) ?_)
      refine RS_q retB_noPanic rfl rfl rfl (ev_fieldAddr rfl) ?_
      refine RS_e (RE_last (by kernel_rfl) rfl rfl rfl (eff_store rfl rfl rfl (by repeat' first | exact Upd.here rfl | apply Upd.skip | apply Upd.app)) ?_); rintro _ _ ⟨rfl, rfl⟩
      (repeat first | refine G_seq ?_ | refine G_skip ?_ | refine G_endblk ?_ | refine G_block ?_ | refine G_exit rfl ?_)
      refine G_region ?_
      refine GO_q rfl rfl (ev_assign rfl) ?_
      refine GO_nil ?_
      (repeat first | refine G_seq ?_ | refine G_skip ?_ | refine G_endblk ?_ | refine G_block ?_ | refine G_exit rfl ?_)
      refine G_ret (L' := blk jb 76 [.pointer (some ⟨ab, 0, none⟩), .int .i64 ((i + 1 : Nat) : Int), .int .i64 (k : Nat)] :: blk ab 74 [.slice A93 (n + 1) c93, .pointer (some ⟨lb, 0, none⟩), .pointer ph] :: own 67 5 A93 (n + 1) c93 (flat (ds ++ [⟨e.p, i, k⟩])) :: L) rfl (.tmp rfl .nil) ?_ (.inr ⟨⟨e.p, i, k⟩, i + 1, k, A93, c93, rfl, by omega, hlt, hk1, hc93, hm93, hn93, hstep, rfl⟩)
      rw [← flat_snoc]
      refine en_pick (.skip (.skip (.skip (.here)))) ?_
      refine en_pick (.skip (.skip (.skip (.here)))) ?_
      refine en_pick (.skip (.skip (.skip (.here)))) ?_
      refine en_pick (.here) ?_
      exact (by (repeat first | exact fun _ s => s | apply en_keep | apply en_drop | apply en_app) <;> fail)
  · rcases Nat.lt_or_ge k hi.es.length with hlt | hge
    · cases hi with
      | nil => simp [Arr.es] at hlt
      | node es l1 l2 =>
        have hh' := hh
        obtain ⟨lb, lA, lc, pl1, pl2, rfl, x1, x2, x3, x4, _⟩ := hh
        simp only [Arr.es] at hlt
        have x5 := x1.at_ (i := 0) rfl
        obtain ⟨lbb, lo', rfl, x6⟩ := x2.at_ (by omega)
        have gi : es[k]? = some es[k] := List.getElem?_eq_getElem hlt
        have hstep := mrg_step_right gi h1
        have x7 := x6 _ _ gi
        have hc : k < (Arr.node es l1 l2).es.length := hlt
        generalize es[k] = e at *
        have x8 : LdN L lbb (lo' + k * 5) 3 [.int .i64 e.p.id, .int .i64 e.p.x, .int .i64 e.p.y] := x7.part 3 rfl
        (repeat first | refine G_seq ?_ | refine G_skip ?_ | refine G_endblk ?_ | refine G_block ?_ | refine G_exit rfl ?_)
        refine G_draw (.q 0 (.q 1 (.q 2 (.q 3 (.q 4 (.q 5 (.q 6 (.q 7 (.q 8 (.q 9 (.q 10 (.e 11 (.q 12 (.q 13 .nil)))))))))))))) (by kernel_rfl) (by kernel_rfl) ?_
        refine RS_q retB_noPanic rfl rfl rfl (ev_move rfl) ?_
        (first | refine RS_q retB_noPanic rfl rfl rfl (ev_nilCheck rfl) ?_ | refine RS_q retB_noPanic rfl rfl rfl (ev_nilCheckF (by simp) rfl) ?_)
        refine RS_q retB_noPanic rfl rfl rfl (ev_fieldAddr rfl) ?_
        refine RS_q retB_noPanic rfl rfl rfl (ev_load rfl (by repeat' first | exact Ld.blk rfl | assumption | apply Ld.skip | apply Ld.app)) ?_
        refine RS_q retB_noPanic rfl rfl rfl (ev_move rfl) ?_
        (first | refine RS_q retB_noPanic rfl rfl rfl (ev_nilCheck rfl) ?_ | refine RS_q retB_noPanic rfl rfl rfl (ev_nilCheckF (by simp) rfl) ?_)
        refine RS_q retB_noPanic rfl rfl rfl (ev_fieldAddr rfl) ?_
        refine RS_q retB_noPanic rfl rfl rfl (ev_load rfl (by repeat' first | exact Ld.blk rfl | assumption | apply Ld.skip | apply Ld.app)) ?_
        (first | refine RS_q retB_noPanic rfl rfl rfl (ev_nilCheck rfl) ?_ | refine RS_q retB_noPanic rfl rfl rfl (ev_nilCheckF (by simp) rfl) ?_)
        refine RS_q retB_noPanic rfl rfl rfl (ev_fieldAddr rfl) ?_
        refine RS_q retB_noPanic rfl rfl rfl (ev_load rfl (by repeat' first | exact Ld.blk rfl | assumption | apply Ld.skip | apply Ld.app)) ?_
        refine RS_e (RE_eff rfl rfl rfl (eff_call rfl (size_ctr (some ⟨lb, 0, none⟩) (.node es l1 l2) _ (by repeat' first | assumption | apply ArrIn.skip))) ?_); rintro _ _ ⟨rfl, rfl⟩; refine ⟨_, fun _ s => s, (by (repeat first | exact fun _ s => s | apply en_keep | apply en_drop | apply en_app) <;> fail), ?_⟩
        (first | refine RS_q retB_noPanic rfl rfl rfl (ev_lssN rfl rfl) ?_ | refine RS_q retB_noPanic rfl rfl rfl (ev_lss rfl rfl) ?_)
        refine RS_q retB_noPanic rfl rfl rfl (ev_assign rfl) ?_
        refine RS_nil ?_
        (repeat first | refine G_seq ?_ | refine G_skip ?_ | refine G_endblk ?_ | refine G_block ?_ | refine G_exit rfl ?_)
        refine G_cond_t rfl (decide_eq_true hc) ?_
        (repeat first | refine G_seq ?_ | refine G_skip ?_ | refine G_endblk ?_ | refine G_block ?_ | refine G_exit rfl ?_)
        refine G_draw (.q 0 (.q 1 (.q 2 (.q 3 (.q 4 (.q 5 (.q 6 (.q 7 (.q 8 (.q 9 (.q 10 (.q 11 (.q 12 (.q 13 (.q 14 (.q 15 (.q 16 (.q 17 (.e 18 .nil))))))))))))))))))) (by kernel_rfl) (by kernel_rfl) ?_
        refine RS_q retB_noPanic rfl rfl rfl (ev_move rfl) ?_
        (first | refine RS_q retB_noPanic rfl rfl rfl (ev_nilCheck rfl) ?_ | refine RS_q retB_noPanic rfl rfl rfl (ev_nilCheckF (by simp) rfl) ?_)
        refine RS_q retB_noPanic rfl rfl rfl (ev_fieldAddr rfl) ?_
        refine RS_q retB_noPanic rfl rfl rfl (ev_load rfl (by repeat' first | exact Ld.blk rfl | assumption | apply Ld.skip | apply Ld.app)) ?_
        (first | refine RS_q retB_noPanic rfl rfl rfl (ev_nilCheck rfl) ?_ | refine RS_q retB_noPanic rfl rfl rfl (ev_nilCheckF (by simp) rfl) ?_)
        refine RS_q retB_noPanic rfl rfl rfl (ev_fieldAddr rfl) ?_
        refine RS_q retB_noPanic rfl rfl rfl (ev_load rfl (by repeat' first | exact Ld.blk rfl | assumption | apply Ld.skip | apply Ld.app)) ?_
        (first | refine RS_q retB_noPanic rfl rfl rfl (ev_nilCheck rfl) ?_ | refine RS_q retB_noPanic rfl rfl rfl (ev_nilCheckF (by simp) rfl) ?_)
        refine RS_q retB_noPanic rfl rfl rfl (ev_fieldAddr rfl) ?_
        refine RS_q retB_noPanic rfl rfl rfl (ev_load rfl (by repeat' first | exact Ld.blk rfl | assumption | apply Ld.skip | apply Ld.app)) ?_
        refine RS_q retB_noPanic rfl rfl rfl (ev_move rfl) ?_
        (first | refine RS_q retB_noPanic rfl rfl rfl (ev_nilCheck rfl) ?_ | refine RS_q retB_noPanic rfl rfl rfl (ev_nilCheckF (by simp) rfl) ?_)
        refine RS_q retB_noPanic rfl rfl rfl (ev_fieldAddr rfl) ?_
        refine RS_q retB_noPanic rfl rfl rfl (ev_load rfl (by repeat' first | exact Ld.blk rfl | assumption | apply Ld.skip | apply Ld.app)) ?_
        (first | refine RS_q retB_noPanic rfl rfl rfl (ev_indexAddrN rfl rfl (by first | omega | (simp; done) | (simp; omega))) ?_ | refine RS_q retB_noPanic rfl rfl rfl (ev_indexAddr rfl rfl (by first | omega | (simp; done) | (simp; omega)) (by first | omega | (simp; done) | (simp; omega))) ?_)
        refine RS_q retB_noPanic rfl rfl rfl (ev_fieldAddr rfl) ?_
        refine RS_q retB_noPanic rfl rfl rfl (ev_loadN rfl (by repeat' first | exact LdN.blk rfl | assumption | apply LdN.skip | apply LdN.app)) ?_
        refine RS_q retB_noPanic rfl rfl rfl (ev_fieldAddr rfl) ?_
        refine RS_e (RE_last (by kernel_rfl) rfl rfl rfl (eff_storeN rfl rfl rfl rfl (by repeat' first | exact Upd.here rfl | apply Upd.skip | apply Upd.app)) ?_); rintro _ _ ⟨rfl, rfl⟩
        (repeat first | refine G_seq ?_ | refine G_skip ?_ | refine G_endblk ?_ | refine G_block ?_ | refine G_exit rfl ?_)
        refine G_region ?_
        refine GO_q rfl rfl (ev_move rfl) ?_
        (first | refine GO_q rfl rfl (ev_nilCheck rfl) ?_ | refine GO_q rfl rfl (ev_nilCheckF (by simp) rfl) ?_)
        refine GO_q rfl rfl (ev_fieldAddr rfl) ?_
        refine GO_q rfl rfl (ev_load rfl (by repeat' first | exact Ld.blk rfl | assumption | apply Ld.skip | apply Ld.app)) ?_
        (first | refine GO_q rfl rfl (ev_addN (q := 1) rfl rfl (by first | omega | (simp; done) | (simp; omega))) ?_ | refine GO_q rfl rfl (ev_add rfl rfl (by first | omega | (simp; done) | (simp; omega))) ?_)
        (first | refine GO_q rfl rfl (ev_nilCheck rfl) ?_ | refine GO_q rfl rfl (ev_nilCheckF (by simp) rfl) ?_)
        refine GO_q rfl rfl (ev_fieldAddr rfl) ?_
        refine GO_eff rfl rfl (eff_store rfl rfl rfl (by repeat' first | exact Upd.here rfl | apply Upd.skip | apply Upd.app)) ?_; rintro _ _ ⟨rfl, rfl⟩
        refine GO_nil ?_
        (repeat first | refine G_seq ?_ | refine G_skip ?_ | refine G_endblk ?_ | refine G_block ?_ | refine G_exit rfl ?_)
        refine G_drawE 4 (.q 0 (.q 1 (.q 2 (.q 3 (.q 4 (.q 5 (.q 6 (.q 7 (.q 8 (.q 9 (.q 10 (.q 11 (.e 12 (.e 13 (.q 14 (.q 15 (.e 16 .nil))))))))))))))))) (by kernel_rfl) (by kernel_rfl) ?_
        refine RS_q retB_noPanic rfl rfl rfl (ev_move rfl) ?_
        (first | refine RS_q retB_noPanic rfl rfl rfl (ev_nilCheck rfl) ?_ | refine RS_q retB_noPanic rfl rfl rfl (ev_nilCheckF (by simp) rfl) ?_)
        refine RS_q retB_noPanic rfl rfl rfl (ev_fieldAddr rfl) ?_
        refine RS_q retB_noPanic rfl rfl rfl (ev_load rfl (by repeat' first | exact Ld.blk rfl | assumption | apply Ld.skip | apply Ld.app)) ?_
        refine RS_q retB_noPanic rfl rfl rfl (ev_move rfl) ?_
        (first | refine RS_q retB_noPanic rfl rfl rfl (ev_nilCheck rfl) ?_ | refine RS_q retB_noPanic rfl rfl rfl (ev_nilCheckF (by simp) rfl) ?_)
        refine RS_q retB_noPanic rfl rfl rfl (ev_fieldAddr rfl) ?_
        refine RS_q retB_noPanic rfl rfl rfl (ev_load rfl (by repeat' first | exact Ld.blk rfl | assumption | apply Ld.skip | apply Ld.app)) ?_
        (first | refine RS_q retB_noPanic rfl rfl rfl (ev_nilCheck rfl) ?_ | refine RS_q retB_noPanic rfl rfl rfl (ev_nilCheckF (by simp) rfl) ?_)
        refine RS_q retB_noPanic rfl rfl rfl (ev_fieldAddr rfl) ?_
        refine RS_q retB_noPanic rfl rfl rfl (ev_load rfl (by repeat' first | exact Ld.blk rfl | assumption | apply Ld.skip | apply Ld.app)) ?_
        refine RS_q retB_noPanic rfl rfl rfl (ev_loadN rfl (by repeat' first | exact LdN.blk rfl | assumption | apply LdN.skip | apply LdN.app)) ?_
        refine RS_e (RE_eff rfl rfl rfl (eff_buildSlice1 (by rfl) rfl rfl) ?_); rintro _ _ ⟨b92, rfl, rfl⟩; refine ⟨_, (by (repeat first | exact fun _ s => s | apply en_keep | apply en_drop | apply en_app) <;> fail), fun _ s => s, ?_⟩
        refine RS_e (RE_eff rfl rfl rfl (eff_append rfl rfl (by repeat' first | exact Pick.here | apply Pick.skip) (by repeat' first | exact Rc.blk rfl | assumption | apply Rc.skip) (one_all rfl) (by rfl) (by decide) (by omega) (by omega)) ?_); rintro _ _ ⟨A93, c93, rfl, hc93, hm93, hn93, rfl⟩; refine ⟨_, (by (repeat first | exact fun _ s => s | apply en_keep | apply en_drop | apply en_app) <;> fail), fun _ s => s, ?_⟩
        (first | refine RS_q retB_noPanic rfl rfl rfl (ev_nilCheck rfl) ?_ | refine RS_q retB_noPanic rfl rfl rfl (ev_nilCheckF (by simp) rfl) ?_)
        refine RS_q retB_noPanic rfl rfl rfl (ev_fieldAddr rfl) ?_
        refine RS_e (RE_last (by kernel_rfl) rfl rfl rfl (eff_store rfl rfl rfl (by repeat' first | exact Upd.here rfl | apply Upd.skip | apply Upd.app)) ?_); rintro _ _ ⟨rfl, rfl⟩
        (repeat first | refine G_seq ?_ | refine G_skip ?_ | refine G_endblk ?_ | refine G_block ?_ | refine G_exit rfl ?_)
        refine G_region ?_
        refine GO_q rfl rfl (ev_assign rfl) ?_
        refine GO_nil ?_
        (repeat first | refine G_seq ?_ | refine G_skip ?_ | refine G_endblk ?_ | refine G_block ?_ | refine G_exit rfl ?_)
        refine G_ret (L' := blk jb 76 [.pointer (some ⟨ab, 0, none⟩), .int .i64 (i : Nat), .int .i64 ((k + 1 : Nat) : Int)] :: blk ab 74 [.slice A93 (n + 1) c93, .pointer pl, .pointer (some ⟨lb, 0, none⟩)] :: own 67 5 A93 (n + 1) c93 (flat (ds ++ [⟨e.p, i, k⟩])) :: L) rfl (.tmp rfl .nil) ?_ (.inr ⟨⟨e.p, i, k⟩, i, k + 1, A93, c93, rfl, by omega, hi1, hlt, hc93, hm93, hn93, hstep, rfl⟩)
        rw [← flat_snoc]
        refine en_pick (.skip (.skip (.skip (.here)))) ?_
        refine en_pick (.skip (.skip (.skip (.here)))) ?_
        refine en_pick (.skip (.skip (.skip (.here)))) ?_
        refine en_pick (.here) ?_
        exact (by (repeat first | exact fun _ s => s | apply en_keep | apply en_drop | apply en_app) <;> fail)
    · have e1 : i = lo.es.length := by
        rcases Nat.lt_or_ge i lo.es.length with h | h
        · rw [takesB, List.getElem?_eq_getElem h, List.getElem?_eq_none hge] at h1; cases h1
        · omega
      have e2 : k = hi.es.length := by omega
      have hc : ¬ k < hi.es.length := by omega
      (repeat first | refine G_seq ?_ | refine G_skip ?_ | refine G_endblk ?_ | refine G_block ?_ | refine G_exit rfl ?_)
      refine G_draw (.q 0 (.q 1 (.q 2 (.q 3 (.q 4 (.q 5 (.q 6 (.q 7 (.q 8 (.q 9 (.q 10 (.e 11 (.q 12 (.q 13 .nil)))))))))))))) (by kernel_rfl) (by kernel_rfl) ?_
      refine RS_q retB_noPanic rfl rfl rfl (ev_move rfl) ?_
      (first | refine RS_q retB_noPanic rfl rfl rfl (ev_nilCheck rfl) ?_ | refine RS_q retB_noPanic rfl rfl rfl (ev_nilCheckF (by simp) rfl) ?_)
      refine RS_q retB_noPanic rfl rfl rfl (ev_fieldAddr rfl) ?_
      refine RS_q retB_noPanic rfl rfl rfl (ev_load rfl (by repeat' first | exact Ld.blk rfl | assumption | apply Ld.skip | apply Ld.app)) ?_
      refine RS_q retB_noPanic rfl rfl rfl (ev_move rfl) ?_
      (first | refine RS_q retB_noPanic rfl rfl rfl (ev_nilCheck rfl) ?_ | refine RS_q retB_noPanic rfl rfl rfl (ev_nilCheckF (by simp) rfl) ?_)
      refine RS_q retB_noPanic rfl rfl rfl (ev_fieldAddr rfl) ?_
      refine RS_q retB_noPanic rfl rfl rfl (ev_load rfl (by repeat' first | exact Ld.blk rfl | assumption | apply Ld.skip | apply Ld.app)) ?_
      (first | refine RS_q retB_noPanic rfl rfl rfl (ev_nilCheck rfl) ?_ | refine RS_q retB_noPanic rfl rfl rfl (ev_nilCheckF (by simp) rfl) ?_)
      refine RS_q retB_noPanic rfl rfl rfl (ev_fieldAddr rfl) ?_
      refine RS_q retB_noPanic rfl rfl rfl (ev_load rfl (by repeat' first | exact Ld.blk rfl | assumption | apply Ld.skip | apply Ld.app)) ?_
      refine RS_e (RE_eff rfl rfl rfl (eff_call rfl (size_ctr ph hi _ (by repeat' first | assumption | apply ArrIn.skip))) ?_); rintro _ _ ⟨rfl, rfl⟩; refine ⟨_, fun _ s => s, (by (repeat first | exact fun _ s => s | apply en_keep | apply en_drop | apply en_app) <;> fail), ?_⟩
      (first | refine RS_q retB_noPanic rfl rfl rfl (ev_lssN rfl rfl) ?_ | refine RS_q retB_noPanic rfl rfl rfl (ev_lss rfl rfl) ?_)
      refine RS_q retB_noPanic rfl rfl rfl (ev_assign rfl) ?_
      refine RS_nil ?_
      (repeat first | refine G_seq ?_ | refine G_skip ?_ | refine G_endblk ?_ | refine G_block ?_ | refine G_exit rfl ?_)
      refine G_cond_f rfl (decide_eq_false hc) ?_
      (repeat first | refine G_seq ?_ | refine G_skip ?_ | refine G_endblk ?_ | refine G_block ?_ | refine G_exit rfl ?_)
      refine G_region ?_
      refine GO_q rfl rfl (ev_assign rfl) ?_
      refine GO_nil ?_
      (repeat first | refine G_seq ?_ | refine G_skip ?_ | refine G_endblk ?_ | refine G_block ?_ | refine G_exit rfl ?_)
      refine G_ret rfl (.tmp rfl .nil) (by (repeat first | exact fun _ s => s | apply en_keep | apply en_drop | apply en_app) <;> fail) (.inl ⟨e1, e2, rfl, rfl⟩)
end Go.Proofs.Ytcdafmmfcjbodaa
