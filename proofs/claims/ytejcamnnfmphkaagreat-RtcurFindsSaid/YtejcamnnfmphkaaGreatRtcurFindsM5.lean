/- Texts of the law RtcurFinds, one behind the other. -/
import Derived.Test.YtejcamnnfmphkaaGreatRtcurFindsM4
import Derived.Test.YtejcamnnfmphkaaGreatRtcurFindsM1
/- The laws RtcurFinds and RtcurLess. -/
namespace Go.Proofs.YtejcamnnfmphkaaGreat
attribute [local irreducible] sat
open Go.RowKit
set_option linter.unusedVariables false
set_option linter.unusedSimpArgs false
set_option maxRecDepth 100000

theorem idsB_hits' (b : Bx) (l : List Pt) : idsB b l = srt (hits (fun p => b.has p.x p.y) l) := rfl
theorem RNewX_ctr (A : Option Addr) (n c : Nat) (l : List Pt) (L : List HP) (hl : Rd L A n l) (hn : n ≤ 100000) (hc : n ≤ c) :
    Ctr Tryz.prog 6 #[.slice A n c] L fun v L' => ∃ p N, v = .tuple #[.pointer p, .int .i64 (newC l)] ∧ L' = N ++ L ∧ (newC l = 0 → ∃ t T A' c', p = some ⟨t, 0, none⟩ ∧ TR (N ++ L) t T A' c' (srtO Pt.less l)) := by
  by_cases h0 : newC l = 0
  · refine (RNew_ctr A n c l L hl hn hc h0).mono ?_
    rintro v L' ⟨t, T, A', c', N, rfl, rfl, h⟩
    exact ⟨_, N, by rw [h0], rfl, fun _ => ⟨t, T, A', c', rfl, h⟩⟩
  · refine (RNewBad_ctr A n c l L hl hn hc h0).mono ?_
    rintro v L' ⟨rfl, rfl⟩
    exact ⟨none, [], rfl, rfl, fun h => absurd h h0⟩
theorem chnOne {T : RT} {l : List Pt} (o : T.of l) (a : AscO Pt.less l) : ∃ m, Chn m [T] := by
  cases l with
  | nil => exact ⟨0, [], 0, o, a, Int.le_refl _, by simp, trivial⟩
  | cons p q =>
    obtain ⟨z, hz⟩ : ∃ z, (p :: q)[(p :: q).length - 1]? = some z := ⟨_, List.getElem?_eq_getElem (by simp)⟩
    refine ⟨p.x, p :: q, z.x, o, a, asc_x a (Nat.zero_le _) rfl hz, fun r hr => ?_, trivial⟩
    obtain ⟨i, hi, rfl⟩ := List.mem_iff_getElem.1 hr
    exact ⟨asc_x a (Nat.zero_le i) rfl (List.getElem?_eq_getElem hi), asc_x a (by omega) (List.getElem?_eq_getElem hi) hz⟩
theorem begR_lk {b : Bx} {T : RT} {l : List Pt} (o : T.of l) (a : AscO Pt.less l) : (begR b T).lk b ≤ 4 * T.lv + 1 := by
  unfold begR
  split
  · obtain ⟨m, h⟩ := chnOne o a
    have := h.lk b T.lv (by simp)
    simp [lkR] at this; omega
  · simp only [RT.lk]; omega
theorem begR_perm {b : Bx} {T : RT} {l : List Pt} (o : T.of l) (a : AscO Pt.less l) : ((begR b T).fnd b).Perm ((l.filter (inB b)).map (·.id)) :=
  (srt_perm _).symm.trans ((List.Perm.of_eq (begR_fnd o a)).trans (srt_perm _))
theorem lv_le6 {T : RT} {l : List Pt} (o : T.of l) (h : l.length ≤ 64) : T.lv ≤ 7 := o.lv 6 h
theorem of_one {T : RT} {p : Pt} (h : T.of [p]) : T.lv = 1 ∧ ∀ b, T.lk b = 1 := by
  cases T with
  | nil => cases (h : [p] = [])
  | node c q a u v lo hi =>
    have hh := h
    obtain ⟨⟨f, hf, e1⟩, ⟨g, hg, e2⟩, h3⟩ := h
    rcases h3 with ⟨p, _, rfl, rfl, _⟩ | ⟨h3, _⟩
    · refine ⟨rfl, fun b => ?_⟩
      rw [RT.lk_eq]
      have hn := RT.nxt_lv b (RT.node c q a u v .nil .nil) 0 (by simp [RT.lv])
      have : (RT.node c q a u v .nil .nil).nxt b = [] := by
        by_cases c1 : (RT.node c q a u v .nil .nil).out b = true
        · simp [RT.nxt, c1]
        by_cases c2 : (RT.node c q a u v .nil .nil).ins b = true
        · simp [RT.nxt, c2]
        exfalso
        simp only [RT.out, RT.ins, decide_eq_true_eq] at c1 c2
        simp at hf hg
        subst hf hg
        omega
      rw [this]; rfl
    · simp at h3
theorem l18_new : newC [⟨7, 2, 3⟩] = 0 := by decide
theorem l18_ids {T : RT} (o : T.of [⟨7, 2, 3⟩]) (a : AscO Pt.less [⟨7, 2, 3⟩]) : srt (kp true (fndR ⟨0, 9, 0, 9⟩ (begs ⟨0, 9, 0, 9⟩ [⟨0, T, none, 0, []⟩]))) = [7] := by
  have e : fndR ⟨0, 9, 0, 9⟩ (begs ⟨0, 9, 0, 9⟩ [⟨0, T, none, 0, []⟩]) = (begR ⟨0, 9, 0, 9⟩ T).fnd ⟨0, 9, 0, 9⟩ := by simp [fndR, begs]
  rw [e]
  show srt ((begR ⟨0, 9, 0, 9⟩ T).fnd ⟨0, 9, 0, 9⟩) = _
  rw [begR_fnd o a]
  have : ([⟨7, 2, 3⟩] : List Pt).filter (inB ⟨0, 9, 0, 9⟩) = [⟨7, 2, 3⟩] := by decide
  unfold idsB; rw [this]; exact List.mergeSort_singleton ..
theorem lives18_ctr (L : List HP) : Ctr Tryz.prog 8 #[] L fun v L' => v = .bool true ∧ L' = L := by
  have hso : srtO Pt.less [⟨7, 2, 3⟩] = [⟨7, 2, 3⟩] := List.mergeSort_singleton ..
  refine Ctr_of (fn := Tryz.f8) (n := 54) Tryz.func8 rfl rfl rfl ?_
  intro g F
  (repeat first | refine G_seq ?_ | refine G_skip ?_ | refine G_endblk ?_ | refine G_block ?_ | refine G_exit rfl ?_)
  refine G_region ?_
  refine GO_q rfl rfl (ev_assign rfl) ?_
  refine GO_nil ?_
  (repeat first | refine G_seq ?_ | refine G_skip ?_ | refine G_endblk ?_ | refine G_block ?_ | refine G_exit rfl ?_)
  refine G_region ?_
  refine GO_q rfl rfl (ev_build rfl rfl) ?_
  refine GO_eff rfl rfl (eff_buildSlice1 (by rfl) rfl rfl) ?_; rintro _ _ ⟨b9, rfl, rfl⟩
  refine GO_eff rfl rfl (eff_call rfl (RNew_ctr (some ⟨b9, 0, none⟩) 1 1 [⟨7, 2, 3⟩] _ (Rc.blk rfl) (by omega) (Nat.le_refl _) l18_new)) ?_; rintro _ _ ⟨t, T, A, c, N, rfl, rfl, hT⟩
  refine GO_q rfl rfl (ev_move rfl) ?_
  refine GO_q rfl rfl (ev_extract rfl rfl) ?_
  refine GO_q rfl rfl (ev_extract rfl rfl) ?_
  refine GO_q rfl rfl (ev_assign rfl) ?_
  refine GO_q rfl rfl (ev_assign rfl) ?_
  refine GO_nil ?_
  rw [hso] at hT
  obtain ⟨L1, hL1⟩ : ∃ L1, L1 = N ++ (blk b9 56 [.int .i64 7, .int .i64 2, .int .i64 3] :: F :: L) := ⟨_, rfl⟩
  have hF1 : ∀ h, sat L1 h → sat (F :: L) h := by rw [hL1]; exact en_app (en_drop en_refl)
  replace hT : TR L1 t T A c [⟨7, 2, 3⟩] := by rw [hL1]; exact hT
  refine G_heap (L' := L1) (by rw [hL1]; exact en_refl) ?_
  obtain ⟨q1, q2⟩ := of_one hT.o
  have hid := l18_ids hT.o hT.a
  have hbe : begR ⟨0, 9, 0, 9⟩ T = T := if_pos (by decide)
  have hlk : lkR ⟨0, 9, 0, 9⟩ (begs ⟨0, 9, 0, 9⟩ [⟨t, T, A, c, [⟨7, 2, 3⟩]⟩]) = 1 := by simp [lkR, begs, hbe, q2]
  have hrl : ∀ X M, Rd (blk X 28 [.pointer (some ⟨t, 0, none⟩)] :: M) (some ⟨X, 0, none⟩) 1 [(⟨t, T, A, c, [⟨7, 2, 3⟩]⟩ : RTr)] := fun X M => Rc.blk rfl
  have hid2 : srt (kp true (fndR ⟨0, 9, 0, 9⟩ (begs ⟨0, 9, 0, 9⟩ [⟨t, T, A, c, [⟨7, 2, 3⟩]⟩]))) = [7] := hid
  have htl : (fndR ⟨0, 9, 0, 9⟩ (begs ⟨0, 9, 0, 9⟩ [(⟨t, T, A, c, [⟨7, 2, 3⟩]⟩ : RTr)])).length = 1 := by
    have := congrArg List.length hid2
    rw [(srt_perm _).length_eq] at this
    exact this
  have cRp := fun (A' : Option Addr) (M Lb : List HP) (hLb : ∀ h, sat M h → sat Lb h) (hr : Rd M A' 1 [(⟨t, T, A, c, [⟨7, 2, 3⟩]⟩ : RTr)]) (ht : TR Lb t T A c [⟨7, 2, 3⟩]) => rcReport_ctr ⟨0, 9, 0, 9⟩ A' 1 1 [⟨t, T, A, c, [⟨7, 2, 3⟩]⟩] M Lb hLb hr (by omega) (fun x hx => by simp at hx; subst hx; exact ht) (by simp) (by rw [hlk]; omega)
  rw [hlk] at cRp
  have cBd := fun (A' : Option Addr) (M : List HP) (hr : Rd M A' 1 [(⟨t, T, A, c, [⟨7, 2, 3⟩]⟩ : RTr)]) (ht : TR M t T A c [⟨7, 2, 3⟩]) => rcBound_ctr A' 1 1 [⟨t, T, A, c, [⟨7, 2, 3⟩]⟩] M hr (by omega) (fun x hx => by simp at hx; subst hx; exact ht) (by simp [q1])
  rw [show (([(⟨t, T, A, c, [⟨7, 2, 3⟩]⟩ : RTr)].map fun x => 4 * x.T.lv + 1).sum) = 5 by simp [q1]] at cBd
  generalize fndR ⟨0, 9, 0, 9⟩ (begs ⟨0, 9, 0, 9⟩ [(⟨t, T, A, c, [⟨7, 2, 3⟩]⟩ : RTr)]) = tot at *
  (repeat first | refine G_seq ?_ | refine G_skip ?_ | refine G_endblk ?_ | refine G_block ?_ | refine G_exit rfl ?_)
  refine G_region ?_
  refine GO_q rfl rfl (ev_build rfl rfl) ?_
  refine GO_q rfl rfl (ev_move rfl) ?_
  refine GO_eff rfl rfl (eff_buildSlice1 (by rfl) rfl rfl) ?_; rintro _ _ ⟨b15, rfl, rfl⟩
  refine GO_eff rfl rfl (eff_call rfl (cRp _ _ _ (en_drop en_refl) (hrl _ _) hT)) ?_; rintro _ _ ⟨a, rfl, rfl⟩
  refine GO_q rfl rfl (ev_assign rfl) ?_
  refine GO_nil ?_
  have cS := fun M h => rcStep_ctr a 1 0 ⟨0, 9, 0, 9⟩ true tot L1 M 5 h (by omega) (by omega)
  rw [show min (Int.toNat 5) 1 = 1 from rfl, Nat.sub_self, Nat.zero_add] at cS
  have cI := fun M => rcIDs_ctr a 1 ⟨0, 9, 0, 9⟩ true tot L1 M (by omega)
  rw [hid2] at cI
  (repeat first | refine G_seq ?_ | refine G_skip ?_ | refine G_endblk ?_ | refine G_block ?_ | refine G_exit rfl ?_)
  refine G_region ?_
  refine GO_q rfl rfl (ev_move rfl) ?_
  refine GO_eff rfl rfl (eff_call rfl (Ctr.pick (by repeat' first | exact Pick.here | apply Pick.skip | apply Pick.app) (cS _ (by (repeat first | exact en_refl | apply en_drop | apply en_app) <;> fail)))) ?_; rintro _ _ ⟨rfl, rfl⟩
  refine GO_q rfl rfl (ev_move rfl) ?_
  refine GO_q rfl rfl (ev_extract rfl rfl) ?_
  refine GO_q rfl rfl (ev_extract rfl rfl) ?_
  refine GO_q rfl rfl (ev_assign rfl) ?_
  refine GO_q rfl rfl (ev_assign rfl) ?_
  refine GO_nil ?_
  (repeat first | refine G_seq ?_ | refine G_skip ?_ | refine G_endblk ?_ | refine G_block ?_ | refine G_exit rfl ?_)
  refine G_region ?_
  refine GO_q rfl rfl (ev_move rfl) ?_
  refine GO_eff rfl rfl (eff_call rfl (Ctr.pick (by repeat' first | exact Pick.here | apply Pick.skip | apply Pick.app) (cI _))) ?_; rintro _ _ ⟨B, e, rfl, hB, rfl⟩
  refine GO_q rfl rfl (ev_assign rfl) ?_
  refine GO_nil ?_
  obtain ⟨ab, rfl⟩ := hB (by simp)
  have hld : ∀ L', Ld (own 3 1 (some ⟨ab, 0, none⟩) 1 e (flat [(7 : Int)]) :: L') ⟨ab, 0 + 0 * 1, none⟩ (.int .i64 7) := fun L' => Ld.own rfl
  (repeat first | refine G_seq ?_ | refine G_skip ?_ | refine G_endblk ?_ | refine G_block ?_ | refine G_exit rfl ?_)
  refine G_region ?_
  refine GO_q rfl rfl (ev_move rfl) ?_
  refine GO_q rfl rfl (ev_eql rfl rfl) ?_
  refine GO_q rfl rfl (ev_move rfl) ?_
  refine GO_yes rfl rfl rfl rfl ?_
  refine GO_q rfl rfl (ev_move rfl) ?_
  refine GO_yes rfl rfl rfl rfl ?_
  refine GO_q rfl rfl (ev_eql rfl rfl) ?_
  refine GO_q rfl rfl (ev_pick_t rfl rfl rfl) ?_
  refine GO_q rfl rfl (ev_move rfl) ?_
  refine GO_yes rfl rfl rfl rfl ?_
  refine GO_q rfl rfl (ev_move rfl) ?_
  refine GO_q rfl rfl (ev_pick_t rfl rfl rfl) ?_
  refine GO_q rfl rfl (ev_move rfl) ?_
  refine GO_yes rfl rfl rfl rfl ?_
  refine GO_q rfl rfl (ev_move rfl) ?_
  refine GO_yes rfl rfl rfl rfl ?_
  refine GO_eff rfl rfl (eff_call rfl (Ctr.pick (by repeat' first | exact Pick.here | apply Pick.skip | apply Pick.app) (rcDone_ctr a 0 1 ⟨0, 9, 0, 9⟩ true tot L1 _))) ?_; rintro _ _ ⟨rfl, rfl⟩
  refine GO_q rfl rfl (ev_pick_t rfl rfl rfl) ?_
  refine GO_q rfl rfl (ev_move rfl) ?_
  refine GO_yes rfl rfl rfl rfl ?_
  refine GO_q rfl rfl (ev_move rfl) ?_
  refine GO_yes rfl rfl rfl rfl ?_
  refine GO_q rfl rfl (ev_len rfl) ?_
  refine GO_yes rfl rfl rfl rfl ?_
  refine GO_q rfl rfl (ev_eql rfl rfl) ?_
  refine GO_q rfl rfl (ev_pick_t rfl rfl rfl) ?_
  refine GO_q rfl rfl (ev_move rfl) ?_
  refine GO_yes rfl rfl rfl rfl ?_
  refine GO_q rfl rfl (ev_move rfl) ?_
  refine GO_yes rfl rfl rfl rfl ?_
  (first | refine GO_q rfl rfl (ev_indexAddrN rfl rfl (by first | omega | (simp; done) | (simp; omega))) ?_ | refine GO_q rfl rfl (ev_indexAddr rfl rfl (by first | omega | (simp; done) | (simp; omega)) (by first | omega | (simp; done) | (simp; omega))) ?_)
  refine GO_yes rfl rfl rfl rfl ?_
  refine GO_q rfl rfl (ev_load rfl (by repeat' first | exact hld _ | apply Ld.skip)) ?_
  refine GO_yes rfl rfl rfl rfl ?_
  refine GO_q rfl rfl (ev_eql rfl rfl) ?_
  refine GO_q rfl rfl (ev_pick_t rfl rfl rfl) ?_
  refine GO_q rfl rfl (ev_move rfl) ?_
  refine GO_yes rfl rfl rfl rfl ?_
  refine GO_q rfl rfl (ev_move rfl) ?_
  refine GO_yes rfl rfl rfl rfl ?_
  refine GO_eff rfl rfl (eff_buildSlice1 (by rfl) rfl rfl) ?_; rintro _ _ ⟨b50, rfl, rfl⟩
  refine GO_yes rfl rfl rfl rfl ?_
  refine GO_eff rfl rfl (eff_call rfl (cBd _ _ (hrl _ _) (by repeat' first | exact hT | apply TR.skip | apply TR.app))) ?_; rintro _ _ ⟨rfl, rfl⟩
  refine GO_yes rfl rfl rfl rfl ?_
  refine GO_q rfl rfl (ev_eql rfl rfl) ?_
  refine GO_q rfl rfl (ev_pick_t rfl rfl rfl) ?_
  refine GO_q rfl rfl (ev_assign rfl) ?_
  refine GO_nil ?_
  (repeat first | refine G_seq ?_ | refine G_skip ?_ | refine G_endblk ?_ | refine G_block ?_ | refine G_exit rfl ?_)
  exact G_ret (L' := L) rfl (.tmp rfl .nil) (by (repeat first | exact hF1 | apply en_drop | apply en_app) <;> fail) ⟨rfl, rfl⟩
end Go.Proofs.YtejcamnnfmphkaaGreat
/- The law RtcurFinds. -/
namespace Go.Proofs.YtejcamnnfmphkaaGreat
attribute [local irreducible] sat
open Go.RowKit
set_option linter.unusedVariables false
set_option linter.unusedSimpArgs false
set_option maxRecDepth 100000

theorem RT.of.lv_leB {T : RT} {l : List Pt} (h : T.of l) {k : Nat} (h2 : LevOk l.length k) : T.lv ≤ k := by
  obtain ⟨h0, h1, _⟩ := h2
  rcases Nat.eq_zero_or_pos l.length with e | e
  · have : l = [] := List.eq_nil_of_length_eq_zero e
    subst this
    cases T with
    | nil => exact Nat.zero_le _
    | node => obtain ⟨⟨p, hp, _⟩, _⟩ := h; simp at hp
  · obtain ⟨j, rfl, hj⟩ := h1 e
    exact h.lv j hj
theorem RtcurFinds_ctr (A B : Option Addr) (n m c d : Nat) (l q : List Pt) (b : Bx) (S : Option Addr) (sm sd : Nat) (steps : List U8) (L : List HP) (hl : Rd L A n l) (hc : n ≤ c) (hc2 : c ≤ maxLen) (hq : Rd L B m q) (hd : m ≤ d) (hd2 : d ≤ maxLen) (hst : Rd L S sm steps) (hsm : sm ≤ 9223372036854775807) (h8 : ∀ a ∈ steps, a.n ≤ 255) :
    Ctr Tryz.prog 3 #[.agg #[.slice A n c, .slice B m d], .agg #[.int .i64 b.x1, .int .i64 b.x2, .int .i64 b.y1, .int .i64 b.y2], .slice S sm sd] L fun v L' => v = .bool true ∧ L' = L := by
  have hl40 : (l.take 40).length ≤ 40 := List.length_take_le _ _
  have t1 : (l.take 40).take 40 = l.take 40 := by rw [List.take_take]; rfl
  have hq40 : (q.take 40).length ≤ 40 := List.length_take_le _ _
  have t2 : (q.take 40).take 40 = q.take 40 := by rw [List.take_take]; rfl
  have cL1 := Few_ctr A n c l 40 L hl hc hc2 (by omega)
  have cL2 := fun N => Few_ctr B m d q 40 (N ++ L) hq.app hd hd2 (by omega)
  obtain ⟨l1, g1⟩ : ∃ l1, l.take 40 = l1 := ⟨_, rfl⟩
  obtain ⟨q1, g2⟩ : ∃ q1, q.take 40 = q1 := ⟨_, rfl⟩
  rw [g1] at hl40 t1 cL1
  rw [g2] at hq40 t2 cL2
  refine Ctr_of (fn := Tryz.f3) (n := 133) Tryz.func3 rfl rfl rfl ?_
  intro g F
  (repeat first | refine G_seq ?_ | refine G_skip ?_ | refine G_endblk ?_ | refine G_block ?_ | refine G_exit rfl ?_)
  refine G_region ?_
  refine GO_eff rfl rfl (eff_box rfl) ?_; rintro _ _ ⟨b3, rfl, rfl⟩
  refine GO_eff rfl rfl (eff_box rfl) ?_; rintro _ _ ⟨b4, rfl, rfl⟩
  refine GO_q rfl rfl (ev_assign rfl) ?_
  refine GO_nil ?_
  (repeat first | refine G_seq ?_ | refine G_skip ?_ | refine G_endblk ?_ | refine G_block ?_ | refine G_exit rfl ?_)
  refine G_draw (.q 0 (.q 1 (.q 3 (.q 4 (.e 2 (.e 5 (.q 6 (.q 7 .nil)))))))) (by kernel_rfl) (by kernel_rfl) ?_
  refine RS_m retB_noPanic rfl rfl rfl rfl (ev_indexAddrA rfl rfl (by first | omega | (simp; done) | (simp; omega)) (by first | omega | (simp; done) | (simp; omega))) ?_
  refine RS_q retB_noPanic rfl rfl rfl rfl (ev_load rfl (by repeat' first | exact Ld.blk rfl | assumption | apply Ld.skip | apply Ld.app)) ?_
  refine RS_m retB_noPanic rfl rfl rfl rfl (ev_indexAddrA rfl rfl (by first | omega | (simp; done) | (simp; omega)) (by first | omega | (simp; done) | (simp; omega))) ?_
  refine RS_q retB_noPanic rfl rfl rfl rfl (ev_load rfl (by repeat' first | exact Ld.blk rfl | assumption | apply Ld.skip | apply Ld.app)) ?_
  refine RS_e (RE_eff rfl rfl rfl (eff_call rfl (Ctr.frame [_, _, F] cL1 (fun _ s => s))) ?_); rintro _ _ ⟨M1, ⟨A1, c1, N1, rfl, u1, u2, rfl, u3⟩, rfl⟩; refine ⟨_, fun _ s => s, (by first | ((repeat first | exact fun _ s => s | apply en_keep | apply en_drop | apply en_app) <;> fail) | ((repeat first | exact en_refl | (apply en_blk; focus ((repeat' first | exact Pick.here | apply Pick.skip | apply Pick.app); done); focus rfl) | (apply en_own; focus ((repeat' first | exact Pick.here | apply Pick.skip | apply Pick.app); done); focus rfl) | (apply en_pick; focus ((repeat' first | exact Pick.here | apply Pick.skip | apply Pick.app); done)) | apply en_drop | apply en_app) <;> fail)), ?_⟩
  refine RS_e (RE_eff rfl rfl rfl (eff_call rfl (Ctr.frame [_, _, F] (cL2 N1) (fun _ s => s))) ?_); rintro _ _ ⟨M2, ⟨B1, d1, N2, rfl, w1, w2, rfl, w3⟩, rfl⟩; refine ⟨_, fun _ s => s, (by first | ((repeat first | exact fun _ s => s | apply en_keep | apply en_drop | apply en_app) <;> fail) | ((repeat first | exact en_refl | (apply en_blk; focus ((repeat' first | exact Pick.here | apply Pick.skip | apply Pick.app); done); focus rfl) | (apply en_own; focus ((repeat' first | exact Pick.here | apply Pick.skip | apply Pick.app); done); focus rfl) | (apply en_pick; focus ((repeat' first | exact Pick.here | apply Pick.skip | apply Pick.app); done)) | apply en_drop | apply en_app) <;> fail)), ?_⟩
  refine RS_m retB_noPanic rfl rfl rfl rfl (ev_assign rfl) ?_
  refine RS_m retB_noPanic rfl rfl rfl rfl (ev_assign rfl) ?_
  refine RS_nil ?_
  have u4 : Rd (N2 ++ (N1 ++ L)) A1 l1.length l1 := u3.app
  have hst2 : Rd (N2 ++ (N1 ++ L)) S sm steps := hst.app.app
  have hML : ∀ h, sat (N2 ++ (N1 ++ L)) h → sat L h := en_app (en_app en_refl)
  clear u3 cL1 cL2
  generalize N2 ++ (N1 ++ L) = M at *
  have cF1 := Few_ctr A1 _ c1 l1 40 M u4 u1 u2 (by omega)
  rw [t1] at cF1
  (repeat first | refine G_seq ?_ | refine G_skip ?_ | refine G_endblk ?_ | refine G_block ?_ | refine G_exit rfl ?_)
  refine G_region ?_
  refine GO_q rfl rfl (ev_move rfl) ?_
  refine GO_eff rfl rfl (eff_call rfl (Ctr.frame [_, _, F] cF1 (fun _ s => s))) ?_; rintro _ _ ⟨M3, ⟨A2, c2, N3, rfl, x1, x2, rfl, x3⟩, rfl⟩
  refine GO_eff rfl rfl (eff_call rfl (Ctr.frame [_, _, F] (RNewX_ctr A2 _ c2 l1 (N3 ++ M) x3 (by omega) x1) (fun _ s => s))) ?_; rintro _ _ ⟨M4, ⟨p1, N4, rfl, rfl, hT0⟩, rfl⟩
  refine GO_q rfl rfl (ev_move rfl) ?_
  refine GO_q rfl rfl (ev_extract rfl rfl) ?_
  refine GO_q rfl rfl (ev_extract rfl rfl) ?_
  refine GO_q rfl rfl (ev_assign rfl) ?_
  refine GO_q rfl rfl (ev_assign rfl) ?_
  refine GO_nil ?_
  have cF2 := Few_ctr B1 _ d1 q1 40 (N4 ++ (N3 ++ M)) w3.app.app w1 w2 (by omega)
  rw [t2] at cF2
  (repeat first | refine G_seq ?_ | refine G_skip ?_ | refine G_endblk ?_ | refine G_block ?_ | refine G_exit rfl ?_)
  refine G_region ?_
  refine GO_q rfl rfl (ev_move rfl) ?_
  refine GO_eff rfl rfl (eff_call rfl (Ctr.frame [_, _, F] cF2 (fun _ s => s))) ?_; rintro _ _ ⟨M5, ⟨B2, d2', N5, rfl, y1, y2, rfl, y3⟩, rfl⟩
  refine GO_eff rfl rfl (eff_call rfl (Ctr.frame [_, _, F] (RNewX_ctr B2 _ d2' q1 (N5 ++ (N4 ++ (N3 ++ M))) y3 (by omega) y1) (fun _ s => s))) ?_; rintro _ _ ⟨M6, ⟨p2, N6, rfl, rfl, hU0⟩, rfl⟩
  refine GO_q rfl rfl (ev_move rfl) ?_
  refine GO_q rfl rfl (ev_extract rfl rfl) ?_
  refine GO_q rfl rfl (ev_extract rfl rfl) ?_
  refine GO_q rfl rfl (ev_assign rfl) ?_
  refine GO_q rfl rfl (ev_assign rfl) ?_
  refine GO_nil ?_
  have u5 : Rd (N6 ++ (N5 ++ (N4 ++ (N3 ++ M)))) A1 l1.length l1 := u4.app.app.app.app
  have w5 : Rd (N6 ++ (N5 ++ (N4 ++ (N3 ++ M)))) B1 q1.length q1 := w3.app.app.app.app
  have hst3 : Rd (N6 ++ (N5 ++ (N4 ++ (N3 ++ M)))) S sm steps := hst2.app.app.app.app
  have hT1 : newC l1 = 0 → ∃ t T A' c', p1 = some ⟨t, 0, none⟩ ∧ TR (N6 ++ (N5 ++ (N4 ++ (N3 ++ M)))) t T A' c' (srtO Pt.less l1) := fun h => by
    obtain ⟨t, T, A', c', e, h⟩ := hT0 h
    exact ⟨t, T, A', c', e, h.app.app⟩
  have hML2 : ∀ h, sat (N6 ++ (N5 ++ (N4 ++ (N3 ++ M)))) h → sat L h := en_app (en_app (en_app (en_app hML)))
  clear hML u4 w3 hst2 cF1 cF2 x3 y3 hT0
  generalize N6 ++ (N5 ++ (N4 ++ (N3 ++ M))) = M2 at *
  have cG1 := fun M h => RGood17_ctr A1 l1.length c1 l1 M h (by omega)
  have cG2 := fun M h => RGood17_ctr B1 q1.length d1 q1 M h (by omega)
  by_cases h1 : newC l1 = 0
  · by_cases h2 : newC q1 = 0
    · obtain ⟨t, T, At, ct, rfl, hT⟩ := hT1 h1
      obtain ⟨u, U, Au, cu, rfl, hU⟩ := hU0 h2
      rw [h1] at cG1
      rw [h2] at cG2
      (repeat first | refine G_seq ?_ | refine G_skip ?_ | refine G_endblk ?_ | refine G_block ?_ | refine G_exit rfl ?_)
      refine G_region ?_
      refine GO_q rfl rfl (ev_move rfl) ?_
      refine GO_eff rfl rfl (eff_call rfl (cG1 _ (by repeat' first | exact u5 | apply Rd.skip))) ?_; rintro _ _ ⟨rfl, rfl⟩
      refine GO_q rfl rfl (ev_neq rfl rfl) ?_
      refine GO_q rfl rfl (ev_move rfl) ?_
      refine GO_yes rfl rfl rfl rfl ?_
      refine GO_q rfl rfl (ev_move rfl) ?_
      refine GO_yes rfl rfl rfl rfl ?_
      refine GO_eff rfl rfl (eff_call rfl (cG2 _ (by repeat' first | exact w5 | apply Rd.skip))) ?_; rintro _ _ ⟨rfl, rfl⟩
      refine GO_yes rfl rfl rfl rfl ?_
      refine GO_q rfl rfl (ev_neq rfl rfl) ?_
      refine GO_q rfl rfl (ev_pick_f rfl rfl rfl) ?_
      refine GO_nil ?_
      (repeat first | refine G_seq ?_ | refine G_skip ?_ | refine G_endblk ?_ | refine G_block ?_ | refine G_exit rfl ?_)
      refine G_cond_f rfl rfl ?_
      have hsl : (srtO Pt.less l1).length = l1.length := srtO_length l1
      have hsq : (srtO Pt.less q1).length = q1.length := srtO_length q1
      have pT := begR_perm (b := b) hT.o hT.a
      have pU := begR_perm (b := b) hU.o hU.a
      have vT := lv_le6 hT.o (by omega)
      have vU := lv_le6 hU.o (by omega)
      have kT := begR_lk (b := b) hT.o hT.a
      have kU := begR_lk (b := b) hU.o hU.a
      have fT := begR_fnd_len (b := b) hT.good
      have fU := begR_fnd_len (b := b) hU.good
      have zT : T.sz = l1.length := by have : T.sz = _ := hT.o.len; omega
      have zU : U.sz = q1.length := by have : U.sz = _ := hU.o.len; omega
      have wT := fun {j} => hT.o.lv_leB (k := j)
      have wU := fun {j} => hU.o.lv_leB (k := j)
      rw [hsl] at wT
      rw [hsq] at wU
      obtain ⟨ts, hts⟩ : ∃ ts : List RTr, ts = [⟨t, T, At, ct, srtO Pt.less l1⟩, ⟨u, U, Au, cu, srtO Pt.less q1⟩] := ⟨_, rfl⟩
      have e1 : fndR b (begs b ts) = (begR b T).fnd b ++ (begR b U).fnd b := by rw [hts]; simp [fndR, begs]
      have e2 : lkR b (begs b ts) = (begR b T).lk b + (begR b U).lk b := by rw [hts]; simp [lkR, begs]
      have e3 : (ts.map fun x => 4 * x.T.lv + 1).sum = 4 * T.lv + 1 + (4 * U.lv + 1) := by rw [hts]; simp
      have hrl : ∀ X M, Rd (blk X 28 [.pointer (some ⟨t, 0, none⟩), .pointer (some ⟨u, 0, none⟩)] :: M) (some ⟨X, 0, none⟩) 2 ts := fun X M => by rw [hts]; exact Rc.blk rfl
      have hat : ∀ x ∈ ts, x.at_ M2 := fun x hx => by
        rw [hts] at hx
        simp at hx
        rcases hx with rfl | rfl
        · exact hT
        · exact hU
      have hl1k : ∀ x ∈ ts, x.l.length ≤ 1000 := fun x hx => by
        rw [hts] at hx
        simp at hx
        rcases hx with rfl | rfl <;> simp only <;> omega
      have hlvk : ∀ x ∈ ts, x.T.lv ≤ 1000 := fun x hx => by
        rw [hts] at hx
        simp at hx
        rcases hx with rfl | rfl <;> simp only <;> omega
      have hrr : lkR b (begs b ts) ≤ 100 := by omega
      have htl : (fndR b (begs b ts)).length ≤ 100 := by rw [e1, List.length_append]; omega
      have hid : srt (fndR b (begs b ts)) = idsB b (l1 ++ q1) := by
        rw [e1]
        unfold idsB
        rw [List.filter_append, List.map_append]
        exact srt_congr ((pT.trans (((srtO_perm _).filter _).map _)).append (pU.trans (((srtO_perm _).filter _).map _)))
      have hile : (idsB b (l1 ++ q1)).length = (fndR b (begs b ts)).length := by rw [← hid]; exact srtI_len _
      have cRp := fun (A' : Option Addr) (M : List HP) (hLb : ∀ h, sat M h → sat M2 h) (hr : Rd M A' 2 ts) => rcReport_ctr b A' 2 2 ts M M2 hLb hr (by omega) hat hl1k (by omega)
      have cCt := fun (A' : Option Addr) (M : List HP) (hLb : ∀ h, sat M h → sat M2 h) (hr : Rd M A' 2 ts) => rcCount_ctr b A' 2 2 ts M M2 hLb hr (by omega) hat hl1k (by omega)
      have cBd := fun (A' : Option Addr) (M : List HP) (hLb : ∀ h, sat M h → sat M2 h) (hr : Rd M A' 2 ts) => rcBound_ctr A' 2 2 ts M hr (by omega) (fun x hx => TR.mono hLb (hat x hx)) hlvk
      rw [e3] at cBd
      have hkp : kp true (fndR b (begs b ts)) = fndR b (begs b ts) := rfl
      have hkf : kp false (fndR b (begs b ts)) = [] := rfl
      have hb9 : lkR b (begs b ts) ≤ 4 * T.lv + 1 + (4 * U.lv + 1) := by omega
      clear kT kU pT pU
      generalize fndR b (begs b ts) = tot at *
      generalize lkR b (begs b ts) = r at *
      have cFo := fun M (h : Rd M A1 l1.length l1) => FewO_ctr A1 l1.length c1 l1 40 M h u1 u2 (by omega)
      rw [t1] at cFo
      unfold MadeC at cFo
      have hal : (l1 ++ q1).length ≤ 100 := by rw [List.length_append]; omega
      (repeat first | refine G_seq ?_ | refine G_skip ?_ | refine G_endblk ?_ | refine G_block ?_ | refine G_exit rfl ?_)
      refine G_region ?_
      refine GO_q rfl rfl (ev_move rfl) ?_
      refine GO_eff rfl rfl (eff_call rfl (cFo _ (by repeat' first | exact u5 | apply Rd.skip))) ?_; rintro _ _ ⟨A5, c5, rfl, hA5, k1, k2, rfl⟩
      refine GO_q rfl rfl (ev_move rfl) ?_
      refine GO_eff rfl rfl (eff_append rfl rfl (by repeat' first | exact Pick.here | apply Pick.skip) ((by repeat' first | exact w5 | apply Rc.skip)) ((flat_one _)) (by rfl) (by decide) (by first | omega | (simp; done) | (simp; omega)) (by first | omega | (simp; done) | (simp; omega))) ?_; rintro _ _ ⟨A58, c58, rfl, hc58, hm58, hn58, rfl⟩
      refine GO_q rfl rfl (ev_build rfl rfl) ?_
      refine GO_eff rfl rfl (eff_box rfl) ?_; rintro _ _ ⟨b60, rfl, rfl⟩
      refine GO_q rfl rfl (ev_assign rfl) ?_
      refine GO_nil ?_
      rw [← List.length_append, ← flat_append]
      rw [← List.length_append] at hn58
      have hra : ∀ M, Rd (own 56 3 A58 (l1 ++ q1).length c58 (flat (l1 ++ q1)) :: M) A58 (l1 ++ q1).length (l1 ++ q1) := fun M => Rc.own (flat_length _) hn58
      have cQ := fun (sb : Nat) (M : List HP) h h' => (RReport_ctr0 sb A58 c58 0 b (l1 ++ q1) M h h' (by omega)).y
      rw [← idsB_hits'] at cQ
      (repeat first | refine G_seq ?_ | refine G_skip ?_ | refine G_endblk ?_ | refine G_block ?_ | refine G_exit rfl ?_)
      refine G_region ?_
      refine GO_q rfl rfl (ev_move rfl) ?_
      refine GO_q rfl rfl (ev_loadN rfl (by repeat' first | exact LdN.blk rfl | assumption | apply LdN.skip | apply LdN.app)) ?_
      refine GO_eff rfl rfl (eff_call rfl (cQ b60 _ (by repeat' first | exact LdN.blk rfl | assumption | apply LdN.skip | apply LdN.app) (by repeat' first | exact hra _ | apply Rd.skip))) ?_; rintro _ _ ⟨Y, A7, c7, rfl, j1, j2, j3, rfl⟩
      refine GO_q rfl rfl (ev_assign rfl) ?_
      refine GO_nil ?_
      (repeat first | refine G_seq ?_ | refine G_skip ?_ | refine G_endblk ?_ | refine G_block ?_ | refine G_exit rfl ?_)
      refine G_draw (.q 0 (.q 1 (.q 2 (.q 5 (.q 6 (.q 7 (.br 3 (.br 4 (.e 8 (.e 9 (.q 10 (.q 11 .nil)))) 8 (.e 4 (.e 9 (.q 10 (.q 11 .nil))))) 8 (.e 3 (.e 4 (.e 9 (.q 10 (.q 11 .nil)))))))))))) (by kernel_rfl) (by kernel_rfl) ?_
      refine RS_q retB_noPanic rfl rfl rfl rfl (ev_loadN rfl (by repeat' first | exact LdN.blk rfl | assumption | apply LdN.skip | apply LdN.app)) ?_
      refine RS_m retB_noPanic rfl rfl rfl rfl (ev_move rfl) ?_
      refine RS_m retB_noPanic rfl rfl rfl rfl (ev_move rfl) ?_
      refine RS_q retB_noPanic rfl rfl rfl rfl (ev_loadN rfl (by repeat' first | exact LdN.blk rfl | assumption | apply LdN.skip | apply LdN.app)) ?_
      refine RS_m retB_noPanic rfl rfl rfl rfl (ev_move rfl) ?_
      refine RS_m retB_noPanic rfl rfl rfl rfl (ev_move rfl) ?_
      refine RS_br ?x77_0 ?x77_1
      case' x77_1 =>
        refine RE_eff rfl rfl rfl (eff_buildSliceN (by rfl) rfl rfl) ?_; rintro _ _ ⟨b72, rfl, rfl⟩; refine ⟨_, (by first | ((repeat first | exact fun _ s => s | apply en_keep | apply en_drop | apply en_app) <;> fail) | ((repeat first | exact en_refl | (apply en_blk; focus ((repeat' first | exact Pick.here | apply Pick.skip | apply Pick.app); done); focus rfl) | (apply en_own; focus ((repeat' first | exact Pick.here | apply Pick.skip | apply Pick.app); done); focus rfl) | (apply en_pick; focus ((repeat' first | exact Pick.here | apply Pick.skip | apply Pick.app); done)) | apply en_drop | apply en_app) <;> fail)), fun _ s => s, ?_⟩
        refine RS_e (RE_eff rfl rfl rfl (eff_buildSliceN (by rfl) rfl rfl) ?_); rintro _ _ ⟨b67, rfl, rfl⟩; refine ⟨_, (by first | ((repeat first | exact fun _ s => s | apply en_keep | apply en_drop | apply en_app) <;> fail) | ((repeat first | exact en_refl | (apply en_blk; focus ((repeat' first | exact Pick.here | apply Pick.skip | apply Pick.app); done); focus rfl) | (apply en_own; focus ((repeat' first | exact Pick.here | apply Pick.skip | apply Pick.app); done); focus rfl) | (apply en_pick; focus ((repeat' first | exact Pick.here | apply Pick.skip | apply Pick.app); done)) | apply en_drop | apply en_app) <;> fail)), fun _ s => s, ?_⟩
        refine RS_e (RE_eff rfl rfl rfl (eff_call rfl (cRp _ _ (by (repeat first | exact en_refl | apply en_drop | apply en_app) <;> fail) (by repeat' first | exact hrl _ _ | apply Rd.skip))) ?_); rintro _ _ ⟨a1, rfl, rfl⟩; refine ⟨_, (by first | ((repeat first | exact fun _ s => s | apply en_keep | apply en_drop | apply en_app) <;> fail) | ((repeat first | exact en_refl | (apply en_blk; focus ((repeat' first | exact Pick.here | apply Pick.skip | apply Pick.app); done); focus rfl) | (apply en_own; focus ((repeat' first | exact Pick.here | apply Pick.skip | apply Pick.app); done); focus rfl) | (apply en_pick; focus ((repeat' first | exact Pick.here | apply Pick.skip | apply Pick.app); done)) | apply en_drop | apply en_app) <;> fail)), fun _ s => s, ?_⟩
        refine RS_e (RE_eff rfl rfl rfl (eff_call rfl (cCt _ _ (by (repeat first | exact en_refl | apply en_drop | apply en_app) <;> fail) (by repeat' first | exact hrl _ _ | apply Rd.skip))) ?_); rintro _ _ ⟨a2, rfl, rfl⟩; refine ⟨_, (by first | ((repeat first | exact fun _ s => s | apply en_keep | apply en_drop | apply en_app) <;> fail) | ((repeat first | exact en_refl | (apply en_blk; focus ((repeat' first | exact Pick.here | apply Pick.skip | apply Pick.app); done); focus rfl) | (apply en_own; focus ((repeat' first | exact Pick.here | apply Pick.skip | apply Pick.app); done); focus rfl) | (apply en_pick; focus ((repeat' first | exact Pick.here | apply Pick.skip | apply Pick.app); done)) | apply en_drop | apply en_app) <;> fail)), fun _ s => s, ?_⟩
        refine RS_m retB_noPanic rfl rfl rfl rfl (ev_assign rfl) ?_
        refine RS_m retB_noPanic rfl rfl rfl rfl (ev_assign rfl) ?_
        refine RS_nil ?_
      case' x77_0 =>
        refine RE_eff rfl rfl rfl (eff_buildSliceN (by rfl) rfl rfl) ?_; rintro _ _ ⟨b67, rfl, rfl⟩; refine ⟨_, (by first | ((repeat first | exact fun _ s => s | apply en_keep | apply en_drop | apply en_app) <;> fail) | ((repeat first | exact en_refl | (apply en_blk; focus ((repeat' first | exact Pick.here | apply Pick.skip | apply Pick.app); done); focus rfl) | (apply en_own; focus ((repeat' first | exact Pick.here | apply Pick.skip | apply Pick.app); done); focus rfl) | (apply en_pick; focus ((repeat' first | exact Pick.here | apply Pick.skip | apply Pick.app); done)) | apply en_drop | apply en_app) <;> fail)), fun _ s => s, ?_⟩
        refine RS_br ?x78_0 ?x78_1
        case' x78_1 =>
          refine RE_eff rfl rfl rfl (eff_buildSliceN (by rfl) rfl rfl) ?_; rintro _ _ ⟨b72, rfl, rfl⟩; refine ⟨_, (by first | ((repeat first | exact fun _ s => s | apply en_keep | apply en_drop | apply en_app) <;> fail) | ((repeat first | exact en_refl | (apply en_blk; focus ((repeat' first | exact Pick.here | apply Pick.skip | apply Pick.app); done); focus rfl) | (apply en_own; focus ((repeat' first | exact Pick.here | apply Pick.skip | apply Pick.app); done); focus rfl) | (apply en_pick; focus ((repeat' first | exact Pick.here | apply Pick.skip | apply Pick.app); done)) | apply en_drop | apply en_app) <;> fail)), fun _ s => s, ?_⟩
          refine RS_e (RE_eff rfl rfl rfl (eff_call rfl (cRp _ _ (by (repeat first | exact en_refl | apply en_drop | apply en_app) <;> fail) (by repeat' first | exact hrl _ _ | apply Rd.skip))) ?_); rintro _ _ ⟨a1, rfl, rfl⟩; refine ⟨_, (by first | ((repeat first | exact fun _ s => s | apply en_keep | apply en_drop | apply en_app) <;> fail) | ((repeat first | exact en_refl | (apply en_blk; focus ((repeat' first | exact Pick.here | apply Pick.skip | apply Pick.app); done); focus rfl) | (apply en_own; focus ((repeat' first | exact Pick.here | apply Pick.skip | apply Pick.app); done); focus rfl) | (apply en_pick; focus ((repeat' first | exact Pick.here | apply Pick.skip | apply Pick.app); done)) | apply en_drop | apply en_app) <;> fail)), fun _ s => s, ?_⟩
          refine RS_e (RE_eff rfl rfl rfl (eff_call rfl (cCt _ _ (by (repeat first | exact en_refl | apply en_drop | apply en_app) <;> fail) (by repeat' first | exact hrl _ _ | apply Rd.skip))) ?_); rintro _ _ ⟨a2, rfl, rfl⟩; refine ⟨_, (by first | ((repeat first | exact fun _ s => s | apply en_keep | apply en_drop | apply en_app) <;> fail) | ((repeat first | exact en_refl | (apply en_blk; focus ((repeat' first | exact Pick.here | apply Pick.skip | apply Pick.app); done); focus rfl) | (apply en_own; focus ((repeat' first | exact Pick.here | apply Pick.skip | apply Pick.app); done); focus rfl) | (apply en_pick; focus ((repeat' first | exact Pick.here | apply Pick.skip | apply Pick.app); done)) | apply en_drop | apply en_app) <;> fail)), fun _ s => s, ?_⟩
          refine RS_m retB_noPanic rfl rfl rfl rfl (ev_assign rfl) ?_
          refine RS_m retB_noPanic rfl rfl rfl rfl (ev_assign rfl) ?_
          refine RS_nil ?_
        case' x78_0 =>
          refine RE_eff rfl rfl rfl (eff_call rfl (cRp _ _ (by (repeat first | exact en_refl | apply en_drop | apply en_app) <;> fail) (by repeat' first | exact hrl _ _ | apply Rd.skip))) ?_; rintro _ _ ⟨a1, rfl, rfl⟩; refine ⟨_, (by first | ((repeat first | exact fun _ s => s | apply en_keep | apply en_drop | apply en_app) <;> fail) | ((repeat first | exact en_refl | (apply en_blk; focus ((repeat' first | exact Pick.here | apply Pick.skip | apply Pick.app); done); focus rfl) | (apply en_own; focus ((repeat' first | exact Pick.here | apply Pick.skip | apply Pick.app); done); focus rfl) | (apply en_pick; focus ((repeat' first | exact Pick.here | apply Pick.skip | apply Pick.app); done)) | apply en_drop | apply en_app) <;> fail)), fun _ s => s, ?_⟩
          refine RS_e (RE_eff rfl rfl rfl (eff_buildSliceN (by rfl) rfl rfl) ?_); rintro _ _ ⟨b72, rfl, rfl⟩; refine ⟨_, (by first | ((repeat first | exact fun _ s => s | apply en_keep | apply en_drop | apply en_app) <;> fail) | ((repeat first | exact en_refl | (apply en_blk; focus ((repeat' first | exact Pick.here | apply Pick.skip | apply Pick.app); done); focus rfl) | (apply en_own; focus ((repeat' first | exact Pick.here | apply Pick.skip | apply Pick.app); done); focus rfl) | (apply en_pick; focus ((repeat' first | exact Pick.here | apply Pick.skip | apply Pick.app); done)) | apply en_drop | apply en_app) <;> fail)), fun _ s => s, ?_⟩
          refine RS_e (RE_eff rfl rfl rfl (eff_call rfl (cCt _ _ (by (repeat first | exact en_refl | apply en_drop | apply en_app) <;> fail) (by repeat' first | exact hrl _ _ | apply Rd.skip))) ?_); rintro _ _ ⟨a2, rfl, rfl⟩; refine ⟨_, (by first | ((repeat first | exact fun _ s => s | apply en_keep | apply en_drop | apply en_app) <;> fail) | ((repeat first | exact en_refl | (apply en_blk; focus ((repeat' first | exact Pick.here | apply Pick.skip | apply Pick.app); done); focus rfl) | (apply en_own; focus ((repeat' first | exact Pick.here | apply Pick.skip | apply Pick.app); done); focus rfl) | (apply en_pick; focus ((repeat' first | exact Pick.here | apply Pick.skip | apply Pick.app); done)) | apply en_drop | apply en_app) <;> fail)), fun _ s => s, ?_⟩
          refine RS_m retB_noPanic rfl rfl rfl rfl (ev_assign rfl) ?_
          refine RS_m retB_noPanic rfl rfl rfl rfl (ev_assign rfl) ?_
          refine RS_nil ?_
      all_goals
        (repeat first | refine G_seq ?_ | refine G_skip ?_ | refine G_endblk ?_ | refine G_block ?_ | refine G_exit rfl ?_)
        refine G_region ?_
        refine GO_q rfl rfl (ev_move rfl) ?_
        refine GO_q rfl rfl (ev_len rfl) ?_
        refine GO_q rfl rfl (ev_move rfl) ?_
        refine GO_q rfl rfl (ev_len rfl) ?_
        refine GO_eff rfl rfl (eff_buildSliceN (by rfl) rfl rfl) ?_; rintro _ _ ⟨b78, rfl, rfl⟩
        refine GO_eff rfl rfl (eff_call rfl (RBound18_ctr (some ⟨b78, 0, none⟩) 2 2 [l1.length, q1.length] _ (Rc.blk rfl) (by omega) (by simp; omega))) ?_; rintro _ _ ⟨⟨ks, hks, hko, rfl⟩, rfl⟩
        refine GO_q rfl rfl (ev_assign rfl) ?_
        refine GO_nil ?_
        obtain ⟨p, q', rfl⟩ : ∃ p q', ks = [p, q'] := by
          match ks, hks with
          | [p, q'], _ => exact ⟨p, q', rfl⟩
          | [], h => simp at h
          | [_], h => simp at h
          | _ :: _ :: _ :: _, h => simp at h
        have hp1 := hko 0 l1.length p rfl rfl
        have hp2 := hko 1 q1.length q' rfl rfl
        have hv1 := wT hp1
        have hv2 := wU hp2
        have hp3 := hp1.2.2
        have hp4 := hp2.2.2
        rw [show ([p, q'].map fun k => 4 * k + 1).sum = 4 * p + 1 + (4 * q' + 1) by simp]
        have cI1 := fun M => rcIDs_ctr a1 r b true tot M2 M (by omega)
        have cI2 := fun M => rcIDs_ctr a2 r b false tot M2 M (by omega)
        rw [hkp, hid] at cI1
        rw [hkf, show srt ([] : List Int) = [] from List.mergeSort_nil] at cI2
        (repeat first | refine G_seq ?_ | refine G_skip ?_ | refine G_endblk ?_ | refine G_block ?_ | refine G_exit rfl ?_)
        refine G_region ?_
        refine GO_q rfl rfl (ev_move rfl) ?_
        refine GO_q rfl rfl (ev_move rfl) ?_
        refine GO_eff rfl rfl (eff_call rfl (Ctr.pick (by repeat' first | exact Pick.here | apply Pick.skip | apply Pick.app) (goes_ctr a1 r b true tot S sm sd steps M2 _ (by (repeat first | exact en_refl | apply en_drop | apply en_app) <;> fail) (by omega) (by omega) (by repeat' first | exact hst3 | apply Rd.skip) hsm h8))) ?_; rintro _ _ ⟨rfl, rfl⟩
        refine GO_q rfl rfl (ev_move rfl) ?_
        refine GO_q rfl rfl (ev_move rfl) ?_
        refine GO_eff rfl rfl (eff_call rfl (Ctr.pick (by repeat' first | exact Pick.here | apply Pick.skip | apply Pick.app) (goes_ctr a2 r b false tot S sm sd steps M2 _ (by (repeat first | exact en_refl | apply en_drop | apply en_app) <;> fail) (by omega) (by omega) (by repeat' first | exact hst3 | apply Rd.skip) hsm h8))) ?_; rintro _ _ ⟨rfl, rfl⟩
        refine GO_q rfl rfl (ev_assign rfl) ?_
        refine GO_q rfl rfl (ev_assign rfl) ?_
        refine GO_nil ?_
        (repeat first | refine G_seq ?_ | refine G_skip ?_ | refine G_endblk ?_ | refine G_block ?_ | refine G_exit rfl ?_)
        refine G_region ?_
        refine GO_q rfl rfl (ev_move rfl) ?_
        (first | refine GO_q rfl rfl (ev_lssN (q := 0) rfl rfl) ?_ | refine GO_q rfl rfl (ev_lss rfl rfl) ?_)
        refine GO_q rfl rfl (ev_move rfl) ?_
        refine GO_yes rfl rfl rfl (decide_eq_false (by omega)) ?_
        refine GO_q rfl rfl (ev_move rfl) ?_
        refine GO_yes rfl rfl rfl (decide_eq_false (by omega)) ?_
        refine GO_q rfl rfl (ev_move rfl) ?_
        refine GO_yes rfl rfl rfl (decide_eq_false (by omega)) ?_
        refine GO_q rfl rfl (ev_neq rfl rfl) ?_
        refine GO_q rfl rfl (ev_pick_f rfl (decide_eq_false (by omega)) rfl) ?_
        refine GO_q rfl rfl (ev_move rfl) ?_
        refine GO_yes rfl rfl rfl (by simp) ?_
        refine GO_q rfl rfl (ev_move rfl) ?_
        refine GO_yes rfl rfl rfl (by simp) ?_
        refine GO_q rfl rfl (ev_move rfl) ?_
        refine GO_yes rfl rfl rfl (by simp) ?_
        refine GO_q rfl rfl (ev_gtr rfl rfl) ?_
        refine GO_q rfl rfl (ev_pick_f rfl (by simp) rfl) ?_
        refine GO_q rfl rfl (ev_move rfl) ?_
        refine GO_yes rfl rfl rfl (decide_eq_false (by omega)) ?_
        refine GO_q rfl rfl (ev_move rfl) ?_
        refine GO_yes rfl rfl rfl (decide_eq_false (by omega)) ?_
        refine GO_q rfl rfl (ev_move rfl) ?_
        refine GO_yes rfl rfl rfl (decide_eq_false (by omega)) ?_
        refine GO_eff rfl rfl (eff_buildSliceN (by rfl) rfl rfl) ?_; rintro _ _ ⟨b101, rfl, rfl⟩
        refine GO_yes rfl rfl rfl (decide_eq_false (by omega)) ?_
        refine GO_eff rfl rfl (eff_call rfl (cBd _ _ (by (repeat first | exact en_refl | apply en_drop | apply en_app) <;> fail) (by repeat' first | exact hrl _ _ | apply Rd.skip))) ?_; rintro _ _ ⟨rfl, rfl⟩
        refine GO_yes rfl rfl rfl (decide_eq_false (by omega)) ?_
        refine GO_q rfl rfl (ev_move rfl) ?_
        refine GO_yes rfl rfl rfl (decide_eq_false (by omega)) ?_
        refine GO_q rfl rfl (ev_gtr rfl rfl) ?_
        refine GO_q rfl rfl (ev_pick_f rfl (decide_eq_false (by omega)) rfl) ?_
        refine GO_nil ?_
        (repeat first | refine G_seq ?_ | refine G_skip ?_ | refine G_endblk ?_ | refine G_block ?_ | refine G_exit rfl ?_)
        refine G_cond_f rfl (decide_eq_false (by omega)) ?_
        (repeat first | refine G_seq ?_ | refine G_skip ?_ | refine G_endblk ?_ | refine G_block ?_ | refine G_exit rfl ?_)
        refine G_region ?_
        refine GO_q rfl rfl (ev_move rfl) ?_
        refine GO_eff rfl rfl (eff_call rfl (Ctr.pick (by repeat' first | exact Pick.here | apply Pick.skip | apply Pick.app) (cI1 _))) ?_; rintro _ _ ⟨B9, f9, rfl, hB9, rfl⟩
        refine GO_q rfl rfl (ev_move rfl) ?_
        refine GO_eff rfl rfl (eff_call rfl (Same_ctr B9 A7 _ _ f9 c7 _ _ _ (by repeat' first | exact Rc.own (flat_length _) hB9 | apply Rd.skip) (by repeat' first | exact j3 _ | apply Rd.skip) (by omega))) ?_; rintro _ _ ⟨rfl, rfl⟩
        refine GO_q rfl rfl (ev_move rfl) ?_
        refine GO_yes rfl rfl rfl (decide_eq_true rfl) ?_
        refine GO_q rfl rfl (ev_move rfl) ?_
        refine GO_yes rfl rfl rfl (decide_eq_true rfl) ?_
        refine GO_eff rfl rfl (eff_call rfl (Ctr.pick (by repeat' first | exact Pick.here | apply Pick.skip | apply Pick.app) (rcN_ctr a1 r b true tot M2 _))) ?_; rintro _ _ ⟨rfl, rfl⟩
        refine GO_yes rfl rfl rfl (decide_eq_true rfl) ?_
        refine GO_q rfl rfl (ev_move rfl) ?_
        refine GO_yes rfl rfl rfl (decide_eq_true rfl) ?_
        refine GO_q rfl rfl (ev_len rfl) ?_
        refine GO_yes rfl rfl rfl (decide_eq_true rfl) ?_
        refine GO_q rfl rfl (ev_eql rfl rfl) ?_
        refine GO_q rfl rfl (ev_pick_t rfl (decide_eq_true rfl) rfl) ?_
        refine GO_q rfl rfl (ev_move rfl) ?_
        refine GO_yes rfl rfl rfl (decide_eq_true (by omega)) ?_
        refine GO_q rfl rfl (ev_move rfl) ?_
        refine GO_yes rfl rfl rfl (decide_eq_true (by omega)) ?_
        refine GO_eff rfl rfl (eff_call rfl (Ctr.pick (by repeat' first | exact Pick.here | apply Pick.skip | apply Pick.app) (cI2 _))) ?_; rintro _ _ ⟨B10, f10, rfl, hB10, rfl⟩
        refine GO_yes rfl rfl rfl (decide_eq_true (by omega)) ?_
        refine GO_q rfl rfl (ev_len rfl) ?_
        refine GO_yes rfl rfl rfl (decide_eq_true (by omega)) ?_
        refine GO_q rfl rfl (ev_eql rfl rfl) ?_
        refine GO_q rfl rfl (ev_pick_t rfl (decide_eq_true (by omega)) rfl) ?_
        refine GO_q rfl rfl (ev_move rfl) ?_
        refine GO_yes rfl rfl rfl rfl ?_
        refine GO_q rfl rfl (ev_move rfl) ?_
        refine GO_yes rfl rfl rfl rfl ?_
        refine GO_eff rfl rfl (eff_call rfl (Ctr.pick (by repeat' first | exact Pick.here | apply Pick.skip | apply Pick.app) (rcN_ctr a2 r b false tot M2 _))) ?_; rintro _ _ ⟨rfl, rfl⟩
        refine GO_yes rfl rfl rfl rfl ?_
        refine GO_q rfl rfl (ev_move rfl) ?_
        refine GO_yes rfl rfl rfl rfl ?_
        refine GO_q rfl rfl (ev_len rfl) ?_
        refine GO_yes rfl rfl rfl rfl ?_
        refine GO_q rfl rfl (ev_eql rfl rfl) ?_
        refine GO_q rfl rfl (ev_pick_t rfl rfl rfl) ?_
        refine GO_q rfl rfl (ev_move rfl) ?_
        refine GO_yes rfl rfl rfl (decide_eq_true (by omega)) ?_
        refine GO_eff rfl rfl (eff_call rfl (lives18_ctr _)) ?_; rintro _ _ ⟨rfl, rfl⟩
        refine GO_q rfl rfl (ev_pick_t rfl (decide_eq_true (by omega)) rfl) ?_
        refine GO_q rfl rfl (ev_assign rfl) ?_
        refine GO_nil ?_
        (repeat first | refine G_seq ?_ | refine G_skip ?_ | refine G_endblk ?_ | refine G_block ?_ | refine G_exit rfl ?_)
        exact G_ret (L' := L) rfl (.tmp rfl .nil) (by (repeat first | exact en_keep hML2 | apply en_drop | apply en_app) <;> fail) ⟨rfl, rfl⟩
    · rw [h1] at cG1
      (repeat first | refine G_seq ?_ | refine G_skip ?_ | refine G_endblk ?_ | refine G_block ?_ | refine G_exit rfl ?_)
      refine G_region ?_
      refine GO_q rfl rfl (ev_move rfl) ?_
      refine GO_eff rfl rfl (eff_call rfl (cG1 _ (by repeat' first | exact u5 | apply Rd.skip))) ?_; rintro _ _ ⟨rfl, rfl⟩
      refine GO_q rfl rfl (ev_neq rfl rfl) ?_
      refine GO_q rfl rfl (ev_move rfl) ?_
      refine GO_yes rfl rfl rfl rfl ?_
      refine GO_q rfl rfl (ev_move rfl) ?_
      refine GO_yes rfl rfl rfl rfl ?_
      refine GO_eff rfl rfl (eff_call rfl (cG2 _ (by repeat' first | exact w5 | apply Rd.skip))) ?_; rintro _ _ ⟨rfl, rfl⟩
      refine GO_yes rfl rfl rfl rfl ?_
      refine GO_q rfl rfl (ev_neq rfl rfl) ?_
      refine GO_q rfl rfl (ev_pick_f rfl rfl rfl) ?_
      refine GO_nil ?_
      (repeat first | refine G_seq ?_ | refine G_skip ?_ | refine G_endblk ?_ | refine G_block ?_ | refine G_exit rfl ?_)
      refine G_cond_t rfl (by simpa using h2) ?_
      (repeat first | refine G_seq ?_ | refine G_skip ?_ | refine G_endblk ?_ | refine G_block ?_ | refine G_exit rfl ?_)
      refine G_region ?_
      refine GO_q rfl rfl (ev_move rfl) ?_
      refine GO_q rfl rfl (ev_neq rfl rfl) ?_
      refine GO_q rfl rfl (ev_move rfl) ?_
      refine GO_yes rfl rfl rfl (by simpa using h1) ?_
      refine GO_q rfl rfl (ev_move rfl) ?_
      refine GO_yes rfl rfl rfl (by simpa using h1) ?_
      refine GO_q rfl rfl (ev_neq rfl rfl) ?_
      refine GO_q rfl rfl (ev_pick_f rfl (by simpa using h1) rfl) ?_
      refine GO_q rfl rfl (ev_move rfl) ?_
      refine GO_yes rfl rfl rfl (by simpa using h2) ?_
      refine GO_eff rfl rfl (eff_call rfl (lives18_ctr _)) ?_; rintro _ _ ⟨rfl, rfl⟩
      refine GO_q rfl rfl (ev_pick_t rfl (by simpa using h2) rfl) ?_
      refine GO_q rfl rfl (ev_assign rfl) ?_
      refine GO_nil ?_
      (repeat first | refine G_seq ?_ | refine G_skip ?_ | refine G_endblk ?_ | refine G_block ?_ | refine G_exit rfl ?_)
      exact G_ret (L' := L) rfl (.tmp rfl .nil) (by (repeat first | exact en_keep hML2 | apply en_drop | apply en_app) <;> fail) ⟨rfl, rfl⟩
  · (repeat first | refine G_seq ?_ | refine G_skip ?_ | refine G_endblk ?_ | refine G_block ?_ | refine G_exit rfl ?_)
    refine G_region ?_
    refine GO_q rfl rfl (ev_move rfl) ?_
    refine GO_eff rfl rfl (eff_call rfl (cG1 _ (by repeat' first | exact u5 | apply Rd.skip))) ?_; rintro _ _ ⟨rfl, rfl⟩
    refine GO_q rfl rfl (ev_neq rfl rfl) ?_
    refine GO_q rfl rfl (ev_move rfl) ?_
    refine GO_no rfl rfl rfl (by simpa using h1) ?_
    refine GO_no rfl rfl rfl (by simpa using h1) ?_
    refine GO_no rfl rfl rfl (by simpa using h1) ?_
    refine GO_q rfl rfl (ev_pick_t rfl (by simpa using h1) rfl) ?_
    refine GO_nil ?_
    (repeat first | refine G_seq ?_ | refine G_skip ?_ | refine G_endblk ?_ | refine G_block ?_ | refine G_exit rfl ?_)
    refine G_cond_t rfl rfl ?_
    (repeat first | refine G_seq ?_ | refine G_skip ?_ | refine G_endblk ?_ | refine G_block ?_ | refine G_exit rfl ?_)
    refine G_region ?_
    refine GO_q rfl rfl (ev_move rfl) ?_
    refine GO_q rfl rfl (ev_neq rfl rfl) ?_
    refine GO_q rfl rfl (ev_move rfl) ?_
    refine GO_no rfl rfl rfl (by simpa using h1) ?_
    refine GO_no rfl rfl rfl (by simpa using h1) ?_
    refine GO_q rfl rfl (ev_pick_t rfl (by simpa using h1) rfl) ?_
    refine GO_q rfl rfl (ev_move rfl) ?_
    refine GO_yes rfl rfl rfl rfl ?_
    refine GO_eff rfl rfl (eff_call rfl (lives18_ctr _)) ?_; rintro _ _ ⟨rfl, rfl⟩
    refine GO_q rfl rfl (ev_pick_t rfl rfl rfl) ?_
    refine GO_q rfl rfl (ev_assign rfl) ?_
    refine GO_nil ?_
    (repeat first | refine G_seq ?_ | refine G_skip ?_ | refine G_endblk ?_ | refine G_block ?_ | refine G_exit rfl ?_)
    exact G_ret (L' := L) rfl (.tmp rfl .nil) (by (repeat first | exact en_keep hML2 | apply en_drop | apply en_app) <;> fail) ⟨rfl, rfl⟩
end Go.Proofs.YtejcamnnfmphkaaGreat
/- The laws RtcurFinds and RtcurLess, out of their walks. -/
namespace Go.Proofs.YtejcamnnfmphkaaGreat
open Go.RowKit
set_option linter.unusedVariables false
set_option linter.unusedSimpArgs false
set_option maxRecDepth 100000

theorem octets_of : ∀ (ns : List Nat), (flat (ns.map U8.mk) : List Value) = octets ns
  | [] => rfl
  | n :: ns => by rw [List.map_cons, flat_cons, octets_of ns]; rfl
theorem rd_octets {w : World} {T : Option Addr} {m : Nat} {ts : List Nat} (h2 : Reads w 1 T m (octets ts)) : Rd [old w.hm] T m (ts.map U8.mk) := by
  unfold Rd
  rw [octets_of]
  exact rc_of_reads (by decide) h2
theorem rtcurFinds_walk (A : Option Addr) (n c : Nat) (ns : List Int) (B : Option Addr) (m d : Nat) (ms : List Int) (b0 b1 b2 b3 : Int) (T : Option Addr) (k e : Nat) (ts : List Nat) (w : World) (hc : n ≤ c) (hc2 : c ≤ maxLen) (h1 : Reads w 3 A n (ints ns)) (hd : m ≤ d) (hd2 : d ≤ maxLen) (h2 : Reads w 3 B m (ints ms)) (he : k ≤ e) (he2 : e ≤ maxLen) (ht : ∀ n ∈ ts, n ≤ 255) (h3 : Reads w 1 T k (octets ts)) :
    Calls Tryz.prog 3 #[.agg #[.slice A n c, .slice B m d], .agg #[.int .i64 b0, .int .i64 b1, .int .i64 b2, .int .i64 b3], .slice T k e] w fun e w' => e = .returned (.bool true) ∧ Below w.heap.size w w' := by
  obtain ⟨l, hl⟩ := rd_pts h1
  obtain ⟨q, hq⟩ := rd_pts h2
  exact law_of_ctr (RtcurFinds_ctr A B n m c d l q ⟨b0, b1, b2, b3⟩ T k e (ts.map U8.mk) _ hl hc hc2 hq hd hd2 (rd_octets h3) (by unfold maxLen at he2; omega) (fun a h => by
    obtain ⟨k, hk, rfl⟩ := List.mem_map.1 h
    exact ht k hk))
end Go.Proofs.YtejcamnnfmphkaaGreat
