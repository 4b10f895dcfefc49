/- Texts of the law LogmLittle, one behind the other. -/
import Derived.Test.YtkoncepjfgnjlaaGreatLogmLittleM4
import Derived.Test.YtkoncepjfgnjlaaGreatLogmLittleM1
import Derived.Test.YtkoncepjfgnjlaaGreatLogmLittleM2
import Derived.Test.YtkoncepjfgnjlaaGreatLogmLittleM3
import Derived.ChangeKeysEq
/- Points in several trees: put, Insert, anew, Delete of a whole set. -/
namespace Go.Proofs.YtkoncepjfgnjlaaGreat
attribute [local irreducible] sat
open Go.RowKit
set_option linter.unusedVariables false
set_option linter.unusedSimpArgs false
set_option maxRecDepth 100000

theorem lv_le {n m : Nat} (h : n = 0 ∨ 2 ^ (n - 1) ≤ m) (hm : m ≤ 600) : n ≤ 10 := by
  rcases h with h | h
  · omega
  · rcases Nat.lt_or_ge n 11 with h1 | h1
    · omega
    · have : 2 ^ 10 ≤ 2 ^ (n - 1) := Nat.pow_le_pow_right (by decide) (by omega)
      omega
theorem sat_left {N M : List HP} {h : Hm} (s : sat (N ++ M) h) : sat N h := by
  obtain ⟨h1, h2, d, s1, s2, n, l⟩ := s.split
  exact n.up s1
theorem en_two {N M L : List HP} {h : Hm} (s : sat (pk N :: pk M :: L) h) : sat (pk (N ++ M) :: L) h := by
  have h1 : sat (N ++ (pk M :: L)) h := sat.part s
  have h2 : sat (pk M :: (N ++ L)) h := h1.perm List.perm_middle
  have h3 : sat (M ++ (N ++ L)) h := sat.part h2
  have h4 : sat ((N ++ M) ++ L) h := h3.perm (by
    rw [← List.append_assoc]
    exact (List.perm_append_comm).append_right L)
  exact sat.join h4
theorem en_pk0 {L M : List HP} (f : ∀ h, sat L h → sat M h) : ∀ h, sat L h → sat (pk [] :: M) h := en_pack (K := []) f
theorem oat_none {L : List HP} : oat L none := fun x h => by cases h
theorem newC_ok {p : Pt} {S : LgS} {ts : List (Option RTr)} (hc : Cor ts S.ls) (hf : p ∉ S.ls.flatten) (hg : goodP p = true) (nd : S.ls.flatten.Nodup) (gd : ∀ q ∈ S.ls.flatten, goodP q = true) (k : Nat) : newC (gth p (ts.take k)) = 0 := by
  have h1 : ((ts.take k).flatMap opts).Sublist (ts.flatMap opts) := by
    conv => rhs; rw [← List.take_append_drop k ts]
    rw [List.flatMap_append]; exact List.sublist_append_left _ _
  have h2 := hc.flat
  have nd2 : (p :: (ts.take k).flatMap opts).Nodup := List.nodup_cons.2 ⟨fun h => hf (h2.mem_iff.1 (h1.subset h)), h1.nodup (h2.nodup_iff.2 nd)⟩
  have hp : (gth p (ts.take k)).Perm (p :: (ts.take k).flatMap opts) := srtO_perm _
  unfold newC
  rw [if_pos, if_pos (hp.nodup_iff.2 nd2)]
  intro q hq
  rcases List.mem_cons.1 (hp.mem_iff.1 hq) with rfl | h
  · exact hg
  · exact gd q (h2.mem_iff.1 (h1.subset h))
theorem lgPut_ctr (s : Nat) (most : Int) (S : LgS) (p : Pt) (L : List HP) (hf : p ∉ S.ls.flatten) (hg : goodP p = true) (nd : S.ls.flatten.Nodup) (gd : ∀ q ∈ S.ls.flatten, goodP q = true) (hl : S.ls.length ≤ 50) (ht : S.ls.flatten.length ≤ 1000) (hb : S.bu ≤ 1000000000) :
    Ctr Tryz.prog 37 #[.pointer (some ⟨s, 0, none⟩), p.v] (lgF s most S :: L) fun v L' => v = .tuple #[] ∧ L' = lgF s most (S.put p) :: L := by
  refine Ctr.lg fun x hx => ?_
  have h1 := hx.cor.len
  have h2 := hx.cor.flat.length_eq
  refine (lgput_ctr s x.b x.ts.length x.c x.A most S.bu S.d.length p x.ts x.M (pk x.N :: L) hx.A rfl hx.ats (by omega) (by omega) hx.c1 hx.c2 (newC_ok hx.cor hf hg nd gd) ⟨by omega, by omega⟩).post' ?_
  rintro v L' hm ⟨A', c', k, r, N, rfl, hp, hA', rfl⟩ hs
  obtain ⟨e1, e2⟩ := hx.cor.put hp
  refine ⟨_, ⟨rfl, rfl⟩, ?_⟩
  have hI : LgI ⟨A', c', x.b, putT x.ts k r, putM p false x.M, N ++ x.N⟩ (S.put p) := ⟨e1, fun o ho => ?_, ?_, fun _ => hA'⟩
  · refine en_lg ⟨A', c', x.b, putT x.ts k r, putM p false x.M, N ++ x.N⟩ rfl rfl (built := (S.bu : Int) + (r.l.length : Nat)) ?_ rfl hI (fun h s => ?_) hm hs
    · show ((S.bu + putN [p] S.ls : Nat) : Int) = _
      rw [e2]; omega
    · exact sat.cons_mono (fun _ s => sat.cons_mono (fun _ s => sat.cons_mono (fun _ s => en_two s) s) s) s
  · rcases List.mem_append.1 (show o ∈ List.replicate k none ++ some r :: x.ts.drop (k + 1) from ho) with h | h
    · rw [List.eq_of_mem_replicate h]; exact oat_none
    · rcases List.mem_cons.1 h with rfl | h
      · intro y hy
        cases hy
        exact TR.mono (fun _ s => sat_left s) hp.t
      · exact (hx.at_ o (List.mem_of_mem_drop h)).mono (fun _ s => sat_left (s.perm List.perm_append_comm))
  · exact hx.mp.new hf (putR_flat [p] S.ls)
section
variable {x : LgX} {S : LgS} {s : Nat} {most : Int} {L : List HP} (hx : LgJ x S) (h : LdN L s 0 5 (lsC x.A x.ts.length x.c x.b (S.d.length : Nat) most (S.bu : Nat))) (hM : Mp L x.b x.M)
include hx h hM
theorem JLive_ctr (hl : S.live.length + S.d.length = S.ls.flatten.length) (hb : S.ls.flatten.length ≤ 100000) : Ctr Tryz.prog 35 #[.pointer (some ⟨s, 0, none⟩)] L fun v L' => v = .int .i64 (S.live.length : Nat) ∧ L' = L := by
  have e := hx.mp.len
  have := lgLive_ctr h hM (by omega) (by omega)
  rwa [show x.M.length - S.d.length = S.live.length by omega] at this
theorem JHas_ctr (p : Pt) (nd : S.ls.flatten.Nodup) : Ctr Tryz.prog 34 #[.pointer (some ⟨s, 0, none⟩), p.v] L fun v L' => v = .bool (decide (p ∈ S.live)) ∧ L' = L := by
  have := lghas_ctr p h hM
  rwa [show decide (getM p x.M = some false) = decide (p ∈ S.live) from decide_eq_decide.2 ((hx.mp.get_false nd).trans LgS.mem_live.symm)] at this
theorem JKnown_ctr (p : Pt) (nd : S.ls.flatten.Nodup) : Ctr Tryz.prog 36 #[.pointer (some ⟨s, 0, none⟩), p.v] L fun v L' => v = .tuple #[.bool (decide (p ∈ S.d)), .bool (decide (p ∈ S.ls.flatten))] ∧ L' = L := by
  have := lgKnown_ctr p h hM
  have e1 : (getM p x.M).getD false = decide (p ∈ S.d) := by
    have h1 := hx.mp.get_true nd (p := p)
    cases hg : getM p x.M with
    | none =>
      have : p ∉ S.d := fun h => by have := h1.2 h; rw [hg] at this; cases this
      simp [this]
    | some b => cases b with
      | false =>
        have : p ∉ S.d := fun h => by have := h1.2 h; rw [hg] at this; cases this
        simp [this]
      | true => simp [h1.1 hg]
  have e2 : (getM p x.M).isSome = decide (p ∈ S.ls.flatten) := by
    have h1 := hx.mp.get_some (p := p)
    by_cases h2 : p ∈ S.ls.flatten
    · rw [decide_eq_true h2]; exact h1.2 h2
    · rw [decide_eq_false h2]
      cases hg : (getM p x.M).isSome with
      | false => rfl
      | true => exact absurd (h1.1 hg) h2
  rwa [e1, e2] at this
end
theorem LgOk.ll {S : LgS} {m : Nat} (h : LgOk S m) (hm : m ≤ 600) : S.ls.length ≤ 10 := lv_le h.lv hm
theorem LgInsert_ctr (s : Nat) (most : Int) (S : LgS) (p : Pt) (m : Nat) (L : List HP) (ok : LgOk S m) (hm : m ≤ 300) :
    Ctr Tryz.prog 9 #[.pointer (some ⟨s, 0, none⟩), p.v] (lgF s most S :: L) fun v L' => v = .int .i64 (insC most S.live p) ∧ L' = lgF s most (S.ins most p) :: L := by
  refine Ctr.lg fun x hx => ?_
  have k0 := KGood_ctr p
  have hll := ok.live_len
  have htot := ok.tot
  have hbt := ok.bt
  have hl10 := ok.ll (by omega)
  have hlive := fun M h1 h2 => JLive_ctr (s := s) (most := most) (L := M) hx h1 h2 hll (by omega)
  have hhas := fun M h1 h2 => JHas_ctr (s := s) (most := most) (L := M) hx h1 h2 p ok.nd
  have hkn := fun M h1 h2 => JKnown_ctr (s := s) (most := most) (L := M) hx h1 h2 p ok.nd
  have hpl : p ∈ S.live ↔ p ∈ S.ls.flatten ∧ p ∉ S.d := LgS.mem_live
  unfold LgS.ins insC
  cases hg : goodP p with
  | false =>
    rw [hg] at k0
    rw [if_pos rfl, if_neg (by decide)]
    refine Ctr_of (fn := Tryz.f9) (n := 49) Tryz.func9 rfl rfl rfl ?_
    intro g F
    (repeat first | refine G_seq ?_ | refine G_skip ?_ | refine G_endblk ?_ | refine G_block ?_ | refine G_exit rfl ?_)
    refine G_region ?_
    refine GO_eff rfl rfl (eff_box rfl) ?_; rintro _ _ ⟨b3, rfl, rfl⟩
    refine GO_q rfl rfl (ev_assign rfl) ?_
    refine GO_nil ?_
    (repeat first | refine G_seq ?_ | refine G_skip ?_ | refine G_endblk ?_ | refine G_block ?_ | refine G_exit rfl ?_)
    (repeat first | refine G_seq ?_ | refine G_skip ?_ | refine G_endblk ?_ | refine G_block ?_ | refine G_exit rfl ?_)
    refine G_region ?_
    refine GO_q rfl rfl (ev_move rfl) ?_
    (first | refine GO_q rfl rfl (ev_eqlNil rfl rfl) ?_ | refine GO_q rfl rfl (ev_eqlPtr rfl rfl) ?_)
    refine GO_q rfl rfl (ev_move rfl) ?_
    refine GO_yes rfl rfl rfl rfl ?_
    refine GO_q rfl rfl (ev_loadN rfl (by repeat' first | exact LdN.blk rfl | assumption | apply LdN.skip | apply LdN.app)) ?_
    refine GO_yes rfl rfl rfl rfl ?_
    refine GO_eff rfl rfl (eff_call rfl (k0 _)) ?_; rintro _ _ ⟨rfl, rfl⟩
    refine GO_yes rfl rfl rfl rfl ?_
    refine GO_q rfl rfl (ev_not rfl) ?_
    refine GO_q rfl rfl (ev_pick_f rfl rfl rfl) ?_
    refine GO_q rfl rfl (ev_assign rfl) ?_
    refine GO_nil ?_
    (repeat first | refine G_seq ?_ | refine G_skip ?_ | refine G_endblk ?_ | refine G_block ?_ | refine G_exit rfl ?_)
    refine G_cond_t rfl rfl ?_
    (repeat first | refine G_seq ?_ | refine G_skip ?_ | refine G_endblk ?_ | refine G_block ?_ | refine G_exit rfl ?_)
    refine G_region ?_
    refine GO_q rfl rfl (ev_assign rfl) ?_
    refine GO_nil ?_
    (repeat first | refine G_seq ?_ | refine G_skip ?_ | refine G_endblk ?_ | refine G_block ?_ | refine G_exit rfl ?_)
    exact G_ret (L' := lgF s most S :: L) rfl (.tmp rfl .nil) (by (repeat first | exact en_refl | refine en_lg x rfl rfl rfl rfl hx.toLgI ?_ | (apply en_blk; focus ((repeat' first | exact Pick.here | apply Pick.skip | apply Pick.app); done); focus rfl) | (apply en_own; focus ((repeat' first | exact Pick.here | apply Pick.skip | apply Pick.app); done); focus rfl) | (apply en_pick; focus ((repeat' first | exact Pick.here | apply Pick.skip | apply Pick.app); done)) | apply en_drop | apply en_app) <;> fail) ⟨rfl, rfl⟩
  | true =>
    rw [hg] at k0
    rw [if_neg (by decide)]
    by_cases hp : p ∈ S.live
    · rw [decide_eq_true hp] at hhas
      rw [if_pos hp, if_neg (by decide)]
      refine Ctr_of (fn := Tryz.f9) (n := 49) Tryz.func9 rfl rfl rfl ?_
      intro g F
      (repeat first | refine G_seq ?_ | refine G_skip ?_ | refine G_endblk ?_ | refine G_block ?_ | refine G_exit rfl ?_)
      refine G_region ?_
      refine GO_eff rfl rfl (eff_box rfl) ?_; rintro _ _ ⟨b3, rfl, rfl⟩
      refine GO_q rfl rfl (ev_assign rfl) ?_
      refine GO_nil ?_
      (repeat first | refine G_seq ?_ | refine G_skip ?_ | refine G_endblk ?_ | refine G_block ?_ | refine G_exit rfl ?_)
      (repeat first | refine G_seq ?_ | refine G_skip ?_ | refine G_endblk ?_ | refine G_block ?_ | refine G_exit rfl ?_)
      refine G_region ?_
      refine GO_q rfl rfl (ev_move rfl) ?_
      (first | refine GO_q rfl rfl (ev_eqlNil rfl rfl) ?_ | refine GO_q rfl rfl (ev_eqlPtr rfl rfl) ?_)
      refine GO_q rfl rfl (ev_move rfl) ?_
      refine GO_yes rfl rfl rfl rfl ?_
      refine GO_q rfl rfl (ev_loadN rfl (by repeat' first | exact LdN.blk rfl | assumption | apply LdN.skip | apply LdN.app)) ?_
      refine GO_yes rfl rfl rfl rfl ?_
      refine GO_eff rfl rfl (eff_call rfl (k0 _)) ?_; rintro _ _ ⟨rfl, rfl⟩
      refine GO_yes rfl rfl rfl rfl ?_
      refine GO_q rfl rfl (ev_not rfl) ?_
      refine GO_q rfl rfl (ev_pick_f rfl rfl rfl) ?_
      refine GO_q rfl rfl (ev_assign rfl) ?_
      refine GO_nil ?_
      (repeat first | refine G_seq ?_ | refine G_skip ?_ | refine G_endblk ?_ | refine G_block ?_ | refine G_exit rfl ?_)
      refine G_cond_f rfl rfl ?_
      (repeat first | refine G_seq ?_ | refine G_skip ?_ | refine G_endblk ?_ | refine G_block ?_ | refine G_exit rfl ?_)
      refine G_region ?_
      refine GO_q rfl rfl (ev_move rfl) ?_
      refine GO_q rfl rfl (ev_loadN rfl (by repeat' first | exact LdN.blk rfl | assumption | apply LdN.skip | apply LdN.app)) ?_
      refine GO_eff rfl rfl (eff_call rfl (hhas _ (by repeat' first | exact LdN.blk rfl | assumption | apply LdN.skip | apply LdN.app) (by repeat' first | exact Mp.here | apply Mp.skip))) ?_; rintro _ _ ⟨rfl, rfl⟩
      refine GO_q rfl rfl (ev_assign rfl) ?_
      refine GO_nil ?_
      (repeat first | refine G_seq ?_ | refine G_skip ?_ | refine G_endblk ?_ | refine G_block ?_ | refine G_exit rfl ?_)
      refine G_cond_t rfl rfl ?_
      (repeat first | refine G_seq ?_ | refine G_skip ?_ | refine G_endblk ?_ | refine G_block ?_ | refine G_exit rfl ?_)
      refine G_region ?_
      refine GO_q rfl rfl (ev_assign rfl) ?_
      refine GO_nil ?_
      (repeat first | refine G_seq ?_ | refine G_skip ?_ | refine G_endblk ?_ | refine G_block ?_ | refine G_exit rfl ?_)
      exact G_ret (L' := lgF s most S :: L) rfl (.tmp rfl .nil) (by (repeat first | exact en_refl | refine en_lg x rfl rfl rfl rfl hx.toLgI ?_ | (apply en_blk; focus ((repeat' first | exact Pick.here | apply Pick.skip | apply Pick.app); done); focus rfl) | (apply en_own; focus ((repeat' first | exact Pick.here | apply Pick.skip | apply Pick.app); done); focus rfl) | (apply en_pick; focus ((repeat' first | exact Pick.here | apply Pick.skip | apply Pick.app); done)) | apply en_drop | apply en_app) <;> fail) ⟨rfl, rfl⟩
    · rw [decide_eq_false hp] at hhas
      rw [if_neg hp]
      by_cases hf : most ≤ S.live.length
      · rw [if_pos hf, if_neg (by decide)]
        refine Ctr_of (fn := Tryz.f9) (n := 49) Tryz.func9 rfl rfl rfl ?_
        intro g F
        (repeat first | refine G_seq ?_ | refine G_skip ?_ | refine G_endblk ?_ | refine G_block ?_ | refine G_exit rfl ?_)
        refine G_region ?_
        refine GO_eff rfl rfl (eff_box rfl) ?_; rintro _ _ ⟨b3, rfl, rfl⟩
        refine GO_q rfl rfl (ev_assign rfl) ?_
        refine GO_nil ?_
        (repeat first | refine G_seq ?_ | refine G_skip ?_ | refine G_endblk ?_ | refine G_block ?_ | refine G_exit rfl ?_)
        (repeat first | refine G_seq ?_ | refine G_skip ?_ | refine G_endblk ?_ | refine G_block ?_ | refine G_exit rfl ?_)
        refine G_region ?_
        refine GO_q rfl rfl (ev_move rfl) ?_
        (first | refine GO_q rfl rfl (ev_eqlNil rfl rfl) ?_ | refine GO_q rfl rfl (ev_eqlPtr rfl rfl) ?_)
        refine GO_q rfl rfl (ev_move rfl) ?_
        refine GO_yes rfl rfl rfl rfl ?_
        refine GO_q rfl rfl (ev_loadN rfl (by repeat' first | exact LdN.blk rfl | assumption | apply LdN.skip | apply LdN.app)) ?_
        refine GO_yes rfl rfl rfl rfl ?_
        refine GO_eff rfl rfl (eff_call rfl (k0 _)) ?_; rintro _ _ ⟨rfl, rfl⟩
        refine GO_yes rfl rfl rfl rfl ?_
        refine GO_q rfl rfl (ev_not rfl) ?_
        refine GO_q rfl rfl (ev_pick_f rfl rfl rfl) ?_
        refine GO_q rfl rfl (ev_assign rfl) ?_
        refine GO_nil ?_
        (repeat first | refine G_seq ?_ | refine G_skip ?_ | refine G_endblk ?_ | refine G_block ?_ | refine G_exit rfl ?_)
        refine G_cond_f rfl rfl ?_
        (repeat first | refine G_seq ?_ | refine G_skip ?_ | refine G_endblk ?_ | refine G_block ?_ | refine G_exit rfl ?_)
        refine G_region ?_
        refine GO_q rfl rfl (ev_move rfl) ?_
        refine GO_q rfl rfl (ev_loadN rfl (by repeat' first | exact LdN.blk rfl | assumption | apply LdN.skip | apply LdN.app)) ?_
        refine GO_eff rfl rfl (eff_call rfl (hhas _ (by repeat' first | exact LdN.blk rfl | assumption | apply LdN.skip | apply LdN.app) (by repeat' first | exact Mp.here | apply Mp.skip))) ?_; rintro _ _ ⟨rfl, rfl⟩
        refine GO_q rfl rfl (ev_assign rfl) ?_
        refine GO_nil ?_
        (repeat first | refine G_seq ?_ | refine G_skip ?_ | refine G_endblk ?_ | refine G_block ?_ | refine G_exit rfl ?_)
        refine G_cond_f rfl rfl ?_
        (repeat first | refine G_seq ?_ | refine G_skip ?_ | refine G_endblk ?_ | refine G_block ?_ | refine G_exit rfl ?_)
        refine G_draw (.q 0 (.q 2 (.q 3 (.q 4 (.q 5 (.e 1 (.q 6 (.q 7 .nil)))))))) (by kernel_rfl) (by kernel_rfl) ?_
        refine RS_m retB_noPanic rfl rfl rfl rfl (ev_move rfl) ?_
        refine RS_m retB_noPanic rfl rfl rfl rfl (ev_move rfl) ?_
        (first | refine RS_m retB_noPanic rfl rfl rfl rfl (ev_nilCheck rfl) ?_ | refine RS_m retB_noPanic rfl rfl rfl rfl (ev_nilCheckF (by simp) rfl) ?_)
        refine RS_m retB_noPanic rfl rfl rfl rfl (ev_fieldAddr rfl) ?_
        refine RS_q retB_noPanic rfl rfl rfl rfl (ev_load rfl (by repeat' first | exact Ld.blk rfl | assumption | apply Ld.skip | apply Ld.app)) ?_
        refine RS_e (RE_eff rfl rfl rfl (eff_call rfl (hlive _ (by repeat' first | exact LdN.blk rfl | assumption | apply LdN.skip | apply LdN.app) (by repeat' first | exact Mp.here | apply Mp.skip))) ?_); rintro _ _ ⟨rfl, rfl⟩; refine ⟨_, fun _ s => s, (by first | ((repeat first | exact fun _ s => s | apply en_keep | apply en_drop | apply en_app) <;> fail) | ((repeat first | exact en_refl | (apply en_blk; focus ((repeat' first | exact Pick.here | apply Pick.skip | apply Pick.app); done); focus rfl) | (apply en_own; focus ((repeat' first | exact Pick.here | apply Pick.skip | apply Pick.app); done); focus rfl) | (apply en_pick; focus ((repeat' first | exact Pick.here | apply Pick.skip | apply Pick.app); done)) | apply en_drop | apply en_app) <;> fail)), ?_⟩
        refine RS_m retB_noPanic rfl rfl rfl rfl (ev_geq rfl rfl) ?_
        refine RS_m retB_noPanic rfl rfl rfl rfl (ev_assign rfl) ?_
        refine RS_nil ?_
        (repeat first | refine G_seq ?_ | refine G_skip ?_ | refine G_endblk ?_ | refine G_block ?_ | refine G_exit rfl ?_)
        refine G_cond_t rfl (decide_eq_true hf) ?_
        (repeat first | refine G_seq ?_ | refine G_skip ?_ | refine G_endblk ?_ | refine G_block ?_ | refine G_exit rfl ?_)
        refine G_region ?_
        refine GO_q rfl rfl (ev_assign rfl) ?_
        refine GO_nil ?_
        (repeat first | refine G_seq ?_ | refine G_skip ?_ | refine G_endblk ?_ | refine G_block ?_ | refine G_exit rfl ?_)
        exact G_ret (L' := lgF s most S :: L) rfl (.tmp rfl .nil) (by (repeat first | exact en_refl | refine en_lg x rfl rfl rfl rfl hx.toLgI ?_ | (apply en_blk; focus ((repeat' first | exact Pick.here | apply Pick.skip | apply Pick.app); done); focus rfl) | (apply en_own; focus ((repeat' first | exact Pick.here | apply Pick.skip | apply Pick.app); done); focus rfl) | (apply en_pick; focus ((repeat' first | exact Pick.here | apply Pick.skip | apply Pick.app); done)) | apply en_drop | apply en_app) <;> fail) ⟨rfl, rfl⟩
      · rw [if_neg hf, if_pos rfl]
        by_cases hd : p ∈ S.d
        · rw [if_pos hd]
          rw [decide_eq_true hd] at hkn
          have hback := hx.mp.back ((hx.mp.get_true ok.nd).2 hd)
          have hpos := List.length_pos_of_mem hd
          have hdl := List.length_erase_of_mem hd
          refine Ctr_of (fn := Tryz.f9) (n := 49) Tryz.func9 rfl rfl rfl ?_
          intro g F
          (repeat first | refine G_seq ?_ | refine G_skip ?_ | refine G_endblk ?_ | refine G_block ?_ | refine G_exit rfl ?_)
          refine G_region ?_
          refine GO_eff rfl rfl (eff_box rfl) ?_; rintro _ _ ⟨b3, rfl, rfl⟩
          refine GO_q rfl rfl (ev_assign rfl) ?_
          refine GO_nil ?_
          (repeat first | refine G_seq ?_ | refine G_skip ?_ | refine G_endblk ?_ | refine G_block ?_ | refine G_exit rfl ?_)
          (repeat first | refine G_seq ?_ | refine G_skip ?_ | refine G_endblk ?_ | refine G_block ?_ | refine G_exit rfl ?_)
          refine G_region ?_
          refine GO_q rfl rfl (ev_move rfl) ?_
          (first | refine GO_q rfl rfl (ev_eqlNil rfl rfl) ?_ | refine GO_q rfl rfl (ev_eqlPtr rfl rfl) ?_)
          refine GO_q rfl rfl (ev_move rfl) ?_
          refine GO_yes rfl rfl rfl rfl ?_
          refine GO_q rfl rfl (ev_loadN rfl (by repeat' first | exact LdN.blk rfl | assumption | apply LdN.skip | apply LdN.app)) ?_
          refine GO_yes rfl rfl rfl rfl ?_
          refine GO_eff rfl rfl (eff_call rfl (k0 _)) ?_; rintro _ _ ⟨rfl, rfl⟩
          refine GO_yes rfl rfl rfl rfl ?_
          refine GO_q rfl rfl (ev_not rfl) ?_
          refine GO_q rfl rfl (ev_pick_f rfl rfl rfl) ?_
          refine GO_q rfl rfl (ev_assign rfl) ?_
          refine GO_nil ?_
          (repeat first | refine G_seq ?_ | refine G_skip ?_ | refine G_endblk ?_ | refine G_block ?_ | refine G_exit rfl ?_)
          refine G_cond_f rfl rfl ?_
          (repeat first | refine G_seq ?_ | refine G_skip ?_ | refine G_endblk ?_ | refine G_block ?_ | refine G_exit rfl ?_)
          refine G_region ?_
          refine GO_q rfl rfl (ev_move rfl) ?_
          refine GO_q rfl rfl (ev_loadN rfl (by repeat' first | exact LdN.blk rfl | assumption | apply LdN.skip | apply LdN.app)) ?_
          refine GO_eff rfl rfl (eff_call rfl (hhas _ (by repeat' first | exact LdN.blk rfl | assumption | apply LdN.skip | apply LdN.app) (by repeat' first | exact Mp.here | apply Mp.skip))) ?_; rintro _ _ ⟨rfl, rfl⟩
          refine GO_q rfl rfl (ev_assign rfl) ?_
          refine GO_nil ?_
          (repeat first | refine G_seq ?_ | refine G_skip ?_ | refine G_endblk ?_ | refine G_block ?_ | refine G_exit rfl ?_)
          refine G_cond_f rfl rfl ?_
          (repeat first | refine G_seq ?_ | refine G_skip ?_ | refine G_endblk ?_ | refine G_block ?_ | refine G_exit rfl ?_)
          refine G_draw (.q 0 (.q 2 (.q 3 (.q 4 (.q 5 (.e 1 (.q 6 (.q 7 .nil)))))))) (by kernel_rfl) (by kernel_rfl) ?_
          refine RS_m retB_noPanic rfl rfl rfl rfl (ev_move rfl) ?_
          refine RS_m retB_noPanic rfl rfl rfl rfl (ev_move rfl) ?_
          (first | refine RS_m retB_noPanic rfl rfl rfl rfl (ev_nilCheck rfl) ?_ | refine RS_m retB_noPanic rfl rfl rfl rfl (ev_nilCheckF (by simp) rfl) ?_)
          refine RS_m retB_noPanic rfl rfl rfl rfl (ev_fieldAddr rfl) ?_
          refine RS_q retB_noPanic rfl rfl rfl rfl (ev_load rfl (by repeat' first | exact Ld.blk rfl | assumption | apply Ld.skip | apply Ld.app)) ?_
          refine RS_e (RE_eff rfl rfl rfl (eff_call rfl (hlive _ (by repeat' first | exact LdN.blk rfl | assumption | apply LdN.skip | apply LdN.app) (by repeat' first | exact Mp.here | apply Mp.skip))) ?_); rintro _ _ ⟨rfl, rfl⟩; refine ⟨_, fun _ s => s, (by first | ((repeat first | exact fun _ s => s | apply en_keep | apply en_drop | apply en_app) <;> fail) | ((repeat first | exact en_refl | (apply en_blk; focus ((repeat' first | exact Pick.here | apply Pick.skip | apply Pick.app); done); focus rfl) | (apply en_own; focus ((repeat' first | exact Pick.here | apply Pick.skip | apply Pick.app); done); focus rfl) | (apply en_pick; focus ((repeat' first | exact Pick.here | apply Pick.skip | apply Pick.app); done)) | apply en_drop | apply en_app) <;> fail)), ?_⟩
          refine RS_m retB_noPanic rfl rfl rfl rfl (ev_geq rfl rfl) ?_
          refine RS_m retB_noPanic rfl rfl rfl rfl (ev_assign rfl) ?_
          refine RS_nil ?_
          (repeat first | refine G_seq ?_ | refine G_skip ?_ | refine G_endblk ?_ | refine G_block ?_ | refine G_exit rfl ?_)
          refine G_cond_f rfl (decide_eq_false hf) ?_
          (repeat first | refine G_seq ?_ | refine G_skip ?_ | refine G_endblk ?_ | refine G_block ?_ | refine G_exit rfl ?_)
          (repeat first | refine G_seq ?_ | refine G_skip ?_ | refine G_endblk ?_ | refine G_block ?_ | refine G_exit rfl ?_)
          refine G_region ?_
          refine GO_q rfl rfl (ev_move rfl) ?_
          refine GO_q rfl rfl (ev_loadN rfl (by repeat' first | exact LdN.blk rfl | assumption | apply LdN.skip | apply LdN.app)) ?_
          refine GO_eff rfl rfl (eff_call rfl (hkn _ (by repeat' first | exact LdN.blk rfl | assumption | apply LdN.skip | apply LdN.app) (by repeat' first | exact Mp.here | apply Mp.skip))) ?_; rintro _ _ ⟨rfl, rfl⟩
          refine GO_q rfl rfl (ev_move rfl) ?_
          refine GO_q rfl rfl (ev_extract rfl rfl) ?_
          refine GO_q rfl rfl (ev_extract rfl rfl) ?_
          refine GO_q rfl rfl (ev_assign rfl) ?_
          refine GO_q rfl rfl (ev_assign rfl) ?_
          refine GO_nil ?_
          (repeat first | refine G_seq ?_ | refine G_skip ?_ | refine G_endblk ?_ | refine G_block ?_ | refine G_exit rfl ?_)
          refine G_region ?_
          refine GO_q rfl rfl (ev_move rfl) ?_
          refine GO_nil ?_
          (repeat first | refine G_seq ?_ | refine G_skip ?_ | refine G_endblk ?_ | refine G_block ?_ | refine G_exit rfl ?_)
          refine G_cond_t rfl rfl ?_
          (repeat first | refine G_seq ?_ | refine G_skip ?_ | refine G_endblk ?_ | refine G_block ?_ | refine G_exit rfl ?_)
          refine G_draw (.q 0 (.q 1 (.q 2 (.q 3 (.q 4 (.e 5 .nil)))))) (by kernel_rfl) (by kernel_rfl) ?_
          refine RS_m retB_noPanic rfl rfl rfl rfl (ev_move rfl) ?_
          (first | refine RS_m retB_noPanic rfl rfl rfl rfl (ev_nilCheck rfl) ?_ | refine RS_m retB_noPanic rfl rfl rfl rfl (ev_nilCheckF (by simp) rfl) ?_)
          refine RS_m retB_noPanic rfl rfl rfl rfl (ev_fieldAddr rfl) ?_
          refine RS_q retB_noPanic rfl rfl rfl rfl (ev_load rfl (by repeat' first | exact Ld.blk rfl | assumption | apply Ld.skip | apply Ld.app)) ?_
          refine RS_q retB_noPanic rfl rfl rfl rfl (ev_loadN rfl (by repeat' first | exact LdN.blk rfl | assumption | apply LdN.skip | apply LdN.app)) ?_
          refine RS_e (RE_last (by kernel_rfl) rfl rfl rfl (eff_mapUpdate rfl rfl rfl (by repeat' first | exact Pick.here | apply Pick.skip)) ?_); rintro _ _ ⟨rfl, rfl⟩
          (repeat first | refine G_seq ?_ | refine G_skip ?_ | refine G_endblk ?_ | refine G_block ?_ | refine G_exit rfl ?_)
          refine G_region ?_
          refine GO_q rfl rfl (ev_move rfl) ?_
          (first | refine GO_q rfl rfl (ev_nilCheck rfl) ?_ | refine GO_q rfl rfl (ev_nilCheckF (by simp) rfl) ?_)
          refine GO_q rfl rfl (ev_fieldAddr rfl) ?_
          refine GO_q rfl rfl (ev_load rfl (by repeat' first | exact Ld.blk rfl | assumption | apply Ld.skip | apply Ld.app)) ?_
          (first | refine GO_q rfl rfl (ev_subN (q := 1) rfl rfl (by first | omega | (simp; done) | (simp; omega))) ?_ | refine GO_q rfl rfl (ev_sub rfl rfl (by first | omega | (simp; done) | (simp; omega))) ?_)
          (first | refine GO_q rfl rfl (ev_nilCheck rfl) ?_ | refine GO_q rfl rfl (ev_nilCheckF (by simp) rfl) ?_)
          refine GO_q rfl rfl (ev_fieldAddr rfl) ?_
          refine GO_eff rfl rfl (eff_store rfl rfl rfl (by repeat' first | exact Upd.here rfl | apply Upd.skip | apply Upd.app)) ?_; rintro _ _ ⟨rfl, rfl⟩
          refine GO_nil ?_
          (repeat first | refine G_seq ?_ | refine G_skip ?_ | refine G_endblk ?_ | refine G_block ?_ | refine G_exit rfl ?_)
          refine G_region ?_
          refine GO_q rfl rfl (ev_assign rfl) ?_
          refine GO_nil ?_
          (repeat first | refine G_seq ?_ | refine G_skip ?_ | refine G_endblk ?_ | refine G_block ?_ | refine G_exit rfl ?_)
          have hI : LgI ⟨x.A, x.c, x.b, x.ts, putM p false x.M, x.N⟩ ⟨S.ls, S.d.erase p, S.bu⟩ := ⟨hx.cor, hx.at_, hback, hx.A⟩
          exact G_ret (L' := lgF s most ⟨S.ls, S.d.erase p, S.bu⟩ :: L) rfl (.tmp rfl .nil) (by (repeat first | exact en_refl | refine en_lg ⟨x.A, x.c, x.b, x.ts, putM p false x.M, x.N⟩ rfl (gone := ((S.d.length - 1 : Nat) : Int)) (by show ((S.d.erase p).length : Int) = _; omega) rfl rfl hI ?_ | (apply en_blk; focus ((repeat' first | exact Pick.here | apply Pick.skip | apply Pick.app); done); focus rfl) | (apply en_own; focus ((repeat' first | exact Pick.here | apply Pick.skip | apply Pick.app); done); focus rfl) | (apply en_pick; focus ((repeat' first | exact Pick.here | apply Pick.skip | apply Pick.app); done)) | apply en_drop | apply en_app) <;> fail) ⟨rfl, rfl⟩
        · rw [if_neg hd]
          rw [decide_eq_false hd] at hkn
          have hput := fun M => lgPut_ctr s most S p M (fun h => hp (hpl.2 ⟨h, hd⟩)) hg ok.nd ok.gd (by omega) (by omega) (by omega)
          refine Ctr_of (fn := Tryz.f9) (n := 49) Tryz.func9 rfl rfl rfl ?_
          intro g F
          (repeat first | refine G_seq ?_ | refine G_skip ?_ | refine G_endblk ?_ | refine G_block ?_ | refine G_exit rfl ?_)
          refine G_region ?_
          refine GO_eff rfl rfl (eff_box rfl) ?_; rintro _ _ ⟨b3, rfl, rfl⟩
          refine GO_q rfl rfl (ev_assign rfl) ?_
          refine GO_nil ?_
          (repeat first | refine G_seq ?_ | refine G_skip ?_ | refine G_endblk ?_ | refine G_block ?_ | refine G_exit rfl ?_)
          (repeat first | refine G_seq ?_ | refine G_skip ?_ | refine G_endblk ?_ | refine G_block ?_ | refine G_exit rfl ?_)
          refine G_region ?_
          refine GO_q rfl rfl (ev_move rfl) ?_
          (first | refine GO_q rfl rfl (ev_eqlNil rfl rfl) ?_ | refine GO_q rfl rfl (ev_eqlPtr rfl rfl) ?_)
          refine GO_q rfl rfl (ev_move rfl) ?_
          refine GO_yes rfl rfl rfl rfl ?_
          refine GO_q rfl rfl (ev_loadN rfl (by repeat' first | exact LdN.blk rfl | assumption | apply LdN.skip | apply LdN.app)) ?_
          refine GO_yes rfl rfl rfl rfl ?_
          refine GO_eff rfl rfl (eff_call rfl (k0 _)) ?_; rintro _ _ ⟨rfl, rfl⟩
          refine GO_yes rfl rfl rfl rfl ?_
          refine GO_q rfl rfl (ev_not rfl) ?_
          refine GO_q rfl rfl (ev_pick_f rfl rfl rfl) ?_
          refine GO_q rfl rfl (ev_assign rfl) ?_
          refine GO_nil ?_
          (repeat first | refine G_seq ?_ | refine G_skip ?_ | refine G_endblk ?_ | refine G_block ?_ | refine G_exit rfl ?_)
          refine G_cond_f rfl rfl ?_
          (repeat first | refine G_seq ?_ | refine G_skip ?_ | refine G_endblk ?_ | refine G_block ?_ | refine G_exit rfl ?_)
          refine G_region ?_
          refine GO_q rfl rfl (ev_move rfl) ?_
          refine GO_q rfl rfl (ev_loadN rfl (by repeat' first | exact LdN.blk rfl | assumption | apply LdN.skip | apply LdN.app)) ?_
          refine GO_eff rfl rfl (eff_call rfl (hhas _ (by repeat' first | exact LdN.blk rfl | assumption | apply LdN.skip | apply LdN.app) (by repeat' first | exact Mp.here | apply Mp.skip))) ?_; rintro _ _ ⟨rfl, rfl⟩
          refine GO_q rfl rfl (ev_assign rfl) ?_
          refine GO_nil ?_
          (repeat first | refine G_seq ?_ | refine G_skip ?_ | refine G_endblk ?_ | refine G_block ?_ | refine G_exit rfl ?_)
          refine G_cond_f rfl rfl ?_
          (repeat first | refine G_seq ?_ | refine G_skip ?_ | refine G_endblk ?_ | refine G_block ?_ | refine G_exit rfl ?_)
          refine G_draw (.q 0 (.q 2 (.q 3 (.q 4 (.q 5 (.e 1 (.q 6 (.q 7 .nil)))))))) (by kernel_rfl) (by kernel_rfl) ?_
          refine RS_m retB_noPanic rfl rfl rfl rfl (ev_move rfl) ?_
          refine RS_m retB_noPanic rfl rfl rfl rfl (ev_move rfl) ?_
          (first | refine RS_m retB_noPanic rfl rfl rfl rfl (ev_nilCheck rfl) ?_ | refine RS_m retB_noPanic rfl rfl rfl rfl (ev_nilCheckF (by simp) rfl) ?_)
          refine RS_m retB_noPanic rfl rfl rfl rfl (ev_fieldAddr rfl) ?_
          refine RS_q retB_noPanic rfl rfl rfl rfl (ev_load rfl (by repeat' first | exact Ld.blk rfl | assumption | apply Ld.skip | apply Ld.app)) ?_
          refine RS_e (RE_eff rfl rfl rfl (eff_call rfl (hlive _ (by repeat' first | exact LdN.blk rfl | assumption | apply LdN.skip | apply LdN.app) (by repeat' first | exact Mp.here | apply Mp.skip))) ?_); rintro _ _ ⟨rfl, rfl⟩; refine ⟨_, fun _ s => s, (by first | ((repeat first | exact fun _ s => s | apply en_keep | apply en_drop | apply en_app) <;> fail) | ((repeat first | exact en_refl | (apply en_blk; focus ((repeat' first | exact Pick.here | apply Pick.skip | apply Pick.app); done); focus rfl) | (apply en_own; focus ((repeat' first | exact Pick.here | apply Pick.skip | apply Pick.app); done); focus rfl) | (apply en_pick; focus ((repeat' first | exact Pick.here | apply Pick.skip | apply Pick.app); done)) | apply en_drop | apply en_app) <;> fail)), ?_⟩
          refine RS_m retB_noPanic rfl rfl rfl rfl (ev_geq rfl rfl) ?_
          refine RS_m retB_noPanic rfl rfl rfl rfl (ev_assign rfl) ?_
          refine RS_nil ?_
          (repeat first | refine G_seq ?_ | refine G_skip ?_ | refine G_endblk ?_ | refine G_block ?_ | refine G_exit rfl ?_)
          refine G_cond_f rfl (decide_eq_false hf) ?_
          (repeat first | refine G_seq ?_ | refine G_skip ?_ | refine G_endblk ?_ | refine G_block ?_ | refine G_exit rfl ?_)
          (repeat first | refine G_seq ?_ | refine G_skip ?_ | refine G_endblk ?_ | refine G_block ?_ | refine G_exit rfl ?_)
          refine G_region ?_
          refine GO_q rfl rfl (ev_move rfl) ?_
          refine GO_q rfl rfl (ev_loadN rfl (by repeat' first | exact LdN.blk rfl | assumption | apply LdN.skip | apply LdN.app)) ?_
          refine GO_eff rfl rfl (eff_call rfl (hkn _ (by repeat' first | exact LdN.blk rfl | assumption | apply LdN.skip | apply LdN.app) (by repeat' first | exact Mp.here | apply Mp.skip))) ?_; rintro _ _ ⟨rfl, rfl⟩
          refine GO_q rfl rfl (ev_move rfl) ?_
          refine GO_q rfl rfl (ev_extract rfl rfl) ?_
          refine GO_q rfl rfl (ev_extract rfl rfl) ?_
          refine GO_q rfl rfl (ev_assign rfl) ?_
          refine GO_q rfl rfl (ev_assign rfl) ?_
          refine GO_nil ?_
          (repeat first | refine G_seq ?_ | refine G_skip ?_ | refine G_endblk ?_ | refine G_block ?_ | refine G_exit rfl ?_)
          refine G_region ?_
          refine GO_q rfl rfl (ev_move rfl) ?_
          refine GO_nil ?_
          (repeat first | refine G_seq ?_ | refine G_skip ?_ | refine G_endblk ?_ | refine G_block ?_ | refine G_exit rfl ?_)
          refine G_cond_f rfl rfl ?_
          refine G_heap (L' := lgF s most S :: blk b3 28 [.int .i64 p.id, .int .i64 p.x, .int .i64 p.y] :: F :: L) (by (repeat first | exact en_refl | refine en_lg x rfl rfl rfl rfl hx.toLgI ?_ | (apply en_blk; focus ((repeat' first | exact Pick.here | apply Pick.skip | apply Pick.app); done); focus rfl) | (apply en_own; focus ((repeat' first | exact Pick.here | apply Pick.skip | apply Pick.app); done); focus rfl) | (apply en_pick; focus ((repeat' first | exact Pick.here | apply Pick.skip | apply Pick.app); done)) | apply en_drop | apply en_app) <;> fail) ?_
          (repeat first | refine G_seq ?_ | refine G_skip ?_ | refine G_endblk ?_ | refine G_block ?_ | refine G_exit rfl ?_)
          refine G_region ?_
          refine GO_q rfl rfl (ev_move rfl) ?_
          refine GO_q rfl rfl (ev_loadN rfl (by repeat' first | exact LdN.blk rfl | assumption | apply LdN.skip | apply LdN.app)) ?_
          refine GO_eff rfl rfl (eff_call rfl (hput _)) ?_; rintro _ _ ⟨rfl, rfl⟩
          refine GO_nil ?_
          (repeat first | refine G_seq ?_ | refine G_skip ?_ | refine G_endblk ?_ | refine G_block ?_ | refine G_exit rfl ?_)
          refine G_region ?_
          refine GO_q rfl rfl (ev_assign rfl) ?_
          refine GO_nil ?_
          (repeat first | refine G_seq ?_ | refine G_skip ?_ | refine G_endblk ?_ | refine G_block ?_ | refine G_exit rfl ?_)
          exact G_ret (L' := lgF s most (S.put p) :: L) rfl (.tmp rfl .nil) (by (repeat first | exact en_refl | (apply en_blk; focus ((repeat' first | exact Pick.here | apply Pick.skip | apply Pick.app); done); focus rfl) | (apply en_own; focus ((repeat' first | exact Pick.here | apply Pick.skip | apply Pick.app); done); focus rfl) | (apply en_pick; focus ((repeat' first | exact Pick.here | apply Pick.skip | apply Pick.app); done)) | apply en_drop | apply en_app) <;> fail) ⟨rfl, rfl⟩
end Go.Proofs.YtkoncepjfgnjlaaGreat
/- Points in several trees: what an open set tells. -/
namespace Go.Proofs.YtkoncepjfgnjlaaGreat
attribute [local irreducible] sat
open Go.RowKit
set_option linter.unusedVariables false
set_option linter.unusedSectionVars false
set_option linter.unusedSimpArgs false
set_option maxRecDepth 100000

/-- Without the last ones that are nothing. -/
def trimZ (l : List Int) : List Int := (l.reverse.dropWhile (· == 0)).reverse
theorem trimZ_zero (l : List Int) : trimZ (l ++ [0]) = trimZ l := by simp [trimZ]
theorem trimZ_some (l : List Int) {v : Int} (h : v ≠ 0) : trimZ (l ++ [v]) = l ++ [v] := by simp [trimZ, h]
def szL (ls : List (List Pt)) : List Int := ls.map fun l => ((l.length : Nat) : Int)
section
variable {x : LgX} {S : LgS} {s : Nat} {most : Int} {L : List HP} (hx : LgJ x S) (h : LdN L s 0 5 (lsC x.A x.ts.length x.c x.b (S.d.length : Nat) most (S.bu : Nat)))
include hx h
theorem JBuilt_ctr : Ctr Tryz.prog 10 #[.pointer (some ⟨s, 0, none⟩)] L fun v L' => v = .int .i64 (S.bu : Nat) ∧ L' = L := by
  have h1 : Ld L ⟨s, 0 + 4, none⟩ (.int .i64 (S.bu : Nat)) := h.at_ (i := 4) rfl
  refine Ctr_of (fn := Tryz.f10) (n := 9) Tryz.func10 rfl rfl rfl ?_
  intro g F
  (repeat first | refine G_seq ?_ | refine G_skip ?_ | refine G_endblk ?_ | refine G_block ?_ | refine G_exit rfl ?_)
  refine G_region ?_
  refine GO_q rfl rfl (ev_assign rfl) ?_
  refine GO_nil ?_
  (repeat first | refine G_seq ?_ | refine G_skip ?_ | refine G_endblk ?_ | refine G_block ?_ | refine G_exit rfl ?_)
  refine G_region ?_
  refine GO_q rfl rfl (ev_move rfl) ?_
  (first | refine GO_q rfl rfl (ev_eqlNil rfl rfl) ?_ | refine GO_q rfl rfl (ev_eqlPtr rfl rfl) ?_)
  refine GO_nil ?_
  (repeat first | refine G_seq ?_ | refine G_skip ?_ | refine G_endblk ?_ | refine G_block ?_ | refine G_exit rfl ?_)
  refine G_cond_f rfl rfl ?_
  (repeat first | refine G_seq ?_ | refine G_skip ?_ | refine G_endblk ?_ | refine G_block ?_ | refine G_exit rfl ?_)
  refine G_region ?_
  refine GO_q rfl rfl (ev_move rfl) ?_
  (first | refine GO_q rfl rfl (ev_nilCheck rfl) ?_ | refine GO_q rfl rfl (ev_nilCheckF (by simp) rfl) ?_)
  refine GO_q rfl rfl (ev_fieldAddr rfl) ?_
  refine GO_q rfl rfl (ev_load rfl (by repeat' first | exact Ld.blk rfl | assumption | apply Ld.skip | apply Ld.app)) ?_
  refine GO_q rfl rfl (ev_assign rfl) ?_
  refine GO_nil ?_
  (repeat first | refine G_seq ?_ | refine G_skip ?_ | refine G_endblk ?_ | refine G_block ?_ | refine G_exit rfl ?_)
  refine G_ret rfl (.tmp rfl .nil) (by (repeat first | exact fun _ s => s | apply en_keep | apply en_drop | apply en_app) <;> fail) ⟨rfl, rfl⟩
theorem JSizes_ctr (hr : Rd L x.A x.ts.length x.ts) (ht : ∀ o ∈ x.ts, oat L o) (hn : x.ts.length ≤ 1000) (hl : ∀ o ∈ x.ts, (opts o).length ≤ 1000000) : Ctr Tryz.prog 16 #[.pointer (some ⟨s, 0, none⟩)] L fun v L' => MadeY (trimZ (szL S.ls)) L v L' := by
  have h0 : Ld L ⟨s, 0 + 0, none⟩ (.slice x.A x.ts.length x.c) := h.at_ (i := 0) rfl
  have hsz : szL S.ls = x.ts.map fun o => (((opts o).length : Nat) : Int) := by
    have e : (x.ts.map opts).map (fun l : List Pt => ((l.length : Nat) : Int)) = (S.ls.map (srtO Pt.less)).map fun l => ((l.length : Nat) : Int) := by rw [show x.ts.map opts = _ from hx.cor]
    rw [List.map_map, List.map_map] at e
    unfold szL
    rw [show (fun o => (((opts o).length : Nat) : Int)) = (fun l : List Pt => ((l.length : Nat) : Int)) ∘ opts from rfl, e]
    apply List.map_congr_left
    intro l _
    simp [srtO_length]
  rw [hsz]
  clear hsz
  generalize hts : x.ts = ts at *
  generalize hA : x.A = A at *
  generalize hc : x.c = c at *
  obtain ⟨n, hn'⟩ : ∃ n, ts.length = n := ⟨_, rfl⟩
  rw [hn'] at hr hn h h0
  refine Ctr_of (fn := Tryz.f16) (n := 41) Tryz.func16 rfl rfl rfl ?_
  intro g F
  (repeat first | refine G_seq ?_ | refine G_skip ?_ | refine G_endblk ?_ | refine G_block ?_ | refine G_exit rfl ?_)
  refine G_region ?_
  refine GO_q rfl rfl (ev_assign rfl) ?_
  refine GO_nil ?_
  (repeat first | refine G_seq ?_ | refine G_skip ?_ | refine G_endblk ?_ | refine G_block ?_ | refine G_exit rfl ?_)
  refine G_region ?_
  refine GO_q rfl rfl (ev_assign rfl) ?_
  refine GO_nil ?_
  (repeat first | refine G_seq ?_ | refine G_skip ?_ | refine G_endblk ?_ | refine G_block ?_ | refine G_exit rfl ?_)
  refine G_region ?_
  refine GO_q rfl rfl (ev_move rfl) ?_
  (first | refine GO_q rfl rfl (ev_eqlNil rfl rfl) ?_ | refine GO_q rfl rfl (ev_eqlPtr rfl rfl) ?_)
  refine GO_nil ?_
  (repeat first | refine G_seq ?_ | refine G_skip ?_ | refine G_endblk ?_ | refine G_block ?_ | refine G_exit rfl ?_)
  refine G_cond_f rfl rfl ?_
  (repeat first | refine G_seq ?_ | refine G_skip ?_ | refine G_endblk ?_ | refine G_block ?_ | refine G_exit rfl ?_)
  refine G_region ?_
  refine GO_q rfl rfl (ev_move rfl) ?_
  (first | refine GO_q rfl rfl (ev_nilCheck rfl) ?_ | refine GO_q rfl rfl (ev_nilCheckF (by simp) rfl) ?_)
  refine GO_q rfl rfl (ev_fieldAddr rfl) ?_
  refine GO_q rfl rfl (ev_load rfl (by repeat' first | exact Ld.blk rfl | assumption | apply Ld.skip | apply Ld.app)) ?_
  refine GO_q rfl rfl (ev_len rfl) ?_
  refine GO_q rfl rfl (ev_move rfl) ?_
  refine GO_nil ?_
  (repeat first | refine G_seq ?_ | refine G_skip ?_ | refine G_endblk ?_)
  refine G_heap (own.nil_ 3 1) ?_
  refine G_cut (ι := Option Addr × Nat) (fun y => [(3, .slice y.1 n y.2)]) (fun y => own 3 1 y.1 n y.2 (flat (ts.map fun o => (((opts o).length : Nat) : Int))) :: F :: L) (fun y => 0 < n → ∃ b, y.1 = some ⟨b, 0, none⟩) ?_ ?_
  · (repeat first | refine G_seq ?_ | refine G_skip ?_ | refine G_endblk ?_ | refine G_block ?_ | refine G_exit rfl ?_)
    refine G_loop (ι := Nat × Option Addr × Nat) (fun y => [(3, .slice y.2.1 y.1 y.2.2), (11, .slice A n c), (12, .int .i64 (n : Nat)), (13, .int .i64 (y.1 : Nat))]) (fun y => own 3 1 y.2.1 y.1 y.2.2 (flat ((ts.take y.1).map fun o => (((opts o).length : Nat) : Int))) :: F :: L)
      (fun y => y.1 ≤ n ∧ (0 < y.1 → ∃ b, y.2.1 = some ⟨b, 0, none⟩) ∧ y.1 ≤ y.2.2 ∧ y.2.2 ≤ maxLen) (fun y => n - y.1) (0, none, 0) ⟨Nat.zero_le _, (fun h => absurd h (Nat.lt_irrefl 0)), Nat.le_refl _, Nat.zero_le _⟩ ⟨rfl, rfl, rfl, rfl, trivial⟩ (by (repeat first | exact en_refl | (apply en_blk; focus ((repeat' first | exact Pick.here | apply Pick.skip | apply Pick.app); done); focus rfl) | (apply en_own; focus ((repeat' first | exact Pick.here | apply Pick.skip | apply Pick.app); done); focus rfl) | (apply en_pick; focus ((repeat' first | exact Pick.here | apply Pick.skip | apply Pick.app); done)) | apply en_drop | apply en_app) <;> fail) ?_
    rintro ⟨k, B, d⟩ ⟨f1, f2, f3, f4⟩
    simp only at f1 f2 f3 f4
    dsimp only
    (repeat first | refine G_seq ?_ | refine G_skip ?_ | refine G_endblk ?_ | refine G_block ?_ | refine G_exit rfl ?_)
    refine G_region ?_
    (first | refine GO_q rfl rfl (ev_lssN rfl rfl) ?_ | refine GO_q rfl rfl (ev_lss rfl rfl) ?_)
    refine GO_nil ?_
    (repeat first | refine G_seq ?_ | refine G_skip ?_ | refine G_endblk ?_ | refine G_block ?_ | refine G_exit rfl ?_)
    refine G_cond rfl (fun c1 => ?_) (fun c1 => ?_)
    · obtain ⟨lb, lo, rfl, hxx⟩ := hr.at_ (by omega)
      have g1 : ts[k]? = some ts[k] := List.getElem?_eq_getElem (by omega)
      have y1 := (hxx _ _ g1).at_ (i := 0) rfl
      have s1 : (ts.take (k + 1)).map (fun o => (((opts o).length : Nat) : Int)) = (ts.take k).map (fun o => (((opts o).length : Nat) : Int)) ++ [(((opts ts[k]).length : Nat) : Int)] := by
        rw [List.take_succ_eq_append_getElem (by omega), List.map_append]; rfl
      have o1 := ht ts[k] (List.getElem_mem _)
      have o2 := hl ts[k] (List.getElem_mem _)
      rw [show ((ts.take k).map fun o => (((opts o).length : Nat) : Int)) = (ts.take k).map (fun o => (((opts o).length : Nat) : Int)) from rfl]
      generalize ts[k] = o at *
      have z1 : Ld L ⟨lb, lo + k * 1, none⟩ (.pointer (oaddr o)) := y1
      have hL := fun M hM => oLen_ctr o M hM
      (repeat first | refine G_seq ?_ | refine G_skip ?_ | refine G_endblk ?_ | refine G_block ?_ | refine G_exit rfl ?_)
      refine G_region ?_
      (first | refine GO_q rfl rfl (ev_indexAddrN rfl rfl (by first | omega | (simp; done) | (simp; omega))) ?_ | refine GO_q rfl rfl (ev_indexAddr rfl rfl (by first | omega | (simp; done) | (simp; omega)) (by first | omega | (simp; done) | (simp; omega))) ?_)
      refine GO_q rfl rfl (ev_load rfl (by repeat' first | exact Ld.blk rfl | assumption | apply Ld.skip | apply Ld.app)) ?_
      refine GO_q rfl rfl (ev_assign rfl) ?_
      refine GO_nil ?_
      (repeat first | refine G_seq ?_ | refine G_skip ?_ | refine G_endblk ?_ | refine G_block ?_ | refine G_exit rfl ?_)
      refine G_region ?_
      refine GO_q rfl rfl (ev_move rfl) ?_
      refine GO_q rfl rfl (ev_move rfl) ?_
      refine GO_eff rfl rfl (eff_call rfl (hL _ (by repeat' first | exact o1 | apply oat.skip))) ?_; rintro _ _ ⟨rfl, rfl⟩
      refine GO_eff rfl rfl (eff_buildSlice1 (by rfl) rfl rfl) ?_; rintro _ _ ⟨b20, rfl, rfl⟩
      refine GO_eff rfl rfl (eff_append rfl rfl (by repeat' first | exact Pick.here | apply Pick.skip) (by repeat' first | exact Rc.blk rfl | assumption | apply Rc.skip) (one_all rfl) (by rfl) (by decide) (by first | omega | (simp; done) | (simp; omega)) (by first | omega | (simp; done) | (simp; omega))) ?_; rintro _ _ ⟨A21, c21, rfl, hc21, hm21, hn21, rfl⟩
      refine GO_q rfl rfl (ev_assign rfl) ?_
      refine GO_nil ?_
      (repeat first | refine G_seq ?_ | refine G_skip ?_ | refine G_endblk ?_ | refine G_block ?_ | refine G_exit rfl ?_)
      refine G_region ?_
      (first | refine GO_q rfl rfl (ev_addN (q := 1) rfl rfl (by first | omega | (simp; done) | (simp; omega))) ?_ | refine GO_q rfl rfl (ev_add rfl rfl (by first | omega | (simp; done) | (simp; omega))) ?_)
      refine GO_q rfl rfl (ev_move rfl) ?_
      refine GO_nil ?_
      (repeat first | refine G_seq ?_ | refine G_skip ?_ | refine G_endblk ?_ | refine G_block ?_ | refine G_exit rfl ?_)
      refine G_round (k + 1, A21, c21) ⟨by simp only; omega, hn21, hc21, hm21⟩ (by simp only; omega) ⟨rfl, rfl, rfl, rfl, trivial⟩ ?_
      simp only
      rw [s1, ← flat_snoc]
      exact (by (repeat first | exact en_refl | (apply en_blk; focus ((repeat' first | exact Pick.here | apply Pick.skip | apply Pick.app); done); focus rfl) | (apply en_own; focus ((repeat' first | exact Pick.here | apply Pick.skip | apply Pick.app); done); focus rfl) | (apply en_pick; focus ((repeat' first | exact Pick.here | apply Pick.skip | apply Pick.app); done)) | apply en_drop | apply en_app) <;> fail)
    · have e : k = n := by omega
      subst e
      rw [show ts.take k = ts from List.take_of_length_le (by omega)]
      (repeat first | refine G_seq ?_ | refine G_skip ?_ | refine G_endblk ?_ | refine G_block ?_ | refine G_exit rfl ?_)
      exact G_inv (B, d) f2 ⟨rfl, trivial⟩ (by (repeat first | exact fun _ s => s | apply en_keep | apply en_drop | apply en_app) <;> fail)
  · rintro ⟨B, d⟩ fB
    simp only at fB
    dsimp only
    refine G_pure (fun h s => own.facts s) ?_
    rintro ⟨_, fd, f4, _⟩
    have hal : (ts.map fun o => (((opts o).length : Nat) : Int)).length = n := by simp [hn']
    have hab : ∀ v ∈ (ts.map fun o => (((opts o).length : Nat) : Int)), 0 ≤ v ∧ v ≤ 1000000 := fun v hv => by
      obtain ⟨o, ho, rfl⟩ := List.mem_map.1 hv
      have := hl o ho
      omega
    generalize (ts.map fun o => (((opts o).length : Nat) : Int)) = q at *
    have hq : ∀ X, Rd (own 3 1 B n d (flat q) :: X) B n q := fun X => Rc.own (by rw [flat_length, hal]; rfl) fB
    (repeat first | refine G_seq ?_ | refine G_skip ?_ | refine G_endblk ?_)
    refine G_cut (ι := Unit) (fun _ => [(3, .slice B (trimZ q).length d)]) (fun _ => own 3 1 B n d (flat q) :: F :: L) (fun _ => (trimZ q).length ≤ n ∧ trimZ q = q.take (trimZ q).length) ?_ ?_
    · (repeat first | refine G_seq ?_ | refine G_skip ?_ | refine G_endblk ?_ | refine G_block ?_ | refine G_exit rfl ?_)
      refine G_loop (ι := Nat) (fun k => [(3, .slice B k d)]) (fun _ => own 3 1 B n d (flat q) :: F :: L) (fun k => k ≤ n ∧ trimZ (q.take k) = trimZ q) (fun k => k) n ⟨Nat.le_refl _, by rw [List.take_of_length_le (by omega)]⟩ ⟨rfl, trivial⟩ (by (repeat first | exact fun _ s => s | apply en_keep | apply en_drop | apply en_app) <;> fail) ?_
      rintro k ⟨f1, f2⟩
      rcases Nat.eq_zero_or_pos k with h0 | h0
      · subst h0
        have e0 : trimZ q = [] := by rw [← f2]; rfl
        (repeat first | refine G_seq ?_ | refine G_skip ?_ | refine G_endblk ?_ | refine G_block ?_ | refine G_exit rfl ?_)
        refine G_region ?_
        refine GO_q rfl rfl (ev_move rfl) ?_
        refine GO_q rfl rfl (ev_len rfl) ?_
        refine GO_q rfl rfl (ev_gtr rfl rfl) ?_
        refine GO_q rfl rfl (ev_move rfl) ?_
        refine GO_no rfl rfl rfl (decide_eq_false (by omega)) ?_
        refine GO_no rfl rfl rfl (decide_eq_false (by omega)) ?_
        refine GO_no rfl rfl rfl (decide_eq_false (by omega)) ?_
        refine GO_no rfl rfl rfl (decide_eq_false (by omega)) ?_
        refine GO_no rfl rfl rfl (decide_eq_false (by omega)) ?_
        refine GO_no rfl rfl rfl (decide_eq_false (by omega)) ?_
        refine GO_no rfl rfl rfl (decide_eq_false (by omega)) ?_
        refine GO_q rfl rfl (ev_pick_f rfl (decide_eq_false (by omega)) rfl) ?_
        refine GO_nil ?_
        (repeat first | refine G_seq ?_ | refine G_skip ?_ | refine G_endblk ?_ | refine G_block ?_ | refine G_exit rfl ?_)
        refine G_cond_f rfl rfl ?_
        (repeat first | refine G_seq ?_ | refine G_skip ?_ | refine G_endblk ?_ | refine G_block ?_ | refine G_exit rfl ?_)
        exact G_inv () ⟨by rw [e0]; exact Nat.zero_le _, by rw [e0]; rfl⟩ ⟨by rw [e0]; rfl, trivial⟩ (by (repeat first | exact fun _ s => s | apply en_keep | apply en_drop | apply en_app) <;> fail)
      · obtain ⟨bb, rfl⟩ := fB (by omega)
        obtain ⟨j, rfl⟩ : ∃ j, k = j + 1 := ⟨k - 1, by omega⟩
        have g1 : q[j]? = some q[j] := List.getElem?_eq_getElem (by omega)
        have s1 : q.take (j + 1) = q.take j ++ [q[j]] := List.take_succ_eq_append_getElem (by omega)
        have y1 : ∀ X, Ld (own 3 1 (some ⟨bb, 0, none⟩) n d (flat q) :: X) ⟨bb, 0 + j * 1, none⟩ (.int .i64 q[j]) := fun X => by
          obtain ⟨_, _, e9, hxx⟩ := (hq X).at_ (by omega)
          cases e9
          exact (hxx _ _ g1).at_ (i := 0) rfl
        generalize q[j] = v at *
        rw [s1] at f2
        by_cases hz : v = 0
        · subst hz
          rw [trimZ_zero] at f2
          (repeat first | refine G_seq ?_ | refine G_skip ?_ | refine G_endblk ?_ | refine G_block ?_ | refine G_exit rfl ?_)
          refine G_region ?_
          refine GO_q rfl rfl (ev_move rfl) ?_
          refine GO_q rfl rfl (ev_len rfl) ?_
          refine GO_q rfl rfl (ev_gtr rfl rfl) ?_
          refine GO_q rfl rfl (ev_move rfl) ?_
          refine GO_yes rfl rfl rfl (decide_eq_true (by omega)) ?_
          refine GO_q rfl rfl (ev_move rfl) ?_
          refine GO_yes rfl rfl rfl (decide_eq_true (by omega)) ?_
          refine GO_q rfl rfl (ev_move rfl) ?_
          refine GO_yes rfl rfl rfl (decide_eq_true (by omega)) ?_
          refine GO_q rfl rfl (ev_len rfl) ?_
          refine GO_yes rfl rfl rfl (decide_eq_true (by omega)) ?_
          refine GO_q rfl rfl (ev_subN (q := 1) rfl rfl (by omega)) ?_
          refine GO_yes rfl rfl rfl (decide_eq_true (by omega)) ?_
          refine GO_q rfl rfl (ev_indexAddrN rfl rfl (by omega)) ?_
          refine GO_yes rfl rfl rfl (decide_eq_true (by omega)) ?_
          refine GO_q rfl rfl (ev_load rfl (by repeat' first | exact y1 _ | apply Ld.skip)) ?_
          refine GO_yes rfl rfl rfl (decide_eq_true (by omega)) ?_
          refine GO_q rfl rfl (ev_eql rfl rfl) ?_
          refine GO_q rfl rfl (ev_pick_t rfl (decide_eq_true (by omega)) rfl) ?_
          refine GO_nil ?_
          (repeat first | refine G_seq ?_ | refine G_skip ?_ | refine G_endblk ?_ | refine G_block ?_ | refine G_exit rfl ?_)
          refine G_cond_t rfl rfl ?_
          (repeat first | refine G_seq ?_ | refine G_skip ?_ | refine G_endblk ?_ | refine G_block ?_ | refine G_exit rfl ?_)
          refine G_region ?_
          refine GO_q rfl rfl (ev_move rfl) ?_
          refine GO_q rfl rfl (ev_move rfl) ?_
          refine GO_q rfl rfl (ev_len rfl) ?_
          refine GO_q rfl rfl (ev_subN (q := 1) rfl rfl (by omega)) ?_
          refine GO_q rfl rfl (ev_sliceH rfl rfl (by first | omega | (simp; done) | (simp; omega))) ?_
          refine GO_q rfl rfl (ev_assign rfl) ?_
          refine GO_nil ?_
          (repeat first | refine G_seq ?_ | refine G_skip ?_ | refine G_endblk ?_ | refine G_block ?_ | refine G_exit rfl ?_)
          exact G_round j ⟨by omega, f2⟩ (by omega) ⟨rfl, trivial⟩ (by (repeat first | exact fun _ s => s | apply en_keep | apply en_drop | apply en_app) <;> fail)
        · rw [trimZ_some _ hz, ← s1] at f2
          (repeat first | refine G_seq ?_ | refine G_skip ?_ | refine G_endblk ?_ | refine G_block ?_ | refine G_exit rfl ?_)
          refine G_region ?_
          refine GO_q rfl rfl (ev_move rfl) ?_
          refine GO_q rfl rfl (ev_len rfl) ?_
          refine GO_q rfl rfl (ev_gtr rfl rfl) ?_
          refine GO_q rfl rfl (ev_move rfl) ?_
          refine GO_yes rfl rfl rfl (decide_eq_true (by omega)) ?_
          refine GO_q rfl rfl (ev_move rfl) ?_
          refine GO_yes rfl rfl rfl (decide_eq_true (by omega)) ?_
          refine GO_q rfl rfl (ev_move rfl) ?_
          refine GO_yes rfl rfl rfl (decide_eq_true (by omega)) ?_
          refine GO_q rfl rfl (ev_len rfl) ?_
          refine GO_yes rfl rfl rfl (decide_eq_true (by omega)) ?_
          refine GO_q rfl rfl (ev_subN (q := 1) rfl rfl (by omega)) ?_
          refine GO_yes rfl rfl rfl (decide_eq_true (by omega)) ?_
          refine GO_q rfl rfl (ev_indexAddrN rfl rfl (by omega)) ?_
          refine GO_yes rfl rfl rfl (decide_eq_true (by omega)) ?_
          refine GO_q rfl rfl (ev_load rfl (by repeat' first | exact y1 _ | apply Ld.skip)) ?_
          refine GO_yes rfl rfl rfl (decide_eq_true (by omega)) ?_
          refine GO_q rfl rfl (ev_eql rfl rfl) ?_
          refine GO_q rfl rfl (ev_pick_t rfl (decide_eq_true (by omega)) rfl) ?_
          refine GO_nil ?_
          (repeat first | refine G_seq ?_ | refine G_skip ?_ | refine G_endblk ?_ | refine G_block ?_ | refine G_exit rfl ?_)
          refine G_cond_f rfl (decide_eq_false hz) ?_
          (repeat first | refine G_seq ?_ | refine G_skip ?_ | refine G_endblk ?_ | refine G_block ?_ | refine G_exit rfl ?_)
          have e2 : (trimZ q).length = j + 1 := by rw [← f2, List.length_take]; omega
          exact G_inv () ⟨by omega, by rw [e2]; exact f2.symm⟩ ⟨by rw [e2]; rfl, trivial⟩ (by (repeat first | exact fun _ s => s | apply en_keep | apply en_drop | apply en_app) <;> fail)
    · rintro _ ⟨f1, f2⟩
      have hq2 : ∀ X, Rd (own 3 1 B n d (flat q) :: X) B (trimZ q).length (trimZ q) := fun X => by
        have := (hq X).take (k := (trimZ q).length) (by omega)
        rwa [← f2] at this
      (repeat first | refine G_seq ?_ | refine G_skip ?_ | refine G_endblk ?_ | refine G_block ?_ | refine G_exit rfl ?_)
      refine G_region ?_
      refine GO_q rfl rfl (ev_move rfl) ?_
      refine GO_q rfl rfl (ev_assign rfl) ?_
      refine GO_nil ?_
      (repeat first | refine G_seq ?_ | refine G_skip ?_ | refine G_endblk ?_ | refine G_block ?_ | refine G_exit rfl ?_)
      exact G_ret (L' := own 3 1 B n d (flat q) :: L) rfl (.tmp rfl .nil) (by (repeat first | exact en_refl | (apply en_blk; focus ((repeat' first | exact Pick.here | apply Pick.skip | apply Pick.app); done); focus rfl) | (apply en_own; focus ((repeat' first | exact Pick.here | apply Pick.skip | apply Pick.app); done); focus rfl) | (apply en_pick; focus ((repeat' first | exact Pick.here | apply Pick.skip | apply Pick.app); done)) | apply en_drop | apply en_app) <;> fail) ⟨_, B, d, rfl, by omega, f4, hq2, rfl⟩
end
end Go.Proofs.YtkoncepjfgnjlaaGreat
/- Slices over iterators: Values, AppendSeq, Collect, Sorted of numbers. -/
namespace Go.Proofs.YtkoncepjfgnjlaaGreat
open Go.RowKit
set_option linter.unusedVariables false
set_option linter.unusedSimpArgs false
set_option maxRecDepth 100000

end Go.Proofs.YtkoncepjfgnjlaaGreat
/- Points in several trees: all dead points, over an iterator. -/
namespace Go.Proofs.YtkoncepjfgnjlaaGreat
attribute [local irreducible] sat
open Go.RowKit
set_option linter.unusedVariables false
set_option linter.unusedSimpArgs false
set_option maxRecDepth 100000

theorem dds_mid (A C : List (Pt × Bool)) (u : Pt × Bool) : ((if u.2 then [u.1] else []) ++ dds (A ++ C)).Perm (dds (A ++ u :: C)) := by
  obtain ⟨p, d⟩ := u
  rw [dds_app, dds_app, dds_cons, ← List.append_assoc, ← List.append_assoc]
  exact (List.perm_append_comm).append_right _
theorem chk1_ctr {Z : Type} (l b1 s0 b n c : Nat) (A : Option Addr) (gone most built : Int) (M : List (Pt × Bool)) (L : List Pt → Z → List HP) (Inv : List Pt → Z → Prop)
    (h1 : ∀ o z, Ld (L o z) ⟨b1, 0, none⟩ (.pointer (some ⟨s0, 0, none⟩))) (h2 : ∀ o z, LdN (L o z) s0 0 5 (lsC A n c b gone most built))
    (hy : ∀ o z p, o.length < M.length → Inv o z → Yld Tryz.prog l [p.v] (L o z) fun q L' => q = true ∧ ∃ z', Inv (o ++ [p]) z' ∧ L' = L (o ++ [p]) z') (z0 : Z) (h0 : Inv [] z0) :
    Ctr Tryz.prog 41 #[Value.func (.yield l) #[] #[], .pointer (some ⟨b1, 0, none⟩)] (mpH b M :: L [] z0) fun v L' => v = .tuple #[] ∧ ∃ o z', o.Perm (dds M) ∧ Inv o z' ∧ L' = mpH b M :: L o z' := by
  have h3 : ∀ o z, Ld (L o z) ⟨s0, 0 + 1, none⟩ (.map (some b)) := fun o z => (h2 o z).at_ (i := 1) rfl
  refine Ctr_of (fn := Tryz.f41) (n := 22) Tryz.func41 rfl rfl rfl ?_
  intro g F
  (repeat first | refine G_seq ?_ | refine G_skip ?_ | refine G_endblk ?_ | refine G_block ?_ | refine G_exit rfl ?_)
  refine G_region ?_
  refine GO_q rfl rfl (ev_load rfl (by repeat' first | exact h1 _ _ | apply Ld.skip)) ?_
  (first | refine GO_q rfl rfl (ev_nilCheck rfl) ?_ | refine GO_q rfl rfl (ev_nilCheckF (by simp) rfl) ?_)
  refine GO_q rfl rfl (ev_fieldAddr rfl) ?_
  refine GO_q rfl rfl (ev_load rfl (by repeat' first | exact h3 _ _ | apply Ld.skip)) ?_
  refine GO_eff rfl rfl (eff_range rfl (by repeat' first | exact Pick.here | apply Pick.skip)) ?_; rintro _ _ ⟨b9, rfl, rfl⟩
  refine GO_nil ?_
  (repeat first | refine G_seq ?_ | refine G_skip ?_ | refine G_endblk ?_ | refine G_block ?_ | refine G_exit rfl ?_)
  refine G_loop (ι := List (Pt × Bool) × Option (Pt × Bool) × List Pt × Z) (fun y => [(0, Value.func (.yield l) #[] #[]), (9, .pointer (some ⟨b9, 0, none⟩))]) (fun y => rgH b9 b M y.1 y.2.1 :: F :: L y.2.2.1 y.2.2.2)
    (fun y => (y.2.2.1 ++ dds y.1).Perm (dds M) ∧ y.2.2.1.length + y.1.length ≤ M.length ∧ Inv y.2.2.1 y.2.2.2) (fun y => y.1.length) (M, none, [], z0) ⟨.refl _, by simp, h0⟩ ⟨rfl, rfl, trivial⟩ (by (repeat first | exact en_refl | (apply en_blk; focus ((repeat' first | exact Pick.here | apply Pick.skip | apply Pick.app); done); focus rfl) | (apply en_own; focus ((repeat' first | exact Pick.here | apply Pick.skip | apply Pick.app); done); focus rfl) | (apply en_pick; focus ((repeat' first | exact Pick.here | apply Pick.skip | apply Pick.app); done)) | apply en_drop | apply en_app) <;> fail) ?_
  rintro ⟨R, q, o, z⟩ ⟨f1, f2, f3⟩
  simp only at f1 f2 f3
  dsimp only
  cases R with
  | nil =>
    (repeat first | refine G_seq ?_ | refine G_skip ?_ | refine G_endblk ?_ | refine G_block ?_ | refine G_exit rfl ?_)
    refine G_region ?_
    refine GO_eff rfl rfl (eff_nextN rfl (by repeat' first | exact Pick.here | apply Pick.skip | apply Pick.app)) ?_; rintro _ _ ⟨rfl, rfl⟩
    refine GO_q rfl rfl (ev_extract rfl rfl) ?_
    refine GO_nil ?_
    (repeat first | refine G_seq ?_ | refine G_skip ?_ | refine G_endblk ?_ | refine G_block ?_ | refine G_exit rfl ?_)
    refine G_cond_f rfl rfl ?_
    (repeat first | refine G_seq ?_ | refine G_skip ?_ | refine G_endblk ?_ | refine G_block ?_ | refine G_exit rfl ?_)
    exact G_end (rs := []) (vs := []) (L' := mpH b M :: L o z) rfl .nil (by (repeat first | exact en_refl | apply en_rg | (apply en_blk; focus ((repeat' first | exact Pick.here | apply Pick.skip | apply Pick.app); done); focus rfl) | (apply en_own; focus ((repeat' first | exact Pick.here | apply Pick.skip | apply Pick.app); done); focus rfl) | (apply en_pick; focus ((repeat' first | exact Pick.here | apply Pick.skip | apply Pick.app); done)) | apply en_drop | apply en_app) <;> fail) ⟨rfl, o, z, by simpa [dds] using f1, f3, rfl⟩
  | cons u0 R =>
    (repeat first | refine G_seq ?_ | refine G_skip ?_ | refine G_endblk ?_ | refine G_block ?_ | refine G_exit rfl ?_)
    refine G_region ?_
    refine GO_eff rfl rfl (eff_nextC rfl (by repeat' first | exact Pick.here | apply Pick.skip | apply Pick.app)) ?_; rintro _ _ ⟨R1, u, R2, eR, rfl, rfl⟩
    refine GO_q rfl rfl (ev_extract rfl rfl) ?_
    refine GO_nil ?_
    (repeat first | refine G_seq ?_ | refine G_skip ?_ | refine G_endblk ?_ | refine G_block ?_ | refine G_exit rfl ?_)
    refine G_cond_t rfl rfl ?_
    have hl : R.length + 1 = R1.length + (R2.length + 1) := by
      have := congrArg List.length eR
      simpa using this
    have hpm := dds_mid R1 R2 u
    rw [← eR] at hpm
    obtain ⟨up, ud⟩ := u
    simp only [List.length_cons] at f2
    (repeat first | refine G_seq ?_ | refine G_skip ?_ | refine G_endblk ?_ | refine G_block ?_ | refine G_exit rfl ?_)
    refine G_region ?_
    refine GO_q rfl rfl (ev_entry rfl (by repeat' first | exact Rg.here | apply Rg.skip)) ?_
    refine GO_q rfl rfl (ev_extract rfl rfl) ?_
    refine GO_q rfl rfl (ev_extract rfl rfl) ?_
    refine GO_eff rfl rfl eff_alloc ?_; rintro _ _ ⟨b3, rfl, rfl⟩
    refine GO_eff rfl rfl (eff_storeN rfl rfl rfl rfl (by repeat' first | exact Upd.here rfl | apply Upd.skip | apply Upd.app)) ?_; rintro _ _ ⟨rfl, rfl⟩
    refine GO_q rfl rfl (ev_assign rfl) ?_
    refine GO_nil ?_
    cases ud with
    | false =>
      (repeat first | refine G_seq ?_ | refine G_skip ?_ | refine G_endblk ?_ | refine G_block ?_ | refine G_exit rfl ?_)
      refine G_region ?_
      refine GO_q rfl rfl (ev_move rfl) ?_
      refine GO_q rfl rfl (ev_move rfl) ?_
      refine GO_no rfl rfl rfl rfl ?_
      refine GO_no rfl rfl rfl rfl ?_
      refine GO_no rfl rfl rfl rfl ?_
      refine GO_no rfl rfl rfl rfl ?_
      refine GO_q rfl rfl (ev_pick_f rfl rfl rfl) ?_
      refine GO_nil ?_
      (repeat first | refine G_seq ?_ | refine G_skip ?_ | refine G_endblk ?_ | refine G_block ?_ | refine G_exit rfl ?_)
      refine G_cond_f rfl rfl ?_
      (repeat first | refine G_seq ?_ | refine G_skip ?_ | refine G_endblk ?_ | refine G_block ?_ | refine G_exit rfl ?_)
      exact G_round (R1 ++ R2, some (up, false), o, z) ⟨(hpm.append_left o).trans f1, by simp; omega, f3⟩ (by simp; omega) ⟨rfl, rfl, trivial⟩ (by (repeat first | exact en_refl | (apply en_blk; focus ((repeat' first | exact Pick.here | apply Pick.skip | apply Pick.app); done); focus rfl) | (apply en_own; focus ((repeat' first | exact Pick.here | apply Pick.skip | apply Pick.app); done); focus rfl) | (apply en_pick; focus ((repeat' first | exact Pick.here | apply Pick.skip | apply Pick.app); done)) | apply en_drop | apply en_app) <;> fail)
    | true =>
      have hyk := hy o z up (by omega) f3
      (repeat first | refine G_seq ?_ | refine G_skip ?_ | refine G_endblk ?_ | refine G_block ?_ | refine G_exit rfl ?_)
      refine G_region ?_
      refine GO_q rfl rfl (ev_move rfl) ?_
      refine GO_q rfl rfl (ev_move rfl) ?_
      refine GO_yes rfl rfl rfl rfl ?_
      refine GO_q rfl rfl (ev_move rfl) ?_
      refine GO_yes rfl rfl rfl rfl ?_
      refine GO_q rfl rfl (ev_loadN rfl (by repeat' first | exact LdN.blk rfl | assumption | apply LdN.skip | apply LdN.app)) ?_
      refine GO_yes rfl rfl rfl rfl ?_
      refine GO_yield rfl rfl rfl (Yld.frame [_, _, F] hyk (by (repeat first | exact en_refl | (apply en_blk; focus ((repeat' first | exact Pick.here | apply Pick.skip | apply Pick.app); done); focus rfl) | (apply en_own; focus ((repeat' first | exact Pick.here | apply Pick.skip | apply Pick.app); done); focus rfl) | (apply en_pick; focus ((repeat' first | exact Pick.here | apply Pick.skip | apply Pick.app); done)) | apply en_drop | apply en_app) <;> fail)) ?_
      rintro q2 L' ⟨L1, ⟨rfl, z', hz', rfl⟩, rfl⟩
      refine GO_yes rfl rfl rfl rfl ?_
      refine GO_q rfl rfl (ev_not rfl) ?_
      refine GO_q rfl rfl (ev_pick_t rfl rfl rfl) ?_
      refine GO_nil ?_
      (repeat first | refine G_seq ?_ | refine G_skip ?_ | refine G_endblk ?_ | refine G_block ?_ | refine G_exit rfl ?_)
      refine G_cond_f rfl rfl ?_
      (repeat first | refine G_seq ?_ | refine G_skip ?_ | refine G_endblk ?_ | refine G_block ?_ | refine G_exit rfl ?_)
      refine G_round (R1 ++ R2, some (up, true), o ++ [up], z') ⟨?_, by simp; omega, hz'⟩ (by simp; omega) ⟨rfl, rfl, trivial⟩ (by (repeat first | exact en_refl | (apply en_blk; focus ((repeat' first | exact Pick.here | apply Pick.skip | apply Pick.app); done); focus rfl) | (apply en_own; focus ((repeat' first | exact Pick.here | apply Pick.skip | apply Pick.app); done); focus rfl) | (apply en_pick; focus ((repeat' first | exact Pick.here | apply Pick.skip | apply Pick.app); done)) | apply en_drop | apply en_app) <;> fail)
      show ((o ++ [up]) ++ dds (R1 ++ R2)).Perm (dds M)
      rw [List.append_assoc]
      exact (hpm.append_left o).trans f1
theorem appDead_ctr (b1 s0 b n c : Nat) (A : Option Addr) (gone most built : Int) (M : List (Pt × Bool)) (L : List HP) (h1 : Ld L ⟨b1, 0, none⟩ (.pointer (some ⟨s0, 0, none⟩))) (h2 : LdN L s0 0 5 (lsC A n c b gone most built)) (hM : M.length ≤ 100000) :
    Ctr Tryz.prog 70 #[.slice none 0 0, .func (.func 41) #[] #[.pointer (some ⟨b1, 0, none⟩)]] (mpH b M :: L) fun v L' => ∃ (o : List Pt) (B : Option Addr) (e : Nat), v = .slice B o.length e ∧ o.Perm (dds M) ∧ L' = own 28 3 B o.length e (flat o) :: mpH b M :: L := by
  refine Ctr_ofM (fn := Tryz.f70) (n := 13) Tryz.func70 rfl rfl rfl ?_
  intro g F hgb
  (repeat first | refine G_seq ?_ | refine G_skip ?_ | refine G_endblk ?_ | refine G_block ?_ | refine G_exit rfl ?_)
  refine G_region ?_
  refine GO_eff rfl rfl (eff_box rfl) ?_; rintro _ _ ⟨b2, rfl, rfl⟩
  refine GO_q rfl rfl (ev_assign rfl) ?_
  refine GO_nil ?_
  (repeat first | refine G_seq ?_ | refine G_skip ?_ | refine G_endblk ?_ | refine G_block ?_ | refine G_exit rfl ?_)
  refine G_region ?_
  refine GO_q rfl rfl (ev_move rfl) ?_
  refine GO_nil ?_
  (repeat first | refine G_seq ?_ | refine G_skip ?_ | refine G_endblk ?_ | refine G_block ?_ | refine G_exit rfl ?_)
  refine G_heap (own.nil_ 28 3) ?_
  refine G_range1 (f := 41) (c1 := []) (c2 := [.pointer (some ⟨b1, 0, none⟩)]) (post := fun p L1 => p = none ∧ ∃ (o : List Pt) (z : Option Addr × Nat), o.Perm (dds M) ∧ L1 = own 28 3 z.1 o.length z.2 (flat o) :: blk b2 38 [.slice z.1 o.length z.2] :: F :: mpH b M :: L) (by rw [← hgb]; rfl) rfl rfl ?_ ?_ ?_
  · intro l d R hR
    have hv := chk1_ctr (Z := Option Addr × Nat) l b1 s0 b n c A gone most built M
      (fun o z => obj l (R .ready none) :: obj d (.deferred (some [])) :: own 28 3 z.1 o.length z.2 (flat o) :: blk b2 38 [.slice z.1 o.length z.2] :: F :: L)
      (fun o z => (0 < o.length → ∃ b, z.1 = some ⟨b, 0, none⟩) ∧ o.length ≤ z.2 ∧ z.2 ≤ maxLen)
      (fun o z => h1.skip.skip.skip.skip.skip) (fun o z => h2.skip.skip.skip.skip.skip) ?_ (none, 0) ⟨fun h => absurd h (Nat.lt_irrefl 0), Nat.le_refl _, Nat.zero_le _⟩
    · refine (Ctr.pre (by (repeat first | exact en_refl | (apply en_blk; focus ((repeat' first | exact Pick.here | apply Pick.skip | apply Pick.app); done); focus rfl) | (apply en_own; focus ((repeat' first | exact Pick.here | apply Pick.skip | apply Pick.app); done); focus rfl) | (apply en_pick; focus ((repeat' first | exact Pick.here | apply Pick.skip | apply Pick.app); done)) | apply en_drop | apply en_app) <;> fail) hv).post' ?_
      rintro v L' hm ⟨rfl, o, z, ho, hz, rfl⟩ hsat
      refine ⟨_, ⟨.ready, none, _, (by decide), ⟨rfl, o, z, ho, rfl⟩, rfl⟩, ?_⟩
      revert hm
      exact (by (repeat first | exact en_refl | (apply en_blk; focus ((repeat' first | exact Pick.here | apply Pick.skip | apply Pick.app); done); focus rfl) | (apply en_own; focus ((repeat' first | exact Pick.here | apply Pick.skip | apply Pick.app); done); focus rfl) | (apply en_pick; focus ((repeat' first | exact Pick.here | apply Pick.skip | apply Pick.app); done)) | apply en_drop | apply en_app) <;> fail)
    · intro o z p hk ⟨i1, i2, i3⟩
      refine hR (ι := Nat) (τ := fun b5 => [(2, .pointer (some ⟨b2, 0, none⟩)), (5, .pointer (some ⟨b5, 0, none⟩))]) (M := fun b5 => blk b5 28 [.int .i64 p.id, .int .i64 p.x, .int .i64 p.y] :: obj d (.deferred (some [])) :: own 28 3 z.1 o.length z.2 (flat o) :: blk b2 38 [.slice z.1 o.length z.2] :: F :: L) (Fy := fun _ => True) ?_ ?_
      · intro g F' _ _
        (repeat first | refine G_seq ?_ | refine G_skip ?_ | refine G_endblk ?_ | refine G_block ?_ | refine G_exit rfl ?_)
        refine G_region ?_
        refine GO_eff rfl rfl eff_alloc ?_; rintro _ _ ⟨b5, rfl, rfl⟩
        refine GO_eff rfl rfl (eff_storeN rfl rfl rfl rfl (by repeat' first | exact Upd.here rfl | apply Upd.skip | apply Upd.app)) ?_; rintro _ _ ⟨rfl, rfl⟩
        refine GO_nil ?_
        exact G_rndStart b5 trivial ⟨rfl, rfl, trivial⟩ (by (repeat first | exact en_refl | (apply en_blk; focus ((repeat' first | exact Pick.here | apply Pick.skip | apply Pick.app); done); focus rfl) | (apply en_own; focus ((repeat' first | exact Pick.here | apply Pick.skip | apply Pick.app); done); focus rfl) | (apply en_pick; focus ((repeat' first | exact Pick.here | apply Pick.skip | apply Pick.app); done)) | apply en_drop | apply en_app) <;> fail)
      · intro g F' b5 _ _ _
        (repeat first | refine G_seq ?_ | refine G_skip ?_ | refine G_endblk ?_ | refine G_block ?_ | refine G_exit rfl ?_)
        (repeat first | refine G_seq ?_ | refine G_skip ?_ | refine G_endblk ?_ | refine G_block ?_ | refine G_exit rfl ?_)
        refine G_region ?_
        refine GO_q rfl rfl (ev_load rfl (by repeat' first | exact Ld.blk rfl | assumption | apply Ld.skip | apply Ld.app)) ?_
        refine GO_q rfl rfl (ev_loadN rfl (by repeat' first | exact LdN.blk rfl | assumption | apply LdN.skip | apply LdN.app)) ?_
        refine GO_eff rfl rfl (eff_buildSlice1 (by rfl) rfl rfl) ?_; rintro _ _ ⟨b10, rfl, rfl⟩
        refine GO_eff rfl rfl (eff_append rfl rfl (by repeat' first | exact Pick.here | apply Pick.skip) (by repeat' first | exact Rc.blk rfl | assumption | apply Rc.skip) (one_all rfl) (by rfl) (by decide) (by first | omega | (simp; done) | (simp; omega)) (by first | omega | (simp; done) | (simp; omega))) ?_; rintro _ _ ⟨A11, c11, rfl, hc11, hm11, hn11, rfl⟩
        refine GO_eff rfl rfl (eff_store rfl rfl rfl (by repeat' first | exact Upd.here rfl | apply Upd.skip | apply Upd.app)) ?_; rintro _ _ ⟨rfl, rfl⟩
        refine GO_nil ?_
        (repeat first | refine G_seq ?_ | refine G_skip ?_ | refine G_endblk ?_ | refine G_block ?_ | refine G_exit rfl ?_)
        have e3 : flat (o ++ [p]) = flat o ++ [.int .i64 p.id, .int .i64 p.x, .int .i64 p.y] := by rw [← flat_snoc]; rfl
        exact G_rndEnd (obj d (.deferred (some [])) :: own 28 3 A11 (o ++ [p]).length c11 (flat (o ++ [p])) :: blk b2 38 [.slice A11 (o ++ [p]).length c11] :: F :: L) ⟨rfl, (A11, c11), ⟨by simpa using hn11, by simpa using hc11, hm11⟩, rfl⟩ (by
          rw [e3]
          simp only [List.length_append, List.length_singleton]
          exact (by (repeat first | exact en_refl | (apply en_blk; focus ((repeat' first | exact Pick.here | apply Pick.skip | apply Pick.app); done); focus rfl) | (apply en_own; focus ((repeat' first | exact Pick.here | apply Pick.skip | apply Pick.app); done); focus rfl) | (apply en_pick; focus ((repeat' first | exact Pick.here | apply Pick.skip | apply Pick.app); done)) | apply en_drop | apply en_app) <;> fail))
  · rintro d L1 ⟨-, o, ⟨B, e⟩, ho, rfl⟩
    dsimp only
    (repeat first | refine G_seq ?_ | refine G_skip ?_ | refine G_endblk ?_ | refine G_block ?_ | refine G_exit rfl ?_)
    refine G_region ?_
    refine GO_q rfl rfl (ev_load rfl (by repeat' first | exact Ld.blk rfl | assumption | apply Ld.skip | apply Ld.app)) ?_
    refine GO_q rfl rfl (ev_assign rfl) ?_
    refine GO_nil ?_
    (repeat first | refine G_seq ?_ | refine G_skip ?_ | refine G_endblk ?_ | refine G_block ?_ | refine G_exit rfl ?_)
    exact G_retM [d] rfl (by rw [← hgb]; rfl) rfl (.tmp rfl .nil) (M := own 28 3 B o.length e (flat o) :: blk b2 38 [.slice B o.length e] :: F :: mpH b M :: L) (L' := own 28 3 B o.length e (flat o) :: mpH b M :: L) (by (repeat first | exact en_refl | (apply en_blk; focus ((repeat' first | exact Pick.here | apply Pick.skip | apply Pick.app); done); focus rfl) | (apply en_own; focus ((repeat' first | exact Pick.here | apply Pick.skip | apply Pick.app); done); focus rfl) | (apply en_pick; focus ((repeat' first | exact Pick.here | apply Pick.skip | apply Pick.app); done)) | apply en_drop | apply en_app) <;> fail) (by (repeat first | exact en_refl | (apply en_blk; focus ((repeat' first | exact Pick.here | apply Pick.skip | apply Pick.app); done); focus rfl) | (apply en_own; focus ((repeat' first | exact Pick.here | apply Pick.skip | apply Pick.app); done); focus rfl) | (apply en_pick; focus ((repeat' first | exact Pick.here | apply Pick.skip | apply Pick.app); done)) | apply en_drop | apply en_app) <;> fail) ⟨o, B, e, rfl, ho, rfl⟩
  · rintro d e L1 ⟨h, _⟩
    cases h
theorem colDead_ctr (b1 s0 b n c : Nat) (A : Option Addr) (gone most built : Int) (M : List (Pt × Bool)) (L : List HP) (h1 : Ld L ⟨b1, 0, none⟩ (.pointer (some ⟨s0, 0, none⟩))) (h2 : LdN L s0 0 5 (lsC A n c b gone most built)) (hM : M.length ≤ 100000) :
    Ctr Tryz.prog 40 #[.func (.func 41) #[] #[.pointer (some ⟨b1, 0, none⟩)]] (mpH b M :: L) fun v L' => ∃ (o : List Pt) (B : Option Addr) (e : Nat), v = .slice B o.length e ∧ o.Perm (dds M) ∧ L' = own 28 3 B o.length e (flat o) :: mpH b M :: L := by
  refine Ctr_of (fn := Tryz.f40) (n := 5) Tryz.func40 rfl rfl rfl ?_
  intro g F
  (repeat first | refine G_seq ?_ | refine G_skip ?_ | refine G_endblk ?_ | refine G_block ?_ | refine G_exit rfl ?_)
  refine G_region ?_
  refine GO_q rfl rfl (ev_assign rfl) ?_
  refine GO_nil ?_
  (repeat first | refine G_seq ?_ | refine G_skip ?_ | refine G_endblk ?_ | refine G_block ?_ | refine G_exit rfl ?_)
  refine G_region ?_
  refine GO_q rfl rfl (ev_move rfl) ?_
  refine GO_eff rfl rfl (eff_call rfl (Ctr.pick (by repeat' first | exact Pick.here | apply Pick.skip | apply Pick.app) (appDead_ctr b1 s0 b n c A gone most built M _ h1.skip h2.skip hM))) ?_; rintro _ _ ⟨o, B, e, rfl, ho, rfl⟩
  refine GO_q rfl rfl (ev_assign rfl) ?_
  refine GO_nil ?_
  (repeat first | refine G_seq ?_ | refine G_skip ?_ | refine G_endblk ?_ | refine G_block ?_ | refine G_exit rfl ?_)
  exact G_ret (L' := own 28 3 B o.length e (flat o) :: mpH b M :: L) rfl (.tmp rfl .nil) (by (repeat first | exact en_refl | (apply en_blk; focus ((repeat' first | exact Pick.here | apply Pick.skip | apply Pick.app); done); focus rfl) | (apply en_own; focus ((repeat' first | exact Pick.here | apply Pick.skip | apply Pick.app); done); focus rfl) | (apply en_pick; focus ((repeat' first | exact Pick.here | apply Pick.skip | apply Pick.app); done)) | apply en_drop | apply en_app) <;> fail) ⟨o, B, e, rfl, ho, rfl⟩
theorem oPoints_ctr (o : Option RTr) (L : List HP) (h : oat L o) (hn : (opts o).length ≤ 1000000) : Ctr Tryz.prog 39 #[.pointer (oaddr o)] L fun v L' => Made 28 (opts o) L v L' := by
  cases o with
  | some x => exact tPoints_ctr (h x rfl) hn
  | none =>
    refine Ctr_of (fn := Tryz.f39) (n := 6) Tryz.func39 rfl rfl rfl ?_
    intro g F
    (repeat first | refine G_seq ?_ | refine G_skip ?_ | refine G_endblk ?_ | refine G_block ?_ | refine G_exit rfl ?_)
    refine G_region ?_
    refine GO_q rfl rfl (ev_assign rfl) ?_
    refine GO_nil ?_
    (repeat first | refine G_seq ?_ | refine G_skip ?_ | refine G_endblk ?_ | refine G_block ?_ | refine G_exit rfl ?_)
    refine G_region ?_
    refine GO_q rfl rfl (ev_move rfl) ?_
    refine GO_eff rfl rfl (eff_call rfl (zpoints_ctr _)) ?_; rintro _ _ ⟨rfl, rfl⟩
    refine GO_eff rfl rfl (eff_call rfl (Clone_ctr none 0 0 ([] : List Pt) _ (Rd.nil (α := Pt) _ _) (by omega))) ?_; rintro _ _ ⟨B, e, rfl, hB, rfl⟩
    refine GO_q rfl rfl (ev_assign rfl) ?_
    refine GO_nil ?_
    (repeat first | refine G_seq ?_ | refine G_skip ?_ | refine G_endblk ?_ | refine G_block ?_ | refine G_exit rfl ?_)
    exact G_ret (L' := own 28 3 B ([] : List Pt).length e (flat ([] : List Pt)) :: L) rfl (.tmp rfl .nil) (by (repeat first | exact en_refl | (apply en_blk; focus ((repeat' first | exact Pick.here | apply Pick.skip | apply Pick.app); done); focus rfl) | (apply en_own; focus ((repeat' first | exact Pick.here | apply Pick.skip | apply Pick.app); done); focus rfl) | (apply en_pick; focus ((repeat' first | exact Pick.here | apply Pick.skip | apply Pick.app); done)) | apply en_drop | apply en_app) <;> fail) ⟨B, e, rfl, hB, rfl⟩
section
variable {P : Program} {L : List HP} {σ : Env} {d : Option Nat} {ty T T' : TypeId} {pos : String} {aft : Array Edge} {gd : Option (Nat × Bool)} {x y : Operand}
theorem ev_shlN {yk : IntKind} {p q : Nat} (hx : ev σ x = some (.int .i64 (p : Int))) (hy : ev σ y = some (.int yk (q : Int))) (hq : q ≤ 64) (hb : p * 2 ^ q ≤ 9223372036854775807) : Ev P L σ ⟨d, .binOp .shl T x y T', ty, pos, aft, gd⟩ (.int .i64 ((p * 2 ^ q : Nat) : Int)) :=
  bin_run' .shl _ _ _ (fun w => rfl) hx hy fun w => by
    have e : ((p : Int) * 2 ^ (Int.toNat (q : Int))) = ((p * 2 ^ q : Nat) : Int) := by simp
    rw [binOp_shl, shift_shl .i64 yk (p : Int) (q : Int) (by omega) (by show (q : Int) ≤ 64; omega), e, IntWalk.i64_in _ (by omega)]
    rfl
end
end Go.Proofs.YtkoncepjfgnjlaaGreat
/- The reference's order of points. -/
namespace Go.Proofs.YtkoncepjfgnjlaaGreat
attribute [local irreducible] sat
set_option linter.unusedVariables false
set_option linter.unusedSimpArgs false
set_option maxRecDepth 100000

def three (a b c d e f : Int) : Int := if a < d then -1 else if d < a then 1 else if b < e then -1 else if e < b then 1 else if c < f then -1 else if f < c then 1 else 0
theorem three_up (p q : Pt) : three p.y p.x p.id q.y q.x q.id = up p q := by
  obtain ⟨pi, px, py⟩ := p
  obtain ⟨qi, qx, qy⟩ := q
  simp only [three, up, Pt.cmp, Pt.turned, Pt.less]
  by_cases h1 : py = qy
  · by_cases h2 : px = qx
    · by_cases h3 : pi = qi
      · simp [h1, h2, h3]
      · subst h1 h2
        by_cases h4 : pi < qi
        · simp [h3, h4]
        · have h5 : qi < pi := by omega
          simp [h3, h4, h5]
    · subst h1
      by_cases h4 : px < qx
      · simp [h2, h4]
      · have h5 : qx < px := by omega
        simp [h2, h4, h5]
  · by_cases h4 : py < qy
    · simp [h1, h4]
    · have h5 : qy < py := by omega
      simp [h1, h4, h5]
end Go.Proofs.YtkoncepjfgnjlaaGreat
/- The reference's points in order. -/
namespace Go.Proofs.YtkoncepjfgnjlaaGreat
set_option linter.unusedVariables false
set_option linter.unusedSimpArgs false
set_option maxRecDepth 100000

/-- A point put in, behind those that do not come behind it. -/
def leU (x y : Pt) : Bool := decide (up y x ≤ 0)
def insP (x : Pt) (l : List Pt) : List Pt := l.takeWhile (leU x) ++ x :: l.dropWhile (leU x)
def sortP (l : List Pt) : List Pt := l.foldl (fun o x => insP x o) []
end Go.Proofs.YtkoncepjfgnjlaaGreat
/- Points in order. -/
namespace Go.Proofs.YtkoncepjfgnjlaaGreat
set_option linter.unusedVariables false
set_option linter.unusedSimpArgs false
def leP (p q : Pt) : Prop := p.y < q.y ∨ (p.y = q.y ∧ (p.x < q.x ∨ (p.x = q.x ∧ p.id ≤ q.id)))
theorem up_leP (p q : Pt) : up p q ≤ 0 ↔ leP p q := by
  rw [← three_up]
  unfold three leP
  by_cases h1 : p.y < q.y
  · simp [h1]
  · by_cases h2 : q.y < p.y
    · simp [h1, h2] <;> omega
    · by_cases h3 : p.x < q.x
      · simp [h1, h2, h3] <;> omega
      · by_cases h4 : q.x < p.x
        · simp [h1, h2, h3, h4] <;> omega
        · by_cases h5 : p.id < q.id
          · simp [h1, h2, h3, h4, h5] <;> omega
          · by_cases h6 : q.id < p.id
            · simp [h1, h2, h3, h4, h5, h6] <;> omega
            · simp [h1, h2, h3, h4, h5, h6] <;> omega
theorem leP_trans {p q r : Pt} (h1 : leP p q) (h2 : leP q r) : leP p r := by unfold leP at *; omega
theorem leP_anti {p q : Pt} (h1 : leP p q) (h2 : leP q p) : p = q := by
  obtain ⟨a, b, c⟩ := p
  obtain ⟨d, e, f⟩ := q
  unfold leP at *
  simp only at *
  simp only [Pt.mk.injEq]
  omega
theorem leP_total (p q : Pt) : leP p q ∨ leP q p := by unfold leP; omega
theorem mrg_perm : ∀ (i k : Int) (l m : List Pt), ((mrg i k l m).map (·.p)).Perm (l ++ m)
  | _, _, [], [] => by simp [mrg]
  | i, k, a :: l, [] => by rw [mrg, List.map_cons]; exact (mrg_perm _ _ _ _).cons a
  | i, k, [], b :: m => by rw [mrg, List.map_cons]; exact (mrg_perm _ _ _ _).cons b
  | i, k, a :: l, b :: m => by
    rw [mrg]
    split
    · rw [List.map_cons]; exact (mrg_perm _ _ _ _).cons a
    · rw [List.map_cons]
      exact ((mrg_perm i (k + 1) (a :: l) m).cons b).trans List.perm_middle.symm
  termination_by _ _ l m => l.length + m.length
theorem mrg_sorted : ∀ (i k : Int) (l m : List Pt), l.Pairwise leP → m.Pairwise leP → ((mrg i k l m).map (·.p)).Pairwise leP
  | _, _, [], [], _, _ => by simp [mrg]
  | i, k, a :: l, [], h1, h2 => by
    rw [List.pairwise_cons] at h1
    rw [mrg, List.map_cons, List.pairwise_cons]
    refine ⟨fun b hb => ?_, mrg_sorted _ _ _ _ h1.2 h2⟩
    have := (mrg_perm _ _ _ _).subset hb
    exact h1.1 _ (by simpa using this)
  | i, k, [], b :: m, h1, h2 => by
    rw [List.pairwise_cons] at h2
    rw [mrg, List.map_cons, List.pairwise_cons]
    refine ⟨fun c hc => ?_, mrg_sorted _ _ _ _ h1 h2.2⟩
    have := (mrg_perm _ _ _ _).subset hc
    exact h2.1 _ (by simpa using this)
  | i, k, a :: l, b :: m, h1, h2 => by
    have h1' := List.pairwise_cons.1 h1
    have h2' := List.pairwise_cons.1 h2
    rw [mrg]
    split
    · rename_i hu
      have hu' := (up_leP _ _).1 hu
      rw [List.map_cons, List.pairwise_cons]
      refine ⟨fun c hc => ?_, mrg_sorted _ _ _ _ h1'.2 h2⟩
      rcases List.mem_append.1 ((mrg_perm _ _ _ _).subset hc) with h | h
      · exact h1'.1 _ h
      · rcases List.mem_cons.1 h with h | h
        · rw [h]; exact hu'
        · exact leP_trans hu' (h2'.1 _ h)
    · rename_i hu
      have hu' : leP b a := (leP_total b a).resolve_right fun h9 => hu ((up_leP _ _).2 h9)
      rw [List.map_cons, List.pairwise_cons]
      refine ⟨fun c hc => ?_, mrg_sorted _ _ _ _ h1 h2'.2⟩
      rcases List.mem_append.1 ((mrg_perm _ _ _ _).subset hc) with h | h
      · rcases List.mem_cons.1 h with h | h
        · rw [h]; exact hu'
        · exact leP_trans hu' (h1'.1 _ h)
      · exact h2'.1 _ h
  termination_by _ _ l m => l.length + m.length
end Go.Proofs.YtkoncepjfgnjlaaGreat
/- Two arrays together: what stands at each place (the plain part). -/
namespace Go.Proofs.YtkoncepjfgnjlaaGreat
set_option linter.unusedVariables false
set_option linter.unusedSimpArgs false

theorem leP_refl (p : Pt) : leP p p := .inr ⟨rfl, .inr ⟨rfl, Int.le_refl _⟩⟩
/-- What an entry says. -/
def MA (i k : Int) (l m : List Pt) (j : Nat) (e : Ent) : Prop := ∃ u l' v m', l = u ++ l' ∧ m = v ++ m' ∧ u.length + v.length = j ∧ e.low = i + u.length ∧ e.high = k + v.length ∧ (∀ x ∈ u, leP x e.p) ∧ (∀ x ∈ v, leP x e.p) ∧ (∀ x ∈ l', leP e.p x) ∧ ∀ x ∈ m', leP e.p x
theorem mrg_inE {i k : Int} {l m : List Pt} {j : Nat} {e : Ent} (h : (mrg i k l m)[j]? = some e) : e.p ∈ l ++ m :=
  (mrg_perm i k l m).subset (List.mem_map.2 ⟨e, List.mem_of_getElem? h, rfl⟩)
theorem MA.left {i k : Int} {a : Pt} {l m : List Pt} (hl : ∀ x ∈ l, leP a x) (hm : ∀ x ∈ m, leP a x) (ih : ∀ j e, (mrg (i + 1) k l m)[j]? = some e → MA (i + 1) k l m j e) :
    ∀ j e, ((⟨a, i, k⟩ : Ent) :: mrg (i + 1) k l m)[j]? = some e → MA i k (a :: l) m j e
  | 0, e, h => by
    simp at h; subst h
    exact ⟨[], a :: l, [], m, rfl, rfl, rfl, by simp, by simp, by simp, by simp, fun x hx => (List.mem_cons.1 hx).elim (fun h => h ▸ leP_refl _) (hl x), hm⟩
  | j + 1, e, h => by
    have h : (mrg (i + 1) k l m)[j]? = some e := by simpa using h
    obtain ⟨u, l', v, m', rfl, rfl, h3, h4, h5, h6, h7, h8, h9⟩ := ih j e h
    refine ⟨a :: u, l', v, m', rfl, rfl, by simp; omega, by rw [h4]; simp; omega, h5, fun x hx => ?_, h7, h8, h9⟩
    rcases List.mem_cons.1 hx with rfl | hx
    · exact (List.mem_append.1 (mrg_inE h)).elim (hl _) (hm _)
    · exact h6 x hx
theorem MA.right {i k : Int} {b : Pt} {l m : List Pt} (hl : ∀ x ∈ l, leP b x) (hm : ∀ x ∈ m, leP b x) (ih : ∀ j e, (mrg i (k + 1) l m)[j]? = some e → MA i (k + 1) l m j e) :
    ∀ j e, ((⟨b, i, k⟩ : Ent) :: mrg i (k + 1) l m)[j]? = some e → MA i k l (b :: m) j e
  | 0, e, h => by
    simp at h; subst h
    exact ⟨[], l, [], b :: m, rfl, rfl, rfl, by simp, by simp, by simp, by simp, hl, fun x hx => (List.mem_cons.1 hx).elim (fun h => h ▸ leP_refl _) (hm x)⟩
  | j + 1, e, h => by
    have h : (mrg i (k + 1) l m)[j]? = some e := by simpa using h
    obtain ⟨u, l', v, m', rfl, rfl, h3, h4, h5, h6, h7, h8, h9⟩ := ih j e h
    refine ⟨u, l', b :: v, m', rfl, rfl, by simp; omega, h4, by rw [h5]; simp; omega, h6, fun x hx => ?_, h8, h9⟩
    rcases List.mem_cons.1 hx with rfl | hx
    · exact (List.mem_append.1 (mrg_inE h)).elim (hl _) (hm _)
    · exact h7 x hx
theorem mrg_at : ∀ (i k : Int) (l m : List Pt), l.Pairwise leP → m.Pairwise leP → ∀ j e, (mrg i k l m)[j]? = some e → MA i k l m j e
  | _, _, [], [], _, _, j, e, h => by simp [mrg] at h
  | i, k, a :: l, [], h1, h2, j, e, h => by
    have h1' := List.pairwise_cons.1 h1
    rw [mrg] at h
    exact MA.left h1'.1 (by simp) (mrg_at (i + 1) k l [] h1'.2 h2) j e h
  | i, k, [], b :: m, h1, h2, j, e, h => by
    have h2' := List.pairwise_cons.1 h2
    rw [mrg] at h
    exact MA.right (by simp) h2'.1 (mrg_at i (k + 1) [] m h1 h2'.2) j e h
  | i, k, a :: l, b :: m, h1, h2, j, e, h => by
    have h1' := List.pairwise_cons.1 h1
    have h2' := List.pairwise_cons.1 h2
    rw [mrg] at h
    split at h
    · rename_i hu
      have hu' := (up_leP _ _).1 hu
      exact MA.left h1'.1 (fun x hx => (List.mem_cons.1 hx).elim (fun h => h ▸ hu') (fun h => leP_trans hu' (h2'.1 x h))) (mrg_at (i + 1) k l (b :: m) h1'.2 h2) j e h
    · rename_i hu
      have hu' : leP b a := (leP_total b a).resolve_right fun h9 => hu ((up_leP _ _).2 h9)
      exact MA.right (fun x hx => (List.mem_cons.1 hx).elim (fun h => h ▸ hu') (fun h => leP_trans hu' (h1'.1 x h))) h2'.1 (mrg_at i (k + 1) (a :: l) m h1 h2'.2) j e h
  termination_by _ _ l m => l.length + m.length
theorem up_self (p : Pt) : up p p = 0 := by simp [up, Pt.cmp]
theorem aheadF_true {p q : Pt} (h : leP q p) : aheadF p true q = true := by
  have := (up_leP _ _).2 h
  unfold aheadF; simp; omega
theorem aheadF_false {p q : Pt} (h : leP p q) : aheadF p false q = false := by
  unfold aheadF
  simp only [Bool.and_false, Bool.or_false, decide_eq_false_iff_not]
  intro h9
  have := leP_anti h ((up_leP _ _).1 (by omega))
  subst this
  rw [up_self] at h9; omega
theorem MA.sides {l m : List Pt} {j : Nat} {e : Ent} (h : MA 0 0 l m j e) : 0 ≤ e.low ∧ 0 ≤ e.high ∧ e.low + e.high = j ∧ e.low ≤ l.length ∧ e.high ≤ m.length ∧ e.low ≤ l.countP (aheadF e.p true) ∧ e.high ≤ m.countP (aheadF e.p true) ∧ l.countP (aheadF e.p false) ≤ e.low ∧ m.countP (aheadF e.p false) ≤ e.high := by
  obtain ⟨u, l', v, m', rfl, rfl, h3, h4, h5, h6, h7, h8, h9⟩ := h
  have a1 : u.countP (aheadF e.p true) = u.length := List.countP_eq_length.2 fun x hx => aheadF_true (h6 x hx)
  have a2 : v.countP (aheadF e.p true) = v.length := List.countP_eq_length.2 fun x hx => aheadF_true (h7 x hx)
  have a3 : l'.countP (aheadF e.p false) = 0 := List.countP_eq_zero.2 fun x hx => by rw [aheadF_false (h8 x hx)]; simp
  have a4 : m'.countP (aheadF e.p false) = 0 := List.countP_eq_zero.2 fun x hx => by rw [aheadF_false (h9 x hx)]; simp
  have a5 := List.countP_le_length (p := aheadF e.p false) (l := u)
  have a6 := List.countP_le_length (p := aheadF e.p false) (l := v)
  rw [List.length_append, List.length_append, List.countP_append, List.countP_append, List.countP_append, List.countP_append]
  omega
theorem RT.of.srt : ∀ {T : RT} {l : List Pt}, T.of l → T.arr.pts.Pairwise leP
  | .nil, l, _ => .nil
  | .node b q a u v lo hi, l, ⟨_, _, h⟩ => by
    rcases h with ⟨p, rfl, _, _, rfl⟩ | ⟨h1, h2, h3, rfl⟩
    · exact List.pairwise_singleton _ _
    · show (join lo.arr hi.arr).pts.Pairwise leP
      unfold Arr.pts
      rw [join_es]
      exact mrg_sorted _ _ _ _ h2.srt h3.srt
theorem pairwise_next {α : Type} {R : α → α → Prop} {l : List α} (h : l.Pairwise R) {k : Nat} {a b : α} (ha : l[k]? = some a) (hb : l[k + 1]? = some b) : R a b := by
  obtain ⟨h1, rfl⟩ := List.getElem?_eq_some_iff.1 ha
  obtain ⟨h2, rfl⟩ := List.getElem?_eq_some_iff.1 hb
  exact List.pairwise_iff_getElem.1 h k (k + 1) h1 h2 (by omega)
end Go.Proofs.YtkoncepjfgnjlaaGreat
/- A struct is equal to itself, whatever numbers, Bools and pointers it holds. No program stands in this text. -/
namespace Go.Proofs.YtkoncepjfgnjlaaGreat
open Go.RowKit
set_option linter.unusedSimpArgs false
set_option linter.unusedVariables false
inductive Ck where
  | i
  | b
  | p
def ckB : Value → Ck → Bool
  | .int .i64 _, .i => true
  | .bool _, .b => true
  | .pointer _, .p => true
  | _, _ => false
def tyB : List Value → List Ck → Bool
  | [], [] => true
  | v :: vs, c :: cs => ckB v c && tyB vs cs
  | _, _ => false
theorem tyB_len : ∀ {vs : List Value} {cs : List Ck}, tyB vs cs = true → vs.length = cs.length
  | [], [], _ => rfl
  | [], _ :: _, h => by cases h
  | _ :: _, [], h => by cases h
  | v :: vs, c :: cs, h => by
    simp only [tyB, Bool.and_eq_true] at h
    simp [tyB_len h.2]
theorem tyB_drop : ∀ (k : Nat) {vs : List Value} {cs : List Ck}, tyB vs cs = true → tyB (vs.drop k) (cs.drop k) = true
  | 0, _, _, h => h
  | k + 1, [], [], _ => rfl
  | k + 1, [], _ :: _, h => by cases h
  | k + 1, _ :: _, [], h => by cases h
  | k + 1, v :: vs, c :: cs, h => by
    simp only [tyB, Bool.and_eq_true] at h
    exact tyB_drop k h.2
theorem tyB_take : ∀ (k : Nat) {vs : List Value} {cs : List Ck}, tyB vs cs = true → tyB (vs.take k) (cs.take k) = true
  | 0, _, _, _ => by simp [tyB]
  | k + 1, [], [], _ => by simp [tyB]
  | k + 1, [], _ :: _, h => by cases h
  | k + 1, _ :: _, [], h => by cases h
  | k + 1, v :: vs, c :: cs, h => by
    simp only [tyB, Bool.and_eq_true] at h
    simp only [List.take_succ_cons, tyB, h.1, tyB_take k h.2, Bool.and_self]
def oneCk : List Ck → Ck → Bool
  | [.i], .i => true
  | [.b], .b => true
  | [.p], .p => true
  | _, _ => false
theorem oneCk_len {ks : List Ck} {c : Ck} (h : oneCk ks c = true) : ks.length = 1 := by
  unfold oneCk at h
  split at h <;> first | rfl | cases h
theorem oneCk_eq {ks : List Ck} {c : Ck} (h : oneCk ks c = true) : ks = [c] := by
  unfold oneCk at h
  split at h <;> first | rfl | cases h
theorem tyB_one {vs : List Value} {c : Ck} (h : tyB vs [c] = true) : ∃ v, vs = [v] ∧ ckB v c = true := by
  match vs, h with
  | [], h => cases h
  | [v], h => exact ⟨v, rfl, by simpa [tyB] using h⟩
  | _ :: _ :: _, h => simp [tyB] at h
theorem ckB_i {v : Value} (h : ckB v .i = true) : ∃ n, v = .int .i64 n := by
  unfold ckB at h
  split at h <;> first | exact ⟨_, rfl⟩ | (rename_i e; cases e; done) | (cases h; done)
theorem ckB_b {v : Value} (h : ckB v .b = true) : ∃ n, v = .bool n := by
  unfold ckB at h
  split at h <;> first | exact ⟨_, rfl⟩ | (rename_i e; cases e; done) | (cases h; done)
theorem ckB_p {v : Value} (h : ckB v .p = true) : ∃ n, v = .pointer n := by
  unfold ckB at h
  split at h <;> first | exact ⟨_, rfl⟩ | (rename_i e; cases e; done) | (cases h; done)
/-- What a type's cells hold. -/
def reflT (P : Program) : Nat → TypeId → List Ck → Bool
  | 0, _, _ => false
  | k + 1, T, ks => match P.underlying T with
    | some (.int _) => oneB P T && oneCk ks .i
    | some .bool => oneB P T && oneCk ks .b
    | some (.pointer e) => oneB P T && oneCk ks .p && (P.info? e).isSome && !Nat.beq (P.cellsOf e) 0
    | some (.struct fs) => aggB P T ks.length && !P.stoodInHeld T && fs.toList.all fun f => Nat.ble (f.offset + P.cellsOf f.type) ks.length && reflT P k f.type ((ks.drop f.offset).take (P.cellsOf f.type))
    | some (.array n e) => aggB P T ks.length && (P.info? e).isSome && (List.range n).all fun j => Nat.ble (j * P.cellsOf e + P.cellsOf e) ks.length && reflT P k e ((ks.drop (j * P.cellsOf e)).take (P.cellsOf e))
    | _ => false
def aggT (P : Program) (T : TypeId) : Bool := match P.underlying T with
  | some (.struct _) => true
  | some (.array _ _) => true
  | _ => false
def valR (P : Program) (T : TypeId) (vs : List Value) : Value := if aggT P T then .agg vs.toArray else vs.headD undef
section
variable {P : Program}
theorem part_refl {k : Nat} {T : TypeId} {ks : List Ck} (h : reflT P k T ks = true) (vs : List Value) (off : Nat) (hx : off + ks.length ≤ vs.length) (w : World) :
    (part T vs.toArray off).run P w = .ok (valR P T ((vs.drop off).take ks.length)) w := by
  cases k with
  | zero => cases h
  | succ k =>
    unfold reflT at h
    unfold valR aggT
    have one : oneB P T = true → ks.length = 1 → (part T vs.toArray off).run P w = .ok (((vs.drop off).take ks.length).headD undef) w := fun h1 h2 => by
      rw [h2] at hx ⊢
      have hlt : off < vs.length := by omega
      have e3 : ((vs.drop off).take 1).headD undef = vs[off] := by rw [List.drop_eq_getElem_cons hlt]; rfl
      rw [e3]
      simp [part, (OneT.run ⟨h1⟩ w).1, hlt]
    have agg : aggB P T ks.length = true → (part T vs.toArray off).run P w = .ok (.agg ((vs.drop off).take ks.length).toArray) w := fun h1 => by
      obtain ⟨e1, e2⟩ := AggT.run (P := P) ⟨h1⟩ w
      simp only [part, Sem.run_bind, e1, Result.andThen_ok, if_true, e2, Sem.run_pure]
      congr 2
      rw [List.extract_toArray, List.extract_eq_take_drop, Nat.add_sub_cancel_left]
    cases hu : P.underlying T with
    | none => rw [hu] at h; cases h
    | some dd =>
      rw [hu] at h
      cases dd <;> first | (cases h; done) | skip
      all_goals simp only [Bool.and_eq_true] at h
      case bool => exact one h.1 (oneCk_len h.2)
      case int => exact one h.1 (oneCk_len h.2)
      case pointer => exact one h.1.1.1 (oneCk_len h.1.1.2)
      case struct => exact agg h.1.1
      case array => exact agg h.1.1
theorem refl_run : ∀ (k : Nat) (T : TypeId) (ks : List Ck), reflT P k T ks = true → ∀ (d : Nat), k ≤ d → ∀ (vs : List Value) (w : World), tyB vs ks = true → (Op.equalIn d T (valR P T vs) (valR P T vs)).run P w = .ok true w
  | 0, _, _, h, _, _, _, _, _ => by cases h
  | k + 1, T, ks, h, d, hd, vs, w, ht => by
    obtain ⟨d, rfl⟩ : ∃ e, d = e + 1 := ⟨d - 1, by omega⟩
    have hl := tyB_len ht
    unfold reflT at h
    unfold valR aggT
    cases hu : P.underlying T with
    | none => rw [hu] at h; cases h
    | some dd =>
      rw [hu] at h
      cases dd <;> first | (cases h; done) | skip
      all_goals simp only [Bool.and_eq_true] at h
      case bool =>
        have ek := oneCk_eq h.2
        subst ek
        obtain ⟨v, rfl, hv⟩ := tyB_one ht
        obtain ⟨b, rfl⟩ := ckB_b hv
        simpa using run_equalIn_bool w d T b b hu
      case int kk =>
        have ek := oneCk_eq h.2
        subst ek
        obtain ⟨v, rfl, hv⟩ := tyB_one ht
        obtain ⟨a, rfl⟩ := ckB_i hv
        simpa using run_equalIn_int w d T .i64 kk a a hu
      case pointer e =>
        obtain ⟨⟨⟨h1, h2⟩, h3⟩, h4⟩ := h
        obtain ⟨i, hi⟩ := Option.isSome_iff_exists.1 h3
        have hz : P.cellsOf e ≠ 0 := fun h0 => by rw [h0] at h4; cases h4
        have ek := oneCk_eq h2
        subst ek
        obtain ⟨v, rfl, hv⟩ := tyB_one ht
        obtain ⟨q, rfl⟩ := ckB_p hv
        · cases q with
          | none => simp [Op.equalIn, Sem.run_bind, run_underlying hu]
          | some a => simp [Op.equalIn, Sem.run_bind, run_underlying hu, run_sizeOf w hi, hz, sameAddr]
      case struct fs =>
        obtain ⟨⟨h1, h2⟩, h3⟩ := h
        simp only [Bool.not_eq_true'] at h2
        have hf : P.fieldsOf T = fs := by simp [Program.fieldsOf, hu]
        simp only [if_true]
        rw [run_equalIn_struct w _ T _ _ (by rw [hf]; exact hu) h2, hf]
        rw [List.all_eq_true] at h3
        generalize fs.toList = fl at h3
        induction fl with
        | nil => simp [Op.eqFields]
        | cons f fl ih =>
          have hh := h3 f (List.mem_cons_self ..)
          simp only [Bool.and_eq_true] at hh
          have hle := Nat.le_of_ble_eq_true hh.1
          have hlen : ((ks.drop f.offset).take (P.cellsOf f.type)).length = P.cellsOf f.type := by rw [List.length_take, List.length_drop]; omega
          have hp := part_refl hh.2 vs f.offset (by rw [hlen, hl]; exact hle) w
          rw [hlen] at hp
          have hr := refl_run k f.type _ hh.2 d (by omega) ((vs.drop f.offset).take (P.cellsOf f.type)) w (tyB_take _ (tyB_drop _ ht))
          unfold Op.eqFields
          split
          · simp only [Sem.run_bind, hp, Result.andThen_ok, hr, Bool.not_true, Bool.false_eq_true, if_false]
            exact ih fun g hg => h3 g (List.mem_cons_of_mem _ hg)
          · exact ih fun g hg => h3 g (List.mem_cons_of_mem _ hg)
      case array n e =>
        obtain ⟨⟨h1, h2⟩, h3⟩ := h
        obtain ⟨i, hi⟩ := Option.isSome_iff_exists.1 h2
        simp only [if_true]
        rw [run_equalIn_array w d vs.toArray vs.toArray hu hi]
        rw [List.all_eq_true] at h3
        generalize List.range n = fl at h3
        induction fl with
        | nil => simp [Op.eqItems]
        | cons j fl ih =>
          have hh := h3 j (List.mem_cons_self ..)
          simp only [Bool.and_eq_true] at hh
          have hle := Nat.le_of_ble_eq_true hh.1
          have hlen : ((ks.drop (j * P.cellsOf e)).take (P.cellsOf e)).length = P.cellsOf e := by rw [List.length_take, List.length_drop]; omega
          have hp := part_refl hh.2 vs (j * P.cellsOf e) (by rw [hlen, hl]; exact hle) w
          rw [hlen] at hp
          have hr := refl_run k e _ hh.2 d (by omega) ((vs.drop (j * P.cellsOf e)).take (P.cellsOf e)) w (tyB_take _ (tyB_drop _ ht))
          unfold Op.eqItems
          simp only [Sem.run_bind, hp, Result.andThen_ok, hr, Bool.not_true, Bool.false_eq_true, if_false]
          exact ih fun g hg => h3 g (List.mem_cons_of_mem _ hg)
def reflB (P : Program) (T : TypeId) (ks : List Ck) : Bool := aggT P T && reflT P 8 T ks && !P.eqGuardType P.depth T
class ReflT (P : Program) (T : TypeId) (ks : outParam (List Ck)) : Prop where
  h : reflB P T ks = true
variable {L : List HP} {σ : Env} {d : Option Nat} {ty T T' : TypeId} {pos : String} {aft : Array Edge} {gd : Option (Nat × Bool)} {x y : Operand}
theorem ev_eqlR {ks : List Ck} {cs : List Value} [H : ReflT P T ks] (hx : ev σ x = some (.agg cs.toArray)) (hy : ev σ y = some (.agg cs.toArray)) (h1 : tyB cs ks = true) : Ev P L σ ⟨d, .binOp .eql T x y T', ty, pos, aft, gd⟩ (.bool true) := by
  have h := H.h
  unfold reflB at h
  simp only [Bool.and_eq_true, Bool.not_eq_true'] at h
  obtain ⟨⟨h2, h3⟩, h4⟩ := h
  refine bin_run' _ _ _ _ (fun w => run_eqGuard_agg w _ _ _ _ _ _ h4) hx hy fun w => ?_
  show ((do pure (.bool (← Op.equal T (.agg cs.toArray) (.agg cs.toArray))) : Sem Value)).run P w = _
  have key := refl_run 8 T ks h3 Op.maxDepth (by decide) cs w h1
  unfold valR at key
  rw [if_pos h2] at key
  have key2 : (Op.equal T (.agg cs.toArray) (.agg cs.toArray)).run P w = .ok true w := key
  simp only [Sem.run_bind, key2, Result.andThen_ok, Sem.run_pure]
end
end Go.Proofs.YtkoncepjfgnjlaaGreat
/- A tree of lists that lead into one another: Check tells true. -/
namespace Go.Proofs.YtkoncepjfgnjlaaGreat
attribute [local irreducible] sat
set_option linter.unusedVariables false
set_option linter.unusedSimpArgs false
set_option maxRecDepth 100000

theorem join_node {a b : Arr} (h : 0 < a.es.length) : join a b = .node (mrg 0 0 a.pts b.pts) a b := by
  cases a with
  | nil => simp [Arr.es] at h
  | node => rfl
theorem asound_ctr : ∀ (T : RT) (l : List Pt) (L : List HP) (q : Option Addr), T.of l → l.length ≤ 100000 → ArrIn L q T.arr → Ctr Tryz.prog 101 #[.pointer q] L fun v L' => v = .bool true ∧ L' = L
  | .nil, l, L, q, _, _, h => by
    have e : q = none := h
    subst e
    exact sound_nil L
  | .node b p a u v lo hi, l, L, q, ho, hn, h => by
    have hlen : a.es.length = l.length := ho.len
    obtain ⟨_, _, hh⟩ := ho
    rcases hh with ⟨p, rfl, rfl, rfl, rfl⟩ | ⟨g1, g2, g3, rfl⟩
    · refine sound_leaf q _ L h (by simp) (fun k e f h1 h2 => ?_) (fun k e h1 => ?_)
      · simp at h2
      · match k with
        | 0 => simp at h1; subst h1; exact ⟨Int.le_refl _, Int.le_refl _⟩
        | k + 1 => simp at h1
    · have n1 : lo.arr.es.length = (l.take ((l.length + 1) / 2)).length := g2.len
      have n2 : hi.arr.es.length = (l.drop ((l.length + 1) / 2)).length := g3.len
      rw [List.length_take] at n1
      rw [List.length_drop] at n2
      have hp : 0 < lo.arr.es.length := by omega
      have ih1 := fun M q => asound_ctr lo _ M q g2 (by rw [List.length_take]; omega)
      have ih2 := fun M q => asound_ctr hi _ M q g3 (by rw [List.length_drop]; omega)
      have s1 := g2.srt
      have s2 := g3.srt
      have e1 : lo.arr.pts.length = lo.arr.es.length := List.length_map _
      have e2 : hi.arr.pts.length = hi.arr.es.length := List.length_map _
      have hm := mrg_length 0 0 lo.arr.pts hi.arr.pts
      have h' : ArrIn L q (join lo.arr hi.arr) := h
      rw [join_node hp] at h'
      refine sound_join q _ _ _ L h' (fun e => by rw [e] at hp; simp [Arr.es] at hp) (by omega) (by omega) (by omega) (fun k e f h1 h2 => ?_) (fun k e h1 => ?_) (by omega) ih1 ih2
      · refine (up_leP _ _).2 (pairwise_next (mrg_sorted 0 0 _ _ s1 s2) (k := k) ?_ ?_)
        · rw [List.getElem?_map, h1]; rfl
        · rw [List.getElem?_map, h2]; rfl
      · have := (mrg_at 0 0 _ _ s1 s2 k e h1).sides
        rw [e1, e2] at this
        exact this
instance : ReflT Tryz.prog 102 [.p, .p] := ⟨by kernel_rfl⟩
theorem rsound_ctr : ∀ (T : RT) (l : List Pt) (A : Option Addr) (n c : Nat) (L : List HP), RIn L T → T.of l → n ≤ 100000 → Rd L A n l → n ≤ c → c ≤ maxLen →
    Ctr Tryz.prog 67 #[.pointer T.addr, .slice A n c] L fun v L' => v = .bool true ∧ L' = L
  | .nil, l, A, n, c, L, h, ho, hn, hl, hc, hc2 => by
    have h1 : l.length = n := hl.len (by decide)
    have e : l = [] := ho
    subst e
    simp at h1
    subst h1
    refine Ctr_of (fn := Tryz.f67) (n := 77) Tryz.func67 rfl rfl rfl ?_
    intro g F
    (repeat first | refine G_seq ?_ | refine G_skip ?_ | refine G_endblk ?_ | refine G_block ?_ | refine G_exit rfl ?_)
    refine G_region ?_
    refine GO_q rfl rfl (ev_assign rfl) ?_
    refine GO_nil ?_
    (repeat first | refine G_seq ?_ | refine G_skip ?_ | refine G_endblk ?_ | refine G_block ?_ | refine G_exit rfl ?_)
    refine G_region ?_
    refine GO_q rfl rfl (ev_move rfl) ?_
    (first | refine GO_q rfl rfl (ev_eqlNil rfl rfl) ?_ | refine GO_q rfl rfl (ev_eqlPtr rfl rfl) ?_)
    refine GO_nil ?_
    (repeat first | refine G_seq ?_ | refine G_skip ?_ | refine G_endblk ?_ | refine G_block ?_ | refine G_exit rfl ?_)
    refine G_cond_t rfl rfl ?_
    (repeat first | refine G_seq ?_ | refine G_skip ?_ | refine G_endblk ?_ | refine G_block ?_ | refine G_exit rfl ?_)
    refine G_region ?_
    refine GO_q rfl rfl (ev_move rfl) ?_
    refine GO_q rfl rfl (ev_len rfl) ?_
    refine GO_q rfl rfl (ev_eql rfl rfl) ?_
    refine GO_q rfl rfl (ev_assign rfl) ?_
    refine GO_nil ?_
    (repeat first | refine G_seq ?_ | refine G_skip ?_ | refine G_endblk ?_ | refine G_block ?_ | refine G_exit rfl ?_)
    refine G_ret rfl (.tmp rfl .nil) (by (repeat first | exact fun _ s => s | apply en_keep | apply en_drop | apply en_app) <;> fail) ⟨rfl, rfl⟩
  | .node b q a u v lo hi, l, A, n, c, L, h, ho, hn, hl, hc, hc2 => by
    have h1 : l.length = n := hl.len (by decide)
    have hlen : a.es.length = l.length := ho.len
    obtain ⟨⟨pf, g0, eu⟩, ⟨pg, g1, ev⟩, hh⟩ := ho
    have hpos : 0 < n := by have := (List.getElem?_eq_some_iff.1 g0).1; omega
    obtain ⟨z, ha, i1, i2⟩ := h
    have w0 : Ld L ⟨b, 0 + 0, none⟩ (.pointer q) := z.at_ (i := 0) rfl
    have w1 : Ld L ⟨b, 0 + 1, none⟩ (.int .i64 u) := z.at_ (i := 1) rfl
    have w2 : Ld L ⟨b, 0 + 2, none⟩ (.int .i64 v) := z.at_ (i := 2) rfl
    have w3 : Ld L ⟨b, 0 + 3 + 0 * 1, none⟩ (.pointer lo.addr) := z.at_ (i := 3) rfl
    have w4 : Ld L ⟨b, 0 + 3 + 1 * 1, none⟩ (.pointer hi.addr) := z.at_ (i := 4) rfl
    obtain ⟨bb, o, rfl, hx⟩ := hl.at_ hpos
    rw [h1] at g1
    have y0 : LdN L bb (o + 0 * 3) 3 [.int .i64 pf.id, .int .i64 pf.x, .int .i64 pf.y] := hx _ _ g0
    have y1 : LdN L bb (o + (n - 1) * 3) 3 [.int .i64 pg.id, .int .i64 pg.x, .int .i64 pg.y] := hx _ _ g1
    have x0 : Ld L ⟨bb, o + 0 * 3 + 1, none⟩ (.int .i64 pf.x) := y0.at_ (i := 1) rfl
    have x1 : Ld L ⟨bb, o + (n - 1) * 3 + 1, none⟩ (.int .i64 pg.x) := y1.at_ (i := 1) rfl
    have hL := fun M (h : ArrIn M q a) => Len_ctr q a M h
    rw [hlen, h1] at hL
    subst eu ev
    rcases hh with ⟨p, rfl, rfl, rfl, rfl⟩ | ⟨k1, k2, k3, k4⟩
    · simp at h1
      subst h1
      simp at g0 g1
      subst g0 g1
      have w5 : LdN L b (0 + 3) 2 [.pointer none, .pointer none] := ⟨rfl, fun j v hj => by
        match j with
        | 0 => simp at hj; subst hj; exact w3
        | 1 => simp at hj; subst hj; exact w4
        | j + 2 => simp at hj⟩
      refine Ctr_of (fn := Tryz.f67) (n := 77) Tryz.func67 rfl rfl rfl ?_
      intro g F
      (repeat first | refine G_seq ?_ | refine G_skip ?_ | refine G_endblk ?_ | refine G_block ?_ | refine G_exit rfl ?_)
      refine G_region ?_
      refine GO_q rfl rfl (ev_assign rfl) ?_
      refine GO_nil ?_
      (repeat first | refine G_seq ?_ | refine G_skip ?_ | refine G_endblk ?_ | refine G_block ?_ | refine G_exit rfl ?_)
      refine G_region ?_
      refine GO_q rfl rfl (ev_move rfl) ?_
      (first | refine GO_q rfl rfl (ev_eqlNil rfl rfl) ?_ | refine GO_q rfl rfl (ev_eqlPtr rfl rfl) ?_)
      refine GO_nil ?_
      (repeat first | refine G_seq ?_ | refine G_skip ?_ | refine G_endblk ?_ | refine G_block ?_ | refine G_exit rfl ?_)
      refine G_cond_f rfl rfl ?_
      (repeat first | refine G_seq ?_ | refine G_skip ?_ | refine G_endblk ?_ | refine G_block ?_ | refine G_exit rfl ?_)
      refine G_draw (.q 0 (.q 1 (.q 2 (.q 3 (.q 5 (.q 6 (.e 4 (.q 7 (.q 8 (.q 9 (.q 10 (.q 11 (.q 12 (.q 13 (.q 14 (.q 15 (.q 16 (.q 17 (.q 18 (.q 19 (.q 20 (.q 21 (.q 22 (.q 23 (.q 24 (.q 25 (.q 26 (.q 27 (.q 28 (.q 29 (.q 30 (.q 31 (.q 32 .nil))))))))))))))))))))))))))))))))) (by kernel_rfl) (by kernel_rfl) ?_
      refine RS_m retB_noPanic rfl rfl rfl rfl (ev_move rfl) ?_
      (first | refine RS_m retB_noPanic rfl rfl rfl rfl (ev_nilCheck rfl) ?_ | refine RS_m retB_noPanic rfl rfl rfl rfl (ev_nilCheckF (by simp) rfl) ?_)
      refine RS_m retB_noPanic rfl rfl rfl rfl (ev_fieldAddr rfl) ?_
      refine RS_q retB_noPanic rfl rfl rfl rfl (ev_load rfl (by repeat' first | exact Ld.blk rfl | assumption | apply Ld.skip | apply Ld.app)) ?_
      refine RS_m retB_noPanic rfl rfl rfl rfl (ev_move rfl) ?_
      refine RS_q retB_noPanic rfl rfl rfl rfl (ev_len rfl) ?_
      refine RS_e (RE_eff rfl rfl rfl (eff_call rfl (hL _ ha.skip)) ?_); rintro _ _ ⟨rfl, rfl⟩; refine ⟨_, fun _ s => s, (by first | ((repeat first | exact fun _ s => s | apply en_keep | apply en_drop | apply en_app) <;> fail) | ((repeat first | exact en_refl | (apply en_blk; focus ((repeat' first | exact Pick.here | apply Pick.skip | apply Pick.app); done); focus rfl) | (apply en_own; focus ((repeat' first | exact Pick.here | apply Pick.skip | apply Pick.app); done); focus rfl) | (apply en_pick; focus ((repeat' first | exact Pick.here | apply Pick.skip | apply Pick.app); done)) | apply en_drop | apply en_app) <;> fail)), ?_⟩
      refine RS_m retB_noPanic rfl rfl rfl rfl (ev_neq rfl rfl) ?_
      refine RS_m retB_noPanic rfl rfl rfl rfl (ev_move rfl) ?_
      refine RS_m_yes retB_noPanic rfl rfl rfl rfl ⟨_, rfl, (by simp)⟩ rfl (ev_move rfl) ?_
      (first | refine RS_m_yes retB_noPanic rfl rfl rfl rfl ⟨_, rfl, (by simp)⟩ rfl (ev_nilCheck rfl) ?_ | refine RS_m_yes retB_noPanic rfl rfl rfl rfl ⟨_, rfl, (by simp)⟩ rfl (ev_nilCheckF (by simp) rfl) ?_)
      refine RS_m_yes retB_noPanic rfl rfl rfl rfl ⟨_, rfl, (by simp)⟩ rfl (ev_fieldAddr rfl) ?_
      refine RS_q_yes retB_noPanic rfl rfl rfl rfl ⟨_, rfl, (by simp)⟩ rfl (ev_load rfl (by repeat' first | exact Ld.blk rfl | assumption | apply Ld.skip | apply Ld.app)) ?_
      refine RS_m_yes retB_noPanic rfl rfl rfl rfl ⟨_, rfl, (by simp)⟩ rfl (ev_move rfl) ?_
      (first | refine RS_m_yes retB_noPanic rfl rfl rfl rfl ⟨_, rfl, (by simp)⟩ rfl (ev_indexAddrN rfl rfl (by first | omega | (simp; done) | (simp; omega))) ?_ | refine RS_m_yes retB_noPanic rfl rfl rfl rfl ⟨_, rfl, (by simp)⟩ rfl (ev_indexAddr rfl rfl (by first | omega | (simp; done) | (simp; omega)) (by first | omega | (simp; done) | (simp; omega))) ?_)
      refine RS_m_yes retB_noPanic rfl rfl rfl rfl ⟨_, rfl, (by simp)⟩ rfl (ev_fieldAddr rfl) ?_
      refine RS_q_yes retB_noPanic rfl rfl rfl rfl ⟨_, rfl, (by simp)⟩ rfl (ev_load rfl (by repeat' first | exact Ld.blk rfl | assumption | apply Ld.skip | apply Ld.app)) ?_
      refine RS_m_yes retB_noPanic rfl rfl rfl rfl ⟨_, rfl, (by simp)⟩ rfl (ev_neq rfl rfl) ?_
      refine RS_m retB_noPanic rfl rfl rfl rfl (ev_pick_f rfl (by simp) rfl) ?_
      refine RS_m retB_noPanic rfl rfl rfl rfl (ev_move rfl) ?_
      refine RS_m_yes retB_noPanic rfl rfl rfl rfl ⟨_, rfl, (by simp)⟩ rfl (ev_move rfl) ?_
      (first | refine RS_m_yes retB_noPanic rfl rfl rfl rfl ⟨_, rfl, (by simp)⟩ rfl (ev_nilCheck rfl) ?_ | refine RS_m_yes retB_noPanic rfl rfl rfl rfl ⟨_, rfl, (by simp)⟩ rfl (ev_nilCheckF (by simp) rfl) ?_)
      refine RS_m_yes retB_noPanic rfl rfl rfl rfl ⟨_, rfl, (by simp)⟩ rfl (ev_fieldAddr rfl) ?_
      refine RS_q_yes retB_noPanic rfl rfl rfl rfl ⟨_, rfl, (by simp)⟩ rfl (ev_load rfl (by repeat' first | exact Ld.blk rfl | assumption | apply Ld.skip | apply Ld.app)) ?_
      refine RS_m_yes retB_noPanic rfl rfl rfl rfl ⟨_, rfl, (by simp)⟩ rfl (ev_move rfl) ?_
      refine RS_m_yes retB_noPanic rfl rfl rfl rfl ⟨_, rfl, (by simp)⟩ rfl (ev_move rfl) ?_
      refine RS_q_yes retB_noPanic rfl rfl rfl rfl ⟨_, rfl, (by simp)⟩ rfl (ev_len rfl) ?_
      (first | refine RS_m_yes retB_noPanic rfl rfl rfl rfl ⟨_, rfl, (by simp)⟩ rfl (ev_subN (q := 1) rfl rfl (by first | omega | (simp; done) | (simp; omega))) ?_ | refine RS_m_yes retB_noPanic rfl rfl rfl rfl ⟨_, rfl, (by simp)⟩ rfl (ev_sub rfl rfl (by first | omega | (simp; done) | (simp; omega))) ?_)
      (first | refine RS_m_yes retB_noPanic rfl rfl rfl rfl ⟨_, rfl, (by simp)⟩ rfl (ev_indexAddrN rfl rfl (by first | omega | (simp; done) | (simp; omega))) ?_ | refine RS_m_yes retB_noPanic rfl rfl rfl rfl ⟨_, rfl, (by simp)⟩ rfl (ev_indexAddr rfl rfl (by first | omega | (simp; done) | (simp; omega)) (by first | omega | (simp; done) | (simp; omega))) ?_)
      refine RS_m_yes retB_noPanic rfl rfl rfl rfl ⟨_, rfl, (by simp)⟩ rfl (ev_fieldAddr rfl) ?_
      refine RS_q_yes retB_noPanic rfl rfl rfl rfl ⟨_, rfl, (by simp)⟩ rfl (ev_load rfl (by repeat' first | exact Ld.blk rfl | assumption | apply Ld.skip | apply Ld.app)) ?_
      refine RS_m_yes retB_noPanic rfl rfl rfl rfl ⟨_, rfl, (by simp)⟩ rfl (ev_neq rfl rfl) ?_
      refine RS_m retB_noPanic rfl rfl rfl rfl (ev_pick_f rfl (by simp) rfl) ?_
      refine RS_nil ?_
      (repeat first | refine G_seq ?_ | refine G_skip ?_ | refine G_endblk ?_ | refine G_block ?_ | refine G_exit rfl ?_)
      refine G_cond_f rfl (by simp) ?_
      (repeat first | refine G_seq ?_ | refine G_skip ?_ | refine G_endblk ?_ | refine G_block ?_ | refine G_exit rfl ?_)
      refine G_region ?_
      refine GO_q rfl rfl (ev_move rfl) ?_
      refine GO_q rfl rfl (ev_len rfl) ?_
      refine GO_q rfl rfl (ev_eql rfl rfl) ?_
      refine GO_nil ?_
      (repeat first | refine G_seq ?_ | refine G_skip ?_ | refine G_endblk ?_ | refine G_block ?_ | refine G_exit rfl ?_)
      refine G_cond_t rfl rfl ?_
      (repeat first | refine G_seq ?_ | refine G_skip ?_ | refine G_endblk ?_ | refine G_block ?_ | refine G_exit rfl ?_)
      refine G_region ?_
      refine GO_q rfl rfl (ev_move rfl) ?_
      (first | refine GO_q rfl rfl (ev_nilCheck rfl) ?_ | refine GO_q rfl rfl (ev_nilCheckF (by simp) rfl) ?_)
      refine GO_q rfl rfl (ev_fieldAddr rfl) ?_
      refine GO_q rfl rfl (ev_loadN rfl (by repeat' first | exact LdN.blk rfl | assumption | apply LdN.skip | apply LdN.app)) ?_
      refine GO_q rfl rfl (ev_buildA rfl rfl) ?_
      refine GO_q rfl rfl (ev_eqlR rfl rfl rfl) ?_
      refine GO_q rfl rfl (ev_assign rfl) ?_
      refine GO_nil ?_
      (repeat first | refine G_seq ?_ | refine G_skip ?_ | refine G_endblk ?_ | refine G_block ?_ | refine G_exit rfl ?_)
      refine G_ret rfl (.tmp rfl .nil) (by (repeat first | exact fun _ s => s | apply en_keep | apply en_drop | apply en_app) <;> fail) ⟨rfl, rfl⟩
    · have m1 := hl.take (k := (n + 1) / 2) (by omega)
      have m2 := hl.drop (k := (n + 1) / 2) (c := c) (by omega) hc
      rw [h1] at k2 k3
      have s1 := fun M (h : RIn M lo) (h' : Rd M (some ⟨bb, o, none⟩) ((n + 1) / 2) (l.take ((n + 1) / 2))) => rsound_ctr lo _ _ ((n + 1) / 2) c M h k2 (by omega) h' (by omega) hc2
      have s2 := fun M (h : RIn M hi) (h' : Rd M (some ⟨bb, if c = (n + 1) / 2 then o else o + (n + 1) / 2 * Enc.sz Pt, none⟩) (n - (n + 1) / 2) (l.drop ((n + 1) / 2))) => rsound_ctr hi _ _ (n - (n + 1) / 2) (c - (n + 1) / 2) M h k3 (by omega) h' (by omega) (by omega)
      generalize hmid : (n + 1) / 2 = mid at *
      unfold maxLen at hc2
      refine Ctr_of (fn := Tryz.f67) (n := 77) Tryz.func67 rfl rfl rfl ?_
      intro g F
      (repeat first | refine G_seq ?_ | refine G_skip ?_ | refine G_endblk ?_ | refine G_block ?_ | refine G_exit rfl ?_)
      refine G_region ?_
      refine GO_q rfl rfl (ev_assign rfl) ?_
      refine GO_nil ?_
      (repeat first | refine G_seq ?_ | refine G_skip ?_ | refine G_endblk ?_ | refine G_block ?_ | refine G_exit rfl ?_)
      refine G_region ?_
      refine GO_q rfl rfl (ev_move rfl) ?_
      (first | refine GO_q rfl rfl (ev_eqlNil rfl rfl) ?_ | refine GO_q rfl rfl (ev_eqlPtr rfl rfl) ?_)
      refine GO_nil ?_
      (repeat first | refine G_seq ?_ | refine G_skip ?_ | refine G_endblk ?_ | refine G_block ?_ | refine G_exit rfl ?_)
      refine G_cond_f rfl rfl ?_
      (repeat first | refine G_seq ?_ | refine G_skip ?_ | refine G_endblk ?_ | refine G_block ?_ | refine G_exit rfl ?_)
      refine G_draw (.q 0 (.q 1 (.q 2 (.q 3 (.q 5 (.q 6 (.e 4 (.q 7 (.q 8 (.q 9 (.q 10 (.q 11 (.q 12 (.q 13 (.q 14 (.q 15 (.q 16 (.q 17 (.q 18 (.q 19 (.q 20 (.q 21 (.q 22 (.q 23 (.q 24 (.q 25 (.q 26 (.q 27 (.q 28 (.q 29 (.q 30 (.q 31 (.q 32 .nil))))))))))))))))))))))))))))))))) (by kernel_rfl) (by kernel_rfl) ?_
      refine RS_m retB_noPanic rfl rfl rfl rfl (ev_move rfl) ?_
      (first | refine RS_m retB_noPanic rfl rfl rfl rfl (ev_nilCheck rfl) ?_ | refine RS_m retB_noPanic rfl rfl rfl rfl (ev_nilCheckF (by simp) rfl) ?_)
      refine RS_m retB_noPanic rfl rfl rfl rfl (ev_fieldAddr rfl) ?_
      refine RS_q retB_noPanic rfl rfl rfl rfl (ev_load rfl (by repeat' first | exact Ld.blk rfl | assumption | apply Ld.skip | apply Ld.app)) ?_
      refine RS_m retB_noPanic rfl rfl rfl rfl (ev_move rfl) ?_
      refine RS_q retB_noPanic rfl rfl rfl rfl (ev_len rfl) ?_
      refine RS_e (RE_eff rfl rfl rfl (eff_call rfl (hL _ ha.skip)) ?_); rintro _ _ ⟨rfl, rfl⟩; refine ⟨_, fun _ s => s, (by first | ((repeat first | exact fun _ s => s | apply en_keep | apply en_drop | apply en_app) <;> fail) | ((repeat first | exact en_refl | (apply en_blk; focus ((repeat' first | exact Pick.here | apply Pick.skip | apply Pick.app); done); focus rfl) | (apply en_own; focus ((repeat' first | exact Pick.here | apply Pick.skip | apply Pick.app); done); focus rfl) | (apply en_pick; focus ((repeat' first | exact Pick.here | apply Pick.skip | apply Pick.app); done)) | apply en_drop | apply en_app) <;> fail)), ?_⟩
      refine RS_m retB_noPanic rfl rfl rfl rfl (ev_neq rfl rfl) ?_
      refine RS_m retB_noPanic rfl rfl rfl rfl (ev_move rfl) ?_
      refine RS_m_yes retB_noPanic rfl rfl rfl rfl ⟨_, rfl, (by simp)⟩ rfl (ev_move rfl) ?_
      (first | refine RS_m_yes retB_noPanic rfl rfl rfl rfl ⟨_, rfl, (by simp)⟩ rfl (ev_nilCheck rfl) ?_ | refine RS_m_yes retB_noPanic rfl rfl rfl rfl ⟨_, rfl, (by simp)⟩ rfl (ev_nilCheckF (by simp) rfl) ?_)
      refine RS_m_yes retB_noPanic rfl rfl rfl rfl ⟨_, rfl, (by simp)⟩ rfl (ev_fieldAddr rfl) ?_
      refine RS_q_yes retB_noPanic rfl rfl rfl rfl ⟨_, rfl, (by simp)⟩ rfl (ev_load rfl (by repeat' first | exact Ld.blk rfl | assumption | apply Ld.skip | apply Ld.app)) ?_
      refine RS_m_yes retB_noPanic rfl rfl rfl rfl ⟨_, rfl, (by simp)⟩ rfl (ev_move rfl) ?_
      (first | refine RS_m_yes retB_noPanic rfl rfl rfl rfl ⟨_, rfl, (by simp)⟩ rfl (ev_indexAddrN rfl rfl (by first | omega | (simp; done) | (simp; omega))) ?_ | refine RS_m_yes retB_noPanic rfl rfl rfl rfl ⟨_, rfl, (by simp)⟩ rfl (ev_indexAddr rfl rfl (by first | omega | (simp; done) | (simp; omega)) (by first | omega | (simp; done) | (simp; omega))) ?_)
      refine RS_m_yes retB_noPanic rfl rfl rfl rfl ⟨_, rfl, (by simp)⟩ rfl (ev_fieldAddr rfl) ?_
      refine RS_q_yes retB_noPanic rfl rfl rfl rfl ⟨_, rfl, (by simp)⟩ rfl (ev_load rfl (by repeat' first | exact Ld.blk rfl | assumption | apply Ld.skip | apply Ld.app)) ?_
      refine RS_m_yes retB_noPanic rfl rfl rfl rfl ⟨_, rfl, (by simp)⟩ rfl (ev_neq rfl rfl) ?_
      refine RS_m retB_noPanic rfl rfl rfl rfl (ev_pick_f rfl (by simp) rfl) ?_
      refine RS_m retB_noPanic rfl rfl rfl rfl (ev_move rfl) ?_
      refine RS_m_yes retB_noPanic rfl rfl rfl rfl ⟨_, rfl, (by simp)⟩ rfl (ev_move rfl) ?_
      (first | refine RS_m_yes retB_noPanic rfl rfl rfl rfl ⟨_, rfl, (by simp)⟩ rfl (ev_nilCheck rfl) ?_ | refine RS_m_yes retB_noPanic rfl rfl rfl rfl ⟨_, rfl, (by simp)⟩ rfl (ev_nilCheckF (by simp) rfl) ?_)
      refine RS_m_yes retB_noPanic rfl rfl rfl rfl ⟨_, rfl, (by simp)⟩ rfl (ev_fieldAddr rfl) ?_
      refine RS_q_yes retB_noPanic rfl rfl rfl rfl ⟨_, rfl, (by simp)⟩ rfl (ev_load rfl (by repeat' first | exact Ld.blk rfl | assumption | apply Ld.skip | apply Ld.app)) ?_
      refine RS_m_yes retB_noPanic rfl rfl rfl rfl ⟨_, rfl, (by simp)⟩ rfl (ev_move rfl) ?_
      refine RS_m_yes retB_noPanic rfl rfl rfl rfl ⟨_, rfl, (by simp)⟩ rfl (ev_move rfl) ?_
      refine RS_q_yes retB_noPanic rfl rfl rfl rfl ⟨_, rfl, (by simp)⟩ rfl (ev_len rfl) ?_
      (first | refine RS_m_yes retB_noPanic rfl rfl rfl rfl ⟨_, rfl, (by simp)⟩ rfl (ev_subN (q := 1) rfl rfl (by first | omega | (simp; done) | (simp; omega))) ?_ | refine RS_m_yes retB_noPanic rfl rfl rfl rfl ⟨_, rfl, (by simp)⟩ rfl (ev_sub rfl rfl (by first | omega | (simp; done) | (simp; omega))) ?_)
      (first | refine RS_m_yes retB_noPanic rfl rfl rfl rfl ⟨_, rfl, (by simp)⟩ rfl (ev_indexAddrN rfl rfl (by first | omega | (simp; done) | (simp; omega))) ?_ | refine RS_m_yes retB_noPanic rfl rfl rfl rfl ⟨_, rfl, (by simp)⟩ rfl (ev_indexAddr rfl rfl (by first | omega | (simp; done) | (simp; omega)) (by first | omega | (simp; done) | (simp; omega))) ?_)
      refine RS_m_yes retB_noPanic rfl rfl rfl rfl ⟨_, rfl, (by simp)⟩ rfl (ev_fieldAddr rfl) ?_
      refine RS_q_yes retB_noPanic rfl rfl rfl rfl ⟨_, rfl, (by simp)⟩ rfl (ev_load rfl (by repeat' first | exact Ld.blk rfl | assumption | apply Ld.skip | apply Ld.app)) ?_
      refine RS_m_yes retB_noPanic rfl rfl rfl rfl ⟨_, rfl, (by simp)⟩ rfl (ev_neq rfl rfl) ?_
      refine RS_m retB_noPanic rfl rfl rfl rfl (ev_pick_f rfl (by simp) rfl) ?_
      refine RS_nil ?_
      (repeat first | refine G_seq ?_ | refine G_skip ?_ | refine G_endblk ?_ | refine G_block ?_ | refine G_exit rfl ?_)
      refine G_cond_f rfl (by simp) ?_
      (repeat first | refine G_seq ?_ | refine G_skip ?_ | refine G_endblk ?_ | refine G_block ?_ | refine G_exit rfl ?_)
      refine G_region ?_
      refine GO_q rfl rfl (ev_move rfl) ?_
      refine GO_q rfl rfl (ev_len rfl) ?_
      refine GO_q rfl rfl (ev_eql rfl rfl) ?_
      refine GO_nil ?_
      (repeat first | refine G_seq ?_ | refine G_skip ?_ | refine G_endblk ?_ | refine G_block ?_ | refine G_exit rfl ?_)
      refine G_cond_f rfl (decide_eq_false (by omega)) ?_
      (repeat first | refine G_seq ?_ | refine G_skip ?_ | refine G_endblk ?_ | refine G_block ?_ | refine G_exit rfl ?_)
      refine G_region ?_
      refine GO_q rfl rfl (ev_move rfl) ?_
      refine GO_q rfl rfl (ev_len rfl) ?_
      (first | refine GO_q rfl rfl (ev_addN (q := 1) rfl rfl (by first | omega | (simp; done) | (simp; omega))) ?_ | refine GO_q rfl rfl (ev_add rfl rfl (by first | omega | (simp; done) | (simp; omega))) ?_)
      refine GO_q rfl rfl (ev_quoN (q := 2) rfl rfl (by omega) (by omega)) ?_
      rw [hmid]
      refine GO_q rfl rfl (ev_assign rfl) ?_
      refine GO_nil ?_
      (repeat first | refine G_seq ?_ | refine G_skip ?_ | refine G_endblk ?_ | refine G_block ?_ | refine G_exit rfl ?_)
      refine G_draw (.q 0 (.q 1 (.q 2 (.q 3 (.q 4 (.q 5 (.q 6 (.q 7 (.e 8 (.q 9 (.q 10 (.q 11 (.q 12 (.q 13 (.q 14 (.q 15 (.q 16 (.q 17 (.e 18 (.q 19 (.q 20 .nil))))))))))))))))))))) (by kernel_rfl) (by kernel_rfl) ?_
      refine RS_m retB_noPanic rfl rfl rfl rfl (ev_move rfl) ?_
      (first | refine RS_m retB_noPanic rfl rfl rfl rfl (ev_nilCheck rfl) ?_ | refine RS_m retB_noPanic rfl rfl rfl rfl (ev_nilCheckF (by simp) rfl) ?_)
      refine RS_m retB_noPanic rfl rfl rfl rfl (ev_fieldAddr rfl) ?_
      refine RS_m retB_noPanic rfl rfl rfl rfl (ev_indexAddrA rfl rfl (by first | omega | (simp; done) | (simp; omega)) (by first | omega | (simp; done) | (simp; omega))) ?_
      refine RS_q retB_noPanic rfl rfl rfl rfl (ev_load rfl (by repeat' first | exact Ld.blk rfl | assumption | apply Ld.skip | apply Ld.app)) ?_
      refine RS_m retB_noPanic rfl rfl rfl rfl (ev_move rfl) ?_
      refine RS_m retB_noPanic rfl rfl rfl rfl (ev_move rfl) ?_
      refine RS_q retB_noPanic rfl rfl rfl rfl (ev_sliceH rfl rfl (by first | omega | (simp; done) | (simp; omega))) ?_
      refine RS_e (RE_eff rfl rfl rfl (eff_call rfl (s1 _ i1.skip m1.skip)) ?_); rintro _ _ ⟨rfl, rfl⟩; refine ⟨_, fun _ s => s, (by first | ((repeat first | exact fun _ s => s | apply en_keep | apply en_drop | apply en_app) <;> fail) | ((repeat first | exact en_refl | (apply en_blk; focus ((repeat' first | exact Pick.here | apply Pick.skip | apply Pick.app); done); focus rfl) | (apply en_own; focus ((repeat' first | exact Pick.here | apply Pick.skip | apply Pick.app); done); focus rfl) | (apply en_pick; focus ((repeat' first | exact Pick.here | apply Pick.skip | apply Pick.app); done)) | apply en_drop | apply en_app) <;> fail)), ?_⟩
      refine RS_m retB_noPanic rfl rfl rfl rfl (ev_move rfl) ?_
      refine RS_m_yes retB_noPanic rfl rfl rfl rfl ⟨_, rfl, rfl⟩ rfl (ev_move rfl) ?_
      (first | refine RS_m_yes retB_noPanic rfl rfl rfl rfl ⟨_, rfl, rfl⟩ rfl (ev_nilCheck rfl) ?_ | refine RS_m_yes retB_noPanic rfl rfl rfl rfl ⟨_, rfl, rfl⟩ rfl (ev_nilCheckF (by simp) rfl) ?_)
      refine RS_m_yes retB_noPanic rfl rfl rfl rfl ⟨_, rfl, rfl⟩ rfl (ev_fieldAddr rfl) ?_
      refine RS_m_yes retB_noPanic rfl rfl rfl rfl ⟨_, rfl, rfl⟩ rfl (ev_indexAddrA rfl rfl (by first | omega | (simp; done) | (simp; omega)) (by first | omega | (simp; done) | (simp; omega))) ?_
      refine RS_q_yes retB_noPanic rfl rfl rfl rfl ⟨_, rfl, rfl⟩ rfl (ev_load rfl (by repeat' first | exact Ld.blk rfl | assumption | apply Ld.skip | apply Ld.app)) ?_
      refine RS_m_yes retB_noPanic rfl rfl rfl rfl ⟨_, rfl, rfl⟩ rfl (ev_move rfl) ?_
      refine RS_m_yes retB_noPanic rfl rfl rfl rfl ⟨_, rfl, rfl⟩ rfl (ev_move rfl) ?_
      refine RS_q_yes retB_noPanic rfl rfl rfl rfl ⟨_, rfl, rfl⟩ rfl (ev_sliceL rfl rfl (by first | omega | (simp; done) | (simp; omega)) (by first | omega | (simp; done) | (simp; omega))) ?_
      refine RS_e (RE_eff_yes rfl rfl rfl ⟨_, rfl, rfl⟩ rfl (eff_call rfl (s2 _ i2.skip m2.skip)) ?_); rintro _ _ ⟨rfl, rfl⟩; refine ⟨_, fun _ s => s, (by first | ((repeat first | exact fun _ s => s | apply en_keep | apply en_drop | apply en_app) <;> fail) | ((repeat first | exact en_refl | (apply en_blk; focus ((repeat' first | exact Pick.here | apply Pick.skip | apply Pick.app); done); focus rfl) | (apply en_own; focus ((repeat' first | exact Pick.here | apply Pick.skip | apply Pick.app); done); focus rfl) | (apply en_pick; focus ((repeat' first | exact Pick.here | apply Pick.skip | apply Pick.app); done)) | apply en_drop | apply en_app) <;> fail)), ?_⟩
      refine RS_m retB_noPanic rfl rfl rfl rfl (ev_pick_t rfl rfl rfl) ?_
      refine RS_m retB_noPanic rfl rfl rfl rfl (ev_assign rfl) ?_
      refine RS_nil ?_
      (repeat first | refine G_seq ?_ | refine G_skip ?_ | refine G_endblk ?_ | refine G_block ?_ | refine G_exit rfl ?_)
      refine G_ret rfl (.tmp rfl .nil) (by (repeat first | exact fun _ s => s | apply en_keep | apply en_drop | apply en_app) <;> fail) ⟨rfl, rfl⟩
theorem tCheck_ctr {t : Nat} {T : RT} {A : Option Addr} {c : Nat} {l : List Pt} {L : List HP} (h : TR L t T A c l) (hn : l.length ≤ 100000) : Ctr Tryz.prog 38 #[.pointer (some ⟨t, 0, none⟩)] L fun v L' => v = .bool true ∧ L' = L := by
  have z0 : Ld L ⟨t, 0 + 0, none⟩ (.pointer T.addr) := h.z.at_ (i := 0) rfl
  have z1 : Ld L ⟨t, 0 + 1, none⟩ (.slice A l.length c) := h.z.at_ (i := 1) rfl
  have hin := h.i
  have ho := h.o
  have hs := fun M (hi : RIn M T) (hr : Rd M A l.length l) => rsound_ctr T l A l.length c M hi ho hn hr h.c1 h.c2
  have hI := fun M (hr : Rd M A l.length l) => IsO_ctr less_ls A l.length c l M hr (by omega) (h.a.srt sto_less)
  cases hT : T with
  | nil =>
    subst hT
    refine Ctr_of (fn := Tryz.f38) (n := 40) Tryz.func38 rfl rfl rfl ?_
    intro g F
    (repeat first | refine G_seq ?_ | refine G_skip ?_ | refine G_endblk ?_ | refine G_block ?_ | refine G_exit rfl ?_)
    refine G_region ?_
    refine GO_q rfl rfl (ev_assign rfl) ?_
    refine GO_nil ?_
    (repeat first | refine G_seq ?_ | refine G_skip ?_ | refine G_endblk ?_ | refine G_block ?_ | refine G_exit rfl ?_)
    refine G_draw (.q 0 (.q 1 (.q 2 (.q 3 (.q 4 (.q 5 (.q 6 (.e 7 (.q 8 (.q 9 (.q 10 (.q 11 (.q 12 (.q 13 (.q 14 (.q 15 (.q 16 (.q 17 (.q 18 (.e 19 (.q 20 (.q 21 .nil)))))))))))))))))))))) (by kernel_rfl) (by kernel_rfl) ?_
    refine RS_m retB_noPanic rfl rfl rfl rfl (ev_move rfl) ?_
    (first | refine RS_m retB_noPanic rfl rfl rfl rfl (ev_eqlNil rfl rfl) ?_ | refine RS_m retB_noPanic rfl rfl rfl rfl (ev_eqlPtr rfl rfl) ?_)
    refine RS_m retB_noPanic rfl rfl rfl rfl (ev_move rfl) ?_
    refine RS_m_yes retB_noPanic rfl rfl rfl rfl ⟨_, rfl, rfl⟩ rfl (ev_move rfl) ?_
    (first | refine RS_m_yes retB_noPanic rfl rfl rfl rfl ⟨_, rfl, rfl⟩ rfl (ev_nilCheck rfl) ?_ | refine RS_m_yes retB_noPanic rfl rfl rfl rfl ⟨_, rfl, rfl⟩ rfl (ev_nilCheckF (by simp) rfl) ?_)
    refine RS_m_yes retB_noPanic rfl rfl rfl rfl ⟨_, rfl, rfl⟩ rfl (ev_fieldAddr rfl) ?_
    refine RS_q_yes retB_noPanic rfl rfl rfl rfl ⟨_, rfl, rfl⟩ rfl (ev_load rfl (by repeat' first | exact Ld.blk rfl | assumption | apply Ld.skip | apply Ld.app)) ?_
    refine RS_e (RE_eff_yes rfl rfl rfl ⟨_, rfl, rfl⟩ rfl (eff_call rfl (hI _ h.r.skip)) ?_); rintro _ _ ⟨rfl, rfl⟩; refine ⟨_, fun _ s => s, (by first | ((repeat first | exact fun _ s => s | apply en_keep | apply en_drop | apply en_app) <;> fail) | ((repeat first | exact en_refl | (apply en_blk; focus ((repeat' first | exact Pick.here | apply Pick.skip | apply Pick.app); done); focus rfl) | (apply en_own; focus ((repeat' first | exact Pick.here | apply Pick.skip | apply Pick.app); done); focus rfl) | (apply en_pick; focus ((repeat' first | exact Pick.here | apply Pick.skip | apply Pick.app); done)) | apply en_drop | apply en_app) <;> fail)), ?_⟩
    refine RS_m_yes retB_noPanic rfl rfl rfl rfl ⟨_, rfl, rfl⟩ rfl (ev_not rfl) ?_
    refine RS_m retB_noPanic rfl rfl rfl rfl (ev_pick_f rfl rfl rfl) ?_
    refine RS_m retB_noPanic rfl rfl rfl rfl (ev_move rfl) ?_
    refine RS_m_yes retB_noPanic rfl rfl rfl rfl ⟨_, rfl, rfl⟩ rfl (ev_move rfl) ?_
    (first | refine RS_m_yes retB_noPanic rfl rfl rfl rfl ⟨_, rfl, rfl⟩ rfl (ev_nilCheck rfl) ?_ | refine RS_m_yes retB_noPanic rfl rfl rfl rfl ⟨_, rfl, rfl⟩ rfl (ev_nilCheckF (by simp) rfl) ?_)
    refine RS_m_yes retB_noPanic rfl rfl rfl rfl ⟨_, rfl, rfl⟩ rfl (ev_fieldAddr rfl) ?_
    refine RS_q_yes retB_noPanic rfl rfl rfl rfl ⟨_, rfl, rfl⟩ rfl (ev_load rfl (by repeat' first | exact Ld.blk rfl | assumption | apply Ld.skip | apply Ld.app)) ?_
    refine RS_m_yes retB_noPanic rfl rfl rfl rfl ⟨_, rfl, rfl⟩ rfl (ev_move rfl) ?_
    (first | refine RS_m_yes retB_noPanic rfl rfl rfl rfl ⟨_, rfl, rfl⟩ rfl (ev_nilCheck rfl) ?_ | refine RS_m_yes retB_noPanic rfl rfl rfl rfl ⟨_, rfl, rfl⟩ rfl (ev_nilCheckF (by simp) rfl) ?_)
    refine RS_m_yes retB_noPanic rfl rfl rfl rfl ⟨_, rfl, rfl⟩ rfl (ev_fieldAddr rfl) ?_
    refine RS_q_yes retB_noPanic rfl rfl rfl rfl ⟨_, rfl, rfl⟩ rfl (ev_load rfl (by repeat' first | exact Ld.blk rfl | assumption | apply Ld.skip | apply Ld.app)) ?_
    refine RS_e (RE_eff_yes rfl rfl rfl ⟨_, rfl, rfl⟩ rfl (eff_call rfl (hs _ trivial h.r.skip)) ?_); rintro _ _ ⟨rfl, rfl⟩; refine ⟨_, fun _ s => s, (by first | ((repeat first | exact fun _ s => s | apply en_keep | apply en_drop | apply en_app) <;> fail) | ((repeat first | exact en_refl | (apply en_blk; focus ((repeat' first | exact Pick.here | apply Pick.skip | apply Pick.app); done); focus rfl) | (apply en_own; focus ((repeat' first | exact Pick.here | apply Pick.skip | apply Pick.app); done); focus rfl) | (apply en_pick; focus ((repeat' first | exact Pick.here | apply Pick.skip | apply Pick.app); done)) | apply en_drop | apply en_app) <;> fail)), ?_⟩
    refine RS_m_yes retB_noPanic rfl rfl rfl rfl ⟨_, rfl, rfl⟩ rfl (ev_not rfl) ?_
    refine RS_m retB_noPanic rfl rfl rfl rfl (ev_pick_f rfl rfl rfl) ?_
    refine RS_nil ?_
    (repeat first | refine G_seq ?_ | refine G_skip ?_ | refine G_endblk ?_ | refine G_block ?_ | refine G_exit rfl ?_)
    refine G_cond_f rfl rfl ?_
    (repeat first | refine G_seq ?_ | refine G_skip ?_ | refine G_endblk ?_ | refine G_block ?_ | refine G_exit rfl ?_)
    refine G_region ?_
    refine GO_q rfl rfl (ev_move rfl) ?_
    (first | refine GO_q rfl rfl (ev_nilCheck rfl) ?_ | refine GO_q rfl rfl (ev_nilCheckF (by simp) rfl) ?_)
    refine GO_q rfl rfl (ev_fieldAddr rfl) ?_
    refine GO_q rfl rfl (ev_load rfl (by repeat' first | exact Ld.blk rfl | assumption | apply Ld.skip | apply Ld.app)) ?_
    (first | refine GO_q rfl rfl (ev_eqlNil rfl rfl) ?_ | refine GO_q rfl rfl (ev_eqlPtr rfl rfl) ?_)
    refine GO_q rfl rfl (ev_move rfl) ?_
    refine GO_no rfl rfl rfl rfl ?_
    refine GO_no rfl rfl rfl rfl ?_
    refine GO_no rfl rfl rfl rfl ?_
    refine GO_no rfl rfl rfl rfl ?_
    refine GO_no rfl rfl rfl rfl ?_
    refine GO_no rfl rfl rfl rfl ?_
    refine GO_no rfl rfl rfl rfl ?_
    refine GO_no rfl rfl rfl rfl ?_
    refine GO_q rfl rfl (ev_pick_t rfl rfl rfl) ?_
    refine GO_q rfl rfl (ev_assign rfl) ?_
    refine GO_nil ?_
    (repeat first | refine G_seq ?_ | refine G_skip ?_ | refine G_endblk ?_ | refine G_block ?_ | refine G_exit rfl ?_)
    refine G_ret rfl (.tmp rfl .nil) (by (repeat first | exact fun _ s => s | apply en_keep | apply en_drop | apply en_app) <;> fail) ⟨rfl, rfl⟩
  | node d q a u v lo hi' =>
    subst hT
    have z5 : Ld L ⟨t, 0 + 0, none⟩ (.pointer (some ⟨d, 0, none⟩)) := z0
    have z6 : Ld L ⟨d, 0 + 0, none⟩ (.pointer q) := hin.1.at_ (i := 0) rfl
    have ha : ArrIn L q a := hin.2.1
    have hsa := fun X => asound_ctr (RT.node d q a u v lo hi') l (X :: L) q ho hn (show ArrIn (X :: L) q a from ha.skip)
    cases hq : q with
    | none =>
      subst hq
      exfalso
      have hl := ho.len
      have hpos : 0 < l.length := by obtain ⟨⟨pf, g0, _⟩, _⟩ := ho; have := (List.getElem?_eq_some_iff.1 g0).1; omega
      cases a with
      | nil => have : (0 : Nat) = l.length := hl; omega
      | node => simp [ArrIn] at ha
    | some qa =>
      subst hq
      have hC := fun X => Check_ctr qa (X :: L) (fun Y => (asound_ctr (RT.node d (some qa) a u v lo hi') l (Y :: X :: L) (some qa) ho hn (show ArrIn (Y :: X :: L) (some qa) a from ha.skip.skip)))
      refine Ctr_of (fn := Tryz.f38) (n := 40) Tryz.func38 rfl rfl rfl ?_
      intro g F
      (repeat first | refine G_seq ?_ | refine G_skip ?_ | refine G_endblk ?_ | refine G_block ?_ | refine G_exit rfl ?_)
      refine G_region ?_
      refine GO_q rfl rfl (ev_assign rfl) ?_
      refine GO_nil ?_
      (repeat first | refine G_seq ?_ | refine G_skip ?_ | refine G_endblk ?_ | refine G_block ?_ | refine G_exit rfl ?_)
      refine G_draw (.q 0 (.q 1 (.q 2 (.q 3 (.q 4 (.q 5 (.q 6 (.e 7 (.q 8 (.q 9 (.q 10 (.q 11 (.q 12 (.q 13 (.q 14 (.q 15 (.q 16 (.q 17 (.q 18 (.e 19 (.q 20 (.q 21 .nil)))))))))))))))))))))) (by kernel_rfl) (by kernel_rfl) ?_
      refine RS_m retB_noPanic rfl rfl rfl rfl (ev_move rfl) ?_
      (first | refine RS_m retB_noPanic rfl rfl rfl rfl (ev_eqlNil rfl rfl) ?_ | refine RS_m retB_noPanic rfl rfl rfl rfl (ev_eqlPtr rfl rfl) ?_)
      refine RS_m retB_noPanic rfl rfl rfl rfl (ev_move rfl) ?_
      refine RS_m_yes retB_noPanic rfl rfl rfl rfl ⟨_, rfl, rfl⟩ rfl (ev_move rfl) ?_
      (first | refine RS_m_yes retB_noPanic rfl rfl rfl rfl ⟨_, rfl, rfl⟩ rfl (ev_nilCheck rfl) ?_ | refine RS_m_yes retB_noPanic rfl rfl rfl rfl ⟨_, rfl, rfl⟩ rfl (ev_nilCheckF (by simp) rfl) ?_)
      refine RS_m_yes retB_noPanic rfl rfl rfl rfl ⟨_, rfl, rfl⟩ rfl (ev_fieldAddr rfl) ?_
      refine RS_q_yes retB_noPanic rfl rfl rfl rfl ⟨_, rfl, rfl⟩ rfl (ev_load rfl (by repeat' first | exact Ld.blk rfl | assumption | apply Ld.skip | apply Ld.app)) ?_
      refine RS_e (RE_eff_yes rfl rfl rfl ⟨_, rfl, rfl⟩ rfl (eff_call rfl (hI _ h.r.skip)) ?_); rintro _ _ ⟨rfl, rfl⟩; refine ⟨_, fun _ s => s, (by first | ((repeat first | exact fun _ s => s | apply en_keep | apply en_drop | apply en_app) <;> fail) | ((repeat first | exact en_refl | (apply en_blk; focus ((repeat' first | exact Pick.here | apply Pick.skip | apply Pick.app); done); focus rfl) | (apply en_own; focus ((repeat' first | exact Pick.here | apply Pick.skip | apply Pick.app); done); focus rfl) | (apply en_pick; focus ((repeat' first | exact Pick.here | apply Pick.skip | apply Pick.app); done)) | apply en_drop | apply en_app) <;> fail)), ?_⟩
      refine RS_m_yes retB_noPanic rfl rfl rfl rfl ⟨_, rfl, rfl⟩ rfl (ev_not rfl) ?_
      refine RS_m retB_noPanic rfl rfl rfl rfl (ev_pick_f rfl rfl rfl) ?_
      refine RS_m retB_noPanic rfl rfl rfl rfl (ev_move rfl) ?_
      refine RS_m_yes retB_noPanic rfl rfl rfl rfl ⟨_, rfl, rfl⟩ rfl (ev_move rfl) ?_
      (first | refine RS_m_yes retB_noPanic rfl rfl rfl rfl ⟨_, rfl, rfl⟩ rfl (ev_nilCheck rfl) ?_ | refine RS_m_yes retB_noPanic rfl rfl rfl rfl ⟨_, rfl, rfl⟩ rfl (ev_nilCheckF (by simp) rfl) ?_)
      refine RS_m_yes retB_noPanic rfl rfl rfl rfl ⟨_, rfl, rfl⟩ rfl (ev_fieldAddr rfl) ?_
      refine RS_q_yes retB_noPanic rfl rfl rfl rfl ⟨_, rfl, rfl⟩ rfl (ev_load rfl (by repeat' first | exact Ld.blk rfl | assumption | apply Ld.skip | apply Ld.app)) ?_
      refine RS_m_yes retB_noPanic rfl rfl rfl rfl ⟨_, rfl, rfl⟩ rfl (ev_move rfl) ?_
      (first | refine RS_m_yes retB_noPanic rfl rfl rfl rfl ⟨_, rfl, rfl⟩ rfl (ev_nilCheck rfl) ?_ | refine RS_m_yes retB_noPanic rfl rfl rfl rfl ⟨_, rfl, rfl⟩ rfl (ev_nilCheckF (by simp) rfl) ?_)
      refine RS_m_yes retB_noPanic rfl rfl rfl rfl ⟨_, rfl, rfl⟩ rfl (ev_fieldAddr rfl) ?_
      refine RS_q_yes retB_noPanic rfl rfl rfl rfl ⟨_, rfl, rfl⟩ rfl (ev_load rfl (by repeat' first | exact Ld.blk rfl | assumption | apply Ld.skip | apply Ld.app)) ?_
      refine RS_e (RE_eff_yes rfl rfl rfl ⟨_, rfl, rfl⟩ rfl (eff_call rfl (hs _ hin.skip h.r.skip)) ?_); rintro _ _ ⟨rfl, rfl⟩; refine ⟨_, fun _ s => s, (by first | ((repeat first | exact fun _ s => s | apply en_keep | apply en_drop | apply en_app) <;> fail) | ((repeat first | exact en_refl | (apply en_blk; focus ((repeat' first | exact Pick.here | apply Pick.skip | apply Pick.app); done); focus rfl) | (apply en_own; focus ((repeat' first | exact Pick.here | apply Pick.skip | apply Pick.app); done); focus rfl) | (apply en_pick; focus ((repeat' first | exact Pick.here | apply Pick.skip | apply Pick.app); done)) | apply en_drop | apply en_app) <;> fail)), ?_⟩
      refine RS_m_yes retB_noPanic rfl rfl rfl rfl ⟨_, rfl, rfl⟩ rfl (ev_not rfl) ?_
      refine RS_m retB_noPanic rfl rfl rfl rfl (ev_pick_f rfl rfl rfl) ?_
      refine RS_nil ?_
      (repeat first | refine G_seq ?_ | refine G_skip ?_ | refine G_endblk ?_ | refine G_block ?_ | refine G_exit rfl ?_)
      refine G_cond_f rfl rfl ?_
      (repeat first | refine G_seq ?_ | refine G_skip ?_ | refine G_endblk ?_ | refine G_block ?_ | refine G_exit rfl ?_)
      refine G_region ?_
      refine GO_q rfl rfl (ev_move rfl) ?_
      (first | refine GO_q rfl rfl (ev_nilCheck rfl) ?_ | refine GO_q rfl rfl (ev_nilCheckF (by simp) rfl) ?_)
      refine GO_q rfl rfl (ev_fieldAddr rfl) ?_
      refine GO_q rfl rfl (ev_load rfl (by repeat' first | exact Ld.blk rfl | assumption | apply Ld.skip | apply Ld.app)) ?_
      (first | refine GO_q rfl rfl (ev_eqlNil rfl rfl) ?_ | refine GO_q rfl rfl (ev_eqlPtr rfl rfl) ?_)
      refine GO_q rfl rfl (ev_move rfl) ?_
      refine GO_yes rfl rfl rfl rfl ?_
      refine GO_q rfl rfl (ev_move rfl) ?_
      refine GO_yes rfl rfl rfl rfl ?_
      (first | refine GO_q rfl rfl (ev_nilCheck rfl) ?_ | refine GO_q rfl rfl (ev_nilCheckF (by simp) rfl) ?_)
      refine GO_yes rfl rfl rfl rfl ?_
      refine GO_q rfl rfl (ev_fieldAddr rfl) ?_
      refine GO_yes rfl rfl rfl rfl ?_
      refine GO_q rfl rfl (ev_load rfl (by repeat' first | exact Ld.blk rfl | assumption | apply Ld.skip | apply Ld.app)) ?_
      refine GO_yes rfl rfl rfl rfl ?_
      (first | refine GO_q rfl rfl (ev_nilCheck rfl) ?_ | refine GO_q rfl rfl (ev_nilCheckF (by simp) rfl) ?_)
      refine GO_yes rfl rfl rfl rfl ?_
      refine GO_q rfl rfl (ev_fieldAddr rfl) ?_
      refine GO_yes rfl rfl rfl rfl ?_
      refine GO_q rfl rfl (ev_load rfl (by repeat' first | exact Ld.blk rfl | assumption | apply Ld.skip | apply Ld.app)) ?_
      refine GO_yes rfl rfl rfl rfl ?_
      refine GO_eff rfl rfl (eff_call rfl (hC F)) ?_; rintro _ _ ⟨rfl, rfl⟩
      refine GO_q rfl rfl (ev_pick_f rfl rfl rfl) ?_
      refine GO_q rfl rfl (ev_assign rfl) ?_
      refine GO_nil ?_
      (repeat first | refine G_seq ?_ | refine G_skip ?_ | refine G_endblk ?_ | refine G_block ?_ | refine G_exit rfl ?_)
      refine G_ret rfl (.tmp rfl .nil) (by (repeat first | exact fun _ s => s | apply en_keep | apply en_drop | apply en_app) <;> fail) ⟨rfl, rfl⟩
end Go.Proofs.YtkoncepjfgnjlaaGreat
/- Points in several trees: Check. -/
namespace Go.Proofs.YtkoncepjfgnjlaaGreat
attribute [local irreducible] sat
open Go.RowKit
set_option linter.unusedVariables false
set_option linter.unusedSimpArgs false
set_option maxRecDepth 100000

theorem oCheck_ctr (o : Option RTr) (L : List HP) (h : oat L o) (hn : (opts o).length ≤ 100000) (h0 : (opts o).length ≠ 0) : Ctr Tryz.prog 38 #[.pointer (oaddr o)] L fun v L' => v = .bool true ∧ L' = L := by
  cases o with
  | none => exact absurd rfl h0
  | some x => exact tCheck_ctr (h x rfl) hn
theorem JCheck_ctr {x : LgX} {S : LgS} {s m : Nat} {most : Int} {L : List HP} (hx : LgJ x S) (ok : LgOk S m) (hm : m ≤ 300) (h : LdN L s 0 5 (lsC x.A x.ts.length x.c x.b (S.d.length : Nat) most (S.bu : Nat))) (hr : Rd L x.A x.ts.length x.ts) (ht : ∀ o ∈ x.ts, oat L o) :
    Ctr Tryz.prog 11 #[.pointer (some ⟨s, 0, none⟩)] (mpH x.b x.M :: L) fun v L' => v = .bool true ∧ L' = mpH x.b x.M :: L := by
  have hll := ok.live_len
  have htot := ok.tot
  have hfew := ok.few
  have hn10 := ok.ll (by omega)
  have hlen := hx.cor.len
  have hml := hx.mp.len
  have hol := hx.toLgI.oLen ok.tot
  have hfp := hx.cor.flat
  have hnd : (x.ts.flatMap opts).Nodup := hfp.nodup_iff.2 ok.nd
  have hlive := fun M h1 h2 => JLive_ctr (s := s) (most := most) (L := M) hx h1 h2 hll (by omega)
  have hkn := fun M h1 h2 p => JKnown_ctr (s := s) (most := most) (L := M) hx h1 h2 p ok.nd
  have hsz : ∀ k o, x.ts[k]? = some o → (opts o).length = 0 ∨ (opts o).length = 1 * 2 ^ k := fun k o e => by
    obtain ⟨l, e1, e2⟩ := hx.cor.at_ e
    have := ok.sz.at_ e1
    rw [Nat.zero_add] at this
    rw [e2, srtO_length]; omega
  have hdd : (dds x.M).length = S.d.length := hx.mp.d.length_eq
  have hcol := fun b1 L h1 h2 => colDead_ctr b1 s x.b x.ts.length x.c x.A (S.d.length : Nat) most (S.bu : Nat) x.M L h1 h2 (by omega)
  have l0 : Ld L ⟨s, 0 + 0, none⟩ (.slice x.A x.ts.length x.c) := h.at_ (i := 0) rfl
  have l1 : Ld L ⟨s, 0 + 1, none⟩ (.map (some x.b)) := h.at_ (i := 1) rfl
  have l2 : Ld L ⟨s, 0 + 2, none⟩ (.int .i64 (S.d.length : Nat)) := h.at_ (i := 2) rfl
  have hmem : ∀ p, p ∈ S.ls.flatten ↔ p ∈ x.ts.flatMap opts := fun p => hfp.mem_iff.symm
  have hfl : (x.ts.flatMap opts).length = S.ls.flatten.length := hfp.length_eq
  clear hfp
  generalize hts : x.ts = ts at *
  obtain ⟨n, hn⟩ : ∃ n, ts.length = n := ⟨_, rfl⟩
  rw [hn] at h hr l0 hlive hkn hcol hlen
  refine Ctr_of (fn := Tryz.f11) (n := 92) Tryz.func11 rfl rfl rfl ?_
  intro g F
  (repeat first | refine G_seq ?_ | refine G_skip ?_ | refine G_endblk ?_ | refine G_block ?_ | refine G_exit rfl ?_)
  refine G_region ?_
  refine GO_eff rfl rfl (eff_box rfl) ?_; rintro _ _ ⟨b1, rfl, rfl⟩
  refine GO_q rfl rfl (ev_assign rfl) ?_
  refine GO_nil ?_
  (repeat first | refine G_seq ?_ | refine G_skip ?_ | refine G_endblk ?_ | refine G_block ?_ | refine G_exit rfl ?_)
  refine G_draw (.q 0 (.q 1 (.q 2 (.q 3 (.q 4 (.q 5 (.q 6 (.q 7 (.e 8 (.q 9 (.q 10 .nil))))))))))) (by kernel_rfl) (by kernel_rfl) ?_
  refine RS_q retB_noPanic rfl rfl rfl rfl (ev_load rfl (by repeat' first | exact Ld.blk rfl | assumption | apply Ld.skip | apply Ld.app)) ?_
  (first | refine RS_m retB_noPanic rfl rfl rfl rfl (ev_eqlNil rfl rfl) ?_ | refine RS_m retB_noPanic rfl rfl rfl rfl (ev_eqlPtr rfl rfl) ?_)
  refine RS_m retB_noPanic rfl rfl rfl rfl (ev_move rfl) ?_
  refine RS_q_yes retB_noPanic rfl rfl rfl rfl ⟨_, rfl, rfl⟩ rfl (ev_load rfl (by repeat' first | exact Ld.blk rfl | assumption | apply Ld.skip | apply Ld.app)) ?_
  (first | refine RS_m_yes retB_noPanic rfl rfl rfl rfl ⟨_, rfl, rfl⟩ rfl (ev_nilCheck rfl) ?_ | refine RS_m_yes retB_noPanic rfl rfl rfl rfl ⟨_, rfl, rfl⟩ rfl (ev_nilCheckF (by simp) rfl) ?_)
  refine RS_m_yes retB_noPanic rfl rfl rfl rfl ⟨_, rfl, rfl⟩ rfl (ev_fieldAddr rfl) ?_
  refine RS_q_yes retB_noPanic rfl rfl rfl rfl ⟨_, rfl, rfl⟩ rfl (ev_load rfl (by repeat' first | exact Ld.blk rfl | assumption | apply Ld.skip | apply Ld.app)) ?_
  refine RS_q_yes retB_noPanic rfl rfl rfl rfl ⟨_, rfl, rfl⟩ rfl (ev_load rfl (by repeat' first | exact Ld.blk rfl | assumption | apply Ld.skip | apply Ld.app)) ?_
  refine RS_e (RE_eff_yes rfl rfl rfl ⟨_, rfl, rfl⟩ rfl (eff_call rfl (hlive _ (by repeat' first | exact LdN.blk rfl | assumption | apply LdN.skip | apply LdN.app) (by repeat' first | exact Mp.here | apply Mp.skip))) ?_); rintro _ _ ⟨rfl, rfl⟩; refine ⟨_, fun _ s => s, (by first | ((repeat first | exact fun _ s => s | apply en_keep | apply en_drop | apply en_app) <;> fail) | ((repeat first | exact en_refl | (apply en_blk; focus ((repeat' first | exact Pick.here | apply Pick.skip | apply Pick.app); done); focus rfl) | (apply en_own; focus ((repeat' first | exact Pick.here | apply Pick.skip | apply Pick.app); done); focus rfl) | (apply en_pick; focus ((repeat' first | exact Pick.here | apply Pick.skip | apply Pick.app); done)) | apply en_drop | apply en_app) <;> fail)), ?_⟩
  refine RS_m_yes retB_noPanic rfl rfl rfl rfl ⟨_, rfl, rfl⟩ rfl (ev_gtr rfl rfl) ?_
  refine RS_m retB_noPanic rfl rfl rfl rfl (ev_pick_f rfl rfl rfl) ?_
  refine RS_nil ?_
  (repeat first | refine G_seq ?_ | refine G_skip ?_ | refine G_endblk ?_ | refine G_block ?_ | refine G_exit rfl ?_)
  refine G_cond_f rfl (decide_eq_false (by omega)) ?_
  (repeat first | refine G_seq ?_ | refine G_skip ?_ | refine G_endblk ?_ | refine G_block ?_ | refine G_exit rfl ?_)
  (repeat first | refine G_seq ?_ | refine G_skip ?_ | refine G_endblk ?_ | refine G_block ?_ | refine G_exit rfl ?_)
  refine G_region ?_
  refine GO_eff rfl rfl eff_makeMap ?_; rintro _ _ ⟨b23, rfl, rfl⟩
  refine GO_q rfl rfl (ev_assign rfl) ?_
  refine GO_nil ?_
  (repeat first | refine G_seq ?_ | refine G_skip ?_ | refine G_endblk ?_ | refine G_block ?_ | refine G_exit rfl ?_)
  refine G_region ?_
  refine GO_q rfl rfl (ev_load rfl (by repeat' first | exact Ld.blk rfl | assumption | apply Ld.skip | apply Ld.app)) ?_
  (first | refine GO_q rfl rfl (ev_nilCheck rfl) ?_ | refine GO_q rfl rfl (ev_nilCheckF (by simp) rfl) ?_)
  refine GO_q rfl rfl (ev_fieldAddr rfl) ?_
  refine GO_q rfl rfl (ev_load rfl (by repeat' first | exact Ld.blk rfl | assumption | apply Ld.skip | apply Ld.app)) ?_
  refine GO_q rfl rfl (ev_len rfl) ?_
  refine GO_q rfl rfl (ev_move rfl) ?_
  refine GO_nil ?_
  (repeat first | refine G_seq ?_ | refine G_skip ?_ | refine G_endblk ?_ | refine G_block ?_ | refine G_exit rfl ?_)
  refine G_loop (ι := Nat × List (Pt × Bool)) (fun y => [(1, .pointer (some ⟨b1, 0, none⟩)), (3, .map (some b23)), (27, .slice x.A n x.c), (28, .int .i64 (n : Nat)), (29, .int .i64 (y.1 : Nat))]) (fun y => mpH b23 y.2 :: mpH x.b x.M :: blk b1 22 [.pointer (some ⟨s, 0, none⟩)] :: F :: L)
    (fun y => y.1 ≤ n ∧ (keyM y.2).Perm ((ts.take y.1).flatMap opts)) (fun y => n - y.1) (0, []) ⟨Nat.zero_le _, .refl _⟩ ⟨rfl, rfl, rfl, rfl, rfl, trivial⟩ (by (repeat first | exact en_refl | (apply en_blk; focus ((repeat' first | exact Pick.here | apply Pick.skip | apply Pick.app); done); focus rfl) | (apply en_own; focus ((repeat' first | exact Pick.here | apply Pick.skip | apply Pick.app); done); focus rfl) | (apply en_pick; focus ((repeat' first | exact Pick.here | apply Pick.skip | apply Pick.app); done)) | apply en_drop | apply en_app) <;> fail) ?_
  rintro ⟨k, M9⟩ ⟨f1, f2⟩
  simp only at f1 f2
  dsimp only
  (repeat first | refine G_seq ?_ | refine G_skip ?_ | refine G_endblk ?_ | refine G_block ?_ | refine G_exit rfl ?_)
  refine G_region ?_
  (first | refine GO_q rfl rfl (ev_lssN rfl rfl) ?_ | refine GO_q rfl rfl (ev_lss rfl rfl) ?_)
  refine GO_nil ?_
  (repeat first | refine G_seq ?_ | refine G_skip ?_ | refine G_endblk ?_ | refine G_block ?_ | refine G_exit rfl ?_)
  refine G_cond rfl (fun c1 => ?_) (fun c1 => ?_)
  · obtain ⟨lb, lo, eA, hxx⟩ := hr.at_ (by omega)
    rw [eA]
    have g1 : ts[k]? = some ts[k] := List.getElem?_eq_getElem (by omega)
    have y1 := (hxx _ _ g1).at_ (i := 0) rfl
    have s1 : (ts.take (k + 1)).flatMap opts = (ts.take k).flatMap opts ++ opts ts[k] := by
      rw [List.take_succ_eq_append_getElem (by omega), List.flatMap_append, List.flatMap_cons, List.flatMap_nil, List.append_nil]
    have o1 := ht ts[k] (List.getElem_mem _)
    have o2 := hol ts[k] (List.getElem_mem _)
    have o3 := hsz k _ g1
    have o4 : ((ts.take k).flatMap opts ++ opts ts[k]).Sublist (ts.flatMap opts) := by
      rw [← s1]
      conv => rhs; rw [← List.take_append_drop (k + 1) ts]
      rw [List.flatMap_append]; exact List.sublist_append_left _ _
    generalize ts[k] = o at *
    have z1 : Ld L ⟨lb, lo + k * 1, none⟩ (.pointer (oaddr o)) := y1
    have hL := fun M hM => oLen_ctr o M hM
    have hP := fun M hM => oPoints_ctr o M hM (by omega)
    (repeat first | refine G_seq ?_ | refine G_skip ?_ | refine G_endblk ?_ | refine G_block ?_ | refine G_exit rfl ?_)
    refine G_region ?_
    refine GO_q rfl rfl (ev_move rfl) ?_
    (first | refine GO_q rfl rfl (ev_indexAddrN rfl rfl (by first | omega | (simp; done) | (simp; omega))) ?_ | refine GO_q rfl rfl (ev_indexAddr rfl rfl (by first | omega | (simp; done) | (simp; omega)) (by first | omega | (simp; done) | (simp; omega))) ?_)
    refine GO_q rfl rfl (ev_load rfl (by repeat' first | exact Ld.blk rfl | assumption | apply Ld.skip | apply Ld.app)) ?_
    refine GO_q rfl rfl (ev_assign rfl) ?_
    refine GO_q rfl rfl (ev_assign rfl) ?_
    refine GO_nil ?_
    (repeat first | refine G_seq ?_ | refine G_skip ?_ | refine G_endblk ?_ | refine G_block ?_ | refine G_exit rfl ?_)
    refine G_region ?_
    refine GO_q rfl rfl (ev_move rfl) ?_
    refine GO_eff rfl rfl (eff_call rfl (hL _ (by repeat' first | exact o1 | apply oat.skip))) ?_; rintro _ _ ⟨rfl, rfl⟩
    refine GO_q rfl rfl (ev_assign rfl) ?_
    refine GO_nil ?_
    have hC := fun M hM => oCheck_ctr o M hM (by omega)
    by_cases c2 : (opts o).length = 0
    case' pos =>
      (repeat first | refine G_seq ?_ | refine G_skip ?_ | refine G_endblk ?_ | refine G_block ?_ | refine G_exit rfl ?_)
      refine G_region ?_
      refine GO_q rfl rfl (ev_move rfl) ?_
      refine GO_q rfl rfl (ev_neq rfl rfl) ?_
      refine GO_q rfl rfl (ev_move rfl) ?_
      refine GO_no rfl rfl rfl (by simp [c2]) ?_
      refine GO_no rfl rfl rfl (by simp [c2]) ?_
      refine GO_no rfl rfl rfl (by simp [c2]) ?_
      refine GO_no rfl rfl rfl (by simp [c2]) ?_
      refine GO_no rfl rfl rfl (by simp [c2]) ?_
      refine GO_undef rfl rfl rfl ?_
      refine GO_undef rfl rfl rfl ?_
      refine GO_undef rfl rfl rfl ?_
      refine GO_no rfl rfl rfl (by simp [c2]) ?_
      refine GO_q rfl rfl (ev_pick_f rfl (by simp [c2]) rfl) ?_
      refine GO_nil ?_
      (repeat first | refine G_seq ?_ | refine G_skip ?_ | refine G_endblk ?_ | refine G_block ?_ | refine G_exit rfl ?_)
      refine G_cond_f rfl rfl ?_
    case' neg =>
      have o5 : (opts o).length = 1 * 2 ^ k := by omega
      replace hC := fun M (hM : oat M o) => hC M hM c2
      (repeat first | refine G_seq ?_ | refine G_skip ?_ | refine G_endblk ?_ | refine G_block ?_ | refine G_exit rfl ?_)
      refine G_region ?_
      refine GO_q rfl rfl (ev_move rfl) ?_
      refine GO_q rfl rfl (ev_neq rfl rfl) ?_
      refine GO_q rfl rfl (ev_move rfl) ?_
      refine GO_yes rfl rfl rfl (decide_eq_true (by omega)) ?_
      refine GO_q rfl rfl (ev_move rfl) ?_
      refine GO_yes rfl rfl rfl (decide_eq_true (by omega)) ?_
      refine GO_q rfl rfl (ev_move rfl) ?_
      refine GO_yes rfl rfl rfl (decide_eq_true (by omega)) ?_
      refine GO_q rfl rfl (ev_shlN (p := 1) rfl rfl (by omega) (by omega)) ?_
      refine GO_yes rfl rfl rfl (decide_eq_true (by omega)) ?_
      refine GO_q rfl rfl (ev_neq rfl rfl) ?_
      refine GO_yes rfl rfl rfl (decide_eq_true (by omega)) ?_
      refine GO_q rfl rfl (ev_move rfl) ?_
      refine GO_yes rfl rfl rfl (by simp [o5]) ?_
      refine GO_q rfl rfl (ev_move rfl) ?_
      refine GO_yes rfl rfl rfl (by simp [o5]) ?_
      refine GO_eff rfl rfl (eff_call rfl (hC _ (by repeat' first | exact o1 | apply oat.skip))) ?_; rintro _ _ ⟨rfl, rfl⟩
      refine GO_yes rfl rfl rfl (by simp [o5]) ?_
      refine GO_q rfl rfl (ev_not rfl) ?_
      refine GO_yes rfl rfl rfl (decide_eq_true (by omega)) ?_
      refine GO_q rfl rfl (ev_pick_f rfl (by simp [o5]) rfl) ?_
      refine GO_q rfl rfl (ev_pick_t rfl (decide_eq_true (by omega)) rfl) ?_
      refine GO_nil ?_
      (repeat first | refine G_seq ?_ | refine G_skip ?_ | refine G_endblk ?_ | refine G_block ?_ | refine G_exit rfl ?_)
      refine G_cond_f rfl rfl ?_
    all_goals
      clear hC
      (repeat first | refine G_seq ?_ | refine G_skip ?_ | refine G_endblk ?_ | refine G_block ?_ | refine G_exit rfl ?_)
      refine G_region ?_
      refine GO_q rfl rfl (ev_move rfl) ?_
      refine GO_eff rfl rfl (eff_call rfl (hP _ (by repeat' first | exact o1 | apply oat.skip))) ?_; rintro _ _ ⟨Q, qc, rfl, hQ, rfl⟩
      refine GO_q rfl rfl (ev_len rfl) ?_
      refine GO_q rfl rfl (ev_move rfl) ?_
      refine GO_nil ?_
      (repeat first | refine G_seq ?_ | refine G_skip ?_ | refine G_endblk ?_ | refine G_block ?_ | refine G_exit rfl ?_)
      refine G_loop (ι := Nat × List (Pt × Bool)) (fun y => [(1, .pointer (some ⟨b1, 0, none⟩)), (3, .map (some b23)), (27, .slice (some ⟨lb, lo, none⟩) n x.c), (28, .int .i64 (n : Nat)), (29, .int .i64 (k : Nat)), (50, .slice Q (opts o).length qc), (51, .int .i64 ((opts o).length : Nat)), (52, .int .i64 (y.1 : Nat))]) (fun y => mpH b23 y.2 :: mpH x.b x.M :: own 28 3 Q (opts o).length qc (flat (opts o)) :: blk b1 22 [.pointer (some ⟨s, 0, none⟩)] :: F :: L)
        (fun y => y.1 ≤ (opts o).length ∧ (keyM y.2).Perm ((ts.take k).flatMap opts ++ (opts o).take y.1)) (fun y => (opts o).length - y.1) (0, M9) ⟨Nat.zero_le _, by simpa using f2⟩ ⟨rfl, rfl, rfl, rfl, rfl, rfl, rfl, rfl, trivial⟩ (by (repeat first | exact en_refl | (apply en_blk; focus ((repeat' first | exact Pick.here | apply Pick.skip | apply Pick.app); done); focus rfl) | (apply en_own; focus ((repeat' first | exact Pick.here | apply Pick.skip | apply Pick.app); done); focus rfl) | (apply en_pick; focus ((repeat' first | exact Pick.here | apply Pick.skip | apply Pick.app); done)) | apply en_drop | apply en_app) <;> fail) ?_
      rintro ⟨j, M8⟩ ⟨i1, i2⟩
      simp only at i1 i2
      dsimp only
      (repeat first | refine G_seq ?_ | refine G_skip ?_ | refine G_endblk ?_ | refine G_block ?_ | refine G_exit rfl ?_)
      refine G_region ?_
      (first | refine GO_q rfl rfl (ev_lssN rfl rfl) ?_ | refine GO_q rfl rfl (ev_lss rfl rfl) ?_)
      refine GO_nil ?_
      (repeat first | refine G_seq ?_ | refine G_skip ?_ | refine G_endblk ?_ | refine G_block ?_ | refine G_exit rfl ?_)
      refine G_cond rfl (fun c3 => ?_) (fun c3 => ?_)
      · obtain ⟨qb, rfl⟩ := hQ (by omega)
        have j1 : (opts o)[j]? = some (opts o)[j] := List.getElem?_eq_getElem (by omega)
        have j2 : (opts o).take (j + 1) = (opts o).take j ++ [(opts o)[j]] := List.take_succ_eq_append_getElem (by omega)
        have w1 : ∀ X, LdN (own 28 3 (some ⟨qb, 0, none⟩) (opts o).length qc (flat (opts o)) :: X) qb (0 + j * 3) 3 [.int .i64 (opts o)[j].id, .int .i64 (opts o)[j].x, .int .i64 (opts o)[j].y] := fun X => ld_ownP rfl j1 X
        have j3 : ((ts.take k).flatMap opts ++ (opts o).take j ++ [(opts o)[j]]).Sublist (ts.flatMap opts) := by
          rw [List.append_assoc, ← j2]
          exact ((List.Sublist.refl _).append (List.take_sublist _ _)).trans o4
        generalize (opts o)[j] = p at *
        have hpf : p ∈ S.ls.flatten := (hmem p).2 (j3.subset (by simp))
        have hpn : p ∉ keyM M8 := fun hm => by
          have := j3.nodup hnd
          rw [List.nodup_append] at this
          exact this.2.2 p (i2.mem_iff.1 hm) p (by simp) rfl
        have hg0 : (getM p M8).getD false = false := by rw [getM_none.2 hpn]; rfl
        have hkp := fun M h1 h2 => hkn M h1 h2 p
        rw [decide_eq_true hpf] at hkp
        (repeat first | refine G_seq ?_ | refine G_skip ?_ | refine G_endblk ?_ | refine G_block ?_ | refine G_exit rfl ?_)
        refine G_region ?_
        (first | refine GO_q rfl rfl (ev_indexAddrN rfl rfl (by first | omega | (simp; done) | (simp; omega))) ?_ | refine GO_q rfl rfl (ev_indexAddr rfl rfl (by first | omega | (simp; done) | (simp; omega)) (by first | omega | (simp; done) | (simp; omega))) ?_)
        refine GO_q rfl rfl (ev_loadN rfl (by repeat' first | exact w1 _ | apply LdN.skip)) ?_
        refine GO_eff rfl rfl eff_alloc ?_; rintro _ _ ⟨b8, rfl, rfl⟩
        refine GO_eff rfl rfl (eff_storeN rfl rfl rfl rfl (by repeat' first | exact Upd.here rfl | apply Upd.skip | apply Upd.app)) ?_; rintro _ _ ⟨rfl, rfl⟩
        refine GO_nil ?_
        (repeat first | refine G_seq ?_ | refine G_skip ?_ | refine G_endblk ?_ | refine G_block ?_ | refine G_exit rfl ?_)
        refine G_region ?_
        refine GO_q rfl rfl (ev_load rfl (by repeat' first | exact Ld.blk rfl | assumption | apply Ld.skip | apply Ld.app)) ?_
        refine GO_q rfl rfl (ev_loadN rfl (by repeat' first | exact LdN.blk rfl | assumption | apply LdN.skip | apply LdN.app)) ?_
        refine GO_eff rfl rfl (eff_call rfl (hkp _ (by repeat' first | exact LdN.blk rfl | assumption | apply LdN.skip) (by repeat' first | exact Mp.here | apply Mp.skip))) ?_; rintro _ _ ⟨rfl, rfl⟩
        refine GO_q rfl rfl (ev_move rfl) ?_
        refine GO_q rfl rfl (ev_extract rfl rfl) ?_
        refine GO_q rfl rfl (ev_extract rfl rfl) ?_
        refine GO_q rfl rfl (ev_assign rfl) ?_
        refine GO_q rfl rfl (ev_assign rfl) ?_
        refine GO_nil ?_
        (repeat first | refine G_seq ?_ | refine G_skip ?_ | refine G_endblk ?_ | refine G_block ?_ | refine G_exit rfl ?_)
        refine G_region ?_
        refine GO_q rfl rfl (ev_move rfl) ?_
        refine GO_q rfl rfl (ev_not rfl) ?_
        refine GO_q rfl rfl (ev_move rfl) ?_
        refine GO_yes rfl rfl rfl rfl ?_
        refine GO_q rfl rfl (ev_move rfl) ?_
        refine GO_yes rfl rfl rfl rfl ?_
        refine GO_q rfl rfl (ev_loadN rfl (by repeat' first | exact LdN.blk rfl | assumption | apply LdN.skip | apply LdN.app)) ?_
        refine GO_yes rfl rfl rfl rfl ?_
        refine GO_q rfl rfl (ev_lookup1 (p := p) rfl rfl (by repeat' first | exact Mp.here | apply Mp.skip)) ?_
        refine GO_q rfl rfl (ev_pick_f rfl rfl rfl) ?_
        refine GO_nil ?_
        rw [hg0]
        (repeat first | refine G_seq ?_ | refine G_skip ?_ | refine G_endblk ?_ | refine G_block ?_ | refine G_exit rfl ?_)
        refine G_cond_f rfl rfl ?_
        (repeat first | refine G_seq ?_ | refine G_skip ?_ | refine G_endblk ?_ | refine G_block ?_ | refine G_exit rfl ?_)
        refine G_region ?_
        refine GO_q rfl rfl (ev_move rfl) ?_
        refine GO_q rfl rfl (ev_loadN rfl (by repeat' first | exact LdN.blk rfl | assumption | apply LdN.skip | apply LdN.app)) ?_
        refine GO_eff rfl rfl (eff_mapUpdate rfl rfl rfl (by repeat' first | exact Pick.here | apply Pick.skip)) ?_; rintro _ _ ⟨rfl, rfl⟩
        refine GO_nil ?_
        (repeat first | refine G_seq ?_ | refine G_skip ?_ | refine G_endblk ?_ | refine G_block ?_ | refine G_exit rfl ?_)
        refine G_region ?_
        (first | refine GO_q rfl rfl (ev_addN (q := 1) rfl rfl (by first | omega | (simp; done) | (simp; omega))) ?_ | refine GO_q rfl rfl (ev_add rfl rfl (by first | omega | (simp; done) | (simp; omega))) ?_)
        refine GO_q rfl rfl (ev_move rfl) ?_
        refine GO_nil ?_
        (repeat first | refine G_seq ?_ | refine G_skip ?_ | refine G_endblk ?_ | refine G_block ?_ | refine G_exit rfl ?_)
        refine G_round (j + 1, putM p true M8) ⟨by simp only; omega, ?_⟩ (by simp only; omega) ⟨rfl, rfl, rfl, rfl, rfl, rfl, rfl, rfl, trivial⟩ (by (repeat first | exact en_refl | (apply en_blk; focus ((repeat' first | exact Pick.here | apply Pick.skip | apply Pick.app); done); focus rfl) | (apply en_own; focus ((repeat' first | exact Pick.here | apply Pick.skip | apply Pick.app); done); focus rfl) | (apply en_pick; focus ((repeat' first | exact Pick.here | apply Pick.skip | apply Pick.app); done)) | apply en_drop | apply en_app) <;> fail)
        simp only
        rw [putM_new hpn, keyM_app, j2, ← List.append_assoc]
        exact i2.append_right _
      · have e : j = (opts o).length := by omega
        subst e
        rw [List.take_length, ← s1] at i2
        (repeat first | refine G_seq ?_ | refine G_skip ?_ | refine G_endblk ?_ | refine G_block ?_ | refine G_exit rfl ?_)
        refine G_region ?_
        (first | refine GO_q rfl rfl (ev_addN (q := 1) rfl rfl (by first | omega | (simp; done) | (simp; omega))) ?_ | refine GO_q rfl rfl (ev_add rfl rfl (by first | omega | (simp; done) | (simp; omega))) ?_)
        refine GO_q rfl rfl (ev_move rfl) ?_
        refine GO_nil ?_
        (repeat first | refine G_seq ?_ | refine G_skip ?_ | refine G_endblk ?_ | refine G_block ?_ | refine G_exit rfl ?_)
        exact G_round (k + 1, M8) ⟨by simp only; omega, i2⟩ (by simp only; omega) ⟨rfl, rfl, rfl, rfl, rfl, trivial⟩ (by (repeat first | exact en_refl | (apply en_blk; focus ((repeat' first | exact Pick.here | apply Pick.skip | apply Pick.app); done); focus rfl) | (apply en_own; focus ((repeat' first | exact Pick.here | apply Pick.skip | apply Pick.app); done); focus rfl) | (apply en_pick; focus ((repeat' first | exact Pick.here | apply Pick.skip | apply Pick.app); done)) | apply en_drop | apply en_app) <;> fail)
  · have e : k = n := by omega
    subst e
    rw [List.take_of_length_le (by omega)] at f2
    have hk9 : M9.length = x.M.length := by
      have := f2.length_eq
      rw [keyM, List.length_map] at this
      omega
    (repeat first | refine G_seq ?_ | refine G_skip ?_ | refine G_endblk ?_ | refine G_block ?_ | refine G_exit rfl ?_)
    refine G_region ?_
    refine GO_q rfl rfl (ev_makeFunc rfl rfl) ?_
    refine GO_eff rfl rfl (eff_call rfl (Ctr.pick (by repeat' first | exact Pick.here | apply Pick.skip | apply Pick.app) (hcol b1 _ (by repeat' first | exact Ld.blk rfl | assumption | apply Ld.skip | apply Ld.app) (by repeat' first | exact h | apply LdN.skip)))) ?_; rintro _ _ ⟨o, B, e, rfl, ho, rfl⟩
    refine GO_q rfl rfl (ev_assign rfl) ?_
    refine GO_nil ?_
    have hol : o.length = S.d.length := ho.length_eq.trans hdd
    (repeat first | refine G_seq ?_ | refine G_skip ?_ | refine G_endblk ?_ | refine G_block ?_ | refine G_exit rfl ?_)
    refine G_draw (.q 0 (.q 1 (.q 2 (.q 3 (.q 4 (.q 5 (.q 6 (.q 7 (.q 8 (.q 9 (.q 10 (.q 11 (.q 12 (.q 13 (.q 14 (.q 15 (.q 16 (.q 17 .nil)))))))))))))))))) (by kernel_rfl) (by kernel_rfl) ?_
    refine RS_m retB_noPanic rfl rfl rfl rfl (ev_move rfl) ?_
    refine RS_q retB_noPanic rfl rfl rfl rfl (ev_lenM rfl (by repeat' first | exact Mp.here | exact Mp.rg | apply Mp.skip)) ?_
    refine RS_q retB_noPanic rfl rfl rfl rfl (ev_load rfl (by repeat' first | exact Ld.blk rfl | assumption | apply Ld.skip | apply Ld.app)) ?_
    (first | refine RS_m retB_noPanic rfl rfl rfl rfl (ev_nilCheck rfl) ?_ | refine RS_m retB_noPanic rfl rfl rfl rfl (ev_nilCheckF (by simp) rfl) ?_)
    refine RS_m retB_noPanic rfl rfl rfl rfl (ev_fieldAddr rfl) ?_
    refine RS_q retB_noPanic rfl rfl rfl rfl (ev_load rfl (by repeat' first | exact Ld.blk rfl | assumption | apply Ld.skip | apply Ld.app)) ?_
    refine RS_q retB_noPanic rfl rfl rfl rfl (ev_lenM rfl (by repeat' first | exact Mp.here | exact Mp.rg | apply Mp.skip)) ?_
    refine RS_m retB_noPanic rfl rfl rfl rfl (ev_eql rfl rfl) ?_
    refine RS_m retB_noPanic rfl rfl rfl rfl (ev_move rfl) ?_
    refine RS_m_yes retB_noPanic rfl rfl rfl rfl ⟨_, rfl, (decide_eq_true (by rw [hk9]))⟩ rfl (ev_move rfl) ?_
    refine RS_q_yes retB_noPanic rfl rfl rfl rfl ⟨_, rfl, (decide_eq_true (by rw [hk9]))⟩ rfl (ev_len rfl) ?_
    refine RS_q_yes retB_noPanic rfl rfl rfl rfl ⟨_, rfl, (decide_eq_true (by rw [hk9]))⟩ rfl (ev_load rfl (by repeat' first | exact Ld.blk rfl | assumption | apply Ld.skip | apply Ld.app)) ?_
    (first | refine RS_m_yes retB_noPanic rfl rfl rfl rfl ⟨_, rfl, (decide_eq_true (by rw [hk9]))⟩ rfl (ev_nilCheck rfl) ?_ | refine RS_m_yes retB_noPanic rfl rfl rfl rfl ⟨_, rfl, (decide_eq_true (by rw [hk9]))⟩ rfl (ev_nilCheckF (by simp) rfl) ?_)
    refine RS_m_yes retB_noPanic rfl rfl rfl rfl ⟨_, rfl, (decide_eq_true (by rw [hk9]))⟩ rfl (ev_fieldAddr rfl) ?_
    refine RS_q_yes retB_noPanic rfl rfl rfl rfl ⟨_, rfl, (decide_eq_true (by rw [hk9]))⟩ rfl (ev_load rfl (by repeat' first | exact Ld.blk rfl | assumption | apply Ld.skip | apply Ld.app)) ?_
    refine RS_m_yes retB_noPanic rfl rfl rfl rfl ⟨_, rfl, (decide_eq_true (by rw [hk9]))⟩ rfl (ev_eql rfl rfl) ?_
    refine RS_m retB_noPanic rfl rfl rfl rfl (ev_pick_t rfl (decide_eq_true (by rw [hk9])) rfl) ?_
    refine RS_m retB_noPanic rfl rfl rfl rfl (ev_assign rfl) ?_
    refine RS_nil ?_
    (repeat first | refine G_seq ?_ | refine G_skip ?_ | refine G_endblk ?_ | refine G_block ?_ | refine G_exit rfl ?_)
    refine G_ret (L' := mpH x.b x.M :: L) rfl (.tmp rfl .nil) (by (repeat first | exact en_refl | (apply en_blk; focus ((repeat' first | exact Pick.here | apply Pick.skip | apply Pick.app); done); focus rfl) | (apply en_own; focus ((repeat' first | exact Pick.here | apply Pick.skip | apply Pick.app); done); focus rfl) | (apply en_pick; focus ((repeat' first | exact Pick.here | apply Pick.skip | apply Pick.app); done)) | apply en_drop | apply en_app) <;> fail) ⟨?_, rfl⟩
    simp [retv, hol]
end Go.Proofs.YtkoncepjfgnjlaaGreat
/- Points in several trees: what an open set tells of a box; a new one; that three points live in two trees. -/
namespace Go.Proofs.YtkoncepjfgnjlaaGreat
attribute [local irreducible] sat
open Go.RowKit
set_option linter.unusedVariables false
set_option linter.unusedSectionVars false
set_option linter.unusedSimpArgs false
set_option maxRecDepth 100000

theorem idsB_len (w : Bx) (l : List Pt) : (idsB w l).length = (l.filter (inB w)).length := by
  rw [idsB, (srt_perm _).length_eq, List.length_map]
section
variable {x : LgX} {S : LgS} {s m : Nat} {most : Int} {L : List HP} (hx : LgJ x S) (ok : LgOk S m) (hm : m ≤ 300) (h : LdN L s 0 5 (lsC x.A x.ts.length x.c x.b (S.d.length : Nat) most (S.bu : Nat)))
include hx ok hm h
theorem JLen_ctr (hM : Mp L x.b x.M) : Ctr Tryz.prog 12 #[.pointer (some ⟨s, 0, none⟩)] L fun v L' => v = .int .i64 (S.live.length : Nat) ∧ L' = L := by
  have htot := ok.tot
  have hl := fun M h1 h2 => JLive_ctr (s := s) (most := most) (L := M) hx h1 h2 ok.live_len (by omega)
  refine Ctr_of (fn := Tryz.f12) (n := 5) Tryz.func12 rfl rfl rfl ?_
  intro g F
  (repeat first | refine G_seq ?_ | refine G_skip ?_ | refine G_endblk ?_ | refine G_block ?_ | refine G_exit rfl ?_)
  refine G_region ?_
  refine GO_q rfl rfl (ev_assign rfl) ?_
  refine GO_nil ?_
  (repeat first | refine G_seq ?_ | refine G_skip ?_ | refine G_endblk ?_ | refine G_block ?_ | refine G_exit rfl ?_)
  refine G_region ?_
  refine GO_q rfl rfl (ev_move rfl) ?_
  refine GO_eff rfl rfl (eff_call rfl (hl _ (by repeat' first | exact h | apply LdN.skip) (by repeat' first | exact hM | apply Mp.skip))) ?_; rintro _ _ ⟨rfl, rfl⟩
  refine GO_q rfl rfl (ev_assign rfl) ?_
  refine GO_nil ?_
  (repeat first | refine G_seq ?_ | refine G_skip ?_ | refine G_endblk ?_ | refine G_block ?_ | refine G_exit rfl ?_)
  refine G_ret rfl (.tmp rfl .nil) (by (repeat first | exact fun _ s => s | apply en_keep | apply en_drop | apply en_app) <;> fail) ⟨rfl, rfl⟩
variable (hr : Rd L x.A x.ts.length x.ts) (ht : ∀ o ∈ x.ts, oat L o)
include hr ht
theorem JCount_ctr (w : Bx) : Ctr Tryz.prog 24 #[.pointer (some ⟨s, 0, none⟩), w.v] (mpH x.b x.M :: L) fun v L' => v = .int .i64 ((idsB w S.live).length : Nat) ∧ L' = mpH x.b x.M :: L := by
  have htot := ok.tot
  have hml := hx.mp.len
  have hl := ok.ll (by omega)
  have hlen := hx.cor.len
  have hol := hx.toLgI.oLen ok.tot
  have := lgCount_ctr s x.b x.ts.length x.c x.A most S.bu S.d.length w x.ts x.M L h hr ht (by omega) (by omega) (fun o ho => by have := hol o ho; omega)
  rwa [hx.toLgI.count ok.nd w] at this
end
theorem lgNewF_ctr (most : Int) (L : List HP) (h1 : 1 ≤ most) (h2 : most ≤ 1048576) : Ctr Tryz.prog 8 #[.int .i64 most] L fun v L' => ∃ s, v = .tuple #[.pointer (some ⟨s, 0, none⟩), .int .i64 0] ∧ L' = lgF s most ⟨[], [], 0⟩ :: L :=
  (lgNew_ctr most L h1 h2).post' fun v L' hm ⟨s, b, e1, e2⟩ hs => by
    subst e2
    refine ⟨_, ⟨s, e1, rfl⟩, ?_⟩
    have hz : LgI ⟨none, 0, b, [], [], []⟩ ⟨[], [], 0⟩ := ⟨rfl, by simp, ⟨.refl _, .refl _⟩, fun h => absurd h (Nat.lt_irrefl 0)⟩
    refine en_lg ⟨none, 0, b, [], [], []⟩ rfl (gone := 0) (built := 0) rfl rfl rfl hz (fun h s => ?_) hm hs
    exact sat.cons_mono (fun _ s => sat.cons_mono (fun _ s => own.nil_ 63 1 _ (en_pk0 en_refl _ s)) s) s
theorem ins_put {S : LgS} {m : Nat} {most : Int} {p : Pt} (ok : LgOk S m) (h1 : goodP p = true) (h2 : p ∉ S.ls.flatten) (h3 : ((S.ls.flatten.length - S.d.length : Nat) : Int) < most) : insC most S.live p = 0 ∧ S.ins most p = S.put p := by
  have hl := ok.live_len
  have h4 : p ∉ S.live := fun h => h2 (LgS.mem_live.1 h).1
  have h5 : p ∉ S.d := fun h => h2 (ok.ds p h)
  have e : insC most S.live p = 0 := by
    unfold insC
    rw [if_neg (by rw [h1]; decide), if_neg h4, if_neg (by omega)]
  exact ⟨e, by unfold LgS.ins; rw [if_pos e, if_neg h5]⟩
theorem LgOk.insP {S : LgS} {m : Nat} {p : Pt} (ok : LgOk S m) (hm : m ≤ 300) (h1 : goodP p = true) (h2 : p ∉ S.ls.flatten) : LgOk (S.put p) (m + 1) := ok.put h2 h1 hm
def lv0 : LgS := ⟨[], [], 0⟩
def lv1 : LgS := ⟨[[⟨1, 0, 0⟩]], [], 1⟩
def lv2 : LgS := ⟨[[], [⟨2, 3, 0⟩, ⟨1, 0, 0⟩]], [], 3⟩
def lv3 : LgS := ⟨[[⟨3, 5, 0⟩], [⟨2, 3, 0⟩, ⟨1, 0, 0⟩]], [], 4⟩
theorem lv3_ids : (idsB ⟨0, 3, 0, 0⟩ lv3.live).length = 2 := by
  have h : lv3.live.Perm (lv3.ls.flatten.filter fun p => !decide (p ∈ lv3.d)) := srtO_perm _
  rw [idsB_len, (h.filter _).length_eq]
  decide
theorem lv3_sz : trimZ (szL lv3.ls) = [1, 2] := by decide
theorem lives19_ctr (L : List HP) : Ctr Tryz.prog 13 #[] L fun v L' => v = .bool true ∧ ∃ X, L' = X ++ L := by
  have k0 : LgOk lv0 0 := LgOk.zero
  have k1 : LgOk lv1 1 := k0.insP (p := ⟨1, 0, 0⟩) (by decide) (by decide) (by decide)
  have k2 : LgOk lv2 2 := k1.insP (p := ⟨2, 3, 0⟩) (by decide) (by decide) (by decide)
  have k3 : LgOk lv3 3 := k2.insP (p := ⟨3, 5, 0⟩) (by decide) (by decide) (by decide)
  have i1 := fun s M => LgInsert_ctr s 5 lv0 ⟨1, 0, 0⟩ 0 M k0 (by decide)
  have i2 := fun s M => LgInsert_ctr s 5 lv1 ⟨2, 3, 0⟩ 1 M k1 (by decide)
  have i3 := fun s M => LgInsert_ctr s 5 lv2 ⟨3, 5, 0⟩ 2 M k2 (by decide)
  obtain ⟨a1, b1⟩ := ins_put (most := 5) (p := ⟨1, 0, 0⟩) k0 (by decide) (by decide) (by decide)
  obtain ⟨a2, b2⟩ := ins_put (most := 5) (p := ⟨2, 3, 0⟩) k1 (by decide) (by decide) (by decide)
  obtain ⟨a3, b3⟩ := ins_put (most := 5) (p := ⟨3, 5, 0⟩) k2 (by decide) (by decide) (by decide)
  rw [show lv0.put ⟨1, 0, 0⟩ = lv1 from rfl] at b1
  rw [show lv1.put ⟨2, 3, 0⟩ = lv2 from rfl] at b2
  rw [show lv2.put ⟨3, 5, 0⟩ = lv3 from rfl] at b3
  rw [a1, b1] at i1
  rw [a2, b2] at i2
  rw [a3, b3] at i3
  refine Ctr_of (fn := Tryz.f13) (n := 63) Tryz.func13 rfl rfl rfl ?_
  intro g F
  (repeat first | refine G_seq ?_ | refine G_skip ?_ | refine G_endblk ?_ | refine G_block ?_ | refine G_exit rfl ?_)
  refine G_region ?_
  refine GO_q rfl rfl (ev_assign rfl) ?_
  refine GO_nil ?_
  (repeat first | refine G_seq ?_ | refine G_skip ?_ | refine G_endblk ?_ | refine G_block ?_ | refine G_exit rfl ?_)
  refine G_region ?_
  refine GO_eff rfl rfl (eff_call rfl (lgNewF_ctr 5 _ (by decide) (by decide))) ?_; rintro _ _ ⟨s, rfl, rfl⟩
  refine GO_q rfl rfl (ev_move rfl) ?_
  refine GO_q rfl rfl (ev_extract rfl rfl) ?_
  refine GO_q rfl rfl (ev_extract rfl rfl) ?_
  refine GO_q rfl rfl (ev_assign rfl) ?_
  refine GO_q rfl rfl (ev_assign rfl) ?_
  refine GO_nil ?_
  (repeat first | refine G_seq ?_ | refine G_skip ?_ | refine G_endblk ?_ | refine G_block ?_ | refine G_exit rfl ?_)
  refine G_region ?_
  refine GO_q rfl rfl (ev_move rfl) ?_
  refine GO_q rfl rfl (ev_build rfl rfl) ?_
  refine GO_eff rfl rfl (eff_call rfl (Ctr.pick (by repeat' first | exact Pick.here | apply Pick.skip | apply Pick.app) (i1 s _))) ?_; rintro _ _ ⟨rfl, rfl⟩
  refine GO_q rfl rfl (ev_assign rfl) ?_
  refine GO_nil ?_
  (repeat first | refine G_seq ?_ | refine G_skip ?_ | refine G_endblk ?_ | refine G_block ?_ | refine G_exit rfl ?_)
  refine G_region ?_
  refine GO_q rfl rfl (ev_move rfl) ?_
  refine GO_q rfl rfl (ev_build rfl rfl) ?_
  refine GO_eff rfl rfl (eff_call rfl (Ctr.pick (by repeat' first | exact Pick.here | apply Pick.skip | apply Pick.app) (i2 s _))) ?_; rintro _ _ ⟨rfl, rfl⟩
  refine GO_q rfl rfl (ev_assign rfl) ?_
  refine GO_nil ?_
  (repeat first | refine G_seq ?_ | refine G_skip ?_ | refine G_endblk ?_ | refine G_block ?_ | refine G_exit rfl ?_)
  refine G_region ?_
  refine GO_q rfl rfl (ev_move rfl) ?_
  refine GO_q rfl rfl (ev_build rfl rfl) ?_
  refine GO_eff rfl rfl (eff_call rfl (Ctr.pick (by repeat' first | exact Pick.here | apply Pick.skip | apply Pick.app) (i3 s _))) ?_; rintro _ _ ⟨rfl, rfl⟩
  refine GO_q rfl rfl (ev_assign rfl) ?_
  refine GO_nil ?_
  refine G_lg fun x hx => ?_
  have hlen := hx.cor.len
  have hl2 : x.ts.length = 2 := hlen
  have hsz := fun M h hr ht => JSizes_ctr (s := s) (most := 5) (L := M) hx h hr ht (by omega) (fun o ho => by have := hx.toLgI.oLen k3.tot o ho; omega)
  have hco := fun M h hr ht => JCount_ctr (s := s) (most := 5) (L := M) hx k3 (by decide) h hr ht ⟨0, 3, 0, 0⟩
  have hck := fun M h hr ht => JCheck_ctr (s := s) (most := 5) (L := M) hx k3 (by decide) h hr ht
  rw [lv3_sz] at hsz
  rw [lv3_ids] at hco
  (repeat first | refine G_seq ?_ | refine G_skip ?_ | refine G_endblk ?_ | refine G_block ?_ | refine G_exit rfl ?_)
  refine G_region ?_
  refine GO_q rfl rfl (ev_move rfl) ?_
  refine GO_eff rfl rfl (eff_call rfl (hsz _ (by repeat' first | exact LdN.blk rfl | apply LdN.skip) (by repeat' first | exact Rc.own (flat_length _) hx.A | apply Rd.skip) (fun o ho => by repeat' first | exact hx.ats o ho | apply oat.skip))) ?_; rintro _ _ ⟨Y, A, c, rfl, q1, q2, q3, rfl⟩
  refine GO_q rfl rfl (ev_assign rfl) ?_
  refine GO_nil ?_
  have q4 : ∀ X, Rd (Y :: X) A 2 [(1 : Int), 2] := q3
  obtain ⟨lb, lo, rfl, hxx⟩ := (q4 []).at_ (by decide)
  have y0 : ∀ X, Ld (Y :: X) ⟨lb, lo + 0 * 1, none⟩ (.int .i64 1) := fun X => by
    obtain ⟨_, _, e9, hxx⟩ := (q4 X).at_ (by decide)
    cases e9
    exact (hxx 0 1 rfl).at_ (i := 0) rfl
  have y1 : ∀ X, Ld (Y :: X) ⟨lb, lo + 1 * 1, none⟩ (.int .i64 2) := fun X => by
    obtain ⟨_, _, e9, hxx⟩ := (q4 X).at_ (by decide)
    cases e9
    exact (hxx 1 2 rfl).at_ (i := 0) rfl
  (repeat first | refine G_seq ?_ | refine G_skip ?_ | refine G_endblk ?_ | refine G_block ?_ | refine G_exit rfl ?_)
  refine G_region ?_
  refine GO_q rfl rfl (ev_move rfl) ?_
  refine GO_q rfl rfl (ev_eql rfl rfl) ?_
  refine GO_q rfl rfl (ev_move rfl) ?_
  refine GO_yes rfl rfl rfl rfl ?_
  refine GO_q rfl rfl (ev_move rfl) ?_
  refine GO_yes rfl rfl rfl rfl ?_
  refine GO_q rfl rfl (ev_eql rfl rfl) ?_
  refine GO_q rfl rfl (ev_pick_t rfl rfl rfl) ?_
  refine GO_q rfl rfl (ev_move rfl) ?_
  refine GO_yes rfl rfl rfl rfl ?_
  refine GO_q rfl rfl (ev_move rfl) ?_
  refine GO_yes rfl rfl rfl rfl ?_
  refine GO_q rfl rfl (ev_eql rfl rfl) ?_
  refine GO_q rfl rfl (ev_pick_t rfl rfl rfl) ?_
  refine GO_q rfl rfl (ev_move rfl) ?_
  refine GO_yes rfl rfl rfl rfl ?_
  refine GO_q rfl rfl (ev_move rfl) ?_
  refine GO_yes rfl rfl rfl rfl ?_
  refine GO_q rfl rfl (ev_eql rfl rfl) ?_
  refine GO_q rfl rfl (ev_pick_t rfl rfl rfl) ?_
  refine GO_q rfl rfl (ev_move rfl) ?_
  refine GO_yes rfl rfl rfl rfl ?_
  refine GO_q rfl rfl (ev_move rfl) ?_
  refine GO_yes rfl rfl rfl rfl ?_
  refine GO_q rfl rfl (ev_len rfl) ?_
  refine GO_yes rfl rfl rfl rfl ?_
  refine GO_q rfl rfl (ev_eql rfl rfl) ?_
  refine GO_q rfl rfl (ev_pick_t rfl rfl rfl) ?_
  refine GO_q rfl rfl (ev_move rfl) ?_
  refine GO_yes rfl rfl rfl rfl ?_
  refine GO_q rfl rfl (ev_move rfl) ?_
  refine GO_yes rfl rfl rfl rfl ?_
  (first | refine GO_q rfl rfl (ev_indexAddrN rfl rfl (by first | omega | (simp; done) | (simp; omega))) ?_ | refine GO_q rfl rfl (ev_indexAddr rfl rfl (by first | omega | (simp; done) | (simp; omega)) (by first | omega | (simp; done) | (simp; omega))) ?_)
  refine GO_yes rfl rfl rfl rfl ?_
  refine GO_q rfl rfl (ev_load rfl (by repeat' first | exact y0 _ | apply Ld.skip)) ?_
  refine GO_yes rfl rfl rfl rfl ?_
  refine GO_q rfl rfl (ev_eql rfl rfl) ?_
  refine GO_q rfl rfl (ev_pick_t rfl rfl rfl) ?_
  refine GO_q rfl rfl (ev_move rfl) ?_
  refine GO_yes rfl rfl rfl rfl ?_
  refine GO_q rfl rfl (ev_move rfl) ?_
  refine GO_yes rfl rfl rfl rfl ?_
  (first | refine GO_q rfl rfl (ev_indexAddrN rfl rfl (by first | omega | (simp; done) | (simp; omega))) ?_ | refine GO_q rfl rfl (ev_indexAddr rfl rfl (by first | omega | (simp; done) | (simp; omega)) (by first | omega | (simp; done) | (simp; omega))) ?_)
  refine GO_yes rfl rfl rfl rfl ?_
  refine GO_q rfl rfl (ev_load rfl (by repeat' first | exact y1 _ | apply Ld.skip)) ?_
  refine GO_yes rfl rfl rfl rfl ?_
  refine GO_q rfl rfl (ev_eql rfl rfl) ?_
  refine GO_q rfl rfl (ev_pick_t rfl rfl rfl) ?_
  refine GO_q rfl rfl (ev_move rfl) ?_
  refine GO_yes rfl rfl rfl rfl ?_
  refine GO_q rfl rfl (ev_move rfl) ?_
  refine GO_yes rfl rfl rfl rfl ?_
  refine GO_q rfl rfl (ev_build rfl rfl) ?_
  refine GO_yes rfl rfl rfl rfl ?_
  refine GO_eff rfl rfl (eff_call rfl (Ctr.pick (by repeat' first | exact Pick.here | apply Pick.skip | apply Pick.app) (hco _ (by repeat' first | exact LdN.blk rfl | apply LdN.skip) (by repeat' first | exact Rc.own (flat_length _) hx.A | apply Rd.skip) (fun o ho => by repeat' first | exact hx.ats o ho | apply oat.skip)))) ?_; rintro _ _ ⟨rfl, rfl⟩
  refine GO_yes rfl rfl rfl rfl ?_
  refine GO_q rfl rfl (ev_eql rfl rfl) ?_
  refine GO_q rfl rfl (ev_pick_t rfl rfl rfl) ?_
  refine GO_q rfl rfl (ev_move rfl) ?_
  refine GO_yes rfl rfl rfl rfl ?_
  refine GO_q rfl rfl (ev_move rfl) ?_
  refine GO_yes rfl rfl rfl rfl ?_
  refine GO_eff rfl rfl (eff_call rfl (Ctr.pick (by repeat' first | exact Pick.here | apply Pick.skip | apply Pick.app) (hck _ (by repeat' first | exact LdN.blk rfl | apply LdN.skip) (by repeat' first | exact Rc.own (flat_length _) hx.A | apply Rd.skip) (fun o ho => by repeat' first | exact hx.ats o ho | apply oat.skip)))) ?_; rintro _ _ ⟨rfl, rfl⟩
  refine GO_q rfl rfl (ev_pick_t rfl rfl rfl) ?_
  refine GO_q rfl rfl (ev_assign rfl) ?_
  refine GO_nil ?_
  (repeat first | refine G_seq ?_ | refine G_skip ?_ | refine G_endblk ?_ | refine G_block ?_ | refine G_exit rfl ?_)
  exact G_ret (L' := [] ++ L) rfl (.tmp rfl .nil) (by (repeat first | exact fun _ s => s | apply en_keep | apply en_drop | apply en_app) <;> fail) ⟨rfl, [], rfl⟩
end Go.Proofs.YtkoncepjfgnjlaaGreat
/- No set: what is told of it. -/
namespace Go.Proofs.YtkoncepjfgnjlaaGreat
attribute [local irreducible] sat
open Go.RowKit
set_option linter.unusedVariables false
set_option linter.unusedSimpArgs false
set_option maxRecDepth 100000

end Go.Proofs.YtkoncepjfgnjlaaGreat
/- No set: its report. -/
namespace Go.Proofs.YtkoncepjfgnjlaaGreat
attribute [local irreducible] sat
open Go.RowKit
set_option linter.unusedVariables false
set_option linter.unusedSimpArgs false
set_option maxRecDepth 100000

end Go.Proofs.YtkoncepjfgnjlaaGreat
/- From a contract to what a law's row asks. -/
namespace Go.Proofs.YtkoncepjfgnjlaaGreat
open Go.RowKit
set_option linter.unusedVariables false

/-- A law that holds by its contract: it returns true, and nothing old has turned. -/
theorem law_of_ctr {P : Program} {f : FuncId} {args : Array Value} {w : World} (h : Ctr P f args [old w.hm] fun v L' => v = .bool true ∧ L' = [old w.hm]) :
    Calls P f args w fun e w' => e = .returned (.bool true) ∧ Below w.heap.size w w' := by
  refine (calls_of h (Hp.start w)).mono fun e w' ⟨v, L', e1, ⟨e2, e3⟩, hw'⟩ => ?_
  subst e2 e3
  exact ⟨e1, hw'.below⟩
end Go.Proofs.YtkoncepjfgnjlaaGreat
/- The laws LogmNone and LogmLittle. -/
namespace Go.Proofs.YtkoncepjfgnjlaaGreat
attribute [local irreducible] sat
open Go.RowKit
set_option linter.unusedVariables false
set_option linter.unusedSimpArgs false
set_option maxRecDepth 100000

/-- The points that come one by one. -/
def litP (i : Nat) : Pt := ⟨i, -(i : Int), ((i * 7 % 31 : Nat) : Int)⟩
def litS : Nat → LgS
  | 0 => ⟨[], [], 0⟩
  | i + 1 => (litS i).put (litP (i + 1))
theorem lit_d : ∀ i, (litS i).d = []
  | 0 => rfl
  | i + 1 => lit_d i
theorem lit_mem : ∀ i q, q ∈ (litS i).ls.flatten ↔ ∃ j, 1 ≤ j ∧ j ≤ i ∧ q = litP j
  | 0, q => by simp [litS]; intro x h h2; omega
  | i + 1, q => by
    have h := (putR_flat [litP (i + 1)] (litS i).ls).mem_iff (a := q)
    show q ∈ (putR [litP (i + 1)] (litS i).ls).flatten ↔ _
    rw [h, List.mem_append, lit_mem i q]
    constructor
    · rintro (h | ⟨j, h1, h2, h3⟩)
      · exact ⟨i + 1, by omega, by omega, by simpa using h⟩
      · exact ⟨j, h1, by omega, h3⟩
    · rintro ⟨j, h1, h2, h3⟩
      rcases Nat.lt_or_ge j (i + 1) with h4 | h4
      · exact .inr ⟨j, h1, by omega, h3⟩
      · have : j = i + 1 := by omega
        subst this
        left; simp [h3]
theorem lit_new (i : Nat) : litP (i + 1) ∉ (litS i).ls.flatten := fun h => by
  obtain ⟨j, h1, h2, h3⟩ := (lit_mem i _).1 h
  have : ((i + 1 : Nat) : Int) = (j : Nat) := congrArg Pt.id h3
  omega
theorem lit_good {i : Nat} (h : 1 ≤ i) (h2 : i ≤ 300) : goodP (litP i) = true := by
  have h3 : i * 7 % 31 < 31 := Nat.mod_lt _ (by decide)
  generalize hk : i * 7 % 31 = k at h3
  simp only [goodP, goodId, good, litP, hk, Bool.and_eq_true, decide_eq_true_eq]
  omega
theorem lit_ok : ∀ i, i ≤ 300 → LgOk (litS i) i
  | 0, _ => LgOk.zero
  | i + 1, h => (lit_ok i (by omega)).put (lit_new i) (lit_good (by omega) h) (by omega)
theorem lit_len : ∀ i, (litS i).ls.flatten.length = i
  | 0 => rfl
  | i + 1 => by
    have h := (putR_flat [litP (i + 1)] (litS i).ls).length_eq
    rw [List.length_append, lit_len i] at h
    show (putR [litP (i + 1)] (litS i).ls).flatten.length = i + 1
    rw [h]; simp; omega
theorem lit_pot : ∀ i, (litS i).bu ≤ potR 0 (litS i).ls
  | 0 => Nat.zero_le _
  | i + 1 => by
    have h := potR_put (litS i).ls 0 [litP (i + 1)]
    have := lit_pot i
    show (litS i).bu + putN [litP (i + 1)] (litS i).ls ≤ potR 0 (putR [litP (i + 1)] (litS i).ls)
    omega
theorem lit_bu {i k : Nat} (h1 : i ≤ 300) (h2 : i < 2 ^ k) : (litS i).bu ≤ i * k := by
  have ok := lit_ok i h1
  have h3 := lit_pot i
  have h4 := potR_le (litS i).ls 0
  rw [lit_len, Nat.zero_add] at h4
  have h5 : (litS i).ls.length ≤ k := by
    rcases ok.lv with h | h
    · omega
    · rcases Nat.lt_or_ge k (litS i).ls.length with h6 | h6
      · have : 2 ^ k ≤ 2 ^ ((litS i).ls.length - 1) := Nat.pow_le_pow_right (by decide) (by omega)
        omega
      · exact h6
  have h6 : (litS i).ls.length * i ≤ k * i := Nat.mul_le_mul_right _ h5
  rw [Nat.mul_comm i k]
  omega
section
variable {P : Program} {L : List HP} {σ : Env} {d : Option Nat} {ty T T' : TypeId} {pos : String} {aft : Array Edge} {gd : Option (Nat × Bool)} {x y : Operand}
theorem ev_mulN {p q : Nat} (hx : ev σ x = some (.int .i64 (p : Int))) (hy : ev σ y = some (.int .i64 (q : Int))) (hr : p * q ≤ 9223372036854775807) : Ev P L σ ⟨d, .binOp .mul T x y T', ty, pos, aft, gd⟩ (.int .i64 ((p * q : Nat) : Int)) := by
  have e : ((p * q : Nat) : Int) = (p : Int) * (q : Int) := by simp
  rw [e]
  exact ev_mul hx hy (by rw [← e]; omega)
theorem ev_convW {p : Nat} [H : IntK P T .i64] [H' : IntK P T' .u64] (hx : ev σ x = some (.int .i64 (p : Int))) (hp : p ≤ 9223372036854775807) : Ev P L σ ⟨d, .convert T T' x, ty, pos, aft, gd⟩ (.int .u64 (p : Int)) := fun a w hs _ => by
  simp only [execOp, hs.eval hx]
  have ek : P.intKind T' = .u64 := by unfold Program.intKind; rw [H'.h]
  have e := run_convert_int (P := P) w T T' .i64 (p : Int) (by rw [H.h]; rfl) (by rw [ek]; exact H'.h)
  have e2 : IntKind.wrap .u64 (p : Int) = p := IntWalk.u64_in _ (by omega)
  rw [ek, e2] at e
  simp only [Sem.run_bind, e, Result.andThen_ok, Sem.run_pure]
end
instance : IntK Tryz.prog 5 .u8 := ⟨by kernel_rfl⟩
instance : IntK Tryz.prog 3 .i64 := ⟨by kernel_rfl⟩
instance : IntK Tryz.prog 29 .u64 := ⟨by kernel_rfl⟩
theorem LogmLittle_ctr (n : Nat) (hn : n ≤ 255) (L : List HP) : Ctr Tryz.prog 3 #[.int .u8 (n : Nat)] L fun v L' => v = .bool true ∧ L' = L := by
  refine Ctr_of (fn := Tryz.f3) (n := 58) Tryz.func3 rfl rfl rfl ?_
  intro g F
  (repeat first | refine G_seq ?_ | refine G_skip ?_ | refine G_endblk ?_ | refine G_block ?_ | refine G_exit rfl ?_)
  refine G_region ?_
  refine GO_q rfl rfl (ev_assign rfl) ?_
  refine GO_nil ?_
  (repeat first | refine G_seq ?_ | refine G_skip ?_ | refine G_endblk ?_ | refine G_block ?_ | refine G_exit rfl ?_)
  refine G_region ?_
  refine GO_eff rfl rfl (eff_call rfl (lgNewF_ctr 300 _ (by decide) (by decide))) ?_; rintro _ _ ⟨s, rfl, rfl⟩
  refine GO_q rfl rfl (ev_move rfl) ?_
  refine GO_q rfl rfl (ev_extract rfl rfl) ?_
  refine GO_q rfl rfl (ev_extract rfl rfl) ?_
  refine GO_q rfl rfl (ev_assign rfl) ?_
  refine GO_q rfl rfl (ev_assign rfl) ?_
  refine GO_nil ?_
  (repeat first | refine G_seq ?_ | refine G_skip ?_ | refine G_endblk ?_ | refine G_block ?_ | refine G_exit rfl ?_)
  refine G_region ?_
  refine GO_q rfl rfl (ev_move rfl) ?_
  (first | refine GO_q rfl rfl (ev_eqlNil rfl rfl) ?_ | refine GO_q rfl rfl (ev_eqlPtr rfl rfl) ?_)
  refine GO_q rfl rfl (ev_move rfl) ?_
  refine GO_yes rfl rfl rfl rfl ?_
  refine GO_q rfl rfl (ev_move rfl) ?_
  refine GO_yes rfl rfl rfl rfl ?_
  refine GO_q rfl rfl (ev_neq rfl rfl) ?_
  refine GO_q rfl rfl (ev_pick_f rfl rfl rfl) ?_
  refine GO_nil ?_
  (repeat first | refine G_seq ?_ | refine G_skip ?_ | refine G_endblk ?_ | refine G_block ?_ | refine G_exit rfl ?_)
  refine G_cond_f rfl rfl ?_
  (repeat first | refine G_seq ?_ | refine G_skip ?_ | refine G_endblk ?_ | refine G_block ?_ | refine G_exit rfl ?_)
  refine G_region ?_
  refine GO_q rfl rfl (ev_assign rfl) ?_
  refine GO_nil ?_
  (repeat first | refine G_seq ?_ | refine G_skip ?_ | refine G_endblk ?_ | refine G_block ?_ | refine G_exit rfl ?_)
  refine G_region ?_
  refine GO_q rfl rfl (ev_assign rfl) ?_
  refine GO_nil ?_
  (repeat first | refine G_seq ?_ | refine G_skip ?_ | refine G_endblk ?_ | refine G_block ?_ | refine G_exit rfl ?_)
  refine G_loop (ι := Nat × Nat) (fun y => [(0, .int .u8 (n : Nat)), (3, .pointer (some ⟨s, 0, none⟩)), (5, .int .i64 (y.2 : Nat)), (6, .int .i64 ((y.1 + 1 : Nat) : Int))]) (fun y => lgF s 300 (litS y.1) :: F :: L)
    (fun y => y.1 ≤ n ∧ y.1 < 2 ^ y.2 ∧ y.2 ≤ 9 ∧ (y.2 = 1 ∨ 0 < y.2 ∧ 2 ^ (y.2 - 1) ≤ y.1)) (fun y => n - y.1) (0, 1) ⟨Nat.zero_le _, by decide, by decide, .inl rfl⟩ ⟨rfl, rfl, rfl, rfl, trivial⟩ (by (repeat first | exact en_refl | (apply en_blk; focus ((repeat' first | exact Pick.here | apply Pick.skip | apply Pick.app); done); focus rfl) | (apply en_own; focus ((repeat' first | exact Pick.here | apply Pick.skip | apply Pick.app); done); focus rfl) | (apply en_pick; focus ((repeat' first | exact Pick.here | apply Pick.skip | apply Pick.app); done)) | apply en_drop | apply en_app) <;> fail) ?_
  rintro ⟨j, k⟩ ⟨f1, f2, f3, f4⟩
  simp only at f1 f2 f3 f4
  dsimp only
  have ok := lit_ok j (by omega)
  by_cases c1 : j < n
  · have ok2 := lit_ok (j + 1) (by omega)
    have hi := fun M => LgInsert_ctr s 300 (litS j) (litP (j + 1)) j M ok (by omega)
    obtain ⟨a1, b1⟩ := ins_put (most := 300) (p := litP (j + 1)) ok (lit_good (by omega) (by omega)) (lit_new j) (by rw [lit_len, lit_d]; simp; omega)
    rw [a1, b1] at hi
    have hi : ∀ M, Ctr Tryz.prog 9 #[.pointer (some ⟨s, 0, none⟩), (litP (j + 1)).v] (lgF s 300 (litS j) :: M) fun v L' => v = .int .i64 0 ∧ L' = lgF s 300 (litS (j + 1)) :: M := hi
    (repeat first | refine G_seq ?_ | refine G_skip ?_ | refine G_endblk ?_ | refine G_block ?_ | refine G_exit rfl ?_)
    refine G_region ?_
    refine GO_q rfl rfl (ev_move rfl) ?_
    refine GO_q rfl rfl (ev_move rfl) ?_
    refine GO_q rfl rfl (ev_convU rfl (by omega)) ?_
    refine GO_q rfl rfl (ev_leq rfl rfl) ?_
    refine GO_nil ?_
    (repeat first | refine G_seq ?_ | refine G_skip ?_ | refine G_endblk ?_ | refine G_block ?_ | refine G_exit rfl ?_)
    refine G_cond_t rfl (decide_eq_true (by omega)) ?_
    (repeat first | refine G_seq ?_ | refine G_skip ?_ | refine G_endblk ?_ | refine G_block ?_ | refine G_exit rfl ?_)
    refine G_region ?_
    refine GO_q rfl rfl (ev_move rfl) ?_
    refine GO_q rfl rfl (ev_move rfl) ?_
    refine GO_q rfl rfl (ev_move rfl) ?_
    refine GO_q rfl rfl (ev_neg rfl (by first | omega | (simp; done) | (simp; omega))) ?_
    refine GO_q rfl rfl (ev_move rfl) ?_
    refine GO_q rfl rfl (ev_mulN (q := 7) rfl rfl (by omega)) ?_
    refine GO_q rfl rfl (ev_remK (q := 31) rfl rfl (by decide)) ?_
    refine GO_q rfl rfl (ev_build rfl rfl) ?_
    refine GO_eff rfl rfl (eff_call rfl (Ctr.pick (by repeat' first | exact Pick.here | apply Pick.skip | apply Pick.app) (hi _))) ?_; rintro _ _ ⟨rfl, rfl⟩
    refine GO_q rfl rfl (ev_neq rfl rfl) ?_
    refine GO_nil ?_
    (repeat first | refine G_seq ?_ | refine G_skip ?_ | refine G_endblk ?_ | refine G_block ?_ | refine G_exit rfl ?_)
    refine G_cond_f rfl rfl ?_
    refine G_lg fun x hx => ?_
    have hb := fun M h => JBuilt_ctr (s := s) (most := 300) (L := M) hx h
    have hk9 : 1 * 2 ^ k ≤ 1 * 2 ^ 9 := Nat.mul_le_mul_left _ (Nat.pow_le_pow_right (by decide) f3)
    (repeat first | refine G_seq ?_ | refine G_skip ?_ | refine G_endblk ?_ | refine G_block ?_ | refine G_exit rfl ?_)
    refine G_region ?_
    refine GO_q rfl rfl (ev_move rfl) ?_
    refine GO_q rfl rfl (ev_move rfl) ?_
    refine GO_q rfl rfl (ev_convW rfl (by omega)) ?_
    refine GO_q rfl rfl (ev_shlN (p := 1) rfl rfl (by omega) (by omega)) ?_
    refine GO_q rfl rfl (ev_eql rfl rfl) ?_
    refine GO_nil ?_
    have hbu : ∀ k', j + 1 < 2 ^ k' → (litS (j + 1)).bu ≤ (j + 1) * k' := fun k' h => lit_bu (by omega) h
    by_cases c2 : j + 1 = 2 ^ k
    · have hk8 : k < 9 := by
        rcases Nat.lt_or_ge k 9 with h | h
        · exact h
        · have : 2 ^ 9 ≤ 2 ^ k := Nat.pow_le_pow_right (by decide) h
          omega
      have h2 : j + 1 < 2 ^ (k + 1) := by rw [Nat.pow_succ]; omega
      have h3 := hbu _ h2
      have h4 : (j + 1) * (k + 1) ≤ 256 * 10 := Nat.mul_le_mul (by omega) (by omega)
      (repeat first | refine G_seq ?_ | refine G_skip ?_ | refine G_endblk ?_ | refine G_block ?_ | refine G_exit rfl ?_)
      refine G_cond_t rfl (decide_eq_true (by omega)) ?_
      (repeat first | refine G_seq ?_ | refine G_skip ?_ | refine G_endblk ?_ | refine G_block ?_ | refine G_exit rfl ?_)
      refine G_region ?_
      refine GO_q rfl rfl (ev_move rfl) ?_
      (first | refine GO_q rfl rfl (ev_addN (q := 1) rfl rfl (by first | omega | (simp; done) | (simp; omega))) ?_ | refine GO_q rfl rfl (ev_add rfl rfl (by first | omega | (simp; done) | (simp; omega))) ?_)
      refine GO_q rfl rfl (ev_assign rfl) ?_
      refine GO_nil ?_
      (repeat first | refine G_seq ?_ | refine G_skip ?_ | refine G_endblk ?_ | refine G_block ?_ | refine G_exit rfl ?_)
      refine G_region ?_
      refine GO_q rfl rfl (ev_move rfl) ?_
      refine GO_eff rfl rfl (eff_call rfl (hb _ (by repeat' first | exact LdN.blk rfl | assumption | apply LdN.skip | apply LdN.app))) ?_; rintro _ _ ⟨rfl, rfl⟩
      refine GO_q rfl rfl (ev_move rfl) ?_
      refine GO_q rfl rfl (ev_move rfl) ?_
      refine GO_q rfl rfl (ev_mulN rfl rfl (by omega)) ?_
      refine GO_q rfl rfl (ev_gtr rfl rfl) ?_
      refine GO_nil ?_
      (repeat first | refine G_seq ?_ | refine G_skip ?_ | refine G_endblk ?_ | refine G_block ?_ | refine G_exit rfl ?_)
      refine G_cond_f rfl (decide_eq_false (by omega)) ?_
      (repeat first | refine G_seq ?_ | refine G_skip ?_ | refine G_endblk ?_ | refine G_block ?_ | refine G_exit rfl ?_)
      (repeat first | refine G_seq ?_ | refine G_skip ?_ | refine G_endblk ?_ | refine G_block ?_ | refine G_exit rfl ?_)
      refine G_region ?_
      refine GO_q rfl rfl (ev_move rfl) ?_
      (first | refine GO_q rfl rfl (ev_addN (q := 1) rfl rfl (by first | omega | (simp; done) | (simp; omega))) ?_ | refine GO_q rfl rfl (ev_add rfl rfl (by first | omega | (simp; done) | (simp; omega))) ?_)
      refine GO_q rfl rfl (ev_assign rfl) ?_
      refine GO_nil ?_
      (repeat first | refine G_seq ?_ | refine G_skip ?_ | refine G_endblk ?_ | refine G_block ?_ | refine G_exit rfl ?_)
      exact G_round (j + 1, k + 1) ⟨by simp only; omega, h2, by simp only; omega, .inr ⟨by simp only; omega, by simp only; rw [Nat.add_sub_cancel]; omega⟩⟩ (by simp only; omega) ⟨rfl, rfl, rfl, rfl, trivial⟩ (by (repeat first | exact en_refl | refine en_lg x rfl rfl rfl rfl hx.toLgI ?_ | (apply en_blk; focus ((repeat' first | exact Pick.here | apply Pick.skip | apply Pick.app); done); focus rfl) | (apply en_own; focus ((repeat' first | exact Pick.here | apply Pick.skip | apply Pick.app); done); focus rfl) | (apply en_pick; focus ((repeat' first | exact Pick.here | apply Pick.skip | apply Pick.app); done)) | apply en_drop | apply en_app) <;> fail)
    · have h2 : j + 1 < 2 ^ k := by omega
      have h3 := hbu _ h2
      have h4 : (j + 1) * k ≤ 256 * 10 := Nat.mul_le_mul (by omega) (by omega)
      (repeat first | refine G_seq ?_ | refine G_skip ?_ | refine G_endblk ?_ | refine G_block ?_ | refine G_exit rfl ?_)
      refine G_cond_f rfl (decide_eq_false (by omega)) ?_
      (repeat first | refine G_seq ?_ | refine G_skip ?_ | refine G_endblk ?_ | refine G_block ?_ | refine G_exit rfl ?_)
      (repeat first | refine G_seq ?_ | refine G_skip ?_ | refine G_endblk ?_ | refine G_block ?_ | refine G_exit rfl ?_)
      refine G_region ?_
      refine GO_q rfl rfl (ev_move rfl) ?_
      refine GO_eff rfl rfl (eff_call rfl (hb _ (by repeat' first | exact LdN.blk rfl | assumption | apply LdN.skip | apply LdN.app))) ?_; rintro _ _ ⟨rfl, rfl⟩
      refine GO_q rfl rfl (ev_move rfl) ?_
      refine GO_q rfl rfl (ev_move rfl) ?_
      refine GO_q rfl rfl (ev_mulN rfl rfl (by omega)) ?_
      refine GO_q rfl rfl (ev_gtr rfl rfl) ?_
      refine GO_nil ?_
      (repeat first | refine G_seq ?_ | refine G_skip ?_ | refine G_endblk ?_ | refine G_block ?_ | refine G_exit rfl ?_)
      refine G_cond_f rfl (decide_eq_false (by omega)) ?_
      (repeat first | refine G_seq ?_ | refine G_skip ?_ | refine G_endblk ?_ | refine G_block ?_ | refine G_exit rfl ?_)
      (repeat first | refine G_seq ?_ | refine G_skip ?_ | refine G_endblk ?_ | refine G_block ?_ | refine G_exit rfl ?_)
      refine G_region ?_
      refine GO_q rfl rfl (ev_move rfl) ?_
      (first | refine GO_q rfl rfl (ev_addN (q := 1) rfl rfl (by first | omega | (simp; done) | (simp; omega))) ?_ | refine GO_q rfl rfl (ev_add rfl rfl (by first | omega | (simp; done) | (simp; omega))) ?_)
      refine GO_q rfl rfl (ev_assign rfl) ?_
      refine GO_nil ?_
      (repeat first | refine G_seq ?_ | refine G_skip ?_ | refine G_endblk ?_ | refine G_block ?_ | refine G_exit rfl ?_)
      exact G_round (j + 1, k) ⟨by simp only; omega, h2, f3, f4.imp_right fun h => ⟨h.1, by simp only; omega⟩⟩ (by simp only; omega) ⟨rfl, rfl, rfl, rfl, trivial⟩ (by (repeat first | exact en_refl | refine en_lg x rfl rfl rfl rfl hx.toLgI ?_ | (apply en_blk; focus ((repeat' first | exact Pick.here | apply Pick.skip | apply Pick.app); done); focus rfl) | (apply en_own; focus ((repeat' first | exact Pick.here | apply Pick.skip | apply Pick.app); done); focus rfl) | (apply en_pick; focus ((repeat' first | exact Pick.here | apply Pick.skip | apply Pick.app); done)) | apply en_drop | apply en_app) <;> fail)
  · have e : j = n := by omega
    subst e
    (repeat first | refine G_seq ?_ | refine G_skip ?_ | refine G_endblk ?_ | refine G_block ?_ | refine G_exit rfl ?_)
    refine G_region ?_
    refine GO_q rfl rfl (ev_move rfl) ?_
    refine GO_q rfl rfl (ev_move rfl) ?_
    refine GO_q rfl rfl (ev_convU rfl (by omega)) ?_
    refine GO_q rfl rfl (ev_leq rfl rfl) ?_
    refine GO_nil ?_
    (repeat first | refine G_seq ?_ | refine G_skip ?_ | refine G_endblk ?_ | refine G_block ?_ | refine G_exit rfl ?_)
    refine G_cond_f rfl (decide_eq_false (by omega)) ?_
    (repeat first | refine G_seq ?_ | refine G_skip ?_ | refine G_endblk ?_ | refine G_block ?_ | refine G_exit rfl ?_)
    refine G_lg fun x hx => ?_
    have hck := fun M h hr ht => JCheck_ctr (s := s) (most := 300) (L := M) hx ok (by omega) h hr ht
    have hle := fun M h hM => JLen_ctr (s := s) (most := 300) (L := M) hx ok (by omega) h hM
    have hll := ok.live_len
    rw [lit_len, lit_d, List.length_nil, Nat.add_zero] at hll
    rw [hll] at hle
    (repeat first | refine G_seq ?_ | refine G_skip ?_ | refine G_endblk ?_ | refine G_block ?_ | refine G_exit rfl ?_)
    refine G_region ?_
    refine GO_q rfl rfl (ev_move rfl) ?_
    refine GO_eff rfl rfl (eff_call rfl (Ctr.pick (by repeat' first | exact Pick.here | apply Pick.skip | apply Pick.app) (hck _ (by repeat' first | exact LdN.blk rfl | apply LdN.skip) (by repeat' first | exact Rc.own (flat_length _) hx.A | apply Rd.skip) (fun o ho => by repeat' first | exact hx.ats o ho | apply oat.skip)))) ?_; rintro _ _ ⟨rfl, rfl⟩
    refine GO_q rfl rfl (ev_move rfl) ?_
    refine GO_yes rfl rfl rfl rfl ?_
    refine GO_q rfl rfl (ev_move rfl) ?_
    refine GO_yes rfl rfl rfl rfl ?_
    refine GO_eff rfl rfl (eff_call rfl (hle _ (by repeat' first | exact LdN.blk rfl | apply LdN.skip) (by repeat' first | exact Mp.here | apply Mp.skip))) ?_; rintro _ _ ⟨rfl, rfl⟩
    refine GO_yes rfl rfl rfl rfl ?_
    refine GO_q rfl rfl (ev_move rfl) ?_
    refine GO_yes rfl rfl rfl rfl ?_
    refine GO_q rfl rfl (ev_convU rfl (by omega)) ?_
    refine GO_yes rfl rfl rfl rfl ?_
    refine GO_q rfl rfl (ev_eql rfl rfl) ?_
    refine GO_q rfl rfl (ev_pick_t rfl rfl rfl) ?_
    refine GO_q rfl rfl (ev_move rfl) ?_
    refine GO_yes rfl rfl rfl (decide_eq_true rfl) ?_
    refine GO_eff rfl rfl (eff_call rfl (lives19_ctr _)) ?_; rintro _ _ ⟨rfl, X, rfl⟩
    refine GO_q rfl rfl (ev_pick_t rfl (decide_eq_true rfl) rfl) ?_
    refine GO_q rfl rfl (ev_assign rfl) ?_
    refine GO_nil ?_
    (repeat first | refine G_seq ?_ | refine G_skip ?_ | refine G_endblk ?_ | refine G_block ?_ | refine G_exit rfl ?_)
    exact G_ret (L' := L) rfl (.tmp rfl .nil) (by (repeat first | exact fun _ s => s | apply en_keep | apply en_drop | apply en_app) <;> fail) ⟨rfl, rfl⟩
theorem logmLittle_walk (n : Int) (w0 : (Lit.int .u8 n).wf = true) (w : World) :
    Calls Tryz.prog 3 #[.int .u8 n] w fun e w' => e = .returned (.bool true) ∧ Below w.heap.size w w' := by
  obtain ⟨m, rfl, hm⟩ := bounds_u8 w0
  exact law_of_ctr (LogmLittle_ctr m hm _)
end Go.Proofs.YtkoncepjfgnjlaaGreat
