/- Texts of the law KdBack, one behind the other. -/
import Derived.Test.YtjgdhkilnalejaaKdBackM3
import Derived.Test.YtjgdhkilnalejaaKdBackM1
/- A tree of points by two orders in turn: put. -/
namespace Go.Proofs.Ytjgdhkilnalejaa
attribute [local irreducible] sat
open Go.RowKit
set_option linter.unusedVariables false
set_option linter.unusedSimpArgs false
set_option maxRecDepth 100000

/-- A tree that a point was put into. -/
structure PutK (lv : Nat) (q : Pt) (T T' : KT) : Prop where
  ok : T'.ok lv
  pts : T'.pts.Perm (q :: T.pts)
  all : ∀ r ∈ T'.all, r = q ∨ r ∈ T.all
  cnt : T'.cnt ≤ T.cnt + 1
theorem PutK.of_mk {lv : Nat} {q : Pt} {T : KT} {b : Nat} {p : Pt} {gn : Bool} {lo hi : KT} (o1 : lo.ok (lv + 1)) (o2 : hi.ok (lv + 1)) (s1 : ∀ r ∈ lo.all, ahd lv r p = true) (s2 : ∀ r ∈ hi.all, ahd lv p r = true)
    (hp : (KT.mk b p gn lo hi).pts.Perm (q :: T.pts)) (ha : ∀ r ∈ (KT.mk b p gn lo hi).all, r = q ∨ r ∈ T.all) (hc : (KT.mk b p gn lo hi).cnt ≤ T.cnt + 1) :
    (¬ prt (1 + lo.size + hi.size) < max lo.size hi.size → PutK lv q T (.mk b p gn lo hi)) ∧ (∀ T', Bt lv (KT.mk b p gn lo hi).pts T' → PutK lv q T T') ∧ (KT.mk b p gn lo hi).pts.Nodup := by
  have o := sto_ahd lv
  refine ⟨fun hh => ⟨KT.ok_mk o1 o2 s1 s2 ?_ ?_, hp, ha, hc⟩, fun T' hb => ⟨hb.ok, hb.pts ▸ hb.all.trans hp, fun r hr => ha r ?_, ?_⟩, ?_⟩
  · rw [o1.size, o2.size] at hh
    have e : lo.cnt + hi.cnt + 1 = 1 + lo.cnt + hi.cnt := by omega
    rw [e]; omega
  · rw [o1.size, o2.size] at hh
    have e : lo.cnt + hi.cnt + 1 = 1 + lo.cnt + hi.cnt := by omega
    rw [e]; omega
  · exact (KT.pts_sub _).subset (hb.all.subset hr)
  · rw [KT.cnt_of hb.all, hp.length_eq, List.length_cons]
    have := T.pts_len
    omega
  · refine (KT.pts_sub _).nodup ?_
    refine List.nodup_cons.2 ⟨fun hp => ?_, List.nodup_append.2 ⟨o1.nodup, o2.nodup, fun a ha c hc e => ?_⟩⟩
    · rcases List.mem_append.1 hp with hp | hp
      · have := s1 p hp; rw [o.irr] at this; cases this
      · have := s2 p hp; rw [o.irr] at this; cases this
    · subst e
      have := o.tr (s1 a ha) (s2 a hc)
      rw [o.irr] at this; cases this
theorem PutK.lo {lv : Nat} {q : Pt} {b : Nat} {p : Pt} {gn : Bool} {m : Nat} {x : Bx} {lo hi lo' : KT} (ho : (KT.node b p gn m x lo hi).ok lv) (hq : ahd lv q p = true) (h : PutK (lv + 1) q lo lo') :
    (¬ prt (1 + lo'.size + hi.size) < max lo'.size hi.size → PutK lv q (.node b p gn m x lo hi) (.mk b p gn lo' hi)) ∧ (∀ T', Bt lv (KT.mk b p gn lo' hi).pts T' → PutK lv q (.node b p gn m x lo hi) T') ∧ (KT.mk b p gn lo' hi).pts.Nodup := by
  refine PutK.of_mk h.ok ho.2.2.2 (fun r hr => ?_) ho.1.2 ?_ (fun r hr => ?_) ?_
  · rcases h.all r hr with rfl | hr
    · exact hq
    · exact ho.1.1 r hr
  · show ((if gn then [] else [p]) ++ (lo'.pts ++ hi.pts)).Perm (q :: ((if gn then [] else [p]) ++ (lo.pts ++ hi.pts)))
    refine List.Perm.trans (List.Perm.append_left _ (h.pts.append_right _)) ?_
    exact List.perm_middle
  · simp only [KT.all, List.mem_cons, List.mem_append] at hr ⊢
    rcases hr with rfl | hr | hr
    · exact .inr (.inl rfl)
    · rcases h.all r hr with rfl | hr
      · exact .inl rfl
      · exact .inr (.inr (.inl hr))
    · exact .inr (.inr (.inr hr))
  · have := h.cnt
    simp only [KT.cnt]; omega
theorem PutK.hi {lv : Nat} {q : Pt} {b : Nat} {p : Pt} {gn : Bool} {m : Nat} {x : Bx} {lo hi hi' : KT} (ho : (KT.node b p gn m x lo hi).ok lv) (hq : ahd lv p q = true) (h : PutK (lv + 1) q hi hi') :
    (¬ prt (1 + lo.size + hi'.size) < max lo.size hi'.size → PutK lv q (.node b p gn m x lo hi) (.mk b p gn lo hi')) ∧ (∀ T', Bt lv (KT.mk b p gn lo hi').pts T' → PutK lv q (.node b p gn m x lo hi) T') ∧ (KT.mk b p gn lo hi').pts.Nodup := by
  refine PutK.of_mk ho.2.2.1 h.ok ho.1.1 (fun r hr => ?_) ?_ (fun r hr => ?_) ?_
  · rcases h.all r hr with rfl | hr
    · exact hq
    · exact ho.1.2 r hr
  · show ((if gn then [] else [p]) ++ (lo.pts ++ hi'.pts)).Perm (q :: ((if gn then [] else [p]) ++ (lo.pts ++ hi.pts)))
    refine List.Perm.trans (List.Perm.append_left _ (List.Perm.append_left _ h.pts)) ?_
    rw [← List.append_assoc, ← List.append_assoc]
    exact List.perm_middle
  · simp only [KT.all, List.mem_cons, List.mem_append] at hr ⊢
    rcases hr with rfl | hr | hr
    · exact .inr (.inl rfl)
    · exact .inr (.inr (.inl hr))
    · rcases h.all r hr with rfl | hr
      · exact .inl rfl
      · exact .inr (.inr (.inr hr))
  · have := h.cnt
    simp only [KT.cnt]; omega
theorem blk_p {b : Nat} {p : Pt} {gn : Bool} {a1 a2 : Option Addr} {m : Nat} {x : Bx} {M : List HP} : LdN (blk b 67 (kcC p gn a1 a2 m x) :: M) b (0 + 0) 3 [.int .i64 p.id, .int .i64 p.x, .int .i64 p.y] :=
  have h : LdN (blk b 67 (kcC p gn a1 a2 m x) :: M) b 0 11 (kcC p gn a1 a2 m x) := LdN.blk rfl
  ldn_sub (k := 0) h rfl (fun j v hj => by match j with
      | 0 => exact hj
      | 1 => exact hj
      | 2 => exact hj
      | j + 3 => simp at hj)
theorem kput_ctr (t : Nat) (r : Option Addr) (live most : Int) (q : Pt) : ∀ (T : KT) (lv built : Nat) (L : List HP), T.ok lv → q ∉ T.pts → T.cnt ≤ 1000 → lv + T.cnt ≤ 800000 → built + 2000 * T.depth ≤ 8000000000000000000 →
    Ctr Try.prog 31 #[.pointer (some ⟨t, 0, none⟩), .pointer T.addr, q.v, .int .i64 (lv : Nat)] (ktH T :: blk t 60 (kdC r live most built) :: L) fun v L' => ∃ T' k, PutK lv q T T' ∧ k ≤ built + 2000 * T.depth ∧ v = .pointer T'.addr ∧ L' = ktH T' :: blk t 60 (kdC r live most k) :: L
  | .nil, lv, built, L, ho, hq, hn, hl, hb => by
    refine Ctr_of (fn := Try.f31) (n := 55) Try.func31 rfl rfl rfl ?_
    intro g F
    (repeat first | refine G_seq ?_ | refine G_skip ?_ | refine G_endblk ?_ | refine G_block ?_ | refine G_exit rfl ?_)
    refine G_region ?_
    refine GO_eff rfl rfl (eff_box rfl) ?_; rintro _ _ ⟨b6, rfl, rfl⟩
    refine GO_q rfl rfl (ev_assign rfl) ?_
    refine GO_nil ?_
    (repeat first | refine G_seq ?_ | refine G_skip ?_ | refine G_endblk ?_ | refine G_block ?_ | refine G_exit rfl ?_)
    refine G_region ?_
    refine GO_q rfl rfl (ev_move rfl) ?_
    (first | refine GO_q rfl rfl (ev_eqlNil rfl rfl) ?_ | refine GO_q rfl rfl (ev_eqlPtr rfl rfl) ?_)
    refine GO_nil ?_
    (repeat first | refine G_seq ?_ | refine G_skip ?_ | refine G_endblk ?_ | refine G_block ?_ | refine G_exit rfl ?_)
    refine G_cond_t rfl rfl ?_
    (repeat first | refine G_seq ?_ | refine G_skip ?_ | refine G_endblk ?_ | refine G_block ?_ | refine G_exit rfl ?_)
    refine G_region ?_
    refine GO_q rfl rfl (ev_loadN rfl (by repeat' first | exact LdN.blk rfl | assumption | apply LdN.skip | apply LdN.app)) ?_
    refine GO_q rfl rfl (ev_build rfl rfl) ?_
    refine GO_eff rfl rfl (eff_box rfl) ?_; rintro _ _ ⟨b14, rfl, rfl⟩
    refine GO_eff rfl rfl (eff_call rfl (note_ctr b14 q false 0 ⟨0, 0, 0, 0⟩ .nil .nil _ trivial trivial (by decide) (by decide))) ?_; rintro _ _ ⟨rfl, rfl⟩
    refine GO_q rfl rfl (ev_assign rfl) ?_
    refine GO_nil ?_
    (repeat first | refine G_seq ?_ | refine G_skip ?_ | refine G_endblk ?_ | refine G_block ?_ | refine G_exit rfl ?_)
    exact G_ret (L' := ktH (.mk b14 q false .nil .nil) :: blk t 60 (kdC r live most built) :: L) rfl (.tmp rfl .nil) (by (repeat first | exact en_refl | refine en_kt ?_ | apply en_ktn | (apply en_blk; focus ((repeat' first | exact Pick.here | apply Pick.skip | apply Pick.app); done); focus rfl) | (apply en_own; focus ((repeat' first | exact Pick.here | apply Pick.skip | apply Pick.app); done); focus rfl) | (apply en_pick; focus ((repeat' first | exact Pick.here | apply Pick.skip | apply Pick.app); done)) | apply en_drop | apply en_app) <;> fail) ⟨.mk b14 q false .nil .nil, built, ⟨KT.ok_mk trivial trivial (by simp [KT.all]) (by simp [KT.all]) (by decide) (by decide), .refl _, fun r hr => by simpa [KT.all] using hr, by simp [KT.cnt]⟩, Nat.le_add_right _ _, rfl, rfl⟩
  | .node b p gn m x lo hi, lv, built, L, ho, hq, hn, hl, hb => by
    simp only [KT.cnt] at hn hl
    simp only [KT.depth] at hb
    have o := sto_ahd lv
    have p1 := fun T' h => PutK.lo (lo' := T') (q := q) ho h
    have p2 := fun T' h => PutK.hi (hi' := T') (q := q) ho h
    have i1 := fun k M h => kput_ctr t r live most q lo (lv + 1) k M ho.2.2.1 h (by omega) (by omega)
    have i2 := fun k M h => kput_ctr t r live most q hi (lv + 1) k M ho.2.2.2 h (by omega) (by omega)
    have n1 : q ∉ lo.pts := fun h => hq (by simp [KT.pts, h])
    have n2 := fun h : q ∈ hi.pts => hq (by simp [KT.pts, h])
    have z1 := ho.2.2.1.size
    have z2 := ho.2.2.2.size
    refine Ctr.kt ?_
    by_cases e : p = q
    · subst e
      have eg : gn = true := by cases gn <;> simp [KT.pts] at hq ⊢
      subst eg
      refine Ctr_of (fn := Try.f31) (n := 55) Try.func31 rfl rfl rfl ?_
      intro g F
      (repeat first | refine G_seq ?_ | refine G_skip ?_ | refine G_endblk ?_ | refine G_block ?_ | refine G_exit rfl ?_)
      refine G_region ?_
      refine GO_eff rfl rfl (eff_box rfl) ?_; rintro _ _ ⟨b6, rfl, rfl⟩
      refine GO_q rfl rfl (ev_assign rfl) ?_
      refine GO_nil ?_
      (repeat first | refine G_seq ?_ | refine G_skip ?_ | refine G_endblk ?_ | refine G_block ?_ | refine G_exit rfl ?_)
      refine G_region ?_
      refine GO_q rfl rfl (ev_move rfl) ?_
      (first | refine GO_q rfl rfl (ev_eqlNil rfl rfl) ?_ | refine GO_q rfl rfl (ev_eqlPtr rfl rfl) ?_)
      refine GO_nil ?_
      (repeat first | refine G_seq ?_ | refine G_skip ?_ | refine G_endblk ?_ | refine G_block ?_ | refine G_exit rfl ?_)
      refine G_cond_f rfl rfl ?_
      (repeat first | refine G_seq ?_ | refine G_skip ?_ | refine G_endblk ?_ | refine G_block ?_ | refine G_exit rfl ?_)
      refine G_draw (.q 0 (.q 1 (.q 2 (.q 3 (.q 4 (.q 5 .nil)))))) (by kernel_rfl) (by kernel_rfl) ?_
      refine RS_m retB_noPanic rfl rfl rfl rfl (ev_move rfl) ?_
      (first | refine RS_m retB_noPanic rfl rfl rfl rfl (ev_nilCheck rfl) ?_ | refine RS_m retB_noPanic rfl rfl rfl rfl (ev_nilCheckF (by simp) rfl) ?_)
      refine RS_m retB_noPanic rfl rfl rfl rfl (ev_fieldAddr rfl) ?_
      refine RS_q retB_noPanic rfl rfl rfl rfl (ev_loadN rfl (by repeat' first | exact LdN.blk rfl | assumption | apply LdN.skip | apply LdN.app)) ?_
      refine RS_q retB_noPanic rfl rfl rfl rfl (ev_loadN rfl (by repeat' first | exact LdN.blk rfl | assumption | apply LdN.skip | apply LdN.app)) ?_
      refine RS_m retB_noPanic rfl rfl rfl rfl (ev_eqlS rfl rfl rfl rfl rfl rfl) ?_
      refine RS_nil ?_
      all_goals
        (repeat first | refine G_seq ?_ | refine G_skip ?_ | refine G_endblk ?_ | refine G_block ?_ | refine G_exit rfl ?_)
        refine G_cond_t rfl (decide_eq_true rfl) ?_
        (repeat first | refine G_seq ?_ | refine G_skip ?_ | refine G_endblk ?_ | refine G_block ?_ | refine G_exit rfl ?_)
        refine G_region ?_
        refine GO_q rfl rfl (ev_move rfl) ?_
        (first | refine GO_q rfl rfl (ev_nilCheck rfl) ?_ | refine GO_q rfl rfl (ev_nilCheckF (by simp) rfl) ?_)
        refine GO_q rfl rfl (ev_fieldAddr rfl) ?_
        refine GO_eff rfl rfl (eff_store rfl rfl rfl (by repeat' first | exact Upd.here rfl | apply Upd.skip | apply Upd.app)) ?_; rintro _ _ ⟨rfl, rfl⟩
        refine GO_nil ?_
        (repeat first | refine G_seq ?_ | refine G_skip ?_ | refine G_endblk ?_ | refine G_block ?_ | refine G_exit rfl ?_)
        refine G_region ?_
        refine GO_q rfl rfl (ev_move rfl) ?_
        refine GO_q rfl rfl (ev_assign rfl) ?_
        refine GO_nil ?_
        (repeat first | refine G_seq ?_ | refine G_skip ?_ | refine G_endblk ?_ | refine G_block ?_ | refine G_exit rfl ?_)
        exact G_ret (L' := ktH (.node b p false m x lo hi) :: blk t 60 (kdC r live most built) :: L) rfl (.tmp rfl .nil) (by (repeat first | exact en_refl | refine en_kt ?_ | (apply en_blk; focus ((repeat' first | exact Pick.here | apply Pick.skip | apply Pick.app); done); focus rfl) | (apply en_own; focus ((repeat' first | exact Pick.here | apply Pick.skip | apply Pick.app); done); focus rfl) | (apply en_pick; focus ((repeat' first | exact Pick.here | apply Pick.skip | apply Pick.app); done)) | apply en_drop | apply en_app) <;> fail) ⟨.node b p false m x lo hi, built, ⟨ho, .refl _, fun r hr => .inr hr, Nat.le_add_right _ _⟩, Nat.le_add_right _ _, rfl, rfl⟩
    · have hne : [p.id, p.x, p.y] ≠ [q.id, q.x, q.y] := fun e' => e (by
        cases p; cases q
        simp only [List.cons.injEq, and_true] at e'
        simp [e'])
      have hs := side_ctr b p q lv
      cases hh : ahd lv q p with
      | true =>
        rw [hh] at hs
        have pp1 := fun T' h => p1 T' hh h
        refine Ctr_of (fn := Try.f31) (n := 55) Try.func31 rfl rfl rfl ?_
        intro g F
        (repeat first | refine G_seq ?_ | refine G_skip ?_ | refine G_endblk ?_ | refine G_block ?_ | refine G_exit rfl ?_)
        refine G_region ?_
        refine GO_eff rfl rfl (eff_box rfl) ?_; rintro _ _ ⟨b6, rfl, rfl⟩
        refine GO_q rfl rfl (ev_assign rfl) ?_
        refine GO_nil ?_
        (repeat first | refine G_seq ?_ | refine G_skip ?_ | refine G_endblk ?_ | refine G_block ?_ | refine G_exit rfl ?_)
        refine G_region ?_
        refine GO_q rfl rfl (ev_move rfl) ?_
        (first | refine GO_q rfl rfl (ev_eqlNil rfl rfl) ?_ | refine GO_q rfl rfl (ev_eqlPtr rfl rfl) ?_)
        refine GO_nil ?_
        (repeat first | refine G_seq ?_ | refine G_skip ?_ | refine G_endblk ?_ | refine G_block ?_ | refine G_exit rfl ?_)
        refine G_cond_f rfl rfl ?_
        (repeat first | refine G_seq ?_ | refine G_skip ?_ | refine G_endblk ?_ | refine G_block ?_ | refine G_exit rfl ?_)
        refine G_draw (.q 0 (.q 1 (.q 2 (.q 3 (.q 4 (.q 5 .nil)))))) (by kernel_rfl) (by kernel_rfl) ?_
        refine RS_m retB_noPanic rfl rfl rfl rfl (ev_move rfl) ?_
        (first | refine RS_m retB_noPanic rfl rfl rfl rfl (ev_nilCheck rfl) ?_ | refine RS_m retB_noPanic rfl rfl rfl rfl (ev_nilCheckF (by simp) rfl) ?_)
        refine RS_m retB_noPanic rfl rfl rfl rfl (ev_fieldAddr rfl) ?_
        refine RS_q retB_noPanic rfl rfl rfl rfl (ev_loadN rfl (by repeat' first | exact LdN.blk rfl | assumption | apply LdN.skip | apply LdN.app)) ?_
        refine RS_q retB_noPanic rfl rfl rfl rfl (ev_loadN rfl (by repeat' first | exact LdN.blk rfl | assumption | apply LdN.skip | apply LdN.app)) ?_
        refine RS_m retB_noPanic rfl rfl rfl rfl (ev_eqlS rfl rfl rfl rfl rfl rfl) ?_
        refine RS_nil ?_
        all_goals
          (repeat first | refine G_seq ?_ | refine G_skip ?_ | refine G_endblk ?_ | refine G_block ?_ | refine G_exit rfl ?_)
          refine G_cond_f rfl (decide_eq_false hne) ?_
          (repeat first | refine G_seq ?_ | refine G_skip ?_ | refine G_endblk ?_ | refine G_block ?_ | refine G_exit rfl ?_)
          refine G_region ?_
          refine GO_q rfl rfl (ev_move rfl) ?_
          refine GO_q rfl rfl (ev_loadN rfl (by repeat' first | exact LdN.blk rfl | assumption | apply LdN.skip | apply LdN.app)) ?_
          refine GO_q rfl rfl (ev_move rfl) ?_
          refine GO_eff rfl rfl (eff_call rfl (hs _ (by repeat' first | exact blk_p | apply LdN.skip) (by omega))) ?_; rintro _ _ ⟨rfl, rfl⟩
          refine GO_q rfl rfl (ev_assign rfl) ?_
          refine GO_nil ?_
          refine G_heap (L' := ktH lo :: blk t 60 (kdC r live most built) :: blk b 67 (kcC p gn lo.addr hi.addr m x) :: blk b6 27 [.int .i64 q.id, .int .i64 q.x, .int .i64 q.y] :: ktH hi :: F :: L) (by (repeat first | exact en_refl | (apply en_blk; focus ((repeat' first | exact Pick.here | apply Pick.skip | apply Pick.app); done); focus rfl) | (apply en_own; focus ((repeat' first | exact Pick.here | apply Pick.skip | apply Pick.app); done); focus rfl) | (apply en_pick; focus ((repeat' first | exact Pick.here | apply Pick.skip | apply Pick.app); done)) | apply en_drop | apply en_app) <;> fail) ?_
          (repeat first | refine G_seq ?_ | refine G_skip ?_ | refine G_endblk ?_ | refine G_block ?_ | refine G_exit rfl ?_)
          refine G_draw (.q 0 (.q 1 (.q 2 (.q 3 (.q 4 (.q 5 (.q 6 (.q 7 (.q 8 (.q 9 (.q 10 (.q 11 (.q 13 (.q 14 (.e 12 (.q 15 (.e 16 .nil))))))))))))))))) (by kernel_rfl) (by kernel_rfl) ?_
          refine RS_m retB_noPanic rfl rfl rfl rfl (ev_move rfl) ?_
          refine RS_m retB_noPanic rfl rfl rfl rfl (ev_move rfl) ?_
          refine RS_m retB_noPanic rfl rfl rfl rfl (ev_move rfl) ?_
          refine RS_m retB_noPanic rfl rfl rfl rfl (ev_move rfl) ?_
          refine RS_m retB_noPanic rfl rfl rfl rfl (ev_move rfl) ?_
          (first | refine RS_m retB_noPanic rfl rfl rfl rfl (ev_nilCheck rfl) ?_ | refine RS_m retB_noPanic rfl rfl rfl rfl (ev_nilCheckF (by simp) rfl) ?_)
          refine RS_m retB_noPanic rfl rfl rfl rfl (ev_fieldAddr rfl) ?_
          refine RS_m retB_noPanic rfl rfl rfl rfl (ev_indexAddrA rfl rfl (by first | omega | (simp; done) | (simp; omega)) (by first | omega | (simp; done) | (simp; omega))) ?_
          refine RS_q retB_noPanic rfl rfl rfl rfl (ev_load rfl (by repeat' first | exact Ld.blk rfl | assumption | apply Ld.skip | apply Ld.app)) ?_
          refine RS_q retB_noPanic rfl rfl rfl rfl (ev_loadN rfl (by repeat' first | exact LdN.blk rfl | assumption | apply LdN.skip | apply LdN.app)) ?_
          refine RS_m retB_noPanic rfl rfl rfl rfl (ev_move rfl) ?_
          (first | refine RS_m retB_noPanic rfl rfl rfl rfl (ev_addN (q := 1) rfl rfl (by first | omega | (simp; done) | (simp; omega))) ?_ | refine RS_m retB_noPanic rfl rfl rfl rfl (ev_add rfl rfl (by first | omega | (simp; done) | (simp; omega))) ?_)
          (first | refine RS_m retB_noPanic rfl rfl rfl rfl (ev_nilCheck rfl) ?_ | refine RS_m retB_noPanic rfl rfl rfl rfl (ev_nilCheckF (by simp) rfl) ?_)
          refine RS_m retB_noPanic rfl rfl rfl rfl (ev_fieldAddr rfl) ?_
          refine RS_e (RE_cmp (by kernel_rfl) rfl rfl rfl (eff_call rfl (i1 built _ n1 (by omega))) ?_); rintro _ _ ⟨T1, k1, g1, hk1, rfl, rfl⟩
          refine RS_m retB_noPanic rfl rfl rfl rfl (ev_indexAddrA rfl rfl (by first | omega | (simp; done) | (simp; omega)) (by first | omega | (simp; done) | (simp; omega))) ?_
          refine RS_e (RE_last (by kernel_rfl) rfl rfl rfl (eff_store rfl rfl rfl (by repeat' first | exact Upd.here rfl | apply Upd.skip | apply Upd.app)) ?_); rintro _ _ ⟨rfl, rfl⟩
          all_goals
            obtain ⟨w1, w2, w3⟩ := pp1 T1 g1
            have z3 := g1.ok.size
            have z4 := g1.cnt
            have z5 := (KT.mk b p gn T1 hi).pts_len
            simp only [KT.cnt] at z5
            refine G_heap (L' := blk b 67 (kcC p gn T1.addr hi.addr m x) :: ktH T1 :: blk t 60 (kdC r live most k1) :: ktH hi :: F :: L) (by (repeat first | exact en_refl | (apply en_blk; focus ((repeat' first | exact Pick.here | apply Pick.skip | apply Pick.app); done); focus rfl) | (apply en_own; focus ((repeat' first | exact Pick.here | apply Pick.skip | apply Pick.app); done); focus rfl) | (apply en_pick; focus ((repeat' first | exact Pick.here | apply Pick.skip | apply Pick.app); done)) | apply en_drop | apply en_app) <;> fail) ?_
            (repeat first | refine G_seq ?_ | refine G_skip ?_ | refine G_endblk ?_ | refine G_block ?_ | refine G_exit rfl ?_)
            refine G_region ?_
            refine GO_q rfl rfl (ev_move rfl) ?_
            refine GO_eff rfl rfl (eff_call rfl (Ctr.pick (by repeat' first | exact Pick.here | apply Pick.skip | apply Pick.app) (note_ctr b p gn m x T1 hi _ (by repeat' first | exact ktH_in _ _ | apply KIn.skip) (by repeat' first | exact ktH_in _ _ | apply KIn.skip) (by omega) (by omega)))) ?_; rintro _ _ ⟨rfl, rfl⟩
            refine GO_eff rfl rfl (eff_call rfl (heavy_ctr b p gn _ _ T1 hi _ ⟨(by repeat' first | exact LdN.blk rfl | apply LdN.skip), (by repeat' first | exact ktH_in _ _ | apply KIn.skip), (by repeat' first | exact ktH_in _ _ | apply KIn.skip)⟩ (by omega))) ?_; rintro _ _ ⟨rfl, rfl⟩
            refine GO_nil ?_
            (repeat first | refine G_seq ?_ | refine G_skip ?_ | refine G_endblk ?_ | refine G_block ?_ | refine G_exit rfl ?_)
            refine G_cond rfl (fun c => ?_) (fun c => ?_)
            · have hps := kpoints_ctr (.mk b p gn T1 hi)
              generalize (KT.mk b p gn T1 hi).pts = ps at *
              (repeat first | refine G_seq ?_ | refine G_skip ?_ | refine G_endblk ?_ | refine G_block ?_ | refine G_exit rfl ?_)
              refine G_region ?_
              refine GO_q rfl rfl (ev_move rfl) ?_
              refine GO_q rfl rfl (ev_move rfl) ?_
              refine GO_eff rfl rfl (eff_call rfl (hps _ ⟨(by repeat' first | exact LdN.blk rfl | apply LdN.skip), (by repeat' first | exact ktH_in _ _ | apply KIn.skip), (by repeat' first | exact ktH_in _ _ | apply KIn.skip)⟩ (by simp only [KT.cnt]; omega))) ?_; rintro _ _ ⟨a, c', rfl, f1, rfl⟩
              refine GO_q rfl rfl (ev_move rfl) ?_
              refine GO_eff rfl rfl (eff_call rfl (Ctr.pick (by repeat' first | exact Pick.here | apply Pick.skip | apply Pick.app) (kbuild_ctr t r live most ps.length a c' ps lv k1 _ w3 (by repeat' first | exact Rc.own (flat_length _) f1.1 | apply Rd.skip) f1.2.1 (by omega) (by omega) (by omega)))) ?_; rintro _ _ ⟨T2, g2, rfl, rfl⟩
              refine GO_q rfl rfl (ev_assign rfl) ?_
              refine GO_nil ?_
              (repeat first | refine G_seq ?_ | refine G_skip ?_ | refine G_endblk ?_ | refine G_block ?_ | refine G_exit rfl ?_)
              exact G_ret (L' := ktH T2 :: blk t 60 (kdC r live most (k1 + ps.length)) :: L) rfl (.tmp rfl .nil) (by (repeat first | exact en_refl | (apply en_blk; focus ((repeat' first | exact Pick.here | apply Pick.skip | apply Pick.app); done); focus rfl) | (apply en_own; focus ((repeat' first | exact Pick.here | apply Pick.skip | apply Pick.app); done); focus rfl) | (apply en_pick; focus ((repeat' first | exact Pick.here | apply Pick.skip | apply Pick.app); done)) | apply en_drop | apply en_app) <;> fail) ⟨T2, _, w2 T2 g2, by simp only [KT.depth]; omega, rfl, rfl⟩
            · (repeat first | refine G_seq ?_ | refine G_skip ?_ | refine G_endblk ?_ | refine G_block ?_ | refine G_exit rfl ?_)
              refine G_region ?_
              refine GO_q rfl rfl (ev_move rfl) ?_
              refine GO_q rfl rfl (ev_assign rfl) ?_
              refine GO_nil ?_
              (repeat first | refine G_seq ?_ | refine G_skip ?_ | refine G_endblk ?_ | refine G_block ?_ | refine G_exit rfl ?_)
              exact G_ret (L' := ktH (.mk b p gn T1 hi) :: blk t 60 (kdC r live most k1) :: L) rfl (.tmp rfl .nil) (by (repeat first | exact en_refl | refine en_kt ?_ | (apply en_blk; focus ((repeat' first | exact Pick.here | apply Pick.skip | apply Pick.app); done); focus rfl) | (apply en_own; focus ((repeat' first | exact Pick.here | apply Pick.skip | apply Pick.app); done); focus rfl) | (apply en_pick; focus ((repeat' first | exact Pick.here | apply Pick.skip | apply Pick.app); done)) | apply en_drop | apply en_app) <;> fail) ⟨_, k1, w1 c, by simp only [KT.depth]; omega, rfl, rfl⟩
      | false =>
        rw [hh] at hs
        have hh2 : ahd lv p q = true := o.tot (fun e' => e e'.symm) hh
        have pp2 := fun T' h => p2 T' hh2 h
        refine Ctr_of (fn := Try.f31) (n := 55) Try.func31 rfl rfl rfl ?_
        intro g F
        (repeat first | refine G_seq ?_ | refine G_skip ?_ | refine G_endblk ?_ | refine G_block ?_ | refine G_exit rfl ?_)
        refine G_region ?_
        refine GO_eff rfl rfl (eff_box rfl) ?_; rintro _ _ ⟨b6, rfl, rfl⟩
        refine GO_q rfl rfl (ev_assign rfl) ?_
        refine GO_nil ?_
        (repeat first | refine G_seq ?_ | refine G_skip ?_ | refine G_endblk ?_ | refine G_block ?_ | refine G_exit rfl ?_)
        refine G_region ?_
        refine GO_q rfl rfl (ev_move rfl) ?_
        (first | refine GO_q rfl rfl (ev_eqlNil rfl rfl) ?_ | refine GO_q rfl rfl (ev_eqlPtr rfl rfl) ?_)
        refine GO_nil ?_
        (repeat first | refine G_seq ?_ | refine G_skip ?_ | refine G_endblk ?_ | refine G_block ?_ | refine G_exit rfl ?_)
        refine G_cond_f rfl rfl ?_
        (repeat first | refine G_seq ?_ | refine G_skip ?_ | refine G_endblk ?_ | refine G_block ?_ | refine G_exit rfl ?_)
        refine G_draw (.q 0 (.q 1 (.q 2 (.q 3 (.q 4 (.q 5 .nil)))))) (by kernel_rfl) (by kernel_rfl) ?_
        refine RS_m retB_noPanic rfl rfl rfl rfl (ev_move rfl) ?_
        (first | refine RS_m retB_noPanic rfl rfl rfl rfl (ev_nilCheck rfl) ?_ | refine RS_m retB_noPanic rfl rfl rfl rfl (ev_nilCheckF (by simp) rfl) ?_)
        refine RS_m retB_noPanic rfl rfl rfl rfl (ev_fieldAddr rfl) ?_
        refine RS_q retB_noPanic rfl rfl rfl rfl (ev_loadN rfl (by repeat' first | exact LdN.blk rfl | assumption | apply LdN.skip | apply LdN.app)) ?_
        refine RS_q retB_noPanic rfl rfl rfl rfl (ev_loadN rfl (by repeat' first | exact LdN.blk rfl | assumption | apply LdN.skip | apply LdN.app)) ?_
        refine RS_m retB_noPanic rfl rfl rfl rfl (ev_eqlS rfl rfl rfl rfl rfl rfl) ?_
        refine RS_nil ?_
        all_goals
          (repeat first | refine G_seq ?_ | refine G_skip ?_ | refine G_endblk ?_ | refine G_block ?_ | refine G_exit rfl ?_)
          refine G_cond_f rfl (decide_eq_false hne) ?_
          (repeat first | refine G_seq ?_ | refine G_skip ?_ | refine G_endblk ?_ | refine G_block ?_ | refine G_exit rfl ?_)
          refine G_region ?_
          refine GO_q rfl rfl (ev_move rfl) ?_
          refine GO_q rfl rfl (ev_loadN rfl (by repeat' first | exact LdN.blk rfl | assumption | apply LdN.skip | apply LdN.app)) ?_
          refine GO_q rfl rfl (ev_move rfl) ?_
          refine GO_eff rfl rfl (eff_call rfl (hs _ (by repeat' first | exact blk_p | apply LdN.skip) (by omega))) ?_; rintro _ _ ⟨rfl, rfl⟩
          refine GO_q rfl rfl (ev_assign rfl) ?_
          refine GO_nil ?_
          refine G_heap (L' := ktH hi :: blk t 60 (kdC r live most built) :: blk b 67 (kcC p gn lo.addr hi.addr m x) :: blk b6 27 [.int .i64 q.id, .int .i64 q.x, .int .i64 q.y] :: ktH lo :: F :: L) (by (repeat first | exact en_refl | (apply en_blk; focus ((repeat' first | exact Pick.here | apply Pick.skip | apply Pick.app); done); focus rfl) | (apply en_own; focus ((repeat' first | exact Pick.here | apply Pick.skip | apply Pick.app); done); focus rfl) | (apply en_pick; focus ((repeat' first | exact Pick.here | apply Pick.skip | apply Pick.app); done)) | apply en_drop | apply en_app) <;> fail) ?_
          (repeat first | refine G_seq ?_ | refine G_skip ?_ | refine G_endblk ?_ | refine G_block ?_ | refine G_exit rfl ?_)
          refine G_draw (.q 0 (.q 1 (.q 2 (.q 3 (.q 4 (.q 5 (.q 6 (.q 7 (.q 8 (.q 9 (.q 10 (.q 11 (.q 13 (.q 14 (.e 12 (.q 15 (.e 16 .nil))))))))))))))))) (by kernel_rfl) (by kernel_rfl) ?_
          refine RS_m retB_noPanic rfl rfl rfl rfl (ev_move rfl) ?_
          refine RS_m retB_noPanic rfl rfl rfl rfl (ev_move rfl) ?_
          refine RS_m retB_noPanic rfl rfl rfl rfl (ev_move rfl) ?_
          refine RS_m retB_noPanic rfl rfl rfl rfl (ev_move rfl) ?_
          refine RS_m retB_noPanic rfl rfl rfl rfl (ev_move rfl) ?_
          (first | refine RS_m retB_noPanic rfl rfl rfl rfl (ev_nilCheck rfl) ?_ | refine RS_m retB_noPanic rfl rfl rfl rfl (ev_nilCheckF (by simp) rfl) ?_)
          refine RS_m retB_noPanic rfl rfl rfl rfl (ev_fieldAddr rfl) ?_
          refine RS_m retB_noPanic rfl rfl rfl rfl (ev_indexAddrA rfl rfl (by first | omega | (simp; done) | (simp; omega)) (by first | omega | (simp; done) | (simp; omega))) ?_
          refine RS_q retB_noPanic rfl rfl rfl rfl (ev_load rfl (by repeat' first | exact Ld.blk rfl | assumption | apply Ld.skip | apply Ld.app)) ?_
          refine RS_q retB_noPanic rfl rfl rfl rfl (ev_loadN rfl (by repeat' first | exact LdN.blk rfl | assumption | apply LdN.skip | apply LdN.app)) ?_
          refine RS_m retB_noPanic rfl rfl rfl rfl (ev_move rfl) ?_
          (first | refine RS_m retB_noPanic rfl rfl rfl rfl (ev_addN (q := 1) rfl rfl (by first | omega | (simp; done) | (simp; omega))) ?_ | refine RS_m retB_noPanic rfl rfl rfl rfl (ev_add rfl rfl (by first | omega | (simp; done) | (simp; omega))) ?_)
          (first | refine RS_m retB_noPanic rfl rfl rfl rfl (ev_nilCheck rfl) ?_ | refine RS_m retB_noPanic rfl rfl rfl rfl (ev_nilCheckF (by simp) rfl) ?_)
          refine RS_m retB_noPanic rfl rfl rfl rfl (ev_fieldAddr rfl) ?_
          refine RS_e (RE_cmp (by kernel_rfl) rfl rfl rfl (eff_call rfl (i2 built _ n2 (by omega))) ?_); rintro _ _ ⟨T1, k1, g1, hk1, rfl, rfl⟩
          refine RS_m retB_noPanic rfl rfl rfl rfl (ev_indexAddrA rfl rfl (by first | omega | (simp; done) | (simp; omega)) (by first | omega | (simp; done) | (simp; omega))) ?_
          refine RS_e (RE_last (by kernel_rfl) rfl rfl rfl (eff_store rfl rfl rfl (by repeat' first | exact Upd.here rfl | apply Upd.skip | apply Upd.app)) ?_); rintro _ _ ⟨rfl, rfl⟩
          all_goals
            obtain ⟨w1, w2, w3⟩ := pp2 T1 g1
            have z3 := g1.ok.size
            have z4 := g1.cnt
            have z5 := (KT.mk b p gn lo T1).pts_len
            simp only [KT.cnt] at z5
            refine G_heap (L' := blk b 67 (kcC p gn lo.addr T1.addr m x) :: ktH T1 :: blk t 60 (kdC r live most k1) :: ktH lo :: F :: L) (by (repeat first | exact en_refl | (apply en_blk; focus ((repeat' first | exact Pick.here | apply Pick.skip | apply Pick.app); done); focus rfl) | (apply en_own; focus ((repeat' first | exact Pick.here | apply Pick.skip | apply Pick.app); done); focus rfl) | (apply en_pick; focus ((repeat' first | exact Pick.here | apply Pick.skip | apply Pick.app); done)) | apply en_drop | apply en_app) <;> fail) ?_
            (repeat first | refine G_seq ?_ | refine G_skip ?_ | refine G_endblk ?_ | refine G_block ?_ | refine G_exit rfl ?_)
            refine G_region ?_
            refine GO_q rfl rfl (ev_move rfl) ?_
            refine GO_eff rfl rfl (eff_call rfl (Ctr.pick (by repeat' first | exact Pick.here | apply Pick.skip | apply Pick.app) (note_ctr b p gn m x lo T1 _ (by repeat' first | exact ktH_in _ _ | apply KIn.skip) (by repeat' first | exact ktH_in _ _ | apply KIn.skip) (by omega) (by omega)))) ?_; rintro _ _ ⟨rfl, rfl⟩
            refine GO_eff rfl rfl (eff_call rfl (heavy_ctr b p gn _ _ lo T1 _ ⟨(by repeat' first | exact LdN.blk rfl | apply LdN.skip), (by repeat' first | exact ktH_in _ _ | apply KIn.skip), (by repeat' first | exact ktH_in _ _ | apply KIn.skip)⟩ (by omega))) ?_; rintro _ _ ⟨rfl, rfl⟩
            refine GO_nil ?_
            (repeat first | refine G_seq ?_ | refine G_skip ?_ | refine G_endblk ?_ | refine G_block ?_ | refine G_exit rfl ?_)
            refine G_cond rfl (fun c => ?_) (fun c => ?_)
            · have hps := kpoints_ctr (.mk b p gn lo T1)
              generalize (KT.mk b p gn lo T1).pts = ps at *
              (repeat first | refine G_seq ?_ | refine G_skip ?_ | refine G_endblk ?_ | refine G_block ?_ | refine G_exit rfl ?_)
              refine G_region ?_
              refine GO_q rfl rfl (ev_move rfl) ?_
              refine GO_q rfl rfl (ev_move rfl) ?_
              refine GO_eff rfl rfl (eff_call rfl (hps _ ⟨(by repeat' first | exact LdN.blk rfl | apply LdN.skip), (by repeat' first | exact ktH_in _ _ | apply KIn.skip), (by repeat' first | exact ktH_in _ _ | apply KIn.skip)⟩ (by simp only [KT.cnt]; omega))) ?_; rintro _ _ ⟨a, c', rfl, f1, rfl⟩
              refine GO_q rfl rfl (ev_move rfl) ?_
              refine GO_eff rfl rfl (eff_call rfl (Ctr.pick (by repeat' first | exact Pick.here | apply Pick.skip | apply Pick.app) (kbuild_ctr t r live most ps.length a c' ps lv k1 _ w3 (by repeat' first | exact Rc.own (flat_length _) f1.1 | apply Rd.skip) f1.2.1 (by omega) (by omega) (by omega)))) ?_; rintro _ _ ⟨T2, g2, rfl, rfl⟩
              refine GO_q rfl rfl (ev_assign rfl) ?_
              refine GO_nil ?_
              (repeat first | refine G_seq ?_ | refine G_skip ?_ | refine G_endblk ?_ | refine G_block ?_ | refine G_exit rfl ?_)
              exact G_ret (L' := ktH T2 :: blk t 60 (kdC r live most (k1 + ps.length)) :: L) rfl (.tmp rfl .nil) (by (repeat first | exact en_refl | (apply en_blk; focus ((repeat' first | exact Pick.here | apply Pick.skip | apply Pick.app); done); focus rfl) | (apply en_own; focus ((repeat' first | exact Pick.here | apply Pick.skip | apply Pick.app); done); focus rfl) | (apply en_pick; focus ((repeat' first | exact Pick.here | apply Pick.skip | apply Pick.app); done)) | apply en_drop | apply en_app) <;> fail) ⟨T2, _, w2 T2 g2, by simp only [KT.depth]; omega, rfl, rfl⟩
            · (repeat first | refine G_seq ?_ | refine G_skip ?_ | refine G_endblk ?_ | refine G_block ?_ | refine G_exit rfl ?_)
              refine G_region ?_
              refine GO_q rfl rfl (ev_move rfl) ?_
              refine GO_q rfl rfl (ev_assign rfl) ?_
              refine GO_nil ?_
              (repeat first | refine G_seq ?_ | refine G_skip ?_ | refine G_endblk ?_ | refine G_block ?_ | refine G_exit rfl ?_)
              exact G_ret (L' := ktH (.mk b p gn lo T1) :: blk t 60 (kdC r live most k1) :: L) rfl (.tmp rfl .nil) (by (repeat first | exact en_refl | refine en_kt ?_ | (apply en_blk; focus ((repeat' first | exact Pick.here | apply Pick.skip | apply Pick.app); done); focus rfl) | (apply en_own; focus ((repeat' first | exact Pick.here | apply Pick.skip | apply Pick.app); done); focus rfl) | (apply en_pick; focus ((repeat' first | exact Pick.here | apply Pick.skip | apply Pick.app); done)) | apply en_drop | apply en_app) <;> fail) ⟨_, k1, w1 c, by simp only [KT.depth]; omega, rfl, rfl⟩
end Go.Proofs.Ytjgdhkilnalejaa
/- A tree of points by two orders in turn: the whole tree as a set of points. -/
namespace Go.Proofs.Ytjgdhkilnalejaa
attribute [local irreducible] sat
open Go.RowKit
set_option linter.unusedVariables false
set_option linter.unusedSimpArgs false
set_option maxRecDepth 100000

/-- A node within a tree by itself. -/
theorem kt_focus (q : Pt) {b : Nat} {p : Pt} {gn : Bool} {m : Nat} {x : Bx} {lo hi : KT} : ∀ (T : KT) (lv : Nat), T.fnd q lv = .node b p gn m x lo hi →
    ∃ R : HP, (∀ h, ktH T h → sat [blk b 67 (kcC p gn lo.addr hi.addr m x), R] h) ∧ (∀ h, sat [blk b 67 (kcC p gn lo.addr hi.addr m x), R] h → ktH T h) ∧ (∀ h, sat [blk b 67 (kcC p true lo.addr hi.addr m x), R] h → ktH (T.mark q lv) h)
  | .nil, lv, e => by cases e
  | .node b0 p0 g0 m0 x0 l0 h0, lv, e => by
    unfold KT.fnd at e
    by_cases c1 : p0 = q
    · rw [if_pos c1] at e
      cases e
      refine ⟨fun h => sat [ktH lo, ktH hi] h, fun h s => ?_, fun h s => ?_, fun h s => ?_⟩
      · exact sat.cons_mono (fun _ s => sat.join (N := [ktH lo, ktH hi]) (L := []) s) (show sat [blk b 67 (kcC p gn lo.addr hi.addr m x), ktH lo, ktH hi] h from s)
      · exact sat.cons_mono (fun _ s => sat.part (N := [ktH lo, ktH hi]) (L := []) s) s
      · unfold KT.mark
        rw [if_pos c1]
        exact sat.cons_mono (fun _ s => sat.part (N := [ktH lo, ktH hi]) (L := []) s) s
    · rw [if_neg c1] at e
      by_cases c2 : ahd lv q p0 = true
      · rw [if_pos c2] at e
        obtain ⟨R, r1, r2, r3⟩ := kt_focus q l0 (lv + 1) e
        refine ⟨fun h => sat [R, blk b0 67 (kcC p0 g0 l0.addr h0.addr m0 x0), ktH h0] h, fun h s => ?_, fun h s => ?_, fun h s => ?_⟩
        · have s1 : sat [blk b0 67 (kcC p0 g0 l0.addr h0.addr m0 x0), ktH l0, ktH h0] h := s
          have s2 := sat.head r1 s1.swap
          exact sat.cons_mono (fun _ s => sat.join (N := [R, blk b0 67 (kcC p0 g0 l0.addr h0.addr m0 x0), ktH h0]) (L := []) s) s2
        · have s2 := sat.cons_mono (fun _ s => sat.part (N := [R, blk b0 67 (kcC p0 g0 l0.addr h0.addr m0 x0), ktH h0]) (L := []) s) s
          have s3 := sat.fold (A := ktH l0) (N := [blk b 67 (kcC p gn lo.addr hi.addr m x), R]) r2 s2
          exact s3.swap
        · have s2 := sat.cons_mono (fun _ s => sat.part (N := [R, blk b0 67 (kcC p0 g0 l0.addr h0.addr m0 x0), ktH h0]) (L := []) s) s
          have s3 := sat.fold (A := ktH (l0.mark q (lv + 1))) (N := [blk b 67 (kcC p true lo.addr hi.addr m x), R]) r3 s2
          unfold KT.mark
          rw [if_neg c1, if_pos c2]
          show sat [blk b0 67 (kcC p0 g0 (l0.mark q (lv + 1)).addr h0.addr m0 x0), ktH (l0.mark q (lv + 1)), ktH h0] h
          rw [KT.mark_addr]
          exact s3.swap
      · rw [if_neg c2] at e
        obtain ⟨R, r1, r2, r3⟩ := kt_focus q h0 (lv + 1) e
        have pm : ∀ A B C : HP, List.Perm [A, B, C] [C, A, B] := fun A B C => ((List.Perm.swap C B []).cons A).trans (.swap C A [B])
        refine ⟨fun h => sat [R, blk b0 67 (kcC p0 g0 l0.addr h0.addr m0 x0), ktH l0] h, fun h s => ?_, fun h s => ?_, fun h s => ?_⟩
        · have s1 : sat [blk b0 67 (kcC p0 g0 l0.addr h0.addr m0 x0), ktH l0, ktH h0] h := s
          have s2 := sat.head r1 (s1.perm (pm _ _ _))
          exact sat.cons_mono (fun _ s => sat.join (N := [R, blk b0 67 (kcC p0 g0 l0.addr h0.addr m0 x0), ktH l0]) (L := []) s) s2
        · have s2 := sat.cons_mono (fun _ s => sat.part (N := [R, blk b0 67 (kcC p0 g0 l0.addr h0.addr m0 x0), ktH l0]) (L := []) s) s
          have s3 := sat.fold (A := ktH h0) (N := [blk b 67 (kcC p gn lo.addr hi.addr m x), R]) r2 s2
          exact s3.perm (pm _ _ _).symm
        · have s2 := sat.cons_mono (fun _ s => sat.part (N := [R, blk b0 67 (kcC p0 g0 l0.addr h0.addr m0 x0), ktH l0]) (L := []) s) s
          have s3 := sat.fold (A := ktH (h0.mark q (lv + 1))) (N := [blk b 67 (kcC p true lo.addr hi.addr m x), R]) r3 s2
          unfold KT.mark
          rw [if_neg c1, if_neg c2]
          show sat [blk b0 67 (kcC p0 g0 l0.addr (h0.mark q (lv + 1)).addr m0 x0), ktH l0, ktH (h0.mark q (lv + 1))] h
          rw [KT.mark_addr]
          exact s3.perm (pm _ _ _).symm
/-- What clean leaves. -/
structure ClK (built : Nat) (T T' : KT) (k : Nat) : Prop where
  ok : T'.ok 0
  pts : T'.pts.Perm T.pts
  cnt : T'.cnt ≤ T.cnt
  few : T'.cnt - T.pts.length ≤ (T'.cnt + 1) / 2
  bt : k ≤ built + 2000
theorem kclean_ctr (t : Nat) (T : KT) (live : Nat) (most : Int) (built : Nat) (L : List HP) (ho : T.ok 0) (hl : T.pts.length = live) (hn : T.cnt ≤ 2000) (hb : built ≤ 8000000000000000000) :
    Ctr Try.prog 32 #[.pointer (some ⟨t, 0, none⟩)] (ktH T :: blk t 60 (kdC T.addr (live : Nat) most built) :: L) fun v L' => ∃ T' k, ClK built T T' k ∧ v = .tuple #[] ∧ L' = ktH T' :: blk t 60 (kdC T'.addr (live : Nat) most k) :: L := by
  have hsz := ho.size
  have c1 := fun M h => ksize_ctr T M h
  rw [hsz] at c1
  have hpl := T.pts_len
  have c5 := fun M h => kpoints_ctr T M h (by omega)
  have hnd : T.pts.Nodup := T.pts_sub.nodup ho.nodup
  subst hl
  refine Ctr_of (fn := Try.f32) (n := 28) Try.func32 rfl rfl rfl ?_
  intro g F
  (repeat first | refine G_seq ?_ | refine G_skip ?_ | refine G_endblk ?_ | refine G_block ?_ | refine G_exit rfl ?_)
  refine G_region ?_
  refine GO_q rfl rfl (ev_move rfl) ?_
  (first | refine GO_q rfl rfl (ev_nilCheck rfl) ?_ | refine GO_q rfl rfl (ev_nilCheckF (by simp) rfl) ?_)
  refine GO_q rfl rfl (ev_fieldAddr rfl) ?_
  refine GO_q rfl rfl (ev_load rfl (by repeat' first | exact Ld.blk rfl | assumption | apply Ld.skip | apply Ld.app)) ?_
  refine GO_eff rfl rfl (eff_call rfl (c1 _ (by repeat' first | exact ktH_in _ _ | apply KIn.skip))) ?_; rintro _ _ ⟨rfl, rfl⟩
  refine GO_q rfl rfl (ev_assign rfl) ?_
  refine GO_nil ?_
  by_cases hh : (T.cnt + 1) / 2 < T.cnt - T.pts.length
  · (repeat first | refine G_seq ?_ | refine G_skip ?_ | refine G_endblk ?_ | refine G_block ?_ | refine G_exit rfl ?_)
    refine G_region ?_
    refine GO_q rfl rfl (ev_move rfl) ?_
    refine GO_q rfl rfl (ev_move rfl) ?_
    (first | refine GO_q rfl rfl (ev_nilCheck rfl) ?_ | refine GO_q rfl rfl (ev_nilCheckF (by simp) rfl) ?_)
    refine GO_q rfl rfl (ev_fieldAddr rfl) ?_
    refine GO_q rfl rfl (ev_load rfl (by repeat' first | exact Ld.blk rfl | assumption | apply Ld.skip | apply Ld.app)) ?_
    (first | refine GO_q rfl rfl (ev_subN rfl rfl (by first | omega | (simp; done) | (simp; omega))) ?_ | refine GO_q rfl rfl (ev_sub rfl rfl (by first | omega | (simp; done) | (simp; omega))) ?_)
    refine GO_q rfl rfl (ev_move rfl) ?_
    (first | refine GO_q rfl rfl (ev_addN (q := 1) rfl rfl (by first | omega | (simp; done) | (simp; omega))) ?_ | refine GO_q rfl rfl (ev_add rfl rfl (by first | omega | (simp; done) | (simp; omega))) ?_)
    (first | refine GO_q rfl rfl (ev_quoN (q := 2) rfl rfl (by first | omega | (simp; done) | (simp; omega)) (by first | omega | (simp; done) | (simp; omega))) ?_ | refine GO_q rfl rfl (ev_quo rfl rfl (by first | omega | (simp; done) | (simp; omega)) (by first | omega | (simp; done) | (simp; omega)) (by first | omega | (simp; done) | (simp; omega))) ?_)
    refine GO_q rfl rfl (ev_gtr rfl rfl) ?_
    refine GO_nil ?_
    (repeat first | refine G_seq ?_ | refine G_skip ?_ | refine G_endblk ?_ | refine G_block ?_ | refine G_exit rfl ?_)
    refine G_cond_t rfl (decide_eq_true (by omega)) ?_
    (repeat first | refine G_seq ?_ | refine G_skip ?_ | refine G_endblk ?_ | refine G_block ?_ | refine G_exit rfl ?_)
    refine G_region ?_
    refine GO_q rfl rfl (ev_move rfl) ?_
    refine GO_q rfl rfl (ev_move rfl) ?_
    refine GO_q rfl rfl (ev_move rfl) ?_
    (first | refine GO_q rfl rfl (ev_nilCheck rfl) ?_ | refine GO_q rfl rfl (ev_nilCheckF (by simp) rfl) ?_)
    refine GO_q rfl rfl (ev_fieldAddr rfl) ?_
    refine GO_q rfl rfl (ev_load rfl (by repeat' first | exact Ld.blk rfl | assumption | apply Ld.skip | apply Ld.app)) ?_
    refine GO_eff rfl rfl (eff_call rfl (c5 _ (by repeat' first | exact ktH_in _ _ | apply KIn.skip))) ?_; rintro _ _ ⟨a, c', rfl, f1, rfl⟩
    refine GO_eff rfl rfl (eff_call rfl (Ctr.pick (by repeat' first | exact Pick.here | apply Pick.skip | apply Pick.app) (kbuild_ctr t T.addr (T.pts.length : Nat) most T.pts.length a c' T.pts 0 built _ hnd (by repeat' first | exact Rc.own (flat_length _) f1.1 | apply Rd.skip) f1.2.1 (by omega) (by omega) (by omega)))) ?_; rintro _ _ ⟨T2, g2, rfl, rfl⟩
    (first | refine GO_q rfl rfl (ev_nilCheck rfl) ?_ | refine GO_q rfl rfl (ev_nilCheckF (by simp) rfl) ?_)
    refine GO_q rfl rfl (ev_fieldAddr rfl) ?_
    refine GO_eff rfl rfl (eff_store rfl rfl rfl (by repeat' first | exact Upd.here rfl | apply Upd.skip | apply Upd.app)) ?_; rintro _ _ ⟨rfl, rfl⟩
    refine GO_nil ?_
    (repeat first | refine G_seq ?_ | refine G_skip ?_ | refine G_endblk ?_ | refine G_block ?_ | refine G_exit rfl ?_)
    have e := KT.cnt_of g2.all
    exact G_end (rs := []) (vs := []) (L' := ktH T2 :: blk t 60 (kdC T2.addr (T.pts.length : Nat) most (built + T.pts.length)) :: L) rfl .nil (by (repeat first | exact en_refl | (apply en_blk; focus ((repeat' first | exact Pick.here | apply Pick.skip | apply Pick.app); done); focus rfl) | (apply en_own; focus ((repeat' first | exact Pick.here | apply Pick.skip | apply Pick.app); done); focus rfl) | (apply en_pick; focus ((repeat' first | exact Pick.here | apply Pick.skip | apply Pick.app); done)) | apply en_drop | apply en_app) <;> fail) ⟨T2, _, ⟨g2.ok, g2.pts ▸ g2.all, by omega, by omega, by omega⟩, rfl, rfl⟩
  · (repeat first | refine G_seq ?_ | refine G_skip ?_ | refine G_endblk ?_ | refine G_block ?_ | refine G_exit rfl ?_)
    refine G_region ?_
    refine GO_q rfl rfl (ev_move rfl) ?_
    refine GO_q rfl rfl (ev_move rfl) ?_
    (first | refine GO_q rfl rfl (ev_nilCheck rfl) ?_ | refine GO_q rfl rfl (ev_nilCheckF (by simp) rfl) ?_)
    refine GO_q rfl rfl (ev_fieldAddr rfl) ?_
    refine GO_q rfl rfl (ev_load rfl (by repeat' first | exact Ld.blk rfl | assumption | apply Ld.skip | apply Ld.app)) ?_
    (first | refine GO_q rfl rfl (ev_subN rfl rfl (by first | omega | (simp; done) | (simp; omega))) ?_ | refine GO_q rfl rfl (ev_sub rfl rfl (by first | omega | (simp; done) | (simp; omega))) ?_)
    refine GO_q rfl rfl (ev_move rfl) ?_
    (first | refine GO_q rfl rfl (ev_addN (q := 1) rfl rfl (by first | omega | (simp; done) | (simp; omega))) ?_ | refine GO_q rfl rfl (ev_add rfl rfl (by first | omega | (simp; done) | (simp; omega))) ?_)
    (first | refine GO_q rfl rfl (ev_quoN (q := 2) rfl rfl (by first | omega | (simp; done) | (simp; omega)) (by first | omega | (simp; done) | (simp; omega))) ?_ | refine GO_q rfl rfl (ev_quo rfl rfl (by first | omega | (simp; done) | (simp; omega)) (by first | omega | (simp; done) | (simp; omega)) (by first | omega | (simp; done) | (simp; omega))) ?_)
    refine GO_q rfl rfl (ev_gtr rfl rfl) ?_
    refine GO_nil ?_
    (repeat first | refine G_seq ?_ | refine G_skip ?_ | refine G_endblk ?_ | refine G_block ?_ | refine G_exit rfl ?_)
    refine G_cond_f rfl (decide_eq_false (by omega)) ?_
    (repeat first | refine G_seq ?_ | refine G_skip ?_ | refine G_endblk ?_ | refine G_block ?_ | refine G_exit rfl ?_)
    exact G_end (rs := []) (vs := []) (L' := ktH T :: blk t 60 (kdC T.addr (T.pts.length : Nat) most built) :: L) rfl .nil (by (repeat first | exact en_refl | (apply en_blk; focus ((repeat' first | exact Pick.here | apply Pick.skip | apply Pick.app); done); focus rfl) | (apply en_own; focus ((repeat' first | exact Pick.here | apply Pick.skip | apply Pick.app); done); focus rfl) | (apply en_pick; focus ((repeat' first | exact Pick.here | apply Pick.skip | apply Pick.app); done)) | apply en_drop | apply en_app) <;> fail) ⟨T, built, ⟨ho, .refl _, Nat.le_refl _, by omega, by omega⟩, rfl, rfl⟩
theorem kNew_ctr (most : Int) (L : List HP) (h1 : 1 ≤ most) (h2 : most ≤ 1048576) : Ctr Try.prog 7 #[.int .i64 most] L fun v L' => ∃ t, v = .tuple #[.pointer (some ⟨t, 0, none⟩), .int .i64 0] ∧ L' = treeK t most [] 0 :: L := by
  refine Ctr_of (fn := Try.f7) (n := 13) Try.func7 rfl rfl rfl ?_
  intro g F
  (repeat first | refine G_seq ?_ | refine G_skip ?_ | refine G_endblk ?_ | refine G_block ?_ | refine G_exit rfl ?_)
  refine G_region ?_
  refine GO_q rfl rfl (ev_assign rfl) ?_
  refine GO_q rfl rfl (ev_assign rfl) ?_
  refine GO_nil ?_
  (repeat first | refine G_seq ?_ | refine G_skip ?_ | refine G_endblk ?_ | refine G_block ?_ | refine G_exit rfl ?_)
  refine G_region ?_
  refine GO_q rfl rfl (ev_move rfl) ?_
  (first | refine GO_q rfl rfl (ev_lssN (q := 1) rfl rfl) ?_ | refine GO_q rfl rfl (ev_lss rfl rfl) ?_)
  refine GO_q rfl rfl (ev_move rfl) ?_
  refine GO_yes rfl rfl rfl (decide_eq_false (by omega)) ?_
  refine GO_q rfl rfl (ev_move rfl) ?_
  refine GO_yes rfl rfl rfl (decide_eq_false (by omega)) ?_
  refine GO_q rfl rfl (ev_gtr rfl rfl) ?_
  refine GO_q rfl rfl (ev_pick_f rfl (decide_eq_false (by omega)) rfl) ?_
  refine GO_nil ?_
  (repeat first | refine G_seq ?_ | refine G_skip ?_ | refine G_endblk ?_ | refine G_block ?_ | refine G_exit rfl ?_)
  refine G_cond_f rfl (decide_eq_false (by omega)) ?_
  (repeat first | refine G_seq ?_ | refine G_skip ?_ | refine G_endblk ?_ | refine G_block ?_ | refine G_exit rfl ?_)
  refine G_region ?_
  refine GO_q rfl rfl (ev_move rfl) ?_
  refine GO_q rfl rfl (ev_build rfl rfl) ?_
  refine GO_eff rfl rfl (eff_box rfl) ?_; rintro _ _ ⟨b12, rfl, rfl⟩
  refine GO_q rfl rfl (ev_assign rfl) ?_
  refine GO_q rfl rfl (ev_assign rfl) ?_
  refine GO_nil ?_
  (repeat first | refine G_seq ?_ | refine G_skip ?_ | refine G_endblk ?_ | refine G_block ?_ | refine G_exit rfl ?_)
  exact G_ret (L' := treeK b12 most [] 0 :: L) rfl (.tmp rfl (.tmp rfl .nil)) (by (repeat first | exact en_refl | refine en_tk (T := .nil) (v := 0) ⟨trivial, .refl _, Nat.le_refl _, by decide, Nat.le_refl _⟩ ?_ | apply en_ktn | (apply en_blk; focus ((repeat' first | exact Pick.here | apply Pick.skip | apply Pick.app); done); focus rfl) | (apply en_own; focus ((repeat' first | exact Pick.here | apply Pick.skip | apply Pick.app); done); focus rfl) | (apply en_pick; focus ((repeat' first | exact Pick.here | apply Pick.skip | apply Pick.app); done)) | apply en_drop | apply en_app) <;> fail) ⟨b12, rfl, rfl⟩
theorem KInsert_ctr (t : Nat) (most : Int) (l : List Pt) (p : Pt) (k : Nat) (L : List HP) (hk : k ≤ 900) :
    Ctr Try.prog 8 #[.pointer (some ⟨t, 0, none⟩), p.v] (treeK t most l k :: L) fun v L' => v = .int .i64 (insC most l p) ∧ L' = treeK t most (insR most l p) (k + 1) :: L := by
  refine Ctr.tk fun T v kg => ?_
  have k0 := KGood_ctr p
  have hlen : T.pts.length = l.length := kg.pts.length_eq
  have hmem : decide (p ∈ T.pts) = decide (p ∈ l) := decide_eq_decide.2 kg.pts.mem_iff
  have hdc := T.depth_cnt
  have hpl := T.pts_len
  have gc := kg.cnt
  have gb := kg.bt
  have hhas := fun M h1 h2 => khas_ctr t T p M h1 h2 (by omega) kg.ok
  rw [hmem] at hhas
  unfold insC insR
  unfold insC
  cases hg : goodP p with
  | false =>
    rw [hg] at k0
    rw [if_pos rfl, if_neg (by decide)]
    refine Ctr_of (fn := Try.f8) (n := 46) Try.func8 rfl rfl rfl ?_
    intro g F
    (repeat first | refine G_seq ?_ | refine G_skip ?_ | refine G_endblk ?_ | refine G_block ?_ | refine G_exit rfl ?_)
    refine G_region ?_
    refine GO_eff rfl rfl (eff_box rfl) ?_; rintro _ _ ⟨b3, rfl, rfl⟩
    refine GO_q rfl rfl (ev_assign rfl) ?_
    refine GO_nil ?_
    (repeat first | refine G_seq ?_ | refine G_skip ?_ | refine G_endblk ?_ | refine G_block ?_ | refine G_exit rfl ?_)
    (repeat first | refine G_seq ?_ | refine G_skip ?_ | refine G_endblk ?_ | refine G_block ?_ | refine G_exit rfl ?_)
    refine G_region ?_
    refine GO_q rfl rfl (ev_move rfl) ?_
    (first | refine GO_q rfl rfl (ev_eqlNil rfl rfl) ?_ | refine GO_q rfl rfl (ev_eqlPtr rfl rfl) ?_)
    refine GO_q rfl rfl (ev_move rfl) ?_
    refine GO_yes rfl rfl rfl rfl ?_
    refine GO_q rfl rfl (ev_loadN rfl (by repeat' first | exact LdN.blk rfl | assumption | apply LdN.skip | apply LdN.app)) ?_
    refine GO_yes rfl rfl rfl rfl ?_
    refine GO_eff rfl rfl (eff_call rfl (k0 _)) ?_; rintro _ _ ⟨rfl, rfl⟩
    refine GO_yes rfl rfl rfl rfl ?_
    refine GO_q rfl rfl (ev_not rfl) ?_
    refine GO_q rfl rfl (ev_pick_f rfl rfl rfl) ?_
    refine GO_q rfl rfl (ev_assign rfl) ?_
    refine GO_nil ?_
    (repeat first | refine G_seq ?_ | refine G_skip ?_ | refine G_endblk ?_ | refine G_block ?_ | refine G_exit rfl ?_)
    refine G_cond_t rfl rfl ?_
    (repeat first | refine G_seq ?_ | refine G_skip ?_ | refine G_endblk ?_ | refine G_block ?_ | refine G_exit rfl ?_)
    refine G_region ?_
    refine GO_q rfl rfl (ev_assign rfl) ?_
    refine GO_nil ?_
    (repeat first | refine G_seq ?_ | refine G_skip ?_ | refine G_endblk ?_ | refine G_block ?_ | refine G_exit rfl ?_)
    exact G_ret (L' := treeK t most l (k + 1) :: L) rfl (.tmp rfl .nil) (by (repeat first | exact en_refl | refine en_tk (kg.to (.refl _) (Nat.le_succ k)) ?_ | (apply en_blk; focus ((repeat' first | exact Pick.here | apply Pick.skip | apply Pick.app); done); focus rfl) | (apply en_own; focus ((repeat' first | exact Pick.here | apply Pick.skip | apply Pick.app); done); focus rfl) | (apply en_pick; focus ((repeat' first | exact Pick.here | apply Pick.skip | apply Pick.app); done)) | apply en_drop | apply en_app) <;> fail) ⟨rfl, rfl⟩
  | true =>
    rw [hg] at k0
    rw [if_neg (by decide)]
    by_cases hp : p ∈ l
    · rw [decide_eq_true hp] at hhas
      rw [if_pos hp, if_neg (by decide)]
      refine Ctr_of (fn := Try.f8) (n := 46) Try.func8 rfl rfl rfl ?_
      intro g F
      (repeat first | refine G_seq ?_ | refine G_skip ?_ | refine G_endblk ?_ | refine G_block ?_ | refine G_exit rfl ?_)
      refine G_region ?_
      refine GO_eff rfl rfl (eff_box rfl) ?_; rintro _ _ ⟨b3, rfl, rfl⟩
      refine GO_q rfl rfl (ev_assign rfl) ?_
      refine GO_nil ?_
      (repeat first | refine G_seq ?_ | refine G_skip ?_ | refine G_endblk ?_ | refine G_block ?_ | refine G_exit rfl ?_)
      (repeat first | refine G_seq ?_ | refine G_skip ?_ | refine G_endblk ?_ | refine G_block ?_ | refine G_exit rfl ?_)
      refine G_region ?_
      refine GO_q rfl rfl (ev_move rfl) ?_
      (first | refine GO_q rfl rfl (ev_eqlNil rfl rfl) ?_ | refine GO_q rfl rfl (ev_eqlPtr rfl rfl) ?_)
      refine GO_q rfl rfl (ev_move rfl) ?_
      refine GO_yes rfl rfl rfl rfl ?_
      refine GO_q rfl rfl (ev_loadN rfl (by repeat' first | exact LdN.blk rfl | assumption | apply LdN.skip | apply LdN.app)) ?_
      refine GO_yes rfl rfl rfl rfl ?_
      refine GO_eff rfl rfl (eff_call rfl (k0 _)) ?_; rintro _ _ ⟨rfl, rfl⟩
      refine GO_yes rfl rfl rfl rfl ?_
      refine GO_q rfl rfl (ev_not rfl) ?_
      refine GO_q rfl rfl (ev_pick_f rfl rfl rfl) ?_
      refine GO_q rfl rfl (ev_assign rfl) ?_
      refine GO_nil ?_
      (repeat first | refine G_seq ?_ | refine G_skip ?_ | refine G_endblk ?_ | refine G_block ?_ | refine G_exit rfl ?_)
      refine G_cond_f rfl rfl ?_
      (repeat first | refine G_seq ?_ | refine G_skip ?_ | refine G_endblk ?_ | refine G_block ?_ | refine G_exit rfl ?_)
      refine G_region ?_
      refine GO_q rfl rfl (ev_move rfl) ?_
      refine GO_q rfl rfl (ev_loadN rfl (by repeat' first | exact LdN.blk rfl | assumption | apply LdN.skip | apply LdN.app)) ?_
      refine GO_eff rfl rfl (eff_call rfl (hhas _ (by repeat' first | exact Ld.blk rfl | apply Ld.skip) (by repeat' first | exact ktH_in _ _ | apply KIn.skip))) ?_; rintro _ _ ⟨rfl, rfl⟩
      refine GO_q rfl rfl (ev_assign rfl) ?_
      refine GO_nil ?_
      (repeat first | refine G_seq ?_ | refine G_skip ?_ | refine G_endblk ?_ | refine G_block ?_ | refine G_exit rfl ?_)
      refine G_cond_t rfl rfl ?_
      (repeat first | refine G_seq ?_ | refine G_skip ?_ | refine G_endblk ?_ | refine G_block ?_ | refine G_exit rfl ?_)
      refine G_region ?_
      refine GO_q rfl rfl (ev_assign rfl) ?_
      refine GO_nil ?_
      (repeat first | refine G_seq ?_ | refine G_skip ?_ | refine G_endblk ?_ | refine G_block ?_ | refine G_exit rfl ?_)
      exact G_ret (L' := treeK t most l (k + 1) :: L) rfl (.tmp rfl .nil) (by (repeat first | exact en_refl | refine en_tk (kg.to (.refl _) (Nat.le_succ k)) ?_ | (apply en_blk; focus ((repeat' first | exact Pick.here | apply Pick.skip | apply Pick.app); done); focus rfl) | (apply en_own; focus ((repeat' first | exact Pick.here | apply Pick.skip | apply Pick.app); done); focus rfl) | (apply en_pick; focus ((repeat' first | exact Pick.here | apply Pick.skip | apply Pick.app); done)) | apply en_drop | apply en_app) <;> fail) ⟨rfl, rfl⟩
    · rw [decide_eq_false hp] at hhas
      rw [if_neg hp]
      have hp' : p ∉ T.pts := fun h => hp (kg.pts.mem_iff.1 h)
      by_cases hf : most ≤ l.length
      · rw [if_pos hf, if_neg (by decide)]
        refine Ctr_of (fn := Try.f8) (n := 46) Try.func8 rfl rfl rfl ?_
        intro g F
        (repeat first | refine G_seq ?_ | refine G_skip ?_ | refine G_endblk ?_ | refine G_block ?_ | refine G_exit rfl ?_)
        refine G_region ?_
        refine GO_eff rfl rfl (eff_box rfl) ?_; rintro _ _ ⟨b3, rfl, rfl⟩
        refine GO_q rfl rfl (ev_assign rfl) ?_
        refine GO_nil ?_
        (repeat first | refine G_seq ?_ | refine G_skip ?_ | refine G_endblk ?_ | refine G_block ?_ | refine G_exit rfl ?_)
        (repeat first | refine G_seq ?_ | refine G_skip ?_ | refine G_endblk ?_ | refine G_block ?_ | refine G_exit rfl ?_)
        refine G_region ?_
        refine GO_q rfl rfl (ev_move rfl) ?_
        (first | refine GO_q rfl rfl (ev_eqlNil rfl rfl) ?_ | refine GO_q rfl rfl (ev_eqlPtr rfl rfl) ?_)
        refine GO_q rfl rfl (ev_move rfl) ?_
        refine GO_yes rfl rfl rfl rfl ?_
        refine GO_q rfl rfl (ev_loadN rfl (by repeat' first | exact LdN.blk rfl | assumption | apply LdN.skip | apply LdN.app)) ?_
        refine GO_yes rfl rfl rfl rfl ?_
        refine GO_eff rfl rfl (eff_call rfl (k0 _)) ?_; rintro _ _ ⟨rfl, rfl⟩
        refine GO_yes rfl rfl rfl rfl ?_
        refine GO_q rfl rfl (ev_not rfl) ?_
        refine GO_q rfl rfl (ev_pick_f rfl rfl rfl) ?_
        refine GO_q rfl rfl (ev_assign rfl) ?_
        refine GO_nil ?_
        (repeat first | refine G_seq ?_ | refine G_skip ?_ | refine G_endblk ?_ | refine G_block ?_ | refine G_exit rfl ?_)
        refine G_cond_f rfl rfl ?_
        (repeat first | refine G_seq ?_ | refine G_skip ?_ | refine G_endblk ?_ | refine G_block ?_ | refine G_exit rfl ?_)
        refine G_region ?_
        refine GO_q rfl rfl (ev_move rfl) ?_
        refine GO_q rfl rfl (ev_loadN rfl (by repeat' first | exact LdN.blk rfl | assumption | apply LdN.skip | apply LdN.app)) ?_
        refine GO_eff rfl rfl (eff_call rfl (hhas _ (by repeat' first | exact Ld.blk rfl | apply Ld.skip) (by repeat' first | exact ktH_in _ _ | apply KIn.skip))) ?_; rintro _ _ ⟨rfl, rfl⟩
        refine GO_q rfl rfl (ev_assign rfl) ?_
        refine GO_nil ?_
        (repeat first | refine G_seq ?_ | refine G_skip ?_ | refine G_endblk ?_ | refine G_block ?_ | refine G_exit rfl ?_)
        refine G_cond_f rfl rfl ?_
        (repeat first | refine G_seq ?_ | refine G_skip ?_ | refine G_endblk ?_ | refine G_block ?_ | refine G_exit rfl ?_)
        refine G_draw (.q 0 (.q 1 (.q 2 (.q 3 (.q 4 (.q 5 (.q 6 (.q 7 (.q 8 (.q 9 .nil)))))))))) (by kernel_rfl) (by kernel_rfl) ?_
        refine RS_m retB_noPanic rfl rfl rfl rfl (ev_move rfl) ?_
        (first | refine RS_m retB_noPanic rfl rfl rfl rfl (ev_nilCheck rfl) ?_ | refine RS_m retB_noPanic rfl rfl rfl rfl (ev_nilCheckF (by simp) rfl) ?_)
        refine RS_m retB_noPanic rfl rfl rfl rfl (ev_fieldAddr rfl) ?_
        refine RS_q retB_noPanic rfl rfl rfl rfl (ev_load rfl (by repeat' first | exact Ld.blk rfl | assumption | apply Ld.skip | apply Ld.app)) ?_
        refine RS_m retB_noPanic rfl rfl rfl rfl (ev_move rfl) ?_
        (first | refine RS_m retB_noPanic rfl rfl rfl rfl (ev_nilCheck rfl) ?_ | refine RS_m retB_noPanic rfl rfl rfl rfl (ev_nilCheckF (by simp) rfl) ?_)
        refine RS_m retB_noPanic rfl rfl rfl rfl (ev_fieldAddr rfl) ?_
        refine RS_q retB_noPanic rfl rfl rfl rfl (ev_load rfl (by repeat' first | exact Ld.blk rfl | assumption | apply Ld.skip | apply Ld.app)) ?_
        refine RS_m retB_noPanic rfl rfl rfl rfl (ev_geq rfl rfl) ?_
        refine RS_m retB_noPanic rfl rfl rfl rfl (ev_assign rfl) ?_
        refine RS_nil ?_
        (repeat first | refine G_seq ?_ | refine G_skip ?_ | refine G_endblk ?_ | refine G_block ?_ | refine G_exit rfl ?_)
        refine G_cond_t rfl (decide_eq_true (by omega)) ?_
        (repeat first | refine G_seq ?_ | refine G_skip ?_ | refine G_endblk ?_ | refine G_block ?_ | refine G_exit rfl ?_)
        refine G_region ?_
        refine GO_q rfl rfl (ev_assign rfl) ?_
        refine GO_nil ?_
        (repeat first | refine G_seq ?_ | refine G_skip ?_ | refine G_endblk ?_ | refine G_block ?_ | refine G_exit rfl ?_)
        exact G_ret (L' := treeK t most l (k + 1) :: L) rfl (.tmp rfl .nil) (by (repeat first | exact en_refl | refine en_tk (kg.to (.refl _) (Nat.le_succ k)) ?_ | (apply en_blk; focus ((repeat' first | exact Pick.here | apply Pick.skip | apply Pick.app); done); focus rfl) | (apply en_own; focus ((repeat' first | exact Pick.here | apply Pick.skip | apply Pick.app); done); focus rfl) | (apply en_pick; focus ((repeat' first | exact Pick.here | apply Pick.skip | apply Pick.app); done)) | apply en_drop | apply en_app) <;> fail) ⟨rfl, rfl⟩
      · rw [if_neg hf, if_pos rfl]
        have hput := fun r M => kput_ctr t r ((l.length : Nat) + 1 : Nat) most p T 0 v M kg.ok hp' (by omega) (by omega) (by omega)
        refine Ctr_of (fn := Try.f8) (n := 46) Try.func8 rfl rfl rfl ?_
        intro g F
        (repeat first | refine G_seq ?_ | refine G_skip ?_ | refine G_endblk ?_ | refine G_block ?_ | refine G_exit rfl ?_)
        refine G_region ?_
        refine GO_eff rfl rfl (eff_box rfl) ?_; rintro _ _ ⟨b3, rfl, rfl⟩
        refine GO_q rfl rfl (ev_assign rfl) ?_
        refine GO_nil ?_
        (repeat first | refine G_seq ?_ | refine G_skip ?_ | refine G_endblk ?_ | refine G_block ?_ | refine G_exit rfl ?_)
        (repeat first | refine G_seq ?_ | refine G_skip ?_ | refine G_endblk ?_ | refine G_block ?_ | refine G_exit rfl ?_)
        refine G_region ?_
        refine GO_q rfl rfl (ev_move rfl) ?_
        (first | refine GO_q rfl rfl (ev_eqlNil rfl rfl) ?_ | refine GO_q rfl rfl (ev_eqlPtr rfl rfl) ?_)
        refine GO_q rfl rfl (ev_move rfl) ?_
        refine GO_yes rfl rfl rfl rfl ?_
        refine GO_q rfl rfl (ev_loadN rfl (by repeat' first | exact LdN.blk rfl | assumption | apply LdN.skip | apply LdN.app)) ?_
        refine GO_yes rfl rfl rfl rfl ?_
        refine GO_eff rfl rfl (eff_call rfl (k0 _)) ?_; rintro _ _ ⟨rfl, rfl⟩
        refine GO_yes rfl rfl rfl rfl ?_
        refine GO_q rfl rfl (ev_not rfl) ?_
        refine GO_q rfl rfl (ev_pick_f rfl rfl rfl) ?_
        refine GO_q rfl rfl (ev_assign rfl) ?_
        refine GO_nil ?_
        (repeat first | refine G_seq ?_ | refine G_skip ?_ | refine G_endblk ?_ | refine G_block ?_ | refine G_exit rfl ?_)
        refine G_cond_f rfl rfl ?_
        (repeat first | refine G_seq ?_ | refine G_skip ?_ | refine G_endblk ?_ | refine G_block ?_ | refine G_exit rfl ?_)
        refine G_region ?_
        refine GO_q rfl rfl (ev_move rfl) ?_
        refine GO_q rfl rfl (ev_loadN rfl (by repeat' first | exact LdN.blk rfl | assumption | apply LdN.skip | apply LdN.app)) ?_
        refine GO_eff rfl rfl (eff_call rfl (hhas _ (by repeat' first | exact Ld.blk rfl | apply Ld.skip) (by repeat' first | exact ktH_in _ _ | apply KIn.skip))) ?_; rintro _ _ ⟨rfl, rfl⟩
        refine GO_q rfl rfl (ev_assign rfl) ?_
        refine GO_nil ?_
        (repeat first | refine G_seq ?_ | refine G_skip ?_ | refine G_endblk ?_ | refine G_block ?_ | refine G_exit rfl ?_)
        refine G_cond_f rfl rfl ?_
        (repeat first | refine G_seq ?_ | refine G_skip ?_ | refine G_endblk ?_ | refine G_block ?_ | refine G_exit rfl ?_)
        refine G_draw (.q 0 (.q 1 (.q 2 (.q 3 (.q 4 (.q 5 (.q 6 (.q 7 (.q 8 (.q 9 .nil)))))))))) (by kernel_rfl) (by kernel_rfl) ?_
        refine RS_m retB_noPanic rfl rfl rfl rfl (ev_move rfl) ?_
        (first | refine RS_m retB_noPanic rfl rfl rfl rfl (ev_nilCheck rfl) ?_ | refine RS_m retB_noPanic rfl rfl rfl rfl (ev_nilCheckF (by simp) rfl) ?_)
        refine RS_m retB_noPanic rfl rfl rfl rfl (ev_fieldAddr rfl) ?_
        refine RS_q retB_noPanic rfl rfl rfl rfl (ev_load rfl (by repeat' first | exact Ld.blk rfl | assumption | apply Ld.skip | apply Ld.app)) ?_
        refine RS_m retB_noPanic rfl rfl rfl rfl (ev_move rfl) ?_
        (first | refine RS_m retB_noPanic rfl rfl rfl rfl (ev_nilCheck rfl) ?_ | refine RS_m retB_noPanic rfl rfl rfl rfl (ev_nilCheckF (by simp) rfl) ?_)
        refine RS_m retB_noPanic rfl rfl rfl rfl (ev_fieldAddr rfl) ?_
        refine RS_q retB_noPanic rfl rfl rfl rfl (ev_load rfl (by repeat' first | exact Ld.blk rfl | assumption | apply Ld.skip | apply Ld.app)) ?_
        refine RS_m retB_noPanic rfl rfl rfl rfl (ev_geq rfl rfl) ?_
        refine RS_m retB_noPanic rfl rfl rfl rfl (ev_assign rfl) ?_
        refine RS_nil ?_
        (repeat first | refine G_seq ?_ | refine G_skip ?_ | refine G_endblk ?_ | refine G_block ?_ | refine G_exit rfl ?_)
        refine G_cond_f rfl (decide_eq_false (by omega)) ?_
        (repeat first | refine G_seq ?_ | refine G_skip ?_ | refine G_endblk ?_ | refine G_block ?_ | refine G_exit rfl ?_)
        (repeat first | refine G_seq ?_ | refine G_skip ?_ | refine G_endblk ?_ | refine G_block ?_ | refine G_exit rfl ?_)
        refine G_region ?_
        refine GO_q rfl rfl (ev_move rfl) ?_
        (first | refine GO_q rfl rfl (ev_nilCheck rfl) ?_ | refine GO_q rfl rfl (ev_nilCheckF (by simp) rfl) ?_)
        refine GO_q rfl rfl (ev_fieldAddr rfl) ?_
        refine GO_q rfl rfl (ev_load rfl (by repeat' first | exact Ld.blk rfl | assumption | apply Ld.skip | apply Ld.app)) ?_
        (first | refine GO_q rfl rfl (ev_addN (q := 1) rfl rfl (by first | omega | (simp; done) | (simp; omega))) ?_ | refine GO_q rfl rfl (ev_add rfl rfl (by first | omega | (simp; done) | (simp; omega))) ?_)
        (first | refine GO_q rfl rfl (ev_nilCheck rfl) ?_ | refine GO_q rfl rfl (ev_nilCheckF (by simp) rfl) ?_)
        refine GO_q rfl rfl (ev_fieldAddr rfl) ?_
        refine GO_eff rfl rfl (eff_store rfl rfl rfl (by repeat' first | exact Upd.here rfl | apply Upd.skip | apply Upd.app)) ?_; rintro _ _ ⟨rfl, rfl⟩
        refine GO_nil ?_
        refine G_heap (L' := ktH T :: blk t 60 (kdC T.addr ((l.length + 1 : Nat) : Int) most v) :: blk b3 27 [.int .i64 p.id, .int .i64 p.x, .int .i64 p.y] :: F :: L) (by (repeat first | exact en_refl | (apply en_blk; focus ((repeat' first | exact Pick.here | apply Pick.skip | apply Pick.app); done); focus rfl) | (apply en_own; focus ((repeat' first | exact Pick.here | apply Pick.skip | apply Pick.app); done); focus rfl) | (apply en_pick; focus ((repeat' first | exact Pick.here | apply Pick.skip | apply Pick.app); done)) | apply en_drop | apply en_app) <;> fail) ?_
        (repeat first | refine G_seq ?_ | refine G_skip ?_ | refine G_endblk ?_ | refine G_block ?_ | refine G_exit rfl ?_)
        refine G_draw (.q 0 (.q 1 (.q 2 (.q 3 (.q 4 (.q 5 (.q 6 (.e 7 (.q 8 (.q 9 (.e 10 .nil))))))))))) (by kernel_rfl) (by kernel_rfl) ?_
        refine RS_m retB_noPanic rfl rfl rfl rfl (ev_move rfl) ?_
        refine RS_m retB_noPanic rfl rfl rfl rfl (ev_move rfl) ?_
        refine RS_m retB_noPanic rfl rfl rfl rfl (ev_move rfl) ?_
        (first | refine RS_m retB_noPanic rfl rfl rfl rfl (ev_nilCheck rfl) ?_ | refine RS_m retB_noPanic rfl rfl rfl rfl (ev_nilCheckF (by simp) rfl) ?_)
        refine RS_m retB_noPanic rfl rfl rfl rfl (ev_fieldAddr rfl) ?_
        refine RS_q retB_noPanic rfl rfl rfl rfl (ev_load rfl (by repeat' first | exact Ld.blk rfl | assumption | apply Ld.skip | apply Ld.app)) ?_
        refine RS_q retB_noPanic rfl rfl rfl rfl (ev_loadN rfl (by repeat' first | exact LdN.blk rfl | assumption | apply LdN.skip | apply LdN.app)) ?_
        refine RS_e (RE_cmp (by kernel_rfl) rfl rfl rfl (eff_call rfl (hput _ _)) ?_); rintro _ _ ⟨T1, k1, g1, hk1, rfl, rfl⟩
        (first | refine RS_m retB_noPanic rfl rfl rfl rfl (ev_nilCheck rfl) ?_ | refine RS_m retB_noPanic rfl rfl rfl rfl (ev_nilCheckF (by simp) rfl) ?_)
        refine RS_m retB_noPanic rfl rfl rfl rfl (ev_fieldAddr rfl) ?_
        refine RS_e (RE_last (by kernel_rfl) rfl rfl rfl (eff_store rfl rfl rfl (by repeat' first | exact Upd.here rfl | apply Upd.skip | apply Upd.app)) ?_); rintro _ _ ⟨rfl, rfl⟩
        have z1 := g1.pts.length_eq
        have z2 := g1.cnt
        rw [List.length_cons] at z1
        refine G_heap (L' := ktH T1 :: blk t 60 (kdC T1.addr ((l.length + 1 : Nat) : Int) most k1) :: blk b3 27 [.int .i64 p.id, .int .i64 p.x, .int .i64 p.y] :: F :: L) (by (repeat first | exact en_refl | (apply en_blk; focus ((repeat' first | exact Pick.here | apply Pick.skip | apply Pick.app); done); focus rfl) | (apply en_own; focus ((repeat' first | exact Pick.here | apply Pick.skip | apply Pick.app); done); focus rfl) | (apply en_pick; focus ((repeat' first | exact Pick.here | apply Pick.skip | apply Pick.app); done)) | apply en_drop | apply en_app) <;> fail) ?_
        (repeat first | refine G_seq ?_ | refine G_skip ?_ | refine G_endblk ?_ | refine G_block ?_ | refine G_exit rfl ?_)
        refine G_region ?_
        refine GO_q rfl rfl (ev_move rfl) ?_
        refine GO_eff rfl rfl (eff_call rfl (kclean_ctr t T1 (l.length + 1) most k1 _ g1.ok (by omega) (by omega) (by omega))) ?_; rintro _ _ ⟨T2, k2, g2, rfl, rfl⟩
        refine GO_nil ?_
        (repeat first | refine G_seq ?_ | refine G_skip ?_ | refine G_endblk ?_ | refine G_block ?_ | refine G_exit rfl ?_)
        refine G_region ?_
        refine GO_q rfl rfl (ev_assign rfl) ?_
        refine GO_nil ?_
        (repeat first | refine G_seq ?_ | refine G_skip ?_ | refine G_endblk ?_ | refine G_block ?_ | refine G_exit rfl ?_)
        have e : (l ++ [p]).length = l.length + 1 := by simp
        have w1 := g2.cnt
        have w2 := g2.bt
        have w3 := g2.few
        have gg : KG T2 k2 (l ++ [p]) (k + 1) := ⟨g2.ok, g2.pts.trans (g1.pts.trans ((kg.pts.cons p).trans (List.perm_append_singleton p l).symm)), by omega, by rw [e]; omega, by omega⟩
        exact G_ret (L' := treeK t most (l ++ [p]) (k + 1) :: L) rfl (.tmp rfl .nil) (by (repeat first | exact en_refl | refine en_tkn e gg ?_ | (apply en_blk; focus ((repeat' first | exact Pick.here | apply Pick.skip | apply Pick.app); done); focus rfl) | (apply en_own; focus ((repeat' first | exact Pick.here | apply Pick.skip | apply Pick.app); done); focus rfl) | (apply en_pick; focus ((repeat' first | exact Pick.here | apply Pick.skip | apply Pick.app); done)) | apply en_drop | apply en_app) <;> fail) ⟨rfl, rfl⟩
theorem KDelete_ctr (t : Nat) (most : Int) (l : List Pt) (p : Pt) (k : Nat) (L : List HP) (hk : k ≤ 900) :
    Ctr Try.prog 17 #[.pointer (some ⟨t, 0, none⟩), p.v] (treeK t most l k :: L) fun v L' => v = .int .i64 (delC l p) ∧ L' = treeK t most (l.erase p) (k + 1) :: L := by
  refine Ctr.tk fun T v kg => ?_
  have hlen : T.pts.length = l.length := kg.pts.length_eq
  have hmem : decide (p ∈ T.pts) = decide (p ∈ l) := decide_eq_decide.2 kg.pts.mem_iff
  have hdc := T.depth_cnt
  have hpl := T.pts_len
  have gc := kg.cnt
  have gb := kg.bt
  have hhas := fun M h1 h2 => khas_ctr t T p M h1 h2 (by omega) kg.ok
  rw [hmem] at hhas
  unfold delC
  by_cases hp : p ∈ l
  · rw [decide_eq_true hp] at hhas
    rw [if_pos hp]
    have hp' : p ∈ T.pts := kg.pts.mem_iff.2 hp
    have hlv := (kg.ok.has p).2 hp'
    have hfi := fun M h1 h2 => kfind_ctr t T p M h1 h2 (by omega)
    have hfo := fun b p' gn m x lo hi => kt_focus p (b := b) (p := p') (gn := gn) (m := m) (x := x) (lo := lo) (hi := hi) T 0
    generalize T.fnd p 0 = D at *
    cases D with
    | nil => cases hlv
    | node b p' gn m x lo hi =>
      obtain ⟨R, r1, r2, r3⟩ := hfo b p' gn m x lo hi rfl
      have hin : ∀ M : List HP, KIn (blk b 67 (kcC p' gn lo.addr hi.addr m x) :: R :: M) T := fun M => (ktH_in T M).mono fun _ s => sat.fold (N := [blk b 67 (kcC p' gn lo.addr hi.addr m x), R]) r2 s
      have z0 := kg.ok.mark_pts hp'
      have z1 : (T.mark p 0).pts.length = l.length - 1 := by rw [z0, List.length_erase_of_mem hp', hlen]
      have z2 : (T.mark p 0).cnt = T.cnt := T.mark_cnt p 0
      have z3 : 0 < l.length := List.length_pos_of_mem hp
      have z4 : (l.erase p).length = l.length - 1 := List.length_erase_of_mem hp
      have hcl := fun M => kclean_ctr t (T.mark p 0) (l.length - 1) most v M (kg.ok.mark) z1 (by omega) (by omega)
      rw [T.mark_addr] at hcl
      refine Ctr_of (fn := Try.f17) (n := 27) Try.func17 rfl rfl rfl ?_
      intro g F
      (repeat first | refine G_seq ?_ | refine G_skip ?_ | refine G_endblk ?_ | refine G_block ?_ | refine G_exit rfl ?_)
      refine G_region ?_
      refine GO_eff rfl rfl (eff_box rfl) ?_; rintro _ _ ⟨b3, rfl, rfl⟩
      refine GO_q rfl rfl (ev_assign rfl) ?_
      refine GO_nil ?_
      (repeat first | refine G_seq ?_ | refine G_skip ?_ | refine G_endblk ?_ | refine G_block ?_ | refine G_exit rfl ?_)
      (repeat first | refine G_seq ?_ | refine G_skip ?_ | refine G_endblk ?_ | refine G_block ?_ | refine G_exit rfl ?_)
      refine G_region ?_
      refine GO_q rfl rfl (ev_move rfl) ?_
      (first | refine GO_q rfl rfl (ev_eqlNil rfl rfl) ?_ | refine GO_q rfl rfl (ev_eqlPtr rfl rfl) ?_)
      refine GO_q rfl rfl (ev_assign rfl) ?_
      refine GO_nil ?_
      (repeat first | refine G_seq ?_ | refine G_skip ?_ | refine G_endblk ?_ | refine G_block ?_ | refine G_exit rfl ?_)
      refine G_cond_f rfl rfl ?_
      (repeat first | refine G_seq ?_ | refine G_skip ?_ | refine G_endblk ?_ | refine G_block ?_ | refine G_exit rfl ?_)
      refine G_region ?_
      refine GO_q rfl rfl (ev_move rfl) ?_
      refine GO_q rfl rfl (ev_loadN rfl (by repeat' first | exact LdN.blk rfl | assumption | apply LdN.skip | apply LdN.app)) ?_
      refine GO_eff rfl rfl (eff_call rfl (hhas _ (by repeat' first | exact Ld.blk rfl | apply Ld.skip) (by repeat' first | exact ktH_in _ _ | apply KIn.skip))) ?_; rintro _ _ ⟨rfl, rfl⟩
      refine GO_q rfl rfl (ev_not rfl) ?_
      refine GO_q rfl rfl (ev_assign rfl) ?_
      refine GO_nil ?_
      (repeat first | refine G_seq ?_ | refine G_skip ?_ | refine G_endblk ?_ | refine G_block ?_ | refine G_exit rfl ?_)
      refine G_cond_f rfl rfl ?_
      refine G_heap (L' := ktH T :: blk b3 27 [.int .i64 p.id, .int .i64 p.x, .int .i64 p.y] :: blk t 60 (kdC T.addr (l.length : Nat) most v) :: F :: L) (by (repeat first | exact en_refl | (apply en_blk; focus ((repeat' first | exact Pick.here | apply Pick.skip | apply Pick.app); done); focus rfl) | (apply en_own; focus ((repeat' first | exact Pick.here | apply Pick.skip | apply Pick.app); done); focus rfl) | (apply en_pick; focus ((repeat' first | exact Pick.here | apply Pick.skip | apply Pick.app); done)) | apply en_drop | apply en_app) <;> fail) ?_
      refine G_heap (L' := blk b 67 (kcC p' gn lo.addr hi.addr m x) :: R :: blk b3 27 [.int .i64 p.id, .int .i64 p.x, .int .i64 p.y] :: blk t 60 (kdC T.addr (l.length : Nat) most v) :: F :: L) (fun _ s => sat.head r1 s) ?_
      (repeat first | refine G_seq ?_ | refine G_skip ?_ | refine G_endblk ?_ | refine G_block ?_ | refine G_exit rfl ?_)
      refine G_region ?_
      refine GO_q rfl rfl (ev_move rfl) ?_
      refine GO_q rfl rfl (ev_loadN rfl (by repeat' first | exact LdN.blk rfl | assumption | apply LdN.skip | apply LdN.app)) ?_
      refine GO_eff rfl rfl (eff_call rfl (hfi _ (by repeat' first | exact Ld.blk rfl | apply Ld.skip) (hin _))) ?_; rintro _ _ ⟨rfl, rfl⟩
      (first | refine GO_q rfl rfl (ev_nilCheck rfl) ?_ | refine GO_q rfl rfl (ev_nilCheckF (by simp) rfl) ?_)
      refine GO_q rfl rfl (ev_fieldAddr rfl) ?_
      refine GO_eff rfl rfl (eff_store rfl rfl rfl (by repeat' first | exact Upd.here rfl | apply Upd.skip | apply Upd.app)) ?_; rintro _ _ ⟨rfl, rfl⟩
      refine GO_nil ?_
      refine G_heap (L' := blk b 67 (kcC p' true lo.addr hi.addr m x) :: R :: blk b3 27 [.int .i64 p.id, .int .i64 p.x, .int .i64 p.y] :: blk t 60 (kdC T.addr (l.length : Nat) most v) :: F :: L) (by (repeat first | exact en_refl | (apply en_blk; focus ((repeat' first | exact Pick.here | apply Pick.skip | apply Pick.app); done); focus rfl) | (apply en_own; focus ((repeat' first | exact Pick.here | apply Pick.skip | apply Pick.app); done); focus rfl) | (apply en_pick; focus ((repeat' first | exact Pick.here | apply Pick.skip | apply Pick.app); done)) | apply en_drop | apply en_app) <;> fail) ?_
      refine G_heap (L' := ktH (T.mark p 0) :: blk b3 27 [.int .i64 p.id, .int .i64 p.x, .int .i64 p.y] :: blk t 60 (kdC T.addr (l.length : Nat) most v) :: F :: L) (fun _ s => sat.fold (N := [_, _]) r3 s) ?_
      (repeat first | refine G_seq ?_ | refine G_skip ?_ | refine G_endblk ?_ | refine G_block ?_ | refine G_exit rfl ?_)
      refine G_region ?_
      refine GO_q rfl rfl (ev_move rfl) ?_
      (first | refine GO_q rfl rfl (ev_nilCheck rfl) ?_ | refine GO_q rfl rfl (ev_nilCheckF (by simp) rfl) ?_)
      refine GO_q rfl rfl (ev_fieldAddr rfl) ?_
      refine GO_q rfl rfl (ev_load rfl (by repeat' first | exact Ld.blk rfl | assumption | apply Ld.skip | apply Ld.app)) ?_
      (first | refine GO_q rfl rfl (ev_subN (q := 1) rfl rfl (by first | omega | (simp; done) | (simp; omega))) ?_ | refine GO_q rfl rfl (ev_sub rfl rfl (by first | omega | (simp; done) | (simp; omega))) ?_)
      (first | refine GO_q rfl rfl (ev_nilCheck rfl) ?_ | refine GO_q rfl rfl (ev_nilCheckF (by simp) rfl) ?_)
      refine GO_q rfl rfl (ev_fieldAddr rfl) ?_
      refine GO_eff rfl rfl (eff_store rfl rfl rfl (by repeat' first | exact Upd.here rfl | apply Upd.skip | apply Upd.app)) ?_; rintro _ _ ⟨rfl, rfl⟩
      refine GO_nil ?_
      refine G_heap (L' := ktH (T.mark p 0) :: blk t 60 (kdC T.addr ((l.length - 1 : Nat) : Int) most v) :: blk b3 27 [.int .i64 p.id, .int .i64 p.x, .int .i64 p.y] :: F :: L) (by (repeat first | exact en_refl | (apply en_blk; focus ((repeat' first | exact Pick.here | apply Pick.skip | apply Pick.app); done); focus rfl) | (apply en_own; focus ((repeat' first | exact Pick.here | apply Pick.skip | apply Pick.app); done); focus rfl) | (apply en_pick; focus ((repeat' first | exact Pick.here | apply Pick.skip | apply Pick.app); done)) | apply en_drop | apply en_app) <;> fail) ?_
      (repeat first | refine G_seq ?_ | refine G_skip ?_ | refine G_endblk ?_ | refine G_block ?_ | refine G_exit rfl ?_)
      refine G_region ?_
      refine GO_q rfl rfl (ev_move rfl) ?_
      refine GO_eff rfl rfl (eff_call rfl (hcl _)) ?_; rintro _ _ ⟨T2, k2, g2, rfl, rfl⟩
      refine GO_nil ?_
      (repeat first | refine G_seq ?_ | refine G_skip ?_ | refine G_endblk ?_ | refine G_block ?_ | refine G_exit rfl ?_)
      refine G_region ?_
      refine GO_q rfl rfl (ev_assign rfl) ?_
      refine GO_nil ?_
      (repeat first | refine G_seq ?_ | refine G_skip ?_ | refine G_endblk ?_ | refine G_block ?_ | refine G_exit rfl ?_)
      have w1 := g2.cnt
      have w2 := g2.bt
      have w3 := g2.few
      have gg : KG T2 k2 (l.erase p) (k + 1) := ⟨g2.ok, g2.pts.trans (z0 ▸ kg.pts.erase p), by omega, by rw [z4, ← z1]; exact w3, by omega⟩
      exact G_ret (L' := treeK t most (l.erase p) (k + 1) :: L) rfl (.tmp rfl .nil) (by (repeat first | exact en_refl | refine en_tkn z4 gg ?_ | (apply en_blk; focus ((repeat' first | exact Pick.here | apply Pick.skip | apply Pick.app); done); focus rfl) | (apply en_own; focus ((repeat' first | exact Pick.here | apply Pick.skip | apply Pick.app); done); focus rfl) | (apply en_pick; focus ((repeat' first | exact Pick.here | apply Pick.skip | apply Pick.app); done)) | apply en_drop | apply en_app) <;> fail) ⟨rfl, rfl⟩
  · rw [decide_eq_false hp] at hhas
    rw [if_neg hp, List.erase_of_not_mem hp]
    refine Ctr_of (fn := Try.f17) (n := 27) Try.func17 rfl rfl rfl ?_
    intro g F
    (repeat first | refine G_seq ?_ | refine G_skip ?_ | refine G_endblk ?_ | refine G_block ?_ | refine G_exit rfl ?_)
    refine G_region ?_
    refine GO_eff rfl rfl (eff_box rfl) ?_; rintro _ _ ⟨b3, rfl, rfl⟩
    refine GO_q rfl rfl (ev_assign rfl) ?_
    refine GO_nil ?_
    (repeat first | refine G_seq ?_ | refine G_skip ?_ | refine G_endblk ?_ | refine G_block ?_ | refine G_exit rfl ?_)
    (repeat first | refine G_seq ?_ | refine G_skip ?_ | refine G_endblk ?_ | refine G_block ?_ | refine G_exit rfl ?_)
    refine G_region ?_
    refine GO_q rfl rfl (ev_move rfl) ?_
    (first | refine GO_q rfl rfl (ev_eqlNil rfl rfl) ?_ | refine GO_q rfl rfl (ev_eqlPtr rfl rfl) ?_)
    refine GO_q rfl rfl (ev_assign rfl) ?_
    refine GO_nil ?_
    (repeat first | refine G_seq ?_ | refine G_skip ?_ | refine G_endblk ?_ | refine G_block ?_ | refine G_exit rfl ?_)
    refine G_cond_f rfl rfl ?_
    (repeat first | refine G_seq ?_ | refine G_skip ?_ | refine G_endblk ?_ | refine G_block ?_ | refine G_exit rfl ?_)
    refine G_region ?_
    refine GO_q rfl rfl (ev_move rfl) ?_
    refine GO_q rfl rfl (ev_loadN rfl (by repeat' first | exact LdN.blk rfl | assumption | apply LdN.skip | apply LdN.app)) ?_
    refine GO_eff rfl rfl (eff_call rfl (hhas _ (by repeat' first | exact Ld.blk rfl | apply Ld.skip) (by repeat' first | exact ktH_in _ _ | apply KIn.skip))) ?_; rintro _ _ ⟨rfl, rfl⟩
    refine GO_q rfl rfl (ev_not rfl) ?_
    refine GO_q rfl rfl (ev_assign rfl) ?_
    refine GO_nil ?_
    (repeat first | refine G_seq ?_ | refine G_skip ?_ | refine G_endblk ?_ | refine G_block ?_ | refine G_exit rfl ?_)
    refine G_cond_t rfl rfl ?_
    (repeat first | refine G_seq ?_ | refine G_skip ?_ | refine G_endblk ?_ | refine G_block ?_ | refine G_exit rfl ?_)
    refine G_region ?_
    refine GO_q rfl rfl (ev_assign rfl) ?_
    refine GO_nil ?_
    (repeat first | refine G_seq ?_ | refine G_skip ?_ | refine G_endblk ?_ | refine G_block ?_ | refine G_exit rfl ?_)
    exact G_ret (L' := treeK t most l (k + 1) :: L) rfl (.tmp rfl .nil) (by (repeat first | exact en_refl | refine en_tk (kg.to (.refl _) (Nat.le_succ k)) ?_ | (apply en_blk; focus ((repeat' first | exact Pick.here | apply Pick.skip | apply Pick.app); done); focus rfl) | (apply en_own; focus ((repeat' first | exact Pick.here | apply Pick.skip | apply Pick.app); done); focus rfl) | (apply en_pick; focus ((repeat' first | exact Pick.here | apply Pick.skip | apply Pick.app); done)) | apply en_drop | apply en_app) <;> fail) ⟨rfl, rfl⟩
end Go.Proofs.Ytjgdhkilnalejaa
/- A tree of points by two orders in turn: reads of a tree that lies open; that a point is seen; the point of an act. -/
namespace Go.Proofs.Ytjgdhkilnalejaa
attribute [local irreducible] sat
open Go.RowKit
set_option linter.unusedVariables false
set_option linter.unusedSectionVars false
set_option linter.unusedSimpArgs false
set_option maxRecDepth 100000

theorem ids_eq {T : KT} {v k : Nat} {l : List Pt} (g : KG T v l k) (w : Bx) : ids w T = srt (hits (fun p => w.has p.x p.y) l) :=
  srt_congr ((g.pts.filter _).map _)
section
variable {t : Nat} {most : Int} {T : KT} {v k : Nat} {l : List Pt} {L : List HP} (g : KG T v l k) (hk : k ≤ 900) (h : LdN L t 0 4 (kdC T.addr (l.length : Nat) most v)) (hin : KIn L T)
include g hk h hin
theorem OLen_ctr : Ctr Try.prog 21 #[.pointer (some ⟨t, 0, none⟩)] L fun r L' => r = .int .i64 (l.length : Nat) ∧ L' = L := kLen_ctr t _ L (h.at_ (i := 1) rfl)
theorem OReport_ctr (w : Bx) : Ctr Try.prog 19 #[.pointer (some ⟨t, 0, none⟩), w.v] L fun r L' => ∃ a c, r = .slice a (srt (hits (fun p => w.has p.x p.y) l)).length c ∧ (0 < (srt (hits (fun p => w.has p.x p.y) l)).length → ∃ b, a = some ⟨b, 0, none⟩) ∧ L' = own 3 1 a (srt (hits (fun p => w.has p.x p.y) l)).length c (flat (srt (hits (fun p => w.has p.x p.y) l))) :: L := by
  have := g.cnt
  rw [← ids_eq g w]
  exact (kReport_ctr t T w L (h.at_ (i := 0) rfl) hin g.ok (by omega)).mono fun r L' ⟨a, c, e, f, e2⟩ => ⟨a, c, e, f.1, e2⟩
theorem OCheck_ctr : Ctr Try.prog 9 #[.pointer (some ⟨t, 0, none⟩)] L fun r L' => r = .bool true ∧ L' = L := by
  have := g.cnt
  have e := g.pts.length_eq
  have f := g.few
  exact kCheck_ctr t T most v L (by rw [e]; exact h) hin g.ok (by omega) (by rw [e]; exact f)
end
theorem lives12_ctr (L : List HP) : Ctr Try.prog 15 #[] L fun v L' => v = .bool true ∧ ∃ X, L' = X ++ L := by
  have e1 : insC 3 [] ⟨7, 2, 3⟩ = 0 := by decide
  have e2 : insR 3 [] ⟨7, 2, 3⟩ = [⟨7, 2, 3⟩] := by decide
  have e5 : srt (hits (fun p => (⟨0, 9, 0, 9⟩ : Bx).has p.x p.y) [⟨7, 2, 3⟩]) = [7] := by
    have : hits (fun p => (⟨0, 9, 0, 9⟩ : Bx).has p.x p.y) [⟨7, 2, 3⟩] = [7] := by decide
    rw [this]; simp [srt]
  have e6 : bound (4 : Int).toNat = 5 := by decide
  have hb := fun M => kBound_ctr 4 M (by decide)
  rw [e6] at hb
  have hI := fun t M => KInsert_ctr t 3 [] ⟨7, 2, 3⟩ 0 M (by decide)
  rw [e1, e2] at hI
  refine Ctr_of (fn := Try.f15) (n := 40) Try.func15 rfl rfl rfl ?_
  intro g F
  (repeat first | refine G_seq ?_ | refine G_skip ?_ | refine G_endblk ?_ | refine G_block ?_ | refine G_exit rfl ?_)
  refine G_region ?_
  refine GO_q rfl rfl (ev_assign rfl) ?_
  refine GO_nil ?_
  (repeat first | refine G_seq ?_ | refine G_skip ?_ | refine G_endblk ?_ | refine G_block ?_ | refine G_exit rfl ?_)
  refine G_region ?_
  refine GO_eff rfl rfl (eff_call rfl (kNew_ctr 3 _ (by decide) (by decide))) ?_; rintro _ _ ⟨t, rfl, rfl⟩
  refine GO_q rfl rfl (ev_move rfl) ?_
  refine GO_q rfl rfl (ev_extract rfl rfl) ?_
  refine GO_q rfl rfl (ev_extract rfl rfl) ?_
  refine GO_q rfl rfl (ev_assign rfl) ?_
  refine GO_q rfl rfl (ev_assign rfl) ?_
  refine GO_nil ?_
  (repeat first | refine G_seq ?_ | refine G_skip ?_ | refine G_endblk ?_ | refine G_block ?_ | refine G_exit rfl ?_)
  refine G_region ?_
  refine GO_q rfl rfl (ev_move rfl) ?_
  refine GO_q rfl rfl (ev_build rfl rfl) ?_
  refine GO_eff rfl rfl (eff_call rfl (Ctr.pick (by repeat' first | exact Pick.here | apply Pick.skip | apply Pick.app) (hI t _))) ?_; rintro _ _ ⟨rfl, rfl⟩
  refine GO_q rfl rfl (ev_assign rfl) ?_
  refine GO_nil ?_
  refine G_tk fun T v kg => ?_
  have hR := fun M h hin => OReport_ctr (t := t) (most := 3) (L := M) kg (by decide) h hin ⟨0, 9, 0, 9⟩
  rw [e5] at hR
  (repeat first | refine G_seq ?_ | refine G_skip ?_ | refine G_endblk ?_ | refine G_block ?_ | refine G_exit rfl ?_)
  refine G_region ?_
  refine GO_q rfl rfl (ev_move rfl) ?_
  refine GO_q rfl rfl (ev_build rfl rfl) ?_
  refine GO_eff rfl rfl (eff_call rfl (hR _ (by repeat' first | exact LdN.blk rfl | apply LdN.skip) (by repeat' first | exact ktH_in _ _ | apply KIn.skip))) ?_; rintro _ _ ⟨a, c, rfl, hA, rfl⟩
  refine GO_q rfl rfl (ev_assign rfl) ?_
  refine GO_nil ?_
  obtain ⟨ab, rfl⟩ := hA (by decide)
  have y0 : ∀ X, Ld (own 3 1 (some ⟨ab, 0, none⟩) [(7 : Int)].length c (flat [(7 : Int)]) :: X) ⟨ab, 0 + 0 * 1, none⟩ (.int .i64 7) := fun X => by
    have r : Rd (own 3 1 (some ⟨ab, 0, none⟩) [(7 : Int)].length c (flat [(7 : Int)]) :: X) (some ⟨ab, 0, none⟩) [(7 : Int)].length [(7 : Int)] := Rc.own rfl (fun _ => ⟨ab, rfl⟩)
    obtain ⟨_, _, e9, hx⟩ := r.at_ (by decide)
    cases e9
    exact (hx 0 7 rfl).at_ (i := 0) rfl
  (repeat first | refine G_seq ?_ | refine G_skip ?_ | refine G_endblk ?_ | refine G_block ?_ | refine G_exit rfl ?_)
  refine G_region ?_
  refine GO_q rfl rfl (ev_move rfl) ?_
  refine GO_q rfl rfl (ev_eql rfl rfl) ?_
  refine GO_q rfl rfl (ev_move rfl) ?_
  refine GO_yes rfl rfl rfl rfl ?_
  refine GO_q rfl rfl (ev_move rfl) ?_
  refine GO_yes rfl rfl rfl rfl ?_
  refine GO_q rfl rfl (ev_eql rfl rfl) ?_
  refine GO_q rfl rfl (ev_pick_t rfl rfl rfl) ?_
  refine GO_q rfl rfl (ev_move rfl) ?_
  refine GO_yes rfl rfl rfl rfl ?_
  refine GO_q rfl rfl (ev_move rfl) ?_
  refine GO_yes rfl rfl rfl rfl ?_
  refine GO_q rfl rfl (ev_len rfl) ?_
  refine GO_yes rfl rfl rfl rfl ?_
  refine GO_q rfl rfl (ev_eql rfl rfl) ?_
  refine GO_q rfl rfl (ev_pick_t rfl rfl rfl) ?_
  refine GO_q rfl rfl (ev_move rfl) ?_
  refine GO_yes rfl rfl rfl rfl ?_
  refine GO_q rfl rfl (ev_move rfl) ?_
  refine GO_yes rfl rfl rfl rfl ?_
  (first | refine GO_q rfl rfl (ev_indexAddrN rfl rfl (by first | omega | (simp; done) | (simp; omega))) ?_ | refine GO_q rfl rfl (ev_indexAddr rfl rfl (by first | omega | (simp; done) | (simp; omega)) (by first | omega | (simp; done) | (simp; omega))) ?_)
  refine GO_yes rfl rfl rfl rfl ?_
  refine GO_q rfl rfl (ev_load rfl (by repeat' first | exact y0 _ | apply Ld.skip)) ?_
  refine GO_yes rfl rfl rfl rfl ?_
  refine GO_q rfl rfl (ev_eql rfl rfl) ?_
  refine GO_q rfl rfl (ev_pick_t rfl rfl rfl) ?_
  refine GO_q rfl rfl (ev_move rfl) ?_
  refine GO_yes rfl rfl rfl rfl ?_
  refine GO_q rfl rfl (ev_move rfl) ?_
  refine GO_yes rfl rfl rfl rfl ?_
  refine GO_eff rfl rfl (eff_call rfl (OCheck_ctr kg (by decide) (by repeat' first | exact LdN.blk rfl | apply LdN.skip) (by repeat' first | exact ktH_in _ _ | apply KIn.skip))) ?_; rintro _ _ ⟨rfl, rfl⟩
  refine GO_q rfl rfl (ev_pick_t rfl rfl rfl) ?_
  refine GO_q rfl rfl (ev_move rfl) ?_
  refine GO_yes rfl rfl rfl rfl ?_
  refine GO_eff rfl rfl (eff_call rfl (hb _)) ?_; rintro _ _ ⟨rfl, rfl⟩
  refine GO_yes rfl rfl rfl rfl ?_
  refine GO_q rfl rfl (ev_eql rfl rfl) ?_
  refine GO_q rfl rfl (ev_pick_t rfl rfl rfl) ?_
  refine GO_q rfl rfl (ev_assign rfl) ?_
  refine GO_nil ?_
  (repeat first | refine G_seq ?_ | refine G_skip ?_ | refine G_endblk ?_ | refine G_block ?_ | refine G_exit rfl ?_)
  exact G_ret (L' := [] ++ L) rfl (.tmp rfl .nil) (by (repeat first | exact fun _ s => s | apply en_keep | apply en_drop | apply en_app) <;> fail) ⟨rfl, [], rfl⟩
/-- What is done: its two numbers and the point. -/
structure Ac where
  kind : Int
  at_ : Int
  p : Pt
/-- The point of an act. -/
def actP (l : List Pt) (a : Ac) : Pt := if a.kind = 2 ∧ 0 < l.length ∧ 0 ≤ a.at_ then l.getD (a.at_ % (l.length : Nat)).toNat a.p else a.p
section
variable {P : Program} {L : List HP} {σ : Env} {d : Option Nat} {ty T T' : TypeId} {pos : String} {aft : Array Edge} {gd : Option (Nat × Bool)} {x y : Operand}
theorem ev_remE {p q : Int} {j : Nat} (e : p % q = (j : Int)) (hx : ev σ x = some (.int .i64 p)) (hy : ev σ y = some (.int .i64 q)) (hp : 0 ≤ p) (hq : 0 < q) : Ev P L σ ⟨d, .binOp .rem T x y T', ty, pos, aft, gd⟩ (.int .i64 (j : Int)) := e ▸ ev_rem hx hy hp hq
end
theorem Point_ctr0 (b : Nat) (A : Option Addr) (c : Nat) (most : Int) (a : Ac) (l : List Pt) (L : List HP) (h : LdN L b 0 2 [.slice A l.length c, .int .i64 most]) (hl : Rd L A l.length l) (hn : l.length ≤ 100000) (ha : a.at_ ≤ 9223372036854775807) :
    Ctr Try.prog 39 #[.pointer (some ⟨b, 0, none⟩), .agg #[.int .i64 a.kind, .int .i64 a.at_, .int .i64 a.p.id, .int .i64 a.p.x, .int .i64 a.p.y]] L fun v L' => v = (actP l a).v ∧ L' = L := by
  have h1 : Ld L ⟨b, 0 + 0, none⟩ (.slice A l.length c) := h.at_ (i := 0) rfl
  refine Ctr_of (fn := Try.f39) (n := 37) Try.func39 rfl rfl rfl ?_
  intro g F
  (repeat first | refine G_seq ?_ | refine G_skip ?_ | refine G_endblk ?_ | refine G_block ?_ | refine G_exit rfl ?_)
  refine G_region ?_
  refine GO_eff rfl rfl (eff_box rfl) ?_; rintro _ _ ⟨b3, rfl, rfl⟩
  refine GO_eff rfl rfl eff_alloc ?_; rintro _ _ ⟨b4, rfl, rfl⟩
  refine GO_nil ?_
  by_cases k1 : a.kind = 2
  · skip
    by_cases k2 : 0 < l.length
    · skip
      by_cases k3 : 0 ≤ a.at_
      · have e0 : actP l a = l.getD (a.at_ % (l.length : Nat)).toNat a.p := if_pos ⟨k1, k2, k3⟩
        obtain ⟨j, hj⟩ : ∃ j, j = (a.at_ % (l.length : Nat)).toNat := ⟨_, rfl⟩
        have hj1 : a.at_ % (l.length : Nat) = (j : Int) := by
          have := Int.emod_nonneg a.at_ (b := (l.length : Int)) (by omega)
          omega
        have hj2 : j < l.length := by
          have := Int.emod_lt_of_pos a.at_ (b := (l.length : Int)) (by omega)
          omega
        rw [← hj] at e0
        obtain ⟨lb, lo, rfl, hx⟩ := hl.at_ k2
        have g1 : l[j]? = some l[j] := List.getElem?_eq_getElem hj2
        have y1 := hx _ _ g1
        have e1 : l.getD j a.p = l[j] := by rw [List.getD_eq_getElem?_getD, g1]; rfl
        rw [e0, e1]
        generalize l[j] = u at *
        have z1 : LdN L lb (lo + j * 3) 3 [.int .i64 u.id, .int .i64 u.x, .int .i64 u.y] := y1
        (repeat first | refine G_seq ?_ | refine G_skip ?_ | refine G_endblk ?_ | refine G_block ?_ | refine G_exit rfl ?_)
        refine G_region ?_
        refine GO_q rfl rfl (ev_fieldAddr rfl) ?_
        refine GO_q rfl rfl (ev_load rfl (by repeat' first | exact Ld.blk rfl | assumption | apply Ld.skip | apply Ld.app)) ?_
        refine GO_q rfl rfl (ev_eql rfl rfl) ?_
        refine GO_q rfl rfl (ev_move rfl) ?_
        refine GO_yes rfl rfl rfl (decide_eq_true k1) ?_
        refine GO_q rfl rfl (ev_move rfl) ?_
        refine GO_yes rfl rfl rfl (decide_eq_true k1) ?_
        (first | refine GO_q rfl rfl (ev_nilCheck rfl) ?_ | refine GO_q rfl rfl (ev_nilCheckF (by simp) rfl) ?_)
        refine GO_yes rfl rfl rfl (decide_eq_true k1) ?_
        refine GO_q rfl rfl (ev_fieldAddr rfl) ?_
        refine GO_yes rfl rfl rfl (decide_eq_true k1) ?_
        refine GO_q rfl rfl (ev_load rfl (by repeat' first | exact Ld.blk rfl | assumption | apply Ld.skip | apply Ld.app)) ?_
        refine GO_yes rfl rfl rfl (decide_eq_true k1) ?_
        refine GO_q rfl rfl (ev_len rfl) ?_
        refine GO_yes rfl rfl rfl (decide_eq_true k1) ?_
        refine GO_q rfl rfl (ev_gtr rfl rfl) ?_
        refine GO_q rfl rfl (ev_pick_t rfl (decide_eq_true k1) rfl) ?_
        refine GO_q rfl rfl (ev_move rfl) ?_
        refine GO_yes rfl rfl rfl (decide_eq_true (by omega)) ?_
        refine GO_q rfl rfl (ev_fieldAddr rfl) ?_
        refine GO_yes rfl rfl rfl (decide_eq_true (by omega)) ?_
        refine GO_q rfl rfl (ev_load rfl (by repeat' first | exact Ld.blk rfl | assumption | apply Ld.skip | apply Ld.app)) ?_
        refine GO_yes rfl rfl rfl (decide_eq_true (by omega)) ?_
        refine GO_q rfl rfl (ev_geq rfl rfl) ?_
        refine GO_q rfl rfl (ev_pick_t rfl (decide_eq_true (by omega)) rfl) ?_
        refine GO_nil ?_
        (repeat first | refine G_seq ?_ | refine G_skip ?_ | refine G_endblk ?_ | refine G_block ?_ | refine G_exit rfl ?_)
        refine G_cond_t rfl (decide_eq_true k3) ?_
        (repeat first | refine G_seq ?_ | refine G_skip ?_ | refine G_endblk ?_ | refine G_block ?_ | refine G_exit rfl ?_)
        refine G_draw (.q 0 (.q 1 (.q 2 (.q 3 (.q 4 (.q 5 (.q 6 (.q 7 (.q 8 (.q 9 (.q 10 (.q 11 (.q 12 (.q 13 (.e 14 .nil))))))))))))))) (by kernel_rfl) (by kernel_rfl) ?_
        refine RS_m retB_noPanic rfl rfl rfl rfl (ev_move rfl) ?_
        (first | refine RS_m retB_noPanic rfl rfl rfl rfl (ev_nilCheck rfl) ?_ | refine RS_m retB_noPanic rfl rfl rfl rfl (ev_nilCheckF (by simp) rfl) ?_)
        refine RS_m retB_noPanic rfl rfl rfl rfl (ev_fieldAddr rfl) ?_
        refine RS_q retB_noPanic rfl rfl rfl rfl (ev_load rfl (by repeat' first | exact Ld.blk rfl | assumption | apply Ld.skip | apply Ld.app)) ?_
        refine RS_m retB_noPanic rfl rfl rfl rfl (ev_fieldAddr rfl) ?_
        refine RS_q retB_noPanic rfl rfl rfl rfl (ev_load rfl (by repeat' first | exact Ld.blk rfl | assumption | apply Ld.skip | apply Ld.app)) ?_
        refine RS_m retB_noPanic rfl rfl rfl rfl (ev_move rfl) ?_
        (first | refine RS_m retB_noPanic rfl rfl rfl rfl (ev_nilCheck rfl) ?_ | refine RS_m retB_noPanic rfl rfl rfl rfl (ev_nilCheckF (by simp) rfl) ?_)
        refine RS_m retB_noPanic rfl rfl rfl rfl (ev_fieldAddr rfl) ?_
        refine RS_q retB_noPanic rfl rfl rfl rfl (ev_load rfl (by repeat' first | exact Ld.blk rfl | assumption | apply Ld.skip | apply Ld.app)) ?_
        refine RS_q retB_noPanic rfl rfl rfl rfl (ev_len rfl) ?_
        refine RS_m retB_noPanic rfl rfl rfl rfl (ev_remE hj1 rfl rfl k3 (by omega)) ?_
        (first | refine RS_m retB_noPanic rfl rfl rfl rfl (ev_indexAddrN rfl rfl (by first | omega | (simp; done) | (simp; omega))) ?_ | refine RS_m retB_noPanic rfl rfl rfl rfl (ev_indexAddr rfl rfl (by first | omega | (simp; done) | (simp; omega)) (by first | omega | (simp; done) | (simp; omega))) ?_)
        refine RS_q retB_noPanic rfl rfl rfl rfl (ev_loadN rfl (by repeat' first | exact LdN.blk rfl | assumption | apply LdN.skip | apply LdN.app)) ?_
        refine RS_e (RE_last (by kernel_rfl) rfl rfl rfl (eff_storeN rfl rfl rfl rfl (by repeat' first | exact Upd.here rfl | apply Upd.skip | apply Upd.app)) ?_); rintro _ _ ⟨rfl, rfl⟩
        (repeat first | refine G_seq ?_ | refine G_skip ?_ | refine G_endblk ?_ | refine G_block ?_ | refine G_exit rfl ?_)
        refine G_ret rfl (.cell rfl (loadN_run (by repeat' first | exact LdN.blk rfl | assumption | apply LdN.skip | apply LdN.app)) .nil) (by (repeat first | exact fun _ s => s | apply en_keep | apply en_drop | apply en_app) <;> fail) ⟨rfl, rfl⟩
      · have e0 : actP l a = a.p := if_neg (fun h => k3 h.2.2)
        rw [e0]
        (repeat first | refine G_seq ?_ | refine G_skip ?_ | refine G_endblk ?_ | refine G_block ?_ | refine G_exit rfl ?_)
        refine G_region ?_
        refine GO_q rfl rfl (ev_fieldAddr rfl) ?_
        refine GO_q rfl rfl (ev_load rfl (by repeat' first | exact Ld.blk rfl | assumption | apply Ld.skip | apply Ld.app)) ?_
        refine GO_q rfl rfl (ev_eql rfl rfl) ?_
        refine GO_q rfl rfl (ev_move rfl) ?_
        refine GO_yes rfl rfl rfl (decide_eq_true k1) ?_
        refine GO_q rfl rfl (ev_move rfl) ?_
        refine GO_yes rfl rfl rfl (decide_eq_true k1) ?_
        (first | refine GO_q rfl rfl (ev_nilCheck rfl) ?_ | refine GO_q rfl rfl (ev_nilCheckF (by simp) rfl) ?_)
        refine GO_yes rfl rfl rfl (decide_eq_true k1) ?_
        refine GO_q rfl rfl (ev_fieldAddr rfl) ?_
        refine GO_yes rfl rfl rfl (decide_eq_true k1) ?_
        refine GO_q rfl rfl (ev_load rfl (by repeat' first | exact Ld.blk rfl | assumption | apply Ld.skip | apply Ld.app)) ?_
        refine GO_yes rfl rfl rfl (decide_eq_true k1) ?_
        refine GO_q rfl rfl (ev_len rfl) ?_
        refine GO_yes rfl rfl rfl (decide_eq_true k1) ?_
        refine GO_q rfl rfl (ev_gtr rfl rfl) ?_
        refine GO_q rfl rfl (ev_pick_t rfl (decide_eq_true k1) rfl) ?_
        refine GO_q rfl rfl (ev_move rfl) ?_
        refine GO_yes rfl rfl rfl (decide_eq_true (by omega)) ?_
        refine GO_q rfl rfl (ev_fieldAddr rfl) ?_
        refine GO_yes rfl rfl rfl (decide_eq_true (by omega)) ?_
        refine GO_q rfl rfl (ev_load rfl (by repeat' first | exact Ld.blk rfl | assumption | apply Ld.skip | apply Ld.app)) ?_
        refine GO_yes rfl rfl rfl (decide_eq_true (by omega)) ?_
        refine GO_q rfl rfl (ev_geq rfl rfl) ?_
        refine GO_q rfl rfl (ev_pick_t rfl (decide_eq_true (by omega)) rfl) ?_
        refine GO_nil ?_
        (repeat first | refine G_seq ?_ | refine G_skip ?_ | refine G_endblk ?_ | refine G_block ?_ | refine G_exit rfl ?_)
        refine G_cond_f rfl (decide_eq_false k3) ?_
        (repeat first | refine G_seq ?_ | refine G_skip ?_ | refine G_endblk ?_ | refine G_block ?_ | refine G_exit rfl ?_)
        refine G_region ?_
        refine GO_q rfl rfl (ev_fieldAddr rfl) ?_
        refine GO_q rfl rfl (ev_loadN rfl (by repeat' first | exact LdN.blk rfl | assumption | apply LdN.skip | apply LdN.app)) ?_
        refine GO_eff rfl rfl (eff_storeN rfl rfl rfl rfl (by repeat' first | exact Upd.here rfl | apply Upd.skip | apply Upd.app)) ?_; rintro _ _ ⟨rfl, rfl⟩
        refine GO_nil ?_
        (repeat first | refine G_seq ?_ | refine G_skip ?_ | refine G_endblk ?_ | refine G_block ?_ | refine G_exit rfl ?_)
        refine G_ret rfl (.cell rfl (loadN_run (by repeat' first | exact LdN.blk rfl | assumption | apply LdN.skip | apply LdN.app)) .nil) (by (repeat first | exact fun _ s => s | apply en_keep | apply en_drop | apply en_app) <;> fail) ⟨rfl, rfl⟩
    · have e0 : actP l a = a.p := if_neg (fun h => k2 h.2.1)
      rw [e0]
      (repeat first | refine G_seq ?_ | refine G_skip ?_ | refine G_endblk ?_ | refine G_block ?_ | refine G_exit rfl ?_)
      refine G_region ?_
      refine GO_q rfl rfl (ev_fieldAddr rfl) ?_
      refine GO_q rfl rfl (ev_load rfl (by repeat' first | exact Ld.blk rfl | assumption | apply Ld.skip | apply Ld.app)) ?_
      refine GO_q rfl rfl (ev_eql rfl rfl) ?_
      refine GO_q rfl rfl (ev_move rfl) ?_
      refine GO_yes rfl rfl rfl (decide_eq_true k1) ?_
      refine GO_q rfl rfl (ev_move rfl) ?_
      refine GO_yes rfl rfl rfl (decide_eq_true k1) ?_
      (first | refine GO_q rfl rfl (ev_nilCheck rfl) ?_ | refine GO_q rfl rfl (ev_nilCheckF (by simp) rfl) ?_)
      refine GO_yes rfl rfl rfl (decide_eq_true k1) ?_
      refine GO_q rfl rfl (ev_fieldAddr rfl) ?_
      refine GO_yes rfl rfl rfl (decide_eq_true k1) ?_
      refine GO_q rfl rfl (ev_load rfl (by repeat' first | exact Ld.blk rfl | assumption | apply Ld.skip | apply Ld.app)) ?_
      refine GO_yes rfl rfl rfl (decide_eq_true k1) ?_
      refine GO_q rfl rfl (ev_len rfl) ?_
      refine GO_yes rfl rfl rfl (decide_eq_true k1) ?_
      refine GO_q rfl rfl (ev_gtr rfl rfl) ?_
      refine GO_q rfl rfl (ev_pick_t rfl (decide_eq_true k1) rfl) ?_
      refine GO_q rfl rfl (ev_move rfl) ?_
      refine GO_no rfl rfl rfl (decide_eq_false (by omega)) ?_
      refine GO_no rfl rfl rfl (decide_eq_false (by omega)) ?_
      refine GO_no rfl rfl rfl (decide_eq_false (by omega)) ?_
      refine GO_q rfl rfl (ev_pick_f rfl (decide_eq_false (by omega)) rfl) ?_
      refine GO_nil ?_
      (repeat first | refine G_seq ?_ | refine G_skip ?_ | refine G_endblk ?_ | refine G_block ?_ | refine G_exit rfl ?_)
      refine G_cond_f rfl rfl ?_
      (repeat first | refine G_seq ?_ | refine G_skip ?_ | refine G_endblk ?_ | refine G_block ?_ | refine G_exit rfl ?_)
      refine G_region ?_
      refine GO_q rfl rfl (ev_fieldAddr rfl) ?_
      refine GO_q rfl rfl (ev_loadN rfl (by repeat' first | exact LdN.blk rfl | assumption | apply LdN.skip | apply LdN.app)) ?_
      refine GO_eff rfl rfl (eff_storeN rfl rfl rfl rfl (by repeat' first | exact Upd.here rfl | apply Upd.skip | apply Upd.app)) ?_; rintro _ _ ⟨rfl, rfl⟩
      refine GO_nil ?_
      (repeat first | refine G_seq ?_ | refine G_skip ?_ | refine G_endblk ?_ | refine G_block ?_ | refine G_exit rfl ?_)
      refine G_ret rfl (.cell rfl (loadN_run (by repeat' first | exact LdN.blk rfl | assumption | apply LdN.skip | apply LdN.app)) .nil) (by (repeat first | exact fun _ s => s | apply en_keep | apply en_drop | apply en_app) <;> fail) ⟨rfl, rfl⟩
  · have e0 : actP l a = a.p := if_neg (fun h => k1 h.1)
    rw [e0]
    (repeat first | refine G_seq ?_ | refine G_skip ?_ | refine G_endblk ?_ | refine G_block ?_ | refine G_exit rfl ?_)
    refine G_region ?_
    refine GO_q rfl rfl (ev_fieldAddr rfl) ?_
    refine GO_q rfl rfl (ev_load rfl (by repeat' first | exact Ld.blk rfl | assumption | apply Ld.skip | apply Ld.app)) ?_
    refine GO_q rfl rfl (ev_eql rfl rfl) ?_
    refine GO_q rfl rfl (ev_move rfl) ?_
    refine GO_no rfl rfl rfl (decide_eq_false k1) ?_
    refine GO_no rfl rfl rfl (decide_eq_false k1) ?_
    refine GO_no rfl rfl rfl (decide_eq_false k1) ?_
    refine GO_no rfl rfl rfl (decide_eq_false k1) ?_
    refine GO_no rfl rfl rfl (decide_eq_false k1) ?_
    refine GO_no rfl rfl rfl (decide_eq_false k1) ?_
    refine GO_q rfl rfl (ev_pick_f rfl (decide_eq_false k1) rfl) ?_
    refine GO_q rfl rfl (ev_move rfl) ?_
    refine GO_no rfl rfl rfl rfl ?_
    refine GO_no rfl rfl rfl rfl ?_
    refine GO_no rfl rfl rfl rfl ?_
    refine GO_q rfl rfl (ev_pick_f rfl rfl rfl) ?_
    refine GO_nil ?_
    (repeat first | refine G_seq ?_ | refine G_skip ?_ | refine G_endblk ?_ | refine G_block ?_ | refine G_exit rfl ?_)
    refine G_cond_f rfl rfl ?_
    (repeat first | refine G_seq ?_ | refine G_skip ?_ | refine G_endblk ?_ | refine G_block ?_ | refine G_exit rfl ?_)
    refine G_region ?_
    refine GO_q rfl rfl (ev_fieldAddr rfl) ?_
    refine GO_q rfl rfl (ev_loadN rfl (by repeat' first | exact LdN.blk rfl | assumption | apply LdN.skip | apply LdN.app)) ?_
    refine GO_eff rfl rfl (eff_storeN rfl rfl rfl rfl (by repeat' first | exact Upd.here rfl | apply Upd.skip | apply Upd.app)) ?_; rintro _ _ ⟨rfl, rfl⟩
    refine GO_nil ?_
    (repeat first | refine G_seq ?_ | refine G_skip ?_ | refine G_endblk ?_ | refine G_block ?_ | refine G_exit rfl ?_)
    refine G_ret rfl (.cell rfl (loadN_run (by repeat' first | exact LdN.blk rfl | assumption | apply LdN.skip | apply LdN.app)) .nil) (by (repeat first | exact fun _ s => s | apply en_keep | apply en_drop | apply en_app) <;> fail) ⟨rfl, rfl⟩
theorem Point_ctr (b : Nat) (most : Int) (a : Ac) (l : List Pt) (L : List HP) (hn : l.length ≤ 100000) (ha : a.at_ ≤ 9223372036854775807) :
    Ctr Try.prog 39 #[.pointer (some ⟨b, 0, none⟩), .agg #[.int .i64 a.kind, .int .i64 a.at_, .int .i64 a.p.id, .int .i64 a.p.x, .int .i64 a.p.y]] (setS b most l :: L) fun v L' => v = (actP l a).v ∧ L' = setS b most l :: L :=
  Ctr.set0 (R := fun v => v = (actP l a).v) fun A c L' h hl => Point_ctr0 b A c most a l L' h hl hn ha
/-- What an act leaves. -/
def actL (most : Int) (l : List Pt) (a : Ac) : List Pt := if a.kind = 1 ∨ a.kind = 2 then l.erase (actP l a) else insR most l (actP l a)
theorem actL_length (most : Int) (l : List Pt) (a : Ac) : (actL most l a).length ≤ l.length + 1 := by
  unfold actL insR
  split
  · have := List.length_erase_le (a := actP l a) (l := l); omega
  · split <;> simp
theorem does_ctr (b s : Nat) (most : Int) (a : Ac) (l : List Pt) (k : Nat) (L : List HP) (hk : k ≤ 900) (hn : l.length + 1 ≤ 100000) (ha : a.at_ ≤ 9223372036854775807) :
    Ctr Try.prog 16 #[.pointer (some ⟨b, 0, none⟩), .pointer (some ⟨s, 0, none⟩), .agg #[.int .i64 a.kind, .int .i64 a.at_, .int .i64 a.p.id, .int .i64 a.p.x, .int .i64 a.p.y]] (treeK b most l k :: setS s most l :: L) fun v L' => v = .bool true ∧ L' = treeK b most (actL most l a) (k + 1) :: setS s most (actL most l a) :: L := by
  refine Ctr_of (fn := Try.f16) (n := 33) Try.func16 rfl rfl rfl ?_
  intro g F
  (repeat first | refine G_seq ?_ | refine G_skip ?_ | refine G_endblk ?_ | refine G_block ?_ | refine G_exit rfl ?_)
  refine G_region ?_
  refine GO_eff rfl rfl (eff_box rfl) ?_; rintro _ _ ⟨b5, rfl, rfl⟩
  refine GO_q rfl rfl (ev_assign rfl) ?_
  refine GO_nil ?_
  (repeat first | refine G_seq ?_ | refine G_skip ?_ | refine G_endblk ?_ | refine G_block ?_ | refine G_exit rfl ?_)
  refine G_region ?_
  refine GO_q rfl rfl (ev_move rfl) ?_
  refine GO_q rfl rfl (ev_loadN rfl (by repeat' first | exact LdN.blk rfl | assumption | apply LdN.skip | apply LdN.app)) ?_
  refine GO_eff rfl rfl (eff_call rfl (Ctr.pick (by repeat' first | exact Pick.here | apply Pick.skip | apply Pick.app) (Point_ctr s most a l _ (by omega) ha))) ?_; rintro _ _ ⟨rfl, rfl⟩
  refine GO_eff rfl rfl eff_alloc ?_; rintro _ _ ⟨b7, rfl, rfl⟩
  refine GO_eff rfl rfl (eff_storeN rfl rfl rfl rfl (by repeat' first | exact Upd.here rfl | apply Upd.skip | apply Upd.app)) ?_; rintro _ _ ⟨rfl, rfl⟩
  refine GO_nil ?_
  generalize hp : actP l a = p
  by_cases hc : a.kind = 1 ∨ a.kind = 2
  · have e : actL most l a = l.erase p := by unfold actL; rw [if_pos hc, hp]
    rw [e]
    by_cases k1 : a.kind = 1
    case' pos =>
      (repeat first | refine G_seq ?_ | refine G_skip ?_ | refine G_endblk ?_ | refine G_block ?_ | refine G_exit rfl ?_)
      refine G_region ?_
      refine GO_q rfl rfl (ev_fieldAddr rfl) ?_
      refine GO_q rfl rfl (ev_load rfl (by repeat' first | exact Ld.blk rfl | assumption | apply Ld.skip | apply Ld.app)) ?_
      refine GO_q rfl rfl (ev_eql rfl rfl) ?_
      refine GO_q rfl rfl (ev_move rfl) ?_
      refine GO_no rfl rfl rfl (decide_eq_true k1) ?_
      refine GO_no rfl rfl rfl (decide_eq_true k1) ?_
      refine GO_no rfl rfl rfl (decide_eq_true k1) ?_
      refine GO_q rfl rfl (ev_pick_t rfl (decide_eq_true k1) rfl) ?_
      refine GO_nil ?_
      (repeat first | refine G_seq ?_ | refine G_skip ?_ | refine G_endblk ?_ | refine G_block ?_ | refine G_exit rfl ?_)
      refine G_cond_t rfl rfl ?_
    case' neg =>
      have k2 : a.kind = 2 := by omega
      (repeat first | refine G_seq ?_ | refine G_skip ?_ | refine G_endblk ?_ | refine G_block ?_ | refine G_exit rfl ?_)
      refine G_region ?_
      refine GO_q rfl rfl (ev_fieldAddr rfl) ?_
      refine GO_q rfl rfl (ev_load rfl (by repeat' first | exact Ld.blk rfl | assumption | apply Ld.skip | apply Ld.app)) ?_
      refine GO_q rfl rfl (ev_eql rfl rfl) ?_
      refine GO_q rfl rfl (ev_move rfl) ?_
      refine GO_yes rfl rfl rfl (decide_eq_false k1) ?_
      refine GO_q rfl rfl (ev_fieldAddr rfl) ?_
      refine GO_yes rfl rfl rfl (decide_eq_false k1) ?_
      refine GO_q rfl rfl (ev_load rfl (by repeat' first | exact Ld.blk rfl | assumption | apply Ld.skip | apply Ld.app)) ?_
      refine GO_yes rfl rfl rfl (decide_eq_false k1) ?_
      refine GO_q rfl rfl (ev_eql rfl rfl) ?_
      refine GO_q rfl rfl (ev_pick_f rfl (decide_eq_false k1) rfl) ?_
      refine GO_nil ?_
      (repeat first | refine G_seq ?_ | refine G_skip ?_ | refine G_endblk ?_ | refine G_block ?_ | refine G_exit rfl ?_)
      refine G_cond_t rfl (decide_eq_true k2) ?_
    all_goals
      (repeat first | refine G_seq ?_ | refine G_skip ?_ | refine G_endblk ?_ | refine G_block ?_ | refine G_exit rfl ?_)
      refine G_drawE 4 (.q 0 (.q 1 (.q 3 (.q 4 (.e 2 (.e 5 (.q 6 (.q 7 .nil)))))))) (by kernel_rfl) (by kernel_rfl) ?_
      refine RS_m retB_noPanic rfl rfl rfl rfl (ev_move rfl) ?_
      refine RS_q retB_noPanic rfl rfl rfl rfl (ev_loadN rfl (by repeat' first | exact LdN.blk rfl | assumption | apply LdN.skip | apply LdN.app)) ?_
      refine RS_m retB_noPanic rfl rfl rfl rfl (ev_move rfl) ?_
      refine RS_q retB_noPanic rfl rfl rfl rfl (ev_loadN rfl (by repeat' first | exact LdN.blk rfl | assumption | apply LdN.skip | apply LdN.app)) ?_
      refine RS_e (RE_eff rfl rfl rfl (eff_call rfl (Ctr.pick (by repeat' first | exact Pick.here | apply Pick.skip | apply Pick.app) (KDelete_ctr b most l p k _ hk))) ?_); rintro _ _ ⟨rfl, rfl⟩; refine ⟨_, (by first | ((repeat first | exact fun _ s => s | apply en_keep | apply en_drop | apply en_app) <;> fail) | ((repeat first | exact en_refl | (apply en_blk; focus ((repeat' first | exact Pick.here | apply Pick.skip | apply Pick.app); done); focus rfl) | (apply en_own; focus ((repeat' first | exact Pick.here | apply Pick.skip | apply Pick.app); done); focus rfl) | (apply en_pick; focus ((repeat' first | exact Pick.here | apply Pick.skip | apply Pick.app); done)) | apply en_drop | apply en_app) <;> fail)), fun _ s => s, ?_⟩
      refine RS_e (RE_cmp (by kernel_rfl) rfl rfl rfl (eff_call rfl (Ctr.pick (by repeat' first | exact Pick.here | apply Pick.skip | apply Pick.app) (RDelete_ctr s most l p _ (by omega)))) ?_); rintro _ _ ⟨rfl, rfl⟩
      refine RS_m retB_noPanic rfl rfl rfl rfl (ev_eql rfl rfl) ?_
      refine RS_m retB_noPanic rfl rfl rfl rfl (ev_assign rfl) ?_
      refine RS_nil ?_
      (repeat first | refine G_seq ?_ | refine G_skip ?_ | refine G_endblk ?_ | refine G_block ?_ | refine G_exit rfl ?_)
      refine G_ret (L' := treeK b most (l.erase p) (k + 1) :: setS s most (l.erase p) :: L) rfl (.tmp rfl .nil) (by (repeat first | exact en_refl | (apply en_blk; focus ((repeat' first | exact Pick.here | apply Pick.skip | apply Pick.app); done); focus rfl) | (apply en_own; focus ((repeat' first | exact Pick.here | apply Pick.skip | apply Pick.app); done); focus rfl) | (apply en_pick; focus ((repeat' first | exact Pick.here | apply Pick.skip | apply Pick.app); done)) | apply en_drop | apply en_app) <;> fail) ⟨by simp [retv], rfl⟩
  · have e : actL most l a = insR most l p := by unfold actL; rw [if_neg hc, hp]
    rw [e]
    have k1 : ¬ a.kind = 1 := fun h => hc (.inl h)
    have k2 : ¬ a.kind = 2 := fun h => hc (.inr h)
    (repeat first | refine G_seq ?_ | refine G_skip ?_ | refine G_endblk ?_ | refine G_block ?_ | refine G_exit rfl ?_)
    refine G_region ?_
    refine GO_q rfl rfl (ev_fieldAddr rfl) ?_
    refine GO_q rfl rfl (ev_load rfl (by repeat' first | exact Ld.blk rfl | assumption | apply Ld.skip | apply Ld.app)) ?_
    refine GO_q rfl rfl (ev_eql rfl rfl) ?_
    refine GO_q rfl rfl (ev_move rfl) ?_
    refine GO_yes rfl rfl rfl (decide_eq_false k1) ?_
    refine GO_q rfl rfl (ev_fieldAddr rfl) ?_
    refine GO_yes rfl rfl rfl (decide_eq_false k1) ?_
    refine GO_q rfl rfl (ev_load rfl (by repeat' first | exact Ld.blk rfl | assumption | apply Ld.skip | apply Ld.app)) ?_
    refine GO_yes rfl rfl rfl (decide_eq_false k1) ?_
    refine GO_q rfl rfl (ev_eql rfl rfl) ?_
    refine GO_q rfl rfl (ev_pick_f rfl (decide_eq_false k1) rfl) ?_
    refine GO_nil ?_
    (repeat first | refine G_seq ?_ | refine G_skip ?_ | refine G_endblk ?_ | refine G_block ?_ | refine G_exit rfl ?_)
    refine G_cond_f rfl (decide_eq_false k2) ?_
    (repeat first | refine G_seq ?_ | refine G_skip ?_ | refine G_endblk ?_ | refine G_block ?_ | refine G_exit rfl ?_)
    refine G_drawE 4 (.q 0 (.q 1 (.q 3 (.q 4 (.e 2 (.e 5 (.q 6 (.q 7 .nil)))))))) (by kernel_rfl) (by kernel_rfl) ?_
    refine RS_m retB_noPanic rfl rfl rfl rfl (ev_move rfl) ?_
    refine RS_q retB_noPanic rfl rfl rfl rfl (ev_loadN rfl (by repeat' first | exact LdN.blk rfl | assumption | apply LdN.skip | apply LdN.app)) ?_
    refine RS_m retB_noPanic rfl rfl rfl rfl (ev_move rfl) ?_
    refine RS_q retB_noPanic rfl rfl rfl rfl (ev_loadN rfl (by repeat' first | exact LdN.blk rfl | assumption | apply LdN.skip | apply LdN.app)) ?_
    refine RS_e (RE_eff rfl rfl rfl (eff_call rfl (Ctr.pick (by repeat' first | exact Pick.here | apply Pick.skip | apply Pick.app) (KInsert_ctr b most l p k _ hk))) ?_); rintro _ _ ⟨rfl, rfl⟩; refine ⟨_, (by first | ((repeat first | exact fun _ s => s | apply en_keep | apply en_drop | apply en_app) <;> fail) | ((repeat first | exact en_refl | (apply en_blk; focus ((repeat' first | exact Pick.here | apply Pick.skip | apply Pick.app); done); focus rfl) | (apply en_own; focus ((repeat' first | exact Pick.here | apply Pick.skip | apply Pick.app); done); focus rfl) | (apply en_pick; focus ((repeat' first | exact Pick.here | apply Pick.skip | apply Pick.app); done)) | apply en_drop | apply en_app) <;> fail)), fun _ s => s, ?_⟩
    refine RS_e (RE_cmp (by kernel_rfl) rfl rfl rfl (eff_call rfl (Ctr.pick (by repeat' first | exact Pick.here | apply Pick.skip | apply Pick.app) (RInsert_ctr s most l p _ (by omega)))) ?_); rintro _ _ ⟨rfl, rfl⟩
    refine RS_m retB_noPanic rfl rfl rfl rfl (ev_eql rfl rfl) ?_
    refine RS_m retB_noPanic rfl rfl rfl rfl (ev_assign rfl) ?_
    refine RS_nil ?_
    (repeat first | refine G_seq ?_ | refine G_skip ?_ | refine G_endblk ?_ | refine G_block ?_ | refine G_exit rfl ?_)
    refine G_ret (L' := treeK b most (insR most l p) (k + 1) :: setS s most (insR most l p) :: L) rfl (.tmp rfl .nil) (by (repeat first | exact en_refl | (apply en_blk; focus ((repeat' first | exact Pick.here | apply Pick.skip | apply Pick.app); done); focus rfl) | (apply en_own; focus ((repeat' first | exact Pick.here | apply Pick.skip | apply Pick.app); done); focus rfl) | (apply en_pick; focus ((repeat' first | exact Pick.here | apply Pick.skip | apply Pick.app); done)) | apply en_drop | apply en_app) <;> fail) ⟨by simp [retv], rfl⟩
instance : Enc Ac := ⟨5, fun a => [.int .i64 a.kind, .int .i64 a.at_, .int .i64 a.p.id, .int .i64 a.p.x, .int .i64 a.p.y], fun _ => rfl, fun p v h => by
  simp at h
  rcases h with rfl | rfl | rfl | rfl | rfl <;> rfl⟩
def playL (most : Int) (l : List Ac) : List Pt := l.foldl (actL most) []
theorem playL_succ (most : Int) (l : List Ac) (k : Nat) (h : k < l.length) : playL most (l.take (k + 1)) = actL most (playL most (l.take k)) l[k] := by
  unfold playL; rw [List.take_succ_eq_append_getElem h, List.foldl_append]; rfl
end Go.Proofs.Ytjgdhkilnalejaa
/- From a contract to what a law's row asks. -/
namespace Go.Proofs.Ytjgdhkilnalejaa
open Go.RowKit
set_option linter.unusedVariables false

/-- A law that holds by its contract: it returns true, and nothing old has turned. -/
theorem law_of_ctr {P : Program} {f : FuncId} {args : Array Value} {w : World} (h : Ctr P f args [old w.hm] fun v L' => v = .bool true ∧ L' = [old w.hm]) :
    Calls P f args w fun e w' => e = .returned (.bool true) ∧ Below w.heap.size w w' := by
  refine (calls_of h (Hp.start w)).mono fun e w' ⟨v, L', e1, ⟨e2, e3⟩, hw'⟩ => ?_
  subst e2 e3
  exact ⟨e1, hw'.below⟩
/-- What a slice of numbers reads as. -/
theorem rc_of_reads {w : World} {sz : Nat} {A : Option Addr} {n : Nat} {xs : List Value} (hsz : 0 < sz) (h : Reads w sz A n xs) : Rc [old w.hm] sz A n xs := by
  refine ⟨h.1, fun h0 => ?_⟩
  obtain ⟨b, o, rfl, hb, hc⟩ := h.2 (Nat.mul_pos h0 hsz)
  refine ⟨b, o, rfl, fun j v hj => Ld.old ?_⟩
  obtain ⟨h1, rfl⟩ := List.getElem?_eq_some_iff.1 hj
  exact hc j h1
end Go.Proofs.Ytjgdhkilnalejaa
/- The law KdPlays. -/
namespace Go.Proofs.Ytjgdhkilnalejaa
attribute [local irreducible] sat
open Go.RowKit
set_option linter.unusedVariables false
set_option linter.unusedSimpArgs false
set_option maxRecDepth 100000

theorem acts_of : ∀ (n : Nat) (ns : List Int), ns.length = n * 5 → Ints ns → ∃ l : List Ac, flat l = ints ns ∧ ∀ a ∈ l, a.at_ ≤ 9223372036854775807
  | 0, ns, h, _ => ⟨[], by
    have : ns = [] := List.eq_nil_of_length_eq_zero (by simpa using h)
    subst this; rfl, by simp⟩
  | n + 1, a :: b :: c :: d :: e :: ns, h, hb => by
    obtain ⟨l, hl, hk⟩ := acts_of n ns (by simp at h; omega) (fun x hx => hb x (by simp [hx]))
    refine ⟨⟨a, b, ⟨c, d, e⟩⟩ :: l, by rw [flat_cons, hl]; rfl, fun u hu => ?_⟩
    rcases List.mem_cons.1 hu with rfl | hu
    · exact (hb b (by simp)).2
    · exact hk u hu
  | n + 1, [], h, _ => by simp at h
  | n + 1, [_], h, _ => by simp at h; omega
  | n + 1, [_, _], h, _ => by simp at h; omega
  | n + 1, [_, _, _], h, _ => by simp at h; omega
  | n + 1, [_, _, _, _], h, _ => by simp at h; omega
theorem rd_acts {w : World} {A : Option Addr} {n : Nat} {ns : List Int} (h : Reads w 5 A n (ints ns)) (hb : Ints ns) : ∃ l : List Ac, Rd [old w.hm] A n l ∧ ∀ a ∈ l, a.at_ ≤ 9223372036854775807 := by
  obtain ⟨l, hl, hk⟩ := acts_of n ns (by simpa [ints] using h.1) hb
  refine ⟨l, ?_, hk⟩
  unfold Rd
  rw [hl]
  exact rc_of_reads (by decide) h
end Go.Proofs.Ytjgdhkilnalejaa
/- The law KdBack. -/
namespace Go.Proofs.Ytjgdhkilnalejaa
attribute [local irreducible] sat
open Go.RowKit
set_option linter.unusedVariables false
set_option linter.unusedSimpArgs false
set_option maxRecDepth 100000

theorem KdBack_ctr (A : Option Addr) (n c : Nat) (acts : List Ac) (p : Pt) (w : Bx) (L : List HP) (hl : Rd L A n acts) (hn : n ≤ 9223372036854775807) (ha : ∀ a ∈ acts, a.at_ ≤ 9223372036854775807) (hp : p.id ≤ 9223372036854775807) :
    Ctr Try.prog 4 #[.slice A n c, p.v, w.v] L fun v L' => v = .bool true ∧ L' = L := by
  have h1 : acts.length = n := hl.len (by decide)
  refine Ctr_of (fn := Try.f4) (n := 79) Try.func4 rfl rfl rfl ?_
  intro g F
  (repeat first | refine G_seq ?_ | refine G_skip ?_ | refine G_endblk ?_ | refine G_block ?_ | refine G_exit rfl ?_)
  refine G_region ?_
  refine GO_eff rfl rfl (eff_box rfl) ?_; rintro _ _ ⟨b4, rfl, rfl⟩
  refine GO_eff rfl rfl (eff_box rfl) ?_; rintro _ _ ⟨b5, rfl, rfl⟩
  refine GO_q rfl rfl (ev_assign rfl) ?_
  refine GO_nil ?_
  (repeat first | refine G_seq ?_ | refine G_skip ?_ | refine G_endblk ?_ | refine G_block ?_ | refine G_exit rfl ?_)
  refine G_region ?_
  refine GO_eff rfl rfl (eff_call rfl (kNew_ctr 70 _ (by decide) (by decide))) ?_; rintro _ _ ⟨t, rfl, rfl⟩
  refine GO_q rfl rfl (ev_move rfl) ?_
  refine GO_q rfl rfl (ev_extract rfl rfl) ?_
  refine GO_q rfl rfl (ev_extract rfl rfl) ?_
  refine GO_q rfl rfl (ev_assign rfl) ?_
  refine GO_q rfl rfl (ev_assign rfl) ?_
  refine GO_nil ?_
  (repeat first | refine G_seq ?_ | refine G_skip ?_ | refine G_endblk ?_ | refine G_block ?_ | refine G_exit rfl ?_)
  refine G_region ?_
  refine GO_q rfl rfl (ev_move rfl) ?_
  (first | refine GO_q rfl rfl (ev_eqlNil rfl rfl) ?_ | refine GO_q rfl rfl (ev_eqlPtr rfl rfl) ?_)
  refine GO_q rfl rfl (ev_move rfl) ?_
  refine GO_yes rfl rfl rfl rfl ?_
  refine GO_q rfl rfl (ev_move rfl) ?_
  refine GO_yes rfl rfl rfl rfl ?_
  refine GO_q rfl rfl (ev_neq rfl rfl) ?_
  refine GO_q rfl rfl (ev_pick_f rfl rfl rfl) ?_
  refine GO_nil ?_
  (repeat first | refine G_seq ?_ | refine G_skip ?_ | refine G_endblk ?_ | refine G_block ?_ | refine G_exit rfl ?_)
  refine G_cond_f rfl rfl ?_
  (repeat first | refine G_seq ?_ | refine G_skip ?_ | refine G_endblk ?_ | refine G_block ?_ | refine G_exit rfl ?_)
  refine G_region ?_
  refine GO_q rfl rfl (ev_build rfl rfl) ?_
  refine GO_eff rfl rfl (eff_box rfl) ?_; rintro _ _ ⟨b22, rfl, rfl⟩
  refine GO_q rfl rfl (ev_assign rfl) ?_
  refine GO_nil ?_
  (repeat first | refine G_seq ?_ | refine G_skip ?_ | refine G_endblk ?_ | refine G_block ?_ | refine G_exit rfl ?_)
  refine G_region ?_
  refine GO_q rfl rfl (ev_assign rfl) ?_
  refine GO_nil ?_
  (repeat first | refine G_seq ?_ | refine G_skip ?_ | refine G_endblk ?_ | refine G_block ?_ | refine G_exit rfl ?_)
  refine G_heap (own.nil_ 27 3) ?_
  refine G_loop (ι := Nat) (fun k => [(0, .slice A n c), (4, .pointer (some ⟨b4, 0, none⟩)), (5, .pointer (some ⟨b5, 0, none⟩)), (7, .pointer (some ⟨t, 0, none⟩)), (9, .pointer (some ⟨b22, 0, none⟩)), (10, .int .i64 (k : Nat))]) (fun k => treeK t 70 (playL 70 (acts.take k)) k :: setS b22 70 (playL 70 (acts.take k)) :: blk b5 32 [.int .i64 w.x1, .int .i64 w.x2, .int .i64 w.y1, .int .i64 w.y2] :: blk b4 27 [.int .i64 p.id, .int .i64 p.x, .int .i64 p.y] :: F :: L)
    (fun k => k ≤ n ∧ k ≤ 50 ∧ (playL 70 (acts.take k)).length ≤ k) (fun k => n - k) 0 ⟨Nat.zero_le _, Nat.zero_le _, Nat.le_refl _⟩ ⟨rfl, rfl, rfl, rfl, rfl, rfl, trivial⟩ (by (repeat first | exact en_refl | apply en_set (A := none) (c := 0) (l := []) (fun h => absurd h (Nat.lt_irrefl 0)) | (apply en_blk; focus ((repeat' first | exact Pick.here | apply Pick.skip | apply Pick.app); done); focus rfl) | (apply en_own; focus ((repeat' first | exact Pick.here | apply Pick.skip | apply Pick.app); done); focus rfl) | (apply en_pick; focus ((repeat' first | exact Pick.here | apply Pick.skip | apply Pick.app); done)) | apply en_drop | apply en_app) <;> fail) ?_
  rintro k ⟨f1, f2, f3⟩
  by_cases c0 : k < n ∧ k < 50
  · obtain ⟨lb, lo, rfl, hx⟩ := hl.at_ (by omega)
    have g1 : acts[k]? = some acts[k] := List.getElem?_eq_getElem (by omega)
    have y1 := hx _ _ g1
    have s1 := playL_succ 70 acts k (by omega)
    have m1 := ha acts[k] (List.getElem_mem _)
    have m2 := actL_length 70 (playL 70 (acts.take k)) acts[k]
    rw [← s1] at m2
    generalize acts[k] = u at *
    have z1 : LdN L lb (lo + k * 5) 5 [.int .i64 u.kind, .int .i64 u.at_, .int .i64 u.p.id, .int .i64 u.p.x, .int .i64 u.p.y] := y1
    (repeat first | refine G_seq ?_ | refine G_skip ?_ | refine G_endblk ?_ | refine G_block ?_ | refine G_exit rfl ?_)
    refine G_region ?_
    refine GO_q rfl rfl (ev_move rfl) ?_
    refine GO_q rfl rfl (ev_move rfl) ?_
    refine GO_q rfl rfl (ev_len rfl) ?_
    (first | refine GO_q rfl rfl (ev_lssN rfl rfl) ?_ | refine GO_q rfl rfl (ev_lss rfl rfl) ?_)
    refine GO_q rfl rfl (ev_move rfl) ?_
    refine GO_yes rfl rfl rfl (decide_eq_true (by omega)) ?_
    refine GO_q rfl rfl (ev_move rfl) ?_
    refine GO_yes rfl rfl rfl (decide_eq_true (by omega)) ?_
    (first | refine GO_q rfl rfl (ev_lssN (q := 50) rfl rfl) ?_ | refine GO_q rfl rfl (ev_lss rfl rfl) ?_)
    refine GO_q rfl rfl (ev_pick_t rfl (decide_eq_true (by omega)) rfl) ?_
    refine GO_nil ?_
    (repeat first | refine G_seq ?_ | refine G_skip ?_ | refine G_endblk ?_ | refine G_block ?_ | refine G_exit rfl ?_)
    refine G_cond_t rfl (decide_eq_true (by omega)) ?_
    (repeat first | refine G_seq ?_ | refine G_skip ?_ | refine G_endblk ?_ | refine G_block ?_ | refine G_exit rfl ?_)
    refine G_region ?_
    refine GO_q rfl rfl (ev_move rfl) ?_
    refine GO_q rfl rfl (ev_move rfl) ?_
    refine GO_q rfl rfl (ev_move rfl) ?_
    refine GO_q rfl rfl (ev_move rfl) ?_
    (first | refine GO_q rfl rfl (ev_indexAddrN rfl rfl (by first | omega | (simp; done) | (simp; omega))) ?_ | refine GO_q rfl rfl (ev_indexAddr rfl rfl (by first | omega | (simp; done) | (simp; omega)) (by first | omega | (simp; done) | (simp; omega))) ?_)
    refine GO_q rfl rfl (ev_loadN rfl (by repeat' first | exact LdN.blk rfl | assumption | apply LdN.skip | apply LdN.app)) ?_
    refine GO_eff rfl rfl (eff_call rfl (Ctr.pre (M := treeK t 70 _ k :: setS b22 70 _ :: _) (by (repeat first | exact en_refl | (apply en_blk; focus ((repeat' first | exact Pick.here | apply Pick.skip | apply Pick.app); done); focus rfl) | (apply en_own; focus ((repeat' first | exact Pick.here | apply Pick.skip | apply Pick.app); done); focus rfl) | (apply en_pick; focus ((repeat' first | exact Pick.here | apply Pick.skip | apply Pick.app); done)) | apply en_drop | apply en_app) <;> fail) (does_ctr t b22 70 u _ k _ (by omega) (by omega) m1))) ?_; rintro _ _ ⟨rfl, rfl⟩
    refine GO_nil ?_
    rw [← s1]
    (repeat first | refine G_seq ?_ | refine G_skip ?_ | refine G_endblk ?_ | refine G_block ?_ | refine G_exit rfl ?_)
    refine G_region ?_
    refine GO_q rfl rfl (ev_move rfl) ?_
    (first | refine GO_q rfl rfl (ev_addN (q := 1) rfl rfl (by first | omega | (simp; done) | (simp; omega))) ?_ | refine GO_q rfl rfl (ev_add rfl rfl (by first | omega | (simp; done) | (simp; omega))) ?_)
    refine GO_q rfl rfl (ev_assign rfl) ?_
    refine GO_nil ?_
    (repeat first | refine G_seq ?_ | refine G_skip ?_ | refine G_endblk ?_ | refine G_block ?_ | refine G_exit rfl ?_)
    exact G_round (k + 1) ⟨by omega, by omega, by omega⟩ (by omega) ⟨rfl, rfl, rfl, rfl, rfl, rfl, trivial⟩ (by (repeat first | exact fun _ s => s | apply en_keep | apply en_drop | apply en_app) <;> fail)
  · by_cases c1 : k < n
    case' pos =>
      (repeat first | refine G_seq ?_ | refine G_skip ?_ | refine G_endblk ?_ | refine G_block ?_ | refine G_exit rfl ?_)
      refine G_region ?_
      refine GO_q rfl rfl (ev_move rfl) ?_
      refine GO_q rfl rfl (ev_move rfl) ?_
      refine GO_q rfl rfl (ev_len rfl) ?_
      (first | refine GO_q rfl rfl (ev_lssN rfl rfl) ?_ | refine GO_q rfl rfl (ev_lss rfl rfl) ?_)
      refine GO_q rfl rfl (ev_move rfl) ?_
      refine GO_yes rfl rfl rfl (decide_eq_true (by omega)) ?_
      refine GO_q rfl rfl (ev_move rfl) ?_
      refine GO_yes rfl rfl rfl (decide_eq_true (by omega)) ?_
      (first | refine GO_q rfl rfl (ev_lssN (q := 50) rfl rfl) ?_ | refine GO_q rfl rfl (ev_lss rfl rfl) ?_)
      refine GO_q rfl rfl (ev_pick_t rfl (decide_eq_true (by omega)) rfl) ?_
      refine GO_nil ?_
      (repeat first | refine G_seq ?_ | refine G_skip ?_ | refine G_endblk ?_ | refine G_block ?_ | refine G_exit rfl ?_)
      refine G_cond_f rfl (decide_eq_false (by omega)) ?_
    case' neg =>
      (repeat first | refine G_seq ?_ | refine G_skip ?_ | refine G_endblk ?_ | refine G_block ?_ | refine G_exit rfl ?_)
      refine G_region ?_
      refine GO_q rfl rfl (ev_move rfl) ?_
      refine GO_q rfl rfl (ev_move rfl) ?_
      refine GO_q rfl rfl (ev_len rfl) ?_
      (first | refine GO_q rfl rfl (ev_lssN rfl rfl) ?_ | refine GO_q rfl rfl (ev_lss rfl rfl) ?_)
      refine GO_q rfl rfl (ev_move rfl) ?_
      refine GO_no rfl rfl rfl (decide_eq_false (by omega)) ?_
      refine GO_no rfl rfl rfl (decide_eq_false (by omega)) ?_
      refine GO_q rfl rfl (ev_pick_f rfl (decide_eq_false (by omega)) rfl) ?_
      refine GO_nil ?_
      (repeat first | refine G_seq ?_ | refine G_skip ?_ | refine G_endblk ?_ | refine G_block ?_ | refine G_exit rfl ?_)
      refine G_cond_f rfl rfl ?_
    all_goals
      generalize playL 70 (acts.take k) = l at *
      have hsl : (srt (hits (fun p => w.has p.x p.y) l)).length ≤ l.length := by rw [srt, List.length_mergeSort, hits, List.length_map]; exact List.length_filter_le ..
      by_cases h0 : insC 70 l p = 0
      · have hpl : p ∉ l := fun h => by
          unfold insC at h0
          split at h0
          · exact absurd h0 (by decide)
          · exact absurd h0 (by decide)
        have e6 : insR 70 l p = l ++ [p] := by unfold insR; rw [if_pos h0]
        have e7 : delC (l ++ [p]) p = 0 := if_pos (by simp)
        have e8 : (l ++ [p]).erase p = l := by rw [List.erase_append_right _ hpl]; simp
        have hI := fun M => KInsert_ctr t 70 l p k M (by omega)
        have hD := fun M => KDelete_ctr t 70 (l ++ [p]) p (k + 1) M (by omega)
        rw [e6, h0] at hI
        rw [e7, e8] at hD
        (repeat first | refine G_seq ?_ | refine G_skip ?_ | refine G_endblk ?_ | refine G_block ?_ | refine G_exit rfl ?_)
        refine G_region ?_
        refine GO_q rfl rfl (ev_move rfl) ?_
        refine GO_q rfl rfl (ev_loadN rfl (by repeat' first | exact LdN.blk rfl | assumption | apply LdN.skip | apply LdN.app)) ?_
        refine GO_eff rfl rfl (eff_call rfl (Ctr.pick (by repeat' first | exact Pick.here | apply Pick.skip | apply Pick.app) (hI _))) ?_; rintro _ _ ⟨rfl, rfl⟩
        refine GO_q rfl rfl (ev_eql rfl rfl) ?_
        refine GO_q rfl rfl (ev_move rfl) ?_
        refine GO_yes rfl rfl rfl rfl ?_
        refine GO_q rfl rfl (ev_move rfl) ?_
        refine GO_yes rfl rfl rfl rfl ?_
        refine GO_q rfl rfl (ev_loadN rfl (by repeat' first | exact LdN.blk rfl | assumption | apply LdN.skip | apply LdN.app)) ?_
        refine GO_yes rfl rfl rfl rfl ?_
        refine GO_eff rfl rfl (eff_call rfl (Ctr.pick (by repeat' first | exact Pick.here | apply Pick.skip | apply Pick.app) (hD _))) ?_; rintro _ _ ⟨rfl, rfl⟩
        refine GO_yes rfl rfl rfl rfl ?_
        refine GO_q rfl rfl (ev_neq rfl rfl) ?_
        refine GO_q rfl rfl (ev_pick_t rfl rfl rfl) ?_
        refine GO_nil ?_
        (repeat first | refine G_seq ?_ | refine G_skip ?_ | refine G_endblk ?_ | refine G_block ?_ | refine G_exit rfl ?_)
        refine G_cond_f rfl rfl ?_
        refine G_tk fun T v9 kg => ?_
        refine G_heap (L' := setS b22 70 l :: ktH T :: blk t 60 (kdC T.addr (l.length : Nat) 70 v9) :: blk b5 32 [.int .i64 w.x1, .int .i64 w.x2, .int .i64 w.y1, .int .i64 w.y2] :: blk b4 27 [.int .i64 p.id, .int .i64 p.x, .int .i64 p.y] :: F :: L) (by (repeat first | exact en_refl | (apply en_blk; focus ((repeat' first | exact Pick.here | apply Pick.skip | apply Pick.app); done); focus rfl) | (apply en_own; focus ((repeat' first | exact Pick.here | apply Pick.skip | apply Pick.app); done); focus rfl) | (apply en_pick; focus ((repeat' first | exact Pick.here | apply Pick.skip | apply Pick.app); done)) | apply en_drop | apply en_app) <;> fail) ?_
        refine G_open (ι := Option Addr × Nat) (F := fun x => 0 < l.length → ∃ b, x.1 = some ⟨b, 0, none⟩) (N := fun x => [blk b22 42 [.slice x.1 l.length x.2, .int .i64 70], own 27 3 x.1 l.length x.2 (flat l)]) (fun _ h => h) fun x hx => ?_
        obtain ⟨B, d⟩ := x
        dsimp only at hx
        (repeat first | refine G_seq ?_ | refine G_skip ?_ | refine G_endblk ?_ | refine G_block ?_ | refine G_exit rfl ?_)
        refine G_draw (.q 0 (.q 1 (.q 3 (.q 4 (.e 2 (.e 5 (.e 6 (.q 7 (.q 8 (.q 10 (.q 11 (.q 12 (.q 13 (.q 14 (.e 9 (.q 15 (.q 16 (.q 17 (.q 18 (.q 19 (.q 21 (.q 22 (.e 20 (.e 23 (.q 24 (.q 25 (.q 26 (.e 27 (.q 28 (.q 29 .nil)))))))))))))))))))))))))))))) (by kernel_rfl) (by kernel_rfl) ?_
        refine RS_m retB_noPanic rfl rfl rfl rfl (ev_move rfl) ?_
        refine RS_q retB_noPanic rfl rfl rfl rfl (ev_loadN rfl (by repeat' first | exact LdN.blk rfl | assumption | apply LdN.skip | apply LdN.app)) ?_
        refine RS_m retB_noPanic rfl rfl rfl rfl (ev_move rfl) ?_
        refine RS_q retB_noPanic rfl rfl rfl rfl (ev_loadN rfl (by repeat' first | exact LdN.blk rfl | assumption | apply LdN.skip | apply LdN.app)) ?_
        refine RS_e (RE_eff rfl rfl rfl (eff_call rfl (OReport_ctr kg (by omega) (by repeat' first | exact LdN.blk rfl | apply LdN.skip) (by repeat' first | exact ktH_in _ _ | apply KIn.skip) w)) ?_); rintro _ _ ⟨A30, c30, rfl, hA30, rfl⟩; refine ⟨_, fun _ s => s, (by first | ((repeat first | exact fun _ s => s | apply en_keep | apply en_drop | apply en_app) <;> fail) | ((repeat first | exact en_refl | (apply en_blk; focus ((repeat' first | exact Pick.here | apply Pick.skip | apply Pick.app); done); focus rfl) | (apply en_own; focus ((repeat' first | exact Pick.here | apply Pick.skip | apply Pick.app); done); focus rfl) | (apply en_pick; focus ((repeat' first | exact Pick.here | apply Pick.skip | apply Pick.app); done)) | apply en_drop | apply en_app) <;> fail)), ?_⟩
        refine RS_e (RE_eff rfl rfl rfl (eff_call rfl ((RReport_ctr0 b22 B d 70 w l _ (by repeat' first | exact LdN.blk rfl | assumption | apply LdN.skip | apply LdN.app) (by repeat' first | exact Rc.own (flat_length _) hx | apply Rd.skip) (by omega)).y)) ?_); rintro _ _ ⟨Y, A39, c39, rfl, i1, i2, i3, rfl⟩; refine ⟨_, fun _ s => s, (by first | ((repeat first | exact fun _ s => s | apply en_keep | apply en_drop | apply en_app) <;> fail) | ((repeat first | exact en_refl | (apply en_blk; focus ((repeat' first | exact Pick.here | apply Pick.skip | apply Pick.app); done); focus rfl) | (apply en_own; focus ((repeat' first | exact Pick.here | apply Pick.skip | apply Pick.app); done); focus rfl) | (apply en_pick; focus ((repeat' first | exact Pick.here | apply Pick.skip | apply Pick.app); done)) | apply en_drop | apply en_app) <;> fail)), ?_⟩
        refine RS_e (RE_eff rfl rfl rfl (eff_call rfl (Same_ctr A30 A39 _ _ c30 c39 _ _ _ (by repeat' first | exact Rc.own (flat_length _) hA30 | apply Rd.skip) (by repeat' first | exact i3 _ | apply Rd.skip) (by omega))) ?_); rintro _ _ ⟨rfl, rfl⟩; refine ⟨_, fun _ s => s, (by first | ((repeat first | exact fun _ s => s | apply en_keep | apply en_drop | apply en_app) <;> fail) | ((repeat first | exact en_refl | (apply en_blk; focus ((repeat' first | exact Pick.here | apply Pick.skip | apply Pick.app); done); focus rfl) | (apply en_own; focus ((repeat' first | exact Pick.here | apply Pick.skip | apply Pick.app); done); focus rfl) | (apply en_pick; focus ((repeat' first | exact Pick.here | apply Pick.skip | apply Pick.app); done)) | apply en_drop | apply en_app) <;> fail)), ?_⟩
        refine RS_m retB_noPanic rfl rfl rfl rfl (ev_move rfl) ?_
        refine RS_m_yes retB_noPanic rfl rfl rfl rfl ⟨_, rfl, (by simp)⟩ rfl (ev_move rfl) ?_
        refine RS_m_yes retB_noPanic rfl rfl rfl rfl ⟨_, rfl, (by simp)⟩ rfl (ev_move rfl) ?_
        (first | refine RS_m_yes retB_noPanic rfl rfl rfl rfl ⟨_, rfl, (by simp)⟩ rfl (ev_nilCheck rfl) ?_ | refine RS_m_yes retB_noPanic rfl rfl rfl rfl ⟨_, rfl, (by simp)⟩ rfl (ev_nilCheckF (by simp) rfl) ?_)
        refine RS_m_yes retB_noPanic rfl rfl rfl rfl ⟨_, rfl, (by simp)⟩ rfl (ev_fieldAddr rfl) ?_
        refine RS_q_yes retB_noPanic rfl rfl rfl rfl ⟨_, rfl, (by simp)⟩ rfl (ev_load rfl (by repeat' first | exact Ld.blk rfl | assumption | apply Ld.skip | apply Ld.app)) ?_
        refine RS_q_yes retB_noPanic rfl rfl rfl rfl ⟨_, rfl, (by simp)⟩ rfl (ev_len rfl) ?_
        refine RS_e (RE_eff_yes rfl rfl rfl ⟨_, rfl, (by simp)⟩ rfl (eff_call rfl (OLen_ctr kg (by omega) (by repeat' first | exact LdN.blk rfl | apply LdN.skip) (by repeat' first | exact ktH_in _ _ | apply KIn.skip))) ?_); rintro _ _ ⟨rfl, rfl⟩; refine ⟨_, fun _ s => s, (by first | ((repeat first | exact fun _ s => s | apply en_keep | apply en_drop | apply en_app) <;> fail) | ((repeat first | exact en_refl | (apply en_blk; focus ((repeat' first | exact Pick.here | apply Pick.skip | apply Pick.app); done); focus rfl) | (apply en_own; focus ((repeat' first | exact Pick.here | apply Pick.skip | apply Pick.app); done); focus rfl) | (apply en_pick; focus ((repeat' first | exact Pick.here | apply Pick.skip | apply Pick.app); done)) | apply en_drop | apply en_app) <;> fail)), ?_⟩
        refine RS_m_yes retB_noPanic rfl rfl rfl rfl ⟨_, rfl, (by simp)⟩ rfl (ev_eql rfl rfl) ?_
        refine RS_m retB_noPanic rfl rfl rfl rfl (ev_pick_t rfl (by simp) rfl) ?_
        refine RS_m retB_noPanic rfl rfl rfl rfl (ev_move rfl) ?_
        refine RS_m_yes retB_noPanic rfl rfl rfl rfl ⟨_, rfl, (by simp)⟩ rfl (ev_fieldAddr rfl) ?_
        refine RS_q_yes retB_noPanic rfl rfl rfl rfl ⟨_, rfl, (by simp)⟩ rfl (ev_load rfl (by repeat' first | exact Ld.blk rfl | assumption | apply Ld.skip | apply Ld.app)) ?_
        refine RS_m_yes retB_noPanic rfl rfl rfl rfl ⟨_, rfl, (by simp)⟩ rfl (ev_fieldAddr rfl) ?_
        refine RS_q_yes retB_noPanic rfl rfl rfl rfl ⟨_, rfl, (by simp)⟩ rfl (ev_load rfl (by repeat' first | exact Ld.blk rfl | assumption | apply Ld.skip | apply Ld.app)) ?_
        refine RS_e (RE_eff_yes rfl rfl rfl ⟨_, rfl, (by simp)⟩ rfl (eff_call rfl (kBound_ctr p.id _ hp)) ?_); rintro _ _ ⟨rfl, rfl⟩; refine ⟨_, fun _ s => s, (by first | ((repeat first | exact fun _ s => s | apply en_keep | apply en_drop | apply en_app) <;> fail) | ((repeat first | exact en_refl | (apply en_blk; focus ((repeat' first | exact Pick.here | apply Pick.skip | apply Pick.app); done); focus rfl) | (apply en_own; focus ((repeat' first | exact Pick.here | apply Pick.skip | apply Pick.app); done); focus rfl) | (apply en_pick; focus ((repeat' first | exact Pick.here | apply Pick.skip | apply Pick.app); done)) | apply en_drop | apply en_app) <;> fail)), ?_⟩
        refine RS_e (RE_eff_yes rfl rfl rfl ⟨_, rfl, (by simp)⟩ rfl (eff_call rfl (RBound_ctr p.id _ hp)) ?_); rintro _ _ ⟨rfl, rfl⟩; refine ⟨_, fun _ s => s, (by first | ((repeat first | exact fun _ s => s | apply en_keep | apply en_drop | apply en_app) <;> fail) | ((repeat first | exact en_refl | (apply en_blk; focus ((repeat' first | exact Pick.here | apply Pick.skip | apply Pick.app); done); focus rfl) | (apply en_own; focus ((repeat' first | exact Pick.here | apply Pick.skip | apply Pick.app); done); focus rfl) | (apply en_pick; focus ((repeat' first | exact Pick.here | apply Pick.skip | apply Pick.app); done)) | apply en_drop | apply en_app) <;> fail)), ?_⟩
        refine RS_m_yes retB_noPanic rfl rfl rfl rfl ⟨_, rfl, (by simp)⟩ rfl (ev_eql rfl rfl) ?_
        refine RS_m retB_noPanic rfl rfl rfl rfl (ev_pick_t rfl (by simp) rfl) ?_
        refine RS_m retB_noPanic rfl rfl rfl rfl (ev_move rfl) ?_
        refine RS_e (RE_eff_yes rfl rfl rfl ⟨_, rfl, (by simp)⟩ rfl (eff_call rfl (lives12_ctr _)) ?_); rintro _ _ ⟨rfl, X52, rfl⟩; refine ⟨_, fun _ s => s, (by first | ((repeat first | exact fun _ s => s | apply en_keep | apply en_drop | apply en_app) <;> fail) | ((repeat first | exact en_refl | (apply en_blk; focus ((repeat' first | exact Pick.here | apply Pick.skip | apply Pick.app); done); focus rfl) | (apply en_own; focus ((repeat' first | exact Pick.here | apply Pick.skip | apply Pick.app); done); focus rfl) | (apply en_pick; focus ((repeat' first | exact Pick.here | apply Pick.skip | apply Pick.app); done)) | apply en_drop | apply en_app) <;> fail)), ?_⟩
        refine RS_m retB_noPanic rfl rfl rfl rfl (ev_pick_t rfl (by simp) rfl) ?_
        refine RS_m retB_noPanic rfl rfl rfl rfl (ev_assign rfl) ?_
        refine RS_nil ?_
        all_goals
          (repeat first | refine G_seq ?_ | refine G_skip ?_ | refine G_endblk ?_ | refine G_block ?_ | refine G_exit rfl ?_)
          exact G_ret (L' := L) rfl (.tmp rfl .nil) (by (repeat first | exact fun _ s => s | apply en_keep | apply en_drop | apply en_app) <;> fail) ⟨by simp [retv], rfl⟩
      · have e6 : insR 70 l p = l := by unfold insR; rw [if_neg h0]
        have hI := fun M => KInsert_ctr t 70 l p k M (by omega)
        rw [e6] at hI
        generalize insC 70 l p = z at *
        (repeat first | refine G_seq ?_ | refine G_skip ?_ | refine G_endblk ?_ | refine G_block ?_ | refine G_exit rfl ?_)
        refine G_region ?_
        refine GO_q rfl rfl (ev_move rfl) ?_
        refine GO_q rfl rfl (ev_loadN rfl (by repeat' first | exact LdN.blk rfl | assumption | apply LdN.skip | apply LdN.app)) ?_
        refine GO_eff rfl rfl (eff_call rfl (Ctr.pick (by repeat' first | exact Pick.here | apply Pick.skip | apply Pick.app) (hI _))) ?_; rintro _ _ ⟨rfl, rfl⟩
        refine GO_q rfl rfl (ev_eql rfl rfl) ?_
        refine GO_q rfl rfl (ev_move rfl) ?_
        refine GO_no rfl rfl rfl (decide_eq_false h0) ?_
        refine GO_no rfl rfl rfl (decide_eq_false h0) ?_
        refine GO_no rfl rfl rfl (decide_eq_false h0) ?_
        refine GO_no rfl rfl rfl (decide_eq_false h0) ?_
        refine GO_q rfl rfl (ev_pick_f rfl (decide_eq_false h0) rfl) ?_
        refine GO_nil ?_
        (repeat first | refine G_seq ?_ | refine G_skip ?_ | refine G_endblk ?_ | refine G_block ?_ | refine G_exit rfl ?_)
        refine G_cond_f rfl rfl ?_
        refine G_tk fun T v9 kg => ?_
        refine G_heap (L' := setS b22 70 l :: ktH T :: blk t 60 (kdC T.addr (l.length : Nat) 70 v9) :: blk b5 32 [.int .i64 w.x1, .int .i64 w.x2, .int .i64 w.y1, .int .i64 w.y2] :: blk b4 27 [.int .i64 p.id, .int .i64 p.x, .int .i64 p.y] :: F :: L) (by (repeat first | exact en_refl | (apply en_blk; focus ((repeat' first | exact Pick.here | apply Pick.skip | apply Pick.app); done); focus rfl) | (apply en_own; focus ((repeat' first | exact Pick.here | apply Pick.skip | apply Pick.app); done); focus rfl) | (apply en_pick; focus ((repeat' first | exact Pick.here | apply Pick.skip | apply Pick.app); done)) | apply en_drop | apply en_app) <;> fail) ?_
        refine G_open (ι := Option Addr × Nat) (F := fun x => 0 < l.length → ∃ b, x.1 = some ⟨b, 0, none⟩) (N := fun x => [blk b22 42 [.slice x.1 l.length x.2, .int .i64 70], own 27 3 x.1 l.length x.2 (flat l)]) (fun _ h => h) fun x hx => ?_
        obtain ⟨B, d⟩ := x
        dsimp only at hx
        (repeat first | refine G_seq ?_ | refine G_skip ?_ | refine G_endblk ?_ | refine G_block ?_ | refine G_exit rfl ?_)
        refine G_draw (.q 0 (.q 1 (.q 3 (.q 4 (.e 2 (.e 5 (.e 6 (.q 7 (.q 8 (.q 10 (.q 11 (.q 12 (.q 13 (.q 14 (.e 9 (.q 15 (.q 16 (.q 17 (.q 18 (.q 19 (.q 21 (.q 22 (.e 20 (.e 23 (.q 24 (.q 25 (.q 26 (.e 27 (.q 28 (.q 29 .nil)))))))))))))))))))))))))))))) (by kernel_rfl) (by kernel_rfl) ?_
        refine RS_m retB_noPanic rfl rfl rfl rfl (ev_move rfl) ?_
        refine RS_q retB_noPanic rfl rfl rfl rfl (ev_loadN rfl (by repeat' first | exact LdN.blk rfl | assumption | apply LdN.skip | apply LdN.app)) ?_
        refine RS_m retB_noPanic rfl rfl rfl rfl (ev_move rfl) ?_
        refine RS_q retB_noPanic rfl rfl rfl rfl (ev_loadN rfl (by repeat' first | exact LdN.blk rfl | assumption | apply LdN.skip | apply LdN.app)) ?_
        refine RS_e (RE_eff rfl rfl rfl (eff_call rfl (OReport_ctr kg (by omega) (by repeat' first | exact LdN.blk rfl | apply LdN.skip) (by repeat' first | exact ktH_in _ _ | apply KIn.skip) w)) ?_); rintro _ _ ⟨A30, c30, rfl, hA30, rfl⟩; refine ⟨_, fun _ s => s, (by first | ((repeat first | exact fun _ s => s | apply en_keep | apply en_drop | apply en_app) <;> fail) | ((repeat first | exact en_refl | (apply en_blk; focus ((repeat' first | exact Pick.here | apply Pick.skip | apply Pick.app); done); focus rfl) | (apply en_own; focus ((repeat' first | exact Pick.here | apply Pick.skip | apply Pick.app); done); focus rfl) | (apply en_pick; focus ((repeat' first | exact Pick.here | apply Pick.skip | apply Pick.app); done)) | apply en_drop | apply en_app) <;> fail)), ?_⟩
        refine RS_e (RE_eff rfl rfl rfl (eff_call rfl ((RReport_ctr0 b22 B d 70 w l _ (by repeat' first | exact LdN.blk rfl | assumption | apply LdN.skip | apply LdN.app) (by repeat' first | exact Rc.own (flat_length _) hx | apply Rd.skip) (by omega)).y)) ?_); rintro _ _ ⟨Y, A39, c39, rfl, i1, i2, i3, rfl⟩; refine ⟨_, fun _ s => s, (by first | ((repeat first | exact fun _ s => s | apply en_keep | apply en_drop | apply en_app) <;> fail) | ((repeat first | exact en_refl | (apply en_blk; focus ((repeat' first | exact Pick.here | apply Pick.skip | apply Pick.app); done); focus rfl) | (apply en_own; focus ((repeat' first | exact Pick.here | apply Pick.skip | apply Pick.app); done); focus rfl) | (apply en_pick; focus ((repeat' first | exact Pick.here | apply Pick.skip | apply Pick.app); done)) | apply en_drop | apply en_app) <;> fail)), ?_⟩
        refine RS_e (RE_eff rfl rfl rfl (eff_call rfl (Same_ctr A30 A39 _ _ c30 c39 _ _ _ (by repeat' first | exact Rc.own (flat_length _) hA30 | apply Rd.skip) (by repeat' first | exact i3 _ | apply Rd.skip) (by omega))) ?_); rintro _ _ ⟨rfl, rfl⟩; refine ⟨_, fun _ s => s, (by first | ((repeat first | exact fun _ s => s | apply en_keep | apply en_drop | apply en_app) <;> fail) | ((repeat first | exact en_refl | (apply en_blk; focus ((repeat' first | exact Pick.here | apply Pick.skip | apply Pick.app); done); focus rfl) | (apply en_own; focus ((repeat' first | exact Pick.here | apply Pick.skip | apply Pick.app); done); focus rfl) | (apply en_pick; focus ((repeat' first | exact Pick.here | apply Pick.skip | apply Pick.app); done)) | apply en_drop | apply en_app) <;> fail)), ?_⟩
        refine RS_m retB_noPanic rfl rfl rfl rfl (ev_move rfl) ?_
        refine RS_m_yes retB_noPanic rfl rfl rfl rfl ⟨_, rfl, (by simp)⟩ rfl (ev_move rfl) ?_
        refine RS_m_yes retB_noPanic rfl rfl rfl rfl ⟨_, rfl, (by simp)⟩ rfl (ev_move rfl) ?_
        (first | refine RS_m_yes retB_noPanic rfl rfl rfl rfl ⟨_, rfl, (by simp)⟩ rfl (ev_nilCheck rfl) ?_ | refine RS_m_yes retB_noPanic rfl rfl rfl rfl ⟨_, rfl, (by simp)⟩ rfl (ev_nilCheckF (by simp) rfl) ?_)
        refine RS_m_yes retB_noPanic rfl rfl rfl rfl ⟨_, rfl, (by simp)⟩ rfl (ev_fieldAddr rfl) ?_
        refine RS_q_yes retB_noPanic rfl rfl rfl rfl ⟨_, rfl, (by simp)⟩ rfl (ev_load rfl (by repeat' first | exact Ld.blk rfl | assumption | apply Ld.skip | apply Ld.app)) ?_
        refine RS_q_yes retB_noPanic rfl rfl rfl rfl ⟨_, rfl, (by simp)⟩ rfl (ev_len rfl) ?_
        refine RS_e (RE_eff_yes rfl rfl rfl ⟨_, rfl, (by simp)⟩ rfl (eff_call rfl (OLen_ctr kg (by omega) (by repeat' first | exact LdN.blk rfl | apply LdN.skip) (by repeat' first | exact ktH_in _ _ | apply KIn.skip))) ?_); rintro _ _ ⟨rfl, rfl⟩; refine ⟨_, fun _ s => s, (by first | ((repeat first | exact fun _ s => s | apply en_keep | apply en_drop | apply en_app) <;> fail) | ((repeat first | exact en_refl | (apply en_blk; focus ((repeat' first | exact Pick.here | apply Pick.skip | apply Pick.app); done); focus rfl) | (apply en_own; focus ((repeat' first | exact Pick.here | apply Pick.skip | apply Pick.app); done); focus rfl) | (apply en_pick; focus ((repeat' first | exact Pick.here | apply Pick.skip | apply Pick.app); done)) | apply en_drop | apply en_app) <;> fail)), ?_⟩
        refine RS_m_yes retB_noPanic rfl rfl rfl rfl ⟨_, rfl, (by simp)⟩ rfl (ev_eql rfl rfl) ?_
        refine RS_m retB_noPanic rfl rfl rfl rfl (ev_pick_t rfl (by simp) rfl) ?_
        refine RS_m retB_noPanic rfl rfl rfl rfl (ev_move rfl) ?_
        refine RS_m_yes retB_noPanic rfl rfl rfl rfl ⟨_, rfl, (by simp)⟩ rfl (ev_fieldAddr rfl) ?_
        refine RS_q_yes retB_noPanic rfl rfl rfl rfl ⟨_, rfl, (by simp)⟩ rfl (ev_load rfl (by repeat' first | exact Ld.blk rfl | assumption | apply Ld.skip | apply Ld.app)) ?_
        refine RS_m_yes retB_noPanic rfl rfl rfl rfl ⟨_, rfl, (by simp)⟩ rfl (ev_fieldAddr rfl) ?_
        refine RS_q_yes retB_noPanic rfl rfl rfl rfl ⟨_, rfl, (by simp)⟩ rfl (ev_load rfl (by repeat' first | exact Ld.blk rfl | assumption | apply Ld.skip | apply Ld.app)) ?_
        refine RS_e (RE_eff_yes rfl rfl rfl ⟨_, rfl, (by simp)⟩ rfl (eff_call rfl (kBound_ctr p.id _ hp)) ?_); rintro _ _ ⟨rfl, rfl⟩; refine ⟨_, fun _ s => s, (by first | ((repeat first | exact fun _ s => s | apply en_keep | apply en_drop | apply en_app) <;> fail) | ((repeat first | exact en_refl | (apply en_blk; focus ((repeat' first | exact Pick.here | apply Pick.skip | apply Pick.app); done); focus rfl) | (apply en_own; focus ((repeat' first | exact Pick.here | apply Pick.skip | apply Pick.app); done); focus rfl) | (apply en_pick; focus ((repeat' first | exact Pick.here | apply Pick.skip | apply Pick.app); done)) | apply en_drop | apply en_app) <;> fail)), ?_⟩
        refine RS_e (RE_eff_yes rfl rfl rfl ⟨_, rfl, (by simp)⟩ rfl (eff_call rfl (RBound_ctr p.id _ hp)) ?_); rintro _ _ ⟨rfl, rfl⟩; refine ⟨_, fun _ s => s, (by first | ((repeat first | exact fun _ s => s | apply en_keep | apply en_drop | apply en_app) <;> fail) | ((repeat first | exact en_refl | (apply en_blk; focus ((repeat' first | exact Pick.here | apply Pick.skip | apply Pick.app); done); focus rfl) | (apply en_own; focus ((repeat' first | exact Pick.here | apply Pick.skip | apply Pick.app); done); focus rfl) | (apply en_pick; focus ((repeat' first | exact Pick.here | apply Pick.skip | apply Pick.app); done)) | apply en_drop | apply en_app) <;> fail)), ?_⟩
        refine RS_m_yes retB_noPanic rfl rfl rfl rfl ⟨_, rfl, (by simp)⟩ rfl (ev_eql rfl rfl) ?_
        refine RS_m retB_noPanic rfl rfl rfl rfl (ev_pick_t rfl (by simp) rfl) ?_
        refine RS_m retB_noPanic rfl rfl rfl rfl (ev_move rfl) ?_
        refine RS_e (RE_eff_yes rfl rfl rfl ⟨_, rfl, (by simp)⟩ rfl (eff_call rfl (lives12_ctr _)) ?_); rintro _ _ ⟨rfl, X52, rfl⟩; refine ⟨_, fun _ s => s, (by first | ((repeat first | exact fun _ s => s | apply en_keep | apply en_drop | apply en_app) <;> fail) | ((repeat first | exact en_refl | (apply en_blk; focus ((repeat' first | exact Pick.here | apply Pick.skip | apply Pick.app); done); focus rfl) | (apply en_own; focus ((repeat' first | exact Pick.here | apply Pick.skip | apply Pick.app); done); focus rfl) | (apply en_pick; focus ((repeat' first | exact Pick.here | apply Pick.skip | apply Pick.app); done)) | apply en_drop | apply en_app) <;> fail)), ?_⟩
        refine RS_m retB_noPanic rfl rfl rfl rfl (ev_pick_t rfl (by simp) rfl) ?_
        refine RS_m retB_noPanic rfl rfl rfl rfl (ev_assign rfl) ?_
        refine RS_nil ?_
        all_goals
          (repeat first | refine G_seq ?_ | refine G_skip ?_ | refine G_endblk ?_ | refine G_block ?_ | refine G_exit rfl ?_)
          exact G_ret (L' := L) rfl (.tmp rfl .nil) (by (repeat first | exact fun _ s => s | apply en_keep | apply en_drop | apply en_app) <;> fail) ⟨by simp [retv], rfl⟩
theorem kdBack_walk (A : Option Addr) (n c : Nat) (ns : List Int) (p0 p1 p2 w0 w1 w2 w3 : Int) (w : World) (hc : n ≤ c) (hc2 : c ≤ maxLen) (hb : Ints ns) (h1 : Reads w 5 A n (ints ns)) (hp : p0 ≤ 9223372036854775807) :
    Calls Try.prog 4 #[.slice A n c, .agg #[.int .i64 p0, .int .i64 p1, .int .i64 p2], .agg #[.int .i64 w0, .int .i64 w1, .int .i64 w2, .int .i64 w3]] w fun e w' => e = .returned (.bool true) ∧ Below w.heap.size w w' := by
  obtain ⟨l, hl, hk⟩ := rd_acts h1 hb
  exact law_of_ctr (KdBack_ctr A n c l ⟨p0, p1, p2⟩ ⟨w0, w1, w2, w3⟩ _ hl (by unfold maxLen at hc2; omega) hk hp)
end Go.Proofs.Ytjgdhkilnalejaa
