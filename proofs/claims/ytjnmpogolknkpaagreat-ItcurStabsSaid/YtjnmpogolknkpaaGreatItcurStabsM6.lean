/- Texts of the law ItcurStabs, one behind the other. -/
import Derived.Test.YtjnmpogolknkpaaGreatItcurStabsM5
import Derived.Test.YtjnmpogolknkpaaGreatItcurStabsM1
/- A cursor over a tree of middles: the walks. -/
namespace Go.Proofs.YtjnmpogolknkpaaGreat
attribute [local irreducible] sat
set_option linter.unusedVariables false
set_option linter.unusedSimpArgs false
set_option maxRecDepth 100000

theorem Look_ctr' (T : IT) (u v : Int) (L : List HP) (h : IIn L T) (ho : T.ok) (hn : T.spans.length ≤ 100000) : Ctr Tryz.prog 33 #[.pointer T.addr, .int .i64 u, .int .i64 v] L fun r L' => ∃ A1 c1 A2 c2, r = .tuple #[.slice A1 (T.ids' u v).length c1, .slice A2 (T.nxt' u v).length c2] ∧
      ((0 < (T.ids' u v).length → ∃ b, A1 = some ⟨b, 0, none⟩) ∧ (0 < (T.nxt' u v).length → ∃ b, A2 = some ⟨b, 0, none⟩)) ∧
      L' = own 3 1 A1 (T.ids' u v).length c1 (flat (T.ids' u v)) :: own 52 1 A2 (T.nxt' u v).length c2 (flat (T.nxt' u v)) :: L := by
  have := Look_ctr T u v L h ho hn
  unfold LkP at this
  rw [flat_addrsI] at this
  exact this
theorem icvisit_ctr (b s k : Nat) (u v : Int) (ids : List Int) (x : IT) (L : List HP) (hx : IIn L x) (ho : x.ok) (hn : x.spans.length ≤ 1000) (hi : ids.length ≤ 1000000) :
    Ctr Tryz.prog 59 #[.pointer (some ⟨b, 0, none⟩), .pointer x.addr] (icS b s u v ids k :: L) fun r L' => Made 52 (x.nxt' u v) (icS b s u v (ids ++ x.ids' u v) k :: L) r L' := by
  have hlk := fun M h => Look_ctr' x u v M h ho (by omega)
  have hil : (x.ids' u v).length ≤ x.spans.length := ho.ids_len
  refine Ctr.ic fun A c hA hc hc2 => ?_
  generalize x.nxt' u v = xs at *
  generalize x.ids' u v = zs at *
  have hl : (ids ++ zs).length = ids.length + zs.length := List.length_append
  refine Ctr_of (fn := Tryz.f59) (n := 30) Tryz.func59 rfl rfl rfl ?_
  intro g F
  (repeat first | refine G_seq ?_ | refine G_skip ?_ | refine G_endblk ?_ | refine G_block ?_ | refine G_exit rfl ?_)
  refine G_region ?_
  refine GO_q rfl rfl (ev_assign rfl) ?_
  refine GO_nil ?_
  (repeat first | refine G_seq ?_ | refine G_skip ?_ | refine G_endblk ?_ | refine G_block ?_ | refine G_exit rfl ?_)
  refine G_draw (.q 0 (.q 1 (.q 2 (.q 3 (.q 4 (.q 5 (.q 6 (.q 7 (.q 8 (.e 9 (.q 10 (.q 11 (.q 12 (.q 13 (.q 14 .nil))))))))))))))) (by kernel_rfl) (by kernel_rfl) ?_
  refine RS_m retB_noPanic rfl rfl rfl rfl (ev_move rfl) ?_
  refine RS_m retB_noPanic rfl rfl rfl rfl (ev_move rfl) ?_
  (first | refine RS_m retB_noPanic rfl rfl rfl rfl (ev_nilCheck rfl) ?_ | refine RS_m retB_noPanic rfl rfl rfl rfl (ev_nilCheckF (by simp) rfl) ?_)
  refine RS_m retB_noPanic rfl rfl rfl rfl (ev_fieldAddr rfl) ?_
  refine RS_q retB_noPanic rfl rfl rfl rfl (ev_load rfl (by repeat' first | exact Ld.blk rfl | assumption | apply Ld.skip | apply Ld.app)) ?_
  refine RS_m retB_noPanic rfl rfl rfl rfl (ev_move rfl) ?_
  (first | refine RS_m retB_noPanic rfl rfl rfl rfl (ev_nilCheck rfl) ?_ | refine RS_m retB_noPanic rfl rfl rfl rfl (ev_nilCheckF (by simp) rfl) ?_)
  refine RS_m retB_noPanic rfl rfl rfl rfl (ev_fieldAddr rfl) ?_
  refine RS_q retB_noPanic rfl rfl rfl rfl (ev_load rfl (by repeat' first | exact Ld.blk rfl | assumption | apply Ld.skip | apply Ld.app)) ?_
  refine RS_e (RE_eff rfl rfl rfl (eff_call rfl (hlk _ (by repeat' first | exact hx | apply IIn.skip))) ?_); rintro _ _ ⟨A1, c1, A2, c2, rfl, ⟨hA1, hA2⟩, rfl⟩; refine ⟨_, fun _ s => s, (by first | ((repeat first | exact fun _ s => s | apply en_keep | apply en_drop | apply en_app) <;> fail) | ((repeat first | exact en_refl | (apply en_blk; focus ((repeat' first | exact Pick.here | apply Pick.skip | apply Pick.app); done); focus rfl) | (apply en_own; focus ((repeat' first | exact Pick.here | apply Pick.skip | apply Pick.app); done); focus rfl) | (apply en_pick; focus ((repeat' first | exact Pick.here | apply Pick.skip | apply Pick.app); done)) | apply en_drop | apply en_app) <;> fail)), ?_⟩
  refine RS_m retB_noPanic rfl rfl rfl rfl (ev_move rfl) ?_
  refine RS_m retB_noPanic rfl rfl rfl rfl (ev_extract rfl rfl) ?_
  refine RS_m retB_noPanic rfl rfl rfl rfl (ev_extract rfl rfl) ?_
  refine RS_m retB_noPanic rfl rfl rfl rfl (ev_assign rfl) ?_
  refine RS_m retB_noPanic rfl rfl rfl rfl (ev_assign rfl) ?_
  refine RS_nil ?_
  (repeat first | refine G_seq ?_ | refine G_skip ?_ | refine G_endblk ?_ | refine G_block ?_ | refine G_exit rfl ?_)
  refine G_region ?_
  refine GO_q rfl rfl (ev_move rfl) ?_
  refine GO_q rfl rfl (ev_move rfl) ?_
  (first | refine GO_q rfl rfl (ev_nilCheck rfl) ?_ | refine GO_q rfl rfl (ev_nilCheckF (by simp) rfl) ?_)
  refine GO_q rfl rfl (ev_fieldAddr rfl) ?_
  refine GO_q rfl rfl (ev_load rfl (by repeat' first | exact Ld.blk rfl | assumption | apply Ld.skip | apply Ld.app)) ?_
  refine GO_q rfl rfl (ev_move rfl) ?_
  refine GO_eff rfl rfl (eff_append rfl rfl (by repeat' first | exact Pick.here | apply Pick.skip) ((by repeat' first | exact Rc.own (flat_length _) hA1 | apply Rc.skip)) ((flat_one _)) (by rfl) (by decide) (by first | omega | (simp; done) | (simp; omega)) (by first | omega | (simp; done) | (simp; omega))) ?_; rintro _ _ ⟨A26, c26, rfl, hc26, hm26, hn26, rfl⟩
  (first | refine GO_q rfl rfl (ev_nilCheck rfl) ?_ | refine GO_q rfl rfl (ev_nilCheckF (by simp) rfl) ?_)
  refine GO_q rfl rfl (ev_fieldAddr rfl) ?_
  refine GO_eff rfl rfl (eff_store rfl rfl rfl (by repeat' first | exact Upd.here rfl | apply Upd.skip | apply Upd.app)) ?_; rintro _ _ ⟨rfl, rfl⟩
  refine GO_nil ?_
  (repeat first | refine G_seq ?_ | refine G_skip ?_ | refine G_endblk ?_ | refine G_block ?_ | refine G_exit rfl ?_)
  refine G_region ?_
  refine GO_q rfl rfl (ev_move rfl) ?_
  refine GO_q rfl rfl (ev_assign rfl) ?_
  refine GO_nil ?_
  (repeat first | refine G_seq ?_ | refine G_skip ?_ | refine G_endblk ?_ | refine G_block ?_ | refine G_exit rfl ?_)
  refine G_ret (L' := own 52 1 A2 xs.length c2 (flat xs) :: icS b s u v (ids ++ zs) k :: L) rfl (.tmp rfl .nil) ?_ ⟨A2, c2, rfl, hA2, rfl⟩
  apply en_pick
  focus ((repeat' first | exact Pick.here | apply Pick.skip | apply Pick.app); done)
  apply en_pick
  focus ((repeat' first | exact Pick.here | apply Pick.skip | apply Pick.app); done)
  refine en_ic (c := c26) (A := A26) (by rw [hl]; exact hn26) ?_
  rw [hl, flat_append]
  exact (by (repeat first | exact en_refl | (apply en_blk; focus ((repeat' first | exact Pick.here | apply Pick.skip | apply Pick.app); done); focus rfl) | (apply en_own; focus ((repeat' first | exact Pick.here | apply Pick.skip | apply Pick.app); done); focus rfl) | (apply en_pick; focus ((repeat' first | exact Pick.here | apply Pick.skip | apply Pick.app); done)) | apply en_drop | apply en_app) <;> fail)
theorem icvis_good (b s : Nat) (u v : Int) (k : Nat) (tot : List Int) (L0 : List HP) (hbig : tot.length ≤ 1000000) : (icvis b s u v k tot L0).Good L0 where
  cal := inferInstanceAs (CalT Tryz.prog 59)
  visit := fun M x st hM hx => icvisit_ctr b s k u v st x M (hx.1.1.mono hM) hx.1.2.1 hx.1.2.2 hx.2
  next := fun l x st r h => h.next
  stop := fun st r h => by rw [h.rest]; rfl
  cap := fun l st r h => ⟨by
    have := lkL_len (u := u) (v := v) (l := l) fun x hx => (h.ok x hx).2.2.1
    have := h.rest; have := h.small; omega, fun x hx => ⟨⟨⟨(h.ok x hx).1, (h.ok x hx).2.1, (h.ok x hx).2.2.2⟩, h.len hbig⟩, (x.nxt'_wt u v).2.1⟩⟩
def icP (b : Nat) (u v : Int) (tot : List Int) (L0 : List HP) (r k : Nat) : HP := fun h => ∃ y : Nat × List IT × List Int, IcI u v tot L0 y.2.1 y.2.2 r ∧ sat [icS b y.1 u v y.2.2 k, stkS y.1 65536 y.2.1] h
theorem Ctr.icP {P : Program} {f : FuncId} {args : Array Value} {L L0 : List HP} {b r k : Nat} {u v : Int} {tot : List Int} {post : Value → List HP → Prop}
    (C : ∀ s l st, IcI u v tot L0 l st r → Ctr P f args (icS b s u v st k :: stkS s 65536 l :: L) post) : Ctr P f args (icP b u v tot L0 r k :: L) post :=
  Ctr.open (ι := Nat × List IT × List Int) (Fa := fun y => IcI u v tot L0 y.2.1 y.2.2 r) (N := fun y => [icS b y.1 u v y.2.2 k, stkS y.1 65536 y.2.1]) (fun _ h => h) fun y hy => C y.1 y.2.1 y.2.2 hy
theorem en_icP {L M L0 : List HP} {b s r k : Nat} {u v : Int} {tot : List Int} {l : List IT} {st : List Int} (hI : IcI u v tot L0 l st r) (f : ∀ h, sat L h → sat (icS b s u v st k :: stkS s 65536 l :: M) h) : ∀ h, sat L h → sat (icP b u v tot L0 r k :: M) h := fun h t =>
  sat.fold (N := [_, _]) (fun h q => ⟨(s, l, st), hI, q⟩) (f h t)
theorem icbegin_ctr (t : Nat) (T : IT) (most : Int) (u v : Int) (L : List HP) (h : TI L t T most) (o : T.ok) (hn : T.spans.length ≤ 1000) :
    Ctr Tryz.prog 64 #[.pointer (some ⟨t, 0, none⟩), .int .i64 u, .int .i64 v] L fun r L' => ∃ c, r = .pointer (some ⟨c, 0, none⟩) ∧ L' = icP c u v (T.fnd' u v) L (T.lk u v) 0 :: L := by
  refine Ctr_of (fn := Tryz.f64) (n := 29) Tryz.func64 rfl rfl rfl ?_
  intro g F
  (repeat first | refine G_seq ?_ | refine G_skip ?_ | refine G_endblk ?_ | refine G_block ?_ | refine G_exit rfl ?_)
  refine G_region ?_
  refine GO_q rfl rfl (ev_assign rfl) ?_
  refine GO_nil ?_
  (repeat first | refine G_seq ?_ | refine G_skip ?_ | refine G_endblk ?_ | refine G_block ?_ | refine G_exit rfl ?_)
  refine G_region ?_
  refine GO_q rfl rfl (ev_move rfl) ?_
  (first | refine GO_q rfl rfl (ev_eqlNil rfl rfl) ?_ | refine GO_q rfl rfl (ev_eqlPtr rfl rfl) ?_)
  refine GO_nil ?_
  (repeat first | refine G_seq ?_ | refine G_skip ?_ | refine G_endblk ?_ | refine G_block ?_ | refine G_exit rfl ?_)
  refine G_cond_f rfl rfl ?_
  (repeat first | refine G_seq ?_ | refine G_skip ?_ | refine G_endblk ?_ | refine G_block ?_ | refine G_exit rfl ?_)
  refine G_region ?_
  refine GO_eff rfl rfl (eff_call rfl (SNew_ctr _)) ?_; rintro _ _ ⟨s, rfl, rfl⟩
  refine GO_q rfl rfl (ev_move rfl) ?_
  refine GO_q rfl rfl (ev_extract rfl rfl) ?_
  refine GO_q rfl rfl (ev_extract rfl rfl) ?_
  refine GO_q rfl rfl (ev_assign rfl) ?_
  refine GO_q rfl rfl (ev_assign rfl) ?_
  refine GO_nil ?_
  (repeat first | refine G_seq ?_ | refine G_skip ?_ | refine G_endblk ?_ | refine G_block ?_ | refine G_exit rfl ?_)
  refine G_region ?_
  refine GO_q rfl rfl (ev_move rfl) ?_
  refine GO_eff rfl rfl (eff_call rfl (iRoot_ctr h.skip.skip)) ?_; rintro _ _ ⟨rfl, rfl⟩
  refine GO_q rfl rfl (ev_assign rfl) ?_
  refine GO_nil ?_
  (repeat first | refine G_seq ?_ | refine G_skip ?_ | refine G_endblk ?_ | refine G_block ?_ | refine G_exit rfl ?_)
  refine G_region ?_
  refine GO_q rfl rfl (ev_move rfl) ?_
  (first | refine GO_q rfl rfl (ev_neqNil rfl rfl) ?_ | refine GO_q rfl rfl (ev_neqPtr rfl rfl) ?_)
  refine GO_nil ?_
  cases T with
  | nil =>
    (repeat first | refine G_seq ?_ | refine G_skip ?_ | refine G_endblk ?_ | refine G_block ?_ | refine G_exit rfl ?_)
    refine G_cond_f rfl rfl ?_
    (repeat first | refine G_seq ?_ | refine G_skip ?_ | refine G_endblk ?_ | refine G_block ?_ | refine G_exit rfl ?_)
    refine G_region ?_
    refine GO_q rfl rfl (ev_move rfl) ?_
    refine GO_q rfl rfl (ev_move rfl) ?_
    refine GO_q rfl rfl (ev_move rfl) ?_
    refine GO_q rfl rfl (ev_build rfl rfl) ?_
    refine GO_eff rfl rfl (eff_box rfl) ?_; rintro _ _ ⟨b28, rfl, rfl⟩
    refine GO_q rfl rfl (ev_assign rfl) ?_
    refine GO_nil ?_
    (repeat first | refine G_seq ?_ | refine G_skip ?_ | refine G_endblk ?_ | refine G_block ?_ | refine G_exit rfl ?_)
    refine G_heap (own.nil_ 3 1) ?_
    have e1 : IT.nil.fnd' u v = [] := by unfold IT.fnd'; split <;> rfl
    have e2 : IT.nil.lk u v = 0 := by unfold IT.lk; split <;> rfl
    have hI : IcI u v (IT.nil.fnd' u v) L [] [] (IT.nil.lk u v) := ⟨by rw [e2]; rfl, by rw [e2]; exact Nat.zero_le _, (fun _ h => by cases h), by rw [e1]; rfl⟩
    refine G_ret (L' := icP b28 u v (IT.nil.fnd' u v) L (IT.nil.lk u v) 0 :: L) rfl (.tmp rfl .nil) ?_ ⟨b28, rfl, rfl⟩
    apply en_pick
    focus ((repeat' first | exact Pick.here | apply Pick.skip | apply Pick.app); done)
    refine en_icP (s := s) hI ?_
    refine en_ic (c := 0) (A := none) (fun h => absurd h (Nat.lt_irrefl 0)) ?_
    exact (by (repeat first | exact en_refl | (apply en_blk; focus ((repeat' first | exact Pick.here | apply Pick.skip | apply Pick.app); done); focus rfl) | (apply en_own; focus ((repeat' first | exact Pick.here | apply Pick.skip | apply Pick.app); done); focus rfl) | (apply en_pick; focus ((repeat' first | exact Pick.here | apply Pick.skip | apply Pick.app); done)) | apply en_drop | apply en_app) <;> fail)
  | node b mid A c p C d q m lo hi =>
    have hI := IcI.start (u := u) (v := v) h.i o hn rfl
    generalize hT : IT.node b mid A c p C d q m lo hi = T at *
    have hTa : T.addr = some ⟨b, 0, none⟩ := by rw [← hT]; rfl
    (repeat first | refine G_seq ?_ | refine G_skip ?_ | refine G_endblk ?_ | refine G_block ?_ | refine G_exit rfl ?_)
    refine G_cond_t rfl (by rw [hTa]; rfl) ?_
    (repeat first | refine G_seq ?_ | refine G_skip ?_ | refine G_endblk ?_ | refine G_block ?_ | refine G_exit rfl ?_)
    refine G_region ?_
    refine GO_q rfl rfl (ev_move rfl) ?_
    refine GO_q rfl rfl (ev_move rfl) ?_
    refine GO_eff rfl rfl (eff_buildSlice1 (by rfl) rfl rfl) ?_; rintro _ _ ⟨b22, rfl, rfl⟩
    refine GO_eff rfl rfl (eff_call rfl (Ctr.pick (by repeat' first | exact Pick.here | apply Pick.skip | apply Pick.app) (Push_ctr s (some ⟨b22, 0, none⟩) 1 1 [] [T] _ (by repeat' first | exact Rc.blk rfl | apply Rc.skip) (by decide)))) ?_; rintro _ _ ⟨rfl, rfl⟩
    refine GO_nil ?_
    (repeat first | refine G_seq ?_ | refine G_skip ?_ | refine G_endblk ?_ | refine G_block ?_ | refine G_exit rfl ?_)
    refine G_region ?_
    refine GO_q rfl rfl (ev_move rfl) ?_
    refine GO_q rfl rfl (ev_move rfl) ?_
    refine GO_q rfl rfl (ev_move rfl) ?_
    refine GO_q rfl rfl (ev_build rfl rfl) ?_
    refine GO_eff rfl rfl (eff_box rfl) ?_; rintro _ _ ⟨b28, rfl, rfl⟩
    refine GO_q rfl rfl (ev_assign rfl) ?_
    refine GO_nil ?_
    (repeat first | refine G_seq ?_ | refine G_skip ?_ | refine G_endblk ?_ | refine G_block ?_ | refine G_exit rfl ?_)
    refine G_heap (own.nil_ 3 1) ?_
    refine G_ret (L' := icP b28 u v (T.fnd' u v) L (T.lk u v) 0 :: L) rfl (.tmp rfl .nil) ?_ ⟨b28, rfl, rfl⟩
    apply en_pick
    focus ((repeat' first | exact Pick.here | apply Pick.skip | apply Pick.app); done)
    refine en_icP (s := s) hI ?_
    refine en_ic (c := 0) (A := none) (fun h => absurd h (Nat.lt_irrefl 0)) ?_
    exact (by (repeat first | exact en_refl | (apply en_blk; focus ((repeat' first | exact Pick.here | apply Pick.skip | apply Pick.app); done); focus rfl) | (apply en_own; focus ((repeat' first | exact Pick.here | apply Pick.skip | apply Pick.app); done); focus rfl) | (apply en_pick; focus ((repeat' first | exact Pick.here | apply Pick.skip | apply Pick.app); done)) | apply en_drop | apply en_app) <;> fail)
theorem icStab_ctr (t : Nat) (T : IT) (most : Int) (u : Int) (L : List HP) (h : TI L t T most) (o : T.ok) (hn : T.spans.length ≤ 1000) :
    Ctr Tryz.prog 40 #[.pointer (some ⟨t, 0, none⟩), .int .i64 u] L fun r L' => ∃ c L0, r = .pointer (some ⟨c, 0, none⟩) ∧ (∀ h, sat L h → sat L0 h) ∧ L' = icP c u u (T.fnd' u u) L0 (T.lk u u) 0 :: L := by
  refine Ctr_of (fn := Tryz.f40) (n := 9) Tryz.func40 rfl rfl rfl ?_
  intro g F
  (repeat first | refine G_seq ?_ | refine G_skip ?_ | refine G_endblk ?_ | refine G_block ?_ | refine G_exit rfl ?_)
  refine G_region ?_
  refine GO_q rfl rfl (ev_assign rfl) ?_
  refine GO_nil ?_
  (repeat first | refine G_seq ?_ | refine G_skip ?_ | refine G_endblk ?_ | refine G_block ?_ | refine G_exit rfl ?_)
  refine G_region ?_
  refine GO_q rfl rfl (ev_move rfl) ?_
  refine GO_q rfl rfl (ev_move rfl) ?_
  refine GO_q rfl rfl (ev_move rfl) ?_
  refine GO_eff rfl rfl (eff_call rfl (Ctr.frame [F] (icbegin_ctr t T most u u L h o hn) (fun _ s => s))) ?_; rintro _ _ ⟨_, ⟨c, rfl, rfl⟩, rfl⟩
  refine GO_q rfl rfl (ev_assign rfl) ?_
  refine GO_nil ?_
  (repeat first | refine G_seq ?_ | refine G_skip ?_ | refine G_endblk ?_ | refine G_block ?_ | refine G_exit rfl ?_)
  exact G_ret (L' := icP c u u (T.fnd' u u) L (T.lk u u) 0 :: L) rfl (.tmp rfl .nil) (by (repeat first | exact en_refl | (apply en_blk; focus ((repeat' first | exact Pick.here | apply Pick.skip | apply Pick.app); done); focus rfl) | (apply en_own; focus ((repeat' first | exact Pick.here | apply Pick.skip | apply Pick.app); done); focus rfl) | (apply en_pick; focus ((repeat' first | exact Pick.here | apply Pick.skip | apply Pick.app); done)) | apply en_drop | apply en_app) <;> fail) ⟨c, L, rfl, fun _ h => h, rfl⟩
theorem icStep_ctr (b r k : Nat) (u v : Int) (tot : List Int) (L0 L : List HP) (n : Int) (hM : ∀ h, sat L h → sat L0 h) (hbig : tot.length ≤ 1000000) (hk : k ≤ 1000000000) :
    Ctr Tryz.prog 34 #[.pointer (some ⟨b, 0, none⟩), .int .i64 n] (icP b u v tot L0 r k :: L) fun w L' => w = .tuple #[.int .i64 (min n.toNat r : Nat), .bool (decide (r - min n.toNat r = 0))] ∧ L' = icP b u v tot L0 (r - min n.toNat r) (k + min n.toNat r) :: L := by
  refine Ctr.icP fun s l st hI => ?_
  have hrs := hI.small
  refine Ctr_of (fn := Tryz.f34) (n := 44) Tryz.func34 rfl rfl rfl ?_
  intro g F
  (repeat first | refine G_seq ?_ | refine G_skip ?_ | refine G_endblk ?_ | refine G_block ?_ | refine G_exit rfl ?_)
  refine G_region ?_
  refine GO_q rfl rfl (ev_assign rfl) ?_
  refine GO_q rfl rfl (ev_assign rfl) ?_
  refine GO_nil ?_
  (repeat first | refine G_seq ?_ | refine G_skip ?_ | refine G_endblk ?_ | refine G_block ?_ | refine G_exit rfl ?_)
  refine G_region ?_
  refine GO_q rfl rfl (ev_move rfl) ?_
  (first | refine GO_q rfl rfl (ev_eqlNil rfl rfl) ?_ | refine GO_q rfl rfl (ev_eqlPtr rfl rfl) ?_)
  refine GO_nil ?_
  (repeat first | refine G_seq ?_ | refine G_skip ?_ | refine G_endblk ?_ | refine G_block ?_ | refine G_exit rfl ?_)
  refine G_cond_f rfl rfl ?_
  refine G_heap (L' := icS b s u v st k :: stkS s 65536 l :: F :: L) (by (repeat first | exact en_refl | (apply en_blk; focus ((repeat' first | exact Pick.here | apply Pick.skip | apply Pick.app); done); focus rfl) | (apply en_own; focus ((repeat' first | exact Pick.here | apply Pick.skip | apply Pick.app); done); focus rfl) | (apply en_pick; focus ((repeat' first | exact Pick.here | apply Pick.skip | apply Pick.app); done)) | apply en_drop | apply en_app) <;> fail) ?_
  refine G_ic fun A c hA hc hc2 => ?_
  (repeat first | refine G_seq ?_ | refine G_skip ?_ | refine G_endblk ?_ | refine G_block ?_ | refine G_exit rfl ?_)
  refine G_region ?_
  refine GO_q rfl rfl (ev_move rfl) ?_
  (first | refine GO_q rfl rfl (ev_nilCheck rfl) ?_ | refine GO_q rfl rfl (ev_nilCheckF (by simp) rfl) ?_)
  refine GO_q rfl rfl (ev_fieldAddr rfl) ?_
  refine GO_q rfl rfl (ev_load rfl (by repeat' first | exact Ld.blk rfl | assumption | apply Ld.skip | apply Ld.app)) ?_
  refine GO_q rfl rfl (ev_move rfl) ?_
  refine GO_q rfl rfl (ev_max0 rfl) ?_
  refine GO_q rfl rfl (ev_move rfl) ?_
  refine GO_q rfl rfl (ev_makeFunc rfl rfl) ?_
  refine GO_eff rfl rfl (eff_call rfl (Ctr.pre (M := stkS s 65536 l :: icS b s u v st k :: F :: L) (by (repeat first | exact en_refl | apply en_ic (c := c) hA | (apply en_blk; focus ((repeat' first | exact Pick.here | apply Pick.skip | apply Pick.app); done); focus rfl) | (apply en_own; focus ((repeat' first | exact Pick.here | apply Pick.skip | apply Pick.app); done); focus rfl) | (apply en_pick; focus ((repeat' first | exact Pick.here | apply Pick.skip | apply Pick.app); done)) | apply en_drop | apply en_app) <;> fail) (Walk_ctr (icvis b s u v k tot L0) s n.toNat r l st (F :: L) L0 (icvis_good b s u v k tot L0 hbig) (fun h t => hM h t.tail) hI (by omega)))) ?_; rintro _ _ ⟨l', st', rfl, hI', rfl⟩
  refine GO_q rfl rfl (ev_move rfl) ?_
  refine GO_q rfl rfl (ev_extract rfl rfl) ?_
  refine GO_q rfl rfl (ev_extract rfl rfl) ?_
  refine GO_q rfl rfl (ev_assign rfl) ?_
  refine GO_q rfl rfl (ev_assign rfl) ?_
  refine GO_nil ?_
  (repeat first | refine G_seq ?_ | refine G_skip ?_ | refine G_endblk ?_ | refine G_block ?_ | refine G_exit rfl ?_)
  refine G_region ?_
  refine GO_q rfl rfl (ev_move rfl) ?_
  refine GO_q rfl rfl (ev_neq rfl rfl) ?_
  refine GO_nil ?_
  (repeat first | refine G_seq ?_ | refine G_skip ?_ | refine G_endblk ?_ | refine G_block ?_ | refine G_exit rfl ?_)
  refine G_cond_f rfl rfl ?_
  refine G_heap (L' := icS b s u v st' k :: stkS s 65536 l' :: F :: L) (fun _ t => t.swap) ?_
  refine G_ic fun A' c' hA' hc' hc2' => ?_
  (repeat first | refine G_seq ?_ | refine G_skip ?_ | refine G_endblk ?_ | refine G_block ?_ | refine G_exit rfl ?_)
  refine G_region ?_
  refine GO_q rfl rfl (ev_move rfl) ?_
  (first | refine GO_q rfl rfl (ev_nilCheck rfl) ?_ | refine GO_q rfl rfl (ev_nilCheckF (by simp) rfl) ?_)
  refine GO_q rfl rfl (ev_fieldAddr rfl) ?_
  refine GO_q rfl rfl (ev_load rfl (by repeat' first | exact Ld.blk rfl | assumption | apply Ld.skip | apply Ld.app)) ?_
  refine GO_q rfl rfl (ev_move rfl) ?_
  (first | refine GO_q rfl rfl (ev_addN rfl rfl (by first | omega | (simp; done) | (simp; omega))) ?_ | refine GO_q rfl rfl (ev_add rfl rfl (by first | omega | (simp; done) | (simp; omega))) ?_)
  (first | refine GO_q rfl rfl (ev_nilCheck rfl) ?_ | refine GO_q rfl rfl (ev_nilCheckF (by simp) rfl) ?_)
  refine GO_q rfl rfl (ev_fieldAddr rfl) ?_
  refine GO_eff rfl rfl (eff_store rfl rfl rfl (by repeat' first | exact Upd.here rfl | apply Upd.skip | apply Upd.app)) ?_; rintro _ _ ⟨rfl, rfl⟩
  refine GO_nil ?_
  refine G_heap (L' := icS b s u v st' (k + min n.toNat r) :: stkS s 65536 l' :: F :: L) (by (repeat first | exact en_refl | apply en_ic (c := c') hA' | (apply en_blk; focus ((repeat' first | exact Pick.here | apply Pick.skip | apply Pick.app); done); focus rfl) | (apply en_own; focus ((repeat' first | exact Pick.here | apply Pick.skip | apply Pick.app); done); focus rfl) | (apply en_pick; focus ((repeat' first | exact Pick.here | apply Pick.skip | apply Pick.app); done)) | apply en_drop | apply en_app) <;> fail) ?_
  have hI2 : IcI u v tot L0 l' st' (r - min n.toNat r) := hI'
  refine G_ic fun A2 c2 hA2 hcc hcc2 => ?_
  (repeat first | refine G_seq ?_ | refine G_skip ?_ | refine G_endblk ?_ | refine G_block ?_ | refine G_exit rfl ?_)
  refine G_region ?_
  refine GO_q rfl rfl (ev_move rfl) ?_
  refine GO_q rfl rfl (ev_move rfl) ?_
  (first | refine GO_q rfl rfl (ev_nilCheck rfl) ?_ | refine GO_q rfl rfl (ev_nilCheckF (by simp) rfl) ?_)
  refine GO_q rfl rfl (ev_fieldAddr rfl) ?_
  refine GO_q rfl rfl (ev_load rfl (by repeat' first | exact Ld.blk rfl | assumption | apply Ld.skip | apply Ld.app)) ?_
  refine GO_eff rfl rfl (eff_call rfl (Ctr.pick (by repeat' first | exact Pick.here | apply Pick.skip | apply Pick.app) (SLen_k_ctr s l' _))) ?_; rintro _ _ ⟨rfl, rfl⟩
  refine GO_q rfl rfl (ev_eql rfl rfl) ?_
  refine GO_q rfl rfl (ev_assign rfl) ?_
  refine GO_q rfl rfl (ev_assign rfl) ?_
  refine GO_nil ?_
  (repeat first | refine G_seq ?_ | refine G_skip ?_ | refine G_endblk ?_ | refine G_block ?_ | refine G_exit rfl ?_)
  rw [decide_eq_decide.2 hI2.done]
  refine G_ret (L' := icP b u v tot L0 (r - min n.toNat r) (k + min n.toNat r) :: L) rfl (.tmp rfl (.tmp rfl .nil)) ?_ ⟨rfl, rfl⟩
  apply en_pick
  focus ((repeat' first | exact Pick.here | apply Pick.skip | apply Pick.app); done)
  refine en_icP (s := s) hI2 ?_
  exact (by (repeat first | exact en_refl | apply en_ic (c := c2) hA2 | (apply en_blk; focus ((repeat' first | exact Pick.here | apply Pick.skip | apply Pick.app); done); focus rfl) | (apply en_own; focus ((repeat' first | exact Pick.here | apply Pick.skip | apply Pick.app); done); focus rfl) | (apply en_pick; focus ((repeat' first | exact Pick.here | apply Pick.skip | apply Pick.app); done)) | apply en_drop | apply en_app) <;> fail)
theorem icN_ctr (b k : Nat) (u v : Int) (tot : List Int) (L0 L : List HP) : Ctr Tryz.prog 38 #[.pointer (some ⟨b, 0, none⟩)] (icP b u v tot L0 0 k :: L) fun w L' => w = .int .i64 (tot.length : Nat) ∧ L' = icP b u v tot L0 0 k :: L := by
  refine Ctr.icP fun s l st hI => ?_
  obtain ⟨e1, e2⟩ := hI.end_
  refine Ctr.ic fun A c hA hc hc2 => ?_
  rw [← e2]
  refine Ctr_of (fn := Tryz.f38) (n := 10) Tryz.func38 rfl rfl rfl ?_
  intro g F
  (repeat first | refine G_seq ?_ | refine G_skip ?_ | refine G_endblk ?_ | refine G_block ?_ | refine G_exit rfl ?_)
  refine G_region ?_
  refine GO_q rfl rfl (ev_assign rfl) ?_
  refine GO_nil ?_
  (repeat first | refine G_seq ?_ | refine G_skip ?_ | refine G_endblk ?_ | refine G_block ?_ | refine G_exit rfl ?_)
  refine G_region ?_
  refine GO_q rfl rfl (ev_move rfl) ?_
  (first | refine GO_q rfl rfl (ev_eqlNil rfl rfl) ?_ | refine GO_q rfl rfl (ev_eqlPtr rfl rfl) ?_)
  refine GO_nil ?_
  (repeat first | refine G_seq ?_ | refine G_skip ?_ | refine G_endblk ?_ | refine G_block ?_ | refine G_exit rfl ?_)
  refine G_cond_f rfl rfl ?_
  (repeat first | refine G_seq ?_ | refine G_skip ?_ | refine G_endblk ?_ | refine G_block ?_ | refine G_exit rfl ?_)
  refine G_region ?_
  refine GO_q rfl rfl (ev_move rfl) ?_
  (first | refine GO_q rfl rfl (ev_nilCheck rfl) ?_ | refine GO_q rfl rfl (ev_nilCheckF (by simp) rfl) ?_)
  refine GO_q rfl rfl (ev_fieldAddr rfl) ?_
  refine GO_q rfl rfl (ev_load rfl (by repeat' first | exact Ld.blk rfl | assumption | apply Ld.skip | apply Ld.app)) ?_
  refine GO_q rfl rfl (ev_len rfl) ?_
  refine GO_q rfl rfl (ev_assign rfl) ?_
  refine GO_nil ?_
  (repeat first | refine G_seq ?_ | refine G_skip ?_ | refine G_endblk ?_ | refine G_block ?_ | refine G_exit rfl ?_)
  refine G_ret (L' := icP b u v st L0 0 k :: L) rfl (.tmp rfl .nil) ?_ ⟨rfl, rfl⟩
  apply en_pick
  focus ((repeat' first | exact Pick.here | apply Pick.skip | apply Pick.app); done)
  refine en_icP (s := s) (by rw [e2]; exact hI) ?_
  exact (by (repeat first | exact en_refl | apply en_ic (c := c) hA | (apply en_blk; focus ((repeat' first | exact Pick.here | apply Pick.skip | apply Pick.app); done); focus rfl) | (apply en_own; focus ((repeat' first | exact Pick.here | apply Pick.skip | apply Pick.app); done); focus rfl) | (apply en_pick; focus ((repeat' first | exact Pick.here | apply Pick.skip | apply Pick.app); done)) | apply en_drop | apply en_app) <;> fail)
theorem icDone_ctr (b r k : Nat) (u v : Int) (tot : List Int) (L0 L : List HP) : Ctr Tryz.prog 36 #[.pointer (some ⟨b, 0, none⟩)] (icP b u v tot L0 r k :: L) fun w L' => w = .bool (decide (r = 0)) ∧ L' = icP b u v tot L0 r k :: L := by
  refine Ctr.icP fun s l st hI => ?_
  refine Ctr.ic fun A c hA hc hc2 => ?_
  refine Ctr_of (fn := Tryz.f36) (n := 13) Tryz.func36 rfl rfl rfl ?_
  intro g F
  (repeat first | refine G_seq ?_ | refine G_skip ?_ | refine G_endblk ?_ | refine G_block ?_ | refine G_exit rfl ?_)
  refine G_region ?_
  refine GO_q rfl rfl (ev_assign rfl) ?_
  refine GO_nil ?_
  (repeat first | refine G_seq ?_ | refine G_skip ?_ | refine G_endblk ?_ | refine G_block ?_ | refine G_exit rfl ?_)
  refine G_region ?_
  refine GO_q rfl rfl (ev_move rfl) ?_
  (first | refine GO_q rfl rfl (ev_eqlNil rfl rfl) ?_ | refine GO_q rfl rfl (ev_eqlPtr rfl rfl) ?_)
  refine GO_q rfl rfl (ev_move rfl) ?_
  refine GO_yes rfl rfl rfl rfl ?_
  refine GO_q rfl rfl (ev_move rfl) ?_
  refine GO_yes rfl rfl rfl rfl ?_
  (first | refine GO_q rfl rfl (ev_nilCheck rfl) ?_ | refine GO_q rfl rfl (ev_nilCheckF (by simp) rfl) ?_)
  refine GO_yes rfl rfl rfl rfl ?_
  refine GO_q rfl rfl (ev_fieldAddr rfl) ?_
  refine GO_yes rfl rfl rfl rfl ?_
  refine GO_q rfl rfl (ev_load rfl (by repeat' first | exact Ld.blk rfl | assumption | apply Ld.skip | apply Ld.app)) ?_
  refine GO_yes rfl rfl rfl rfl ?_
  refine GO_eff rfl rfl (eff_call rfl (Ctr.pick (by repeat' first | exact Pick.here | apply Pick.skip | apply Pick.app) (SLen_k_ctr s l _))) ?_; rintro _ _ ⟨rfl, rfl⟩
  refine GO_yes rfl rfl rfl rfl ?_
  refine GO_q rfl rfl (ev_eql rfl rfl) ?_
  refine GO_q rfl rfl (ev_pick_f rfl rfl rfl) ?_
  refine GO_q rfl rfl (ev_assign rfl) ?_
  refine GO_nil ?_
  (repeat first | refine G_seq ?_ | refine G_skip ?_ | refine G_endblk ?_ | refine G_block ?_ | refine G_exit rfl ?_)
  rw [decide_eq_decide.2 hI.done]
  refine G_ret (L' := icP b u v tot L0 r k :: L) rfl (.tmp rfl .nil) ?_ ⟨rfl, rfl⟩
  apply en_pick
  focus ((repeat' first | exact Pick.here | apply Pick.skip | apply Pick.app); done)
  refine en_icP (s := s) hI ?_
  exact (by (repeat first | exact en_refl | apply en_ic (c := c) hA | (apply en_blk; focus ((repeat' first | exact Pick.here | apply Pick.skip | apply Pick.app); done); focus rfl) | (apply en_own; focus ((repeat' first | exact Pick.here | apply Pick.skip | apply Pick.app); done); focus rfl) | (apply en_pick; focus ((repeat' first | exact Pick.here | apply Pick.skip | apply Pick.app); done)) | apply en_drop | apply en_app) <;> fail)
theorem icSteps_ctr (b r k : Nat) (u v : Int) (tot : List Int) (L0 L : List HP) : Ctr Tryz.prog 39 #[.pointer (some ⟨b, 0, none⟩)] (icP b u v tot L0 r k :: L) fun w L' => w = .int .i64 (k : Nat) ∧ L' = icP b u v tot L0 r k :: L := by
  refine Ctr.icP fun s l st hI => ?_
  refine Ctr.ic fun A c hA hc hc2 => ?_
  refine Ctr_of (fn := Tryz.f39) (n := 9) Tryz.func39 rfl rfl rfl ?_
  intro g F
  (repeat first | refine G_seq ?_ | refine G_skip ?_ | refine G_endblk ?_ | refine G_block ?_ | refine G_exit rfl ?_)
  refine G_region ?_
  refine GO_q rfl rfl (ev_assign rfl) ?_
  refine GO_nil ?_
  (repeat first | refine G_seq ?_ | refine G_skip ?_ | refine G_endblk ?_ | refine G_block ?_ | refine G_exit rfl ?_)
  refine G_region ?_
  refine GO_q rfl rfl (ev_move rfl) ?_
  (first | refine GO_q rfl rfl (ev_eqlNil rfl rfl) ?_ | refine GO_q rfl rfl (ev_eqlPtr rfl rfl) ?_)
  refine GO_nil ?_
  (repeat first | refine G_seq ?_ | refine G_skip ?_ | refine G_endblk ?_ | refine G_block ?_ | refine G_exit rfl ?_)
  refine G_cond_f rfl rfl ?_
  (repeat first | refine G_seq ?_ | refine G_skip ?_ | refine G_endblk ?_ | refine G_block ?_ | refine G_exit rfl ?_)
  refine G_region ?_
  refine GO_q rfl rfl (ev_move rfl) ?_
  (first | refine GO_q rfl rfl (ev_nilCheck rfl) ?_ | refine GO_q rfl rfl (ev_nilCheckF (by simp) rfl) ?_)
  refine GO_q rfl rfl (ev_fieldAddr rfl) ?_
  refine GO_q rfl rfl (ev_load rfl (by repeat' first | exact Ld.blk rfl | assumption | apply Ld.skip | apply Ld.app)) ?_
  refine GO_q rfl rfl (ev_assign rfl) ?_
  refine GO_nil ?_
  (repeat first | refine G_seq ?_ | refine G_skip ?_ | refine G_endblk ?_ | refine G_block ?_ | refine G_exit rfl ?_)
  refine G_ret (L' := icP b u v tot L0 r k :: L) rfl (.tmp rfl .nil) ?_ ⟨rfl, rfl⟩
  apply en_pick
  focus ((repeat' first | exact Pick.here | apply Pick.skip | apply Pick.app); done)
  refine en_icP (s := s) hI ?_
  exact (by (repeat first | exact en_refl | apply en_ic (c := c) hA | (apply en_blk; focus ((repeat' first | exact Pick.here | apply Pick.skip | apply Pick.app); done); focus rfl) | (apply en_own; focus ((repeat' first | exact Pick.here | apply Pick.skip | apply Pick.app); done); focus rfl) | (apply en_pick; focus ((repeat' first | exact Pick.here | apply Pick.skip | apply Pick.app); done)) | apply en_drop | apply en_app) <;> fail)
theorem icIDs_ctr (b k : Nat) (u v : Int) (tot : List Int) (L0 L : List HP) (hbig : tot.length ≤ 100000) : Ctr Tryz.prog 37 #[.pointer (some ⟨b, 0, none⟩)] (icP b u v tot L0 0 k :: L) fun w L' =>
    ∃ B e, w = .slice B tot.length e ∧ ((0 < tot.length → ∃ b, B = some ⟨b, 0, none⟩) ∧ tot.length ≤ e ∧ e ≤ maxLen) ∧ L' = own 3 1 B tot.length e (flat (srt tot)) :: icP b u v tot L0 0 k :: L := by
  refine Ctr.icP fun s l st hI => ?_
  obtain ⟨e1, e2⟩ := hI.end_
  refine Ctr.ic fun A c hA hc hc2 => ?_
  subst e2
  have hrd : ∀ M : List HP, Rd (own 3 1 A st.length c (flat st) :: M) A st.length st := fun M => Rc.own (flat_length _) hA
  refine Ctr_of (fn := Tryz.f37) (n := 11) Tryz.func37 rfl rfl rfl ?_
  intro g F
  (repeat first | refine G_seq ?_ | refine G_skip ?_ | refine G_endblk ?_ | refine G_block ?_ | refine G_exit rfl ?_)
  refine G_region ?_
  refine GO_q rfl rfl (ev_assign rfl) ?_
  refine GO_nil ?_
  (repeat first | refine G_seq ?_ | refine G_skip ?_ | refine G_endblk ?_ | refine G_block ?_ | refine G_exit rfl ?_)
  refine G_region ?_
  refine GO_q rfl rfl (ev_move rfl) ?_
  (first | refine GO_q rfl rfl (ev_eqlNil rfl rfl) ?_ | refine GO_q rfl rfl (ev_eqlPtr rfl rfl) ?_)
  refine GO_nil ?_
  (repeat first | refine G_seq ?_ | refine G_skip ?_ | refine G_endblk ?_ | refine G_block ?_ | refine G_exit rfl ?_)
  refine G_cond_f rfl rfl ?_
  (repeat first | refine G_seq ?_ | refine G_skip ?_ | refine G_endblk ?_ | refine G_block ?_ | refine G_exit rfl ?_)
  refine G_region ?_
  refine GO_q rfl rfl (ev_move rfl) ?_
  (first | refine GO_q rfl rfl (ev_nilCheck rfl) ?_ | refine GO_q rfl rfl (ev_nilCheckF (by simp) rfl) ?_)
  refine GO_q rfl rfl (ev_fieldAddr rfl) ?_
  refine GO_q rfl rfl (ev_load rfl (by repeat' first | exact Ld.blk rfl | assumption | apply Ld.skip | apply Ld.app)) ?_
  refine GO_eff rfl rfl (eff_call rfl (Values_ctr A st.length c _)) ?_; rintro _ _ ⟨bv, rfl, rfl⟩
  refine GO_eff rfl rfl (eff_call rfl (Ctr.pick (by repeat' first | exact Pick.here | apply Pick.skip | apply Pick.app) (Sorted_ctr bv A st.length c st _ (by repeat' first | exact hrd _ | apply Rd.skip) (by omega)))) ?_; rintro _ _ ⟨B, e, rfl, ⟨i1, i2, i3⟩, rfl⟩
  refine GO_q rfl rfl (ev_assign rfl) ?_
  refine GO_nil ?_
  (repeat first | refine G_seq ?_ | refine G_skip ?_ | refine G_endblk ?_ | refine G_block ?_ | refine G_exit rfl ?_)
  refine G_ret (L' := own 3 1 B st.length e (flat (srt st)) :: icP b u v st L0 0 k :: L) rfl (.tmp rfl .nil) ?_ ⟨B, e, rfl, ⟨i1, i2, i3⟩, rfl⟩
  apply en_pick
  focus ((repeat' first | exact Pick.here | apply Pick.skip | apply Pick.app); done)
  apply en_pick
  focus ((repeat' first | exact Pick.here | apply Pick.skip | apply Pick.app); done)
  refine en_icP (s := s) hI ?_
  exact (by (repeat first | exact en_refl | apply en_ic (c := c) hA | (apply en_blk; focus ((repeat' first | exact Pick.here | apply Pick.skip | apply Pick.app); done); focus rfl) | (apply en_own; focus ((repeat' first | exact Pick.here | apply Pick.skip | apply Pick.app); done); focus rfl) | (apply en_pick; focus ((repeat' first | exact Pick.here | apply Pick.skip | apply Pick.app); done)) | apply en_drop | apply en_app) <;> fail)
end Go.Proofs.YtjnmpogolknkpaaGreat
/- A cursor over a tree of middles: how many nodes; that it lives; what is told of no cursor. -/
namespace Go.Proofs.YtjnmpogolknkpaaGreat
attribute [local irreducible] sat
open Go.RowKit
set_option linter.unusedVariables false
set_option linter.unusedSimpArgs false
set_option maxRecDepth 100000

theorem en_comp {A B C : List HP} (f : ∀ h, sat A h → sat B h) (g : ∀ h, sat B h → sat C h) : ∀ h, sat A h → sat C h := fun h s => g h (f h s)
theorem lives21_ctr (L : List HP) : Ctr Tryz.prog 42 #[] L fun v L' => v = .bool true ∧ ∃ X, L' = X ++ L := by
  have c1 := fun t L => IInsert_ctr t 3 [] ⟨1, 0, 5⟩ L (by decide)
  have c2 := fun t L => IInsert_ctr t 3 [⟨1, 0, 5⟩] ⟨2, 4, 9⟩ L (by decide)
  rw [lm0, lk0] at c1
  rw [lm1, lk1] at c2
  refine Ctr_of (fn := Tryz.f42) (n := 43) Tryz.func42 rfl rfl rfl ?_
  intro g F
  (repeat first | refine G_seq ?_ | refine G_skip ?_ | refine G_endblk ?_ | refine G_block ?_ | refine G_exit rfl ?_)
  refine G_region ?_
  refine GO_q rfl rfl (ev_assign rfl) ?_
  refine GO_nil ?_
  (repeat first | refine G_seq ?_ | refine G_skip ?_ | refine G_endblk ?_ | refine G_block ?_ | refine G_exit rfl ?_)
  refine G_region ?_
  refine GO_eff rfl rfl (eff_call rfl (iNew_ctr 3 _ (by decide) (by decide))) ?_; rintro _ _ ⟨t, rfl, rfl⟩
  refine GO_q rfl rfl (ev_move rfl) ?_
  refine GO_q rfl rfl (ev_extract rfl rfl) ?_
  refine GO_q rfl rfl (ev_extract rfl rfl) ?_
  refine GO_q rfl rfl (ev_assign rfl) ?_
  refine GO_q rfl rfl (ev_assign rfl) ?_
  refine GO_nil ?_
  (repeat first | refine G_seq ?_ | refine G_skip ?_ | refine G_endblk ?_ | refine G_block ?_ | refine G_exit rfl ?_)
  refine G_region ?_
  refine GO_q rfl rfl (ev_move rfl) ?_
  refine GO_q rfl rfl (ev_build rfl rfl) ?_
  refine GO_eff rfl rfl (eff_call rfl (Ctr.pick (by repeat' first | exact Pick.here | apply Pick.skip | apply Pick.app) (c1 t _))) ?_; rintro _ _ ⟨rfl, rfl⟩
  refine GO_q rfl rfl (ev_assign rfl) ?_
  refine GO_nil ?_
  (repeat first | refine G_seq ?_ | refine G_skip ?_ | refine G_endblk ?_ | refine G_block ?_ | refine G_exit rfl ?_)
  refine G_region ?_
  refine GO_q rfl rfl (ev_move rfl) ?_
  refine GO_q rfl rfl (ev_build rfl rfl) ?_
  refine GO_eff rfl rfl (eff_call rfl (Ctr.pick (by repeat' first | exact Pick.here | apply Pick.skip | apply Pick.app) (c2 t _))) ?_; rintro _ _ ⟨rfl, rfl⟩
  refine GO_q rfl rfl (ev_assign rfl) ?_
  refine GO_nil ?_
  refine G_open (ι := IT) (N := treeZ t 3) (F := treeO [⟨1, 0, 5⟩, ⟨2, 4, 9⟩]) (fun _ h => h) fun T oT => ?_
  obtain ⟨o1, o2, o3⟩ := oT
  refine G_heap (L' := blk t 75 [.pointer T.addr, .int .i64 3] :: itH T :: F :: L) (by show ∀ h, sat (blk t 75 [.pointer T.addr, .int .i64 3] :: itH T :: _) h → _; exact (by (repeat first | exact en_refl | (apply en_blk; focus ((repeat' first | exact Pick.here | apply Pick.skip | apply Pick.app); done); focus rfl) | (apply en_own; focus ((repeat' first | exact Pick.here | apply Pick.skip | apply Pick.app); done); focus rfl) | (apply en_pick; focus ((repeat' first | exact Pick.here | apply Pick.skip | apply Pick.app); done)) | apply en_drop | apply en_app) <;> fail)) ?_
  have hT : ∀ M, TI (blk t 75 [.pointer T.addr, .int .i64 3] :: itH T :: M) t T 3 := fun M => ⟨Ld.blk rfl, Ld.blk rfl, (itH_in T M o2).skip⟩
  have hkl : T.spans.length = 2 := o3.length_eq
  have hsz := o1.size
  have hdp := o1.depth
  have hlk := lk_one 4 T
  have e1 := over_fnd (u := 4) (v := 4) o1 o3
  have w1 : (T.fnd' 4 4).length = 2 := by rw [← srt_length, e1, lo0]; rfl
  have cS := fun L h => icStab_ctr t T 3 4 L h o1 (by omega)
  generalize T.fnd' 4 4 = tot at *
  generalize T.lk 4 4 = r at *
  have hm : min (Int.toNat 9) r = r := by have : Int.toNat 9 = 9 := rfl; omega
  have cP := fun b L0 L hM => icStep_ctr b r 0 4 4 tot L0 L 9 hM (by omega) (by decide)
  rw [hm, Nat.sub_self] at cP
  (repeat first | refine G_seq ?_ | refine G_skip ?_ | refine G_endblk ?_ | refine G_block ?_ | refine G_exit rfl ?_)
  refine G_region ?_
  refine GO_q rfl rfl (ev_move rfl) ?_
  refine GO_eff rfl rfl (eff_call rfl (cS _ (hT _))) ?_; rintro _ _ ⟨cc, L1, rfl, hM1, rfl⟩
  refine GO_q rfl rfl (ev_assign rfl) ?_
  refine GO_nil ?_
  (repeat first | refine G_seq ?_ | refine G_skip ?_ | refine G_endblk ?_ | refine G_block ?_ | refine G_exit rfl ?_)
  refine G_region ?_
  refine GO_q rfl rfl (ev_move rfl) ?_
  refine GO_eff rfl rfl (eff_call rfl (Ctr.pick (by repeat' first | exact Pick.here | apply Pick.skip | apply Pick.app) (cP cc L1 _ (en_comp (by (repeat first | exact en_refl | (apply en_blk; focus ((repeat' first | exact Pick.here | apply Pick.skip | apply Pick.app); done); focus rfl) | (apply en_own; focus ((repeat' first | exact Pick.here | apply Pick.skip | apply Pick.app); done); focus rfl) | (apply en_pick; focus ((repeat' first | exact Pick.here | apply Pick.skip | apply Pick.app); done)) | apply en_drop | apply en_app) <;> fail) hM1)))) ?_; rintro _ _ ⟨rfl, rfl⟩
  refine GO_q rfl rfl (ev_move rfl) ?_
  refine GO_q rfl rfl (ev_extract rfl rfl) ?_
  refine GO_q rfl rfl (ev_extract rfl rfl) ?_
  refine GO_q rfl rfl (ev_assign rfl) ?_
  refine GO_q rfl rfl (ev_assign rfl) ?_
  refine GO_nil ?_
  have cN := fun L => icN_ctr cc (0 + r) 4 4 tot L1 L
  rw [w1] at cN
  (repeat first | refine G_seq ?_ | refine G_skip ?_ | refine G_endblk ?_ | refine G_block ?_ | refine G_exit rfl ?_)
  refine G_region ?_
  refine GO_q rfl rfl (ev_move rfl) ?_
  refine GO_q rfl rfl (ev_eql rfl rfl) ?_
  refine GO_q rfl rfl (ev_move rfl) ?_
  refine GO_yes rfl rfl rfl rfl ?_
  refine GO_q rfl rfl (ev_move rfl) ?_
  refine GO_yes rfl rfl rfl rfl ?_
  refine GO_q rfl rfl (ev_eql rfl rfl) ?_
  refine GO_q rfl rfl (ev_pick_t rfl rfl rfl) ?_
  refine GO_q rfl rfl (ev_move rfl) ?_
  refine GO_yes rfl rfl rfl rfl ?_
  refine GO_q rfl rfl (ev_move rfl) ?_
  refine GO_yes rfl rfl rfl rfl ?_
  refine GO_q rfl rfl (ev_eql rfl rfl) ?_
  refine GO_q rfl rfl (ev_pick_t rfl rfl rfl) ?_
  refine GO_q rfl rfl (ev_move rfl) ?_
  refine GO_yes rfl rfl rfl rfl ?_
  refine GO_q rfl rfl (ev_move rfl) ?_
  refine GO_q rfl rfl (ev_pick_t rfl rfl rfl) ?_
  refine GO_q rfl rfl (ev_move rfl) ?_
  refine GO_yes rfl rfl rfl rfl ?_
  refine GO_q rfl rfl (ev_move rfl) ?_
  refine GO_yes rfl rfl rfl rfl ?_
  refine GO_eff rfl rfl (eff_call rfl (Ctr.pick (by repeat' first | exact Pick.here | apply Pick.skip | apply Pick.app) (cN _))) ?_; rintro _ _ ⟨rfl, rfl⟩
  refine GO_yes rfl rfl rfl rfl ?_
  refine GO_q rfl rfl (ev_eql rfl rfl) ?_
  refine GO_q rfl rfl (ev_pick_t rfl rfl rfl) ?_
  refine GO_q rfl rfl (ev_assign rfl) ?_
  refine GO_nil ?_
  (repeat first | refine G_seq ?_ | refine G_skip ?_ | refine G_endblk ?_ | refine G_block ?_ | refine G_exit rfl ?_)
  exact G_ret (L' := [] ++ L) rfl (.tmp rfl .nil) (by (repeat first | exact fun _ s => s | apply en_keep | apply en_drop | apply en_app) <;> fail) ⟨rfl, [], rfl⟩
end Go.Proofs.YtjnmpogolknkpaaGreat
/- The laws ItcurAborts and ItcurStabs. -/
namespace Go.Proofs.YtjnmpogolknkpaaGreat
attribute [local irreducible] sat
open Go.RowKit
set_option linter.unusedVariables false
set_option linter.unusedSimpArgs false
set_option maxRecDepth 100000

instance : IntK Tryz.prog 5 .u8 := ⟨by kernel_rfl⟩
instance : IntK Tryz.prog 3 .i64 := ⟨by kernel_rfl⟩
theorem ItcurStabs_ctr (A : Option Addr) (n c : Nat) (acts : List Ac) (u : Int) (kk : Nat) (L : List HP) (hl : Rd L A n acts) (hn : n ≤ 9223372036854775807) (ha : ∀ a ∈ acts, a.at_ ≤ 9223372036854775807) (hkk : kk ≤ 255) :
    Ctr Tryz.prog 11 #[.slice A n c, .int .i64 u, .int .u8 (kk : Nat)] L fun r L' => r = .bool true ∧ L' = L := by
  refine Ctr_of (fn := Tryz.f11) (n := 58) Tryz.func11 rfl rfl rfl ?_
  intro g F
  (repeat first | refine G_seq ?_ | refine G_skip ?_ | refine G_endblk ?_ | refine G_block ?_ | refine G_exit rfl ?_)
  refine G_region ?_
  refine GO_q rfl rfl (ev_assign rfl) ?_
  refine GO_nil ?_
  (repeat first | refine G_seq ?_ | refine G_skip ?_ | refine G_endblk ?_ | refine G_block ?_ | refine G_exit rfl ?_)
  refine G_region ?_
  refine GO_q rfl rfl (ev_move rfl) ?_
  refine GO_eff rfl rfl (eff_call rfl (iMade_ctr A n c acts _ hl.skip hn ha)) ?_; rintro _ _ ⟨t, b, k, rfl, hk, rfl⟩
  refine GO_q rfl rfl (ev_move rfl) ?_
  refine GO_q rfl rfl (ev_extract rfl rfl) ?_
  refine GO_q rfl rfl (ev_extract rfl rfl) ?_
  refine GO_q rfl rfl (ev_extract rfl rfl) ?_
  refine GO_q rfl rfl (ev_assign rfl) ?_
  refine GO_q rfl rfl (ev_assign rfl) ?_
  refine GO_q rfl rfl (ev_assign rfl) ?_
  refine GO_nil ?_
  refine G_open (ι := IT) (N := treeZ t 60) (F := treeO k) (fun _ h => h) fun T oT => ?_
  obtain ⟨o1, o2, o3⟩ := oT
  refine G_heap (L' := blk t 75 [.pointer T.addr, .int .i64 60] :: itH T :: setI b 60 k :: F :: L) (by show ∀ h, sat (blk t 75 [.pointer T.addr, .int .i64 60] :: itH T :: _) h → _; exact (by (repeat first | exact en_refl | (apply en_blk; focus ((repeat' first | exact Pick.here | apply Pick.skip | apply Pick.app); done); focus rfl) | (apply en_own; focus ((repeat' first | exact Pick.here | apply Pick.skip | apply Pick.app); done); focus rfl) | (apply en_pick; focus ((repeat' first | exact Pick.here | apply Pick.skip | apply Pick.app); done)) | apply en_drop | apply en_app) <;> fail)) ?_
  have hT : ∀ M, TI (blk t 75 [.pointer T.addr, .int .i64 60] :: itH T :: M) t T 60 := fun M => ⟨Ld.blk rfl, Ld.blk rfl, (itH_in T M o2).skip⟩
  have hkl := o3.length_eq
  have hsz := o1.size
  have hdp := o1.depth
  have e1 := over_fnd (u := u) (v := u) o1 o3
  have w1 : (T.fnd' u u).length = (overK k u u).length := by rw [← e1, srt_length]
  have l3 := overK_length k u u
  have hlk := lk_one u T
  have cS := fun L h => icStab_ctr t T 60 u L h o1 (by omega)
  have cSt := fun L h => iStab_ctr (t := t) (T := T) (most := 60) (L := L) h u o1 (by omega)
  have cD := fun L h => iDepth_ctr (t := t) (T := T) (most := 60) (L := L) h (by omega)
  have cO := fun L => QOverlap_ctr b 60 k L u u (by omega)
  rw [e1] at cSt
  generalize T.fnd' u u = tot at *
  generalize T.lk u u = r at *
  (repeat first | refine G_seq ?_ | refine G_skip ?_ | refine G_endblk ?_ | refine G_block ?_ | refine G_exit rfl ?_)
  refine G_region ?_
  refine GO_q rfl rfl (ev_move rfl) ?_
  refine GO_q rfl rfl (ev_not rfl) ?_
  refine GO_nil ?_
  (repeat first | refine G_seq ?_ | refine G_skip ?_ | refine G_endblk ?_ | refine G_block ?_ | refine G_exit rfl ?_)
  refine G_cond_f rfl rfl ?_
  (repeat first | refine G_seq ?_ | refine G_skip ?_ | refine G_endblk ?_ | refine G_block ?_ | refine G_exit rfl ?_)
  (repeat first | refine G_seq ?_ | refine G_skip ?_ | refine G_endblk ?_ | refine G_block ?_ | refine G_exit rfl ?_)
  refine G_region ?_
  refine GO_q rfl rfl (ev_move rfl) ?_
  refine GO_q rfl rfl (ev_move rfl) ?_
  refine GO_eff rfl rfl (eff_call rfl (cS _ (hT _))) ?_; rintro _ _ ⟨cc, L1, rfl, hM1, rfl⟩
  refine GO_q rfl rfl (ev_assign rfl) ?_
  refine GO_nil ?_
  have cP := fun L hM => icStep_ctr cc r 0 u u tot L1 L ((kk % 9 : Nat) : Int) hM (by omega) (by decide)
  obtain ⟨m, hm⟩ : ∃ m, min (Int.toNat ((kk % 9 : Nat) : Int)) r = m := ⟨_, rfl⟩
  rw [hm] at cP
  have hmr : m ≤ r := by omega
  (repeat first | refine G_seq ?_ | refine G_skip ?_ | refine G_endblk ?_ | refine G_block ?_ | refine G_exit rfl ?_)
  refine G_region ?_
  refine GO_q rfl rfl (ev_move rfl) ?_
  refine GO_q rfl rfl (ev_move rfl) ?_
  refine GO_q rfl rfl (ev_remK (q := 9) rfl rfl (by decide)) ?_
  refine GO_q rfl rfl (ev_convU rfl (by omega)) ?_
  refine GO_eff rfl rfl (eff_call rfl (Ctr.pick (by repeat' first | exact Pick.here | apply Pick.skip | apply Pick.app) (cP _ (en_comp (by (repeat first | exact en_refl | (apply en_blk; focus ((repeat' first | exact Pick.here | apply Pick.skip | apply Pick.app); done); focus rfl) | (apply en_own; focus ((repeat' first | exact Pick.here | apply Pick.skip | apply Pick.app); done); focus rfl) | (apply en_pick; focus ((repeat' first | exact Pick.here | apply Pick.skip | apply Pick.app); done)) | apply en_drop | apply en_app) <;> fail) hM1)))) ?_; rintro _ _ ⟨rfl, rfl⟩
  refine GO_nil ?_
  have cP2 := fun L hM => icStep_ctr cc (r - m) (0 + m) u u tot L1 L 1000 hM (by omega) (by omega)
  rw [show min (Int.toNat 1000) (r - m) = r - m from by have : Int.toNat 1000 = 1000 := rfl; omega, Nat.sub_self, show 0 + m + (r - m) = r by omega] at cP2
  (repeat first | refine G_seq ?_ | refine G_skip ?_ | refine G_endblk ?_ | refine G_block ?_ | refine G_exit rfl ?_)
  refine G_region ?_
  refine GO_q rfl rfl (ev_move rfl) ?_
  refine GO_eff rfl rfl (eff_call rfl (Ctr.pick (by repeat' first | exact Pick.here | apply Pick.skip | apply Pick.app) (cP2 _ (en_comp (by (repeat first | exact en_refl | (apply en_blk; focus ((repeat' first | exact Pick.here | apply Pick.skip | apply Pick.app); done); focus rfl) | (apply en_own; focus ((repeat' first | exact Pick.here | apply Pick.skip | apply Pick.app); done); focus rfl) | (apply en_pick; focus ((repeat' first | exact Pick.here | apply Pick.skip | apply Pick.app); done)) | apply en_drop | apply en_app) <;> fail) hM1)))) ?_; rintro _ _ ⟨rfl, rfl⟩
  refine GO_nil ?_
  have cI := fun L => icIDs_ctr cc r u u tot L1 L (by omega)
  rw [e1, w1] at cI
  generalize overK k u u = q3 at *
  (repeat first | refine G_seq ?_ | refine G_skip ?_ | refine G_endblk ?_ | refine G_block ?_ | refine G_exit rfl ?_)
  refine G_region ?_
  refine GO_q rfl rfl (ev_move rfl) ?_
  refine GO_eff rfl rfl (eff_call rfl (Ctr.pick (by repeat' first | exact Pick.here | apply Pick.skip | apply Pick.app) (icDone_ctr cc 0 r u u tot L1 _))) ?_; rintro _ _ ⟨rfl, rfl⟩
  refine GO_q rfl rfl (ev_move rfl) ?_
  refine GO_yes rfl rfl rfl rfl ?_
  refine GO_q rfl rfl (ev_move rfl) ?_
  refine GO_yes rfl rfl rfl rfl ?_
  refine GO_eff rfl rfl (eff_call rfl (Ctr.pick (by repeat' first | exact Pick.here | apply Pick.skip | apply Pick.app) (cI _))) ?_; rintro _ _ ⟨B5, e6, rfl, ⟨u1, u2, u3⟩, rfl⟩
  refine GO_yes rfl rfl rfl rfl ?_
  refine GO_q rfl rfl (ev_move rfl) ?_
  refine GO_yes rfl rfl rfl rfl ?_
  refine GO_q rfl rfl (ev_move rfl) ?_
  refine GO_yes rfl rfl rfl rfl ?_
  refine GO_q rfl rfl (ev_move rfl) ?_
  refine GO_yes rfl rfl rfl rfl ?_
  refine GO_eff rfl rfl (eff_call rfl (Ctr.pick (by repeat' first | exact Pick.here | apply Pick.skip | apply Pick.app) (cO _))) ?_; rintro _ _ ⟨Y7, A7, c7, rfl, j1, j2, j3, rfl⟩
  refine GO_yes rfl rfl rfl rfl ?_
  refine GO_eff rfl rfl (eff_call rfl (Same_ctr B5 A7 _ _ e6 c7 q3 q3 _ (by repeat' first | exact Rc.own (flat_length _) u1 | apply Rd.skip) (j3 _) (by omega))) ?_; rintro _ _ ⟨rfl, rfl⟩
  refine GO_q rfl rfl (ev_pick_t rfl rfl rfl) ?_
  refine GO_q rfl rfl (ev_move rfl) ?_
  refine GO_yes rfl rfl rfl (decide_eq_true rfl) ?_
  refine GO_q rfl rfl (ev_move rfl) ?_
  refine GO_yes rfl rfl rfl (decide_eq_true rfl) ?_
  refine GO_q rfl rfl (ev_move rfl) ?_
  refine GO_yes rfl rfl rfl (decide_eq_true rfl) ?_
  refine GO_eff rfl rfl (eff_call rfl (cSt _ (by repeat' first | exact hT _ | apply TI.skip))) ?_; rintro _ _ ⟨A8, c8, rfl, v1, rfl⟩
  refine GO_yes rfl rfl rfl (decide_eq_true rfl) ?_
  refine GO_q rfl rfl (ev_move rfl) ?_
  refine GO_yes rfl rfl rfl (decide_eq_true rfl) ?_
  refine GO_eff rfl rfl (eff_call rfl (Ctr.pick (by repeat' first | exact Pick.here | apply Pick.skip | apply Pick.app) (cI _))) ?_; rintro _ _ ⟨B6, e7, rfl, ⟨w2, w3, w4⟩, rfl⟩
  refine GO_yes rfl rfl rfl (decide_eq_true rfl) ?_
  refine GO_eff rfl rfl (eff_call rfl (Same_ctr A8 B6 _ _ c8 e7 q3 q3 _ (by repeat' first | exact Rc.own (flat_length _) v1 | apply Rd.skip) (Rc.own (flat_length _) w2) (by omega))) ?_; rintro _ _ ⟨rfl, rfl⟩
  refine GO_q rfl rfl (ev_pick_t rfl (decide_eq_true rfl) rfl) ?_
  refine GO_q rfl rfl (ev_move rfl) ?_
  refine GO_yes rfl rfl rfl (decide_eq_true rfl) ?_
  refine GO_q rfl rfl (ev_move rfl) ?_
  refine GO_yes rfl rfl rfl (decide_eq_true rfl) ?_
  refine GO_eff rfl rfl (eff_call rfl (Ctr.pick (by repeat' first | exact Pick.here | apply Pick.skip | apply Pick.app) (icSteps_ctr cc 0 r u u tot L1 _))) ?_; rintro _ _ ⟨rfl, rfl⟩
  refine GO_yes rfl rfl rfl (decide_eq_true rfl) ?_
  refine GO_q rfl rfl (ev_move rfl) ?_
  refine GO_yes rfl rfl rfl (decide_eq_true rfl) ?_
  refine GO_eff rfl rfl (eff_call rfl (cD _ (by repeat' first | exact hT _ | apply TI.skip))) ?_; rintro _ _ ⟨rfl, rfl⟩
  refine GO_yes rfl rfl rfl (decide_eq_true rfl) ?_
  refine GO_q rfl rfl (ev_leq rfl rfl) ?_
  refine GO_q rfl rfl (ev_pick_t rfl (decide_eq_true rfl) rfl) ?_
  refine GO_q rfl rfl (ev_move rfl) ?_
  refine GO_yes rfl rfl rfl (decide_eq_true (by omega)) ?_
  refine GO_eff rfl rfl (eff_call rfl (lives21_ctr _)) ?_; rintro _ _ ⟨rfl, X9, rfl⟩
  refine GO_q rfl rfl (ev_pick_t rfl (decide_eq_true (by omega)) rfl) ?_
  refine GO_q rfl rfl (ev_assign rfl) ?_
  refine GO_nil ?_
  (repeat first | refine G_seq ?_ | refine G_skip ?_ | refine G_endblk ?_ | refine G_block ?_ | refine G_exit rfl ?_)
  exact G_ret (L' := L) rfl (.tmp rfl .nil) (by (repeat first | exact fun _ s => s | apply en_keep | apply en_drop | apply en_app) <;> fail) ⟨rfl, rfl⟩
theorem itcurStabs_walk (A : Option Addr) (n c : Nat) (ns : List Int) (u kk : Int) (w : World) (hc : n ≤ c) (hc2 : c ≤ maxLen) (hb : Ints ns) (h1 : Reads w 5 A n (ints ns)) (hk : (Lit.int .u8 kk).wf = true) :
    Calls Tryz.prog 11 #[.slice A n c, .int .i64 u, .int .u8 kk] w fun e w' => e = .returned (.bool true) ∧ Below w.heap.size w w' := by
  obtain ⟨kn, rfl, hk2⟩ := bounds_u8 hk
  obtain ⟨l, hl, hk'⟩ := rd_acts h1 hb
  exact law_of_ctr (ItcurStabs_ctr A n c l u kn _ hl (by unfold maxLen at hc2; omega) hk' hk2)
end Go.Proofs.YtjnmpogolknkpaaGreat
