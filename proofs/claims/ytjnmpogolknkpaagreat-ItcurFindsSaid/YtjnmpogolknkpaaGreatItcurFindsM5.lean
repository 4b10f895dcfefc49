/- Texts of the law ItcurFinds, one behind the other. -/
import Derived.Test.YtjnmpogolknkpaaGreatItcurFindsM4
import Derived.Test.YtjnmpogolknkpaaGreatItcurFindsM1
import Derived.Test.YtjnmpogolknkpaaGreatItcurFindsM3
import Derived.Test.YtjnmpogolknkpaaGreatItcurFindsM2
/- A tree of middles: put, cut. -/
namespace Go.Proofs.YtjnmpogolknkpaaGreat
attribute [local irreducible] sat
set_option linter.unusedVariables false
set_option linter.unusedSimpArgs false
set_option maxRecDepth 100000

theorem Mid_ctr (a b : Int) (ha : -9223372036854775808 ≤ a ∧ a ≤ 9223372036854775807) (hb : -9223372036854775808 ≤ b ∧ b ≤ 9223372036854775807) (L : List HP) : Ctr Tryz.prog 70 #[.int .i64 a, .int .i64 b] L fun v L' => v = .int .i64 ((a + b) / 2) ∧ L' = L := fun g F w hw =>
  (mid_any a b ha hb w).mono fun e w' ⟨h1, h2⟩ => ⟨_, L, h1, ⟨rfl, rfl⟩, h2 ▸ hw⟩
theorem one_ok {b : Nat} {A : Option Addr} {c : Nat} {C : Option Addr} {d : Nat} {s : Pt} (h : s.x ≤ s.y) : (IT.node b ((s.x + s.y) / 2) A c (srtO Pt.less [s]) C d (srtO Pt.ends [s]) ((srtO Pt.less [s]).length + IT.nil.size + IT.nil.size) .nil .nil).ok ∧ (IT.node b ((s.x + s.y) / 2) A c (srtO Pt.less [s]) C d (srtO Pt.ends [s]) ((srtO Pt.less [s]).length + IT.nil.size + IT.nil.size) .nil .nil).spans.Perm [s] := by
  have e : (srtO Pt.less [s]).length = 1 := srtO_length _
  refine ⟨⟨keep_kok (by simp) (fun t ht => ?_) (by simp [IT.spans]) (by simp [IT.spans]), rfl, ?_, ?_, trivial, trivial⟩, ?_⟩
  · have : t = s := by simpa using ht
    subst this; omega
  · rw [e]; simp [IT.size]
  · rw [e]; simp [IT.size]
  · simp only [IT.spans, List.append_nil]; exact srtO_perm _
theorem fit_one {b : Nat} {mid : Int} {A : Option Addr} {c : Nat} {p : List Pt} {C : Option Addr} {d : Nat} {q : List Pt} {m : Nat} {lo hi : IT} (f : (IT.node b mid A c p C d q m lo hi).fit) : Fit A c p C d q lo hi := ⟨f.1.1, f.1.2, f.2.1, f.2.2⟩
theorem cutOF {P : Program} {f : FuncId} {args : Array Value} {L : List HP} {T : TypeId} {m : List Pt} (h : Ctr P f args L fun r L' => ∃ A' c', r = .tuple #[.slice A' m.length c', .bool true] ∧ (0 < m.length → ∃ b, A' = some ⟨b, 0, none⟩) ∧ L' = own T 3 A' m.length c' (flat m) :: L) : Ctr P f args L fun r L' => ∃ A' c', r = .tuple #[.slice A' m.length c', .bool true] ∧ OF A' m.length c' ∧ L' = own T 3 A' m.length c' (flat m) :: L :=
  h.post' fun v L' hm ⟨A', c', e1, e2, e3⟩ s => by
    subst e3
    have q := own.facts s
    exact ⟨_, ⟨A', c', e1, ⟨e2, q.2.1, q.2.2.1⟩, rfl⟩, s⟩
theorem put_ctr : ∀ (T : IT) (s : Pt) (L : List HP), T.ok → T.fit → s.x ≤ s.y → (-9223372036854775808 ≤ s.x ∧ s.x ≤ 9223372036854775807) → (-9223372036854775808 ≤ s.y ∧ s.y ≤ 9223372036854775807) → s ∉ T.spans → T.spans.length ≤ 90000 →
    Ctr Tryz.prog 48 #[.pointer T.addr, s.v] (itH T :: L) fun v L' => MadeI (s :: T.spans) L v L'
  | .nil, s, L, ho, hft, hs, hx, hy, hm, hn => by
    have hone := fun b A c C d => one_ok (b := b) (A := A) (c := c) (C := C) (d := d) hs
    refine Ctr_of (fn := Tryz.f48) (n := 57) Tryz.func48 rfl rfl rfl ?_
    intro g F
    (repeat first | refine G_seq ?_ | refine G_skip ?_ | refine G_endblk ?_ | refine G_block ?_ | refine G_exit rfl ?_)
    refine G_region ?_
    refine GO_eff rfl rfl (eff_box rfl) ?_; rintro _ _ ⟨b3, rfl, rfl⟩
    refine GO_q rfl rfl (ev_assign rfl) ?_
    refine GO_nil ?_
    (repeat first | refine G_seq ?_ | refine G_skip ?_ | refine G_endblk ?_ | refine G_block ?_ | refine G_exit rfl ?_)
    refine G_region ?_
    refine GO_q rfl rfl (ev_move rfl) ?_
    (first | refine GO_q rfl rfl (ev_eqlNil rfl rfl) ?_ | refine GO_q rfl rfl (ev_eqlPtr rfl rfl) ?_)
    refine GO_nil ?_
    (repeat first | refine G_seq ?_ | refine G_skip ?_ | refine G_endblk ?_ | refine G_block ?_ | refine G_exit rfl ?_)
    refine G_cond_t rfl rfl ?_
    (repeat first | refine G_seq ?_ | refine G_skip ?_ | refine G_endblk ?_ | refine G_block ?_ | refine G_exit rfl ?_)
    refine G_draw (.q 0 (.q 1 (.q 2 (.q 3 (.q 7 (.br 4 (.q 5 (.br 6 (.e 8 (.e 9 (.e 10 (.q 11 .nil)))) 8 (.e 6 (.e 9 (.e 10 (.q 11 .nil)))))) 8 (.e 4 (.q 5 (.e 6 (.e 9 (.e 10 (.q 11 .nil)))))))))))) (by kernel_rfl) (by kernel_rfl) ?_
    refine RS_m retB_noPanic rfl rfl rfl rfl (ev_fieldAddr rfl) ?_
    refine RS_q retB_noPanic rfl rfl rfl rfl (ev_load rfl (by repeat' first | exact Ld.blk rfl | assumption | apply Ld.skip | apply Ld.app)) ?_
    refine RS_m retB_noPanic rfl rfl rfl rfl (ev_fieldAddr rfl) ?_
    refine RS_q retB_noPanic rfl rfl rfl rfl (ev_load rfl (by repeat' first | exact Ld.blk rfl | assumption | apply Ld.skip | apply Ld.app)) ?_
    refine RS_q retB_noPanic rfl rfl rfl rfl (ev_loadN rfl (by repeat' first | exact LdN.blk rfl | assumption | apply LdN.skip | apply LdN.app)) ?_
    refine RS_br ?x128_0 ?x128_1
    case' x128_1 =>
      refine RE_eff rfl rfl rfl (eff_buildSlice1 (by rfl) rfl rfl) ?_; rintro _ _ ⟨b16, rfl, rfl⟩; refine ⟨_, fun _ s => s, (by first | ((repeat first | exact fun _ s => s | apply en_keep | apply en_drop | apply en_app) <;> fail) | ((repeat first | exact en_refl | (apply en_blk; focus ((repeat' first | exact Pick.here | apply Pick.skip | apply Pick.app); done); focus rfl) | (apply en_own; focus ((repeat' first | exact Pick.here | apply Pick.skip | apply Pick.app); done); focus rfl) | (apply en_pick; focus ((repeat' first | exact Pick.here | apply Pick.skip | apply Pick.app); done)) | apply en_drop | apply en_app) <;> fail)), ?_⟩
      refine RS_e (RE_eff rfl rfl rfl (eff_call rfl (Mid_ctr s.x s.y hx hy _)) ?_); rintro _ _ ⟨rfl, rfl⟩; refine ⟨_, fun _ s => s, (by first | ((repeat first | exact fun _ s => s | apply en_keep | apply en_drop | apply en_app) <;> fail) | ((repeat first | exact en_refl | (apply en_blk; focus ((repeat' first | exact Pick.here | apply Pick.skip | apply Pick.app); done); focus rfl) | (apply en_own; focus ((repeat' first | exact Pick.here | apply Pick.skip | apply Pick.app); done); focus rfl) | (apply en_pick; focus ((repeat' first | exact Pick.here | apply Pick.skip | apply Pick.app); done)) | apply en_drop | apply en_app) <;> fail)), ?_⟩
      refine RS_m retB_noPanic rfl rfl rfl rfl (ev_build rfl rfl) ?_
      refine RS_e (RE_eff rfl rfl rfl (eff_box rfl) ?_); rintro _ _ ⟨b14, rfl, rfl⟩; refine ⟨_, fun _ s => s, (by first | ((repeat first | exact fun _ s => s | apply en_keep | apply en_drop | apply en_app) <;> fail) | ((repeat first | exact en_refl | (apply en_blk; focus ((repeat' first | exact Pick.here | apply Pick.skip | apply Pick.app); done); focus rfl) | (apply en_own; focus ((repeat' first | exact Pick.here | apply Pick.skip | apply Pick.app); done); focus rfl) | (apply en_pick; focus ((repeat' first | exact Pick.here | apply Pick.skip | apply Pick.app); done)) | apply en_drop | apply en_app) <;> fail)), ?_⟩
      refine RS_e (RE_cmp (by kernel_rfl) rfl rfl rfl (eff_call rfl (Ctr.pick (by repeat' first | exact Pick.here | apply Pick.skip | apply Pick.app) (keep_ctr b14 ((s.x + s.y) / 2) none none 0 0 0 0 none none 0 (some ⟨b16, 0, none⟩) 1 1 [s] _ (by repeat' first | exact Rc.blk rfl | assumption | apply Rd.skip | apply Rd.app) (by omega) (Nat.le_refl _)))) ?_); rintro _ _ ⟨A', c', C', d', rfl, ⟨y1, y2⟩, rfl⟩
      refine RS_e (RE_cmp (by kernel_rfl) rfl rfl rfl (eff_call rfl (Ctr.pre (M := itM b14 ((s.x + s.y) / 2) A' c' (srtO Pt.less [s]) C' d' (srtO Pt.ends [s]) 0 .nil .nil (F :: L)) (by (repeat first | exact en_refl | apply en_nil' | (apply en_blk; focus ((repeat' first | exact Pick.here | apply Pick.skip | apply Pick.app); done); focus rfl) | (apply en_own; focus ((repeat' first | exact Pick.here | apply Pick.skip | apply Pick.app); done); focus rfl) | (apply en_pick; focus ((repeat' first | exact Pick.here | apply Pick.skip | apply Pick.app); done)) | apply en_drop | apply en_app) <;> fail) (note_ctr (lo := .nil) (hi := .nil) ⟨y1, y2, trivial, trivial⟩ b14 ((s.x + s.y) / 2) 0 _ (by rw [srtO_length]; simp) (by simp [IT.size]) (by simp [IT.size])))) ?_); rintro _ _ ⟨rfl, rfl⟩
      refine RS_m retB_noPanic rfl rfl rfl rfl (ev_assign rfl) ?_
      refine RS_nil ?_
    case' x128_0 =>
      refine RE_eff rfl rfl rfl (eff_call rfl (Mid_ctr s.x s.y hx hy _)) ?_; rintro _ _ ⟨rfl, rfl⟩; refine ⟨_, fun _ s => s, (by first | ((repeat first | exact fun _ s => s | apply en_keep | apply en_drop | apply en_app) <;> fail) | ((repeat first | exact en_refl | (apply en_blk; focus ((repeat' first | exact Pick.here | apply Pick.skip | apply Pick.app); done); focus rfl) | (apply en_own; focus ((repeat' first | exact Pick.here | apply Pick.skip | apply Pick.app); done); focus rfl) | (apply en_pick; focus ((repeat' first | exact Pick.here | apply Pick.skip | apply Pick.app); done)) | apply en_drop | apply en_app) <;> fail)), ?_⟩
      refine RS_m retB_noPanic rfl rfl rfl rfl (ev_build rfl rfl) ?_
      refine RS_br ?x129_0 ?x129_1
      case' x129_1 =>
        refine RE_eff rfl rfl rfl (eff_buildSlice1 (by rfl) rfl rfl) ?_; rintro _ _ ⟨b16, rfl, rfl⟩; refine ⟨_, fun _ s => s, (by first | ((repeat first | exact fun _ s => s | apply en_keep | apply en_drop | apply en_app) <;> fail) | ((repeat first | exact en_refl | (apply en_blk; focus ((repeat' first | exact Pick.here | apply Pick.skip | apply Pick.app); done); focus rfl) | (apply en_own; focus ((repeat' first | exact Pick.here | apply Pick.skip | apply Pick.app); done); focus rfl) | (apply en_pick; focus ((repeat' first | exact Pick.here | apply Pick.skip | apply Pick.app); done)) | apply en_drop | apply en_app) <;> fail)), ?_⟩
        refine RS_e (RE_eff rfl rfl rfl (eff_box rfl) ?_); rintro _ _ ⟨b14, rfl, rfl⟩; refine ⟨_, fun _ s => s, (by first | ((repeat first | exact fun _ s => s | apply en_keep | apply en_drop | apply en_app) <;> fail) | ((repeat first | exact en_refl | (apply en_blk; focus ((repeat' first | exact Pick.here | apply Pick.skip | apply Pick.app); done); focus rfl) | (apply en_own; focus ((repeat' first | exact Pick.here | apply Pick.skip | apply Pick.app); done); focus rfl) | (apply en_pick; focus ((repeat' first | exact Pick.here | apply Pick.skip | apply Pick.app); done)) | apply en_drop | apply en_app) <;> fail)), ?_⟩
        refine RS_e (RE_cmp (by kernel_rfl) rfl rfl rfl (eff_call rfl (Ctr.pick (by repeat' first | exact Pick.here | apply Pick.skip | apply Pick.app) (keep_ctr b14 ((s.x + s.y) / 2) none none 0 0 0 0 none none 0 (some ⟨b16, 0, none⟩) 1 1 [s] _ (by repeat' first | exact Rc.blk rfl | assumption | apply Rd.skip | apply Rd.app) (by omega) (Nat.le_refl _)))) ?_); rintro _ _ ⟨A', c', C', d', rfl, ⟨y1, y2⟩, rfl⟩
        refine RS_e (RE_cmp (by kernel_rfl) rfl rfl rfl (eff_call rfl (Ctr.pre (M := itM b14 ((s.x + s.y) / 2) A' c' (srtO Pt.less [s]) C' d' (srtO Pt.ends [s]) 0 .nil .nil (F :: L)) (by (repeat first | exact en_refl | apply en_nil' | (apply en_blk; focus ((repeat' first | exact Pick.here | apply Pick.skip | apply Pick.app); done); focus rfl) | (apply en_own; focus ((repeat' first | exact Pick.here | apply Pick.skip | apply Pick.app); done); focus rfl) | (apply en_pick; focus ((repeat' first | exact Pick.here | apply Pick.skip | apply Pick.app); done)) | apply en_drop | apply en_app) <;> fail) (note_ctr (lo := .nil) (hi := .nil) ⟨y1, y2, trivial, trivial⟩ b14 ((s.x + s.y) / 2) 0 _ (by rw [srtO_length]; simp) (by simp [IT.size]) (by simp [IT.size])))) ?_); rintro _ _ ⟨rfl, rfl⟩
        refine RS_m retB_noPanic rfl rfl rfl rfl (ev_assign rfl) ?_
        refine RS_nil ?_
      case' x129_0 =>
        refine RE_eff rfl rfl rfl (eff_box rfl) ?_; rintro _ _ ⟨b14, rfl, rfl⟩; refine ⟨_, fun _ s => s, (by first | ((repeat first | exact fun _ s => s | apply en_keep | apply en_drop | apply en_app) <;> fail) | ((repeat first | exact en_refl | (apply en_blk; focus ((repeat' first | exact Pick.here | apply Pick.skip | apply Pick.app); done); focus rfl) | (apply en_own; focus ((repeat' first | exact Pick.here | apply Pick.skip | apply Pick.app); done); focus rfl) | (apply en_pick; focus ((repeat' first | exact Pick.here | apply Pick.skip | apply Pick.app); done)) | apply en_drop | apply en_app) <;> fail)), ?_⟩
        refine RS_e (RE_eff rfl rfl rfl (eff_buildSlice1 (by rfl) rfl rfl) ?_); rintro _ _ ⟨b16, rfl, rfl⟩; refine ⟨_, fun _ s => s, (by first | ((repeat first | exact fun _ s => s | apply en_keep | apply en_drop | apply en_app) <;> fail) | ((repeat first | exact en_refl | (apply en_blk; focus ((repeat' first | exact Pick.here | apply Pick.skip | apply Pick.app); done); focus rfl) | (apply en_own; focus ((repeat' first | exact Pick.here | apply Pick.skip | apply Pick.app); done); focus rfl) | (apply en_pick; focus ((repeat' first | exact Pick.here | apply Pick.skip | apply Pick.app); done)) | apply en_drop | apply en_app) <;> fail)), ?_⟩
        refine RS_e (RE_cmp (by kernel_rfl) rfl rfl rfl (eff_call rfl (Ctr.pick (by repeat' first | exact Pick.here | apply Pick.skip | apply Pick.app) (keep_ctr b14 ((s.x + s.y) / 2) none none 0 0 0 0 none none 0 (some ⟨b16, 0, none⟩) 1 1 [s] _ (by repeat' first | exact Rc.blk rfl | assumption | apply Rd.skip | apply Rd.app) (by omega) (Nat.le_refl _)))) ?_); rintro _ _ ⟨A', c', C', d', rfl, ⟨y1, y2⟩, rfl⟩
        refine RS_e (RE_cmp (by kernel_rfl) rfl rfl rfl (eff_call rfl (Ctr.pre (M := itM b14 ((s.x + s.y) / 2) A' c' (srtO Pt.less [s]) C' d' (srtO Pt.ends [s]) 0 .nil .nil (F :: L)) (by (repeat first | exact en_refl | apply en_nil' | (apply en_blk; focus ((repeat' first | exact Pick.here | apply Pick.skip | apply Pick.app); done); focus rfl) | (apply en_own; focus ((repeat' first | exact Pick.here | apply Pick.skip | apply Pick.app); done); focus rfl) | (apply en_pick; focus ((repeat' first | exact Pick.here | apply Pick.skip | apply Pick.app); done)) | apply en_drop | apply en_app) <;> fail) (note_ctr (lo := .nil) (hi := .nil) ⟨y1, y2, trivial, trivial⟩ b14 ((s.x + s.y) / 2) 0 _ (by rw [srtO_length]; simp) (by simp [IT.size]) (by simp [IT.size])))) ?_); rintro _ _ ⟨rfl, rfl⟩
        refine RS_m retB_noPanic rfl rfl rfl rfl (ev_assign rfl) ?_
        refine RS_nil ?_
    all_goals
      (repeat first | refine G_seq ?_ | refine G_skip ?_ | refine G_endblk ?_ | refine G_block ?_ | refine G_exit rfl ?_)
      exact G_ret (L' := itH (.node b14 ((s.x + s.y) / 2) A' c' (srtO Pt.less [s]) C' d' (srtO Pt.ends [s]) ((srtO Pt.less [s]).length + IT.nil.size + IT.nil.size) .nil .nil) :: L) rfl (.tmp rfl .nil) (fun h s => (en_it (M := F :: L) (fun _ s => s) h s).swap) ⟨_, ⟨(hone _ _ _ _ _).1, ⟨⟨y1, y2⟩, trivial, trivial⟩, (hone _ _ _ _ _).2⟩, rfl, rfl⟩
  | .node b mid A c p C d q m lo hi, s, L, ho, hft, hs, hx, hy, hm, hn => by
    have ih1 := fun M h1 h2 => put_ctr lo s M h1 hft.2.1 hs hx hy h2
    have ih2 := fun M h1 h2 => put_ctr hi s M h1 hft.2.2 hs hx hy h2
    have hft' := fit_one hft
    obtain ⟨hk, e1, e2, e3, o1, o2⟩ := ho
    have hk' := hk
    obtain ⟨a1, a2, a3, a4, a5⟩ := hk'
    have hasq := kok_asc hk
    have hql : q.length = p.length := by rw [a2, srtO_length]
    simp only [IT.spans, List.mem_append, not_or] at hm
    simp only [IT.spans, List.length_append] at hn
    have ep : (IT.node b mid A c p C d q m lo hi).spans = p ++ (lo.spans ++ hi.spans) := rfl
    rw [ep]
    have iin := fun M => itM_in hft' b mid m M
    have hsd := fun M => side_ctr b mid s M
    refine Ctr.open (ι := Unit) (Fa := fun _ => True) (N := fun _ => itL b mid A c p C d q m lo hi) (fun _ h => ⟨(), trivial, h⟩) fun _ _ => ?_
    show Ctr _ _ _ (blk b 92 (inC mid A p.length c C q.length d lo.addr hi.addr m) :: own 24 3 A p.length c (flat p) :: own 24 3 C q.length d (flat q) :: itH lo :: itH hi :: L) _
    by_cases c1 : s.y < mid
    · have e : sideI mid s = 0 := by unfold sideI; rw [if_pos c1]
      rw [e] at hsd
      refine Ctr_of (fn := Tryz.f48) (n := 57) Tryz.func48 rfl rfl rfl ?_
      intro g F
      (repeat first | refine G_seq ?_ | refine G_skip ?_ | refine G_endblk ?_ | refine G_block ?_ | refine G_exit rfl ?_)
      refine G_region ?_
      refine GO_eff rfl rfl (eff_box rfl) ?_; rintro _ _ ⟨b3, rfl, rfl⟩
      refine GO_q rfl rfl (ev_assign rfl) ?_
      refine GO_nil ?_
      (repeat first | refine G_seq ?_ | refine G_skip ?_ | refine G_endblk ?_ | refine G_block ?_ | refine G_exit rfl ?_)
      refine G_region ?_
      refine GO_q rfl rfl (ev_move rfl) ?_
      (first | refine GO_q rfl rfl (ev_eqlNil rfl rfl) ?_ | refine GO_q rfl rfl (ev_eqlPtr rfl rfl) ?_)
      refine GO_nil ?_
      (repeat first | refine G_seq ?_ | refine G_skip ?_ | refine G_endblk ?_ | refine G_block ?_ | refine G_exit rfl ?_)
      refine G_cond_f rfl rfl ?_
      (repeat first | refine G_seq ?_ | refine G_skip ?_ | refine G_endblk ?_ | refine G_block ?_ | refine G_exit rfl ?_)
      refine G_region ?_
      refine GO_q rfl rfl (ev_move rfl) ?_
      refine GO_q rfl rfl (ev_loadN rfl (by repeat' first | exact LdN.blk rfl | assumption | apply LdN.skip | apply LdN.app)) ?_
      refine GO_eff rfl rfl (eff_call rfl (hsd _ (by repeat' first | exact Ld.blk rfl | assumption | apply Ld.skip | apply Ld.app))) ?_; rintro _ _ ⟨rfl, rfl⟩
      refine GO_q rfl rfl (ev_assign rfl) ?_
      refine GO_nil ?_
      (repeat first | refine G_seq ?_ | refine G_skip ?_ | refine G_endblk ?_ | refine G_block ?_ | refine G_exit rfl ?_)
      refine G_region ?_
      refine GO_q rfl rfl (ev_move rfl) ?_
      refine GO_q rfl rfl (ev_geq rfl rfl) ?_
      refine GO_nil ?_
      (repeat first | refine G_seq ?_ | refine G_skip ?_ | refine G_endblk ?_ | refine G_block ?_ | refine G_exit rfl ?_)
      refine G_cond_t rfl rfl ?_
      (repeat first | refine G_seq ?_ | refine G_skip ?_ | refine G_endblk ?_ | refine G_block ?_ | refine G_exit rfl ?_)
      refine G_drawE 5 (.q 0 (.q 1 (.q 2 (.q 3 (.q 4 (.q 5 (.q 6 (.q 7 (.q 8 (.q 10 (.q 11 (.e 9 (.q 12 (.e 13 .nil)))))))))))))) (by kernel_rfl) (by kernel_rfl) ?_
      refine RS_m retB_noPanic rfl rfl rfl rfl (ev_move rfl) ?_
      refine RS_m retB_noPanic rfl rfl rfl rfl (ev_move rfl) ?_
      refine RS_m retB_noPanic rfl rfl rfl rfl (ev_move rfl) ?_
      refine RS_m retB_noPanic rfl rfl rfl rfl (ev_move rfl) ?_
      (first | refine RS_m retB_noPanic rfl rfl rfl rfl (ev_nilCheck rfl) ?_ | refine RS_m retB_noPanic rfl rfl rfl rfl (ev_nilCheckF (by simp) rfl) ?_)
      refine RS_m retB_noPanic rfl rfl rfl rfl (ev_fieldAddr rfl) ?_
      refine RS_m retB_noPanic rfl rfl rfl rfl (ev_indexAddrA rfl rfl (by first | omega | (simp; done) | (simp; omega)) (by first | omega | (simp; done) | (simp; omega))) ?_
      refine RS_q retB_noPanic rfl rfl rfl rfl (ev_load rfl (by repeat' first | exact Ld.blk rfl | assumption | apply Ld.skip | apply Ld.app)) ?_
      refine RS_q retB_noPanic rfl rfl rfl rfl (ev_loadN rfl (by repeat' first | exact LdN.blk rfl | assumption | apply LdN.skip | apply LdN.app)) ?_
      (first | refine RS_m retB_noPanic rfl rfl rfl rfl (ev_nilCheck rfl) ?_ | refine RS_m retB_noPanic rfl rfl rfl rfl (ev_nilCheckF (by simp) rfl) ?_)
      refine RS_m retB_noPanic rfl rfl rfl rfl (ev_fieldAddr rfl) ?_
      refine RS_e (RE_cmp (by kernel_rfl) rfl rfl rfl (eff_call rfl (Ctr.pick (by repeat' first | exact Pick.here | apply Pick.skip | apply Pick.app) (ih1 _ o1 hm.2.1 (by omega)))) ?_); rintro _ _ ⟨T, ⟨t1, t2, t3⟩, rfl, rfl⟩
      refine RS_m retB_noPanic rfl rfl rfl rfl (ev_indexAddrA rfl rfl (by first | omega | (simp; done) | (simp; omega)) (by first | omega | (simp; done) | (simp; omega))) ?_
      refine RS_e (RE_last (by kernel_rfl) rfl rfl rfl (eff_store rfl rfl rfl (by repeat' first | exact Upd.here rfl | apply Upd.skip | apply Upd.app)) ?_); rintro _ _ ⟨rfl, rfl⟩
      have g1 := t3.length_eq
      simp only [List.length_cons] at g1
      have hkT : IT.kok mid p q T.spans hi.spans := ⟨a1, a2, a3, fun t ht => (List.mem_cons.1 (t3.subset ht)).elim (fun h => h ▸ c1) (a4 t), a5⟩
      (repeat first | refine G_seq ?_ | refine G_skip ?_ | refine G_endblk ?_ | refine G_block ?_ | refine G_exit rfl ?_)
      refine G_region ?_
      refine GO_q rfl rfl (ev_move rfl) ?_
      refine GO_eff rfl rfl (eff_call rfl (Ctr.pre (M := itM b mid A c p C d q m T hi (F :: L)) (by unfold itM; exact (by (repeat first | exact en_refl | (apply en_blk; focus ((repeat' first | exact Pick.here | apply Pick.skip | apply Pick.app); done); focus rfl) | (apply en_own; focus ((repeat' first | exact Pick.here | apply Pick.skip | apply Pick.app); done); focus rfl) | (apply en_pick; focus ((repeat' first | exact Pick.here | apply Pick.skip | apply Pick.app); done)) | apply en_drop | apply en_app) <;> fail)) (even_ctr ⟨hft'.p, hft'.q, t2, hft'.hi⟩ b mid m _ hkT t1 o2 (by omega) (s :: (p ++ (lo.spans ++ hi.spans))) (((t3.append_right _).append_left p).trans List.perm_middle)))) ?_; rintro _ _ ⟨T9, ⟨v1, v2, v3⟩, rfl, rfl⟩
      refine GO_q rfl rfl (ev_assign rfl) ?_
      refine GO_nil ?_
      (repeat first | refine G_seq ?_ | refine G_skip ?_ | refine G_endblk ?_ | refine G_block ?_ | refine G_exit rfl ?_)
      exact G_ret (L' := itH T9 :: L) rfl (.tmp rfl .nil) (fun h s => s.swap) ⟨T9, ⟨v1, v2, v3⟩, rfl, rfl⟩
    · by_cases c2 : mid < s.x
      · have e : sideI mid s = 1 := by unfold sideI; rw [if_neg c1, if_pos c2]
        rw [e] at hsd
        refine Ctr_of (fn := Tryz.f48) (n := 57) Tryz.func48 rfl rfl rfl ?_
        intro g F
        (repeat first | refine G_seq ?_ | refine G_skip ?_ | refine G_endblk ?_ | refine G_block ?_ | refine G_exit rfl ?_)
        refine G_region ?_
        refine GO_eff rfl rfl (eff_box rfl) ?_; rintro _ _ ⟨b3, rfl, rfl⟩
        refine GO_q rfl rfl (ev_assign rfl) ?_
        refine GO_nil ?_
        (repeat first | refine G_seq ?_ | refine G_skip ?_ | refine G_endblk ?_ | refine G_block ?_ | refine G_exit rfl ?_)
        refine G_region ?_
        refine GO_q rfl rfl (ev_move rfl) ?_
        (first | refine GO_q rfl rfl (ev_eqlNil rfl rfl) ?_ | refine GO_q rfl rfl (ev_eqlPtr rfl rfl) ?_)
        refine GO_nil ?_
        (repeat first | refine G_seq ?_ | refine G_skip ?_ | refine G_endblk ?_ | refine G_block ?_ | refine G_exit rfl ?_)
        refine G_cond_f rfl rfl ?_
        (repeat first | refine G_seq ?_ | refine G_skip ?_ | refine G_endblk ?_ | refine G_block ?_ | refine G_exit rfl ?_)
        refine G_region ?_
        refine GO_q rfl rfl (ev_move rfl) ?_
        refine GO_q rfl rfl (ev_loadN rfl (by repeat' first | exact LdN.blk rfl | assumption | apply LdN.skip | apply LdN.app)) ?_
        refine GO_eff rfl rfl (eff_call rfl (hsd _ (by repeat' first | exact Ld.blk rfl | assumption | apply Ld.skip | apply Ld.app))) ?_; rintro _ _ ⟨rfl, rfl⟩
        refine GO_q rfl rfl (ev_assign rfl) ?_
        refine GO_nil ?_
        (repeat first | refine G_seq ?_ | refine G_skip ?_ | refine G_endblk ?_ | refine G_block ?_ | refine G_exit rfl ?_)
        refine G_region ?_
        refine GO_q rfl rfl (ev_move rfl) ?_
        refine GO_q rfl rfl (ev_geq rfl rfl) ?_
        refine GO_nil ?_
        (repeat first | refine G_seq ?_ | refine G_skip ?_ | refine G_endblk ?_ | refine G_block ?_ | refine G_exit rfl ?_)
        refine G_cond_t rfl rfl ?_
        (repeat first | refine G_seq ?_ | refine G_skip ?_ | refine G_endblk ?_ | refine G_block ?_ | refine G_exit rfl ?_)
        refine G_drawE 6 (.q 0 (.q 1 (.q 2 (.q 3 (.q 4 (.q 5 (.q 6 (.q 7 (.q 8 (.q 10 (.q 11 (.e 9 (.q 12 (.e 13 .nil)))))))))))))) (by kernel_rfl) (by kernel_rfl) ?_
        refine RS_m retB_noPanic rfl rfl rfl rfl (ev_move rfl) ?_
        refine RS_m retB_noPanic rfl rfl rfl rfl (ev_move rfl) ?_
        refine RS_m retB_noPanic rfl rfl rfl rfl (ev_move rfl) ?_
        refine RS_m retB_noPanic rfl rfl rfl rfl (ev_move rfl) ?_
        (first | refine RS_m retB_noPanic rfl rfl rfl rfl (ev_nilCheck rfl) ?_ | refine RS_m retB_noPanic rfl rfl rfl rfl (ev_nilCheckF (by simp) rfl) ?_)
        refine RS_m retB_noPanic rfl rfl rfl rfl (ev_fieldAddr rfl) ?_
        refine RS_m retB_noPanic rfl rfl rfl rfl (ev_indexAddrA rfl rfl (by first | omega | (simp; done) | (simp; omega)) (by first | omega | (simp; done) | (simp; omega))) ?_
        refine RS_q retB_noPanic rfl rfl rfl rfl (ev_load rfl (by repeat' first | exact Ld.blk rfl | assumption | apply Ld.skip | apply Ld.app)) ?_
        refine RS_q retB_noPanic rfl rfl rfl rfl (ev_loadN rfl (by repeat' first | exact LdN.blk rfl | assumption | apply LdN.skip | apply LdN.app)) ?_
        (first | refine RS_m retB_noPanic rfl rfl rfl rfl (ev_nilCheck rfl) ?_ | refine RS_m retB_noPanic rfl rfl rfl rfl (ev_nilCheckF (by simp) rfl) ?_)
        refine RS_m retB_noPanic rfl rfl rfl rfl (ev_fieldAddr rfl) ?_
        refine RS_e (RE_cmp (by kernel_rfl) rfl rfl rfl (eff_call rfl (Ctr.pick (by repeat' first | exact Pick.here | apply Pick.skip | apply Pick.app) (ih2 _ o2 hm.2.2 (by omega)))) ?_); rintro _ _ ⟨T, ⟨t1, t2, t3⟩, rfl, rfl⟩
        refine RS_m retB_noPanic rfl rfl rfl rfl (ev_indexAddrA rfl rfl (by first | omega | (simp; done) | (simp; omega)) (by first | omega | (simp; done) | (simp; omega))) ?_
        refine RS_e (RE_last (by kernel_rfl) rfl rfl rfl (eff_store rfl rfl rfl (by repeat' first | exact Upd.here rfl | apply Upd.skip | apply Upd.app)) ?_); rintro _ _ ⟨rfl, rfl⟩
        have g1 := t3.length_eq
        simp only [List.length_cons] at g1
        have hkT : IT.kok mid p q lo.spans T.spans := ⟨a1, a2, a3, a4, fun t ht => (List.mem_cons.1 (t3.subset ht)).elim (fun h => h ▸ c2) (a5 t)⟩
        (repeat first | refine G_seq ?_ | refine G_skip ?_ | refine G_endblk ?_ | refine G_block ?_ | refine G_exit rfl ?_)
        refine G_region ?_
        refine GO_q rfl rfl (ev_move rfl) ?_
        refine GO_eff rfl rfl (eff_call rfl (Ctr.pre (M := itM b mid A c p C d q m lo T (F :: L)) (by unfold itM; exact (by (repeat first | exact en_refl | (apply en_blk; focus ((repeat' first | exact Pick.here | apply Pick.skip | apply Pick.app); done); focus rfl) | (apply en_own; focus ((repeat' first | exact Pick.here | apply Pick.skip | apply Pick.app); done); focus rfl) | (apply en_pick; focus ((repeat' first | exact Pick.here | apply Pick.skip | apply Pick.app); done)) | apply en_drop | apply en_app) <;> fail)) (even_ctr ⟨hft'.p, hft'.q, hft'.lo, t2⟩ b mid m _ hkT o1 t1 (by omega) (s :: (p ++ (lo.spans ++ hi.spans))) ((((t3.append_left _).trans List.perm_middle).append_left p).trans List.perm_middle)))) ?_; rintro _ _ ⟨T9, ⟨v1, v2, v3⟩, rfl, rfl⟩
        refine GO_q rfl rfl (ev_assign rfl) ?_
        refine GO_nil ?_
        (repeat first | refine G_seq ?_ | refine G_skip ?_ | refine G_endblk ?_ | refine G_block ?_ | refine G_exit rfl ?_)
        exact G_ret (L' := itH T9 :: L) rfl (.tmp rfl .nil) (fun h s => s.swap) ⟨T9, ⟨v1, v2, v3⟩, rfl, rfl⟩
      · have e : sideI mid s = -1 := by unfold sideI; rw [if_neg c1, if_neg c2]
        rw [e] at hsd
        have hkT := kok_put hk hm.1 (by omega)
        have rp : ∀ M, Rd (own 24 3 A p.length c (flat p) :: M) A p.length p := fun M => Rc.own (flat_length _) hft'.p.a
        have rq : ∀ M, Rd (own 24 3 C q.length d (flat q) :: M) C q.length q := fun M => Rc.own (flat_length _) hft'.q.a
        have w1 := fun M h => (PutO_ctr less_ls sto_less A p.length c p s M h (by omega) a1).made
        have w2 := fun M h => (PutO_ctr ends_ls sto_ends C q.length d q s M h (by omega) hasq).made
        have w3 : (putO Pt.less s p).length = p.length + 1 := putO_length s p
        have w4 := putO_perm (ls := Pt.less) s p
        generalize putO Pt.less s p = p' at *
        generalize putO Pt.ends s q = q' at *
        refine Ctr_of (fn := Tryz.f48) (n := 57) Tryz.func48 rfl rfl rfl ?_
        intro g F
        (repeat first | refine G_seq ?_ | refine G_skip ?_ | refine G_endblk ?_ | refine G_block ?_ | refine G_exit rfl ?_)
        refine G_region ?_
        refine GO_eff rfl rfl (eff_box rfl) ?_; rintro _ _ ⟨b3, rfl, rfl⟩
        refine GO_q rfl rfl (ev_assign rfl) ?_
        refine GO_nil ?_
        (repeat first | refine G_seq ?_ | refine G_skip ?_ | refine G_endblk ?_ | refine G_block ?_ | refine G_exit rfl ?_)
        refine G_region ?_
        refine GO_q rfl rfl (ev_move rfl) ?_
        (first | refine GO_q rfl rfl (ev_eqlNil rfl rfl) ?_ | refine GO_q rfl rfl (ev_eqlPtr rfl rfl) ?_)
        refine GO_nil ?_
        (repeat first | refine G_seq ?_ | refine G_skip ?_ | refine G_endblk ?_ | refine G_block ?_ | refine G_exit rfl ?_)
        refine G_cond_f rfl rfl ?_
        (repeat first | refine G_seq ?_ | refine G_skip ?_ | refine G_endblk ?_ | refine G_block ?_ | refine G_exit rfl ?_)
        refine G_region ?_
        refine GO_q rfl rfl (ev_move rfl) ?_
        refine GO_q rfl rfl (ev_loadN rfl (by repeat' first | exact LdN.blk rfl | assumption | apply LdN.skip | apply LdN.app)) ?_
        refine GO_eff rfl rfl (eff_call rfl (hsd _ (by repeat' first | exact Ld.blk rfl | assumption | apply Ld.skip | apply Ld.app))) ?_; rintro _ _ ⟨rfl, rfl⟩
        refine GO_q rfl rfl (ev_assign rfl) ?_
        refine GO_nil ?_
        (repeat first | refine G_seq ?_ | refine G_skip ?_ | refine G_endblk ?_ | refine G_block ?_ | refine G_exit rfl ?_)
        refine G_region ?_
        refine GO_q rfl rfl (ev_move rfl) ?_
        refine GO_q rfl rfl (ev_geq rfl rfl) ?_
        refine GO_nil ?_
        (repeat first | refine G_seq ?_ | refine G_skip ?_ | refine G_endblk ?_ | refine G_block ?_ | refine G_exit rfl ?_)
        refine G_cond_f rfl rfl ?_
        (repeat first | refine G_seq ?_ | refine G_skip ?_ | refine G_endblk ?_ | refine G_block ?_ | refine G_exit rfl ?_)
        refine G_draw (.q 0 (.q 1 (.q 2 (.q 3 (.q 4 (.q 5 (.q 6 (.q 8 (.q 9 (.q 10 (.q 11 (.q 12 (.e 7 (.e 13 (.q 14 (.q 15 (.e 16 (.q 17 (.q 18 (.e 19 .nil)))))))))))))))))))) (by kernel_rfl) (by kernel_rfl) ?_
        refine RS_m retB_noPanic rfl rfl rfl rfl (ev_move rfl) ?_
        refine RS_m retB_noPanic rfl rfl rfl rfl (ev_move rfl) ?_
        refine RS_m retB_noPanic rfl rfl rfl rfl (ev_move rfl) ?_
        (first | refine RS_m retB_noPanic rfl rfl rfl rfl (ev_nilCheck rfl) ?_ | refine RS_m retB_noPanic rfl rfl rfl rfl (ev_nilCheckF (by simp) rfl) ?_)
        refine RS_m retB_noPanic rfl rfl rfl rfl (ev_fieldAddr rfl) ?_
        refine RS_q retB_noPanic rfl rfl rfl rfl (ev_load rfl (by repeat' first | exact Ld.blk rfl | assumption | apply Ld.skip | apply Ld.app)) ?_
        refine RS_q retB_noPanic rfl rfl rfl rfl (ev_loadN rfl (by repeat' first | exact LdN.blk rfl | assumption | apply LdN.skip | apply LdN.app)) ?_
        refine RS_m retB_noPanic rfl rfl rfl rfl (ev_move rfl) ?_
        (first | refine RS_m retB_noPanic rfl rfl rfl rfl (ev_nilCheck rfl) ?_ | refine RS_m retB_noPanic rfl rfl rfl rfl (ev_nilCheckF (by simp) rfl) ?_)
        refine RS_m retB_noPanic rfl rfl rfl rfl (ev_fieldAddr rfl) ?_
        refine RS_q retB_noPanic rfl rfl rfl rfl (ev_load rfl (by repeat' first | exact Ld.blk rfl | assumption | apply Ld.skip | apply Ld.app)) ?_
        refine RS_q retB_noPanic rfl rfl rfl rfl (ev_loadN rfl (by repeat' first | exact LdN.blk rfl | assumption | apply LdN.skip | apply LdN.app)) ?_
        refine RS_e (RE_eff rfl rfl rfl (eff_call rfl (w1 _ (by repeat' first | exact rp _ | apply Rd.skip))) ?_); rintro _ _ ⟨A1, c1', rfl, x1, x2, x3, rfl⟩; refine ⟨_, fun _ s => s, (by first | ((repeat first | exact fun _ s => s | apply en_keep | apply en_drop | apply en_app) <;> fail) | ((repeat first | exact en_refl | (apply en_blk; focus ((repeat' first | exact Pick.here | apply Pick.skip | apply Pick.app); done); focus rfl) | (apply en_own; focus ((repeat' first | exact Pick.here | apply Pick.skip | apply Pick.app); done); focus rfl) | (apply en_pick; focus ((repeat' first | exact Pick.here | apply Pick.skip | apply Pick.app); done)) | apply en_drop | apply en_app) <;> fail)), ?_⟩
        refine RS_e (RE_eff rfl rfl rfl (eff_call rfl (w2 _ (by repeat' first | exact rq _ | apply Rd.skip))) ?_); rintro _ _ ⟨A2, c2', rfl, y1, y2, y3, rfl⟩; refine ⟨_, fun _ s => s, (by first | ((repeat first | exact fun _ s => s | apply en_keep | apply en_drop | apply en_app) <;> fail) | ((repeat first | exact en_refl | (apply en_blk; focus ((repeat' first | exact Pick.here | apply Pick.skip | apply Pick.app); done); focus rfl) | (apply en_own; focus ((repeat' first | exact Pick.here | apply Pick.skip | apply Pick.app); done); focus rfl) | (apply en_pick; focus ((repeat' first | exact Pick.here | apply Pick.skip | apply Pick.app); done)) | apply en_drop | apply en_app) <;> fail)), ?_⟩
        (first | refine RS_m retB_noPanic rfl rfl rfl rfl (ev_nilCheck rfl) ?_ | refine RS_m retB_noPanic rfl rfl rfl rfl (ev_nilCheckF (by simp) rfl) ?_)
        refine RS_m retB_noPanic rfl rfl rfl rfl (ev_fieldAddr rfl) ?_
        refine RS_e (RE_cmp (by kernel_rfl) rfl rfl rfl (eff_store rfl rfl rfl (by repeat' first | exact Upd.here rfl | apply Upd.skip | apply Upd.app)) ?_); rintro _ _ ⟨rfl, rfl⟩
        (first | refine RS_m retB_noPanic rfl rfl rfl rfl (ev_nilCheck rfl) ?_ | refine RS_m retB_noPanic rfl rfl rfl rfl (ev_nilCheckF (by simp) rfl) ?_)
        refine RS_m retB_noPanic rfl rfl rfl rfl (ev_fieldAddr rfl) ?_
        refine RS_e (RE_last (by kernel_rfl) rfl rfl rfl (eff_store rfl rfl rfl (by repeat' first | exact Upd.here rfl | apply Upd.skip | apply Upd.app)) ?_); rintro _ _ ⟨rfl, rfl⟩
        all_goals
          (repeat first | refine G_seq ?_ | refine G_skip ?_ | refine G_endblk ?_ | refine G_block ?_ | refine G_exit rfl ?_)
          refine G_region ?_
          refine GO_q rfl rfl (ev_move rfl) ?_
          refine GO_eff rfl rfl (eff_call rfl (Ctr.pre (M := itM b mid A1 c1' p' A2 c2' q' m lo hi (F :: L)) (by unfold itM; exact (by (repeat first | exact en_refl | (apply en_blk; focus ((repeat' first | exact Pick.here | apply Pick.skip | apply Pick.app); done); focus rfl) | (apply en_own; focus ((repeat' first | exact Pick.here | apply Pick.skip | apply Pick.app); done); focus rfl) | (apply en_pick; focus ((repeat' first | exact Pick.here | apply Pick.skip | apply Pick.app); done)) | apply en_drop | apply en_app) <;> fail)) (even_ctr ⟨⟨x1, x2, x3⟩, ⟨y1, y2, y3⟩, hft'.lo, hft'.hi⟩ b mid m _ hkT o1 o2 (by omega) (s :: (p ++ (lo.spans ++ hi.spans))) (w4.append_right _)))) ?_; rintro _ _ ⟨T9, ⟨v1, v2, v3⟩, rfl, rfl⟩
          refine GO_q rfl rfl (ev_assign rfl) ?_
          refine GO_nil ?_
          (repeat first | refine G_seq ?_ | refine G_skip ?_ | refine G_endblk ?_ | refine G_block ?_ | refine G_exit rfl ?_)
          exact G_ret (L' := itH T9 :: L) rfl (.tmp rfl .nil) (fun h s => s.swap) ⟨T9, ⟨v1, v2, v3⟩, rfl, rfl⟩
theorem cut_ctr : ∀ (T : IT) (s : Pt) (L : List HP), T.ok → T.fit → s ∈ T.spans → T.spans.length ≤ 90000 →
    Ctr Tryz.prog 49 #[.pointer T.addr, s.v] (itH T :: L) fun v L' => MadeI (T.spans.erase s) L v L'
  | .nil, s, L, ho, hft, hm, hn => by simp [IT.spans] at hm
  | .node b mid A c p C d q m lo hi, s, L, ho, hft, hm, hn => by
    have hs := ho.fair s hm
    obtain ⟨l1, l2, l3⟩ := ho.low_mem hs hm
    have ih1 := fun M h1 h2 => cut_ctr lo s M h1 hft.2.1 h2
    have ih2 := fun M h1 h2 => cut_ctr hi s M h1 hft.2.2 h2
    have hft' := fit_one hft
    obtain ⟨hk, e1, e2, e3, o1, o2⟩ := ho
    have hk' := hk
    obtain ⟨a1, a2, a3, a4, a5⟩ := hk'
    have hasq := kok_asc hk
    have hqp : q.Perm p := a2 ▸ srtO_perm p
    have hql : q.length = p.length := by rw [a2, srtO_length]
    simp only [IT.spans, List.length_append] at hn
    have ep : (IT.node b mid A c p C d q m lo hi).spans = p ++ (lo.spans ++ hi.spans) := rfl
    rw [ep]
    have iin := fun M => itM_in hft' b mid m M
    have hsd := fun M => side_ctr b mid s M
    refine Ctr.open (ι := Unit) (Fa := fun _ => True) (N := fun _ => itL b mid A c p C d q m lo hi) (fun _ h => ⟨(), trivial, h⟩) fun _ _ => ?_
    show Ctr _ _ _ (blk b 92 (inC mid A p.length c C q.length d lo.addr hi.addr m) :: own 24 3 A p.length c (flat p) :: own 24 3 C q.length d (flat q) :: itH lo :: itH hi :: L) _
    by_cases c1 : s.y < mid
    · have e : sideI mid s = 0 := by unfold sideI; rw [if_pos c1]
      rw [e] at hsd
      have hmem := l1 c1
      have hsp : s ∉ p := fun h => by have := a3 s h; omega
      have ee : (p ++ (lo.spans ++ hi.spans)).erase s = p ++ (lo.spans.erase s ++ hi.spans) := by
        rw [List.erase_append_right _ hsp, List.erase_append_left _ hmem]
      have el := List.length_erase_of_mem hmem
      rw [ee]
      refine Ctr_of (fn := Tryz.f49) (n := 50) Tryz.func49 rfl rfl rfl ?_
      intro g F
      (repeat first | refine G_seq ?_ | refine G_skip ?_ | refine G_endblk ?_ | refine G_block ?_ | refine G_exit rfl ?_)
      refine G_region ?_
      refine GO_eff rfl rfl (eff_box rfl) ?_; rintro _ _ ⟨b3, rfl, rfl⟩
      refine GO_q rfl rfl (ev_assign rfl) ?_
      refine GO_nil ?_
      (repeat first | refine G_seq ?_ | refine G_skip ?_ | refine G_endblk ?_ | refine G_block ?_ | refine G_exit rfl ?_)
      refine G_region ?_
      refine GO_q rfl rfl (ev_move rfl) ?_
      refine GO_q rfl rfl (ev_loadN rfl (by repeat' first | exact LdN.blk rfl | assumption | apply LdN.skip | apply LdN.app)) ?_
      refine GO_eff rfl rfl (eff_call rfl (hsd _ (by repeat' first | exact Ld.blk rfl | assumption | apply Ld.skip | apply Ld.app))) ?_; rintro _ _ ⟨rfl, rfl⟩
      refine GO_q rfl rfl (ev_assign rfl) ?_
      refine GO_nil ?_
      (repeat first | refine G_seq ?_ | refine G_skip ?_ | refine G_endblk ?_ | refine G_block ?_ | refine G_exit rfl ?_)
      refine G_region ?_
      refine GO_q rfl rfl (ev_move rfl) ?_
      refine GO_q rfl rfl (ev_geq rfl rfl) ?_
      refine GO_nil ?_
      (repeat first | refine G_seq ?_ | refine G_skip ?_ | refine G_endblk ?_ | refine G_block ?_ | refine G_exit rfl ?_)
      refine G_cond_t rfl rfl ?_
      (repeat first | refine G_seq ?_ | refine G_skip ?_ | refine G_endblk ?_ | refine G_block ?_ | refine G_exit rfl ?_)
      refine G_drawE 5 (.q 0 (.q 1 (.q 2 (.q 3 (.q 4 (.q 5 (.q 6 (.q 7 (.q 8 (.q 10 (.q 11 (.e 9 (.q 12 (.e 13 .nil)))))))))))))) (by kernel_rfl) (by kernel_rfl) ?_
      refine RS_m retB_noPanic rfl rfl rfl rfl (ev_move rfl) ?_
      refine RS_m retB_noPanic rfl rfl rfl rfl (ev_move rfl) ?_
      refine RS_m retB_noPanic rfl rfl rfl rfl (ev_move rfl) ?_
      refine RS_m retB_noPanic rfl rfl rfl rfl (ev_move rfl) ?_
      (first | refine RS_m retB_noPanic rfl rfl rfl rfl (ev_nilCheck rfl) ?_ | refine RS_m retB_noPanic rfl rfl rfl rfl (ev_nilCheckF (by simp) rfl) ?_)
      refine RS_m retB_noPanic rfl rfl rfl rfl (ev_fieldAddr rfl) ?_
      refine RS_m retB_noPanic rfl rfl rfl rfl (ev_indexAddrA rfl rfl (by first | omega | (simp; done) | (simp; omega)) (by first | omega | (simp; done) | (simp; omega))) ?_
      refine RS_q retB_noPanic rfl rfl rfl rfl (ev_load rfl (by repeat' first | exact Ld.blk rfl | assumption | apply Ld.skip | apply Ld.app)) ?_
      refine RS_q retB_noPanic rfl rfl rfl rfl (ev_loadN rfl (by repeat' first | exact LdN.blk rfl | assumption | apply LdN.skip | apply LdN.app)) ?_
      (first | refine RS_m retB_noPanic rfl rfl rfl rfl (ev_nilCheck rfl) ?_ | refine RS_m retB_noPanic rfl rfl rfl rfl (ev_nilCheckF (by simp) rfl) ?_)
      refine RS_m retB_noPanic rfl rfl rfl rfl (ev_fieldAddr rfl) ?_
      refine RS_e (RE_cmp (by kernel_rfl) rfl rfl rfl (eff_call rfl (Ctr.pick (by repeat' first | exact Pick.here | apply Pick.skip | apply Pick.app) (ih1 _ o1 hmem (by omega)))) ?_); rintro _ _ ⟨T, ⟨t1, t2, t3⟩, rfl, rfl⟩
      refine RS_m retB_noPanic rfl rfl rfl rfl (ev_indexAddrA rfl rfl (by first | omega | (simp; done) | (simp; omega)) (by first | omega | (simp; done) | (simp; omega))) ?_
      refine RS_e (RE_last (by kernel_rfl) rfl rfl rfl (eff_store rfl rfl rfl (by repeat' first | exact Upd.here rfl | apply Upd.skip | apply Upd.app)) ?_); rintro _ _ ⟨rfl, rfl⟩
      have g1 := t3.length_eq
      have hkT : IT.kok mid p q T.spans hi.spans := ⟨a1, a2, a3, fun t ht => a4 t (List.mem_of_mem_erase (t3.subset ht)), a5⟩
      (repeat first | refine G_seq ?_ | refine G_skip ?_ | refine G_endblk ?_ | refine G_block ?_ | refine G_exit rfl ?_)
      refine G_region ?_
      refine GO_q rfl rfl (ev_move rfl) ?_
      refine GO_eff rfl rfl (eff_call rfl (Ctr.pre (M := itM b mid A c p C d q m T hi (F :: L)) (by unfold itM; exact (by (repeat first | exact en_refl | (apply en_blk; focus ((repeat' first | exact Pick.here | apply Pick.skip | apply Pick.app); done); focus rfl) | (apply en_own; focus ((repeat' first | exact Pick.here | apply Pick.skip | apply Pick.app); done); focus rfl) | (apply en_pick; focus ((repeat' first | exact Pick.here | apply Pick.skip | apply Pick.app); done)) | apply en_drop | apply en_app) <;> fail)) (even_ctr ⟨hft'.p, hft'.q, t2, hft'.hi⟩ b mid m _ hkT t1 o2 (by omega) (p ++ (lo.spans.erase s ++ hi.spans)) ((t3.append_right _).append_left p)))) ?_; rintro _ _ ⟨T9, ⟨v1, v2, v3⟩, rfl, rfl⟩
      refine GO_q rfl rfl (ev_assign rfl) ?_
      refine GO_nil ?_
      (repeat first | refine G_seq ?_ | refine G_skip ?_ | refine G_endblk ?_ | refine G_block ?_ | refine G_exit rfl ?_)
      exact G_ret (L' := itH T9 :: L) rfl (.tmp rfl .nil) (fun h s => s.swap) ⟨T9, ⟨v1, v2, v3⟩, rfl, rfl⟩
    · by_cases c2 : mid < s.x
      · have e : sideI mid s = 1 := by unfold sideI; rw [if_neg c1, if_pos c2]
        rw [e] at hsd
        have hmem := l2 c2
        have hsp : s ∉ p := fun h => by have := a3 s h; omega
        have hsl : s ∉ lo.spans := fun h => by have := a4 s h; omega
        have ee : (p ++ (lo.spans ++ hi.spans)).erase s = p ++ (lo.spans ++ hi.spans.erase s) := by
          rw [List.erase_append_right _ hsp, List.erase_append_right _ hsl]
        have el := List.length_erase_of_mem hmem
        rw [ee]
        refine Ctr_of (fn := Tryz.f49) (n := 50) Tryz.func49 rfl rfl rfl ?_
        intro g F
        (repeat first | refine G_seq ?_ | refine G_skip ?_ | refine G_endblk ?_ | refine G_block ?_ | refine G_exit rfl ?_)
        refine G_region ?_
        refine GO_eff rfl rfl (eff_box rfl) ?_; rintro _ _ ⟨b3, rfl, rfl⟩
        refine GO_q rfl rfl (ev_assign rfl) ?_
        refine GO_nil ?_
        (repeat first | refine G_seq ?_ | refine G_skip ?_ | refine G_endblk ?_ | refine G_block ?_ | refine G_exit rfl ?_)
        refine G_region ?_
        refine GO_q rfl rfl (ev_move rfl) ?_
        refine GO_q rfl rfl (ev_loadN rfl (by repeat' first | exact LdN.blk rfl | assumption | apply LdN.skip | apply LdN.app)) ?_
        refine GO_eff rfl rfl (eff_call rfl (hsd _ (by repeat' first | exact Ld.blk rfl | assumption | apply Ld.skip | apply Ld.app))) ?_; rintro _ _ ⟨rfl, rfl⟩
        refine GO_q rfl rfl (ev_assign rfl) ?_
        refine GO_nil ?_
        (repeat first | refine G_seq ?_ | refine G_skip ?_ | refine G_endblk ?_ | refine G_block ?_ | refine G_exit rfl ?_)
        refine G_region ?_
        refine GO_q rfl rfl (ev_move rfl) ?_
        refine GO_q rfl rfl (ev_geq rfl rfl) ?_
        refine GO_nil ?_
        (repeat first | refine G_seq ?_ | refine G_skip ?_ | refine G_endblk ?_ | refine G_block ?_ | refine G_exit rfl ?_)
        refine G_cond_t rfl rfl ?_
        (repeat first | refine G_seq ?_ | refine G_skip ?_ | refine G_endblk ?_ | refine G_block ?_ | refine G_exit rfl ?_)
        refine G_drawE 6 (.q 0 (.q 1 (.q 2 (.q 3 (.q 4 (.q 5 (.q 6 (.q 7 (.q 8 (.q 10 (.q 11 (.e 9 (.q 12 (.e 13 .nil)))))))))))))) (by kernel_rfl) (by kernel_rfl) ?_
        refine RS_m retB_noPanic rfl rfl rfl rfl (ev_move rfl) ?_
        refine RS_m retB_noPanic rfl rfl rfl rfl (ev_move rfl) ?_
        refine RS_m retB_noPanic rfl rfl rfl rfl (ev_move rfl) ?_
        refine RS_m retB_noPanic rfl rfl rfl rfl (ev_move rfl) ?_
        (first | refine RS_m retB_noPanic rfl rfl rfl rfl (ev_nilCheck rfl) ?_ | refine RS_m retB_noPanic rfl rfl rfl rfl (ev_nilCheckF (by simp) rfl) ?_)
        refine RS_m retB_noPanic rfl rfl rfl rfl (ev_fieldAddr rfl) ?_
        refine RS_m retB_noPanic rfl rfl rfl rfl (ev_indexAddrA rfl rfl (by first | omega | (simp; done) | (simp; omega)) (by first | omega | (simp; done) | (simp; omega))) ?_
        refine RS_q retB_noPanic rfl rfl rfl rfl (ev_load rfl (by repeat' first | exact Ld.blk rfl | assumption | apply Ld.skip | apply Ld.app)) ?_
        refine RS_q retB_noPanic rfl rfl rfl rfl (ev_loadN rfl (by repeat' first | exact LdN.blk rfl | assumption | apply LdN.skip | apply LdN.app)) ?_
        (first | refine RS_m retB_noPanic rfl rfl rfl rfl (ev_nilCheck rfl) ?_ | refine RS_m retB_noPanic rfl rfl rfl rfl (ev_nilCheckF (by simp) rfl) ?_)
        refine RS_m retB_noPanic rfl rfl rfl rfl (ev_fieldAddr rfl) ?_
        refine RS_e (RE_cmp (by kernel_rfl) rfl rfl rfl (eff_call rfl (Ctr.pick (by repeat' first | exact Pick.here | apply Pick.skip | apply Pick.app) (ih2 _ o2 hmem (by omega)))) ?_); rintro _ _ ⟨T, ⟨t1, t2, t3⟩, rfl, rfl⟩
        refine RS_m retB_noPanic rfl rfl rfl rfl (ev_indexAddrA rfl rfl (by first | omega | (simp; done) | (simp; omega)) (by first | omega | (simp; done) | (simp; omega))) ?_
        refine RS_e (RE_last (by kernel_rfl) rfl rfl rfl (eff_store rfl rfl rfl (by repeat' first | exact Upd.here rfl | apply Upd.skip | apply Upd.app)) ?_); rintro _ _ ⟨rfl, rfl⟩
        have g1 := t3.length_eq
        have hkT : IT.kok mid p q lo.spans T.spans := ⟨a1, a2, a3, a4, fun t ht => a5 t (List.mem_of_mem_erase (t3.subset ht))⟩
        (repeat first | refine G_seq ?_ | refine G_skip ?_ | refine G_endblk ?_ | refine G_block ?_ | refine G_exit rfl ?_)
        refine G_region ?_
        refine GO_q rfl rfl (ev_move rfl) ?_
        refine GO_eff rfl rfl (eff_call rfl (Ctr.pre (M := itM b mid A c p C d q m lo T (F :: L)) (by unfold itM; exact (by (repeat first | exact en_refl | (apply en_blk; focus ((repeat' first | exact Pick.here | apply Pick.skip | apply Pick.app); done); focus rfl) | (apply en_own; focus ((repeat' first | exact Pick.here | apply Pick.skip | apply Pick.app); done); focus rfl) | (apply en_pick; focus ((repeat' first | exact Pick.here | apply Pick.skip | apply Pick.app); done)) | apply en_drop | apply en_app) <;> fail)) (even_ctr ⟨hft'.p, hft'.q, hft'.lo, t2⟩ b mid m _ hkT o1 t1 (by omega) (p ++ (lo.spans ++ hi.spans.erase s)) ((t3.append_left _).append_left p)))) ?_; rintro _ _ ⟨T9, ⟨v1, v2, v3⟩, rfl, rfl⟩
        refine GO_q rfl rfl (ev_assign rfl) ?_
        refine GO_nil ?_
        (repeat first | refine G_seq ?_ | refine G_skip ?_ | refine G_endblk ?_ | refine G_block ?_ | refine G_exit rfl ?_)
        exact G_ret (L' := itH T9 :: L) rfl (.tmp rfl .nil) (fun h s => s.swap) ⟨T9, ⟨v1, v2, v3⟩, rfl, rfl⟩
      · have e : sideI mid s = -1 := by unfold sideI; rw [if_neg c1, if_neg c2]
        rw [e] at hsd
        have hmem := l3 c1 c2
        have hmq : s ∈ q := hqp.symm.subset hmem
        have ee : (p ++ (lo.spans ++ hi.spans)).erase s = p.erase s ++ (lo.spans ++ hi.spans) := List.erase_append_left _ hmem
        have el := List.length_erase_of_mem hmem
        rw [ee]
        have hkT := kok_cut (s := s) hk
        have rp : ∀ M, Rd (own 24 3 A p.length c (flat p) :: M) A p.length p := fun M => Rc.own (flat_length _) hft'.p.a
        have rq : ∀ M, Rd (own 24 3 C q.length d (flat q) :: M) C q.length q := fun M => Rc.own (flat_length _) hft'.q.a
        have w1 := fun M h => cutOF (CutO_ctr less_ls sto_less A p.length c p s M h (by omega) a1 hmem)
        have w2 := fun M h => cutOF (CutO_ctr ends_ls sto_ends C q.length d q s M h (by omega) hasq hmq)
        generalize p.erase s = p' at *
        generalize q.erase s = q' at *
        refine Ctr_of (fn := Tryz.f49) (n := 50) Tryz.func49 rfl rfl rfl ?_
        intro g F
        (repeat first | refine G_seq ?_ | refine G_skip ?_ | refine G_endblk ?_ | refine G_block ?_ | refine G_exit rfl ?_)
        refine G_region ?_
        refine GO_eff rfl rfl (eff_box rfl) ?_; rintro _ _ ⟨b3, rfl, rfl⟩
        refine GO_q rfl rfl (ev_assign rfl) ?_
        refine GO_nil ?_
        (repeat first | refine G_seq ?_ | refine G_skip ?_ | refine G_endblk ?_ | refine G_block ?_ | refine G_exit rfl ?_)
        refine G_region ?_
        refine GO_q rfl rfl (ev_move rfl) ?_
        refine GO_q rfl rfl (ev_loadN rfl (by repeat' first | exact LdN.blk rfl | assumption | apply LdN.skip | apply LdN.app)) ?_
        refine GO_eff rfl rfl (eff_call rfl (hsd _ (by repeat' first | exact Ld.blk rfl | assumption | apply Ld.skip | apply Ld.app))) ?_; rintro _ _ ⟨rfl, rfl⟩
        refine GO_q rfl rfl (ev_assign rfl) ?_
        refine GO_nil ?_
        (repeat first | refine G_seq ?_ | refine G_skip ?_ | refine G_endblk ?_ | refine G_block ?_ | refine G_exit rfl ?_)
        refine G_region ?_
        refine GO_q rfl rfl (ev_move rfl) ?_
        refine GO_q rfl rfl (ev_geq rfl rfl) ?_
        refine GO_nil ?_
        (repeat first | refine G_seq ?_ | refine G_skip ?_ | refine G_endblk ?_ | refine G_block ?_ | refine G_exit rfl ?_)
        refine G_cond_f rfl rfl ?_
        (repeat first | refine G_seq ?_ | refine G_skip ?_ | refine G_endblk ?_ | refine G_block ?_ | refine G_exit rfl ?_)
        refine G_draw (.q 0 (.q 1 (.q 2 (.q 3 (.q 4 (.q 5 (.e 6 (.q 7 (.q 8 (.q 9 (.q 10 (.q 11 (.e 12 .nil))))))))))))) (by kernel_rfl) (by kernel_rfl) ?_
        refine RS_m retB_noPanic rfl rfl rfl rfl (ev_move rfl) ?_
        refine RS_m retB_noPanic rfl rfl rfl rfl (ev_move rfl) ?_
        (first | refine RS_m retB_noPanic rfl rfl rfl rfl (ev_nilCheck rfl) ?_ | refine RS_m retB_noPanic rfl rfl rfl rfl (ev_nilCheckF (by simp) rfl) ?_)
        refine RS_m retB_noPanic rfl rfl rfl rfl (ev_fieldAddr rfl) ?_
        refine RS_q retB_noPanic rfl rfl rfl rfl (ev_load rfl (by repeat' first | exact Ld.blk rfl | assumption | apply Ld.skip | apply Ld.app)) ?_
        refine RS_q retB_noPanic rfl rfl rfl rfl (ev_loadN rfl (by repeat' first | exact LdN.blk rfl | assumption | apply LdN.skip | apply LdN.app)) ?_
        refine RS_e (RE_eff rfl rfl rfl (eff_call rfl (w1 _ (by repeat' first | exact rp _ | apply Rd.skip))) ?_); rintro _ _ ⟨A1, c1', rfl, x1, rfl⟩; refine ⟨_, fun _ s => s, (by first | ((repeat first | exact fun _ s => s | apply en_keep | apply en_drop | apply en_app) <;> fail) | ((repeat first | exact en_refl | (apply en_blk; focus ((repeat' first | exact Pick.here | apply Pick.skip | apply Pick.app); done); focus rfl) | (apply en_own; focus ((repeat' first | exact Pick.here | apply Pick.skip | apply Pick.app); done); focus rfl) | (apply en_pick; focus ((repeat' first | exact Pick.here | apply Pick.skip | apply Pick.app); done)) | apply en_drop | apply en_app) <;> fail)), ?_⟩
        refine RS_m retB_noPanic rfl rfl rfl rfl (ev_move rfl) ?_
        refine RS_m retB_noPanic rfl rfl rfl rfl (ev_extract rfl rfl) ?_
        refine RS_m retB_noPanic rfl rfl rfl rfl (ev_extract rfl rfl) ?_
        (first | refine RS_m retB_noPanic rfl rfl rfl rfl (ev_nilCheck rfl) ?_ | refine RS_m retB_noPanic rfl rfl rfl rfl (ev_nilCheckF (by simp) rfl) ?_)
        refine RS_m retB_noPanic rfl rfl rfl rfl (ev_fieldAddr rfl) ?_
        refine RS_e (RE_last (by kernel_rfl) rfl rfl rfl (eff_store rfl rfl rfl (by repeat' first | exact Upd.here rfl | apply Upd.skip | apply Upd.app)) ?_); rintro _ _ ⟨rfl, rfl⟩
        all_goals
          (repeat first | refine G_seq ?_ | refine G_skip ?_ | refine G_endblk ?_ | refine G_block ?_ | refine G_exit rfl ?_)
          refine G_draw (.q 0 (.q 1 (.q 2 (.q 3 (.q 4 (.q 5 (.e 6 (.q 7 (.q 8 (.q 9 (.q 10 (.q 11 (.e 12 .nil))))))))))))) (by kernel_rfl) (by kernel_rfl) ?_
          refine RS_m retB_noPanic rfl rfl rfl rfl (ev_move rfl) ?_
          refine RS_m retB_noPanic rfl rfl rfl rfl (ev_move rfl) ?_
          (first | refine RS_m retB_noPanic rfl rfl rfl rfl (ev_nilCheck rfl) ?_ | refine RS_m retB_noPanic rfl rfl rfl rfl (ev_nilCheckF (by simp) rfl) ?_)
          refine RS_m retB_noPanic rfl rfl rfl rfl (ev_fieldAddr rfl) ?_
          refine RS_q retB_noPanic rfl rfl rfl rfl (ev_load rfl (by repeat' first | exact Ld.blk rfl | assumption | apply Ld.skip | apply Ld.app)) ?_
          refine RS_q retB_noPanic rfl rfl rfl rfl (ev_loadN rfl (by repeat' first | exact LdN.blk rfl | assumption | apply LdN.skip | apply LdN.app)) ?_
          refine RS_e (RE_eff rfl rfl rfl (eff_call rfl (w2 _ (by repeat' first | exact rq _ | apply Rd.skip))) ?_); rintro _ _ ⟨A2, c2', rfl, y1, rfl⟩; refine ⟨_, fun _ s => s, (by first | ((repeat first | exact fun _ s => s | apply en_keep | apply en_drop | apply en_app) <;> fail) | ((repeat first | exact en_refl | (apply en_blk; focus ((repeat' first | exact Pick.here | apply Pick.skip | apply Pick.app); done); focus rfl) | (apply en_own; focus ((repeat' first | exact Pick.here | apply Pick.skip | apply Pick.app); done); focus rfl) | (apply en_pick; focus ((repeat' first | exact Pick.here | apply Pick.skip | apply Pick.app); done)) | apply en_drop | apply en_app) <;> fail)), ?_⟩
          refine RS_m retB_noPanic rfl rfl rfl rfl (ev_move rfl) ?_
          refine RS_m retB_noPanic rfl rfl rfl rfl (ev_extract rfl rfl) ?_
          refine RS_m retB_noPanic rfl rfl rfl rfl (ev_extract rfl rfl) ?_
          (first | refine RS_m retB_noPanic rfl rfl rfl rfl (ev_nilCheck rfl) ?_ | refine RS_m retB_noPanic rfl rfl rfl rfl (ev_nilCheckF (by simp) rfl) ?_)
          refine RS_m retB_noPanic rfl rfl rfl rfl (ev_fieldAddr rfl) ?_
          refine RS_e (RE_last (by kernel_rfl) rfl rfl rfl (eff_store rfl rfl rfl (by repeat' first | exact Upd.here rfl | apply Upd.skip | apply Upd.app)) ?_); rintro _ _ ⟨rfl, rfl⟩
          all_goals
            (repeat first | refine G_seq ?_ | refine G_skip ?_ | refine G_endblk ?_ | refine G_block ?_ | refine G_exit rfl ?_)
            refine G_region ?_
            refine GO_q rfl rfl (ev_move rfl) ?_
            refine GO_eff rfl rfl (eff_call rfl (Ctr.pre (M := itM b mid A1 c1' p' A2 c2' q' m lo hi (F :: L)) (by unfold itM; exact (by (repeat first | exact en_refl | (apply en_blk; focus ((repeat' first | exact Pick.here | apply Pick.skip | apply Pick.app); done); focus rfl) | (apply en_own; focus ((repeat' first | exact Pick.here | apply Pick.skip | apply Pick.app); done); focus rfl) | (apply en_pick; focus ((repeat' first | exact Pick.here | apply Pick.skip | apply Pick.app); done)) | apply en_drop | apply en_app) <;> fail)) (even_ctr ⟨x1, y1, hft'.lo, hft'.hi⟩ b mid m _ hkT o1 o2 (by omega) (p' ++ (lo.spans ++ hi.spans)) (.refl _)))) ?_; rintro _ _ ⟨T9, ⟨v1, v2, v3⟩, rfl, rfl⟩
            refine GO_q rfl rfl (ev_assign rfl) ?_
            refine GO_nil ?_
            (repeat first | refine G_seq ?_ | refine G_skip ?_ | refine G_endblk ?_ | refine G_block ?_ | refine G_exit rfl ?_)
            exact G_ret (L' := itH T9 :: L) rfl (.tmp rfl .nil) (fun h s => s.swap) ⟨T9, ⟨v1, v2, v3⟩, rfl, rfl⟩
end Go.Proofs.YtjnmpogolknkpaaGreat
/- A tree of middles: New, Insert, Delete. -/
namespace Go.Proofs.YtjnmpogolknkpaaGreat
attribute [local irreducible] sat
set_option linter.unusedVariables false
set_option linter.unusedSimpArgs false
set_option maxRecDepth 100000

theorem iNew_ctr (most : Int) (L : List HP) (h1 : 1 ≤ most) (h2 : most ≤ 1048576) : Ctr Tryz.prog 21 #[.int .i64 most] L fun v L' => ∃ t, v = .tuple #[.pointer (some ⟨t, 0, none⟩), .int .i64 0] ∧ L' = treeI t most [] :: L := by
  refine Ctr_of (fn := Tryz.f21) (n := 13) Tryz.func21 rfl rfl rfl ?_
  intro g F
  (repeat first | refine G_seq ?_ | refine G_skip ?_ | refine G_endblk ?_ | refine G_block ?_ | refine G_exit rfl ?_)
  refine G_region ?_
  refine GO_q rfl rfl (ev_assign rfl) ?_
  refine GO_q rfl rfl (ev_assign rfl) ?_
  refine GO_nil ?_
  (repeat first | refine G_seq ?_ | refine G_skip ?_ | refine G_endblk ?_ | refine G_block ?_ | refine G_exit rfl ?_)
  refine G_region ?_
  refine GO_q rfl rfl (ev_move rfl) ?_
  (first | refine GO_q rfl rfl (ev_lssN (q := 1) rfl rfl) ?_ | refine GO_q rfl rfl (ev_lss rfl rfl) ?_)
  refine GO_q rfl rfl (ev_move rfl) ?_
  refine GO_yes rfl rfl rfl (decide_eq_false (by omega)) ?_
  refine GO_q rfl rfl (ev_move rfl) ?_
  refine GO_yes rfl rfl rfl (decide_eq_false (by omega)) ?_
  refine GO_q rfl rfl (ev_gtr rfl rfl) ?_
  refine GO_q rfl rfl (ev_pick_f rfl (decide_eq_false (by omega)) rfl) ?_
  refine GO_nil ?_
  (repeat first | refine G_seq ?_ | refine G_skip ?_ | refine G_endblk ?_ | refine G_block ?_ | refine G_exit rfl ?_)
  refine G_cond_f rfl (decide_eq_false (by omega)) ?_
  (repeat first | refine G_seq ?_ | refine G_skip ?_ | refine G_endblk ?_ | refine G_block ?_ | refine G_exit rfl ?_)
  refine G_region ?_
  refine GO_q rfl rfl (ev_move rfl) ?_
  refine GO_q rfl rfl (ev_build rfl rfl) ?_
  refine GO_eff rfl rfl (eff_box rfl) ?_; rintro _ _ ⟨b12, rfl, rfl⟩
  refine GO_q rfl rfl (ev_assign rfl) ?_
  refine GO_q rfl rfl (ev_assign rfl) ?_
  refine GO_nil ?_
  (repeat first | refine G_seq ?_ | refine G_skip ?_ | refine G_endblk ?_ | refine G_block ?_ | refine G_exit rfl ?_)
  exact G_ret (L' := treeI b12 most [] :: L) rfl (.tmp rfl (.tmp rfl .nil)) (fun h s => (en_treeI (T := .nil) (M := F :: L) ⟨trivial, trivial, .refl _⟩ (by (repeat first | exact en_refl | apply en_nil' | (apply en_blk; focus ((repeat' first | exact Pick.here | apply Pick.skip | apply Pick.app); done); focus rfl) | (apply en_own; focus ((repeat' first | exact Pick.here | apply Pick.skip | apply Pick.app); done); focus rfl) | (apply en_pick; focus ((repeat' first | exact Pick.here | apply Pick.skip | apply Pick.app); done)) | apply en_drop | apply en_app) <;> fail) h s).swap) ⟨b12, rfl, rfl⟩
theorem iInsert_ctr (t : Nat) (most : Int) (k : List Pt) (s : Pt) (L : List HP) (T : IT) (o : treeO k T) (hn : k.length ≤ 1000) :
    Ctr Tryz.prog 13 #[.pointer (some ⟨t, 0, none⟩), s.v] (blk t 75 [.pointer T.addr, .int .i64 most] :: itH T :: L) fun v L' => v = .int .i64 (insE most k s) ∧ ∃ T', treeO (insK most k s) T' ∧ L' = blk t 75 [.pointer T'.addr, .int .i64 most] :: itH T' :: L := by
  obtain ⟨o1, o2, o3⟩ := o
  have hl := o3.length_eq
  have hsz := o1.size
  have hT : ∀ M, TI (blk t 75 [.pointer T.addr, .int .i64 most] :: itH T :: M) t T most := fun M => ⟨Ld.blk rfl, Ld.blk rfl, (itH_in T M o2).skip⟩
  have hfr := KFair_ctr s
  have hhas := fun M h => ihas_ctr (t := t) (T := T) (most := most) (L := M) h s o1 (by omega)
  rw [o1.has_dec] at hhas
  have hmem := o3.mem_iff (a := s)
  rw [show decide (s ∈ T.spans) = decide (s ∈ k) from decide_eq_decide.2 hmem] at hhas
  cases hg : fairP s with
  | false =>
    have e1 : insE most k s = 1 := by unfold insE; rw [if_pos hg]
    have e2 : insK most k s = k := if_neg (by rw [e1]; decide)
    rw [e1, e2]
    rw [hg] at hfr
    refine Ctr_of (fn := Tryz.f13) (n := 37) Tryz.func13 rfl rfl rfl ?_
    intro g F
    (repeat first | refine G_seq ?_ | refine G_skip ?_ | refine G_endblk ?_ | refine G_block ?_ | refine G_exit rfl ?_)
    refine G_region ?_
    refine GO_eff rfl rfl (eff_box rfl) ?_; rintro _ _ ⟨b3, rfl, rfl⟩
    refine GO_q rfl rfl (ev_assign rfl) ?_
    refine GO_nil ?_
    (repeat first | refine G_seq ?_ | refine G_skip ?_ | refine G_endblk ?_ | refine G_block ?_ | refine G_exit rfl ?_)
    (repeat first | refine G_seq ?_ | refine G_skip ?_ | refine G_endblk ?_ | refine G_block ?_ | refine G_exit rfl ?_)
    refine G_region ?_
    refine GO_q rfl rfl (ev_move rfl) ?_
    (first | refine GO_q rfl rfl (ev_eqlNil rfl rfl) ?_ | refine GO_q rfl rfl (ev_eqlPtr rfl rfl) ?_)
    refine GO_q rfl rfl (ev_move rfl) ?_
    refine GO_yes rfl rfl rfl rfl ?_
    refine GO_q rfl rfl (ev_loadN rfl (by repeat' first | exact LdN.blk rfl | assumption | apply LdN.skip | apply LdN.app)) ?_
    refine GO_yes rfl rfl rfl rfl ?_
    refine GO_eff rfl rfl (eff_call rfl (hfr _)) ?_; rintro _ _ ⟨rfl, rfl⟩
    refine GO_yes rfl rfl rfl rfl ?_
    refine GO_q rfl rfl (ev_not rfl) ?_
    refine GO_q rfl rfl (ev_pick_f rfl rfl rfl) ?_
    refine GO_q rfl rfl (ev_assign rfl) ?_
    refine GO_nil ?_
    (repeat first | refine G_seq ?_ | refine G_skip ?_ | refine G_endblk ?_ | refine G_block ?_ | refine G_exit rfl ?_)
    refine G_cond_t rfl rfl ?_
    (repeat first | refine G_seq ?_ | refine G_skip ?_ | refine G_endblk ?_ | refine G_block ?_ | refine G_exit rfl ?_)
    refine G_region ?_
    refine GO_q rfl rfl (ev_assign rfl) ?_
    refine GO_nil ?_
    (repeat first | refine G_seq ?_ | refine G_skip ?_ | refine G_endblk ?_ | refine G_block ?_ | refine G_exit rfl ?_)
    exact G_ret (L' := blk t 75 [.pointer T.addr, .int .i64 most] :: itH T :: L) rfl (.tmp rfl .nil) (by (repeat first | exact en_refl | (apply en_blk; focus ((repeat' first | exact Pick.here | apply Pick.skip | apply Pick.app); done); focus rfl) | (apply en_own; focus ((repeat' first | exact Pick.here | apply Pick.skip | apply Pick.app); done); focus rfl) | (apply en_pick; focus ((repeat' first | exact Pick.here | apply Pick.skip | apply Pick.app); done)) | apply en_drop | apply en_app) <;> fail) ⟨rfl, T, ⟨o1, o2, o3⟩, rfl⟩
  | true =>
    rw [hg] at hfr
    by_cases hk : s ∈ k
    · have e1 : insE most k s = 5 := by unfold insE; rw [if_neg (by simp [hg]), if_pos hk]
      have e2 : insK most k s = k := if_neg (by rw [e1]; decide)
      rw [e1, e2]
      rw [decide_eq_true hk] at hhas
      refine Ctr_of (fn := Tryz.f13) (n := 37) Tryz.func13 rfl rfl rfl ?_
      intro g F
      (repeat first | refine G_seq ?_ | refine G_skip ?_ | refine G_endblk ?_ | refine G_block ?_ | refine G_exit rfl ?_)
      refine G_region ?_
      refine GO_eff rfl rfl (eff_box rfl) ?_; rintro _ _ ⟨b3, rfl, rfl⟩
      refine GO_q rfl rfl (ev_assign rfl) ?_
      refine GO_nil ?_
      (repeat first | refine G_seq ?_ | refine G_skip ?_ | refine G_endblk ?_ | refine G_block ?_ | refine G_exit rfl ?_)
      (repeat first | refine G_seq ?_ | refine G_skip ?_ | refine G_endblk ?_ | refine G_block ?_ | refine G_exit rfl ?_)
      refine G_region ?_
      refine GO_q rfl rfl (ev_move rfl) ?_
      (first | refine GO_q rfl rfl (ev_eqlNil rfl rfl) ?_ | refine GO_q rfl rfl (ev_eqlPtr rfl rfl) ?_)
      refine GO_q rfl rfl (ev_move rfl) ?_
      refine GO_yes rfl rfl rfl rfl ?_
      refine GO_q rfl rfl (ev_loadN rfl (by repeat' first | exact LdN.blk rfl | assumption | apply LdN.skip | apply LdN.app)) ?_
      refine GO_yes rfl rfl rfl rfl ?_
      refine GO_eff rfl rfl (eff_call rfl (hfr _)) ?_; rintro _ _ ⟨rfl, rfl⟩
      refine GO_yes rfl rfl rfl rfl ?_
      refine GO_q rfl rfl (ev_not rfl) ?_
      refine GO_q rfl rfl (ev_pick_f rfl rfl rfl) ?_
      refine GO_q rfl rfl (ev_assign rfl) ?_
      refine GO_nil ?_
      (repeat first | refine G_seq ?_ | refine G_skip ?_ | refine G_endblk ?_ | refine G_block ?_ | refine G_exit rfl ?_)
      refine G_cond_f rfl rfl ?_
      (repeat first | refine G_seq ?_ | refine G_skip ?_ | refine G_endblk ?_ | refine G_block ?_ | refine G_exit rfl ?_)
      refine G_region ?_
      refine GO_q rfl rfl (ev_move rfl) ?_
      refine GO_q rfl rfl (ev_loadN rfl (by repeat' first | exact LdN.blk rfl | assumption | apply LdN.skip | apply LdN.app)) ?_
      refine GO_eff rfl rfl (eff_call rfl (hhas _ (by repeat' first | exact hT _ | apply TI.skip))) ?_; rintro _ _ ⟨rfl, rfl⟩
      refine GO_q rfl rfl (ev_assign rfl) ?_
      refine GO_nil ?_
      (repeat first | refine G_seq ?_ | refine G_skip ?_ | refine G_endblk ?_ | refine G_block ?_ | refine G_exit rfl ?_)
      refine G_cond_t rfl rfl ?_
      (repeat first | refine G_seq ?_ | refine G_skip ?_ | refine G_endblk ?_ | refine G_block ?_ | refine G_exit rfl ?_)
      refine G_region ?_
      refine GO_q rfl rfl (ev_assign rfl) ?_
      refine GO_nil ?_
      (repeat first | refine G_seq ?_ | refine G_skip ?_ | refine G_endblk ?_ | refine G_block ?_ | refine G_exit rfl ?_)
      exact G_ret (L' := blk t 75 [.pointer T.addr, .int .i64 most] :: itH T :: L) rfl (.tmp rfl .nil) (by (repeat first | exact en_refl | (apply en_blk; focus ((repeat' first | exact Pick.here | apply Pick.skip | apply Pick.app); done); focus rfl) | (apply en_own; focus ((repeat' first | exact Pick.here | apply Pick.skip | apply Pick.app); done); focus rfl) | (apply en_pick; focus ((repeat' first | exact Pick.here | apply Pick.skip | apply Pick.app); done)) | apply en_drop | apply en_app) <;> fail) ⟨rfl, T, ⟨o1, o2, o3⟩, rfl⟩
    · rw [decide_eq_false hk] at hhas
      by_cases hfull : most ≤ k.length
      · have e1 : insE most k s = 4 := by unfold insE; rw [if_neg (by simp [hg]), if_neg hk, if_pos hfull]
        have e2 : insK most k s = k := if_neg (by rw [e1]; decide)
        rw [e1, e2]
        refine Ctr_of (fn := Tryz.f13) (n := 37) Tryz.func13 rfl rfl rfl ?_
        intro g F
        (repeat first | refine G_seq ?_ | refine G_skip ?_ | refine G_endblk ?_ | refine G_block ?_ | refine G_exit rfl ?_)
        refine G_region ?_
        refine GO_eff rfl rfl (eff_box rfl) ?_; rintro _ _ ⟨b3, rfl, rfl⟩
        refine GO_q rfl rfl (ev_assign rfl) ?_
        refine GO_nil ?_
        (repeat first | refine G_seq ?_ | refine G_skip ?_ | refine G_endblk ?_ | refine G_block ?_ | refine G_exit rfl ?_)
        (repeat first | refine G_seq ?_ | refine G_skip ?_ | refine G_endblk ?_ | refine G_block ?_ | refine G_exit rfl ?_)
        refine G_region ?_
        refine GO_q rfl rfl (ev_move rfl) ?_
        (first | refine GO_q rfl rfl (ev_eqlNil rfl rfl) ?_ | refine GO_q rfl rfl (ev_eqlPtr rfl rfl) ?_)
        refine GO_q rfl rfl (ev_move rfl) ?_
        refine GO_yes rfl rfl rfl rfl ?_
        refine GO_q rfl rfl (ev_loadN rfl (by repeat' first | exact LdN.blk rfl | assumption | apply LdN.skip | apply LdN.app)) ?_
        refine GO_yes rfl rfl rfl rfl ?_
        refine GO_eff rfl rfl (eff_call rfl (hfr _)) ?_; rintro _ _ ⟨rfl, rfl⟩
        refine GO_yes rfl rfl rfl rfl ?_
        refine GO_q rfl rfl (ev_not rfl) ?_
        refine GO_q rfl rfl (ev_pick_f rfl rfl rfl) ?_
        refine GO_q rfl rfl (ev_assign rfl) ?_
        refine GO_nil ?_
        (repeat first | refine G_seq ?_ | refine G_skip ?_ | refine G_endblk ?_ | refine G_block ?_ | refine G_exit rfl ?_)
        refine G_cond_f rfl rfl ?_
        (repeat first | refine G_seq ?_ | refine G_skip ?_ | refine G_endblk ?_ | refine G_block ?_ | refine G_exit rfl ?_)
        refine G_region ?_
        refine GO_q rfl rfl (ev_move rfl) ?_
        refine GO_q rfl rfl (ev_loadN rfl (by repeat' first | exact LdN.blk rfl | assumption | apply LdN.skip | apply LdN.app)) ?_
        refine GO_eff rfl rfl (eff_call rfl (hhas _ (by repeat' first | exact hT _ | apply TI.skip))) ?_; rintro _ _ ⟨rfl, rfl⟩
        refine GO_q rfl rfl (ev_assign rfl) ?_
        refine GO_nil ?_
        (repeat first | refine G_seq ?_ | refine G_skip ?_ | refine G_endblk ?_ | refine G_block ?_ | refine G_exit rfl ?_)
        refine G_cond_f rfl rfl ?_
        (repeat first | refine G_seq ?_ | refine G_skip ?_ | refine G_endblk ?_ | refine G_block ?_ | refine G_exit rfl ?_)
        refine G_draw (.q 0 (.q 1 (.q 2 (.q 3 (.q 5 (.q 6 (.q 7 (.q 8 (.e 4 (.q 9 (.q 10 .nil))))))))))) (by kernel_rfl) (by kernel_rfl) ?_
        refine RS_m retB_noPanic rfl rfl rfl rfl (ev_move rfl) ?_
        (first | refine RS_m retB_noPanic rfl rfl rfl rfl (ev_nilCheck rfl) ?_ | refine RS_m retB_noPanic rfl rfl rfl rfl (ev_nilCheckF (by simp) rfl) ?_)
        refine RS_m retB_noPanic rfl rfl rfl rfl (ev_fieldAddr rfl) ?_
        refine RS_q retB_noPanic rfl rfl rfl rfl (ev_load rfl (by repeat' first | exact Ld.blk rfl | assumption | apply Ld.skip | apply Ld.app)) ?_
        refine RS_m retB_noPanic rfl rfl rfl rfl (ev_move rfl) ?_
        (first | refine RS_m retB_noPanic rfl rfl rfl rfl (ev_nilCheck rfl) ?_ | refine RS_m retB_noPanic rfl rfl rfl rfl (ev_nilCheckF (by simp) rfl) ?_)
        refine RS_m retB_noPanic rfl rfl rfl rfl (ev_fieldAddr rfl) ?_
        refine RS_q retB_noPanic rfl rfl rfl rfl (ev_load rfl (by repeat' first | exact Ld.blk rfl | assumption | apply Ld.skip | apply Ld.app)) ?_
        refine RS_e (RE_eff rfl rfl rfl (eff_call rfl (isize_ctr T _ (by repeat' first | exact (hT _).i | apply IIn.skip))) ?_); rintro _ _ ⟨rfl, rfl⟩; refine ⟨_, fun _ s => s, (by first | ((repeat first | exact fun _ s => s | apply en_keep | apply en_drop | apply en_app) <;> fail) | ((repeat first | exact en_refl | (apply en_blk; focus ((repeat' first | exact Pick.here | apply Pick.skip | apply Pick.app); done); focus rfl) | (apply en_own; focus ((repeat' first | exact Pick.here | apply Pick.skip | apply Pick.app); done); focus rfl) | (apply en_pick; focus ((repeat' first | exact Pick.here | apply Pick.skip | apply Pick.app); done)) | apply en_drop | apply en_app) <;> fail)), ?_⟩
        refine RS_m retB_noPanic rfl rfl rfl rfl (ev_geq rfl rfl) ?_
        refine RS_m retB_noPanic rfl rfl rfl rfl (ev_assign rfl) ?_
        refine RS_nil ?_
        (repeat first | refine G_seq ?_ | refine G_skip ?_ | refine G_endblk ?_ | refine G_block ?_ | refine G_exit rfl ?_)
        refine G_cond_t rfl (decide_eq_true (by omega)) ?_
        (repeat first | refine G_seq ?_ | refine G_skip ?_ | refine G_endblk ?_ | refine G_block ?_ | refine G_exit rfl ?_)
        refine G_region ?_
        refine GO_q rfl rfl (ev_assign rfl) ?_
        refine GO_nil ?_
        (repeat first | refine G_seq ?_ | refine G_skip ?_ | refine G_endblk ?_ | refine G_block ?_ | refine G_exit rfl ?_)
        exact G_ret (L' := blk t 75 [.pointer T.addr, .int .i64 most] :: itH T :: L) rfl (.tmp rfl .nil) (by (repeat first | exact en_refl | (apply en_blk; focus ((repeat' first | exact Pick.here | apply Pick.skip | apply Pick.app); done); focus rfl) | (apply en_own; focus ((repeat' first | exact Pick.here | apply Pick.skip | apply Pick.app); done); focus rfl) | (apply en_pick; focus ((repeat' first | exact Pick.here | apply Pick.skip | apply Pick.app); done)) | apply en_drop | apply en_app) <;> fail) ⟨rfl, T, ⟨o1, o2, o3⟩, rfl⟩
      · have e1 : insE most k s = 0 := by unfold insE; rw [if_neg (by simp [hg]), if_neg hk, if_neg hfull]
        have e2 : insK most k s = k ++ [s] := if_pos e1
        obtain ⟨f1, f2, f3⟩ := fairP_le hg
        simp only [good, Bool.and_eq_true, decide_eq_true_eq] at f2 f3
        rw [e1, e2]
        refine Ctr_of (fn := Tryz.f13) (n := 37) Tryz.func13 rfl rfl rfl ?_
        intro g F
        (repeat first | refine G_seq ?_ | refine G_skip ?_ | refine G_endblk ?_ | refine G_block ?_ | refine G_exit rfl ?_)
        refine G_region ?_
        refine GO_eff rfl rfl (eff_box rfl) ?_; rintro _ _ ⟨b3, rfl, rfl⟩
        refine GO_q rfl rfl (ev_assign rfl) ?_
        refine GO_nil ?_
        (repeat first | refine G_seq ?_ | refine G_skip ?_ | refine G_endblk ?_ | refine G_block ?_ | refine G_exit rfl ?_)
        (repeat first | refine G_seq ?_ | refine G_skip ?_ | refine G_endblk ?_ | refine G_block ?_ | refine G_exit rfl ?_)
        refine G_region ?_
        refine GO_q rfl rfl (ev_move rfl) ?_
        (first | refine GO_q rfl rfl (ev_eqlNil rfl rfl) ?_ | refine GO_q rfl rfl (ev_eqlPtr rfl rfl) ?_)
        refine GO_q rfl rfl (ev_move rfl) ?_
        refine GO_yes rfl rfl rfl rfl ?_
        refine GO_q rfl rfl (ev_loadN rfl (by repeat' first | exact LdN.blk rfl | assumption | apply LdN.skip | apply LdN.app)) ?_
        refine GO_yes rfl rfl rfl rfl ?_
        refine GO_eff rfl rfl (eff_call rfl (hfr _)) ?_; rintro _ _ ⟨rfl, rfl⟩
        refine GO_yes rfl rfl rfl rfl ?_
        refine GO_q rfl rfl (ev_not rfl) ?_
        refine GO_q rfl rfl (ev_pick_f rfl rfl rfl) ?_
        refine GO_q rfl rfl (ev_assign rfl) ?_
        refine GO_nil ?_
        (repeat first | refine G_seq ?_ | refine G_skip ?_ | refine G_endblk ?_ | refine G_block ?_ | refine G_exit rfl ?_)
        refine G_cond_f rfl rfl ?_
        (repeat first | refine G_seq ?_ | refine G_skip ?_ | refine G_endblk ?_ | refine G_block ?_ | refine G_exit rfl ?_)
        refine G_region ?_
        refine GO_q rfl rfl (ev_move rfl) ?_
        refine GO_q rfl rfl (ev_loadN rfl (by repeat' first | exact LdN.blk rfl | assumption | apply LdN.skip | apply LdN.app)) ?_
        refine GO_eff rfl rfl (eff_call rfl (hhas _ (by repeat' first | exact hT _ | apply TI.skip))) ?_; rintro _ _ ⟨rfl, rfl⟩
        refine GO_q rfl rfl (ev_assign rfl) ?_
        refine GO_nil ?_
        (repeat first | refine G_seq ?_ | refine G_skip ?_ | refine G_endblk ?_ | refine G_block ?_ | refine G_exit rfl ?_)
        refine G_cond_f rfl rfl ?_
        (repeat first | refine G_seq ?_ | refine G_skip ?_ | refine G_endblk ?_ | refine G_block ?_ | refine G_exit rfl ?_)
        refine G_draw (.q 0 (.q 1 (.q 2 (.q 3 (.q 5 (.q 6 (.q 7 (.q 8 (.e 4 (.q 9 (.q 10 .nil))))))))))) (by kernel_rfl) (by kernel_rfl) ?_
        refine RS_m retB_noPanic rfl rfl rfl rfl (ev_move rfl) ?_
        (first | refine RS_m retB_noPanic rfl rfl rfl rfl (ev_nilCheck rfl) ?_ | refine RS_m retB_noPanic rfl rfl rfl rfl (ev_nilCheckF (by simp) rfl) ?_)
        refine RS_m retB_noPanic rfl rfl rfl rfl (ev_fieldAddr rfl) ?_
        refine RS_q retB_noPanic rfl rfl rfl rfl (ev_load rfl (by repeat' first | exact Ld.blk rfl | assumption | apply Ld.skip | apply Ld.app)) ?_
        refine RS_m retB_noPanic rfl rfl rfl rfl (ev_move rfl) ?_
        (first | refine RS_m retB_noPanic rfl rfl rfl rfl (ev_nilCheck rfl) ?_ | refine RS_m retB_noPanic rfl rfl rfl rfl (ev_nilCheckF (by simp) rfl) ?_)
        refine RS_m retB_noPanic rfl rfl rfl rfl (ev_fieldAddr rfl) ?_
        refine RS_q retB_noPanic rfl rfl rfl rfl (ev_load rfl (by repeat' first | exact Ld.blk rfl | assumption | apply Ld.skip | apply Ld.app)) ?_
        refine RS_e (RE_eff rfl rfl rfl (eff_call rfl (isize_ctr T _ (by repeat' first | exact (hT _).i | apply IIn.skip))) ?_); rintro _ _ ⟨rfl, rfl⟩; refine ⟨_, fun _ s => s, (by first | ((repeat first | exact fun _ s => s | apply en_keep | apply en_drop | apply en_app) <;> fail) | ((repeat first | exact en_refl | (apply en_blk; focus ((repeat' first | exact Pick.here | apply Pick.skip | apply Pick.app); done); focus rfl) | (apply en_own; focus ((repeat' first | exact Pick.here | apply Pick.skip | apply Pick.app); done); focus rfl) | (apply en_pick; focus ((repeat' first | exact Pick.here | apply Pick.skip | apply Pick.app); done)) | apply en_drop | apply en_app) <;> fail)), ?_⟩
        refine RS_m retB_noPanic rfl rfl rfl rfl (ev_geq rfl rfl) ?_
        refine RS_m retB_noPanic rfl rfl rfl rfl (ev_assign rfl) ?_
        refine RS_nil ?_
        (repeat first | refine G_seq ?_ | refine G_skip ?_ | refine G_endblk ?_ | refine G_block ?_ | refine G_exit rfl ?_)
        refine G_cond_f rfl (decide_eq_false (by omega)) ?_
        (repeat first | refine G_seq ?_ | refine G_skip ?_ | refine G_endblk ?_ | refine G_block ?_ | refine G_exit rfl ?_)
        (repeat first | refine G_seq ?_ | refine G_skip ?_ | refine G_endblk ?_ | refine G_block ?_ | refine G_exit rfl ?_)
        refine G_drawE 3 (.q 0 (.q 1 (.q 2 (.q 3 (.q 4 (.q 5 (.e 6 (.q 7 (.q 8 (.e 9 .nil)))))))))) (by kernel_rfl) (by kernel_rfl) ?_
        refine RS_m retB_noPanic rfl rfl rfl rfl (ev_move rfl) ?_
        refine RS_m retB_noPanic rfl rfl rfl rfl (ev_move rfl) ?_
        (first | refine RS_m retB_noPanic rfl rfl rfl rfl (ev_nilCheck rfl) ?_ | refine RS_m retB_noPanic rfl rfl rfl rfl (ev_nilCheckF (by simp) rfl) ?_)
        refine RS_m retB_noPanic rfl rfl rfl rfl (ev_fieldAddr rfl) ?_
        refine RS_q retB_noPanic rfl rfl rfl rfl (ev_load rfl (by repeat' first | exact Ld.blk rfl | assumption | apply Ld.skip | apply Ld.app)) ?_
        refine RS_q retB_noPanic rfl rfl rfl rfl (ev_loadN rfl (by repeat' first | exact LdN.blk rfl | assumption | apply LdN.skip | apply LdN.app)) ?_
        refine RS_e (RE_cmp (by kernel_rfl) rfl rfl rfl (eff_call rfl (Ctr.pick (by repeat' first | exact Pick.here | apply Pick.skip | apply Pick.app) (put_ctr T s _ o1 o2 f1 (by omega) (by omega) (fun h => hk (hmem.1 h)) (by omega)))) ?_); rintro _ _ ⟨T', ⟨t1, t2, t3⟩, rfl, rfl⟩
        (first | refine RS_m retB_noPanic rfl rfl rfl rfl (ev_nilCheck rfl) ?_ | refine RS_m retB_noPanic rfl rfl rfl rfl (ev_nilCheckF (by simp) rfl) ?_)
        refine RS_m retB_noPanic rfl rfl rfl rfl (ev_fieldAddr rfl) ?_
        refine RS_e (RE_last (by kernel_rfl) rfl rfl rfl (eff_store rfl rfl rfl (by repeat' first | exact Upd.here rfl | apply Upd.skip | apply Upd.app)) ?_); rintro _ _ ⟨rfl, rfl⟩
        (repeat first | refine G_seq ?_ | refine G_skip ?_ | refine G_endblk ?_ | refine G_block ?_ | refine G_exit rfl ?_)
        refine G_region ?_
        refine GO_q rfl rfl (ev_assign rfl) ?_
        refine GO_nil ?_
        (repeat first | refine G_seq ?_ | refine G_skip ?_ | refine G_endblk ?_ | refine G_block ?_ | refine G_exit rfl ?_)
        exact G_ret (L' := blk t 75 [.pointer T'.addr, .int .i64 most] :: itH T' :: L) rfl (.tmp rfl .nil) (by (repeat first | exact en_refl | (apply en_blk; focus ((repeat' first | exact Pick.here | apply Pick.skip | apply Pick.app); done); focus rfl) | (apply en_own; focus ((repeat' first | exact Pick.here | apply Pick.skip | apply Pick.app); done); focus rfl) | (apply en_pick; focus ((repeat' first | exact Pick.here | apply Pick.skip | apply Pick.app); done)) | apply en_drop | apply en_app) <;> fail) ⟨rfl, T', ⟨t1, t2, t3.trans ((List.Perm.cons s o3).trans (List.perm_append_singleton s k).symm)⟩, rfl⟩
theorem iDelete_ctr (t : Nat) (most : Int) (k : List Pt) (s : Pt) (L : List HP) (T : IT) (o : treeO k T) (hn : k.length ≤ 1000) :
    Ctr Tryz.prog 14 #[.pointer (some ⟨t, 0, none⟩), s.v] (blk t 75 [.pointer T.addr, .int .i64 most] :: itH T :: L) fun v L' => v = .int .i64 (delE k s) ∧ ∃ T', treeO (k.erase s) T' ∧ L' = blk t 75 [.pointer T'.addr, .int .i64 most] :: itH T' :: L := by
  obtain ⟨o1, o2, o3⟩ := o
  have hl := o3.length_eq
  have hT : ∀ M, TI (blk t 75 [.pointer T.addr, .int .i64 most] :: itH T :: M) t T most := fun M => ⟨Ld.blk rfl, Ld.blk rfl, (itH_in T M o2).skip⟩
  have hhas := fun M h => ihas_ctr (t := t) (T := T) (most := most) (L := M) h s o1 (by omega)
  rw [o1.has_dec] at hhas
  have hmem := o3.mem_iff (a := s)
  rw [show decide (s ∈ T.spans) = decide (s ∈ k) from decide_eq_decide.2 hmem] at hhas
  by_cases hk : s ∈ k
  · have e1 : delE k s = 0 := if_pos hk
    rw [e1]
    rw [decide_eq_true hk] at hhas
    refine Ctr_of (fn := Tryz.f14) (n := 22) Tryz.func14 rfl rfl rfl ?_
    intro g F
    (repeat first | refine G_seq ?_ | refine G_skip ?_ | refine G_endblk ?_ | refine G_block ?_ | refine G_exit rfl ?_)
    refine G_region ?_
    refine GO_eff rfl rfl (eff_box rfl) ?_; rintro _ _ ⟨b3, rfl, rfl⟩
    refine GO_q rfl rfl (ev_assign rfl) ?_
    refine GO_nil ?_
    (repeat first | refine G_seq ?_ | refine G_skip ?_ | refine G_endblk ?_ | refine G_block ?_ | refine G_exit rfl ?_)
    (repeat first | refine G_seq ?_ | refine G_skip ?_ | refine G_endblk ?_ | refine G_block ?_ | refine G_exit rfl ?_)
    refine G_region ?_
    refine GO_q rfl rfl (ev_move rfl) ?_
    (first | refine GO_q rfl rfl (ev_eqlNil rfl rfl) ?_ | refine GO_q rfl rfl (ev_eqlPtr rfl rfl) ?_)
    refine GO_q rfl rfl (ev_assign rfl) ?_
    refine GO_nil ?_
    (repeat first | refine G_seq ?_ | refine G_skip ?_ | refine G_endblk ?_ | refine G_block ?_ | refine G_exit rfl ?_)
    refine G_cond_f rfl rfl ?_
    (repeat first | refine G_seq ?_ | refine G_skip ?_ | refine G_endblk ?_ | refine G_block ?_ | refine G_exit rfl ?_)
    refine G_region ?_
    refine GO_q rfl rfl (ev_move rfl) ?_
    refine GO_q rfl rfl (ev_loadN rfl (by repeat' first | exact LdN.blk rfl | assumption | apply LdN.skip | apply LdN.app)) ?_
    refine GO_eff rfl rfl (eff_call rfl (hhas _ (by repeat' first | exact hT _ | apply TI.skip))) ?_; rintro _ _ ⟨rfl, rfl⟩
    refine GO_q rfl rfl (ev_not rfl) ?_
    refine GO_q rfl rfl (ev_assign rfl) ?_
    refine GO_nil ?_
    (repeat first | refine G_seq ?_ | refine G_skip ?_ | refine G_endblk ?_ | refine G_block ?_ | refine G_exit rfl ?_)
    refine G_cond_f rfl rfl ?_
    (repeat first | refine G_seq ?_ | refine G_skip ?_ | refine G_endblk ?_ | refine G_block ?_ | refine G_exit rfl ?_)
    (repeat first | refine G_seq ?_ | refine G_skip ?_ | refine G_endblk ?_ | refine G_block ?_ | refine G_exit rfl ?_)
    refine G_drawE 3 (.q 0 (.q 1 (.q 2 (.q 3 (.q 4 (.q 5 (.e 6 (.q 7 (.q 8 (.e 9 .nil)))))))))) (by kernel_rfl) (by kernel_rfl) ?_
    refine RS_m retB_noPanic rfl rfl rfl rfl (ev_move rfl) ?_
    refine RS_m retB_noPanic rfl rfl rfl rfl (ev_move rfl) ?_
    (first | refine RS_m retB_noPanic rfl rfl rfl rfl (ev_nilCheck rfl) ?_ | refine RS_m retB_noPanic rfl rfl rfl rfl (ev_nilCheckF (by simp) rfl) ?_)
    refine RS_m retB_noPanic rfl rfl rfl rfl (ev_fieldAddr rfl) ?_
    refine RS_q retB_noPanic rfl rfl rfl rfl (ev_load rfl (by repeat' first | exact Ld.blk rfl | assumption | apply Ld.skip | apply Ld.app)) ?_
    refine RS_q retB_noPanic rfl rfl rfl rfl (ev_loadN rfl (by repeat' first | exact LdN.blk rfl | assumption | apply LdN.skip | apply LdN.app)) ?_
    refine RS_e (RE_cmp (by kernel_rfl) rfl rfl rfl (eff_call rfl (Ctr.pick (by repeat' first | exact Pick.here | apply Pick.skip | apply Pick.app) (cut_ctr T s _ o1 o2 (hmem.2 hk) (by omega)))) ?_); rintro _ _ ⟨T', ⟨t1, t2, t3⟩, rfl, rfl⟩
    (first | refine RS_m retB_noPanic rfl rfl rfl rfl (ev_nilCheck rfl) ?_ | refine RS_m retB_noPanic rfl rfl rfl rfl (ev_nilCheckF (by simp) rfl) ?_)
    refine RS_m retB_noPanic rfl rfl rfl rfl (ev_fieldAddr rfl) ?_
    refine RS_e (RE_last (by kernel_rfl) rfl rfl rfl (eff_store rfl rfl rfl (by repeat' first | exact Upd.here rfl | apply Upd.skip | apply Upd.app)) ?_); rintro _ _ ⟨rfl, rfl⟩
    (repeat first | refine G_seq ?_ | refine G_skip ?_ | refine G_endblk ?_ | refine G_block ?_ | refine G_exit rfl ?_)
    refine G_region ?_
    refine GO_q rfl rfl (ev_assign rfl) ?_
    refine GO_nil ?_
    (repeat first | refine G_seq ?_ | refine G_skip ?_ | refine G_endblk ?_ | refine G_block ?_ | refine G_exit rfl ?_)
    exact G_ret (L' := blk t 75 [.pointer T'.addr, .int .i64 most] :: itH T' :: L) rfl (.tmp rfl .nil) (by (repeat first | exact en_refl | (apply en_blk; focus ((repeat' first | exact Pick.here | apply Pick.skip | apply Pick.app); done); focus rfl) | (apply en_own; focus ((repeat' first | exact Pick.here | apply Pick.skip | apply Pick.app); done); focus rfl) | (apply en_pick; focus ((repeat' first | exact Pick.here | apply Pick.skip | apply Pick.app); done)) | apply en_drop | apply en_app) <;> fail) ⟨rfl, T', ⟨t1, t2, t3.trans (o3.erase s)⟩, rfl⟩
  · have e1 : delE k s = 6 := if_neg hk
    rw [e1, List.erase_of_not_mem hk]
    rw [decide_eq_false hk] at hhas
    refine Ctr_of (fn := Tryz.f14) (n := 22) Tryz.func14 rfl rfl rfl ?_
    intro g F
    (repeat first | refine G_seq ?_ | refine G_skip ?_ | refine G_endblk ?_ | refine G_block ?_ | refine G_exit rfl ?_)
    refine G_region ?_
    refine GO_eff rfl rfl (eff_box rfl) ?_; rintro _ _ ⟨b3, rfl, rfl⟩
    refine GO_q rfl rfl (ev_assign rfl) ?_
    refine GO_nil ?_
    (repeat first | refine G_seq ?_ | refine G_skip ?_ | refine G_endblk ?_ | refine G_block ?_ | refine G_exit rfl ?_)
    (repeat first | refine G_seq ?_ | refine G_skip ?_ | refine G_endblk ?_ | refine G_block ?_ | refine G_exit rfl ?_)
    refine G_region ?_
    refine GO_q rfl rfl (ev_move rfl) ?_
    (first | refine GO_q rfl rfl (ev_eqlNil rfl rfl) ?_ | refine GO_q rfl rfl (ev_eqlPtr rfl rfl) ?_)
    refine GO_q rfl rfl (ev_assign rfl) ?_
    refine GO_nil ?_
    (repeat first | refine G_seq ?_ | refine G_skip ?_ | refine G_endblk ?_ | refine G_block ?_ | refine G_exit rfl ?_)
    refine G_cond_f rfl rfl ?_
    (repeat first | refine G_seq ?_ | refine G_skip ?_ | refine G_endblk ?_ | refine G_block ?_ | refine G_exit rfl ?_)
    refine G_region ?_
    refine GO_q rfl rfl (ev_move rfl) ?_
    refine GO_q rfl rfl (ev_loadN rfl (by repeat' first | exact LdN.blk rfl | assumption | apply LdN.skip | apply LdN.app)) ?_
    refine GO_eff rfl rfl (eff_call rfl (hhas _ (by repeat' first | exact hT _ | apply TI.skip))) ?_; rintro _ _ ⟨rfl, rfl⟩
    refine GO_q rfl rfl (ev_not rfl) ?_
    refine GO_q rfl rfl (ev_assign rfl) ?_
    refine GO_nil ?_
    (repeat first | refine G_seq ?_ | refine G_skip ?_ | refine G_endblk ?_ | refine G_block ?_ | refine G_exit rfl ?_)
    refine G_cond_t rfl rfl ?_
    (repeat first | refine G_seq ?_ | refine G_skip ?_ | refine G_endblk ?_ | refine G_block ?_ | refine G_exit rfl ?_)
    refine G_region ?_
    refine GO_q rfl rfl (ev_assign rfl) ?_
    refine GO_nil ?_
    (repeat first | refine G_seq ?_ | refine G_skip ?_ | refine G_endblk ?_ | refine G_block ?_ | refine G_exit rfl ?_)
    exact G_ret (L' := blk t 75 [.pointer T.addr, .int .i64 most] :: itH T :: L) rfl (.tmp rfl .nil) (by (repeat first | exact en_refl | (apply en_blk; focus ((repeat' first | exact Pick.here | apply Pick.skip | apply Pick.app); done); focus rfl) | (apply en_own; focus ((repeat' first | exact Pick.here | apply Pick.skip | apply Pick.app); done); focus rfl) | (apply en_pick; focus ((repeat' first | exact Pick.here | apply Pick.skip | apply Pick.app); done)) | apply en_drop | apply en_app) <;> fail) ⟨rfl, T, ⟨o1, o2, o3⟩, rfl⟩
end Go.Proofs.YtjnmpogolknkpaaGreat
/- A tree of middles: what is done to it and to the references' set; that it lives. -/
namespace Go.Proofs.YtjnmpogolknkpaaGreat
attribute [local irreducible] sat
set_option linter.unusedVariables false
set_option linter.unusedSimpArgs false
set_option maxRecDepth 100000

section
variable (t b : Nat) (most : Int) (k : List Pt) (p : Pt) (L : List HP)
theorem IInsert_ctr (hk : k.length ≤ 1000) : Ctr Tryz.prog 13 #[.pointer (some ⟨t, 0, none⟩), p.v] (treeI t most k :: L) fun v L' => v = .int .i64 (insE most k p) ∧ L' = treeI t most (insK most k p) :: L :=
  Ctr.treeT fun T o => iInsert_ctr t most k p L T o hk
theorem IDelete_ctr (hk : k.length ≤ 1000) : Ctr Tryz.prog 14 #[.pointer (some ⟨t, 0, none⟩), p.v] (treeI t most k :: L) fun v L' => v = .int .i64 (delE k p) ∧ L' = treeI t most (k.erase p) :: L :=
  Ctr.treeT fun T o => iDelete_ctr t most k p L T o hk
theorem QInsert_ctr (hk : k.length ≤ 1000) : Ctr Tryz.prog 54 #[.pointer (some ⟨b, 0, none⟩), p.v] (setI b most k :: L) fun v L' => v = .int .i64 (insE most k p) ∧ L' = setI b most (insK most k p) :: L :=
  Ctr.setT fun A c o => sInsert_ctr b 39 [] A c most k p L o (by omega)
theorem QDelete_ctr (hk : k.length ≤ 1000) : Ctr Tryz.prog 53 #[.pointer (some ⟨b, 0, none⟩), p.v] (setI b most k :: L) fun v L' => v = .int .i64 (delE k p) ∧ L' = setI b most (k.erase p) :: L :=
  Ctr.setT fun A c o => sDelete_ctr b 39 [] A c most k p L o (by omega)
theorem QOverlap_ctr (u v : Int) (hk : k.length ≤ 1000) : Ctr Tryz.prog 17 #[.pointer (some ⟨b, 0, none⟩), .int .i64 u, .int .i64 v] (setI b most k :: L) fun r L' => MadeQ (overK k u v) (setI b most k :: L) r L' :=
  Ctr.setQ' fun A c L' h h' => sOverlap_ctr b A c k most u v L' h h' hk
theorem QSpan_ctr (a : Ac) (hk : k.length ≤ 1000) (ha : a.at_ ≤ 9223372036854775807) : Ctr Tryz.prog 52 #[.pointer (some ⟨b, 0, none⟩), .agg #[.int .i64 a.kind, .int .i64 a.at_, .int .i64 a.p.id, .int .i64 a.p.x, .int .i64 a.p.y]] (setI b most k :: L) fun r L' => r = (actP k a).v ∧ L' = setI b most k :: L :=
  Ctr.set0 (R := fun r => r = (actP k a).v) fun A c L' h h' => gSpan_ctr b A c most a k L' h h' (by omega) ha
theorem idoes_ctr (a : Ac) (hk : k.length ≤ 999) (ha : a.at_ ≤ 9223372036854775807) :
    Ctr Tryz.prog 22 #[.pointer (some ⟨t, 0, none⟩), .pointer (some ⟨b, 0, none⟩), .agg #[.int .i64 a.kind, .int .i64 a.at_, .int .i64 a.p.id, .int .i64 a.p.x, .int .i64 a.p.y]] (treeI t most k :: setI b most k :: L) fun v L' => v = .bool true ∧ L' = treeI t most (actK most k a) :: setI b most (actK most k a) :: L := by
  refine Ctr_of (fn := Tryz.f22) (n := 33) Tryz.func22 rfl rfl rfl ?_
  intro g F
  (repeat first | refine G_seq ?_ | refine G_skip ?_ | refine G_endblk ?_ | refine G_block ?_ | refine G_exit rfl ?_)
  refine G_region ?_
  refine GO_eff rfl rfl (eff_box rfl) ?_; rintro _ _ ⟨b5, rfl, rfl⟩
  refine GO_q rfl rfl (ev_assign rfl) ?_
  refine GO_nil ?_
  (repeat first | refine G_seq ?_ | refine G_skip ?_ | refine G_endblk ?_ | refine G_block ?_ | refine G_exit rfl ?_)
  (repeat first | refine G_seq ?_ | refine G_skip ?_ | refine G_endblk ?_ | refine G_block ?_ | refine G_exit rfl ?_)
  refine G_region ?_
  refine GO_q rfl rfl (ev_move rfl) ?_
  refine GO_q rfl rfl (ev_loadN rfl (by repeat' first | exact LdN.blk rfl | assumption | apply LdN.skip | apply LdN.app)) ?_
  refine GO_eff rfl rfl (eff_call rfl (Ctr.pick (by repeat' first | exact Pick.here | apply Pick.skip | apply Pick.app) (QSpan_ctr b most k _ a (by omega) ha))) ?_; rintro _ _ ⟨rfl, rfl⟩
  refine GO_eff rfl rfl eff_alloc ?_; rintro _ _ ⟨b7, rfl, rfl⟩
  refine GO_eff rfl rfl (eff_storeN rfl rfl rfl rfl (by repeat' first | exact Upd.here rfl | apply Upd.skip | apply Upd.app)) ?_; rintro _ _ ⟨rfl, rfl⟩
  refine GO_nil ?_
  all_goals
    generalize hp : actP k a = p
    by_cases hk' : a.kind = 1 ∨ a.kind = 2
    · have e : actK most k a = k.erase p := by unfold actK; rw [if_pos hk', hp]
      rw [e]
      by_cases k1 : a.kind = 1
      · skip
        (repeat first | refine G_seq ?_ | refine G_skip ?_ | refine G_endblk ?_ | refine G_block ?_ | refine G_exit rfl ?_)
        refine G_region ?_
        refine GO_q rfl rfl (ev_fieldAddr rfl) ?_
        refine GO_q rfl rfl (ev_load rfl (by repeat' first | exact Ld.blk rfl | assumption | apply Ld.skip | apply Ld.app)) ?_
        refine GO_q rfl rfl (ev_eql rfl rfl) ?_
        refine GO_q rfl rfl (ev_move rfl) ?_
        refine GO_no rfl rfl rfl (decide_eq_true k1) ?_
        refine GO_no rfl rfl rfl (decide_eq_true k1) ?_
        refine GO_no rfl rfl rfl (decide_eq_true k1) ?_
        refine GO_q rfl rfl (ev_pick_t rfl (decide_eq_true k1) rfl) ?_
        refine GO_nil ?_
        (repeat first | refine G_seq ?_ | refine G_skip ?_ | refine G_endblk ?_ | refine G_block ?_ | refine G_exit rfl ?_)
        refine G_cond_t rfl rfl ?_
        (repeat first | refine G_seq ?_ | refine G_skip ?_ | refine G_endblk ?_ | refine G_block ?_ | refine G_exit rfl ?_)
        refine G_drawE 4 (.q 0 (.q 1 (.q 3 (.q 4 (.e 2 (.e 5 (.q 6 (.q 7 .nil)))))))) (by kernel_rfl) (by kernel_rfl) ?_
        refine RS_m retB_noPanic rfl rfl rfl rfl (ev_move rfl) ?_
        refine RS_q retB_noPanic rfl rfl rfl rfl (ev_loadN rfl (by repeat' first | exact LdN.blk rfl | assumption | apply LdN.skip | apply LdN.app)) ?_
        refine RS_m retB_noPanic rfl rfl rfl rfl (ev_move rfl) ?_
        refine RS_q retB_noPanic rfl rfl rfl rfl (ev_loadN rfl (by repeat' first | exact LdN.blk rfl | assumption | apply LdN.skip | apply LdN.app)) ?_
        refine RS_e (RE_eff rfl rfl rfl (eff_call rfl (Ctr.pick (by repeat' first | exact Pick.here | apply Pick.skip | apply Pick.app) (IDelete_ctr t most k p _ (by omega)))) ?_); rintro _ _ ⟨rfl, rfl⟩; refine ⟨_, (by first | ((repeat first | exact fun _ s => s | apply en_keep | apply en_drop | apply en_app) <;> fail) | ((repeat first | exact en_refl | (apply en_blk; focus ((repeat' first | exact Pick.here | apply Pick.skip | apply Pick.app); done); focus rfl) | (apply en_own; focus ((repeat' first | exact Pick.here | apply Pick.skip | apply Pick.app); done); focus rfl) | (apply en_pick; focus ((repeat' first | exact Pick.here | apply Pick.skip | apply Pick.app); done)) | apply en_drop | apply en_app) <;> fail)), fun _ s => s, ?_⟩
        refine RS_e (RE_cmp (by kernel_rfl) rfl rfl rfl (eff_call rfl (Ctr.pick (by repeat' first | exact Pick.here | apply Pick.skip | apply Pick.app) (QDelete_ctr b most k p _ (by omega)))) ?_); rintro _ _ ⟨rfl, rfl⟩
        refine RS_m retB_noPanic rfl rfl rfl rfl (ev_eql rfl rfl) ?_
        refine RS_m retB_noPanic rfl rfl rfl rfl (ev_assign rfl) ?_
        refine RS_nil ?_
        (repeat first | refine G_seq ?_ | refine G_skip ?_ | refine G_endblk ?_ | refine G_block ?_ | refine G_exit rfl ?_)
        refine G_ret (L' := treeI t most (k.erase p) :: setI b most (k.erase p) :: L) rfl (.tmp rfl .nil) (by (repeat first | exact en_refl | (apply en_blk; focus ((repeat' first | exact Pick.here | apply Pick.skip | apply Pick.app); done); focus rfl) | (apply en_own; focus ((repeat' first | exact Pick.here | apply Pick.skip | apply Pick.app); done); focus rfl) | (apply en_pick; focus ((repeat' first | exact Pick.here | apply Pick.skip | apply Pick.app); done)) | apply en_drop | apply en_app) <;> fail) ⟨by simp [retv], rfl⟩
      · have k2 : a.kind = 2 := by omega
        (repeat first | refine G_seq ?_ | refine G_skip ?_ | refine G_endblk ?_ | refine G_block ?_ | refine G_exit rfl ?_)
        refine G_region ?_
        refine GO_q rfl rfl (ev_fieldAddr rfl) ?_
        refine GO_q rfl rfl (ev_load rfl (by repeat' first | exact Ld.blk rfl | assumption | apply Ld.skip | apply Ld.app)) ?_
        refine GO_q rfl rfl (ev_eql rfl rfl) ?_
        refine GO_q rfl rfl (ev_move rfl) ?_
        refine GO_yes rfl rfl rfl (decide_eq_false k1) ?_
        refine GO_q rfl rfl (ev_fieldAddr rfl) ?_
        refine GO_yes rfl rfl rfl (decide_eq_false k1) ?_
        refine GO_q rfl rfl (ev_load rfl (by repeat' first | exact Ld.blk rfl | assumption | apply Ld.skip | apply Ld.app)) ?_
        refine GO_yes rfl rfl rfl (decide_eq_false k1) ?_
        refine GO_q rfl rfl (ev_eql rfl rfl) ?_
        refine GO_q rfl rfl (ev_pick_f rfl (decide_eq_false k1) rfl) ?_
        refine GO_nil ?_
        (repeat first | refine G_seq ?_ | refine G_skip ?_ | refine G_endblk ?_ | refine G_block ?_ | refine G_exit rfl ?_)
        refine G_cond_t rfl (decide_eq_true k2) ?_
        (repeat first | refine G_seq ?_ | refine G_skip ?_ | refine G_endblk ?_ | refine G_block ?_ | refine G_exit rfl ?_)
        refine G_drawE 4 (.q 0 (.q 1 (.q 3 (.q 4 (.e 2 (.e 5 (.q 6 (.q 7 .nil)))))))) (by kernel_rfl) (by kernel_rfl) ?_
        refine RS_m retB_noPanic rfl rfl rfl rfl (ev_move rfl) ?_
        refine RS_q retB_noPanic rfl rfl rfl rfl (ev_loadN rfl (by repeat' first | exact LdN.blk rfl | assumption | apply LdN.skip | apply LdN.app)) ?_
        refine RS_m retB_noPanic rfl rfl rfl rfl (ev_move rfl) ?_
        refine RS_q retB_noPanic rfl rfl rfl rfl (ev_loadN rfl (by repeat' first | exact LdN.blk rfl | assumption | apply LdN.skip | apply LdN.app)) ?_
        refine RS_e (RE_eff rfl rfl rfl (eff_call rfl (Ctr.pick (by repeat' first | exact Pick.here | apply Pick.skip | apply Pick.app) (IDelete_ctr t most k p _ (by omega)))) ?_); rintro _ _ ⟨rfl, rfl⟩; refine ⟨_, (by first | ((repeat first | exact fun _ s => s | apply en_keep | apply en_drop | apply en_app) <;> fail) | ((repeat first | exact en_refl | (apply en_blk; focus ((repeat' first | exact Pick.here | apply Pick.skip | apply Pick.app); done); focus rfl) | (apply en_own; focus ((repeat' first | exact Pick.here | apply Pick.skip | apply Pick.app); done); focus rfl) | (apply en_pick; focus ((repeat' first | exact Pick.here | apply Pick.skip | apply Pick.app); done)) | apply en_drop | apply en_app) <;> fail)), fun _ s => s, ?_⟩
        refine RS_e (RE_cmp (by kernel_rfl) rfl rfl rfl (eff_call rfl (Ctr.pick (by repeat' first | exact Pick.here | apply Pick.skip | apply Pick.app) (QDelete_ctr b most k p _ (by omega)))) ?_); rintro _ _ ⟨rfl, rfl⟩
        refine RS_m retB_noPanic rfl rfl rfl rfl (ev_eql rfl rfl) ?_
        refine RS_m retB_noPanic rfl rfl rfl rfl (ev_assign rfl) ?_
        refine RS_nil ?_
        (repeat first | refine G_seq ?_ | refine G_skip ?_ | refine G_endblk ?_ | refine G_block ?_ | refine G_exit rfl ?_)
        refine G_ret (L' := treeI t most (k.erase p) :: setI b most (k.erase p) :: L) rfl (.tmp rfl .nil) (by (repeat first | exact en_refl | (apply en_blk; focus ((repeat' first | exact Pick.here | apply Pick.skip | apply Pick.app); done); focus rfl) | (apply en_own; focus ((repeat' first | exact Pick.here | apply Pick.skip | apply Pick.app); done); focus rfl) | (apply en_pick; focus ((repeat' first | exact Pick.here | apply Pick.skip | apply Pick.app); done)) | apply en_drop | apply en_app) <;> fail) ⟨by simp [retv], rfl⟩
    · have e : actK most k a = insK most k p := by unfold actK; rw [if_neg hk', hp]
      rw [e]
      have k1 : ¬ a.kind = 1 := fun h => hk' (.inl h)
      have k2 : ¬ a.kind = 2 := fun h => hk' (.inr h)
      (repeat first | refine G_seq ?_ | refine G_skip ?_ | refine G_endblk ?_ | refine G_block ?_ | refine G_exit rfl ?_)
      refine G_region ?_
      refine GO_q rfl rfl (ev_fieldAddr rfl) ?_
      refine GO_q rfl rfl (ev_load rfl (by repeat' first | exact Ld.blk rfl | assumption | apply Ld.skip | apply Ld.app)) ?_
      refine GO_q rfl rfl (ev_eql rfl rfl) ?_
      refine GO_q rfl rfl (ev_move rfl) ?_
      refine GO_yes rfl rfl rfl (decide_eq_false k1) ?_
      refine GO_q rfl rfl (ev_fieldAddr rfl) ?_
      refine GO_yes rfl rfl rfl (decide_eq_false k1) ?_
      refine GO_q rfl rfl (ev_load rfl (by repeat' first | exact Ld.blk rfl | assumption | apply Ld.skip | apply Ld.app)) ?_
      refine GO_yes rfl rfl rfl (decide_eq_false k1) ?_
      refine GO_q rfl rfl (ev_eql rfl rfl) ?_
      refine GO_q rfl rfl (ev_pick_f rfl (decide_eq_false k1) rfl) ?_
      refine GO_nil ?_
      (repeat first | refine G_seq ?_ | refine G_skip ?_ | refine G_endblk ?_ | refine G_block ?_ | refine G_exit rfl ?_)
      refine G_cond_f rfl (decide_eq_false k2) ?_
      (repeat first | refine G_seq ?_ | refine G_skip ?_ | refine G_endblk ?_ | refine G_block ?_ | refine G_exit rfl ?_)
      refine G_drawE 4 (.q 0 (.q 1 (.q 3 (.q 4 (.e 2 (.e 5 (.q 6 (.q 7 .nil)))))))) (by kernel_rfl) (by kernel_rfl) ?_
      refine RS_m retB_noPanic rfl rfl rfl rfl (ev_move rfl) ?_
      refine RS_q retB_noPanic rfl rfl rfl rfl (ev_loadN rfl (by repeat' first | exact LdN.blk rfl | assumption | apply LdN.skip | apply LdN.app)) ?_
      refine RS_m retB_noPanic rfl rfl rfl rfl (ev_move rfl) ?_
      refine RS_q retB_noPanic rfl rfl rfl rfl (ev_loadN rfl (by repeat' first | exact LdN.blk rfl | assumption | apply LdN.skip | apply LdN.app)) ?_
      refine RS_e (RE_eff rfl rfl rfl (eff_call rfl (Ctr.pick (by repeat' first | exact Pick.here | apply Pick.skip | apply Pick.app) (IInsert_ctr t most k p _ (by omega)))) ?_); rintro _ _ ⟨rfl, rfl⟩; refine ⟨_, (by first | ((repeat first | exact fun _ s => s | apply en_keep | apply en_drop | apply en_app) <;> fail) | ((repeat first | exact en_refl | (apply en_blk; focus ((repeat' first | exact Pick.here | apply Pick.skip | apply Pick.app); done); focus rfl) | (apply en_own; focus ((repeat' first | exact Pick.here | apply Pick.skip | apply Pick.app); done); focus rfl) | (apply en_pick; focus ((repeat' first | exact Pick.here | apply Pick.skip | apply Pick.app); done)) | apply en_drop | apply en_app) <;> fail)), fun _ s => s, ?_⟩
      refine RS_e (RE_cmp (by kernel_rfl) rfl rfl rfl (eff_call rfl (Ctr.pick (by repeat' first | exact Pick.here | apply Pick.skip | apply Pick.app) (QInsert_ctr b most k p _ (by omega)))) ?_); rintro _ _ ⟨rfl, rfl⟩
      refine RS_m retB_noPanic rfl rfl rfl rfl (ev_eql rfl rfl) ?_
      refine RS_m retB_noPanic rfl rfl rfl rfl (ev_assign rfl) ?_
      refine RS_nil ?_
      (repeat first | refine G_seq ?_ | refine G_skip ?_ | refine G_endblk ?_ | refine G_block ?_ | refine G_exit rfl ?_)
      refine G_ret (L' := treeI t most (insK most k p) :: setI b most (insK most k p) :: L) rfl (.tmp rfl .nil) (by (repeat first | exact en_refl | (apply en_blk; focus ((repeat' first | exact Pick.here | apply Pick.skip | apply Pick.app); done); focus rfl) | (apply en_own; focus ((repeat' first | exact Pick.here | apply Pick.skip | apply Pick.app); done); focus rfl) | (apply en_pick; focus ((repeat' first | exact Pick.here | apply Pick.skip | apply Pick.app); done)) | apply en_drop | apply en_app) <;> fail) ⟨by simp [retv], rfl⟩
end
theorem iMade_ctr (A : Option Addr) (n c : Nat) (acts : List Ac) (L : List HP) (hl : Rd L A n acts) (hn : n ≤ 9223372036854775807) (ha : ∀ a ∈ acts, a.at_ ≤ 9223372036854775807) :
    Ctr Tryz.prog 12 #[.slice A n c] L fun v L' => ∃ t b k, v = .tuple #[.pointer (some ⟨t, 0, none⟩), .pointer (some ⟨b, 0, none⟩), .bool true] ∧ k.length ≤ 60 ∧ L' = treeI t 60 k :: setI b 60 k :: L := by
  have h1 : acts.length = n := hl.len (by decide)
  have o0 : AdOk none 0 ([] : List Pt) := ⟨fun h => absurd h (Nat.lt_irrefl 0), Nat.le_refl _⟩
  refine Ctr_of (fn := Tryz.f12) (n := 43) Tryz.func12 rfl rfl rfl ?_
  intro g F
  (repeat first | refine G_seq ?_ | refine G_skip ?_ | refine G_endblk ?_ | refine G_block ?_ | refine G_exit rfl ?_)
  refine G_region ?_
  refine GO_q rfl rfl (ev_assign rfl) ?_
  refine GO_q rfl rfl (ev_assign rfl) ?_
  refine GO_q rfl rfl (ev_assign rfl) ?_
  refine GO_nil ?_
  (repeat first | refine G_seq ?_ | refine G_skip ?_ | refine G_endblk ?_ | refine G_block ?_ | refine G_exit rfl ?_)
  refine G_region ?_
  refine GO_eff rfl rfl (eff_call rfl (iNew_ctr 60 _ (by decide) (by decide))) ?_; rintro _ _ ⟨t, rfl, rfl⟩
  refine GO_q rfl rfl (ev_move rfl) ?_
  refine GO_q rfl rfl (ev_extract rfl rfl) ?_
  refine GO_q rfl rfl (ev_extract rfl rfl) ?_
  refine GO_q rfl rfl (ev_assign rfl) ?_
  refine GO_q rfl rfl (ev_assign rfl) ?_
  refine GO_nil ?_
  (repeat first | refine G_seq ?_ | refine G_skip ?_ | refine G_endblk ?_ | refine G_block ?_ | refine G_exit rfl ?_)
  refine G_region ?_
  refine GO_q rfl rfl (ev_build rfl rfl) ?_
  refine GO_eff rfl rfl (eff_box rfl) ?_; rintro _ _ ⟨b14, rfl, rfl⟩
  refine GO_q rfl rfl (ev_assign rfl) ?_
  refine GO_nil ?_
  (repeat first | refine G_seq ?_ | refine G_skip ?_ | refine G_endblk ?_ | refine G_block ?_ | refine G_exit rfl ?_)
  refine G_region ?_
  refine GO_q rfl rfl (ev_move rfl) ?_
  (first | refine GO_q rfl rfl (ev_eqlNil rfl rfl) ?_ | refine GO_q rfl rfl (ev_eqlPtr rfl rfl) ?_)
  refine GO_q rfl rfl (ev_move rfl) ?_
  refine GO_yes rfl rfl rfl rfl ?_
  refine GO_q rfl rfl (ev_move rfl) ?_
  refine GO_yes rfl rfl rfl rfl ?_
  refine GO_q rfl rfl (ev_neq rfl rfl) ?_
  refine GO_q rfl rfl (ev_pick_f rfl rfl rfl) ?_
  refine GO_nil ?_
  (repeat first | refine G_seq ?_ | refine G_skip ?_ | refine G_endblk ?_ | refine G_block ?_ | refine G_exit rfl ?_)
  refine G_cond_f rfl rfl ?_
  (repeat first | refine G_seq ?_ | refine G_skip ?_ | refine G_endblk ?_ | refine G_block ?_ | refine G_exit rfl ?_)
  refine G_region ?_
  refine GO_q rfl rfl (ev_assign rfl) ?_
  refine GO_nil ?_
  (repeat first | refine G_seq ?_ | refine G_skip ?_ | refine G_endblk ?_ | refine G_block ?_ | refine G_exit rfl ?_)
  refine G_heap (own.nil_ 24 3) ?_
  refine G_heap (L' := treeI t 60 [] :: setI b14 60 [] :: F :: L) (en_pick (by repeat' first | exact Pick.here | apply Pick.skip | apply Pick.app) (en_setI o0 (by (repeat first | exact en_refl | (apply en_blk; focus ((repeat' first | exact Pick.here | apply Pick.skip | apply Pick.app); done); focus rfl) | (apply en_own; focus ((repeat' first | exact Pick.here | apply Pick.skip | apply Pick.app); done); focus rfl) | (apply en_pick; focus ((repeat' first | exact Pick.here | apply Pick.skip | apply Pick.app); done)) | apply en_drop | apply en_app) <;> fail))) ?_
  refine G_loop (ι := Nat) (fun k => [(0, .slice A n c), (5, .pointer (some ⟨t, 0, none⟩)), (7, .pointer (some ⟨b14, 0, none⟩)), (8, .int .i64 (k : Nat))]) (fun k => treeI t 60 (playK 60 (acts.take k)) :: setI b14 60 (playK 60 (acts.take k)) :: F :: L) (fun k => k ≤ n ∧ k ≤ 80 ∧ ((playK 60 (acts.take k)).length : Int) ≤ 60) (fun k => n - k) 0 ⟨Nat.zero_le _, Nat.zero_le _, by show ((0 : Nat) : Int) ≤ 60; decide⟩ ⟨rfl, rfl, rfl, rfl, trivial⟩ (fun _ s => s) ?_
  rintro k ⟨f1, f2, f3⟩
  by_cases c1 : k < n
  · by_cases c2 : k < 80
    · obtain ⟨lb, lo, rfl, hx⟩ := hl.at_ (by omega)
      have g1 : acts[k]? = some acts[k] := List.getElem?_eq_getElem (by omega)
      have y1 := hx _ _ g1
      have s1 := playK_succ 60 acts k (by omega)
      have m1 := ha acts[k] (List.getElem_mem _)
      have m2 := actK_most (a := acts[k]) f3
      rw [← s1] at m2
      generalize acts[k] = u at *
      have z1 : LdN L lb (lo + k * 5) 5 [.int .i64 u.kind, .int .i64 u.at_, .int .i64 u.p.id, .int .i64 u.p.x, .int .i64 u.p.y] := y1
      (repeat first | refine G_seq ?_ | refine G_skip ?_ | refine G_endblk ?_ | refine G_block ?_ | refine G_exit rfl ?_)
      refine G_region ?_
      refine GO_q rfl rfl (ev_move rfl) ?_
      refine GO_q rfl rfl (ev_move rfl) ?_
      refine GO_q rfl rfl (ev_len rfl) ?_
      (first | refine GO_q rfl rfl (ev_lssN rfl rfl) ?_ | refine GO_q rfl rfl (ev_lss rfl rfl) ?_)
      refine GO_q rfl rfl (ev_move rfl) ?_
      refine GO_yes rfl rfl rfl (decide_eq_true (by omega)) ?_
      refine GO_q rfl rfl (ev_move rfl) ?_
      refine GO_yes rfl rfl rfl (decide_eq_true (by omega)) ?_
      (first | refine GO_q rfl rfl (ev_lssN (q := 80) rfl rfl) ?_ | refine GO_q rfl rfl (ev_lss rfl rfl) ?_)
      refine GO_q rfl rfl (ev_pick_t rfl (decide_eq_true (by omega)) rfl) ?_
      refine GO_nil ?_
      (repeat first | refine G_seq ?_ | refine G_skip ?_ | refine G_endblk ?_ | refine G_block ?_ | refine G_exit rfl ?_)
      refine G_cond_t rfl (decide_eq_true (by omega)) ?_
      (repeat first | refine G_seq ?_ | refine G_skip ?_ | refine G_endblk ?_ | refine G_block ?_ | refine G_exit rfl ?_)
      refine G_region ?_
      refine GO_q rfl rfl (ev_move rfl) ?_
      refine GO_q rfl rfl (ev_move rfl) ?_
      refine GO_q rfl rfl (ev_move rfl) ?_
      refine GO_q rfl rfl (ev_move rfl) ?_
      (first | refine GO_q rfl rfl (ev_indexAddrN rfl rfl (by first | omega | (simp; done) | (simp; omega))) ?_ | refine GO_q rfl rfl (ev_indexAddr rfl rfl (by first | omega | (simp; done) | (simp; omega)) (by first | omega | (simp; done) | (simp; omega))) ?_)
      refine GO_q rfl rfl (ev_loadN rfl (by repeat' first | exact LdN.blk rfl | assumption | apply LdN.skip | apply LdN.app)) ?_
      refine GO_eff rfl rfl (eff_call rfl (Ctr.pre (M := treeI t 60 _ :: setI b14 60 _ :: _) (by (repeat first | exact en_refl | (apply en_blk; focus ((repeat' first | exact Pick.here | apply Pick.skip | apply Pick.app); done); focus rfl) | (apply en_own; focus ((repeat' first | exact Pick.here | apply Pick.skip | apply Pick.app); done); focus rfl) | (apply en_pick; focus ((repeat' first | exact Pick.here | apply Pick.skip | apply Pick.app); done)) | apply en_drop | apply en_app) <;> fail) (idoes_ctr t b14 60 _ _ u (by omega) m1))) ?_; rintro _ _ ⟨rfl, rfl⟩
      refine GO_q rfl rfl (ev_not rfl) ?_
      refine GO_nil ?_
      (repeat first | refine G_seq ?_ | refine G_skip ?_ | refine G_endblk ?_ | refine G_block ?_ | refine G_exit rfl ?_)
      refine G_cond_f rfl rfl ?_
      rw [← s1]
      (repeat first | refine G_seq ?_ | refine G_skip ?_ | refine G_endblk ?_ | refine G_block ?_ | refine G_exit rfl ?_)
      refine G_region ?_
      refine GO_q rfl rfl (ev_move rfl) ?_
      (first | refine GO_q rfl rfl (ev_addN (q := 1) rfl rfl (by first | omega | (simp; done) | (simp; omega))) ?_ | refine GO_q rfl rfl (ev_add rfl rfl (by first | omega | (simp; done) | (simp; omega))) ?_)
      refine GO_q rfl rfl (ev_assign rfl) ?_
      refine GO_nil ?_
      (repeat first | refine G_seq ?_ | refine G_skip ?_ | refine G_endblk ?_ | refine G_block ?_ | refine G_exit rfl ?_)
      exact G_round (k + 1) ⟨by omega, by omega, m2⟩ (by omega) ⟨rfl, rfl, rfl, rfl, trivial⟩ (by (repeat first | exact fun _ s => s | apply en_keep | apply en_drop | apply en_app) <;> fail)
    · skip
      (repeat first | refine G_seq ?_ | refine G_skip ?_ | refine G_endblk ?_ | refine G_block ?_ | refine G_exit rfl ?_)
      refine G_region ?_
      refine GO_q rfl rfl (ev_move rfl) ?_
      refine GO_q rfl rfl (ev_move rfl) ?_
      refine GO_q rfl rfl (ev_len rfl) ?_
      (first | refine GO_q rfl rfl (ev_lssN rfl rfl) ?_ | refine GO_q rfl rfl (ev_lss rfl rfl) ?_)
      refine GO_q rfl rfl (ev_move rfl) ?_
      refine GO_yes rfl rfl rfl (decide_eq_true (by omega)) ?_
      refine GO_q rfl rfl (ev_move rfl) ?_
      refine GO_yes rfl rfl rfl (decide_eq_true (by omega)) ?_
      (first | refine GO_q rfl rfl (ev_lssN (q := 80) rfl rfl) ?_ | refine GO_q rfl rfl (ev_lss rfl rfl) ?_)
      refine GO_q rfl rfl (ev_pick_t rfl (decide_eq_true (by omega)) rfl) ?_
      refine GO_nil ?_
      (repeat first | refine G_seq ?_ | refine G_skip ?_ | refine G_endblk ?_ | refine G_block ?_ | refine G_exit rfl ?_)
      refine G_cond_f rfl (decide_eq_false (by omega)) ?_
      (repeat first | refine G_seq ?_ | refine G_skip ?_ | refine G_endblk ?_ | refine G_block ?_ | refine G_exit rfl ?_)
      refine G_region ?_
      refine GO_q rfl rfl (ev_move rfl) ?_
      refine GO_q rfl rfl (ev_move rfl) ?_
      refine GO_q rfl rfl (ev_assign rfl) ?_
      refine GO_q rfl rfl (ev_assign rfl) ?_
      refine GO_q rfl rfl (ev_assign rfl) ?_
      refine GO_nil ?_
      (repeat first | refine G_seq ?_ | refine G_skip ?_ | refine G_endblk ?_ | refine G_block ?_ | refine G_exit rfl ?_)
      exact G_ret (L' := treeI t 60 (playK 60 (acts.take k)) :: setI b14 60 (playK 60 (acts.take k)) :: L) rfl (.tmp rfl (.tmp rfl (.tmp rfl .nil))) (by (repeat first | exact en_refl | (apply en_blk; focus ((repeat' first | exact Pick.here | apply Pick.skip | apply Pick.app); done); focus rfl) | (apply en_own; focus ((repeat' first | exact Pick.here | apply Pick.skip | apply Pick.app); done); focus rfl) | (apply en_pick; focus ((repeat' first | exact Pick.here | apply Pick.skip | apply Pick.app); done)) | apply en_drop | apply en_app) <;> fail) ⟨t, b14, _, rfl, by omega, rfl⟩
  · skip
    (repeat first | refine G_seq ?_ | refine G_skip ?_ | refine G_endblk ?_ | refine G_block ?_ | refine G_exit rfl ?_)
    refine G_region ?_
    refine GO_q rfl rfl (ev_move rfl) ?_
    refine GO_q rfl rfl (ev_move rfl) ?_
    refine GO_q rfl rfl (ev_len rfl) ?_
    (first | refine GO_q rfl rfl (ev_lssN rfl rfl) ?_ | refine GO_q rfl rfl (ev_lss rfl rfl) ?_)
    refine GO_q rfl rfl (ev_move rfl) ?_
    refine GO_no rfl rfl rfl (decide_eq_false (by omega)) ?_
    refine GO_no rfl rfl rfl (decide_eq_false (by omega)) ?_
    refine GO_q rfl rfl (ev_pick_f rfl (decide_eq_false (by omega)) rfl) ?_
    refine GO_nil ?_
    (repeat first | refine G_seq ?_ | refine G_skip ?_ | refine G_endblk ?_ | refine G_block ?_ | refine G_exit rfl ?_)
    refine G_cond_f rfl rfl ?_
    (repeat first | refine G_seq ?_ | refine G_skip ?_ | refine G_endblk ?_ | refine G_block ?_ | refine G_exit rfl ?_)
    refine G_region ?_
    refine GO_q rfl rfl (ev_move rfl) ?_
    refine GO_q rfl rfl (ev_move rfl) ?_
    refine GO_q rfl rfl (ev_assign rfl) ?_
    refine GO_q rfl rfl (ev_assign rfl) ?_
    refine GO_q rfl rfl (ev_assign rfl) ?_
    refine GO_nil ?_
    (repeat first | refine G_seq ?_ | refine G_skip ?_ | refine G_endblk ?_ | refine G_block ?_ | refine G_exit rfl ?_)
    exact G_ret (L' := treeI t 60 (playK 60 (acts.take k)) :: setI b14 60 (playK 60 (acts.take k)) :: L) rfl (.tmp rfl (.tmp rfl (.tmp rfl .nil))) (by (repeat first | exact en_refl | (apply en_blk; focus ((repeat' first | exact Pick.here | apply Pick.skip | apply Pick.app); done); focus rfl) | (apply en_own; focus ((repeat' first | exact Pick.here | apply Pick.skip | apply Pick.app); done); focus rfl) | (apply en_pick; focus ((repeat' first | exact Pick.here | apply Pick.skip | apply Pick.app); done)) | apply en_drop | apply en_app) <;> fail) ⟨t, b14, _, rfl, by omega, rfl⟩
end Go.Proofs.YtjnmpogolknkpaaGreat
/- That a tree of middles lives. -/
namespace Go.Proofs.YtjnmpogolknkpaaGreat
attribute [local irreducible] sat
open Go.RowKit
set_option linter.unusedVariables false
set_option linter.unusedSimpArgs false
set_option maxRecDepth 100000

theorem lk0 : insE 3 [] ⟨1, 0, 5⟩ = 0 := by decide
theorem lk1 : insE 3 [⟨1, 0, 5⟩] ⟨2, 4, 9⟩ = 0 := by decide
theorem lm0 : insK 3 [] ⟨1, 0, 5⟩ = [⟨1, 0, 5⟩] := if_pos lk0
theorem lm1 : insK 3 [⟨1, 0, 5⟩] ⟨2, 4, 9⟩ = [⟨1, 0, 5⟩, ⟨2, 4, 9⟩] := if_pos lk1
theorem lo0 : overK [⟨1, 0, 5⟩, ⟨2, 4, 9⟩] 4 4 = [1, 2] := by
  have h : idsOf ([⟨1, 0, 5⟩, ⟨2, 4, 9⟩].filter fun s : Pt => decide ((4 : Int) ≤ 4 ∧ s.x ≤ 4 ∧ 4 ≤ s.y)) = [1, 2] := by decide
  unfold overK; rw [h]; exact eq_of_sorted _ _ (srt_perm _) (srt_sorted _) (by decide)
end Go.Proofs.YtjnmpogolknkpaaGreat
/- From a contract to what a law's row asks. -/
namespace Go.Proofs.YtjnmpogolknkpaaGreat
open Go.RowKit
set_option linter.unusedVariables false

/-- A law that holds by its contract: it returns true, and nothing old has turned. -/
theorem law_of_ctr {P : Program} {f : FuncId} {args : Array Value} {w : World} (h : Ctr P f args [old w.hm] fun v L' => v = .bool true ∧ L' = [old w.hm]) :
    Calls P f args w fun e w' => e = .returned (.bool true) ∧ Below w.heap.size w w' := by
  refine (calls_of h (Hp.start w)).mono fun e w' ⟨v, L', e1, ⟨e2, e3⟩, hw'⟩ => ?_
  subst e2 e3
  exact ⟨e1, hw'.below⟩
/-- What a slice of numbers reads as. -/
theorem rc_of_reads {w : World} {sz : Nat} {A : Option Addr} {n : Nat} {xs : List Value} (hsz : 0 < sz) (h : Reads w sz A n xs) : Rc [old w.hm] sz A n xs := by
  refine ⟨h.1, fun h0 => ?_⟩
  obtain ⟨b, o, rfl, hb, hc⟩ := h.2 (Nat.mul_pos h0 hsz)
  refine ⟨b, o, rfl, fun j v hj => Ld.old ?_⟩
  obtain ⟨h1, rfl⟩ := List.getElem?_eq_some_iff.1 hj
  exact hc j h1
end Go.Proofs.YtjnmpogolknkpaaGreat
/- Acts that came in. -/
namespace Go.Proofs.YtjnmpogolknkpaaGreat
theorem acts_of : ∀ (n : Nat) (ns : List Int), ns.length = n * 5 → Ints ns → ∃ l : List Ac, flat l = ints ns ∧ ∀ a ∈ l, a.at_ ≤ 9223372036854775807
  | 0, ns, h, _ => ⟨[], by
    have : ns = [] := List.eq_nil_of_length_eq_zero (by simpa using h)
    subst this; rfl, by simp⟩
  | n + 1, a :: b :: c :: d :: e :: ns, h, hb => by
    obtain ⟨l, hl, hk⟩ := acts_of n ns (by simp at h; omega) (fun x hx => hb x (by simp [hx]))
    refine ⟨⟨a, b, ⟨c, d, e⟩⟩ :: l, by rw [flat_cons, hl]; rfl, fun u hu => ?_⟩
    rcases List.mem_cons.1 hu with rfl | hu
    · exact (hb b (by simp)).2
    · exact hk u hu
  | n + 1, [], h, _ => by simp at h
  | n + 1, [_], h, _ => by simp at h; omega
  | n + 1, [_, _], h, _ => by simp at h; omega
  | n + 1, [_, _, _], h, _ => by simp at h; omega
  | n + 1, [_, _, _, _], h, _ => by simp at h; omega
theorem rd_acts {w : World} {A : Option Addr} {n : Nat} {ns : List Int} (h : Reads w 5 A n (ints ns)) (hb : Ints ns) : ∃ l : List Ac, Rd [old w.hm] A n l ∧ ∀ a ∈ l, a.at_ ≤ 9223372036854775807 := by
  obtain ⟨l, hl, hk⟩ := acts_of n ns (by simpa [ints] using h.1) hb
  refine ⟨l, ?_, hk⟩
  unfold Rd
  rw [hl]
  exact rc_of_reads (by decide) h
end Go.Proofs.YtjnmpogolknkpaaGreat
/- A tree of middles, and the references' set, laid open. -/
namespace Go.Proofs.YtjnmpogolknkpaaGreat
set_option linter.unusedVariables false
set_option linter.unusedSimpArgs false

end Go.Proofs.YtjnmpogolknkpaaGreat
/- The law ItreeLooks. -/
namespace Go.Proofs.YtjnmpogolknkpaaGreat
attribute [local irreducible] sat
open Go.RowKit
set_option linter.unusedVariables false
set_option linter.unusedSimpArgs false
set_option maxRecDepth 100000

/-- How many nodes are looked at. -/
def IT.lk (u v : Int) (T : IT) : Nat := if u ≤ v then T.seen u v else if T.addr.isSome = true then 1 else 0
def lkL (u v : Int) (xs : List IT) : Nat := (xs.map (IT.lk u v)).sum
theorem lkL_append (u v : Int) (l m : List IT) : lkL u v (l ++ m) = lkL u v l + lkL u v m := by unfold lkL; rw [List.map_append, List.sum_append]
theorem IT.lk_eq {u v : Int} {T : IT} (h : T.addr.isSome = true) : T.lk u v = 1 + lkL u v (T.nxt' u v) := by
  unfold IT.nxt'
  by_cases huv : u ≤ v
  · rw [if_pos huv]
    cases T with
    | nil => cases h
    | node b mid A c p C d q m lo hi =>
      simp only [IT.nxt, lkL_append, IT.nx1, IT.nx2]
      have e1 : ∀ x : IT, x.lk u v = x.seen u v := fun x => if_pos huv
      rw [e1, IT.seen]
      congr 1
      congr 1
      · by_cases c1 : u < mid
        · by_cases c2 : lo.addr.isSome = true
          · rw [if_pos c1, if_pos ⟨c1, c2⟩]; simp [lkL, e1]
          · rw [if_pos c1, if_neg (fun h => c2 h.2), IT.addr_some c2]; rfl
        · rw [if_neg c1, if_neg (fun h => c1 h.1)]; rfl
      · by_cases c1 : mid < v
        · by_cases c2 : hi.addr.isSome = true
          · rw [if_pos c1, if_pos ⟨c1, c2⟩]; simp [lkL, e1]
          · rw [if_pos c1, if_neg (fun h => c2 h.2), IT.addr_some c2]; rfl
        · rw [if_neg c1, if_neg (fun h => c1 h.1)]; rfl
  · rw [if_neg huv]
    unfold IT.lk
    rw [if_neg huv, if_pos h]; rfl
theorem IT.ok.lk_le {u v : Int} {T : IT} (h : T.ok) : T.lk u v ≤ 2 * T.spans.length + 1 := by
  unfold IT.lk
  split
  · have := h.seen (u := u) (v := v); have := h.size; omega
  · split <;> omega
theorem lkL_le {u v : Int} : ∀ {xs : List IT}, (∀ x ∈ xs, x.ok) → lkL u v xs ≤ 2 * spL xs + xs.length
  | [], _ => Nat.le_refl _
  | x :: xs, h => by
    have h1 := (h x (by simp)).lk_le (u := u) (v := v)
    have h2 := lkL_le (u := u) (v := v) (xs := xs) fun y hy => h y (List.mem_cons_of_mem _ hy)
    unfold lkL spL at *
    simp only [List.map_cons, List.sum_cons, List.length_cons]
    omega
theorem IT.ok.kid {u v : Int} {T : IT} (h : T.ok) : ∀ x ∈ T.nxt' u v, x.addr.isSome = true ∧ x.depth + 1 ≤ T.depth ∧ 4 * x.size ≤ 3 * T.size := by
  cases T with
  | nil => intro x hx; unfold IT.nxt' at hx; split at hx <;> cases hx
  | node b mid A c p C d q m lo hi =>
    intro x hx
    obtain ⟨_, e1, e2, e3, o1, o2⟩ := h
    unfold IT.nxt' at hx
    split at hx
    · rcases List.mem_append.1 hx with h | h
      · simp only [IT.nx1] at h
        split at h
        · rename_i hh
          simp at h; subst h
          refine ⟨hh.2, ?_, ?_⟩
          · simp only [IT.depth]; omega
          · show 4 * x.size ≤ 3 * m; omega
        · cases h
      · simp only [IT.nx2] at h
        split at h
        · rename_i hh
          simp at h; subst h
          refine ⟨hh.2, ?_, ?_⟩
          · simp only [IT.depth]; omega
          · show 4 * x.size ≤ 3 * m; omega
        · cases h
    · cases hx
theorem IT.depth_pos {T : IT} (h : T.addr.isSome = true) : 1 ≤ T.depth := by
  cases T with
  | nil => cases h
  | node => simp only [IT.depth]; omega
theorem lk_one (u : Int) (T : IT) : T.lk u u ≤ T.depth := by
  unfold IT.lk; rw [if_pos (Int.le_refl u)]; exact T.seen_one u
end Go.Proofs.YtjnmpogolknkpaaGreat
/- A cursor over a tree of middles: what lies in memory. -/
namespace Go.Proofs.YtjnmpogolknkpaaGreat
set_option linter.unusedVariables false
set_option linter.unusedSimpArgs false

theorem ev_max0 {P : Program} {L : List HP} {σ : Env} {d : Option Nat} {ty : TypeId} {ts : Array TypeId} {pos : String} {aft : Array Edge} {gd : Option (Nat × Bool)} {x : Operand} {p : Int} (hx : ev σ x = some (.int .i64 p)) :
    Ev P L σ ⟨d, .call ⟨.builtin .max, #[x, .const (.int .i64 0)], ts⟩, ty, pos, aft, gd⟩ (.int .i64 (p.toNat : Nat)) := by
  have h := ev_max (P := P) (L := L) (d := d) (ty := ty) (ts := ts) (pos := pos) (aft := aft) (gd := gd) (x := x) (y := .const (.int .i64 0)) hx rfl
  have e : max p 0 = ((p.toNat : Nat) : Int) := by omega
  rwa [e] at h
@[reducible] def icC (s : Nat) (u v : Int) (A : Option Addr) (m c k : Nat) : List Value := [.pointer (some ⟨s, 0, none⟩), .int .i64 u, .int .i64 v, .slice A m c, .int .i64 (k : Nat)]
def icS (b s : Nat) (u v : Int) (ids : List Int) (k : Nat) : HP := fun h => ∃ y : Option Addr × Nat, (0 < ids.length → ∃ b, y.1 = some ⟨b, 0, none⟩) ∧ sat [blk b 82 (icC s u v y.1 ids.length y.2 k), own 3 1 y.1 ids.length y.2 (flat ids)] h
theorem ic_open {b s k : Nat} {u v : Int} {ids : List Int} {M : List HP} {hm : Hm} (h : sat (icS b s u v ids k :: M) hm) : ∃ A c, (0 < ids.length → ∃ b, A = some ⟨b, 0, none⟩) ∧ ids.length ≤ c ∧ c ≤ maxLen ∧ sat (blk b 82 (icC s u v A ids.length c k) :: own 3 1 A ids.length c (flat ids) :: M) hm := by
  obtain ⟨h1, h2, d, s1, s2, ⟨⟨A, c⟩, hA, q⟩, t⟩ := h
  have q0 := own.facts (L := []) q.tail
  exact ⟨A, c, hA, q0.2.1, q0.2.2.1, sat.head (A := fun h => h = h1) (N := [blk b 82 (icC s u v A ids.length c k), own 3 1 A ids.length c (flat ids)]) (fun _ e => e ▸ q) ⟨h1, h2, d, s1, s2, rfl, t⟩⟩
theorem Ctr.ic {P : Program} {f : FuncId} {args : Array Value} {L : List HP} {b s k : Nat} {u v : Int} {ids : List Int} {post : Value → List HP → Prop}
    (C : ∀ A c, (0 < ids.length → ∃ b, A = some ⟨b, 0, none⟩) → ids.length ≤ c → c ≤ maxLen → Ctr P f args (blk b 82 (icC s u v A ids.length c k) :: own 3 1 A ids.length c (flat ids) :: L) post) : Ctr P f args (icS b s u v ids k :: L) post := fun g F w hw => by
  obtain ⟨A, c, h1, h2, h3, h4⟩ := ic_open hw.s.swap
  exact C A c h1 h2 h3 g F w ⟨hw.g, h4.perm (List.perm_middle (l₁ := [_, _]))⟩
theorem G_ic {P : Program} {B : Exit → Act → World → Prop} {g : Glob} {N : Nat} {K : List Kt} {σ : Env} {L : List HP} {b s k : Nat} {u v : Int} {ids : List Int}
    (h : ∀ A c, (0 < ids.length → ∃ b, A = some ⟨b, 0, none⟩) → ids.length ≤ c → c ≤ maxLen → G P B g N K σ (blk b 82 (icC s u v A ids.length c k) :: own 3 1 A ids.length c (flat ids) :: L)) : G P B g N K σ (icS b s u v ids k :: L) := fun a v hs hw => by
  obtain ⟨A, c, h1, h2, h3, h4⟩ := ic_open hw.s
  exact h A c h1 h2 h3 a v hs ⟨hw.g, h4⟩
theorem en_ic {L M : List HP} {b s c k : Nat} {A : Option Addr} {u v : Int} {ids : List Int} (hA : 0 < ids.length → ∃ b, A = some ⟨b, 0, none⟩) (f : ∀ h, sat L h → sat (blk b 82 (icC s u v A ids.length c k) :: own 3 1 A ids.length c (flat ids) :: M) h) : ∀ h, sat L h → sat (icS b s u v ids k :: M) h := fun h t =>
  sat.fold (N := [_, _]) (fun h q => ⟨(A, c), hA, q⟩) (f h t)
/-- What is told of the next ones: what is found, in order; how many. -/
structure IcI (u v : Int) (tot : List Int) (L0 : List HP) (l : List IT) (ids : List Int) (r : Nat) : Prop where
  rest : r = lkL u v l
  small : r ≤ 60000
  ok : ∀ x ∈ l, IIn L0 x ∧ x.ok ∧ x.addr.isSome = true ∧ x.spans.length ≤ 1000
  ids : ids ++ fndL u v l.reverse = tot
@[reducible] def icvis (b s : Nat) (u v : Int) (k : Nat) (tot : List Int) (L0 : List HP) : Vis (List Int) where
  V := fun st => icS b s u v st k
  ok := fun x st => (IIn L0 x ∧ x.ok ∧ x.spans.length ≤ 1000) ∧ st.length ≤ 1000000
  kids := fun x => x.nxt' u v
  upd := fun x st => st ++ x.ids' u v
  f := 59
  c1 := [.pointer (some ⟨b, 0, none⟩)]
  c2 := []
  I := IcI u v tot L0
theorem flat_addrsI : ∀ l : List IT, (flat (addrsI l) : List Value) = flat l
  | [] => rfl
  | x :: l => by
    have e : addrsI (x :: l) = x.addr :: addrsI l := rfl
    rw [e, flat_cons, flat_cons, flat_addrsI l]; rfl
theorem IcI.len {u v : Int} {tot : List Int} {L0 : List HP} {l : List IT} {ids : List Int} {r : Nat} (h : IcI u v tot L0 l ids r) (hb : tot.length ≤ 1000000) : ids.length ≤ 1000000 := by
  have := congrArg List.length h.ids
  rw [List.length_append] at this
  omega
theorem IT.lk_pos {u v : Int} {x : IT} (h : x.addr.isSome = true) : 1 ≤ x.lk u v := by rw [IT.lk_eq h]; omega
theorem lkL_len {u v : Int} : ∀ {l : List IT}, (∀ x ∈ l, x.addr.isSome = true) → l.length ≤ lkL u v l
  | [], _ => Nat.le_refl _
  | x :: l, h => by
    have h1 := lkL_len (u := u) (v := v) (l := l) fun y hy => h y (List.mem_cons_of_mem _ hy)
    have h2 := IT.lk_pos (u := u) (v := v) (h x (by simp))
    simp only [lkL, List.map_cons, List.sum_cons, List.length_cons] at h1 ⊢
    omega
theorem lkL_rev (u v : Int) (l : List IT) : lkL u v l.reverse = lkL u v l := ((List.reverse_perm l).map _).sum_nat
theorem fndL_app (u v : Int) (l m : List IT) : fndL u v (l ++ m) = fndL u v l ++ fndL u v m := by unfold fndL; rw [List.flatMap_append]
theorem IT.nxt_sp {u v : Int} {T x : IT} (h : x ∈ T.nxt' u v) : x.spans.length ≤ T.spans.length := by
  have h1 := (T.nxt'_wt u v).2.2
  have h2 : ∀ {xs : List IT}, x ∈ xs → x.spans.length ≤ spL xs := by
    intro xs
    induction xs with
    | nil => intro h; cases h
    | cons y ys ih =>
      intro h
      unfold spL at *
      simp only [List.map_cons, List.sum_cons]
      rcases List.mem_cons.1 h with rfl | h
      · omega
      · have := ih h; omega
  exact Nat.le_trans (h2 h) h1
theorem IcI.next {u v : Int} {tot : List Int} {L0 : List HP} {l : List IT} {x : IT} {ids : List Int} {r : Nat} (h : IcI u v tot L0 (l ++ [x]) ids r) :
    ∃ r', r = r' + 1 ∧ IcI u v tot L0 (l ++ (x.nxt' u v).reverse) (ids ++ x.ids' u v) r' := by
  have h1 := h.rest
  have h2 := h.small
  obtain ⟨x1, x2, x3, x4⟩ := h.ok x (List.mem_append.2 (.inr (List.mem_singleton.2 rfl)))
  have e1 : lkL u v (l ++ [x]) = lkL u v l + (1 + lkL u v (x.nxt' u v)) := by rw [lkL_append, ← IT.lk_eq x3]; simp [lkL]
  have e2 : fndL u v (l ++ [x]).reverse = x.ids' u v ++ (fndL u v (x.nxt' u v) ++ fndL u v l.reverse) := by
    rw [List.reverse_append, List.reverse_singleton, fndL_app]
    have : fndL u v [x] = x.fnd' u v := by simp [fndL]
    rw [this, x.fnd_eq u v, List.append_assoc]
  have e3 : fndL u v (l ++ (x.nxt' u v).reverse).reverse = fndL u v (x.nxt' u v) ++ fndL u v l.reverse := by rw [List.reverse_append, List.reverse_reverse, fndL_app]
  have e4 : lkL u v (l ++ (x.nxt' u v).reverse) = lkL u v l + lkL u v (x.nxt' u v) := by rw [lkL_append, lkL_rev]
  refine ⟨lkL u v l + lkL u v (x.nxt' u v), by omega, e4.symm, by omega, fun y hy => ?_, ?_⟩
  · rcases List.mem_append.1 hy with hy | hy
    · exact h.ok y (List.mem_append.2 (.inl hy))
    · have hy := List.mem_reverse.1 hy
      exact ⟨x1.nxt y hy, x2.nxt y hy, (x2.kid y hy).1, by have := IT.nxt_sp hy; omega⟩
  · rw [e3, ← h.ids, e2]
    simp only [List.append_assoc]
theorem IcI.done {u v : Int} {tot : List Int} {L0 : List HP} {l : List IT} {ids : List Int} {r : Nat} (hI : IcI u v tot L0 l ids r) : (l.length : Int) = 0 ↔ r = 0 := by
  have h1 := hI.rest
  have h2 := lkL_len (u := u) (v := v) (l := l) fun x hx => (hI.ok x hx).2.2.1
  constructor
  · intro h
    have : l = [] := List.eq_nil_of_length_eq_zero (by omega)
    subst this
    rw [h1]; rfl
  · intro h; omega
theorem IcI.end_ {u v : Int} {tot : List Int} {L0 : List HP} {l : List IT} {ids : List Int} (hI : IcI u v tot L0 l ids 0) : l = [] ∧ ids = tot := by
  have h1 : l = [] := List.eq_nil_of_length_eq_zero (by have := hI.done.2 rfl; omega)
  subst h1
  exact ⟨rfl, by simpa [fndL] using hI.ids⟩
theorem IcI.start {u v : Int} {L0 : List HP} {T : IT} (h : IIn L0 T) (o : T.ok) (hn : T.spans.length ≤ 1000) (hs : T.addr.isSome = true) : IcI u v (T.fnd' u v) L0 [T] [] (T.lk u v) :=
  ⟨by simp [lkL], by have := o.lk_le (u := u) (v := v); omega, fun x hx => by simp at hx; subst hx; exact ⟨h, o, hs, hn⟩, by simp [fndL]⟩
end Go.Proofs.YtjnmpogolknkpaaGreat
/- Slices over iterators: Values, AppendSeq, Collect, Sorted of numbers. -/
namespace Go.Proofs.YtjnmpogolknkpaaGreat
attribute [local irreducible] sat
open Go.RowKit
set_option linter.unusedVariables false
set_option linter.unusedSimpArgs false
set_option maxRecDepth 100000

theorem Values_ctr (A : Option Addr) (n c : Nat) (L : List HP) : Ctr Tryz.prog 63 #[.slice A n c] L fun v L' => ∃ b, v = .func (.func 95) #[] #[.pointer (some ⟨b, 0, none⟩)] ∧ L' = blk b 33 [.slice A n c] :: L := by
  refine Ctr_of (fn := Tryz.f63) (n := 4) Tryz.func63 rfl rfl rfl ?_
  intro g F
  (repeat first | refine G_seq ?_ | refine G_skip ?_ | refine G_endblk ?_ | refine G_block ?_ | refine G_exit rfl ?_)
  refine G_region ?_
  refine GO_eff rfl rfl (eff_box rfl) ?_; rintro _ _ ⟨b1, rfl, rfl⟩
  refine GO_q rfl rfl (ev_assign rfl) ?_
  refine GO_nil ?_
  (repeat first | refine G_seq ?_ | refine G_skip ?_ | refine G_endblk ?_ | refine G_block ?_ | refine G_exit rfl ?_)
  refine G_region ?_
  refine GO_q rfl rfl (ev_makeFunc rfl rfl) ?_
  refine GO_q rfl rfl (ev_assign rfl) ?_
  refine GO_nil ?_
  (repeat first | refine G_seq ?_ | refine G_skip ?_ | refine G_endblk ?_ | refine G_block ?_ | refine G_exit rfl ?_)
  exact G_ret (L' := blk b1 33 [.slice A n c] :: L) rfl (.tmp rfl .nil) (by (repeat first | exact en_refl | (apply en_blk; focus ((repeat' first | exact Pick.here | apply Pick.skip | apply Pick.app); done); focus rfl) | (apply en_own; focus ((repeat' first | exact Pick.here | apply Pick.skip | apply Pick.app); done); focus rfl) | (apply en_pick; focus ((repeat' first | exact Pick.here | apply Pick.skip | apply Pick.app); done)) | apply en_drop | apply en_app) <;> fail) ⟨b1, rfl, rfl⟩
theorem vals_ctr {S : Type} (l b : Nat) (A : Option Addr) (n c : Nat) (xs : List Int) (L : Nat → S → List HP) (Inv : Nat → S → Prop) (hRd : ∀ k s, Inv k s → Rd (L k s) A n xs) (hn : n ≤ 1000000)
    (hy : ∀ k s x, xs[k]? = some x → Inv k s → Yld Tryz.prog l [.int .i64 x] (L k s) fun q L' => q = true ∧ ∃ s', Inv (k + 1) s' ∧ L' = L (k + 1) s') (s0 : S) (h0 : Inv 0 s0) :
    Ctr Tryz.prog 95 #[Value.func (.yield l) #[] #[], .pointer (some ⟨b, 0, none⟩)] (blk b 33 [.slice A n c] :: L 0 s0) fun v L' => v = .tuple #[] ∧ ∃ s', Inv n s' ∧ L' = blk b 33 [.slice A n c] :: L n s' := by
  have hlen : xs.length = n := (hRd 0 s0 h0).len (by decide)
  refine Ctr_of (fn := Tryz.f95) (n := 16) Tryz.func95 rfl rfl rfl ?_
  intro g F
  (repeat first | refine G_seq ?_ | refine G_skip ?_ | refine G_endblk ?_ | refine G_block ?_ | refine G_exit rfl ?_)
  refine G_region ?_
  refine GO_q rfl rfl (ev_load rfl (by repeat' first | exact Ld.blk rfl | assumption | apply Ld.skip | apply Ld.app)) ?_
  refine GO_q rfl rfl (ev_len rfl) ?_
  refine GO_q rfl rfl (ev_move rfl) ?_
  refine GO_nil ?_
  (repeat first | refine G_seq ?_ | refine G_skip ?_ | refine G_endblk ?_ | refine G_block ?_ | refine G_exit rfl ?_)
  refine G_loop (ι := Nat × S) (fun z => [(0, Value.func (.yield l) #[] #[]), (5, .slice A n c), (6, .int .i64 (n : Nat)), (7, .int .i64 (z.1 : Nat))]) (fun z => F :: blk b 33 [.slice A n c] :: L z.1 z.2) (fun z => z.1 ≤ n ∧ Inv z.1 z.2) (fun z => n - z.1) (0, s0) ⟨Nat.zero_le _, h0⟩ ⟨rfl, rfl, rfl, rfl, trivial⟩ (by (repeat first | exact fun _ s => s | apply en_keep | apply en_drop | apply en_app) <;> fail) ?_
  rintro ⟨k, s⟩ ⟨f1, f2⟩
  simp only at f1 f2
  dsimp only
  (repeat first | refine G_seq ?_ | refine G_skip ?_ | refine G_endblk ?_ | refine G_block ?_ | refine G_exit rfl ?_)
  refine G_region ?_
  (first | refine GO_q rfl rfl (ev_lssN rfl rfl) ?_ | refine GO_q rfl rfl (ev_lss rfl rfl) ?_)
  refine GO_nil ?_
  (repeat first | refine G_seq ?_ | refine G_skip ?_ | refine G_endblk ?_ | refine G_block ?_ | refine G_exit rfl ?_)
  refine G_cond rfl (fun c1 => ?_) (fun c1 => ?_)
  · obtain ⟨b1, o1, rfl, x1⟩ := (hRd k s f2).at_ (by omega)
    have g1 : xs[k]? = some xs[k] := List.getElem?_eq_getElem (by omega)
    have y1 := (x1 _ _ g1).at_ (i := 0) rfl
    have hyk := hy k s _ g1 f2
    generalize xs[k] = u at *
    (repeat first | refine G_seq ?_ | refine G_skip ?_ | refine G_endblk ?_ | refine G_block ?_ | refine G_exit rfl ?_)
    refine G_region ?_
    (first | refine GO_q rfl rfl (ev_indexAddrN rfl rfl (by first | omega | (simp; done) | (simp; omega))) ?_ | refine GO_q rfl rfl (ev_indexAddr rfl rfl (by first | omega | (simp; done) | (simp; omega)) (by first | omega | (simp; done) | (simp; omega))) ?_)
    refine GO_q rfl rfl (ev_load rfl (Ld.skip (Ld.skip y1))) ?_
    refine GO_q rfl rfl (ev_assign rfl) ?_
    refine GO_nil ?_
    (repeat first | refine G_seq ?_ | refine G_skip ?_ | refine G_endblk ?_ | refine G_block ?_ | refine G_exit rfl ?_)
    refine G_region ?_
    refine GO_q rfl rfl (ev_move rfl) ?_
    refine GO_q rfl rfl (ev_move rfl) ?_
    refine GO_yield rfl rfl rfl (Yld.frame [F, blk b 33 [.slice (some ⟨b1, o1, none⟩) n c]] hyk (fun _ s => s)) ?_
    rintro q L' ⟨L1, ⟨rfl, s', hs', rfl⟩, rfl⟩
    refine GO_q rfl rfl (ev_not rfl) ?_
    refine GO_nil ?_
    (repeat first | refine G_seq ?_ | refine G_skip ?_ | refine G_endblk ?_ | refine G_block ?_ | refine G_exit rfl ?_)
    refine G_cond_f rfl rfl ?_
    (repeat first | refine G_seq ?_ | refine G_skip ?_ | refine G_endblk ?_ | refine G_block ?_ | refine G_exit rfl ?_)
    refine G_region ?_
    (first | refine GO_q rfl rfl (ev_addN (q := 1) rfl rfl (by first | omega | (simp; done) | (simp; omega))) ?_ | refine GO_q rfl rfl (ev_add rfl rfl (by first | omega | (simp; done) | (simp; omega))) ?_)
    refine GO_q rfl rfl (ev_move rfl) ?_
    refine GO_nil ?_
    (repeat first | refine G_seq ?_ | refine G_skip ?_ | refine G_endblk ?_ | refine G_block ?_ | refine G_exit rfl ?_)
    exact G_round (k + 1, s') ⟨by simp only; omega, hs'⟩ (by simp only; omega) ⟨rfl, rfl, rfl, rfl, trivial⟩ (by (repeat first | exact fun _ s => s | apply en_keep | apply en_drop | apply en_app) <;> fail)
  · have e : k = n := by omega
    subst e
    (repeat first | refine G_seq ?_ | refine G_skip ?_ | refine G_endblk ?_ | refine G_block ?_ | refine G_exit rfl ?_)
    exact G_end (rs := []) (vs := []) (L' := blk b 33 [.slice A k c] :: L k s) rfl .nil (by (repeat first | exact fun _ s => s | apply en_keep | apply en_drop | apply en_app) <;> fail) ⟨rfl, s, f2, rfl⟩
theorem AppendSeq_ctr (b : Nat) (A : Option Addr) (n c : Nat) (xs : List Int) (L : List HP) (hRd : Rd L A n xs) (hn : n ≤ 1000000) :
    Ctr Tryz.prog 123 #[.slice none 0 0, .func (.func 95) #[] #[.pointer (some ⟨b, 0, none⟩)]] (blk b 33 [.slice A n c] :: L) fun v L' => ∃ B e, v = .slice B xs.length e ∧ ((0 < xs.length → ∃ b, B = some ⟨b, 0, none⟩) ∧ xs.length ≤ e ∧ e ≤ maxLen) ∧ L' = own 3 1 B xs.length e (flat xs) :: blk b 33 [.slice A n c] :: L := by
  have hlen : xs.length = n := hRd.len (by decide)
  refine Ctr_ofM (fn := Tryz.f123) (n := 13) Tryz.func123 rfl rfl rfl ?_
  intro g F hgb
  (repeat first | refine G_seq ?_ | refine G_skip ?_ | refine G_endblk ?_ | refine G_block ?_ | refine G_exit rfl ?_)
  refine G_region ?_
  refine GO_eff rfl rfl (eff_box rfl) ?_; rintro _ _ ⟨b2, rfl, rfl⟩
  refine GO_q rfl rfl (ev_assign rfl) ?_
  refine GO_nil ?_
  (repeat first | refine G_seq ?_ | refine G_skip ?_ | refine G_endblk ?_ | refine G_block ?_ | refine G_exit rfl ?_)
  refine G_region ?_
  refine GO_q rfl rfl (ev_move rfl) ?_
  refine GO_nil ?_
  (repeat first | refine G_seq ?_ | refine G_skip ?_ | refine G_endblk ?_ | refine G_block ?_ | refine G_exit rfl ?_)
  refine G_heap (own.nil_ 3 1) ?_
  refine G_range1 (f := 95) (c1 := []) (c2 := [.pointer (some ⟨b, 0, none⟩)]) (post := fun p L1 => p = none ∧ ∃ s : Option Addr × Nat, ((0 < n → ∃ b, s.1 = some ⟨b, 0, none⟩) ∧ n ≤ s.2 ∧ s.2 ≤ maxLen) ∧ L1 = own 3 1 s.1 n s.2 (flat (xs.take n)) :: blk b2 33 [.slice s.1 n s.2] :: F :: blk b 33 [.slice A n c] :: L) (by rw [← hgb]; rfl) rfl rfl ?_ ?_ ?_
  · intro l d R hR
    have hv := vals_ctr (S := Option Addr × Nat) l b A n c xs
      (fun k s => obj l (R .ready none) :: obj d (.deferred (some [])) :: own 3 1 s.1 k s.2 (flat (xs.take k)) :: blk b2 33 [.slice s.1 k s.2] :: F :: L)
      (fun k s => (0 < k → ∃ b, s.1 = some ⟨b, 0, none⟩) ∧ k ≤ s.2 ∧ s.2 ≤ maxLen)
      (fun k s _ => hRd.skip.skip.skip.skip.skip) hn ?_ (none, 0) ⟨fun h => absurd h (Nat.lt_irrefl 0), Nat.le_refl _, Nat.zero_le _⟩
    · refine (Ctr.pre (by (repeat first | exact en_refl | (apply en_blk; focus ((repeat' first | exact Pick.here | apply Pick.skip | apply Pick.app); done); focus rfl) | (apply en_own; focus ((repeat' first | exact Pick.here | apply Pick.skip | apply Pick.app); done); focus rfl) | (apply en_pick; focus ((repeat' first | exact Pick.here | apply Pick.skip | apply Pick.app); done)) | apply en_drop | apply en_app) <;> fail) hv).post' ?_
      rintro v L' hm ⟨rfl, s, hs, rfl⟩ hsat
      refine ⟨_, ⟨.ready, none, _, (by decide), ⟨rfl, s, hs, rfl⟩, rfl⟩, ?_⟩
      revert hm
      exact (by (repeat first | exact en_refl | (apply en_blk; focus ((repeat' first | exact Pick.here | apply Pick.skip | apply Pick.app); done); focus rfl) | (apply en_own; focus ((repeat' first | exact Pick.here | apply Pick.skip | apply Pick.app); done); focus rfl) | (apply en_pick; focus ((repeat' first | exact Pick.here | apply Pick.skip | apply Pick.app); done)) | apply en_drop | apply en_app) <;> fail)
    · intro k s x hx ⟨i1, i2, i3⟩
      have hk : k < n := by rw [← hlen]; exact (List.getElem?_eq_some_iff.1 hx).1
      have e2 : xs.take (k + 1) = xs.take k ++ [x] := by
        rw [List.take_add_one, hx]; rfl
      have htl : (xs.take k).length = k := by rw [List.length_take]; omega
      refine hR (ι := Unit) (τ := fun _ => [(2, .pointer (some ⟨b2, 0, none⟩)), (5, .int .i64 x)]) (M := fun _ => obj d (.deferred (some [])) :: own 3 1 s.1 k s.2 (flat (xs.take k)) :: blk b2 33 [.slice s.1 k s.2] :: F :: L) (Fy := fun _ => True) ?_ ?_
      · intro g F' _ _
        (repeat first | refine G_seq ?_ | refine G_skip ?_ | refine G_endblk ?_ | refine G_block ?_ | refine G_exit rfl ?_)
        refine G_region ?_
        refine GO_q rfl rfl (ev_assign rfl) ?_
        refine GO_nil ?_
        exact G_rndStart () trivial ⟨rfl, rfl, trivial⟩ (by (repeat first | exact fun _ s => s | apply en_keep | apply en_drop | apply en_app) <;> fail)
      · intro g F' _ _ _ _
        (repeat first | refine G_seq ?_ | refine G_skip ?_ | refine G_endblk ?_ | refine G_block ?_ | refine G_exit rfl ?_)
        (repeat first | refine G_seq ?_ | refine G_skip ?_ | refine G_endblk ?_ | refine G_block ?_ | refine G_exit rfl ?_)
        refine G_region ?_
        refine GO_q rfl rfl (ev_load rfl (by repeat' first | exact Ld.blk rfl | assumption | apply Ld.skip | apply Ld.app)) ?_
        refine GO_q rfl rfl (ev_move rfl) ?_
        refine GO_eff rfl rfl (eff_buildSlice1 (by rfl) rfl rfl) ?_; rintro _ _ ⟨b10, rfl, rfl⟩
        refine GO_eff rfl rfl (eff_append rfl rfl (by repeat' first | exact Pick.here | apply Pick.skip) (by repeat' first | exact Rc.blk rfl | assumption | apply Rc.skip) (one_all rfl) (by rfl) (by decide) (by first | omega | (simp; done) | (simp; omega)) (by first | omega | (simp; done) | (simp; omega))) ?_; rintro _ _ ⟨A11, c11, rfl, hc11, hm11, hn11, rfl⟩
        refine GO_eff rfl rfl (eff_store rfl rfl rfl (by repeat' first | exact Upd.here rfl | apply Upd.skip | apply Upd.app)) ?_; rintro _ _ ⟨rfl, rfl⟩
        refine GO_nil ?_
        (repeat first | refine G_seq ?_ | refine G_skip ?_ | refine G_endblk ?_ | refine G_block ?_ | refine G_exit rfl ?_)
        have e3 : flat (xs.take (k + 1)) = flat (xs.take k) ++ [.int .i64 x] := by rw [e2, ← flat_snoc]; rfl
        exact G_rndEnd (obj d (.deferred (some [])) :: own 3 1 A11 (k + 1) c11 (flat (xs.take k) ++ [.int .i64 x]) :: blk b2 33 [.slice A11 (k + 1) c11] :: F :: L) ⟨rfl, (A11, c11), ⟨hn11, hc11, hm11⟩, by rw [e3]⟩ (by (repeat first | exact en_refl | (apply en_blk; focus ((repeat' first | exact Pick.here | apply Pick.skip | apply Pick.app); done); focus rfl) | (apply en_own; focus ((repeat' first | exact Pick.here | apply Pick.skip | apply Pick.app); done); focus rfl) | (apply en_pick; focus ((repeat' first | exact Pick.here | apply Pick.skip | apply Pick.app); done)) | apply en_drop | apply en_app) <;> fail)
  · rintro d L1 ⟨-, ⟨B, e⟩, ⟨i1, i2, i3⟩, rfl⟩
    have e2 : xs.take n = xs := List.take_of_length_le (by omega)
    simp only at i1 i2 i3
    dsimp only
    rw [e2]
    (repeat first | refine G_seq ?_ | refine G_skip ?_ | refine G_endblk ?_ | refine G_block ?_ | refine G_exit rfl ?_)
    refine G_region ?_
    refine GO_q rfl rfl (ev_load rfl (by repeat' first | exact Ld.blk rfl | assumption | apply Ld.skip | apply Ld.app)) ?_
    refine GO_q rfl rfl (ev_assign rfl) ?_
    refine GO_nil ?_
    (repeat first | refine G_seq ?_ | refine G_skip ?_ | refine G_endblk ?_ | refine G_block ?_ | refine G_exit rfl ?_)
    exact G_retM [d] rfl (by rw [← hgb]; rfl) rfl (.tmp rfl .nil) (M := own 3 1 B n e (flat xs) :: blk b2 33 [.slice B n e] :: F :: blk b 33 [.slice A n c] :: L) (L' := own 3 1 B n e (flat xs) :: blk b 33 [.slice A n c] :: L) (by (repeat first | exact en_refl | (apply en_blk; focus ((repeat' first | exact Pick.here | apply Pick.skip | apply Pick.app); done); focus rfl) | (apply en_own; focus ((repeat' first | exact Pick.here | apply Pick.skip | apply Pick.app); done); focus rfl) | (apply en_pick; focus ((repeat' first | exact Pick.here | apply Pick.skip | apply Pick.app); done)) | apply en_drop | apply en_app) <;> fail) (by (repeat first | exact en_refl | (apply en_blk; focus ((repeat' first | exact Pick.here | apply Pick.skip | apply Pick.app); done); focus rfl) | (apply en_own; focus ((repeat' first | exact Pick.here | apply Pick.skip | apply Pick.app); done); focus rfl) | (apply en_pick; focus ((repeat' first | exact Pick.here | apply Pick.skip | apply Pick.app); done)) | apply en_drop | apply en_app) <;> fail) ⟨B, e, by rw [hlen]; rfl, by rw [hlen]; exact ⟨i1, i2, i3⟩, by rw [hlen]⟩
  · rintro d e L1 ⟨h, _⟩
    cases h
theorem Collect_ctr (b : Nat) (A : Option Addr) (n c : Nat) (xs : List Int) (L : List HP) (hRd : Rd L A n xs) (hn : n ≤ 1000000) :
    Ctr Tryz.prog 94 #[.func (.func 95) #[] #[.pointer (some ⟨b, 0, none⟩)]] (blk b 33 [.slice A n c] :: L) fun v L' => ∃ B e, v = .slice B xs.length e ∧ ((0 < xs.length → ∃ b, B = some ⟨b, 0, none⟩) ∧ xs.length ≤ e ∧ e ≤ maxLen) ∧ L' = own 3 1 B xs.length e (flat xs) :: blk b 33 [.slice A n c] :: L := by
  refine Ctr_of (fn := Tryz.f94) (n := 5) Tryz.func94 rfl rfl rfl ?_
  intro g F
  (repeat first | refine G_seq ?_ | refine G_skip ?_ | refine G_endblk ?_ | refine G_block ?_ | refine G_exit rfl ?_)
  refine G_region ?_
  refine GO_q rfl rfl (ev_assign rfl) ?_
  refine GO_nil ?_
  (repeat first | refine G_seq ?_ | refine G_skip ?_ | refine G_endblk ?_ | refine G_block ?_ | refine G_exit rfl ?_)
  refine G_region ?_
  refine GO_q rfl rfl (ev_move rfl) ?_
  refine GO_eff rfl rfl (eff_call rfl (Ctr.pick (by repeat' first | exact Pick.here | apply Pick.skip | apply Pick.app) (AppendSeq_ctr b A n c xs _ hRd.skip hn))) ?_; rintro _ _ ⟨B, e, rfl, ⟨i1, i2, i3⟩, rfl⟩
  refine GO_q rfl rfl (ev_assign rfl) ?_
  refine GO_nil ?_
  (repeat first | refine G_seq ?_ | refine G_skip ?_ | refine G_endblk ?_ | refine G_block ?_ | refine G_exit rfl ?_)
  exact G_ret (L' := own 3 1 B xs.length e (flat xs) :: blk b 33 [.slice A n c] :: L) rfl (.tmp rfl .nil) (by (repeat first | exact en_refl | (apply en_blk; focus ((repeat' first | exact Pick.here | apply Pick.skip | apply Pick.app); done); focus rfl) | (apply en_own; focus ((repeat' first | exact Pick.here | apply Pick.skip | apply Pick.app); done); focus rfl) | (apply en_pick; focus ((repeat' first | exact Pick.here | apply Pick.skip | apply Pick.app); done)) | apply en_drop | apply en_app) <;> fail) ⟨B, e, rfl, ⟨i1, i2, i3⟩, rfl⟩
theorem Sorted_ctr (b : Nat) (A : Option Addr) (n c : Nat) (xs : List Int) (L : List HP) (hRd : Rd L A n xs) (hn : n ≤ 1000000) :
    Ctr Tryz.prog 62 #[.func (.func 95) #[] #[.pointer (some ⟨b, 0, none⟩)]] (blk b 33 [.slice A n c] :: L) fun v L' => ∃ B e, v = .slice B xs.length e ∧ ((0 < xs.length → ∃ b, B = some ⟨b, 0, none⟩) ∧ xs.length ≤ e ∧ e ≤ maxLen) ∧ L' = own 3 1 B xs.length e (flat (srt xs)) :: blk b 33 [.slice A n c] :: L := by
  have hlen : xs.length = n := hRd.len (by decide)
  refine Ctr_of (fn := Tryz.f62) (n := 9) Tryz.func62 rfl rfl rfl ?_
  intro g F
  (repeat first | refine G_seq ?_ | refine G_skip ?_ | refine G_endblk ?_ | refine G_block ?_ | refine G_exit rfl ?_)
  refine G_region ?_
  refine GO_q rfl rfl (ev_assign rfl) ?_
  refine GO_nil ?_
  (repeat first | refine G_seq ?_ | refine G_skip ?_ | refine G_endblk ?_ | refine G_block ?_ | refine G_exit rfl ?_)
  refine G_region ?_
  refine GO_q rfl rfl (ev_move rfl) ?_
  refine GO_eff rfl rfl (eff_call rfl (Ctr.pick (by repeat' first | exact Pick.here | apply Pick.skip | apply Pick.app) (Collect_ctr b A n c xs _ hRd.skip hn))) ?_; rintro _ _ ⟨B, e, rfl, ⟨i1, i2, i3⟩, rfl⟩
  refine GO_q rfl rfl (ev_assign rfl) ?_
  refine GO_nil ?_
  (repeat first | refine G_seq ?_ | refine G_skip ?_ | refine G_endblk ?_ | refine G_block ?_ | refine G_exit rfl ?_)
  refine G_region ?_
  refine GO_q rfl rfl (ev_move rfl) ?_
  refine GO_eff rfl rfl (eff_call rfl (Ctr.pick (by repeat' first | exact Pick.here | apply Pick.skip | apply Pick.app) (sort_ctr B _ e xs _ i1 rfl (by omega)))) ?_; rintro _ _ ⟨rfl, rfl⟩
  refine GO_nil ?_
  (repeat first | refine G_seq ?_ | refine G_skip ?_ | refine G_endblk ?_ | refine G_block ?_ | refine G_exit rfl ?_)
  refine G_region ?_
  refine GO_q rfl rfl (ev_move rfl) ?_
  refine GO_q rfl rfl (ev_assign rfl) ?_
  refine GO_nil ?_
  (repeat first | refine G_seq ?_ | refine G_skip ?_ | refine G_endblk ?_ | refine G_block ?_ | refine G_exit rfl ?_)
  exact G_ret (L' := own 3 1 B xs.length e (flat (srt xs)) :: blk b 33 [.slice A n c] :: L) rfl (.tmp rfl .nil) (by (repeat first | exact en_refl | (apply en_blk; focus ((repeat' first | exact Pick.here | apply Pick.skip | apply Pick.app); done); focus rfl) | (apply en_own; focus ((repeat' first | exact Pick.here | apply Pick.skip | apply Pick.app); done); focus rfl) | (apply en_pick; focus ((repeat' first | exact Pick.here | apply Pick.skip | apply Pick.app); done)) | apply en_drop | apply en_app) <;> fail) ⟨B, e, rfl, ⟨i1, i2, i3⟩, rfl⟩
end Go.Proofs.YtjnmpogolknkpaaGreat
/- A cursor over a tree of middles: the walks. -/
namespace Go.Proofs.YtjnmpogolknkpaaGreat
attribute [local irreducible] sat
set_option linter.unusedVariables false
set_option linter.unusedSimpArgs false
set_option maxRecDepth 100000

theorem Look_ctr' (T : IT) (u v : Int) (L : List HP) (h : IIn L T) (ho : T.ok) (hn : T.spans.length ≤ 100000) : Ctr Tryz.prog 33 #[.pointer T.addr, .int .i64 u, .int .i64 v] L fun r L' => ∃ A1 c1 A2 c2, r = .tuple #[.slice A1 (T.ids' u v).length c1, .slice A2 (T.nxt' u v).length c2] ∧
      ((0 < (T.ids' u v).length → ∃ b, A1 = some ⟨b, 0, none⟩) ∧ (0 < (T.nxt' u v).length → ∃ b, A2 = some ⟨b, 0, none⟩)) ∧
      L' = own 3 1 A1 (T.ids' u v).length c1 (flat (T.ids' u v)) :: own 52 1 A2 (T.nxt' u v).length c2 (flat (T.nxt' u v)) :: L := by
  have := Look_ctr T u v L h ho hn
  unfold LkP at this
  rw [flat_addrsI] at this
  exact this
theorem icvisit_ctr (b s k : Nat) (u v : Int) (ids : List Int) (x : IT) (L : List HP) (hx : IIn L x) (ho : x.ok) (hn : x.spans.length ≤ 1000) (hi : ids.length ≤ 1000000) :
    Ctr Tryz.prog 59 #[.pointer (some ⟨b, 0, none⟩), .pointer x.addr] (icS b s u v ids k :: L) fun r L' => Made 52 (x.nxt' u v) (icS b s u v (ids ++ x.ids' u v) k :: L) r L' := by
  have hlk := fun M h => Look_ctr' x u v M h ho (by omega)
  have hil : (x.ids' u v).length ≤ x.spans.length := ho.ids_len
  refine Ctr.ic fun A c hA hc hc2 => ?_
  generalize x.nxt' u v = xs at *
  generalize x.ids' u v = zs at *
  have hl : (ids ++ zs).length = ids.length + zs.length := List.length_append
  refine Ctr_of (fn := Tryz.f59) (n := 30) Tryz.func59 rfl rfl rfl ?_
  intro g F
  (repeat first | refine G_seq ?_ | refine G_skip ?_ | refine G_endblk ?_ | refine G_block ?_ | refine G_exit rfl ?_)
  refine G_region ?_
  refine GO_q rfl rfl (ev_assign rfl) ?_
  refine GO_nil ?_
  (repeat first | refine G_seq ?_ | refine G_skip ?_ | refine G_endblk ?_ | refine G_block ?_ | refine G_exit rfl ?_)
  refine G_draw (.q 0 (.q 1 (.q 2 (.q 3 (.q 4 (.q 5 (.q 6 (.q 7 (.q 8 (.e 9 (.q 10 (.q 11 (.q 12 (.q 13 (.q 14 .nil))))))))))))))) (by kernel_rfl) (by kernel_rfl) ?_
  refine RS_m retB_noPanic rfl rfl rfl rfl (ev_move rfl) ?_
  refine RS_m retB_noPanic rfl rfl rfl rfl (ev_move rfl) ?_
  (first | refine RS_m retB_noPanic rfl rfl rfl rfl (ev_nilCheck rfl) ?_ | refine RS_m retB_noPanic rfl rfl rfl rfl (ev_nilCheckF (by simp) rfl) ?_)
  refine RS_m retB_noPanic rfl rfl rfl rfl (ev_fieldAddr rfl) ?_
  refine RS_q retB_noPanic rfl rfl rfl rfl (ev_load rfl (by repeat' first | exact Ld.blk rfl | assumption | apply Ld.skip | apply Ld.app)) ?_
  refine RS_m retB_noPanic rfl rfl rfl rfl (ev_move rfl) ?_
  (first | refine RS_m retB_noPanic rfl rfl rfl rfl (ev_nilCheck rfl) ?_ | refine RS_m retB_noPanic rfl rfl rfl rfl (ev_nilCheckF (by simp) rfl) ?_)
  refine RS_m retB_noPanic rfl rfl rfl rfl (ev_fieldAddr rfl) ?_
  refine RS_q retB_noPanic rfl rfl rfl rfl (ev_load rfl (by repeat' first | exact Ld.blk rfl | assumption | apply Ld.skip | apply Ld.app)) ?_
  refine RS_e (RE_eff rfl rfl rfl (eff_call rfl (hlk _ (by repeat' first | exact hx | apply IIn.skip))) ?_); rintro _ _ ⟨A1, c1, A2, c2, rfl, ⟨hA1, hA2⟩, rfl⟩; refine ⟨_, fun _ s => s, (by first | ((repeat first | exact fun _ s => s | apply en_keep | apply en_drop | apply en_app) <;> fail) | ((repeat first | exact en_refl | (apply en_blk; focus ((repeat' first | exact Pick.here | apply Pick.skip | apply Pick.app); done); focus rfl) | (apply en_own; focus ((repeat' first | exact Pick.here | apply Pick.skip | apply Pick.app); done); focus rfl) | (apply en_pick; focus ((repeat' first | exact Pick.here | apply Pick.skip | apply Pick.app); done)) | apply en_drop | apply en_app) <;> fail)), ?_⟩
  refine RS_m retB_noPanic rfl rfl rfl rfl (ev_move rfl) ?_
  refine RS_m retB_noPanic rfl rfl rfl rfl (ev_extract rfl rfl) ?_
  refine RS_m retB_noPanic rfl rfl rfl rfl (ev_extract rfl rfl) ?_
  refine RS_m retB_noPanic rfl rfl rfl rfl (ev_assign rfl) ?_
  refine RS_m retB_noPanic rfl rfl rfl rfl (ev_assign rfl) ?_
  refine RS_nil ?_
  (repeat first | refine G_seq ?_ | refine G_skip ?_ | refine G_endblk ?_ | refine G_block ?_ | refine G_exit rfl ?_)
  refine G_region ?_
  refine GO_q rfl rfl (ev_move rfl) ?_
  refine GO_q rfl rfl (ev_move rfl) ?_
  (first | refine GO_q rfl rfl (ev_nilCheck rfl) ?_ | refine GO_q rfl rfl (ev_nilCheckF (by simp) rfl) ?_)
  refine GO_q rfl rfl (ev_fieldAddr rfl) ?_
  refine GO_q rfl rfl (ev_load rfl (by repeat' first | exact Ld.blk rfl | assumption | apply Ld.skip | apply Ld.app)) ?_
  refine GO_q rfl rfl (ev_move rfl) ?_
  refine GO_eff rfl rfl (eff_append rfl rfl (by repeat' first | exact Pick.here | apply Pick.skip) ((by repeat' first | exact Rc.own (flat_length _) hA1 | apply Rc.skip)) ((flat_one _)) (by rfl) (by decide) (by first | omega | (simp; done) | (simp; omega)) (by first | omega | (simp; done) | (simp; omega))) ?_; rintro _ _ ⟨A26, c26, rfl, hc26, hm26, hn26, rfl⟩
  (first | refine GO_q rfl rfl (ev_nilCheck rfl) ?_ | refine GO_q rfl rfl (ev_nilCheckF (by simp) rfl) ?_)
  refine GO_q rfl rfl (ev_fieldAddr rfl) ?_
  refine GO_eff rfl rfl (eff_store rfl rfl rfl (by repeat' first | exact Upd.here rfl | apply Upd.skip | apply Upd.app)) ?_; rintro _ _ ⟨rfl, rfl⟩
  refine GO_nil ?_
  (repeat first | refine G_seq ?_ | refine G_skip ?_ | refine G_endblk ?_ | refine G_block ?_ | refine G_exit rfl ?_)
  refine G_region ?_
  refine GO_q rfl rfl (ev_move rfl) ?_
  refine GO_q rfl rfl (ev_assign rfl) ?_
  refine GO_nil ?_
  (repeat first | refine G_seq ?_ | refine G_skip ?_ | refine G_endblk ?_ | refine G_block ?_ | refine G_exit rfl ?_)
  refine G_ret (L' := own 52 1 A2 xs.length c2 (flat xs) :: icS b s u v (ids ++ zs) k :: L) rfl (.tmp rfl .nil) ?_ ⟨A2, c2, rfl, hA2, rfl⟩
  apply en_pick
  focus ((repeat' first | exact Pick.here | apply Pick.skip | apply Pick.app); done)
  apply en_pick
  focus ((repeat' first | exact Pick.here | apply Pick.skip | apply Pick.app); done)
  refine en_ic (c := c26) (A := A26) (by rw [hl]; exact hn26) ?_
  rw [hl, flat_append]
  exact (by (repeat first | exact en_refl | (apply en_blk; focus ((repeat' first | exact Pick.here | apply Pick.skip | apply Pick.app); done); focus rfl) | (apply en_own; focus ((repeat' first | exact Pick.here | apply Pick.skip | apply Pick.app); done); focus rfl) | (apply en_pick; focus ((repeat' first | exact Pick.here | apply Pick.skip | apply Pick.app); done)) | apply en_drop | apply en_app) <;> fail)
theorem icvis_good (b s : Nat) (u v : Int) (k : Nat) (tot : List Int) (L0 : List HP) (hbig : tot.length ≤ 1000000) : (icvis b s u v k tot L0).Good L0 where
  cal := inferInstanceAs (CalT Tryz.prog 59)
  visit := fun M x st hM hx => icvisit_ctr b s k u v st x M (hx.1.1.mono hM) hx.1.2.1 hx.1.2.2 hx.2
  next := fun l x st r h => h.next
  stop := fun st r h => by rw [h.rest]; rfl
  cap := fun l st r h => ⟨by
    have := lkL_len (u := u) (v := v) (l := l) fun x hx => (h.ok x hx).2.2.1
    have := h.rest; have := h.small; omega, fun x hx => ⟨⟨⟨(h.ok x hx).1, (h.ok x hx).2.1, (h.ok x hx).2.2.2⟩, h.len hbig⟩, (x.nxt'_wt u v).2.1⟩⟩
def icP (b : Nat) (u v : Int) (tot : List Int) (L0 : List HP) (r k : Nat) : HP := fun h => ∃ y : Nat × List IT × List Int, IcI u v tot L0 y.2.1 y.2.2 r ∧ sat [icS b y.1 u v y.2.2 k, stkS y.1 65536 y.2.1] h
theorem Ctr.icP {P : Program} {f : FuncId} {args : Array Value} {L L0 : List HP} {b r k : Nat} {u v : Int} {tot : List Int} {post : Value → List HP → Prop}
    (C : ∀ s l st, IcI u v tot L0 l st r → Ctr P f args (icS b s u v st k :: stkS s 65536 l :: L) post) : Ctr P f args (icP b u v tot L0 r k :: L) post :=
  Ctr.open (ι := Nat × List IT × List Int) (Fa := fun y => IcI u v tot L0 y.2.1 y.2.2 r) (N := fun y => [icS b y.1 u v y.2.2 k, stkS y.1 65536 y.2.1]) (fun _ h => h) fun y hy => C y.1 y.2.1 y.2.2 hy
theorem en_icP {L M L0 : List HP} {b s r k : Nat} {u v : Int} {tot : List Int} {l : List IT} {st : List Int} (hI : IcI u v tot L0 l st r) (f : ∀ h, sat L h → sat (icS b s u v st k :: stkS s 65536 l :: M) h) : ∀ h, sat L h → sat (icP b u v tot L0 r k :: M) h := fun h t =>
  sat.fold (N := [_, _]) (fun h q => ⟨(s, l, st), hI, q⟩) (f h t)
theorem icbegin_ctr (t : Nat) (T : IT) (most : Int) (u v : Int) (L : List HP) (h : TI L t T most) (o : T.ok) (hn : T.spans.length ≤ 1000) :
    Ctr Tryz.prog 64 #[.pointer (some ⟨t, 0, none⟩), .int .i64 u, .int .i64 v] L fun r L' => ∃ c, r = .pointer (some ⟨c, 0, none⟩) ∧ L' = icP c u v (T.fnd' u v) L (T.lk u v) 0 :: L := by
  refine Ctr_of (fn := Tryz.f64) (n := 29) Tryz.func64 rfl rfl rfl ?_
  intro g F
  (repeat first | refine G_seq ?_ | refine G_skip ?_ | refine G_endblk ?_ | refine G_block ?_ | refine G_exit rfl ?_)
  refine G_region ?_
  refine GO_q rfl rfl (ev_assign rfl) ?_
  refine GO_nil ?_
  (repeat first | refine G_seq ?_ | refine G_skip ?_ | refine G_endblk ?_ | refine G_block ?_ | refine G_exit rfl ?_)
  refine G_region ?_
  refine GO_q rfl rfl (ev_move rfl) ?_
  (first | refine GO_q rfl rfl (ev_eqlNil rfl rfl) ?_ | refine GO_q rfl rfl (ev_eqlPtr rfl rfl) ?_)
  refine GO_nil ?_
  (repeat first | refine G_seq ?_ | refine G_skip ?_ | refine G_endblk ?_ | refine G_block ?_ | refine G_exit rfl ?_)
  refine G_cond_f rfl rfl ?_
  (repeat first | refine G_seq ?_ | refine G_skip ?_ | refine G_endblk ?_ | refine G_block ?_ | refine G_exit rfl ?_)
  refine G_region ?_
  refine GO_eff rfl rfl (eff_call rfl (SNew_ctr _)) ?_; rintro _ _ ⟨s, rfl, rfl⟩
  refine GO_q rfl rfl (ev_move rfl) ?_
  refine GO_q rfl rfl (ev_extract rfl rfl) ?_
  refine GO_q rfl rfl (ev_extract rfl rfl) ?_
  refine GO_q rfl rfl (ev_assign rfl) ?_
  refine GO_q rfl rfl (ev_assign rfl) ?_
  refine GO_nil ?_
  (repeat first | refine G_seq ?_ | refine G_skip ?_ | refine G_endblk ?_ | refine G_block ?_ | refine G_exit rfl ?_)
  refine G_region ?_
  refine GO_q rfl rfl (ev_move rfl) ?_
  refine GO_eff rfl rfl (eff_call rfl (iRoot_ctr h.skip.skip)) ?_; rintro _ _ ⟨rfl, rfl⟩
  refine GO_q rfl rfl (ev_assign rfl) ?_
  refine GO_nil ?_
  (repeat first | refine G_seq ?_ | refine G_skip ?_ | refine G_endblk ?_ | refine G_block ?_ | refine G_exit rfl ?_)
  refine G_region ?_
  refine GO_q rfl rfl (ev_move rfl) ?_
  (first | refine GO_q rfl rfl (ev_neqNil rfl rfl) ?_ | refine GO_q rfl rfl (ev_neqPtr rfl rfl) ?_)
  refine GO_nil ?_
  cases T with
  | nil =>
    (repeat first | refine G_seq ?_ | refine G_skip ?_ | refine G_endblk ?_ | refine G_block ?_ | refine G_exit rfl ?_)
    refine G_cond_f rfl rfl ?_
    (repeat first | refine G_seq ?_ | refine G_skip ?_ | refine G_endblk ?_ | refine G_block ?_ | refine G_exit rfl ?_)
    refine G_region ?_
    refine GO_q rfl rfl (ev_move rfl) ?_
    refine GO_q rfl rfl (ev_move rfl) ?_
    refine GO_q rfl rfl (ev_move rfl) ?_
    refine GO_q rfl rfl (ev_build rfl rfl) ?_
    refine GO_eff rfl rfl (eff_box rfl) ?_; rintro _ _ ⟨b28, rfl, rfl⟩
    refine GO_q rfl rfl (ev_assign rfl) ?_
    refine GO_nil ?_
    (repeat first | refine G_seq ?_ | refine G_skip ?_ | refine G_endblk ?_ | refine G_block ?_ | refine G_exit rfl ?_)
    refine G_heap (own.nil_ 3 1) ?_
    have e1 : IT.nil.fnd' u v = [] := by unfold IT.fnd'; split <;> rfl
    have e2 : IT.nil.lk u v = 0 := by unfold IT.lk; split <;> rfl
    have hI : IcI u v (IT.nil.fnd' u v) L [] [] (IT.nil.lk u v) := ⟨by rw [e2]; rfl, by rw [e2]; exact Nat.zero_le _, (fun _ h => by cases h), by rw [e1]; rfl⟩
    refine G_ret (L' := icP b28 u v (IT.nil.fnd' u v) L (IT.nil.lk u v) 0 :: L) rfl (.tmp rfl .nil) ?_ ⟨b28, rfl, rfl⟩
    apply en_pick
    focus ((repeat' first | exact Pick.here | apply Pick.skip | apply Pick.app); done)
    refine en_icP (s := s) hI ?_
    refine en_ic (c := 0) (A := none) (fun h => absurd h (Nat.lt_irrefl 0)) ?_
    exact (by (repeat first | exact en_refl | (apply en_blk; focus ((repeat' first | exact Pick.here | apply Pick.skip | apply Pick.app); done); focus rfl) | (apply en_own; focus ((repeat' first | exact Pick.here | apply Pick.skip | apply Pick.app); done); focus rfl) | (apply en_pick; focus ((repeat' first | exact Pick.here | apply Pick.skip | apply Pick.app); done)) | apply en_drop | apply en_app) <;> fail)
  | node b mid A c p C d q m lo hi =>
    have hI := IcI.start (u := u) (v := v) h.i o hn rfl
    generalize hT : IT.node b mid A c p C d q m lo hi = T at *
    have hTa : T.addr = some ⟨b, 0, none⟩ := by rw [← hT]; rfl
    (repeat first | refine G_seq ?_ | refine G_skip ?_ | refine G_endblk ?_ | refine G_block ?_ | refine G_exit rfl ?_)
    refine G_cond_t rfl (by rw [hTa]; rfl) ?_
    (repeat first | refine G_seq ?_ | refine G_skip ?_ | refine G_endblk ?_ | refine G_block ?_ | refine G_exit rfl ?_)
    refine G_region ?_
    refine GO_q rfl rfl (ev_move rfl) ?_
    refine GO_q rfl rfl (ev_move rfl) ?_
    refine GO_eff rfl rfl (eff_buildSlice1 (by rfl) rfl rfl) ?_; rintro _ _ ⟨b22, rfl, rfl⟩
    refine GO_eff rfl rfl (eff_call rfl (Ctr.pick (by repeat' first | exact Pick.here | apply Pick.skip | apply Pick.app) (Push_ctr s (some ⟨b22, 0, none⟩) 1 1 [] [T] _ (by repeat' first | exact Rc.blk rfl | apply Rc.skip) (by decide)))) ?_; rintro _ _ ⟨rfl, rfl⟩
    refine GO_nil ?_
    (repeat first | refine G_seq ?_ | refine G_skip ?_ | refine G_endblk ?_ | refine G_block ?_ | refine G_exit rfl ?_)
    refine G_region ?_
    refine GO_q rfl rfl (ev_move rfl) ?_
    refine GO_q rfl rfl (ev_move rfl) ?_
    refine GO_q rfl rfl (ev_move rfl) ?_
    refine GO_q rfl rfl (ev_build rfl rfl) ?_
    refine GO_eff rfl rfl (eff_box rfl) ?_; rintro _ _ ⟨b28, rfl, rfl⟩
    refine GO_q rfl rfl (ev_assign rfl) ?_
    refine GO_nil ?_
    (repeat first | refine G_seq ?_ | refine G_skip ?_ | refine G_endblk ?_ | refine G_block ?_ | refine G_exit rfl ?_)
    refine G_heap (own.nil_ 3 1) ?_
    refine G_ret (L' := icP b28 u v (T.fnd' u v) L (T.lk u v) 0 :: L) rfl (.tmp rfl .nil) ?_ ⟨b28, rfl, rfl⟩
    apply en_pick
    focus ((repeat' first | exact Pick.here | apply Pick.skip | apply Pick.app); done)
    refine en_icP (s := s) hI ?_
    refine en_ic (c := 0) (A := none) (fun h => absurd h (Nat.lt_irrefl 0)) ?_
    exact (by (repeat first | exact en_refl | (apply en_blk; focus ((repeat' first | exact Pick.here | apply Pick.skip | apply Pick.app); done); focus rfl) | (apply en_own; focus ((repeat' first | exact Pick.here | apply Pick.skip | apply Pick.app); done); focus rfl) | (apply en_pick; focus ((repeat' first | exact Pick.here | apply Pick.skip | apply Pick.app); done)) | apply en_drop | apply en_app) <;> fail)
theorem icOverlap_ctr (t : Nat) (T : IT) (most : Int) (u v : Int) (L : List HP) (h : TI L t T most) (o : T.ok) (hn : T.spans.length ≤ 1000) :
    Ctr Tryz.prog 41 #[.pointer (some ⟨t, 0, none⟩), .int .i64 u, .int .i64 v] L fun r L' => ∃ c L0, r = .pointer (some ⟨c, 0, none⟩) ∧ (∀ h, sat L h → sat L0 h) ∧ L' = icP c u v (T.fnd' u v) L0 (T.lk u v) 0 :: L := by
  refine Ctr_of (fn := Tryz.f41) (n := 11) Tryz.func41 rfl rfl rfl ?_
  intro g F
  (repeat first | refine G_seq ?_ | refine G_skip ?_ | refine G_endblk ?_ | refine G_block ?_ | refine G_exit rfl ?_)
  refine G_region ?_
  refine GO_q rfl rfl (ev_assign rfl) ?_
  refine GO_nil ?_
  (repeat first | refine G_seq ?_ | refine G_skip ?_ | refine G_endblk ?_ | refine G_block ?_ | refine G_exit rfl ?_)
  refine G_region ?_
  refine GO_q rfl rfl (ev_move rfl) ?_
  refine GO_q rfl rfl (ev_move rfl) ?_
  refine GO_q rfl rfl (ev_move rfl) ?_
  refine GO_eff rfl rfl (eff_call rfl (Ctr.frame [F] (icbegin_ctr t T most u v L h o hn) (fun _ s => s))) ?_; rintro _ _ ⟨_, ⟨c, rfl, rfl⟩, rfl⟩
  refine GO_q rfl rfl (ev_assign rfl) ?_
  refine GO_nil ?_
  (repeat first | refine G_seq ?_ | refine G_skip ?_ | refine G_endblk ?_ | refine G_block ?_ | refine G_exit rfl ?_)
  exact G_ret (L' := icP c u v (T.fnd' u v) L (T.lk u v) 0 :: L) rfl (.tmp rfl .nil) (by (repeat first | exact en_refl | (apply en_blk; focus ((repeat' first | exact Pick.here | apply Pick.skip | apply Pick.app); done); focus rfl) | (apply en_own; focus ((repeat' first | exact Pick.here | apply Pick.skip | apply Pick.app); done); focus rfl) | (apply en_pick; focus ((repeat' first | exact Pick.here | apply Pick.skip | apply Pick.app); done)) | apply en_drop | apply en_app) <;> fail) ⟨c, L, rfl, fun _ h => h, rfl⟩
theorem icStab_ctr (t : Nat) (T : IT) (most : Int) (u : Int) (L : List HP) (h : TI L t T most) (o : T.ok) (hn : T.spans.length ≤ 1000) :
    Ctr Tryz.prog 40 #[.pointer (some ⟨t, 0, none⟩), .int .i64 u] L fun r L' => ∃ c L0, r = .pointer (some ⟨c, 0, none⟩) ∧ (∀ h, sat L h → sat L0 h) ∧ L' = icP c u u (T.fnd' u u) L0 (T.lk u u) 0 :: L := by
  refine Ctr_of (fn := Tryz.f40) (n := 9) Tryz.func40 rfl rfl rfl ?_
  intro g F
  (repeat first | refine G_seq ?_ | refine G_skip ?_ | refine G_endblk ?_ | refine G_block ?_ | refine G_exit rfl ?_)
  refine G_region ?_
  refine GO_q rfl rfl (ev_assign rfl) ?_
  refine GO_nil ?_
  (repeat first | refine G_seq ?_ | refine G_skip ?_ | refine G_endblk ?_ | refine G_block ?_ | refine G_exit rfl ?_)
  refine G_region ?_
  refine GO_q rfl rfl (ev_move rfl) ?_
  refine GO_q rfl rfl (ev_move rfl) ?_
  refine GO_q rfl rfl (ev_move rfl) ?_
  refine GO_eff rfl rfl (eff_call rfl (Ctr.frame [F] (icbegin_ctr t T most u u L h o hn) (fun _ s => s))) ?_; rintro _ _ ⟨_, ⟨c, rfl, rfl⟩, rfl⟩
  refine GO_q rfl rfl (ev_assign rfl) ?_
  refine GO_nil ?_
  (repeat first | refine G_seq ?_ | refine G_skip ?_ | refine G_endblk ?_ | refine G_block ?_ | refine G_exit rfl ?_)
  exact G_ret (L' := icP c u u (T.fnd' u u) L (T.lk u u) 0 :: L) rfl (.tmp rfl .nil) (by (repeat first | exact en_refl | (apply en_blk; focus ((repeat' first | exact Pick.here | apply Pick.skip | apply Pick.app); done); focus rfl) | (apply en_own; focus ((repeat' first | exact Pick.here | apply Pick.skip | apply Pick.app); done); focus rfl) | (apply en_pick; focus ((repeat' first | exact Pick.here | apply Pick.skip | apply Pick.app); done)) | apply en_drop | apply en_app) <;> fail) ⟨c, L, rfl, fun _ h => h, rfl⟩
theorem icStep_ctr (b r k : Nat) (u v : Int) (tot : List Int) (L0 L : List HP) (n : Int) (hM : ∀ h, sat L h → sat L0 h) (hbig : tot.length ≤ 1000000) (hk : k ≤ 1000000000) :
    Ctr Tryz.prog 34 #[.pointer (some ⟨b, 0, none⟩), .int .i64 n] (icP b u v tot L0 r k :: L) fun w L' => w = .tuple #[.int .i64 (min n.toNat r : Nat), .bool (decide (r - min n.toNat r = 0))] ∧ L' = icP b u v tot L0 (r - min n.toNat r) (k + min n.toNat r) :: L := by
  refine Ctr.icP fun s l st hI => ?_
  have hrs := hI.small
  refine Ctr_of (fn := Tryz.f34) (n := 44) Tryz.func34 rfl rfl rfl ?_
  intro g F
  (repeat first | refine G_seq ?_ | refine G_skip ?_ | refine G_endblk ?_ | refine G_block ?_ | refine G_exit rfl ?_)
  refine G_region ?_
  refine GO_q rfl rfl (ev_assign rfl) ?_
  refine GO_q rfl rfl (ev_assign rfl) ?_
  refine GO_nil ?_
  (repeat first | refine G_seq ?_ | refine G_skip ?_ | refine G_endblk ?_ | refine G_block ?_ | refine G_exit rfl ?_)
  refine G_region ?_
  refine GO_q rfl rfl (ev_move rfl) ?_
  (first | refine GO_q rfl rfl (ev_eqlNil rfl rfl) ?_ | refine GO_q rfl rfl (ev_eqlPtr rfl rfl) ?_)
  refine GO_nil ?_
  (repeat first | refine G_seq ?_ | refine G_skip ?_ | refine G_endblk ?_ | refine G_block ?_ | refine G_exit rfl ?_)
  refine G_cond_f rfl rfl ?_
  refine G_heap (L' := icS b s u v st k :: stkS s 65536 l :: F :: L) (by (repeat first | exact en_refl | (apply en_blk; focus ((repeat' first | exact Pick.here | apply Pick.skip | apply Pick.app); done); focus rfl) | (apply en_own; focus ((repeat' first | exact Pick.here | apply Pick.skip | apply Pick.app); done); focus rfl) | (apply en_pick; focus ((repeat' first | exact Pick.here | apply Pick.skip | apply Pick.app); done)) | apply en_drop | apply en_app) <;> fail) ?_
  refine G_ic fun A c hA hc hc2 => ?_
  (repeat first | refine G_seq ?_ | refine G_skip ?_ | refine G_endblk ?_ | refine G_block ?_ | refine G_exit rfl ?_)
  refine G_region ?_
  refine GO_q rfl rfl (ev_move rfl) ?_
  (first | refine GO_q rfl rfl (ev_nilCheck rfl) ?_ | refine GO_q rfl rfl (ev_nilCheckF (by simp) rfl) ?_)
  refine GO_q rfl rfl (ev_fieldAddr rfl) ?_
  refine GO_q rfl rfl (ev_load rfl (by repeat' first | exact Ld.blk rfl | assumption | apply Ld.skip | apply Ld.app)) ?_
  refine GO_q rfl rfl (ev_move rfl) ?_
  refine GO_q rfl rfl (ev_max0 rfl) ?_
  refine GO_q rfl rfl (ev_move rfl) ?_
  refine GO_q rfl rfl (ev_makeFunc rfl rfl) ?_
  refine GO_eff rfl rfl (eff_call rfl (Ctr.pre (M := stkS s 65536 l :: icS b s u v st k :: F :: L) (by (repeat first | exact en_refl | apply en_ic (c := c) hA | (apply en_blk; focus ((repeat' first | exact Pick.here | apply Pick.skip | apply Pick.app); done); focus rfl) | (apply en_own; focus ((repeat' first | exact Pick.here | apply Pick.skip | apply Pick.app); done); focus rfl) | (apply en_pick; focus ((repeat' first | exact Pick.here | apply Pick.skip | apply Pick.app); done)) | apply en_drop | apply en_app) <;> fail) (Walk_ctr (icvis b s u v k tot L0) s n.toNat r l st (F :: L) L0 (icvis_good b s u v k tot L0 hbig) (fun h t => hM h t.tail) hI (by omega)))) ?_; rintro _ _ ⟨l', st', rfl, hI', rfl⟩
  refine GO_q rfl rfl (ev_move rfl) ?_
  refine GO_q rfl rfl (ev_extract rfl rfl) ?_
  refine GO_q rfl rfl (ev_extract rfl rfl) ?_
  refine GO_q rfl rfl (ev_assign rfl) ?_
  refine GO_q rfl rfl (ev_assign rfl) ?_
  refine GO_nil ?_
  (repeat first | refine G_seq ?_ | refine G_skip ?_ | refine G_endblk ?_ | refine G_block ?_ | refine G_exit rfl ?_)
  refine G_region ?_
  refine GO_q rfl rfl (ev_move rfl) ?_
  refine GO_q rfl rfl (ev_neq rfl rfl) ?_
  refine GO_nil ?_
  (repeat first | refine G_seq ?_ | refine G_skip ?_ | refine G_endblk ?_ | refine G_block ?_ | refine G_exit rfl ?_)
  refine G_cond_f rfl rfl ?_
  refine G_heap (L' := icS b s u v st' k :: stkS s 65536 l' :: F :: L) (fun _ t => t.swap) ?_
  refine G_ic fun A' c' hA' hc' hc2' => ?_
  (repeat first | refine G_seq ?_ | refine G_skip ?_ | refine G_endblk ?_ | refine G_block ?_ | refine G_exit rfl ?_)
  refine G_region ?_
  refine GO_q rfl rfl (ev_move rfl) ?_
  (first | refine GO_q rfl rfl (ev_nilCheck rfl) ?_ | refine GO_q rfl rfl (ev_nilCheckF (by simp) rfl) ?_)
  refine GO_q rfl rfl (ev_fieldAddr rfl) ?_
  refine GO_q rfl rfl (ev_load rfl (by repeat' first | exact Ld.blk rfl | assumption | apply Ld.skip | apply Ld.app)) ?_
  refine GO_q rfl rfl (ev_move rfl) ?_
  (first | refine GO_q rfl rfl (ev_addN rfl rfl (by first | omega | (simp; done) | (simp; omega))) ?_ | refine GO_q rfl rfl (ev_add rfl rfl (by first | omega | (simp; done) | (simp; omega))) ?_)
  (first | refine GO_q rfl rfl (ev_nilCheck rfl) ?_ | refine GO_q rfl rfl (ev_nilCheckF (by simp) rfl) ?_)
  refine GO_q rfl rfl (ev_fieldAddr rfl) ?_
  refine GO_eff rfl rfl (eff_store rfl rfl rfl (by repeat' first | exact Upd.here rfl | apply Upd.skip | apply Upd.app)) ?_; rintro _ _ ⟨rfl, rfl⟩
  refine GO_nil ?_
  refine G_heap (L' := icS b s u v st' (k + min n.toNat r) :: stkS s 65536 l' :: F :: L) (by (repeat first | exact en_refl | apply en_ic (c := c') hA' | (apply en_blk; focus ((repeat' first | exact Pick.here | apply Pick.skip | apply Pick.app); done); focus rfl) | (apply en_own; focus ((repeat' first | exact Pick.here | apply Pick.skip | apply Pick.app); done); focus rfl) | (apply en_pick; focus ((repeat' first | exact Pick.here | apply Pick.skip | apply Pick.app); done)) | apply en_drop | apply en_app) <;> fail) ?_
  have hI2 : IcI u v tot L0 l' st' (r - min n.toNat r) := hI'
  refine G_ic fun A2 c2 hA2 hcc hcc2 => ?_
  (repeat first | refine G_seq ?_ | refine G_skip ?_ | refine G_endblk ?_ | refine G_block ?_ | refine G_exit rfl ?_)
  refine G_region ?_
  refine GO_q rfl rfl (ev_move rfl) ?_
  refine GO_q rfl rfl (ev_move rfl) ?_
  (first | refine GO_q rfl rfl (ev_nilCheck rfl) ?_ | refine GO_q rfl rfl (ev_nilCheckF (by simp) rfl) ?_)
  refine GO_q rfl rfl (ev_fieldAddr rfl) ?_
  refine GO_q rfl rfl (ev_load rfl (by repeat' first | exact Ld.blk rfl | assumption | apply Ld.skip | apply Ld.app)) ?_
  refine GO_eff rfl rfl (eff_call rfl (Ctr.pick (by repeat' first | exact Pick.here | apply Pick.skip | apply Pick.app) (SLen_k_ctr s l' _))) ?_; rintro _ _ ⟨rfl, rfl⟩
  refine GO_q rfl rfl (ev_eql rfl rfl) ?_
  refine GO_q rfl rfl (ev_assign rfl) ?_
  refine GO_q rfl rfl (ev_assign rfl) ?_
  refine GO_nil ?_
  (repeat first | refine G_seq ?_ | refine G_skip ?_ | refine G_endblk ?_ | refine G_block ?_ | refine G_exit rfl ?_)
  rw [decide_eq_decide.2 hI2.done]
  refine G_ret (L' := icP b u v tot L0 (r - min n.toNat r) (k + min n.toNat r) :: L) rfl (.tmp rfl (.tmp rfl .nil)) ?_ ⟨rfl, rfl⟩
  apply en_pick
  focus ((repeat' first | exact Pick.here | apply Pick.skip | apply Pick.app); done)
  refine en_icP (s := s) hI2 ?_
  exact (by (repeat first | exact en_refl | apply en_ic (c := c2) hA2 | (apply en_blk; focus ((repeat' first | exact Pick.here | apply Pick.skip | apply Pick.app); done); focus rfl) | (apply en_own; focus ((repeat' first | exact Pick.here | apply Pick.skip | apply Pick.app); done); focus rfl) | (apply en_pick; focus ((repeat' first | exact Pick.here | apply Pick.skip | apply Pick.app); done)) | apply en_drop | apply en_app) <;> fail)
theorem icN_ctr (b k : Nat) (u v : Int) (tot : List Int) (L0 L : List HP) : Ctr Tryz.prog 38 #[.pointer (some ⟨b, 0, none⟩)] (icP b u v tot L0 0 k :: L) fun w L' => w = .int .i64 (tot.length : Nat) ∧ L' = icP b u v tot L0 0 k :: L := by
  refine Ctr.icP fun s l st hI => ?_
  obtain ⟨e1, e2⟩ := hI.end_
  refine Ctr.ic fun A c hA hc hc2 => ?_
  rw [← e2]
  refine Ctr_of (fn := Tryz.f38) (n := 10) Tryz.func38 rfl rfl rfl ?_
  intro g F
  (repeat first | refine G_seq ?_ | refine G_skip ?_ | refine G_endblk ?_ | refine G_block ?_ | refine G_exit rfl ?_)
  refine G_region ?_
  refine GO_q rfl rfl (ev_assign rfl) ?_
  refine GO_nil ?_
  (repeat first | refine G_seq ?_ | refine G_skip ?_ | refine G_endblk ?_ | refine G_block ?_ | refine G_exit rfl ?_)
  refine G_region ?_
  refine GO_q rfl rfl (ev_move rfl) ?_
  (first | refine GO_q rfl rfl (ev_eqlNil rfl rfl) ?_ | refine GO_q rfl rfl (ev_eqlPtr rfl rfl) ?_)
  refine GO_nil ?_
  (repeat first | refine G_seq ?_ | refine G_skip ?_ | refine G_endblk ?_ | refine G_block ?_ | refine G_exit rfl ?_)
  refine G_cond_f rfl rfl ?_
  (repeat first | refine G_seq ?_ | refine G_skip ?_ | refine G_endblk ?_ | refine G_block ?_ | refine G_exit rfl ?_)
  refine G_region ?_
  refine GO_q rfl rfl (ev_move rfl) ?_
  (first | refine GO_q rfl rfl (ev_nilCheck rfl) ?_ | refine GO_q rfl rfl (ev_nilCheckF (by simp) rfl) ?_)
  refine GO_q rfl rfl (ev_fieldAddr rfl) ?_
  refine GO_q rfl rfl (ev_load rfl (by repeat' first | exact Ld.blk rfl | assumption | apply Ld.skip | apply Ld.app)) ?_
  refine GO_q rfl rfl (ev_len rfl) ?_
  refine GO_q rfl rfl (ev_assign rfl) ?_
  refine GO_nil ?_
  (repeat first | refine G_seq ?_ | refine G_skip ?_ | refine G_endblk ?_ | refine G_block ?_ | refine G_exit rfl ?_)
  refine G_ret (L' := icP b u v st L0 0 k :: L) rfl (.tmp rfl .nil) ?_ ⟨rfl, rfl⟩
  apply en_pick
  focus ((repeat' first | exact Pick.here | apply Pick.skip | apply Pick.app); done)
  refine en_icP (s := s) (by rw [e2]; exact hI) ?_
  exact (by (repeat first | exact en_refl | apply en_ic (c := c) hA | (apply en_blk; focus ((repeat' first | exact Pick.here | apply Pick.skip | apply Pick.app); done); focus rfl) | (apply en_own; focus ((repeat' first | exact Pick.here | apply Pick.skip | apply Pick.app); done); focus rfl) | (apply en_pick; focus ((repeat' first | exact Pick.here | apply Pick.skip | apply Pick.app); done)) | apply en_drop | apply en_app) <;> fail)
theorem icDone_ctr (b r k : Nat) (u v : Int) (tot : List Int) (L0 L : List HP) : Ctr Tryz.prog 36 #[.pointer (some ⟨b, 0, none⟩)] (icP b u v tot L0 r k :: L) fun w L' => w = .bool (decide (r = 0)) ∧ L' = icP b u v tot L0 r k :: L := by
  refine Ctr.icP fun s l st hI => ?_
  refine Ctr.ic fun A c hA hc hc2 => ?_
  refine Ctr_of (fn := Tryz.f36) (n := 13) Tryz.func36 rfl rfl rfl ?_
  intro g F
  (repeat first | refine G_seq ?_ | refine G_skip ?_ | refine G_endblk ?_ | refine G_block ?_ | refine G_exit rfl ?_)
  refine G_region ?_
  refine GO_q rfl rfl (ev_assign rfl) ?_
  refine GO_nil ?_
  (repeat first | refine G_seq ?_ | refine G_skip ?_ | refine G_endblk ?_ | refine G_block ?_ | refine G_exit rfl ?_)
  refine G_region ?_
  refine GO_q rfl rfl (ev_move rfl) ?_
  (first | refine GO_q rfl rfl (ev_eqlNil rfl rfl) ?_ | refine GO_q rfl rfl (ev_eqlPtr rfl rfl) ?_)
  refine GO_q rfl rfl (ev_move rfl) ?_
  refine GO_yes rfl rfl rfl rfl ?_
  refine GO_q rfl rfl (ev_move rfl) ?_
  refine GO_yes rfl rfl rfl rfl ?_
  (first | refine GO_q rfl rfl (ev_nilCheck rfl) ?_ | refine GO_q rfl rfl (ev_nilCheckF (by simp) rfl) ?_)
  refine GO_yes rfl rfl rfl rfl ?_
  refine GO_q rfl rfl (ev_fieldAddr rfl) ?_
  refine GO_yes rfl rfl rfl rfl ?_
  refine GO_q rfl rfl (ev_load rfl (by repeat' first | exact Ld.blk rfl | assumption | apply Ld.skip | apply Ld.app)) ?_
  refine GO_yes rfl rfl rfl rfl ?_
  refine GO_eff rfl rfl (eff_call rfl (Ctr.pick (by repeat' first | exact Pick.here | apply Pick.skip | apply Pick.app) (SLen_k_ctr s l _))) ?_; rintro _ _ ⟨rfl, rfl⟩
  refine GO_yes rfl rfl rfl rfl ?_
  refine GO_q rfl rfl (ev_eql rfl rfl) ?_
  refine GO_q rfl rfl (ev_pick_f rfl rfl rfl) ?_
  refine GO_q rfl rfl (ev_assign rfl) ?_
  refine GO_nil ?_
  (repeat first | refine G_seq ?_ | refine G_skip ?_ | refine G_endblk ?_ | refine G_block ?_ | refine G_exit rfl ?_)
  rw [decide_eq_decide.2 hI.done]
  refine G_ret (L' := icP b u v tot L0 r k :: L) rfl (.tmp rfl .nil) ?_ ⟨rfl, rfl⟩
  apply en_pick
  focus ((repeat' first | exact Pick.here | apply Pick.skip | apply Pick.app); done)
  refine en_icP (s := s) hI ?_
  exact (by (repeat first | exact en_refl | apply en_ic (c := c) hA | (apply en_blk; focus ((repeat' first | exact Pick.here | apply Pick.skip | apply Pick.app); done); focus rfl) | (apply en_own; focus ((repeat' first | exact Pick.here | apply Pick.skip | apply Pick.app); done); focus rfl) | (apply en_pick; focus ((repeat' first | exact Pick.here | apply Pick.skip | apply Pick.app); done)) | apply en_drop | apply en_app) <;> fail)
theorem icSteps_ctr (b r k : Nat) (u v : Int) (tot : List Int) (L0 L : List HP) : Ctr Tryz.prog 39 #[.pointer (some ⟨b, 0, none⟩)] (icP b u v tot L0 r k :: L) fun w L' => w = .int .i64 (k : Nat) ∧ L' = icP b u v tot L0 r k :: L := by
  refine Ctr.icP fun s l st hI => ?_
  refine Ctr.ic fun A c hA hc hc2 => ?_
  refine Ctr_of (fn := Tryz.f39) (n := 9) Tryz.func39 rfl rfl rfl ?_
  intro g F
  (repeat first | refine G_seq ?_ | refine G_skip ?_ | refine G_endblk ?_ | refine G_block ?_ | refine G_exit rfl ?_)
  refine G_region ?_
  refine GO_q rfl rfl (ev_assign rfl) ?_
  refine GO_nil ?_
  (repeat first | refine G_seq ?_ | refine G_skip ?_ | refine G_endblk ?_ | refine G_block ?_ | refine G_exit rfl ?_)
  refine G_region ?_
  refine GO_q rfl rfl (ev_move rfl) ?_
  (first | refine GO_q rfl rfl (ev_eqlNil rfl rfl) ?_ | refine GO_q rfl rfl (ev_eqlPtr rfl rfl) ?_)
  refine GO_nil ?_
  (repeat first | refine G_seq ?_ | refine G_skip ?_ | refine G_endblk ?_ | refine G_block ?_ | refine G_exit rfl ?_)
  refine G_cond_f rfl rfl ?_
  (repeat first | refine G_seq ?_ | refine G_skip ?_ | refine G_endblk ?_ | refine G_block ?_ | refine G_exit rfl ?_)
  refine G_region ?_
  refine GO_q rfl rfl (ev_move rfl) ?_
  (first | refine GO_q rfl rfl (ev_nilCheck rfl) ?_ | refine GO_q rfl rfl (ev_nilCheckF (by simp) rfl) ?_)
  refine GO_q rfl rfl (ev_fieldAddr rfl) ?_
  refine GO_q rfl rfl (ev_load rfl (by repeat' first | exact Ld.blk rfl | assumption | apply Ld.skip | apply Ld.app)) ?_
  refine GO_q rfl rfl (ev_assign rfl) ?_
  refine GO_nil ?_
  (repeat first | refine G_seq ?_ | refine G_skip ?_ | refine G_endblk ?_ | refine G_block ?_ | refine G_exit rfl ?_)
  refine G_ret (L' := icP b u v tot L0 r k :: L) rfl (.tmp rfl .nil) ?_ ⟨rfl, rfl⟩
  apply en_pick
  focus ((repeat' first | exact Pick.here | apply Pick.skip | apply Pick.app); done)
  refine en_icP (s := s) hI ?_
  exact (by (repeat first | exact en_refl | apply en_ic (c := c) hA | (apply en_blk; focus ((repeat' first | exact Pick.here | apply Pick.skip | apply Pick.app); done); focus rfl) | (apply en_own; focus ((repeat' first | exact Pick.here | apply Pick.skip | apply Pick.app); done); focus rfl) | (apply en_pick; focus ((repeat' first | exact Pick.here | apply Pick.skip | apply Pick.app); done)) | apply en_drop | apply en_app) <;> fail)
theorem icIDs_ctr (b k : Nat) (u v : Int) (tot : List Int) (L0 L : List HP) (hbig : tot.length ≤ 100000) : Ctr Tryz.prog 37 #[.pointer (some ⟨b, 0, none⟩)] (icP b u v tot L0 0 k :: L) fun w L' =>
    ∃ B e, w = .slice B tot.length e ∧ ((0 < tot.length → ∃ b, B = some ⟨b, 0, none⟩) ∧ tot.length ≤ e ∧ e ≤ maxLen) ∧ L' = own 3 1 B tot.length e (flat (srt tot)) :: icP b u v tot L0 0 k :: L := by
  refine Ctr.icP fun s l st hI => ?_
  obtain ⟨e1, e2⟩ := hI.end_
  refine Ctr.ic fun A c hA hc hc2 => ?_
  subst e2
  have hrd : ∀ M : List HP, Rd (own 3 1 A st.length c (flat st) :: M) A st.length st := fun M => Rc.own (flat_length _) hA
  refine Ctr_of (fn := Tryz.f37) (n := 11) Tryz.func37 rfl rfl rfl ?_
  intro g F
  (repeat first | refine G_seq ?_ | refine G_skip ?_ | refine G_endblk ?_ | refine G_block ?_ | refine G_exit rfl ?_)
  refine G_region ?_
  refine GO_q rfl rfl (ev_assign rfl) ?_
  refine GO_nil ?_
  (repeat first | refine G_seq ?_ | refine G_skip ?_ | refine G_endblk ?_ | refine G_block ?_ | refine G_exit rfl ?_)
  refine G_region ?_
  refine GO_q rfl rfl (ev_move rfl) ?_
  (first | refine GO_q rfl rfl (ev_eqlNil rfl rfl) ?_ | refine GO_q rfl rfl (ev_eqlPtr rfl rfl) ?_)
  refine GO_nil ?_
  (repeat first | refine G_seq ?_ | refine G_skip ?_ | refine G_endblk ?_ | refine G_block ?_ | refine G_exit rfl ?_)
  refine G_cond_f rfl rfl ?_
  (repeat first | refine G_seq ?_ | refine G_skip ?_ | refine G_endblk ?_ | refine G_block ?_ | refine G_exit rfl ?_)
  refine G_region ?_
  refine GO_q rfl rfl (ev_move rfl) ?_
  (first | refine GO_q rfl rfl (ev_nilCheck rfl) ?_ | refine GO_q rfl rfl (ev_nilCheckF (by simp) rfl) ?_)
  refine GO_q rfl rfl (ev_fieldAddr rfl) ?_
  refine GO_q rfl rfl (ev_load rfl (by repeat' first | exact Ld.blk rfl | assumption | apply Ld.skip | apply Ld.app)) ?_
  refine GO_eff rfl rfl (eff_call rfl (Values_ctr A st.length c _)) ?_; rintro _ _ ⟨bv, rfl, rfl⟩
  refine GO_eff rfl rfl (eff_call rfl (Ctr.pick (by repeat' first | exact Pick.here | apply Pick.skip | apply Pick.app) (Sorted_ctr bv A st.length c st _ (by repeat' first | exact hrd _ | apply Rd.skip) (by omega)))) ?_; rintro _ _ ⟨B, e, rfl, ⟨i1, i2, i3⟩, rfl⟩
  refine GO_q rfl rfl (ev_assign rfl) ?_
  refine GO_nil ?_
  (repeat first | refine G_seq ?_ | refine G_skip ?_ | refine G_endblk ?_ | refine G_block ?_ | refine G_exit rfl ?_)
  refine G_ret (L' := own 3 1 B st.length e (flat (srt st)) :: icP b u v st L0 0 k :: L) rfl (.tmp rfl .nil) ?_ ⟨B, e, rfl, ⟨i1, i2, i3⟩, rfl⟩
  apply en_pick
  focus ((repeat' first | exact Pick.here | apply Pick.skip | apply Pick.app); done)
  apply en_pick
  focus ((repeat' first | exact Pick.here | apply Pick.skip | apply Pick.app); done)
  refine en_icP (s := s) hI ?_
  exact (by (repeat first | exact en_refl | apply en_ic (c := c) hA | (apply en_blk; focus ((repeat' first | exact Pick.here | apply Pick.skip | apply Pick.app); done); focus rfl) | (apply en_own; focus ((repeat' first | exact Pick.here | apply Pick.skip | apply Pick.app); done); focus rfl) | (apply en_pick; focus ((repeat' first | exact Pick.here | apply Pick.skip | apply Pick.app); done)) | apply en_drop | apply en_app) <;> fail)
end Go.Proofs.YtjnmpogolknkpaaGreat
/- A cursor over a tree of middles: how many nodes; that it lives; what is told of no cursor. -/
namespace Go.Proofs.YtjnmpogolknkpaaGreat
attribute [local irreducible] sat
open Go.RowKit
set_option linter.unusedVariables false
set_option linter.unusedSimpArgs false
set_option maxRecDepth 100000

theorem rSteps_ctr (left : Nat) (n : Int) (L : List HP) : Ctr Tryz.prog 44 #[.int .i64 (left : Nat), .int .i64 n] L fun r L' => r = .int .i64 (min n.toNat left : Nat) ∧ L' = L := by
  by_cases h1 : n < 0
  · have e : min n.toNat left = 0 := by omega
    rw [e]
    refine Ctr_of (fn := Tryz.f44) (n := 12) Tryz.func44 rfl rfl rfl ?_
    intro g F
    (repeat first | refine G_seq ?_ | refine G_skip ?_ | refine G_endblk ?_ | refine G_block ?_ | refine G_exit rfl ?_)
    refine G_region ?_
    refine GO_q rfl rfl (ev_assign rfl) ?_
    refine GO_nil ?_
    (repeat first | refine G_seq ?_ | refine G_skip ?_ | refine G_endblk ?_ | refine G_block ?_ | refine G_exit rfl ?_)
    refine G_region ?_
    refine GO_q rfl rfl (ev_move rfl) ?_
    (first | refine GO_q rfl rfl (ev_lssN (q := 0) rfl rfl) ?_ | refine GO_q rfl rfl (ev_lss rfl rfl) ?_)
    refine GO_nil ?_
    (repeat first | refine G_seq ?_ | refine G_skip ?_ | refine G_endblk ?_ | refine G_block ?_ | refine G_exit rfl ?_)
    refine G_cond_t rfl (decide_eq_true h1) ?_
    (repeat first | refine G_seq ?_ | refine G_skip ?_ | refine G_endblk ?_ | refine G_block ?_ | refine G_exit rfl ?_)
    refine G_region ?_
    refine GO_q rfl rfl (ev_assign rfl) ?_
    refine GO_nil ?_
    (repeat first | refine G_seq ?_ | refine G_skip ?_ | refine G_endblk ?_ | refine G_block ?_ | refine G_exit rfl ?_)
    refine G_ret rfl (.tmp rfl .nil) (by (repeat first | exact fun _ s => s | apply en_keep | apply en_drop | apply en_app) <;> fail) ⟨rfl, rfl⟩
  · by_cases h2 : (left : Int) < n
    · have e : min n.toNat left = left := by omega
      rw [e]
      refine Ctr_of (fn := Tryz.f44) (n := 12) Tryz.func44 rfl rfl rfl ?_
      intro g F
      (repeat first | refine G_seq ?_ | refine G_skip ?_ | refine G_endblk ?_ | refine G_block ?_ | refine G_exit rfl ?_)
      refine G_region ?_
      refine GO_q rfl rfl (ev_assign rfl) ?_
      refine GO_nil ?_
      (repeat first | refine G_seq ?_ | refine G_skip ?_ | refine G_endblk ?_ | refine G_block ?_ | refine G_exit rfl ?_)
      refine G_region ?_
      refine GO_q rfl rfl (ev_move rfl) ?_
      (first | refine GO_q rfl rfl (ev_lssN (q := 0) rfl rfl) ?_ | refine GO_q rfl rfl (ev_lss rfl rfl) ?_)
      refine GO_nil ?_
      (repeat first | refine G_seq ?_ | refine G_skip ?_ | refine G_endblk ?_ | refine G_block ?_ | refine G_exit rfl ?_)
      refine G_cond_f rfl (decide_eq_false h1) ?_
      (repeat first | refine G_seq ?_ | refine G_skip ?_ | refine G_endblk ?_ | refine G_block ?_ | refine G_exit rfl ?_)
      (repeat first | refine G_seq ?_ | refine G_skip ?_ | refine G_endblk ?_ | refine G_block ?_ | refine G_exit rfl ?_)
      refine G_region ?_
      refine GO_q rfl rfl (ev_move rfl) ?_
      refine GO_q rfl rfl (ev_move rfl) ?_
      refine GO_q rfl rfl (ev_gtr rfl rfl) ?_
      refine GO_nil ?_
      (repeat first | refine G_seq ?_ | refine G_skip ?_ | refine G_endblk ?_ | refine G_block ?_ | refine G_exit rfl ?_)
      refine G_cond_t rfl (decide_eq_true (by omega)) ?_
      (repeat first | refine G_seq ?_ | refine G_skip ?_ | refine G_endblk ?_ | refine G_block ?_ | refine G_exit rfl ?_)
      refine G_region ?_
      refine GO_q rfl rfl (ev_move rfl) ?_
      refine GO_q rfl rfl (ev_assign rfl) ?_
      refine GO_nil ?_
      (repeat first | refine G_seq ?_ | refine G_skip ?_ | refine G_endblk ?_ | refine G_block ?_ | refine G_exit rfl ?_)
      refine G_ret rfl (.tmp rfl .nil) (by (repeat first | exact fun _ s => s | apply en_keep | apply en_drop | apply en_app) <;> fail) ⟨rfl, rfl⟩
    · have e : ((min n.toNat left : Nat) : Int) = n := by omega
      rw [e]
      refine Ctr_of (fn := Tryz.f44) (n := 12) Tryz.func44 rfl rfl rfl ?_
      intro g F
      (repeat first | refine G_seq ?_ | refine G_skip ?_ | refine G_endblk ?_ | refine G_block ?_ | refine G_exit rfl ?_)
      refine G_region ?_
      refine GO_q rfl rfl (ev_assign rfl) ?_
      refine GO_nil ?_
      (repeat first | refine G_seq ?_ | refine G_skip ?_ | refine G_endblk ?_ | refine G_block ?_ | refine G_exit rfl ?_)
      refine G_region ?_
      refine GO_q rfl rfl (ev_move rfl) ?_
      (first | refine GO_q rfl rfl (ev_lssN (q := 0) rfl rfl) ?_ | refine GO_q rfl rfl (ev_lss rfl rfl) ?_)
      refine GO_nil ?_
      (repeat first | refine G_seq ?_ | refine G_skip ?_ | refine G_endblk ?_ | refine G_block ?_ | refine G_exit rfl ?_)
      refine G_cond_f rfl (decide_eq_false h1) ?_
      (repeat first | refine G_seq ?_ | refine G_skip ?_ | refine G_endblk ?_ | refine G_block ?_ | refine G_exit rfl ?_)
      (repeat first | refine G_seq ?_ | refine G_skip ?_ | refine G_endblk ?_ | refine G_block ?_ | refine G_exit rfl ?_)
      refine G_region ?_
      refine GO_q rfl rfl (ev_move rfl) ?_
      refine GO_q rfl rfl (ev_move rfl) ?_
      refine GO_q rfl rfl (ev_gtr rfl rfl) ?_
      refine GO_nil ?_
      (repeat first | refine G_seq ?_ | refine G_skip ?_ | refine G_endblk ?_ | refine G_block ?_ | refine G_exit rfl ?_)
      refine G_cond_f rfl (decide_eq_false (by omega)) ?_
      (repeat first | refine G_seq ?_ | refine G_skip ?_ | refine G_endblk ?_ | refine G_block ?_ | refine G_exit rfl ?_)
      (repeat first | refine G_seq ?_ | refine G_skip ?_ | refine G_endblk ?_ | refine G_block ?_ | refine G_exit rfl ?_)
      refine G_region ?_
      refine GO_q rfl rfl (ev_move rfl) ?_
      refine GO_q rfl rfl (ev_assign rfl) ?_
      refine GO_nil ?_
      (repeat first | refine G_seq ?_ | refine G_skip ?_ | refine G_endblk ?_ | refine G_block ?_ | refine G_exit rfl ?_)
      refine G_ret rfl (.tmp rfl .nil) (by (repeat first | exact fun _ s => s | apply en_keep | apply en_drop | apply en_app) <;> fail) ⟨rfl, rfl⟩
theorem en_comp {A B C : List HP} (f : ∀ h, sat A h → sat B h) (g : ∀ h, sat B h → sat C h) : ∀ h, sat A h → sat C h := fun h s => g h (f h s)
theorem lk_nil (u v : Int) : IT.nil.lk u v = 0 := by unfold IT.lk; split <;> rfl
theorem all_ctr (u v : Int) : ∀ (N : Nat) (T : IT) (deep : Nat) (L : List HP) (_ : T.depth ≤ N) (_ : IIn L T) (_ : T.ok) (_ : T.spans.length ≤ 1000) (_ : deep + T.depth ≤ 81),
    Ctr Tryz.prog 43 #[.pointer T.addr, .int .i64 u, .int .i64 v, .int .i64 (deep : Nat)] L fun r L' => r = .int .i64 (T.lk u v : Nat) ∧ L' = L
  | _, .nil, deep, L, _, _, _, _, _ => by
    rw [lk_nil]
    refine Ctr_of (fn := Tryz.f43) (n := 44) Tryz.func43 rfl rfl rfl ?_
    intro g F
    (repeat first | refine G_seq ?_ | refine G_skip ?_ | refine G_endblk ?_ | refine G_block ?_ | refine G_exit rfl ?_)
    refine G_region ?_
    refine GO_q rfl rfl (ev_assign rfl) ?_
    refine GO_nil ?_
    (repeat first | refine G_seq ?_ | refine G_skip ?_ | refine G_endblk ?_ | refine G_block ?_ | refine G_exit rfl ?_)
    refine G_region ?_
    refine GO_q rfl rfl (ev_move rfl) ?_
    (first | refine GO_q rfl rfl (ev_eqlNil rfl rfl) ?_ | refine GO_q rfl rfl (ev_eqlPtr rfl rfl) ?_)
    refine GO_q rfl rfl (ev_move rfl) ?_
    refine GO_no rfl rfl rfl rfl ?_
    refine GO_no rfl rfl rfl rfl ?_
    refine GO_q rfl rfl (ev_pick_t rfl rfl rfl) ?_
    refine GO_nil ?_
    (repeat first | refine G_seq ?_ | refine G_skip ?_ | refine G_endblk ?_ | refine G_block ?_ | refine G_exit rfl ?_)
    refine G_cond_t rfl rfl ?_
    (repeat first | refine G_seq ?_ | refine G_skip ?_ | refine G_endblk ?_ | refine G_block ?_ | refine G_exit rfl ?_)
    refine G_region ?_
    refine GO_q rfl rfl (ev_assign rfl) ?_
    refine GO_nil ?_
    (repeat first | refine G_seq ?_ | refine G_skip ?_ | refine G_endblk ?_ | refine G_block ?_ | refine G_exit rfl ?_)
    refine G_ret rfl (.tmp rfl .nil) (by (repeat first | exact fun _ s => s | apply en_keep | apply en_drop | apply en_app) <;> fail) ⟨rfl, rfl⟩
  | 0, .node b mid A c p C d q m lo hi, deep, L, hN, _, _, _, _ => by simp only [IT.depth] at hN; omega
  | N + 1, .node b mid A c p C d q m lo hi, deep, L, hN, h, ho, hn, hd => by
    have ih := all_ctr u v N
    have hs : (IT.node b mid A c p C d q m lo hi).addr.isSome = true := rfl
    have hdp := IT.depth_pos hs
    have hTa : (IT.node b mid A c p C d q m lo hi).addr = some ⟨b, 0, none⟩ := rfl
    generalize IT.node b mid A c p C d q m lo hi = T at *
    have hkid := ho.kid (u := u) (v := v)
    have hok := ho.nxt (u := u) (v := v)
    have hin := h.nxt (u := u) (v := v)
    obtain ⟨w1, w2, w3⟩ := T.nxt'_wt u v
    have hsp := fun x (hx : x ∈ T.nxt' u v) => IT.nxt_sp hx
    rw [IT.lk_eq hs]
    have hlook := fun M h9 => Look_ctr' T u v M h9 ho (by omega)
    generalize T.nxt' u v = xs at *
    generalize T.ids' u v = ids at *
    rw [hTa] at hlook ⊢
    refine Ctr_of (fn := Tryz.f43) (n := 44) Tryz.func43 rfl rfl rfl ?_
    intro g F
    (repeat first | refine G_seq ?_ | refine G_skip ?_ | refine G_endblk ?_ | refine G_block ?_ | refine G_exit rfl ?_)
    refine G_region ?_
    refine GO_q rfl rfl (ev_assign rfl) ?_
    refine GO_nil ?_
    (repeat first | refine G_seq ?_ | refine G_skip ?_ | refine G_endblk ?_ | refine G_block ?_ | refine G_exit rfl ?_)
    refine G_region ?_
    refine GO_q rfl rfl (ev_move rfl) ?_
    (first | refine GO_q rfl rfl (ev_eqlNil rfl rfl) ?_ | refine GO_q rfl rfl (ev_eqlPtr rfl rfl) ?_)
    refine GO_q rfl rfl (ev_move rfl) ?_
    refine GO_yes rfl rfl rfl rfl ?_
    refine GO_q rfl rfl (ev_move rfl) ?_
    refine GO_yes rfl rfl rfl rfl ?_
    refine GO_q rfl rfl (ev_gtr rfl rfl) ?_
    refine GO_q rfl rfl (ev_pick_f rfl rfl rfl) ?_
    refine GO_nil ?_
    (repeat first | refine G_seq ?_ | refine G_skip ?_ | refine G_endblk ?_ | refine G_block ?_ | refine G_exit rfl ?_)
    refine G_cond_f rfl (decide_eq_false (by omega)) ?_
    (repeat first | refine G_seq ?_ | refine G_skip ?_ | refine G_endblk ?_ | refine G_block ?_ | refine G_exit rfl ?_)
    refine G_region ?_
    refine GO_q rfl rfl (ev_move rfl) ?_
    refine GO_q rfl rfl (ev_move rfl) ?_
    refine GO_q rfl rfl (ev_move rfl) ?_
    refine GO_eff rfl rfl (eff_call rfl (hlook _ h.skip)) ?_; rintro _ _ ⟨A1, c1, A2, c2, rfl, ⟨hA1, hA2⟩, rfl⟩
    refine GO_q rfl rfl (ev_move rfl) ?_
    refine GO_q rfl rfl (ev_extract rfl rfl) ?_
    refine GO_q rfl rfl (ev_extract rfl rfl) ?_
    refine GO_q rfl rfl (ev_assign rfl) ?_
    refine GO_q rfl rfl (ev_assign rfl) ?_
    refine GO_nil ?_
    (repeat first | refine G_seq ?_ | refine G_skip ?_ | refine G_endblk ?_ | refine G_block ?_ | refine G_exit rfl ?_)
    refine G_region ?_
    refine GO_q rfl rfl (ev_assign rfl) ?_
    refine GO_nil ?_
    (repeat first | refine G_seq ?_ | refine G_skip ?_ | refine G_endblk ?_ | refine G_block ?_ | refine G_exit rfl ?_)
    refine G_region ?_
    refine GO_q rfl rfl (ev_assign rfl) ?_
    refine GO_nil ?_
    (repeat first | refine G_seq ?_ | refine G_skip ?_ | refine G_endblk ?_ | refine G_block ?_ | refine G_exit rfl ?_)
    have hnx : ∀ L', Rd (own 52 1 A2 xs.length c2 (flat xs) :: L') A2 xs.length xs := fun L' => Rc.own (flat_length _) hA2
    refine G_loop (ι := Nat) (fun i => [(1, .int .i64 u), (2, .int .i64 v), (3, .int .i64 (deep : Nat)), (10, .slice A2 xs.length c2), (11, .int .i64 ((1 + lkL u v (xs.take i) : Nat) : Int)), (12, .int .i64 (i : Nat))]) (fun _ => own 52 1 A2 xs.length c2 (flat xs) :: F :: L) (fun i => i ≤ xs.length) (fun i => xs.length - i) 0 (Nat.zero_le _) ⟨rfl, rfl, rfl, rfl, rfl, rfl, trivial⟩ (by (repeat first | exact en_refl | (apply en_blk; focus ((repeat' first | exact Pick.here | apply Pick.skip | apply Pick.app); done); focus rfl) | (apply en_own; focus ((repeat' first | exact Pick.here | apply Pick.skip | apply Pick.app); done); focus rfl) | (apply en_pick; focus ((repeat' first | exact Pick.here | apply Pick.skip | apply Pick.app); done)) | apply en_drop | apply en_app) <;> fail) ?_
    intro i hi
    (repeat first | refine G_seq ?_ | refine G_skip ?_ | refine G_endblk ?_ | refine G_block ?_ | refine G_exit rfl ?_)
    refine G_region ?_
    refine GO_q rfl rfl (ev_move rfl) ?_
    refine GO_q rfl rfl (ev_move rfl) ?_
    refine GO_q rfl rfl (ev_len rfl) ?_
    (first | refine GO_q rfl rfl (ev_lssN rfl rfl) ?_ | refine GO_q rfl rfl (ev_lss rfl rfl) ?_)
    refine GO_nil ?_
    (repeat first | refine G_seq ?_ | refine G_skip ?_ | refine G_endblk ?_ | refine G_block ?_ | refine G_exit rfl ?_)
    refine G_cond rfl (fun g0 => ?_) (fun g0 => ?_)
    · obtain ⟨lb, lo, rfl, hx2⟩ := (hnx (F :: L)).at_ (by omega)
      have g1 : xs[i]? = some xs[i] := List.getElem?_eq_getElem (by omega)
      have y1 := (hx2 _ _ g1).at_ (i := 0) rfl
      have hlk : lkL u v (xs.take (i + 1)) = lkL u v (xs.take i) + xs[i].lk u v := by
        rw [List.take_succ_eq_append_getElem (by omega), lkL_append]; simp [lkL]
      have hmem : xs[i] ∈ xs := List.getElem_mem _
      obtain ⟨kd1, kd2, kd3⟩ := hkid _ hmem
      have hi1 := hin _ hmem
      have hi2 := hok _ hmem
      have hi3 := hsp _ hmem
      have hll : lkL u v (xs.take i) ≤ 2 * spL (xs.take i) + (xs.take i).length := lkL_le fun y hy => hok y (List.mem_of_mem_take hy)
      have hsl : spL (xs.take i) + xs[i].spans.length ≤ spL xs := by
        conv => rhs; rw [← List.take_append_drop (i + 1) xs]
        rw [spL_append, List.take_succ_eq_append_getElem (by omega), spL_append]
        simp [spL]
      have htl : (xs.take i).length ≤ 2 := by rw [List.length_take]; omega
      have hxk := hi2.lk_le (u := u) (v := v)
      have b1 : xs[i].depth ≤ N := by omega
      have b3 : deep + 1 + xs[i].depth ≤ 81 := by omega
      have hrec := fun M => ih xs[i] (deep + 1) M b1
      generalize xs[i] = x at *
      have z1 : Ld (own 52 1 (some ⟨lb, lo, none⟩) xs.length c2 (flat xs) :: F :: L) ⟨lb, lo + i * 1, none⟩ (.pointer x.addr) := y1
      generalize x.lk u v = kx at *
      generalize lkL u v (xs.take i) = al at *
      (repeat first | refine G_seq ?_ | refine G_skip ?_ | refine G_endblk ?_ | refine G_block ?_ | refine G_exit rfl ?_)
      refine G_region ?_
      refine GO_q rfl rfl (ev_move rfl) ?_
      refine GO_q rfl rfl (ev_move rfl) ?_
      refine GO_q rfl rfl (ev_move rfl) ?_
      (first | refine GO_q rfl rfl (ev_indexAddrN rfl rfl (by first | omega | (simp; done) | (simp; omega))) ?_ | refine GO_q rfl rfl (ev_indexAddr rfl rfl (by first | omega | (simp; done) | (simp; omega)) (by first | omega | (simp; done) | (simp; omega))) ?_)
      refine GO_q rfl rfl (ev_load rfl (by repeat' first | exact Ld.blk rfl | assumption | apply Ld.skip | apply Ld.app)) ?_
      refine GO_q rfl rfl (ev_move rfl) ?_
      refine GO_q rfl rfl (ev_move rfl) ?_
      refine GO_q rfl rfl (ev_move rfl) ?_
      (first | refine GO_q rfl rfl (ev_addN (q := 1) rfl rfl (by first | omega | (simp; done) | (simp; omega))) ?_ | refine GO_q rfl rfl (ev_add rfl rfl (by first | omega | (simp; done) | (simp; omega))) ?_)
      refine GO_eff rfl rfl (eff_call rfl (hrec _ hi1.skip.skip hi2 (by omega) b3)) ?_; rintro _ _ ⟨rfl, rfl⟩
      (first | refine GO_q rfl rfl (ev_addN rfl rfl (by first | omega | (simp; done) | (simp; omega))) ?_ | refine GO_q rfl rfl (ev_add rfl rfl (by first | omega | (simp; done) | (simp; omega))) ?_)
      refine GO_q rfl rfl (ev_assign rfl) ?_
      refine GO_nil ?_
      (repeat first | refine G_seq ?_ | refine G_skip ?_ | refine G_endblk ?_ | refine G_block ?_ | refine G_exit rfl ?_)
      refine G_region ?_
      refine GO_q rfl rfl (ev_move rfl) ?_
      (first | refine GO_q rfl rfl (ev_addN (q := 1) rfl rfl (by first | omega | (simp; done) | (simp; omega))) ?_ | refine GO_q rfl rfl (ev_add rfl rfl (by first | omega | (simp; done) | (simp; omega))) ?_)
      refine GO_q rfl rfl (ev_assign rfl) ?_
      refine GO_nil ?_
      (repeat first | refine G_seq ?_ | refine G_skip ?_ | refine G_endblk ?_ | refine G_block ?_ | refine G_exit rfl ?_)
      exact G_round (i + 1) (by omega) (by omega) ⟨rfl, rfl, rfl, rfl, by rw [hlk, ← Nat.add_assoc]; rfl, rfl, trivial⟩ (by (repeat first | exact en_refl | (apply en_blk; focus ((repeat' first | exact Pick.here | apply Pick.skip | apply Pick.app); done); focus rfl) | (apply en_own; focus ((repeat' first | exact Pick.here | apply Pick.skip | apply Pick.app); done); focus rfl) | (apply en_pick; focus ((repeat' first | exact Pick.here | apply Pick.skip | apply Pick.app); done)) | apply en_drop | apply en_app) <;> fail)
    · have ek : xs.take i = xs := List.take_of_length_le (by omega)
      rw [ek]
      (repeat first | refine G_seq ?_ | refine G_skip ?_ | refine G_endblk ?_ | refine G_block ?_ | refine G_exit rfl ?_)
      refine G_region ?_
      refine GO_q rfl rfl (ev_move rfl) ?_
      refine GO_q rfl rfl (ev_assign rfl) ?_
      refine GO_nil ?_
      (repeat first | refine G_seq ?_ | refine G_skip ?_ | refine G_endblk ?_ | refine G_block ?_ | refine G_exit rfl ?_)
      refine G_ret rfl (.tmp rfl .nil) (by (repeat first | exact fun _ s => s | apply en_keep | apply en_drop | apply en_app) <;> fail) ⟨rfl, rfl⟩
theorem lives21_ctr (L : List HP) : Ctr Tryz.prog 42 #[] L fun v L' => v = .bool true ∧ ∃ X, L' = X ++ L := by
  have c1 := fun t L => IInsert_ctr t 3 [] ⟨1, 0, 5⟩ L (by decide)
  have c2 := fun t L => IInsert_ctr t 3 [⟨1, 0, 5⟩] ⟨2, 4, 9⟩ L (by decide)
  rw [lm0, lk0] at c1
  rw [lm1, lk1] at c2
  refine Ctr_of (fn := Tryz.f42) (n := 43) Tryz.func42 rfl rfl rfl ?_
  intro g F
  (repeat first | refine G_seq ?_ | refine G_skip ?_ | refine G_endblk ?_ | refine G_block ?_ | refine G_exit rfl ?_)
  refine G_region ?_
  refine GO_q rfl rfl (ev_assign rfl) ?_
  refine GO_nil ?_
  (repeat first | refine G_seq ?_ | refine G_skip ?_ | refine G_endblk ?_ | refine G_block ?_ | refine G_exit rfl ?_)
  refine G_region ?_
  refine GO_eff rfl rfl (eff_call rfl (iNew_ctr 3 _ (by decide) (by decide))) ?_; rintro _ _ ⟨t, rfl, rfl⟩
  refine GO_q rfl rfl (ev_move rfl) ?_
  refine GO_q rfl rfl (ev_extract rfl rfl) ?_
  refine GO_q rfl rfl (ev_extract rfl rfl) ?_
  refine GO_q rfl rfl (ev_assign rfl) ?_
  refine GO_q rfl rfl (ev_assign rfl) ?_
  refine GO_nil ?_
  (repeat first | refine G_seq ?_ | refine G_skip ?_ | refine G_endblk ?_ | refine G_block ?_ | refine G_exit rfl ?_)
  refine G_region ?_
  refine GO_q rfl rfl (ev_move rfl) ?_
  refine GO_q rfl rfl (ev_build rfl rfl) ?_
  refine GO_eff rfl rfl (eff_call rfl (Ctr.pick (by repeat' first | exact Pick.here | apply Pick.skip | apply Pick.app) (c1 t _))) ?_; rintro _ _ ⟨rfl, rfl⟩
  refine GO_q rfl rfl (ev_assign rfl) ?_
  refine GO_nil ?_
  (repeat first | refine G_seq ?_ | refine G_skip ?_ | refine G_endblk ?_ | refine G_block ?_ | refine G_exit rfl ?_)
  refine G_region ?_
  refine GO_q rfl rfl (ev_move rfl) ?_
  refine GO_q rfl rfl (ev_build rfl rfl) ?_
  refine GO_eff rfl rfl (eff_call rfl (Ctr.pick (by repeat' first | exact Pick.here | apply Pick.skip | apply Pick.app) (c2 t _))) ?_; rintro _ _ ⟨rfl, rfl⟩
  refine GO_q rfl rfl (ev_assign rfl) ?_
  refine GO_nil ?_
  refine G_open (ι := IT) (N := treeZ t 3) (F := treeO [⟨1, 0, 5⟩, ⟨2, 4, 9⟩]) (fun _ h => h) fun T oT => ?_
  obtain ⟨o1, o2, o3⟩ := oT
  refine G_heap (L' := blk t 75 [.pointer T.addr, .int .i64 3] :: itH T :: F :: L) (by show ∀ h, sat (blk t 75 [.pointer T.addr, .int .i64 3] :: itH T :: _) h → _; exact (by (repeat first | exact en_refl | (apply en_blk; focus ((repeat' first | exact Pick.here | apply Pick.skip | apply Pick.app); done); focus rfl) | (apply en_own; focus ((repeat' first | exact Pick.here | apply Pick.skip | apply Pick.app); done); focus rfl) | (apply en_pick; focus ((repeat' first | exact Pick.here | apply Pick.skip | apply Pick.app); done)) | apply en_drop | apply en_app) <;> fail)) ?_
  have hT : ∀ M, TI (blk t 75 [.pointer T.addr, .int .i64 3] :: itH T :: M) t T 3 := fun M => ⟨Ld.blk rfl, Ld.blk rfl, (itH_in T M o2).skip⟩
  have hkl : T.spans.length = 2 := o3.length_eq
  have hsz := o1.size
  have hdp := o1.depth
  have hlk := lk_one 4 T
  have e1 := over_fnd (u := 4) (v := 4) o1 o3
  have w1 : (T.fnd' 4 4).length = 2 := by rw [← srt_length, e1, lo0]; rfl
  have cS := fun L h => icStab_ctr t T 3 4 L h o1 (by omega)
  generalize T.fnd' 4 4 = tot at *
  generalize T.lk 4 4 = r at *
  have hm : min (Int.toNat 9) r = r := by have : Int.toNat 9 = 9 := rfl; omega
  have cP := fun b L0 L hM => icStep_ctr b r 0 4 4 tot L0 L 9 hM (by omega) (by decide)
  rw [hm, Nat.sub_self] at cP
  (repeat first | refine G_seq ?_ | refine G_skip ?_ | refine G_endblk ?_ | refine G_block ?_ | refine G_exit rfl ?_)
  refine G_region ?_
  refine GO_q rfl rfl (ev_move rfl) ?_
  refine GO_eff rfl rfl (eff_call rfl (cS _ (hT _))) ?_; rintro _ _ ⟨cc, L1, rfl, hM1, rfl⟩
  refine GO_q rfl rfl (ev_assign rfl) ?_
  refine GO_nil ?_
  (repeat first | refine G_seq ?_ | refine G_skip ?_ | refine G_endblk ?_ | refine G_block ?_ | refine G_exit rfl ?_)
  refine G_region ?_
  refine GO_q rfl rfl (ev_move rfl) ?_
  refine GO_eff rfl rfl (eff_call rfl (Ctr.pick (by repeat' first | exact Pick.here | apply Pick.skip | apply Pick.app) (cP cc L1 _ (en_comp (by (repeat first | exact en_refl | (apply en_blk; focus ((repeat' first | exact Pick.here | apply Pick.skip | apply Pick.app); done); focus rfl) | (apply en_own; focus ((repeat' first | exact Pick.here | apply Pick.skip | apply Pick.app); done); focus rfl) | (apply en_pick; focus ((repeat' first | exact Pick.here | apply Pick.skip | apply Pick.app); done)) | apply en_drop | apply en_app) <;> fail) hM1)))) ?_; rintro _ _ ⟨rfl, rfl⟩
  refine GO_q rfl rfl (ev_move rfl) ?_
  refine GO_q rfl rfl (ev_extract rfl rfl) ?_
  refine GO_q rfl rfl (ev_extract rfl rfl) ?_
  refine GO_q rfl rfl (ev_assign rfl) ?_
  refine GO_q rfl rfl (ev_assign rfl) ?_
  refine GO_nil ?_
  have cN := fun L => icN_ctr cc (0 + r) 4 4 tot L1 L
  rw [w1] at cN
  (repeat first | refine G_seq ?_ | refine G_skip ?_ | refine G_endblk ?_ | refine G_block ?_ | refine G_exit rfl ?_)
  refine G_region ?_
  refine GO_q rfl rfl (ev_move rfl) ?_
  refine GO_q rfl rfl (ev_eql rfl rfl) ?_
  refine GO_q rfl rfl (ev_move rfl) ?_
  refine GO_yes rfl rfl rfl rfl ?_
  refine GO_q rfl rfl (ev_move rfl) ?_
  refine GO_yes rfl rfl rfl rfl ?_
  refine GO_q rfl rfl (ev_eql rfl rfl) ?_
  refine GO_q rfl rfl (ev_pick_t rfl rfl rfl) ?_
  refine GO_q rfl rfl (ev_move rfl) ?_
  refine GO_yes rfl rfl rfl rfl ?_
  refine GO_q rfl rfl (ev_move rfl) ?_
  refine GO_yes rfl rfl rfl rfl ?_
  refine GO_q rfl rfl (ev_eql rfl rfl) ?_
  refine GO_q rfl rfl (ev_pick_t rfl rfl rfl) ?_
  refine GO_q rfl rfl (ev_move rfl) ?_
  refine GO_yes rfl rfl rfl rfl ?_
  refine GO_q rfl rfl (ev_move rfl) ?_
  refine GO_q rfl rfl (ev_pick_t rfl rfl rfl) ?_
  refine GO_q rfl rfl (ev_move rfl) ?_
  refine GO_yes rfl rfl rfl rfl ?_
  refine GO_q rfl rfl (ev_move rfl) ?_
  refine GO_yes rfl rfl rfl rfl ?_
  refine GO_eff rfl rfl (eff_call rfl (Ctr.pick (by repeat' first | exact Pick.here | apply Pick.skip | apply Pick.app) (cN _))) ?_; rintro _ _ ⟨rfl, rfl⟩
  refine GO_yes rfl rfl rfl rfl ?_
  refine GO_q rfl rfl (ev_eql rfl rfl) ?_
  refine GO_q rfl rfl (ev_pick_t rfl rfl rfl) ?_
  refine GO_q rfl rfl (ev_assign rfl) ?_
  refine GO_nil ?_
  (repeat first | refine G_seq ?_ | refine G_skip ?_ | refine G_endblk ?_ | refine G_block ?_ | refine G_exit rfl ?_)
  exact G_ret (L' := [] ++ L) rfl (.tmp rfl .nil) (by (repeat first | exact fun _ s => s | apply en_keep | apply en_drop | apply en_app) <;> fail) ⟨rfl, [], rfl⟩
end Go.Proofs.YtjnmpogolknkpaaGreat
/- The law ItcurFinds. -/
namespace Go.Proofs.YtjnmpogolknkpaaGreat
attribute [local irreducible] sat
open Go.RowKit
set_option linter.unusedVariables false
set_option linter.unusedSimpArgs false
set_option maxRecDepth 100000

theorem ItcurFinds_ctr (A : Option Addr) (n c : Nat) (acts : List Ac) (u v : Int) (S : Option Addr) (m e : Nat) (st : List Int) (L : List HP) (hl : Rd L A n acts) (hn : n ≤ 9223372036854775807) (ha : ∀ a ∈ acts, a.at_ ≤ 9223372036854775807) (hst : Rd L S m st) (hm : m ≤ 9223372036854775807) :
    Ctr Tryz.prog 9 #[.slice A n c, .agg #[.int .i64 u, .int .i64 v], .slice S m e] L fun r L' => r = .bool true ∧ L' = L := by
  have hml : st.length = m := hst.len (by decide)
  refine Ctr_of (fn := Tryz.f9) (n := 127) Tryz.func9 rfl rfl rfl ?_
  intro g F
  (repeat first | refine G_seq ?_ | refine G_skip ?_ | refine G_endblk ?_ | refine G_block ?_ | refine G_exit rfl ?_)
  refine G_region ?_
  refine GO_eff rfl rfl (eff_box rfl) ?_; rintro _ _ ⟨b4, rfl, rfl⟩
  refine GO_q rfl rfl (ev_assign rfl) ?_
  refine GO_nil ?_
  (repeat first | refine G_seq ?_ | refine G_skip ?_ | refine G_endblk ?_ | refine G_block ?_ | refine G_exit rfl ?_)
  refine G_region ?_
  refine GO_q rfl rfl (ev_move rfl) ?_
  refine GO_eff rfl rfl (eff_call rfl (iMade_ctr A n c acts _ hl.skip.skip hn ha)) ?_; rintro _ _ ⟨t, b, k, rfl, hk, rfl⟩
  refine GO_q rfl rfl (ev_move rfl) ?_
  refine GO_q rfl rfl (ev_extract rfl rfl) ?_
  refine GO_q rfl rfl (ev_extract rfl rfl) ?_
  refine GO_q rfl rfl (ev_extract rfl rfl) ?_
  refine GO_q rfl rfl (ev_assign rfl) ?_
  refine GO_q rfl rfl (ev_assign rfl) ?_
  refine GO_q rfl rfl (ev_assign rfl) ?_
  refine GO_nil ?_
  refine G_open (ι := IT) (N := treeZ t 60) (F := treeO k) (fun _ h => h) fun T oT => ?_
  obtain ⟨o1, o2, o3⟩ := oT
  refine G_heap (L' := blk t 75 [.pointer T.addr, .int .i64 60] :: itH T :: setI b 60 k :: blk b4 25 [.int .i64 u, .int .i64 v] :: F :: L) (by show ∀ h, sat (blk t 75 [.pointer T.addr, .int .i64 60] :: itH T :: _) h → _; exact (by (repeat first | exact en_refl | (apply en_blk; focus ((repeat' first | exact Pick.here | apply Pick.skip | apply Pick.app); done); focus rfl) | (apply en_own; focus ((repeat' first | exact Pick.here | apply Pick.skip | apply Pick.app); done); focus rfl) | (apply en_pick; focus ((repeat' first | exact Pick.here | apply Pick.skip | apply Pick.app); done)) | apply en_drop | apply en_app) <;> fail)) ?_
  have hT : ∀ M, TI (blk t 75 [.pointer T.addr, .int .i64 60] :: itH T :: M) t T 60 := fun M => ⟨Ld.blk rfl, Ld.blk rfl, (itH_in T M o2).skip⟩
  have hkl := o3.length_eq
  have hsz := o1.size
  have hdp := o1.depth
  have e1 := over_fnd (u := u) (v := v) o1 o3
  have w1 : (T.fnd' u v).length = (overK k u v).length := by rw [← e1, srt_length]
  have l3 := overK_length k u v
  have hlk := o1.lk_le (u := u) (v := v)
  have cS := fun L h => icOverlap_ctr t T 60 u v L h o1 (by omega)
  have cRt := fun M h => iRoot_ctr (t := t) (T := T) (most := 60) (L := M) h
  have cA := fun L h => all_ctr u v T.depth T 1 L (Nat.le_refl _) h o1 (by omega) (by omega)
  have cO := fun L => QOverlap_ctr b 60 k L u v (by omega)
  generalize T.fnd' u v = tot at *
  generalize T.lk u v = r at *
  (repeat first | refine G_seq ?_ | refine G_skip ?_ | refine G_endblk ?_ | refine G_block ?_ | refine G_exit rfl ?_)
  refine G_region ?_
  refine GO_q rfl rfl (ev_move rfl) ?_
  refine GO_q rfl rfl (ev_not rfl) ?_
  refine GO_nil ?_
  (repeat first | refine G_seq ?_ | refine G_skip ?_ | refine G_endblk ?_ | refine G_block ?_ | refine G_exit rfl ?_)
  refine G_cond_f rfl rfl ?_
  (repeat first | refine G_seq ?_ | refine G_skip ?_ | refine G_endblk ?_ | refine G_block ?_ | refine G_exit rfl ?_)
  (repeat first | refine G_seq ?_ | refine G_skip ?_ | refine G_endblk ?_ | refine G_block ?_ | refine G_exit rfl ?_)
  refine G_region ?_
  refine GO_q rfl rfl (ev_move rfl) ?_
  refine GO_q rfl rfl (ev_indexAddrA rfl rfl (by first | omega | (simp; done) | (simp; omega)) (by first | omega | (simp; done) | (simp; omega))) ?_
  refine GO_q rfl rfl (ev_load rfl (by repeat' first | exact Ld.blk rfl | assumption | apply Ld.skip | apply Ld.app)) ?_
  refine GO_q rfl rfl (ev_indexAddrA rfl rfl (by first | omega | (simp; done) | (simp; omega)) (by first | omega | (simp; done) | (simp; omega))) ?_
  refine GO_q rfl rfl (ev_load rfl (by repeat' first | exact Ld.blk rfl | assumption | apply Ld.skip | apply Ld.app)) ?_
  refine GO_eff rfl rfl (eff_call rfl (cS _ (hT _))) ?_; rintro _ _ ⟨cc, L1, rfl, hM1, rfl⟩
  refine GO_q rfl rfl (ev_assign rfl) ?_
  refine GO_nil ?_
  (repeat first | refine G_seq ?_ | refine G_skip ?_ | refine G_endblk ?_ | refine G_block ?_ | refine G_exit rfl ?_)
  refine G_draw (.q 0 (.q 2 (.q 3 (.q 4 (.q 5 (.e 1 (.e 6 (.q 7 .nil)))))))) (by kernel_rfl) (by kernel_rfl) ?_
  refine RS_m retB_noPanic rfl rfl rfl rfl (ev_move rfl) ?_
  refine RS_m retB_noPanic rfl rfl rfl rfl (ev_indexAddrA rfl rfl (by first | omega | (simp; done) | (simp; omega)) (by first | omega | (simp; done) | (simp; omega))) ?_
  refine RS_q retB_noPanic rfl rfl rfl rfl (ev_load rfl (by repeat' first | exact Ld.blk rfl | assumption | apply Ld.skip | apply Ld.app)) ?_
  refine RS_m retB_noPanic rfl rfl rfl rfl (ev_indexAddrA rfl rfl (by first | omega | (simp; done) | (simp; omega)) (by first | omega | (simp; done) | (simp; omega))) ?_
  refine RS_q retB_noPanic rfl rfl rfl rfl (ev_load rfl (by repeat' first | exact Ld.blk rfl | assumption | apply Ld.skip | apply Ld.app)) ?_
  refine RS_e (RE_eff rfl rfl rfl (eff_call rfl (cRt _ (by repeat' first | exact hT _ | apply TI.skip))) ?_); rintro _ _ ⟨rfl, rfl⟩; refine ⟨_, fun _ s => s, (by first | ((repeat first | exact fun _ s => s | apply en_keep | apply en_drop | apply en_app) <;> fail) | ((repeat first | exact en_refl | (apply en_blk; focus ((repeat' first | exact Pick.here | apply Pick.skip | apply Pick.app); done); focus rfl) | (apply en_own; focus ((repeat' first | exact Pick.here | apply Pick.skip | apply Pick.app); done); focus rfl) | (apply en_pick; focus ((repeat' first | exact Pick.here | apply Pick.skip | apply Pick.app); done)) | apply en_drop | apply en_app) <;> fail)), ?_⟩
  refine RS_e (RE_eff rfl rfl rfl (eff_call rfl (cA _ (by repeat' first | exact (hT _).i | apply IIn.skip))) ?_); rintro _ _ ⟨rfl, rfl⟩; refine ⟨_, fun _ s => s, (by first | ((repeat first | exact fun _ s => s | apply en_keep | apply en_drop | apply en_app) <;> fail) | ((repeat first | exact en_refl | (apply en_blk; focus ((repeat' first | exact Pick.here | apply Pick.skip | apply Pick.app); done); focus rfl) | (apply en_own; focus ((repeat' first | exact Pick.here | apply Pick.skip | apply Pick.app); done); focus rfl) | (apply en_pick; focus ((repeat' first | exact Pick.here | apply Pick.skip | apply Pick.app); done)) | apply en_drop | apply en_app) <;> fail)), ?_⟩
  refine RS_m retB_noPanic rfl rfl rfl rfl (ev_assign rfl) ?_
  refine RS_nil ?_
  (repeat first | refine G_seq ?_ | refine G_skip ?_ | refine G_endblk ?_ | refine G_block ?_ | refine G_exit rfl ?_)
  refine G_region ?_
  refine GO_q rfl rfl (ev_move rfl) ?_
  refine GO_q rfl rfl (ev_assign rfl) ?_
  refine GO_nil ?_
  (repeat first | refine G_seq ?_ | refine G_skip ?_ | refine G_endblk ?_ | refine G_block ?_ | refine G_exit rfl ?_)
  refine G_region ?_
  refine GO_q rfl rfl (ev_assign rfl) ?_
  refine GO_nil ?_
  (repeat first | refine G_seq ?_ | refine G_skip ?_ | refine G_endblk ?_)
  refine G_cut (ι := Nat) (fun _ => [(4, .pointer (some ⟨b4, 0, none⟩)), (8, .pointer (some ⟨b, 0, none⟩)), (10, .pointer (some ⟨cc, 0, none⟩)), (12, .int .i64 (r : Nat))]) (fun j => icP cc u v tot L1 (r - j) j :: blk t 75 [.pointer T.addr, .int .i64 60] :: itH T :: setI b 60 k :: blk b4 25 [.int .i64 u, .int .i64 v] :: F :: L) (fun j => j ≤ r) ?_ ?_
  · (repeat first | refine G_seq ?_ | refine G_skip ?_ | refine G_endblk ?_ | refine G_block ?_ | refine G_exit rfl ?_)
    refine G_loop (ι := Nat × Nat) (fun z => [(2, .slice S m e), (4, .pointer (some ⟨b4, 0, none⟩)), (8, .pointer (some ⟨b, 0, none⟩)), (10, .pointer (some ⟨cc, 0, none⟩)), (11, .int .i64 ((r - z.2 : Nat) : Int)), (12, .int .i64 (r : Nat)), (13, .int .i64 (z.1 : Nat))]) (fun z => icP cc u v tot L1 (r - z.2) z.2 :: blk t 75 [.pointer T.addr, .int .i64 60] :: itH T :: setI b 60 k :: blk b4 25 [.int .i64 u, .int .i64 v] :: F :: L) (fun z => z.1 ≤ m ∧ z.2 ≤ r) (fun z => m - z.1) (0, 0) ⟨Nat.zero_le _, Nat.zero_le _⟩ ⟨rfl, rfl, rfl, rfl, rfl, rfl, rfl, trivial⟩ (by (repeat first | exact en_refl | (apply en_blk; focus ((repeat' first | exact Pick.here | apply Pick.skip | apply Pick.app); done); focus rfl) | (apply en_own; focus ((repeat' first | exact Pick.here | apply Pick.skip | apply Pick.app); done); focus rfl) | (apply en_pick; focus ((repeat' first | exact Pick.here | apply Pick.skip | apply Pick.app); done)) | apply en_drop | apply en_app) <;> fail) ?_
    rintro ⟨i, j⟩ ⟨f1, f2⟩
    simp only at f1 f2
    dsimp only
    by_cases c1 : i < m
    · by_cases c2 : i < 60
      · obtain ⟨tb, to, rfl, htx⟩ := hst.at_ (by omega)
        have g1 : st[i]? = some st[i] := List.getElem?_eq_getElem (by omega)
        have y1 := (htx _ _ g1).at_ (i := 0) rfl
        generalize st[i] = tk at *
        have y3 : Ld L ⟨tb, to + i * 1, none⟩ (.int .i64 tk) := y1
        have hR := fun L => rSteps_ctr (r - j) tk L
        have hS := fun L h => icStep_ctr cc (r - j) j u v tot L1 L tk h (by omega) (by omega)
        obtain ⟨kk, hkk⟩ : ∃ kk, min tk.toNat (r - j) = kk := ⟨_, rfl⟩
        rw [hkk] at hS hR
        have hkl2 : kk ≤ r - j := by omega
        have q1 : r - j - kk = r - (j + kk) := by omega
        rw [q1] at hS
        (repeat first | refine G_seq ?_ | refine G_skip ?_ | refine G_endblk ?_ | refine G_block ?_ | refine G_exit rfl ?_)
        refine G_region ?_
        refine GO_q rfl rfl (ev_move rfl) ?_
        refine GO_q rfl rfl (ev_move rfl) ?_
        refine GO_q rfl rfl (ev_len rfl) ?_
        (first | refine GO_q rfl rfl (ev_lssN rfl rfl) ?_ | refine GO_q rfl rfl (ev_lss rfl rfl) ?_)
        refine GO_q rfl rfl (ev_move rfl) ?_
        refine GO_yes rfl rfl rfl (decide_eq_true (by omega)) ?_
        refine GO_q rfl rfl (ev_move rfl) ?_
        refine GO_yes rfl rfl rfl (decide_eq_true (by omega)) ?_
        (first | refine GO_q rfl rfl (ev_lssN (q := 60) rfl rfl) ?_ | refine GO_q rfl rfl (ev_lss rfl rfl) ?_)
        refine GO_q rfl rfl (ev_pick_t rfl (decide_eq_true (by omega)) rfl) ?_
        refine GO_nil ?_
        (repeat first | refine G_seq ?_ | refine G_skip ?_ | refine G_endblk ?_ | refine G_block ?_ | refine G_exit rfl ?_)
        refine G_cond_t rfl (decide_eq_true (by omega)) ?_
        (repeat first | refine G_seq ?_ | refine G_skip ?_ | refine G_endblk ?_ | refine G_block ?_ | refine G_exit rfl ?_)
        refine G_region ?_
        refine GO_q rfl rfl (ev_move rfl) ?_
        refine GO_q rfl rfl (ev_move rfl) ?_
        refine GO_q rfl rfl (ev_move rfl) ?_
        (first | refine GO_q rfl rfl (ev_indexAddrN rfl rfl (by first | omega | (simp; done) | (simp; omega))) ?_ | refine GO_q rfl rfl (ev_indexAddr rfl rfl (by first | omega | (simp; done) | (simp; omega)) (by first | omega | (simp; done) | (simp; omega))) ?_)
        refine GO_q rfl rfl (ev_load rfl (by repeat' first | exact Ld.blk rfl | assumption | apply Ld.skip | apply Ld.app)) ?_
        refine GO_eff rfl rfl (eff_call rfl (hR _)) ?_; rintro _ _ ⟨rfl, rfl⟩
        refine GO_q rfl rfl (ev_assign rfl) ?_
        refine GO_nil ?_
        (repeat first | refine G_seq ?_ | refine G_skip ?_ | refine G_endblk ?_ | refine G_block ?_ | refine G_exit rfl ?_)
        refine G_region ?_
        refine GO_q rfl rfl (ev_move rfl) ?_
        refine GO_q rfl rfl (ev_move rfl) ?_
        refine GO_q rfl rfl (ev_move rfl) ?_
        (first | refine GO_q rfl rfl (ev_indexAddrN rfl rfl (by first | omega | (simp; done) | (simp; omega))) ?_ | refine GO_q rfl rfl (ev_indexAddr rfl rfl (by first | omega | (simp; done) | (simp; omega)) (by first | omega | (simp; done) | (simp; omega))) ?_)
        refine GO_q rfl rfl (ev_load rfl (by repeat' first | exact Ld.blk rfl | assumption | apply Ld.skip | apply Ld.app)) ?_
        refine GO_eff rfl rfl (eff_call rfl (Ctr.pick (by repeat' first | exact Pick.here | apply Pick.skip | apply Pick.app) (hS _ (en_comp (by (repeat first | exact en_refl | (apply en_blk; focus ((repeat' first | exact Pick.here | apply Pick.skip | apply Pick.app); done); focus rfl) | (apply en_own; focus ((repeat' first | exact Pick.here | apply Pick.skip | apply Pick.app); done); focus rfl) | (apply en_pick; focus ((repeat' first | exact Pick.here | apply Pick.skip | apply Pick.app); done)) | apply en_drop | apply en_app) <;> fail) hM1)))) ?_; rintro _ _ ⟨rfl, rfl⟩
        refine GO_q rfl rfl (ev_move rfl) ?_
        refine GO_q rfl rfl (ev_extract rfl rfl) ?_
        refine GO_q rfl rfl (ev_extract rfl rfl) ?_
        refine GO_q rfl rfl (ev_assign rfl) ?_
        refine GO_q rfl rfl (ev_assign rfl) ?_
        refine GO_nil ?_
        (repeat first | refine G_seq ?_ | refine G_skip ?_ | refine G_endblk ?_ | refine G_block ?_ | refine G_exit rfl ?_)
        refine G_region ?_
        refine GO_q rfl rfl (ev_move rfl) ?_
        refine GO_q rfl rfl (ev_move rfl) ?_
        refine GO_q rfl rfl (ev_subN rfl rfl (by omega)) ?_
        refine GO_q rfl rfl (ev_assign rfl) ?_
        refine GO_nil ?_
        rw [q1]
        by_cases hz : r - (j + kk) = 0
        · rw [hz]
          (repeat first | refine G_seq ?_ | refine G_skip ?_ | refine G_endblk ?_ | refine G_block ?_ | refine G_exit rfl ?_)
          refine G_region ?_
          refine GO_q rfl rfl (ev_move rfl) ?_
          refine GO_q rfl rfl (ev_move rfl) ?_
          refine GO_q rfl rfl (ev_neq rfl rfl) ?_
          refine GO_q rfl rfl (ev_move rfl) ?_
          refine GO_yes rfl rfl rfl (by simp) ?_
          refine GO_q rfl rfl (ev_move rfl) ?_
          refine GO_yes rfl rfl rfl (by simp) ?_
          refine GO_q rfl rfl (ev_move rfl) ?_
          refine GO_yes rfl rfl rfl (by simp) ?_
          refine GO_q rfl rfl (ev_eql rfl rfl) ?_
          refine GO_yes rfl rfl rfl (by simp) ?_
          refine GO_q rfl rfl (ev_neqB rfl rfl) ?_
          refine GO_q rfl rfl (ev_pick_f rfl (by simp) rfl) ?_
          refine GO_q rfl rfl (ev_move rfl) ?_
          refine GO_yes rfl rfl rfl (by simp) ?_
          refine GO_q rfl rfl (ev_move rfl) ?_
          refine GO_yes rfl rfl rfl (by simp) ?_
          refine GO_eff rfl rfl (eff_call rfl (Ctr.pick (by repeat' first | exact Pick.here | apply Pick.skip | apply Pick.app) (icDone_ctr cc 0 (j + kk) u v tot L1 _))) ?_; rintro _ _ ⟨rfl, rfl⟩
          refine GO_yes rfl rfl rfl (by simp) ?_
          refine GO_q rfl rfl (ev_move rfl) ?_
          refine GO_yes rfl rfl rfl (by simp) ?_
          refine GO_q rfl rfl (ev_neqB rfl rfl) ?_
          refine GO_q rfl rfl (ev_pick_f rfl (by simp) rfl) ?_
          refine GO_q rfl rfl (ev_move rfl) ?_
          refine GO_yes rfl rfl rfl (by simp) ?_
          refine GO_q rfl rfl (ev_move rfl) ?_
          refine GO_yes rfl rfl rfl (by simp) ?_
          refine GO_eff rfl rfl (eff_call rfl (Ctr.pick (by repeat' first | exact Pick.here | apply Pick.skip | apply Pick.app) (icSteps_ctr cc 0 (j + kk) u v tot L1 _))) ?_; rintro _ _ ⟨rfl, rfl⟩
          refine GO_yes rfl rfl rfl (by simp) ?_
          refine GO_q rfl rfl (ev_move rfl) ?_
          refine GO_yes rfl rfl rfl (by simp) ?_
          refine GO_q rfl rfl (ev_move rfl) ?_
          refine GO_yes rfl rfl rfl (by simp) ?_
          (first | refine GO_q rfl rfl (ev_subN rfl rfl (by first | omega | (simp; done) | (simp; omega))) ?_ | refine GO_q rfl rfl (ev_sub rfl rfl (by first | omega | (simp; done) | (simp; omega))) ?_)
          refine GO_yes rfl rfl rfl (by simp) ?_
          refine GO_q rfl rfl (ev_neq rfl rfl) ?_
          refine GO_q rfl rfl (ev_pick_f rfl (by simp) rfl) ?_
          refine GO_nil ?_
          (repeat first | refine G_seq ?_ | refine G_skip ?_ | refine G_endblk ?_ | refine G_block ?_ | refine G_exit rfl ?_)
          refine G_cond_f rfl (decide_eq_false (by omega)) ?_
          (repeat first | refine G_seq ?_ | refine G_skip ?_ | refine G_endblk ?_ | refine G_block ?_ | refine G_exit rfl ?_)
          refine G_region ?_
          refine GO_q rfl rfl (ev_move rfl) ?_
          (first | refine GO_q rfl rfl (ev_addN (q := 1) rfl rfl (by first | omega | (simp; done) | (simp; omega))) ?_ | refine GO_q rfl rfl (ev_add rfl rfl (by first | omega | (simp; done) | (simp; omega))) ?_)
          refine GO_q rfl rfl (ev_assign rfl) ?_
          refine GO_nil ?_
          (repeat first | refine G_seq ?_ | refine G_skip ?_ | refine G_endblk ?_ | refine G_block ?_ | refine G_exit rfl ?_)
          refine G_round (i + 1, j + kk) ⟨by simp only; omega, by simp only; omega⟩ (by simp only; omega) ⟨rfl, rfl, rfl, rfl, by simp only [hz]; rfl, rfl, rfl, trivial⟩ ?_
          simp only [hz]
          exact (by (repeat first | exact en_refl | (apply en_blk; focus ((repeat' first | exact Pick.here | apply Pick.skip | apply Pick.app); done); focus rfl) | (apply en_own; focus ((repeat' first | exact Pick.here | apply Pick.skip | apply Pick.app); done); focus rfl) | (apply en_pick; focus ((repeat' first | exact Pick.here | apply Pick.skip | apply Pick.app); done)) | apply en_drop | apply en_app) <;> fail)
        · obtain ⟨l2, hl2⟩ : ∃ l2, r - (j + kk) = l2 := ⟨_, rfl⟩
          rw [hl2] at hz ⊢
          have hz1 : decide (l2 = 0) = false := decide_eq_false hz
          have hz2 : decide ((l2 : Int) = 0) = false := decide_eq_false (by omega)
          (repeat first | refine G_seq ?_ | refine G_skip ?_ | refine G_endblk ?_ | refine G_block ?_ | refine G_exit rfl ?_)
          refine G_region ?_
          refine GO_q rfl rfl (ev_move rfl) ?_
          refine GO_q rfl rfl (ev_move rfl) ?_
          refine GO_q rfl rfl (ev_neq rfl rfl) ?_
          refine GO_q rfl rfl (ev_move rfl) ?_
          refine GO_yes rfl rfl rfl (by simp) ?_
          refine GO_q rfl rfl (ev_move rfl) ?_
          refine GO_yes rfl rfl rfl (by simp) ?_
          refine GO_q rfl rfl (ev_move rfl) ?_
          refine GO_yes rfl rfl rfl (by simp) ?_
          refine GO_q rfl rfl (ev_eql rfl rfl) ?_
          refine GO_yes rfl rfl rfl (by simp) ?_
          refine GO_q rfl rfl (ev_neqB rfl rfl) ?_
          refine GO_q rfl rfl (ev_pick_f rfl (by simp) rfl) ?_
          refine GO_q rfl rfl (ev_move rfl) ?_
          refine GO_yes rfl rfl rfl (by simp [hz1, hz2]) ?_
          refine GO_q rfl rfl (ev_move rfl) ?_
          refine GO_yes rfl rfl rfl (by simp [hz1, hz2]) ?_
          refine GO_eff rfl rfl (eff_call rfl (Ctr.pick (by repeat' first | exact Pick.here | apply Pick.skip | apply Pick.app) (icDone_ctr cc l2 (j + kk) u v tot L1 _))) ?_; rintro _ _ ⟨rfl, rfl⟩
          refine GO_yes rfl rfl rfl (by simp [hz1, hz2]) ?_
          refine GO_q rfl rfl (ev_move rfl) ?_
          refine GO_yes rfl rfl rfl (by simp [hz1, hz2]) ?_
          refine GO_q rfl rfl (ev_neqB rfl rfl) ?_
          refine GO_q rfl rfl (ev_pick_f rfl (by simp [hz1, hz2]) rfl) ?_
          refine GO_q rfl rfl (ev_move rfl) ?_
          refine GO_yes rfl rfl rfl (by simp) ?_
          refine GO_q rfl rfl (ev_move rfl) ?_
          refine GO_yes rfl rfl rfl (by simp) ?_
          refine GO_eff rfl rfl (eff_call rfl (Ctr.pick (by repeat' first | exact Pick.here | apply Pick.skip | apply Pick.app) (icSteps_ctr cc l2 (j + kk) u v tot L1 _))) ?_; rintro _ _ ⟨rfl, rfl⟩
          refine GO_yes rfl rfl rfl (by simp) ?_
          refine GO_q rfl rfl (ev_move rfl) ?_
          refine GO_yes rfl rfl rfl (by simp) ?_
          refine GO_q rfl rfl (ev_move rfl) ?_
          refine GO_yes rfl rfl rfl (by simp) ?_
          (first | refine GO_q rfl rfl (ev_subN rfl rfl (by first | omega | (simp; done) | (simp; omega))) ?_ | refine GO_q rfl rfl (ev_sub rfl rfl (by first | omega | (simp; done) | (simp; omega))) ?_)
          refine GO_yes rfl rfl rfl (by simp) ?_
          refine GO_q rfl rfl (ev_neq rfl rfl) ?_
          refine GO_q rfl rfl (ev_pick_f rfl (by simp) rfl) ?_
          refine GO_nil ?_
          (repeat first | refine G_seq ?_ | refine G_skip ?_ | refine G_endblk ?_ | refine G_block ?_ | refine G_exit rfl ?_)
          refine G_cond_f rfl (decide_eq_false (by omega)) ?_
          (repeat first | refine G_seq ?_ | refine G_skip ?_ | refine G_endblk ?_ | refine G_block ?_ | refine G_exit rfl ?_)
          refine G_region ?_
          refine GO_q rfl rfl (ev_move rfl) ?_
          (first | refine GO_q rfl rfl (ev_addN (q := 1) rfl rfl (by first | omega | (simp; done) | (simp; omega))) ?_ | refine GO_q rfl rfl (ev_add rfl rfl (by first | omega | (simp; done) | (simp; omega))) ?_)
          refine GO_q rfl rfl (ev_assign rfl) ?_
          refine GO_nil ?_
          (repeat first | refine G_seq ?_ | refine G_skip ?_ | refine G_endblk ?_ | refine G_block ?_ | refine G_exit rfl ?_)
          refine G_round (i + 1, j + kk) ⟨by simp only; omega, by simp only; omega⟩ (by simp only; omega) ⟨rfl, rfl, rfl, rfl, by simp only [hl2]; rfl, rfl, rfl, trivial⟩ ?_
          simp only [hl2]
          exact (by (repeat first | exact en_refl | (apply en_blk; focus ((repeat' first | exact Pick.here | apply Pick.skip | apply Pick.app); done); focus rfl) | (apply en_own; focus ((repeat' first | exact Pick.here | apply Pick.skip | apply Pick.app); done); focus rfl) | (apply en_pick; focus ((repeat' first | exact Pick.here | apply Pick.skip | apply Pick.app); done)) | apply en_drop | apply en_app) <;> fail)
      · skip
        (repeat first | refine G_seq ?_ | refine G_skip ?_ | refine G_endblk ?_ | refine G_block ?_ | refine G_exit rfl ?_)
        refine G_region ?_
        refine GO_q rfl rfl (ev_move rfl) ?_
        refine GO_q rfl rfl (ev_move rfl) ?_
        refine GO_q rfl rfl (ev_len rfl) ?_
        (first | refine GO_q rfl rfl (ev_lssN rfl rfl) ?_ | refine GO_q rfl rfl (ev_lss rfl rfl) ?_)
        refine GO_q rfl rfl (ev_move rfl) ?_
        refine GO_yes rfl rfl rfl (decide_eq_true (by omega)) ?_
        refine GO_q rfl rfl (ev_move rfl) ?_
        refine GO_yes rfl rfl rfl (decide_eq_true (by omega)) ?_
        (first | refine GO_q rfl rfl (ev_lssN (q := 60) rfl rfl) ?_ | refine GO_q rfl rfl (ev_lss rfl rfl) ?_)
        refine GO_q rfl rfl (ev_pick_t rfl (decide_eq_true (by omega)) rfl) ?_
        refine GO_nil ?_
        (repeat first | refine G_seq ?_ | refine G_skip ?_ | refine G_endblk ?_ | refine G_block ?_ | refine G_exit rfl ?_)
        refine G_cond_f rfl (decide_eq_false (by omega)) ?_
        (repeat first | refine G_seq ?_ | refine G_skip ?_ | refine G_endblk ?_ | refine G_block ?_ | refine G_exit rfl ?_)
        exact G_inv j f2 ⟨rfl, rfl, rfl, rfl, trivial⟩ (by (repeat first | exact en_refl | (apply en_blk; focus ((repeat' first | exact Pick.here | apply Pick.skip | apply Pick.app); done); focus rfl) | (apply en_own; focus ((repeat' first | exact Pick.here | apply Pick.skip | apply Pick.app); done); focus rfl) | (apply en_pick; focus ((repeat' first | exact Pick.here | apply Pick.skip | apply Pick.app); done)) | apply en_drop | apply en_app) <;> fail)
    · skip
      (repeat first | refine G_seq ?_ | refine G_skip ?_ | refine G_endblk ?_ | refine G_block ?_ | refine G_exit rfl ?_)
      refine G_region ?_
      refine GO_q rfl rfl (ev_move rfl) ?_
      refine GO_q rfl rfl (ev_move rfl) ?_
      refine GO_q rfl rfl (ev_len rfl) ?_
      (first | refine GO_q rfl rfl (ev_lssN rfl rfl) ?_ | refine GO_q rfl rfl (ev_lss rfl rfl) ?_)
      refine GO_q rfl rfl (ev_move rfl) ?_
      refine GO_no rfl rfl rfl (decide_eq_false (by omega)) ?_
      refine GO_no rfl rfl rfl (decide_eq_false (by omega)) ?_
      refine GO_q rfl rfl (ev_pick_f rfl (decide_eq_false (by omega)) rfl) ?_
      refine GO_nil ?_
      (repeat first | refine G_seq ?_ | refine G_skip ?_ | refine G_endblk ?_ | refine G_block ?_ | refine G_exit rfl ?_)
      refine G_cond_f rfl rfl ?_
      (repeat first | refine G_seq ?_ | refine G_skip ?_ | refine G_endblk ?_ | refine G_block ?_ | refine G_exit rfl ?_)
      exact G_inv j f2 ⟨rfl, rfl, rfl, rfl, trivial⟩ (by (repeat first | exact en_refl | (apply en_blk; focus ((repeat' first | exact Pick.here | apply Pick.skip | apply Pick.app); done); focus rfl) | (apply en_own; focus ((repeat' first | exact Pick.here | apply Pick.skip | apply Pick.app); done); focus rfl) | (apply en_pick; focus ((repeat' first | exact Pick.here | apply Pick.skip | apply Pick.app); done)) | apply en_drop | apply en_app) <;> fail)
  · rintro j f2
    have cP2 := fun L hM => icStep_ctr cc (r - j) j u v tot L1 L 1000 hM (by omega) (by omega)
    rw [show min (Int.toNat 1000) (r - j) = r - j from by have : Int.toNat 1000 = 1000 := rfl; omega, Nat.sub_self, show j + (r - j) = r by omega] at cP2
    (repeat first | refine G_seq ?_ | refine G_skip ?_ | refine G_endblk ?_ | refine G_block ?_ | refine G_exit rfl ?_)
    refine G_region ?_
    refine GO_q rfl rfl (ev_move rfl) ?_
    refine GO_eff rfl rfl (eff_call rfl (Ctr.pick (by repeat' first | exact Pick.here | apply Pick.skip | apply Pick.app) (cP2 _ (en_comp (by (repeat first | exact en_refl | (apply en_blk; focus ((repeat' first | exact Pick.here | apply Pick.skip | apply Pick.app); done); focus rfl) | (apply en_own; focus ((repeat' first | exact Pick.here | apply Pick.skip | apply Pick.app); done); focus rfl) | (apply en_pick; focus ((repeat' first | exact Pick.here | apply Pick.skip | apply Pick.app); done)) | apply en_drop | apply en_app) <;> fail) hM1)))) ?_; rintro _ _ ⟨rfl, rfl⟩
    refine GO_q rfl rfl (ev_move rfl) ?_
    refine GO_q rfl rfl (ev_extract rfl rfl) ?_
    refine GO_q rfl rfl (ev_extract rfl rfl) ?_
    refine GO_q rfl rfl (ev_assign rfl) ?_
    refine GO_q rfl rfl (ev_assign rfl) ?_
    refine GO_nil ?_
    have cI := fun L => icIDs_ctr cc r u v tot L1 L (by omega)
    have cN := fun L => icN_ctr cc r u v tot L1 L
    rw [e1, w1] at cI
    rw [w1] at cN
    generalize overK k u v = q3 at *
    (repeat first | refine G_seq ?_ | refine G_skip ?_ | refine G_endblk ?_ | refine G_block ?_ | refine G_exit rfl ?_)
    refine G_region ?_
    refine GO_q rfl rfl (ev_move rfl) ?_
    refine GO_q rfl rfl (ev_indexAddrA rfl rfl (by first | omega | (simp; done) | (simp; omega)) (by first | omega | (simp; done) | (simp; omega))) ?_
    refine GO_q rfl rfl (ev_load rfl (by repeat' first | exact Ld.blk rfl | assumption | apply Ld.skip | apply Ld.app)) ?_
    refine GO_q rfl rfl (ev_indexAddrA rfl rfl (by first | omega | (simp; done) | (simp; omega)) (by first | omega | (simp; done) | (simp; omega))) ?_
    refine GO_q rfl rfl (ev_load rfl (by repeat' first | exact Ld.blk rfl | assumption | apply Ld.skip | apply Ld.app)) ?_
    refine GO_eff rfl rfl (eff_call rfl (Ctr.pick (by repeat' first | exact Pick.here | apply Pick.skip | apply Pick.app) (cO _))) ?_; rintro _ _ ⟨Y7, A7, c7, rfl, j1, j2, j3, rfl⟩
    refine GO_q rfl rfl (ev_assign rfl) ?_
    refine GO_nil ?_
    (repeat first | refine G_seq ?_ | refine G_skip ?_ | refine G_endblk ?_ | refine G_block ?_ | refine G_exit rfl ?_)
    refine G_region ?_
    refine GO_q rfl rfl (ev_move rfl) ?_
    refine GO_q rfl rfl (ev_move rfl) ?_
    refine GO_yes rfl rfl rfl rfl ?_
    refine GO_q rfl rfl (ev_move rfl) ?_
    refine GO_yes rfl rfl rfl rfl ?_
    refine GO_eff rfl rfl (eff_call rfl (Ctr.pick (by repeat' first | exact Pick.here | apply Pick.skip | apply Pick.app) (icSteps_ctr cc 0 r u v tot L1 _))) ?_; rintro _ _ ⟨rfl, rfl⟩
    refine GO_yes rfl rfl rfl rfl ?_
    refine GO_q rfl rfl (ev_move rfl) ?_
    refine GO_yes rfl rfl rfl rfl ?_
    refine GO_q rfl rfl (ev_eql rfl rfl) ?_
    refine GO_q rfl rfl (ev_pick_t rfl rfl rfl) ?_
    refine GO_q rfl rfl (ev_move rfl) ?_
    refine GO_yes rfl rfl rfl (decide_eq_true rfl) ?_
    refine GO_q rfl rfl (ev_move rfl) ?_
    refine GO_yes rfl rfl rfl (decide_eq_true rfl) ?_
    refine GO_eff rfl rfl (eff_call rfl (Ctr.pick (by repeat' first | exact Pick.here | apply Pick.skip | apply Pick.app) (cI _))) ?_; rintro _ _ ⟨B5, e6, rfl, ⟨u1, u2, u3⟩, rfl⟩
    refine GO_yes rfl rfl rfl (decide_eq_true rfl) ?_
    refine GO_q rfl rfl (ev_move rfl) ?_
    refine GO_yes rfl rfl rfl (decide_eq_true rfl) ?_
    refine GO_eff rfl rfl (eff_call rfl (Same_ctr B5 A7 _ _ e6 c7 q3 q3 _ (by repeat' first | exact Rc.own (flat_length _) u1 | apply Rd.skip) (by repeat' first | exact j3 _ | apply Rd.skip) (by omega))) ?_; rintro _ _ ⟨rfl, rfl⟩
    refine GO_q rfl rfl (ev_pick_t rfl (decide_eq_true rfl) rfl) ?_
    refine GO_q rfl rfl (ev_move rfl) ?_
    refine GO_yes rfl rfl rfl (decide_eq_true rfl) ?_
    refine GO_q rfl rfl (ev_move rfl) ?_
    refine GO_yes rfl rfl rfl (decide_eq_true rfl) ?_
    refine GO_eff rfl rfl (eff_call rfl (Ctr.pick (by repeat' first | exact Pick.here | apply Pick.skip | apply Pick.app) (cN _))) ?_; rintro _ _ ⟨rfl, rfl⟩
    refine GO_yes rfl rfl rfl (decide_eq_true rfl) ?_
    refine GO_q rfl rfl (ev_move rfl) ?_
    refine GO_yes rfl rfl rfl (decide_eq_true rfl) ?_
    refine GO_q rfl rfl (ev_len rfl) ?_
    refine GO_yes rfl rfl rfl (decide_eq_true rfl) ?_
    refine GO_q rfl rfl (ev_eql rfl rfl) ?_
    refine GO_q rfl rfl (ev_pick_t rfl (decide_eq_true rfl) rfl) ?_
    refine GO_q rfl rfl (ev_move rfl) ?_
    refine GO_yes rfl rfl rfl (decide_eq_true rfl) ?_
    refine GO_eff rfl rfl (eff_call rfl (lives21_ctr _)) ?_; rintro _ _ ⟨rfl, X9, rfl⟩
    refine GO_q rfl rfl (ev_pick_t rfl (decide_eq_true rfl) rfl) ?_
    refine GO_q rfl rfl (ev_assign rfl) ?_
    refine GO_nil ?_
    (repeat first | refine G_seq ?_ | refine G_skip ?_ | refine G_endblk ?_ | refine G_block ?_ | refine G_exit rfl ?_)
    exact G_ret (L' := L) rfl (.tmp rfl .nil) (by (repeat first | exact fun _ s => s | apply en_keep | apply en_drop | apply en_app) <;> fail) ⟨rfl, rfl⟩
theorem itcurFinds_walk (A : Option Addr) (n c : Nat) (ns : List Int) (b0 b1 : Int) (T : Option Addr) (m d : Nat) (ts : List Int) (w : World) (hc : n ≤ c) (hc2 : c ≤ maxLen) (hb : Ints ns) (h1 : Reads w 5 A n (ints ns)) (hd : m ≤ d) (hd2 : d ≤ maxLen) (hbt : Ints ts) (h2 : Reads w 1 T m (ints ts)) :
    Calls Tryz.prog 9 #[.slice A n c, .agg #[.int .i64 b0, .int .i64 b1], .slice T m d] w fun e w' => e = .returned (.bool true) ∧ Below w.heap.size w w' := by
  obtain ⟨l, hl, hk⟩ := rd_acts h1 hb
  refine law_of_ctr (ItcurFinds_ctr A n c l b0 b1 T m d ts _ hl (by unfold maxLen at hc2; omega) hk ?_ (by unfold maxLen at hd2; omega))
  unfold Rd
  have e : flat ts = ints ts := by rw [flat_int]; rfl
  rw [e]
  exact rc_of_reads (by decide) h2
end Go.Proofs.YtjnmpogolknkpaaGreat
