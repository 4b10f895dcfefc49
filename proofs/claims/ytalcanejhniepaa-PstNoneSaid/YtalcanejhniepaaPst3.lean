/- Trees that are heaps by Y: the points in order. -/
import Derived.Test.YtalcanejhniepaaPstM
namespace Go.Proofs.Ytalcanejhniepaa
attribute [local irreducible] sat
set_option linter.unusedVariables false
set_option linter.unusedSimpArgs false
set_option maxRecDepth 100000

theorem points_ctr : ∀ (t : PT) (a : Option Addr) (L : List HP), t.Ok → t.size ≤ 100000 → Ctr Try.prog 82 #[.pointer a] (ptH t a :: L) fun v L' => Made 39 t.pts (ptH t a :: L) v L'
  | .nil, a, L, _, _ => by
    refine Ctr_of (fn := Try.f82) (n := 22) Try.func82 rfl rfl rfl ?_
    intro g F
    refine G_nil ?_
    rintro rfl
    (repeat first | refine G_seq ?_ | refine G_skip ?_ | refine G_endblk ?_ | refine G_block ?_ | refine G_exit rfl ?_)
    refine G_region ?_
    refine GO_q rfl rfl (ev_assign rfl) ?_
    refine GO_nil ?_
    (repeat first | refine G_seq ?_ | refine G_skip ?_ | refine G_endblk ?_ | refine G_block ?_ | refine G_exit rfl ?_)
    refine G_region ?_
    refine GO_q rfl rfl (ev_move rfl) ?_
    (first | refine GO_q rfl rfl (ev_eqlNil rfl rfl) ?_ | refine GO_q rfl rfl (ev_eqlPtr rfl rfl) ?_)
    refine GO_nil ?_
    (repeat first | refine G_seq ?_ | refine G_skip ?_ | refine G_endblk ?_ | refine G_block ?_ | refine G_exit rfl ?_)
    refine G_cond_t rfl rfl ?_
    (repeat first | refine G_seq ?_ | refine G_skip ?_ | refine G_endblk ?_ | refine G_block ?_ | refine G_exit rfl ?_)
    refine G_region ?_
    refine GO_q rfl rfl (ev_assign rfl) ?_
    refine GO_nil ?_
    (repeat first | refine G_seq ?_ | refine G_skip ?_ | refine G_endblk ?_ | refine G_block ?_ | refine G_exit rfl ?_)
    exact G_ret (L' := own 39 3 none 0 0 [] :: ptH .nil none :: L) rfl (.tmp rfl .nil) (fun h s => (own.nil_ 39 3 h (en_nilI (L := F :: L) (M := F :: L) en_refl h s)) |> (fun s => en_pick (.skip (.skip .here)) en_refl h s)) ⟨none, 0, rfl, fun h => absurd h (Nat.lt_irrefl 0), rfl⟩
  | .node p s lo hi, a, L, hOk, hsz => by
    have ih1 := fun al L => points_ctr lo al L hOk.1 (by simp only [PT.size] at hsz; omega)
    have ih2 := fun ah L => points_ctr hi ah L hOk.2.1 (by simp only [PT.size] at hsz; omega)
    have l1 := lo.pts_length
    have l2 := hi.pts_length
    have hk := PT.kids_asc hOk (PT.pts_asc hOk.1) (PT.pts_asc hOk.2.1)
    simp only [PT.size] at hsz
    refine Ctr_of (fn := Try.f82) (n := 22) Try.func82 rfl rfl rfl ?_
    intro g F
    refine G_node ?_
    rintro b al ah rfl
    (repeat first | refine G_seq ?_ | refine G_skip ?_ | refine G_endblk ?_ | refine G_block ?_ | refine G_exit rfl ?_)
    refine G_region ?_
    refine GO_q rfl rfl (ev_assign rfl) ?_
    refine GO_nil ?_
    (repeat first | refine G_seq ?_ | refine G_skip ?_ | refine G_endblk ?_ | refine G_block ?_ | refine G_exit rfl ?_)
    refine G_region ?_
    refine GO_q rfl rfl (ev_move rfl) ?_
    (first | refine GO_q rfl rfl (ev_eqlNil rfl rfl) ?_ | refine GO_q rfl rfl (ev_eqlPtr rfl rfl) ?_)
    refine GO_nil ?_
    (repeat first | refine G_seq ?_ | refine G_skip ?_ | refine G_endblk ?_ | refine G_block ?_ | refine G_exit rfl ?_)
    refine G_cond_f rfl rfl ?_
    (repeat first | refine G_seq ?_ | refine G_skip ?_ | refine G_endblk ?_ | refine G_block ?_ | refine G_exit rfl ?_)
    refine G_draw (.q 0 (.q 1 (.q 2 (.q 3 (.q 5 (.q 6 (.q 7 (.q 8 (.q 12 (.q 13 (.q 14 (.q 15 (.e 4 (.e 9 (.e 10 (.e 11 (.e 16 (.q 17 .nil)))))))))))))))))) (by kernel_rfl) (by kernel_rfl) ?_
    refine RS_q retB_noPanic rfl rfl rfl (ev_move rfl) ?_
    (first | refine RS_q retB_noPanic rfl rfl rfl (ev_nilCheck rfl) ?_ | refine RS_q retB_noPanic rfl rfl rfl (ev_nilCheckF (by simp) rfl) ?_)
    refine RS_q retB_noPanic rfl rfl rfl (ev_fieldAddr rfl) ?_
    refine RS_q retB_noPanic rfl rfl rfl (ev_load rfl (by repeat' first | exact Ld.blk rfl | assumption | apply Ld.skip | apply Ld.app)) ?_
    refine RS_q retB_noPanic rfl rfl rfl (ev_move rfl) ?_
    (first | refine RS_q retB_noPanic rfl rfl rfl (ev_nilCheck rfl) ?_ | refine RS_q retB_noPanic rfl rfl rfl (ev_nilCheckF (by simp) rfl) ?_)
    refine RS_q retB_noPanic rfl rfl rfl (ev_fieldAddr rfl) ?_
    refine RS_q retB_noPanic rfl rfl rfl (ev_load rfl (by repeat' first | exact Ld.blk rfl | assumption | apply Ld.skip | apply Ld.app)) ?_
    refine RS_q retB_noPanic rfl rfl rfl (ev_move rfl) ?_
    (first | refine RS_q retB_noPanic rfl rfl rfl (ev_nilCheck rfl) ?_ | refine RS_q retB_noPanic rfl rfl rfl (ev_nilCheckF (by simp) rfl) ?_)
    refine RS_q retB_noPanic rfl rfl rfl (ev_fieldAddr rfl) ?_
    refine RS_q retB_noPanic rfl rfl rfl (ev_loadN rfl (by repeat' first | exact LdN.blk rfl | assumption | apply LdN.skip | apply LdN.app)) ?_
    refine RS_e (RE_eff rfl rfl rfl (eff_call rfl (Ctr.pick (by repeat' first | exact Pick.here | apply Pick.skip | apply Pick.app) (ih1 al _))) ?_); rintro _ _ ⟨A9, c9, rfl, hA9, rfl⟩; refine ⟨_, (by first | ((repeat first | exact fun _ s => s | apply en_keep | apply en_drop | apply en_app) <;> fail) | ((repeat first | exact en_refl | (apply en_blk; focus ((repeat' first | exact Pick.here | apply Pick.skip | apply Pick.app); done); focus rfl) | (apply en_own; focus ((repeat' first | exact Pick.here | apply Pick.skip | apply Pick.app); done); focus rfl) | (apply en_pick; focus ((repeat' first | exact Pick.here | apply Pick.skip | apply Pick.app); done)) | apply en_drop | apply en_app) <;> fail)), fun _ s => s, ?_⟩
    refine RS_e (RE_eff rfl rfl rfl (eff_call rfl (Ctr.pick (by repeat' first | exact Pick.here | apply Pick.skip | apply Pick.app) (ih2 ah _))) ?_); rintro _ _ ⟨A14, c14, rfl, hA14, rfl⟩; refine ⟨_, (by first | ((repeat first | exact fun _ s => s | apply en_keep | apply en_drop | apply en_app) <;> fail) | ((repeat first | exact en_refl | (apply en_blk; focus ((repeat' first | exact Pick.here | apply Pick.skip | apply Pick.app); done); focus rfl) | (apply en_own; focus ((repeat' first | exact Pick.here | apply Pick.skip | apply Pick.app); done); focus rfl) | (apply en_pick; focus ((repeat' first | exact Pick.here | apply Pick.skip | apply Pick.app); done)) | apply en_drop | apply en_app) <;> fail)), fun _ s => s, ?_⟩
    refine RS_e (RE_eff rfl rfl rfl (eff_buildSliceN (by rfl) rfl rfl) ?_); rintro _ _ ⟨b15, rfl, rfl⟩; refine ⟨_, (by first | ((repeat first | exact fun _ s => s | apply en_keep | apply en_drop | apply en_app) <;> fail) | ((repeat first | exact en_refl | (apply en_blk; focus ((repeat' first | exact Pick.here | apply Pick.skip | apply Pick.app); done); focus rfl) | (apply en_own; focus ((repeat' first | exact Pick.here | apply Pick.skip | apply Pick.app); done); focus rfl) | (apply en_pick; focus ((repeat' first | exact Pick.here | apply Pick.skip | apply Pick.app); done)) | apply en_drop | apply en_app) <;> fail)), fun _ s => s, ?_⟩
    refine RS_e (RE_eff rfl rfl rfl (eff_call rfl (Ctr.pre (M := blk b15 31 [.slice A9 lo.pts.length c9, .slice A14 hi.pts.length c14] :: own 39 3 A9 lo.pts.length c9 (flat lo.pts) :: own 39 3 A14 hi.pts.length c14 (flat hi.pts) :: _) (by (repeat first | exact en_refl | (apply en_blk; focus ((repeat' first | exact Pick.here | apply Pick.skip | apply Pick.app); done); focus rfl) | (apply en_own; focus ((repeat' first | exact Pick.here | apply Pick.skip | apply Pick.app); done); focus rfl) | (apply en_pick; focus ((repeat' first | exact Pick.here | apply Pick.skip | apply Pick.app); done)) | apply en_drop | apply en_app) <;> fail) (Concat_ctr A9 A14 _ _ c9 c14 b15 lo.pts hi.pts _ rfl rfl (by omega) (by omega) hA9 hA14))) ?_); rintro _ _ ⟨A16, c16, rfl, hA16, rfl⟩; refine ⟨_, (by first | ((repeat first | exact fun _ s => s | apply en_keep | apply en_drop | apply en_app) <;> fail) | ((repeat first | exact en_refl | (apply en_blk; focus ((repeat' first | exact Pick.here | apply Pick.skip | apply Pick.app); done); focus rfl) | (apply en_own; focus ((repeat' first | exact Pick.here | apply Pick.skip | apply Pick.app); done); focus rfl) | (apply en_pick; focus ((repeat' first | exact Pick.here | apply Pick.skip | apply Pick.app); done)) | apply en_drop | apply en_app) <;> fail)), fun _ s => s, ?_⟩
    refine RS_e (RE_eff rfl rfl rfl (eff_call rfl (Put_ctr A16 _ c16 (lo.pts ++ hi.pts) p _ (Rc.own (flat_length _) hA16) (by rw [List.length_append]; omega) hk)) ?_); rintro _ _ ⟨A21, c21, rfl, hA21, rfl⟩; refine ⟨_, (by first | ((repeat first | exact fun _ s => s | apply en_keep | apply en_drop | apply en_app) <;> fail) | ((repeat first | exact en_refl | (apply en_blk; focus ((repeat' first | exact Pick.here | apply Pick.skip | apply Pick.app); done); focus rfl) | (apply en_own; focus ((repeat' first | exact Pick.here | apply Pick.skip | apply Pick.app); done); focus rfl) | (apply en_pick; focus ((repeat' first | exact Pick.here | apply Pick.skip | apply Pick.app); done)) | apply en_drop | apply en_app) <;> fail)), fun _ s => s, ?_⟩
    refine RS_q retB_noPanic rfl rfl rfl (ev_assign rfl) ?_
    refine RS_nil ?_
    (repeat first | refine G_seq ?_ | refine G_skip ?_ | refine G_endblk ?_ | refine G_block ?_ | refine G_exit rfl ?_)
    refine G_ret (L' := own 39 3 A21 (putP p (lo.pts ++ hi.pts)).length c21 (flat (putP p (lo.pts ++ hi.pts))) :: ptH (.node p s lo hi) (some ⟨b, 0, none⟩) :: L) rfl (.tmp rfl .nil) ?_ ⟨A21, c21, rfl, hA21, rfl⟩
    apply en_pick
    focus ((repeat' first | exact Pick.here | apply Pick.skip | apply Pick.app); done)
    apply en_pick
    focus ((repeat' first | exact Pick.here | apply Pick.skip | apply Pick.app); done)
    exact en_nodeI (by (repeat first | exact en_refl | (apply en_blk; focus ((repeat' first | exact Pick.here | apply Pick.skip | apply Pick.app); done); focus rfl) | (apply en_own; focus ((repeat' first | exact Pick.here | apply Pick.skip | apply Pick.app); done); focus rfl) | (apply en_pick; focus ((repeat' first | exact Pick.here | apply Pick.skip | apply Pick.app); done)) | apply en_drop | apply en_app) <;> fail)
end Go.Proofs.Ytalcanejhniepaa
