/- The law SegcurStabs. -/
import Derived.Test.YtmgkmammkmlakaaGreatScL
import Derived.Test.YtmgkmammkmlakaaGreatSgM
namespace Go.Proofs.YtmgkmammkmlakaaGreat
attribute [local irreducible] sat
open Go.RowKit
set_option linter.unusedVariables false
set_option linter.unusedSimpArgs false
set_option maxRecDepth 100000

instance : IntK Tryz.prog 5 .u8 := ⟨by kernel_rfl⟩
instance : IntK Tryz.prog 3 .i64 := ⟨by kernel_rfl⟩
theorem SegcurStabs_ctr (A : Option Addr) (n c : Nat) (acts : List Ac) (v : Int) (kk : Nat) (L : List HP) (hl : Rd L A n acts) (hn : n ≤ 9223372036854775807) (ha : ∀ a ∈ acts, a.at_ ≤ 9223372036854775807) (hkk : kk ≤ 255) :
    Ctr Tryz.prog 8 #[.slice A n c, .int .i64 v, .int .u8 (kk : Nat)] L fun r L' => r = .bool true ∧ L' = L := by
  refine Ctr_of (fn := Tryz.f8) (n := 71) Tryz.func8 rfl rfl rfl ?_
  intro g F
  (repeat first | refine G_seq ?_ | refine G_skip ?_ | refine G_endblk ?_ | refine G_block ?_ | refine G_exit rfl ?_)
  refine G_region ?_
  refine GO_q rfl rfl (ev_assign rfl) ?_
  refine GO_nil ?_
  (repeat first | refine G_seq ?_ | refine G_skip ?_ | refine G_endblk ?_ | refine G_block ?_ | refine G_exit rfl ?_)
  refine G_region ?_
  refine GO_q rfl rfl (ev_move rfl) ?_
  refine GO_eff rfl rfl (eff_call rfl (gMade_ctr A n c acts _ hl.skip hn ha)) ?_; rintro _ _ ⟨t, b, s, rfl, ⟨hk, hb⟩, rfl⟩
  refine GO_q rfl rfl (ev_move rfl) ?_
  refine GO_q rfl rfl (ev_extract rfl rfl) ?_
  refine GO_q rfl rfl (ev_extract rfl rfl) ?_
  refine GO_q rfl rfl (ev_extract rfl rfl) ?_
  refine GO_q rfl rfl (ev_assign rfl) ?_
  refine GO_q rfl rfl (ev_assign rfl) ?_
  refine GO_q rfl rfl (ev_assign rfl) ?_
  refine GO_nil ?_
  refine G_pure (fun h q => seg_fair q) ?_
  rintro ⟨hf, hR⟩
  refine G_heap (L' := setQ b 60 s :: segH t 60 s :: F :: L) (by (repeat first | exact en_refl | (apply en_blk; focus ((repeat' first | exact Pick.here | apply Pick.skip | apply Pick.app); done); focus rfl) | (apply en_own; focus ((repeat' first | exact Pick.here | apply Pick.skip | apply Pick.app); done); focus rfl) | (apply en_pick; focus ((repeat' first | exact Pick.here | apply Pick.skip | apply Pick.app); done)) | apply en_drop | apply en_app) <;> fail) ?_
  refine G_open (ι := Option Addr × Nat × Option Addr × Nat) (N := setZ b 60 s) (F := setO s) (fun _ h => h) fun z o => ?_
  obtain ⟨B1, d1, B2, d2⟩ := z
  replace o : QOk B1 d1 s.k B2 d2 s.R := o
  refine G_heap (L' := segH t 60 s :: blk b 33 (qsC B1 s.k.length d1 60 B2 s.R.length d2 s.b) :: own 51 3 B1 s.k.length d1 (flat s.k) :: own 3 1 B2 s.R.length d2 (flat s.R) :: F :: L) (by show ∀ h, sat (blk b 33 (qsC B1 s.k.length d1 60 B2 s.R.length d2 s.b) :: own 51 3 B1 s.k.length d1 (flat s.k) :: own 3 1 B2 s.R.length d2 (flat s.R) :: _) h → _; exact (by (repeat first | exact en_refl | (apply en_blk; focus ((repeat' first | exact Pick.here | apply Pick.skip | apply Pick.app); done); focus rfl) | (apply en_own; focus ((repeat' first | exact Pick.here | apply Pick.skip | apply Pick.app); done); focus rfl) | (apply en_pick; focus ((repeat' first | exact Pick.here | apply Pick.skip | apply Pick.app); done)) | apply en_drop | apply en_app) <;> fail)) ?_
  refine G_open (ι := RA × SA × Option Addr × Nat × List Pt) (N := segZ t 60 s) (F := segO s) (fun _ h => h) fun z ot => ?_
  obtain ⟨x, X, A3, c3, l⟩ := z
  replace ot : TOk x X A3 c3 l s.k s.R := ot
  have hT := ot.in_ t 60 s.b (qsL b B1 d1 s.k 60 B2 d2 s.R s.b L)
  have hQ : QIn (tgL t x X A3 c3 l 60 s.b (qsL b B1 d1 s.k 60 B2 d2 s.R s.b L)) b B1 d1 s.k 60 B2 d2 s.R s.b := (o.in_ L).skip.skip.skip.skip
  have hdrop : ∀ h, sat (tgL t x X A3 c3 l 60 s.b (qsL b B1 d1 s.k 60 B2 d2 s.R s.b L)) h → sat L h := by
    unfold tgL qsL
    exact (by (repeat first | exact fun _ s => s | apply en_keep | apply en_drop | apply en_app) <;> fail)
  refine G_heap (L' := F :: tgL t x X A3 c3 l 60 s.b (qsL b B1 d1 s.k 60 B2 d2 s.R s.b L)) (by
    show ∀ h, sat (blk t 83 (tgC x X.addr A3 l.length c3 60 s.b) :: raH x :: saH X :: own 51 3 A3 l.length c3 (flat l) :: blk b 33 (qsC B1 s.k.length d1 60 B2 s.R.length d2 s.b) :: own 51 3 B1 s.k.length d1 (flat s.k) :: own 3 1 B2 s.R.length d2 (flat s.R) :: F :: L) h → sat (F :: blk t 83 (tgC x X.addr A3 l.length c3 60 s.b) :: raH x :: saH X :: own 51 3 A3 l.length c3 (flat l) :: blk b 33 (qsC B1 s.k.length d1 60 B2 s.R.length d2 s.b) :: own 51 3 B1 s.k.length d1 (flat s.k) :: own 3 1 B2 s.R.length d2 (flat s.R) :: L) h
    exact (by (repeat first | exact en_refl | (apply en_blk; focus ((repeat' first | exact Pick.here | apply Pick.skip | apply Pick.app); done); focus rfl) | (apply en_own; focus ((repeat' first | exact Pick.here | apply Pick.skip | apply Pick.app); done); focus rfl) | (apply en_pick; focus ((repeat' first | exact Pick.here | apply Pick.skip | apply Pick.app); done)) | apply en_drop | apply en_app) <;> fail)) ?_
  generalize tgL t x X A3 c3 l 60 s.b (qsL b B1 d1 s.k 60 B2 d2 s.R s.b L) = LL at *
  have hkl := ot.perm.length_eq
  have hRl : s.R.length ≤ 326 := by omega
  have h2 : Ld LL ⟨b, 0 + 2, none⟩ (.slice B2 s.R.length d2) := hQ.q.at_ (i := 2) rfl
  have hrr := hQ.r
  have cN := fun L h => nCell_ctr B2 s.R.length d2 s.R v L h (by omega)
  obtain ⟨hw1, hw2⟩ := ot.wy (by omega) v
  have cW := fun L => wWay_ctr 0 (2 * s.R.length) (cellR s.R v) L (Nat.zero_le _) (by omega)
  rw [← hw1] at cW
  have cO := fun L h => sOverlap_ctr b B1 d1 s.k 60 B2 d2 s.R s.b v v L h (by omega)
  have cSt := fun L h => tStab_ctr (t := t) (most := 60) (built := s.b) v L h ot (by omega)
  rw [stab_over] at cSt
  have hst := ot.stab v
  rw [stab_over] at hst
  have hol := overK_length s.k v v
  have htl : (idsOf (X.way (cellR s.R v))).length ≤ 80 := by
    rw [← srt_length, hst]; omega
  have hql := bgnK_length s.k 0 0
  have hB : ∀ N : List HP, Ctr Tryz.prog 22 #[.pointer (some ⟨t, 0, none⟩), .int .i64 0, .int .i64 0] (N ++ (F :: LL)) fun r L' => Made 3 (bgnK s.k 0 0) (N ++ (F :: LL)) r L' := fun N => tBegins_ctr 0 0 (N ++ (F :: LL)) (hT.skip.app) ot (by omega)
  have hI : CuI (F :: LL) (qR s.R) l (cellR s.R v) none (bgnK s.k 0 0) (idsOf (X.way (cellR s.R v))) X none [] (X.wn (cellR s.R v)) := ⟨hT.X.skip, ot.leads v, by simp [pdL], rfl, .inl rfl⟩
  have cC := fun L h => cStab_ctr (t := t) (x := x) (X := X) (A := A3) (c := c3) (l := l) (most := 60) (built := s.b) v L h ot (by omega)
  generalize cellR s.R v = cc at *
  generalize bgnK s.k 0 0 = q0 at *
  generalize overK s.k v v = q3 at *
  have cS1 := fun cb (nn : Int) => cStep_ctr cb cc t 0 0 nn (qR s.R) l none q0 (idsOf (X.way cc)) (F :: LL) (fun _ h => by cases h) hB (by omega) (by omega) (by omega) X none none 0 0 (X.wn cc) [] (fun h => absurd h (Nat.lt_irrefl 0)) hI (by omega)
  (repeat first | refine G_seq ?_ | refine G_skip ?_ | refine G_endblk ?_ | refine G_block ?_ | refine G_exit rfl ?_)
  refine G_region ?_
  refine GO_q rfl rfl (ev_move rfl) ?_
  refine GO_q rfl rfl (ev_not rfl) ?_
  refine GO_nil ?_
  (repeat first | refine G_seq ?_ | refine G_skip ?_ | refine G_endblk ?_ | refine G_block ?_ | refine G_exit rfl ?_)
  refine G_cond_f rfl rfl ?_
  (repeat first | refine G_seq ?_ | refine G_skip ?_ | refine G_endblk ?_ | refine G_block ?_ | refine G_exit rfl ?_)
  (repeat first | refine G_seq ?_ | refine G_skip ?_ | refine G_endblk ?_ | refine G_block ?_ | refine G_exit rfl ?_)
  refine G_region ?_
  refine GO_q rfl rfl (ev_move rfl) ?_
  refine GO_q rfl rfl (ev_move rfl) ?_
  refine GO_eff rfl rfl (eff_call rfl (cC _ hT.skip)) ?_; rintro _ _ ⟨cb, rfl, rfl⟩
  refine GO_q rfl rfl (ev_assign rfl) ?_
  refine GO_nil ?_
  refine G_heap (own.nil_ 3 1) ?_
  (repeat first | refine G_seq ?_ | refine G_skip ?_ | refine G_endblk ?_ | refine G_block ?_ | refine G_exit rfl ?_)
  refine G_region ?_
  refine GO_q rfl rfl (ev_move rfl) ?_
  refine GO_q rfl rfl (ev_move rfl) ?_
  refine GO_q rfl rfl (ev_remK (q := 9) rfl rfl (by decide)) ?_
  refine GO_q rfl rfl (ev_convU rfl (by omega)) ?_
  refine GO_eff rfl rfl (eff_call rfl (Ctr.pre (M := blk cb 108 (cuC X cc none none ([] : List Int).length 0 0) :: own 3 1 none ([] : List Int).length 0 (flat ([] : List Int)) :: F :: LL) (by (repeat first | exact en_refl | (apply en_blk; focus ((repeat' first | exact Pick.here | apply Pick.skip | apply Pick.app); done); focus rfl) | (apply en_own; focus ((repeat' first | exact Pick.here | apply Pick.skip | apply Pick.app); done); focus rfl) | (apply en_pick; focus ((repeat' first | exact Pick.here | apply Pick.skip | apply Pick.app); done)) | apply en_drop | apply en_app) <;> fail) (cS1 cb _))) ?_; rintro _ _ ⟨rfl, Y', pd', A', d', ids', ⟨hI', hA'⟩, rfl⟩
  refine GO_nil ?_
  generalize hm : min (Int.toNat ((kk % 9 : Nat) : Int)) (X.wn cc) = mm at *
  have cS2 := cRun_ctr cb cc t 0 0 1000 (qR s.R) l none q0 (idsOf (X.way cc)) (F :: LL) (fun _ h => by cases h) hB (by omega) (by omega) (by omega) Y' pd' A' d' (0 + mm) (X.wn cc - mm) ids' hA' hI' (by omega) (by have : Int.toNat 1000 = 1000 := rfl; omega)
  (repeat first | refine G_seq ?_ | refine G_skip ?_ | refine G_endblk ?_ | refine G_block ?_ | refine G_exit rfl ?_)
  refine G_region ?_
  refine GO_q rfl rfl (ev_move rfl) ?_
  refine GO_eff rfl rfl (eff_call rfl (Ctr.pre (M := blk cb 108 (cuC Y' cc pd' A' ids'.length d' (0 + mm)) :: own 3 1 A' ids'.length d' (flat ids') :: F :: LL) (by (repeat first | exact en_refl | (apply en_blk; focus ((repeat' first | exact Pick.here | apply Pick.skip | apply Pick.app); done); focus rfl) | (apply en_own; focus ((repeat' first | exact Pick.here | apply Pick.skip | apply Pick.app); done); focus rfl) | (apply en_pick; focus ((repeat' first | exact Pick.here | apply Pick.skip | apply Pick.app); done)) | apply en_drop | apply en_app) <;> fail) cS2)) ?_; rintro _ _ ⟨rfl, A4, d4, ids4, ⟨hp4, hA4⟩, rfl⟩
  refine GO_nil ?_
  have e4 : srt ids4 = q3 := by rw [← hst]; exact srt_of_perm hp4
  have e5 : ids4.length = q3.length := by rw [← e4, srt_length]
  have cI : ∀ L, LdN L cb 0 5 (cuC .nil cc none A4 ids4.length d4 (0 + mm + (X.wn cc - mm))) → Rd L A4 ids4.length ids4 → Ctr Tryz.prog 39 #[.pointer (some ⟨cb, 0, none⟩)] L fun v L' => ∃ B e, v = .slice B q3.length e ∧ ((0 < q3.length → ∃ b, B = some ⟨b, 0, none⟩) ∧ q3.length ≤ e ∧ e ≤ maxLen) ∧ L' = own 3 1 B q3.length e (flat q3) :: L := fun L h h' =>
    (cIDs_ctr cb cc .nil none A4 d4 (0 + mm + (X.wn cc - mm)) ids4 L h h' (by omega)).mono fun v L' ⟨B, e, h1, h2, h3⟩ => ⟨B, e, by rw [← e5]; exact h1, by rw [← e5]; exact h2, by rw [← e5, ← e4]; exact h3⟩
  have hr4 : ∀ M, Rd (own 3 1 A4 ids4.length d4 (flat ids4) :: M) A4 ids4.length ids4 := fun M => Rc.own (flat_length _) hA4
  (repeat first | refine G_seq ?_ | refine G_skip ?_ | refine G_endblk ?_ | refine G_block ?_ | refine G_exit rfl ?_)
  refine G_draw (.q 0 (.e 1 (.q 2 (.q 3 (.q 5 (.q 6 (.q 7 (.q 8 (.q 9 (.e 4 (.e 10 (.e 11 (.q 12 (.q 13 (.q 14 (.q 15 (.q 17 (.e 16 (.e 18 (.e 19 (.q 20 (.q 21 (.q 22 (.q 24 (.q 25 (.q 26 (.q 27 (.q 28 (.q 29 (.q 30 (.q 31 (.q 32 (.q 33 (.q 34 (.e 23 (.e 35 (.e 36 (.q 37 (.q 38 (.q 39 (.e 40 (.q 41 (.q 42 .nil))))))))))))))))))))))))))))))))))))))))))) (by kernel_rfl) (by kernel_rfl) ?_
  refine RS_m retB_noPanic rfl rfl rfl rfl (ev_move rfl) ?_
  refine RS_e (RE_eff rfl rfl rfl (eff_call rfl (cDone_ctr none _ (by repeat' first | exact LdN.blk rfl | assumption | apply LdN.skip | apply LdN.app))) ?_); rintro _ _ ⟨rfl, rfl⟩; refine ⟨_, fun _ s => s, (by first | ((repeat first | exact fun _ s => s | apply en_keep | apply en_drop | apply en_app) <;> fail) | ((repeat first | exact en_refl | (apply en_blk; focus ((repeat' first | exact Pick.here | apply Pick.skip | apply Pick.app); done); focus rfl) | (apply en_own; focus ((repeat' first | exact Pick.here | apply Pick.skip | apply Pick.app); done); focus rfl) | (apply en_pick; focus ((repeat' first | exact Pick.here | apply Pick.skip | apply Pick.app); done)) | apply en_drop | apply en_app) <;> fail)), ?_⟩
  refine RS_m retB_noPanic rfl rfl rfl rfl (ev_move rfl) ?_
  refine RS_m_yes retB_noPanic rfl rfl rfl rfl ⟨_, rfl, rfl⟩ rfl (ev_move rfl) ?_
  refine RS_m_yes retB_noPanic rfl rfl rfl rfl ⟨_, rfl, rfl⟩ rfl (ev_move rfl) ?_
  (first | refine RS_m_yes retB_noPanic rfl rfl rfl rfl ⟨_, rfl, rfl⟩ rfl (ev_nilCheck rfl) ?_ | refine RS_m_yes retB_noPanic rfl rfl rfl rfl ⟨_, rfl, rfl⟩ rfl (ev_nilCheckF (by simp) rfl) ?_)
  refine RS_m_yes retB_noPanic rfl rfl rfl rfl ⟨_, rfl, rfl⟩ rfl (ev_fieldAddr rfl) ?_
  refine RS_m_yes retB_noPanic rfl rfl rfl rfl ⟨_, rfl, rfl⟩ rfl (ev_move rfl) ?_
  refine RS_m_yes retB_noPanic rfl rfl rfl rfl ⟨_, rfl, rfl⟩ rfl (ev_move rfl) ?_
  refine RS_e (RE_eff_yes rfl rfl rfl ⟨_, rfl, rfl⟩ rfl (eff_call rfl (cI _ (by repeat' first | exact LdN.blk rfl | assumption | apply LdN.skip | apply LdN.app) (by repeat' first | exact hr4 _ | apply Rd.skip))) ?_); rintro _ _ ⟨B5, e6, rfl, ⟨u1, u2, u3⟩, rfl⟩; refine ⟨_, fun _ s => s, (by first | ((repeat first | exact fun _ s => s | apply en_keep | apply en_drop | apply en_app) <;> fail) | ((repeat first | exact en_refl | (apply en_blk; focus ((repeat' first | exact Pick.here | apply Pick.skip | apply Pick.app); done); focus rfl) | (apply en_own; focus ((repeat' first | exact Pick.here | apply Pick.skip | apply Pick.app); done); focus rfl) | (apply en_pick; focus ((repeat' first | exact Pick.here | apply Pick.skip | apply Pick.app); done)) | apply en_drop | apply en_app) <;> fail)), ?_⟩
  refine RS_e (RE_eff_yes rfl rfl rfl ⟨_, rfl, rfl⟩ rfl (eff_call rfl (cO _ hQ.skip.skip.skip.skip)) ?_); rintro _ _ ⟨Y7, A7, c7, rfl, j1, j2, j3, rfl⟩; refine ⟨_, fun _ s => s, (by first | ((repeat first | exact fun _ s => s | apply en_keep | apply en_drop | apply en_app) <;> fail) | ((repeat first | exact en_refl | (apply en_blk; focus ((repeat' first | exact Pick.here | apply Pick.skip | apply Pick.app); done); focus rfl) | (apply en_own; focus ((repeat' first | exact Pick.here | apply Pick.skip | apply Pick.app); done); focus rfl) | (apply en_pick; focus ((repeat' first | exact Pick.here | apply Pick.skip | apply Pick.app); done)) | apply en_drop | apply en_app) <;> fail)), ?_⟩
  refine RS_e (RE_eff_yes rfl rfl rfl ⟨_, rfl, rfl⟩ rfl (eff_call rfl (Same_ctr B5 A7 _ _ e6 c7 q3 q3 _ (Rd.skip (Rc.own (flat_length _) u1)) (j3 _) (by omega))) ?_); rintro _ _ ⟨rfl, rfl⟩; refine ⟨_, fun _ s => s, (by first | ((repeat first | exact fun _ s => s | apply en_keep | apply en_drop | apply en_app) <;> fail) | ((repeat first | exact en_refl | (apply en_blk; focus ((repeat' first | exact Pick.here | apply Pick.skip | apply Pick.app); done); focus rfl) | (apply en_own; focus ((repeat' first | exact Pick.here | apply Pick.skip | apply Pick.app); done); focus rfl) | (apply en_pick; focus ((repeat' first | exact Pick.here | apply Pick.skip | apply Pick.app); done)) | apply en_drop | apply en_app) <;> fail)), ?_⟩
  refine RS_m retB_noPanic rfl rfl rfl rfl (ev_pick_t rfl rfl rfl) ?_
  refine RS_m retB_noPanic rfl rfl rfl rfl (ev_move rfl) ?_
  refine RS_m_yes retB_noPanic rfl rfl rfl rfl ⟨_, rfl, (decide_eq_true rfl)⟩ rfl (ev_move rfl) ?_
  refine RS_m_yes retB_noPanic rfl rfl rfl rfl ⟨_, rfl, (decide_eq_true rfl)⟩ rfl (ev_move rfl) ?_
  refine RS_m_yes retB_noPanic rfl rfl rfl rfl ⟨_, rfl, (decide_eq_true rfl)⟩ rfl (ev_move rfl) ?_
  refine RS_e (RE_eff_yes rfl rfl rfl ⟨_, rfl, (decide_eq_true rfl)⟩ rfl (eff_call rfl (cSt _ (by repeat' first | exact hT | apply TIn.skip))) ?_); rintro _ _ ⟨A8, c8, rfl, v1, rfl⟩; refine ⟨_, fun _ s => s, (by first | ((repeat first | exact fun _ s => s | apply en_keep | apply en_drop | apply en_app) <;> fail) | ((repeat first | exact en_refl | (apply en_blk; focus ((repeat' first | exact Pick.here | apply Pick.skip | apply Pick.app); done); focus rfl) | (apply en_own; focus ((repeat' first | exact Pick.here | apply Pick.skip | apply Pick.app); done); focus rfl) | (apply en_pick; focus ((repeat' first | exact Pick.here | apply Pick.skip | apply Pick.app); done)) | apply en_drop | apply en_app) <;> fail)), ?_⟩
  refine RS_e (RE_eff_yes rfl rfl rfl ⟨_, rfl, (decide_eq_true rfl)⟩ rfl (eff_call rfl (cI _ (by repeat' first | exact LdN.blk rfl | assumption | apply LdN.skip | apply LdN.app) (by repeat' first | exact hr4 _ | apply Rd.skip))) ?_); rintro _ _ ⟨B6, e7, rfl, ⟨w1, w2, w3⟩, rfl⟩; refine ⟨_, fun _ s => s, (by first | ((repeat first | exact fun _ s => s | apply en_keep | apply en_drop | apply en_app) <;> fail) | ((repeat first | exact en_refl | (apply en_blk; focus ((repeat' first | exact Pick.here | apply Pick.skip | apply Pick.app); done); focus rfl) | (apply en_own; focus ((repeat' first | exact Pick.here | apply Pick.skip | apply Pick.app); done); focus rfl) | (apply en_pick; focus ((repeat' first | exact Pick.here | apply Pick.skip | apply Pick.app); done)) | apply en_drop | apply en_app) <;> fail)), ?_⟩
  refine RS_e (RE_eff_yes rfl rfl rfl ⟨_, rfl, (decide_eq_true rfl)⟩ rfl (eff_call rfl (Same_ctr A8 B6 _ _ c8 e7 q3 q3 _ (Rd.skip (Rc.own (flat_length _) v1)) (Rc.own (flat_length _) w1) (by omega))) ?_); rintro _ _ ⟨rfl, rfl⟩; refine ⟨_, fun _ s => s, (by first | ((repeat first | exact fun _ s => s | apply en_keep | apply en_drop | apply en_app) <;> fail) | ((repeat first | exact en_refl | (apply en_blk; focus ((repeat' first | exact Pick.here | apply Pick.skip | apply Pick.app); done); focus rfl) | (apply en_own; focus ((repeat' first | exact Pick.here | apply Pick.skip | apply Pick.app); done); focus rfl) | (apply en_pick; focus ((repeat' first | exact Pick.here | apply Pick.skip | apply Pick.app); done)) | apply en_drop | apply en_app) <;> fail)), ?_⟩
  refine RS_m retB_noPanic rfl rfl rfl rfl (ev_pick_t rfl (decide_eq_true rfl) rfl) ?_
  refine RS_m retB_noPanic rfl rfl rfl rfl (ev_move rfl) ?_
  refine RS_m_yes retB_noPanic rfl rfl rfl rfl ⟨_, rfl, (decide_eq_true rfl)⟩ rfl (ev_move rfl) ?_
  refine RS_m_yes retB_noPanic rfl rfl rfl rfl ⟨_, rfl, (decide_eq_true rfl)⟩ rfl (ev_move rfl) ?_
  (first | refine RS_m_yes retB_noPanic rfl rfl rfl rfl ⟨_, rfl, (decide_eq_true rfl)⟩ rfl (ev_nilCheck rfl) ?_ | refine RS_m_yes retB_noPanic rfl rfl rfl rfl ⟨_, rfl, (decide_eq_true rfl)⟩ rfl (ev_nilCheckF (by simp) rfl) ?_)
  refine RS_m_yes retB_noPanic rfl rfl rfl rfl ⟨_, rfl, (decide_eq_true rfl)⟩ rfl (ev_fieldAddr rfl) ?_
  refine RS_q_yes retB_noPanic rfl rfl rfl rfl ⟨_, rfl, (decide_eq_true rfl)⟩ rfl (ev_load rfl (by repeat' first | exact Ld.blk rfl | assumption | apply Ld.skip | apply Ld.app)) ?_
  refine RS_q_yes retB_noPanic rfl rfl rfl rfl ⟨_, rfl, (decide_eq_true rfl)⟩ rfl (ev_len rfl) ?_
  refine RS_m_yes retB_noPanic rfl rfl rfl rfl ⟨_, rfl, (decide_eq_true rfl)⟩ rfl (ev_mul rfl rfl (by first | omega | (simp; done) | (simp; omega))) ?_
  refine RS_m_yes retB_noPanic rfl rfl rfl rfl ⟨_, rfl, (decide_eq_true rfl)⟩ rfl (ev_move rfl) ?_
  (first | refine RS_m_yes retB_noPanic rfl rfl rfl rfl ⟨_, rfl, (decide_eq_true rfl)⟩ rfl (ev_nilCheck rfl) ?_ | refine RS_m_yes retB_noPanic rfl rfl rfl rfl ⟨_, rfl, (decide_eq_true rfl)⟩ rfl (ev_nilCheckF (by simp) rfl) ?_)
  refine RS_m_yes retB_noPanic rfl rfl rfl rfl ⟨_, rfl, (decide_eq_true rfl)⟩ rfl (ev_fieldAddr rfl) ?_
  refine RS_q_yes retB_noPanic rfl rfl rfl rfl ⟨_, rfl, (decide_eq_true rfl)⟩ rfl (ev_load rfl (by repeat' first | exact Ld.blk rfl | assumption | apply Ld.skip | apply Ld.app)) ?_
  refine RS_m_yes retB_noPanic rfl rfl rfl rfl ⟨_, rfl, (decide_eq_true rfl)⟩ rfl (ev_move rfl) ?_
  refine RS_e (RE_eff_yes rfl rfl rfl ⟨_, rfl, (decide_eq_true rfl)⟩ rfl (eff_call rfl (cSteps_ctr none _ (by repeat' first | exact LdN.blk rfl | assumption | apply LdN.skip | apply LdN.app))) ?_); rintro _ _ ⟨rfl, rfl⟩; refine ⟨_, fun _ s => s, (by first | ((repeat first | exact fun _ s => s | apply en_keep | apply en_drop | apply en_app) <;> fail) | ((repeat first | exact en_refl | (apply en_blk; focus ((repeat' first | exact Pick.here | apply Pick.skip | apply Pick.app); done); focus rfl) | (apply en_own; focus ((repeat' first | exact Pick.here | apply Pick.skip | apply Pick.app); done); focus rfl) | (apply en_pick; focus ((repeat' first | exact Pick.here | apply Pick.skip | apply Pick.app); done)) | apply en_drop | apply en_app) <;> fail)), ?_⟩
  refine RS_e (RE_eff_yes rfl rfl rfl ⟨_, rfl, (decide_eq_true rfl)⟩ rfl (eff_call rfl (cN _ (by repeat' first | exact Rc.blk rfl | assumption | apply Rd.skip | apply Rd.app))) ?_); rintro _ _ ⟨rfl, rfl⟩; refine ⟨_, fun _ s => s, (by first | ((repeat first | exact fun _ s => s | apply en_keep | apply en_drop | apply en_app) <;> fail) | ((repeat first | exact en_refl | (apply en_blk; focus ((repeat' first | exact Pick.here | apply Pick.skip | apply Pick.app); done); focus rfl) | (apply en_own; focus ((repeat' first | exact Pick.here | apply Pick.skip | apply Pick.app); done); focus rfl) | (apply en_pick; focus ((repeat' first | exact Pick.here | apply Pick.skip | apply Pick.app); done)) | apply en_drop | apply en_app) <;> fail)), ?_⟩
  refine RS_e (RE_eff_yes rfl rfl rfl ⟨_, rfl, (decide_eq_true rfl)⟩ rfl (eff_call rfl (cW _)) ?_); rintro _ _ ⟨rfl, rfl⟩; refine ⟨_, fun _ s => s, (by first | ((repeat first | exact fun _ s => s | apply en_keep | apply en_drop | apply en_app) <;> fail) | ((repeat first | exact en_refl | (apply en_blk; focus ((repeat' first | exact Pick.here | apply Pick.skip | apply Pick.app); done); focus rfl) | (apply en_own; focus ((repeat' first | exact Pick.here | apply Pick.skip | apply Pick.app); done); focus rfl) | (apply en_pick; focus ((repeat' first | exact Pick.here | apply Pick.skip | apply Pick.app); done)) | apply en_drop | apply en_app) <;> fail)), ?_⟩
  refine RS_m_yes retB_noPanic rfl rfl rfl rfl ⟨_, rfl, (decide_eq_true rfl)⟩ rfl (ev_eql rfl rfl) ?_
  refine RS_m retB_noPanic rfl rfl rfl rfl (ev_pick_t rfl (decide_eq_true rfl) rfl) ?_
  refine RS_m retB_noPanic rfl rfl rfl rfl (ev_move rfl) ?_
  refine RS_e (RE_eff_yes rfl rfl rfl ⟨_, rfl, (decide_eq_true (by omega))⟩ rfl (eff_call rfl (lives23_ctr _)) ?_); rintro _ _ ⟨rfl, X9, rfl⟩; refine ⟨_, fun _ s => s, (by first | ((repeat first | exact fun _ s => s | apply en_keep | apply en_drop | apply en_app) <;> fail) | ((repeat first | exact en_refl | (apply en_blk; focus ((repeat' first | exact Pick.here | apply Pick.skip | apply Pick.app); done); focus rfl) | (apply en_own; focus ((repeat' first | exact Pick.here | apply Pick.skip | apply Pick.app); done); focus rfl) | (apply en_pick; focus ((repeat' first | exact Pick.here | apply Pick.skip | apply Pick.app); done)) | apply en_drop | apply en_app) <;> fail)), ?_⟩
  refine RS_m retB_noPanic rfl rfl rfl rfl (ev_pick_t rfl (decide_eq_true (by omega)) rfl) ?_
  refine RS_m retB_noPanic rfl rfl rfl rfl (ev_assign rfl) ?_
  refine RS_nil ?_
  all_goals
    (repeat first | refine G_seq ?_ | refine G_skip ?_ | refine G_endblk ?_ | refine G_block ?_ | refine G_exit rfl ?_)
    refine G_heap (L' := F :: LL) (by (repeat first | exact fun _ s => s | apply en_keep | apply en_drop | apply en_app) <;> fail) ?_
    exact G_ret (L' := L) rfl (.tmp rfl .nil) (en_keep hdrop) ⟨rfl, rfl⟩
theorem segcurStabs_walk (A : Option Addr) (n c : Nat) (ns : List Int) (v kk : Int) (w : World) (hc : n ≤ c) (hc2 : c ≤ maxLen) (hb : Ints ns) (h1 : Reads w 5 A n (ints ns)) (hk : (Lit.int .u8 kk).wf = true) :
    Calls Tryz.prog 8 #[.slice A n c, .int .i64 v, .int .u8 kk] w fun e w' => e = .returned (.bool true) ∧ Below w.heap.size w w' := by
  obtain ⟨kn, rfl, hk2⟩ := bounds_u8 hk
  obtain ⟨l, hl, hk'⟩ := rd_acts h1 hb
  exact law_of_ctr (SegcurStabs_ctr A n c l v kn _ hl (by unfold maxLen at hc2; omega) hk' hk2)
end Go.Proofs.YtmgkmammkmlakaaGreat
