/- Texts of the law LogmApart, one behind the other. -/
import Derived.Test.YtkoncepjfgnjlaaGreatLogmApartM5
import Derived.Test.YtkoncepjfgnjlaaGreatLogmApartM1
/- The law LogmApart. -/
namespace Go.Proofs.YtkoncepjfgnjlaaGreat
attribute [local irreducible] sat
open Go.RowKit
set_option linter.unusedVariables false
set_option linter.unusedSectionVars false
set_option linter.unusedSimpArgs false
set_option maxRecDepth 100000

def TSz : Nat → List (Option RTr) → Prop
  | _, [] => True
  | j, o :: ts => ((opts o).length = 0 ∨ (opts o).length = 2 ^ j) ∧ TSz (j + 1) ts
theorem TSz.of : ∀ {ts : List (Option RTr)} {ls : List (List Pt)} {j : Nat}, Cor ts ls → Szs j ls → TSz j ts
  | [], _, _, _, _ => trivial
  | _ :: _, [], _, h, _ => by cases h.len
  | o :: ts, l :: ls, j, h, ⟨h1, h2⟩ => by
    have e1 : opts o = srtO Pt.less l := (List.cons.inj h).1
    have e2 : Cor ts ls := (List.cons.inj h).2
    exact ⟨by rw [e1, srtO_length]; exact h1, TSz.of e2 h2⟩
theorem TSz.up : ∀ {ts : List (Option RTr)} {j : Nat}, TSz j ts → (∀ x ∈ liv ts, 2 ^ j ≤ x.l.length) ∧ (liv ts).Pairwise fun x y => x.l.length < y.l.length
  | [], _, _ => ⟨by simp [liv], by simp [liv]⟩
  | o :: ts, j, ⟨h1, h2⟩ => by
    obtain ⟨i1, i2⟩ := TSz.up h2
    have hp : 2 ^ (j + 1) = 2 * 2 ^ j := by rw [Nat.pow_succ]; omega
    have hpos : 0 < 2 ^ j := Nat.pow_pos (by decide)
    rw [liv_cons]
    cases o with
    | none => exact ⟨fun x hx => by have := i1 x (by simpa using hx); omega, by simpa using i2⟩
    | some y =>
      simp only [opts] at h1
      simp only
      split
      · have hy : y.l.length = 2 ^ j := by omega
        refine ⟨fun x hx => ?_, ?_⟩
        · rcases List.mem_cons.1 (by simpa using hx) with rfl | hx
          · omega
          · have := i1 x hx; omega
        · rw [List.singleton_append, List.pairwise_cons]
          exact ⟨fun x hx => by have := i1 x hx; omega, i2⟩
      · exact ⟨fun x hx => by have := i1 x (by simpa using hx); omega, by simpa using i2⟩
theorem liv_pos {ts : List (Option RTr)} {x : RTr} (h : x ∈ liv ts) : 0 < x.l.length := by
  have := (List.mem_filter.1 h).2
  simpa using this
theorem sum_flat (xs : List RTr) : (xs.map fun x => x.l.length).sum = (xs.flatMap (·.l)).length := by
  induction xs with
  | nil => rfl
  | cons x xs ih => rw [List.map_cons, List.sum_cons, List.flatMap_cons, List.length_append, ih]
theorem sum_take {xs : List RTr} {k : Nat} {x : RTr} (h : xs[k]? = some x) : ((xs.take (k + 1)).map fun x => x.l.length).sum = ((xs.take k).map fun x => x.l.length).sum + x.l.length := by
  rw [List.take_add_one, h]; simp
theorem LogmApart_ctr (A : Option Addr) (n c : Nat) (acts : List Ac) (w : Bx) (L : List HP) (hl : Rd L A n acts) (hn : n ≤ 9223372036854775807) (ha : ∀ a ∈ acts, a.at_ ≤ 9223372036854775807) :
    Ctr Tryz.prog 6 #[.slice A n c, w.v] L fun v L' => v = .bool true ∧ L' = L := by
  have h1 : acts.length = n := hl.len (by decide)
  refine Ctr_of (fn := Tryz.f6) (n := 130) Tryz.func6 rfl rfl rfl ?_
  intro g F
  refine GN ?_
  refine G_region ?_
  refine GE (eff_box rfl) ?_; rintro _ _ ⟨b3, rfl, rfl⟩
  refine GQ (ev_assign rfl) ?_
  refine GO_nil ?_
  refine GN ?_
  refine G_region ?_
  refine GE (eff_call rfl (lgNewF_ctr 60 _ (by decide) (by decide))) ?_; rintro _ _ ⟨t, rfl, rfl⟩
  refine GQ (ev_move rfl) ?_
  refine GQ (ev_extract rfl rfl) ?_
  refine GQ (ev_extract rfl rfl) ?_
  refine GQ (ev_assign rfl) ?_
  refine GQ (ev_assign rfl) ?_
  refine GO_nil ?_
  refine GN ?_
  refine G_region ?_
  refine GQ (ev_move rfl) ?_
  (first | refine GQ (ev_eqlNil rfl rfl) ?_ | refine GQ (ev_eqlPtr rfl rfl) ?_)
  refine GQ (ev_move rfl) ?_
  refine GO_yes rfl rfl rfl rfl ?_
  refine GQ (ev_move rfl) ?_
  refine GO_yes rfl rfl rfl rfl ?_
  refine GQ (ev_neq rfl rfl) ?_
  refine GQ (ev_pick_f rfl rfl rfl) ?_
  refine GO_nil ?_
  refine GN ?_
  refine G_cond_f rfl rfl ?_
  refine GN ?_
  refine G_region ?_
  refine GQ (ev_build rfl rfl) ?_
  refine GE (eff_box rfl) ?_; rintro _ _ ⟨b25, rfl, rfl⟩
  refine GQ (ev_assign rfl) ?_
  refine GO_nil ?_
  refine GN ?_
  refine G_region ?_
  refine GQ (ev_assign rfl) ?_
  refine GO_nil ?_
  (repeat first | refine G_seq ?_ | refine G_skip ?_ | refine G_endblk ?_)
  refine G_cut (ι := LgS) (fun _ => [(3, .pointer (some ⟨b3, 0, none⟩)), (5, .pointer (some ⟨t, 0, none⟩)), (7, .pointer (some ⟨b25, 0, none⟩))]) (fun S => lgF t 60 S :: rfF b25 60 S :: blk b3 35 [.int .i64 w.x1, .int .i64 w.x2, .int .i64 w.y1, .int .i64 w.y2] :: F :: L) (fun S => LgOk S 70) ?_ ?_
  · refine GN ?_
    refine G_loop (ι := Nat) (fun k => [(0, .slice A n c), (3, .pointer (some ⟨b3, 0, none⟩)), (5, .pointer (some ⟨t, 0, none⟩)), (7, .pointer (some ⟨b25, 0, none⟩)), (8, .int .i64 (k : Nat))]) (fun k => lgF t 60 (playS 60 (acts.take k)) :: rfF b25 60 (playS 60 (acts.take k)) :: blk b3 35 [.int .i64 w.x1, .int .i64 w.x2, .int .i64 w.y1, .int .i64 w.y2] :: F :: L)
      (fun k => k ≤ n ∧ k ≤ 70) (fun k => n - k) 0 ⟨Nat.zero_le _, Nat.zero_le _⟩ ⟨rfl, rfl, rfl, rfl, rfl, trivial⟩ (by (repeat first | exact en_refl | apply en_rf0 | (apply en_blk; focus ((repeat' first | exact Pick.here | apply Pick.skip | apply Pick.app); done); focus rfl) | (apply en_own; focus ((repeat' first | exact Pick.here | apply Pick.skip | apply Pick.app); done); focus rfl) | (apply en_pick; focus ((repeat' first | exact Pick.here | apply Pick.skip | apply Pick.app); done)) | apply en_drop | apply en_app) <;> fail) ?_
    rintro k ⟨f1, f2⟩
    have ok := playS_ok 60 acts k (by omega) (by omega)
    by_cases c1 : k < n ∧ k < 70
    · obtain ⟨lb, lo, rfl, hx⟩ := hl.at_ (by omega)
      have g1 : acts[k]? = some acts[k] := List.getElem?_eq_getElem (by omega)
      have y1 := hx _ _ g1
      have s1 := playS_succ 60 acts k (by omega)
      have m1 := ha acts[k] (List.getElem_mem _)
      generalize playS 60 (acts.take k) = S at *
      generalize acts[k] = u at *
      have z1 : LdN L lb (lo + k * 5) 5 [.int .i64 u.kind, .int .i64 u.at_, .int .i64 u.p.id, .int .i64 u.p.x, .int .i64 u.p.y] := y1
      have D := fun M => does19_ctr t b25 60 S u k M ok (by omega) m1
      refine GN ?_
      refine G_region ?_
      refine GQ (ev_move rfl) ?_
      refine GQ (ev_move rfl) ?_
      refine GQ (ev_len rfl) ?_
      (first | refine GQ (ev_lssN rfl rfl) ?_ | refine GQ (ev_lss rfl rfl) ?_)
      refine GQ (ev_move rfl) ?_
      refine GO_yes rfl rfl rfl (decide_eq_true (by omega)) ?_
      refine GQ (ev_move rfl) ?_
      refine GO_yes rfl rfl rfl (decide_eq_true (by omega)) ?_
      (first | refine GQ (ev_lssN (q := 70) rfl rfl) ?_ | refine GQ (ev_lss rfl rfl) ?_)
      refine GQ (ev_pick_t rfl (decide_eq_true (by omega)) rfl) ?_
      refine GO_nil ?_
      refine GN ?_
      refine G_cond_t rfl (decide_eq_true (by omega)) ?_
      refine GN ?_
      refine G_region ?_
      refine GQ (ev_move rfl) ?_
      refine GQ (ev_move rfl) ?_
      refine GQ (ev_move rfl) ?_
      refine GQ (ev_move rfl) ?_
      (first | refine GQ (ev_indexAddrN rfl rfl NgA) ?_ | refine GQ (ev_indexAddr rfl rfl NgA NgA) ?_)
      refine GQ (ev_loadN rfl LnA) ?_
      refine GE (eff_call rfl (Ctr.pre (M := lgF t 60 S :: rfF b25 60 S :: blk b3 35 [.int .i64 w.x1, .int .i64 w.x2, .int .i64 w.y1, .int .i64 w.y2] :: F :: L) EpA (D _))) ?_; rintro _ _ ⟨rfl, rfl⟩
      refine GO_nil ?_
      refine GN ?_
      refine G_region ?_
      refine GQ (ev_move rfl) ?_
      (first | refine GQ (ev_addN (q := 1) rfl rfl NgA) ?_ | refine GQ (ev_add rfl rfl NgA) ?_)
      refine GQ (ev_assign rfl) ?_
      refine GO_nil ?_
      refine GN ?_
      refine G_round (k + 1) ⟨by omega, by omega⟩ (by omega) ⟨rfl, rfl, rfl, rfl, rfl, trivial⟩ ?_
      rw [s1]
      exact EpA
    · by_cases c2 : k < n
      case' pos =>
        refine GN ?_
        refine G_region ?_
        refine GQ (ev_move rfl) ?_
        refine GQ (ev_move rfl) ?_
        refine GQ (ev_len rfl) ?_
        (first | refine GQ (ev_lssN rfl rfl) ?_ | refine GQ (ev_lss rfl rfl) ?_)
        refine GQ (ev_move rfl) ?_
        refine GO_yes rfl rfl rfl (decide_eq_true (by omega)) ?_
        refine GQ (ev_move rfl) ?_
        refine GO_yes rfl rfl rfl (decide_eq_true (by omega)) ?_
        (first | refine GQ (ev_lssN (q := 70) rfl rfl) ?_ | refine GQ (ev_lss rfl rfl) ?_)
        refine GQ (ev_pick_t rfl (decide_eq_true (by omega)) rfl) ?_
        refine GO_nil ?_
        refine GN ?_
        refine G_cond_f rfl (decide_eq_false (by omega)) ?_
      case' neg =>
        refine GN ?_
        refine G_region ?_
        refine GQ (ev_move rfl) ?_
        refine GQ (ev_move rfl) ?_
        refine GQ (ev_len rfl) ?_
        (first | refine GQ (ev_lssN rfl rfl) ?_ | refine GQ (ev_lss rfl rfl) ?_)
        refine GQ (ev_move rfl) ?_
        refine GO_no rfl rfl rfl (decide_eq_false (by omega)) ?_
        refine GO_no rfl rfl rfl (decide_eq_false (by omega)) ?_
        refine GQ (ev_pick_f rfl (decide_eq_false (by omega)) rfl) ?_
        refine GO_nil ?_
        refine GN ?_
        refine G_cond_f rfl rfl ?_
      all_goals
        refine GN ?_
        exact G_inv (playS 60 (acts.take k)) (ok.up f2) ⟨rfl, rfl, rfl, trivial⟩ EnA
  · intro S ok
    have htot := ok.tot
    have hl10 := ok.ll (by omega)
    have hll := ok.live_len
    refine G_lg fun x hx => ?_
    refine G_heap (L' := rfF b25 60 S :: lgO t 60 x S (blk b3 35 [.int .i64 w.x1, .int .i64 w.x2, .int .i64 w.y1, .int .i64 w.y2] :: F :: L)) EpA ?_
    refine G_rf fun y hy => ?_
    have hcl := hx.cor.len
    have hTr := fun M h hr ht => JTrees_ctr (s := t) (most := 60) (L := M) hx h hr ht (by omega)
    have hats := hx.toLgI.liv (L := [])
    have hol := hx.toLgI.oLen htot
    have hlk := hx.toLgI.lk (m := 70) (by omega) (by omega) w
    have hll2 := liv_len x.ts
    have hxl : ∀ r ∈ liv x.ts, r.l.length ≤ 1000 := fun r hr => by have := hol _ (liv_mem hr); simp only [opts] at this; omega
    have hup := (TSz.of hx.cor ok.sz).up.2
    have hpos : ∀ r ∈ liv x.ts, 0 < r.l.length := fun r hr => liv_pos hr
    have hsum : ((liv x.ts).map fun r => r.l.length).sum = S.live.length + S.d.length := by
      rw [sum_flat, liv_flat, hx.cor.flat.length_eq]; omega
    have hfl := (hx.toLgI.fnd ok.nd w).length_eq
    have hfr := hx.toLgI.report ok.nd w
    rw [hx.toLgI.dead w] at hfr
    have hdl : (ded w x.M).length ≤ x.M.length := by unfold ded; rw [List.length_map]; exact List.length_filter_le ..
    have hml := hx.mp.len
    have hvl : ((S.live.filter (inB w)).map (·.id)).length ≤ S.live.length := by rw [List.length_map]; exact List.length_filter_le ..
    rw [List.length_append] at hfl
    have htb : (fndR w (begs w (liv x.ts))).length ≤ 1000 := by omega
    have hrep := fun A2 c2 M hX h2 => rcReport_ctr w A2 (liv x.ts).length c2 (liv x.ts) M [pk x.N] hX h2 (by omega) hats hxl (by omega)
    generalize liv x.ts = xs at *
    generalize fndR w (begs w xs) = tot at *
    generalize lkR w (begs w xs) = r at *
    have hst := fun a M hX => rcStep_ctr a r 0 w true tot [pk x.N] M 10000 hX (by omega) (by omega)
    rw [show min (Int.toNat 10000) r = r from by have : Int.toNat 10000 = 10000 := rfl; omega, Nat.sub_self, Nat.zero_add] at hst
    refine GN ?_
    refine G_region ?_
    refine GQ (ev_move rfl) ?_
    refine GE (eff_call rfl (hTr _ LnA (by repeat' first | exact Rc.own (flat_length _) hx.A | apply Rd.skip) (fun o ho ↦ by repeat' first | exact hx.ats o ho | apply oat.skip))) ?_; rintro _ _ ⟨A9, c9, rfl, hA9, rfl⟩
    refine GQ (ev_assign rfl) ?_
    refine GQ (ev_assign rfl) ?_
    refine GO_nil ?_
    refine GN ?_
    refine G_region ?_
    refine GQ (ev_loadN rfl LnA) ?_
    refine GQ (ev_move rfl) ?_
    refine GE (eff_call rfl (hrep A9 c9 _ (by (repeat first | exact en_refl | exact en_none | (apply en_blk; focus ((repeat' first | exact Pick.here | apply Pick.skip | apply Pick.app); done); focus rfl) | (apply en_own; focus ((repeat' first | exact Pick.here | apply Pick.skip | apply Pick.app); done); focus rfl) | (apply en_pick; focus ((repeat' first | exact Pick.here | apply Pick.skip | apply Pick.app); done)) | apply en_drop | apply en_app) <;> fail) (by repeat' first | exact Rc.own (flat_length _) hA9 | apply Rd.skip))) ?_; rintro _ _ ⟨a, rfl, rfl⟩
    refine GQ (ev_assign rfl) ?_
    refine GO_nil ?_
    refine GN ?_
    refine G_region ?_
    refine GQ (ev_move rfl) ?_
    refine GE (eff_call rfl (Ctr.pick PkA (hst a _ (by (repeat first | exact en_refl | exact en_none | (apply en_blk; focus ((repeat' first | exact Pick.here | apply Pick.skip | apply Pick.app); done); focus rfl) | (apply en_own; focus ((repeat' first | exact Pick.here | apply Pick.skip | apply Pick.app); done); focus rfl) | (apply en_pick; focus ((repeat' first | exact Pick.here | apply Pick.skip | apply Pick.app); done)) | apply en_drop | apply en_app) <;> fail)))) ?_; rintro _ _ ⟨rfl, rfl⟩
    refine GO_nil ?_
    refine G_heap (L' := rcP a w true tot [pk x.N] 0 r :: own 63 1 A9 xs.length c9 (flat xs) :: lgO t 60 x S (rfO b25 60 y S (blk b3 35 [.int .i64 w.x1, .int .i64 w.x2, .int .i64 w.y1, .int .i64 w.y2] :: F :: L))) EpA ?_
    have hxr : ∀ X, Rd (own 63 1 A9 xs.length c9 (flat xs) :: X) A9 xs.length xs := fun X => Rc.own (flat_length _) hA9
    have hat2 : ∀ X, ∀ q ∈ xs, q.at_ (pk x.N :: X) := fun X q hq => TR.mono (fun h s => by revert s; revert h; exact (by (repeat first | exact en_refl | exact en_none | (apply en_blk; focus ((repeat' first | exact Pick.here | apply Pick.skip | apply Pick.app); done); focus rfl) | (apply en_own; focus ((repeat' first | exact Pick.here | apply Pick.skip | apply Pick.app); done); focus rfl) | (apply en_pick; focus ((repeat' first | exact Pick.here | apply Pick.skip | apply Pick.app); done)) | apply en_drop | apply en_app) <;> fail)) (hats q hq)
    refine GN ?_
    refine G_region ?_
    refine GQ (ev_assign rfl) ?_
    refine GO_nil ?_
    (repeat first | refine G_seq ?_ | refine G_skip ?_ | refine G_endblk ?_)
    refine G_cut (ι := Unit) (fun _ => [(3, .pointer (some ⟨b3, 0, none⟩)), (5, .pointer (some ⟨t, 0, none⟩)), (7, .pointer (some ⟨b25, 0, none⟩)), (10, .int .i64 ((S.live.length + S.d.length : Nat) : Int)), (11, .pointer (some ⟨a, 0, none⟩))]) (fun _ => rcP a w true tot [pk x.N] 0 r :: own 63 1 A9 xs.length c9 (flat xs) :: lgO t 60 x S (rfO b25 60 y S (blk b3 35 [.int .i64 w.x1, .int .i64 w.x2, .int .i64 w.y1, .int .i64 w.y2] :: F :: L))) (fun _ => True) ?_ ?_
    · refine GN ?_
      refine G_loop (ι := Nat) (fun i => [(3, .pointer (some ⟨b3, 0, none⟩)), (5, .pointer (some ⟨t, 0, none⟩)), (7, .pointer (some ⟨b25, 0, none⟩)), (9, .slice A9 xs.length c9), (10, .int .i64 (((xs.take i).map fun q => q.l.length).sum : Nat)), (11, .pointer (some ⟨a, 0, none⟩)), (12, .int .i64 (i : Nat))]) (fun _ => rcP a w true tot [pk x.N] 0 r :: own 63 1 A9 xs.length c9 (flat xs) :: lgO t 60 x S (rfO b25 60 y S (blk b3 35 [.int .i64 w.x1, .int .i64 w.x2, .int .i64 w.y1, .int .i64 w.y2] :: F :: L))) (fun i => i ≤ xs.length ∧ ((xs.take i).map fun q => q.l.length).sum ≤ 1000 * i) (fun i => xs.length - i) 0 ⟨Nat.zero_le _, Nat.le_refl _⟩ ⟨rfl, rfl, rfl, rfl, rfl, rfl, rfl, trivial⟩ EnA ?_
      rintro i ⟨f1, f2⟩
      by_cases c1 : i < xs.length
      · obtain ⟨ab, rfl⟩ := hA9 (by omega)
        have g1 : xs[i]? = some xs[i] := List.getElem?_eq_getElem c1
        have z1 : ∀ X, Ld (own 63 1 (some ⟨ab, 0, none⟩) xs.length c9 (flat xs) :: X) ⟨ab, 0 + i * 1, none⟩ (.pointer (some ⟨xs[i].t, 0, none⟩)) := fun X => by
          obtain ⟨_, _, e9, hq⟩ := (hxr X).at_ (by omega)
          cases e9
          exact (hq _ _ g1).at_ (i := 0) rfl
        have m1 := fun X => hat2 X xs[i] (List.getElem_mem _)
        have m2 := hpos xs[i] (List.getElem_mem _)
        have m3 := hxl xs[i] (List.getElem_mem _)
        have s1 := sum_take g1
        have hlt : ∀ (h : 0 < i), xs[i - 1].l.length < xs[i].l.length := fun h => List.pairwise_iff_getElem.1 hup (i - 1) i (by omega) c1 (by omega)
        have hLn := fun M (hM : TR M xs[i].t xs[i].T xs[i].A xs[i].c xs[i].l) => tLen_ctr hM
        by_cases c0 : 0 < i
        · have g2 : xs[i - 1]? = some xs[i - 1] := List.getElem?_eq_getElem (by omega)
          have z2 : ∀ X, Ld (own 63 1 (some ⟨ab, 0, none⟩) xs.length c9 (flat xs) :: X) ⟨ab, 0 + (i - 1) * 1, none⟩ (.pointer (some ⟨xs[i - 1].t, 0, none⟩)) := fun X => by
            obtain ⟨_, _, e9, hq⟩ := (hxr X).at_ (by omega)
            cases e9
            exact (hq _ _ g2).at_ (i := 0) rfl
          have n1 := fun X => hat2 X xs[i - 1] (List.getElem_mem _)
          have hLn2 := fun M (hM : TR M xs[i - 1].t xs[i - 1].T xs[i - 1].A xs[i - 1].c xs[i - 1].l) => tLen_ctr hM
          replace hlt := hlt c0
          generalize xs[i - 1] = u at *
          generalize xs[i] = q at *
          have m1 : ∀ X, TR (pk x.N :: X) q.t q.T q.A q.c q.l := m1
          have n1 : ∀ X, TR (pk x.N :: X) u.t u.T u.A u.c u.l := n1
          refine GN ?_
          refine G_region ?_
          refine GQ (ev_move rfl) ?_
          refine GQ (ev_move rfl) ?_
          refine GQ (ev_len rfl) ?_
          (first | refine GQ (ev_lssN rfl rfl) ?_ | refine GQ (ev_lss rfl rfl) ?_)
          refine GO_nil ?_
          refine GN ?_
          refine G_cond_t rfl (decide_eq_true (by omega)) ?_
          refine GN ?_
          refine G_region ?_
          refine GQ (ev_move rfl) ?_
          refine GQ (ev_move rfl) ?_
          refine GQ (ev_move rfl) ?_
          refine GQ (ev_indexAddrN rfl rfl (by omega)) ?_
          refine GQ (ev_load rfl (by repeat' first | exact z1 _ | apply Ld.skip)) ?_
          refine GE (eff_call rfl (hLn _ (by repeat' first | exact m1 _ | apply TR.skip))) ?_; rintro _ _ ⟨rfl, rfl⟩
          (first | refine GQ (ev_addN rfl rfl NgA) ?_ | refine GQ (ev_add rfl rfl NgA) ?_)
          refine GQ (ev_assign rfl) ?_
          refine GO_nil ?_
          refine GN ?_
          refine G_draw (.q 0 (.q 1 (.q 2 (.q 3 (.e 4 (.q 5 (.q 6 (.q 7 (.q 8 (.q 9 (.q 10 (.q 11 (.q 12 (.q 13 (.q 15 (.q 16 (.q 17 (.q 18 (.q 19 (.e 14 (.e 20 (.q 21 (.q 22 (.q 23 .nil)))))))))))))))))))))))) (by kernel_rfl) (by kernel_rfl) ?_
          refine RM rfl (ev_move rfl) ?_
          refine RM rfl (ev_move rfl) ?_
          refine RM rfl (ev_indexAddrN rfl rfl (by omega)) ?_
          refine RQ rfl (ev_load rfl (by repeat' first | exact z1 _ | apply Ld.skip)) ?_
          refine RS_e (RE_eff rfl rfl rfl (eff_call rfl (hLn _ (by repeat' first | exact m1 _ | apply TR.skip))) ?_); rintro _ _ ⟨rfl, rfl⟩; refine ⟨_, fun _ s => s, ExA, ?_⟩
          refine RM rfl (ev_eql rfl rfl) ?_
          refine RM rfl (ev_move rfl) ?_
          refine RS_m_yes retB_noPanic rfl rfl rfl rfl ⟨_, rfl, (decide_eq_false (by omega))⟩ rfl (ev_move rfl) ?_
          refine RS_m_yes retB_noPanic rfl rfl rfl rfl ⟨_, rfl, (decide_eq_false (by omega))⟩ rfl (ev_gtr rfl rfl) ?_
          refine RS_m_yes retB_noPanic rfl rfl rfl rfl ⟨_, rfl, (decide_eq_false (by omega))⟩ rfl (ev_move rfl) ?_
          refine RS_m_yes retB_noPanic rfl rfl rfl rfl ⟨_, rfl, (decide_eq_true (by omega))⟩ rfl (ev_move rfl) ?_
          refine RS_m_yes retB_noPanic rfl rfl rfl rfl ⟨_, rfl, (decide_eq_true (by omega))⟩ rfl (ev_move rfl) ?_
          refine RS_m_yes retB_noPanic rfl rfl rfl rfl ⟨_, rfl, (decide_eq_true (by omega))⟩ rfl (ev_indexAddrN rfl rfl (by omega)) ?_
          refine RS_q_yes retB_noPanic rfl rfl rfl rfl ⟨_, rfl, (decide_eq_true (by omega))⟩ rfl (ev_load rfl (by repeat' first | exact z1 _ | apply Ld.skip)) ?_
          refine RS_m_yes retB_noPanic rfl rfl rfl rfl ⟨_, rfl, (decide_eq_true (by omega))⟩ rfl (ev_move rfl) ?_
          refine RS_m_yes retB_noPanic rfl rfl rfl rfl ⟨_, rfl, (decide_eq_true (by omega))⟩ rfl (ev_move rfl) ?_
          refine RS_m_yes retB_noPanic rfl rfl rfl rfl ⟨_, rfl, (decide_eq_true (by omega))⟩ rfl (ev_subN (q := 1) rfl rfl (by omega)) ?_
          refine RS_m_yes retB_noPanic rfl rfl rfl rfl ⟨_, rfl, (decide_eq_true (by omega))⟩ rfl (ev_indexAddrN rfl rfl (by omega)) ?_
          refine RS_q_yes retB_noPanic rfl rfl rfl rfl ⟨_, rfl, (decide_eq_true (by omega))⟩ rfl (ev_load rfl (by repeat' first | exact z2 _ | apply Ld.skip)) ?_
          refine RS_e (RE_eff_yes rfl rfl rfl ⟨_, rfl, (decide_eq_true (by omega))⟩ rfl (eff_call rfl (hLn _ (by repeat' first | exact m1 _ | apply TR.skip))) ?_); rintro _ _ ⟨rfl, rfl⟩; refine ⟨_, fun _ s => s, ExA, ?_⟩
          refine RS_e (RE_eff_yes rfl rfl rfl ⟨_, rfl, (decide_eq_true (by omega))⟩ rfl (eff_call rfl (hLn2 _ (by repeat' first | exact n1 _ | apply TR.skip))) ?_); rintro _ _ ⟨rfl, rfl⟩; refine ⟨_, fun _ s => s, ExA, ?_⟩
          refine RS_m_yes retB_noPanic rfl rfl rfl rfl ⟨_, rfl, (decide_eq_true (by omega))⟩ rfl (ev_leq rfl rfl) ?_
          refine RS_m_yes retB_noPanic rfl rfl rfl rfl ⟨_, rfl, (decide_eq_false (by omega))⟩ rfl (ev_pick_t rfl (decide_eq_true (by omega)) rfl) ?_
          refine RM rfl (ev_pick_f rfl (decide_eq_false (by omega)) rfl) ?_
          refine RS_nil ?_
          refine GN ?_
          refine G_cond_f rfl (decide_eq_false (by omega)) ?_
          refine GN ?_
          refine GN ?_
          refine G_region ?_
          refine GQ (ev_move rfl) ?_
          (first | refine GQ (ev_addN (q := 1) rfl rfl NgA) ?_ | refine GQ (ev_add rfl rfl NgA) ?_)
          refine GQ (ev_assign rfl) ?_
          refine GO_nil ?_
          refine GN ?_
          exact G_round (i + 1) ⟨by omega, by rw [s1]; omega⟩ (by omega) ⟨rfl, rfl, rfl, rfl, by rw [s1]; rfl, rfl, rfl, trivial⟩ EnA
        · generalize xs[i] = q at *
          have m1 : ∀ X, TR (pk x.N :: X) q.t q.T q.A q.c q.l := m1
          refine GN ?_
          refine G_region ?_
          refine GQ (ev_move rfl) ?_
          refine GQ (ev_move rfl) ?_
          refine GQ (ev_len rfl) ?_
          (first | refine GQ (ev_lssN rfl rfl) ?_ | refine GQ (ev_lss rfl rfl) ?_)
          refine GO_nil ?_
          refine GN ?_
          refine G_cond_t rfl (decide_eq_true (by omega)) ?_
          refine GN ?_
          refine G_region ?_
          refine GQ (ev_move rfl) ?_
          refine GQ (ev_move rfl) ?_
          refine GQ (ev_move rfl) ?_
          refine GQ (ev_indexAddrN rfl rfl (by omega)) ?_
          refine GQ (ev_load rfl (by repeat' first | exact z1 _ | apply Ld.skip)) ?_
          refine GE (eff_call rfl (hLn _ (by repeat' first | exact m1 _ | apply TR.skip))) ?_; rintro _ _ ⟨rfl, rfl⟩
          (first | refine GQ (ev_addN rfl rfl NgA) ?_ | refine GQ (ev_add rfl rfl NgA) ?_)
          refine GQ (ev_assign rfl) ?_
          refine GO_nil ?_
          refine GN ?_
          refine G_draw (.q 0 (.q 1 (.q 2 (.q 3 (.e 4 (.q 5 (.q 6 (.q 7 (.q 8 (.q 9 (.q 10 (.q 11 (.q 12 (.q 13 (.q 15 (.q 16 (.q 17 (.q 18 (.q 19 (.e 14 (.e 20 (.q 21 (.q 22 (.q 23 .nil)))))))))))))))))))))))) (by kernel_rfl) (by kernel_rfl) ?_
          refine RM rfl (ev_move rfl) ?_
          refine RM rfl (ev_move rfl) ?_
          refine RM rfl (ev_indexAddrN rfl rfl (by omega)) ?_
          refine RQ rfl (ev_load rfl (by repeat' first | exact z1 _ | apply Ld.skip)) ?_
          refine RS_e (RE_eff rfl rfl rfl (eff_call rfl (hLn _ (by repeat' first | exact m1 _ | apply TR.skip))) ?_); rintro _ _ ⟨rfl, rfl⟩; refine ⟨_, fun _ s => s, ExA, ?_⟩
          refine RM rfl (ev_eql rfl rfl) ?_
          refine RM rfl (ev_move rfl) ?_
          refine RS_m_yes retB_noPanic rfl rfl rfl rfl ⟨_, rfl, (decide_eq_false (by omega))⟩ rfl (ev_move rfl) ?_
          refine RS_m_yes retB_noPanic rfl rfl rfl rfl ⟨_, rfl, (decide_eq_false (by omega))⟩ rfl (ev_gtr rfl rfl) ?_
          refine RS_m_yes retB_noPanic rfl rfl rfl rfl ⟨_, rfl, (decide_eq_false (by omega))⟩ rfl (ev_move rfl) ?_
          refine RS_q_no retB_noPanic rfl rfl rfl ⟨_, rfl, (decide_eq_false (by omega))⟩ rfl ?_
          refine RS_q_no retB_noPanic rfl rfl rfl ⟨_, rfl, (decide_eq_false (by omega))⟩ rfl ?_
          refine RS_q_no retB_noPanic rfl rfl rfl ⟨_, rfl, (decide_eq_false (by omega))⟩ rfl ?_
          refine RS_q_no retB_noPanic rfl rfl rfl ⟨_, rfl, (decide_eq_false (by omega))⟩ rfl ?_
          refine RS_q_no retB_noPanic rfl rfl rfl ⟨_, rfl, (decide_eq_false (by omega))⟩ rfl ?_
          refine RS_q_no retB_noPanic rfl rfl rfl ⟨_, rfl, (decide_eq_false (by omega))⟩ rfl ?_
          refine RS_q_no retB_noPanic rfl rfl rfl ⟨_, rfl, (decide_eq_false (by omega))⟩ rfl ?_
          refine RS_q_no retB_noPanic rfl rfl rfl ⟨_, rfl, (decide_eq_false (by omega))⟩ rfl ?_
          refine RS_q_no retB_noPanic rfl rfl rfl ⟨_, rfl, (decide_eq_false (by omega))⟩ rfl ?_
          refine RS_e (RE_no rfl rfl rfl ⟨_, rfl, (decide_eq_false (by omega))⟩ rfl ?_)
          refine RS_e (RE_no rfl rfl rfl ⟨_, rfl, (decide_eq_false (by omega))⟩ rfl ?_)
          refine RS_q_no retB_noPanic rfl rfl rfl ⟨_, rfl, (decide_eq_false (by omega))⟩ rfl ?_
          refine RS_m_yes retB_noPanic rfl rfl rfl rfl ⟨_, rfl, (decide_eq_false (by omega))⟩ rfl (ev_pick_f rfl (decide_eq_false (by omega)) rfl) ?_
          refine RM rfl (ev_pick_f rfl (decide_eq_false (by omega)) rfl) ?_
          refine RS_nil ?_
          refine GN ?_
          refine G_cond_f rfl rfl ?_
          refine GN ?_
          refine G_region ?_
          refine GQ (ev_move rfl) ?_
          (first | refine GQ (ev_addN (q := 1) rfl rfl NgA) ?_ | refine GQ (ev_add rfl rfl NgA) ?_)
          refine GQ (ev_assign rfl) ?_
          refine GO_nil ?_
          refine GN ?_
          exact G_round (i + 1) ⟨by omega, by rw [s1]; omega⟩ (by omega) ⟨rfl, rfl, rfl, rfl, by rw [s1]; rfl, rfl, rfl, trivial⟩ EnA
      · have e : i = xs.length := by omega
        subst e
        rw [List.take_length, hsum]
        refine GN ?_
        refine G_region ?_
        refine GQ (ev_move rfl) ?_
        refine GQ (ev_move rfl) ?_
        refine GQ (ev_len rfl) ?_
        (first | refine GQ (ev_lssN rfl rfl) ?_ | refine GQ (ev_lss rfl rfl) ?_)
        refine GO_nil ?_
        refine GN ?_
        refine G_cond_f rfl (decide_eq_false (by omega)) ?_
        refine GN ?_
        exact G_inv () trivial ⟨rfl, rfl, rfl, rfl, rfl, trivial⟩ EnA
    · rintro _ -
      have hql : ∀ X, Rd (own 38 1 y.A y.qs.length y.c (flat y.qs) :: X) y.A y.qs.length y.qs := fun X => Rc.own (flat_length _) hy.A
      have hin : ∀ X, ∀ q ∈ y.qs, q.at_ (pk y.N :: X) := fun X q hq => (hy.at_ q hq).pk
      have hdd : ∀ X, Rd (pk y.N :: X) y.D S.d.length S.d := fun X => Rd.pk hy.dd
      have hlive := fun M h1 h2 h3 h4 => KLive_ctr (r := b25) (most := 60) (L := M) hy h1 h2 h3 h4 ok.nd (by omega) (by omega) (by omega)
      have hRe := fun M h hr ht => JReport_ctr (s := t) (most := 60) (L := M) hx ok (by omega) h hr ht w
      have hDe := fun M h => JDead_ctr (s := t) (most := 60) (L := M) hx ok (by omega) h w
      have hR := fun b A c M h1 h2 => (RReport_ctr0 b A c 0 w S.live M h1 h2 (by omega)).y
      have hil : (idsB w S.live).length ≤ S.live.length := by rw [idsB_len]; exact List.length_filter_le ..
      have hdl : (idsB w S.d).length ≤ S.d.length := by rw [idsB_len]; exact List.length_filter_le ..
      have eR : srt (hits (fun p => w.has p.x p.y) S.live) = idsB w S.live := rfl
      rw [eR] at hR
      have hId := fun M => rcIDs_ctr a r w true tot [pk x.N] M (by omega)
      have hkl : (srt (kp true tot)).length ≤ 1000 := by rw [srt_length]; exact Nat.le_trans (kp_len true tot) htb
      have hLs := fun A B c d M h1 h2 => RLess18_ctr A B (srt (kp true tot)).length c (idsB w S.d).length d (srt (kp true tot)) (idsB w S.d) M h1 (by omega) h2 (by omega)
      have hLc := fun D d M h2 => rcLess_ctr a r w true tot [pk x.N] M (by omega) D (idsB w S.d).length d (idsB w S.d) h2 (by omega)
      rw [hfr] at hLs hLc
      unfold MadeC at hLs
      generalize idsB w S.live = ids at *
      generalize idsB w S.d = dds at *
      generalize S.live = lv at *
      generalize srt (kp true tot) = fnd at *
      refine GN ?_
      refine G_region ?_
      refine GQ (ev_move rfl) ?_
      refine GE (eff_call rfl (hlive _ (by repeat' first | exact LdN.blk rfl | apply LdN.skip) (by repeat' first | exact hql _ | apply Rd.skip) (fun q hq ↦ by repeat' first | exact hin _ q hq | apply QS.at_.skip) (by repeat' first | exact hdd _ | apply Rd.skip))) ?_; rintro _ _ ⟨bl, cl, rfl, k1, k2, rfl⟩
      refine GQ (ev_build rfl rfl) ?_
      refine GE (eff_box rfl) ?_; rintro _ _ ⟨b90, rfl, rfl⟩
      refine GQ (ev_assign rfl) ?_
      refine GO_nil ?_
      refine GN ?_
      refine G_draw (.q 0 (.q 1 (.q 2 (.q 3 (.q 4 (.q 5 (.q 6 (.q 7 (.q 8 (.q 9 (.q 10 (.q 11 (.q 12 (.q 13 (.q 14 (.q 16 (.q 17 (.q 20 (.q 21 (.e 15 (.e 18 (.e 19 (.e 22 (.e 23 (.q 24 (.q 25 (.q 26 (.q 27 (.q 28 (.q 31 (.q 32 (.e 29 (.e 30 (.e 33 (.e 34 (.q 35 (.q 36 (.e 37 (.q 38 (.q 39 .nil)))))))))))))))))))))))))))))))))))))))) (by kernel_rfl) (by kernel_rfl) ?_
      refine RM rfl (ev_move rfl) ?_
      refine RM rfl (ev_move rfl) ?_
      (first | refine RM rfl (ev_nilCheck rfl) ?_ | refine RM rfl (ev_nilCheckF (by simp) rfl) ?_)
      refine RM rfl (ev_fieldAddr rfl) ?_
      refine RQ rfl (ev_load rfl LdA) ?_
      refine RQ rfl (ev_len rfl) ?_
      refine RM rfl (ev_move rfl) ?_
      (first | refine RM rfl (ev_nilCheck rfl) ?_ | refine RM rfl (ev_nilCheckF (by simp) rfl) ?_)
      refine RM rfl (ev_fieldAddr rfl) ?_
      refine RQ rfl (ev_load rfl LdA) ?_
      refine RQ rfl (ev_len rfl) ?_
      (first | refine RM rfl (ev_addN rfl rfl NgA) ?_ | refine RM rfl (ev_add rfl rfl NgA) ?_)
      refine RM rfl (ev_eql rfl rfl) ?_
      refine RM rfl (ev_move rfl) ?_
      refine RS_m_yes retB_noPanic rfl rfl rfl rfl ⟨_, rfl, (decide_eq_true (by omega))⟩ rfl (ev_move rfl) ?_
      refine RS_m_yes retB_noPanic rfl rfl rfl rfl ⟨_, rfl, (decide_eq_true (by omega))⟩ rfl (ev_move rfl) ?_
      refine RS_q_yes retB_noPanic rfl rfl rfl rfl ⟨_, rfl, (decide_eq_true (by omega))⟩ rfl (ev_loadN rfl LnA) ?_
      refine RS_m_yes retB_noPanic rfl rfl rfl rfl ⟨_, rfl, (decide_eq_true (by omega))⟩ rfl (ev_move rfl) ?_
      refine RS_q_yes retB_noPanic rfl rfl rfl rfl ⟨_, rfl, (decide_eq_true (by omega))⟩ rfl (ev_loadN rfl LnA) ?_
      refine RS_e (RE_eff_yes rfl rfl rfl ⟨_, rfl, (decide_eq_true (by omega))⟩ rfl (eff_call rfl (Ctr.pick PkA (hId _))) ?_); rintro _ _ ⟨B1, e1, rfl, hB1, rfl⟩; refine ⟨_, fun _ s => s, ExA, ?_⟩
      refine RS_e (RE_eff_yes rfl rfl rfl ⟨_, rfl, (decide_eq_true (by omega))⟩ rfl (eff_call rfl (Ctr.pick PkA (hDe _ (by repeat' first | exact LdN.blk rfl | apply LdN.skip)))) ?_); rintro _ _ ⟨B2, e2, rfl, hB2, rfl⟩; refine ⟨_, fun _ s => s, ExA, ?_⟩
      refine RS_e (RE_eff_yes rfl rfl rfl ⟨_, rfl, (decide_eq_true (by omega))⟩ rfl (eff_call rfl (hLs B1 B2 e1 e2 _ (by repeat' first | exact Rc.own (flat_length _) hB1 | apply Rd.skip) (by repeat' first | exact Rc.own (flat_length _) hB2 | apply Rd.skip))) ?_); rintro _ _ ⟨B3, e3, rfl, hB3, hl3, hm3, rfl⟩; refine ⟨_, fun _ s => s, ExA, ?_⟩
      refine RS_e (RE_eff_yes rfl rfl rfl ⟨_, rfl, (decide_eq_true (by omega))⟩ rfl (eff_call rfl (hR b90 _ cl _ LnA (by repeat' first | exact Rc.own (flat_length _) (fun _ ↦ ⟨bl, rfl⟩) | apply Rd.skip))) ?_); rintro _ _ ⟨Y, A4, c4, rfl, i1, i2, i3, rfl⟩; refine ⟨_, fun _ s => s, ExA, ?_⟩
      refine RS_e (RE_eff_yes rfl rfl rfl ⟨_, rfl, (decide_eq_true (by omega))⟩ rfl (eff_call rfl (Same_ctr B3 A4 _ _ e3 c4 _ _ _ (by repeat' first | exact Rc.own (flat_length _) hB3 | apply Rd.skip) (by repeat' first | exact i3 _ | apply Rd.skip) (by omega))) ?_); rintro _ _ ⟨rfl, rfl⟩; refine ⟨_, fun _ s => s, ExA, ?_⟩
      refine RM rfl (ev_pick_t rfl (decide_eq_true (by omega)) rfl) ?_
      refine RM rfl (ev_move rfl) ?_
      refine RS_m_yes retB_noPanic rfl rfl rfl rfl ⟨_, rfl, (by simp)⟩ rfl (ev_move rfl) ?_
      refine RS_m_yes retB_noPanic rfl rfl rfl rfl ⟨_, rfl, (by simp)⟩ rfl (ev_move rfl) ?_
      refine RS_q_yes retB_noPanic rfl rfl rfl rfl ⟨_, rfl, (by simp)⟩ rfl (ev_loadN rfl LnA) ?_
      refine RS_m_yes retB_noPanic rfl rfl rfl rfl ⟨_, rfl, (by simp)⟩ rfl (ev_move rfl) ?_
      refine RS_q_yes retB_noPanic rfl rfl rfl rfl ⟨_, rfl, (by simp)⟩ rfl (ev_loadN rfl LnA) ?_
      refine RS_e (RE_eff_yes rfl rfl rfl ⟨_, rfl, (by simp)⟩ rfl (eff_call rfl (Ctr.pick PkA (hDe _ (by repeat' first | exact LdN.blk rfl | apply LdN.skip)))) ?_); rintro _ _ ⟨B5, e5, rfl, hB5, rfl⟩; refine ⟨_, fun _ s => s, ExA, ?_⟩
      refine RS_e (RE_eff_yes rfl rfl rfl ⟨_, rfl, (by simp)⟩ rfl (eff_call rfl (Ctr.pick PkA (hLc B5 e5 _ (by repeat' first | exact Rc.own (flat_length _) hB5 | apply Rd.skip)))) ?_); rintro _ _ ⟨B6, e6, rfl, hB6, rfl⟩; refine ⟨_, fun _ s => s, ExA, ?_⟩
      refine RS_e (RE_cmp_yes (by kernel_rfl) rfl rfl rfl ⟨_, rfl, (by simp)⟩ rfl (eff_call rfl (Ctr.pick PkA (hRe _ (by repeat' first | exact LdN.blk rfl | apply LdN.skip) (by repeat' first | exact Rc.own (flat_length _) hx.A | apply Rd.skip) (fun o ho ↦ by repeat' first | exact hx.ats o ho | apply oat.skip)))) ?_); rintro _ _ ⟨B7, e7, rfl, hB7, rfl⟩
      refine RS_e (RE_eff_yes rfl rfl rfl ⟨_, rfl, (by simp)⟩ rfl (eff_call rfl (Same_ctr B6 B7 _ _ e6 e7 _ _ _ (by repeat' first | exact Rc.own (flat_length _) hB6 | apply Rd.skip) (by repeat' first | exact Rc.own (flat_length _) hB7 | apply Rd.skip) (by omega))) ?_); rintro _ _ ⟨rfl, rfl⟩; refine ⟨_, fun _ s => s, ExA, ?_⟩
      refine RM rfl (ev_pick_t rfl (by simp) rfl) ?_
      refine RM rfl (ev_move rfl) ?_
      refine RS_e (RE_eff_yes rfl rfl rfl ⟨_, rfl, (by simp)⟩ rfl (eff_call rfl (lives19_ctr _)) ?_); rintro _ _ ⟨rfl, X, rfl⟩; refine ⟨_, fun _ s => s, ExA, ?_⟩
      refine RM rfl (ev_pick_t rfl (by simp) rfl) ?_
      refine RM rfl (ev_assign rfl) ?_
      refine RS_nil ?_
      refine GN ?_
      exact G_ret (L' := L) rfl (.tmp rfl .nil) EnA ⟨rfl, rfl⟩
theorem logmApart_walk (A : Option Addr) (n c : Nat) (ns : List Int) (w0 w1 w2 w3 : Int) (w : World) (hc : n ≤ c) (hc2 : c ≤ maxLen) (hb : Ints ns) (h1 : Reads w 5 A n (ints ns)) :
    Calls Tryz.prog 6 #[.slice A n c, .agg #[.int .i64 w0, .int .i64 w1, .int .i64 w2, .int .i64 w3]] w fun e w' => e = .returned (.bool true) ∧ Below w.heap.size w w' := by
  obtain ⟨l, hl, hk⟩ := rd_acts h1 hb
  exact law_of_ctr (LogmApart_ctr A n c l ⟨w0, w1, w2, w3⟩ _ hl (by unfold maxLen at hc2; omega) hk)
end Go.Proofs.YtkoncepjfgnjlaaGreat
